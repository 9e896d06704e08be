import Derived.Test.YtkgbcmkpgjaggaaGreatDoorBase
import Derived.Test.YtkgbcmkpgjaggaaGreatDoorData
namespace Go.Ab
open Go.RowKit Go.Proofs
namespace FN
noncomputable def c11 : Ctx := ⟨Tryz.prog, KBase.S0, fun _ => false⟩
noncomputable def a11 : List AV := [(.ptr (.o (.i (.i (.o (.o (.i (.i (.i (.i (.i .h)))))))))) 0), (.int .i64 (.ofNat 4)), (.int .i64 (.ofNat 1))]
noncomputable def p11 : Stt := ⟨3919, [o2, (1, .map [] 18), o1, o99, o100, o122, o102, o123, o6, o66, o93, o10, o11, o12, o13, o104, o16, o17, o18, o19, o20, o21, o22, o23, o24, o25, o26, o27, o28, o29, o30, o31, o32, o33, o34, o35, o36, o37, (2012, .map [] 0), o39, o105, o124, o40, o41, o42, (2019, .map [] 0), o134, o43, o44, o46, o47, o48, o49, o57, o94, o60, o61, o73, o107, o76, o77, o78, o80, o95, o96, o97, o98, o125, o109, o110, o127, o113, o114, o116, o117, o118, o119, o120, o128, o129, o130, o131, o132, o133, o135]⟩
noncomputable def v11 : AV := (.int .i64 (.ofNat 0))
noncomputable def q11 : Stt := ⟨4167, [o2, (1, .map [] 18), o1, o99, o100, o122, o102, o123, o6, o66, o93, o10, o11, o12, o13, o104, o16, o17, o18, o19, o20, o21, o22, o23, o24, o25, o26, o27, o28, o29, o30, o31, o32, o33, o34, o35, o36, o37, (2012, .map [] 0), o39, o105, o124, o40, o41, o42, (2019, .map [] 0), o134, o43, o44, o46, o47, o48, o49, o57, o94, o60, o61, o73, o107, o76, o77, o78, o80, o95, o96, o97, o98, o125, o136, o110, o127, o113, o114, o116, o117, o118, o119, o120, o128, o129, o130, o131, o132, o133, o135]⟩
noncomputable def s11 : Summ := segS a11 p11 v11 q11
set_option maxRecDepth 1000000
theorem r11 : segR c11 60 139 a11 p11 v11 q11 = true := by decide +kernel
theorem x11 : CtxOK c11 := ⟨names_of KBase.names, KBase.mixed, KBase.S0_ok⟩
theorem k11 : SummOK Tryz.prog 139 s11 := seg_summ x11 r11
end FN
end Go.Ab
namespace Go.Ab
open Go.RowKit Go.Proofs
namespace FN
noncomputable def c12 : Ctx := ⟨Tryz.prog, KBase.S0, fun _ => false⟩
noncomputable def a12 : List AV := [(.ptr (.o (.i (.i (.i (.i (.o (.i (.i (.i (.i .h)))))))))) 0), (.int .i64 (.ofNat 2))]
noncomputable def p12 : Stt := ⟨4167, [o2, (1, .map [] 18), o1, o99, o100, o122, o102, o123, o6, o66, o93, o10, o11, o12, o13, o104, o16, o17, o18, o19, o20, o21, o22, o23, o24, o25, o26, o27, o28, o29, o30, o31, o32, o33, o34, o35, o36, o37, (2012, .map [] 0), o39, o105, o124, o40, o41, o42, (2019, .map [] 0), o134, o43, o44, o46, o47, o48, o49, o57, o94, o60, o61, o73, o107, o76, o77, o78, o80, o95, o96, o97, o98, o125, o136, o110, o127, o113, o114, o116, o117, o118, o119, o120, o128, o129, o130, o131, o132, o133, o135]⟩
noncomputable def v12 : AV := (.tup [(.int .i64 (.ofNat 3)), (.int .i64 (.ofNat 7)), (.int .i64 (.ofNat 0))])
noncomputable def q12 : Stt := ⟨4418, [o2, (1, .map [] 18), o1, o99, o100, o137, o102, o138, o6, o66, o139, o10, o11, o12, o13, o104, o16, o17, o18, o19, o20, o21, o22, o23, o24, o25, o26, o27, o28, o29, o30, o31, o32, o33, o34, o35, o36, o37, (2012, .map [] 0), o39, o105, o124, o40, o41, o42, (2019, .map [] 0), o134, o43, o44, o46, o47, o48, o49, o57, o140, o60, o61, o73, o107, o76, o77, o78, o80, o95, o96, o97, o125, o141, o110, o127, o113, o114, o116, o117, o118, o119, o120, o128, o129, o130, o131, o132, o133, o135, o142, o143, o144, o145]⟩
noncomputable def s12 : Summ := segS a12 p12 v12 q12
set_option maxRecDepth 1000000
theorem r12 : segR c12 60 226 a12 p12 v12 q12 = true := by decide +kernel
theorem x12 : CtxOK c12 := ⟨names_of KBase.names, KBase.mixed, KBase.S0_ok⟩
theorem k12 : SummOK Tryz.prog 226 s12 := seg_summ x12 r12
end FN
end Go.Ab
namespace Go.Ab
open Go.RowKit Go.Proofs
namespace FN
noncomputable def c13 : Ctx := ⟨Tryz.prog, KBase.S0, fun _ => false⟩
noncomputable def a13 : List AV := [(.ptr (.i (.o (.o (.o (.o (.i (.i (.i (.i (.i .h)))))))))) 0), (.int .i64 (.ofNat 3)), (.int .i64 (.ofNat 0)), .nils]
noncomputable def p13 : Stt := ⟨4468, [o2, (1, .map [] 18), o1, o99, o100, o146, o102, o147, o6, o148, o139, o10, o11, o12, o13, o149, o16, o17, o18, o19, o20, o21, o22, o23, o24, o25, o26, o27, o28, o29, o30, o31, o32, o33, o34, o35, o36, o37, (2012, .map [] 0), o39, o150, o151, o40, o41, o42, (2019, .map [] 0), o134, o43, o44, o46, o47, o48, o49, o57, o140, o60, o61, o73, o152, o76, o77, o78, o80, o95, o96, o97, o125, o153, o110, o127, o113, o114, o116, o117, o118, o119, o128, o129, o130, o131, o132, o133, o135, o142, o143, o144, o145, o154, o155, o156, o157, o158, o159, o160, o161]⟩
noncomputable def v13 : AV := (.int .i64 (.ofNat 0))
noncomputable def q13 : Stt := ⟨4500, [o2, (1, .map [] 18), o1, o99, o100, o146, o102, o147, o6, o148, o139, o10, o11, o12, o13, o149, o16, o17, o18, o19, o20, o21, o22, o23, o24, o25, o26, o27, o28, o29, o30, o31, o32, o33, o34, o35, o36, o37, (2012, .map [] 0), o39, o150, o151, o40, o41, o42, (2019, .map [] 0), o134, o43, o44, o46, o47, o48, o49, o57, o140, o60, o61, o73, o152, o76, o77, o78, o80, o95, o96, o97, o125, o153, o110, o127, o113, o114, o116, o117, o118, o119, o128, o129, o130, o131, o132, o133, o135, o142, o143, o144, o145, o154, o155, o156, o157, o158, o159, o160, o161]⟩
noncomputable def s13 : Summ := segS a13 p13 v13 q13
set_option maxRecDepth 1000000
theorem r13 : segR c13 60 79 a13 p13 v13 q13 = true := by decide +kernel
theorem x13 : CtxOK c13 := ⟨names_of KBase.names, KBase.mixed, KBase.S0_ok⟩
theorem k13 : SummOK Tryz.prog 79 s13 := seg_summ x13 r13
end FN
end Go.Ab
namespace Go.Ab
open Go.RowKit Go.Proofs
namespace FN
noncomputable def c14 : Ctx := ⟨Tryz.prog, KBase.S0, fun _ => false⟩
noncomputable def a14 : List AV := [(.ptr (.o (.i (.i (.i (.i (.o (.i (.i (.i (.i .h)))))))))) 0), (.int .i64 (.ofNat 0))]
noncomputable def p14 : Stt := ⟨4877, [o2, (1, .map [] 18), o1, o99, o100, o146, o102, o147, o6, o148, o139, o10, o11, o12, o13, o149, o16, o17, o18, o19, o20, o21, o22, o23, o24, o25, o26, o27, o28, o29, o30, o31, o32, o33, o34, o35, o36, o37, (2012, .map [] 0), o39, o150, o151, o40, o41, o42, (2019, .map [] 0), o134, o43, o44, o46, o47, o48, o49, o57, o140, o60, o61, o73, o152, o76, o77, o78, o80, o95, o96, o97, o125, o136, o110, o127, o113, o114, o116, o117, o118, o119, o128, o129, o130, o131, o132, o133, o135, o142, o143, o144, o145, o154, o155, o156, o157, o158, o159, o160, o161, o162, o163, o164, o165, o166, o167, o168, o169, o170, o171]⟩
noncomputable def v14 : AV := (.tup [(.int .i64 (.ofNat 8)), (.int .i64 (.ofNat 9)), (.int .i64 (.ofNat 0))])
noncomputable def q14 : Stt := ⟨5137, [o2, (1, .map [] 18), o1, o99, o100, o172, o102, o173, o6, o148, o174, o10, o11, o12, o13, o149, o16, o17, o18, o19, o20, o21, o22, o23, o24, o25, o26, o27, o28, o29, o30, o31, o32, o33, o34, o35, o36, o37, (2012, .map [] 0), o39, o150, o151, o40, o41, o42, (2019, .map [] 0), o134, o43, o44, o46, o47, o48, o49, o57, o175, o60, o61, o73, o152, o76, o77, o78, o80, o95, o96, o97, o125, o141, o110, o127, o113, o114, o116, o117, o118, o119, o128, o129, o130, o131, o132, o133, o135, o142, o143, o144, o154, o155, o156, o157, o158, o159, o160, o161, o162, o163, o164, o165, o166, o167, o168, o169, o170, o171, o176, o177, o178, o179]⟩
noncomputable def s14 : Summ := segS a14 p14 v14 q14
set_option maxRecDepth 1000000
theorem r14 : segR c14 60 330 a14 p14 v14 q14 = true := by decide +kernel
theorem x14 : CtxOK c14 := ⟨names_of KBase.names, KBase.mixed, KBase.S0_ok⟩
theorem k14 : SummOK Tryz.prog 330 s14 := seg_summ x14 r14
end FN
end Go.Ab
