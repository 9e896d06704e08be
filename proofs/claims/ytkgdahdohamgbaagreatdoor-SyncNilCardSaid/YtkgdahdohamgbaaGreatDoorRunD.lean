import Derived.Test.YtkgdahdohamgbaaGreatDoorBase
import Derived.Test.YtkgdahdohamgbaaGreatDoorData
namespace Go.Ab
open Go.RowKit Go.Proofs
namespace SY
noncomputable def c13 : Ctx := ⟨Tryz.prog, KBase.S0, fun _ => false⟩
noncomputable def a13 : List AV := [(.ptr (.i (.i (.i (.o (.o (.i (.i (.i (.i (.i .h)))))))))) 0), (.str [47, 102])]
noncomputable def p13 : Stt := ⟨3587, [o2, (1, .map [] 18), o1, o100, o101, o123, o103, o124, o6, o67, o94, o10, o11, o12, o13, o105, o16, o17, o18, o19, o20, o21, o22, o23, o24, o25, o26, o27, o28, o29, o30, o31, o32, o33, o34, o35, o36, o37, (2012, .map [] 0), o39, o106, o125, o40, o41, o42, (2019, .map [] 0), (2020, .map [] 0), o43, o44, o46, o47, o48, o49, o50, o58, o95, o61, o62, o74, o108, o77, o78, o79, o81, o96, o97, o98, o99, o126, o127, o111, o128, o114, o115, o117, o118, o119, o120, o121, o129, o130, o131, o132, o133, o134]⟩
noncomputable def v13 : AV := (.tup [(.int .i64 (.ofNat 0)), (.int .i64 (.ofNat 0))])
noncomputable def q13 : Stt := ⟨3798, [o2, (1, .map [] 18), o1, o100, o101, o123, o103, o124, o6, o67, o94, o10, o11, o12, o13, o105, o16, o17, o18, o19, o20, o21, o22, o23, o24, o25, o26, o27, o28, o29, o30, o31, o32, o33, o34, o35, o36, o37, (2012, .map [] 0), o39, o106, o125, o40, o41, o42, (2019, .map [] 0), (2020, .map [] 0), o135, o44, o46, o47, o48, o49, o50, o58, o95, o61, o62, o74, o108, o77, o78, o79, o81, o96, o97, o98, o99, o126, o110, o111, o128, o114, o115, o117, o118, o119, o120, o121, o129, o130, o131, o132, o133, o134]⟩
noncomputable def s13 : Summ := segS a13 p13 v13 q13
set_option maxRecDepth 1000000
theorem r13 : segR c13 60 33 a13 p13 v13 q13 = true := by decide +kernel
theorem x13 : CtxOK c13 := ⟨names_of KBase.names, KBase.mixed, KBase.S0_ok⟩
theorem k13 : SummOK Tryz.prog 33 s13 := seg_summ x13 r13
end SY
end Go.Ab
namespace Go.Ab
open Go.RowKit Go.Proofs
namespace SY
noncomputable def c14 : Ctx := ⟨Tryz.prog, KBase.S0, fun _ => false⟩
noncomputable def a14 : List AV := [(.ptr (.o (.i (.i (.i (.i (.o (.i (.i (.i (.i .h)))))))))) 0), (.int .i64 (.ofNat 0))]
noncomputable def p14 : Stt := ⟨4084, [o2, (1, .map [] 18), o1, o100, o101, o123, o103, o124, o6, o67, o94, o10, o11, o12, o13, o105, o16, o17, o18, o19, o20, o21, o22, o23, o24, o25, o26, o27, o28, o29, o30, o31, o32, o33, o34, o35, o36, o37, (2012, .map [] 0), o39, o106, o125, o40, o41, o42, (2019, .map [] 0), (2020, .map [] 0), o135, o44, o46, o47, o48, o49, o50, o58, o95, o61, o62, o74, o108, o77, o78, o79, o81, o96, o97, o98, o99, o126, o136, o111, o128, o114, o115, o117, o118, o119, o120, o121, o129, o130, o131, o132, o133, o134, o137, o138, o139, o140, o141]⟩
noncomputable def v14 : AV := (.tup [(.int .i64 (.ofNat 8)), (.int .i64 (.ofNat 7)), (.int .i64 (.ofNat 0))])
noncomputable def q14 : Stt := ⟨4344, [o2, (1, .map [] 18), o1, o100, o101, o142, o103, o143, o6, o67, o144, o10, o11, o12, o13, o105, o16, o17, o18, o19, o20, o21, o22, o23, o24, o25, o26, o27, o28, o29, o30, o31, o32, o33, o34, o35, o36, o37, (2012, .map [] 0), o39, o106, o125, o40, o41, o42, (2019, .map [] 0), (2020, .map [] 0), o135, o44, o46, o47, o48, o49, o50, o58, o145, o61, o62, o74, o108, o77, o78, o79, o81, o96, o97, o98, o126, o146, o111, o128, o114, o115, o117, o118, o119, o120, o121, o129, o130, o131, o132, o133, o134, o137, o138, o139, o140, o141, o147, o148, o149, o150]⟩
noncomputable def s14 : Summ := segS a14 p14 v14 q14
set_option maxRecDepth 1000000
theorem r14 : segR c14 60 239 a14 p14 v14 q14 = true := by decide +kernel
theorem x14 : CtxOK c14 := ⟨names_of KBase.names, KBase.mixed, KBase.S0_ok⟩
theorem k14 : SummOK Tryz.prog 239 s14 := seg_summ x14 r14
end SY
end Go.Ab
namespace Go.Ab
open Go.RowKit Go.Proofs
namespace SY
noncomputable def c15 : Ctx := ⟨Tryz.prog, (addS 239 (orS (atNx 4084) s14 badS) KBase.S0), fun _ => false⟩
noncomputable def a15 : List AV := [(.ptr (.i (.o (.o (.o (.o (.i (.i (.i (.i (.i .h)))))))))) 0), (.int .i64 (.ofNat 2)), (.int .i64 (.ofNat 0)), (.sl (.i (.i (.i (.o (.i (.o (.i (.i (.o (.i (.i .h))))))))))) 0 5 5 1 true)]
noncomputable def p15 : Stt := ⟨3799, [o2, (1, .map [] 18), o1, o100, o101, o123, o103, o124, o6, o67, o94, o10, o11, o12, o13, o105, o16, o17, o18, o19, o20, o21, o22, o23, o24, o25, o26, o27, o28, o29, o30, o31, o32, o33, o34, o35, o36, o37, (2012, .map [] 0), o39, o106, o125, o40, o41, o42, (2019, .map [] 0), (2020, .map [] 0), o135, o44, o46, o47, o48, o49, o50, o58, o95, o61, o62, o74, o108, o77, o78, o79, o81, o96, o97, o98, o99, o126, o110, o111, o128, o114, o115, o117, o118, o119, o120, o121, o129, o130, o131, o132, o133, o134, o137]⟩
noncomputable def v15 : AV := (.int .i64 (.ofNat 0))
noncomputable def q15 : Stt := ⟨4430, [o2, (1, .map [] 18), o1, o151, o152, o153, o154, o155, o6, o67, o144, o10, o11, o12, o13, o156, o16, o17, o18, o19, o20, o21, o22, o23, o24, o25, o26, o27, o28, o29, o30, o31, o32, o33, o34, o35, o36, o37, (2012, .map [] 0), o39, o157, o158, o40, o41, o42, (2019, .map [] 0), (2020, .map [] 0), o135, o44, o46, o47, o48, o49, o50, o58, o145, o61, o62, o74, o159, o77, o78, o79, o96, o97, o98, o126, o111, o128, o114, o115, o117, o118, o119, o120, o129, o130, o131, o132, o133, o134, o137, o147, o148, o149, o150, o160, o161, o162, o163, o164, o165, o166, o167, o168, o169, o170, o171, o172, o173]⟩
noncomputable def s15 : Summ := segS a15 p15 v15 q15
set_option maxRecDepth 1000000
theorem r15 : segR c15 60 62 a15 p15 v15 q15 = true := by decide +kernel
theorem x15 : CtxOK c15 := ⟨names_of KBase.names, KBase.mixed, (addS_ok (orS_ok k14 badS_ok) KBase.S0_ok)⟩
theorem k15 : SummOK Tryz.prog 62 s15 := seg_summ x15 r15
end SY
end Go.Ab
namespace Go.Ab
open Go.RowKit Go.Proofs
namespace SY
noncomputable def c16 : Ctx := ⟨Tryz.prog, (addS 62 (orS (atNx 3799) s15 badS) KBase.S0), fun _ => false⟩
noncomputable def a16 : List AV := [(.ptr (.i (.i (.i (.o (.o (.i (.i (.i (.i (.i .h)))))))))) 0), (.int .i64 (.ofNat 0)), (.int .i64 (.ofNat 0)), (.sl (.i (.i (.i (.o (.i (.o (.i (.i (.o (.i (.i .h))))))))))) 0 5 5 1 true)]
noncomputable def p16 : Stt := ⟨3799, [o2, (1, .map [] 18), o1, o100, o101, o123, o103, o124, o6, o67, o94, o10, o11, o12, o13, o105, o16, o17, o18, o19, o20, o21, o22, o23, o24, o25, o26, o27, o28, o29, o30, o31, o32, o33, o34, o35, o36, o37, (2012, .map [] 0), o39, o106, o125, o40, o41, o42, (2019, .map [] 0), (2020, .map [] 0), o135, o44, o46, o47, o48, o49, o50, o58, o95, o61, o62, o74, o108, o77, o78, o79, o81, o96, o97, o98, o99, o126, o110, o111, o128, o114, o115, o117, o118, o119, o120, o121, o129, o130, o131, o132, o133, o134, o137]⟩
noncomputable def v16 : AV := (.int .i64 (.ofNat 0))
noncomputable def q16 : Stt := ⟨4430, [o2, (1, .map [] 18), o1, o151, o152, o153, o154, o155, o6, o67, o144, o10, o11, o12, o13, o156, o16, o17, o18, o19, o20, o21, o22, o23, o24, o25, o26, o27, o28, o29, o30, o31, o32, o33, o34, o35, o36, o37, (2012, .map [] 0), o39, o157, o158, o40, o41, o42, (2019, .map [] 0), (2020, .map [] 0), o135, o44, o46, o47, o48, o49, o50, o58, o145, o61, o62, o74, o159, o77, o78, o79, o96, o97, o98, o126, o111, o128, o114, o115, o117, o118, o119, o120, o129, o130, o131, o132, o133, o134, o137, o147, o148, o149, o150, o160, o161, o162, o163, o164, o165, o166, o167, o168, o169, o170, o171, o172, o173]⟩
noncomputable def s16 : Summ := segS a16 p16 v16 q16
set_option maxRecDepth 1000000
theorem r16 : segR c16 60 34 a16 p16 v16 q16 = true := by decide +kernel
theorem x16 : CtxOK c16 := ⟨names_of KBase.names, KBase.mixed, (addS_ok (orS_ok k15 badS_ok) KBase.S0_ok)⟩
theorem k16 : SummOK Tryz.prog 34 s16 := seg_summ x16 r16
end SY
end Go.Ab
