import Derived.Test.YtkgbcmkpgjaggaaGreatDoorRunE
import Derived.Test.YtkgbcmkpgjaggaaGreatDoorBase
import Derived.Test.YtkgbcmkpgjaggaaGreatDoorData
namespace Go.Ab
open Go.RowKit Go.Proofs
namespace FN
noncomputable def c15 : Ctx := ⟨Tryz.prog, (addS 330 (orS (atNx 4877) s14 badS) KBase.S0), fun _ => false⟩
noncomputable def a15 : List AV := [(.ptr (.i (.o (.o (.o (.o (.i (.i (.i (.i (.i .h)))))))))) 0), (.int .i64 (.ofNat 2)), (.int .i64 (.ofNat 0)), (.sl (.o (.o (.o (.o (.i (.i (.i (.i (.i (.o (.o (.o .h)))))))))))) 0 256 256 1 true)]
noncomputable def p15 : Stt := ⟨4592, [o2, (1, .map [] 18), o1, o99, o100, o146, o102, o147, o6, o148, o139, o10, o11, o12, o13, o149, o16, o17, o18, o19, o20, o21, o22, o23, o24, o25, o26, o27, o28, o29, o30, o31, o32, o33, o34, o35, o36, o37, (2012, .map [] 0), o39, o150, o151, o40, o41, o42, (2019, .map [] 0), o134, o43, o44, o46, o47, o48, o49, o57, o140, o60, o61, o73, o152, o76, o77, o78, o80, o95, o96, o97, o125, o153, o110, o127, o113, o114, o116, o117, o118, o119, o128, o129, o130, o131, o132, o133, o135, o142, o143, o144, o145, o154, o155, o156, o157, o158, o159, o160, o161, o162, o163, o164, o165, o166, o167]⟩
noncomputable def v15 : AV := (.int .i64 (.ofNat 0))
noncomputable def q15 : Stt := ⟨5223, [o2, (1, .map [] 18), o1, o180, o181, o182, o183, o184, o6, o148, o174, o10, o11, o12, o13, o185, o16, o17, o18, o19, o20, o21, o22, o23, o24, o25, o26, o27, o28, o29, o30, o31, o32, o33, o34, o35, o36, o37, (2012, .map [] 0), o39, o186, o187, o40, o41, o42, (2019, .map [] 0), o134, o43, o44, o46, o47, o48, o49, o57, o175, o60, o61, o73, o188, o76, o77, o78, o95, o96, o97, o125, o110, o127, o113, o114, o116, o117, o118, o119, o128, o129, o130, o131, o132, o133, o135, o142, o143, o144, o154, o155, o156, o157, o158, o159, o161, o162, o163, o164, o165, o166, o167, o176, o177, o178, o179, o189, o190, o191, o192, o193, o194, o195, o196, o197, o198, o199, o200, o201, o202]⟩
noncomputable def s15 : Summ := segS a15 p15 v15 q15
set_option maxRecDepth 1000000
theorem r15 : segR c15 60 79 a15 p15 v15 q15 = true := by decide +kernel
theorem x15 : CtxOK c15 := ⟨names_of KBase.names, KBase.mixed, (addS_ok (orS_ok k14 badS_ok) KBase.S0_ok)⟩
theorem k15 : SummOK Tryz.prog 79 s15 := seg_summ x15 r15
end FN
end Go.Ab
namespace Go.Ab
open Go.RowKit Go.Proofs
namespace FN
noncomputable def c16 : Ctx := ⟨Tryz.prog, (addS 79 (orS (atNx 4592) s15 badS) KBase.S0), fun _ => false⟩
noncomputable def a16 : List AV := [(.ptr (.o (.i (.o (.o (.o (.i (.i (.i (.i (.i .h)))))))))) 0), (.int .i64 (.ofNat 2)), (.str [102]), (.int .i64 (.ofNat 3)), (.sl (.o (.i (.i (.o (.i (.o (.o (.i (.i (.o (.o (.o .h)))))))))))) 0 1 1 1 false)]
noncomputable def p16 : Stt := ⟨4502, [o2, (1, .map [] 18), o1, o99, o100, o146, o102, o147, o6, o148, o139, o10, o11, o12, o13, o149, o16, o17, o18, o19, o20, o21, o22, o23, o24, o25, o26, o27, o28, o29, o30, o31, o32, o33, o34, o35, o36, o37, (2012, .map [] 0), o39, o150, o151, o40, o41, o42, (2019, .map [] 0), o134, o43, o44, o46, o47, o48, o49, o57, o140, o60, o61, o73, o152, o76, o77, o78, o80, o95, o96, o97, o125, o153, o110, o127, o113, o114, o116, o117, o118, o119, o128, o129, o130, o131, o132, o133, o135, o142, o143, o144, o145, o154, o155, o156, o157, o158, o159, o160, o161, o162]⟩
noncomputable def v16 : AV := (.tup [(.int .i64 (.ofNat 12)), (.int .i64 (.ofNat 0))])
noncomputable def q16 : Stt := ⟨5306, [o2, (1, .map [] 18), o1, o180, o181, o203, o183, o204, o6, o148, o174, o10, o11, o12, o13, o185, o16, o17, o18, o19, o20, o21, o22, o23, o24, o25, o26, o27, o28, o29, o30, o31, o32, o33, o34, o35, o36, o37, (2012, .map [] 0), o39, o186, o205, o40, o41, o42, (2019, .map [] 0), o134, o43, o44, o46, o47, o48, o49, o57, o175, o60, o61, o73, o188, o76, o77, o78, o95, o96, o97, o125, o110, o127, o113, o114, o116, o117, o118, o119, o128, o129, o130, o131, o132, o133, o135, o142, o143, o144, o154, o155, o156, o157, o158, o159, o161, o162, o176, o177, o178, o179, o206, o207, o191, o208, o194, o195, o197, o198, o199, o200, o201, o209, o210, o211, o212, o213, o214]⟩
noncomputable def s16 : Summ := segS a16 p16 v16 q16
set_option maxRecDepth 1000000
theorem r16 : segR c16 60 141 a16 p16 v16 q16 = true := by decide +kernel
theorem x16 : CtxOK c16 := ⟨names_of KBase.names, KBase.mixed, (addS_ok (orS_ok k15 badS_ok) KBase.S0_ok)⟩
theorem k16 : SummOK Tryz.prog 141 s16 := seg_summ x16 r16
end FN
end Go.Ab
namespace Go.Ab
open Go.RowKit Go.Proofs
namespace FN
noncomputable def c17 : Ctx := ⟨Tryz.prog, (addS 226 (orS (atNx 4167) s12 badS) (addS 141 (orS (atNx 4502) s16 badS) (addS 139 (orS (atNx 3919) s11 badS) (addS 79 (orS (atNx 4468) s13 badS) KBase.S0)))), fun _ => false⟩
noncomputable def a17 : List AV := [(.ptr (.i (.i (.i (.o (.o (.i (.i (.i (.i (.i .h)))))))))) 0), (.str [47, 97, 47, 102])]
noncomputable def p17 : Stt := ⟨3586, [o2, (1, .map [] 18), o1, o99, o100, o122, o102, o123, o6, o66, o93, o10, o11, o12, o13, o104, o16, o17, o18, o19, o20, o21, o22, o23, o24, o25, o26, o27, o28, o29, o30, o31, o32, o33, o34, o35, o36, o37, (2012, .map [] 0), o39, o105, o124, o40, o41, o42, (2019, .map [] 0), o134, o43, o44, o46, o47, o48, o49, o57, o94, o60, o61, o73, o107, o76, o77, o78, o80, o95, o96, o97, o98, o125, o126, o110, o127, o113, o114, o116, o117, o118, o119, o120, o128, o129, o130, o131, o132, o133]⟩
noncomputable def v17 : AV := (.int .i64 (.ofNat 0))
noncomputable def q17 : Stt := ⟨5306, [o2, (1, .map [] 18), o1, o180, o181, o203, o183, o204, o6, o148, o174, o10, o11, o12, o13, o185, o16, o17, o18, o19, o20, o21, o22, o23, o24, o25, o26, o27, o28, o29, o30, o31, o32, o33, o34, o35, o36, o37, (2012, .map [] 0), o39, o186, o205, o40, o41, o42, (2019, .map [] 0), o134, o43, o44, o46, o47, o48, o49, o57, o175, o60, o61, o73, o188, o76, o77, o78, o95, o96, o97, o125, o110, o127, o113, o114, o116, o117, o118, o119, o128, o129, o130, o131, o132, o133, o143, o144, o157, o158, o159, o161, o176, o177, o178, o179, o206, o207, o191, o208, o194, o195, o197, o198, o199, o200, o201, o209, o210, o211, o212, o213, o214]⟩
noncomputable def s17 : Summ := segS a17 p17 v17 q17
set_option maxRecDepth 1000000
theorem r17 : segR c17 60 24 a17 p17 v17 q17 = true := by decide +kernel
theorem x17 : CtxOK c17 := ⟨names_of KBase.names, KBase.mixed, (addS_ok (orS_ok k12 badS_ok) (addS_ok (orS_ok k16 badS_ok) (addS_ok (orS_ok k11 badS_ok) (addS_ok (orS_ok k13 badS_ok) KBase.S0_ok))))⟩
theorem k17 : SummOK Tryz.prog 24 s17 := seg_summ x17 r17
end FN
end Go.Ab
namespace Go.Ab
open Go.RowKit Go.Proofs
namespace FN
noncomputable def c18 : Ctx := ⟨Tryz.prog, KBase.S0, fun _ => false⟩
noncomputable def a18 : List AV := [(.ptr (.i (.i (.i (.o (.o (.i (.i (.i (.i (.i .h)))))))))) 0), (.str [47, 97, 47, 102])]
noncomputable def p18 : Stt := ⟨5306, [o2, (1, .map [] 18), o1, o180, o181, o203, o183, o204, o6, o148, o174, o10, o11, o12, o13, o185, o16, o17, o18, o19, o20, o21, o22, o23, o24, o25, o26, o27, o28, o29, o30, o31, o32, o33, o34, o35, o36, o37, (2012, .map [] 0), o39, o186, o205, o40, o41, o42, (2019, .map [] 0), o134, o43, o44, o46, o47, o48, o49, o57, o175, o60, o61, o73, o188, o76, o77, o78, o96, o97, o125, o110, o127, o113, o114, o117, o118, o119, o128, o129, o130, o131, o132, o133, o143, o144, o157, o158, o159, o161, o176, o177, o178, o179, o206, o207, o191, o208, o194, o195, o197, o198, o199, o200, o201, o209, o210, o211, o212, o213, o214]⟩
noncomputable def v18 : AV := (.tup [(.int .i64 (.ofNat 0)), (.int .i64 (.ofNat 0))])
noncomputable def q18 : Stt := ⟨5693, [o2, (1, .map [] 18), o1, o180, o181, o203, o183, o204, o6, o148, o174, o10, o11, o12, o13, o185, o16, o17, o18, o19, o20, o21, o22, o23, o24, o25, o26, o27, o28, o29, o30, o31, o32, o33, o34, o35, o36, o37, (2012, .map [] 0), o39, o186, o205, o40, o41, o42, (2019, .map [] 0), o134, o215, o44, o46, o47, o48, o49, o57, o175, o60, o61, o73, o188, o76, o77, o78, o96, o97, o125, o110, o127, o113, o114, o117, o118, o119, o128, o129, o130, o131, o132, o133, o143, o144, o157, o158, o159, o161, o176, o177, o178, o179, o206, o216, o191, o208, o194, o195, o197, o198, o199, o200, o201, o209, o210, o211, o212, o213, o214]⟩
noncomputable def s18 : Summ := segS a18 p18 v18 q18
set_option maxRecDepth 1000000
theorem r18 : segR c18 60 16 a18 p18 v18 q18 = true := by decide +kernel
theorem x18 : CtxOK c18 := ⟨names_of KBase.names, KBase.mixed, KBase.S0_ok⟩
theorem k18 : SummOK Tryz.prog 16 s18 := seg_summ x18 r18
end FN
end Go.Ab
