import Derived.Test.YtkgbcmkpgjaggaaGreatDoorRunF
import Derived.Test.YtkgbcmkpgjaggaaGreatDoorBase
import Derived.Test.YtkgbcmkpgjaggaaGreatDoorData
namespace Go.Ab
open Go.RowKit Go.Proofs
namespace SC
noncomputable def c25 : Ctx := ⟨Tryz.prog, (addS 290 (orS (atNx 3080) s24 badS) KBase.S0), fun _ => false⟩
noncomputable def a25 : List AV := [(.ptr (.o (.o (.i (.o (.i (.o (.i .h))))))) 0)]
noncomputable def p25 : Stt := ⟨3080, [o0, o1, o2, o3, o6, (7, .map [] 9), o5, o134, o135, o136, o137, o138, o10, o49, o127, o14, o15, o139, o18, o19, o20, o21, o22, o23, (887, .map [] 0), o25, o140, o141, o26, o27, o28, (894, .map [] 0), (895, .map [] 0), o29, o30, o32, o40, o128, o43, o44, o56, o142, o59, o60, o61, o79, o80, o108, o93, o110, o96, o97, o100, o101, o102, o111, o112, o113, o114, o115, o116, o117, o120, o130, o131, o132, o133, o143, o144, o145, o146, o147, o148, o149, o150, o151, o152, o153, o154, o155, o156, o157]⟩
noncomputable def v25 : AV := (.tup [(.int .i64 (.ofNat 5)), (.int .i64 (.ofNat 0))])
noncomputable def q25 : Stt := ⟨6311, [o0, o1, o2, o3, o210, (7, .map [] 14), o5, o134, o135, (209, .map [] 9), (210, .map [] 4), o138, o10, o49, o176, o14, o15, o199, o18, o19, o20, o21, o22, o23, (887, .map [] 0), o25, o140, o141, o26, o27, o28, (894, .map [] 0), (895, .map [] 0), o29, o30, o32, o40, o177, o43, o160, o56, o200, o59, o191, o61, o79, o161, o211, o93, o212, o96, o166, o100, o192, o102, o111, o112, o207, o114, o213, o116, o117, o120, o130, o131, o162, o181, o182, o208, o145, o183, o147, o148, o171, o184, o151, o152, o194, o154, o202, o156, o157, o185, o188, o203, o214]⟩
noncomputable def s25 : Summ := segS a25 p25 v25 q25
set_option maxRecDepth 1000000
theorem r25 : segR c25 60 200 a25 p25 v25 q25 = true := by decide +kernel
theorem x25 : CtxOK c25 := ⟨names_of KBase.names, KBase.mixed, (addS_ok (orS_ok k24 badS_ok) KBase.S0_ok)⟩
theorem k25 : SummOK Tryz.prog 200 s25 := seg_summ x25 r25
end SC
end Go.Ab
namespace Go.Ab
open Go.RowKit Go.Proofs
namespace SC
noncomputable def c26 : Ctx := ⟨Tryz.prog, (addS 200 (orS (atNx 3080) s25 badS) KBase.S0), fun _ => false⟩
noncomputable def a26 : List AV := [(.ptr (.o (.o (.o (.i (.o (.o (.o (.o (.o (.o (.i .h))))))))))) 0)]
noncomputable def p26 : Stt := ⟨3080, [o0, o1, o2, o3, o6, (7, .map [] 9), o5, o134, o135, o136, o137, o138, o10, o49, o127, o14, o15, o139, o18, o19, o20, o21, o22, o23, (887, .map [] 0), o25, o140, o141, o26, o27, o28, (894, .map [] 0), (895, .map [] 0), o29, o30, o32, o40, o128, o43, o44, o56, o142, o59, o60, o61, o79, o80, o108, o93, o110, o96, o97, o100, o101, o102, o111, o112, o113, o114, o115, o116, o117, o120, o130, o131, o132, o133, o143, o144, o145, o146, o147, o148, o149, o150, o151, o152, o153, o154, o155, o156, o157]⟩
noncomputable def v26 : AV := (.tup [(.int .i64 (.ofNat 5)), (.int .i64 (.ofNat 0))])
noncomputable def q26 : Stt := ⟨6311, [o0, o1, o2, o3, o210, (7, .map [] 14), o5, o134, o135, (209, .map [] 9), (210, .map [] 4), o138, o10, o49, o176, o14, o15, o199, o18, o19, o20, o21, o22, o23, (887, .map [] 0), o25, o140, o141, o26, o27, o28, (894, .map [] 0), (895, .map [] 0), o29, o30, o32, o40, o177, o43, o160, o56, o200, o59, o191, o61, o79, o161, o211, o93, o212, o96, o166, o100, o192, o102, o111, o112, o207, o114, o213, o116, o117, o120, o130, o131, o162, o181, o182, o208, o145, o183, o147, o148, o171, o184, o151, o152, o194, o154, o202, o156, o157, o185, o188, o203, o214]⟩
noncomputable def s26 : Summ := segS a26 p26 v26 q26
set_option maxRecDepth 1000000
theorem r26 : segR c26 60 113 a26 p26 v26 q26 = true := by decide +kernel
theorem x26 : CtxOK c26 := ⟨names_of KBase.names, KBase.mixed, (addS_ok (orS_ok k25 badS_ok) KBase.S0_ok)⟩
theorem k26 : SummOK Tryz.prog 113 s26 := seg_summ x26 r26
end SC
end Go.Ab
namespace Go.Ab
open Go.RowKit Go.Proofs
namespace SC
noncomputable def c27 : Ctx := ⟨Tryz.prog, KBase.S0, fun _ => false⟩
noncomputable def a27 : List AV := [(.ptr (.i (.o (.o .h))) 0)]
noncomputable def p27 : Stt := ⟨6311, [o0, o1, o2, o3, o210, (7, .map [] 14), o5]⟩
noncomputable def v27 : AV := (.tup [(.ptr (.i (.o (.o (.i (.o (.o (.i (.i (.o (.o (.o (.i .h)))))))))))) 0), (.int .i64 (.ofNat 0))])
noncomputable def q27 : Stt := ⟨6994, [o0, o1, o2, o3, o210, (7, .map [] 14), o5, o215, o216, o217, o218, o219, o220, o221, o222, o223, o224, o225]⟩
noncomputable def s27 : Summ := segS a27 p27 v27 q27
set_option maxRecDepth 1000000
theorem r27 : segR c27 60 6 a27 p27 v27 q27 = true := by decide +kernel
theorem x27 : CtxOK c27 := ⟨names_of KBase.names, KBase.mixed, KBase.S0_ok⟩
theorem k27 : SummOK Tryz.prog 6 s27 := seg_summ x27 r27
end SC
end Go.Ab
