import Derived.Test.YtkgbcmkpgjaggaaGreatDoorBase
import Derived.Test.YtkgbcmkpgjaggaaGreatDoorRunD
import Derived.Test.YtkgbcmkpgjaggaaGreatDoorRunE
import Derived.Test.YtkgbcmkpgjaggaaGreatDoorData
namespace Go.Ab
open Go.RowKit Go.Proofs
namespace SC
noncomputable def c21 : Ctx := ⟨Tryz.prog, KBase.S0, fun _ => false⟩
noncomputable def a21 : List AV := [(.ptr (.o (.o (.i (.o (.i (.o (.i .h))))))) 0)]
noncomputable def p21 : Stt := ⟨4743, [o0, o1, o2, o3, o173, o190, o5, o134, o135, o174, o175, o138, o10, o49, o176, o14, o15, o139, o18, o19, o20, o21, o22, o23, (887, .map [] 0), o25, o140, o141, o26, o27, o28, (894, .map [] 0), (895, .map [] 0), o29, o30, o32, o40, o177, o43, o160, o56, o178, o59, o191, o61, o79, o161, o108, o93, o179, o96, o166, o100, o192, o102, o111, o112, o113, o114, o180, o116, o117, o120, o130, o131, o162, o181, o182, o193, o145, o183, o147, o148, o171, o184, o151, o152, o194, o154, o155, o156, o157, o185, o186, o187, o188, o189, o195]⟩
noncomputable def v21 : AV := (.int .i64 (.ofNat 0))
noncomputable def q21 : Stt := ⟨6281, [o0, o1, o2, o3, o196, (7, .map [] 13), o5, o134, o135, o197, o198, o138, o10, o49, o176, o14, o15, o199, o18, o19, o20, o21, o22, o23, (887, .map [] 0), o25, o140, o141, o26, o27, o28, (894, .map [] 0), (895, .map [] 0), o29, o30, o32, o40, o177, o43, o160, o56, o200, o59, o191, o61, o79, o161, o108, o93, o201, o96, o166, o100, o192, o102, o111, o112, o113, o114, o180, o116, o117, o120, o130, o131, o162, o181, o182, o193, o145, o183, o147, o148, o171, o184, o151, o152, o194, o154, o202, o156, o157, o185, o186, o187, o188, o189, o195, o203, o204]⟩
noncomputable def s21 : Summ := segS a21 p21 v21 q21
set_option maxRecDepth 1000000
theorem r21 : segR c21 60 360 a21 p21 v21 q21 = true := by decide +kernel
theorem x21 : CtxOK c21 := ⟨names_of KBase.names, KBase.mixed, KBase.S0_ok⟩
theorem k21 : SummOK Tryz.prog 360 s21 := seg_summ x21 r21
end SC
end Go.Ab
namespace Go.Ab
open Go.RowKit Go.Proofs
namespace SC
noncomputable def c22 : Ctx := ⟨Tryz.prog, KBase.S0, fun _ => false⟩
noncomputable def a22 : List AV := [(.ptr (.o (.o (.i (.o (.i (.o (.i .h))))))) 0), (.int .i64 (.ofNat 5))]
noncomputable def p22 : Stt := ⟨6286, [o0, o1, o2, o3, o196, (7, .map [] 13), o5, o134, o135, o197, o198, o138, o10, o49, o176, o14, o15, o199, o18, o19, o20, o21, o22, o23, (887, .map [] 0), o25, o140, o141, o26, o27, o28, (894, .map [] 0), (895, .map [] 0), o29, o30, o32, o40, o177, o43, o160, o56, o200, o59, o191, o61, o79, o161, o108, o93, o201, o96, o166, o100, o192, o102, o111, o112, o113, o114, o180, o116, o117, o120, o130, o131, o162, o181, o182, o193, o145, o183, o147, o148, o171, o184, o151, o152, o194, o154, o202, o156, o157, o185, o188, o203, o204, o205]⟩
noncomputable def v22 : AV := (.int .i64 (.ofNat 0))
noncomputable def q22 : Stt := ⟨6306, [o0, o1, o2, o3, o196, o206, o5, o134, o135, o197, o198, o138, o10, o49, o176, o14, o15, o199, o18, o19, o20, o21, o22, o23, (887, .map [] 0), o25, o140, o141, o26, o27, o28, (894, .map [] 0), (895, .map [] 0), o29, o30, o32, o40, o177, o43, o160, o56, o200, o59, o191, o61, o79, o161, o108, o93, o201, o96, o166, o100, o192, o102, o111, o112, o207, o114, o180, o116, o117, o120, o130, o131, o162, o181, o182, o208, o145, o183, o147, o148, o171, o184, o151, o152, o194, o154, o202, o156, o157, o185, o188, o203, o204, o205, o209]⟩
noncomputable def s22 : Summ := segS a22 p22 v22 q22
set_option maxRecDepth 1000000
theorem r22 : segR c22 60 359 a22 p22 v22 q22 = true := by decide +kernel
theorem x22 : CtxOK c22 := ⟨names_of KBase.names, KBase.mixed, KBase.S0_ok⟩
theorem k22 : SummOK Tryz.prog 359 s22 := seg_summ x22 r22
end SC
end Go.Ab
namespace Go.Ab
open Go.RowKit Go.Proofs
namespace SC
noncomputable def c23 : Ctx := ⟨Tryz.prog, KBase.S0, fun _ => false⟩
noncomputable def a23 : List AV := [(.ptr (.o (.o (.i (.o (.i (.o (.i .h))))))) 0)]
noncomputable def p23 : Stt := ⟨6306, [o0, o1, o2, o3, o196, o206, o5, o134, o135, o197, o198, o138, o10, o49, o176, o14, o15, o199, o18, o19, o20, o21, o22, o23, (887, .map [] 0), o25, o140, o141, o26, o27, o28, (894, .map [] 0), (895, .map [] 0), o29, o30, o32, o40, o177, o43, o160, o56, o200, o59, o191, o61, o79, o161, o108, o93, o201, o96, o166, o100, o192, o102, o111, o112, o207, o114, o180, o116, o117, o120, o130, o131, o162, o181, o182, o208, o145, o183, o147, o148, o171, o184, o151, o152, o194, o154, o202, o156, o157, o185, o188, o203, o204, o205, o209]⟩
noncomputable def v23 : AV := (.int .i64 (.ofNat 0))
noncomputable def q23 : Stt := ⟨6311, [o0, o1, o2, o3, o210, (7, .map [] 14), o5, o134, o135, (209, .map [] 9), (210, .map [] 4), o138, o10, o49, o176, o14, o15, o199, o18, o19, o20, o21, o22, o23, (887, .map [] 0), o25, o140, o141, o26, o27, o28, (894, .map [] 0), (895, .map [] 0), o29, o30, o32, o40, o177, o43, o160, o56, o200, o59, o191, o61, o79, o161, o211, o93, o212, o96, o166, o100, o192, o102, o111, o112, o207, o114, o213, o116, o117, o120, o130, o131, o162, o181, o182, o208, o145, o183, o147, o148, o171, o184, o151, o152, o194, o154, o202, o156, o157, o185, o188, o203, o204, o205, o209, o214]⟩
noncomputable def s23 : Summ := segS a23 p23 v23 q23
set_option maxRecDepth 1000000
theorem r23 : segR c23 60 360 a23 p23 v23 q23 = true := by decide +kernel
theorem x23 : CtxOK c23 := ⟨names_of KBase.names, KBase.mixed, KBase.S0_ok⟩
theorem k23 : SummOK Tryz.prog 360 s23 := seg_summ x23 r23
end SC
end Go.Ab
namespace Go.Ab
open Go.RowKit Go.Proofs
namespace SC
noncomputable def c24 : Ctx := ⟨Tryz.prog, (addS 360 (orS (atNx 3168) s19 (orS (atNx 4743) s21 (orS (atNx 6306) s23 badS))) (addS 359 (orS (atNx 3087) s16 (orS (atNx 3122) s17 (orS (atNx 3148) s18 (orS (atNx 4715) s20 (orS (atNx 6286) s22 badS))))) KBase.S0)), fun _ => false⟩
noncomputable def a24 : List AV := [(.ptr (.o (.o (.i (.o (.i (.o (.i .h))))))) 0), (.func 291 [(.ptr (.o (.o (.i (.o (.i (.o (.i .h))))))) 0)] [])]
noncomputable def p24 : Stt := ⟨3080, [o0, o1, o2, o3, o6, (7, .map [] 9), o5, o134, o135, o136, o137, o138, o10, o49, o127, o14, o15, o139, o18, o19, o20, o21, o22, o23, (887, .map [] 0), o25, o140, o141, o26, o27, o28, (894, .map [] 0), (895, .map [] 0), o29, o30, o32, o40, o128, o43, o44, o56, o142, o59, o60, o61, o79, o80, o108, o93, o110, o96, o97, o100, o101, o102, o111, o112, o113, o114, o115, o116, o117, o120, o130, o131, o132, o133, o143, o144, o145, o146, o147, o148, o149, o150, o151, o152, o153, o154, o155, o156, o157]⟩
noncomputable def v24 : AV := (.tup [(.int .i64 (.ofNat 5)), (.int .i64 (.ofNat 0))])
noncomputable def q24 : Stt := ⟨6311, [o0, o1, o2, o3, o210, (7, .map [] 14), o5, o134, o135, (209, .map [] 9), (210, .map [] 4), o138, o10, o49, o176, o14, o15, o199, o18, o19, o20, o21, o22, o23, (887, .map [] 0), o25, o140, o141, o26, o27, o28, (894, .map [] 0), (895, .map [] 0), o29, o30, o32, o40, o177, o43, o160, o56, o200, o59, o191, o61, o79, o161, o211, o93, o212, o96, o166, o100, o192, o102, o111, o112, o207, o114, o213, o116, o117, o120, o130, o131, o162, o181, o182, o208, o145, o183, o147, o148, o171, o184, o151, o152, o194, o154, o202, o156, o157, o185, o188, o203, o214]⟩
noncomputable def s24 : Summ := segS a24 p24 v24 q24
set_option maxRecDepth 1000000
theorem r24 : segR c24 60 290 a24 p24 v24 q24 = true := by decide +kernel
theorem x24 : CtxOK c24 := ⟨names_of KBase.names, KBase.mixed, (addS_ok (orS_ok k19 (orS_ok k21 (orS_ok k23 badS_ok))) (addS_ok (orS_ok k16 (orS_ok k17 (orS_ok k18 (orS_ok k20 (orS_ok k22 badS_ok))))) KBase.S0_ok))⟩
theorem k24 : SummOK Tryz.prog 290 s24 := seg_summ x24 r24
end SC
end Go.Ab
