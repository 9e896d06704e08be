import Derived.Test.YtkgbcmkpgjaggaaGreatDoorBase
import Derived.Test.YtkgbcmkpgjaggaaGreatDoorData
namespace Go.Ab
open Go.RowKit Go.Proofs
namespace SC
noncomputable def c1 : Ctx := ⟨Tryz.prog, KBase.S0, fun _ => false⟩
noncomputable def a1 : List AV := [.nilp]
noncomputable def p1 : Stt := ⟨1, [o0]⟩
noncomputable def v1 : AV := (.tup [.nilp, (.int .i64 (.ofNat 2))])
noncomputable def q1 : Stt := ⟨1, [o0]⟩
noncomputable def s1 : Summ := segS a1 p1 v1 q1
set_option maxRecDepth 1000000
theorem r1 : segR c1 60 6 a1 p1 v1 q1 = true := by decide +kernel
theorem x1 : CtxOK c1 := ⟨names_of KBase.names, KBase.mixed, KBase.S0_ok⟩
theorem k1 : SummOK Tryz.prog 6 s1 := seg_summ x1 r1
end SC
end Go.Ab
namespace Go.Ab
open Go.RowKit Go.Proofs
namespace SC
noncomputable def c2 : Ctx := ⟨Tryz.prog, KBase.S0, fun _ => false⟩
noncomputable def a2 : List AV := [(.ptr (.i (.o (.o .h))) 0), (.agg [(.int .i64 (.ofNat 24)), (.int .i64 (.ofNat 8)), (.int .i64 (.ofNat 2))])]
noncomputable def p2 : Stt := ⟨10, [o0, o1, o2, o3, o4, (7, .map [] 0), o5]⟩
noncomputable def v2 : AV := (.int .i64 (.ofNat 0))
noncomputable def q2 : Stt := ⟨207, [o0, o1, o2, o3, o6, (7, .map [] 9), o5]⟩
noncomputable def s2 : Summ := segS a2 p2 v2 q2
set_option maxRecDepth 1000000
theorem r2 : segR c2 60 109 a2 p2 v2 q2 = true := by decide +kernel
theorem x2 : CtxOK c2 := ⟨names_of KBase.names, KBase.mixed, KBase.S0_ok⟩
theorem k2 : SummOK Tryz.prog 109 s2 := seg_summ x2 r2
end SC
end Go.Ab
namespace Go.Ab
open Go.RowKit Go.Proofs
namespace SC
noncomputable def c3 : Ctx := ⟨Tryz.prog, KBase.S0, fun _ => false⟩
noncomputable def a3 : List AV := [(.ptr (.i (.o (.o .h))) 0)]
noncomputable def p3 : Stt := ⟨207, [o0, o1, o2, o3, o6, (7, .map [] 9), o5]⟩
noncomputable def v3 : AV := (.tup [(.ptr (.o (.i (.o (.o (.i (.i (.i .h))))))) 0), (.int .i64 (.ofNat 0))])
noncomputable def q3 : Stt := ⟨887, [o0, o1, o2, o3, o6, (7, .map [] 9), o5, o7, o8, (209, .map [] 0), (210, .map [] 0), o9, o10, o11, o12, o13, o14, o15, o16, o17, o18, o19, o20, o21, o22, o23, o24]⟩
noncomputable def s3 : Summ := segS a3 p3 v3 q3
set_option maxRecDepth 1000000
theorem r3 : segR c3 60 51 a3 p3 v3 q3 = true := by decide +kernel
theorem x3 : CtxOK c3 := ⟨names_of KBase.names, KBase.mixed, KBase.S0_ok⟩
theorem k3 : SummOK Tryz.prog 51 s3 := seg_summ x3 r3
end SC
end Go.Ab
namespace Go.Ab
open Go.RowKit Go.Proofs
namespace SC
noncomputable def c4 : Ctx := ⟨Tryz.prog, (addS 51 (orS (atNx 207) s3 badS) KBase.S0), fun _ => false⟩
noncomputable def a4 : List AV := [(.ptr (.i (.o (.o .h))) 0)]
noncomputable def p4 : Stt := ⟨207, [o0, o1, o2, o3, o6, (7, .map [] 9), o5]⟩
noncomputable def v4 : AV := (.tup [(.ptr (.o (.i (.o (.o (.o (.o (.o (.i (.i .h))))))))) 0), (.int .i64 (.ofNat 0))])
noncomputable def q4 : Stt := ⟨898, [o0, o1, o2, o3, o6, (7, .map [] 9), o5, o7, o8, (209, .map [] 0), (210, .map [] 0), o9, o10, o11, o12, o13, o14, o15, o16, o17, o18, o19, o20, o21, o22, o23, o24, (887, .map [] 0), o25, (889, .map [] 0), (890, .map [] 0), o26, o27, o28, (894, .map [] 0), (895, .map [] 0), o29, o30]⟩
noncomputable def s4 : Summ := segS a4 p4 v4 q4
set_option maxRecDepth 1000000
theorem r4 : segR c4 60 15 a4 p4 v4 q4 = true := by decide +kernel
theorem x4 : CtxOK c4 := ⟨names_of KBase.names, KBase.mixed, (addS_ok (orS_ok k3 badS_ok) KBase.S0_ok)⟩
theorem k4 : SummOK Tryz.prog 15 s4 := seg_summ x4 r4
end SC
end Go.Ab
