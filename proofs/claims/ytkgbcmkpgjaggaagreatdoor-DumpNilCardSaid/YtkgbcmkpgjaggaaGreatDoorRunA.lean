import Derived.Test.YtkgbcmkpgjaggaaGreatDoorBase
import Derived.Test.YtkgbcmkpgjaggaaGreatDoorData
namespace Go.Ab
open Go.RowKit Go.Proofs
namespace DN
noncomputable def c1 : Ctx := ⟨Tryz.prog, KBase.S0, fun _ => false⟩
noncomputable def a1 : List AV := [(.ptr (.i (.o .h)) 0), (.agg [(.int .i64 (.ofNat 24)), (.int .i64 (.ofNat 8)), (.int .i64 (.ofNat 6))])]
noncomputable def p1 : Stt := ⟨6, [o0, o1, o2, (3, .map [] 0), o3]⟩
noncomputable def v1 : AV := (.int .i64 (.ofNat 0))
noncomputable def q1 : Stt := ⟨507, [o0, o1, o4, (3, .map [] 21), o3]⟩
noncomputable def s1 : Summ := segS a1 p1 v1 q1
set_option maxRecDepth 1000000
theorem r1 : segR c1 60 109 a1 p1 v1 q1 = true := by decide +kernel
theorem x1 : CtxOK c1 := ⟨names_of KBase.names, KBase.mixed, KBase.S0_ok⟩
theorem k1 : SummOK Tryz.prog 109 s1 := seg_summ x1 r1
end DN
end Go.Ab
