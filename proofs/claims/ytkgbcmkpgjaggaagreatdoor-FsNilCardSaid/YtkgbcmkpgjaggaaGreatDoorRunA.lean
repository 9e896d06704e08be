import Derived.Test.YtkgbcmkpgjaggaaGreatDoorBase
import Derived.Test.YtkgbcmkpgjaggaaGreatDoorData
namespace Go.Ab
open Go.RowKit Go.Proofs
namespace FN
noncomputable def c1 : Ctx := ⟨Tryz.prog, KBase.S0, fun _ => false⟩
noncomputable def a1 : List AV := [(.ptr (.i .h) 0), (.agg [(.int .i64 (.ofNat 48)), (.int .i64 (.ofNat 16)), (.int .i64 (.ofNat 3))])]
noncomputable def p1 : Stt := ⟨3, [o0, (1, .map [] 0), o1]⟩
noncomputable def v1 : AV := (.int .i64 (.ofNat 0))
noncomputable def q1 : Stt := ⟨300, [o2, (1, .map [] 18), o1]⟩
noncomputable def s1 : Summ := segS a1 p1 v1 q1
set_option maxRecDepth 1000000
theorem r1 : segR c1 60 109 a1 p1 v1 q1 = true := by decide +kernel
theorem x1 : CtxOK c1 := ⟨names_of KBase.names, KBase.mixed, KBase.S0_ok⟩
theorem k1 : SummOK Tryz.prog 109 s1 := seg_summ x1 r1
end FN
end Go.Ab
