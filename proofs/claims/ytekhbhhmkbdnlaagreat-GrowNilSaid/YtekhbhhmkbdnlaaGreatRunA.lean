import Derived.Test.YtekhbhhmkbdnlaaGreatBase
namespace Go.Ab
open Go.RowKit Go.Proofs
namespace GN
noncomputable def c1 : Ctx := ⟨Tryz.prog, KBase.S0, fun _ => false⟩
noncomputable def a1 : List AV := [.nilp]
noncomputable def p1 : Stt := ⟨0, []⟩
noncomputable def v1 : AV := (.tup [(.bool false), (.int .i64 (.ofNat 2))])
noncomputable def q1 : Stt := ⟨0, []⟩
noncomputable def s1 : Summ := segS a1 p1 v1 q1
set_option maxRecDepth 1000000
theorem r1 : segR c1 60 17 a1 p1 v1 q1 = true := by decide +kernel
theorem x1 : CtxOK c1 := ⟨names_of KBase.names, KBase.mixed, KBase.S0_ok⟩
theorem k1 : SummOK Tryz.prog 17 s1 := seg_summ x1 r1
end GN
end Go.Ab
namespace Go.Ab
open Go.RowKit Go.Proofs
namespace GN
noncomputable def c2 : Ctx := ⟨Tryz.prog, (addS 17 (orS (atNx 0) s1 badS) KBase.S0), fun _ => false⟩
noncomputable def a2 : List AV := [.nilp, .junk]
noncomputable def p2 : Stt := ⟨0, []⟩
noncomputable def v2 : AV := (.int .i64 (.ofNat 2))
noncomputable def q2 : Stt := ⟨0, []⟩
noncomputable def s2 : Summ := segS a2 p2 v2 q2
set_option maxRecDepth 1000000
theorem r2 : segR c2 60 19 a2 p2 v2 q2 = true := by decide +kernel
theorem x2 : CtxOK c2 := ⟨names_of KBase.names, KBase.mixed, (addS_ok (orS_ok k1 badS_ok) KBase.S0_ok)⟩
theorem k2 : SummOK Tryz.prog 19 s2 := seg_summ x2 r2
end GN
end Go.Ab
namespace Go.Ab
open Go.RowKit Go.Proofs
namespace GN
noncomputable def c3 : Ctx := ⟨Tryz.prog, (addS 19 (orS (atNx 0) s2 badS) (addS 17 (orS (atNx 0) s1 badS) KBase.S0)), fun _ => false⟩
noncomputable def a3 : List AV := [(.ptr (.i .h) 0), (.agg [(.int .i64 (.ofNat 24)), (.int .i64 (.ofNat 8)), (.int .i64 (.ofNat 2))])]
noncomputable def p3 : Stt := ⟨4, [(0, .cells 37376 (.tr 256 (zs 256) .e) true),
  (1, .map [] 0),
  (2, .cells 3 (.flat [(.sl .h 0 146 146 256 true), (.map (.o .h)), (.int .i64 (.negSucc 0))]) true),
  (3, .cells 3 (.flat [(.int .i64 (.ofNat 24)), (.int .i64 (.ofNat 8)), (.int .i64 (.ofNat 2))]) true)]⟩
noncomputable def v3 : AV := (.int .i64 (.ofNat 0))
noncomputable def q3 : Stt := ⟨201, [(0, .cells 37376 (.tr 256 (zs 256) (.n (.n (.n .e (some (b8 [0, 0, 0, 0, 0, 0, 0, 0, 0, 0, 0, 0, 0, 0, 0, 0, 0, 0, 0, 0, 0, 0, 0, 0, 0, 0, 0, 0, 0, 0, 0, 0, 0, 0, 0, 0, 0, 0, 0, 0, 0, 0, 0, 0, 0, 0, 0, 0, 0, 0, 0, 0, 0, 0, 0, 0, 0, 0, 0, 0, 0, 0, 0, 0, 2, 0, 1, 0, 0, 0, 0, 0, 1, 0, 0, 0, 0, 0, 0, 0, 0, 0, 0, 0, 0, 0, 0, 0, 0, 0, 0, 0, 0, 0, 0, 0, 0, 0, 0, 0, 0, 0, 0, 0, 0, 0, 0, 0, 0, 0, 0, 0, 0, 0, 0, 0, 0, 0, 0, 0, 0, 0, 0, 0, 0, 0, 0, 0, 0, 0, 0, 0, 0, 0, 0, 0, 0, 0, 0, 0, 0, 0, 0, 0, 0, 0, 0, 0, 0, 0, 0, 0, 0, 0, 0, 0, 0, 0, 0, 0, 0, 0, 0, 0, 0, 0, 0, 0, 0, 0, 0, 0, 0, 0, 0, 0, 0, 0, 0, 0, 0, 0, 0, 0, 0, 0, 0, 0, 0, 0, 0, 0, 0, 0, 0, 0, 0, 0, 0, 0, 0, 0, 0, 0, 0, 0, 0, 0, 0, 0, 0, 0, 0, 0, 0, 0, 0, 0, 0, 0, 0, 0, 0, 0, 0, 0, 0, 0, 0, 0, 0, 0, 0, 0, 0, 0, 0, 0, 0, 0, 0, 0, 0, 0, 0, 0, 0, 0, 0, 0, 0, 0, 0, 0, 0, 0])) (.n .e none (.n .e (some (zs 256)) .e))) (some (b8 [76, 86, 69, 69, 1, 0, 0, 0, 0, 0, 0, 0, 24, 0, 8, 0, 2, 0, 0, 0, 0, 0, 0, 0, 0, 0, 0, 0, 0, 0, 0, 0, 0, 0, 0, 0, 0, 0, 0, 0, 0, 0, 0, 0, 0, 0, 0, 0, 0, 0, 0, 0, 0, 0, 0, 0, 0, 0, 0, 0, 0, 0, 0, 0, 0, 0, 0, 0, 0, 0, 0, 0, 0, 0, 0, 0, 0, 0, 0, 0, 0, 0, 0, 0, 0, 0, 0, 0, 0, 0, 0, 0, 0, 0, 0, 0, 0, 0, 0, 0, 0, 0, 0, 0, 0, 0, 0, 0, 0, 0, 0, 0, 0, 0, 0, 0, 0, 0, 0, 0, 0, 0, 0, 0, 0, 0, 0, 0, 0, 0, 0, 0, 0, 0, 0, 0, 0, 0, 0, 0, 0, 0, 0, 0, 0, 0, 0, 0, 0, 0, 0, 0, 0, 0, 0, 0, 0, 0, 0, 0, 0, 0, 0, 0, 0, 0, 0, 0, 0, 0, 0, 0, 0, 0, 0, 0, 0, 0, 0, 0, 0, 0, 0, 0, 0, 0, 0, 0, 0, 0, 0, 0, 0, 0, 0, 0, 0, 0, 0, 0, 0, 0, 0, 0, 0, 0, 0, 0, 0, 0, 0, 0, 0, 0, 0, 0, 0, 0, 0, 0, 0, 0, 0, 0, 0, 0, 0, 0, 0, 0, 0, 0, 0, 0, 0, 0, 0, 0, 0, 0, 0, 0, 0, 0, 0, 0, 0, 0, 0, 0, 0, 0, 183, 45, 200, 66])) .e) (some (zs 256)) (.n (.n .e (some (zs 256)) (.n .e none (.n .e (some (zs 256)) .e))) (some (b8 [76, 71, 82, 80, 0, 0, 21, 0, 6, 0, 0, 0, 0, 0, 0, 0, 7, 0, 0, 0, 0, 0, 0, 0, 0, 0, 0, 0, 0, 0, 0, 0, 3, 0, 0, 0, 0, 0, 0, 0, 0, 0, 0, 0, 0, 0, 0, 0, 0, 0, 0, 0, 0, 0, 0, 0, 0, 0, 0, 0, 0, 0, 0, 0, 0, 0, 0, 0, 0, 0, 0, 0, 0, 0, 0, 0, 0, 0, 0, 0, 0, 0, 0, 0, 0, 0, 0, 0, 0, 0, 0, 0, 0, 0, 0, 0, 0, 0, 0, 0, 0, 0, 0, 0, 0, 0, 0, 0, 0, 0, 0, 0, 0, 0, 0, 0, 0, 0, 0, 0, 0, 0, 0, 0, 0, 0, 0, 0, 0, 0, 0, 0, 0, 0, 0, 0, 0, 0, 0, 0, 0, 0, 0, 0, 0, 0, 0, 0, 0, 0, 0, 0, 0, 0, 0, 0, 0, 0, 0, 0, 0, 0, 0, 0, 0, 0, 0, 0, 0, 0, 0, 0, 0, 0, 0, 0, 0, 0, 0, 0, 0, 0, 0, 0, 0, 0, 0, 0, 0, 0, 0, 0, 0, 0, 0, 0, 0, 0, 0, 0, 0, 0, 0, 0, 0, 0, 0, 0, 0, 0, 0, 0, 0, 0, 0, 0, 0, 0, 0, 0, 0, 0, 0, 0, 0, 0, 0, 0, 0, 0, 0, 0, 0, 0, 0, 0, 0, 0, 0, 0, 0, 0, 0, 0, 0, 0, 0, 0, 0, 0, 0, 0, 0, 0, 0, 0])) (.n (.n .e none (.n .e (some (b8 [76, 71, 82, 80, 1, 0, 21, 0, 8, 0, 0, 0, 0, 0, 0, 0, 7, 0, 0, 0, 0, 0, 0, 0, 0, 0, 0, 0, 0, 0, 0, 0, 0, 0, 0, 0, 0, 0, 0, 0, 0, 0, 0, 0, 0, 0, 0, 0, 0, 0, 0, 0, 0, 0, 0, 0, 0, 0, 0, 0, 0, 0, 0, 0, 0, 0, 0, 0, 0, 0, 0, 0, 0, 0, 0, 0, 0, 0, 0, 0, 0, 0, 0, 0, 0, 0, 0, 0, 0, 0, 0, 0, 0, 0, 0, 0, 0, 0, 0, 0, 0, 0, 0, 0, 0, 0, 0, 0, 0, 0, 0, 0, 0, 0, 0, 0, 0, 0, 0, 0, 0, 0, 0, 0, 0, 0, 0, 0, 0, 0, 0, 0, 0, 0, 0, 0, 0, 0, 0, 0, 0, 0, 0, 0, 0, 0, 0, 0, 0, 0, 0, 0, 0, 0, 0, 0, 0, 0, 0, 0, 0, 0, 0, 0, 0, 0, 0, 0, 0, 0, 0, 0, 0, 0, 0, 0, 0, 0, 0, 0, 0, 0, 0, 0, 0, 0, 0, 0, 0, 0, 0, 0, 0, 0, 0, 0, 0, 0, 0, 0, 0, 0, 0, 0, 0, 0, 0, 0, 0, 0, 0, 0, 0, 0, 0, 0, 0, 0, 0, 0, 0, 0, 0, 0, 0, 0, 0, 0, 0, 0, 0, 0, 0, 0, 0, 0, 0, 0, 0, 0, 0, 0, 0, 0, 0, 0, 0, 0, 0, 0, 0, 0, 0, 0, 0, 0])) .e)) none .e)))) true),
  (1, .map [] 9),
  (2, .cells 3 (.flat [(.sl .h 0 146 146 256 true), (.map (.o .h)), (.int .i64 (.negSucc 0))]) true),
  (3, .cells 3 (.flat [(.int .i64 (.ofNat 24)), (.int .i64 (.ofNat 8)), (.int .i64 (.ofNat 2))]) true)]⟩
noncomputable def s3 : Summ := segS a3 p3 v3 q3
set_option maxRecDepth 1000000
theorem r3 : segR c3 60 23 a3 p3 v3 q3 = true := by decide +kernel
theorem x3 : CtxOK c3 := ⟨names_of KBase.names, KBase.mixed, (addS_ok (orS_ok k2 badS_ok) (addS_ok (orS_ok k1 badS_ok) KBase.S0_ok))⟩
theorem k3 : SummOK Tryz.prog 23 s3 := seg_summ x3 r3
end GN
end Go.Ab
