import Derived.Test.YtlcnngohlalhbaaGreatDoorMachineE
import Derived.ProofKit
import Derived.Test.YtlcnngohlalhbaaGreatDoorBase
import Derived.Test.YtlcnngohlalhbaaGreatDoorData
namespace Go.Ab
open Go.RowKit Go.Proofs
namespace SH
noncomputable def c1 : Ctx := ⟨Tryz.prog, KBase.S0, fun _ => false⟩
noncomputable def a1 : List AV := [.nilp]
noncomputable def p1 : Stt := ⟨0, []⟩
noncomputable def v1 : AV := (.tup [(.bool false), (.int .i64 (.ofNat 2))])
noncomputable def q1 : Stt := ⟨3, []⟩
noncomputable def s1 : Summ := segS a1 p1 v1 q1
set_option maxRecDepth 1000000
theorem r1 : segD c1 60 21 Tryz.f21 a1 p1 v1 q1 = true := by decide +kernel
theorem x1 : CtxOK c1 := ⟨names_of KBase.names, KBase.mixed, KBase.S0_ok⟩
theorem k1 : SummOK Tryz.prog 21 s1 := segD_summ (c := Tryz.f21.body.getD .skip) x1 Tryz.func21 (by kernel_rfl) (by kernel_rfl) r1
end SH
end Go.Ab
namespace Go.Ab
open Go.RowKit Go.Proofs
namespace SH
noncomputable def c2 : Ctx := ⟨Tryz.prog, KBase.S0, fun _ => false⟩
noncomputable def a2 : List AV := [.nilp, .junk]
noncomputable def p2 : Stt := ⟨6, []⟩
noncomputable def v2 : AV := (.int .i64 (.ofNat 2))
noncomputable def q2 : Stt := ⟨6, []⟩
noncomputable def s2 : Summ := segS a2 p2 v2 q2
set_option maxRecDepth 1000000
theorem r2 : segR c2 60 24 a2 p2 v2 q2 = true := by decide +kernel
theorem x2 : CtxOK c2 := ⟨names_of KBase.names, KBase.mixed, KBase.S0_ok⟩
theorem k2 : SummOK Tryz.prog 24 s2 := seg_summ x2 r2
end SH
end Go.Ab
namespace Go.Ab
open Go.RowKit Go.Proofs
namespace SH
noncomputable def c3 : Ctx := ⟨Tryz.prog, KBase.S0, fun _ => false⟩
noncomputable def a3 : List AV := [(.ptr (.i (.o (.o .h))) 0), (.agg [(.int .i64 (.ofNat 24)), (.int .i64 (.ofNat 8)), (.int .i64 (.ofNat 3))])]
noncomputable def p3 : Stt := ⟨10, [o0, (7, .map [] 0), o1]⟩
noncomputable def v3 : AV := (.int .i64 (.ofNat 0))
noncomputable def q3 : Stt := ⟨283, [o2, (7, .map [] 12), o1]⟩
noncomputable def s3 : Summ := segS a3 p3 v3 q3
set_option maxRecDepth 1000000
theorem r3 : segR c3 60 65 a3 p3 v3 q3 = true := by decide +kernel
theorem x3 : CtxOK c3 := ⟨names_of KBase.names, KBase.mixed, KBase.S0_ok⟩
theorem k3 : SummOK Tryz.prog 65 s3 := seg_summ x3 r3
end SH
end Go.Ab
namespace Go.Ab
open Go.RowKit Go.Proofs
namespace SH
noncomputable def c4 : Ctx := ⟨Tryz.prog, KBase.S0, fun _ => false⟩
noncomputable def a4 : List AV := [(.ptr (.i (.o (.o .h))) 0)]
noncomputable def p4 : Stt := ⟨283, [o2, (7, .map [] 12), o1]⟩
noncomputable def v4 : AV := (.tup [(.ptr (.o (.i (.i (.i (.i (.i (.o (.o .h)))))))) 0), (.int .i64 (.ofNat 0))])
noncomputable def q4 : Stt := ⟨1269, [o2, (7, .map [] 12), o1, o3, o4, (285, .map [] 0), (286, .map [] 0), o5, o6, o7, o8, o9, o10, o11, o12, o13, o14, o15, o16, o17, o18, o19, o20, o21, o22, o23, o24, o25, o26]⟩
noncomputable def s4 : Summ := segS a4 p4 v4 q4
set_option maxRecDepth 1000000
theorem r4 : segR c4 60 138 a4 p4 v4 q4 = true := by decide +kernel
theorem x4 : CtxOK c4 := ⟨names_of KBase.names, KBase.mixed, KBase.S0_ok⟩
theorem k4 : SummOK Tryz.prog 138 s4 := seg_summ x4 r4
end SH
end Go.Ab
