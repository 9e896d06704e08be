import Derived.Test.YtkgbcmkpgjaggaaGreatDoorBase
import Derived.Test.YtkgbcmkpgjaggaaGreatDoorData
namespace Go.Ab
open Go.RowKit Go.Proofs
namespace DN
noncomputable def c2 : Ctx := ⟨Tryz.prog, KBase.S0, fun _ => false⟩
noncomputable def a2 : List AV := [(.ptr (.i (.o .h)) 0)]
noncomputable def p2 : Stt := ⟨507, [o0, o1, o4, (3, .map [] 21), o3]⟩
noncomputable def v2 : AV := (.tup [(.ptr (.o (.i (.i (.i (.i (.o (.o (.o (.o .h))))))))) 0), (.int .i64 (.ofNat 0))])
noncomputable def q2 : Stt := ⟨2411, [o0, o1, o4, (3, .map [] 21), o3, o5, o6, (509, .map [] 0), (510, .map [] 0), o7, o8, o9, o10, o11, o12, o13, o14, o15, o16, o17, o18, o19, o20, o21, o22, o23, o24, o25, o26, o27, o28, o29, o30, o31, o32, o33, o34, o35, o36, o37, o38, o39, o40, o41, o42, o43, o44, o45, o46]⟩
noncomputable def s2 : Summ := segS a2 p2 v2 q2
set_option maxRecDepth 1000000
theorem r2 : segR c2 60 51 a2 p2 v2 q2 = true := by decide +kernel
theorem x2 : CtxOK c2 := ⟨names_of KBase.names, KBase.mixed, KBase.S0_ok⟩
theorem k2 : SummOK Tryz.prog 51 s2 := seg_summ x2 r2
end DN
end Go.Ab
