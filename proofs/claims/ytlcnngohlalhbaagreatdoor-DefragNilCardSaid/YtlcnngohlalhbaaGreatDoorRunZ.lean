import Derived.Test.YtlcnngohlalhbaaGreatDoorRunA
import Derived.Test.YtlcnngohlalhbaaGreatDoorRunC
import Derived.Test.YtlcnngohlalhbaaGreatDoorRunD
import Derived.Test.YtlcnngohlalhbaaGreatDoorRunE
import Derived.Test.YtlcnngohlalhbaaGreatDoorRunF
namespace Go.Ab
open Go.RowKit Go.Proofs
namespace DF
noncomputable def c22 : Ctx := ⟨Tryz.prog, (addS 66 (orS (atNx 353) s4 badS) (addS 65 (orS (atNx 4) s2 badS) (addS 53 (orS (atNx 5655) s18 badS) (addS 49 (orS (atNx 4595) s16 badS) (addS 48 (orS (atNx 3383) s12 badS) (addS 47 (orS (atNx 1679) s11 badS) (addS 7 (orS (atNx 0) s1 (orS (atNx 6367) s21 badS)) KBase.S0))))))), fun _ => false⟩
noncomputable def a22 : List AV := [.junk]
noncomputable def p22 : Stt := ⟨0, []⟩
noncomputable def v22 : AV := (.bool true)
noncomputable def q22 : Stt := ⟨7903, []⟩
set_option maxRecDepth 1000000
theorem r22 : segR c22 60 3 a22 p22 v22 q22 = true := by decide +kernel
theorem x22 : CtxOK c22 := ⟨names_of KBase.names, KBase.mixed, (addS_ok (orS_ok k4 badS_ok) (addS_ok (orS_ok k2 badS_ok) (addS_ok (orS_ok k18 badS_ok) (addS_ok (orS_ok k16 badS_ok) (addS_ok (orS_ok k12 badS_ok) (addS_ok (orS_ok k11 badS_ok) (addS_ok (orS_ok k1 (orS_ok k21 badS_ok)) KBase.S0_ok)))))))⟩
end DF
end Go.Ab
