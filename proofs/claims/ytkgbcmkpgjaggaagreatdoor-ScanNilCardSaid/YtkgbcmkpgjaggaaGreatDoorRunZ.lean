import Derived.Test.YtkgbcmkpgjaggaaGreatDoorRunA
import Derived.Test.YtkgbcmkpgjaggaaGreatDoorRunC
import Derived.Test.YtkgbcmkpgjaggaaGreatDoorRunD
import Derived.Test.YtkgbcmkpgjaggaaGreatDoorRunG
namespace Go.Ab
open Go.RowKit Go.Proofs
namespace SC
noncomputable def c28 : Ctx := ⟨Tryz.prog, (addS 113 (orS (atNx 3080) s26 badS) (addS 109 (orS (atNx 10) s2 badS) (addS 32 (orS (atNx 2496) s15 badS) (addS 24 (orS (atNx 899) s11 badS) (addS 16 (orS (atNx 2284) s12 badS) (addS 15 (orS (atNx 207) s4 badS) (addS 6 (orS (atNx 1) s1 (orS (atNx 6311) s27 badS)) KBase.S0))))))), fun _ => false⟩
noncomputable def a28 : List AV := [.junk]
noncomputable def p28 : Stt := ⟨0, []⟩
noncomputable def v28 : AV := (.bool true)
noncomputable def q28 : Stt := ⟨8027, []⟩
set_option maxRecDepth 1000000
theorem r28 : segR c28 60 3 a28 p28 v28 q28 = true := by decide +kernel
theorem x28 : CtxOK c28 := ⟨names_of KBase.names, KBase.mixed, (addS_ok (orS_ok k26 badS_ok) (addS_ok (orS_ok k2 badS_ok) (addS_ok (orS_ok k15 badS_ok) (addS_ok (orS_ok k11 badS_ok) (addS_ok (orS_ok k12 badS_ok) (addS_ok (orS_ok k4 badS_ok) (addS_ok (orS_ok k1 (orS_ok k27 badS_ok)) KBase.S0_ok)))))))⟩
end SC
end Go.Ab
