import Derived.Test.YtkgbcmkpgjaggaaGreatDoorRunA
import Derived.Test.YtkgbcmkpgjaggaaGreatDoorRunC
import Derived.Test.YtkgbcmkpgjaggaaGreatDoorRunF
import Derived.Test.YtkgbcmkpgjaggaaGreatDoorRunJ
import Derived.Test.YtkgbcmkpgjaggaaGreatDoorRunK
import Derived.Test.YtkgbcmkpgjaggaaGreatDoorRunM
import Derived.Test.YtkgbcmkpgjaggaaGreatDoorRunN
namespace Go.Ab
open Go.RowKit Go.Proofs
namespace DN
noncomputable def c31 : Ctx := ⟨Tryz.prog, (addS 164 (orS (atNx 2440) s11 (orS (atNx 4966) s19 (orS (atNx 7672) s23 (orS (atNx 9967) s28 badS)))) (addS 109 (orS (atNx 6) s1 badS) (addS 38 (orS (atNx 12312) s30 badS) (addS 35 (orS (atNx 11767) s29 badS) (addS 15 (orS (atNx 507) s3 badS) KBase.S0))))), fun _ => false⟩
noncomputable def a31 : List AV := []
noncomputable def p31 : Stt := ⟨0, []⟩
noncomputable def v31 : AV := (.bool true)
noncomputable def q31 : Stt := ⟨12325, []⟩
set_option maxRecDepth 1000000
theorem r31 : segR c31 60 39 a31 p31 v31 q31 = true := by decide +kernel
theorem x31 : CtxOK c31 := ⟨names_of KBase.names, KBase.mixed, (addS_ok (orS_ok k11 (orS_ok k19 (orS_ok k23 (orS_ok k28 badS_ok)))) (addS_ok (orS_ok k1 badS_ok) (addS_ok (orS_ok k30 badS_ok) (addS_ok (orS_ok k29 badS_ok) (addS_ok (orS_ok k3 badS_ok) KBase.S0_ok)))))⟩
end DN
end Go.Ab
