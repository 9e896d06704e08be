import Derived.Test.YtkgbcmkpgjaggaaGreatDoorRunA
import Derived.Test.YtkgbcmkpgjaggaaGreatDoorRunC
import Derived.Test.YtkgbcmkpgjaggaaGreatDoorRunD
import Derived.Test.YtkgbcmkpgjaggaaGreatDoorRunF
import Derived.Test.YtkgbcmkpgjaggaaGreatDoorRunG
import Derived.Test.YtkgbcmkpgjaggaaGreatDoorRunI
import Derived.Test.YtkgbcmkpgjaggaaGreatDoorRunJ
namespace Go.Ab
open Go.RowKit Go.Proofs
namespace FN
noncomputable def c27 : Ctx := ⟨Tryz.prog, (addS 109 (orS (atNx 3) s1 badS) (addS 32 (orS (atNx 5694) s21 badS) (addS 30 (orS (atNx 6325) s24 badS) (addS 25 (orS (atNx 2042) s10 badS) (addS 24 (orS (atNx 3586) s17 badS) (addS 20 (orS (atNx 8240) s26 badS) (addS 17 (orS (atNx 8018) s25 badS) (addS 16 (orS (atNx 5306) s18 badS) (addS 15 (orS (atNx 300) s3 badS) KBase.S0))))))))), fun _ => false⟩
noncomputable def a27 : List AV := []
noncomputable def p27 : Stt := ⟨0, []⟩
noncomputable def v27 : AV := (.bool true)
noncomputable def q27 : Stt := ⟨8291, []⟩
set_option maxRecDepth 1000000
theorem r27 : segR c27 60 34 a27 p27 v27 q27 = true := by decide +kernel
theorem x27 : CtxOK c27 := ⟨names_of KBase.names, KBase.mixed, (addS_ok (orS_ok k1 badS_ok) (addS_ok (orS_ok k21 badS_ok) (addS_ok (orS_ok k24 badS_ok) (addS_ok (orS_ok k10 badS_ok) (addS_ok (orS_ok k17 badS_ok) (addS_ok (orS_ok k26 badS_ok) (addS_ok (orS_ok k25 badS_ok) (addS_ok (orS_ok k18 badS_ok) (addS_ok (orS_ok k3 badS_ok) KBase.S0_ok)))))))))⟩
end FN
end Go.Ab
