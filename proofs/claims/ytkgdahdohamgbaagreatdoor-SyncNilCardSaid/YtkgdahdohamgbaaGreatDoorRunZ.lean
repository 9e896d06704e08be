import Derived.Test.YtkgdahdohamgbaaGreatDoorRunA
import Derived.Test.YtkgdahdohamgbaaGreatDoorRunB
import Derived.Test.YtkgdahdohamgbaaGreatDoorRunC
import Derived.Test.YtkgdahdohamgbaaGreatDoorRunD
import Derived.Test.YtkgdahdohamgbaaGreatDoorRunH
import Derived.Test.YtkgdahdohamgbaaGreatDoorRunJ
namespace Go.Ab
open Go.RowKit Go.Proofs
namespace SY
noncomputable def c41 : Ctx := ⟨Tryz.prog, (addS 57 (orS (atNx 300) s5 badS) (addS 56 (orS (atNx 3) s3 badS) (addS 34 (orS (atNx 3799) s16 badS) (addS 33 (orS (atNx 3587) s13 badS) (addS 32 (orS (atNx 2043) s12 badS) (addS 6 (orS (atNx 0) s2 (orS (atNx 11769) s40 badS)) (addS 5 (orS (atNx 0) s1 (orS (atNx 4430) s31 badS)) KBase.S0))))))), fun _ => false⟩
noncomputable def a41 : List AV := [.junk]
noncomputable def p41 : Stt := ⟨0, []⟩
noncomputable def v41 : AV := (.bool true)
noncomputable def q41 : Stt := ⟨14936, []⟩
set_option maxRecDepth 1000000
theorem r41 : segR c41 60 3 a41 p41 v41 q41 = true := by decide +kernel
theorem x41 : CtxOK c41 := ⟨names_of KBase.names, KBase.mixed, (addS_ok (orS_ok k5 badS_ok) (addS_ok (orS_ok k3 badS_ok) (addS_ok (orS_ok k16 badS_ok) (addS_ok (orS_ok k13 badS_ok) (addS_ok (orS_ok k12 badS_ok) (addS_ok (orS_ok k2 (orS_ok k40 badS_ok)) (addS_ok (orS_ok k1 (orS_ok k31 badS_ok)) KBase.S0_ok)))))))⟩
end SY
end Go.Ab
