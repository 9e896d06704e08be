import Derived.Test.YtfnmplolnlaomaaGreatDoorRunA
import Derived.Test.YtfnmplolnlaomaaGreatDoorRunB
import Derived.Test.YtfnmplolnlaomaaGreatDoorRunE
import Derived.Test.YtfnmplolnlaomaaGreatDoorRunF
import Derived.Test.YtfnmplolnlaomaaGreatDoorRunG
import Derived.Test.YtfnmplolnlaomaaGreatDoorRunW
import Derived.Test.YtfnmplolnlaomaaGreatDoorRunX
namespace Go.Ab
open Go.RowKit Go.Proofs
namespace IM
noncomputable def c74 : Ctx := ⟨Tryz.prog, (addS 37 (orS (atNx 5362) s21 (orS (atNx 271257) s72 badS)) (addS 36 (orS (atNx 4172) s20 badS) (addS 35 (orS (atNx 2628) s17 badS) (addS 29 (orS (atNx 276) s4 (orS (atNx 1609) s10 badS)) (addS 28 (orS (atNx 3) s2 (orS (atNx 1336) s8 badS)) (addS 8 (orS (atNx 1333) s7 (orS (atNx 5576) s22 (orS (atNx 271479) s73 badS))) (addS 5 (orS (atNx 0) s1 (orS (atNx 1295) s5 (orS (atNx 1325) s6 (orS (atNx 6499) s71 badS)))) KBase.S0))))))), fun _ => false⟩
noncomputable def a74 : List AV := [.junk, .junk]
noncomputable def p74 : Stt := ⟨0, []⟩
noncomputable def v74 : AV := (.bool true)
noncomputable def q74 : Stt := ⟨272402, []⟩
set_option maxRecDepth 1000000
theorem r74 : segR c74 60 3 a74 p74 v74 q74 = true := by decide +kernel
theorem x74 : CtxOK c74 := ⟨names_of KBase.names, KBase.mixed, (addS_ok (orS_ok k21 (orS_ok k72 badS_ok)) (addS_ok (orS_ok k20 badS_ok) (addS_ok (orS_ok k17 badS_ok) (addS_ok (orS_ok k4 (orS_ok k10 badS_ok)) (addS_ok (orS_ok k2 (orS_ok k8 badS_ok)) (addS_ok (orS_ok k7 (orS_ok k22 (orS_ok k73 badS_ok))) (addS_ok (orS_ok k1 (orS_ok k5 (orS_ok k6 (orS_ok k71 badS_ok)))) KBase.S0_ok)))))))⟩
end IM
end Go.Ab
