import Derived.Test.YtlcnngohlalhbaaGreatDoorRunA
import Derived.Test.YtlcnngohlalhbaaGreatDoorRunB
import Derived.Test.YtlcnngohlalhbaaGreatDoorRunD
import Derived.Test.YtlcnngohlalhbaaGreatDoorRunE
import Derived.Test.YtlcnngohlalhbaaGreatDoorRunG
import Derived.Test.YtlcnngohlalhbaaGreatDoorRunYA
import Derived.Test.YtlcnngohlalhbaaGreatDoorRunYD
import Derived.Test.YtlcnngohlalhbaaGreatDoorRunYJ
import Derived.Test.YtlcnngohlalhbaaGreatDoorRunYL
import Derived.Test.YtlcnngohlalhbaaGreatDoorRunYM
namespace Go.Ab
open Go.RowKit Go.Proofs
namespace SH
noncomputable def c65 : Ctx := ⟨Tryz.prog, (addS 82 (orS (atNx 157413) s59 badS) (addS 81 (orS (atNx 4434) s37 badS) (addS 66 (orS (atNx 283) s5 badS) (addS 65 (orS (atNx 10) s3 badS) (addS 53 (orS (atNx 3726) s18 badS) (addS 49 (orS (atNx 3059) s16 badS) (addS 48 (orS (atNx 2847) s13 badS) (addS 47 (orS (atNx 1303) s12 badS) (addS 24 (orS (atNx 6) s2 (orS (atNx 103198) s38 badS)) (addS 22 (orS (atNx 3) s63 (orS (atNx 103206) s64 badS)) (addS 21 (orS (atNx 0) s1 (orS (atNx 104771) s41 (orS (atNx 106287) s62 badS))) KBase.S0))))))))))), fun _ => false⟩
noncomputable def a65 : List AV := [.junk]
noncomputable def p65 : Stt := ⟨0, []⟩
noncomputable def v65 : AV := (.bool true)
noncomputable def q65 : Stt := ⟨157465, []⟩
set_option maxRecDepth 1000000
theorem r65 : segR c65 60 5 a65 p65 v65 q65 = true := by decide +kernel
theorem x65 : CtxOK c65 := ⟨names_of KBase.names, KBase.mixed, (addS_ok (orS_ok k59 badS_ok) (addS_ok (orS_ok k37 badS_ok) (addS_ok (orS_ok k5 badS_ok) (addS_ok (orS_ok k3 badS_ok) (addS_ok (orS_ok k18 badS_ok) (addS_ok (orS_ok k16 badS_ok) (addS_ok (orS_ok k13 badS_ok) (addS_ok (orS_ok k12 badS_ok) (addS_ok (orS_ok k2 (orS_ok k38 badS_ok)) (addS_ok (orS_ok k63 (orS_ok k64 badS_ok)) (addS_ok (orS_ok k1 (orS_ok k41 (orS_ok k62 badS_ok))) KBase.S0_ok)))))))))))⟩
end SH
end Go.Ab
