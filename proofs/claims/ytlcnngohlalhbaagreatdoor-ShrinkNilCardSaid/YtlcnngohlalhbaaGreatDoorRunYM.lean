import Derived.Test.YtlcnngohlalhbaaGreatDoorRunA
import Derived.Test.YtlcnngohlalhbaaGreatDoorRunB
import Derived.Test.YtlcnngohlalhbaaGreatDoorRunD
import Derived.Test.YtlcnngohlalhbaaGreatDoorRunE
import Derived.Test.YtlcnngohlalhbaaGreatDoorRunG
import Derived.Test.YtlcnngohlalhbaaGreatDoorRunYA
import Derived.Test.YtlcnngohlalhbaaGreatDoorRunYD
import Derived.Test.YtlcnngohlalhbaaGreatDoorRunYJ
import Derived.Test.YtlcnngohlalhbaaGreatDoorRunYL
import Derived.Test.YtlcnngohlalhbaaGreatDoorData
namespace Go.Ab
open Go.RowKit Go.Proofs
namespace SH
noncomputable def c64 : Ctx := ⟨Tryz.prog, (addS 82 (orS (atNx 157413) s59 badS) (addS 81 (orS (atNx 4434) s37 badS) (addS 66 (orS (atNx 283) s5 badS) (addS 65 (orS (atNx 10) s3 badS) (addS 53 (orS (atNx 3726) s18 badS) (addS 49 (orS (atNx 3059) s16 badS) (addS 48 (orS (atNx 2847) s13 badS) (addS 47 (orS (atNx 1303) s12 badS) (addS 24 (orS (atNx 6) s2 (orS (atNx 103198) s38 badS)) (addS 21 (orS (atNx 0) s1 (orS (atNx 104771) s41 (orS (atNx 106287) s62 badS))) KBase.S0)))))))))), fun _ => false⟩
noncomputable def a64 : List AV := [(.ptr (.o (.o (.i (.o (.o (.o (.o (.o (.i (.o .h)))))))))) 0)]
noncomputable def p64 : Stt := ⟨103206, [o417, (7, .map [] 21), o1, o182, o183, (285, .map [] 13), (286, .map [] 7), o404, o6, o58, o418, o10, o11, o230, o396, o16, o17, o18, o19, o20, o21, o22, o23, o24, o25, o424, o27, o189, o190, o28, o29, o30, (1276, .map [] 0), (1277, .map [] 0), o126, o32, o34, o35, o36, o425, o38, o39, o40, o41, o369, o120, o125, o128, o236, o155, o178, o372, o406, o196, o201, o206, o409]⟩
noncomputable def v64 : AV := (.tup [(.int .i64 (.ofNat 1)), (.int .i64 (.ofNat 0))])
noncomputable def q64 : Stt := ⟨104771, [o417, (7, .map [] 21), o1, o182, o183, (285, .map [] 13), (286, .map [] 7), o404, o6, o58, o418, o10, o11, o230, o396, o16, o17, o18, o19, o20, o21, o22, o23, o24, o25, o424, o27, o189, o190, o28, o29, o30, (1276, .map [] 0), (1277, .map [] 0), o126, o32, o34, o35, o36, o425, o38, o39, o40, o41, o369, o120, o125, o128, o236, o155, o178, o372, o448, o196, o201, o206, o409]⟩
noncomputable def s64 : Summ := segS a64 p64 v64 q64
set_option maxRecDepth 1000000
theorem r64 : segR c64 60 22 a64 p64 v64 q64 = true := by decide +kernel
theorem x64 : CtxOK c64 := ⟨names_of KBase.names, KBase.mixed, (addS_ok (orS_ok k59 badS_ok) (addS_ok (orS_ok k37 badS_ok) (addS_ok (orS_ok k5 badS_ok) (addS_ok (orS_ok k3 badS_ok) (addS_ok (orS_ok k18 badS_ok) (addS_ok (orS_ok k16 badS_ok) (addS_ok (orS_ok k13 badS_ok) (addS_ok (orS_ok k12 badS_ok) (addS_ok (orS_ok k2 (orS_ok k38 badS_ok)) (addS_ok (orS_ok k1 (orS_ok k41 (orS_ok k62 badS_ok))) KBase.S0_ok))))))))))⟩
theorem k64 : SummOK Tryz.prog 22 s64 := seg_summ x64 r64
end SH
end Go.Ab
