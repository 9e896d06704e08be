import Derived.Test.YtlcnngohlalhbaaGreatDoorRunYH
import Derived.Test.YtlcnngohlalhbaaGreatDoorRunYI
import Derived.Test.YtlcnngohlalhbaaGreatDoorMachineE
import Derived.ProofKit
import Derived.Test.YtlcnngohlalhbaaGreatDoorRunYJ
import Derived.Test.YtlcnngohlalhbaaGreatDoorRunYK
import Derived.Test.YtlcnngohlalhbaaGreatDoorRunA
import Derived.Test.YtlcnngohlalhbaaGreatDoorRunB
import Derived.Test.YtlcnngohlalhbaaGreatDoorRunD
import Derived.Test.YtlcnngohlalhbaaGreatDoorRunE
import Derived.Test.YtlcnngohlalhbaaGreatDoorRunG
import Derived.Test.YtlcnngohlalhbaaGreatDoorRunYA
import Derived.Test.YtlcnngohlalhbaaGreatDoorRunYD
import Derived.Test.YtlcnngohlalhbaaGreatDoorData
namespace Go.Ab
open Go.RowKit Go.Proofs
namespace SH
noncomputable def c61 : Ctx := ⟨Tryz.prog, (addS 115 (orS (atNx 157372) s57 badS) (addS 81 (orS (atNx 107860) s53 badS) KBase.S0)), fun _ => false⟩
noncomputable def a61 : List AV := [(.ptr (.o (.o (.i (.o (.o (.o (.o (.o (.i (.o .h)))))))))) 0)]
noncomputable def p61 : Stt := ⟨107860, [o417, (7, .map [] 21), o1, o182, o183, o449, o450, o451, o452, o58, o440, o10, o11, o230, o453, o16, o17, o18, o19, o20, o21, o22, o23, o24, o25, o424, o27, o454, o455, o28, o29, o30, (1276, .map [] 0), (1277, .map [] 0), o126, o32, o34, o35, o36, o425, o38, o39, o40, o41, o369, o120, o125, o128, o456, o178, o372, o473, o196, o458, o442, o443, o444, o445, o446, o447, o459, o460, o461, o462, o463, o464, o465, o466, o467, o468, o469, o470, o471, o472, o474, o475, o476]⟩
noncomputable def v61 : AV := (.int .i64 (.ofNat 0))
noncomputable def q61 : Stt := ⟨157413, [o567, (7, .map [] 26), o1, o543, o544, (285, .map [] 18), (286, .map [] 12), o547, o6, o574, o488, o10, o11, o537, o515, o16, o17, o18, o19, o20, o21, o22, o23, o24, o25, o548, o27, o454, o455, o28, o29, o30, (1276, .map [] 0), (1277, .map [] 0), o126, o32, o34, o35, o36, o37, o38, o39, o40, o41, o369, o120, o125, o128, o489, o178, o372, o196, o458, o442, o490, o444, o445, o480, o491, o459, o492, o461, o462, o484, o493, o465, o516, o467, o468, o513, o470, o517, o472, o474, o475, o476, o495, o496, o518, o528, o568, o554, o557]⟩
noncomputable def s61 : Summ := segS a61 p61 v61 q61
set_option maxRecDepth 1000000
theorem r61 : segR c61 60 77 a61 p61 v61 q61 = true := by decide +kernel
theorem x61 : CtxOK c61 := ⟨names_of KBase.names, KBase.mixed, (addS_ok (orS_ok k57 badS_ok) (addS_ok (orS_ok k53 badS_ok) KBase.S0_ok))⟩
theorem k61 : SummOK Tryz.prog 77 s61 := seg_summ x61 r61
end SH
end Go.Ab
namespace Go.Ab
open Go.RowKit Go.Proofs
namespace SH
noncomputable def c62 : Ctx := ⟨Tryz.prog, (addS 115 (orS (atNx 157372) s57 badS) (addS 81 (orS (atNx 107860) s53 badS) (addS 77 (orS (atNx 107860) s61 badS) (addS 74 (orS (atNx 106290) s58 (orS (atNx 107117) s60 badS)) KBase.S0)))), fun _ => false⟩
noncomputable def a62 : List AV := [(.ptr (.o (.o (.i (.o (.o (.o (.o (.o (.i (.o .h)))))))))) 0)]
noncomputable def p62 : Stt := ⟨106287, [o417, (7, .map [] 21), o1, o182, o183, o449, o450, o451, o452, o58, o440, o10, o11, o230, o453, o16, o17, o18, o19, o20, o21, o22, o23, o24, o25, o424, o27, o454, o455, o28, o29, o30, (1276, .map [] 0), (1277, .map [] 0), o126, o32, o34, o35, o36, o425, o38, o39, o40, o41, o369, o120, o125, o128, o456, o178, o372, o457, o196, o458, o442, o443, o444, o445, o446, o447, o459, o460, o461, o462, o463, o464, o465, o466, o467, o468, o469, o470, o471, o472]⟩
noncomputable def v62 : AV := (.tup [(.bool true), (.int .i64 (.ofNat 0))])
noncomputable def q62 : Stt := ⟨157413, [o567, (7, .map [] 26), o1, o543, o544, (285, .map [] 18), (286, .map [] 12), o547, o6, o574, o488, o10, o11, o537, o515, o16, o17, o18, o19, o20, o21, o22, o23, o24, o25, o548, o27, o454, o455, o28, o29, o30, (1276, .map [] 0), (1277, .map [] 0), o126, o32, o34, o35, o36, o37, o38, o39, o40, o41, o369, o120, o125, o128, o489, o178, o372, o196, o458, o442, o490, o444, o445, o480, o491, o459, o492, o461, o462, o484, o493, o465, o516, o467, o468, o513, o470, o517, o472, o495, o496, o518, o528, o568, o554, o557]⟩
noncomputable def s62 : Summ := segS a62 p62 v62 q62
set_option maxRecDepth 1000000
theorem r62 : segD c62 60 21 Tryz.f21 a62 p62 v62 q62 = true := by decide +kernel
theorem x62 : CtxOK c62 := ⟨names_of KBase.names, KBase.mixed, (addS_ok (orS_ok k57 badS_ok) (addS_ok (orS_ok k53 badS_ok) (addS_ok (orS_ok k61 badS_ok) (addS_ok (orS_ok k58 (orS_ok k60 badS_ok)) KBase.S0_ok))))⟩
theorem k62 : SummOK Tryz.prog 21 s62 := segD_summ (c := Tryz.f21.body.getD .skip) x62 Tryz.func21 (by kernel_rfl) (by kernel_rfl) r62
end SH
end Go.Ab
namespace Go.Ab
open Go.RowKit Go.Proofs
namespace SH
noncomputable def c63 : Ctx := ⟨Tryz.prog, (addS 82 (orS (atNx 157413) s59 badS) (addS 81 (orS (atNx 4434) s37 badS) (addS 66 (orS (atNx 283) s5 badS) (addS 65 (orS (atNx 10) s3 badS) (addS 53 (orS (atNx 3726) s18 badS) (addS 49 (orS (atNx 3059) s16 badS) (addS 48 (orS (atNx 2847) s13 badS) (addS 47 (orS (atNx 1303) s12 badS) (addS 24 (orS (atNx 6) s2 (orS (atNx 103198) s38 badS)) (addS 21 (orS (atNx 0) s1 (orS (atNx 104771) s41 (orS (atNx 106287) s62 badS))) KBase.S0)))))))))), fun _ => false⟩
noncomputable def a63 : List AV := [.nilp]
noncomputable def p63 : Stt := ⟨3, []⟩
noncomputable def v63 : AV := (.tup [(.int .i64 (.ofNat 0)), (.int .i64 (.ofNat 0))])
noncomputable def q63 : Stt := ⟨6, []⟩
noncomputable def s63 : Summ := segS a63 p63 v63 q63
set_option maxRecDepth 1000000
theorem r63 : segR c63 60 22 a63 p63 v63 q63 = true := by decide +kernel
theorem x63 : CtxOK c63 := ⟨names_of KBase.names, KBase.mixed, (addS_ok (orS_ok k59 badS_ok) (addS_ok (orS_ok k37 badS_ok) (addS_ok (orS_ok k5 badS_ok) (addS_ok (orS_ok k3 badS_ok) (addS_ok (orS_ok k18 badS_ok) (addS_ok (orS_ok k16 badS_ok) (addS_ok (orS_ok k13 badS_ok) (addS_ok (orS_ok k12 badS_ok) (addS_ok (orS_ok k2 (orS_ok k38 badS_ok)) (addS_ok (orS_ok k1 (orS_ok k41 (orS_ok k62 badS_ok))) KBase.S0_ok))))))))))⟩
theorem k63 : SummOK Tryz.prog 22 s63 := seg_summ x63 r63
end SH
end Go.Ab
