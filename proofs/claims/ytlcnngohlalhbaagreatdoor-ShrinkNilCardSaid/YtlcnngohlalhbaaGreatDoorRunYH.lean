import Derived.Test.YtlcnngohlalhbaaGreatDoorRunYF
import Derived.Test.YtlcnngohlalhbaaGreatDoorRunYG
import Derived.Test.YtlcnngohlalhbaaGreatDoorBase
import Derived.Test.YtlcnngohlalhbaaGreatDoorData
namespace Go.Ab
open Go.RowKit Go.Proofs
namespace SH
noncomputable def c53 : Ctx := ⟨Tryz.prog, (addS 157 (orS (atNx 107860) s48 (orS (atNx 157276) s52 badS)) KBase.S0), fun _ => false⟩
noncomputable def a53 : List AV := [(.ptr (.i (.o (.o (.o (.o (.o (.o (.o (.i (.o .h)))))))))) 0)]
noncomputable def p53 : Stt := ⟨107860, [o417, (7, .map [] 21), o1, o182, o183, o449, o450, o451, o452, o58, o440, o10, o11, o230, o453, o16, o17, o18, o19, o20, o21, o22, o23, o24, o25, o424, o27, o454, o455, o28, o29, o30, (1276, .map [] 0), (1277, .map [] 0), o126, o32, o34, o35, o36, o425, o38, o39, o40, o41, o369, o120, o125, o128, o456, o178, o372, o473, o196, o458, o442, o443, o444, o445, o446, o447, o459, o460, o461, o462, o463, o464, o465, o466, o467, o468, o469, o470, o471, o472, o474, o475, o476]⟩
noncomputable def v53 : AV := (.tup [(.int .i64 (.ofNat 4)), (.int .i64 (.ofNat 0))])
noncomputable def q53 : Stt := ⟨157306, [o536, (7, .map [] 25), o1, o182, o183, (285, .map [] 17), (286, .map [] 11), o523, o6, o58, o488, o10, o11, o537, o515, o16, o17, o18, o19, o20, o21, o22, o23, o24, o25, o424, o27, o454, o455, o28, o29, o30, (1276, .map [] 0), (1277, .map [] 0), o126, o32, o34, o35, o36, o425, o38, o39, o40, o41, o369, o120, o125, o128, o489, o178, o372, o525, o196, o458, o442, o490, o444, o445, o480, o491, o459, o492, o461, o462, o484, o493, o465, o516, o467, o468, o513, o470, o517, o472, o474, o475, o476, o495, o496, o518, o528]⟩
noncomputable def s53 : Summ := segS a53 p53 v53 q53
set_option maxRecDepth 1000000
theorem r53 : segR c53 60 81 a53 p53 v53 q53 = true := by decide +kernel
theorem x53 : CtxOK c53 := ⟨names_of KBase.names, KBase.mixed, (addS_ok (orS_ok k48 (orS_ok k52 badS_ok)) KBase.S0_ok)⟩
theorem k53 : SummOK Tryz.prog 81 s53 := seg_summ x53 r53
end SH
end Go.Ab
namespace Go.Ab
open Go.RowKit Go.Proofs
namespace SH
noncomputable def c54 : Ctx := ⟨Tryz.prog, KBase.S0, fun _ => false⟩
noncomputable def a54 : List AV := [(.ptr (.o (.o (.o (.o (.o (.i (.o (.o .h)))))))) 0), (.int .i64 (.ofNat 0))]
noncomputable def p54 : Stt := ⟨157387, [o536, (7, .map [] 25), o1, o543, o544, o545, o546, o547, o6, o58, o488, o10, o11, o537, o515, o16, o17, o18, o19, o20, o21, o22, o23, o24, o25, o548, o27, o454, o455, o28, o29, o30, (1276, .map [] 0), (1277, .map [] 0), o126, o32, o34, o35, o36, o37, o38, o39, o40, o41, o369, o120, o125, o128, o489, o178, o372, o196, o458, o442, o490, o444, o445, o480, o491, o459, o492, o461, o462, o484, o493, o465, o516, o467, o468, o513, o470, o517, o472, o474, o475, o476, o495, o496, o518, o528, o549, o550, o551, o552, o553, o554, o555, o556, o557, o558, o559, o560, o561, o562, o563]⟩
noncomputable def v54 : AV := (.int .i64 (.ofNat 0))
noncomputable def q54 : Stt := ⟨157407, [o536, o564, o1, o543, o544, o545, o546, o547, o6, o58, o488, o10, o11, o537, o515, o16, o17, o18, o19, o20, o21, o22, o23, o24, o25, o548, o27, o454, o455, o28, o29, o30, (1276, .map [] 0), (1277, .map [] 0), o126, o32, o34, o35, o36, o37, o38, o39, o40, o41, o369, o120, o125, o128, o489, o178, o372, o196, o458, o442, o490, o444, o445, o480, o491, o459, o492, o461, o462, o484, o493, o465, o516, o467, o468, o513, o470, o517, o472, o474, o475, o476, o495, o496, o518, o528, o549, o550, o551, o552, o553, o554, o555, o556, o557, o558, o565, o560, o561, o562, o563, o566]⟩
noncomputable def s54 : Summ := segS a54 p54 v54 q54
set_option maxRecDepth 1000000
theorem r54 : segR c54 60 256 a54 p54 v54 q54 = true := by decide +kernel
theorem x54 : CtxOK c54 := ⟨names_of KBase.names, KBase.mixed, KBase.S0_ok⟩
theorem k54 : SummOK Tryz.prog 256 s54 := seg_summ x54 r54
end SH
end Go.Ab
