import Derived.Test.YtlcnngohlalhbaaGreatDoorRunYH
import Derived.Test.YtlcnngohlalhbaaGreatDoorRunYI
import Derived.Test.YtlcnngohlalhbaaGreatDoorData
namespace Go.Ab
open Go.RowKit Go.Proofs
namespace SH
noncomputable def c60 : Ctx := ⟨Tryz.prog, (addS 115 (orS (atNx 157372) s57 badS) (addS 81 (orS (atNx 107860) s53 badS) KBase.S0)), fun _ => false⟩
noncomputable def a60 : List AV := [(.ptr (.o (.o (.i (.o (.o (.o (.o (.o (.i (.o .h)))))))))) 0), (.func 76 [(.ptr (.o (.i (.o (.o (.o (.o (.o (.o (.i (.o .h)))))))))) 0)] [])]
noncomputable def p60 : Stt := ⟨107117, [o417, (7, .map [] 21), o1, o182, o183, o449, o450, o451, o452, o58, o440, o10, o11, o230, o453, o16, o17, o18, o19, o20, o21, o22, o23, o24, o25, o424, o27, o454, o455, o28, o29, o30, (1276, .map [] 0), (1277, .map [] 0), o126, o32, o34, o35, o36, o425, o38, o39, o40, o41, o369, o120, o125, o128, o456, o178, o372, o473, o196, o458, o442, o443, o444, o445, o446, o447, o459, o460, o461, o462, o463, o464, o465, o466, o467, o468, o469, o470, o471, o472, o474, o475, o476]⟩
noncomputable def v60 : AV := (.tup [(.int .i64 (.ofNat 0)), (.bool false)])
noncomputable def q60 : Stt := ⟨107860, [o417, (7, .map [] 21), o1, o182, o183, o449, o450, o451, o452, o58, o440, o10, o11, o230, o453, o16, o17, o18, o19, o20, o21, o22, o23, o24, o25, o424, o27, o454, o455, o28, o29, o30, (1276, .map [] 0), (1277, .map [] 0), o126, o32, o34, o35, o36, o425, o38, o39, o40, o41, o369, o120, o125, o128, o456, o178, o372, o473, o196, o458, o442, o443, o444, o445, o446, o447, o459, o460, o461, o462, o463, o464, o465, o466, o467, o468, o469, o470, o471, o472, o474, o475, o476]⟩
noncomputable def s60 : Summ := segS a60 p60 v60 q60
set_option maxRecDepth 1000000
theorem r60 : segR c60 60 74 a60 p60 v60 q60 = true := by decide +kernel
theorem x60 : CtxOK c60 := ⟨names_of KBase.names, KBase.mixed, (addS_ok (orS_ok k57 badS_ok) (addS_ok (orS_ok k53 badS_ok) KBase.S0_ok))⟩
theorem k60 : SummOK Tryz.prog 74 s60 := seg_summ x60 r60
end SH
end Go.Ab
