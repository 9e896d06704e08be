import Derived.Test.YtlcnngohlalhbaaGreatDoorRunYB
import Derived.Test.YtlcnngohlalhbaaGreatDoorData
namespace Go.Ab
open Go.RowKit Go.Proofs
namespace SH
noncomputable def c40 : Ctx := ⟨Tryz.prog, (addS 164 (orS (atNx 105843) s39 badS) KBase.S0), fun _ => false⟩
noncomputable def a40 : List AV := [(.ptr (.o (.i (.o (.o (.o (.o (.o (.o (.i (.o .h)))))))))) 0), (.int .i64 (.ofNat 55)), (.int .i64 (.ofNat 0))]
noncomputable def p40 : Stt := ⟨105602, [o417, (7, .map [] 21), o1, o182, o183, (285, .map [] 13), (286, .map [] 7), o404, o6, o58, o418, o10, o11, o230, o396, o16, o17, o18, o19, o20, o21, o22, o23, o24, o25, o424, o27, o189, o190, o28, o29, o30, (1276, .map [] 0), (1277, .map [] 0), o126, o32, o34, o35, o36, o425, o38, o39, o40, o41, o369, o120, o125, o128, o236, o155, o178, o372, o448, o196, o201, o206, o409, o429, o430, o431]⟩
noncomputable def v40 : AV := (.tup [(.int .i64 (.ofNat 6)), (.int .i64 (.ofNat 0))])
noncomputable def q40 : Stt := ⟨106287, [o417, (7, .map [] 21), o1, o182, o183, o449, o450, o451, o452, o58, o440, o10, o11, o230, o453, o16, o17, o18, o19, o20, o21, o22, o23, o24, o25, o424, o27, o454, o455, o28, o29, o30, (1276, .map [] 0), (1277, .map [] 0), o126, o32, o34, o35, o36, o425, o38, o39, o40, o41, o369, o120, o125, o128, o456, o155, o178, o372, o457, o196, o201, o458, o409, o429, o430, o431, o442, o443, o444, o445, o446, o447, o459, o460, o461, o462, o463, o464, o465, o466, o467, o468, o469, o470, o471, o472]⟩
noncomputable def s40 : Summ := segS a40 p40 v40 q40
set_option maxRecDepth 1000000
theorem r40 : segR c40 60 53 a40 p40 v40 q40 = true := by decide +kernel
theorem x40 : CtxOK c40 := ⟨names_of KBase.names, KBase.mixed, (addS_ok (orS_ok k39 badS_ok) KBase.S0_ok)⟩
theorem k40 : SummOK Tryz.prog 53 s40 := seg_summ x40 r40
end SH
end Go.Ab
