import Derived.Test.YtlcnngohlalhbaaGreatDoorRunYH
import Derived.Test.YtlcnngohlalhbaaGreatDoorRunYI
import Derived.Test.YtlcnngohlalhbaaGreatDoorBase
import Derived.Test.YtlcnngohlalhbaaGreatDoorData
namespace Go.Ab
open Go.RowKit Go.Proofs
namespace SH
noncomputable def c58 : Ctx := ⟨Tryz.prog, (addS 115 (orS (atNx 157372) s57 badS) (addS 81 (orS (atNx 107860) s53 badS) KBase.S0)), fun _ => false⟩
noncomputable def a58 : List AV := [(.ptr (.o (.o (.i (.o (.o (.o (.o (.o (.i (.o .h)))))))))) 0), (.func 75 [(.ptr (.o (.i (.o (.o (.o (.o (.o (.o (.i (.o .h)))))))))) 0)] [])]
noncomputable def p58 : Stt := ⟨106290, [o417, (7, .map [] 21), o1, o182, o183, o449, o450, o451, o452, o58, o440, o10, o11, o230, o453, o16, o17, o18, o19, o20, o21, o22, o23, o24, o25, o424, o27, o454, o455, o28, o29, o30, (1276, .map [] 0), (1277, .map [] 0), o126, o32, o34, o35, o36, o425, o38, o39, o40, o41, o369, o120, o125, o128, o456, o178, o372, o457, o196, o458, o442, o443, o444, o445, o446, o447, o459, o460, o461, o462, o463, o464, o465, o466, o467, o468, o469, o470, o471, o472, o474, o475, o476]⟩
noncomputable def v58 : AV := (.tup [(.int .i64 (.ofNat 0)), (.bool false)])
noncomputable def q58 : Stt := ⟨107117, [o417, (7, .map [] 21), o1, o182, o183, o449, o450, o451, o452, o58, o440, o10, o11, o230, o453, o16, o17, o18, o19, o20, o21, o22, o23, o24, o25, o424, o27, o454, o455, o28, o29, o30, (1276, .map [] 0), (1277, .map [] 0), o126, o32, o34, o35, o36, o425, o38, o39, o40, o41, o369, o120, o125, o128, o456, o178, o372, o473, o196, o458, o442, o443, o444, o445, o446, o447, o459, o460, o461, o462, o463, o464, o465, o466, o467, o468, o469, o470, o471, o472, o474, o475, o476]⟩
noncomputable def s58 : Summ := segS a58 p58 v58 q58
set_option maxRecDepth 1000000
theorem r58 : segR c58 60 74 a58 p58 v58 q58 = true := by decide +kernel
theorem x58 : CtxOK c58 := ⟨names_of KBase.names, KBase.mixed, (addS_ok (orS_ok k57 badS_ok) (addS_ok (orS_ok k53 badS_ok) KBase.S0_ok))⟩
theorem k58 : SummOK Tryz.prog 74 s58 := seg_summ x58 r58
end SH
end Go.Ab
namespace Go.Ab
open Go.RowKit Go.Proofs
namespace SH
noncomputable def c59 : Ctx := ⟨Tryz.prog, KBase.S0, fun _ => false⟩
noncomputable def a59 : List AV := [(.ptr (.o (.o (.o (.o (.o (.o (.o (.o (.i (.o .h)))))))))) 0), (.int .i64 (.ofNat 0)), (.int .i64 (.ofNat 0)), (.int .i64 (.ofNat 9))]
noncomputable def p59 : Stt := ⟨157413, [o567, (7, .map [] 26), o1, o543, o544, (285, .map [] 18), (286, .map [] 12), o547, o6, o574, o488, o10, o11, o537, o515, o16, o17, o18, o19, o20, o21, o22, o23, o24, o25, o548, o27, o454, o455, o28, o29, o30, (1276, .map [] 0), (1277, .map [] 0), o126, o32, o34, o35, o36, o37, o38, o39, o40, o41, o369, o120, o125, o128, o489, o372, o196, o458, o444, o461, o467, o528, o568, o554, o557]⟩
noncomputable def v59 : AV := (.tup [(.sl (.o (.i (.i (.o (.o (.o (.o (.o (.i (.i (.i (.o (.o (.i (.i (.o (.o .h))))))))))))))))) 0 5 5 1 true), (.int .i64 (.ofNat 0))])
noncomputable def q59 : Stt := ⟨157464, [o567, (7, .map [] 26), o1, o543, o544, (285, .map [] 18), (286, .map [] 12), o547, o6, o574, o488, o10, o11, o537, o515, o16, o17, o18, o19, o20, o21, o22, o23, o24, o25, o548, o27, o454, o455, o28, o29, o30, (1276, .map [] 0), (1277, .map [] 0), o126, o32, o34, o35, o36, o37, o38, o39, o40, o41, o369, o120, o125, o128, o489, o372, o196, o458, o444, o461, o467, o528, o568, o575, o557, o576]⟩
noncomputable def s59 : Summ := segS a59 p59 v59 q59
set_option maxRecDepth 1000000
theorem r59 : segR c59 60 82 a59 p59 v59 q59 = true := by decide +kernel
theorem x59 : CtxOK c59 := ⟨names_of KBase.names, KBase.mixed, KBase.S0_ok⟩
theorem k59 : SummOK Tryz.prog 82 s59 := seg_summ x59 r59
end SH
end Go.Ab
