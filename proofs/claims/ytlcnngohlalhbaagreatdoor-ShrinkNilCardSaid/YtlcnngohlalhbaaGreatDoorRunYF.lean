import Derived.Test.YtlcnngohlalhbaaGreatDoorBase
import Derived.Test.YtlcnngohlalhbaaGreatDoorMachineE
import Derived.ProofKit
import Derived.Test.YtlcnngohlalhbaaGreatDoorRunYD
import Derived.Test.YtlcnngohlalhbaaGreatDoorRunYE
import Derived.Test.YtlcnngohlalhbaaGreatDoorData
namespace Go.Ab
open Go.RowKit Go.Proofs
namespace SH
noncomputable def c45 : Ctx := ⟨Tryz.prog, KBase.S0, fun _ => false⟩
noncomputable def a45 : List AV := [(.ptr (.o (.o (.o (.o (.o (.i (.o (.o .h)))))))) 0), (.int .i64 (.ofNat 3))]
noncomputable def p45 : Stt := ⟨157073, [o395, (7, .map [] 23), o1, o182, o183, o486, o487, o451, o452, o58, o488, o10, o11, o230, o453, o16, o17, o18, o19, o20, o21, o22, o23, o24, o25, o424, o27, o454, o455, o28, o29, o30, (1276, .map [] 0), (1277, .map [] 0), o126, o32, o34, o35, o36, o425, o38, o39, o40, o41, o369, o120, o125, o128, o489, o178, o372, o483, o196, o458, o442, o490, o444, o445, o480, o491, o459, o492, o461, o462, o484, o493, o465, o494, o467, o468, o469, o470, o471, o472, o474, o475, o476, o495, o496, o497, o510]⟩
noncomputable def v45 : AV := (.int .i64 (.ofNat 0))
noncomputable def q45 : Stt := ⟨157093, [o395, o511, o1, o182, o183, o486, o487, o451, o452, o58, o488, o10, o11, o230, o453, o16, o17, o18, o19, o20, o21, o22, o23, o24, o25, o424, o27, o454, o455, o28, o29, o30, (1276, .map [] 0), (1277, .map [] 0), o126, o32, o34, o35, o36, o425, o38, o39, o40, o41, o369, o120, o125, o128, o489, o178, o372, o512, o196, o458, o442, o490, o444, o445, o480, o491, o459, o492, o461, o462, o484, o493, o465, o494, o467, o468, o513, o470, o471, o472, o474, o475, o476, o495, o496, o497, o510, o514]⟩
noncomputable def s45 : Summ := segS a45 p45 v45 q45
set_option maxRecDepth 1000000
theorem r45 : segR c45 60 256 a45 p45 v45 q45 = true := by decide +kernel
theorem x45 : CtxOK c45 := ⟨names_of KBase.names, KBase.mixed, KBase.S0_ok⟩
theorem k45 : SummOK Tryz.prog 256 s45 := seg_summ x45 r45
end SH
end Go.Ab
namespace Go.Ab
open Go.RowKit Go.Proofs
namespace SH
noncomputable def c46 : Ctx := ⟨Tryz.prog, KBase.S0, fun _ => false⟩
noncomputable def a46 : List AV := [(.ptr (.o (.o (.o (.o (.o (.i (.o (.o .h)))))))) 0)]
noncomputable def p46 : Stt := ⟨157093, [o395, o511, o1, o182, o183, o486, o487, o451, o452, o58, o488, o10, o11, o230, o453, o16, o17, o18, o19, o20, o21, o22, o23, o24, o25, o424, o27, o454, o455, o28, o29, o30, (1276, .map [] 0), (1277, .map [] 0), o126, o32, o34, o35, o36, o425, o38, o39, o40, o41, o369, o120, o125, o128, o489, o178, o372, o512, o196, o458, o442, o490, o444, o445, o480, o491, o459, o492, o461, o462, o484, o493, o465, o494, o467, o468, o513, o470, o471, o472, o474, o475, o476, o495, o496, o497, o510, o514]⟩
noncomputable def v46 : AV := (.int .i64 (.ofNat 0))
noncomputable def q46 : Stt := ⟨157098, [o365, (7, .map [] 24), o1, o182, o183, (285, .map [] 16), (286, .map [] 10), o451, o452, o58, o488, o10, o11, o230, o515, o16, o17, o18, o19, o20, o21, o22, o23, o24, o25, o424, o27, o454, o455, o28, o29, o30, (1276, .map [] 0), (1277, .map [] 0), o126, o32, o34, o35, o36, o425, o38, o39, o40, o41, o369, o120, o125, o128, o489, o178, o372, o512, o196, o458, o442, o490, o444, o445, o480, o491, o459, o492, o461, o462, o484, o493, o465, o516, o467, o468, o513, o470, o517, o472, o474, o475, o476, o495, o496, o497, o510, o514, o518]⟩
noncomputable def s46 : Summ := segS a46 p46 v46 q46
noncomputable def l46 : List (Nat × AV) := [(0, (.ptr (.o (.o (.o (.o (.o (.i (.o (.o .h)))))))) 0)), (3, (.int .i64 (.ofNat 0))), (15, (.int .i64 (.ofNat 0))), (11, (.ptr (.o (.o (.o (.o (.o (.i (.o (.o .h)))))))) 0)), (19, (.ptr (.o (.o (.o (.o (.o (.i (.o (.o .h)))))))) 0)), (9, (.bool false)), (13, (.ptr (.i (.o (.i (.i (.i (.o (.o (.o .h)))))))) 0)), (21, (.map (.i (.i (.i (.i (.i (.o (.o (.o .h)))))))))), (2, (.int .i64 (.ofNat 0))), (8, (.ptr (.o (.o (.o (.o (.o (.i (.o (.o .h)))))))) 0)), (16, (.bool false)), (12, (.ptr (.o (.o (.o (.o (.o (.i (.o (.o .h)))))))) 0)), (20, (.ptr (.o (.o (.o (.o (.o (.i (.o (.o .h)))))))) 4)), (10, (.ptr (.o (.o (.o (.o (.o (.i (.o (.o .h)))))))) 0)), (18, (.ptr (.o (.o (.o (.o (.o (.i (.o (.o .h)))))))) 0)), (14, (.int .i64 (.ofNat 0))), (22, (.ptr (.o (.o (.o (.i (.o (.i (.o (.i (.i (.o (.i (.o (.o (.i (.i (.o (.o .h))))))))))))))))) 0))]
noncomputable def g46x0 : Stg := ⟨157093, [(157093, 3)], [o365, (7, .map [] 24), o1, o182, o183, o486, o487, o451, o452, o58, o488, o10, o11, o230, o453, o16, o17, o18, o19, o20, o21, o22, o23, o24, o25, o424, o27, o454, o455, o28, o29, o30, (1276, .map [] 0), (1277, .map [] 0), o126, o32, o34, o35, o36, o425, o38, o39, o40, o41, o369, o120, o125, o128, o489, o178, o372, o512, o196, o458, o442, o490, o444, o445, o480, o491, o459, o492, o461, o462, o484, o493, o465, o494, o467, o468, o513, o470, o471, o472, o474, o475, o476, o495, o496, o497, o510, o514, o519], 157096⟩
noncomputable def g46x1 : Stg := ⟨157093, [(157093, 5)], [o365, (7, .map [] 24), o1, o182, o183, (285, .map [] 16), (286, .map [] 10), o451, o452, o58, o488, o10, o11, o230, o515, o16, o17, o18, o19, o20, o21, o22, o23, o24, o25, o424, o27, o454, o455, o28, o29, o30, (1276, .map [] 0), (1277, .map [] 0), o126, o32, o34, o35, o36, o425, o38, o39, o40, o41, o369, o120, o125, o128, o489, o178, o372, o512, o196, o458, o442, o490, o444, o445, o480, o491, o459, o492, o461, o462, o484, o493, o465, o516, o467, o468, o513, o470, o517, o472, o474, o475, o476, o495, o496, o497, o510, o514, o520, o518], 157096⟩
noncomputable def h46 : Stg := ⟨157098, [], [o365, (7, .map [] 24), o1, o182, o183, (285, .map [] 16), (286, .map [] 10), o451, o452, o58, o488, o10, o11, o230, o515, o16, o17, o18, o19, o20, o21, o22, o23, o24, o25, o424, o27, o454, o455, o28, o29, o30, (1276, .map [] 0), (1277, .map [] 0), o126, o32, o34, o35, o36, o425, o38, o39, o40, o41, o369, o120, o125, o128, o489, o178, o372, o512, o196, o458, o442, o490, o444, o445, o480, o491, o459, o492, o461, o462, o484, o493, o465, o516, o467, o468, o513, o470, o517, o472, o474, o475, o476, o495, o496, o497, o510, o514, o520, o518], 157098⟩
noncomputable def t46 : Tab := ⟨0, 80, 2, fun _ => l46, fun j => [g46x0, g46x1].getD j g46x0, l46, h46⟩
noncomputable def b46 : Code := Tryz.f257.body.getD .skip
noncomputable def d46 : Code := loopAt .skip (blocksAt 0 b46)
set_option maxRecDepth 1000000
theorem u46x0 : t46.step c46 60 d46 0 [1] = true := by decide +kernel
theorem u46x1 : t46.step c46 60 d46 1 [] = true := by decide +kernel
theorem wt46 : t46.OK c46 60 d46 0 := (Tab.ok_step [1] u46x0 (Tab.ok_step [] u46x1 (Tab.ok_end t46 c46 60 d46 (Nat.le_refl _))))
theorem y46 : segT c46 60 257 t46 Tryz.f257 a46 p46 v46 q46 = true := by decide +kernel
theorem x46 : CtxOK c46 := ⟨names_of KBase.names, KBase.mixed, KBase.S0_ok⟩
theorem k46 : SummOK Tryz.prog 257 s46 := segT_summ (c := b46) (lb := d46) x46 Tryz.func257 (by kernel_rfl) (by kernel_rfl) (by kernel_rfl) wt46 y46
end SH
end Go.Ab
namespace Go.Ab
open Go.RowKit Go.Proofs
namespace SH
noncomputable def c47 : Ctx := ⟨Tryz.prog, (addS 257 (orS (atNx 107913) s44 (orS (atNx 157093) s46 badS)) (addS 256 (orS (atNx 107865) s42 (orS (atNx 107893) s43 (orS (atNx 157073) s45 badS))) KBase.S0)), fun _ => false⟩
noncomputable def a47 : List AV := [(.ptr (.o (.o (.o (.o (.o (.i (.o (.o .h)))))))) 0), (.func 233 [(.ptr (.o (.o (.o (.o (.o (.i (.o (.o .h)))))))) 0)] [])]
noncomputable def p47 : Stt := ⟨107860, [o417, (7, .map [] 21), o1, o182, o183, o449, o450, o451, o452, o58, o440, o10, o11, o230, o453, o16, o17, o18, o19, o20, o21, o22, o23, o24, o25, o424, o27, o454, o455, o28, o29, o30, (1276, .map [] 0), (1277, .map [] 0), o126, o32, o34, o35, o36, o425, o38, o39, o40, o41, o369, o120, o125, o128, o456, o178, o372, o473, o196, o458, o442, o443, o444, o445, o446, o447, o459, o460, o461, o462, o463, o464, o465, o466, o467, o468, o469, o470, o471, o472, o474, o475, o476]⟩
noncomputable def v47 : AV := (.tup [(.int .i64 (.ofNat 3)), (.int .i64 (.ofNat 0))])
noncomputable def q47 : Stt := ⟨157098, [o365, (7, .map [] 24), o1, o182, o183, (285, .map [] 16), (286, .map [] 10), o451, o452, o58, o488, o10, o11, o230, o515, o16, o17, o18, o19, o20, o21, o22, o23, o24, o25, o424, o27, o454, o455, o28, o29, o30, (1276, .map [] 0), (1277, .map [] 0), o126, o32, o34, o35, o36, o425, o38, o39, o40, o41, o369, o120, o125, o128, o489, o178, o372, o512, o196, o458, o442, o490, o444, o445, o480, o491, o459, o492, o461, o462, o484, o493, o465, o516, o467, o468, o513, o470, o517, o472, o474, o475, o476, o495, o496, o518]⟩
noncomputable def s47 : Summ := segS a47 p47 v47 q47
set_option maxRecDepth 1000000
theorem r47 : segR c47 60 190 a47 p47 v47 q47 = true := by decide +kernel
theorem x47 : CtxOK c47 := ⟨names_of KBase.names, KBase.mixed, (addS_ok (orS_ok k44 (orS_ok k46 badS_ok)) (addS_ok (orS_ok k42 (orS_ok k43 (orS_ok k45 badS_ok))) KBase.S0_ok))⟩
theorem k47 : SummOK Tryz.prog 190 s47 := seg_summ x47 r47
end SH
end Go.Ab
namespace Go.Ab
open Go.RowKit Go.Proofs
namespace SH
noncomputable def c48 : Ctx := ⟨Tryz.prog, (addS 190 (orS (atNx 107860) s47 badS) KBase.S0), fun _ => false⟩
noncomputable def a48 : List AV := [(.ptr (.o (.o (.o (.o (.o (.i (.o (.o .h)))))))) 0)]
noncomputable def p48 : Stt := ⟨107860, [o417, (7, .map [] 21), o1, o182, o183, o449, o450, o451, o452, o58, o440, o10, o11, o230, o453, o16, o17, o18, o19, o20, o21, o22, o23, o24, o25, o424, o27, o454, o455, o28, o29, o30, (1276, .map [] 0), (1277, .map [] 0), o126, o32, o34, o35, o36, o425, o38, o39, o40, o41, o369, o120, o125, o128, o456, o178, o372, o473, o196, o458, o442, o443, o444, o445, o446, o447, o459, o460, o461, o462, o463, o464, o465, o466, o467, o468, o469, o470, o471, o472, o474, o475, o476]⟩
noncomputable def v48 : AV := (.tup [(.int .i64 (.ofNat 3)), (.int .i64 (.ofNat 0))])
noncomputable def q48 : Stt := ⟨157098, [o365, (7, .map [] 24), o1, o182, o183, (285, .map [] 16), (286, .map [] 10), o451, o452, o58, o488, o10, o11, o230, o515, o16, o17, o18, o19, o20, o21, o22, o23, o24, o25, o424, o27, o454, o455, o28, o29, o30, (1276, .map [] 0), (1277, .map [] 0), o126, o32, o34, o35, o36, o425, o38, o39, o40, o41, o369, o120, o125, o128, o489, o178, o372, o512, o196, o458, o442, o490, o444, o445, o480, o491, o459, o492, o461, o462, o484, o493, o465, o516, o467, o468, o513, o470, o517, o472, o474, o475, o476, o495, o496, o518]⟩
noncomputable def s48 : Summ := segS a48 p48 v48 q48
set_option maxRecDepth 1000000
theorem r48 : segR c48 60 157 a48 p48 v48 q48 = true := by decide +kernel
theorem x48 : CtxOK c48 := ⟨names_of KBase.names, KBase.mixed, (addS_ok (orS_ok k47 badS_ok) KBase.S0_ok)⟩
theorem k48 : SummOK Tryz.prog 157 s48 := seg_summ x48 r48
end SH
end Go.Ab
