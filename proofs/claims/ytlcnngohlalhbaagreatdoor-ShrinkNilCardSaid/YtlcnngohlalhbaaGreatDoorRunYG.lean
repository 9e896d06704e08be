import Derived.Test.YtlcnngohlalhbaaGreatDoorBase
import Derived.Test.YtlcnngohlalhbaaGreatDoorMachineE
import Derived.ProofKit
import Derived.Test.YtlcnngohlalhbaaGreatDoorData
namespace Go.Ab
open Go.RowKit Go.Proofs
namespace SH
noncomputable def c49 : Ctx := ⟨Tryz.prog, KBase.S0, fun _ => false⟩
noncomputable def a49 : List AV := [(.ptr (.o (.o (.o (.o (.o (.i (.o (.o .h)))))))) 0), (.int .i64 (.ofNat 50))]
noncomputable def p49 : Stt := ⟨157281, [o365, (7, .map [] 24), o1, o182, o183, o521, o522, o523, o6, o58, o488, o10, o11, o524, o515, o16, o17, o18, o19, o20, o21, o22, o23, o24, o25, o424, o27, o454, o455, o28, o29, o30, (1276, .map [] 0), (1277, .map [] 0), o126, o32, o34, o35, o36, o425, o38, o39, o40, o41, o369, o120, o125, o128, o489, o178, o372, o525, o196, o458, o442, o490, o444, o445, o480, o491, o459, o492, o461, o462, o484, o493, o465, o516, o467, o468, o513, o470, o517, o472, o474, o475, o476, o495, o496, o518, o526, o527, o528, o529, o530, o531, o532]⟩
noncomputable def v49 : AV := (.int .i64 (.ofNat 0))
noncomputable def q49 : Stt := ⟨157301, [o365, o533, o1, o182, o183, o521, o522, o523, o6, o58, o488, o10, o11, o524, o515, o16, o17, o18, o19, o20, o21, o22, o23, o24, o25, o424, o27, o454, o455, o28, o29, o30, (1276, .map [] 0), (1277, .map [] 0), o126, o32, o34, o35, o36, o425, o38, o39, o40, o41, o369, o120, o125, o128, o489, o178, o372, o525, o196, o458, o442, o490, o444, o445, o480, o491, o459, o492, o461, o462, o484, o493, o465, o516, o467, o468, o513, o470, o517, o472, o474, o475, o476, o495, o496, o518, o526, o527, o528, o529, o534, o531, o532, o535]⟩
noncomputable def s49 : Summ := segS a49 p49 v49 q49
set_option maxRecDepth 1000000
theorem r49 : segR c49 60 256 a49 p49 v49 q49 = true := by decide +kernel
theorem x49 : CtxOK c49 := ⟨names_of KBase.names, KBase.mixed, KBase.S0_ok⟩
theorem k49 : SummOK Tryz.prog 256 s49 := seg_summ x49 r49
end SH
end Go.Ab
namespace Go.Ab
open Go.RowKit Go.Proofs
namespace SH
noncomputable def c50 : Ctx := ⟨Tryz.prog, KBase.S0, fun _ => false⟩
noncomputable def a50 : List AV := [(.ptr (.o (.o (.o (.o (.o (.i (.o (.o .h)))))))) 0)]
noncomputable def p50 : Stt := ⟨157301, [o365, o533, o1, o182, o183, o521, o522, o523, o6, o58, o488, o10, o11, o524, o515, o16, o17, o18, o19, o20, o21, o22, o23, o24, o25, o424, o27, o454, o455, o28, o29, o30, (1276, .map [] 0), (1277, .map [] 0), o126, o32, o34, o35, o36, o425, o38, o39, o40, o41, o369, o120, o125, o128, o489, o178, o372, o525, o196, o458, o442, o490, o444, o445, o480, o491, o459, o492, o461, o462, o484, o493, o465, o516, o467, o468, o513, o470, o517, o472, o474, o475, o476, o495, o496, o518, o526, o527, o528, o529, o534, o531, o532, o535]⟩
noncomputable def v50 : AV := (.int .i64 (.ofNat 0))
noncomputable def q50 : Stt := ⟨157306, [o536, (7, .map [] 25), o1, o182, o183, (285, .map [] 17), (286, .map [] 11), o523, o6, o58, o488, o10, o11, o537, o515, o16, o17, o18, o19, o20, o21, o22, o23, o24, o25, o424, o27, o454, o455, o28, o29, o30, (1276, .map [] 0), (1277, .map [] 0), o126, o32, o34, o35, o36, o425, o38, o39, o40, o41, o369, o120, o125, o128, o489, o178, o372, o525, o196, o458, o442, o490, o444, o445, o480, o491, o459, o492, o461, o462, o484, o493, o465, o516, o467, o468, o513, o470, o517, o472, o474, o475, o476, o495, o496, o518, o526, o538, o528, o529, o534, o539, o532, o535, o540]⟩
noncomputable def s50 : Summ := segS a50 p50 v50 q50
noncomputable def l50 : List (Nat × AV) := [(0, (.ptr (.o (.o (.o (.o (.o (.i (.o (.o .h)))))))) 0)), (3, (.int .i64 (.ofNat 0))), (15, (.int .i64 (.ofNat 0))), (11, (.ptr (.o (.o (.o (.o (.o (.i (.o (.o .h)))))))) 0)), (19, (.ptr (.o (.o (.o (.o (.o (.i (.o (.o .h)))))))) 0)), (9, (.bool false)), (13, (.ptr (.i (.o (.i (.i (.i (.o (.o (.o .h)))))))) 0)), (21, (.map (.i (.i (.i (.i (.i (.o (.o (.o .h)))))))))), (2, (.int .i64 (.ofNat 0))), (8, (.ptr (.o (.o (.o (.o (.o (.i (.o (.o .h)))))))) 0)), (16, (.bool false)), (12, (.ptr (.o (.o (.o (.o (.o (.i (.o (.o .h)))))))) 0)), (20, (.ptr (.o (.o (.o (.o (.o (.i (.o (.o .h)))))))) 4)), (10, (.ptr (.o (.o (.o (.o (.o (.i (.o (.o .h)))))))) 0)), (18, (.ptr (.o (.o (.o (.o (.o (.i (.o (.o .h)))))))) 0)), (14, (.int .i64 (.ofNat 0))), (22, (.ptr (.o (.o (.o (.i (.i (.i (.i (.o (.o (.i (.i (.o (.o (.i (.i (.o (.o .h))))))))))))))))) 0))]
noncomputable def g50x0 : Stg := ⟨157301, [(157301, 3)], [o536, (7, .map [] 25), o1, o182, o183, o521, o522, o523, o6, o58, o488, o10, o11, o524, o515, o16, o17, o18, o19, o20, o21, o22, o23, o24, o25, o424, o27, o454, o455, o28, o29, o30, (1276, .map [] 0), (1277, .map [] 0), o126, o32, o34, o35, o36, o425, o38, o39, o40, o41, o369, o120, o125, o128, o489, o178, o372, o525, o196, o458, o442, o490, o444, o445, o480, o491, o459, o492, o461, o462, o484, o493, o465, o516, o467, o468, o513, o470, o517, o472, o474, o475, o476, o495, o496, o518, o526, o527, o528, o529, o534, o531, o532, o535, o541], 157304⟩
noncomputable def g50x1 : Stg := ⟨157301, [(157301, 5)], [o536, (7, .map [] 25), o1, o182, o183, (285, .map [] 17), (286, .map [] 11), o523, o6, o58, o488, o10, o11, o537, o515, o16, o17, o18, o19, o20, o21, o22, o23, o24, o25, o424, o27, o454, o455, o28, o29, o30, (1276, .map [] 0), (1277, .map [] 0), o126, o32, o34, o35, o36, o425, o38, o39, o40, o41, o369, o120, o125, o128, o489, o178, o372, o525, o196, o458, o442, o490, o444, o445, o480, o491, o459, o492, o461, o462, o484, o493, o465, o516, o467, o468, o513, o470, o517, o472, o474, o475, o476, o495, o496, o518, o526, o538, o528, o529, o534, o539, o532, o535, o542, o540], 157304⟩
noncomputable def h50 : Stg := ⟨157306, [], [o536, (7, .map [] 25), o1, o182, o183, (285, .map [] 17), (286, .map [] 11), o523, o6, o58, o488, o10, o11, o537, o515, o16, o17, o18, o19, o20, o21, o22, o23, o24, o25, o424, o27, o454, o455, o28, o29, o30, (1276, .map [] 0), (1277, .map [] 0), o126, o32, o34, o35, o36, o425, o38, o39, o40, o41, o369, o120, o125, o128, o489, o178, o372, o525, o196, o458, o442, o490, o444, o445, o480, o491, o459, o492, o461, o462, o484, o493, o465, o516, o467, o468, o513, o470, o517, o472, o474, o475, o476, o495, o496, o518, o526, o538, o528, o529, o534, o539, o532, o535, o542, o540], 157306⟩
noncomputable def t50 : Tab := ⟨0, 80, 2, fun _ => l50, fun j => [g50x0, g50x1].getD j g50x0, l50, h50⟩
noncomputable def b50 : Code := Tryz.f257.body.getD .skip
noncomputable def d50 : Code := loopAt .skip (blocksAt 0 b50)
set_option maxRecDepth 1000000
theorem u50x0 : t50.step c50 60 d50 0 [1] = true := by decide +kernel
theorem u50x1 : t50.step c50 60 d50 1 [] = true := by decide +kernel
theorem wt50 : t50.OK c50 60 d50 0 := (Tab.ok_step [1] u50x0 (Tab.ok_step [] u50x1 (Tab.ok_end t50 c50 60 d50 (Nat.le_refl _))))
theorem y50 : segT c50 60 257 t50 Tryz.f257 a50 p50 v50 q50 = true := by decide +kernel
theorem x50 : CtxOK c50 := ⟨names_of KBase.names, KBase.mixed, KBase.S0_ok⟩
theorem k50 : SummOK Tryz.prog 257 s50 := segT_summ (c := b50) (lb := d50) x50 Tryz.func257 (by kernel_rfl) (by kernel_rfl) (by kernel_rfl) wt50 y50
end SH
end Go.Ab
namespace Go.Ab
open Go.RowKit Go.Proofs
namespace SH
noncomputable def c51 : Ctx := ⟨Tryz.prog, (addS 257 (orS (atNx 157301) s50 badS) (addS 256 (orS (atNx 157281) s49 badS) KBase.S0)), fun _ => false⟩
noncomputable def a51 : List AV := [(.ptr (.o (.o (.o (.o (.o (.i (.o (.o .h)))))))) 0), (.func 233 [(.ptr (.o (.o (.o (.o (.o (.i (.o (.o .h)))))))) 0)] [])]
noncomputable def p51 : Stt := ⟨157276, [o365, (7, .map [] 24), o1, o182, o183, o521, o522, o523, o6, o58, o488, o10, o11, o524, o515, o16, o17, o18, o19, o20, o21, o22, o23, o24, o25, o424, o27, o454, o455, o28, o29, o30, (1276, .map [] 0), (1277, .map [] 0), o126, o32, o34, o35, o36, o425, o38, o39, o40, o41, o369, o120, o125, o128, o489, o178, o372, o525, o196, o458, o442, o490, o444, o445, o480, o491, o459, o492, o461, o462, o484, o493, o465, o516, o467, o468, o513, o470, o517, o472, o474, o475, o476, o495, o496, o518, o526, o527, o528, o529, o530, o531]⟩
noncomputable def v51 : AV := (.tup [(.int .i64 (.ofNat 1)), (.int .i64 (.ofNat 0))])
noncomputable def q51 : Stt := ⟨157306, [o536, (7, .map [] 25), o1, o182, o183, (285, .map [] 17), (286, .map [] 11), o523, o6, o58, o488, o10, o11, o537, o515, o16, o17, o18, o19, o20, o21, o22, o23, o24, o25, o424, o27, o454, o455, o28, o29, o30, (1276, .map [] 0), (1277, .map [] 0), o126, o32, o34, o35, o36, o425, o38, o39, o40, o41, o369, o120, o125, o128, o489, o178, o372, o525, o196, o458, o442, o490, o444, o445, o480, o491, o459, o492, o461, o462, o484, o493, o465, o516, o467, o468, o513, o470, o517, o472, o474, o475, o476, o495, o496, o518, o526, o538, o528, o529, o534, o539, o540]⟩
noncomputable def s51 : Summ := segS a51 p51 v51 q51
set_option maxRecDepth 1000000
theorem r51 : segR c51 60 190 a51 p51 v51 q51 = true := by decide +kernel
theorem x51 : CtxOK c51 := ⟨names_of KBase.names, KBase.mixed, (addS_ok (orS_ok k50 badS_ok) (addS_ok (orS_ok k49 badS_ok) KBase.S0_ok))⟩
theorem k51 : SummOK Tryz.prog 190 s51 := seg_summ x51 r51
end SH
end Go.Ab
namespace Go.Ab
open Go.RowKit Go.Proofs
namespace SH
noncomputable def c52 : Ctx := ⟨Tryz.prog, (addS 190 (orS (atNx 157276) s51 badS) KBase.S0), fun _ => false⟩
noncomputable def a52 : List AV := [(.ptr (.o (.o (.o (.o (.o (.i (.o (.o .h)))))))) 0)]
noncomputable def p52 : Stt := ⟨157276, [o365, (7, .map [] 24), o1, o182, o183, o521, o522, o523, o6, o58, o488, o10, o11, o524, o515, o16, o17, o18, o19, o20, o21, o22, o23, o24, o25, o424, o27, o454, o455, o28, o29, o30, (1276, .map [] 0), (1277, .map [] 0), o126, o32, o34, o35, o36, o425, o38, o39, o40, o41, o369, o120, o125, o128, o489, o178, o372, o525, o196, o458, o442, o490, o444, o445, o480, o491, o459, o492, o461, o462, o484, o493, o465, o516, o467, o468, o513, o470, o517, o472, o474, o475, o476, o495, o496, o518, o526, o527, o528, o529, o530, o531]⟩
noncomputable def v52 : AV := (.tup [(.int .i64 (.ofNat 1)), (.int .i64 (.ofNat 0))])
noncomputable def q52 : Stt := ⟨157306, [o536, (7, .map [] 25), o1, o182, o183, (285, .map [] 17), (286, .map [] 11), o523, o6, o58, o488, o10, o11, o537, o515, o16, o17, o18, o19, o20, o21, o22, o23, o24, o25, o424, o27, o454, o455, o28, o29, o30, (1276, .map [] 0), (1277, .map [] 0), o126, o32, o34, o35, o36, o425, o38, o39, o40, o41, o369, o120, o125, o128, o489, o178, o372, o525, o196, o458, o442, o490, o444, o445, o480, o491, o459, o492, o461, o462, o484, o493, o465, o516, o467, o468, o513, o470, o517, o472, o474, o475, o476, o495, o496, o518, o526, o538, o528, o529, o534, o539, o540]⟩
noncomputable def s52 : Summ := segS a52 p52 v52 q52
set_option maxRecDepth 1000000
theorem r52 : segR c52 60 157 a52 p52 v52 q52 = true := by decide +kernel
theorem x52 : CtxOK c52 := ⟨names_of KBase.names, KBase.mixed, (addS_ok (orS_ok k51 badS_ok) KBase.S0_ok)⟩
theorem k52 : SummOK Tryz.prog 157 s52 := seg_summ x52 r52
end SH
end Go.Ab
