import Derived.Test.YtlcnngohlalhbaaGreatDoorMachineE
import Derived.ProofKit
import Derived.Test.YtlcnngohlalhbaaGreatDoorBase
import Derived.Test.YtlcnngohlalhbaaGreatDoorRunYH
import Derived.Test.YtlcnngohlalhbaaGreatDoorData
namespace Go.Ab
open Go.RowKit Go.Proofs
namespace SH
noncomputable def c55 : Ctx := ⟨Tryz.prog, KBase.S0, fun _ => false⟩
noncomputable def a55 : List AV := [(.ptr (.o (.o (.o (.o (.o (.i (.o (.o .h)))))))) 0)]
noncomputable def p55 : Stt := ⟨157407, [o536, o564, o1, o543, o544, o545, o546, o547, o6, o58, o488, o10, o11, o537, o515, o16, o17, o18, o19, o20, o21, o22, o23, o24, o25, o548, o27, o454, o455, o28, o29, o30, (1276, .map [] 0), (1277, .map [] 0), o126, o32, o34, o35, o36, o37, o38, o39, o40, o41, o369, o120, o125, o128, o489, o178, o372, o196, o458, o442, o490, o444, o445, o480, o491, o459, o492, o461, o462, o484, o493, o465, o516, o467, o468, o513, o470, o517, o472, o474, o475, o476, o495, o496, o518, o528, o549, o550, o551, o552, o553, o554, o555, o556, o557, o558, o565, o560, o561, o562, o563, o566]⟩
noncomputable def v55 : AV := (.int .i64 (.ofNat 0))
noncomputable def q55 : Stt := ⟨157412, [o567, (7, .map [] 26), o1, o543, o544, (285, .map [] 18), (286, .map [] 12), o547, o6, o58, o488, o10, o11, o537, o515, o16, o17, o18, o19, o20, o21, o22, o23, o24, o25, o548, o27, o454, o455, o28, o29, o30, (1276, .map [] 0), (1277, .map [] 0), o126, o32, o34, o35, o36, o37, o38, o39, o40, o41, o369, o120, o125, o128, o489, o178, o372, o196, o458, o442, o490, o444, o445, o480, o491, o459, o492, o461, o462, o484, o493, o465, o516, o467, o468, o513, o470, o517, o472, o474, o475, o476, o495, o496, o518, o528, o549, o550, o551, o552, o568, o554, o555, o569, o557, o558, o565, o570, o561, o562, o563, o566, o571]⟩
noncomputable def s55 : Summ := segS a55 p55 v55 q55
noncomputable def l55 : List (Nat × AV) := [(0, (.ptr (.o (.o (.o (.o (.o (.i (.o (.o .h)))))))) 0)), (3, (.int .i64 (.ofNat 0))), (15, (.int .i64 (.ofNat 0))), (11, (.ptr (.o (.o (.o (.o (.o (.i (.o (.o .h)))))))) 0)), (19, (.ptr (.o (.o (.o (.o (.o (.i (.o (.o .h)))))))) 0)), (9, (.bool false)), (13, (.ptr (.i (.o (.i (.i (.i (.o (.o (.o .h)))))))) 0)), (21, (.map (.i (.i (.i (.i (.i (.o (.o (.o .h)))))))))), (2, (.int .i64 (.ofNat 0))), (8, (.ptr (.o (.o (.o (.o (.o (.i (.o (.o .h)))))))) 0)), (16, (.bool false)), (12, (.ptr (.o (.o (.o (.o (.o (.i (.o (.o .h)))))))) 0)), (20, (.ptr (.o (.o (.o (.o (.o (.i (.o (.o .h)))))))) 4)), (10, (.ptr (.o (.o (.o (.o (.o (.i (.o (.o .h)))))))) 0)), (18, (.ptr (.o (.o (.o (.o (.o (.i (.o (.o .h)))))))) 0)), (14, (.int .i64 (.ofNat 0))), (22, (.ptr (.o (.i (.o (.o (.o (.i (.i (.i (.o (.i (.i (.o (.o (.i (.i (.o (.o .h))))))))))))))))) 0))]
noncomputable def g55x0 : Stg := ⟨157407, [(157407, 3)], [o567, (7, .map [] 26), o1, o543, o544, o545, o546, o547, o6, o58, o488, o10, o11, o537, o515, o16, o17, o18, o19, o20, o21, o22, o23, o24, o25, o548, o27, o454, o455, o28, o29, o30, (1276, .map [] 0), (1277, .map [] 0), o126, o32, o34, o35, o36, o37, o38, o39, o40, o41, o369, o120, o125, o128, o489, o178, o372, o196, o458, o442, o490, o444, o445, o480, o491, o459, o492, o461, o462, o484, o493, o465, o516, o467, o468, o513, o470, o517, o472, o474, o475, o476, o495, o496, o518, o528, o549, o550, o551, o552, o553, o554, o555, o556, o557, o558, o565, o560, o561, o562, o563, o566, o572], 157410⟩
noncomputable def g55x1 : Stg := ⟨157407, [(157407, 5)], [o567, (7, .map [] 26), o1, o543, o544, (285, .map [] 18), (286, .map [] 12), o547, o6, o58, o488, o10, o11, o537, o515, o16, o17, o18, o19, o20, o21, o22, o23, o24, o25, o548, o27, o454, o455, o28, o29, o30, (1276, .map [] 0), (1277, .map [] 0), o126, o32, o34, o35, o36, o37, o38, o39, o40, o41, o369, o120, o125, o128, o489, o178, o372, o196, o458, o442, o490, o444, o445, o480, o491, o459, o492, o461, o462, o484, o493, o465, o516, o467, o468, o513, o470, o517, o472, o474, o475, o476, o495, o496, o518, o528, o549, o550, o551, o552, o568, o554, o555, o569, o557, o558, o565, o570, o561, o562, o563, o566, o573, o571], 157410⟩
noncomputable def h55 : Stg := ⟨157412, [], [o567, (7, .map [] 26), o1, o543, o544, (285, .map [] 18), (286, .map [] 12), o547, o6, o58, o488, o10, o11, o537, o515, o16, o17, o18, o19, o20, o21, o22, o23, o24, o25, o548, o27, o454, o455, o28, o29, o30, (1276, .map [] 0), (1277, .map [] 0), o126, o32, o34, o35, o36, o37, o38, o39, o40, o41, o369, o120, o125, o128, o489, o178, o372, o196, o458, o442, o490, o444, o445, o480, o491, o459, o492, o461, o462, o484, o493, o465, o516, o467, o468, o513, o470, o517, o472, o474, o475, o476, o495, o496, o518, o528, o549, o550, o551, o552, o568, o554, o555, o569, o557, o558, o565, o570, o561, o562, o563, o566, o573, o571], 157412⟩
noncomputable def t55 : Tab := ⟨0, 80, 2, fun _ => l55, fun j => [g55x0, g55x1].getD j g55x0, l55, h55⟩
noncomputable def b55 : Code := Tryz.f257.body.getD .skip
noncomputable def d55 : Code := loopAt .skip (blocksAt 0 b55)
set_option maxRecDepth 1000000
theorem u55x0 : t55.step c55 60 d55 0 [1] = true := by decide +kernel
theorem u55x1 : t55.step c55 60 d55 1 [] = true := by decide +kernel
theorem wt55 : t55.OK c55 60 d55 0 := (Tab.ok_step [1] u55x0 (Tab.ok_step [] u55x1 (Tab.ok_end t55 c55 60 d55 (Nat.le_refl _))))
theorem y55 : segT c55 60 257 t55 Tryz.f257 a55 p55 v55 q55 = true := by decide +kernel
theorem x55 : CtxOK c55 := ⟨names_of KBase.names, KBase.mixed, KBase.S0_ok⟩
theorem k55 : SummOK Tryz.prog 257 s55 := segT_summ (c := b55) (lb := d55) x55 Tryz.func257 (by kernel_rfl) (by kernel_rfl) (by kernel_rfl) wt55 y55
end SH
end Go.Ab
namespace Go.Ab
open Go.RowKit Go.Proofs
namespace SH
noncomputable def c56 : Ctx := ⟨Tryz.prog, (addS 257 (orS (atNx 157407) s55 badS) (addS 256 (orS (atNx 157387) s54 badS) KBase.S0)), fun _ => false⟩
noncomputable def a56 : List AV := [(.ptr (.o (.o (.o (.o (.o (.i (.o (.o .h)))))))) 0), (.func 191 [] [(.ptr (.i (.o (.i (.i (.i (.i (.o (.i (.o (.i (.i (.o (.o (.i (.i (.o (.o .h))))))))))))))))) 0), (.ptr (.o (.i (.i (.i (.i (.i (.o (.i (.o (.i (.i (.o (.o (.i (.i (.o (.o .h))))))))))))))))) 0)])]
noncomputable def p56 : Stt := ⟨157374, [o536, (7, .map [] 25), o1, o543, o544, o545, o546, o547, o6, o58, o488, o10, o11, o537, o515, o16, o17, o18, o19, o20, o21, o22, o23, o24, o25, o548, o27, o454, o455, o28, o29, o30, (1276, .map [] 0), (1277, .map [] 0), o126, o32, o34, o35, o36, o37, o38, o39, o40, o41, o369, o120, o125, o128, o489, o178, o372, o196, o458, o442, o490, o444, o445, o480, o491, o459, o492, o461, o462, o484, o493, o465, o516, o467, o468, o513, o470, o517, o472, o474, o475, o476, o495, o496, o518, o528, o549, o550, o551, o552, o553, o554, o555, o556, o557, o558, o559, o560, o561, o562]⟩
noncomputable def v56 : AV := (.tup [(.int .i64 (.ofNat 1)), (.int .i64 (.ofNat 0))])
noncomputable def q56 : Stt := ⟨157413, [o567, (7, .map [] 26), o1, o543, o544, (285, .map [] 18), (286, .map [] 12), o547, o6, o58, o488, o10, o11, o537, o515, o16, o17, o18, o19, o20, o21, o22, o23, o24, o25, o548, o27, o454, o455, o28, o29, o30, (1276, .map [] 0), (1277, .map [] 0), o126, o32, o34, o35, o36, o37, o38, o39, o40, o41, o369, o120, o125, o128, o489, o178, o372, o196, o458, o442, o490, o444, o445, o480, o491, o459, o492, o461, o462, o484, o493, o465, o516, o467, o468, o513, o470, o517, o472, o474, o475, o476, o495, o496, o518, o528, o549, o550, o551, o552, o568, o554, o555, o569, o557, o558, o565, o570, o561, o562, o571]⟩
noncomputable def s56 : Summ := segS a56 p56 v56 q56
set_option maxRecDepth 1000000
theorem r56 : segR c56 60 190 a56 p56 v56 q56 = true := by decide +kernel
theorem x56 : CtxOK c56 := ⟨names_of KBase.names, KBase.mixed, (addS_ok (orS_ok k55 badS_ok) (addS_ok (orS_ok k54 badS_ok) KBase.S0_ok))⟩
theorem k56 : SummOK Tryz.prog 190 s56 := seg_summ x56 r56
end SH
end Go.Ab
namespace Go.Ab
open Go.RowKit Go.Proofs
namespace SH
noncomputable def c57 : Ctx := ⟨Tryz.prog, (addS 190 (orS (atNx 157374) s56 badS) KBase.S0), fun _ => false⟩
noncomputable def a57 : List AV := [(.ptr (.o (.o (.o (.o (.o (.i (.o (.o .h)))))))) 0), (.int .i64 (.ofNat 18))]
noncomputable def p57 : Stt := ⟨157372, [o536, (7, .map [] 25), o1, o543, o544, o545, o546, o547, o6, o58, o488, o10, o11, o537, o515, o16, o17, o18, o19, o20, o21, o22, o23, o24, o25, o548, o27, o454, o455, o28, o29, o30, (1276, .map [] 0), (1277, .map [] 0), o126, o32, o34, o35, o36, o37, o38, o39, o40, o41, o369, o120, o125, o128, o489, o178, o372, o196, o458, o442, o490, o444, o445, o480, o491, o459, o492, o461, o462, o484, o493, o465, o516, o467, o468, o513, o470, o517, o472, o474, o475, o476, o495, o496, o518, o528, o549, o550, o551, o552, o553, o554, o555, o556, o557, o558, o559, o560]⟩
noncomputable def v57 : AV := (.tup [(.int .i64 (.ofNat 1)), (.int .i64 (.ofNat 0))])
noncomputable def q57 : Stt := ⟨157413, [o567, (7, .map [] 26), o1, o543, o544, (285, .map [] 18), (286, .map [] 12), o547, o6, o58, o488, o10, o11, o537, o515, o16, o17, o18, o19, o20, o21, o22, o23, o24, o25, o548, o27, o454, o455, o28, o29, o30, (1276, .map [] 0), (1277, .map [] 0), o126, o32, o34, o35, o36, o37, o38, o39, o40, o41, o369, o120, o125, o128, o489, o178, o372, o196, o458, o442, o490, o444, o445, o480, o491, o459, o492, o461, o462, o484, o493, o465, o516, o467, o468, o513, o470, o517, o472, o474, o475, o476, o495, o496, o518, o528, o549, o550, o551, o552, o568, o554, o555, o569, o557, o558, o565, o570, o571]⟩
noncomputable def s57 : Summ := segS a57 p57 v57 q57
set_option maxRecDepth 1000000
theorem r57 : segR c57 60 115 a57 p57 v57 q57 = true := by decide +kernel
theorem x57 : CtxOK c57 := ⟨names_of KBase.names, KBase.mixed, (addS_ok (orS_ok k56 badS_ok) KBase.S0_ok)⟩
theorem k57 : SummOK Tryz.prog 115 s57 := seg_summ x57 r57
end SH
end Go.Ab
