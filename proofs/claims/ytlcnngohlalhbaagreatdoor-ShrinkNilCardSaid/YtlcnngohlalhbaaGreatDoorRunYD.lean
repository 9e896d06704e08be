import Derived.Test.YtlcnngohlalhbaaGreatDoorMachineE
import Derived.ProofKit
import Derived.Test.YtlcnngohlalhbaaGreatDoorRunYC
import Derived.Test.YtlcnngohlalhbaaGreatDoorBase
import Derived.Test.YtlcnngohlalhbaaGreatDoorData
namespace Go.Ab
open Go.RowKit Go.Proofs
namespace SH
noncomputable def c41 : Ctx := ⟨Tryz.prog, (addS 53 (orS (atNx 105602) s40 badS) KBase.S0), fun _ => false⟩
noncomputable def a41 : List AV := [(.ptr (.o (.o (.i (.o (.o (.o (.o (.o (.i (.o .h)))))))))) 0)]
noncomputable def p41 : Stt := ⟨104771, [o417, (7, .map [] 21), o1, o182, o183, (285, .map [] 13), (286, .map [] 7), o404, o6, o58, o418, o10, o11, o230, o396, o16, o17, o18, o19, o20, o21, o22, o23, o24, o25, o424, o27, o189, o190, o28, o29, o30, (1276, .map [] 0), (1277, .map [] 0), o126, o32, o34, o35, o36, o425, o38, o39, o40, o41, o369, o120, o125, o128, o236, o155, o178, o372, o448, o196, o201, o206, o409]⟩
noncomputable def v41 : AV := (.tup [(.bool false), (.int .i64 (.ofNat 0))])
noncomputable def q41 : Stt := ⟨106287, [o417, (7, .map [] 21), o1, o182, o183, o449, o450, o451, o452, o58, o440, o10, o11, o230, o453, o16, o17, o18, o19, o20, o21, o22, o23, o24, o25, o424, o27, o454, o455, o28, o29, o30, (1276, .map [] 0), (1277, .map [] 0), o126, o32, o34, o35, o36, o425, o38, o39, o40, o41, o369, o120, o125, o128, o456, o155, o178, o372, o457, o196, o201, o458, o409, o442, o443, o444, o445, o446, o447, o459, o460, o461, o462, o463, o464, o465, o466, o467, o468, o469, o470, o471, o472]⟩
noncomputable def s41 : Summ := segS a41 p41 v41 q41
set_option maxRecDepth 1000000
theorem r41 : segD c41 60 21 Tryz.f21 a41 p41 v41 q41 = true := by decide +kernel
theorem x41 : CtxOK c41 := ⟨names_of KBase.names, KBase.mixed, (addS_ok (orS_ok k40 badS_ok) KBase.S0_ok)⟩
theorem k41 : SummOK Tryz.prog 21 s41 := segD_summ (c := Tryz.f21.body.getD .skip) x41 Tryz.func21 (by kernel_rfl) (by kernel_rfl) r41
end SH
end Go.Ab
namespace Go.Ab
open Go.RowKit Go.Proofs
namespace SH
noncomputable def c42 : Ctx := ⟨Tryz.prog, KBase.S0, fun _ => false⟩
noncomputable def a42 : List AV := [(.ptr (.o (.o (.o (.o (.o (.i (.o (.o .h)))))))) 0), (.int .i64 (.ofNat 2))]
noncomputable def p42 : Stt := ⟨107865, [o417, (7, .map [] 21), o1, o182, o183, o449, o450, o451, o452, o58, o440, o10, o11, o230, o453, o16, o17, o18, o19, o20, o21, o22, o23, o24, o25, o424, o27, o454, o455, o28, o29, o30, (1276, .map [] 0), (1277, .map [] 0), o126, o32, o34, o35, o36, o425, o38, o39, o40, o41, o369, o120, o125, o128, o456, o178, o372, o473, o196, o458, o442, o443, o444, o445, o446, o447, o459, o460, o461, o462, o463, o464, o465, o466, o467, o468, o469, o470, o471, o472, o474, o475, o476, o477]⟩
noncomputable def v42 : AV := (.int .i64 (.ofNat 0))
noncomputable def q42 : Stt := ⟨107885, [o417, o478, o1, o182, o183, o449, o450, o451, o452, o58, o440, o10, o11, o230, o453, o16, o17, o18, o19, o20, o21, o22, o23, o24, o25, o424, o27, o454, o455, o28, o29, o30, (1276, .map [] 0), (1277, .map [] 0), o126, o32, o34, o35, o36, o425, o38, o39, o40, o41, o369, o120, o125, o128, o456, o178, o372, o479, o196, o458, o442, o443, o444, o445, o480, o447, o459, o460, o461, o462, o463, o464, o465, o466, o467, o468, o469, o470, o471, o472, o474, o475, o476, o477, o481]⟩
noncomputable def s42 : Summ := segS a42 p42 v42 q42
set_option maxRecDepth 1000000
theorem r42 : segR c42 60 256 a42 p42 v42 q42 = true := by decide +kernel
theorem x42 : CtxOK c42 := ⟨names_of KBase.names, KBase.mixed, KBase.S0_ok⟩
theorem k42 : SummOK Tryz.prog 256 s42 := seg_summ x42 r42
end SH
end Go.Ab
namespace Go.Ab
open Go.RowKit Go.Proofs
namespace SH
noncomputable def c43 : Ctx := ⟨Tryz.prog, KBase.S0, fun _ => false⟩
noncomputable def a43 : List AV := [(.ptr (.o (.o (.o (.o (.o (.i (.o (.o .h)))))))) 0), (.int .i64 (.ofNat 6))]
noncomputable def p43 : Stt := ⟨107893, [o417, o478, o1, o182, o183, o449, o450, o451, o452, o58, o440, o10, o11, o230, o453, o16, o17, o18, o19, o20, o21, o22, o23, o24, o25, o424, o27, o454, o455, o28, o29, o30, (1276, .map [] 0), (1277, .map [] 0), o126, o32, o34, o35, o36, o425, o38, o39, o40, o41, o369, o120, o125, o128, o456, o178, o372, o479, o196, o458, o442, o443, o444, o445, o480, o447, o459, o460, o461, o462, o463, o464, o465, o466, o467, o468, o469, o470, o471, o472, o474, o475, o476, o477, o481]⟩
noncomputable def v43 : AV := (.int .i64 (.ofNat 0))
noncomputable def q43 : Stt := ⟨107913, [o417, o482, o1, o182, o183, o449, o450, o451, o452, o58, o440, o10, o11, o230, o453, o16, o17, o18, o19, o20, o21, o22, o23, o24, o25, o424, o27, o454, o455, o28, o29, o30, (1276, .map [] 0), (1277, .map [] 0), o126, o32, o34, o35, o36, o425, o38, o39, o40, o41, o369, o120, o125, o128, o456, o178, o372, o483, o196, o458, o442, o443, o444, o445, o480, o447, o459, o460, o461, o462, o484, o464, o465, o466, o467, o468, o469, o470, o471, o472, o474, o475, o476, o477, o481, o485]⟩
noncomputable def s43 : Summ := segS a43 p43 v43 q43
set_option maxRecDepth 1000000
theorem r43 : segR c43 60 256 a43 p43 v43 q43 = true := by decide +kernel
theorem x43 : CtxOK c43 := ⟨names_of KBase.names, KBase.mixed, KBase.S0_ok⟩
theorem k43 : SummOK Tryz.prog 256 s43 := seg_summ x43 r43
end SH
end Go.Ab
