import Derived.Test.YtlcnngohlalhbaaGreatDoorMachineE
import Derived.ProofKit
import Derived.Test.YtlcnngohlalhbaaGreatDoorBase
import Derived.Test.YtlcnngohlalhbaaGreatDoorRunX
import Derived.Test.YtlcnngohlalhbaaGreatDoorData
namespace Go.Ab
open Go.RowKit Go.Proofs
namespace SH
noncomputable def c34 : Ctx := ⟨Tryz.prog, KBase.S0, fun _ => false⟩
noncomputable def a34 : List AV := [(.ptr (.o (.o (.o (.o (.o (.i (.o (.o .h)))))))) 0)]
noncomputable def p34 : Stt := ⟨103193, [o395, o414, o1, o182, o183, o402, o403, o404, o6, o58, o405, o10, o11, o230, o396, o16, o17, o18, o19, o20, o21, o22, o23, o24, o25, (1269, .map [] 0), o27, o189, o190, o28, o29, o30, (1276, .map [] 0), (1277, .map [] 0), o126, o32, o34, o35, o36, o37, o38, o39, o40, o41, o49, o231, o52, o210, o65, o397, o68, o334, o70, o88, o211, o369, o102, o370, o105, o215, o109, o335, o111, o120, o121, o358, o123, o371, o125, o128, o138, o139, o212, o235, o236, o153, o237, o155, o156, o219, o238, o160, o336, o162, o176, o239, o178, o179, o223, o240, o372, o406, o194, o373, o196, o197, o363, o199, o374, o201, o202, o393, o204, o398, o206, o207, o242, o245, o246, o376, o377, o399, o407, o408, o409, o410, o415, o412, o413, o416]⟩
noncomputable def v34 : AV := (.int .i64 (.ofNat 0))
noncomputable def q34 : Stt := ⟨103198, [o417, (7, .map [] 21), o1, o182, o183, (285, .map [] 13), (286, .map [] 7), o404, o6, o58, o418, o10, o11, o230, o396, o16, o17, o18, o19, o20, o21, o22, o23, o24, o25, (1269, .map [] 0), o27, o189, o190, o28, o29, o30, (1276, .map [] 0), (1277, .map [] 0), o126, o32, o34, o35, o36, o37, o38, o39, o40, o41, o49, o231, o52, o210, o65, o397, o68, o334, o70, o88, o211, o369, o102, o370, o105, o215, o109, o335, o111, o120, o121, o358, o123, o371, o125, o128, o138, o139, o212, o235, o236, o153, o237, o155, o156, o219, o238, o160, o336, o162, o176, o239, o178, o179, o223, o240, o372, o406, o194, o373, o196, o197, o363, o199, o374, o201, o202, o393, o204, o398, o206, o207, o242, o245, o246, o376, o377, o399, o407, o419, o409, o410, o415, o420, o413, o416, o421]⟩
noncomputable def s34 : Summ := segS a34 p34 v34 q34
noncomputable def l34 : List (Nat × AV) := [(0, (.ptr (.o (.o (.o (.o (.o (.i (.o (.o .h)))))))) 0)), (3, (.int .i64 (.ofNat 0))), (15, (.int .i64 (.ofNat 0))), (11, (.ptr (.o (.o (.o (.o (.o (.i (.o (.o .h)))))))) 0)), (19, (.ptr (.o (.o (.o (.o (.o (.i (.o (.o .h)))))))) 0)), (9, (.bool false)), (13, (.ptr (.i (.o (.i (.i (.i (.o (.o (.o .h)))))))) 0)), (21, (.map (.i (.i (.i (.i (.i (.o (.o (.o .h)))))))))), (2, (.int .i64 (.ofNat 0))), (8, (.ptr (.o (.o (.o (.o (.o (.i (.o (.o .h)))))))) 0)), (16, (.bool false)), (12, (.ptr (.o (.o (.o (.o (.o (.i (.o (.o .h)))))))) 0)), (20, (.ptr (.o (.o (.o (.o (.o (.i (.o (.o .h)))))))) 4)), (10, (.ptr (.o (.o (.o (.o (.o (.i (.o (.o .h)))))))) 0)), (18, (.ptr (.o (.o (.o (.o (.o (.i (.o (.o .h)))))))) 0)), (14, (.int .i64 (.ofNat 0))), (22, (.ptr (.o (.o (.i (.i (.i (.o (.o (.o (.i (.i (.o (.o (.i (.o (.o (.i .h)))))))))))))))) 0))]
noncomputable def g34x0 : Stg := ⟨103193, [(103193, 3)], [o417, (7, .map [] 21), o1, o182, o183, o402, o403, o404, o6, o58, o405, o10, o11, o230, o396, o16, o17, o18, o19, o20, o21, o22, o23, o24, o25, (1269, .map [] 0), o27, o189, o190, o28, o29, o30, (1276, .map [] 0), (1277, .map [] 0), o126, o32, o34, o35, o36, o37, o38, o39, o40, o41, o49, o231, o52, o210, o65, o397, o68, o334, o70, o88, o211, o369, o102, o370, o105, o215, o109, o335, o111, o120, o121, o358, o123, o371, o125, o128, o138, o139, o212, o235, o236, o153, o237, o155, o156, o219, o238, o160, o336, o162, o176, o239, o178, o179, o223, o240, o372, o406, o194, o373, o196, o197, o363, o199, o374, o201, o202, o393, o204, o398, o206, o207, o242, o245, o246, o376, o377, o399, o407, o408, o409, o410, o415, o412, o413, o416, o422], 103196⟩
noncomputable def g34x1 : Stg := ⟨103193, [(103193, 5)], [o417, (7, .map [] 21), o1, o182, o183, (285, .map [] 13), (286, .map [] 7), o404, o6, o58, o418, o10, o11, o230, o396, o16, o17, o18, o19, o20, o21, o22, o23, o24, o25, (1269, .map [] 0), o27, o189, o190, o28, o29, o30, (1276, .map [] 0), (1277, .map [] 0), o126, o32, o34, o35, o36, o37, o38, o39, o40, o41, o49, o231, o52, o210, o65, o397, o68, o334, o70, o88, o211, o369, o102, o370, o105, o215, o109, o335, o111, o120, o121, o358, o123, o371, o125, o128, o138, o139, o212, o235, o236, o153, o237, o155, o156, o219, o238, o160, o336, o162, o176, o239, o178, o179, o223, o240, o372, o406, o194, o373, o196, o197, o363, o199, o374, o201, o202, o393, o204, o398, o206, o207, o242, o245, o246, o376, o377, o399, o407, o419, o409, o410, o415, o420, o413, o416, o423, o421], 103196⟩
noncomputable def h34 : Stg := ⟨103198, [], [o417, (7, .map [] 21), o1, o182, o183, (285, .map [] 13), (286, .map [] 7), o404, o6, o58, o418, o10, o11, o230, o396, o16, o17, o18, o19, o20, o21, o22, o23, o24, o25, (1269, .map [] 0), o27, o189, o190, o28, o29, o30, (1276, .map [] 0), (1277, .map [] 0), o126, o32, o34, o35, o36, o37, o38, o39, o40, o41, o49, o231, o52, o210, o65, o397, o68, o334, o70, o88, o211, o369, o102, o370, o105, o215, o109, o335, o111, o120, o121, o358, o123, o371, o125, o128, o138, o139, o212, o235, o236, o153, o237, o155, o156, o219, o238, o160, o336, o162, o176, o239, o178, o179, o223, o240, o372, o406, o194, o373, o196, o197, o363, o199, o374, o201, o202, o393, o204, o398, o206, o207, o242, o245, o246, o376, o377, o399, o407, o419, o409, o410, o415, o420, o413, o416, o423, o421], 103198⟩
noncomputable def t34 : Tab := ⟨0, 80, 2, fun _ => l34, fun j => [g34x0, g34x1].getD j g34x0, l34, h34⟩
noncomputable def b34 : Code := Tryz.f257.body.getD .skip
noncomputable def d34 : Code := loopAt .skip (blocksAt 0 b34)
set_option maxRecDepth 1000000
theorem u34x0 : t34.step c34 60 d34 0 [1] = true := by decide +kernel
theorem u34x1 : t34.step c34 60 d34 1 [] = true := by decide +kernel
theorem wt34 : t34.OK c34 60 d34 0 := (Tab.ok_step [1] u34x0 (Tab.ok_step [] u34x1 (Tab.ok_end t34 c34 60 d34 (Nat.le_refl _))))
theorem y34 : segT c34 60 257 t34 Tryz.f257 a34 p34 v34 q34 = true := by decide +kernel
theorem x34 : CtxOK c34 := ⟨names_of KBase.names, KBase.mixed, KBase.S0_ok⟩
theorem k34 : SummOK Tryz.prog 257 s34 := segT_summ (c := b34) (lb := d34) x34 Tryz.func257 (by kernel_rfl) (by kernel_rfl) (by kernel_rfl) wt34 y34
end SH
end Go.Ab
namespace Go.Ab
open Go.RowKit Go.Proofs
namespace SH
noncomputable def c35 : Ctx := ⟨Tryz.prog, (addS 257 (orS (atNx 103193) s34 badS) (addS 256 (orS (atNx 103173) s33 badS) KBase.S0)), fun _ => false⟩
noncomputable def a35 : List AV := [(.ptr (.o (.o (.o (.o (.o (.i (.o (.o .h)))))))) 0), (.func 233 [(.ptr (.o (.o (.o (.o (.o (.i (.o (.o .h)))))))) 0)] [])]
noncomputable def p35 : Stt := ⟨103168, [o395, (7, .map [] 20), o1, o182, o183, o402, o403, o404, o6, o58, o405, o10, o11, o230, o396, o16, o17, o18, o19, o20, o21, o22, o23, o24, o25, (1269, .map [] 0), o27, o189, o190, o28, o29, o30, (1276, .map [] 0), (1277, .map [] 0), o126, o32, o34, o35, o36, o37, o38, o39, o40, o41, o49, o231, o52, o210, o65, o397, o68, o334, o70, o88, o211, o369, o102, o370, o105, o215, o109, o335, o111, o120, o121, o358, o123, o371, o125, o128, o138, o139, o212, o235, o236, o153, o237, o155, o156, o219, o238, o160, o336, o162, o176, o239, o178, o179, o223, o240, o372, o406, o194, o373, o196, o197, o363, o199, o374, o201, o202, o393, o204, o398, o206, o207, o242, o245, o246, o376, o377, o399, o407, o408, o409, o410, o411, o412]⟩
noncomputable def v35 : AV := (.tup [(.int .i64 (.ofNat 1)), (.int .i64 (.ofNat 0))])
noncomputable def q35 : Stt := ⟨103198, [o417, (7, .map [] 21), o1, o182, o183, (285, .map [] 13), (286, .map [] 7), o404, o6, o58, o418, o10, o11, o230, o396, o16, o17, o18, o19, o20, o21, o22, o23, o24, o25, (1269, .map [] 0), o27, o189, o190, o28, o29, o30, (1276, .map [] 0), (1277, .map [] 0), o126, o32, o34, o35, o36, o37, o38, o39, o40, o41, o49, o231, o52, o210, o65, o397, o68, o334, o70, o88, o211, o369, o102, o370, o105, o215, o109, o335, o111, o120, o121, o358, o123, o371, o125, o128, o138, o139, o212, o235, o236, o153, o237, o155, o156, o219, o238, o160, o336, o162, o176, o239, o178, o179, o223, o240, o372, o406, o194, o373, o196, o197, o363, o199, o374, o201, o202, o393, o204, o398, o206, o207, o242, o245, o246, o376, o377, o399, o407, o419, o409, o410, o415, o420, o421]⟩
noncomputable def s35 : Summ := segS a35 p35 v35 q35
set_option maxRecDepth 1000000
theorem r35 : segR c35 60 190 a35 p35 v35 q35 = true := by decide +kernel
theorem x35 : CtxOK c35 := ⟨names_of KBase.names, KBase.mixed, (addS_ok (orS_ok k34 badS_ok) (addS_ok (orS_ok k33 badS_ok) KBase.S0_ok))⟩
theorem k35 : SummOK Tryz.prog 190 s35 := seg_summ x35 r35
end SH
end Go.Ab
namespace Go.Ab
open Go.RowKit Go.Proofs
namespace SH
noncomputable def c36 : Ctx := ⟨Tryz.prog, (addS 190 (orS (atNx 103168) s35 badS) KBase.S0), fun _ => false⟩
noncomputable def a36 : List AV := [(.ptr (.o (.o (.o (.o (.o (.i (.o (.o .h)))))))) 0)]
noncomputable def p36 : Stt := ⟨103168, [o395, (7, .map [] 20), o1, o182, o183, o402, o403, o404, o6, o58, o405, o10, o11, o230, o396, o16, o17, o18, o19, o20, o21, o22, o23, o24, o25, (1269, .map [] 0), o27, o189, o190, o28, o29, o30, (1276, .map [] 0), (1277, .map [] 0), o126, o32, o34, o35, o36, o37, o38, o39, o40, o41, o49, o231, o52, o210, o65, o397, o68, o334, o70, o88, o211, o369, o102, o370, o105, o215, o109, o335, o111, o120, o121, o358, o123, o371, o125, o128, o138, o139, o212, o235, o236, o153, o237, o155, o156, o219, o238, o160, o336, o162, o176, o239, o178, o179, o223, o240, o372, o406, o194, o373, o196, o197, o363, o199, o374, o201, o202, o393, o204, o398, o206, o207, o242, o245, o246, o376, o377, o399, o407, o408, o409, o410, o411, o412]⟩
noncomputable def v36 : AV := (.tup [(.int .i64 (.ofNat 1)), (.int .i64 (.ofNat 0))])
noncomputable def q36 : Stt := ⟨103198, [o417, (7, .map [] 21), o1, o182, o183, (285, .map [] 13), (286, .map [] 7), o404, o6, o58, o418, o10, o11, o230, o396, o16, o17, o18, o19, o20, o21, o22, o23, o24, o25, (1269, .map [] 0), o27, o189, o190, o28, o29, o30, (1276, .map [] 0), (1277, .map [] 0), o126, o32, o34, o35, o36, o37, o38, o39, o40, o41, o49, o231, o52, o210, o65, o397, o68, o334, o70, o88, o211, o369, o102, o370, o105, o215, o109, o335, o111, o120, o121, o358, o123, o371, o125, o128, o138, o139, o212, o235, o236, o153, o237, o155, o156, o219, o238, o160, o336, o162, o176, o239, o178, o179, o223, o240, o372, o406, o194, o373, o196, o197, o363, o199, o374, o201, o202, o393, o204, o398, o206, o207, o242, o245, o246, o376, o377, o399, o407, o419, o409, o410, o415, o420, o421]⟩
noncomputable def s36 : Summ := segS a36 p36 v36 q36
set_option maxRecDepth 1000000
theorem r36 : segR c36 60 157 a36 p36 v36 q36 = true := by decide +kernel
theorem x36 : CtxOK c36 := ⟨names_of KBase.names, KBase.mixed, (addS_ok (orS_ok k35 badS_ok) KBase.S0_ok)⟩
theorem k36 : SummOK Tryz.prog 157 s36 := seg_summ x36 r36
end SH
end Go.Ab
namespace Go.Ab
open Go.RowKit Go.Proofs
namespace SH
noncomputable def c37 : Ctx := ⟨Tryz.prog, (addS 157 (orS (atNx 4434) s32 (orS (atNx 103168) s36 badS)) KBase.S0), fun _ => false⟩
noncomputable def a37 : List AV := [(.ptr (.i (.o (.o (.o (.o (.o (.o (.o (.i (.o .h)))))))))) 0)]
noncomputable def p37 : Stt := ⟨4434, [o2, (7, .map [] 12), o1, o182, o183, o184, o185, o186, o187, o58, o135, o10, o11, o174, o188, o16, o17, o18, o19, o20, o21, o22, o23, o24, o25, (1269, .map [] 0), o27, o189, o190, o28, o29, o30, (1276, .map [] 0), (1277, .map [] 0), o126, o32, o34, o35, o36, o37, o38, o39, o40, o41, o49, o136, o52, o53, o65, o191, o68, o69, o70, o88, o89, o117, o102, o119, o105, o106, o109, o110, o111, o120, o121, o122, o123, o124, o125, o128, o138, o139, o140, o141, o151, o153, o154, o155, o156, o157, o158, o160, o161, o162, o176, o177, o178, o179, o180, o181, o192, o193, o194, o195, o196, o197, o198, o199, o200, o201, o202, o203, o204, o205, o206, o207]⟩
noncomputable def v37 : AV := (.tup [(.int .i64 (.ofNat 9)), (.int .i64 (.ofNat 0))])
noncomputable def q37 : Stt := ⟨103198, [o417, (7, .map [] 21), o1, o182, o183, (285, .map [] 13), (286, .map [] 7), o404, o6, o58, o418, o10, o11, o230, o396, o16, o17, o18, o19, o20, o21, o22, o23, o24, o25, (1269, .map [] 0), o27, o189, o190, o28, o29, o30, (1276, .map [] 0), (1277, .map [] 0), o126, o32, o34, o35, o36, o37, o38, o39, o40, o41, o49, o231, o52, o210, o65, o397, o68, o334, o70, o88, o211, o369, o102, o370, o105, o215, o109, o335, o111, o120, o121, o358, o123, o371, o125, o128, o138, o139, o212, o235, o236, o153, o237, o155, o156, o219, o238, o160, o336, o162, o176, o239, o178, o179, o223, o240, o372, o406, o194, o373, o196, o197, o363, o199, o374, o201, o202, o393, o204, o398, o206, o207, o242, o245, o246, o376, o377, o399, o409]⟩
noncomputable def s37 : Summ := segS a37 p37 v37 q37
set_option maxRecDepth 1000000
theorem r37 : segR c37 60 81 a37 p37 v37 q37 = true := by decide +kernel
theorem x37 : CtxOK c37 := ⟨names_of KBase.names, KBase.mixed, (addS_ok (orS_ok k32 (orS_ok k36 badS_ok)) KBase.S0_ok)⟩
theorem k37 : SummOK Tryz.prog 81 s37 := seg_summ x37 r37
end SH
end Go.Ab
namespace Go.Ab
open Go.RowKit Go.Proofs
namespace SH
noncomputable def c38 : Ctx := ⟨Tryz.prog, KBase.S0, fun _ => false⟩
noncomputable def a38 : List AV := [(.ptr (.o (.o (.i (.o (.o (.o (.o (.o (.i (.o .h)))))))))) 0), (.int .i64 (.ofNat 2))]
noncomputable def p38 : Stt := ⟨103198, [o417, (7, .map [] 21), o1, o182, o183, (285, .map [] 13), (286, .map [] 7), o404, o6, o58, o418, o10, o11, o230, o396, o16, o17, o18, o19, o20, o21, o22, o23, o24, o25, (1269, .map [] 0), o27, o189, o190, o28, o29, o30, (1276, .map [] 0), (1277, .map [] 0), o126, o32, o34, o35, o36, o37, o38, o39, o40, o41, o369, o120, o125, o128, o236, o155, o178, o372, o406, o196, o201, o206, o409]⟩
noncomputable def v38 : AV := (.int .i64 (.ofNat 0))
noncomputable def q38 : Stt := ⟨103206, [o417, (7, .map [] 21), o1, o182, o183, (285, .map [] 13), (286, .map [] 7), o404, o6, o58, o418, o10, o11, o230, o396, o16, o17, o18, o19, o20, o21, o22, o23, o24, o25, o424, o27, o189, o190, o28, o29, o30, (1276, .map [] 0), (1277, .map [] 0), o126, o32, o34, o35, o36, o425, o38, o39, o40, o41, o369, o120, o125, o128, o236, o155, o178, o372, o406, o196, o201, o206, o409]⟩
noncomputable def s38 : Summ := segS a38 p38 v38 q38
set_option maxRecDepth 1000000
theorem r38 : segR c38 60 24 a38 p38 v38 q38 = true := by decide +kernel
theorem x38 : CtxOK c38 := ⟨names_of KBase.names, KBase.mixed, KBase.S0_ok⟩
theorem k38 : SummOK Tryz.prog 24 s38 := seg_summ x38 r38
end SH
end Go.Ab
