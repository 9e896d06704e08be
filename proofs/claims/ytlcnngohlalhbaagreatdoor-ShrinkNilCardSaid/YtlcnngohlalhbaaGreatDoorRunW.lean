import Derived.Test.YtlcnngohlalhbaaGreatDoorBase
import Derived.Test.YtlcnngohlalhbaaGreatDoorMachineE
import Derived.ProofKit
import Derived.Test.YtlcnngohlalhbaaGreatDoorData
namespace Go.Ab
open Go.RowKit Go.Proofs
namespace SH
noncomputable def c29 : Ctx := ⟨Tryz.prog, KBase.S0, fun _ => false⟩
noncomputable def a29 : List AV := [(.ptr (.o (.o (.o (.o (.o (.i (.o (.o .h)))))))) 0), (.int .i64 (.ofNat 3))]
noncomputable def p29 : Stt := ⟨102965, [o365, (7, .map [] 19), o1, o182, o183, o366, o367, o186, o187, o58, o229, o10, o11, o230, o188, o16, o17, o18, o19, o20, o21, o22, o23, o24, o25, (1269, .map [] 0), o27, o189, o190, o28, o29, o30, (1276, .map [] 0), (1277, .map [] 0), o126, o32, o34, o35, o36, o37, o38, o39, o40, o41, o49, o231, o52, o210, o65, o368, o68, o334, o70, o88, o211, o369, o102, o370, o105, o215, o109, o335, o111, o120, o121, o358, o123, o371, o125, o128, o138, o139, o212, o235, o236, o153, o237, o155, o156, o219, o238, o160, o336, o162, o176, o239, o178, o179, o223, o240, o372, o362, o194, o373, o196, o197, o363, o199, o374, o201, o202, o203, o204, o344, o206, o207, o242, o245, o246, o375, o376, o377, o390]⟩
noncomputable def v29 : AV := (.int .i64 (.ofNat 0))
noncomputable def q29 : Stt := ⟨102985, [o365, o391, o1, o182, o183, o366, o367, o186, o187, o58, o229, o10, o11, o230, o188, o16, o17, o18, o19, o20, o21, o22, o23, o24, o25, (1269, .map [] 0), o27, o189, o190, o28, o29, o30, (1276, .map [] 0), (1277, .map [] 0), o126, o32, o34, o35, o36, o37, o38, o39, o40, o41, o49, o231, o52, o210, o65, o368, o68, o334, o70, o88, o211, o369, o102, o370, o105, o215, o109, o335, o111, o120, o121, o358, o123, o371, o125, o128, o138, o139, o212, o235, o236, o153, o237, o155, o156, o219, o238, o160, o336, o162, o176, o239, o178, o179, o223, o240, o372, o392, o194, o373, o196, o197, o363, o199, o374, o201, o202, o393, o204, o344, o206, o207, o242, o245, o246, o375, o376, o377, o390, o394]⟩
noncomputable def s29 : Summ := segS a29 p29 v29 q29
set_option maxRecDepth 1000000
theorem r29 : segR c29 60 256 a29 p29 v29 q29 = true := by decide +kernel
theorem x29 : CtxOK c29 := ⟨names_of KBase.names, KBase.mixed, KBase.S0_ok⟩
theorem k29 : SummOK Tryz.prog 256 s29 := seg_summ x29 r29
end SH
end Go.Ab
namespace Go.Ab
open Go.RowKit Go.Proofs
namespace SH
noncomputable def c30 : Ctx := ⟨Tryz.prog, KBase.S0, fun _ => false⟩
noncomputable def a30 : List AV := [(.ptr (.o (.o (.o (.o (.o (.i (.o (.o .h)))))))) 0)]
noncomputable def p30 : Stt := ⟨102985, [o365, o391, o1, o182, o183, o366, o367, o186, o187, o58, o229, o10, o11, o230, o188, o16, o17, o18, o19, o20, o21, o22, o23, o24, o25, (1269, .map [] 0), o27, o189, o190, o28, o29, o30, (1276, .map [] 0), (1277, .map [] 0), o126, o32, o34, o35, o36, o37, o38, o39, o40, o41, o49, o231, o52, o210, o65, o368, o68, o334, o70, o88, o211, o369, o102, o370, o105, o215, o109, o335, o111, o120, o121, o358, o123, o371, o125, o128, o138, o139, o212, o235, o236, o153, o237, o155, o156, o219, o238, o160, o336, o162, o176, o239, o178, o179, o223, o240, o372, o392, o194, o373, o196, o197, o363, o199, o374, o201, o202, o393, o204, o344, o206, o207, o242, o245, o246, o375, o376, o377, o390, o394]⟩
noncomputable def v30 : AV := (.int .i64 (.ofNat 0))
noncomputable def q30 : Stt := ⟨102990, [o395, (7, .map [] 20), o1, o182, o183, (285, .map [] 12), (286, .map [] 6), o186, o187, o58, o229, o10, o11, o230, o396, o16, o17, o18, o19, o20, o21, o22, o23, o24, o25, (1269, .map [] 0), o27, o189, o190, o28, o29, o30, (1276, .map [] 0), (1277, .map [] 0), o126, o32, o34, o35, o36, o37, o38, o39, o40, o41, o49, o231, o52, o210, o65, o397, o68, o334, o70, o88, o211, o369, o102, o370, o105, o215, o109, o335, o111, o120, o121, o358, o123, o371, o125, o128, o138, o139, o212, o235, o236, o153, o237, o155, o156, o219, o238, o160, o336, o162, o176, o239, o178, o179, o223, o240, o372, o392, o194, o373, o196, o197, o363, o199, o374, o201, o202, o393, o204, o398, o206, o207, o242, o245, o246, o375, o376, o377, o390, o394, o399]⟩
noncomputable def s30 : Summ := segS a30 p30 v30 q30
noncomputable def l30 : List (Nat × AV) := [(0, (.ptr (.o (.o (.o (.o (.o (.i (.o (.o .h)))))))) 0)), (3, (.int .i64 (.ofNat 0))), (15, (.int .i64 (.ofNat 0))), (11, (.ptr (.o (.o (.o (.o (.o (.i (.o (.o .h)))))))) 0)), (19, (.ptr (.o (.o (.o (.o (.o (.i (.o (.o .h)))))))) 0)), (9, (.bool false)), (13, (.ptr (.i (.o (.i (.i (.i (.o (.o (.o .h)))))))) 0)), (21, (.map (.i (.i (.i (.i (.i (.o (.o (.o .h)))))))))), (2, (.int .i64 (.ofNat 0))), (8, (.ptr (.o (.o (.o (.o (.o (.i (.o (.o .h)))))))) 0)), (16, (.bool false)), (12, (.ptr (.o (.o (.o (.o (.o (.i (.o (.o .h)))))))) 0)), (20, (.ptr (.o (.o (.o (.o (.o (.i (.o (.o .h)))))))) 4)), (10, (.ptr (.o (.o (.o (.o (.o (.i (.o (.o .h)))))))) 0)), (18, (.ptr (.o (.o (.o (.o (.o (.i (.o (.o .h)))))))) 0)), (14, (.int .i64 (.ofNat 0))), (22, (.ptr (.o (.o (.i (.i (.o (.o (.i (.o (.o (.i (.o (.o (.i (.o (.o (.i .h)))))))))))))))) 0))]
noncomputable def g30x0 : Stg := ⟨102985, [(102985, 3)], [o395, (7, .map [] 20), o1, o182, o183, o366, o367, o186, o187, o58, o229, o10, o11, o230, o188, o16, o17, o18, o19, o20, o21, o22, o23, o24, o25, (1269, .map [] 0), o27, o189, o190, o28, o29, o30, (1276, .map [] 0), (1277, .map [] 0), o126, o32, o34, o35, o36, o37, o38, o39, o40, o41, o49, o231, o52, o210, o65, o368, o68, o334, o70, o88, o211, o369, o102, o370, o105, o215, o109, o335, o111, o120, o121, o358, o123, o371, o125, o128, o138, o139, o212, o235, o236, o153, o237, o155, o156, o219, o238, o160, o336, o162, o176, o239, o178, o179, o223, o240, o372, o392, o194, o373, o196, o197, o363, o199, o374, o201, o202, o393, o204, o344, o206, o207, o242, o245, o246, o375, o376, o377, o390, o394, o400], 102988⟩
noncomputable def g30x1 : Stg := ⟨102985, [(102985, 5)], [o395, (7, .map [] 20), o1, o182, o183, (285, .map [] 12), (286, .map [] 6), o186, o187, o58, o229, o10, o11, o230, o396, o16, o17, o18, o19, o20, o21, o22, o23, o24, o25, (1269, .map [] 0), o27, o189, o190, o28, o29, o30, (1276, .map [] 0), (1277, .map [] 0), o126, o32, o34, o35, o36, o37, o38, o39, o40, o41, o49, o231, o52, o210, o65, o397, o68, o334, o70, o88, o211, o369, o102, o370, o105, o215, o109, o335, o111, o120, o121, o358, o123, o371, o125, o128, o138, o139, o212, o235, o236, o153, o237, o155, o156, o219, o238, o160, o336, o162, o176, o239, o178, o179, o223, o240, o372, o392, o194, o373, o196, o197, o363, o199, o374, o201, o202, o393, o204, o398, o206, o207, o242, o245, o246, o375, o376, o377, o390, o394, o401, o399], 102988⟩
noncomputable def h30 : Stg := ⟨102990, [], [o395, (7, .map [] 20), o1, o182, o183, (285, .map [] 12), (286, .map [] 6), o186, o187, o58, o229, o10, o11, o230, o396, o16, o17, o18, o19, o20, o21, o22, o23, o24, o25, (1269, .map [] 0), o27, o189, o190, o28, o29, o30, (1276, .map [] 0), (1277, .map [] 0), o126, o32, o34, o35, o36, o37, o38, o39, o40, o41, o49, o231, o52, o210, o65, o397, o68, o334, o70, o88, o211, o369, o102, o370, o105, o215, o109, o335, o111, o120, o121, o358, o123, o371, o125, o128, o138, o139, o212, o235, o236, o153, o237, o155, o156, o219, o238, o160, o336, o162, o176, o239, o178, o179, o223, o240, o372, o392, o194, o373, o196, o197, o363, o199, o374, o201, o202, o393, o204, o398, o206, o207, o242, o245, o246, o375, o376, o377, o390, o394, o401, o399], 102990⟩
noncomputable def t30 : Tab := ⟨0, 80, 2, fun _ => l30, fun j => [g30x0, g30x1].getD j g30x0, l30, h30⟩
noncomputable def b30 : Code := Tryz.f257.body.getD .skip
noncomputable def d30 : Code := loopAt .skip (blocksAt 0 b30)
set_option maxRecDepth 1000000
theorem u30x0 : t30.step c30 60 d30 0 [1] = true := by decide +kernel
theorem u30x1 : t30.step c30 60 d30 1 [] = true := by decide +kernel
theorem wt30 : t30.OK c30 60 d30 0 := (Tab.ok_step [1] u30x0 (Tab.ok_step [] u30x1 (Tab.ok_end t30 c30 60 d30 (Nat.le_refl _))))
theorem y30 : segT c30 60 257 t30 Tryz.f257 a30 p30 v30 q30 = true := by decide +kernel
theorem x30 : CtxOK c30 := ⟨names_of KBase.names, KBase.mixed, KBase.S0_ok⟩
theorem k30 : SummOK Tryz.prog 257 s30 := segT_summ (c := b30) (lb := d30) x30 Tryz.func257 (by kernel_rfl) (by kernel_rfl) (by kernel_rfl) wt30 y30
end SH
end Go.Ab
