import Derived.Test.YtlcnngohlalhbaaGreatDoorBase
import Derived.Test.YtlcnngohlalhbaaGreatDoorData
namespace Go.Ab
open Go.RowKit Go.Proofs
namespace SH
noncomputable def c26 : Ctx := ⟨Tryz.prog, KBase.S0, fun _ => false⟩
noncomputable def a26 : List AV := [(.ptr (.o (.o (.o (.o (.o (.i (.o (.o .h)))))))) 0), (.int .i64 (.ofNat 5))]
noncomputable def p26 : Stt := ⟨70145, [o339, (7, .map [] 17), o1, o182, o183, o340, o228, o186, o187, o58, o229, o10, o11, o230, o188, o16, o17, o18, o19, o20, o21, o22, o23, o24, o25, (1269, .map [] 0), o27, o189, o190, o28, o29, o30, (1276, .map [] 0), (1277, .map [] 0), o126, o32, o34, o35, o36, o37, o38, o39, o40, o41, o49, o231, o52, o210, o65, o341, o68, o334, o70, o88, o211, o117, o102, o342, o105, o215, o109, o335, o111, o120, o121, o122, o123, o234, o125, o128, o138, o139, o212, o235, o236, o153, o237, o155, o156, o219, o238, o160, o336, o162, o176, o239, o178, o179, o223, o240, o192, o337, o194, o343, o196, o197, o198, o199, o200, o201, o202, o203, o204, o344, o206, o207, o242, o245, o246, o345, o346, o347, o356]⟩
noncomputable def v26 : AV := (.int .i64 (.ofNat 0))
noncomputable def q26 : Stt := ⟨70165, [o339, o357, o1, o182, o183, o340, o228, o186, o187, o58, o229, o10, o11, o230, o188, o16, o17, o18, o19, o20, o21, o22, o23, o24, o25, (1269, .map [] 0), o27, o189, o190, o28, o29, o30, (1276, .map [] 0), (1277, .map [] 0), o126, o32, o34, o35, o36, o37, o38, o39, o40, o41, o49, o231, o52, o210, o65, o341, o68, o334, o70, o88, o211, o117, o102, o342, o105, o215, o109, o335, o111, o120, o121, o358, o123, o234, o125, o128, o138, o139, o212, o235, o236, o153, o237, o155, o156, o219, o238, o160, o336, o162, o176, o239, o178, o179, o223, o240, o192, o359, o194, o343, o196, o197, o198, o199, o200, o201, o202, o203, o204, o344, o206, o207, o242, o245, o246, o345, o346, o347, o356, o360]⟩
noncomputable def s26 : Summ := segS a26 p26 v26 q26
set_option maxRecDepth 1000000
theorem r26 : segR c26 60 256 a26 p26 v26 q26 = true := by decide +kernel
theorem x26 : CtxOK c26 := ⟨names_of KBase.names, KBase.mixed, KBase.S0_ok⟩
theorem k26 : SummOK Tryz.prog 256 s26 := seg_summ x26 r26
end SH
end Go.Ab
namespace Go.Ab
open Go.RowKit Go.Proofs
namespace SH
noncomputable def c27 : Ctx := ⟨Tryz.prog, KBase.S0, fun _ => false⟩
noncomputable def a27 : List AV := [(.ptr (.o (.o (.o (.o (.o (.i (.o (.o .h)))))))) 0), (.int .i64 (.ofNat 55))]
noncomputable def p27 : Stt := ⟨70169, [o339, o357, o1, o182, o183, o340, o228, o186, o187, o58, o229, o10, o11, o230, o188, o16, o17, o18, o19, o20, o21, o22, o23, o24, o25, (1269, .map [] 0), o27, o189, o190, o28, o29, o30, (1276, .map [] 0), (1277, .map [] 0), o126, o32, o34, o35, o36, o37, o38, o39, o40, o41, o49, o231, o52, o210, o65, o341, o68, o334, o70, o88, o211, o117, o102, o342, o105, o215, o109, o335, o111, o120, o121, o358, o123, o234, o125, o128, o138, o139, o212, o235, o236, o153, o237, o155, o156, o219, o238, o160, o336, o162, o176, o239, o178, o179, o223, o240, o192, o359, o194, o343, o196, o197, o198, o199, o200, o201, o202, o203, o204, o344, o206, o207, o242, o245, o246, o345, o346, o347, o356, o360]⟩
noncomputable def v27 : AV := (.int .i64 (.ofNat 0))
noncomputable def q27 : Stt := ⟨70189, [o339, o361, o1, o182, o183, o340, o228, o186, o187, o58, o229, o10, o11, o230, o188, o16, o17, o18, o19, o20, o21, o22, o23, o24, o25, (1269, .map [] 0), o27, o189, o190, o28, o29, o30, (1276, .map [] 0), (1277, .map [] 0), o126, o32, o34, o35, o36, o37, o38, o39, o40, o41, o49, o231, o52, o210, o65, o341, o68, o334, o70, o88, o211, o117, o102, o342, o105, o215, o109, o335, o111, o120, o121, o358, o123, o234, o125, o128, o138, o139, o212, o235, o236, o153, o237, o155, o156, o219, o238, o160, o336, o162, o176, o239, o178, o179, o223, o240, o192, o362, o194, o343, o196, o197, o363, o199, o200, o201, o202, o203, o204, o344, o206, o207, o242, o245, o246, o345, o346, o347, o356, o360, o364]⟩
noncomputable def s27 : Summ := segS a27 p27 v27 q27
set_option maxRecDepth 1000000
theorem r27 : segR c27 60 256 a27 p27 v27 q27 = true := by decide +kernel
theorem x27 : CtxOK c27 := ⟨names_of KBase.names, KBase.mixed, KBase.S0_ok⟩
theorem k27 : SummOK Tryz.prog 256 s27 := seg_summ x27 r27
end SH
end Go.Ab
