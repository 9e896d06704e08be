import Derived.Test.YtlcnngohlalhbaaGreatDoorBase
import Derived.Test.YtlcnngohlalhbaaGreatDoorData
namespace Go.Ab
open Go.RowKit Go.Proofs
namespace SH
noncomputable def c24 : Ctx := ⟨Tryz.prog, KBase.S0, fun _ => false⟩
noncomputable def a24 : List AV := [(.ptr (.o (.o (.o (.o (.o (.i (.o (.o .h)))))))) 0), (.int .i64 (.ofNat 3))]
noncomputable def p24 : Stt := ⟨37332, [o226, (7, .map [] 16), o1, o182, o183, o227, o228, o186, o187, o58, o229, o10, o11, o230, o188, o16, o17, o18, o19, o20, o21, o22, o23, o24, o25, (1269, .map [] 0), o27, o189, o190, o28, o29, o30, (1276, .map [] 0), (1277, .map [] 0), o126, o32, o34, o35, o36, o37, o38, o39, o40, o41, o49, o231, o52, o210, o65, o232, o68, o69, o70, o88, o211, o117, o102, o233, o105, o215, o109, o110, o111, o120, o121, o122, o123, o234, o125, o128, o138, o139, o212, o235, o236, o153, o237, o155, o156, o219, o238, o160, o161, o162, o176, o239, o178, o179, o223, o240, o192, o224, o194, o241, o196, o197, o198, o199, o200, o201, o202, o203, o204, o205, o206, o207, o242, o243, o244, o245, o246, o247, o332]⟩
noncomputable def v24 : AV := (.int .i64 (.ofNat 0))
noncomputable def q24 : Stt := ⟨37358, [o226, o333, o1, o182, o183, o227, o228, o186, o187, o58, o229, o10, o11, o230, o188, o16, o17, o18, o19, o20, o21, o22, o23, o24, o25, (1269, .map [] 0), o27, o189, o190, o28, o29, o30, (1276, .map [] 0), (1277, .map [] 0), o126, o32, o34, o35, o36, o37, o38, o39, o40, o41, o49, o231, o52, o210, o65, o232, o68, o334, o70, o88, o211, o117, o102, o233, o105, o215, o109, o335, o111, o120, o121, o122, o123, o234, o125, o128, o138, o139, o212, o235, o236, o153, o237, o155, o156, o219, o238, o160, o336, o162, o176, o239, o178, o179, o223, o240, o192, o337, o194, o241, o196, o197, o198, o199, o200, o201, o202, o203, o204, o205, o206, o207, o242, o243, o244, o245, o246, o247, o332, o338]⟩
noncomputable def s24 : Summ := segS a24 p24 v24 q24
set_option maxRecDepth 1000000
theorem r24 : segR c24 60 256 a24 p24 v24 q24 = true := by decide +kernel
theorem x24 : CtxOK c24 := ⟨names_of KBase.names, KBase.mixed, KBase.S0_ok⟩
theorem k24 : SummOK Tryz.prog 256 s24 := seg_summ x24 r24
end SH
end Go.Ab
