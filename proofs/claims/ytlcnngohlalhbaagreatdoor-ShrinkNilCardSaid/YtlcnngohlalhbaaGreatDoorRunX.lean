import Derived.Test.YtlcnngohlalhbaaGreatDoorRunG
import Derived.Test.YtlcnngohlalhbaaGreatDoorRunH
import Derived.Test.YtlcnngohlalhbaaGreatDoorRunR
import Derived.Test.YtlcnngohlalhbaaGreatDoorRunS
import Derived.Test.YtlcnngohlalhbaaGreatDoorRunT
import Derived.Test.YtlcnngohlalhbaaGreatDoorRunU
import Derived.Test.YtlcnngohlalhbaaGreatDoorRunV
import Derived.Test.YtlcnngohlalhbaaGreatDoorRunW
import Derived.Test.YtlcnngohlalhbaaGreatDoorBase
import Derived.Test.YtlcnngohlalhbaaGreatDoorData
namespace Go.Ab
open Go.RowKit Go.Proofs
namespace SH
noncomputable def c31 : Ctx := ⟨Tryz.prog, (addS 257 (orS (atNx 4551) s23 (orS (atNx 37366) s25 (orS (atNx 70189) s28 (orS (atNx 102985) s30 badS)))) (addS 256 (orS (atNx 4441) s19 (orS (atNx 4477) s20 (orS (atNx 4503) s21 (orS (atNx 4527) s22 (orS (atNx 37332) s24 (orS (atNx 70145) s26 (orS (atNx 70169) s27 (orS (atNx 102965) s29 badS)))))))) KBase.S0)), fun _ => false⟩
noncomputable def a31 : List AV := [(.ptr (.o (.o (.o (.o (.o (.i (.o (.o .h)))))))) 0), (.func 233 [(.ptr (.o (.o (.o (.o (.o (.i (.o (.o .h)))))))) 0)] [])]
noncomputable def p31 : Stt := ⟨4434, [o2, (7, .map [] 12), o1, o182, o183, o184, o185, o186, o187, o58, o135, o10, o11, o174, o188, o16, o17, o18, o19, o20, o21, o22, o23, o24, o25, (1269, .map [] 0), o27, o189, o190, o28, o29, o30, (1276, .map [] 0), (1277, .map [] 0), o126, o32, o34, o35, o36, o37, o38, o39, o40, o41, o49, o136, o52, o53, o65, o191, o68, o69, o70, o88, o89, o117, o102, o119, o105, o106, o109, o110, o111, o120, o121, o122, o123, o124, o125, o128, o138, o139, o140, o141, o151, o153, o154, o155, o156, o157, o158, o160, o161, o162, o176, o177, o178, o179, o180, o181, o192, o193, o194, o195, o196, o197, o198, o199, o200, o201, o202, o203, o204, o205, o206, o207]⟩
noncomputable def v31 : AV := (.tup [(.int .i64 (.ofNat 8)), (.int .i64 (.ofNat 0))])
noncomputable def q31 : Stt := ⟨102990, [o395, (7, .map [] 20), o1, o182, o183, (285, .map [] 12), (286, .map [] 6), o186, o187, o58, o229, o10, o11, o230, o396, o16, o17, o18, o19, o20, o21, o22, o23, o24, o25, (1269, .map [] 0), o27, o189, o190, o28, o29, o30, (1276, .map [] 0), (1277, .map [] 0), o126, o32, o34, o35, o36, o37, o38, o39, o40, o41, o49, o231, o52, o210, o65, o397, o68, o334, o70, o88, o211, o369, o102, o370, o105, o215, o109, o335, o111, o120, o121, o358, o123, o371, o125, o128, o138, o139, o212, o235, o236, o153, o237, o155, o156, o219, o238, o160, o336, o162, o176, o239, o178, o179, o223, o240, o372, o392, o194, o373, o196, o197, o363, o199, o374, o201, o202, o393, o204, o398, o206, o207, o242, o245, o246, o376, o377, o399]⟩
noncomputable def s31 : Summ := segS a31 p31 v31 q31
set_option maxRecDepth 1000000
theorem r31 : segR c31 60 190 a31 p31 v31 q31 = true := by decide +kernel
theorem x31 : CtxOK c31 := ⟨names_of KBase.names, KBase.mixed, (addS_ok (orS_ok k23 (orS_ok k25 (orS_ok k28 (orS_ok k30 badS_ok)))) (addS_ok (orS_ok k19 (orS_ok k20 (orS_ok k21 (orS_ok k22 (orS_ok k24 (orS_ok k26 (orS_ok k27 (orS_ok k29 badS_ok)))))))) KBase.S0_ok))⟩
theorem k31 : SummOK Tryz.prog 190 s31 := seg_summ x31 r31
end SH
end Go.Ab
namespace Go.Ab
open Go.RowKit Go.Proofs
namespace SH
noncomputable def c32 : Ctx := ⟨Tryz.prog, (addS 190 (orS (atNx 4434) s31 badS) KBase.S0), fun _ => false⟩
noncomputable def a32 : List AV := [(.ptr (.o (.o (.o (.o (.o (.i (.o (.o .h)))))))) 0)]
noncomputable def p32 : Stt := ⟨4434, [o2, (7, .map [] 12), o1, o182, o183, o184, o185, o186, o187, o58, o135, o10, o11, o174, o188, o16, o17, o18, o19, o20, o21, o22, o23, o24, o25, (1269, .map [] 0), o27, o189, o190, o28, o29, o30, (1276, .map [] 0), (1277, .map [] 0), o126, o32, o34, o35, o36, o37, o38, o39, o40, o41, o49, o136, o52, o53, o65, o191, o68, o69, o70, o88, o89, o117, o102, o119, o105, o106, o109, o110, o111, o120, o121, o122, o123, o124, o125, o128, o138, o139, o140, o141, o151, o153, o154, o155, o156, o157, o158, o160, o161, o162, o176, o177, o178, o179, o180, o181, o192, o193, o194, o195, o196, o197, o198, o199, o200, o201, o202, o203, o204, o205, o206, o207]⟩
noncomputable def v32 : AV := (.tup [(.int .i64 (.ofNat 8)), (.int .i64 (.ofNat 0))])
noncomputable def q32 : Stt := ⟨102990, [o395, (7, .map [] 20), o1, o182, o183, (285, .map [] 12), (286, .map [] 6), o186, o187, o58, o229, o10, o11, o230, o396, o16, o17, o18, o19, o20, o21, o22, o23, o24, o25, (1269, .map [] 0), o27, o189, o190, o28, o29, o30, (1276, .map [] 0), (1277, .map [] 0), o126, o32, o34, o35, o36, o37, o38, o39, o40, o41, o49, o231, o52, o210, o65, o397, o68, o334, o70, o88, o211, o369, o102, o370, o105, o215, o109, o335, o111, o120, o121, o358, o123, o371, o125, o128, o138, o139, o212, o235, o236, o153, o237, o155, o156, o219, o238, o160, o336, o162, o176, o239, o178, o179, o223, o240, o372, o392, o194, o373, o196, o197, o363, o199, o374, o201, o202, o393, o204, o398, o206, o207, o242, o245, o246, o376, o377, o399]⟩
noncomputable def s32 : Summ := segS a32 p32 v32 q32
set_option maxRecDepth 1000000
theorem r32 : segR c32 60 157 a32 p32 v32 q32 = true := by decide +kernel
theorem x32 : CtxOK c32 := ⟨names_of KBase.names, KBase.mixed, (addS_ok (orS_ok k31 badS_ok) KBase.S0_ok)⟩
theorem k32 : SummOK Tryz.prog 157 s32 := seg_summ x32 r32
end SH
end Go.Ab
namespace Go.Ab
open Go.RowKit Go.Proofs
namespace SH
noncomputable def c33 : Ctx := ⟨Tryz.prog, KBase.S0, fun _ => false⟩
noncomputable def a33 : List AV := [(.ptr (.o (.o (.o (.o (.o (.i (.o (.o .h)))))))) 0), (.int .i64 (.ofNat 2))]
noncomputable def p33 : Stt := ⟨103173, [o395, (7, .map [] 20), o1, o182, o183, o402, o403, o404, o6, o58, o405, o10, o11, o230, o396, o16, o17, o18, o19, o20, o21, o22, o23, o24, o25, (1269, .map [] 0), o27, o189, o190, o28, o29, o30, (1276, .map [] 0), (1277, .map [] 0), o126, o32, o34, o35, o36, o37, o38, o39, o40, o41, o49, o231, o52, o210, o65, o397, o68, o334, o70, o88, o211, o369, o102, o370, o105, o215, o109, o335, o111, o120, o121, o358, o123, o371, o125, o128, o138, o139, o212, o235, o236, o153, o237, o155, o156, o219, o238, o160, o336, o162, o176, o239, o178, o179, o223, o240, o372, o406, o194, o373, o196, o197, o363, o199, o374, o201, o202, o393, o204, o398, o206, o207, o242, o245, o246, o376, o377, o399, o407, o408, o409, o410, o411, o412, o413]⟩
noncomputable def v33 : AV := (.int .i64 (.ofNat 0))
noncomputable def q33 : Stt := ⟨103193, [o395, o414, o1, o182, o183, o402, o403, o404, o6, o58, o405, o10, o11, o230, o396, o16, o17, o18, o19, o20, o21, o22, o23, o24, o25, (1269, .map [] 0), o27, o189, o190, o28, o29, o30, (1276, .map [] 0), (1277, .map [] 0), o126, o32, o34, o35, o36, o37, o38, o39, o40, o41, o49, o231, o52, o210, o65, o397, o68, o334, o70, o88, o211, o369, o102, o370, o105, o215, o109, o335, o111, o120, o121, o358, o123, o371, o125, o128, o138, o139, o212, o235, o236, o153, o237, o155, o156, o219, o238, o160, o336, o162, o176, o239, o178, o179, o223, o240, o372, o406, o194, o373, o196, o197, o363, o199, o374, o201, o202, o393, o204, o398, o206, o207, o242, o245, o246, o376, o377, o399, o407, o408, o409, o410, o415, o412, o413, o416]⟩
noncomputable def s33 : Summ := segS a33 p33 v33 q33
set_option maxRecDepth 1000000
theorem r33 : segR c33 60 256 a33 p33 v33 q33 = true := by decide +kernel
theorem x33 : CtxOK c33 := ⟨names_of KBase.names, KBase.mixed, KBase.S0_ok⟩
theorem k33 : SummOK Tryz.prog 256 s33 := seg_summ x33 r33
end SH
end Go.Ab
