import Derived.Test.YtlcnngohlalhbaaGreatDoorBase
import Derived.Test.YtlcnngohlalhbaaGreatDoorData
namespace Go.Ab
open Go.RowKit Go.Proofs
namespace SH
noncomputable def c21 : Ctx := ⟨Tryz.prog, KBase.S0, fun _ => false⟩
noncomputable def a21 : List AV := [(.ptr (.o (.o (.o (.o (.o (.i (.o (.o .h)))))))) 0), (.int .i64 (.ofNat 6))]
noncomputable def p21 : Stt := ⟨4503, [o2, o214, o1, o182, o183, o184, o185, o186, o187, o58, o135, o10, o11, o174, o188, o16, o17, o18, o19, o20, o21, o22, o23, o24, o25, (1269, .map [] 0), o27, o189, o190, o28, o29, o30, (1276, .map [] 0), (1277, .map [] 0), o126, o32, o34, o35, o36, o37, o38, o39, o40, o41, o49, o136, o52, o210, o65, o191, o68, o69, o70, o88, o211, o117, o102, o119, o105, o215, o109, o110, o111, o120, o121, o122, o123, o124, o125, o128, o138, o139, o212, o141, o151, o153, o154, o155, o156, o157, o158, o160, o161, o162, o176, o177, o178, o179, o180, o181, o192, o216, o194, o195, o196, o197, o198, o199, o200, o201, o202, o203, o204, o205, o206, o207, o208, o213, o217]⟩
noncomputable def v21 : AV := (.int .i64 (.ofNat 0))
noncomputable def q21 : Stt := ⟨4523, [o2, o218, o1, o182, o183, o184, o185, o186, o187, o58, o135, o10, o11, o174, o188, o16, o17, o18, o19, o20, o21, o22, o23, o24, o25, (1269, .map [] 0), o27, o189, o190, o28, o29, o30, (1276, .map [] 0), (1277, .map [] 0), o126, o32, o34, o35, o36, o37, o38, o39, o40, o41, o49, o136, o52, o210, o65, o191, o68, o69, o70, o88, o211, o117, o102, o119, o105, o215, o109, o110, o111, o120, o121, o122, o123, o124, o125, o128, o138, o139, o212, o141, o151, o153, o154, o155, o156, o219, o158, o160, o161, o162, o176, o177, o178, o179, o180, o181, o192, o220, o194, o195, o196, o197, o198, o199, o200, o201, o202, o203, o204, o205, o206, o207, o208, o213, o217, o221]⟩
noncomputable def s21 : Summ := segS a21 p21 v21 q21
set_option maxRecDepth 1000000
theorem r21 : segR c21 60 256 a21 p21 v21 q21 = true := by decide +kernel
theorem x21 : CtxOK c21 := ⟨names_of KBase.names, KBase.mixed, KBase.S0_ok⟩
theorem k21 : SummOK Tryz.prog 256 s21 := seg_summ x21 r21
end SH
end Go.Ab
namespace Go.Ab
open Go.RowKit Go.Proofs
namespace SH
noncomputable def c22 : Ctx := ⟨Tryz.prog, KBase.S0, fun _ => false⟩
noncomputable def a22 : List AV := [(.ptr (.o (.o (.o (.o (.o (.i (.o (.o .h)))))))) 0), (.int .i64 (.ofNat 50))]
noncomputable def p22 : Stt := ⟨4527, [o2, o218, o1, o182, o183, o184, o185, o186, o187, o58, o135, o10, o11, o174, o188, o16, o17, o18, o19, o20, o21, o22, o23, o24, o25, (1269, .map [] 0), o27, o189, o190, o28, o29, o30, (1276, .map [] 0), (1277, .map [] 0), o126, o32, o34, o35, o36, o37, o38, o39, o40, o41, o49, o136, o52, o210, o65, o191, o68, o69, o70, o88, o211, o117, o102, o119, o105, o215, o109, o110, o111, o120, o121, o122, o123, o124, o125, o128, o138, o139, o212, o141, o151, o153, o154, o155, o156, o219, o158, o160, o161, o162, o176, o177, o178, o179, o180, o181, o192, o220, o194, o195, o196, o197, o198, o199, o200, o201, o202, o203, o204, o205, o206, o207, o208, o213, o217, o221]⟩
noncomputable def v22 : AV := (.int .i64 (.ofNat 0))
noncomputable def q22 : Stt := ⟨4547, [o2, o222, o1, o182, o183, o184, o185, o186, o187, o58, o135, o10, o11, o174, o188, o16, o17, o18, o19, o20, o21, o22, o23, o24, o25, (1269, .map [] 0), o27, o189, o190, o28, o29, o30, (1276, .map [] 0), (1277, .map [] 0), o126, o32, o34, o35, o36, o37, o38, o39, o40, o41, o49, o136, o52, o210, o65, o191, o68, o69, o70, o88, o211, o117, o102, o119, o105, o215, o109, o110, o111, o120, o121, o122, o123, o124, o125, o128, o138, o139, o212, o141, o151, o153, o154, o155, o156, o219, o158, o160, o161, o162, o176, o177, o178, o179, o223, o181, o192, o224, o194, o195, o196, o197, o198, o199, o200, o201, o202, o203, o204, o205, o206, o207, o208, o213, o217, o221, o225]⟩
noncomputable def s22 : Summ := segS a22 p22 v22 q22
set_option maxRecDepth 1000000
theorem r22 : segR c22 60 256 a22 p22 v22 q22 = true := by decide +kernel
theorem x22 : CtxOK c22 := ⟨names_of KBase.names, KBase.mixed, KBase.S0_ok⟩
theorem k22 : SummOK Tryz.prog 256 s22 := seg_summ x22 r22
end SH
end Go.Ab
