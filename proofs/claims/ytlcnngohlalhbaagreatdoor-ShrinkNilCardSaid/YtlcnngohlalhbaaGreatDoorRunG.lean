import Derived.Test.YtlcnngohlalhbaaGreatDoorRunF
import Derived.Test.YtlcnngohlalhbaaGreatDoorBase
import Derived.Test.YtlcnngohlalhbaaGreatDoorData
namespace Go.Ab
open Go.RowKit Go.Proofs
namespace SH
noncomputable def c18 : Ctx := ⟨Tryz.prog, (addS 164 (orS (atNx 3968) s17 badS) KBase.S0), fun _ => false⟩
noncomputable def a18 : List AV := [(.ptr (.o (.i (.o (.o (.o (.o (.o (.o (.i (.o .h)))))))))) 0), (.int .i64 (.ofNat 6)), (.int .i64 (.ofNat 54))]
noncomputable def p18 : Stt := ⟨3726, [o2, (7, .map [] 12), o1, o142, o143, o144, o145, o146, o6, o58, o135, o10, o11, o12, o13, o147, o16, o17, o18, o19, o20, o21, o22, o23, o24, o25, (1269, .map [] 0), o27, o148, o149, o28, o29, o30, (1276, .map [] 0), (1277, .map [] 0), o126, o32, o34, o35, o36, o37, o38, o39, o40, o41, o49, o136, o52, o53, o65, o150, o68, o69, o70, o88, o89, o117, o102, o119, o105, o106, o109, o110, o111, o120, o121, o122, o123, o124, o125, o128, o138, o139, o140, o141, o151, o152, o153, o154, o155, o156, o157, o158, o159, o160, o161, o162, o163, o164]⟩
noncomputable def v18 : AV := (.tup [(.int .i64 (.ofNat 55)), (.int .i64 (.ofNat 0))])
noncomputable def q18 : Stt := ⟨4434, [o2, (7, .map [] 12), o1, o182, o183, o184, o185, o186, o187, o58, o135, o10, o11, o12, o174, o188, o16, o17, o18, o19, o20, o21, o22, o23, o24, o25, (1269, .map [] 0), o27, o189, o190, o28, o29, o30, (1276, .map [] 0), (1277, .map [] 0), o126, o32, o34, o35, o36, o37, o38, o39, o40, o41, o49, o136, o52, o53, o65, o191, o68, o69, o70, o88, o89, o117, o102, o119, o105, o106, o109, o110, o111, o120, o121, o122, o123, o124, o125, o128, o138, o139, o140, o141, o151, o153, o154, o155, o156, o157, o158, o159, o160, o161, o162, o176, o177, o178, o179, o180, o181, o192, o193, o194, o195, o196, o197, o198, o199, o200, o201, o202, o203, o204, o205, o206, o207]⟩
noncomputable def s18 : Summ := segS a18 p18 v18 q18
set_option maxRecDepth 1000000
theorem r18 : segR c18 60 53 a18 p18 v18 q18 = true := by decide +kernel
theorem x18 : CtxOK c18 := ⟨names_of KBase.names, KBase.mixed, (addS_ok (orS_ok k17 badS_ok) KBase.S0_ok)⟩
theorem k18 : SummOK Tryz.prog 53 s18 := seg_summ x18 r18
end SH
end Go.Ab
namespace Go.Ab
open Go.RowKit Go.Proofs
namespace SH
noncomputable def c19 : Ctx := ⟨Tryz.prog, KBase.S0, fun _ => false⟩
noncomputable def a19 : List AV := [(.ptr (.o (.o (.o (.o (.o (.i (.o (.o .h)))))))) 0), (.int .i64 (.ofNat 2))]
noncomputable def p19 : Stt := ⟨4441, [o2, (7, .map [] 12), o1, o182, o183, o184, o185, o186, o187, o58, o135, o10, o11, o174, o188, o16, o17, o18, o19, o20, o21, o22, o23, o24, o25, (1269, .map [] 0), o27, o189, o190, o28, o29, o30, (1276, .map [] 0), (1277, .map [] 0), o126, o32, o34, o35, o36, o37, o38, o39, o40, o41, o49, o136, o52, o53, o65, o191, o68, o69, o70, o88, o89, o117, o102, o119, o105, o106, o109, o110, o111, o120, o121, o122, o123, o124, o125, o128, o138, o139, o140, o141, o151, o153, o154, o155, o156, o157, o158, o160, o161, o162, o176, o177, o178, o179, o180, o181, o192, o193, o194, o195, o196, o197, o198, o199, o200, o201, o202, o203, o204, o205, o206, o207, o208]⟩
noncomputable def v19 : AV := (.int .i64 (.ofNat 0))
noncomputable def q19 : Stt := ⟨4465, [o2, o209, o1, o182, o183, o184, o185, o186, o187, o58, o135, o10, o11, o174, o188, o16, o17, o18, o19, o20, o21, o22, o23, o24, o25, (1269, .map [] 0), o27, o189, o190, o28, o29, o30, (1276, .map [] 0), (1277, .map [] 0), o126, o32, o34, o35, o36, o37, o38, o39, o40, o41, o49, o136, o52, o210, o65, o191, o68, o69, o70, o88, o211, o117, o102, o119, o105, o106, o109, o110, o111, o120, o121, o122, o123, o124, o125, o128, o138, o139, o212, o141, o151, o153, o154, o155, o156, o157, o158, o160, o161, o162, o176, o177, o178, o179, o180, o181, o192, o193, o194, o195, o196, o197, o198, o199, o200, o201, o202, o203, o204, o205, o206, o207, o208, o213]⟩
noncomputable def s19 : Summ := segS a19 p19 v19 q19
set_option maxRecDepth 1000000
theorem r19 : segR c19 60 256 a19 p19 v19 q19 = true := by decide +kernel
theorem x19 : CtxOK c19 := ⟨names_of KBase.names, KBase.mixed, KBase.S0_ok⟩
theorem k19 : SummOK Tryz.prog 256 s19 := seg_summ x19 r19
end SH
end Go.Ab
namespace Go.Ab
open Go.RowKit Go.Proofs
namespace SH
noncomputable def c20 : Ctx := ⟨Tryz.prog, KBase.S0, fun _ => false⟩
noncomputable def a20 : List AV := [(.ptr (.o (.o (.o (.o (.o (.i (.o (.o .h)))))))) 0), (.int .i64 (.ofNat 5))]
noncomputable def p20 : Stt := ⟨4477, [o2, o209, o1, o182, o183, o184, o185, o186, o187, o58, o135, o10, o11, o174, o188, o16, o17, o18, o19, o20, o21, o22, o23, o24, o25, (1269, .map [] 0), o27, o189, o190, o28, o29, o30, (1276, .map [] 0), (1277, .map [] 0), o126, o32, o34, o35, o36, o37, o38, o39, o40, o41, o49, o136, o52, o210, o65, o191, o68, o69, o70, o88, o211, o117, o102, o119, o105, o106, o109, o110, o111, o120, o121, o122, o123, o124, o125, o128, o138, o139, o212, o141, o151, o153, o154, o155, o156, o157, o158, o160, o161, o162, o176, o177, o178, o179, o180, o181, o192, o193, o194, o195, o196, o197, o198, o199, o200, o201, o202, o203, o204, o205, o206, o207, o208, o213]⟩
noncomputable def v20 : AV := (.int .i64 (.ofNat 0))
noncomputable def q20 : Stt := ⟨4499, [o2, o214, o1, o182, o183, o184, o185, o186, o187, o58, o135, o10, o11, o174, o188, o16, o17, o18, o19, o20, o21, o22, o23, o24, o25, (1269, .map [] 0), o27, o189, o190, o28, o29, o30, (1276, .map [] 0), (1277, .map [] 0), o126, o32, o34, o35, o36, o37, o38, o39, o40, o41, o49, o136, o52, o210, o65, o191, o68, o69, o70, o88, o211, o117, o102, o119, o105, o215, o109, o110, o111, o120, o121, o122, o123, o124, o125, o128, o138, o139, o212, o141, o151, o153, o154, o155, o156, o157, o158, o160, o161, o162, o176, o177, o178, o179, o180, o181, o192, o216, o194, o195, o196, o197, o198, o199, o200, o201, o202, o203, o204, o205, o206, o207, o208, o213, o217]⟩
noncomputable def s20 : Summ := segS a20 p20 v20 q20
set_option maxRecDepth 1000000
theorem r20 : segR c20 60 256 a20 p20 v20 q20 = true := by decide +kernel
theorem x20 : CtxOK c20 := ⟨names_of KBase.names, KBase.mixed, KBase.S0_ok⟩
theorem k20 : SummOK Tryz.prog 256 s20 := seg_summ x20 r20
end SH
end Go.Ab
