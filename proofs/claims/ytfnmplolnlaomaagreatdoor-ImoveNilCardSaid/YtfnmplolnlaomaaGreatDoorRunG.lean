import Derived.Test.YtfnmplolnlaomaaGreatDoorBase
import Derived.Test.YtfnmplolnlaomaaGreatDoorData
namespace Go.Ab
open Go.RowKit Go.Proofs
namespace IM
noncomputable def c22 : Ctx := ⟨Tryz.prog, KBase.S0, fun _ => false⟩
noncomputable def a22 : List AV := [(.ptr (.i (.o (.o (.o (.i (.i (.o (.o (.o (.i (.o .h))))))))))) 0), (.int .i64 (.ofNat 2))]
noncomputable def p22 : Stt := ⟨5576, [o2, (1, .map [] 12), o1, o3, o4, (278, .map [] 0), (279, .map [] 0), o5, o6, o7, o8, o9, o10, o11, o12, o13, o14, o15, o16, o17, o18, o19, o20, o21, o22, o23, o24, o25, o40, (1262, .map [] 0), o27, (1264, .map [] 0), (1265, .map [] 0), o28, o29, o30, (1269, .map [] 0), (1270, .map [] 0), o31, o32, o33, o34, o35, o36, o37, o38, o39, o43, (1334, .map [] 12), o42, o131, o132, o183, o134, o184, o47, o98, o125, o51, o52, o53, o54, o171, o57, o58, o59, o60, o61, o62, o63, o64, o65, o66, (2595, .map [] 0), o68, o172, o185, o69, o70, o71, (2602, .map [] 0), (2603, .map [] 0), o72, o73, o75, o76, o77, o78, o79, o80, o81, o89, o126, o92, o93, o105, o174, o108, o109, o110, o127, o128, o129, o130, o186, o195, o142, o188, o145, o146, o149, o150, o151, o161, o162, o163, o177, o178, o179, o180, o181, o189, o190, o191, o192, o193, o194, o196]⟩
noncomputable def v22 : AV := (.sl (.i (.i (.o (.o (.o (.o (.i (.o (.i (.o (.o (.i .h)))))))))))) 0 2 2 2 false)
noncomputable def q22 : Stt := ⟨6499, [o2, (1, .map [] 12), o1, o3, o4, (278, .map [] 0), (279, .map [] 0), o5, o6, o7, o8, o9, o10, o11, o12, o13, o14, o15, o16, o17, o18, o19, o20, o21, o22, o23, o24, o25, o40, (1262, .map [] 0), o27, (1264, .map [] 0), (1265, .map [] 0), o28, o29, o30, (1269, .map [] 0), (1270, .map [] 0), o31, o32, o33, o34, o35, o36, o37, o38, o39, o43, (1334, .map [] 12), o42, o131, o132, o183, o134, o184, o47, o98, o125, o51, o52, o53, o54, o171, o57, o58, o59, o60, o61, o62, o63, o64, o65, o66, (2595, .map [] 0), o68, o172, o185, o69, o70, o71, (2602, .map [] 0), (2603, .map [] 0), o72, o73, o75, o76, o77, o78, o79, o80, o81, o89, o126, o92, o93, o105, o174, o108, o109, o110, o127, o128, o129, o130, o186, o197, o142, o188, o145, o146, o149, o150, o151, o161, o162, o163, o177, o178, o179, o180, o181, o189, o190, o191, o192, o193, o194, o196, o198]⟩
noncomputable def s22 : Summ := segS a22 p22 v22 q22
set_option maxRecDepth 1000000
theorem r22 : segR c22 60 8 a22 p22 v22 q22 = true := by decide +kernel
theorem x22 : CtxOK c22 := ⟨names_of KBase.names, KBase.mixed, KBase.S0_ok⟩
theorem k22 : SummOK Tryz.prog 8 s22 := seg_summ x22 r22
end IM
end Go.Ab
namespace Go.Ab
open Go.RowKit Go.Proofs
namespace IM
noncomputable def c23 : Ctx := ⟨Tryz.prog, KBase.S0, fun _ => false⟩
noncomputable def a23 : List AV := [(.ptr (.o (.o (.i (.i (.i (.i (.i (.o (.o (.i (.o (.i .h)))))))))))) 0), (.ptr (.i (.o (.i (.i (.i (.i (.i (.o (.o (.i (.o (.i .h)))))))))))) 0)]
noncomputable def p23 : Stt := ⟨6781, [o2, (1, .map [] 12), o1, o3, o4, (278, .map [] 0), (279, .map [] 0), o5, o6, o7, o8, o9, o10, o11, o12, o13, o14, o15, o16, o17, o18, o19, o20, o21, o22, o23, o24, o25, o40, (1262, .map [] 0), o27, (1264, .map [] 0), (1265, .map [] 0), o28, o29, o30, (1269, .map [] 0), (1270, .map [] 0), o31, o32, o33, o34, o35, o36, o37, o38, o39, o43, (1334, .map [] 12), o42, o131, o132, o183, o134, o184, o47, o98, o125, o51, o52, o53, o54, o171, o57, o58, o59, o60, o61, o62, o63, o64, o65, o66, (2595, .map [] 0), o68, o172, o185, o69, o70, o71, (2602, .map [] 0), (2603, .map [] 0), o72, o73, o75, o76, o77, o78, o79, o80, o81, o89, o126, o92, o93, o105, o174, o108, o109, o110, o127, o128, o129, o130, o186, o199, o142, o188, o145, o146, o149, o150, o151, o161, o162, o163, o177, o178, o179, o180, o181, o189, o190, o191, o192, o193, o194, o196, o198, o200, o201, o202, o203]⟩
noncomputable def v23 : AV := (.sl (.i (.o (.i (.o (.o (.o (.o (.i (.o (.i (.o (.i (.i (.o .h)))))))))))))) 0 2 2 1 false)
noncomputable def q23 : Stt := ⟨23173, [o2, (1, .map [] 12), o1, o3, o4, (278, .map [] 0), (279, .map [] 0), o5, o6, o7, o8, o9, o10, o11, o12, o13, o14, o15, o16, o17, o18, o19, o20, o21, o22, o23, o24, o25, o40, (1262, .map [] 0), o27, (1264, .map [] 0), (1265, .map [] 0), o28, o29, o30, (1269, .map [] 0), (1270, .map [] 0), o31, o32, o33, o34, o35, o36, o37, o38, o39, o43, (1334, .map [] 12), o42, o131, o132, o183, o134, o184, o47, o98, o125, o51, o52, o53, o54, o171, o57, o58, o59, o60, o61, o62, o63, o64, o65, o66, (2595, .map [] 0), o68, o172, o185, o69, o70, o71, (2602, .map [] 0), (2603, .map [] 0), o72, o73, o75, o76, o77, o78, o79, o80, o81, o89, o126, o92, o93, o105, o174, o108, o109, o110, o127, o128, o129, o130, o186, o199, o142, o188, o145, o146, o149, o150, o151, o161, o162, o163, o177, o178, o179, o180, o181, o189, o190, o191, o192, o193, o194, o196, o198, o200, o201, o202, o203, o204]⟩
noncomputable def s23 : Summ := segS a23 p23 v23 q23
set_option maxRecDepth 1000000
theorem r23 : segR c23 60 95 a23 p23 v23 q23 = true := by decide +kernel
theorem x23 : CtxOK c23 := ⟨names_of KBase.names, KBase.mixed, KBase.S0_ok⟩
theorem k23 : SummOK Tryz.prog 95 s23 := seg_summ x23 r23
end IM
end Go.Ab
namespace Go.Ab
open Go.RowKit Go.Proofs
namespace IM
noncomputable def c24 : Ctx := ⟨Tryz.prog, KBase.S0, fun _ => false⟩
noncomputable def a24 : List AV := [(.ptr (.o (.i (.i (.i (.o (.o (.i (.o (.o (.i .h)))))))))) 0), (.int .i64 (.ofNat 2))]
noncomputable def p24 : Stt := ⟨23178, [o2, (1, .map [] 12), o1, o3, o4, (278, .map [] 0), (279, .map [] 0), o5, o6, o7, o8, o9, o10, o11, o12, o13, o14, o15, o16, o17, o18, o19, o20, o21, o22, o23, o24, o25, o40, (1262, .map [] 0), o27, (1264, .map [] 0), (1265, .map [] 0), o28, o29, o30, (1269, .map [] 0), (1270, .map [] 0), o31, o32, o33, o34, o35, o36, o37, o38, o39, o43, (1334, .map [] 12), o42, o131, o132, o183, o134, o184, o47, o98, o125, o51, o52, o53, o54, o171, o57, o58, o59, o60, o61, o62, o63, o64, o65, o66, (2595, .map [] 0), o68, o172, o185, o69, o70, o71, (2602, .map [] 0), (2603, .map [] 0), o72, o73, o75, o76, o77, o78, o79, o80, o81, o89, o126, o92, o93, o105, o174, o108, o109, o110, o127, o128, o129, o130, o186, o199, o142, o188, o145, o146, o149, o150, o151, o161, o162, o163, o177, o178, o179, o180, o181, o189, o190, o191, o192, o193, o194, o196, o198, o200, o201, o202, o203, o204]⟩
noncomputable def v24 : AV := (.int .i64 (.ofNat 0))
noncomputable def q24 : Stt := ⟨23200, [o2, (1, .map [] 12), o1, o3, o4, (278, .map [] 0), (279, .map [] 0), o5, o6, o7, o8, o9, o10, o11, o12, o13, o14, o15, o16, o17, o18, o19, o20, o21, o22, o23, o24, o25, o40, (1262, .map [] 0), o27, (1264, .map [] 0), (1265, .map [] 0), o28, o29, o30, (1269, .map [] 0), (1270, .map [] 0), o31, o32, o33, o34, o35, o36, o37, o38, o39, o43, o205, o42, o131, o132, o183, o134, o184, o47, o98, o125, o51, o52, o53, o54, o171, o57, o58, o59, o60, o61, o62, o63, o64, o65, o66, (2595, .map [] 0), o68, o172, o185, o69, o70, o71, (2602, .map [] 0), (2603, .map [] 0), o72, o73, o75, o76, o77, o78, o79, o80, o81, o89, o126, o92, o206, o105, o174, o108, o109, o110, o127, o128, o207, o130, o186, o208, o142, o188, o145, o146, o149, o150, o151, o161, o162, o163, o177, o178, o179, o180, o181, o189, o190, o191, o192, o193, o194, o196, o198, o200, o201, o202, o203, o204, o209]⟩
noncomputable def s24 : Summ := segS a24 p24 v24 q24
set_option maxRecDepth 1000000
theorem r24 : segR c24 60 156 a24 p24 v24 q24 = true := by decide +kernel
theorem x24 : CtxOK c24 := ⟨names_of KBase.names, KBase.mixed, KBase.S0_ok⟩
theorem k24 : SummOK Tryz.prog 156 s24 := seg_summ x24 r24
end IM
end Go.Ab
