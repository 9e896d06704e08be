import Derived.Test.YtfnmplolnlaomaaGreatDoorRunE
import Derived.Test.YtfnmplolnlaomaaGreatDoorBase
import Derived.Test.YtfnmplolnlaomaaGreatDoorData
namespace Go.Ab
open Go.RowKit Go.Proofs
namespace IM
noncomputable def c20 : Ctx := ⟨Tryz.prog, (addS 147 (orS (atNx 5037) s19 badS) (addS 146 (orS (atNx 4744) s18 badS) KBase.S0)), fun _ => false⟩
noncomputable def a20 : List AV := [(.ptr (.o (.i (.i (.i (.o (.i (.o (.o (.o (.i (.o .h))))))))))) 0), (.str [47, 97]), (.str [47, 98])]
noncomputable def p20 : Stt := ⟨4172, [o2, (1, .map [] 12), o1, o3, o4, (278, .map [] 0), (279, .map [] 0), o5, o6, o7, o8, o9, o10, o11, o12, o13, o14, o15, o16, o17, o18, o19, o20, o21, o22, o23, o24, o25, o40, (1262, .map [] 0), o27, (1264, .map [] 0), (1265, .map [] 0), o28, o29, o30, (1269, .map [] 0), (1270, .map [] 0), o31, o32, o33, o34, o35, o36, o37, o38, o39, o43, (1334, .map [] 12), o42, o131, o132, o154, o134, o155, o47, o98, o125, o51, o52, o53, o54, o136, o57, o58, o59, o60, o61, o62, o63, o64, o65, o66, (2595, .map [] 0), o68, o137, o156, o69, o70, o71, (2602, .map [] 0), (2603, .map [] 0), o72, o73, o75, o76, o77, o78, o79, o80, o81, o89, o126, o92, o93, o105, o139, o108, o109, o110, o112, o127, o128, o129, o130, o157, o158, o142, o159, o145, o146, o148, o149, o150, o151, o152, o160, o161, o162, o163, o164, o165]⟩
noncomputable def v20 : AV := (.int .i64 (.ofNat 0))
noncomputable def q20 : Stt := ⟨5362, [o2, (1, .map [] 12), o1, o3, o4, (278, .map [] 0), (279, .map [] 0), o5, o6, o7, o8, o9, o10, o11, o12, o13, o14, o15, o16, o17, o18, o19, o20, o21, o22, o23, o24, o25, o40, (1262, .map [] 0), o27, (1264, .map [] 0), (1265, .map [] 0), o28, o29, o30, (1269, .map [] 0), (1270, .map [] 0), o31, o32, o33, o34, o35, o36, o37, o38, o39, o43, (1334, .map [] 12), o42, o131, o132, o183, o134, o184, o47, o98, o125, o51, o52, o53, o54, o171, o57, o58, o59, o60, o61, o62, o63, o64, o65, o66, (2595, .map [] 0), o68, o172, o185, o69, o70, o71, (2602, .map [] 0), (2603, .map [] 0), o72, o73, o75, o76, o77, o78, o79, o80, o81, o89, o126, o92, o93, o105, o174, o108, o109, o110, o127, o128, o129, o130, o186, o187, o142, o188, o145, o146, o148, o149, o150, o151, o160, o161, o162, o163, o177, o178, o179, o180, o181, o189, o190, o191, o192, o193, o194]⟩
noncomputable def s20 : Summ := segS a20 p20 v20 q20
set_option maxRecDepth 1000000
theorem r20 : segR c20 60 36 a20 p20 v20 q20 = true := by decide +kernel
theorem x20 : CtxOK c20 := ⟨names_of KBase.names, KBase.mixed, (addS_ok (orS_ok k19 badS_ok) (addS_ok (orS_ok k18 badS_ok) KBase.S0_ok))⟩
theorem k20 : SummOK Tryz.prog 36 s20 := seg_summ x20 r20
end IM
end Go.Ab
namespace Go.Ab
open Go.RowKit Go.Proofs
namespace IM
noncomputable def c21 : Ctx := ⟨Tryz.prog, KBase.S0, fun _ => false⟩
noncomputable def a21 : List AV := [(.ptr (.o (.i (.i (.i (.o (.i (.o (.o (.o (.i (.o .h))))))))))) 0), (.str [47, 97]), (.bool true)]
noncomputable def p21 : Stt := ⟨5362, [o2, (1, .map [] 12), o1, o3, o4, (278, .map [] 0), (279, .map [] 0), o5, o6, o7, o8, o9, o10, o11, o12, o13, o14, o15, o16, o17, o18, o19, o20, o21, o22, o23, o24, o25, o40, (1262, .map [] 0), o27, (1264, .map [] 0), (1265, .map [] 0), o28, o29, o30, (1269, .map [] 0), (1270, .map [] 0), o31, o32, o33, o34, o35, o36, o37, o38, o39, o43, (1334, .map [] 12), o42, o131, o132, o183, o134, o184, o47, o98, o125, o51, o52, o53, o54, o171, o57, o58, o59, o60, o61, o62, o63, o64, o65, o66, (2595, .map [] 0), o68, o172, o185, o69, o70, o71, (2602, .map [] 0), (2603, .map [] 0), o72, o73, o75, o76, o77, o78, o79, o80, o81, o89, o126, o92, o93, o105, o174, o108, o109, o110, o127, o128, o129, o130, o186, o187, o142, o188, o145, o146, o149, o150, o151, o161, o162, o163, o177, o178, o179, o180, o181, o189, o190, o191, o192, o193, o194]⟩
noncomputable def v21 : AV := (.tup [(.agg [(.int .i64 (.ofNat 2)), (.int .i64 (.ofNat 1)), (.int .i64 (.ofNat 0)), (.int .i64 (.ofNat 2))]), (.int .i64 (.ofNat 0))])
noncomputable def q21 : Stt := ⟨5575, [o2, (1, .map [] 12), o1, o3, o4, (278, .map [] 0), (279, .map [] 0), o5, o6, o7, o8, o9, o10, o11, o12, o13, o14, o15, o16, o17, o18, o19, o20, o21, o22, o23, o24, o25, o40, (1262, .map [] 0), o27, (1264, .map [] 0), (1265, .map [] 0), o28, o29, o30, (1269, .map [] 0), (1270, .map [] 0), o31, o32, o33, o34, o35, o36, o37, o38, o39, o43, (1334, .map [] 12), o42, o131, o132, o183, o134, o184, o47, o98, o125, o51, o52, o53, o54, o171, o57, o58, o59, o60, o61, o62, o63, o64, o65, o66, (2595, .map [] 0), o68, o172, o185, o69, o70, o71, (2602, .map [] 0), (2603, .map [] 0), o72, o73, o75, o76, o77, o78, o79, o80, o81, o89, o126, o92, o93, o105, o174, o108, o109, o110, o127, o128, o129, o130, o186, o195, o142, o188, o145, o146, o149, o150, o151, o161, o162, o163, o177, o178, o179, o180, o181, o189, o190, o191, o192, o193, o194]⟩
noncomputable def s21 : Summ := segS a21 p21 v21 q21
set_option maxRecDepth 1000000
theorem r21 : segR c21 60 37 a21 p21 v21 q21 = true := by decide +kernel
theorem x21 : CtxOK c21 := ⟨names_of KBase.names, KBase.mixed, KBase.S0_ok⟩
theorem k21 : SummOK Tryz.prog 37 s21 := seg_summ x21 r21
end IM
end Go.Ab
