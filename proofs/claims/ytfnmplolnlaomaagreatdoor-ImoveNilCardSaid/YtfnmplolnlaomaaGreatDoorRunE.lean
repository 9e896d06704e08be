import Derived.Test.YtfnmplolnlaomaaGreatDoorRunC
import Derived.Test.YtfnmplolnlaomaaGreatDoorRunD
import Derived.Test.YtfnmplolnlaomaaGreatDoorBase
import Derived.Test.YtfnmplolnlaomaaGreatDoorData
namespace Go.Ab
open Go.RowKit Go.Proofs
namespace IM
noncomputable def c17 : Ctx := ⟨Tryz.prog, (addS 196 (orS (atNx 3336) s13 badS) (addS 147 (orS (atNx 3370) s16 badS) (addS 146 (orS (atNx 2785) s11 badS) (addS 21 (orS (atNx 3033) s12 badS) KBase.S0)))), fun _ => false⟩
noncomputable def a17 : List AV := [(.ptr (.o (.i (.i (.i (.o (.i (.o (.o (.o (.i (.o .h))))))))))) 0), (.str [47, 97])]
noncomputable def p17 : Stt := ⟨2628, [o2, (1, .map [] 12), o1, o3, o4, (278, .map [] 0), (279, .map [] 0), o5, o6, o7, o8, o9, o10, o11, o12, o13, o14, o15, o16, o17, o18, o19, o20, o21, o22, o23, o24, o25, o40, (1262, .map [] 0), o27, (1264, .map [] 0), (1265, .map [] 0), o28, o29, o30, (1269, .map [] 0), (1270, .map [] 0), o31, o32, o33, o34, o35, o36, o37, o38, o39, o43, (1334, .map [] 12), o42, o44, o45, (1611, .map [] 0), (1612, .map [] 0), o46, o47, o48, o49, o50, o51, o52, o53, o54, o55, o56, o57, o58, o59, o60, o61, o62, o63, o64, o65, o66, o67, (2595, .map [] 0), o68, (2597, .map [] 0), (2598, .map [] 0), o69, o70, o71, (2602, .map [] 0), (2603, .map [] 0), o72, o73, o75, o76, o77, o78, o79, o80, o81]⟩
noncomputable def v17 : AV := (.int .i64 (.ofNat 0))
noncomputable def q17 : Stt := ⟨4172, [o2, (1, .map [] 12), o1, o3, o4, (278, .map [] 0), (279, .map [] 0), o5, o6, o7, o8, o9, o10, o11, o12, o13, o14, o15, o16, o17, o18, o19, o20, o21, o22, o23, o24, o25, o40, (1262, .map [] 0), o27, (1264, .map [] 0), (1265, .map [] 0), o28, o29, o30, (1269, .map [] 0), (1270, .map [] 0), o31, o32, o33, o34, o35, o36, o37, o38, o39, o43, (1334, .map [] 12), o42, o131, o132, o154, o134, o155, o47, o98, o49, o125, o51, o52, o53, o54, o55, o136, o57, o58, o59, o60, o61, o62, o63, o64, o65, o66, (2595, .map [] 0), o68, o137, o156, o69, o70, o71, (2602, .map [] 0), (2603, .map [] 0), o72, o73, o75, o76, o77, o78, o79, o80, o81, o89, o126, o92, o93, o105, o139, o108, o109, o110, o112, o127, o128, o129, o130, o157, o158, o142, o159, o145, o146, o148, o149, o150, o151, o152, o160, o161, o162, o163, o164, o165]⟩
noncomputable def s17 : Summ := segS a17 p17 v17 q17
set_option maxRecDepth 1000000
theorem r17 : segR c17 60 35 a17 p17 v17 q17 = true := by decide +kernel
theorem x17 : CtxOK c17 := ⟨names_of KBase.names, KBase.mixed, (addS_ok (orS_ok k13 badS_ok) (addS_ok (orS_ok k16 badS_ok) (addS_ok (orS_ok k11 badS_ok) (addS_ok (orS_ok k12 badS_ok) KBase.S0_ok))))⟩
theorem k17 : SummOK Tryz.prog 35 s17 := seg_summ x17 r17
end IM
end Go.Ab
namespace Go.Ab
open Go.RowKit Go.Proofs
namespace IM
noncomputable def c18 : Ctx := ⟨Tryz.prog, KBase.S0, fun _ => false⟩
noncomputable def a18 : List AV := [(.ptr (.i (.o (.i (.i (.o (.i (.o (.o (.o (.i (.o .h))))))))))) 0), (.int .i64 (.ofNat 4)), (.int .i64 (.ofNat 0))]
noncomputable def p18 : Stt := ⟨4744, [o2, (1, .map [] 12), o1, o3, o4, (278, .map [] 0), (279, .map [] 0), o5, o6, o7, o8, o9, o10, o11, o12, o13, o14, o15, o16, o17, o18, o19, o20, o21, o22, o23, o24, o25, o40, (1262, .map [] 0), o27, (1264, .map [] 0), (1265, .map [] 0), o28, o29, o30, (1269, .map [] 0), (1270, .map [] 0), o31, o32, o33, o34, o35, o36, o37, o38, o39, o43, (1334, .map [] 12), o42, o131, o132, o154, o134, o155, o47, o98, o125, o51, o52, o53, o54, o136, o57, o58, o59, o60, o61, o62, o63, o64, o65, o66, (2595, .map [] 0), o68, o137, o156, o69, o70, o71, (2602, .map [] 0), (2603, .map [] 0), o72, o73, o75, o76, o77, o78, o79, o80, o81, o89, o126, o92, o93, o105, o139, o108, o109, o110, o112, o127, o128, o129, o130, o157, o158, o142, o159, o145, o146, o148, o149, o150, o151, o152, o160, o161, o162, o163, o164, o165, o166, o167]⟩
noncomputable def v18 : AV := (.int .i64 (.ofNat 0))
noncomputable def q18 : Stt := ⟨4992, [o2, (1, .map [] 12), o1, o3, o4, (278, .map [] 0), (279, .map [] 0), o5, o6, o7, o8, o9, o10, o11, o12, o13, o14, o15, o16, o17, o18, o19, o20, o21, o22, o23, o24, o25, o40, (1262, .map [] 0), o27, (1264, .map [] 0), (1265, .map [] 0), o28, o29, o30, (1269, .map [] 0), (1270, .map [] 0), o31, o32, o33, o34, o35, o36, o37, o38, o39, o43, (1334, .map [] 12), o42, o131, o132, o154, o134, o155, o47, o98, o125, o51, o52, o53, o54, o136, o57, o58, o59, o60, o61, o62, o63, o64, o65, o66, (2595, .map [] 0), o68, o137, o156, o69, o70, o71, (2602, .map [] 0), (2603, .map [] 0), o72, o73, o75, o76, o77, o78, o79, o80, o81, o89, o126, o92, o93, o105, o139, o108, o109, o110, o112, o127, o128, o129, o130, o157, o168, o142, o159, o145, o146, o148, o149, o150, o151, o152, o160, o161, o162, o163, o164, o165, o166, o167]⟩
noncomputable def s18 : Summ := segS a18 p18 v18 q18
set_option maxRecDepth 1000000
theorem r18 : segR c18 60 146 a18 p18 v18 q18 = true := by decide +kernel
theorem x18 : CtxOK c18 := ⟨names_of KBase.names, KBase.mixed, KBase.S0_ok⟩
theorem k18 : SummOK Tryz.prog 146 s18 := seg_summ x18 r18
end IM
end Go.Ab
namespace Go.Ab
open Go.RowKit Go.Proofs
namespace IM
noncomputable def c19 : Ctx := ⟨Tryz.prog, KBase.S0, fun _ => false⟩
noncomputable def a19 : List AV := [(.ptr (.i (.o (.o (.i (.o (.i (.o (.o (.o (.i (.o .h))))))))))) 0), (.int .i64 (.ofNat 1)), (.str [98]), (.int .i64 (.ofNat 2)), (.sl (.i (.o (.i (.i (.o (.i (.o (.i (.i (.i (.o (.o .h)))))))))))) 0 1 1 1 true)]
noncomputable def p19 : Stt := ⟨5037, [o2, (1, .map [] 12), o1, o3, o4, (278, .map [] 0), (279, .map [] 0), o5, o6, o7, o8, o9, o10, o11, o12, o13, o14, o15, o16, o17, o18, o19, o20, o21, o22, o23, o24, o25, o40, (1262, .map [] 0), o27, (1264, .map [] 0), (1265, .map [] 0), o28, o29, o30, (1269, .map [] 0), (1270, .map [] 0), o31, o32, o33, o34, o35, o36, o37, o38, o39, o43, (1334, .map [] 12), o42, o131, o132, o169, o134, o170, o47, o98, o125, o51, o52, o53, o54, o171, o57, o58, o59, o60, o61, o62, o63, o64, o65, o66, (2595, .map [] 0), o68, o172, o173, o69, o70, o71, (2602, .map [] 0), (2603, .map [] 0), o72, o73, o75, o76, o77, o78, o79, o80, o81, o89, o126, o92, o93, o105, o174, o108, o109, o110, o127, o128, o129, o130, o157, o175, o142, o159, o145, o146, o148, o149, o150, o151, o160, o161, o162, o163, o164, o165, o166, o176, o177, o178, o179, o180, o181, o182]⟩
noncomputable def v19 : AV := (.tup [(.int .i64 (.ofNat 8)), (.int .i64 (.ofNat 0))])
noncomputable def q19 : Stt := ⟨5362, [o2, (1, .map [] 12), o1, o3, o4, (278, .map [] 0), (279, .map [] 0), o5, o6, o7, o8, o9, o10, o11, o12, o13, o14, o15, o16, o17, o18, o19, o20, o21, o22, o23, o24, o25, o40, (1262, .map [] 0), o27, (1264, .map [] 0), (1265, .map [] 0), o28, o29, o30, (1269, .map [] 0), (1270, .map [] 0), o31, o32, o33, o34, o35, o36, o37, o38, o39, o43, (1334, .map [] 12), o42, o131, o132, o183, o134, o184, o47, o98, o125, o51, o52, o53, o54, o171, o57, o58, o59, o60, o61, o62, o63, o64, o65, o66, (2595, .map [] 0), o68, o172, o185, o69, o70, o71, (2602, .map [] 0), (2603, .map [] 0), o72, o73, o75, o76, o77, o78, o79, o80, o81, o89, o126, o92, o93, o105, o174, o108, o109, o110, o127, o128, o129, o130, o186, o187, o142, o188, o145, o146, o148, o149, o150, o151, o160, o161, o162, o163, o166, o176, o177, o178, o179, o180, o181, o182, o189, o190, o191, o192, o193, o194]⟩
noncomputable def s19 : Summ := segS a19 p19 v19 q19
set_option maxRecDepth 1000000
theorem r19 : segR c19 60 147 a19 p19 v19 q19 = true := by decide +kernel
theorem x19 : CtxOK c19 := ⟨names_of KBase.names, KBase.mixed, KBase.S0_ok⟩
theorem k19 : SummOK Tryz.prog 147 s19 := seg_summ x19 r19
end IM
end Go.Ab
