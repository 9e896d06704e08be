import Derived.Test.YtfnmplolnlaomaaGreatDoorRunN
import Derived.Test.YtfnmplolnlaomaaGreatDoorRunS
import Derived.Test.YtfnmplolnlaomaaGreatDoorRunT
import Derived.Test.YtfnmplolnlaomaaGreatDoorBase
import Derived.Test.YtfnmplolnlaomaaGreatDoorData
namespace Go.Ab
open Go.RowKit Go.Proofs
namespace IM
noncomputable def c64 : Ctx := ⟨Tryz.prog, (addS 43 (orS (atNx 139476) s57 (orS (atNx 270890) s63 badS)) (addS 8 (orS (atNx 138320) s45 badS) KBase.S0)), fun _ => false⟩
noncomputable def a64 : List AV := [(.ptr (.i (.o (.o (.o (.i (.i (.o (.o (.o (.i (.o .h))))))))))) 0), (.int .i64 (.ofNat 2)), (.int .i64 (.ofNat 10))]
noncomputable def p64 : Stt := ⟨138320, [o2, (1, .map [] 12), o1, o3, o4, (278, .map [] 0), (279, .map [] 0), o5, o6, o7, o8, o9, o10, o11, o12, o13, o14, o15, o16, o17, o18, o19, o20, o21, o22, o23, o24, o25, o40, (1262, .map [] 0), o27, (1264, .map [] 0), (1265, .map [] 0), o28, o29, o30, (1269, .map [] 0), (1270, .map [] 0), o31, o32, o33, o34, o35, o36, o37, o38, o39, o316, (1334, .map [] 16), o42, o131, o132, o317, o318, o261, o47, o98, o213, o51, o286, o53, o54, o171, o57, o58, o59, o319, o61, o62, o63, o64, o65, o66, (2595, .map [] 0), o68, o263, o264, o69, o70, o71, (2602, .map [] 0), (2603, .map [] 0), o72, o73, o75, o76, o77, o78, o79, o80, o81, o89, o214, o92, o206, o105, o320, o108, o231, o110, o127, o128, o207, o216, o186, o265, o142, o321, o145, o146, o149, o150, o151, o161, o162, o163, o177, o178, o233, o239, o181, o189, o190, o191, o192, o193, o194, o196, o198, o200, o201, o218, o255, o266, o269, o274, o275, o324, o325]⟩
noncomputable def v64 : AV := (.int .i64 (.ofNat 0))
noncomputable def q64 : Stt := ⟨270931, [o2, (1, .map [] 12), o1, o3, o4, (278, .map [] 0), (279, .map [] 0), o5, o6, o7, o8, o9, o10, o11, o12, o13, o14, o15, o16, o17, o18, o19, o20, o21, o22, o23, o24, o25, o40, (1262, .map [] 0), o27, (1264, .map [] 0), (1265, .map [] 0), o28, o29, o30, (1269, .map [] 0), (1270, .map [] 0), o31, o32, o33, o34, o35, o36, o37, o38, o39, o419, (1334, .map [] 20), o42, o131, o132, (1611, .map [] 12), (1612, .map [] 6), o401, o47, o98, o213, o51, o286, o53, o54, o376, o57, o58, o59, o319, o61, o62, o63, o64, o65, o66, (2595, .map [] 0), o68, o263, o402, o69, o70, o71, (2602, .map [] 0), (2603, .map [] 0), o72, o73, o75, o76, o77, o78, o79, o80, o81, o89, o214, o92, o206, o105, o377, o108, o231, o110, o127, o128, o207, o216, o420, o341, o142, o394, o145, o355, o149, o371, o151, o161, o388, o163, o177, o178, o233, o379, o181, o189, o190, o389, o192, o196, o198, o200, o201, o218, o255, o266, o269, o274, o275, o324, o325, o395, o404, o380, o396, o408]⟩
noncomputable def s64 : Summ := segS a64 p64 v64 q64
set_option maxRecDepth 1000000
theorem r64 : segR c64 60 23 a64 p64 v64 q64 = true := by decide +kernel
theorem x64 : CtxOK c64 := ⟨names_of KBase.names, KBase.mixed, (addS_ok (orS_ok k57 (orS_ok k63 badS_ok)) (addS_ok (orS_ok k45 badS_ok) KBase.S0_ok))⟩
theorem k64 : SummOK Tryz.prog 23 s64 := seg_summ x64 r64
end IM
end Go.Ab
namespace Go.Ab
open Go.RowKit Go.Proofs
namespace IM
noncomputable def c65 : Ctx := ⟨Tryz.prog, KBase.S0, fun _ => false⟩
noncomputable def a65 : List AV := [(.ptr (.i (.o (.o (.o (.o (.o (.o (.i (.o (.i (.o (.o (.o (.i (.o (.o (.o (.o .h)))))))))))))))))) 0), (.ptr (.o (.i (.o (.o (.o (.o (.o (.i (.o (.i (.o (.o (.o (.i (.o (.o (.o (.o .h)))))))))))))))))) 0)]
noncomputable def p65 : Stt := ⟨270978, [o2, (1, .map [] 12), o1, o3, o4, (278, .map [] 0), (279, .map [] 0), o5, o6, o7, o8, o9, o10, o11, o12, o13, o14, o15, o16, o17, o18, o19, o20, o21, o22, o23, o24, o25, o40, (1262, .map [] 0), o27, (1264, .map [] 0), (1265, .map [] 0), o28, o29, o30, (1269, .map [] 0), (1270, .map [] 0), o31, o32, o33, o34, o35, o36, o37, o38, o39, o419, (1334, .map [] 20), o42, o131, o132, o426, o427, o428, o47, o98, o213, o51, o286, o53, o54, o429, o57, o58, o59, o319, o61, o62, o63, o64, o65, o66, (2595, .map [] 0), o68, o430, o431, o69, o70, o71, (2602, .map [] 0), (2603, .map [] 0), o72, o73, o75, o76, o77, o78, o79, o80, o81, o89, o214, o92, o206, o105, o377, o108, o231, o110, o127, o128, o207, o216, o420, o370, o142, o394, o145, o355, o149, o371, o151, o161, o388, o163, o177, o178, o233, o379, o432, o189, o190, o389, o192, o196, o198, o200, o201, o218, o255, o266, o269, o274, o275, o395, o404, o380, o396, o408, o433, o434, o435, o436, o437, o438, o439, o440, o441]⟩
noncomputable def v65 : AV := (.sl (.i (.i (.o (.i (.o (.o (.o (.i (.o (.i (.o (.o (.o (.i (.o (.o (.o (.o .h)))))))))))))))))) 0 1 1 1 false)
noncomputable def q65 : Stt := ⟨270987, [o2, (1, .map [] 12), o1, o3, o4, (278, .map [] 0), (279, .map [] 0), o5, o6, o7, o8, o9, o10, o11, o12, o13, o14, o15, o16, o17, o18, o19, o20, o21, o22, o23, o24, o25, o40, (1262, .map [] 0), o27, (1264, .map [] 0), (1265, .map [] 0), o28, o29, o30, (1269, .map [] 0), (1270, .map [] 0), o31, o32, o33, o34, o35, o36, o37, o38, o39, o419, (1334, .map [] 20), o42, o131, o132, o426, o427, o428, o47, o98, o213, o51, o286, o53, o54, o429, o57, o58, o59, o319, o61, o62, o63, o64, o65, o66, (2595, .map [] 0), o68, o430, o431, o69, o70, o71, (2602, .map [] 0), (2603, .map [] 0), o72, o73, o75, o76, o77, o78, o79, o80, o81, o89, o214, o92, o206, o105, o377, o108, o231, o110, o127, o128, o207, o216, o420, o370, o142, o394, o145, o355, o149, o371, o151, o161, o388, o163, o177, o178, o233, o379, o432, o189, o190, o389, o192, o196, o198, o200, o201, o218, o255, o266, o269, o274, o275, o395, o404, o380, o396, o408, o433, o434, o435, o436, o437, o438, o439, o440, o441, o442]⟩
noncomputable def s65 : Summ := segS a65 p65 v65 q65
set_option maxRecDepth 1000000
theorem r65 : segR c65 60 95 a65 p65 v65 q65 = true := by decide +kernel
theorem x65 : CtxOK c65 := ⟨names_of KBase.names, KBase.mixed, KBase.S0_ok⟩
theorem k65 : SummOK Tryz.prog 95 s65 := seg_summ x65 r65
end IM
end Go.Ab
namespace Go.Ab
open Go.RowKit Go.Proofs
namespace IM
noncomputable def c66 : Ctx := ⟨Tryz.prog, KBase.S0, fun _ => false⟩
noncomputable def a66 : List AV := [(.ptr (.o (.i (.i (.i (.o (.o (.i (.o (.o (.i .h)))))))))) 0), (.int .i64 (.ofNat 3))]
noncomputable def p66 : Stt := ⟨270991, [o2, (1, .map [] 12), o1, o3, o4, (278, .map [] 0), (279, .map [] 0), o5, o6, o7, o8, o9, o10, o11, o12, o13, o14, o15, o16, o17, o18, o19, o20, o21, o22, o23, o24, o25, o40, (1262, .map [] 0), o27, (1264, .map [] 0), (1265, .map [] 0), o28, o29, o30, (1269, .map [] 0), (1270, .map [] 0), o31, o32, o33, o34, o35, o36, o37, o38, o39, o419, (1334, .map [] 20), o42, o131, o132, o426, o427, o428, o47, o98, o213, o51, o286, o53, o54, o429, o57, o58, o59, o319, o61, o62, o63, o64, o65, o66, (2595, .map [] 0), o68, o430, o431, o69, o70, o71, (2602, .map [] 0), (2603, .map [] 0), o72, o73, o75, o76, o77, o78, o79, o80, o81, o89, o214, o92, o206, o105, o377, o108, o231, o110, o127, o128, o207, o216, o420, o370, o142, o394, o145, o355, o149, o371, o151, o161, o388, o163, o177, o178, o233, o379, o432, o189, o190, o389, o192, o196, o198, o200, o201, o218, o255, o266, o269, o274, o275, o395, o404, o380, o396, o408, o433, o434, o435, o436, o437, o438, o439, o440, o441, o442]⟩
noncomputable def v66 : AV := (.int .i64 (.ofNat 0))
noncomputable def q66 : Stt := ⟨271011, [o2, (1, .map [] 12), o1, o3, o4, (278, .map [] 0), (279, .map [] 0), o5, o6, o7, o8, o9, o10, o11, o12, o13, o14, o15, o16, o17, o18, o19, o20, o21, o22, o23, o24, o25, o40, (1262, .map [] 0), o27, (1264, .map [] 0), (1265, .map [] 0), o28, o29, o30, (1269, .map [] 0), (1270, .map [] 0), o31, o32, o33, o34, o35, o36, o37, o38, o39, o419, o443, o42, o131, o132, o426, o427, o428, o47, o98, o213, o51, o286, o53, o54, o429, o57, o58, o59, o319, o61, o62, o63, o64, o65, o66, (2595, .map [] 0), o68, o430, o431, o69, o70, o71, (2602, .map [] 0), (2603, .map [] 0), o72, o73, o75, o76, o77, o78, o79, o80, o81, o89, o214, o92, o206, o105, o377, o108, o231, o110, o127, o128, o207, o216, o420, o370, o142, o394, o145, o355, o149, o371, o151, o161, o388, o163, o177, o178, o233, o379, o432, o189, o190, o389, o192, o196, o198, o200, o201, o218, o255, o266, o269, o274, o275, o395, o404, o380, o396, o408, o433, o434, o435, o436, o444, o438, o439, o440, o441, o442, o445]⟩
noncomputable def s66 : Summ := segS a66 p66 v66 q66
set_option maxRecDepth 1000000
theorem r66 : segR c66 60 156 a66 p66 v66 q66 = true := by decide +kernel
theorem x66 : CtxOK c66 := ⟨names_of KBase.names, KBase.mixed, KBase.S0_ok⟩
theorem k66 : SummOK Tryz.prog 156 s66 := seg_summ x66 r66
end IM
end Go.Ab
