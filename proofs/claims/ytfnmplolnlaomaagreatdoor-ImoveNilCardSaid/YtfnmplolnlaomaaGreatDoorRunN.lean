import Derived.Test.YtfnmplolnlaomaaGreatDoorBase
import Derived.Test.YtfnmplolnlaomaaGreatDoorRunJ
import Derived.Test.YtfnmplolnlaomaaGreatDoorRunK
import Derived.Test.YtfnmplolnlaomaaGreatDoorRunL
import Derived.Test.YtfnmplolnlaomaaGreatDoorRunM
import Derived.Test.YtfnmplolnlaomaaGreatDoorData
namespace Go.Ab
open Go.RowKit Go.Proofs
namespace IM
noncomputable def c42 : Ctx := ⟨Tryz.prog, KBase.S0, fun _ => false⟩
noncomputable def a42 : List AV := [(.ptr (.i (.o (.i (.o (.o (.o (.o (.o (.o (.o (.i (.i (.i (.i (.i .h))))))))))))))) 0), (.ptr (.o (.i (.i (.o (.o (.o (.o (.o (.o (.o (.i (.i (.i (.i (.i .h))))))))))))))) 0)]
noncomputable def p42 : Stt := ⟨138319, [o2, (1, .map [] 12), o1, o3, o4, (278, .map [] 0), (279, .map [] 0), o5, o6, o7, o8, o9, o10, o11, o12, o13, o14, o15, o16, o17, o18, o19, o20, o21, o22, o23, o24, o25, o40, (1262, .map [] 0), o27, (1264, .map [] 0), (1265, .map [] 0), o28, o29, o30, (1269, .map [] 0), (1270, .map [] 0), o31, o32, o33, o34, o35, o36, o37, o38, o39, o316, (1334, .map [] 16), o42, o131, o132, o317, o318, o261, o47, o98, o213, o51, o286, o53, o54, o171, o57, o58, o59, o319, o61, o62, o63, o64, o65, o66, (2595, .map [] 0), o68, o263, o264, o69, o70, o71, (2602, .map [] 0), (2603, .map [] 0), o72, o73, o75, o76, o77, o78, o79, o80, o81, o89, o214, o92, o206, o105, o320, o108, o231, o110, o127, o128, o207, o216, o186, o265, o142, o321, o145, o146, o149, o150, o151, o161, o162, o163, o177, o178, o233, o239, o181, o189, o190, o191, o192, o193, o194, o196, o198, o200, o201, o218, o240, o241, o253, o289, o255, o256, o281, o290, o266, o267, o322, o269, o270, o314, o272, o323, o274, o275, o276, o277, o294, o312, o324, o325, o326]⟩
noncomputable def v42 : AV := .nils
noncomputable def q42 : Stt := ⟨138320, [o2, (1, .map [] 12), o1, o3, o4, (278, .map [] 0), (279, .map [] 0), o5, o6, o7, o8, o9, o10, o11, o12, o13, o14, o15, o16, o17, o18, o19, o20, o21, o22, o23, o24, o25, o40, (1262, .map [] 0), o27, (1264, .map [] 0), (1265, .map [] 0), o28, o29, o30, (1269, .map [] 0), (1270, .map [] 0), o31, o32, o33, o34, o35, o36, o37, o38, o39, o316, (1334, .map [] 16), o42, o131, o132, o317, o318, o261, o47, o98, o213, o51, o286, o53, o54, o171, o57, o58, o59, o319, o61, o62, o63, o64, o65, o66, (2595, .map [] 0), o68, o263, o264, o69, o70, o71, (2602, .map [] 0), (2603, .map [] 0), o72, o73, o75, o76, o77, o78, o79, o80, o81, o89, o214, o92, o206, o105, o320, o108, o231, o110, o127, o128, o207, o216, o186, o265, o142, o321, o145, o146, o149, o150, o151, o161, o162, o163, o177, o178, o233, o239, o181, o189, o190, o191, o192, o193, o194, o196, o198, o200, o201, o218, o240, o241, o253, o289, o255, o256, o281, o290, o266, o267, o322, o269, o270, o314, o272, o323, o274, o275, o276, o277, o294, o312, o324, o325, o326]⟩
noncomputable def s42 : Summ := segS a42 p42 v42 q42
set_option maxRecDepth 1000000
theorem r42 : segR c42 60 95 a42 p42 v42 q42 = true := by decide +kernel
theorem x42 : CtxOK c42 := ⟨names_of KBase.names, KBase.mixed, KBase.S0_ok⟩
theorem k42 : SummOK Tryz.prog 95 s42 := seg_summ x42 r42
end IM
end Go.Ab
namespace Go.Ab
open Go.RowKit Go.Proofs
namespace IM
noncomputable def c43 : Ctx := ⟨Tryz.prog, (addS 157 (orS (atNx 80938) s38 (orS (atNx 109645) s41 badS)) (addS 156 (orS (atNx 80914) s37 (orS (atNx 109625) s40 badS)) (addS 95 (orS (atNx 64518) s36 (orS (atNx 109612) s39 (orS (atNx 138319) s42 badS))) KBase.S0))), fun _ => false⟩
noncomputable def a43 : List AV := [(.ptr (.o (.i (.i (.i (.o (.o (.i (.o (.o (.i .h)))))))))) 0), (.func 95 [] [(.ptr (.i (.o (.i (.o (.o (.o (.o (.o (.o (.o (.i (.i (.i (.i (.i .h))))))))))))))) 0), (.ptr (.o (.i (.i (.o (.o (.o (.o (.o (.o (.o (.i (.i (.i (.i (.i .h))))))))))))))) 0)])]
noncomputable def p43 : Stt := ⟨64518, [o2, (1, .map [] 12), o1, o3, o4, (278, .map [] 0), (279, .map [] 0), o5, o6, o7, o8, o9, o10, o11, o12, o13, o14, o15, o16, o17, o18, o19, o20, o21, o22, o23, o24, o25, o40, (1262, .map [] 0), o27, (1264, .map [] 0), (1265, .map [] 0), o28, o29, o30, (1269, .map [] 0), (1270, .map [] 0), o31, o32, o33, o34, o35, o36, o37, o38, o39, o235, (1334, .map [] 14), o42, o131, o132, o259, o260, o261, o47, o98, o213, o51, o251, o53, o54, o171, o57, o58, o59, o262, o61, o62, o63, o64, o65, o66, (2595, .map [] 0), o68, o263, o264, o69, o70, o71, (2602, .map [] 0), (2603, .map [] 0), o72, o73, o75, o76, o77, o78, o79, o80, o81, o89, o214, o92, o206, o105, o237, o108, o231, o110, o127, o128, o207, o216, o186, o265, o142, o238, o145, o146, o149, o150, o151, o161, o162, o163, o177, o178, o233, o239, o181, o189, o190, o191, o192, o193, o194, o196, o198, o200, o201, o218, o240, o241, o253, o254, o255, o256, o257, o258, o266, o267, o268, o269, o270, o271, o272, o273, o274, o275, o276, o277]⟩
noncomputable def v43 : AV := (.tup [(.int .i64 (.ofNat 2)), (.int .i64 (.ofNat 0))])
noncomputable def q43 : Stt := ⟨138320, [o2, (1, .map [] 12), o1, o3, o4, (278, .map [] 0), (279, .map [] 0), o5, o6, o7, o8, o9, o10, o11, o12, o13, o14, o15, o16, o17, o18, o19, o20, o21, o22, o23, o24, o25, o40, (1262, .map [] 0), o27, (1264, .map [] 0), (1265, .map [] 0), o28, o29, o30, (1269, .map [] 0), (1270, .map [] 0), o31, o32, o33, o34, o35, o36, o37, o38, o39, o316, (1334, .map [] 16), o42, o131, o132, o317, o318, o261, o47, o98, o213, o51, o286, o53, o54, o171, o57, o58, o59, o319, o61, o62, o63, o64, o65, o66, (2595, .map [] 0), o68, o263, o264, o69, o70, o71, (2602, .map [] 0), (2603, .map [] 0), o72, o73, o75, o76, o77, o78, o79, o80, o81, o89, o214, o92, o206, o105, o320, o108, o231, o110, o127, o128, o207, o216, o186, o265, o142, o321, o145, o146, o149, o150, o151, o161, o162, o163, o177, o178, o233, o239, o181, o189, o190, o191, o192, o193, o194, o196, o198, o200, o201, o218, o240, o241, o253, o289, o255, o256, o281, o290, o266, o267, o322, o269, o270, o314, o272, o323, o274, o275, o276, o277, o294, o324, o325, o326]⟩
noncomputable def s43 : Summ := segS a43 p43 v43 q43
set_option maxRecDepth 1000000
theorem r43 : segR c43 60 94 a43 p43 v43 q43 = true := by decide +kernel
theorem x43 : CtxOK c43 := ⟨names_of KBase.names, KBase.mixed, (addS_ok (orS_ok k38 (orS_ok k41 badS_ok)) (addS_ok (orS_ok k37 (orS_ok k40 badS_ok)) (addS_ok (orS_ok k36 (orS_ok k39 (orS_ok k42 badS_ok))) KBase.S0_ok)))⟩
theorem k43 : SummOK Tryz.prog 94 s43 := seg_summ x43 r43
end IM
end Go.Ab
namespace Go.Ab
open Go.RowKit Go.Proofs
namespace IM
noncomputable def c44 : Ctx := ⟨Tryz.prog, (addS 94 (orS (atNx 64518) s43 badS) KBase.S0), fun _ => false⟩
noncomputable def a44 : List AV := [(.ptr (.o (.i (.i (.i (.o (.o (.i (.o (.o (.i .h)))))))))) 0), (.int .i64 (.ofNat 10))]
noncomputable def p44 : Stt := ⟨64516, [o2, (1, .map [] 12), o1, o3, o4, (278, .map [] 0), (279, .map [] 0), o5, o6, o7, o8, o9, o10, o11, o12, o13, o14, o15, o16, o17, o18, o19, o20, o21, o22, o23, o24, o25, o40, (1262, .map [] 0), o27, (1264, .map [] 0), (1265, .map [] 0), o28, o29, o30, (1269, .map [] 0), (1270, .map [] 0), o31, o32, o33, o34, o35, o36, o37, o38, o39, o235, (1334, .map [] 14), o42, o131, o132, o259, o260, o261, o47, o98, o213, o51, o251, o53, o54, o171, o57, o58, o59, o262, o61, o62, o63, o64, o65, o66, (2595, .map [] 0), o68, o263, o264, o69, o70, o71, (2602, .map [] 0), (2603, .map [] 0), o72, o73, o75, o76, o77, o78, o79, o80, o81, o89, o214, o92, o206, o105, o237, o108, o231, o110, o127, o128, o207, o216, o186, o265, o142, o238, o145, o146, o149, o150, o151, o161, o162, o163, o177, o178, o233, o239, o181, o189, o190, o191, o192, o193, o194, o196, o198, o200, o201, o218, o240, o241, o253, o254, o255, o256, o257, o258, o266, o267, o268, o269, o270, o271, o272, o273, o274, o275]⟩
noncomputable def v44 : AV := (.tup [(.int .i64 (.ofNat 2)), (.int .i64 (.ofNat 0))])
noncomputable def q44 : Stt := ⟨138320, [o2, (1, .map [] 12), o1, o3, o4, (278, .map [] 0), (279, .map [] 0), o5, o6, o7, o8, o9, o10, o11, o12, o13, o14, o15, o16, o17, o18, o19, o20, o21, o22, o23, o24, o25, o40, (1262, .map [] 0), o27, (1264, .map [] 0), (1265, .map [] 0), o28, o29, o30, (1269, .map [] 0), (1270, .map [] 0), o31, o32, o33, o34, o35, o36, o37, o38, o39, o316, (1334, .map [] 16), o42, o131, o132, o317, o318, o261, o47, o98, o213, o51, o286, o53, o54, o171, o57, o58, o59, o319, o61, o62, o63, o64, o65, o66, (2595, .map [] 0), o68, o263, o264, o69, o70, o71, (2602, .map [] 0), (2603, .map [] 0), o72, o73, o75, o76, o77, o78, o79, o80, o81, o89, o214, o92, o206, o105, o320, o108, o231, o110, o127, o128, o207, o216, o186, o265, o142, o321, o145, o146, o149, o150, o151, o161, o162, o163, o177, o178, o233, o239, o181, o189, o190, o191, o192, o193, o194, o196, o198, o200, o201, o218, o240, o241, o253, o289, o255, o256, o281, o290, o266, o267, o322, o269, o270, o314, o272, o323, o274, o275, o294, o324, o325, o326]⟩
noncomputable def s44 : Summ := segS a44 p44 v44 q44
set_option maxRecDepth 1000000
theorem r44 : segR c44 60 43 a44 p44 v44 q44 = true := by decide +kernel
theorem x44 : CtxOK c44 := ⟨names_of KBase.names, KBase.mixed, (addS_ok (orS_ok k43 badS_ok) KBase.S0_ok)⟩
theorem k44 : SummOK Tryz.prog 43 s44 := seg_summ x44 r44
end IM
end Go.Ab
namespace Go.Ab
open Go.RowKit Go.Proofs
namespace IM
noncomputable def c45 : Ctx := ⟨Tryz.prog, KBase.S0, fun _ => false⟩
noncomputable def a45 : List AV := [(.ptr (.i (.o (.o (.o (.i (.i (.o (.o (.o (.i (.o .h))))))))))) 0), (.int .i64 (.ofNat 2))]
noncomputable def p45 : Stt := ⟨138320, [o2, (1, .map [] 12), o1, o3, o4, (278, .map [] 0), (279, .map [] 0), o5, o6, o7, o8, o9, o10, o11, o12, o13, o14, o15, o16, o17, o18, o19, o20, o21, o22, o23, o24, o25, o40, (1262, .map [] 0), o27, (1264, .map [] 0), (1265, .map [] 0), o28, o29, o30, (1269, .map [] 0), (1270, .map [] 0), o31, o32, o33, o34, o35, o36, o37, o38, o39, o316, (1334, .map [] 16), o42, o131, o132, o317, o318, o261, o47, o98, o213, o51, o286, o53, o54, o171, o57, o58, o59, o319, o61, o62, o63, o64, o65, o66, (2595, .map [] 0), o68, o263, o264, o69, o70, o71, (2602, .map [] 0), (2603, .map [] 0), o72, o73, o75, o76, o77, o78, o79, o80, o81, o89, o214, o92, o206, o105, o320, o108, o231, o110, o127, o128, o207, o216, o186, o265, o142, o321, o145, o146, o149, o150, o151, o161, o162, o163, o177, o178, o233, o239, o181, o189, o190, o191, o192, o193, o194, o196, o198, o200, o201, o218, o255, o266, o269, o274, o275, o324, o325]⟩
noncomputable def v45 : AV := (.sl (.i (.o (.i (.i (.o (.o (.i (.i (.i (.i (.i (.i (.i (.o (.o (.o (.o .h))))))))))))))))) 0 2 2 2 false)
noncomputable def q45 : Stt := ⟨139277, [o2, (1, .map [] 12), o1, o3, o4, (278, .map [] 0), (279, .map [] 0), o5, o6, o7, o8, o9, o10, o11, o12, o13, o14, o15, o16, o17, o18, o19, o20, o21, o22, o23, o24, o25, o40, (1262, .map [] 0), o27, (1264, .map [] 0), (1265, .map [] 0), o28, o29, o30, (1269, .map [] 0), (1270, .map [] 0), o31, o32, o33, o34, o35, o36, o37, o38, o39, o316, (1334, .map [] 16), o42, o131, o132, o317, o318, o261, o47, o98, o213, o51, o286, o53, o54, o171, o57, o58, o59, o319, o61, o62, o63, o64, o65, o66, (2595, .map [] 0), o68, o263, o264, o69, o70, o71, (2602, .map [] 0), (2603, .map [] 0), o72, o73, o75, o76, o77, o78, o79, o80, o81, o89, o214, o92, o206, o105, o320, o108, o231, o110, o127, o128, o207, o216, o186, o335, o142, o321, o145, o146, o149, o150, o151, o161, o162, o163, o177, o178, o233, o239, o181, o189, o190, o191, o192, o193, o194, o196, o198, o200, o201, o218, o255, o266, o269, o274, o275, o324, o325, o336]⟩
noncomputable def s45 : Summ := segS a45 p45 v45 q45
set_option maxRecDepth 1000000
theorem r45 : segR c45 60 8 a45 p45 v45 q45 = true := by decide +kernel
theorem x45 : CtxOK c45 := ⟨names_of KBase.names, KBase.mixed, KBase.S0_ok⟩
theorem k45 : SummOK Tryz.prog 8 s45 := seg_summ x45 r45
end IM
end Go.Ab
