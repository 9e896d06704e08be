import Derived.Test.YtfnmplolnlaomaaGreatDoorBase
import Derived.Test.YtfnmplolnlaomaaGreatDoorData
namespace Go.Ab
open Go.RowKit Go.Proofs
namespace IM
noncomputable def c39 : Ctx := ⟨Tryz.prog, KBase.S0, fun _ => false⟩
noncomputable def a39 : List AV := [(.ptr (.i (.o (.i (.o (.o (.o (.o (.o (.o (.o (.i (.i (.i (.i (.i .h))))))))))))))) 0), (.ptr (.o (.i (.i (.o (.o (.o (.o (.o (.o (.o (.i (.i (.i (.i (.i .h))))))))))))))) 0)]
noncomputable def p39 : Stt := ⟨109612, [o2, (1, .map [] 12), o1, o3, o4, (278, .map [] 0), (279, .map [] 0), o5, o6, o7, o8, o9, o10, o11, o12, o13, o14, o15, o16, o17, o18, o19, o20, o21, o22, o23, o24, o25, o40, (1262, .map [] 0), o27, (1264, .map [] 0), (1265, .map [] 0), o28, o29, o30, (1269, .map [] 0), (1270, .map [] 0), o31, o32, o33, o34, o35, o36, o37, o38, o39, o283, (1334, .map [] 15), o42, o131, o132, o284, o285, o261, o47, o98, o213, o51, o286, o53, o54, o171, o57, o58, o59, o262, o61, o62, o63, o64, o65, o66, (2595, .map [] 0), o68, o263, o264, o69, o70, o71, (2602, .map [] 0), (2603, .map [] 0), o72, o73, o75, o76, o77, o78, o79, o80, o81, o89, o214, o92, o206, o105, o287, o108, o231, o110, o127, o128, o207, o216, o186, o280, o142, o288, o145, o146, o149, o150, o151, o161, o162, o163, o177, o178, o233, o239, o181, o189, o190, o191, o192, o193, o194, o196, o198, o200, o201, o218, o240, o241, o253, o289, o255, o256, o281, o290, o266, o267, o291, o269, o270, o271, o272, o273, o274, o275, o276, o277, o278, o292, o293, o294, o295]⟩
noncomputable def v39 : AV := (.sl (.i (.o (.i (.o (.i (.i (.o (.o (.o (.o (.i (.i (.o (.i (.o (.i .h)))))))))))))))) 0 1 1 1 false)
noncomputable def q39 : Stt := ⟨109621, [o2, (1, .map [] 12), o1, o3, o4, (278, .map [] 0), (279, .map [] 0), o5, o6, o7, o8, o9, o10, o11, o12, o13, o14, o15, o16, o17, o18, o19, o20, o21, o22, o23, o24, o25, o40, (1262, .map [] 0), o27, (1264, .map [] 0), (1265, .map [] 0), o28, o29, o30, (1269, .map [] 0), (1270, .map [] 0), o31, o32, o33, o34, o35, o36, o37, o38, o39, o283, (1334, .map [] 15), o42, o131, o132, o284, o285, o261, o47, o98, o213, o51, o286, o53, o54, o171, o57, o58, o59, o262, o61, o62, o63, o64, o65, o66, (2595, .map [] 0), o68, o263, o264, o69, o70, o71, (2602, .map [] 0), (2603, .map [] 0), o72, o73, o75, o76, o77, o78, o79, o80, o81, o89, o214, o92, o206, o105, o287, o108, o231, o110, o127, o128, o207, o216, o186, o280, o142, o288, o145, o146, o149, o150, o151, o161, o162, o163, o177, o178, o233, o239, o181, o189, o190, o191, o192, o193, o194, o196, o198, o200, o201, o218, o240, o241, o253, o289, o255, o256, o281, o290, o266, o267, o291, o269, o270, o271, o272, o273, o274, o275, o276, o277, o278, o292, o293, o294, o295, o312]⟩
noncomputable def s39 : Summ := segS a39 p39 v39 q39
set_option maxRecDepth 1000000
theorem r39 : segR c39 60 95 a39 p39 v39 q39 = true := by decide +kernel
theorem x39 : CtxOK c39 := ⟨names_of KBase.names, KBase.mixed, KBase.S0_ok⟩
theorem k39 : SummOK Tryz.prog 95 s39 := seg_summ x39 r39
end IM
end Go.Ab
namespace Go.Ab
open Go.RowKit Go.Proofs
namespace IM
noncomputable def c40 : Ctx := ⟨Tryz.prog, KBase.S0, fun _ => false⟩
noncomputable def a40 : List AV := [(.ptr (.o (.i (.i (.i (.o (.o (.i (.o (.o (.i .h)))))))))) 0), (.int .i64 (.ofNat 35))]
noncomputable def p40 : Stt := ⟨109625, [o2, (1, .map [] 12), o1, o3, o4, (278, .map [] 0), (279, .map [] 0), o5, o6, o7, o8, o9, o10, o11, o12, o13, o14, o15, o16, o17, o18, o19, o20, o21, o22, o23, o24, o25, o40, (1262, .map [] 0), o27, (1264, .map [] 0), (1265, .map [] 0), o28, o29, o30, (1269, .map [] 0), (1270, .map [] 0), o31, o32, o33, o34, o35, o36, o37, o38, o39, o283, (1334, .map [] 15), o42, o131, o132, o284, o285, o261, o47, o98, o213, o51, o286, o53, o54, o171, o57, o58, o59, o262, o61, o62, o63, o64, o65, o66, (2595, .map [] 0), o68, o263, o264, o69, o70, o71, (2602, .map [] 0), (2603, .map [] 0), o72, o73, o75, o76, o77, o78, o79, o80, o81, o89, o214, o92, o206, o105, o287, o108, o231, o110, o127, o128, o207, o216, o186, o280, o142, o288, o145, o146, o149, o150, o151, o161, o162, o163, o177, o178, o233, o239, o181, o189, o190, o191, o192, o193, o194, o196, o198, o200, o201, o218, o240, o241, o253, o289, o255, o256, o281, o290, o266, o267, o291, o269, o270, o271, o272, o273, o274, o275, o276, o277, o292, o293, o294, o295, o312]⟩
noncomputable def v40 : AV := (.int .i64 (.ofNat 0))
noncomputable def q40 : Stt := ⟨109645, [o2, (1, .map [] 12), o1, o3, o4, (278, .map [] 0), (279, .map [] 0), o5, o6, o7, o8, o9, o10, o11, o12, o13, o14, o15, o16, o17, o18, o19, o20, o21, o22, o23, o24, o25, o40, (1262, .map [] 0), o27, (1264, .map [] 0), (1265, .map [] 0), o28, o29, o30, (1269, .map [] 0), (1270, .map [] 0), o31, o32, o33, o34, o35, o36, o37, o38, o39, o283, o313, o42, o131, o132, o284, o285, o261, o47, o98, o213, o51, o286, o53, o54, o171, o57, o58, o59, o262, o61, o62, o63, o64, o65, o66, (2595, .map [] 0), o68, o263, o264, o69, o70, o71, (2602, .map [] 0), (2603, .map [] 0), o72, o73, o75, o76, o77, o78, o79, o80, o81, o89, o214, o92, o206, o105, o287, o108, o231, o110, o127, o128, o207, o216, o186, o265, o142, o288, o145, o146, o149, o150, o151, o161, o162, o163, o177, o178, o233, o239, o181, o189, o190, o191, o192, o193, o194, o196, o198, o200, o201, o218, o240, o241, o253, o289, o255, o256, o281, o290, o266, o267, o291, o269, o270, o314, o272, o273, o274, o275, o276, o277, o292, o293, o294, o295, o312, o315]⟩
noncomputable def s40 : Summ := segS a40 p40 v40 q40
set_option maxRecDepth 1000000
theorem r40 : segR c40 60 156 a40 p40 v40 q40 = true := by decide +kernel
theorem x40 : CtxOK c40 := ⟨names_of KBase.names, KBase.mixed, KBase.S0_ok⟩
theorem k40 : SummOK Tryz.prog 156 s40 := seg_summ x40 r40
end IM
end Go.Ab
