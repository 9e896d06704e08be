import Derived.Test.YtfnmplolnlaomaaGreatDoorBase
import Derived.Test.YtfnmplolnlaomaaGreatDoorData
namespace Go.Ab
open Go.RowKit Go.Proofs
namespace IM
noncomputable def c46 : Ctx := ⟨Tryz.prog, KBase.S0, fun _ => false⟩
noncomputable def a46 : List AV := [(.ptr (.i (.o (.i (.o (.i (.o (.i (.i (.o (.o (.o (.o (.o (.i (.o (.o (.o .h))))))))))))))))) 0), (.ptr (.o (.i (.i (.o (.i (.o (.i (.i (.o (.o (.o (.o (.o (.i (.o (.o (.o .h))))))))))))))))) 0)]
noncomputable def p46 : Stt := ⟨139478, [o2, (1, .map [] 12), o1, o3, o4, (278, .map [] 0), (279, .map [] 0), o5, o6, o7, o8, o9, o10, o11, o12, o13, o14, o15, o16, o17, o18, o19, o20, o21, o22, o23, o24, o25, o40, (1262, .map [] 0), o27, (1264, .map [] 0), (1265, .map [] 0), o28, o29, o30, (1269, .map [] 0), (1270, .map [] 0), o31, o32, o33, o34, o35, o36, o37, o38, o39, o316, (1334, .map [] 16), o42, o131, o132, o337, o318, o338, o47, o98, o213, o51, o286, o53, o54, o171, o57, o58, o59, o319, o61, o62, o63, o64, o65, o66, (2595, .map [] 0), o68, o263, o339, o69, o70, o71, (2602, .map [] 0), (2603, .map [] 0), o72, o73, o75, o76, o77, o78, o79, o80, o81, o89, o214, o92, o206, o105, o320, o108, o231, o110, o127, o128, o207, o216, o340, o341, o142, o342, o145, o146, o149, o150, o151, o161, o162, o163, o177, o178, o233, o239, o181, o189, o190, o191, o192, o196, o198, o200, o201, o218, o255, o266, o269, o274, o275, o324, o325, o336, o343, o344, o345, o346, o347, o348, o349, o350, o351, o352]⟩
noncomputable def v46 : AV := (.sl (.o (.o (.i (.o (.o (.i (.i (.i (.o (.o (.o (.o (.i (.o (.o (.i (.o .h))))))))))))))))) 0 2 5 1 false)
noncomputable def q46 : Stt := ⟨168164, [o2, (1, .map [] 12), o1, o3, o4, (278, .map [] 0), (279, .map [] 0), o5, o6, o7, o8, o9, o10, o11, o12, o13, o14, o15, o16, o17, o18, o19, o20, o21, o22, o23, o24, o25, o40, (1262, .map [] 0), o27, (1264, .map [] 0), (1265, .map [] 0), o28, o29, o30, (1269, .map [] 0), (1270, .map [] 0), o31, o32, o33, o34, o35, o36, o37, o38, o39, o316, (1334, .map [] 16), o42, o131, o132, o337, o318, o338, o47, o98, o213, o51, o286, o53, o54, o171, o57, o58, o59, o319, o61, o62, o63, o64, o65, o66, (2595, .map [] 0), o68, o263, o339, o69, o70, o71, (2602, .map [] 0), (2603, .map [] 0), o72, o73, o75, o76, o77, o78, o79, o80, o81, o89, o214, o92, o206, o105, o320, o108, o231, o110, o127, o128, o207, o216, o340, o341, o142, o342, o145, o146, o149, o150, o151, o161, o162, o163, o177, o178, o233, o239, o181, o189, o190, o191, o192, o196, o198, o200, o201, o218, o255, o266, o269, o274, o275, o324, o325, o336, o343, o344, o345, o346, o347, o348, o349, o350, o351, o352, o353]⟩
noncomputable def s46 : Summ := segS a46 p46 v46 q46
set_option maxRecDepth 1000000
theorem r46 : segR c46 60 95 a46 p46 v46 q46 = true := by decide +kernel
theorem x46 : CtxOK c46 := ⟨names_of KBase.names, KBase.mixed, KBase.S0_ok⟩
theorem k46 : SummOK Tryz.prog 95 s46 := seg_summ x46 r46
end IM
end Go.Ab
