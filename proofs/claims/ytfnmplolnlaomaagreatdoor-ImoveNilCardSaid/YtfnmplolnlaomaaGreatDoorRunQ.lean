import Derived.Test.YtfnmplolnlaomaaGreatDoorBase
import Derived.Test.YtfnmplolnlaomaaGreatDoorData
namespace Go.Ab
open Go.RowKit Go.Proofs
namespace IM
noncomputable def c49 : Ctx := ⟨Tryz.prog, KBase.S0, fun _ => false⟩
noncomputable def a49 : List AV := [(.ptr (.i (.o (.i (.o (.i (.o (.i (.i (.o (.o (.o (.o (.o (.i (.o (.o (.o .h))))))))))))))))) 0), (.ptr (.o (.i (.i (.o (.i (.o (.i (.i (.o (.o (.o (.o (.o (.i (.o (.o (.o .h))))))))))))))))) 0)]
noncomputable def p49 : Stt := ⟨196875, [o2, (1, .map [] 12), o1, o3, o4, (278, .map [] 0), (279, .map [] 0), o5, o6, o7, o8, o9, o10, o11, o12, o13, o14, o15, o16, o17, o18, o19, o20, o21, o22, o23, o24, o25, o40, (1262, .map [] 0), o27, (1264, .map [] 0), (1265, .map [] 0), o28, o29, o30, (1269, .map [] 0), (1270, .map [] 0), o31, o32, o33, o34, o35, o36, o37, o38, o39, o357, (1334, .map [] 17), o42, o131, o132, o358, o318, o338, o47, o98, o213, o51, o286, o53, o54, o171, o57, o58, o59, o319, o61, o62, o63, o64, o65, o66, (2595, .map [] 0), o68, o263, o339, o69, o70, o71, (2602, .map [] 0), (2603, .map [] 0), o72, o73, o75, o76, o77, o78, o79, o80, o81, o89, o214, o92, o206, o105, o359, o108, o231, o110, o127, o128, o207, o216, o340, o341, o142, o360, o145, o355, o149, o150, o151, o161, o162, o163, o177, o178, o233, o239, o181, o189, o190, o191, o192, o196, o198, o200, o201, o218, o255, o266, o269, o274, o275, o324, o325, o336, o343, o344, o345, o346, o347, o361, o349, o350, o351, o352, o353, o362, o363]⟩
noncomputable def v49 : AV := (.sl (.i (.i (.i (.o (.i (.o (.o (.o (.i (.o (.o (.o (.o (.i (.i (.o (.i .h))))))))))))))))) 0 2 4 1 false)
noncomputable def q49 : Stt := ⟨221463, [o2, (1, .map [] 12), o1, o3, o4, (278, .map [] 0), (279, .map [] 0), o5, o6, o7, o8, o9, o10, o11, o12, o13, o14, o15, o16, o17, o18, o19, o20, o21, o22, o23, o24, o25, o40, (1262, .map [] 0), o27, (1264, .map [] 0), (1265, .map [] 0), o28, o29, o30, (1269, .map [] 0), (1270, .map [] 0), o31, o32, o33, o34, o35, o36, o37, o38, o39, o357, (1334, .map [] 17), o42, o131, o132, o358, o318, o338, o47, o98, o213, o51, o286, o53, o54, o171, o57, o58, o59, o319, o61, o62, o63, o64, o65, o66, (2595, .map [] 0), o68, o263, o339, o69, o70, o71, (2602, .map [] 0), (2603, .map [] 0), o72, o73, o75, o76, o77, o78, o79, o80, o81, o89, o214, o92, o206, o105, o359, o108, o231, o110, o127, o128, o207, o216, o340, o341, o142, o360, o145, o355, o149, o150, o151, o161, o162, o163, o177, o178, o233, o239, o181, o189, o190, o191, o192, o196, o198, o200, o201, o218, o255, o266, o269, o274, o275, o324, o325, o336, o343, o344, o345, o346, o347, o361, o349, o350, o351, o352, o353, o362, o363, o368]⟩
noncomputable def s49 : Summ := segS a49 p49 v49 q49
set_option maxRecDepth 1000000
theorem r49 : segR c49 60 95 a49 p49 v49 q49 = true := by decide +kernel
theorem x49 : CtxOK c49 := ⟨names_of KBase.names, KBase.mixed, KBase.S0_ok⟩
theorem k49 : SummOK Tryz.prog 95 s49 := seg_summ x49 r49
end IM
end Go.Ab
namespace Go.Ab
open Go.RowKit Go.Proofs
namespace IM
noncomputable def c50 : Ctx := ⟨Tryz.prog, KBase.S0, fun _ => false⟩
noncomputable def a50 : List AV := [(.ptr (.o (.i (.i (.i (.o (.o (.i (.o (.o (.i .h)))))))))) 0), (.int .i64 (.ofNat 3))]
noncomputable def p50 : Stt := ⟨221467, [o2, (1, .map [] 12), o1, o3, o4, (278, .map [] 0), (279, .map [] 0), o5, o6, o7, o8, o9, o10, o11, o12, o13, o14, o15, o16, o17, o18, o19, o20, o21, o22, o23, o24, o25, o40, (1262, .map [] 0), o27, (1264, .map [] 0), (1265, .map [] 0), o28, o29, o30, (1269, .map [] 0), (1270, .map [] 0), o31, o32, o33, o34, o35, o36, o37, o38, o39, o357, (1334, .map [] 17), o42, o131, o132, o358, o318, o338, o47, o98, o213, o51, o286, o53, o54, o171, o57, o58, o59, o319, o61, o62, o63, o64, o65, o66, (2595, .map [] 0), o68, o263, o339, o69, o70, o71, (2602, .map [] 0), (2603, .map [] 0), o72, o73, o75, o76, o77, o78, o79, o80, o81, o89, o214, o92, o206, o105, o359, o108, o231, o110, o127, o128, o207, o216, o340, o341, o142, o360, o145, o355, o149, o150, o151, o161, o162, o163, o177, o178, o233, o239, o181, o189, o190, o191, o192, o196, o198, o200, o201, o218, o255, o266, o269, o274, o275, o324, o325, o336, o343, o344, o345, o346, o347, o361, o349, o350, o351, o352, o362, o363, o368]⟩
noncomputable def v50 : AV := (.int .i64 (.ofNat 0))
noncomputable def q50 : Stt := ⟨221487, [o2, (1, .map [] 12), o1, o3, o4, (278, .map [] 0), (279, .map [] 0), o5, o6, o7, o8, o9, o10, o11, o12, o13, o14, o15, o16, o17, o18, o19, o20, o21, o22, o23, o24, o25, o40, (1262, .map [] 0), o27, (1264, .map [] 0), (1265, .map [] 0), o28, o29, o30, (1269, .map [] 0), (1270, .map [] 0), o31, o32, o33, o34, o35, o36, o37, o38, o39, o357, o369, o42, o131, o132, o358, o318, o338, o47, o98, o213, o51, o286, o53, o54, o171, o57, o58, o59, o319, o61, o62, o63, o64, o65, o66, (2595, .map [] 0), o68, o263, o339, o69, o70, o71, (2602, .map [] 0), (2603, .map [] 0), o72, o73, o75, o76, o77, o78, o79, o80, o81, o89, o214, o92, o206, o105, o359, o108, o231, o110, o127, o128, o207, o216, o340, o370, o142, o360, o145, o355, o149, o371, o151, o161, o162, o163, o177, o178, o233, o239, o181, o189, o190, o191, o192, o196, o198, o200, o201, o218, o255, o266, o269, o274, o275, o324, o325, o336, o343, o344, o345, o346, o347, o361, o349, o350, o351, o352, o362, o363, o368, o372]⟩
noncomputable def s50 : Summ := segS a50 p50 v50 q50
set_option maxRecDepth 1000000
theorem r50 : segR c50 60 156 a50 p50 v50 q50 = true := by decide +kernel
theorem x50 : CtxOK c50 := ⟨names_of KBase.names, KBase.mixed, KBase.S0_ok⟩
theorem k50 : SummOK Tryz.prog 156 s50 := seg_summ x50 r50
end IM
end Go.Ab
