import Derived.Test.YtfnmplolnlaomaaGreatDoorBase
import Derived.Test.YtfnmplolnlaomaaGreatDoorData
namespace Go.Ab
open Go.RowKit Go.Proofs
namespace IM
noncomputable def c8 : Ctx := ⟨Tryz.prog, KBase.S0, fun _ => false⟩
noncomputable def a8 : List AV := [(.ptr (.o (.o (.o (.i (.i (.i (.o (.o (.i (.o .h)))))))))) 0), (.agg [(.int .i64 (.ofNat 32)), (.int .i64 (.ofNat 8)), (.int .i64 (.ofNat 3))])]
noncomputable def p8 : Stt := ⟨1336, [o2, (1, .map [] 12), o1, o3, o4, (278, .map [] 0), (279, .map [] 0), o5, o6, o7, o8, o9, o10, o11, o12, o13, o14, o15, o16, o17, o18, o19, o20, o21, o22, o23, o24, o25, o40, (1262, .map [] 0), o27, (1264, .map [] 0), (1265, .map [] 0), o28, o29, o30, (1269, .map [] 0), (1270, .map [] 0), o31, o32, o33, o34, o35, o36, o37, o38, o39, o41, (1334, .map [] 0), o42]⟩
noncomputable def v8 : AV := (.int .i64 (.ofNat 0))
noncomputable def q8 : Stt := ⟨1609, [o2, (1, .map [] 12), o1, o3, o4, (278, .map [] 0), (279, .map [] 0), o5, o6, o7, o8, o9, o10, o11, o12, o13, o14, o15, o16, o17, o18, o19, o20, o21, o22, o23, o24, o25, o40, (1262, .map [] 0), o27, (1264, .map [] 0), (1265, .map [] 0), o28, o29, o30, (1269, .map [] 0), (1270, .map [] 0), o31, o32, o33, o34, o35, o36, o37, o38, o39, o43, (1334, .map [] 12), o42]⟩
noncomputable def s8 : Summ := segS a8 p8 v8 q8
set_option maxRecDepth 1000000
theorem r8 : segR c8 60 28 a8 p8 v8 q8 = true := by decide +kernel
theorem x8 : CtxOK c8 := ⟨names_of KBase.names, KBase.mixed, KBase.S0_ok⟩
theorem k8 : SummOK Tryz.prog 28 s8 := seg_summ x8 r8
end IM
end Go.Ab
namespace Go.Ab
open Go.RowKit Go.Proofs
namespace IM
noncomputable def c9 : Ctx := ⟨Tryz.prog, KBase.S0, fun _ => false⟩
noncomputable def a9 : List AV := [(.ptr (.o (.o (.o (.i (.i (.i (.o (.o (.i (.o .h)))))))))) 0)]
noncomputable def p9 : Stt := ⟨1609, [o2, (1, .map [] 12), o1, o3, o4, (278, .map [] 0), (279, .map [] 0), o5, o6, o7, o8, o9, o10, o11, o12, o13, o14, o15, o16, o17, o18, o19, o20, o21, o22, o23, o24, o25, o40, (1262, .map [] 0), o27, (1264, .map [] 0), (1265, .map [] 0), o28, o29, o30, (1269, .map [] 0), (1270, .map [] 0), o31, o32, o33, o34, o35, o36, o37, o38, o39, o43, (1334, .map [] 12), o42]⟩
noncomputable def v9 : AV := (.tup [(.ptr (.o (.o (.i (.i (.o (.i (.i (.o (.o (.i .h)))))))))) 0), (.int .i64 (.ofNat 0))])
noncomputable def q9 : Stt := ⟨2595, [o2, (1, .map [] 12), o1, o3, o4, (278, .map [] 0), (279, .map [] 0), o5, o6, o7, o8, o9, o10, o11, o12, o13, o14, o15, o16, o17, o18, o19, o20, o21, o22, o23, o24, o25, o40, (1262, .map [] 0), o27, (1264, .map [] 0), (1265, .map [] 0), o28, o29, o30, (1269, .map [] 0), (1270, .map [] 0), o31, o32, o33, o34, o35, o36, o37, o38, o39, o43, (1334, .map [] 12), o42, o44, o45, (1611, .map [] 0), (1612, .map [] 0), o46, o47, o48, o49, o50, o51, o52, o53, o54, o55, o56, o57, o58, o59, o60, o61, o62, o63, o64, o65, o66, o67]⟩
noncomputable def s9 : Summ := segS a9 p9 v9 q9
set_option maxRecDepth 1000000
theorem r9 : segR c9 60 69 a9 p9 v9 q9 = true := by decide +kernel
theorem x9 : CtxOK c9 := ⟨names_of KBase.names, KBase.mixed, KBase.S0_ok⟩
theorem k9 : SummOK Tryz.prog 69 s9 := seg_summ x9 r9
end IM
end Go.Ab
namespace Go.Ab
open Go.RowKit Go.Proofs
namespace IM
noncomputable def c10 : Ctx := ⟨Tryz.prog, (addS 69 (orS (atNx 1609) s9 badS) KBase.S0), fun _ => false⟩
noncomputable def a10 : List AV := [(.ptr (.o (.o (.o (.i (.i (.i (.o (.o (.i (.o .h)))))))))) 0)]
noncomputable def p10 : Stt := ⟨1609, [o2, (1, .map [] 12), o1, o3, o4, (278, .map [] 0), (279, .map [] 0), o5, o6, o7, o8, o9, o10, o11, o12, o13, o14, o15, o16, o17, o18, o19, o20, o21, o22, o23, o24, o25, o40, (1262, .map [] 0), o27, (1264, .map [] 0), (1265, .map [] 0), o28, o29, o30, (1269, .map [] 0), (1270, .map [] 0), o31, o32, o33, o34, o35, o36, o37, o38, o39, o43, (1334, .map [] 12), o42]⟩
noncomputable def v10 : AV := (.tup [(.ptr (.o (.i (.i (.i (.o (.i (.o (.o (.o (.i (.o .h))))))))))) 0), (.int .i64 (.ofNat 0))])
noncomputable def q10 : Stt := ⟨2606, [o2, (1, .map [] 12), o1, o3, o4, (278, .map [] 0), (279, .map [] 0), o5, o6, o7, o8, o9, o10, o11, o12, o13, o14, o15, o16, o17, o18, o19, o20, o21, o22, o23, o24, o25, o40, (1262, .map [] 0), o27, (1264, .map [] 0), (1265, .map [] 0), o28, o29, o30, (1269, .map [] 0), (1270, .map [] 0), o31, o32, o33, o34, o35, o36, o37, o38, o39, o43, (1334, .map [] 12), o42, o44, o45, (1611, .map [] 0), (1612, .map [] 0), o46, o47, o48, o49, o50, o51, o52, o53, o54, o55, o56, o57, o58, o59, o60, o61, o62, o63, o64, o65, o66, o67, (2595, .map [] 0), o68, (2597, .map [] 0), (2598, .map [] 0), o69, o70, o71, (2602, .map [] 0), (2603, .map [] 0), o72, o73]⟩
noncomputable def s10 : Summ := segS a10 p10 v10 q10
set_option maxRecDepth 1000000
theorem r10 : segR c10 60 29 a10 p10 v10 q10 = true := by decide +kernel
theorem x10 : CtxOK c10 := ⟨names_of KBase.names, KBase.mixed, (addS_ok (orS_ok k9 badS_ok) KBase.S0_ok)⟩
theorem k10 : SummOK Tryz.prog 29 s10 := seg_summ x10 r10
end IM
end Go.Ab
