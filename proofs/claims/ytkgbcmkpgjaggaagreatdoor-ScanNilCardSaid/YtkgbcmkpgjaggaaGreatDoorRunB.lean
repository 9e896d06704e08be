import Derived.Test.YtkgbcmkpgjaggaaGreatDoorBase
import Derived.Test.YtkgbcmkpgjaggaaGreatDoorData
namespace Go.Ab
open Go.RowKit Go.Proofs
namespace SC
noncomputable def c5 : Ctx := ⟨Tryz.prog, KBase.S0, fun _ => false⟩
noncomputable def a5 : List AV := [(.ptr (.i (.o (.o (.o (.o (.o (.o (.i (.i .h))))))))) 0), (.int .i64 (.ofNat 4)), (.int .i64 (.ofNat 1))]
noncomputable def p5 : Stt := ⟨1056, [o0, o1, o2, o3, o6, (7, .map [] 9), o5, o7, o8, (209, .map [] 0), (210, .map [] 0), o9, o10, o11, o12, o13, o14, o15, o16, o17, o18, o19, o20, o21, o22, o23, o31, (887, .map [] 0), o25, (889, .map [] 0), (890, .map [] 0), o26, o27, o28, (894, .map [] 0), (895, .map [] 0), o29, o30, o32, o33]⟩
noncomputable def v5 : AV := (.int .i64 (.ofNat 0))
noncomputable def q5 : Stt := ⟨1224, [o0, o1, o2, o3, o6, (7, .map [] 9), o5, o7, o8, (209, .map [] 0), (210, .map [] 0), o9, o10, o11, o12, o13, o14, o15, o16, o17, o18, o19, o20, o21, o22, o23, o34, (887, .map [] 0), o25, (889, .map [] 0), (890, .map [] 0), o26, o27, o28, (894, .map [] 0), (895, .map [] 0), o29, o30, o32, o33]⟩
noncomputable def s5 : Summ := segS a5 p5 v5 q5
set_option maxRecDepth 1000000
theorem r5 : segR c5 60 139 a5 p5 v5 q5 = true := by decide +kernel
theorem x5 : CtxOK c5 := ⟨names_of KBase.names, KBase.mixed, KBase.S0_ok⟩
theorem k5 : SummOK Tryz.prog 139 s5 := seg_summ x5 r5
end SC
end Go.Ab
namespace Go.Ab
open Go.RowKit Go.Proofs
namespace SC
noncomputable def c6 : Ctx := ⟨Tryz.prog, KBase.S0, fun _ => false⟩
noncomputable def a6 : List AV := [(.ptr (.i (.o (.o (.i (.i (.i (.i (.o (.i .h))))))))) 0), (.int .i64 (.ofNat 1))]
noncomputable def p6 : Stt := ⟨1224, [o0, o1, o2, o3, o6, (7, .map [] 9), o5, o7, o8, (209, .map [] 0), (210, .map [] 0), o9, o10, o11, o12, o13, o14, o15, o16, o17, o18, o19, o20, o21, o22, o23, o34, (887, .map [] 0), o25, (889, .map [] 0), (890, .map [] 0), o26, o27, o28, (894, .map [] 0), (895, .map [] 0), o29, o30, o32, o33]⟩
noncomputable def v6 : AV := (.tup [(.int .i64 (.ofNat 2)), (.int .i64 (.ofNat 1)), (.int .i64 (.ofNat 0))])
noncomputable def q6 : Stt := ⟨1476, [o0, o1, o2, o3, o6, (7, .map [] 9), o5, o7, o8, o35, o36, o37, o10, o11, o12, o38, o14, o15, o16, o17, o18, o19, o20, o21, o22, o23, o39, (887, .map [] 0), o25, (889, .map [] 0), (890, .map [] 0), o26, o27, o28, (894, .map [] 0), (895, .map [] 0), o29, o30, o32, o33, o40, o41, o42, o43, o44, o45]⟩
noncomputable def s6 : Summ := segS a6 p6 v6 q6
set_option maxRecDepth 1000000
theorem r6 : segR c6 60 226 a6 p6 v6 q6 = true := by decide +kernel
theorem x6 : CtxOK c6 := ⟨names_of KBase.names, KBase.mixed, KBase.S0_ok⟩
theorem k6 : SummOK Tryz.prog 226 s6 := seg_summ x6 r6
end SC
end Go.Ab
namespace Go.Ab
open Go.RowKit Go.Proofs
namespace SC
noncomputable def c7 : Ctx := ⟨Tryz.prog, KBase.S0, fun _ => false⟩
noncomputable def a7 : List AV := [(.ptr (.o (.o (.i (.i (.i (.i (.i (.o (.i .h))))))))) 0), (.int .i64 (.ofNat 2)), (.int .i64 (.ofNat 0)), .nils]
noncomputable def p7 : Stt := ⟨1527, [o0, o1, o2, o3, o6, (7, .map [] 9), o5, o7, o8, o46, o47, o48, o10, o49, o12, o38, o14, o15, o16, o50, o18, o19, o20, o21, o22, o23, o51, (887, .map [] 0), o25, o52, o53, o26, o27, o28, (894, .map [] 0), (895, .map [] 0), o29, o30, o32, o33, o40, o41, o42, o43, o44, o45, o54, o55, o56, o57, o58, o59, o60, o61, o62, o63]⟩
noncomputable def v7 : AV := (.int .i64 (.ofNat 0))
noncomputable def q7 : Stt := ⟨1559, [o0, o1, o2, o3, o6, (7, .map [] 9), o5, o7, o8, o46, o47, o48, o10, o49, o12, o38, o14, o15, o16, o50, o18, o19, o20, o21, o22, o23, o51, (887, .map [] 0), o25, o52, o53, o26, o27, o28, (894, .map [] 0), (895, .map [] 0), o29, o30, o32, o33, o40, o41, o42, o43, o44, o45, o54, o55, o56, o57, o58, o59, o60, o61, o62, o63]⟩
noncomputable def s7 : Summ := segS a7 p7 v7 q7
set_option maxRecDepth 1000000
theorem r7 : segR c7 60 79 a7 p7 v7 q7 = true := by decide +kernel
theorem x7 : CtxOK c7 := ⟨names_of KBase.names, KBase.mixed, KBase.S0_ok⟩
theorem k7 : SummOK Tryz.prog 79 s7 := seg_summ x7 r7
end SC
end Go.Ab
namespace Go.Ab
open Go.RowKit Go.Proofs
namespace SC
noncomputable def c8 : Ctx := ⟨Tryz.prog, KBase.S0, fun _ => false⟩
noncomputable def a8 : List AV := [(.ptr (.i (.o (.o (.i (.i (.i (.i (.o (.i .h))))))))) 0), (.int .i64 (.ofNat 0))]
noncomputable def p8 : Stt := ⟨1856, [o0, o1, o2, o3, o6, (7, .map [] 9), o5, o7, o8, o46, o47, o48, o10, o49, o12, o38, o14, o15, o16, o50, o18, o19, o20, o21, o22, o23, o34, (887, .map [] 0), o25, o52, o53, o26, o27, o28, (894, .map [] 0), (895, .map [] 0), o29, o30, o32, o33, o40, o41, o42, o43, o44, o45, o54, o55, o56, o57, o58, o59, o60, o61, o62, o63, o64, o65, o66, o67, o68, o69, o70, o71, o72, o73]⟩
noncomputable def v8 : AV := (.tup [(.int .i64 (.ofNat 5)), (.int .i64 (.ofNat 3)), (.int .i64 (.ofNat 0))])
noncomputable def q8 : Stt := ⟨2116, [o0, o1, o2, o3, o6, (7, .map [] 9), o5, o7, o8, o74, o47, o75, o10, o49, o12, o76, o14, o15, o16, o50, o18, o19, o20, o21, o22, o23, o39, (887, .map [] 0), o25, o52, o53, o26, o27, o28, (894, .map [] 0), (895, .map [] 0), o29, o30, o32, o33, o40, o77, o42, o43, o44, o54, o55, o56, o57, o58, o59, o60, o61, o62, o63, o64, o65, o66, o67, o68, o69, o70, o71, o72, o73, o78, o79, o80, o81]⟩
noncomputable def s8 : Summ := segS a8 p8 v8 q8
set_option maxRecDepth 1000000
theorem r8 : segR c8 60 330 a8 p8 v8 q8 = true := by decide +kernel
theorem x8 : CtxOK c8 := ⟨names_of KBase.names, KBase.mixed, KBase.S0_ok⟩
theorem k8 : SummOK Tryz.prog 330 s8 := seg_summ x8 r8
end SC
end Go.Ab
