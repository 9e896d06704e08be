import Derived.Test.YtlcnngohlalhbaaGreatDoorBase
import Derived.Test.YtlcnngohlalhbaaGreatDoorData
namespace Go.Ab
open Go.RowKit Go.Proofs
namespace DF
noncomputable def c5 : Ctx := ⟨Tryz.prog, KBase.S0, fun _ => false⟩
noncomputable def a5 : List AV := [(.ptr (.i (.i (.i (.o (.i (.i (.i (.o (.o (.i .h)))))))))) 0), (.int .i64 (.ofNat 4)), (.int .i64 (.ofNat 1))]
noncomputable def p5 : Stt := ⟨1836, [o2, (1, .map [] 15), o1, o3, o4, (355, .map [] 0), (356, .map [] 0), o5, o6, o7, o8, o9, o10, o11, o12, o13, o14, o15, o16, o17, o18, o19, o20, o21, o22, o23, o24, o25, o26, o27, o28, o29, o30, o31, o39, (1645, .map [] 0), o33, (1647, .map [] 0), (1648, .map [] 0), o34, o35, o36, (1652, .map [] 0), (1653, .map [] 0), o37, o38, o40, o41, o42, o43, o44, o45, o46, o47, o48]⟩
noncomputable def v5 : AV := (.int .i64 (.ofNat 0))
noncomputable def q5 : Stt := ⟨2164, [o2, (1, .map [] 15), o1, o3, o4, (355, .map [] 0), (356, .map [] 0), o5, o6, o7, o8, o9, o10, o11, o12, o13, o14, o15, o16, o17, o18, o19, o20, o21, o22, o23, o24, o25, o26, o27, o28, o29, o30, o31, o49, (1645, .map [] 0), o33, (1647, .map [] 0), (1648, .map [] 0), o34, o35, o36, (1652, .map [] 0), (1653, .map [] 0), o37, o38, o40, o41, o42, o43, o44, o45, o46, o47, o48]⟩
noncomputable def s5 : Summ := segS a5 p5 v5 q5
set_option maxRecDepth 1000000
theorem r5 : segR c5 60 226 a5 p5 v5 q5 = true := by decide +kernel
theorem x5 : CtxOK c5 := ⟨names_of KBase.names, KBase.mixed, KBase.S0_ok⟩
theorem k5 : SummOK Tryz.prog 226 s5 := seg_summ x5 r5
end DF
end Go.Ab
namespace Go.Ab
open Go.RowKit Go.Proofs
namespace DF
noncomputable def c6 : Ctx := ⟨Tryz.prog, KBase.S0, fun _ => false⟩
noncomputable def a6 : List AV := [(.ptr (.i (.i (.i (.i (.o (.i (.i (.o (.o (.i .h)))))))))) 0), (.int .i64 (.ofNat 1))]
noncomputable def p6 : Stt := ⟨2164, [o2, (1, .map [] 15), o1, o3, o4, (355, .map [] 0), (356, .map [] 0), o5, o6, o7, o8, o9, o10, o11, o12, o13, o14, o15, o16, o17, o18, o19, o20, o21, o22, o23, o24, o25, o26, o27, o28, o29, o30, o31, o49, (1645, .map [] 0), o33, (1647, .map [] 0), (1648, .map [] 0), o34, o35, o36, (1652, .map [] 0), (1653, .map [] 0), o37, o38, o40, o41, o42, o43, o44, o45, o46, o47, o48]⟩
noncomputable def v6 : AV := (.tup [(.int .i64 (.ofNat 2)), (.int .i64 (.ofNat 1)), (.int .i64 (.ofNat 0))])
noncomputable def q6 : Stt := ⟨2416, [o2, (1, .map [] 15), o1, o3, o4, o50, o51, o52, o6, o7, o8, o53, o10, o11, o12, o13, o14, o15, o16, o17, o18, o19, o20, o21, o22, o23, o24, o25, o26, o27, o28, o29, o30, o31, o54, (1645, .map [] 0), o33, (1647, .map [] 0), (1648, .map [] 0), o34, o35, o36, (1652, .map [] 0), (1653, .map [] 0), o37, o38, o40, o41, o42, o43, o44, o45, o46, o47, o48, o55, o56, o57, o58, o59, o60]⟩
noncomputable def s6 : Summ := segS a6 p6 v6 q6
set_option maxRecDepth 1000000
theorem r6 : segR c6 60 58 a6 p6 v6 q6 = true := by decide +kernel
theorem x6 : CtxOK c6 := ⟨names_of KBase.names, KBase.mixed, KBase.S0_ok⟩
theorem k6 : SummOK Tryz.prog 58 s6 := seg_summ x6 r6
end DF
end Go.Ab
namespace Go.Ab
open Go.RowKit Go.Proofs
namespace DF
noncomputable def c7 : Ctx := ⟨Tryz.prog, KBase.S0, fun _ => false⟩
noncomputable def a7 : List AV := [(.ptr (.o (.i (.o (.o (.i (.i (.i (.o (.o (.i .h)))))))))) 0), (.int .i64 (.ofNat 2)), (.int .i64 (.ofNat 0)), .nils]
noncomputable def p7 : Stt := ⟨2467, [o2, (1, .map [] 15), o1, o3, o4, o61, o62, o63, o6, o64, o8, o53, o10, o11, o12, o13, o14, o15, o16, o65, o18, o19, o20, o21, o22, o23, o24, o25, o26, o27, o28, o29, o30, o31, o66, (1645, .map [] 0), o33, o67, o68, o34, o35, o36, (1652, .map [] 0), (1653, .map [] 0), o37, o38, o40, o41, o42, o43, o44, o45, o46, o47, o48, o55, o56, o57, o58, o59, o60, o69, o70, o71, o72, o73, o74, o75, o76, o77, o78]⟩
noncomputable def v7 : AV := (.int .i64 (.ofNat 0))
noncomputable def q7 : Stt := ⟨2499, [o2, (1, .map [] 15), o1, o3, o4, o61, o62, o63, o6, o64, o8, o53, o10, o11, o12, o13, o14, o15, o16, o65, o18, o19, o20, o21, o22, o23, o24, o25, o26, o27, o28, o29, o30, o31, o66, (1645, .map [] 0), o33, o67, o68, o34, o35, o36, (1652, .map [] 0), (1653, .map [] 0), o37, o38, o40, o41, o42, o43, o44, o45, o46, o47, o48, o55, o56, o57, o58, o59, o60, o69, o70, o71, o72, o73, o74, o75, o76, o77, o78]⟩
noncomputable def s7 : Summ := segS a7 p7 v7 q7
set_option maxRecDepth 1000000
theorem r7 : segR c7 60 107 a7 p7 v7 q7 = true := by decide +kernel
theorem x7 : CtxOK c7 := ⟨names_of KBase.names, KBase.mixed, KBase.S0_ok⟩
theorem k7 : SummOK Tryz.prog 107 s7 := seg_summ x7 r7
end DF
end Go.Ab
namespace Go.Ab
open Go.RowKit Go.Proofs
namespace DF
noncomputable def c8 : Ctx := ⟨Tryz.prog, KBase.S0, fun _ => false⟩
noncomputable def a8 : List AV := [(.ptr (.i (.i (.i (.i (.o (.i (.i (.o (.o (.i .h)))))))))) 0), (.int .i64 (.ofNat 0))]
noncomputable def p8 : Stt := ⟨2956, [o2, (1, .map [] 15), o1, o3, o4, o61, o62, o63, o6, o64, o8, o53, o10, o11, o12, o13, o14, o15, o16, o65, o18, o19, o20, o21, o22, o23, o24, o25, o26, o27, o28, o29, o30, o31, o49, (1645, .map [] 0), o33, o67, o68, o34, o35, o36, (1652, .map [] 0), (1653, .map [] 0), o37, o38, o40, o41, o42, o43, o44, o45, o46, o47, o48, o55, o56, o57, o58, o59, o60, o69, o70, o71, o72, o73, o74, o75, o76, o77, o78, o79, o80, o81, o82, o83, o84, o85, o86, o87, o88]⟩
noncomputable def v8 : AV := (.tup [(.int .i64 (.ofNat 5)), (.int .i64 (.ofNat 3)), (.int .i64 (.ofNat 0))])
noncomputable def q8 : Stt := ⟨3216, [o2, (1, .map [] 15), o1, o3, o4, o89, o62, o90, o6, o64, o8, o91, o10, o11, o12, o13, o14, o15, o16, o65, o18, o19, o20, o21, o22, o23, o24, o25, o26, o27, o28, o29, o30, o31, o54, (1645, .map [] 0), o33, o67, o68, o34, o35, o36, (1652, .map [] 0), (1653, .map [] 0), o37, o38, o40, o41, o42, o43, o44, o45, o46, o47, o48, o55, o92, o57, o58, o59, o69, o70, o71, o72, o73, o74, o75, o76, o77, o78, o79, o80, o81, o82, o83, o84, o85, o86, o87, o88, o93, o94, o95, o96]⟩
noncomputable def s8 : Summ := segS a8 p8 v8 q8
set_option maxRecDepth 1000000
theorem r8 : segR c8 60 164 a8 p8 v8 q8 = true := by decide +kernel
theorem x8 : CtxOK c8 := ⟨names_of KBase.names, KBase.mixed, KBase.S0_ok⟩
theorem k8 : SummOK Tryz.prog 164 s8 := seg_summ x8 r8
end DF
end Go.Ab
