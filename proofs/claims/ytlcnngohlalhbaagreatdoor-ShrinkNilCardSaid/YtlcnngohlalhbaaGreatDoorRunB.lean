import Derived.Test.YtlcnngohlalhbaaGreatDoorRunA
import Derived.Test.YtlcnngohlalhbaaGreatDoorBase
import Derived.Test.YtlcnngohlalhbaaGreatDoorData
namespace Go.Ab
open Go.RowKit Go.Proofs
namespace SH
noncomputable def c5 : Ctx := ⟨Tryz.prog, (addS 138 (orS (atNx 283) s4 badS) KBase.S0), fun _ => false⟩
noncomputable def a5 : List AV := [(.ptr (.i (.o (.o .h))) 0)]
noncomputable def p5 : Stt := ⟨283, [o2, (7, .map [] 12), o1]⟩
noncomputable def v5 : AV := (.tup [(.ptr (.o (.o (.o (.o (.o (.o (.o (.o (.i (.o .h)))))))))) 0), (.int .i64 (.ofNat 0))])
noncomputable def q5 : Stt := ⟨1280, [o2, (7, .map [] 12), o1, o3, o4, (285, .map [] 0), (286, .map [] 0), o5, o6, o7, o8, o9, o10, o11, o12, o13, o14, o15, o16, o17, o18, o19, o20, o21, o22, o23, o24, o25, o26, (1269, .map [] 0), o27, (1271, .map [] 0), (1272, .map [] 0), o28, o29, o30, (1276, .map [] 0), (1277, .map [] 0), o31, o32]⟩
noncomputable def s5 : Summ := segS a5 p5 v5 q5
set_option maxRecDepth 1000000
theorem r5 : segR c5 60 66 a5 p5 v5 q5 = true := by decide +kernel
theorem x5 : CtxOK c5 := ⟨names_of KBase.names, KBase.mixed, (addS_ok (orS_ok k4 badS_ok) KBase.S0_ok)⟩
theorem k5 : SummOK Tryz.prog 66 s5 := seg_summ x5 r5
end SH
end Go.Ab
namespace Go.Ab
open Go.RowKit Go.Proofs
namespace SH
noncomputable def c6 : Ctx := ⟨Tryz.prog, KBase.S0, fun _ => false⟩
noncomputable def a6 : List AV := [(.ptr (.i (.i (.i (.i (.i (.i (.i (.i (.o (.o .h)))))))))) 0), (.int .i64 (.ofNat 4)), (.int .i64 (.ofNat 1))]
noncomputable def p6 : Stt := ⟨1460, [o2, (7, .map [] 12), o1, o3, o4, (285, .map [] 0), (286, .map [] 0), o5, o6, o7, o8, o9, o10, o11, o12, o13, o14, o15, o16, o17, o18, o19, o20, o21, o22, o23, o24, o25, o33, (1269, .map [] 0), o27, (1271, .map [] 0), (1272, .map [] 0), o28, o29, o30, (1276, .map [] 0), (1277, .map [] 0), o31, o32, o34, o35, o36, o37, o38, o39, o40, o41, o42]⟩
noncomputable def v6 : AV := (.int .i64 (.ofNat 0))
noncomputable def q6 : Stt := ⟨1708, [o2, (7, .map [] 12), o1, o3, o4, (285, .map [] 0), (286, .map [] 0), o5, o6, o7, o8, o9, o10, o11, o12, o13, o14, o15, o16, o17, o18, o19, o20, o21, o22, o23, o24, o25, o43, (1269, .map [] 0), o27, (1271, .map [] 0), (1272, .map [] 0), o28, o29, o30, (1276, .map [] 0), (1277, .map [] 0), o31, o32, o34, o35, o36, o37, o38, o39, o40, o41, o42]⟩
noncomputable def s6 : Summ := segS a6 p6 v6 q6
set_option maxRecDepth 1000000
theorem r6 : segR c6 60 226 a6 p6 v6 q6 = true := by decide +kernel
theorem x6 : CtxOK c6 := ⟨names_of KBase.names, KBase.mixed, KBase.S0_ok⟩
theorem k6 : SummOK Tryz.prog 226 s6 := seg_summ x6 r6
end SH
end Go.Ab
namespace Go.Ab
open Go.RowKit Go.Proofs
namespace SH
noncomputable def c7 : Ctx := ⟨Tryz.prog, KBase.S0, fun _ => false⟩
noncomputable def a7 : List AV := [(.ptr (.i (.i (.i (.o (.i (.i (.i (.i (.o (.o .h)))))))))) 0), (.int .i64 (.ofNat 1))]
noncomputable def p7 : Stt := ⟨1708, [o2, (7, .map [] 12), o1, o3, o4, (285, .map [] 0), (286, .map [] 0), o5, o6, o7, o8, o9, o10, o11, o12, o13, o14, o15, o16, o17, o18, o19, o20, o21, o22, o23, o24, o25, o43, (1269, .map [] 0), o27, (1271, .map [] 0), (1272, .map [] 0), o28, o29, o30, (1276, .map [] 0), (1277, .map [] 0), o31, o32, o34, o35, o36, o37, o38, o39, o40, o41, o42]⟩
noncomputable def v7 : AV := (.tup [(.int .i64 (.ofNat 2)), (.int .i64 (.ofNat 1)), (.int .i64 (.ofNat 0))])
noncomputable def q7 : Stt := ⟨1960, [o2, (7, .map [] 12), o1, o3, o4, o44, o45, o46, o6, o7, o8, o47, o10, o11, o12, o13, o14, o15, o16, o17, o18, o19, o20, o21, o22, o23, o24, o25, o48, (1269, .map [] 0), o27, (1271, .map [] 0), (1272, .map [] 0), o28, o29, o30, (1276, .map [] 0), (1277, .map [] 0), o31, o32, o34, o35, o36, o37, o38, o39, o40, o41, o42, o49, o50, o51, o52, o53, o54]⟩
noncomputable def s7 : Summ := segS a7 p7 v7 q7
set_option maxRecDepth 1000000
theorem r7 : segR c7 60 58 a7 p7 v7 q7 = true := by decide +kernel
theorem x7 : CtxOK c7 := ⟨names_of KBase.names, KBase.mixed, KBase.S0_ok⟩
theorem k7 : SummOK Tryz.prog 58 s7 := seg_summ x7 r7
end SH
end Go.Ab
namespace Go.Ab
open Go.RowKit Go.Proofs
namespace SH
noncomputable def c8 : Ctx := ⟨Tryz.prog, KBase.S0, fun _ => false⟩
noncomputable def a8 : List AV := [(.ptr (.o (.i (.o (.i (.i (.i (.i (.i (.o (.o .h)))))))))) 0), (.int .i64 (.ofNat 2)), (.int .i64 (.ofNat 0)), .nils]
noncomputable def p8 : Stt := ⟨2011, [o2, (7, .map [] 12), o1, o3, o4, o55, o56, o57, o6, o58, o8, o47, o10, o11, o12, o13, o14, o59, o16, o17, o18, o19, o20, o21, o22, o23, o24, o25, o60, (1269, .map [] 0), o27, o61, o62, o28, o29, o30, (1276, .map [] 0), (1277, .map [] 0), o31, o32, o34, o35, o36, o37, o38, o39, o40, o41, o42, o49, o50, o51, o52, o53, o54, o63, o64, o65, o66, o67, o68, o69, o70, o71, o72]⟩
noncomputable def v8 : AV := (.int .i64 (.ofNat 0))
noncomputable def q8 : Stt := ⟨2043, [o2, (7, .map [] 12), o1, o3, o4, o55, o56, o57, o6, o58, o8, o47, o10, o11, o12, o13, o14, o59, o16, o17, o18, o19, o20, o21, o22, o23, o24, o25, o60, (1269, .map [] 0), o27, o61, o62, o28, o29, o30, (1276, .map [] 0), (1277, .map [] 0), o31, o32, o34, o35, o36, o37, o38, o39, o40, o41, o42, o49, o50, o51, o52, o53, o54, o63, o64, o65, o66, o67, o68, o69, o70, o71, o72]⟩
noncomputable def s8 : Summ := segS a8 p8 v8 q8
set_option maxRecDepth 1000000
theorem r8 : segR c8 60 107 a8 p8 v8 q8 = true := by decide +kernel
theorem x8 : CtxOK c8 := ⟨names_of KBase.names, KBase.mixed, KBase.S0_ok⟩
theorem k8 : SummOK Tryz.prog 107 s8 := seg_summ x8 r8
end SH
end Go.Ab
