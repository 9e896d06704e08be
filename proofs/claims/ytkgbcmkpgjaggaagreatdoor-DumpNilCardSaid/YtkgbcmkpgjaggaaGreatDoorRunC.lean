import Derived.Test.YtkgbcmkpgjaggaaGreatDoorRunB
import Derived.Test.YtkgbcmkpgjaggaaGreatDoorBase
import Derived.Test.YtkgbcmkpgjaggaaGreatDoorData
namespace Go.Ab
open Go.RowKit Go.Proofs
namespace DN
noncomputable def c3 : Ctx := ⟨Tryz.prog, (addS 51 (orS (atNx 507) s2 badS) KBase.S0), fun _ => false⟩
noncomputable def a3 : List AV := [(.ptr (.i (.o .h)) 0)]
noncomputable def p3 : Stt := ⟨507, [o0, o1, o4, (3, .map [] 21), o3]⟩
noncomputable def v3 : AV := (.tup [(.ptr (.o (.i (.i (.o (.i (.i (.i (.o (.i (.o (.o .h))))))))))) 0), (.int .i64 (.ofNat 0))])
noncomputable def q3 : Stt := ⟨2422, [o0, o1, o4, (3, .map [] 21), o3, o5, o6, (509, .map [] 0), (510, .map [] 0), o7, o8, o9, o10, o11, o12, o13, o14, o15, o16, o17, o18, o19, o20, o21, o22, o23, o24, o25, o26, o27, o28, o29, o30, o31, o32, o33, o34, o35, o36, o37, o38, o39, o40, o41, o42, o43, o44, o45, o46, (2411, .map [] 0), o47, (2413, .map [] 0), (2414, .map [] 0), o48, o49, o50, (2418, .map [] 0), (2419, .map [] 0), o51, o52]⟩
noncomputable def s3 : Summ := segS a3 p3 v3 q3
set_option maxRecDepth 1000000
theorem r3 : segR c3 60 15 a3 p3 v3 q3 = true := by decide +kernel
theorem x3 : CtxOK c3 := ⟨names_of KBase.names, KBase.mixed, (addS_ok (orS_ok k2 badS_ok) KBase.S0_ok)⟩
theorem k3 : SummOK Tryz.prog 15 s3 := seg_summ x3 r3
end DN
end Go.Ab
namespace Go.Ab
open Go.RowKit Go.Proofs
namespace DN
noncomputable def c4 : Ctx := ⟨Tryz.prog, KBase.S0, fun _ => false⟩
noncomputable def a4 : List AV := [(.ptr (.i (.o (.i (.o (.i (.i (.i (.o (.i (.o (.o .h))))))))))) 0), (.int .i64 (.ofNat 4)), (.int .i64 (.ofNat 1))]
noncomputable def p4 : Stt := ⟨3086, [o0, o1, o4, (3, .map [] 21), o3, o5, o6, (509, .map [] 0), (510, .map [] 0), o7, o8, o9, o10, o11, o12, o13, o14, o15, o16, o17, o18, o19, o20, o21, o22, o23, o24, o25, o26, o27, o28, o29, o30, o31, o32, o33, o34, o35, o36, o37, o38, o39, o40, o41, o42, o43, o44, o45, o53, (2411, .map [] 0), o47, (2413, .map [] 0), (2414, .map [] 0), o48, o49, o50, (2418, .map [] 0), (2419, .map [] 0), o51, o52, o54, o55, o56, o57, o58]⟩
noncomputable def v4 : AV := (.int .i64 (.ofNat 0))
noncomputable def q4 : Stt := ⟨3574, [o0, o1, o4, (3, .map [] 21), o3, o5, o6, (509, .map [] 0), (510, .map [] 0), o7, o8, o9, o10, o11, o12, o13, o14, o15, o16, o17, o18, o19, o20, o21, o22, o23, o24, o25, o26, o27, o28, o29, o30, o31, o32, o33, o34, o35, o36, o37, o38, o39, o40, o41, o42, o43, o44, o45, o59, (2411, .map [] 0), o47, (2413, .map [] 0), (2414, .map [] 0), o48, o49, o50, (2418, .map [] 0), (2419, .map [] 0), o51, o52, o54, o55, o56, o57, o58]⟩
noncomputable def s4 : Summ := segS a4 p4 v4 q4
set_option maxRecDepth 1000000
theorem r4 : segR c4 60 139 a4 p4 v4 q4 = true := by decide +kernel
theorem x4 : CtxOK c4 := ⟨names_of KBase.names, KBase.mixed, KBase.S0_ok⟩
theorem k4 : SummOK Tryz.prog 139 s4 := seg_summ x4 r4
end DN
end Go.Ab
namespace Go.Ab
open Go.RowKit Go.Proofs
namespace DN
noncomputable def c5 : Ctx := ⟨Tryz.prog, KBase.S0, fun _ => false⟩
noncomputable def a5 : List AV := [(.ptr (.i (.o (.i (.i (.o (.i (.i (.o (.i (.o (.o .h))))))))))) 0), (.int .i64 (.ofNat 1))]
noncomputable def p5 : Stt := ⟨3574, [o0, o1, o4, (3, .map [] 21), o3, o5, o6, (509, .map [] 0), (510, .map [] 0), o7, o8, o9, o10, o11, o12, o13, o14, o15, o16, o17, o18, o19, o20, o21, o22, o23, o24, o25, o26, o27, o28, o29, o30, o31, o32, o33, o34, o35, o36, o37, o38, o39, o40, o41, o42, o43, o44, o45, o59, (2411, .map [] 0), o47, (2413, .map [] 0), (2414, .map [] 0), o48, o49, o50, (2418, .map [] 0), (2419, .map [] 0), o51, o52, o54, o55, o56, o57, o58]⟩
noncomputable def v5 : AV := (.tup [(.int .i64 (.ofNat 2)), (.int .i64 (.ofNat 1)), (.int .i64 (.ofNat 0))])
noncomputable def q5 : Stt := ⟨3826, [o0, o1, o4, (3, .map [] 21), o3, o5, o6, o60, o61, o62, o8, o9, o10, o63, o12, o13, o14, o15, o16, o17, o18, o19, o20, o21, o22, o23, o24, o25, o26, o27, o28, o29, o30, o31, o32, o33, o34, o35, o36, o37, o38, o39, o40, o41, o42, o43, o44, o45, o64, (2411, .map [] 0), o47, (2413, .map [] 0), (2414, .map [] 0), o48, o49, o50, (2418, .map [] 0), (2419, .map [] 0), o51, o52, o54, o55, o56, o57, o58, o65, o66, o67, o68, o69, o70]⟩
noncomputable def s5 : Summ := segS a5 p5 v5 q5
set_option maxRecDepth 1000000
theorem r5 : segR c5 60 226 a5 p5 v5 q5 = true := by decide +kernel
theorem x5 : CtxOK c5 := ⟨names_of KBase.names, KBase.mixed, KBase.S0_ok⟩
theorem k5 : SummOK Tryz.prog 226 s5 := seg_summ x5 r5
end DN
end Go.Ab
namespace Go.Ab
open Go.RowKit Go.Proofs
namespace DN
noncomputable def c6 : Ctx := ⟨Tryz.prog, KBase.S0, fun _ => false⟩
noncomputable def a6 : List AV := [(.ptr (.o (.o (.o (.o (.i (.i (.i (.o (.i (.o (.o .h))))))))))) 0), (.int .i64 (.ofNat 2)), (.int .i64 (.ofNat 0)), .nils]
noncomputable def p6 : Stt := ⟨3877, [o0, o1, o4, (3, .map [] 21), o3, o5, o6, o71, o72, o73, o8, o74, o10, o63, o12, o13, o14, o15, o16, o17, o18, o19, o20, o21, o22, o75, o24, o25, o26, o27, o28, o29, o30, o31, o32, o33, o34, o35, o36, o37, o38, o39, o40, o41, o42, o43, o44, o45, o76, (2411, .map [] 0), o47, o77, o78, o48, o49, o50, (2418, .map [] 0), (2419, .map [] 0), o51, o52, o54, o55, o56, o57, o58, o65, o66, o67, o68, o69, o70, o79, o80, o81, o82, o83, o84, o85, o86, o87, o88]⟩
noncomputable def v6 : AV := (.int .i64 (.ofNat 0))
noncomputable def q6 : Stt := ⟨3909, [o0, o1, o4, (3, .map [] 21), o3, o5, o6, o71, o72, o73, o8, o74, o10, o63, o12, o13, o14, o15, o16, o17, o18, o19, o20, o21, o22, o75, o24, o25, o26, o27, o28, o29, o30, o31, o32, o33, o34, o35, o36, o37, o38, o39, o40, o41, o42, o43, o44, o45, o76, (2411, .map [] 0), o47, o77, o78, o48, o49, o50, (2418, .map [] 0), (2419, .map [] 0), o51, o52, o54, o55, o56, o57, o58, o65, o66, o67, o68, o69, o70, o79, o80, o81, o82, o83, o84, o85, o86, o87, o88]⟩
noncomputable def s6 : Summ := segS a6 p6 v6 q6
set_option maxRecDepth 1000000
theorem r6 : segR c6 60 79 a6 p6 v6 q6 = true := by decide +kernel
theorem x6 : CtxOK c6 := ⟨names_of KBase.names, KBase.mixed, KBase.S0_ok⟩
theorem k6 : SummOK Tryz.prog 79 s6 := seg_summ x6 r6
end DN
end Go.Ab
