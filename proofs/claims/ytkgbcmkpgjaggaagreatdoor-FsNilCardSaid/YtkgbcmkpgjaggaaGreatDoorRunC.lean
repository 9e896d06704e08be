import Derived.Test.YtkgbcmkpgjaggaaGreatDoorRunB
import Derived.Test.YtkgbcmkpgjaggaaGreatDoorBase
import Derived.Test.YtkgbcmkpgjaggaaGreatDoorData
namespace Go.Ab
open Go.RowKit Go.Proofs
namespace FN
noncomputable def c3 : Ctx := ⟨Tryz.prog, (addS 51 (orS (atNx 300) s2 badS) KBase.S0), fun _ => false⟩
noncomputable def a3 : List AV := [(.ptr (.i .h) 0)]
noncomputable def p3 : Stt := ⟨300, [o2, (1, .map [] 18), o1]⟩
noncomputable def v3 : AV := (.tup [(.ptr (.i (.i (.i (.o (.o (.i (.i (.i (.i (.i .h)))))))))) 0), (.int .i64 (.ofNat 0))])
noncomputable def q3 : Stt := ⟨2023, [o2, (1, .map [] 18), o1, o3, o4, (302, .map [] 0), (303, .map [] 0), o5, o6, o7, o8, o9, o10, o11, o12, o13, o14, o15, o16, o17, o18, o19, o20, o21, o22, o23, o24, o25, o26, o27, o28, o29, o30, o31, o32, o33, o34, o35, o36, o37, o38, (2012, .map [] 0), o39, (2014, .map [] 0), (2015, .map [] 0), o40, o41, o42, (2019, .map [] 0), (2020, .map [] 0), o43, o44]⟩
noncomputable def s3 : Summ := segS a3 p3 v3 q3
set_option maxRecDepth 1000000
theorem r3 : segR c3 60 15 a3 p3 v3 q3 = true := by decide +kernel
theorem x3 : CtxOK c3 := ⟨names_of KBase.names, KBase.mixed, (addS_ok (orS_ok k2 badS_ok) KBase.S0_ok)⟩
theorem k3 : SummOK Tryz.prog 15 s3 := seg_summ x3 r3
end FN
end Go.Ab
namespace Go.Ab
open Go.RowKit Go.Proofs
namespace FN
noncomputable def c4 : Ctx := ⟨Tryz.prog, KBase.S0, fun _ => false⟩
noncomputable def a4 : List AV := [(.ptr (.o (.i (.i (.o (.o (.i (.i (.i (.i (.i .h)))))))))) 0), (.int .i64 (.ofNat 4)), (.int .i64 (.ofNat 1))]
noncomputable def p4 : Stt := ⟨2199, [o2, (1, .map [] 18), o1, o3, o4, (302, .map [] 0), (303, .map [] 0), o5, o6, o7, o8, o9, o10, o11, o12, o13, o14, o15, o16, o17, o18, o19, o20, o21, o22, o23, o24, o25, o26, o27, o28, o29, o30, o31, o32, o33, o34, o35, o36, o37, o45, (2012, .map [] 0), o39, (2014, .map [] 0), (2015, .map [] 0), o40, o41, o42, (2019, .map [] 0), (2020, .map [] 0), o43, o44, o46, o47, o48, o49, o50]⟩
noncomputable def v4 : AV := (.int .i64 (.ofNat 0))
noncomputable def q4 : Stt := ⟨2447, [o2, (1, .map [] 18), o1, o3, o4, (302, .map [] 0), (303, .map [] 0), o5, o6, o7, o8, o9, o10, o11, o12, o13, o14, o15, o16, o17, o18, o19, o20, o21, o22, o23, o24, o25, o26, o27, o28, o29, o30, o31, o32, o33, o34, o35, o36, o37, o51, (2012, .map [] 0), o39, (2014, .map [] 0), (2015, .map [] 0), o40, o41, o42, (2019, .map [] 0), (2020, .map [] 0), o43, o44, o46, o47, o48, o49, o50]⟩
noncomputable def s4 : Summ := segS a4 p4 v4 q4
set_option maxRecDepth 1000000
theorem r4 : segR c4 60 139 a4 p4 v4 q4 = true := by decide +kernel
theorem x4 : CtxOK c4 := ⟨names_of KBase.names, KBase.mixed, KBase.S0_ok⟩
theorem k4 : SummOK Tryz.prog 139 s4 := seg_summ x4 r4
end FN
end Go.Ab
namespace Go.Ab
open Go.RowKit Go.Proofs
namespace FN
noncomputable def c5 : Ctx := ⟨Tryz.prog, KBase.S0, fun _ => false⟩
noncomputable def a5 : List AV := [(.ptr (.o (.i (.i (.i (.i (.o (.i (.i (.i (.i .h)))))))))) 0), (.int .i64 (.ofNat 1))]
noncomputable def p5 : Stt := ⟨2447, [o2, (1, .map [] 18), o1, o3, o4, (302, .map [] 0), (303, .map [] 0), o5, o6, o7, o8, o9, o10, o11, o12, o13, o14, o15, o16, o17, o18, o19, o20, o21, o22, o23, o24, o25, o26, o27, o28, o29, o30, o31, o32, o33, o34, o35, o36, o37, o51, (2012, .map [] 0), o39, (2014, .map [] 0), (2015, .map [] 0), o40, o41, o42, (2019, .map [] 0), (2020, .map [] 0), o43, o44, o46, o47, o48, o49, o50]⟩
noncomputable def v5 : AV := (.tup [(.int .i64 (.ofNat 2)), (.int .i64 (.ofNat 1)), (.int .i64 (.ofNat 0))])
noncomputable def q5 : Stt := ⟨2699, [o2, (1, .map [] 18), o1, o3, o4, o52, o53, o54, o6, o7, o8, o55, o10, o11, o12, o13, o14, o15, o16, o17, o18, o19, o20, o21, o22, o23, o24, o25, o26, o27, o28, o29, o30, o31, o32, o33, o34, o35, o36, o37, o56, (2012, .map [] 0), o39, (2014, .map [] 0), (2015, .map [] 0), o40, o41, o42, (2019, .map [] 0), (2020, .map [] 0), o43, o44, o46, o47, o48, o49, o50, o57, o58, o59, o60, o61, o62]⟩
noncomputable def s5 : Summ := segS a5 p5 v5 q5
set_option maxRecDepth 1000000
theorem r5 : segR c5 60 226 a5 p5 v5 q5 = true := by decide +kernel
theorem x5 : CtxOK c5 := ⟨names_of KBase.names, KBase.mixed, KBase.S0_ok⟩
theorem k5 : SummOK Tryz.prog 226 s5 := seg_summ x5 r5
end FN
end Go.Ab
namespace Go.Ab
open Go.RowKit Go.Proofs
namespace FN
noncomputable def c6 : Ctx := ⟨Tryz.prog, KBase.S0, fun _ => false⟩
noncomputable def a6 : List AV := [(.ptr (.i (.o (.o (.o (.o (.i (.i (.i (.i (.i .h)))))))))) 0), (.int .i64 (.ofNat 2)), (.int .i64 (.ofNat 0)), .nils]
noncomputable def p6 : Stt := ⟨2750, [o2, (1, .map [] 18), o1, o3, o4, o63, o64, o65, o6, o66, o8, o55, o10, o11, o12, o13, o14, o67, o16, o17, o18, o19, o20, o21, o22, o23, o24, o25, o26, o27, o28, o29, o30, o31, o32, o33, o34, o35, o36, o37, o68, (2012, .map [] 0), o39, o69, o70, o40, o41, o42, (2019, .map [] 0), (2020, .map [] 0), o43, o44, o46, o47, o48, o49, o50, o57, o58, o59, o60, o61, o62, o71, o72, o73, o74, o75, o76, o77, o78, o79, o80]⟩
noncomputable def v6 : AV := (.int .i64 (.ofNat 0))
noncomputable def q6 : Stt := ⟨2782, [o2, (1, .map [] 18), o1, o3, o4, o63, o64, o65, o6, o66, o8, o55, o10, o11, o12, o13, o14, o67, o16, o17, o18, o19, o20, o21, o22, o23, o24, o25, o26, o27, o28, o29, o30, o31, o32, o33, o34, o35, o36, o37, o68, (2012, .map [] 0), o39, o69, o70, o40, o41, o42, (2019, .map [] 0), (2020, .map [] 0), o43, o44, o46, o47, o48, o49, o50, o57, o58, o59, o60, o61, o62, o71, o72, o73, o74, o75, o76, o77, o78, o79, o80]⟩
noncomputable def s6 : Summ := segS a6 p6 v6 q6
set_option maxRecDepth 1000000
theorem r6 : segR c6 60 79 a6 p6 v6 q6 = true := by decide +kernel
theorem x6 : CtxOK c6 := ⟨names_of KBase.names, KBase.mixed, KBase.S0_ok⟩
theorem k6 : SummOK Tryz.prog 79 s6 := seg_summ x6 r6
end FN
end Go.Ab
