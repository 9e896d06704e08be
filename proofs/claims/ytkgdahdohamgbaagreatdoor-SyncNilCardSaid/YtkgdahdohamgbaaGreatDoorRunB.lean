import Derived.Test.YtkgdahdohamgbaaGreatDoorRunA
import Derived.Test.YtkgdahdohamgbaaGreatDoorBase
import Derived.Test.YtkgdahdohamgbaaGreatDoorData
namespace Go.Ab
open Go.RowKit Go.Proofs
namespace SY
noncomputable def c5 : Ctx := ⟨Tryz.prog, (addS 96 (orS (atNx 300) s4 badS) KBase.S0), fun _ => false⟩
noncomputable def a5 : List AV := [(.ptr (.i .h) 0)]
noncomputable def p5 : Stt := ⟨300, [o2, (1, .map [] 18), o1]⟩
noncomputable def v5 : AV := (.tup [(.ptr (.i (.i (.i (.o (.o (.i (.i (.i (.i (.i .h)))))))))) 0), (.int .i64 (.ofNat 0))])
noncomputable def q5 : Stt := ⟨2023, [o2, (1, .map [] 18), o1, o3, o4, (302, .map [] 0), (303, .map [] 0), o5, o6, o7, o8, o9, o10, o11, o12, o13, o14, o15, o16, o17, o18, o19, o20, o21, o22, o23, o24, o25, o26, o27, o28, o29, o30, o31, o32, o33, o34, o35, o36, o37, o38, (2012, .map [] 0), o39, (2014, .map [] 0), (2015, .map [] 0), o40, o41, o42, (2019, .map [] 0), (2020, .map [] 0), o43, o44]⟩
noncomputable def s5 : Summ := segS a5 p5 v5 q5
set_option maxRecDepth 1000000
theorem r5 : segR c5 60 57 a5 p5 v5 q5 = true := by decide +kernel
theorem x5 : CtxOK c5 := ⟨names_of KBase.names, KBase.mixed, (addS_ok (orS_ok k4 badS_ok) KBase.S0_ok)⟩
theorem k5 : SummOK Tryz.prog 57 s5 := seg_summ x5 r5
end SY
end Go.Ab
namespace Go.Ab
open Go.RowKit Go.Proofs
namespace SY
noncomputable def c6 : Ctx := ⟨Tryz.prog, KBase.S0, fun _ => false⟩
noncomputable def a6 : List AV := [(.ptr (.o (.i (.i (.o (.o (.i (.i (.i (.i (.i .h)))))))))) 0), (.int .i64 (.ofNat 4)), (.int .i64 (.ofNat 1))]
noncomputable def p6 : Stt := ⟨2200, [o2, (1, .map [] 18), o1, o3, o4, (302, .map [] 0), (303, .map [] 0), o5, o6, o7, o8, o9, o10, o11, o12, o13, o14, o15, o16, o17, o18, o19, o20, o21, o22, o23, o24, o25, o26, o27, o28, o29, o30, o31, o32, o33, o34, o35, o36, o37, o45, (2012, .map [] 0), o39, (2014, .map [] 0), (2015, .map [] 0), o40, o41, o42, (2019, .map [] 0), (2020, .map [] 0), o43, o44, o46, o47, o48, o49, o50, o51]⟩
noncomputable def v6 : AV := (.int .i64 (.ofNat 0))
noncomputable def q6 : Stt := ⟨2448, [o2, (1, .map [] 18), o1, o3, o4, (302, .map [] 0), (303, .map [] 0), o5, o6, o7, o8, o9, o10, o11, o12, o13, o14, o15, o16, o17, o18, o19, o20, o21, o22, o23, o24, o25, o26, o27, o28, o29, o30, o31, o32, o33, o34, o35, o36, o37, o52, (2012, .map [] 0), o39, (2014, .map [] 0), (2015, .map [] 0), o40, o41, o42, (2019, .map [] 0), (2020, .map [] 0), o43, o44, o46, o47, o48, o49, o50, o51]⟩
noncomputable def s6 : Summ := segS a6 p6 v6 q6
set_option maxRecDepth 1000000
theorem r6 : segR c6 60 166 a6 p6 v6 q6 = true := by decide +kernel
theorem x6 : CtxOK c6 := ⟨names_of KBase.names, KBase.mixed, KBase.S0_ok⟩
theorem k6 : SummOK Tryz.prog 166 s6 := seg_summ x6 r6
end SY
end Go.Ab
namespace Go.Ab
open Go.RowKit Go.Proofs
namespace SY
noncomputable def c7 : Ctx := ⟨Tryz.prog, KBase.S0, fun _ => false⟩
noncomputable def a7 : List AV := [(.ptr (.o (.i (.i (.i (.i (.o (.i (.i (.i (.i .h)))))))))) 0), (.int .i64 (.ofNat 1))]
noncomputable def p7 : Stt := ⟨2448, [o2, (1, .map [] 18), o1, o3, o4, (302, .map [] 0), (303, .map [] 0), o5, o6, o7, o8, o9, o10, o11, o12, o13, o14, o15, o16, o17, o18, o19, o20, o21, o22, o23, o24, o25, o26, o27, o28, o29, o30, o31, o32, o33, o34, o35, o36, o37, o52, (2012, .map [] 0), o39, (2014, .map [] 0), (2015, .map [] 0), o40, o41, o42, (2019, .map [] 0), (2020, .map [] 0), o43, o44, o46, o47, o48, o49, o50, o51]⟩
noncomputable def v7 : AV := (.tup [(.int .i64 (.ofNat 2)), (.int .i64 (.ofNat 1)), (.int .i64 (.ofNat 0))])
noncomputable def q7 : Stt := ⟨2700, [o2, (1, .map [] 18), o1, o3, o4, o53, o54, o55, o6, o7, o8, o56, o10, o11, o12, o13, o14, o15, o16, o17, o18, o19, o20, o21, o22, o23, o24, o25, o26, o27, o28, o29, o30, o31, o32, o33, o34, o35, o36, o37, o57, (2012, .map [] 0), o39, (2014, .map [] 0), (2015, .map [] 0), o40, o41, o42, (2019, .map [] 0), (2020, .map [] 0), o43, o44, o46, o47, o48, o49, o50, o51, o58, o59, o60, o61, o62, o63]⟩
noncomputable def s7 : Summ := segS a7 p7 v7 q7
set_option maxRecDepth 1000000
theorem r7 : segR c7 60 167 a7 p7 v7 q7 = true := by decide +kernel
theorem x7 : CtxOK c7 := ⟨names_of KBase.names, KBase.mixed, KBase.S0_ok⟩
theorem k7 : SummOK Tryz.prog 167 s7 := seg_summ x7 r7
end SY
end Go.Ab
namespace Go.Ab
open Go.RowKit Go.Proofs
namespace SY
noncomputable def c8 : Ctx := ⟨Tryz.prog, KBase.S0, fun _ => false⟩
noncomputable def a8 : List AV := [(.ptr (.i (.o (.o (.o (.o (.i (.i (.i (.i (.i .h)))))))))) 0), (.int .i64 (.ofNat 2)), (.int .i64 (.ofNat 0)), .nils]
noncomputable def p8 : Stt := ⟨2751, [o2, (1, .map [] 18), o1, o3, o4, o64, o65, o66, o6, o67, o8, o56, o10, o11, o12, o13, o14, o68, o16, o17, o18, o19, o20, o21, o22, o23, o24, o25, o26, o27, o28, o29, o30, o31, o32, o33, o34, o35, o36, o37, o69, (2012, .map [] 0), o39, o70, o71, o40, o41, o42, (2019, .map [] 0), (2020, .map [] 0), o43, o44, o46, o47, o48, o49, o50, o51, o58, o59, o60, o61, o62, o63, o72, o73, o74, o75, o76, o77, o78, o79, o80, o81]⟩
noncomputable def v8 : AV := (.int .i64 (.ofNat 0))
noncomputable def q8 : Stt := ⟨2783, [o2, (1, .map [] 18), o1, o3, o4, o64, o65, o66, o6, o67, o8, o56, o10, o11, o12, o13, o14, o68, o16, o17, o18, o19, o20, o21, o22, o23, o24, o25, o26, o27, o28, o29, o30, o31, o32, o33, o34, o35, o36, o37, o69, (2012, .map [] 0), o39, o70, o71, o40, o41, o42, (2019, .map [] 0), (2020, .map [] 0), o43, o44, o46, o47, o48, o49, o50, o51, o58, o59, o60, o61, o62, o63, o72, o73, o74, o75, o76, o77, o78, o79, o80, o81]⟩
noncomputable def s8 : Summ := segS a8 p8 v8 q8
set_option maxRecDepth 1000000
theorem r8 : segR c8 60 62 a8 p8 v8 q8 = true := by decide +kernel
theorem x8 : CtxOK c8 := ⟨names_of KBase.names, KBase.mixed, KBase.S0_ok⟩
theorem k8 : SummOK Tryz.prog 62 s8 := seg_summ x8 r8
end SY
end Go.Ab
