import Derived.Test.YtfnmplolnlaomaaGreatDoorBase
import Derived.Test.YtfnmplolnlaomaaGreatDoorData
namespace Go.Ab
open Go.RowKit Go.Proofs
namespace IM
noncomputable def c11 : Ctx := ⟨Tryz.prog, KBase.S0, fun _ => false⟩
noncomputable def a11 : List AV := [(.ptr (.i (.o (.i (.i (.o (.i (.o (.o (.o (.i (.o .h))))))))))) 0), (.int .i64 (.ofNat 4)), (.int .i64 (.ofNat 1))]
noncomputable def p11 : Stt := ⟨2785, [o2, (1, .map [] 12), o1, o3, o4, (278, .map [] 0), (279, .map [] 0), o5, o6, o7, o8, o9, o10, o11, o12, o13, o14, o15, o16, o17, o18, o19, o20, o21, o22, o23, o24, o25, o40, (1262, .map [] 0), o27, (1264, .map [] 0), (1265, .map [] 0), o28, o29, o30, (1269, .map [] 0), (1270, .map [] 0), o31, o32, o33, o34, o35, o36, o37, o38, o39, o43, (1334, .map [] 12), o42, o44, o45, (1611, .map [] 0), (1612, .map [] 0), o46, o47, o48, o49, o50, o51, o52, o53, o54, o55, o56, o57, o58, o59, o60, o61, o62, o63, o64, o65, o66, o74, (2595, .map [] 0), o68, (2597, .map [] 0), (2598, .map [] 0), o69, o70, o71, (2602, .map [] 0), (2603, .map [] 0), o72, o73, o75, o76, o77, o78, o79, o80, o81, o82]⟩
noncomputable def v11 : AV := (.int .i64 (.ofNat 0))
noncomputable def q11 : Stt := ⟨3033, [o2, (1, .map [] 12), o1, o3, o4, (278, .map [] 0), (279, .map [] 0), o5, o6, o7, o8, o9, o10, o11, o12, o13, o14, o15, o16, o17, o18, o19, o20, o21, o22, o23, o24, o25, o40, (1262, .map [] 0), o27, (1264, .map [] 0), (1265, .map [] 0), o28, o29, o30, (1269, .map [] 0), (1270, .map [] 0), o31, o32, o33, o34, o35, o36, o37, o38, o39, o43, (1334, .map [] 12), o42, o44, o45, (1611, .map [] 0), (1612, .map [] 0), o46, o47, o48, o49, o50, o51, o52, o53, o54, o55, o56, o57, o58, o59, o60, o61, o62, o63, o64, o65, o66, o83, (2595, .map [] 0), o68, (2597, .map [] 0), (2598, .map [] 0), o69, o70, o71, (2602, .map [] 0), (2603, .map [] 0), o72, o73, o75, o76, o77, o78, o79, o80, o81, o82]⟩
noncomputable def s11 : Summ := segS a11 p11 v11 q11
set_option maxRecDepth 1000000
theorem r11 : segR c11 60 146 a11 p11 v11 q11 = true := by decide +kernel
theorem x11 : CtxOK c11 := ⟨names_of KBase.names, KBase.mixed, KBase.S0_ok⟩
theorem k11 : SummOK Tryz.prog 146 s11 := seg_summ x11 r11
end IM
end Go.Ab
namespace Go.Ab
open Go.RowKit Go.Proofs
namespace IM
noncomputable def c12 : Ctx := ⟨Tryz.prog, KBase.S0, fun _ => false⟩
noncomputable def a12 : List AV := [(.ptr (.i (.o (.i (.o (.o (.i (.o (.o (.o (.i (.o .h))))))))))) 0), (.int .i64 (.ofNat 1))]
noncomputable def p12 : Stt := ⟨3033, [o2, (1, .map [] 12), o1, o3, o4, (278, .map [] 0), (279, .map [] 0), o5, o6, o7, o8, o9, o10, o11, o12, o13, o14, o15, o16, o17, o18, o19, o20, o21, o22, o23, o24, o25, o40, (1262, .map [] 0), o27, (1264, .map [] 0), (1265, .map [] 0), o28, o29, o30, (1269, .map [] 0), (1270, .map [] 0), o31, o32, o33, o34, o35, o36, o37, o38, o39, o43, (1334, .map [] 12), o42, o44, o45, (1611, .map [] 0), (1612, .map [] 0), o46, o47, o48, o49, o50, o51, o52, o53, o54, o55, o56, o57, o58, o59, o60, o61, o62, o63, o64, o65, o66, o83, (2595, .map [] 0), o68, (2597, .map [] 0), (2598, .map [] 0), o69, o70, o71, (2602, .map [] 0), (2603, .map [] 0), o72, o73, o75, o76, o77, o78, o79, o80, o81, o82]⟩
noncomputable def v12 : AV := (.tup [(.int .i64 (.ofNat 2)), (.int .i64 (.ofNat 1)), (.int .i64 (.ofNat 0))])
noncomputable def q12 : Stt := ⟨3285, [o2, (1, .map [] 12), o1, o3, o4, (278, .map [] 0), (279, .map [] 0), o5, o6, o7, o8, o9, o10, o11, o12, o13, o14, o15, o16, o17, o18, o19, o20, o21, o22, o23, o24, o25, o40, (1262, .map [] 0), o27, (1264, .map [] 0), (1265, .map [] 0), o28, o29, o30, (1269, .map [] 0), (1270, .map [] 0), o31, o32, o33, o34, o35, o36, o37, o38, o39, o43, (1334, .map [] 12), o42, o44, o45, o84, o85, o86, o47, o48, o49, o87, o51, o52, o53, o54, o55, o56, o57, o58, o59, o60, o61, o62, o63, o64, o65, o66, o88, (2595, .map [] 0), o68, (2597, .map [] 0), (2598, .map [] 0), o69, o70, o71, (2602, .map [] 0), (2603, .map [] 0), o72, o73, o75, o76, o77, o78, o79, o80, o81, o82, o89, o90, o91, o92, o93, o94]⟩
noncomputable def s12 : Summ := segS a12 p12 v12 q12
set_option maxRecDepth 1000000
theorem r12 : segR c12 60 21 a12 p12 v12 q12 = true := by decide +kernel
theorem x12 : CtxOK c12 := ⟨names_of KBase.names, KBase.mixed, KBase.S0_ok⟩
theorem k12 : SummOK Tryz.prog 21 s12 := seg_summ x12 r12
end IM
end Go.Ab
namespace Go.Ab
open Go.RowKit Go.Proofs
namespace IM
noncomputable def c13 : Ctx := ⟨Tryz.prog, KBase.S0, fun _ => false⟩
noncomputable def a13 : List AV := [(.ptr (.o (.o (.o (.i (.o (.i (.o (.o (.o (.i (.o .h))))))))))) 0), (.int .i64 (.ofNat 2)), (.int .i64 (.ofNat 0)), .nils]
noncomputable def p13 : Stt := ⟨3336, [o2, (1, .map [] 12), o1, o3, o4, (278, .map [] 0), (279, .map [] 0), o5, o6, o7, o8, o9, o10, o11, o12, o13, o14, o15, o16, o17, o18, o19, o20, o21, o22, o23, o24, o25, o40, (1262, .map [] 0), o27, (1264, .map [] 0), (1265, .map [] 0), o28, o29, o30, (1269, .map [] 0), (1270, .map [] 0), o31, o32, o33, o34, o35, o36, o37, o38, o39, o43, (1334, .map [] 12), o42, o44, o45, o95, o96, o97, o47, o98, o49, o87, o51, o52, o53, o54, o55, o99, o57, o58, o59, o60, o61, o62, o63, o64, o65, o66, o100, (2595, .map [] 0), o68, o101, o102, o69, o70, o71, (2602, .map [] 0), (2603, .map [] 0), o72, o73, o75, o76, o77, o78, o79, o80, o81, o82, o89, o90, o91, o92, o93, o94, o103, o104, o105, o106, o107, o108, o109, o110, o111, o112]⟩
noncomputable def v13 : AV := (.int .i64 (.ofNat 0))
noncomputable def q13 : Stt := ⟨3368, [o2, (1, .map [] 12), o1, o3, o4, (278, .map [] 0), (279, .map [] 0), o5, o6, o7, o8, o9, o10, o11, o12, o13, o14, o15, o16, o17, o18, o19, o20, o21, o22, o23, o24, o25, o40, (1262, .map [] 0), o27, (1264, .map [] 0), (1265, .map [] 0), o28, o29, o30, (1269, .map [] 0), (1270, .map [] 0), o31, o32, o33, o34, o35, o36, o37, o38, o39, o43, (1334, .map [] 12), o42, o44, o45, o95, o96, o97, o47, o98, o49, o87, o51, o52, o53, o54, o55, o99, o57, o58, o59, o60, o61, o62, o63, o64, o65, o66, o100, (2595, .map [] 0), o68, o101, o102, o69, o70, o71, (2602, .map [] 0), (2603, .map [] 0), o72, o73, o75, o76, o77, o78, o79, o80, o81, o82, o89, o90, o91, o92, o93, o94, o103, o104, o105, o106, o107, o108, o109, o110, o111, o112]⟩
noncomputable def s13 : Summ := segS a13 p13 v13 q13
set_option maxRecDepth 1000000
theorem r13 : segR c13 60 196 a13 p13 v13 q13 = true := by decide +kernel
theorem x13 : CtxOK c13 := ⟨names_of KBase.names, KBase.mixed, KBase.S0_ok⟩
theorem k13 : SummOK Tryz.prog 196 s13 := seg_summ x13 r13
end IM
end Go.Ab
namespace Go.Ab
open Go.RowKit Go.Proofs
namespace IM
noncomputable def c14 : Ctx := ⟨Tryz.prog, KBase.S0, fun _ => false⟩
noncomputable def a14 : List AV := [(.ptr (.i (.o (.i (.o (.o (.i (.o (.o (.o (.i (.o .h))))))))))) 0), (.int .i64 (.ofNat 0))]
noncomputable def p14 : Stt := ⟨3745, [o2, (1, .map [] 12), o1, o3, o4, (278, .map [] 0), (279, .map [] 0), o5, o6, o7, o8, o9, o10, o11, o12, o13, o14, o15, o16, o17, o18, o19, o20, o21, o22, o23, o24, o25, o40, (1262, .map [] 0), o27, (1264, .map [] 0), (1265, .map [] 0), o28, o29, o30, (1269, .map [] 0), (1270, .map [] 0), o31, o32, o33, o34, o35, o36, o37, o38, o39, o43, (1334, .map [] 12), o42, o44, o45, o95, o96, o97, o47, o98, o49, o87, o51, o52, o53, o54, o55, o99, o57, o58, o59, o60, o61, o62, o63, o64, o65, o66, o83, (2595, .map [] 0), o68, o101, o102, o69, o70, o71, (2602, .map [] 0), (2603, .map [] 0), o72, o73, o75, o76, o77, o78, o79, o80, o81, o82, o89, o90, o91, o92, o93, o94, o103, o104, o105, o106, o107, o108, o109, o110, o111, o112, o113, o114, o115, o116, o117, o118, o119, o120, o121, o122]⟩
noncomputable def v14 : AV := (.tup [(.int .i64 (.ofNat 5)), (.int .i64 (.ofNat 3)), (.int .i64 (.ofNat 0))])
noncomputable def q14 : Stt := ⟨4005, [o2, (1, .map [] 12), o1, o3, o4, (278, .map [] 0), (279, .map [] 0), o5, o6, o7, o8, o9, o10, o11, o12, o13, o14, o15, o16, o17, o18, o19, o20, o21, o22, o23, o24, o25, o40, (1262, .map [] 0), o27, (1264, .map [] 0), (1265, .map [] 0), o28, o29, o30, (1269, .map [] 0), (1270, .map [] 0), o31, o32, o33, o34, o35, o36, o37, o38, o39, o43, (1334, .map [] 12), o42, o44, o45, o123, o96, o124, o47, o98, o49, o125, o51, o52, o53, o54, o55, o99, o57, o58, o59, o60, o61, o62, o63, o64, o65, o66, o88, (2595, .map [] 0), o68, o101, o102, o69, o70, o71, (2602, .map [] 0), (2603, .map [] 0), o72, o73, o75, o76, o77, o78, o79, o80, o81, o82, o89, o126, o91, o92, o93, o103, o104, o105, o106, o107, o108, o109, o110, o111, o112, o113, o114, o115, o116, o117, o118, o119, o120, o121, o122, o127, o128, o129, o130]⟩
noncomputable def s14 : Summ := segS a14 p14 v14 q14
set_option maxRecDepth 1000000
theorem r14 : segR c14 60 300 a14 p14 v14 q14 = true := by decide +kernel
theorem x14 : CtxOK c14 := ⟨names_of KBase.names, KBase.mixed, KBase.S0_ok⟩
theorem k14 : SummOK Tryz.prog 300 s14 := seg_summ x14 r14
end IM
end Go.Ab
