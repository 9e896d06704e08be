import Derived.Test.YtkgbcmkpgjaggaaGreatDoorBase
import Derived.Test.YtkgbcmkpgjaggaaGreatDoorRunC
import Derived.Test.YtkgbcmkpgjaggaaGreatDoorData
namespace Go.Ab
open Go.RowKit Go.Proofs
namespace FN
noncomputable def c7 : Ctx := ⟨Tryz.prog, KBase.S0, fun _ => false⟩
noncomputable def a7 : List AV := [(.ptr (.o (.i (.i (.i (.i (.o (.i (.i (.i (.i .h)))))))))) 0), (.int .i64 (.ofNat 0))]
noncomputable def p7 : Stt := ⟨3159, [o2, (1, .map [] 18), o1, o3, o4, o63, o64, o65, o6, o66, o8, o55, o10, o11, o12, o13, o14, o67, o16, o17, o18, o19, o20, o21, o22, o23, o24, o25, o26, o27, o28, o29, o30, o31, o32, o33, o34, o35, o36, o37, o51, (2012, .map [] 0), o39, o69, o70, o40, o41, o42, (2019, .map [] 0), (2020, .map [] 0), o43, o44, o46, o47, o48, o49, o50, o57, o58, o59, o60, o61, o62, o71, o72, o73, o74, o75, o76, o77, o78, o79, o80, o81, o82, o83, o84, o85, o86, o87, o88, o89, o90]⟩
noncomputable def v7 : AV := (.tup [(.int .i64 (.ofNat 7)), (.int .i64 (.ofNat 3)), (.int .i64 (.ofNat 0))])
noncomputable def q7 : Stt := ⟨3419, [o2, (1, .map [] 18), o1, o3, o4, o91, o64, o92, o6, o66, o8, o93, o10, o11, o12, o13, o14, o67, o16, o17, o18, o19, o20, o21, o22, o23, o24, o25, o26, o27, o28, o29, o30, o31, o32, o33, o34, o35, o36, o37, o56, (2012, .map [] 0), o39, o69, o70, o40, o41, o42, (2019, .map [] 0), (2020, .map [] 0), o43, o44, o46, o47, o48, o49, o50, o57, o94, o59, o60, o61, o71, o72, o73, o74, o75, o76, o77, o78, o79, o80, o81, o82, o83, o84, o85, o86, o87, o88, o89, o90, o95, o96, o97, o98]⟩
noncomputable def s7 : Summ := segS a7 p7 v7 q7
set_option maxRecDepth 1000000
theorem r7 : segR c7 60 330 a7 p7 v7 q7 = true := by decide +kernel
theorem x7 : CtxOK c7 := ⟨names_of KBase.names, KBase.mixed, KBase.S0_ok⟩
theorem k7 : SummOK Tryz.prog 330 s7 := seg_summ x7 r7
end FN
end Go.Ab
namespace Go.Ab
open Go.RowKit Go.Proofs
namespace FN
noncomputable def c8 : Ctx := ⟨Tryz.prog, (addS 330 (orS (atNx 3159) s7 badS) KBase.S0), fun _ => false⟩
noncomputable def a8 : List AV := [(.ptr (.i (.o (.o (.o (.o (.i (.i (.i (.i (.i .h)))))))))) 0), (.int .i64 (.ofNat 1)), (.int .i64 (.ofNat 0)), (.sl (.o (.i (.o (.i (.i (.i (.o (.o (.i (.i (.o .h))))))))))) 0 256 256 1 true)]
noncomputable def p8 : Stt := ⟨2874, [o2, (1, .map [] 18), o1, o3, o4, o63, o64, o65, o6, o66, o8, o55, o10, o11, o12, o13, o14, o67, o16, o17, o18, o19, o20, o21, o22, o23, o24, o25, o26, o27, o28, o29, o30, o31, o32, o33, o34, o35, o36, o37, o68, (2012, .map [] 0), o39, o69, o70, o40, o41, o42, (2019, .map [] 0), (2020, .map [] 0), o43, o44, o46, o47, o48, o49, o50, o57, o58, o59, o60, o61, o62, o71, o72, o73, o74, o75, o76, o77, o78, o79, o80, o81, o82, o83, o84, o85, o86]⟩
noncomputable def v8 : AV := (.int .i64 (.ofNat 0))
noncomputable def q8 : Stt := ⟨3505, [o2, (1, .map [] 18), o1, o99, o100, o101, o102, o103, o6, o66, o8, o93, o10, o11, o12, o13, o14, o104, o16, o17, o18, o19, o20, o21, o22, o23, o24, o25, o26, o27, o28, o29, o30, o31, o32, o33, o34, o35, o36, o37, (2012, .map [] 0), o39, o105, o106, o40, o41, o42, (2019, .map [] 0), (2020, .map [] 0), o43, o44, o46, o47, o48, o49, o50, o57, o94, o59, o60, o61, o71, o72, o73, o107, o75, o76, o77, o78, o80, o81, o82, o83, o84, o85, o86, o95, o96, o97, o98, o108, o109, o110, o111, o112, o113, o114, o115, o116, o117, o118, o119, o120, o121]⟩
noncomputable def s8 : Summ := segS a8 p8 v8 q8
set_option maxRecDepth 1000000
theorem r8 : segR c8 60 79 a8 p8 v8 q8 = true := by decide +kernel
theorem x8 : CtxOK c8 := ⟨names_of KBase.names, KBase.mixed, (addS_ok (orS_ok k7 badS_ok) KBase.S0_ok)⟩
theorem k8 : SummOK Tryz.prog 79 s8 := seg_summ x8 r8
end FN
end Go.Ab
namespace Go.Ab
open Go.RowKit Go.Proofs
namespace FN
noncomputable def c9 : Ctx := ⟨Tryz.prog, (addS 79 (orS (atNx 2874) s8 badS) KBase.S0), fun _ => false⟩
noncomputable def a9 : List AV := [(.ptr (.o (.i (.o (.o (.o (.i (.i (.i (.i (.i .h)))))))))) 0), (.int .i64 (.ofNat 1)), (.str [97]), (.int .i64 (.ofNat 2)), (.sl (.o (.o (.o (.o (.o (.i (.i (.i (.o (.i (.o .h))))))))))) 0 1 1 1 false)]
noncomputable def p9 : Stt := ⟨2784, [o2, (1, .map [] 18), o1, o3, o4, o63, o64, o65, o6, o66, o8, o55, o10, o11, o12, o13, o14, o67, o16, o17, o18, o19, o20, o21, o22, o23, o24, o25, o26, o27, o28, o29, o30, o31, o32, o33, o34, o35, o36, o37, o68, (2012, .map [] 0), o39, o69, o70, o40, o41, o42, (2019, .map [] 0), (2020, .map [] 0), o43, o44, o46, o47, o48, o49, o50, o57, o58, o59, o60, o61, o62, o71, o72, o73, o74, o75, o76, o77, o78, o79, o80, o81]⟩
noncomputable def v9 : AV := (.tup [(.int .i64 (.ofNat 6)), (.int .i64 (.ofNat 0))])
noncomputable def q9 : Stt := ⟨3586, [o2, (1, .map [] 18), o1, o99, o100, o122, o102, o123, o6, o66, o8, o93, o10, o11, o12, o13, o14, o104, o16, o17, o18, o19, o20, o21, o22, o23, o24, o25, o26, o27, o28, o29, o30, o31, o32, o33, o34, o35, o36, o37, (2012, .map [] 0), o39, o105, o124, o40, o41, o42, (2019, .map [] 0), (2020, .map [] 0), o43, o44, o46, o47, o48, o49, o50, o57, o94, o59, o60, o61, o71, o72, o73, o107, o75, o76, o77, o78, o80, o81, o95, o96, o97, o98, o125, o126, o110, o127, o113, o114, o116, o117, o118, o119, o120, o128, o129, o130, o131, o132, o133]⟩
noncomputable def s9 : Summ := segS a9 p9 v9 q9
set_option maxRecDepth 1000000
theorem r9 : segR c9 60 141 a9 p9 v9 q9 = true := by decide +kernel
theorem x9 : CtxOK c9 := ⟨names_of KBase.names, KBase.mixed, (addS_ok (orS_ok k8 badS_ok) KBase.S0_ok)⟩
theorem k9 : SummOK Tryz.prog 141 s9 := seg_summ x9 r9
end FN
end Go.Ab
namespace Go.Ab
open Go.RowKit Go.Proofs
namespace FN
noncomputable def c10 : Ctx := ⟨Tryz.prog, (addS 226 (orS (atNx 2447) s5 badS) (addS 141 (orS (atNx 2784) s9 badS) (addS 139 (orS (atNx 2199) s4 badS) (addS 79 (orS (atNx 2750) s6 badS) KBase.S0)))), fun _ => false⟩
noncomputable def a10 : List AV := [(.ptr (.i (.i (.i (.o (.o (.i (.i (.i (.i (.i .h)))))))))) 0), (.str [47, 97])]
noncomputable def p10 : Stt := ⟨2042, [o2, (1, .map [] 18), o1, o3, o4, (302, .map [] 0), (303, .map [] 0), o5, o6, o7, o8, o9, o10, o11, o12, o13, o14, o15, o16, o17, o18, o19, o20, o21, o22, o23, o24, o25, o26, o27, o28, o29, o30, o31, o32, o33, o34, o35, o36, o37, o38, (2012, .map [] 0), o39, (2014, .map [] 0), (2015, .map [] 0), o40, o41, o42, (2019, .map [] 0), (2020, .map [] 0), o43, o44, o46, o47, o48, o49]⟩
noncomputable def v10 : AV := (.int .i64 (.ofNat 0))
noncomputable def q10 : Stt := ⟨3586, [o2, (1, .map [] 18), o1, o99, o100, o122, o102, o123, o6, o66, o8, o93, o10, o11, o12, o13, o14, o104, o16, o17, o18, o19, o20, o21, o22, o23, o24, o25, o26, o27, o28, o29, o30, o31, o32, o33, o34, o35, o36, o37, (2012, .map [] 0), o39, o105, o124, o40, o41, o42, (2019, .map [] 0), o134, o43, o44, o46, o47, o48, o49, o57, o94, o60, o61, o73, o107, o76, o77, o78, o80, o95, o96, o97, o98, o125, o126, o110, o127, o113, o114, o116, o117, o118, o119, o120, o128, o129, o130, o131, o132, o133]⟩
noncomputable def s10 : Summ := segS a10 p10 v10 q10
set_option maxRecDepth 1000000
theorem r10 : segR c10 60 25 a10 p10 v10 q10 = true := by decide +kernel
theorem x10 : CtxOK c10 := ⟨names_of KBase.names, KBase.mixed, (addS_ok (orS_ok k5 badS_ok) (addS_ok (orS_ok k9 badS_ok) (addS_ok (orS_ok k4 badS_ok) (addS_ok (orS_ok k6 badS_ok) KBase.S0_ok))))⟩
theorem k10 : SummOK Tryz.prog 25 s10 := seg_summ x10 r10
end FN
end Go.Ab
