import Derived.Test.YtkgdahdohamgbaaGreatDoorBase
import Derived.Test.YtkgdahdohamgbaaGreatDoorRunB
import Derived.Test.YtkgdahdohamgbaaGreatDoorData
namespace Go.Ab
open Go.RowKit Go.Proofs
namespace SY
noncomputable def c9 : Ctx := ⟨Tryz.prog, KBase.S0, fun _ => false⟩
noncomputable def a9 : List AV := [(.ptr (.o (.i (.i (.i (.i (.o (.i (.i (.i (.i .h)))))))))) 0), (.int .i64 (.ofNat 0))]
noncomputable def p9 : Stt := ⟨3160, [o2, (1, .map [] 18), o1, o3, o4, o64, o65, o66, o6, o67, o8, o56, o10, o11, o12, o13, o14, o68, o16, o17, o18, o19, o20, o21, o22, o23, o24, o25, o26, o27, o28, o29, o30, o31, o32, o33, o34, o35, o36, o37, o52, (2012, .map [] 0), o39, o70, o71, o40, o41, o42, (2019, .map [] 0), (2020, .map [] 0), o43, o44, o46, o47, o48, o49, o50, o51, o58, o59, o60, o61, o62, o63, o72, o73, o74, o75, o76, o77, o78, o79, o80, o81, o82, o83, o84, o85, o86, o87, o88, o89, o90, o91]⟩
noncomputable def v9 : AV := (.tup [(.int .i64 (.ofNat 7)), (.int .i64 (.ofNat 3)), (.int .i64 (.ofNat 0))])
noncomputable def q9 : Stt := ⟨3420, [o2, (1, .map [] 18), o1, o3, o4, o92, o65, o93, o6, o67, o8, o94, o10, o11, o12, o13, o14, o68, o16, o17, o18, o19, o20, o21, o22, o23, o24, o25, o26, o27, o28, o29, o30, o31, o32, o33, o34, o35, o36, o37, o57, (2012, .map [] 0), o39, o70, o71, o40, o41, o42, (2019, .map [] 0), (2020, .map [] 0), o43, o44, o46, o47, o48, o49, o50, o51, o58, o95, o60, o61, o62, o72, o73, o74, o75, o76, o77, o78, o79, o80, o81, o82, o83, o84, o85, o86, o87, o88, o89, o90, o91, o96, o97, o98, o99]⟩
noncomputable def s9 : Summ := segS a9 p9 v9 q9
set_option maxRecDepth 1000000
theorem r9 : segR c9 60 239 a9 p9 v9 q9 = true := by decide +kernel
theorem x9 : CtxOK c9 := ⟨names_of KBase.names, KBase.mixed, KBase.S0_ok⟩
theorem k9 : SummOK Tryz.prog 239 s9 := seg_summ x9 r9
end SY
end Go.Ab
namespace Go.Ab
open Go.RowKit Go.Proofs
namespace SY
noncomputable def c10 : Ctx := ⟨Tryz.prog, (addS 239 (orS (atNx 3160) s9 badS) KBase.S0), fun _ => false⟩
noncomputable def a10 : List AV := [(.ptr (.i (.o (.o (.o (.o (.i (.i (.i (.i (.i .h)))))))))) 0), (.int .i64 (.ofNat 1)), (.int .i64 (.ofNat 0)), (.sl (.i (.i (.o (.i (.i (.i (.o (.o (.i (.i (.o .h))))))))))) 0 256 256 1 true)]
noncomputable def p10 : Stt := ⟨2875, [o2, (1, .map [] 18), o1, o3, o4, o64, o65, o66, o6, o67, o8, o56, o10, o11, o12, o13, o14, o68, o16, o17, o18, o19, o20, o21, o22, o23, o24, o25, o26, o27, o28, o29, o30, o31, o32, o33, o34, o35, o36, o37, o69, (2012, .map [] 0), o39, o70, o71, o40, o41, o42, (2019, .map [] 0), (2020, .map [] 0), o43, o44, o46, o47, o48, o49, o50, o51, o58, o59, o60, o61, o62, o63, o72, o73, o74, o75, o76, o77, o78, o79, o80, o81, o82, o83, o84, o85, o86, o87]⟩
noncomputable def v10 : AV := (.int .i64 (.ofNat 0))
noncomputable def q10 : Stt := ⟨3506, [o2, (1, .map [] 18), o1, o100, o101, o102, o103, o104, o6, o67, o8, o94, o10, o11, o12, o13, o14, o105, o16, o17, o18, o19, o20, o21, o22, o23, o24, o25, o26, o27, o28, o29, o30, o31, o32, o33, o34, o35, o36, o37, (2012, .map [] 0), o39, o106, o107, o40, o41, o42, (2019, .map [] 0), (2020, .map [] 0), o43, o44, o46, o47, o48, o49, o50, o51, o58, o95, o60, o61, o62, o72, o73, o74, o108, o76, o77, o78, o79, o81, o82, o83, o84, o85, o86, o87, o96, o97, o98, o99, o109, o110, o111, o112, o113, o114, o115, o116, o117, o118, o119, o120, o121, o122]⟩
noncomputable def s10 : Summ := segS a10 p10 v10 q10
set_option maxRecDepth 1000000
theorem r10 : segR c10 60 62 a10 p10 v10 q10 = true := by decide +kernel
theorem x10 : CtxOK c10 := ⟨names_of KBase.names, KBase.mixed, (addS_ok (orS_ok k9 badS_ok) KBase.S0_ok)⟩
theorem k10 : SummOK Tryz.prog 62 s10 := seg_summ x10 r10
end SY
end Go.Ab
namespace Go.Ab
open Go.RowKit Go.Proofs
namespace SY
noncomputable def c11 : Ctx := ⟨Tryz.prog, (addS 62 (orS (atNx 2875) s10 badS) KBase.S0), fun _ => false⟩
noncomputable def a11 : List AV := [(.ptr (.o (.i (.o (.o (.o (.i (.i (.i (.i (.i .h)))))))))) 0), (.int .i64 (.ofNat 1)), (.str [102]), (.int .i64 (.ofNat 2)), (.sl (.i (.o (.o (.o (.o (.i (.i (.i (.o (.i (.o .h))))))))))) 0 1 1 1 false)]
noncomputable def p11 : Stt := ⟨2785, [o2, (1, .map [] 18), o1, o3, o4, o64, o65, o66, o6, o67, o8, o56, o10, o11, o12, o13, o14, o68, o16, o17, o18, o19, o20, o21, o22, o23, o24, o25, o26, o27, o28, o29, o30, o31, o32, o33, o34, o35, o36, o37, o69, (2012, .map [] 0), o39, o70, o71, o40, o41, o42, (2019, .map [] 0), (2020, .map [] 0), o43, o44, o46, o47, o48, o49, o50, o51, o58, o59, o60, o61, o62, o63, o72, o73, o74, o75, o76, o77, o78, o79, o80, o81, o82]⟩
noncomputable def v11 : AV := (.tup [(.int .i64 (.ofNat 6)), (.int .i64 (.ofNat 0))])
noncomputable def q11 : Stt := ⟨3587, [o2, (1, .map [] 18), o1, o100, o101, o123, o103, o124, o6, o67, o8, o94, o10, o11, o12, o13, o14, o105, o16, o17, o18, o19, o20, o21, o22, o23, o24, o25, o26, o27, o28, o29, o30, o31, o32, o33, o34, o35, o36, o37, (2012, .map [] 0), o39, o106, o125, o40, o41, o42, (2019, .map [] 0), (2020, .map [] 0), o43, o44, o46, o47, o48, o49, o50, o51, o58, o95, o60, o61, o62, o72, o73, o74, o108, o76, o77, o78, o79, o81, o82, o96, o97, o98, o99, o126, o127, o111, o128, o114, o115, o117, o118, o119, o120, o121, o129, o130, o131, o132, o133, o134]⟩
noncomputable def s11 : Summ := segS a11 p11 v11 q11
set_option maxRecDepth 1000000
theorem r11 : segR c11 60 170 a11 p11 v11 q11 = true := by decide +kernel
theorem x11 : CtxOK c11 := ⟨names_of KBase.names, KBase.mixed, (addS_ok (orS_ok k10 badS_ok) KBase.S0_ok)⟩
theorem k11 : SummOK Tryz.prog 170 s11 := seg_summ x11 r11
end SY
end Go.Ab
namespace Go.Ab
open Go.RowKit Go.Proofs
namespace SY
noncomputable def c12 : Ctx := ⟨Tryz.prog, (addS 170 (orS (atNx 2785) s11 badS) (addS 167 (orS (atNx 2448) s7 badS) (addS 166 (orS (atNx 2200) s6 badS) (addS 62 (orS (atNx 2751) s8 badS) KBase.S0)))), fun _ => false⟩
noncomputable def a12 : List AV := [(.ptr (.i (.i (.i (.o (.o (.i (.i (.i (.i (.i .h)))))))))) 0), (.str [47, 102])]
noncomputable def p12 : Stt := ⟨2043, [o2, (1, .map [] 18), o1, o3, o4, (302, .map [] 0), (303, .map [] 0), o5, o6, o7, o8, o9, o10, o11, o12, o13, o14, o15, o16, o17, o18, o19, o20, o21, o22, o23, o24, o25, o26, o27, o28, o29, o30, o31, o32, o33, o34, o35, o36, o37, o38, (2012, .map [] 0), o39, (2014, .map [] 0), (2015, .map [] 0), o40, o41, o42, (2019, .map [] 0), (2020, .map [] 0), o43, o44, o46, o47, o48, o49, o50]⟩
noncomputable def v12 : AV := (.int .i64 (.ofNat 0))
noncomputable def q12 : Stt := ⟨3587, [o2, (1, .map [] 18), o1, o100, o101, o123, o103, o124, o6, o67, o8, o94, o10, o11, o12, o13, o14, o105, o16, o17, o18, o19, o20, o21, o22, o23, o24, o25, o26, o27, o28, o29, o30, o31, o32, o33, o34, o35, o36, o37, (2012, .map [] 0), o39, o106, o125, o40, o41, o42, (2019, .map [] 0), (2020, .map [] 0), o43, o44, o46, o47, o48, o49, o50, o58, o95, o61, o62, o74, o108, o77, o78, o79, o81, o96, o97, o98, o99, o126, o127, o111, o128, o114, o115, o117, o118, o119, o120, o121, o129, o130, o131, o132, o133, o134]⟩
noncomputable def s12 : Summ := segS a12 p12 v12 q12
set_option maxRecDepth 1000000
theorem r12 : segR c12 60 32 a12 p12 v12 q12 = true := by decide +kernel
theorem x12 : CtxOK c12 := ⟨names_of KBase.names, KBase.mixed, (addS_ok (orS_ok k11 badS_ok) (addS_ok (orS_ok k7 badS_ok) (addS_ok (orS_ok k6 badS_ok) (addS_ok (orS_ok k8 badS_ok) KBase.S0_ok))))⟩
theorem k12 : SummOK Tryz.prog 32 s12 := seg_summ x12 r12
end SY
end Go.Ab
