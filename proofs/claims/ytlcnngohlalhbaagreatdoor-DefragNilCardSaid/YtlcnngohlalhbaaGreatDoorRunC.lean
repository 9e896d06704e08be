import Derived.Test.YtlcnngohlalhbaaGreatDoorRunB
import Derived.Test.YtlcnngohlalhbaaGreatDoorBase
import Derived.Test.YtlcnngohlalhbaaGreatDoorData
namespace Go.Ab
open Go.RowKit Go.Proofs
namespace DF
noncomputable def c9 : Ctx := ⟨Tryz.prog, (addS 164 (orS (atNx 2956) s8 badS) KBase.S0), fun _ => false⟩
noncomputable def a9 : List AV := [(.ptr (.o (.i (.o (.o (.i (.i (.i (.o (.o (.i .h)))))))))) 0), (.int .i64 (.ofNat 1)), (.int .i64 (.ofNat 0)), (.sl (.i (.i (.i (.i (.i (.o (.o (.o (.o (.i (.o .h))))))))))) 0 256 256 1 true)]
noncomputable def p9 : Stt := ⟨2591, [o2, (1, .map [] 15), o1, o3, o4, o61, o62, o63, o6, o64, o8, o53, o10, o11, o12, o13, o14, o15, o16, o65, o18, o19, o20, o21, o22, o23, o24, o25, o26, o27, o28, o29, o30, o31, o66, (1645, .map [] 0), o33, o67, o68, o34, o35, o36, (1652, .map [] 0), (1653, .map [] 0), o37, o38, o40, o41, o42, o43, o44, o45, o46, o47, o48, o55, o56, o57, o58, o59, o60, o69, o70, o71, o72, o73, o74, o75, o76, o77, o78, o79, o80, o81, o82, o83, o84]⟩
noncomputable def v9 : AV := (.int .i64 (.ofNat 0))
noncomputable def q9 : Stt := ⟨3302, [o2, (1, .map [] 15), o1, o97, o98, o99, o100, o101, o6, o64, o8, o91, o10, o11, o12, o13, o14, o15, o16, o102, o18, o19, o20, o21, o22, o23, o24, o25, o26, o27, o28, o29, o30, o31, (1645, .map [] 0), o33, o103, o104, o34, o35, o36, (1652, .map [] 0), (1653, .map [] 0), o37, o38, o40, o41, o42, o43, o44, o45, o46, o47, o48, o55, o92, o57, o58, o59, o69, o70, o71, o105, o73, o74, o75, o76, o78, o79, o80, o81, o82, o83, o84, o93, o94, o95, o96, o106, o107, o108, o109, o110, o111, o112, o113, o114, o115, o116, o117, o118, o119]⟩
noncomputable def s9 : Summ := segS a9 p9 v9 q9
set_option maxRecDepth 1000000
theorem r9 : segR c9 60 107 a9 p9 v9 q9 = true := by decide +kernel
theorem x9 : CtxOK c9 := ⟨names_of KBase.names, KBase.mixed, (addS_ok (orS_ok k8 badS_ok) KBase.S0_ok)⟩
theorem k9 : SummOK Tryz.prog 107 s9 := seg_summ x9 r9
end DF
end Go.Ab
namespace Go.Ab
open Go.RowKit Go.Proofs
namespace DF
noncomputable def c10 : Ctx := ⟨Tryz.prog, (addS 107 (orS (atNx 2591) s9 badS) KBase.S0), fun _ => false⟩
noncomputable def a10 : List AV := [(.ptr (.i (.i (.o (.o (.i (.i (.i (.o (.o (.i .h)))))))))) 0), (.int .i64 (.ofNat 1)), (.str [102]), (.int .i64 (.ofNat 2)), (.sl (.i (.o (.i (.o (.o (.o (.i (.i (.i (.o (.o .h))))))))))) 0 1 1 1 false)]
noncomputable def p10 : Stt := ⟨2501, [o2, (1, .map [] 15), o1, o3, o4, o61, o62, o63, o6, o64, o8, o53, o10, o11, o12, o13, o14, o15, o16, o65, o18, o19, o20, o21, o22, o23, o24, o25, o26, o27, o28, o29, o30, o31, o66, (1645, .map [] 0), o33, o67, o68, o34, o35, o36, (1652, .map [] 0), (1653, .map [] 0), o37, o38, o40, o41, o42, o43, o44, o45, o46, o47, o48, o55, o56, o57, o58, o59, o60, o69, o70, o71, o72, o73, o74, o75, o76, o77, o78, o79]⟩
noncomputable def v10 : AV := (.tup [(.int .i64 (.ofNat 6)), (.int .i64 (.ofNat 0))])
noncomputable def q10 : Stt := ⟨3383, [o2, (1, .map [] 15), o1, o97, o98, o120, o100, o121, o6, o64, o8, o91, o10, o11, o12, o13, o14, o15, o16, o102, o18, o19, o20, o21, o22, o23, o24, o25, o26, o27, o28, o29, o30, o31, (1645, .map [] 0), o33, o103, o122, o34, o35, o36, (1652, .map [] 0), (1653, .map [] 0), o37, o38, o40, o41, o42, o43, o44, o45, o46, o47, o48, o55, o92, o57, o58, o59, o69, o70, o71, o105, o73, o74, o75, o76, o78, o79, o93, o94, o95, o96, o123, o124, o108, o125, o111, o112, o114, o115, o116, o117, o118, o126, o127, o128, o129, o130, o131]⟩
noncomputable def s10 : Summ := segS a10 p10 v10 q10
set_option maxRecDepth 1000000
theorem r10 : segR c10 60 227 a10 p10 v10 q10 = true := by decide +kernel
theorem x10 : CtxOK c10 := ⟨names_of KBase.names, KBase.mixed, (addS_ok (orS_ok k9 badS_ok) KBase.S0_ok)⟩
theorem k10 : SummOK Tryz.prog 227 s10 := seg_summ x10 r10
end DF
end Go.Ab
namespace Go.Ab
open Go.RowKit Go.Proofs
namespace DF
noncomputable def c11 : Ctx := ⟨Tryz.prog, (addS 227 (orS (atNx 2501) s10 badS) (addS 226 (orS (atNx 1836) s5 badS) (addS 107 (orS (atNx 2467) s7 badS) (addS 58 (orS (atNx 2164) s6 badS) KBase.S0)))), fun _ => false⟩
noncomputable def a11 : List AV := [(.ptr (.o (.o (.o (.i (.i (.i (.i (.o (.o (.i .h)))))))))) 0), (.str [47, 102])]
noncomputable def p11 : Stt := ⟨1679, [o2, (1, .map [] 15), o1, o3, o4, (355, .map [] 0), (356, .map [] 0), o5, o6, o7, o8, o9, o10, o11, o12, o13, o14, o15, o16, o17, o18, o19, o20, o21, o22, o23, o24, o25, o26, o27, o28, o29, o30, o31, o32, (1645, .map [] 0), o33, (1647, .map [] 0), (1648, .map [] 0), o34, o35, o36, (1652, .map [] 0), (1653, .map [] 0), o37, o38, o40, o41, o42, o43, o44, o45, o46, o47]⟩
noncomputable def v11 : AV := (.int .i64 (.ofNat 0))
noncomputable def q11 : Stt := ⟨3383, [o2, (1, .map [] 15), o1, o97, o98, o120, o100, o121, o6, o64, o8, o91, o10, o11, o12, o13, o14, o15, o16, o102, o18, o19, o20, o21, o22, o23, o24, o25, o26, o27, o28, o29, o30, o31, (1645, .map [] 0), o33, o103, o122, o34, o35, o36, (1652, .map [] 0), (1653, .map [] 0), o37, o38, o40, o41, o42, o43, o44, o45, o46, o47, o55, o92, o58, o59, o71, o105, o74, o75, o76, o78, o93, o94, o95, o96, o123, o124, o108, o125, o111, o112, o114, o115, o116, o117, o118, o126, o127, o128, o129, o130, o131]⟩
noncomputable def s11 : Summ := segS a11 p11 v11 q11
set_option maxRecDepth 1000000
theorem r11 : segR c11 60 47 a11 p11 v11 q11 = true := by decide +kernel
theorem x11 : CtxOK c11 := ⟨names_of KBase.names, KBase.mixed, (addS_ok (orS_ok k10 badS_ok) (addS_ok (orS_ok k5 badS_ok) (addS_ok (orS_ok k7 badS_ok) (addS_ok (orS_ok k6 badS_ok) KBase.S0_ok))))⟩
theorem k11 : SummOK Tryz.prog 47 s11 := seg_summ x11 r11
end DF
end Go.Ab
namespace Go.Ab
open Go.RowKit Go.Proofs
namespace DF
noncomputable def c12 : Ctx := ⟨Tryz.prog, KBase.S0, fun _ => false⟩
noncomputable def a12 : List AV := [(.ptr (.o (.o (.o (.i (.i (.i (.i (.o (.o (.i .h)))))))))) 0), (.str [47, 102])]
noncomputable def p12 : Stt := ⟨3383, [o2, (1, .map [] 15), o1, o97, o98, o120, o100, o121, o6, o64, o91, o10, o11, o12, o13, o14, o15, o102, o18, o19, o20, o21, o22, o23, o24, o25, o26, o27, o28, o29, o30, o31, (1645, .map [] 0), o33, o103, o122, o34, o35, o36, (1652, .map [] 0), (1653, .map [] 0), o37, o38, o40, o41, o42, o43, o44, o45, o46, o47, o55, o92, o58, o59, o71, o105, o74, o75, o76, o78, o93, o94, o95, o96, o123, o124, o108, o125, o111, o112, o114, o115, o116, o117, o118, o126, o127, o128, o129, o130, o131]⟩
noncomputable def v12 : AV := (.tup [(.int .i64 (.ofNat 0)), (.int .i64 (.ofNat 0))])
noncomputable def q12 : Stt := ⟨3594, [o2, (1, .map [] 15), o1, o97, o98, o120, o100, o121, o6, o64, o91, o10, o11, o12, o13, o14, o15, o102, o18, o19, o20, o21, o22, o23, o24, o25, o26, o27, o28, o29, o30, o31, (1645, .map [] 0), o33, o103, o122, o34, o35, o36, (1652, .map [] 0), (1653, .map [] 0), o132, o38, o40, o41, o42, o43, o44, o45, o46, o47, o55, o92, o58, o59, o71, o105, o74, o75, o76, o78, o93, o94, o95, o96, o123, o107, o108, o125, o111, o112, o114, o115, o116, o117, o118, o126, o127, o128, o129, o130, o131]⟩
noncomputable def s12 : Summ := segS a12 p12 v12 q12
set_option maxRecDepth 1000000
theorem r12 : segR c12 60 48 a12 p12 v12 q12 = true := by decide +kernel
theorem x12 : CtxOK c12 := ⟨names_of KBase.names, KBase.mixed, KBase.S0_ok⟩
theorem k12 : SummOK Tryz.prog 48 s12 := seg_summ x12 r12
end DF
end Go.Ab
