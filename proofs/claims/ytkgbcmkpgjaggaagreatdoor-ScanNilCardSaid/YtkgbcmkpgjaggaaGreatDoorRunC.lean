import Derived.Test.YtkgbcmkpgjaggaaGreatDoorRunB
import Derived.Test.YtkgbcmkpgjaggaaGreatDoorBase
import Derived.Test.YtkgbcmkpgjaggaaGreatDoorData
namespace Go.Ab
open Go.RowKit Go.Proofs
namespace SC
noncomputable def c9 : Ctx := ⟨Tryz.prog, (addS 330 (orS (atNx 1856) s8 badS) KBase.S0), fun _ => false⟩
noncomputable def a9 : List AV := [(.ptr (.o (.o (.i (.i (.i (.i (.i (.o (.i .h))))))))) 0), (.int .i64 (.ofNat 1)), (.int .i64 (.ofNat 0)), (.sl (.i (.i (.o (.o (.i (.i (.i (.o (.o (.i .h)))))))))) 0 256 256 1 true)]
noncomputable def p9 : Stt := ⟨1651, [o0, o1, o2, o3, o6, (7, .map [] 9), o5, o7, o8, o46, o47, o48, o10, o49, o12, o38, o14, o15, o16, o50, o18, o19, o20, o21, o22, o23, o51, (887, .map [] 0), o25, o52, o53, o26, o27, o28, (894, .map [] 0), (895, .map [] 0), o29, o30, o32, o33, o40, o41, o42, o43, o44, o45, o54, o55, o56, o57, o58, o59, o60, o61, o62, o63, o64, o65, o66, o67, o68, o69]⟩
noncomputable def v9 : AV := (.int .i64 (.ofNat 0))
noncomputable def q9 : Stt := ⟨2202, [o0, o1, o2, o3, o6, (7, .map [] 9), o5, o82, o83, o84, o85, o86, o10, o49, o12, o76, o14, o15, o16, o87, o18, o19, o20, o21, o22, o23, (887, .map [] 0), o25, o88, o89, o26, o27, o28, (894, .map [] 0), (895, .map [] 0), o29, o30, o32, o33, o40, o77, o42, o43, o44, o54, o55, o56, o90, o58, o59, o60, o61, o63, o64, o65, o66, o67, o68, o69, o78, o79, o80, o81, o91, o92, o93, o94, o95, o96, o97, o98, o99, o100, o101, o102, o103, o104]⟩
noncomputable def s9 : Summ := segS a9 p9 v9 q9
set_option maxRecDepth 1000000
theorem r9 : segR c9 60 79 a9 p9 v9 q9 = true := by decide +kernel
theorem x9 : CtxOK c9 := ⟨names_of KBase.names, KBase.mixed, (addS_ok (orS_ok k8 badS_ok) KBase.S0_ok)⟩
theorem k9 : SummOK Tryz.prog 79 s9 := seg_summ x9 r9
end SC
end Go.Ab
namespace Go.Ab
open Go.RowKit Go.Proofs
namespace SC
noncomputable def c10 : Ctx := ⟨Tryz.prog, (addS 79 (orS (atNx 1651) s9 badS) KBase.S0), fun _ => false⟩
noncomputable def a10 : List AV := [(.ptr (.i (.o (.i (.i (.i (.i (.i (.o (.i .h))))))))) 0), (.int .i64 (.ofNat 1)), (.str [102]), (.int .i64 (.ofNat 2)), (.sl (.i (.o (.o (.i (.i (.o (.o (.o (.o (.i .h)))))))))) 0 1 1 1 false)]
noncomputable def p10 : Stt := ⟨1561, [o0, o1, o2, o3, o6, (7, .map [] 9), o5, o7, o8, o46, o47, o48, o10, o49, o12, o38, o14, o15, o16, o50, o18, o19, o20, o21, o22, o23, o51, (887, .map [] 0), o25, o52, o53, o26, o27, o28, (894, .map [] 0), (895, .map [] 0), o29, o30, o32, o33, o40, o41, o42, o43, o44, o45, o54, o55, o56, o57, o58, o59, o60, o61, o62, o63, o64]⟩
noncomputable def v10 : AV := (.tup [(.int .i64 (.ofNat 6)), (.int .i64 (.ofNat 0))])
noncomputable def q10 : Stt := ⟨2283, [o0, o1, o2, o3, o6, (7, .map [] 9), o5, o82, o83, o105, o85, o106, o10, o49, o12, o76, o14, o15, o16, o87, o18, o19, o20, o21, o22, o23, (887, .map [] 0), o25, o88, o107, o26, o27, o28, (894, .map [] 0), (895, .map [] 0), o29, o30, o32, o33, o40, o77, o42, o43, o44, o54, o55, o56, o90, o58, o59, o60, o61, o63, o64, o78, o79, o80, o81, o108, o109, o93, o110, o96, o97, o99, o100, o101, o102, o103, o111, o112, o113, o114, o115, o116]⟩
noncomputable def s10 : Summ := segS a10 p10 v10 q10
set_option maxRecDepth 1000000
theorem r10 : segR c10 60 141 a10 p10 v10 q10 = true := by decide +kernel
theorem x10 : CtxOK c10 := ⟨names_of KBase.names, KBase.mixed, (addS_ok (orS_ok k9 badS_ok) KBase.S0_ok)⟩
theorem k10 : SummOK Tryz.prog 141 s10 := seg_summ x10 r10
end SC
end Go.Ab
namespace Go.Ab
open Go.RowKit Go.Proofs
namespace SC
noncomputable def c11 : Ctx := ⟨Tryz.prog, (addS 226 (orS (atNx 1224) s6 badS) (addS 141 (orS (atNx 1561) s10 badS) (addS 139 (orS (atNx 1056) s5 badS) (addS 79 (orS (atNx 1527) s7 badS) KBase.S0)))), fun _ => false⟩
noncomputable def a11 : List AV := [(.ptr (.o (.i (.o (.o (.o (.o (.o (.i (.i .h))))))))) 0), (.str [47, 102])]
noncomputable def p11 : Stt := ⟨899, [o0, o1, o2, o3, o6, (7, .map [] 9), o5, o7, o8, (209, .map [] 0), (210, .map [] 0), o9, o10, o11, o12, o13, o14, o15, o16, o17, o18, o19, o20, o21, o22, o23, o24, (887, .map [] 0), o25, (889, .map [] 0), (890, .map [] 0), o26, o27, o28, (894, .map [] 0), (895, .map [] 0), o29, o30, o32]⟩
noncomputable def v11 : AV := (.int .i64 (.ofNat 0))
noncomputable def q11 : Stt := ⟨2283, [o0, o1, o2, o3, o6, (7, .map [] 9), o5, o82, o83, o105, o85, o106, o10, o49, o12, o76, o14, o15, o16, o87, o18, o19, o20, o21, o22, o23, (887, .map [] 0), o25, o88, o107, o26, o27, o28, (894, .map [] 0), (895, .map [] 0), o29, o30, o32, o40, o77, o43, o44, o56, o90, o59, o60, o61, o63, o78, o79, o80, o81, o108, o109, o93, o110, o96, o97, o99, o100, o101, o102, o103, o111, o112, o113, o114, o115, o116]⟩
noncomputable def s11 : Summ := segS a11 p11 v11 q11
set_option maxRecDepth 1000000
theorem r11 : segR c11 60 24 a11 p11 v11 q11 = true := by decide +kernel
theorem x11 : CtxOK c11 := ⟨names_of KBase.names, KBase.mixed, (addS_ok (orS_ok k6 badS_ok) (addS_ok (orS_ok k10 badS_ok) (addS_ok (orS_ok k5 badS_ok) (addS_ok (orS_ok k7 badS_ok) KBase.S0_ok))))⟩
theorem k11 : SummOK Tryz.prog 24 s11 := seg_summ x11 r11
end SC
end Go.Ab
namespace Go.Ab
open Go.RowKit Go.Proofs
namespace SC
noncomputable def c12 : Ctx := ⟨Tryz.prog, KBase.S0, fun _ => false⟩
noncomputable def a12 : List AV := [(.ptr (.o (.i (.o (.o (.o (.o (.o (.i (.i .h))))))))) 0), (.str [47, 102])]
noncomputable def p12 : Stt := ⟨2284, [o0, o1, o2, o3, o6, (7, .map [] 9), o5, o82, o83, o105, o85, o106, o10, o49, o76, o14, o15, o87, o18, o19, o20, o21, o22, o23, (887, .map [] 0), o25, o88, o107, o26, o27, o28, (894, .map [] 0), (895, .map [] 0), o29, o30, o32, o40, o77, o43, o44, o56, o90, o59, o60, o61, o63, o78, o79, o80, o81, o108, o109, o93, o110, o96, o97, o99, o100, o101, o102, o103, o111, o112, o113, o114, o115, o116, o117]⟩
noncomputable def v12 : AV := (.tup [(.int .i64 (.ofNat 0)), (.int .i64 (.ofNat 0))])
noncomputable def q12 : Stt := ⟨2495, [o0, o1, o2, o3, o6, (7, .map [] 9), o5, o82, o83, o105, o85, o106, o10, o49, o76, o14, o15, o87, o18, o19, o20, o21, o22, o23, (887, .map [] 0), o25, o88, o107, o26, o27, o28, (894, .map [] 0), (895, .map [] 0), o118, o30, o32, o40, o77, o43, o44, o56, o90, o59, o60, o61, o63, o78, o79, o80, o81, o108, o92, o93, o110, o96, o97, o99, o100, o101, o102, o103, o111, o112, o113, o114, o115, o116, o117]⟩
noncomputable def s12 : Summ := segS a12 p12 v12 q12
set_option maxRecDepth 1000000
theorem r12 : segR c12 60 16 a12 p12 v12 q12 = true := by decide +kernel
theorem x12 : CtxOK c12 := ⟨names_of KBase.names, KBase.mixed, KBase.S0_ok⟩
theorem k12 : SummOK Tryz.prog 16 s12 := seg_summ x12 r12
end SC
end Go.Ab
