import Derived.Test.YtlcnngohlalhbaaGreatDoorRunC
import Derived.Test.YtlcnngohlalhbaaGreatDoorRunB
import Derived.Test.YtlcnngohlalhbaaGreatDoorBase
import Derived.Test.YtlcnngohlalhbaaGreatDoorData
namespace Go.Ab
open Go.RowKit Go.Proofs
namespace SH
noncomputable def c11 : Ctx := ⟨Tryz.prog, (addS 107 (orS (atNx 2135) s10 badS) KBase.S0), fun _ => false⟩
noncomputable def a11 : List AV := [(.ptr (.i (.i (.o (.i (.i (.i (.i (.i (.o (.o .h)))))))))) 0), (.int .i64 (.ofNat 1)), (.str [102]), (.int .i64 (.ofNat 2)), (.sl (.i (.o (.i (.i (.i (.i (.i (.i (.i (.i .h)))))))))) 0 1 1 1 false)]
noncomputable def p11 : Stt := ⟨2045, [o2, (7, .map [] 12), o1, o3, o4, o55, o56, o57, o6, o58, o8, o47, o10, o11, o12, o13, o14, o59, o16, o17, o18, o19, o20, o21, o22, o23, o24, o25, o60, (1269, .map [] 0), o27, o61, o62, o28, o29, o30, (1276, .map [] 0), (1277, .map [] 0), o31, o32, o34, o35, o36, o37, o38, o39, o40, o41, o42, o49, o50, o51, o52, o53, o54, o63, o64, o65, o66, o67, o68, o69, o70, o71, o72, o73]⟩
noncomputable def v11 : AV := (.tup [(.int .i64 (.ofNat 6)), (.int .i64 (.ofNat 0))])
noncomputable def q11 : Stt := ⟨2847, [o2, (7, .map [] 12), o1, o91, o92, o114, o94, o115, o6, o58, o8, o85, o10, o11, o12, o13, o14, o96, o16, o17, o18, o19, o20, o21, o22, o23, o24, o25, (1269, .map [] 0), o27, o97, o116, o28, o29, o30, (1276, .map [] 0), (1277, .map [] 0), o31, o32, o34, o35, o36, o37, o38, o39, o40, o41, o42, o49, o86, o51, o52, o53, o63, o64, o65, o99, o67, o68, o69, o70, o72, o73, o87, o88, o89, o90, o117, o118, o102, o119, o105, o106, o108, o109, o110, o111, o112, o120, o121, o122, o123, o124, o125]⟩
noncomputable def s11 : Summ := segS a11 p11 v11 q11
set_option maxRecDepth 1000000
theorem r11 : segR c11 60 227 a11 p11 v11 q11 = true := by decide +kernel
theorem x11 : CtxOK c11 := ⟨names_of KBase.names, KBase.mixed, (addS_ok (orS_ok k10 badS_ok) KBase.S0_ok)⟩
theorem k11 : SummOK Tryz.prog 227 s11 := seg_summ x11 r11
end SH
end Go.Ab
namespace Go.Ab
open Go.RowKit Go.Proofs
namespace SH
noncomputable def c12 : Ctx := ⟨Tryz.prog, (addS 227 (orS (atNx 2045) s11 badS) (addS 226 (orS (atNx 1460) s6 badS) (addS 107 (orS (atNx 2011) s8 badS) (addS 58 (orS (atNx 1708) s7 badS) KBase.S0)))), fun _ => false⟩
noncomputable def a12 : List AV := [(.ptr (.o (.o (.o (.o (.o (.o (.o (.o (.i (.o .h)))))))))) 0), (.str [47, 102])]
noncomputable def p12 : Stt := ⟨1303, [o2, (7, .map [] 12), o1, o3, o4, (285, .map [] 0), (286, .map [] 0), o5, o6, o7, o8, o9, o10, o11, o12, o13, o14, o15, o16, o17, o18, o19, o20, o21, o22, o23, o24, o25, o26, (1269, .map [] 0), o27, (1271, .map [] 0), (1272, .map [] 0), o28, o29, o30, (1276, .map [] 0), (1277, .map [] 0), o31, o32, o34, o35, o36, o37, o38, o39, o40, o41]⟩
noncomputable def v12 : AV := (.int .i64 (.ofNat 0))
noncomputable def q12 : Stt := ⟨2847, [o2, (7, .map [] 12), o1, o91, o92, o114, o94, o115, o6, o58, o8, o85, o10, o11, o12, o13, o14, o96, o16, o17, o18, o19, o20, o21, o22, o23, o24, o25, (1269, .map [] 0), o27, o97, o116, o28, o29, o30, (1276, .map [] 0), (1277, .map [] 0), o31, o32, o34, o35, o36, o37, o38, o39, o40, o41, o49, o86, o52, o53, o65, o99, o68, o69, o70, o72, o87, o88, o89, o90, o117, o118, o102, o119, o105, o106, o108, o109, o110, o111, o112, o120, o121, o122, o123, o124, o125]⟩
noncomputable def s12 : Summ := segS a12 p12 v12 q12
set_option maxRecDepth 1000000
theorem r12 : segR c12 60 47 a12 p12 v12 q12 = true := by decide +kernel
theorem x12 : CtxOK c12 := ⟨names_of KBase.names, KBase.mixed, (addS_ok (orS_ok k11 badS_ok) (addS_ok (orS_ok k6 badS_ok) (addS_ok (orS_ok k8 badS_ok) (addS_ok (orS_ok k7 badS_ok) KBase.S0_ok))))⟩
theorem k12 : SummOK Tryz.prog 47 s12 := seg_summ x12 r12
end SH
end Go.Ab
namespace Go.Ab
open Go.RowKit Go.Proofs
namespace SH
noncomputable def c13 : Ctx := ⟨Tryz.prog, KBase.S0, fun _ => false⟩
noncomputable def a13 : List AV := [(.ptr (.o (.o (.o (.o (.o (.o (.o (.o (.i (.o .h)))))))))) 0), (.str [47, 102])]
noncomputable def p13 : Stt := ⟨2847, [o2, (7, .map [] 12), o1, o91, o92, o114, o94, o115, o6, o58, o85, o10, o11, o12, o13, o96, o16, o17, o18, o19, o20, o21, o22, o23, o24, o25, (1269, .map [] 0), o27, o97, o116, o28, o29, o30, (1276, .map [] 0), (1277, .map [] 0), o31, o32, o34, o35, o36, o37, o38, o39, o40, o41, o49, o86, o52, o53, o65, o99, o68, o69, o70, o72, o87, o88, o89, o90, o117, o118, o102, o119, o105, o106, o108, o109, o110, o111, o112, o120, o121, o122, o123, o124, o125]⟩
noncomputable def v13 : AV := (.tup [(.int .i64 (.ofNat 0)), (.int .i64 (.ofNat 0))])
noncomputable def q13 : Stt := ⟨3058, [o2, (7, .map [] 12), o1, o91, o92, o114, o94, o115, o6, o58, o85, o10, o11, o12, o13, o96, o16, o17, o18, o19, o20, o21, o22, o23, o24, o25, (1269, .map [] 0), o27, o97, o116, o28, o29, o30, (1276, .map [] 0), (1277, .map [] 0), o126, o32, o34, o35, o36, o37, o38, o39, o40, o41, o49, o86, o52, o53, o65, o99, o68, o69, o70, o72, o87, o88, o89, o90, o117, o101, o102, o119, o105, o106, o108, o109, o110, o111, o112, o120, o121, o122, o123, o124, o125]⟩
noncomputable def s13 : Summ := segS a13 p13 v13 q13
set_option maxRecDepth 1000000
theorem r13 : segR c13 60 48 a13 p13 v13 q13 = true := by decide +kernel
theorem x13 : CtxOK c13 := ⟨names_of KBase.names, KBase.mixed, KBase.S0_ok⟩
theorem k13 : SummOK Tryz.prog 48 s13 := seg_summ x13 r13
end SH
end Go.Ab
