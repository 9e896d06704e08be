import Derived.Test.YtlcnngohlalhbaaGreatDoorBase
import Derived.Test.YtlcnngohlalhbaaGreatDoorData
namespace Go.Ab
open Go.RowKit Go.Proofs
namespace SH
noncomputable def c9 : Ctx := ⟨Tryz.prog, KBase.S0, fun _ => false⟩
noncomputable def a9 : List AV := [(.ptr (.i (.i (.i (.o (.i (.i (.i (.i (.o (.o .h)))))))))) 0), (.int .i64 (.ofNat 0))]
noncomputable def p9 : Stt := ⟨2420, [o2, (7, .map [] 12), o1, o3, o4, o55, o56, o57, o6, o58, o8, o47, o10, o11, o12, o13, o14, o59, o16, o17, o18, o19, o20, o21, o22, o23, o24, o25, o43, (1269, .map [] 0), o27, o61, o62, o28, o29, o30, (1276, .map [] 0), (1277, .map [] 0), o31, o32, o34, o35, o36, o37, o38, o39, o40, o41, o42, o49, o50, o51, o52, o53, o54, o63, o64, o65, o66, o67, o68, o69, o70, o71, o72, o73, o74, o75, o76, o77, o78, o79, o80, o81, o82]⟩
noncomputable def v9 : AV := (.tup [(.int .i64 (.ofNat 5)), (.int .i64 (.ofNat 3)), (.int .i64 (.ofNat 0))])
noncomputable def q9 : Stt := ⟨2680, [o2, (7, .map [] 12), o1, o3, o4, o83, o56, o84, o6, o58, o8, o85, o10, o11, o12, o13, o14, o59, o16, o17, o18, o19, o20, o21, o22, o23, o24, o25, o48, (1269, .map [] 0), o27, o61, o62, o28, o29, o30, (1276, .map [] 0), (1277, .map [] 0), o31, o32, o34, o35, o36, o37, o38, o39, o40, o41, o42, o49, o86, o51, o52, o53, o63, o64, o65, o66, o67, o68, o69, o70, o71, o72, o73, o74, o75, o76, o77, o78, o79, o80, o81, o82, o87, o88, o89, o90]⟩
noncomputable def s9 : Summ := segS a9 p9 v9 q9
set_option maxRecDepth 1000000
theorem r9 : segR c9 60 164 a9 p9 v9 q9 = true := by decide +kernel
theorem x9 : CtxOK c9 := ⟨names_of KBase.names, KBase.mixed, KBase.S0_ok⟩
theorem k9 : SummOK Tryz.prog 164 s9 := seg_summ x9 r9
end SH
end Go.Ab
namespace Go.Ab
open Go.RowKit Go.Proofs
namespace SH
noncomputable def c10 : Ctx := ⟨Tryz.prog, (addS 164 (orS (atNx 2420) s9 badS) KBase.S0), fun _ => false⟩
noncomputable def a10 : List AV := [(.ptr (.o (.i (.o (.i (.i (.i (.i (.i (.o (.o .h)))))))))) 0), (.int .i64 (.ofNat 1)), (.int .i64 (.ofNat 0)), (.sl (.i (.i (.i (.o (.i (.o (.i (.o (.o (.o (.o .h))))))))))) 0 256 256 1 true)]
noncomputable def p10 : Stt := ⟨2135, [o2, (7, .map [] 12), o1, o3, o4, o55, o56, o57, o6, o58, o8, o47, o10, o11, o12, o13, o14, o59, o16, o17, o18, o19, o20, o21, o22, o23, o24, o25, o60, (1269, .map [] 0), o27, o61, o62, o28, o29, o30, (1276, .map [] 0), (1277, .map [] 0), o31, o32, o34, o35, o36, o37, o38, o39, o40, o41, o42, o49, o50, o51, o52, o53, o54, o63, o64, o65, o66, o67, o68, o69, o70, o71, o72, o73, o74, o75, o76, o77, o78]⟩
noncomputable def v10 : AV := (.int .i64 (.ofNat 0))
noncomputable def q10 : Stt := ⟨2766, [o2, (7, .map [] 12), o1, o91, o92, o93, o94, o95, o6, o58, o8, o85, o10, o11, o12, o13, o14, o96, o16, o17, o18, o19, o20, o21, o22, o23, o24, o25, (1269, .map [] 0), o27, o97, o98, o28, o29, o30, (1276, .map [] 0), (1277, .map [] 0), o31, o32, o34, o35, o36, o37, o38, o39, o40, o41, o42, o49, o86, o51, o52, o53, o63, o64, o65, o99, o67, o68, o69, o70, o72, o73, o74, o75, o76, o77, o78, o87, o88, o89, o90, o100, o101, o102, o103, o104, o105, o106, o107, o108, o109, o110, o111, o112, o113]⟩
noncomputable def s10 : Summ := segS a10 p10 v10 q10
set_option maxRecDepth 1000000
theorem r10 : segR c10 60 107 a10 p10 v10 q10 = true := by decide +kernel
theorem x10 : CtxOK c10 := ⟨names_of KBase.names, KBase.mixed, (addS_ok (orS_ok k9 badS_ok) KBase.S0_ok)⟩
theorem k10 : SummOK Tryz.prog 107 s10 := seg_summ x10 r10
end SH
end Go.Ab
