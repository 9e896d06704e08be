import Derived.Test.YtfnmplolnlaomaaGreatDoorRunC
import Derived.Test.YtfnmplolnlaomaaGreatDoorData
namespace Go.Ab
open Go.RowKit Go.Proofs
namespace IM
noncomputable def c15 : Ctx := ⟨Tryz.prog, (addS 300 (orS (atNx 3745) s14 badS) KBase.S0), fun _ => false⟩
noncomputable def a15 : List AV := [(.ptr (.o (.o (.o (.i (.o (.i (.o (.o (.o (.i (.o .h))))))))))) 0), (.int .i64 (.ofNat 1)), (.int .i64 (.ofNat 0)), (.sl (.o (.o (.i (.o (.o (.o (.o (.i (.i (.o (.i .h))))))))))) 0 256 256 1 true)]
noncomputable def p15 : Stt := ⟨3460, [o2, (1, .map [] 12), o1, o3, o4, (278, .map [] 0), (279, .map [] 0), o5, o6, o7, o8, o9, o10, o11, o12, o13, o14, o15, o16, o17, o18, o19, o20, o21, o22, o23, o24, o25, o40, (1262, .map [] 0), o27, (1264, .map [] 0), (1265, .map [] 0), o28, o29, o30, (1269, .map [] 0), (1270, .map [] 0), o31, o32, o33, o34, o35, o36, o37, o38, o39, o43, (1334, .map [] 12), o42, o44, o45, o95, o96, o97, o47, o98, o49, o87, o51, o52, o53, o54, o55, o99, o57, o58, o59, o60, o61, o62, o63, o64, o65, o66, o100, (2595, .map [] 0), o68, o101, o102, o69, o70, o71, (2602, .map [] 0), (2603, .map [] 0), o72, o73, o75, o76, o77, o78, o79, o80, o81, o82, o89, o90, o91, o92, o93, o94, o103, o104, o105, o106, o107, o108, o109, o110, o111, o112, o113, o114, o115, o116, o117, o118]⟩
noncomputable def v15 : AV := (.int .i64 (.ofNat 0))
noncomputable def q15 : Stt := ⟨4091, [o2, (1, .map [] 12), o1, o3, o4, (278, .map [] 0), (279, .map [] 0), o5, o6, o7, o8, o9, o10, o11, o12, o13, o14, o15, o16, o17, o18, o19, o20, o21, o22, o23, o24, o25, o40, (1262, .map [] 0), o27, (1264, .map [] 0), (1265, .map [] 0), o28, o29, o30, (1269, .map [] 0), (1270, .map [] 0), o31, o32, o33, o34, o35, o36, o37, o38, o39, o43, (1334, .map [] 12), o42, o131, o132, o133, o134, o135, o47, o98, o49, o125, o51, o52, o53, o54, o55, o136, o57, o58, o59, o60, o61, o62, o63, o64, o65, o66, (2595, .map [] 0), o68, o137, o138, o69, o70, o71, (2602, .map [] 0), (2603, .map [] 0), o72, o73, o75, o76, o77, o78, o79, o80, o81, o82, o89, o126, o91, o92, o93, o103, o104, o105, o139, o107, o108, o109, o110, o112, o113, o114, o115, o116, o117, o118, o127, o128, o129, o130, o140, o141, o142, o143, o144, o145, o146, o147, o148, o149, o150, o151, o152, o153]⟩
noncomputable def s15 : Summ := segS a15 p15 v15 q15
set_option maxRecDepth 1000000
theorem r15 : segR c15 60 196 a15 p15 v15 q15 = true := by decide +kernel
theorem x15 : CtxOK c15 := ⟨names_of KBase.names, KBase.mixed, (addS_ok (orS_ok k14 badS_ok) KBase.S0_ok)⟩
theorem k15 : SummOK Tryz.prog 196 s15 := seg_summ x15 r15
end IM
end Go.Ab
namespace Go.Ab
open Go.RowKit Go.Proofs
namespace IM
noncomputable def c16 : Ctx := ⟨Tryz.prog, (addS 196 (orS (atNx 3460) s15 badS) KBase.S0), fun _ => false⟩
noncomputable def a16 : List AV := [(.ptr (.i (.o (.o (.i (.o (.i (.o (.o (.o (.i (.o .h))))))))))) 0), (.int .i64 (.ofNat 1)), (.str [97]), (.int .i64 (.ofNat 2)), (.sl (.o (.i (.o (.i (.o (.i (.o (.o (.i (.o (.i .h))))))))))) 0 1 1 1 false)]
noncomputable def p16 : Stt := ⟨3370, [o2, (1, .map [] 12), o1, o3, o4, (278, .map [] 0), (279, .map [] 0), o5, o6, o7, o8, o9, o10, o11, o12, o13, o14, o15, o16, o17, o18, o19, o20, o21, o22, o23, o24, o25, o40, (1262, .map [] 0), o27, (1264, .map [] 0), (1265, .map [] 0), o28, o29, o30, (1269, .map [] 0), (1270, .map [] 0), o31, o32, o33, o34, o35, o36, o37, o38, o39, o43, (1334, .map [] 12), o42, o44, o45, o95, o96, o97, o47, o98, o49, o87, o51, o52, o53, o54, o55, o99, o57, o58, o59, o60, o61, o62, o63, o64, o65, o66, o100, (2595, .map [] 0), o68, o101, o102, o69, o70, o71, (2602, .map [] 0), (2603, .map [] 0), o72, o73, o75, o76, o77, o78, o79, o80, o81, o82, o89, o90, o91, o92, o93, o94, o103, o104, o105, o106, o107, o108, o109, o110, o111, o112, o113]⟩
noncomputable def v16 : AV := (.tup [(.int .i64 (.ofNat 6)), (.int .i64 (.ofNat 0))])
noncomputable def q16 : Stt := ⟨4172, [o2, (1, .map [] 12), o1, o3, o4, (278, .map [] 0), (279, .map [] 0), o5, o6, o7, o8, o9, o10, o11, o12, o13, o14, o15, o16, o17, o18, o19, o20, o21, o22, o23, o24, o25, o40, (1262, .map [] 0), o27, (1264, .map [] 0), (1265, .map [] 0), o28, o29, o30, (1269, .map [] 0), (1270, .map [] 0), o31, o32, o33, o34, o35, o36, o37, o38, o39, o43, (1334, .map [] 12), o42, o131, o132, o154, o134, o155, o47, o98, o49, o125, o51, o52, o53, o54, o55, o136, o57, o58, o59, o60, o61, o62, o63, o64, o65, o66, (2595, .map [] 0), o68, o137, o156, o69, o70, o71, (2602, .map [] 0), (2603, .map [] 0), o72, o73, o75, o76, o77, o78, o79, o80, o81, o82, o89, o126, o91, o92, o93, o103, o104, o105, o139, o107, o108, o109, o110, o112, o113, o127, o128, o129, o130, o157, o158, o142, o159, o145, o146, o148, o149, o150, o151, o152, o160, o161, o162, o163, o164, o165]⟩
noncomputable def s16 : Summ := segS a16 p16 v16 q16
set_option maxRecDepth 1000000
theorem r16 : segR c16 60 147 a16 p16 v16 q16 = true := by decide +kernel
theorem x16 : CtxOK c16 := ⟨names_of KBase.names, KBase.mixed, (addS_ok (orS_ok k15 badS_ok) KBase.S0_ok)⟩
theorem k16 : SummOK Tryz.prog 147 s16 := seg_summ x16 r16
end IM
end Go.Ab
