import Derived.Test.YtkgbcmkpgjaggaaGreatDoorBase
import Derived.Test.YtkgbcmkpgjaggaaGreatDoorData
namespace Go.Ab
open Go.RowKit Go.Proofs
namespace DN
noncomputable def c7 : Ctx := ⟨Tryz.prog, KBase.S0, fun _ => false⟩
noncomputable def a7 : List AV := [(.ptr (.i (.o (.i (.i (.o (.i (.i (.o (.i (.o (.o .h))))))))))) 0), (.int .i64 (.ofNat 0))]
noncomputable def p7 : Stt := ⟨4526, [o0, o1, o4, (3, .map [] 21), o3, o5, o6, o71, o72, o73, o8, o74, o10, o63, o12, o13, o14, o15, o16, o17, o18, o19, o20, o21, o22, o75, o24, o25, o26, o27, o28, o29, o30, o31, o32, o33, o34, o35, o36, o37, o38, o39, o40, o41, o42, o43, o44, o45, o59, (2411, .map [] 0), o47, o77, o78, o48, o49, o50, (2418, .map [] 0), (2419, .map [] 0), o51, o52, o54, o55, o56, o57, o58, o65, o66, o67, o68, o69, o70, o79, o80, o81, o82, o83, o84, o85, o86, o87, o88, o89, o90, o91, o92, o93, o94, o95, o96, o97, o98]⟩
noncomputable def v7 : AV := (.tup [(.int .i64 (.ofNat 5)), (.int .i64 (.ofNat 3)), (.int .i64 (.ofNat 0))])
noncomputable def q7 : Stt := ⟨4786, [o0, o1, o4, (3, .map [] 21), o3, o5, o6, o99, o72, o100, o8, o74, o10, o101, o12, o13, o14, o15, o16, o17, o18, o19, o20, o21, o22, o75, o24, o25, o26, o27, o28, o29, o30, o31, o32, o33, o34, o35, o36, o37, o38, o39, o40, o41, o42, o43, o44, o45, o64, (2411, .map [] 0), o47, o77, o78, o48, o49, o50, (2418, .map [] 0), (2419, .map [] 0), o51, o52, o54, o55, o56, o57, o58, o65, o102, o67, o68, o69, o79, o80, o81, o82, o83, o84, o85, o86, o87, o88, o89, o90, o91, o92, o93, o94, o95, o96, o97, o98, o103, o104, o105, o106]⟩
noncomputable def s7 : Summ := segS a7 p7 v7 q7
set_option maxRecDepth 1000000
theorem r7 : segR c7 60 330 a7 p7 v7 q7 = true := by decide +kernel
theorem x7 : CtxOK c7 := ⟨names_of KBase.names, KBase.mixed, KBase.S0_ok⟩
theorem k7 : SummOK Tryz.prog 330 s7 := seg_summ x7 r7
end DN
end Go.Ab
namespace Go.Ab
open Go.RowKit Go.Proofs
namespace DN
noncomputable def c8 : Ctx := ⟨Tryz.prog, (addS 330 (orS (atNx 4526) s7 badS) KBase.S0), fun _ => false⟩
noncomputable def a8 : List AV := [(.ptr (.o (.o (.o (.o (.i (.i (.i (.o (.i (.o (.o .h))))))))))) 0), (.int .i64 (.ofNat 1)), (.int .i64 (.ofNat 0)), (.sl (.i (.o (.o (.o (.o (.i (.o (.i (.i (.i (.i .h))))))))))) 0 256 256 1 true)]
noncomputable def p8 : Stt := ⟨4001, [o0, o1, o4, (3, .map [] 21), o3, o5, o6, o71, o72, o73, o8, o74, o10, o63, o12, o13, o14, o15, o16, o17, o18, o19, o20, o21, o22, o75, o24, o25, o26, o27, o28, o29, o30, o31, o32, o33, o34, o35, o36, o37, o38, o39, o40, o41, o42, o43, o44, o45, o76, (2411, .map [] 0), o47, o77, o78, o48, o49, o50, (2418, .map [] 0), (2419, .map [] 0), o51, o52, o54, o55, o56, o57, o58, o65, o66, o67, o68, o69, o70, o79, o80, o81, o82, o83, o84, o85, o86, o87, o88, o89, o90, o91, o92, o93, o94]⟩
noncomputable def v8 : AV := (.int .i64 (.ofNat 0))
noncomputable def q8 : Stt := ⟨4872, [o0, o1, o4, (3, .map [] 21), o3, o107, o108, o109, o110, o111, o8, o74, o10, o101, o12, o13, o14, o15, o16, o17, o18, o19, o20, o21, o22, o112, o24, o25, o26, o27, o28, o29, o30, o31, o32, o33, o34, o35, o36, o37, o38, o39, o40, o41, o42, o43, o44, o45, (2411, .map [] 0), o47, o113, o114, o48, o49, o50, (2418, .map [] 0), (2419, .map [] 0), o51, o52, o54, o55, o56, o57, o58, o65, o102, o67, o68, o69, o79, o80, o81, o115, o83, o84, o85, o86, o88, o89, o90, o91, o92, o93, o94, o103, o104, o105, o106, o116, o117, o118, o119, o120, o121, o122, o123, o124, o125, o126, o127, o128, o129]⟩
noncomputable def s8 : Summ := segS a8 p8 v8 q8
set_option maxRecDepth 1000000
theorem r8 : segR c8 60 79 a8 p8 v8 q8 = true := by decide +kernel
theorem x8 : CtxOK c8 := ⟨names_of KBase.names, KBase.mixed, (addS_ok (orS_ok k7 badS_ok) KBase.S0_ok)⟩
theorem k8 : SummOK Tryz.prog 79 s8 := seg_summ x8 r8
end DN
end Go.Ab
namespace Go.Ab
open Go.RowKit Go.Proofs
namespace DN
noncomputable def c9 : Ctx := ⟨Tryz.prog, (addS 79 (orS (atNx 4001) s8 badS) KBase.S0), fun _ => false⟩
noncomputable def a9 : List AV := [(.ptr (.i (.o (.o (.o (.i (.i (.i (.o (.i (.o (.o .h))))))))))) 0), (.int .i64 (.ofNat 1)), (.str [97]), (.int .i64 (.ofNat 2)), (.sl (.i (.i (.i (.o (.o (.o (.i (.o (.i (.i (.i .h))))))))))) 0 1 1 1 false)]
noncomputable def p9 : Stt := ⟨3911, [o0, o1, o4, (3, .map [] 21), o3, o5, o6, o71, o72, o73, o8, o74, o10, o63, o12, o13, o14, o15, o16, o17, o18, o19, o20, o21, o22, o75, o24, o25, o26, o27, o28, o29, o30, o31, o32, o33, o34, o35, o36, o37, o38, o39, o40, o41, o42, o43, o44, o45, o76, (2411, .map [] 0), o47, o77, o78, o48, o49, o50, (2418, .map [] 0), (2419, .map [] 0), o51, o52, o54, o55, o56, o57, o58, o65, o66, o67, o68, o69, o70, o79, o80, o81, o82, o83, o84, o85, o86, o87, o88, o89]⟩
noncomputable def v9 : AV := (.tup [(.int .i64 (.ofNat 6)), (.int .i64 (.ofNat 0))])
noncomputable def q9 : Stt := ⟨4953, [o0, o1, o4, (3, .map [] 21), o3, o107, o108, o130, o110, o131, o8, o74, o10, o101, o12, o13, o14, o15, o16, o17, o18, o19, o20, o21, o22, o112, o24, o25, o26, o27, o28, o29, o30, o31, o32, o33, o34, o35, o36, o37, o38, o39, o40, o41, o42, o43, o44, o45, (2411, .map [] 0), o47, o113, o132, o48, o49, o50, (2418, .map [] 0), (2419, .map [] 0), o51, o52, o54, o55, o56, o57, o58, o65, o102, o67, o68, o69, o79, o80, o81, o115, o83, o84, o85, o86, o88, o89, o103, o104, o105, o106, o133, o134, o118, o135, o121, o122, o124, o125, o126, o127, o128, o136, o137, o138, o139, o140, o141]⟩
noncomputable def s9 : Summ := segS a9 p9 v9 q9
set_option maxRecDepth 1000000
theorem r9 : segR c9 60 141 a9 p9 v9 q9 = true := by decide +kernel
theorem x9 : CtxOK c9 := ⟨names_of KBase.names, KBase.mixed, (addS_ok (orS_ok k8 badS_ok) KBase.S0_ok)⟩
theorem k9 : SummOK Tryz.prog 141 s9 := seg_summ x9 r9
end DN
end Go.Ab
