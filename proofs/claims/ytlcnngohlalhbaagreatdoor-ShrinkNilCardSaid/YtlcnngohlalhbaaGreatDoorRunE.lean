import Derived.Test.YtlcnngohlalhbaaGreatDoorBase
import Derived.Test.YtlcnngohlalhbaaGreatDoorData
namespace Go.Ab
open Go.RowKit Go.Proofs
namespace SH
noncomputable def c14 : Ctx := ⟨Tryz.prog, KBase.S0, fun _ => false⟩
noncomputable def a14 : List AV := [(.ptr (.i (.i (.i (.o (.i (.i (.i (.i (.o (.o .h)))))))))) 0), (.int .i64 (.ofNat 0))]
noncomputable def p14 : Stt := ⟨3344, [o2, (7, .map [] 12), o1, o91, o92, o114, o94, o115, o6, o58, o85, o10, o11, o12, o13, o96, o16, o17, o18, o19, o20, o21, o22, o23, o24, o25, (1269, .map [] 0), o27, o97, o116, o28, o29, o30, (1276, .map [] 0), (1277, .map [] 0), o126, o32, o34, o35, o36, o37, o38, o39, o40, o41, o49, o86, o52, o53, o65, o99, o68, o69, o70, o72, o87, o88, o89, o90, o117, o127, o102, o119, o105, o106, o108, o109, o110, o111, o112, o120, o121, o122, o123, o124, o125, o128, o129, o130, o131, o132]⟩
noncomputable def v14 : AV := (.tup [(.int .i64 (.ofNat 6)), (.int .i64 (.ofNat 7)), (.int .i64 (.ofNat 0))])
noncomputable def q14 : Stt := ⟨3604, [o2, (7, .map [] 12), o1, o91, o92, o133, o94, o134, o6, o58, o135, o10, o11, o12, o13, o96, o16, o17, o18, o19, o20, o21, o22, o23, o24, o25, (1269, .map [] 0), o27, o97, o116, o28, o29, o30, (1276, .map [] 0), (1277, .map [] 0), o126, o32, o34, o35, o36, o37, o38, o39, o40, o41, o49, o136, o52, o53, o65, o99, o68, o69, o70, o72, o87, o88, o89, o117, o137, o102, o119, o105, o106, o108, o109, o110, o111, o112, o120, o121, o122, o123, o124, o125, o128, o129, o130, o131, o132, o138, o139, o140, o141]⟩
noncomputable def s14 : Summ := segS a14 p14 v14 q14
set_option maxRecDepth 1000000
theorem r14 : segR c14 60 164 a14 p14 v14 q14 = true := by decide +kernel
theorem x14 : CtxOK c14 := ⟨names_of KBase.names, KBase.mixed, KBase.S0_ok⟩
theorem k14 : SummOK Tryz.prog 164 s14 := seg_summ x14 r14
end SH
end Go.Ab
namespace Go.Ab
open Go.RowKit Go.Proofs
namespace SH
noncomputable def c15 : Ctx := ⟨Tryz.prog, (addS 164 (orS (atNx 3344) s14 badS) KBase.S0), fun _ => false⟩
noncomputable def a15 : List AV := [(.ptr (.o (.i (.o (.i (.i (.i (.i (.i (.o (.o .h)))))))))) 0), (.int .i64 (.ofNat 2)), (.int .i64 (.ofNat 0)), (.sl (.i (.i (.o (.o (.i (.i (.i (.i (.i (.i (.o .h))))))))))) 0 5 5 1 true)]
noncomputable def p15 : Stt := ⟨3059, [o2, (7, .map [] 12), o1, o91, o92, o114, o94, o115, o6, o58, o85, o10, o11, o12, o13, o96, o16, o17, o18, o19, o20, o21, o22, o23, o24, o25, (1269, .map [] 0), o27, o97, o116, o28, o29, o30, (1276, .map [] 0), (1277, .map [] 0), o126, o32, o34, o35, o36, o37, o38, o39, o40, o41, o49, o86, o52, o53, o65, o99, o68, o69, o70, o72, o87, o88, o89, o90, o117, o101, o102, o119, o105, o106, o108, o109, o110, o111, o112, o120, o121, o122, o123, o124, o125, o128]⟩
noncomputable def v15 : AV := (.int .i64 (.ofNat 0))
noncomputable def q15 : Stt := ⟨3690, [o2, (7, .map [] 12), o1, o142, o143, o144, o145, o146, o6, o58, o135, o10, o11, o12, o13, o147, o16, o17, o18, o19, o20, o21, o22, o23, o24, o25, (1269, .map [] 0), o27, o148, o149, o28, o29, o30, (1276, .map [] 0), (1277, .map [] 0), o126, o32, o34, o35, o36, o37, o38, o39, o40, o41, o49, o136, o52, o53, o65, o150, o68, o69, o70, o87, o88, o89, o117, o102, o119, o105, o106, o108, o109, o110, o111, o120, o121, o122, o123, o124, o125, o128, o138, o139, o140, o141, o151, o152, o153, o154, o155, o156, o157, o158, o159, o160, o161, o162, o163, o164]⟩
noncomputable def s15 : Summ := segS a15 p15 v15 q15
set_option maxRecDepth 1000000
theorem r15 : segR c15 60 107 a15 p15 v15 q15 = true := by decide +kernel
theorem x15 : CtxOK c15 := ⟨names_of KBase.names, KBase.mixed, (addS_ok (orS_ok k14 badS_ok) KBase.S0_ok)⟩
theorem k15 : SummOK Tryz.prog 107 s15 := seg_summ x15 r15
end SH
end Go.Ab
namespace Go.Ab
open Go.RowKit Go.Proofs
namespace SH
noncomputable def c16 : Ctx := ⟨Tryz.prog, (addS 107 (orS (atNx 3059) s15 badS) KBase.S0), fun _ => false⟩
noncomputable def a16 : List AV := [(.ptr (.o (.o (.o (.o (.o (.o (.o (.o (.i (.o .h)))))))))) 0), (.int .i64 (.ofNat 0)), (.int .i64 (.ofNat 0)), (.sl (.i (.i (.o (.o (.i (.i (.i (.i (.i (.i (.o .h))))))))))) 0 5 5 1 true)]
noncomputable def p16 : Stt := ⟨3059, [o2, (7, .map [] 12), o1, o91, o92, o114, o94, o115, o6, o58, o85, o10, o11, o12, o13, o96, o16, o17, o18, o19, o20, o21, o22, o23, o24, o25, (1269, .map [] 0), o27, o97, o116, o28, o29, o30, (1276, .map [] 0), (1277, .map [] 0), o126, o32, o34, o35, o36, o37, o38, o39, o40, o41, o49, o86, o52, o53, o65, o99, o68, o69, o70, o72, o87, o88, o89, o90, o117, o101, o102, o119, o105, o106, o108, o109, o110, o111, o112, o120, o121, o122, o123, o124, o125, o128]⟩
noncomputable def v16 : AV := (.int .i64 (.ofNat 0))
noncomputable def q16 : Stt := ⟨3690, [o2, (7, .map [] 12), o1, o142, o143, o144, o145, o146, o6, o58, o135, o10, o11, o12, o13, o147, o16, o17, o18, o19, o20, o21, o22, o23, o24, o25, (1269, .map [] 0), o27, o148, o149, o28, o29, o30, (1276, .map [] 0), (1277, .map [] 0), o126, o32, o34, o35, o36, o37, o38, o39, o40, o41, o49, o136, o52, o53, o65, o150, o68, o69, o70, o87, o88, o89, o117, o102, o119, o105, o106, o108, o109, o110, o111, o120, o121, o122, o123, o124, o125, o128, o138, o139, o140, o141, o151, o152, o153, o154, o155, o156, o157, o158, o159, o160, o161, o162, o163, o164]⟩
noncomputable def s16 : Summ := segS a16 p16 v16 q16
set_option maxRecDepth 1000000
theorem r16 : segR c16 60 49 a16 p16 v16 q16 = true := by decide +kernel
theorem x16 : CtxOK c16 := ⟨names_of KBase.names, KBase.mixed, (addS_ok (orS_ok k15 badS_ok) KBase.S0_ok)⟩
theorem k16 : SummOK Tryz.prog 49 s16 := seg_summ x16 r16
end SH
end Go.Ab
