import Derived.Test.YtlcnngohlalhbaaGreatDoorBase
import Derived.Test.YtlcnngohlalhbaaGreatDoorData
namespace Go.Ab
open Go.RowKit Go.Proofs
namespace SH
noncomputable def c17 : Ctx := ⟨Tryz.prog, KBase.S0, fun _ => false⟩
noncomputable def a17 : List AV := [(.ptr (.i (.i (.i (.o (.i (.i (.i (.i (.o (.o .h)))))))))) 0), (.int .i64 (.ofNat 54))]
noncomputable def p17 : Stt := ⟨3968, [o2, (7, .map [] 12), o1, o142, o143, o144, o145, o146, o6, o58, o135, o10, o11, o12, o13, o147, o16, o17, o18, o19, o20, o21, o22, o23, o24, o25, (1269, .map [] 0), o27, o148, o149, o28, o29, o30, (1276, .map [] 0), (1277, .map [] 0), o126, o32, o34, o35, o36, o37, o38, o39, o40, o41, o49, o136, o52, o53, o65, o150, o68, o69, o70, o88, o89, o117, o102, o119, o105, o106, o109, o110, o111, o120, o121, o122, o123, o124, o125, o128, o138, o139, o140, o141, o151, o165, o153, o154, o155, o156, o157, o158, o159, o160, o161, o162, o163, o164, o166, o167, o168, o169, o170]⟩
noncomputable def v17 : AV := (.tup [(.int .i64 (.ofNat 55)), (.int .i64 (.ofNat 10)), (.int .i64 (.ofNat 0))])
noncomputable def q17 : Stt := ⟨4239, [o2, (7, .map [] 12), o1, o142, o143, o171, o172, o173, o6, o58, o135, o10, o11, o12, o174, o147, o16, o17, o18, o19, o20, o21, o22, o23, o24, o25, (1269, .map [] 0), o27, o148, o149, o28, o29, o30, (1276, .map [] 0), (1277, .map [] 0), o126, o32, o34, o35, o36, o37, o38, o39, o40, o41, o49, o136, o52, o53, o65, o150, o68, o69, o70, o88, o89, o117, o102, o119, o105, o106, o109, o110, o111, o120, o121, o122, o123, o124, o125, o128, o138, o139, o140, o141, o151, o175, o153, o154, o155, o156, o157, o158, o159, o160, o161, o162, o163, o164, o166, o167, o168, o169, o170, o176, o177, o178, o179, o180, o181]⟩
noncomputable def s17 : Summ := segS a17 p17 v17 q17
set_option maxRecDepth 1000000
theorem r17 : segR c17 60 164 a17 p17 v17 q17 = true := by decide +kernel
theorem x17 : CtxOK c17 := ⟨names_of KBase.names, KBase.mixed, KBase.S0_ok⟩
theorem k17 : SummOK Tryz.prog 164 s17 := seg_summ x17 r17
end SH
end Go.Ab
