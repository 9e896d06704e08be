import Derived.Test.YtlcnngohlalhbaaGreatDoorBase
import Derived.Test.YtlcnngohlalhbaaGreatDoorData
namespace Go.Ab
open Go.RowKit Go.Proofs
namespace SH
noncomputable def c39 : Ctx := ⟨Tryz.prog, KBase.S0, fun _ => false⟩
noncomputable def a39 : List AV := [(.ptr (.i (.i (.i (.o (.i (.i (.i (.i (.o (.o .h)))))))))) 0), (.int .i64 (.ofNat 0))]
noncomputable def p39 : Stt := ⟨105843, [o417, (7, .map [] 21), o1, o182, o183, (285, .map [] 13), (286, .map [] 7), o404, o6, o58, o418, o10, o11, o230, o396, o16, o17, o18, o19, o20, o21, o22, o23, o24, o25, o424, o27, o189, o426, o28, o29, o30, (1276, .map [] 0), (1277, .map [] 0), o126, o32, o34, o35, o36, o425, o38, o39, o40, o41, o369, o120, o125, o128, o236, o155, o178, o372, o427, o196, o201, o428, o409, o429, o430, o431, o432, o433, o434, o435, o436]⟩
noncomputable def v39 : AV := (.tup [(.int .i64 (.ofNat 6)), (.int .i64 (.ofNat 14)), (.int .i64 (.ofNat 0))])
noncomputable def q39 : Stt := ⟨106104, [o417, (7, .map [] 21), o1, o182, o183, o437, o438, o439, o6, o58, o440, o10, o11, o230, o396, o16, o17, o18, o19, o20, o21, o22, o23, o24, o25, o424, o27, o189, o426, o28, o29, o30, (1276, .map [] 0), (1277, .map [] 0), o126, o32, o34, o35, o36, o425, o38, o39, o40, o41, o369, o120, o125, o128, o236, o155, o178, o372, o441, o196, o201, o428, o409, o429, o430, o431, o432, o433, o434, o435, o436, o442, o443, o444, o445, o446, o447]⟩
noncomputable def s39 : Summ := segS a39 p39 v39 q39
set_option maxRecDepth 1000000
theorem r39 : segR c39 60 164 a39 p39 v39 q39 = true := by decide +kernel
theorem x39 : CtxOK c39 := ⟨names_of KBase.names, KBase.mixed, KBase.S0_ok⟩
theorem k39 : SummOK Tryz.prog 164 s39 := seg_summ x39 r39
end SH
end Go.Ab
