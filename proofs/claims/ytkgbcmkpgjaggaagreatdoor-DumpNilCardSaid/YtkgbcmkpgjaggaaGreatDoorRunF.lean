import Derived.Test.YtkgbcmkpgjaggaaGreatDoorRunE
import Derived.Test.YtkgbcmkpgjaggaaGreatDoorData
namespace Go.Ab
open Go.RowKit Go.Proofs
namespace DN
noncomputable def c11 : Ctx := ⟨Tryz.prog, (addS 25 (orS (atNx 2929) s10 badS) KBase.S0), fun _ => false⟩
noncomputable def a11 : List AV := [(.ptr (.o (.i (.i (.o (.i (.i (.i (.o (.i (.o (.o .h))))))))))) 0), (.ptr (.o (.o (.o (.i (.i (.i (.i (.o (.i (.o (.o .h))))))))))) 0), (.agg [(.int .i64 (.ofNat 2)), (.str [47, 97]), (.str []), (.int .i64 (.ofNat 0)), (.int .i64 (.ofNat 0)), .nils])]
noncomputable def p11 : Stt := ⟨2440, [o0, o1, o4, (3, .map [] 21), o3, o5, o6, (509, .map [] 0), (510, .map [] 0), o7, o8, o9, o10, o11, o12, o13, o14, o15, o16, o17, o18, o19, o20, o21, o22, o23, o24, o25, o26, o27, o28, o29, o30, o31, o32, o33, o34, o35, o36, o37, o38, o39, o40, o41, o42, o43, o44, o45, o46, (2411, .map [] 0), o47, (2413, .map [] 0), (2414, .map [] 0), o48, o49, o50, (2418, .map [] 0), (2419, .map [] 0), o51, o52, o54, o55, o56]⟩
noncomputable def v11 : AV := (.bool true)
noncomputable def q11 : Stt := ⟨4966, [o0, o1, o4, (3, .map [] 21), o3, o107, o108, o130, o110, o131, o8, o74, o10, o101, o12, o13, o14, o15, o16, o17, o18, o19, o20, o21, o22, o112, o24, o25, o26, o27, o28, o29, o30, o31, o32, o33, o34, o35, o36, o37, o38, o39, o40, o41, o42, o43, o44, o45, (2411, .map [] 0), o47, o113, o132, o48, o49, o50, (2418, .map [] 0), o143, o51, o52, o54, o144, o56, o65, o102, o68, o69, o81, o115, o84, o85, o86, o88, o103, o104, o105, o106, o133, o134, o118, o135, o121, o122, o124, o125, o126, o127, o128, o136, o137, o138, o139, o140, o141, o145, o146, o147]⟩
noncomputable def s11 : Summ := segS a11 p11 v11 q11
set_option maxRecDepth 1000000
theorem r11 : segR c11 60 164 a11 p11 v11 q11 = true := by decide +kernel
theorem x11 : CtxOK c11 := ⟨names_of KBase.names, KBase.mixed, (addS_ok (orS_ok k10 badS_ok) KBase.S0_ok)⟩
theorem k11 : SummOK Tryz.prog 164 s11 := seg_summ x11 r11
end DN
end Go.Ab
