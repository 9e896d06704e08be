import Derived.Test.YtkgbcmkpgjaggaaGreatDoorRunC
import Derived.Test.YtkgbcmkpgjaggaaGreatDoorRunD
import Derived.Test.YtkgbcmkpgjaggaaGreatDoorData
namespace Go.Ab
open Go.RowKit Go.Proofs
namespace DN
noncomputable def c10 : Ctx := ⟨Tryz.prog, (addS 226 (orS (atNx 3574) s5 badS) (addS 141 (orS (atNx 3911) s9 badS) (addS 139 (orS (atNx 3086) s4 badS) (addS 79 (orS (atNx 3877) s6 badS) KBase.S0)))), fun _ => false⟩
noncomputable def a10 : List AV := [(.ptr (.o (.i (.i (.o (.i (.i (.i (.o (.i (.o (.o .h))))))))))) 0), (.str [47, 97])]
noncomputable def p10 : Stt := ⟨2929, [o0, o1, o4, (3, .map [] 21), o3, o5, o6, (509, .map [] 0), (510, .map [] 0), o7, o8, o9, o10, o11, o12, o13, o14, o15, o16, o17, o18, o19, o20, o21, o22, o23, o24, o25, o26, o27, o28, o29, o30, o31, o32, o33, o34, o35, o36, o37, o38, o39, o40, o41, o42, o43, o44, o45, o142, (2411, .map [] 0), o47, (2413, .map [] 0), (2414, .map [] 0), o48, o49, o50, (2418, .map [] 0), (2419, .map [] 0), o51, o52, o54, o55, o56, o57]⟩
noncomputable def v10 : AV := (.int .i64 (.ofNat 0))
noncomputable def q10 : Stt := ⟨4953, [o0, o1, o4, (3, .map [] 21), o3, o107, o108, o130, o110, o131, o8, o74, o10, o101, o12, o13, o14, o15, o16, o17, o18, o19, o20, o21, o22, o112, o24, o25, o26, o27, o28, o29, o30, o31, o32, o33, o34, o35, o36, o37, o38, o39, o40, o41, o42, o43, o44, o45, (2411, .map [] 0), o47, o113, o132, o48, o49, o50, (2418, .map [] 0), o143, o51, o52, o54, o55, o56, o57, o65, o102, o68, o69, o81, o115, o84, o85, o86, o88, o103, o104, o105, o106, o133, o134, o118, o135, o121, o122, o124, o125, o126, o127, o128, o136, o137, o138, o139, o140, o141]⟩
noncomputable def s10 : Summ := segS a10 p10 v10 q10
set_option maxRecDepth 1000000
theorem r10 : segR c10 60 25 a10 p10 v10 q10 = true := by decide +kernel
theorem x10 : CtxOK c10 := ⟨names_of KBase.names, KBase.mixed, (addS_ok (orS_ok k5 badS_ok) (addS_ok (orS_ok k9 badS_ok) (addS_ok (orS_ok k4 badS_ok) (addS_ok (orS_ok k6 badS_ok) KBase.S0_ok))))⟩
theorem k10 : SummOK Tryz.prog 25 s10 := seg_summ x10 r10
end DN
end Go.Ab
