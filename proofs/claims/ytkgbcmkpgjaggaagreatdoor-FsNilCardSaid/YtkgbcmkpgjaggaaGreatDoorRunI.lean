import Derived.Test.YtkgbcmkpgjaggaaGreatDoorRunG
import Derived.Test.YtkgbcmkpgjaggaaGreatDoorRunH
import Derived.Test.YtkgbcmkpgjaggaaGreatDoorData
namespace Go.Ab
open Go.RowKit Go.Proofs
namespace FN
noncomputable def c24 : Ctx := ⟨Tryz.prog, (addS 141 (orS (atNx 7489) s23 badS) (addS 139 (orS (atNx 7209) s22 badS) KBase.S0)), fun _ => false⟩
noncomputable def a24 : List AV := [(.ptr (.i (.i (.i (.o (.o (.i (.i (.i (.i (.i .h)))))))))) 0), (.str [47, 97, 47, 102]), (.str [47, 103])]
noncomputable def p24 : Stt := ⟨6325, [o2, (1, .map [] 18), o1, o232, o233, o234, o235, o236, o6, o148, o225, o10, o11, o12, o13, o237, o16, o17, o18, o19, o20, o21, o22, o23, o24, o25, o26, o27, o28, o29, o30, o31, o32, o33, o34, o35, o36, o37, (2012, .map [] 0), o39, o238, o239, o40, o41, o42, (2019, .map [] 0), o134, o215, o44, o46, o47, o48, o49, o57, o226, o60, o61, o73, o240, o76, o77, o78, o96, o97, o125, o110, o127, o113, o114, o117, o118, o119, o128, o129, o130, o131, o132, o133, o143, o144, o157, o158, o159, o177, o178, o206, o191, o208, o194, o195, o198, o199, o200, o209, o210, o211, o212, o213, o214, o218, o228, o229, o230, o231, o241, o242, o243, o244, o245, o246, o247, o248, o249, o250, o251, o252, o253, o254]⟩
noncomputable def v24 : AV := (.int .i64 (.ofNat 0))
noncomputable def q24 : Stt := ⟨8018, [o2, (1, .map [] 18), o1, o232, o233, o274, o235, o275, o6, o148, o225, o10, o11, o12, o13, o237, o16, o17, o18, o19, o20, o21, o22, o23, o24, o25, o26, o27, o28, o29, o30, o31, o32, o33, o34, o35, o36, o37, (2012, .map [] 0), o39, o238, o276, o40, o41, o42, (2019, .map [] 0), o134, o215, o44, o46, o47, o48, o49, o57, o226, o60, o61, o73, o240, o76, o77, o78, o96, o97, o265, o110, o266, o113, o114, o117, o118, o119, o128, o129, o130, o131, o143, o144, o157, o158, o159, o177, o178, o277, o191, o278, o194, o195, o198, o199, o200, o209, o210, o211, o212, o218, o228, o229, o230, o231, o241, o279, o243, o244, o245, o246, o247, o248, o249, o250, o251, o252, o253, o254, o268, o269, o270, o271, o272, o273, o280, o281, o282, o283, o284, o285]⟩
noncomputable def s24 : Summ := segS a24 p24 v24 q24
set_option maxRecDepth 1000000
theorem r24 : segR c24 60 30 a24 p24 v24 q24 = true := by decide +kernel
theorem x24 : CtxOK c24 := ⟨names_of KBase.names, KBase.mixed, (addS_ok (orS_ok k23 badS_ok) (addS_ok (orS_ok k22 badS_ok) KBase.S0_ok))⟩
theorem k24 : SummOK Tryz.prog 30 s24 := seg_summ x24 r24
end FN
end Go.Ab
