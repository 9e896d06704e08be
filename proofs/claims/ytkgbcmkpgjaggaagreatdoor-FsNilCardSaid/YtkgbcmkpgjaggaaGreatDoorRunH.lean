import Derived.Test.YtkgbcmkpgjaggaaGreatDoorBase
import Derived.Test.YtkgbcmkpgjaggaaGreatDoorData
namespace Go.Ab
open Go.RowKit Go.Proofs
namespace FN
noncomputable def c23 : Ctx := ⟨Tryz.prog, KBase.S0, fun _ => false⟩
noncomputable def a23 : List AV := [(.ptr (.o (.i (.o (.o (.o (.i (.i (.i (.i (.i .h)))))))))) 0), (.int .i64 (.ofNat 1)), (.str [103]), (.int .i64 (.ofNat 3)), (.sl (.i (.i (.o (.o (.o (.i (.o (.o (.i (.o (.i (.i .h)))))))))))) 0 3 3 1 false)]
noncomputable def p23 : Stt := ⟨7489, [o2, (1, .map [] 18), o1, o232, o233, o234, o235, o236, o6, o148, o225, o10, o11, o12, o13, o237, o16, o17, o18, o19, o20, o21, o22, o23, o24, o25, o26, o27, o28, o29, o30, o31, o32, o33, o34, o35, o36, o37, (2012, .map [] 0), o39, o238, o239, o40, o41, o42, (2019, .map [] 0), o134, o215, o44, o46, o47, o48, o49, o57, o226, o60, o61, o73, o240, o76, o77, o78, o96, o97, o125, o110, o127, o113, o114, o117, o118, o119, o128, o129, o130, o131, o132, o133, o143, o144, o157, o158, o159, o177, o178, o206, o191, o208, o194, o195, o198, o199, o200, o209, o210, o211, o212, o213, o214, o218, o228, o229, o230, o231, o241, o259, o243, o244, o245, o246, o247, o248, o249, o250, o251, o252, o253, o254, o256, o257, o260, o261]⟩
noncomputable def v23 : AV := (.tup [(.int .i64 (.ofNat 16)), (.int .i64 (.ofNat 0))])
noncomputable def q23 : Stt := ⟨7818, [o2, (1, .map [] 18), o1, o232, o233, o262, o235, o263, o6, o148, o225, o10, o11, o12, o13, o237, o16, o17, o18, o19, o20, o21, o22, o23, o24, o25, o26, o27, o28, o29, o30, o31, o32, o33, o34, o35, o36, o37, (2012, .map [] 0), o39, o238, o264, o40, o41, o42, (2019, .map [] 0), o134, o215, o44, o46, o47, o48, o49, o57, o226, o60, o61, o73, o240, o76, o77, o78, o96, o97, o265, o110, o266, o113, o114, o117, o118, o119, o128, o129, o130, o131, o143, o144, o157, o158, o159, o177, o178, o206, o191, o208, o194, o195, o198, o199, o200, o209, o210, o211, o212, o213, o214, o218, o228, o229, o230, o231, o241, o267, o243, o244, o245, o246, o247, o248, o249, o250, o251, o252, o253, o254, o256, o257, o260, o261, o268, o269, o270, o271, o272, o273]⟩
noncomputable def s23 : Summ := segS a23 p23 v23 q23
set_option maxRecDepth 1000000
theorem r23 : segR c23 60 141 a23 p23 v23 q23 = true := by decide +kernel
theorem x23 : CtxOK c23 := ⟨names_of KBase.names, KBase.mixed, KBase.S0_ok⟩
theorem k23 : SummOK Tryz.prog 141 s23 := seg_summ x23 r23
end FN
end Go.Ab
