import Derived.Test.YtkgbcmkpgjaggaaGreatDoorBase
import Derived.Test.YtkgbcmkpgjaggaaGreatDoorData
namespace Go.Ab
open Go.RowKit Go.Proofs
namespace FN
noncomputable def c25 : Ctx := ⟨Tryz.prog, KBase.S0, fun _ => false⟩
noncomputable def a25 : List AV := [(.ptr (.i (.i (.i (.o (.o (.i (.i (.i (.i (.i .h)))))))))) 0), (.str [47, 103]), (.bool true)]
noncomputable def p25 : Stt := ⟨8018, [o2, (1, .map [] 18), o1, o232, o233, o274, o235, o275, o6, o148, o225, o10, o11, o12, o13, o237, o16, o17, o18, o19, o20, o21, o22, o23, o24, o25, o26, o27, o28, o29, o30, o31, o32, o33, o34, o35, o36, o37, (2012, .map [] 0), o39, o238, o276, o40, o41, o42, (2019, .map [] 0), o134, o215, o44, o46, o47, o48, o49, o57, o226, o60, o61, o73, o240, o76, o77, o78, o96, o97, o265, o110, o266, o113, o114, o117, o118, o119, o129, o130, o131, o143, o144, o157, o158, o159, o177, o178, o277, o191, o278, o194, o195, o198, o199, o200, o210, o211, o212, o218, o228, o229, o230, o231, o241, o279, o243, o244, o245, o246, o247, o248, o249, o250, o251, o252, o253, o254, o268, o269, o270, o271, o272, o273, o280, o281, o282, o283, o284, o285]⟩
noncomputable def v25 : AV := (.tup [(.agg [(.int .i64 (.ofNat 3)), (.int .i64 (.ofNat 1)), (.int .i64 (.ofNat 2)), (.int .i64 (.ofNat 1))]), (.int .i64 (.ofNat 0))])
noncomputable def q25 : Stt := ⟨8239, [o2, (1, .map [] 18), o1, o232, o233, o274, o235, o275, o6, o148, o225, o10, o11, o12, o13, o237, o16, o17, o18, o19, o20, o21, o22, o23, o24, o25, o26, o27, o28, o29, o30, o31, o32, o33, o34, o35, o36, o37, (2012, .map [] 0), o39, o238, o276, o40, o41, o42, (2019, .map [] 0), o134, o215, o44, o46, o47, o48, o49, o57, o226, o60, o61, o73, o240, o76, o77, o78, o96, o97, o265, o110, o266, o113, o114, o117, o118, o119, o129, o130, o131, o143, o144, o157, o158, o159, o177, o178, o277, o191, o278, o194, o195, o198, o199, o200, o210, o211, o212, o218, o228, o229, o230, o231, o241, o286, o243, o244, o245, o246, o247, o248, o249, o250, o251, o252, o253, o254, o268, o269, o270, o271, o272, o273, o280, o281, o282, o283, o284, o285]⟩
noncomputable def s25 : Summ := segS a25 p25 v25 q25
set_option maxRecDepth 1000000
theorem r25 : segR c25 60 17 a25 p25 v25 q25 = true := by decide +kernel
theorem x25 : CtxOK c25 := ⟨names_of KBase.names, KBase.mixed, KBase.S0_ok⟩
theorem k25 : SummOK Tryz.prog 17 s25 := seg_summ x25 r25
end FN
end Go.Ab
namespace Go.Ab
open Go.RowKit Go.Proofs
namespace FN
noncomputable def c26 : Ctx := ⟨Tryz.prog, KBase.S0, fun _ => false⟩
noncomputable def a26 : List AV := [(.ptr (.i (.i (.i (.o (.o (.i (.i (.i (.i (.i .h)))))))))) 0), (.int .i64 (.ofNat 0)), (.int .i64 (.ofNat 0)), (.int .i64 (.ofNat 9))]
noncomputable def p26 : Stt := ⟨8240, [o2, (1, .map [] 18), o1, o232, o233, o274, o235, o275, o6, o148, o225, o10, o11, o12, o13, o237, o16, o17, o18, o19, o20, o21, o22, o23, o24, o25, o26, o27, o28, o29, o30, o31, o32, o33, o34, o35, o36, o37, (2012, .map [] 0), o39, o238, o276, o40, o41, o42, (2019, .map [] 0), o134, o215, o44, o46, o47, o48, o49, o57, o226, o60, o61, o73, o240, o76, o77, o78, o96, o97, o265, o110, o266, o113, o114, o117, o118, o119, o129, o130, o131, o143, o144, o157, o158, o159, o177, o178, o277, o191, o278, o194, o195, o198, o199, o200, o210, o211, o212, o218, o228, o229, o230, o231, o241, o286, o243, o244, o245, o246, o247, o248, o249, o250, o251, o252, o253, o254, o268, o269, o270, o271, o272, o273, o280, o281, o282, o283, o284, o285, o287]⟩
noncomputable def v26 : AV := (.tup [(.sl (.i (.o (.o (.o (.i (.o (.i (.o (.o (.o (.o (.o (.o .h))))))))))))) 0 2 2 1 true), (.int .i64 (.ofNat 0))])
noncomputable def q26 : Stt := ⟨8291, [o2, (1, .map [] 18), o1, o232, o233, o274, o235, o275, o6, o148, o225, o10, o11, o12, o13, o237, o16, o17, o18, o19, o20, o21, o22, o23, o24, o25, o26, o27, o28, o29, o30, o31, o32, o33, o34, o35, o36, o37, (2012, .map [] 0), o39, o238, o276, o40, o41, o42, (2019, .map [] 0), o134, o215, o44, o46, o47, o48, o49, o57, o226, o60, o61, o73, o240, o76, o77, o78, o96, o97, o265, o110, o266, o113, o114, o117, o118, o119, o129, o130, o131, o143, o144, o157, o158, o159, o177, o178, o277, o191, o278, o194, o195, o198, o199, o200, o210, o211, o212, o218, o228, o229, o230, o231, o241, o288, o243, o244, o245, o246, o247, o248, o249, o250, o251, o252, o253, o254, o268, o269, o270, o271, o272, o273, o280, o281, o282, o283, o284, o285, o287, o289]⟩
noncomputable def s26 : Summ := segS a26 p26 v26 q26
set_option maxRecDepth 1000000
theorem r26 : segR c26 60 20 a26 p26 v26 q26 = true := by decide +kernel
theorem x26 : CtxOK c26 := ⟨names_of KBase.names, KBase.mixed, KBase.S0_ok⟩
theorem k26 : SummOK Tryz.prog 20 s26 := seg_summ x26 r26
end FN
end Go.Ab
