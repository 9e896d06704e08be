import Derived.Test.YtkgbcmkpgjaggaaGreatDoorRunL
import Derived.Test.YtkgbcmkpgjaggaaGreatDoorData
namespace Go.Ab
open Go.RowKit Go.Proofs
namespace DN
noncomputable def c28 : Ctx := ⟨Tryz.prog, (addS 32 (orS (atNx 10854) s27 badS) (addS 16 (orS (atNx 10456) s24 badS) KBase.S0)), fun _ => false⟩
noncomputable def a28 : List AV := [(.ptr (.o (.i (.i (.o (.i (.i (.i (.o (.i (.o (.o .h))))))))))) 0), (.ptr (.o (.o (.o (.i (.i (.i (.i (.o (.i (.o (.o .h))))))))))) 0), (.agg [(.int .i64 (.ofNat 8)), (.str [47, 97, 47, 102]), (.str []), (.int .i64 (.ofNat 0)), (.int .i64 (.ofNat 2)), (.sl .h 0 2 2 1 true)])]
noncomputable def p28 : Stt := ⟨9967, [o0, o1, o4, (3, .map [] 21), o3, o195, o196, o254, o198, o255, o8, o163, o189, o12, o13, o14, o15, o16, o17, o18, o19, o20, o21, o242, o24, o25, o26, o27, o28, o29, o30, o31, o32, o33, o34, o35, o36, o37, o38, o39, o40, o41, o42, o43, o44, o45, (2411, .map [] 0), o47, o243, o256, o48, o49, o50, (2418, .map [] 0), o143, o51, o52, o266, o56, o65, o190, o68, o69, o81, o245, o84, o85, o86, o104, o105, o133, o118, o135, o121, o122, o125, o126, o127, o136, o137, o138, o139, o140, o141, o145, o146, o158, o159, o172, o173, o174, o191, o192, o193, o194, o257, o258, o206, o259, o209, o210, o213, o214, o215, o225, o226, o227, o232, o248, o249, o250, o251, o252, o260, o261, o262, o263, o264, o265, o267, o268]⟩
noncomputable def v28 : AV := (.bool true)
noncomputable def q28 : Stt := ⟨11767, [o0, o1, o4, (3, .map [] 21), o3, o289, o290, o291, o292, o293, o8, o163, o282, o12, o13, o14, o15, o16, o17, o18, o19, o20, o21, o294, o24, o25, o26, o27, o28, o29, o30, o31, o32, o33, o34, o35, o36, o37, o38, o39, o40, o41, o42, o43, o44, o45, (2411, .map [] 0), o47, o295, o296, o48, o49, o50, (2418, .map [] 0), o143, o51, o52, o312, o56, o65, o283, o68, o69, o81, o297, o84, o85, o86, o104, o105, o133, o118, o135, o121, o122, o125, o126, o127, o136, o137, o138, o139, o140, o141, o145, o146, o158, o159, o172, o173, o174, o191, o192, o193, o257, o206, o259, o209, o210, o213, o214, o215, o225, o226, o227, o232, o248, o249, o250, o260, o261, o262, o263, o264, o265, o267, o268, o285, o286, o287, o288, o298, o299, o300, o301, o302, o303, o304, o305, o306, o307, o308, o309, o310, o311, o313, o314, o315, o316]⟩
noncomputable def s28 : Summ := segS a28 p28 v28 q28
set_option maxRecDepth 1000000
theorem r28 : segR c28 60 164 a28 p28 v28 q28 = true := by decide +kernel
theorem x28 : CtxOK c28 := ⟨names_of KBase.names, KBase.mixed, (addS_ok (orS_ok k27 badS_ok) (addS_ok (orS_ok k24 badS_ok) KBase.S0_ok))⟩
theorem k28 : SummOK Tryz.prog 164 s28 := seg_summ x28 r28
end DN
end Go.Ab
