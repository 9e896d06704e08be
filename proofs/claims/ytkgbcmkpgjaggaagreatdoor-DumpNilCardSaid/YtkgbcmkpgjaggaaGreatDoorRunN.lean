import Derived.Test.YtkgbcmkpgjaggaaGreatDoorBase
import Derived.Test.YtkgbcmkpgjaggaaGreatDoorData
namespace Go.Ab
open Go.RowKit Go.Proofs
namespace DN
noncomputable def c29 : Ctx := ⟨Tryz.prog, KBase.S0, fun _ => false⟩
noncomputable def a29 : List AV := [(.ptr (.o (.i (.i (.o (.i (.i (.i (.o (.i (.o (.o .h))))))))))) 0), (.str [47, 97])]
noncomputable def p29 : Stt := ⟨11767, [o0, o1, o4, (3, .map [] 21), o3, o289, o290, o291, o292, o293, o8, o163, o282, o12, o13, o14, o15, o16, o17, o18, o19, o20, o21, o294, o24, o25, o26, o27, o28, o29, o30, o31, o32, o33, o34, o35, o36, o37, o38, o39, o40, o41, o42, o43, o44, o45, (2411, .map [] 0), o47, o295, o296, o48, o49, o50, (2418, .map [] 0), o143, o51, o52, o312, o65, o283, o68, o69, o81, o297, o84, o85, o86, o104, o105, o133, o118, o135, o121, o122, o125, o126, o127, o136, o137, o138, o139, o140, o141, o145, o146, o158, o159, o172, o173, o174, o192, o193, o257, o206, o259, o209, o210, o213, o214, o215, o225, o226, o227, o249, o250, o260, o261, o262, o263, o264, o265, o267, o285, o286, o287, o288, o298, o299, o300, o301, o302, o303, o304, o305, o306, o307, o308, o309, o310, o311, o313, o314, o315, o316]⟩
noncomputable def v29 : AV := (.tup [(.sl (.o (.i (.i (.o (.i (.o (.o (.o (.o (.o (.o (.o (.i .h))))))))))))) 0 3 3 5 false), (.int .i64 (.ofNat 0))])
noncomputable def q29 : Stt := ⟨12310, [o0, o1, o4, (3, .map [] 21), o3, o289, o290, o291, o292, o293, o8, o163, o282, o12, o13, o14, o15, o16, o17, o18, o19, o20, o21, o294, o24, o25, o26, o27, o28, o29, o30, o31, o32, o33, o34, o35, o36, o37, o38, o39, o40, o41, o42, o43, o44, o45, (2411, .map [] 0), o47, o295, o296, o48, o49, o50, (2418, .map [] 0), o143, o51, o52, o312, o65, o283, o68, o69, o81, o297, o84, o85, o86, o104, o105, o133, o118, o135, o121, o122, o125, o126, o127, o136, o137, o138, o139, o140, o141, o145, o146, o158, o159, o172, o173, o174, o192, o193, o257, o206, o259, o209, o210, o213, o214, o215, o225, o226, o227, o249, o250, o260, o261, o262, o263, o264, o265, o267, o285, o286, o287, o288, o298, o317, o300, o301, o302, o303, o304, o305, o306, o307, o308, o309, o310, o311, o313, o314, o315, o316, o318, o319]⟩
noncomputable def s29 : Summ := segS a29 p29 v29 q29
set_option maxRecDepth 1000000
theorem r29 : segR c29 60 35 a29 p29 v29 q29 = true := by decide +kernel
theorem x29 : CtxOK c29 := ⟨names_of KBase.names, KBase.mixed, KBase.S0_ok⟩
theorem k29 : SummOK Tryz.prog 35 s29 := seg_summ x29 r29
end DN
end Go.Ab
namespace Go.Ab
open Go.RowKit Go.Proofs
namespace DN
noncomputable def c30 : Ctx := ⟨Tryz.prog, KBase.S0, fun _ => false⟩
noncomputable def a30 : List AV := [(.sl (.o (.i (.i (.o (.i (.o (.o (.o (.o (.o (.o (.o (.i .h))))))))))))) 0 3 3 5 false)]
noncomputable def p30 : Stt := ⟨12312, [o0, o1, o4, (3, .map [] 21), o3, o289, o290, o291, o292, o293, o8, o163, o282, o12, o13, o14, o15, o16, o17, o18, o19, o20, o21, o294, o24, o25, o26, o27, o28, o29, o30, o31, o32, o33, o34, o35, o36, o37, o38, o39, o40, o41, o42, o43, o44, o45, (2411, .map [] 0), o47, o295, o296, o48, o49, o50, (2418, .map [] 0), o143, o51, o52, o312, o65, o283, o68, o69, o81, o297, o84, o85, o86, o104, o105, o133, o118, o135, o121, o122, o125, o126, o127, o136, o137, o138, o139, o140, o141, o145, o146, o158, o159, o172, o173, o174, o192, o193, o257, o206, o259, o209, o210, o213, o214, o215, o225, o226, o227, o249, o250, o260, o261, o262, o263, o264, o265, o267, o285, o286, o287, o288, o298, o317, o300, o301, o302, o303, o304, o305, o306, o307, o308, o309, o310, o311, o313, o314, o315, o316, o318, o319, o320]⟩
noncomputable def v30 : AV := (.bool true)
noncomputable def q30 : Stt := ⟨12325, [o0, o1, o4, (3, .map [] 21), o3, o289, o290, o291, o292, o293, o8, o163, o282, o12, o13, o14, o15, o16, o17, o18, o19, o20, o21, o294, o24, o25, o26, o27, o28, o29, o30, o31, o32, o33, o34, o35, o36, o37, o38, o39, o40, o41, o42, o43, o44, o45, (2411, .map [] 0), o47, o295, o296, o48, o49, o50, (2418, .map [] 0), o143, o51, o52, o312, o65, o283, o68, o69, o81, o297, o84, o85, o86, o104, o105, o133, o118, o135, o121, o122, o125, o126, o127, o136, o137, o138, o139, o140, o141, o145, o146, o158, o159, o172, o173, o174, o192, o193, o257, o206, o259, o209, o210, o213, o214, o215, o225, o226, o227, o249, o250, o260, o261, o262, o263, o264, o265, o267, o285, o286, o287, o288, o298, o317, o300, o301, o302, o303, o304, o305, o306, o307, o308, o309, o310, o311, o313, o314, o315, o316, o318, o319, o320]⟩
noncomputable def s30 : Summ := segS a30 p30 v30 q30
set_option maxRecDepth 1000000
theorem r30 : segR c30 60 38 a30 p30 v30 q30 = true := by decide +kernel
theorem x30 : CtxOK c30 := ⟨names_of KBase.names, KBase.mixed, KBase.S0_ok⟩
theorem k30 : SummOK Tryz.prog 38 s30 := seg_summ x30 r30
end DN
end Go.Ab
