import Derived.Test.YtkgbcmkpgjaggaaGreatDoorBase
import Derived.Test.YtkgbcmkpgjaggaaGreatDoorData
namespace Go.Ab
open Go.RowKit Go.Proofs
namespace DN
noncomputable def c24 : Ctx := ⟨Tryz.prog, KBase.S0, fun _ => false⟩
noncomputable def a24 : List AV := [(.ptr (.o (.i (.i (.o (.i (.i (.i (.o (.i (.o (.o .h))))))))))) 0), (.str [47, 97, 47, 102])]
noncomputable def p24 : Stt := ⟨10456, [o0, o1, o4, (3, .map [] 21), o3, o195, o196, o254, o198, o255, o8, o163, o189, o12, o13, o14, o15, o16, o17, o18, o19, o20, o21, o242, o24, o25, o26, o27, o28, o29, o30, o31, o32, o33, o34, o35, o36, o37, o38, o39, o40, o41, o42, o43, o44, o45, (2411, .map [] 0), o47, o243, o256, o48, o49, o50, (2418, .map [] 0), o143, o51, o52, o266, o56, o65, o190, o68, o69, o81, o245, o84, o85, o86, o104, o105, o133, o118, o135, o121, o122, o125, o126, o127, o136, o137, o138, o139, o140, o141, o145, o146, o158, o159, o172, o173, o174, o191, o192, o193, o194, o257, o239, o206, o259, o209, o210, o213, o214, o215, o225, o226, o227, o232, o248, o249, o250, o251, o252, o260, o261, o262, o263, o264, o265, o267, o268, o269]⟩
noncomputable def v24 : AV := (.tup [(.int .i64 (.ofNat 0)), (.int .i64 (.ofNat 0))])
noncomputable def q24 : Stt := ⟨10843, [o0, o1, o4, (3, .map [] 21), o3, o195, o196, o254, o198, o255, o8, o163, o189, o12, o13, o14, o15, o16, o17, o18, o19, o20, o21, o242, o24, o25, o26, o27, o28, o29, o30, o31, o32, o33, o34, o35, o36, o37, o38, o39, o40, o41, o42, o43, o44, o45, (2411, .map [] 0), o47, o243, o256, o48, o49, o50, (2418, .map [] 0), o143, o270, o52, o266, o56, o65, o190, o68, o69, o81, o245, o84, o85, o86, o104, o105, o133, o118, o135, o121, o122, o125, o126, o127, o136, o137, o138, o139, o140, o141, o145, o146, o158, o159, o172, o173, o174, o191, o192, o193, o194, o257, o271, o206, o259, o209, o210, o213, o214, o215, o225, o226, o227, o232, o248, o249, o250, o251, o252, o260, o261, o262, o263, o264, o265, o267, o268, o269]⟩
noncomputable def s24 : Summ := segS a24 p24 v24 q24
set_option maxRecDepth 1000000
theorem r24 : segR c24 60 16 a24 p24 v24 q24 = true := by decide +kernel
theorem x24 : CtxOK c24 := ⟨names_of KBase.names, KBase.mixed, KBase.S0_ok⟩
theorem k24 : SummOK Tryz.prog 16 s24 := seg_summ x24 r24
end DN
end Go.Ab
namespace Go.Ab
open Go.RowKit Go.Proofs
namespace DN
noncomputable def c25 : Ctx := ⟨Tryz.prog, KBase.S0, fun _ => false⟩
noncomputable def a25 : List AV := [(.ptr (.i (.o (.i (.i (.o (.i (.i (.o (.i (.o (.o .h))))))))))) 0), (.int .i64 (.ofNat 0))]
noncomputable def p25 : Stt := ⟨11379, [o0, o1, o4, (3, .map [] 21), o3, o195, o196, o254, o198, o255, o8, o163, o189, o12, o13, o14, o15, o16, o17, o18, o19, o20, o21, o242, o24, o25, o26, o27, o28, o29, o30, o31, o32, o33, o34, o35, o36, o37, o38, o39, o40, o41, o42, o43, o44, o45, (2411, .map [] 0), o47, o243, o256, o48, o49, o50, (2418, .map [] 0), o143, o270, o52, o272, o56, o65, o190, o68, o69, o81, o245, o84, o85, o86, o104, o105, o133, o118, o135, o121, o122, o125, o126, o127, o136, o137, o138, o139, o140, o141, o145, o146, o158, o159, o172, o173, o174, o191, o192, o193, o194, o257, o273, o206, o259, o209, o210, o213, o214, o215, o225, o226, o227, o232, o248, o249, o250, o251, o252, o260, o261, o262, o263, o264, o265, o267, o268, o269, o274, o275, o276, o277, o278, o279]⟩
noncomputable def v25 : AV := (.tup [(.int .i64 (.ofNat 7)), (.int .i64 (.ofNat 15)), (.int .i64 (.ofNat 0))])
noncomputable def q25 : Stt := ⟨11639, [o0, o1, o4, (3, .map [] 21), o3, o195, o196, o280, o198, o281, o8, o163, o282, o12, o13, o14, o15, o16, o17, o18, o19, o20, o21, o242, o24, o25, o26, o27, o28, o29, o30, o31, o32, o33, o34, o35, o36, o37, o38, o39, o40, o41, o42, o43, o44, o45, (2411, .map [] 0), o47, o243, o256, o48, o49, o50, (2418, .map [] 0), o143, o270, o52, o272, o56, o65, o283, o68, o69, o81, o245, o84, o85, o86, o104, o105, o133, o118, o135, o121, o122, o125, o126, o127, o136, o137, o138, o139, o140, o141, o145, o146, o158, o159, o172, o173, o174, o191, o192, o193, o257, o284, o206, o259, o209, o210, o213, o214, o215, o225, o226, o227, o232, o248, o249, o250, o251, o252, o260, o261, o262, o263, o264, o265, o267, o268, o269, o274, o275, o276, o277, o278, o279, o285, o286, o287, o288]⟩
noncomputable def s25 : Summ := segS a25 p25 v25 q25
set_option maxRecDepth 1000000
theorem r25 : segR c25 60 330 a25 p25 v25 q25 = true := by decide +kernel
theorem x25 : CtxOK c25 := ⟨names_of KBase.names, KBase.mixed, KBase.S0_ok⟩
theorem k25 : SummOK Tryz.prog 330 s25 := seg_summ x25 r25
end DN
end Go.Ab
namespace Go.Ab
open Go.RowKit Go.Proofs
namespace DN
noncomputable def c26 : Ctx := ⟨Tryz.prog, (addS 330 (orS (atNx 11379) s25 badS) KBase.S0), fun _ => false⟩
noncomputable def a26 : List AV := [(.ptr (.o (.o (.o (.o (.i (.i (.i (.o (.i (.o (.o .h))))))))))) 0), (.int .i64 (.ofNat 3)), (.int .i64 (.ofNat 0)), (.sl (.o (.i (.i (.o (.o (.i (.i (.o (.o (.i (.o (.i (.o .h))))))))))))) 0 2 256 1 true)]
noncomputable def p26 : Stt := ⟨10854, [o0, o1, o4, (3, .map [] 21), o3, o195, o196, o254, o198, o255, o8, o163, o189, o12, o13, o14, o15, o16, o17, o18, o19, o20, o21, o242, o24, o25, o26, o27, o28, o29, o30, o31, o32, o33, o34, o35, o36, o37, o38, o39, o40, o41, o42, o43, o44, o45, (2411, .map [] 0), o47, o243, o256, o48, o49, o50, (2418, .map [] 0), o143, o270, o52, o272, o56, o65, o190, o68, o69, o81, o245, o84, o85, o86, o104, o105, o133, o118, o135, o121, o122, o125, o126, o127, o136, o137, o138, o139, o140, o141, o145, o146, o158, o159, o172, o173, o174, o191, o192, o193, o194, o257, o271, o206, o259, o209, o210, o213, o214, o215, o225, o226, o227, o232, o248, o249, o250, o251, o252, o260, o261, o262, o263, o264, o265, o267, o268, o269, o274, o275]⟩
noncomputable def v26 : AV := (.int .i64 (.ofNat 0))
noncomputable def q26 : Stt := ⟨11725, [o0, o1, o4, (3, .map [] 21), o3, o289, o290, o291, o292, o293, o8, o163, o282, o12, o13, o14, o15, o16, o17, o18, o19, o20, o21, o294, o24, o25, o26, o27, o28, o29, o30, o31, o32, o33, o34, o35, o36, o37, o38, o39, o40, o41, o42, o43, o44, o45, (2411, .map [] 0), o47, o295, o296, o48, o49, o50, (2418, .map [] 0), o143, o270, o52, o272, o56, o65, o283, o68, o69, o81, o297, o84, o85, o86, o104, o105, o133, o118, o135, o121, o122, o125, o126, o127, o136, o137, o138, o139, o140, o141, o145, o146, o158, o159, o172, o173, o174, o191, o192, o193, o257, o206, o259, o209, o210, o213, o214, o215, o225, o226, o227, o232, o248, o249, o250, o260, o261, o262, o263, o264, o265, o267, o268, o269, o274, o275, o285, o286, o287, o288, o298, o299, o300, o301, o302, o303, o304, o305, o306, o307, o308, o309, o310, o311]⟩
noncomputable def s26 : Summ := segS a26 p26 v26 q26
set_option maxRecDepth 1000000
theorem r26 : segR c26 60 79 a26 p26 v26 q26 = true := by decide +kernel
theorem x26 : CtxOK c26 := ⟨names_of KBase.names, KBase.mixed, (addS_ok (orS_ok k25 badS_ok) KBase.S0_ok)⟩
theorem k26 : SummOK Tryz.prog 79 s26 := seg_summ x26 r26
end DN
end Go.Ab
namespace Go.Ab
open Go.RowKit Go.Proofs
namespace DN
noncomputable def c27 : Ctx := ⟨Tryz.prog, (addS 79 (orS (atNx 10854) s26 badS) KBase.S0), fun _ => false⟩
noncomputable def a27 : List AV := [(.ptr (.o (.i (.i (.o (.i (.i (.i (.o (.i (.o (.o .h))))))))))) 0), (.int .i64 (.ofNat 0)), (.int .i64 (.ofNat 0)), (.sl (.o (.i (.i (.o (.o (.i (.i (.o (.o (.i (.o (.i (.o .h))))))))))))) 0 2 256 1 true)]
noncomputable def p27 : Stt := ⟨10854, [o0, o1, o4, (3, .map [] 21), o3, o195, o196, o254, o198, o255, o8, o163, o189, o12, o13, o14, o15, o16, o17, o18, o19, o20, o21, o242, o24, o25, o26, o27, o28, o29, o30, o31, o32, o33, o34, o35, o36, o37, o38, o39, o40, o41, o42, o43, o44, o45, (2411, .map [] 0), o47, o243, o256, o48, o49, o50, (2418, .map [] 0), o143, o270, o52, o272, o56, o65, o190, o68, o69, o81, o245, o84, o85, o86, o104, o105, o133, o118, o135, o121, o122, o125, o126, o127, o136, o137, o138, o139, o140, o141, o145, o146, o158, o159, o172, o173, o174, o191, o192, o193, o194, o257, o271, o206, o259, o209, o210, o213, o214, o215, o225, o226, o227, o232, o248, o249, o250, o251, o252, o260, o261, o262, o263, o264, o265, o267, o268, o269, o274, o275]⟩
noncomputable def v27 : AV := (.int .i64 (.ofNat 0))
noncomputable def q27 : Stt := ⟨11725, [o0, o1, o4, (3, .map [] 21), o3, o289, o290, o291, o292, o293, o8, o163, o282, o12, o13, o14, o15, o16, o17, o18, o19, o20, o21, o294, o24, o25, o26, o27, o28, o29, o30, o31, o32, o33, o34, o35, o36, o37, o38, o39, o40, o41, o42, o43, o44, o45, (2411, .map [] 0), o47, o295, o296, o48, o49, o50, (2418, .map [] 0), o143, o270, o52, o272, o56, o65, o283, o68, o69, o81, o297, o84, o85, o86, o104, o105, o133, o118, o135, o121, o122, o125, o126, o127, o136, o137, o138, o139, o140, o141, o145, o146, o158, o159, o172, o173, o174, o191, o192, o193, o257, o206, o259, o209, o210, o213, o214, o215, o225, o226, o227, o232, o248, o249, o250, o260, o261, o262, o263, o264, o265, o267, o268, o269, o274, o275, o285, o286, o287, o288, o298, o299, o300, o301, o302, o303, o304, o305, o306, o307, o308, o309, o310, o311]⟩
noncomputable def s27 : Summ := segS a27 p27 v27 q27
set_option maxRecDepth 1000000
theorem r27 : segR c27 60 32 a27 p27 v27 q27 = true := by decide +kernel
theorem x27 : CtxOK c27 := ⟨names_of KBase.names, KBase.mixed, (addS_ok (orS_ok k26 badS_ok) KBase.S0_ok)⟩
theorem k27 : SummOK Tryz.prog 32 s27 := seg_summ x27 r27
end DN
end Go.Ab
