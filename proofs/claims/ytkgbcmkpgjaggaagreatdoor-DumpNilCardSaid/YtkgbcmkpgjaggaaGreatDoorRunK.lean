import Derived.Test.YtkgbcmkpgjaggaaGreatDoorBase
import Derived.Test.YtkgbcmkpgjaggaaGreatDoorData
namespace Go.Ab
open Go.RowKit Go.Proofs
namespace DN
noncomputable def c20 : Ctx := ⟨Tryz.prog, KBase.S0, fun _ => false⟩
noncomputable def a20 : List AV := [(.ptr (.i (.o (.i (.o (.i (.i (.i (.o (.i (.o (.o .h))))))))))) 0), (.int .i64 (.ofNat 4)), (.int .i64 (.ofNat 0))]
noncomputable def p20 : Stt := ⟨9085, [o0, o1, o4, (3, .map [] 21), o3, o195, o196, o218, o198, o219, o8, o163, o189, o12, o13, o14, o15, o16, o17, o18, o19, o20, o21, o200, o24, o25, o26, o27, o28, o29, o30, o31, o32, o33, o34, o35, o36, o37, o38, o39, o40, o41, o42, o43, o44, o45, (2411, .map [] 0), o47, o201, o220, o48, o49, o50, (2418, .map [] 0), o143, o51, o52, o231, o56, o65, o190, o68, o69, o81, o203, o84, o85, o86, o104, o105, o133, o118, o135, o121, o122, o125, o126, o127, o136, o137, o138, o139, o140, o141, o145, o146, o158, o159, o172, o173, o174, o176, o191, o192, o193, o194, o221, o235, o206, o223, o209, o210, o212, o213, o214, o215, o216, o224, o225, o226, o227, o228, o229, o232, o233, o234, o236, o237, o238]⟩
noncomputable def v20 : AV := (.int .i64 (.ofNat 0))
noncomputable def q20 : Stt := ⟨9573, [o0, o1, o4, (3, .map [] 21), o3, o195, o196, o218, o198, o219, o8, o163, o189, o12, o13, o14, o15, o16, o17, o18, o19, o20, o21, o200, o24, o25, o26, o27, o28, o29, o30, o31, o32, o33, o34, o35, o36, o37, o38, o39, o40, o41, o42, o43, o44, o45, (2411, .map [] 0), o47, o201, o220, o48, o49, o50, (2418, .map [] 0), o143, o51, o52, o231, o56, o65, o190, o68, o69, o81, o203, o84, o85, o86, o104, o105, o133, o118, o135, o121, o122, o125, o126, o127, o136, o137, o138, o139, o140, o141, o145, o146, o158, o159, o172, o173, o174, o176, o191, o192, o193, o194, o221, o239, o206, o223, o209, o210, o212, o213, o214, o215, o216, o224, o225, o226, o227, o228, o229, o232, o233, o234, o236, o237, o238]⟩
noncomputable def s20 : Summ := segS a20 p20 v20 q20
set_option maxRecDepth 1000000
theorem r20 : segR c20 60 139 a20 p20 v20 q20 = true := by decide +kernel
theorem x20 : CtxOK c20 := ⟨names_of KBase.names, KBase.mixed, KBase.S0_ok⟩
theorem k20 : SummOK Tryz.prog 139 s20 := seg_summ x20 r20
end DN
end Go.Ab
namespace Go.Ab
open Go.RowKit Go.Proofs
namespace DN
noncomputable def c21 : Ctx := ⟨Tryz.prog, KBase.S0, fun _ => false⟩
noncomputable def a21 : List AV := [(.ptr (.i (.o (.o (.o (.i (.i (.i (.o (.i (.o (.o .h))))))))))) 0), (.int .i64 (.ofNat 2)), (.str [103]), (.int .i64 (.ofNat 3)), (.sl (.o (.i (.o (.o (.i (.o (.o (.i (.i (.o (.i (.o (.o .h))))))))))))) 0 1 1 1 true)]
noncomputable def p21 : Stt := ⟨9618, [o0, o1, o4, (3, .map [] 21), o3, o195, o196, o240, o198, o241, o8, o163, o189, o12, o13, o14, o15, o16, o17, o18, o19, o20, o21, o242, o24, o25, o26, o27, o28, o29, o30, o31, o32, o33, o34, o35, o36, o37, o38, o39, o40, o41, o42, o43, o44, o45, (2411, .map [] 0), o47, o243, o244, o48, o49, o50, (2418, .map [] 0), o143, o51, o52, o231, o56, o65, o190, o68, o69, o81, o245, o84, o85, o86, o104, o105, o133, o118, o135, o121, o122, o125, o126, o127, o136, o137, o138, o139, o140, o141, o145, o146, o158, o159, o172, o173, o174, o191, o192, o193, o194, o221, o246, o206, o223, o209, o210, o212, o213, o214, o215, o224, o225, o226, o227, o228, o229, o232, o233, o234, o236, o237, o247, o248, o249, o250, o251, o252, o253]⟩
noncomputable def v21 : AV := (.tup [(.int .i64 (.ofNat 14)), (.int .i64 (.ofNat 0))])
noncomputable def q21 : Stt := ⟨9945, [o0, o1, o4, (3, .map [] 21), o3, o195, o196, o254, o198, o255, o8, o163, o189, o12, o13, o14, o15, o16, o17, o18, o19, o20, o21, o242, o24, o25, o26, o27, o28, o29, o30, o31, o32, o33, o34, o35, o36, o37, o38, o39, o40, o41, o42, o43, o44, o45, (2411, .map [] 0), o47, o243, o256, o48, o49, o50, (2418, .map [] 0), o143, o51, o52, o231, o56, o65, o190, o68, o69, o81, o245, o84, o85, o86, o104, o105, o133, o118, o135, o121, o122, o125, o126, o127, o136, o137, o138, o139, o140, o141, o145, o146, o158, o159, o172, o173, o174, o191, o192, o193, o194, o257, o258, o206, o259, o209, o210, o212, o213, o214, o215, o224, o225, o226, o227, o232, o233, o234, o236, o237, o247, o248, o249, o250, o251, o252, o253, o260, o261, o262, o263, o264, o265]⟩
noncomputable def s21 : Summ := segS a21 p21 v21 q21
set_option maxRecDepth 1000000
theorem r21 : segR c21 60 141 a21 p21 v21 q21 = true := by decide +kernel
theorem x21 : CtxOK c21 := ⟨names_of KBase.names, KBase.mixed, KBase.S0_ok⟩
theorem k21 : SummOK Tryz.prog 141 s21 := seg_summ x21 r21
end DN
end Go.Ab
namespace Go.Ab
open Go.RowKit Go.Proofs
namespace DN
noncomputable def c22 : Ctx := ⟨Tryz.prog, (addS 141 (orS (atNx 9618) s21 badS) (addS 139 (orS (atNx 9085) s20 badS) KBase.S0)), fun _ => false⟩
noncomputable def a22 : List AV := [(.ptr (.o (.i (.i (.o (.i (.i (.i (.o (.i (.o (.o .h))))))))))) 0), (.str [47, 97, 47, 102]), (.str [47, 97, 47, 103])]
noncomputable def p22 : Stt := ⟨8161, [o0, o1, o4, (3, .map [] 21), o3, o195, o196, o218, o198, o219, o8, o163, o189, o12, o13, o14, o15, o16, o17, o18, o19, o20, o21, o200, o24, o25, o26, o27, o28, o29, o30, o31, o32, o33, o34, o35, o36, o37, o38, o39, o40, o41, o42, o43, o44, o45, (2411, .map [] 0), o47, o201, o220, o48, o49, o50, (2418, .map [] 0), o143, o51, o52, o231, o56, o65, o190, o68, o69, o81, o203, o84, o85, o86, o104, o105, o133, o118, o135, o121, o122, o125, o126, o127, o136, o137, o138, o139, o140, o141, o145, o146, o158, o159, o172, o173, o174, o176, o191, o192, o193, o194, o221, o239, o206, o223, o209, o210, o212, o213, o214, o215, o216, o224, o225, o226, o227, o228, o229, o232, o233, o234, o236]⟩
noncomputable def v22 : AV := (.int .i64 (.ofNat 0))
noncomputable def q22 : Stt := ⟨9945, [o0, o1, o4, (3, .map [] 21), o3, o195, o196, o254, o198, o255, o8, o163, o189, o12, o13, o14, o15, o16, o17, o18, o19, o20, o21, o242, o24, o25, o26, o27, o28, o29, o30, o31, o32, o33, o34, o35, o36, o37, o38, o39, o40, o41, o42, o43, o44, o45, (2411, .map [] 0), o47, o243, o256, o48, o49, o50, (2418, .map [] 0), o143, o51, o52, o231, o56, o65, o190, o68, o69, o81, o245, o84, o85, o86, o104, o105, o133, o118, o135, o121, o122, o125, o126, o127, o136, o137, o138, o139, o140, o141, o145, o146, o158, o159, o172, o173, o174, o191, o192, o193, o194, o257, o258, o206, o259, o209, o210, o212, o213, o214, o215, o224, o225, o226, o227, o232, o233, o234, o236, o248, o249, o250, o251, o252, o260, o261, o262, o263, o264, o265]⟩
noncomputable def s22 : Summ := segS a22 p22 v22 q22
set_option maxRecDepth 1000000
theorem r22 : segR c22 60 27 a22 p22 v22 q22 = true := by decide +kernel
theorem x22 : CtxOK c22 := ⟨names_of KBase.names, KBase.mixed, (addS_ok (orS_ok k21 badS_ok) (addS_ok (orS_ok k20 badS_ok) KBase.S0_ok))⟩
theorem k22 : SummOK Tryz.prog 27 s22 := seg_summ x22 r22
end DN
end Go.Ab
namespace Go.Ab
open Go.RowKit Go.Proofs
namespace DN
noncomputable def c23 : Ctx := ⟨Tryz.prog, (addS 27 (orS (atNx 8161) s22 badS) KBase.S0), fun _ => false⟩
noncomputable def a23 : List AV := [(.ptr (.o (.i (.i (.o (.i (.i (.i (.o (.i (.o (.o .h))))))))))) 0), (.ptr (.o (.o (.o (.i (.i (.i (.i (.o (.i (.o (.o .h))))))))))) 0), (.agg [(.int .i64 (.ofNat 4)), (.str [47, 97, 47, 102]), (.str [47, 97, 47, 103]), (.int .i64 (.ofNat 0)), (.int .i64 (.ofNat 0)), .nils])]
noncomputable def p23 : Stt := ⟨7672, [o0, o1, o4, (3, .map [] 21), o3, o195, o196, o218, o198, o219, o8, o163, o189, o12, o13, o14, o15, o16, o17, o18, o19, o20, o21, o200, o24, o25, o26, o27, o28, o29, o30, o31, o32, o33, o34, o35, o36, o37, o38, o39, o40, o41, o42, o43, o44, o45, (2411, .map [] 0), o47, o201, o220, o48, o49, o50, (2418, .map [] 0), o143, o51, o52, o231, o56, o65, o190, o68, o69, o81, o203, o84, o85, o86, o104, o105, o133, o118, o135, o121, o122, o125, o126, o127, o136, o137, o138, o139, o140, o141, o145, o146, o158, o159, o172, o173, o174, o176, o191, o192, o193, o194, o221, o222, o206, o223, o209, o210, o212, o213, o214, o215, o216, o224, o225, o226, o227, o228, o229, o232, o233, o234]⟩
noncomputable def v23 : AV := (.bool true)
noncomputable def q23 : Stt := ⟨9967, [o0, o1, o4, (3, .map [] 21), o3, o195, o196, o254, o198, o255, o8, o163, o189, o12, o13, o14, o15, o16, o17, o18, o19, o20, o21, o242, o24, o25, o26, o27, o28, o29, o30, o31, o32, o33, o34, o35, o36, o37, o38, o39, o40, o41, o42, o43, o44, o45, (2411, .map [] 0), o47, o243, o256, o48, o49, o50, (2418, .map [] 0), o143, o51, o52, o266, o56, o65, o190, o68, o69, o81, o245, o84, o85, o86, o104, o105, o133, o118, o135, o121, o122, o125, o126, o127, o136, o137, o138, o139, o140, o141, o145, o146, o158, o159, o172, o173, o174, o191, o192, o193, o194, o257, o258, o206, o259, o209, o210, o212, o213, o214, o215, o224, o225, o226, o227, o232, o233, o234, o248, o249, o250, o251, o252, o260, o261, o262, o263, o264, o265, o267, o268]⟩
noncomputable def s23 : Summ := segS a23 p23 v23 q23
set_option maxRecDepth 1000000
theorem r23 : segR c23 60 164 a23 p23 v23 q23 = true := by decide +kernel
theorem x23 : CtxOK c23 := ⟨names_of KBase.names, KBase.mixed, (addS_ok (orS_ok k22 badS_ok) KBase.S0_ok)⟩
theorem k23 : SummOK Tryz.prog 164 s23 := seg_summ x23 r23
end DN
end Go.Ab
