import Derived.Test.YtlcnngohlalhbaaGreatDoorBase
import Derived.Test.YtlcnngohlalhbaaGreatDoorData
namespace Go.Ab
open Go.RowKit Go.Proofs
namespace DF
noncomputable def c17 : Ctx := ⟨Tryz.prog, KBase.S0, fun _ => false⟩
noncomputable def a17 : List AV := [(.ptr (.i (.i (.i (.i (.o (.i (.i (.o (.o (.i .h)))))))))) 0), (.int .i64 (.ofNat 40))]
noncomputable def p17 : Stt := ⟨5899, [o2, (1, .map [] 15), o1, o177, o178, o179, o180, o181, o6, o64, o170, o10, o11, o12, o13, o14, o15, o182, o18, o19, o20, o21, o22, o23, o24, o25, o26, o27, o28, o29, o30, o31, (1645, .map [] 0), o33, o183, o184, o34, o35, o36, (1652, .map [] 0), (1653, .map [] 0), o132, o38, o40, o41, o42, o43, o44, o45, o46, o47, o55, o171, o58, o59, o71, o185, o74, o75, o76, o94, o95, o123, o108, o125, o111, o112, o115, o116, o117, o126, o127, o128, o129, o130, o131, o134, o135, o146, o147, o156, o158, o159, o160, o161, o162, o163, o173, o174, o175, o176, o186, o200, o188, o189, o190, o191, o192, o193, o194, o195, o196, o197, o198, o199, o201, o202, o203, o204, o205]⟩
noncomputable def v17 : AV := (.tup [(.int .i64 (.ofNat 41)), (.int .i64 (.ofNat 12)), (.int .i64 (.ofNat 0))])
noncomputable def q17 : Stt := ⟨6170, [o2, (1, .map [] 15), o1, o177, o178, o206, o207, o208, o6, o64, o170, o10, o209, o12, o13, o14, o15, o182, o18, o19, o20, o21, o22, o23, o24, o25, o26, o27, o28, o29, o30, o31, (1645, .map [] 0), o33, o183, o184, o34, o35, o36, (1652, .map [] 0), (1653, .map [] 0), o132, o38, o40, o41, o42, o43, o44, o45, o46, o47, o55, o171, o58, o59, o71, o185, o74, o75, o76, o94, o95, o123, o108, o125, o111, o112, o115, o116, o117, o126, o127, o128, o129, o130, o131, o134, o135, o146, o147, o156, o158, o159, o160, o161, o162, o163, o173, o174, o175, o176, o186, o210, o188, o189, o190, o191, o192, o193, o194, o195, o196, o197, o198, o199, o201, o202, o203, o204, o205, o211, o212, o213, o214, o215, o216]⟩
noncomputable def s17 : Summ := segS a17 p17 v17 q17
set_option maxRecDepth 1000000
theorem r17 : segR c17 60 164 a17 p17 v17 q17 = true := by decide +kernel
theorem x17 : CtxOK c17 := ⟨names_of KBase.names, KBase.mixed, KBase.S0_ok⟩
theorem k17 : SummOK Tryz.prog 164 s17 := seg_summ x17 r17
end DF
end Go.Ab
namespace Go.Ab
open Go.RowKit Go.Proofs
namespace DF
noncomputable def c18 : Ctx := ⟨Tryz.prog, (addS 164 (orS (atNx 5899) s17 badS) KBase.S0), fun _ => false⟩
noncomputable def a18 : List AV := [(.ptr (.o (.i (.o (.i (.i (.i (.i (.o (.o (.i .h)))))))))) 0), (.int .i64 (.ofNat 6)), (.int .i64 (.ofNat 40))]
noncomputable def p18 : Stt := ⟨5655, [o2, (1, .map [] 15), o1, o177, o178, o179, o180, o181, o6, o64, o170, o10, o11, o12, o13, o14, o15, o182, o18, o19, o20, o21, o22, o23, o24, o25, o26, o27, o28, o29, o30, o31, (1645, .map [] 0), o33, o183, o184, o34, o35, o36, (1652, .map [] 0), (1653, .map [] 0), o132, o38, o40, o41, o42, o43, o44, o45, o46, o47, o55, o171, o58, o59, o71, o185, o74, o75, o76, o94, o95, o123, o108, o125, o111, o112, o115, o116, o117, o126, o127, o128, o129, o130, o131, o134, o135, o146, o147, o156, o158, o159, o160, o161, o162, o163, o173, o174, o175, o176, o186, o187, o188, o189, o190, o191, o192, o193, o194, o195, o196, o197, o198, o199]⟩
noncomputable def v18 : AV := (.tup [(.int .i64 (.ofNat 41)), (.int .i64 (.ofNat 0))])
noncomputable def q18 : Stt := ⟨6367, [o2, (1, .map [] 15), o1, o217, o218, o219, o220, o221, o222, o64, o170, o10, o209, o12, o13, o14, o15, o223, o18, o19, o20, o21, o22, o23, o24, o25, o26, o27, o28, o29, o30, o31, (1645, .map [] 0), o33, o224, o225, o34, o35, o36, (1652, .map [] 0), (1653, .map [] 0), o132, o38, o40, o41, o42, o43, o44, o45, o46, o47, o55, o171, o58, o59, o71, o226, o74, o75, o76, o94, o95, o123, o108, o125, o111, o112, o115, o116, o117, o126, o127, o128, o129, o130, o131, o134, o135, o146, o147, o156, o158, o159, o160, o161, o162, o163, o173, o174, o175, o176, o186, o188, o189, o190, o191, o192, o193, o194, o195, o196, o197, o211, o212, o213, o214, o215, o216, o227, o228, o229, o230, o231, o232, o233, o234, o235, o236, o237, o238, o239, o240, o241, o242]⟩
noncomputable def s18 : Summ := segS a18 p18 v18 q18
set_option maxRecDepth 1000000
theorem r18 : segR c18 60 53 a18 p18 v18 q18 = true := by decide +kernel
theorem x18 : CtxOK c18 := ⟨names_of KBase.names, KBase.mixed, (addS_ok (orS_ok k17 badS_ok) KBase.S0_ok)⟩
theorem k18 : SummOK Tryz.prog 53 s18 := seg_summ x18 r18
end DF
end Go.Ab
namespace Go.Ab
open Go.RowKit Go.Proofs
namespace DF
noncomputable def c19 : Ctx := ⟨Tryz.prog, KBase.S0, fun _ => false⟩
noncomputable def a19 : List AV := [(.ptr (.i (.i (.i (.i (.o (.i (.i (.o (.o (.i .h)))))))))) 0), (.int .i64 (.ofNat 7))]
noncomputable def p19 : Stt := ⟨6577, [o2, (1, .map [] 15), o1, o217, o218, o219, o220, o221, o222, o64, o170, o209, o12, o13, o14, o15, o223, o18, o19, o20, o21, o22, o23, o24, o25, o26, o27, o28, o29, o30, o31, (1645, .map [] 0), o33, o224, o225, o34, o35, o36, (1652, .map [] 0), (1653, .map [] 0), o132, o38, o40, o41, o42, o43, o44, o45, o46, o47, o55, o171, o58, o59, o71, o226, o74, o75, o76, o94, o95, o123, o108, o125, o111, o112, o115, o116, o117, o126, o127, o128, o129, o130, o131, o134, o135, o146, o147, o156, o158, o159, o160, o161, o162, o163, o173, o174, o175, o176, o186, o188, o189, o190, o191, o192, o193, o195, o196, o197, o211, o212, o213, o214, o215, o216, o227, o243, o229, o230, o231, o232, o233, o234, o235, o236, o237, o238, o239, o240, o241, o242, o244, o245, o246, o247, o248, o249]⟩
noncomputable def v19 : AV := (.tup [(.int .i64 (.ofNat 8)), (.int .i64 (.ofNat 15)), (.int .i64 (.ofNat 0))])
noncomputable def q19 : Stt := ⟨6847, [o2, (1, .map [] 15), o1, o217, o218, o250, o220, o251, o222, o64, o252, o209, o12, o13, o14, o15, o223, o18, o19, o20, o21, o22, o23, o24, o25, o26, o27, o28, o29, o30, o31, (1645, .map [] 0), o33, o224, o225, o34, o35, o36, (1652, .map [] 0), (1653, .map [] 0), o132, o38, o40, o41, o42, o43, o44, o45, o46, o47, o55, o253, o58, o59, o71, o226, o74, o75, o76, o94, o95, o123, o108, o125, o111, o112, o115, o116, o117, o126, o127, o128, o129, o130, o131, o134, o135, o146, o147, o156, o158, o159, o160, o161, o162, o163, o173, o174, o175, o186, o188, o189, o190, o191, o192, o193, o195, o196, o197, o211, o212, o213, o214, o215, o216, o227, o254, o229, o230, o231, o232, o233, o234, o235, o236, o237, o238, o239, o240, o241, o242, o244, o245, o246, o247, o248, o249, o255, o256, o257, o258]⟩
noncomputable def s19 : Summ := segS a19 p19 v19 q19
set_option maxRecDepth 1000000
theorem r19 : segR c19 60 164 a19 p19 v19 q19 = true := by decide +kernel
theorem x19 : CtxOK c19 := ⟨names_of KBase.names, KBase.mixed, KBase.S0_ok⟩
theorem k19 : SummOK Tryz.prog 164 s19 := seg_summ x19 r19
end DF
end Go.Ab
namespace Go.Ab
open Go.RowKit Go.Proofs
namespace DF
noncomputable def c20 : Ctx := ⟨Tryz.prog, KBase.S0, fun _ => false⟩
noncomputable def a20 : List AV := [(.ptr (.i (.i (.i (.i (.o (.i (.i (.o (.o (.i .h)))))))))) 0), (.int .i64 (.ofNat 8))]
noncomputable def p20 : Stt := ⟨7102, [o2, (1, .map [] 15), o1, o259, o260, o261, o262, o263, o264, o64, o252, o209, o12, o13, o14, o15, o265, o18, o19, o20, o21, o22, o23, o24, o25, o26, o27, o28, o29, o30, o31, (1645, .map [] 0), o33, o266, o267, o34, o35, o36, (1652, .map [] 0), (1653, .map [] 0), o132, o38, o40, o41, o42, o43, o44, o45, o46, o47, o55, o253, o58, o59, o71, o268, o74, o75, o76, o94, o95, o123, o108, o125, o111, o112, o115, o116, o117, o126, o127, o128, o129, o130, o131, o134, o135, o146, o147, o156, o158, o159, o160, o161, o162, o163, o173, o174, o175, o186, o188, o189, o190, o191, o192, o193, o195, o196, o197, o211, o212, o213, o214, o215, o216, o227, o229, o230, o231, o232, o233, o234, o235, o236, o237, o238, o239, o242, o244, o255, o256, o257, o258, o269, o270, o271, o272, o273, o274, o275, o276, o277, o278, o279, o280, o281, o282, o283, o284, o285, o286, o287, o288, o289]⟩
noncomputable def v20 : AV := (.tup [(.int .i64 (.ofNat 9)), (.int .i64 (.ofNat 18)), (.int .i64 (.ofNat 0))])
noncomputable def q20 : Stt := ⟨7372, [o2, (1, .map [] 15), o1, o259, o260, o290, o262, o291, o264, o64, o292, o209, o12, o13, o14, o15, o265, o18, o19, o20, o21, o22, o23, o24, o25, o26, o27, o28, o29, o30, o31, (1645, .map [] 0), o33, o266, o267, o34, o35, o36, (1652, .map [] 0), (1653, .map [] 0), o132, o38, o40, o41, o42, o43, o44, o45, o46, o47, o55, o293, o58, o59, o71, o268, o74, o75, o76, o94, o95, o123, o108, o125, o111, o112, o115, o116, o117, o126, o127, o128, o129, o130, o131, o134, o135, o146, o147, o156, o158, o159, o160, o161, o162, o163, o173, o174, o175, o186, o188, o189, o190, o191, o192, o193, o195, o196, o197, o211, o212, o213, o214, o215, o216, o227, o229, o230, o231, o232, o233, o234, o235, o236, o237, o238, o239, o242, o244, o255, o256, o257, o269, o294, o271, o272, o273, o274, o275, o276, o277, o278, o279, o280, o281, o282, o283, o284, o285, o286, o287, o288, o289, o295, o296, o297, o298]⟩
noncomputable def s20 : Summ := segS a20 p20 v20 q20
set_option maxRecDepth 1000000
theorem r20 : segR c20 60 164 a20 p20 v20 q20 = true := by decide +kernel
theorem x20 : CtxOK c20 := ⟨names_of KBase.names, KBase.mixed, KBase.S0_ok⟩
theorem k20 : SummOK Tryz.prog 164 s20 := seg_summ x20 r20
end DF
end Go.Ab
