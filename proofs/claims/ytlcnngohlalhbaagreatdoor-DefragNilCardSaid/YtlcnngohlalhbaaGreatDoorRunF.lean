import Derived.Test.YtlcnngohlalhbaaGreatDoorRunE
import Derived.Test.YtlcnngohlalhbaaGreatDoorData
namespace Go.Ab
open Go.RowKit Go.Proofs
namespace DF
noncomputable def c21 : Ctx := ⟨Tryz.prog, (addS 164 (orS (atNx 6577) s19 (orS (atNx 7102) s20 badS)) KBase.S0), fun _ => false⟩
noncomputable def a21 : List AV := [(.ptr (.o (.o (.i (.i (.i (.i (.i (.o (.o (.i .h)))))))))) 0), (.int .i64 (.ofNat 2))]
noncomputable def p21 : Stt := ⟨6367, [o2, (1, .map [] 15), o1, o217, o218, o219, o220, o221, o222, o64, o170, o209, o12, o13, o14, o15, o223, o18, o19, o20, o21, o22, o23, o24, o25, o26, o27, o28, o29, o30, o31, (1645, .map [] 0), o33, o224, o225, o34, o35, o36, (1652, .map [] 0), (1653, .map [] 0), o132, o38, o40, o41, o42, o43, o44, o45, o46, o47, o55, o171, o58, o59, o71, o226, o74, o75, o76, o94, o95, o123, o108, o125, o111, o112, o115, o116, o117, o126, o127, o128, o129, o130, o131, o134, o135, o146, o147, o156, o158, o159, o160, o161, o162, o163, o173, o174, o175, o176, o186, o188, o189, o190, o191, o192, o193, o195, o196, o197, o211, o212, o213, o214, o215, o216, o227, o228, o229, o230, o231, o232, o233, o234, o235, o236, o237, o238, o239, o240, o241, o242]⟩
noncomputable def v21 : AV := (.tup [(.int .i64 (.ofNat 2)), (.int .i64 (.ofNat 1)), (.int .i64 (.ofNat 0))])
noncomputable def q21 : Stt := ⟨7620, [o2, (1, .map [] 15), o1, o299, o300, o301, o302, o303, o304, o64, o292, o209, o12, o13, o14, o15, o305, o18, o19, o20, o21, o22, o23, o24, o25, o26, o27, o28, o29, o30, o31, (1645, .map [] 0), o33, o306, o307, o34, o35, o36, (1652, .map [] 0), (1653, .map [] 0), o132, o38, o40, o41, o42, o43, o44, o45, o46, o47, o55, o293, o58, o59, o71, o308, o74, o75, o76, o94, o95, o123, o108, o125, o111, o112, o115, o116, o117, o126, o127, o128, o129, o130, o131, o134, o135, o146, o147, o156, o158, o159, o160, o161, o162, o163, o173, o174, o175, o186, o188, o189, o190, o191, o192, o193, o195, o196, o197, o211, o212, o213, o214, o215, o216, o227, o229, o230, o231, o232, o233, o234, o235, o236, o237, o238, o239, o242, o256, o257, o269, o271, o272, o273, o274, o275, o276, o277, o279, o280, o281, o295, o296, o297, o298, o309, o310, o311, o312, o313, o314, o315, o316, o317, o318, o319, o320, o321, o322, o323, o324]⟩
noncomputable def s21 : Summ := segS a21 p21 v21 q21
set_option maxRecDepth 1000000
theorem r21 : segR c21 60 7 a21 p21 v21 q21 = true := by decide +kernel
theorem x21 : CtxOK c21 := ⟨names_of KBase.names, KBase.mixed, (addS_ok (orS_ok k19 (orS_ok k20 badS_ok)) KBase.S0_ok)⟩
theorem k21 : SummOK Tryz.prog 7 s21 := seg_summ x21 r21
end DF
end Go.Ab
