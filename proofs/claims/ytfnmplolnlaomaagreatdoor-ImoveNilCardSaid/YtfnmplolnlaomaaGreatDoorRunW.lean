import Derived.Test.YtfnmplolnlaomaaGreatDoorRunJ
import Derived.Test.YtfnmplolnlaomaaGreatDoorRunN
import Derived.Test.YtfnmplolnlaomaaGreatDoorRunU
import Derived.Test.YtfnmplolnlaomaaGreatDoorRunV
import Derived.Test.YtfnmplolnlaomaaGreatDoorData
namespace Go.Ab
open Go.RowKit Go.Proofs
namespace IM
noncomputable def c71 : Ctx := ⟨Tryz.prog, (addS 43 (orS (atNx 6779) s31 (orS (atNx 64210) s34 (orS (atNx 64516) s44 (orS (atNx 270976) s70 badS)))) (addS 23 (orS (atNx 138320) s64 badS) (addS 21 (orS (atNx 64213) s35 badS) KBase.S0))), fun _ => false⟩
noncomputable def a71 : List AV := [(.ptr (.i (.o (.o (.o (.i (.i (.o (.o (.o (.i (.o .h))))))))))) 0), (.int .i64 (.ofNat 2)), (.int .i64 (.ofNat 9))]
noncomputable def p71 : Stt := ⟨6499, [o2, (1, .map [] 12), o1, o3, o4, (278, .map [] 0), (279, .map [] 0), o5, o6, o7, o8, o9, o10, o11, o12, o13, o14, o15, o16, o17, o18, o19, o20, o21, o22, o23, o24, o25, o40, (1262, .map [] 0), o27, (1264, .map [] 0), (1265, .map [] 0), o28, o29, o30, (1269, .map [] 0), (1270, .map [] 0), o31, o32, o33, o34, o35, o36, o37, o38, o39, o43, (1334, .map [] 12), o42, o131, o132, o183, o134, o184, o47, o98, o125, o51, o52, o53, o54, o171, o57, o58, o59, o60, o61, o62, o63, o64, o65, o66, (2595, .map [] 0), o68, o172, o185, o69, o70, o71, (2602, .map [] 0), (2603, .map [] 0), o72, o73, o75, o76, o77, o78, o79, o80, o81, o89, o126, o92, o93, o105, o174, o108, o109, o110, o127, o128, o129, o130, o186, o197, o142, o188, o145, o146, o149, o150, o151, o161, o162, o163, o177, o178, o179, o180, o181, o189, o190, o191, o192, o193, o194, o196, o198]⟩
noncomputable def v71 : AV := (.tup [(.int .i64 (.ofNat 10)), (.int .i64 (.ofNat 0))])
noncomputable def q71 : Stt := ⟨271257, [o2, (1, .map [] 12), o1, o3, o4, (278, .map [] 0), (279, .map [] 0), o5, o6, o7, o8, o9, o10, o11, o12, o13, o14, o15, o16, o17, o18, o19, o20, o21, o22, o23, o24, o25, o40, (1262, .map [] 0), o27, (1264, .map [] 0), (1265, .map [] 0), o28, o29, o30, (1269, .map [] 0), (1270, .map [] 0), o31, o32, o33, o34, o35, o36, o37, o38, o39, o446, (1334, .map [] 21), o42, o131, o132, o453, o454, o455, o47, o98, o456, o51, o286, o53, o54, o447, o57, o58, o59, o319, o61, o62, o63, o64, o65, o66, (2595, .map [] 0), o68, o430, o431, o69, o70, o71, (2602, .map [] 0), (2603, .map [] 0), o72, o73, o75, o76, o77, o78, o79, o80, o81, o89, o214, o92, o206, o105, o377, o108, o231, o110, o127, o128, o207, o216, o420, o457, o142, o394, o145, o355, o149, o371, o151, o161, o388, o163, o177, o178, o233, o379, o432, o189, o190, o389, o192, o196, o198, o218, o255, o269, o274, o395, o404, o380, o396, o408, o435, o458, o459, o460, o461, o462, o463]⟩
noncomputable def s71 : Summ := segS a71 p71 v71 q71
set_option maxRecDepth 1000000
theorem r71 : segR c71 60 5 a71 p71 v71 q71 = true := by decide +kernel
theorem x71 : CtxOK c71 := ⟨names_of KBase.names, KBase.mixed, (addS_ok (orS_ok k31 (orS_ok k34 (orS_ok k44 (orS_ok k70 badS_ok)))) (addS_ok (orS_ok k64 badS_ok) (addS_ok (orS_ok k35 badS_ok) KBase.S0_ok)))⟩
theorem k71 : SummOK Tryz.prog 5 s71 := seg_summ x71 r71
end IM
end Go.Ab
