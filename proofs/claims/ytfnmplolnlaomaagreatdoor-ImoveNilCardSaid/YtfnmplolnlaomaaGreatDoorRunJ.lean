import Derived.Test.YtfnmplolnlaomaaGreatDoorRunG
import Derived.Test.YtfnmplolnlaomaaGreatDoorRunH
import Derived.Test.YtfnmplolnlaomaaGreatDoorRunI
import Derived.Test.YtfnmplolnlaomaaGreatDoorBase
import Derived.Test.YtfnmplolnlaomaaGreatDoorData
namespace Go.Ab
open Go.RowKit Go.Proofs
namespace IM
noncomputable def c30 : Ctx := ⟨Tryz.prog, (addS 157 (orS (atNx 23206) s25 (orS (atNx 43727) s28 badS)) (addS 156 (orS (atNx 23178) s24 (orS (atNx 43703) s27 badS)) (addS 95 (orS (atNx 6781) s23 (orS (atNx 43688) s26 (orS (atNx 64209) s29 badS))) KBase.S0))), fun _ => false⟩
noncomputable def a30 : List AV := [(.ptr (.o (.i (.i (.i (.o (.o (.i (.o (.o (.i .h)))))))))) 0), (.func 95 [] [(.ptr (.o (.o (.i (.i (.i (.i (.i (.o (.o (.i (.o (.i .h)))))))))))) 0), (.ptr (.i (.o (.i (.i (.i (.i (.i (.o (.o (.i (.o (.i .h)))))))))))) 0)])]
noncomputable def p30 : Stt := ⟨6781, [o2, (1, .map [] 12), o1, o3, o4, (278, .map [] 0), (279, .map [] 0), o5, o6, o7, o8, o9, o10, o11, o12, o13, o14, o15, o16, o17, o18, o19, o20, o21, o22, o23, o24, o25, o40, (1262, .map [] 0), o27, (1264, .map [] 0), (1265, .map [] 0), o28, o29, o30, (1269, .map [] 0), (1270, .map [] 0), o31, o32, o33, o34, o35, o36, o37, o38, o39, o43, (1334, .map [] 12), o42, o131, o132, o183, o134, o184, o47, o98, o125, o51, o52, o53, o54, o171, o57, o58, o59, o60, o61, o62, o63, o64, o65, o66, (2595, .map [] 0), o68, o172, o185, o69, o70, o71, (2602, .map [] 0), (2603, .map [] 0), o72, o73, o75, o76, o77, o78, o79, o80, o81, o89, o126, o92, o93, o105, o174, o108, o109, o110, o127, o128, o129, o130, o186, o199, o142, o188, o145, o146, o149, o150, o151, o161, o162, o163, o177, o178, o179, o180, o181, o189, o190, o191, o192, o193, o194, o196, o198, o200, o201, o202, o203]⟩
noncomputable def v30 : AV := (.tup [(.int .i64 (.ofNat 2)), (.int .i64 (.ofNat 0))])
noncomputable def q30 : Stt := ⟨64210, [o2, (1, .map [] 12), o1, o3, o4, (278, .map [] 0), (279, .map [] 0), o5, o6, o7, o8, o9, o10, o11, o12, o13, o14, o15, o16, o17, o18, o19, o20, o21, o22, o23, o24, o25, o40, (1262, .map [] 0), o27, (1264, .map [] 0), (1265, .map [] 0), o28, o29, o30, (1269, .map [] 0), (1270, .map [] 0), o31, o32, o33, o34, o35, o36, o37, o38, o39, o235, (1334, .map [] 14), o42, o131, o132, o236, o212, o184, o47, o98, o213, o51, o52, o53, o54, o171, o57, o58, o59, o60, o61, o62, o63, o64, o65, o66, (2595, .map [] 0), o68, o172, o185, o69, o70, o71, (2602, .map [] 0), (2603, .map [] 0), o72, o73, o75, o76, o77, o78, o79, o80, o81, o89, o214, o92, o206, o105, o237, o108, o231, o110, o127, o128, o207, o216, o186, o232, o142, o238, o145, o146, o149, o150, o151, o161, o162, o163, o177, o178, o233, o239, o181, o189, o190, o191, o192, o193, o194, o196, o198, o200, o201, o202, o203, o218, o240, o241]⟩
noncomputable def s30 : Summ := segS a30 p30 v30 q30
set_option maxRecDepth 1000000
theorem r30 : segR c30 60 94 a30 p30 v30 q30 = true := by decide +kernel
theorem x30 : CtxOK c30 := ⟨names_of KBase.names, KBase.mixed, (addS_ok (orS_ok k25 (orS_ok k28 badS_ok)) (addS_ok (orS_ok k24 (orS_ok k27 badS_ok)) (addS_ok (orS_ok k23 (orS_ok k26 (orS_ok k29 badS_ok))) KBase.S0_ok)))⟩
theorem k30 : SummOK Tryz.prog 94 s30 := seg_summ x30 r30
end IM
end Go.Ab
namespace Go.Ab
open Go.RowKit Go.Proofs
namespace IM
noncomputable def c31 : Ctx := ⟨Tryz.prog, (addS 94 (orS (atNx 6781) s30 badS) KBase.S0), fun _ => false⟩
noncomputable def a31 : List AV := [(.ptr (.o (.i (.i (.i (.o (.o (.i (.o (.o (.i .h)))))))))) 0), (.int .i64 (.ofNat 2))]
noncomputable def p31 : Stt := ⟨6779, [o2, (1, .map [] 12), o1, o3, o4, (278, .map [] 0), (279, .map [] 0), o5, o6, o7, o8, o9, o10, o11, o12, o13, o14, o15, o16, o17, o18, o19, o20, o21, o22, o23, o24, o25, o40, (1262, .map [] 0), o27, (1264, .map [] 0), (1265, .map [] 0), o28, o29, o30, (1269, .map [] 0), (1270, .map [] 0), o31, o32, o33, o34, o35, o36, o37, o38, o39, o43, (1334, .map [] 12), o42, o131, o132, o183, o134, o184, o47, o98, o125, o51, o52, o53, o54, o171, o57, o58, o59, o60, o61, o62, o63, o64, o65, o66, (2595, .map [] 0), o68, o172, o185, o69, o70, o71, (2602, .map [] 0), (2603, .map [] 0), o72, o73, o75, o76, o77, o78, o79, o80, o81, o89, o126, o92, o93, o105, o174, o108, o109, o110, o127, o128, o129, o130, o186, o199, o142, o188, o145, o146, o149, o150, o151, o161, o162, o163, o177, o178, o179, o180, o181, o189, o190, o191, o192, o193, o194, o196, o198, o200, o201]⟩
noncomputable def v31 : AV := (.tup [(.int .i64 (.ofNat 2)), (.int .i64 (.ofNat 0))])
noncomputable def q31 : Stt := ⟨64210, [o2, (1, .map [] 12), o1, o3, o4, (278, .map [] 0), (279, .map [] 0), o5, o6, o7, o8, o9, o10, o11, o12, o13, o14, o15, o16, o17, o18, o19, o20, o21, o22, o23, o24, o25, o40, (1262, .map [] 0), o27, (1264, .map [] 0), (1265, .map [] 0), o28, o29, o30, (1269, .map [] 0), (1270, .map [] 0), o31, o32, o33, o34, o35, o36, o37, o38, o39, o235, (1334, .map [] 14), o42, o131, o132, o236, o212, o184, o47, o98, o213, o51, o52, o53, o54, o171, o57, o58, o59, o60, o61, o62, o63, o64, o65, o66, (2595, .map [] 0), o68, o172, o185, o69, o70, o71, (2602, .map [] 0), (2603, .map [] 0), o72, o73, o75, o76, o77, o78, o79, o80, o81, o89, o214, o92, o206, o105, o237, o108, o231, o110, o127, o128, o207, o216, o186, o232, o142, o238, o145, o146, o149, o150, o151, o161, o162, o163, o177, o178, o233, o239, o181, o189, o190, o191, o192, o193, o194, o196, o198, o200, o201, o218, o240, o241]⟩
noncomputable def s31 : Summ := segS a31 p31 v31 q31
set_option maxRecDepth 1000000
theorem r31 : segR c31 60 43 a31 p31 v31 q31 = true := by decide +kernel
theorem x31 : CtxOK c31 := ⟨names_of KBase.names, KBase.mixed, (addS_ok (orS_ok k30 badS_ok) KBase.S0_ok)⟩
theorem k31 : SummOK Tryz.prog 43 s31 := seg_summ x31 r31
end IM
end Go.Ab
namespace Go.Ab
open Go.RowKit Go.Proofs
namespace IM
noncomputable def c32 : Ctx := ⟨Tryz.prog, KBase.S0, fun _ => false⟩
noncomputable def a32 : List AV := [(.ptr (.i (.i (.o (.o (.i (.o (.i (.i (.o (.i (.o (.i (.i (.i (.i .h))))))))))))))) 0), (.ptr (.o (.o (.i (.o (.i (.o (.i (.i (.o (.i (.o (.i (.i (.i (.i .h))))))))))))))) 0)]
noncomputable def p32 : Stt := ⟨64212, [o2, (1, .map [] 12), o1, o3, o4, (278, .map [] 0), (279, .map [] 0), o5, o6, o7, o8, o9, o10, o11, o12, o13, o14, o15, o16, o17, o18, o19, o20, o21, o22, o23, o24, o25, o40, (1262, .map [] 0), o27, (1264, .map [] 0), (1265, .map [] 0), o28, o29, o30, (1269, .map [] 0), (1270, .map [] 0), o31, o32, o33, o34, o35, o36, o37, o38, o39, o235, (1334, .map [] 14), o42, o131, o132, o236, o212, o184, o47, o98, o213, o51, o52, o53, o54, o171, o57, o58, o59, o60, o61, o62, o63, o64, o65, o66, (2595, .map [] 0), o68, o172, o185, o69, o70, o71, (2602, .map [] 0), (2603, .map [] 0), o72, o73, o75, o76, o77, o78, o79, o80, o81, o89, o214, o92, o206, o105, o237, o108, o231, o110, o127, o128, o207, o216, o186, o232, o142, o238, o145, o146, o149, o150, o151, o161, o162, o163, o177, o178, o233, o239, o181, o189, o190, o191, o192, o193, o194, o196, o198, o200, o201, o218, o240, o241, o246, o247]⟩
noncomputable def v32 : AV := .nils
noncomputable def q32 : Stt := ⟨64213, [o2, (1, .map [] 12), o1, o3, o4, (278, .map [] 0), (279, .map [] 0), o5, o6, o7, o8, o9, o10, o11, o12, o13, o14, o15, o16, o17, o18, o19, o20, o21, o22, o23, o24, o25, o40, (1262, .map [] 0), o27, (1264, .map [] 0), (1265, .map [] 0), o28, o29, o30, (1269, .map [] 0), (1270, .map [] 0), o31, o32, o33, o34, o35, o36, o37, o38, o39, o235, (1334, .map [] 14), o42, o131, o132, o236, o212, o184, o47, o98, o213, o51, o52, o53, o54, o171, o57, o58, o59, o60, o61, o62, o63, o64, o65, o66, (2595, .map [] 0), o68, o172, o185, o69, o70, o71, (2602, .map [] 0), (2603, .map [] 0), o72, o73, o75, o76, o77, o78, o79, o80, o81, o89, o214, o92, o206, o105, o237, o108, o231, o110, o127, o128, o207, o216, o186, o232, o142, o238, o145, o146, o149, o150, o151, o161, o162, o163, o177, o178, o233, o239, o181, o189, o190, o191, o192, o193, o194, o196, o198, o200, o201, o218, o240, o241, o246, o247]⟩
noncomputable def s32 : Summ := segS a32 p32 v32 q32
set_option maxRecDepth 1000000
theorem r32 : segR c32 60 95 a32 p32 v32 q32 = true := by decide +kernel
theorem x32 : CtxOK c32 := ⟨names_of KBase.names, KBase.mixed, KBase.S0_ok⟩
theorem k32 : SummOK Tryz.prog 95 s32 := seg_summ x32 r32
end IM
end Go.Ab
namespace Go.Ab
open Go.RowKit Go.Proofs
namespace IM
noncomputable def c33 : Ctx := ⟨Tryz.prog, (addS 95 (orS (atNx 64212) s32 badS) KBase.S0), fun _ => false⟩
noncomputable def a33 : List AV := [(.ptr (.o (.i (.i (.i (.o (.o (.i (.o (.o (.i .h)))))))))) 0), (.func 95 [] [(.ptr (.i (.i (.o (.o (.i (.o (.i (.i (.o (.i (.o (.i (.i (.i (.i .h))))))))))))))) 0), (.ptr (.o (.o (.i (.o (.i (.o (.i (.i (.o (.i (.o (.i (.i (.i (.i .h))))))))))))))) 0)])]
noncomputable def p33 : Stt := ⟨64212, [o2, (1, .map [] 12), o1, o3, o4, (278, .map [] 0), (279, .map [] 0), o5, o6, o7, o8, o9, o10, o11, o12, o13, o14, o15, o16, o17, o18, o19, o20, o21, o22, o23, o24, o25, o40, (1262, .map [] 0), o27, (1264, .map [] 0), (1265, .map [] 0), o28, o29, o30, (1269, .map [] 0), (1270, .map [] 0), o31, o32, o33, o34, o35, o36, o37, o38, o39, o235, (1334, .map [] 14), o42, o131, o132, o236, o212, o184, o47, o98, o213, o51, o52, o53, o54, o171, o57, o58, o59, o60, o61, o62, o63, o64, o65, o66, (2595, .map [] 0), o68, o172, o185, o69, o70, o71, (2602, .map [] 0), (2603, .map [] 0), o72, o73, o75, o76, o77, o78, o79, o80, o81, o89, o214, o92, o206, o105, o237, o108, o231, o110, o127, o128, o207, o216, o186, o232, o142, o238, o145, o146, o149, o150, o151, o161, o162, o163, o177, o178, o233, o239, o181, o189, o190, o191, o192, o193, o194, o196, o198, o200, o201, o218, o240, o241, o246, o247]⟩
noncomputable def v33 : AV := (.tup [(.int .i64 (.ofNat 0)), (.int .i64 (.ofNat 0))])
noncomputable def q33 : Stt := ⟨64213, [o2, (1, .map [] 12), o1, o3, o4, (278, .map [] 0), (279, .map [] 0), o5, o6, o7, o8, o9, o10, o11, o12, o13, o14, o15, o16, o17, o18, o19, o20, o21, o22, o23, o24, o25, o40, (1262, .map [] 0), o27, (1264, .map [] 0), (1265, .map [] 0), o28, o29, o30, (1269, .map [] 0), (1270, .map [] 0), o31, o32, o33, o34, o35, o36, o37, o38, o39, o235, (1334, .map [] 14), o42, o131, o132, o236, o212, o184, o47, o98, o213, o51, o52, o53, o54, o171, o57, o58, o59, o60, o61, o62, o63, o64, o65, o66, (2595, .map [] 0), o68, o172, o185, o69, o70, o71, (2602, .map [] 0), (2603, .map [] 0), o72, o73, o75, o76, o77, o78, o79, o80, o81, o89, o214, o92, o206, o105, o237, o108, o231, o110, o127, o128, o207, o216, o186, o232, o142, o238, o145, o146, o149, o150, o151, o161, o162, o163, o177, o178, o233, o239, o181, o189, o190, o191, o192, o193, o194, o196, o198, o200, o201, o218, o240, o241, o246, o247]⟩
noncomputable def s33 : Summ := segS a33 p33 v33 q33
set_option maxRecDepth 1000000
theorem r33 : segR c33 60 94 a33 p33 v33 q33 = true := by decide +kernel
theorem x33 : CtxOK c33 := ⟨names_of KBase.names, KBase.mixed, (addS_ok (orS_ok k32 badS_ok) KBase.S0_ok)⟩
theorem k33 : SummOK Tryz.prog 94 s33 := seg_summ x33 r33
end IM
end Go.Ab
namespace Go.Ab
open Go.RowKit Go.Proofs
namespace IM
noncomputable def c34 : Ctx := ⟨Tryz.prog, (addS 94 (orS (atNx 64212) s33 badS) KBase.S0), fun _ => false⟩
noncomputable def a34 : List AV := [(.ptr (.o (.i (.i (.i (.o (.o (.i (.o (.o (.i .h)))))))))) 0), (.int .i64 (.ofNat 7))]
noncomputable def p34 : Stt := ⟨64210, [o2, (1, .map [] 12), o1, o3, o4, (278, .map [] 0), (279, .map [] 0), o5, o6, o7, o8, o9, o10, o11, o12, o13, o14, o15, o16, o17, o18, o19, o20, o21, o22, o23, o24, o25, o40, (1262, .map [] 0), o27, (1264, .map [] 0), (1265, .map [] 0), o28, o29, o30, (1269, .map [] 0), (1270, .map [] 0), o31, o32, o33, o34, o35, o36, o37, o38, o39, o235, (1334, .map [] 14), o42, o131, o132, o236, o212, o184, o47, o98, o213, o51, o52, o53, o54, o171, o57, o58, o59, o60, o61, o62, o63, o64, o65, o66, (2595, .map [] 0), o68, o172, o185, o69, o70, o71, (2602, .map [] 0), (2603, .map [] 0), o72, o73, o75, o76, o77, o78, o79, o80, o81, o89, o214, o92, o206, o105, o237, o108, o231, o110, o127, o128, o207, o216, o186, o232, o142, o238, o145, o146, o149, o150, o151, o161, o162, o163, o177, o178, o233, o239, o181, o189, o190, o191, o192, o193, o194, o196, o198, o200, o201, o218, o240, o241]⟩
noncomputable def v34 : AV := (.tup [(.int .i64 (.ofNat 0)), (.int .i64 (.ofNat 0))])
noncomputable def q34 : Stt := ⟨64213, [o2, (1, .map [] 12), o1, o3, o4, (278, .map [] 0), (279, .map [] 0), o5, o6, o7, o8, o9, o10, o11, o12, o13, o14, o15, o16, o17, o18, o19, o20, o21, o22, o23, o24, o25, o40, (1262, .map [] 0), o27, (1264, .map [] 0), (1265, .map [] 0), o28, o29, o30, (1269, .map [] 0), (1270, .map [] 0), o31, o32, o33, o34, o35, o36, o37, o38, o39, o235, (1334, .map [] 14), o42, o131, o132, o236, o212, o184, o47, o98, o213, o51, o52, o53, o54, o171, o57, o58, o59, o60, o61, o62, o63, o64, o65, o66, (2595, .map [] 0), o68, o172, o185, o69, o70, o71, (2602, .map [] 0), (2603, .map [] 0), o72, o73, o75, o76, o77, o78, o79, o80, o81, o89, o214, o92, o206, o105, o237, o108, o231, o110, o127, o128, o207, o216, o186, o232, o142, o238, o145, o146, o149, o150, o151, o161, o162, o163, o177, o178, o233, o239, o181, o189, o190, o191, o192, o193, o194, o196, o198, o200, o201, o218, o240, o241]⟩
noncomputable def s34 : Summ := segS a34 p34 v34 q34
set_option maxRecDepth 1000000
theorem r34 : segR c34 60 43 a34 p34 v34 q34 = true := by decide +kernel
theorem x34 : CtxOK c34 := ⟨names_of KBase.names, KBase.mixed, (addS_ok (orS_ok k33 badS_ok) KBase.S0_ok)⟩
theorem k34 : SummOK Tryz.prog 43 s34 := seg_summ x34 r34
end IM
end Go.Ab
namespace Go.Ab
open Go.RowKit Go.Proofs
namespace IM
noncomputable def c35 : Ctx := ⟨Tryz.prog, KBase.S0, fun _ => false⟩
noncomputable def a35 : List AV := [(.ptr (.i (.o (.i (.o (.o (.i (.o (.o (.o (.i (.o .h))))))))))) 0), (.int .i64 (.ofNat 9))]
noncomputable def p35 : Stt := ⟨64213, [o2, (1, .map [] 12), o1, o3, o4, (278, .map [] 0), (279, .map [] 0), o5, o6, o7, o8, o9, o10, o11, o12, o13, o14, o15, o16, o17, o18, o19, o20, o21, o22, o23, o24, o25, o40, (1262, .map [] 0), o27, (1264, .map [] 0), (1265, .map [] 0), o28, o29, o30, (1269, .map [] 0), (1270, .map [] 0), o31, o32, o33, o34, o35, o36, o37, o38, o39, o235, (1334, .map [] 14), o42, o131, o132, o236, o212, o184, o47, o98, o213, o51, o52, o53, o54, o171, o57, o58, o59, o60, o61, o62, o63, o64, o65, o66, (2595, .map [] 0), o68, o172, o185, o69, o70, o71, (2602, .map [] 0), (2603, .map [] 0), o72, o73, o75, o76, o77, o78, o79, o80, o81, o89, o214, o92, o206, o105, o237, o108, o231, o110, o127, o128, o207, o216, o186, o232, o142, o238, o145, o146, o149, o150, o151, o161, o162, o163, o177, o178, o233, o239, o181, o189, o190, o191, o192, o193, o194, o196, o198, o200, o201, o218, o240, o241]⟩
noncomputable def v35 : AV := (.tup [(.int .i64 (.ofNat 10)), (.int .i64 (.ofNat 9)), (.int .i64 (.ofNat 0))])
noncomputable def q35 : Stt := ⟨64465, [o2, (1, .map [] 12), o1, o3, o4, (278, .map [] 0), (279, .map [] 0), o5, o6, o7, o8, o9, o10, o11, o12, o13, o14, o15, o16, o17, o18, o19, o20, o21, o22, o23, o24, o25, o40, (1262, .map [] 0), o27, (1264, .map [] 0), (1265, .map [] 0), o28, o29, o30, (1269, .map [] 0), (1270, .map [] 0), o31, o32, o33, o34, o35, o36, o37, o38, o39, o235, (1334, .map [] 14), o42, o131, o132, o248, o249, o250, o47, o98, o213, o51, o251, o53, o54, o171, o57, o58, o59, o60, o61, o62, o63, o64, o65, o66, (2595, .map [] 0), o68, o172, o185, o69, o70, o71, (2602, .map [] 0), (2603, .map [] 0), o72, o73, o75, o76, o77, o78, o79, o80, o81, o89, o214, o92, o206, o105, o237, o108, o231, o110, o127, o128, o207, o216, o186, o252, o142, o238, o145, o146, o149, o150, o151, o161, o162, o163, o177, o178, o233, o239, o181, o189, o190, o191, o192, o193, o194, o196, o198, o200, o201, o218, o240, o241, o253, o254, o255, o256, o257, o258]⟩
noncomputable def s35 : Summ := segS a35 p35 v35 q35
set_option maxRecDepth 1000000
theorem r35 : segR c35 60 21 a35 p35 v35 q35 = true := by decide +kernel
theorem x35 : CtxOK c35 := ⟨names_of KBase.names, KBase.mixed, KBase.S0_ok⟩
theorem k35 : SummOK Tryz.prog 21 s35 := seg_summ x35 r35
end IM
end Go.Ab
namespace Go.Ab
open Go.RowKit Go.Proofs
namespace IM
noncomputable def c36 : Ctx := ⟨Tryz.prog, KBase.S0, fun _ => false⟩
noncomputable def a36 : List AV := [(.ptr (.i (.o (.i (.o (.o (.o (.o (.o (.o (.o (.i (.i (.i (.i (.i .h))))))))))))))) 0), (.ptr (.o (.i (.i (.o (.o (.o (.o (.o (.o (.o (.i (.i (.i (.i (.i .h))))))))))))))) 0)]
noncomputable def p36 : Stt := ⟨64518, [o2, (1, .map [] 12), o1, o3, o4, (278, .map [] 0), (279, .map [] 0), o5, o6, o7, o8, o9, o10, o11, o12, o13, o14, o15, o16, o17, o18, o19, o20, o21, o22, o23, o24, o25, o40, (1262, .map [] 0), o27, (1264, .map [] 0), (1265, .map [] 0), o28, o29, o30, (1269, .map [] 0), (1270, .map [] 0), o31, o32, o33, o34, o35, o36, o37, o38, o39, o235, (1334, .map [] 14), o42, o131, o132, o259, o260, o261, o47, o98, o213, o51, o251, o53, o54, o171, o57, o58, o59, o262, o61, o62, o63, o64, o65, o66, (2595, .map [] 0), o68, o263, o264, o69, o70, o71, (2602, .map [] 0), (2603, .map [] 0), o72, o73, o75, o76, o77, o78, o79, o80, o81, o89, o214, o92, o206, o105, o237, o108, o231, o110, o127, o128, o207, o216, o186, o265, o142, o238, o145, o146, o149, o150, o151, o161, o162, o163, o177, o178, o233, o239, o181, o189, o190, o191, o192, o193, o194, o196, o198, o200, o201, o218, o240, o241, o253, o254, o255, o256, o257, o258, o266, o267, o268, o269, o270, o271, o272, o273, o274, o275, o276, o277]⟩
noncomputable def v36 : AV := (.sl (.o (.i (.i (.i (.o (.o (.o (.o (.o (.o (.i (.i (.i (.i (.o (.o .h)))))))))))))))) 0 2 2 1 false)
noncomputable def q36 : Stt := ⟨80910, [o2, (1, .map [] 12), o1, o3, o4, (278, .map [] 0), (279, .map [] 0), o5, o6, o7, o8, o9, o10, o11, o12, o13, o14, o15, o16, o17, o18, o19, o20, o21, o22, o23, o24, o25, o40, (1262, .map [] 0), o27, (1264, .map [] 0), (1265, .map [] 0), o28, o29, o30, (1269, .map [] 0), (1270, .map [] 0), o31, o32, o33, o34, o35, o36, o37, o38, o39, o235, (1334, .map [] 14), o42, o131, o132, o259, o260, o261, o47, o98, o213, o51, o251, o53, o54, o171, o57, o58, o59, o262, o61, o62, o63, o64, o65, o66, (2595, .map [] 0), o68, o263, o264, o69, o70, o71, (2602, .map [] 0), (2603, .map [] 0), o72, o73, o75, o76, o77, o78, o79, o80, o81, o89, o214, o92, o206, o105, o237, o108, o231, o110, o127, o128, o207, o216, o186, o265, o142, o238, o145, o146, o149, o150, o151, o161, o162, o163, o177, o178, o233, o239, o181, o189, o190, o191, o192, o193, o194, o196, o198, o200, o201, o218, o240, o241, o253, o254, o255, o256, o257, o258, o266, o267, o268, o269, o270, o271, o272, o273, o274, o275, o276, o277, o278]⟩
noncomputable def s36 : Summ := segS a36 p36 v36 q36
set_option maxRecDepth 1000000
theorem r36 : segR c36 60 95 a36 p36 v36 q36 = true := by decide +kernel
theorem x36 : CtxOK c36 := ⟨names_of KBase.names, KBase.mixed, KBase.S0_ok⟩
theorem k36 : SummOK Tryz.prog 95 s36 := seg_summ x36 r36
end IM
end Go.Ab
namespace Go.Ab
open Go.RowKit Go.Proofs
namespace IM
noncomputable def c37 : Ctx := ⟨Tryz.prog, KBase.S0, fun _ => false⟩
noncomputable def a37 : List AV := [(.ptr (.o (.i (.i (.i (.o (.o (.i (.o (.o (.i .h)))))))))) 0), (.int .i64 (.ofNat 34))]
noncomputable def p37 : Stt := ⟨80914, [o2, (1, .map [] 12), o1, o3, o4, (278, .map [] 0), (279, .map [] 0), o5, o6, o7, o8, o9, o10, o11, o12, o13, o14, o15, o16, o17, o18, o19, o20, o21, o22, o23, o24, o25, o40, (1262, .map [] 0), o27, (1264, .map [] 0), (1265, .map [] 0), o28, o29, o30, (1269, .map [] 0), (1270, .map [] 0), o31, o32, o33, o34, o35, o36, o37, o38, o39, o235, (1334, .map [] 14), o42, o131, o132, o259, o260, o261, o47, o98, o213, o51, o251, o53, o54, o171, o57, o58, o59, o262, o61, o62, o63, o64, o65, o66, (2595, .map [] 0), o68, o263, o264, o69, o70, o71, (2602, .map [] 0), (2603, .map [] 0), o72, o73, o75, o76, o77, o78, o79, o80, o81, o89, o214, o92, o206, o105, o237, o108, o231, o110, o127, o128, o207, o216, o186, o265, o142, o238, o145, o146, o149, o150, o151, o161, o162, o163, o177, o178, o233, o239, o181, o189, o190, o191, o192, o193, o194, o196, o198, o200, o201, o218, o240, o241, o253, o254, o255, o256, o257, o258, o266, o267, o268, o269, o270, o271, o272, o273, o274, o275, o276, o277, o278]⟩
noncomputable def v37 : AV := (.int .i64 (.ofNat 0))
noncomputable def q37 : Stt := ⟨80934, [o2, (1, .map [] 12), o1, o3, o4, (278, .map [] 0), (279, .map [] 0), o5, o6, o7, o8, o9, o10, o11, o12, o13, o14, o15, o16, o17, o18, o19, o20, o21, o22, o23, o24, o25, o40, (1262, .map [] 0), o27, (1264, .map [] 0), (1265, .map [] 0), o28, o29, o30, (1269, .map [] 0), (1270, .map [] 0), o31, o32, o33, o34, o35, o36, o37, o38, o39, o235, o279, o42, o131, o132, o259, o260, o261, o47, o98, o213, o51, o251, o53, o54, o171, o57, o58, o59, o262, o61, o62, o63, o64, o65, o66, (2595, .map [] 0), o68, o263, o264, o69, o70, o71, (2602, .map [] 0), (2603, .map [] 0), o72, o73, o75, o76, o77, o78, o79, o80, o81, o89, o214, o92, o206, o105, o237, o108, o231, o110, o127, o128, o207, o216, o186, o280, o142, o238, o145, o146, o149, o150, o151, o161, o162, o163, o177, o178, o233, o239, o181, o189, o190, o191, o192, o193, o194, o196, o198, o200, o201, o218, o240, o241, o253, o254, o255, o256, o281, o258, o266, o267, o268, o269, o270, o271, o272, o273, o274, o275, o276, o277, o278, o282]⟩
noncomputable def s37 : Summ := segS a37 p37 v37 q37
set_option maxRecDepth 1000000
theorem r37 : segR c37 60 156 a37 p37 v37 q37 = true := by decide +kernel
theorem x37 : CtxOK c37 := ⟨names_of KBase.names, KBase.mixed, KBase.S0_ok⟩
theorem k37 : SummOK Tryz.prog 156 s37 := seg_summ x37 r37
end IM
end Go.Ab
