import Derived.Test.YtlcnngohlalhbaaGreatDoorBase
import Derived.Test.YtlcnngohlalhbaaGreatDoorData
namespace Go.Ab
open Go.RowKit Go.Proofs
namespace DF
noncomputable def c13 : Ctx := ⟨Tryz.prog, KBase.S0, fun _ => false⟩
noncomputable def a13 : List AV := [(.ptr (.i (.i (.i (.i (.o (.i (.i (.o (.o (.i .h)))))))))) 0), (.int .i64 (.ofNat 0))]
noncomputable def p13 : Stt := ⟨4960, [o2, (1, .map [] 15), o1, o97, o98, o120, o100, o121, o6, o64, o91, o10, o11, o12, o13, o14, o15, o102, o18, o19, o20, o21, o22, o23, o24, o25, o26, o27, o28, o29, o30, o31, (1645, .map [] 0), o33, o103, o122, o34, o35, o36, (1652, .map [] 0), (1653, .map [] 0), o132, o38, o40, o41, o42, o43, o44, o45, o46, o47, o55, o92, o58, o59, o71, o105, o74, o75, o76, o78, o93, o94, o95, o96, o123, o133, o108, o125, o111, o112, o114, o115, o116, o117, o118, o126, o127, o128, o129, o130, o131, o134, o135, o136, o137, o138, o139]⟩
noncomputable def v13 : AV := (.tup [(.int .i64 (.ofNat 6)), (.int .i64 (.ofNat 7)), (.int .i64 (.ofNat 0))])
noncomputable def q13 : Stt := ⟨5220, [o2, (1, .map [] 15), o1, o97, o98, o140, o100, o141, o6, o64, o142, o10, o11, o12, o13, o14, o15, o102, o18, o19, o20, o21, o22, o23, o24, o25, o26, o27, o28, o29, o30, o31, (1645, .map [] 0), o33, o103, o122, o34, o35, o36, (1652, .map [] 0), (1653, .map [] 0), o132, o38, o40, o41, o42, o43, o44, o45, o46, o47, o55, o143, o58, o59, o71, o105, o74, o75, o76, o78, o93, o94, o95, o123, o144, o108, o125, o111, o112, o114, o115, o116, o117, o118, o126, o127, o128, o129, o130, o131, o134, o135, o136, o137, o138, o139, o145, o146, o147, o148]⟩
noncomputable def s13 : Summ := segS a13 p13 v13 q13
set_option maxRecDepth 1000000
theorem r13 : segR c13 60 164 a13 p13 v13 q13 = true := by decide +kernel
theorem x13 : CtxOK c13 := ⟨names_of KBase.names, KBase.mixed, KBase.S0_ok⟩
theorem k13 : SummOK Tryz.prog 164 s13 := seg_summ x13 r13
end DF
end Go.Ab
namespace Go.Ab
open Go.RowKit Go.Proofs
namespace DF
noncomputable def c14 : Ctx := ⟨Tryz.prog, KBase.S0, fun _ => false⟩
noncomputable def a14 : List AV := [(.ptr (.i (.i (.i (.i (.o (.i (.i (.o (.o (.i .h)))))))))) 0), (.int .i64 (.ofNat 6))]
noncomputable def p14 : Stt := ⟨5259, [o2, (1, .map [] 15), o1, o149, o150, o151, o152, o153, o6, o64, o142, o10, o11, o12, o13, o14, o15, o102, o18, o19, o20, o21, o22, o23, o24, o25, o26, o27, o28, o29, o30, o31, (1645, .map [] 0), o33, o103, o154, o34, o35, o36, (1652, .map [] 0), (1653, .map [] 0), o132, o38, o40, o41, o42, o43, o44, o45, o46, o47, o55, o143, o58, o59, o71, o105, o74, o75, o76, o93, o94, o95, o123, o108, o125, o111, o112, o114, o115, o116, o117, o118, o126, o127, o128, o129, o130, o131, o134, o135, o136, o155, o145, o146, o147, o148, o156, o157, o158, o159, o160, o161, o162, o163, o164, o165, o166, o167]⟩
noncomputable def v14 : AV := (.tup [(.int .i64 (.ofNat 7)), (.int .i64 (.ofNat 9)), (.int .i64 (.ofNat 0))])
noncomputable def q14 : Stt := ⟨5529, [o2, (1, .map [] 15), o1, o149, o150, o168, o152, o169, o6, o64, o170, o10, o11, o12, o13, o14, o15, o102, o18, o19, o20, o21, o22, o23, o24, o25, o26, o27, o28, o29, o30, o31, (1645, .map [] 0), o33, o103, o154, o34, o35, o36, (1652, .map [] 0), (1653, .map [] 0), o132, o38, o40, o41, o42, o43, o44, o45, o46, o47, o55, o171, o58, o59, o71, o105, o74, o75, o76, o93, o94, o95, o123, o108, o125, o111, o112, o114, o115, o116, o117, o118, o126, o127, o128, o129, o130, o131, o134, o135, o136, o155, o145, o146, o147, o156, o172, o158, o159, o160, o161, o162, o163, o164, o165, o166, o167, o173, o174, o175, o176]⟩
noncomputable def s14 : Summ := segS a14 p14 v14 q14
set_option maxRecDepth 1000000
theorem r14 : segR c14 60 164 a14 p14 v14 q14 = true := by decide +kernel
theorem x14 : CtxOK c14 := ⟨names_of KBase.names, KBase.mixed, KBase.S0_ok⟩
theorem k14 : SummOK Tryz.prog 164 s14 := seg_summ x14 r14
end DF
end Go.Ab
namespace Go.Ab
open Go.RowKit Go.Proofs
namespace DF
noncomputable def c15 : Ctx := ⟨Tryz.prog, (addS 164 (orS (atNx 4960) s13 (orS (atNx 5259) s14 badS)) KBase.S0), fun _ => false⟩
noncomputable def a15 : List AV := [(.ptr (.o (.i (.o (.o (.i (.i (.i (.o (.o (.i .h)))))))))) 0), (.int .i64 (.ofNat 2)), (.int .i64 (.ofNat 0)), (.sl (.i (.i (.o (.o (.i (.i (.i (.i (.i (.o (.o (.o .h)))))))))))) 0 500 500 1 false)]
noncomputable def p15 : Stt := ⟨4595, [o2, (1, .map [] 15), o1, o97, o98, o120, o100, o121, o6, o64, o91, o10, o11, o12, o13, o14, o15, o102, o18, o19, o20, o21, o22, o23, o24, o25, o26, o27, o28, o29, o30, o31, (1645, .map [] 0), o33, o103, o122, o34, o35, o36, (1652, .map [] 0), (1653, .map [] 0), o132, o38, o40, o41, o42, o43, o44, o45, o46, o47, o55, o92, o58, o59, o71, o105, o74, o75, o76, o78, o93, o94, o95, o96, o123, o107, o108, o125, o111, o112, o114, o115, o116, o117, o118, o126, o127, o128, o129, o130, o131, o134, o135]⟩
noncomputable def v15 : AV := (.int .i64 (.ofNat 0))
noncomputable def q15 : Stt := ⟨5619, [o2, (1, .map [] 15), o1, o177, o178, o179, o180, o181, o6, o64, o170, o10, o11, o12, o13, o14, o15, o182, o18, o19, o20, o21, o22, o23, o24, o25, o26, o27, o28, o29, o30, o31, (1645, .map [] 0), o33, o183, o184, o34, o35, o36, (1652, .map [] 0), (1653, .map [] 0), o132, o38, o40, o41, o42, o43, o44, o45, o46, o47, o55, o171, o58, o59, o71, o185, o74, o75, o76, o93, o94, o95, o123, o108, o125, o111, o112, o114, o115, o116, o117, o126, o127, o128, o129, o130, o131, o134, o135, o146, o147, o156, o158, o159, o160, o161, o162, o163, o173, o174, o175, o176, o186, o187, o188, o189, o190, o191, o192, o193, o194, o195, o196, o197, o198, o199]⟩
noncomputable def s15 : Summ := segS a15 p15 v15 q15
set_option maxRecDepth 1000000
theorem r15 : segR c15 60 107 a15 p15 v15 q15 = true := by decide +kernel
theorem x15 : CtxOK c15 := ⟨names_of KBase.names, KBase.mixed, (addS_ok (orS_ok k13 (orS_ok k14 badS_ok)) KBase.S0_ok)⟩
theorem k15 : SummOK Tryz.prog 107 s15 := seg_summ x15 r15
end DF
end Go.Ab
namespace Go.Ab
open Go.RowKit Go.Proofs
namespace DF
noncomputable def c16 : Ctx := ⟨Tryz.prog, (addS 107 (orS (atNx 4595) s15 badS) KBase.S0), fun _ => false⟩
noncomputable def a16 : List AV := [(.ptr (.o (.o (.o (.i (.i (.i (.i (.o (.o (.i .h)))))))))) 0), (.int .i64 (.ofNat 0)), (.int .i64 (.ofNat 0)), (.sl (.i (.i (.o (.o (.i (.i (.i (.i (.i (.o (.o (.o .h)))))))))))) 0 500 500 1 false)]
noncomputable def p16 : Stt := ⟨4595, [o2, (1, .map [] 15), o1, o97, o98, o120, o100, o121, o6, o64, o91, o10, o11, o12, o13, o14, o15, o102, o18, o19, o20, o21, o22, o23, o24, o25, o26, o27, o28, o29, o30, o31, (1645, .map [] 0), o33, o103, o122, o34, o35, o36, (1652, .map [] 0), (1653, .map [] 0), o132, o38, o40, o41, o42, o43, o44, o45, o46, o47, o55, o92, o58, o59, o71, o105, o74, o75, o76, o78, o93, o94, o95, o96, o123, o107, o108, o125, o111, o112, o114, o115, o116, o117, o118, o126, o127, o128, o129, o130, o131, o134, o135]⟩
noncomputable def v16 : AV := (.int .i64 (.ofNat 0))
noncomputable def q16 : Stt := ⟨5619, [o2, (1, .map [] 15), o1, o177, o178, o179, o180, o181, o6, o64, o170, o10, o11, o12, o13, o14, o15, o182, o18, o19, o20, o21, o22, o23, o24, o25, o26, o27, o28, o29, o30, o31, (1645, .map [] 0), o33, o183, o184, o34, o35, o36, (1652, .map [] 0), (1653, .map [] 0), o132, o38, o40, o41, o42, o43, o44, o45, o46, o47, o55, o171, o58, o59, o71, o185, o74, o75, o76, o93, o94, o95, o123, o108, o125, o111, o112, o114, o115, o116, o117, o126, o127, o128, o129, o130, o131, o134, o135, o146, o147, o156, o158, o159, o160, o161, o162, o163, o173, o174, o175, o176, o186, o187, o188, o189, o190, o191, o192, o193, o194, o195, o196, o197, o198, o199]⟩
noncomputable def s16 : Summ := segS a16 p16 v16 q16
set_option maxRecDepth 1000000
theorem r16 : segR c16 60 49 a16 p16 v16 q16 = true := by decide +kernel
theorem x16 : CtxOK c16 := ⟨names_of KBase.names, KBase.mixed, (addS_ok (orS_ok k15 badS_ok) KBase.S0_ok)⟩
theorem k16 : SummOK Tryz.prog 49 s16 := seg_summ x16 r16
end DF
end Go.Ab
