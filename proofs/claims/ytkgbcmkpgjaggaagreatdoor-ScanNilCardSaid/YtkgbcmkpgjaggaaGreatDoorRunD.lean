import Derived.Test.YtkgbcmkpgjaggaaGreatDoorBase
import Derived.Test.YtkgbcmkpgjaggaaGreatDoorData
namespace Go.Ab
open Go.RowKit Go.Proofs
namespace SC
noncomputable def c13 : Ctx := ⟨Tryz.prog, KBase.S0, fun _ => false⟩
noncomputable def a13 : List AV := [(.ptr (.i (.o (.o (.i (.i (.i (.i (.o (.i .h))))))))) 0), (.int .i64 (.ofNat 0))]
noncomputable def p13 : Stt := ⟨2701, [o0, o1, o2, o3, o6, (7, .map [] 9), o5, o82, o83, o105, o85, o106, o10, o49, o76, o14, o15, o87, o18, o19, o20, o21, o22, o23, (887, .map [] 0), o25, o88, o107, o26, o27, o28, (894, .map [] 0), (895, .map [] 0), o118, o30, o32, o40, o77, o43, o44, o56, o90, o59, o60, o61, o63, o78, o79, o80, o81, o108, o119, o93, o110, o96, o97, o99, o100, o101, o102, o103, o111, o112, o113, o114, o115, o116, o117, o120, o121, o122, o123, o124]⟩
noncomputable def v13 : AV := (.tup [(.int .i64 (.ofNat 6)), (.int .i64 (.ofNat 7)), (.int .i64 (.ofNat 0))])
noncomputable def q13 : Stt := ⟨2961, [o0, o1, o2, o3, o6, (7, .map [] 9), o5, o82, o83, o125, o85, o126, o10, o49, o127, o14, o15, o87, o18, o19, o20, o21, o22, o23, (887, .map [] 0), o25, o88, o107, o26, o27, o28, (894, .map [] 0), (895, .map [] 0), o118, o30, o32, o40, o128, o43, o44, o56, o90, o59, o60, o61, o63, o78, o79, o80, o108, o129, o93, o110, o96, o97, o99, o100, o101, o102, o103, o111, o112, o113, o114, o115, o116, o117, o120, o121, o122, o123, o124, o130, o131, o132, o133]⟩
noncomputable def s13 : Summ := segS a13 p13 v13 q13
set_option maxRecDepth 1000000
theorem r13 : segR c13 60 330 a13 p13 v13 q13 = true := by decide +kernel
theorem x13 : CtxOK c13 := ⟨names_of KBase.names, KBase.mixed, KBase.S0_ok⟩
theorem k13 : SummOK Tryz.prog 330 s13 := seg_summ x13 r13
end SC
end Go.Ab
namespace Go.Ab
open Go.RowKit Go.Proofs
namespace SC
noncomputable def c14 : Ctx := ⟨Tryz.prog, (addS 330 (orS (atNx 2701) s13 badS) KBase.S0), fun _ => false⟩
noncomputable def a14 : List AV := [(.ptr (.o (.o (.i (.i (.i (.i (.i (.o (.i .h))))))))) 0), (.int .i64 (.ofNat 2)), (.int .i64 (.ofNat 0)), (.sl (.o (.o (.o (.o (.o (.o (.i (.i (.i (.o (.o .h))))))))))) 0 9 256 1 true)]
noncomputable def p14 : Stt := ⟨2496, [o0, o1, o2, o3, o6, (7, .map [] 9), o5, o82, o83, o105, o85, o106, o10, o49, o76, o14, o15, o87, o18, o19, o20, o21, o22, o23, (887, .map [] 0), o25, o88, o107, o26, o27, o28, (894, .map [] 0), (895, .map [] 0), o118, o30, o32, o40, o77, o43, o44, o56, o90, o59, o60, o61, o63, o78, o79, o80, o81, o108, o92, o93, o110, o96, o97, o99, o100, o101, o102, o103, o111, o112, o113, o114, o115, o116, o117, o120]⟩
noncomputable def v14 : AV := (.int .i64 (.ofNat 0))
noncomputable def q14 : Stt := ⟨3047, [o0, o1, o2, o3, o6, (7, .map [] 9), o5, o134, o135, o136, o137, o138, o10, o49, o127, o14, o15, o139, o18, o19, o20, o21, o22, o23, (887, .map [] 0), o25, o140, o141, o26, o27, o28, (894, .map [] 0), (895, .map [] 0), o118, o30, o32, o40, o128, o43, o44, o56, o142, o59, o60, o61, o78, o79, o80, o108, o93, o110, o96, o97, o99, o100, o101, o102, o111, o112, o113, o114, o115, o116, o117, o120, o130, o131, o132, o133, o143, o144, o145, o146, o147, o148, o149, o150, o151, o152, o153, o154, o155, o156]⟩
noncomputable def s14 : Summ := segS a14 p14 v14 q14
set_option maxRecDepth 1000000
theorem r14 : segR c14 60 79 a14 p14 v14 q14 = true := by decide +kernel
theorem x14 : CtxOK c14 := ⟨names_of KBase.names, KBase.mixed, (addS_ok (orS_ok k13 badS_ok) KBase.S0_ok)⟩
theorem k14 : SummOK Tryz.prog 79 s14 := seg_summ x14 r14
end SC
end Go.Ab
namespace Go.Ab
open Go.RowKit Go.Proofs
namespace SC
noncomputable def c15 : Ctx := ⟨Tryz.prog, (addS 79 (orS (atNx 2496) s14 badS) KBase.S0), fun _ => false⟩
noncomputable def a15 : List AV := [(.ptr (.o (.i (.o (.o (.o (.o (.o (.i (.i .h))))))))) 0), (.int .i64 (.ofNat 0)), (.int .i64 (.ofNat 0)), (.sl (.o (.o (.o (.o (.o (.o (.i (.i (.i (.o (.o .h))))))))))) 0 9 256 1 true)]
noncomputable def p15 : Stt := ⟨2496, [o0, o1, o2, o3, o6, (7, .map [] 9), o5, o82, o83, o105, o85, o106, o10, o49, o76, o14, o15, o87, o18, o19, o20, o21, o22, o23, (887, .map [] 0), o25, o88, o107, o26, o27, o28, (894, .map [] 0), (895, .map [] 0), o118, o30, o32, o40, o77, o43, o44, o56, o90, o59, o60, o61, o63, o78, o79, o80, o81, o108, o92, o93, o110, o96, o97, o99, o100, o101, o102, o103, o111, o112, o113, o114, o115, o116, o117, o120]⟩
noncomputable def v15 : AV := (.int .i64 (.ofNat 0))
noncomputable def q15 : Stt := ⟨3047, [o0, o1, o2, o3, o6, (7, .map [] 9), o5, o134, o135, o136, o137, o138, o10, o49, o127, o14, o15, o139, o18, o19, o20, o21, o22, o23, (887, .map [] 0), o25, o140, o141, o26, o27, o28, (894, .map [] 0), (895, .map [] 0), o118, o30, o32, o40, o128, o43, o44, o56, o142, o59, o60, o61, o78, o79, o80, o108, o93, o110, o96, o97, o99, o100, o101, o102, o111, o112, o113, o114, o115, o116, o117, o120, o130, o131, o132, o133, o143, o144, o145, o146, o147, o148, o149, o150, o151, o152, o153, o154, o155, o156]⟩
noncomputable def s15 : Summ := segS a15 p15 v15 q15
set_option maxRecDepth 1000000
theorem r15 : segR c15 60 32 a15 p15 v15 q15 = true := by decide +kernel
theorem x15 : CtxOK c15 := ⟨names_of KBase.names, KBase.mixed, (addS_ok (orS_ok k14 badS_ok) KBase.S0_ok)⟩
theorem k15 : SummOK Tryz.prog 32 s15 := seg_summ x15 r15
end SC
end Go.Ab
namespace Go.Ab
open Go.RowKit Go.Proofs
namespace SC
noncomputable def c16 : Ctx := ⟨Tryz.prog, KBase.S0, fun _ => false⟩
noncomputable def a16 : List AV := [(.ptr (.o (.o (.i (.o (.i (.o (.i .h))))))) 0), (.int .i64 (.ofNat 2))]
noncomputable def p16 : Stt := ⟨3087, [o0, o1, o2, o3, o6, (7, .map [] 9), o5, o134, o135, o136, o137, o138, o10, o49, o127, o14, o15, o139, o18, o19, o20, o21, o22, o23, (887, .map [] 0), o25, o140, o141, o26, o27, o28, (894, .map [] 0), (895, .map [] 0), o29, o30, o32, o40, o128, o43, o44, o56, o142, o59, o60, o61, o79, o80, o108, o93, o110, o96, o97, o100, o101, o102, o111, o112, o113, o114, o115, o116, o117, o120, o130, o131, o132, o133, o143, o144, o145, o146, o147, o148, o149, o150, o151, o152, o153, o154, o155, o156, o157, o158]⟩
noncomputable def v16 : AV := (.int .i64 (.ofNat 0))
noncomputable def q16 : Stt := ⟨3111, [o0, o1, o2, o3, o6, o159, o5, o134, o135, o136, o137, o138, o10, o49, o127, o14, o15, o139, o18, o19, o20, o21, o22, o23, (887, .map [] 0), o25, o140, o141, o26, o27, o28, (894, .map [] 0), (895, .map [] 0), o29, o30, o32, o40, o128, o43, o160, o56, o142, o59, o60, o61, o79, o161, o108, o93, o110, o96, o97, o100, o101, o102, o111, o112, o113, o114, o115, o116, o117, o120, o130, o131, o162, o133, o143, o163, o145, o146, o147, o148, o149, o150, o151, o152, o153, o154, o155, o156, o157, o158, o164]⟩
noncomputable def s16 : Summ := segS a16 p16 v16 q16
set_option maxRecDepth 1000000
theorem r16 : segR c16 60 359 a16 p16 v16 q16 = true := by decide +kernel
theorem x16 : CtxOK c16 := ⟨names_of KBase.names, KBase.mixed, KBase.S0_ok⟩
theorem k16 : SummOK Tryz.prog 359 s16 := seg_summ x16 r16
end SC
end Go.Ab
