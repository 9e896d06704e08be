import Derived.Test.YtkgbcmkpgjaggaaGreatDoorBase
import Derived.Test.YtkgbcmkpgjaggaaGreatDoorData
namespace Go.Ab
open Go.RowKit Go.Proofs
namespace SC
noncomputable def c17 : Ctx := ⟨Tryz.prog, KBase.S0, fun _ => false⟩
noncomputable def a17 : List AV := [(.ptr (.o (.o (.i (.o (.i (.o (.i .h))))))) 0), (.int .i64 (.ofNat 5))]
noncomputable def p17 : Stt := ⟨3122, [o0, o1, o2, o3, o6, o159, o5, o134, o135, o136, o137, o138, o10, o49, o127, o14, o15, o139, o18, o19, o20, o21, o22, o23, (887, .map [] 0), o25, o140, o141, o26, o27, o28, (894, .map [] 0), (895, .map [] 0), o29, o30, o32, o40, o128, o43, o160, o56, o142, o59, o60, o61, o79, o161, o108, o93, o110, o96, o97, o100, o101, o102, o111, o112, o113, o114, o115, o116, o117, o120, o130, o131, o162, o133, o143, o163, o145, o146, o147, o148, o149, o150, o151, o152, o153, o154, o155, o156, o157, o158, o164]⟩
noncomputable def v17 : AV := (.int .i64 (.ofNat 0))
noncomputable def q17 : Stt := ⟨3144, [o0, o1, o2, o3, o6, o165, o5, o134, o135, o136, o137, o138, o10, o49, o127, o14, o15, o139, o18, o19, o20, o21, o22, o23, (887, .map [] 0), o25, o140, o141, o26, o27, o28, (894, .map [] 0), (895, .map [] 0), o29, o30, o32, o40, o128, o43, o160, o56, o142, o59, o60, o61, o79, o161, o108, o93, o110, o96, o166, o100, o101, o102, o111, o112, o113, o114, o115, o116, o117, o120, o130, o131, o162, o133, o143, o167, o145, o146, o147, o148, o149, o150, o151, o152, o153, o154, o155, o156, o157, o158, o164, o168]⟩
noncomputable def s17 : Summ := segS a17 p17 v17 q17
set_option maxRecDepth 1000000
theorem r17 : segR c17 60 359 a17 p17 v17 q17 = true := by decide +kernel
theorem x17 : CtxOK c17 := ⟨names_of KBase.names, KBase.mixed, KBase.S0_ok⟩
theorem k17 : SummOK Tryz.prog 359 s17 := seg_summ x17 r17
end SC
end Go.Ab
namespace Go.Ab
open Go.RowKit Go.Proofs
namespace SC
noncomputable def c18 : Ctx := ⟨Tryz.prog, KBase.S0, fun _ => false⟩
noncomputable def a18 : List AV := [(.ptr (.o (.o (.i (.o (.i (.o (.i .h))))))) 0), (.int .i64 (.ofNat 6))]
noncomputable def p18 : Stt := ⟨3148, [o0, o1, o2, o3, o6, o165, o5, o134, o135, o136, o137, o138, o10, o49, o127, o14, o15, o139, o18, o19, o20, o21, o22, o23, (887, .map [] 0), o25, o140, o141, o26, o27, o28, (894, .map [] 0), (895, .map [] 0), o29, o30, o32, o40, o128, o43, o160, o56, o142, o59, o60, o61, o79, o161, o108, o93, o110, o96, o166, o100, o101, o102, o111, o112, o113, o114, o115, o116, o117, o120, o130, o131, o162, o133, o143, o167, o145, o146, o147, o148, o149, o150, o151, o152, o153, o154, o155, o156, o157, o158, o164, o168]⟩
noncomputable def v18 : AV := (.int .i64 (.ofNat 0))
noncomputable def q18 : Stt := ⟨3168, [o0, o1, o2, o3, o6, o169, o5, o134, o135, o136, o137, o138, o10, o49, o127, o14, o15, o139, o18, o19, o20, o21, o22, o23, (887, .map [] 0), o25, o140, o141, o26, o27, o28, (894, .map [] 0), (895, .map [] 0), o29, o30, o32, o40, o128, o43, o160, o56, o142, o59, o60, o61, o79, o161, o108, o93, o110, o96, o166, o100, o101, o102, o111, o112, o113, o114, o115, o116, o117, o120, o130, o131, o162, o133, o143, o170, o145, o146, o147, o148, o171, o150, o151, o152, o153, o154, o155, o156, o157, o158, o164, o168, o172]⟩
noncomputable def s18 : Summ := segS a18 p18 v18 q18
set_option maxRecDepth 1000000
theorem r18 : segR c18 60 359 a18 p18 v18 q18 = true := by decide +kernel
theorem x18 : CtxOK c18 := ⟨names_of KBase.names, KBase.mixed, KBase.S0_ok⟩
theorem k18 : SummOK Tryz.prog 359 s18 := seg_summ x18 r18
end SC
end Go.Ab
namespace Go.Ab
open Go.RowKit Go.Proofs
namespace SC
noncomputable def c19 : Ctx := ⟨Tryz.prog, KBase.S0, fun _ => false⟩
noncomputable def a19 : List AV := [(.ptr (.o (.o (.i (.o (.i (.o (.i .h))))))) 0)]
noncomputable def p19 : Stt := ⟨3168, [o0, o1, o2, o3, o6, o169, o5, o134, o135, o136, o137, o138, o10, o49, o127, o14, o15, o139, o18, o19, o20, o21, o22, o23, (887, .map [] 0), o25, o140, o141, o26, o27, o28, (894, .map [] 0), (895, .map [] 0), o29, o30, o32, o40, o128, o43, o160, o56, o142, o59, o60, o61, o79, o161, o108, o93, o110, o96, o166, o100, o101, o102, o111, o112, o113, o114, o115, o116, o117, o120, o130, o131, o162, o133, o143, o170, o145, o146, o147, o148, o171, o150, o151, o152, o153, o154, o155, o156, o157, o158, o164, o168, o172]⟩
noncomputable def v19 : AV := (.int .i64 (.ofNat 0))
noncomputable def q19 : Stt := ⟨4708, [o0, o1, o2, o3, o173, (7, .map [] 12), o5, o134, o135, o174, o175, o138, o10, o49, o176, o14, o15, o139, o18, o19, o20, o21, o22, o23, (887, .map [] 0), o25, o140, o141, o26, o27, o28, (894, .map [] 0), (895, .map [] 0), o29, o30, o32, o40, o177, o43, o160, o56, o178, o59, o60, o61, o79, o161, o108, o93, o179, o96, o166, o100, o101, o102, o111, o112, o113, o114, o180, o116, o117, o120, o130, o131, o162, o181, o182, o170, o145, o183, o147, o148, o171, o184, o151, o152, o153, o154, o155, o156, o157, o158, o164, o168, o172, o185, o186, o187, o188]⟩
noncomputable def s19 : Summ := segS a19 p19 v19 q19
set_option maxRecDepth 1000000
theorem r19 : segR c19 60 360 a19 p19 v19 q19 = true := by decide +kernel
theorem x19 : CtxOK c19 := ⟨names_of KBase.names, KBase.mixed, KBase.S0_ok⟩
theorem k19 : SummOK Tryz.prog 360 s19 := seg_summ x19 r19
end SC
end Go.Ab
namespace Go.Ab
open Go.RowKit Go.Proofs
namespace SC
noncomputable def c20 : Ctx := ⟨Tryz.prog, KBase.S0, fun _ => false⟩
noncomputable def a20 : List AV := [(.ptr (.o (.o (.i (.o (.i (.o (.i .h))))))) 0), (.int .i64 (.ofNat 3))]
noncomputable def p20 : Stt := ⟨4715, [o0, o1, o2, o3, o173, (7, .map [] 12), o5, o134, o135, o174, o175, o138, o10, o49, o176, o14, o15, o139, o18, o19, o20, o21, o22, o23, (887, .map [] 0), o25, o140, o141, o26, o27, o28, (894, .map [] 0), (895, .map [] 0), o29, o30, o32, o40, o177, o43, o160, o56, o178, o59, o60, o61, o79, o161, o108, o93, o179, o96, o166, o100, o101, o102, o111, o112, o113, o114, o180, o116, o117, o120, o130, o131, o162, o181, o182, o170, o145, o183, o147, o148, o171, o184, o151, o152, o153, o154, o155, o156, o157, o185, o186, o187, o188, o189]⟩
noncomputable def v20 : AV := (.int .i64 (.ofNat 0))
noncomputable def q20 : Stt := ⟨4739, [o0, o1, o2, o3, o173, o190, o5, o134, o135, o174, o175, o138, o10, o49, o176, o14, o15, o139, o18, o19, o20, o21, o22, o23, (887, .map [] 0), o25, o140, o141, o26, o27, o28, (894, .map [] 0), (895, .map [] 0), o29, o30, o32, o40, o177, o43, o160, o56, o178, o59, o191, o61, o79, o161, o108, o93, o179, o96, o166, o100, o192, o102, o111, o112, o113, o114, o180, o116, o117, o120, o130, o131, o162, o181, o182, o193, o145, o183, o147, o148, o171, o184, o151, o152, o194, o154, o155, o156, o157, o185, o186, o187, o188, o189, o195]⟩
noncomputable def s20 : Summ := segS a20 p20 v20 q20
set_option maxRecDepth 1000000
theorem r20 : segR c20 60 359 a20 p20 v20 q20 = true := by decide +kernel
theorem x20 : CtxOK c20 := ⟨names_of KBase.names, KBase.mixed, KBase.S0_ok⟩
theorem k20 : SummOK Tryz.prog 359 s20 := seg_summ x20 r20
end SC
end Go.Ab
