import Derived.Test.YtkgdahdohamgbaaGreatDoorBase
import Derived.Test.YtkgdahdohamgbaaGreatDoorData
namespace Go.Ab
open Go.RowKit Go.Proofs
namespace SY
noncomputable def c17 : Ctx := ⟨Tryz.prog, KBase.S0, fun _ => false⟩
noncomputable def a17 : List AV := [(.ptr (.i (.o (.o (.o (.i (.i (.o (.o .h)))))))) 0), (.int .i64 (.ofNat 2))]
noncomputable def p17 : Stt := ⟨5472, [o2, (1, .map [] 18), o1, o151, o152, o153, o154, o155, o6, o67, o144, o10, o11, o12, o13, o156, o16, o17, o18, o19, o20, o21, o22, o23, o24, o25, o26, o27, o28, o29, o30, o31, o32, o33, o34, o35, o36, o37, (2012, .map [] 0), o39, o157, o158, o40, o41, o42, (2019, .map [] 0), (2020, .map [] 0), o135, o44, o46, o47, o48, o49, o50, o58, o145, o61, o62, o74, o159, o77, o78, o79, o97, o98, o126, o111, o128, o114, o115, o118, o119, o120, o129, o130, o131, o132, o133, o134, o137, o147, o148, o149, o150, o160, o161, o162, o163, o164, o165, o166, o167, o168, o169, o170, o171, o172, o173, o174, o175, o176, o177]⟩
noncomputable def v17 : AV := (.int .i64 (.ofNat 0))
noncomputable def q17 : Stt := ⟨5496, [o2, o178, o1, o151, o152, o153, o154, o155, o6, o67, o144, o10, o11, o12, o13, o156, o16, o17, o18, o19, o20, o21, o22, o23, o24, o25, o26, o27, o28, o29, o30, o31, o32, o33, o34, o35, o36, o37, (2012, .map [] 0), o39, o157, o158, o40, o41, o42, (2019, .map [] 0), (2020, .map [] 0), o135, o44, o46, o47, o48, o49, o50, o58, o145, o61, o179, o74, o159, o77, o78, o79, o97, o180, o126, o111, o128, o114, o115, o118, o119, o120, o129, o130, o131, o132, o133, o134, o137, o147, o148, o181, o150, o160, o182, o162, o163, o164, o165, o166, o167, o168, o169, o170, o171, o172, o173, o174, o175, o176, o177, o183]⟩
noncomputable def s17 : Summ := segS a17 p17 v17 q17
set_option maxRecDepth 1000000
theorem r17 : segR c17 60 47 a17 p17 v17 q17 = true := by decide +kernel
theorem x17 : CtxOK c17 := ⟨names_of KBase.names, KBase.mixed, KBase.S0_ok⟩
theorem k17 : SummOK Tryz.prog 47 s17 := seg_summ x17 r17
end SY
end Go.Ab
namespace Go.Ab
open Go.RowKit Go.Proofs
namespace SY
noncomputable def c18 : Ctx := ⟨Tryz.prog, KBase.S0, fun _ => false⟩
noncomputable def a18 : List AV := [(.ptr (.i (.o (.o (.o (.i (.i (.o (.o .h)))))))) 0)]
noncomputable def p18 : Stt := ⟨5502, [o2, o178, o1, o151, o152, o153, o154, o155, o6, o67, o144, o10, o11, o12, o13, o156, o16, o17, o18, o19, o20, o21, o22, o23, o24, o25, o26, o27, o28, o29, o30, o31, o32, o33, o34, o35, o36, o37, (2012, .map [] 0), o39, o157, o158, o40, o41, o42, (2019, .map [] 0), (2020, .map [] 0), o135, o44, o46, o47, o48, o49, o50, o58, o145, o61, o179, o74, o159, o77, o78, o79, o97, o180, o126, o111, o128, o114, o115, o118, o119, o120, o129, o130, o131, o132, o133, o134, o137, o147, o148, o181, o150, o160, o182, o162, o163, o164, o165, o166, o167, o168, o169, o170, o171, o172, o173, o174, o175, o176, o177, o183]⟩
noncomputable def v18 : AV := (.int .i64 (.ofNat 0))
noncomputable def q18 : Stt := ⟨7040, [o184, (1, .map [] 19), o1, o151, o152, o185, o186, o155, o6, o67, o187, o10, o11, o12, o13, o156, o16, o17, o18, o19, o20, o21, o22, o23, o24, o25, o26, o27, o28, o29, o30, o31, o32, o33, o34, o35, o36, o37, (2012, .map [] 0), o39, o157, o158, o40, o41, o42, (2019, .map [] 0), (2020, .map [] 0), o135, o44, o46, o47, o48, o49, o50, o58, o188, o61, o179, o74, o189, o77, o78, o79, o97, o180, o126, o111, o190, o114, o115, o118, o119, o120, o129, o130, o131, o132, o133, o134, o137, o147, o148, o181, o191, o160, o182, o162, o192, o164, o165, o166, o167, o168, o169, o170, o171, o172, o173, o174, o175, o176, o177, o183, o193, o194, o195, o196]⟩
noncomputable def s18 : Summ := segS a18 p18 v18 q18
set_option maxRecDepth 1000000
theorem r18 : segR c18 60 26 a18 p18 v18 q18 = true := by decide +kernel
theorem x18 : CtxOK c18 := ⟨names_of KBase.names, KBase.mixed, KBase.S0_ok⟩
theorem k18 : SummOK Tryz.prog 26 s18 := seg_summ x18 r18
end SY
end Go.Ab
namespace Go.Ab
open Go.RowKit Go.Proofs
namespace SY
noncomputable def c19 : Ctx := ⟨Tryz.prog, KBase.S0, fun _ => false⟩
noncomputable def a19 : List AV := [(.ptr (.i (.o (.o (.o (.i (.i (.o (.o .h)))))))) 0), (.int .i64 (.ofNat 3))]
noncomputable def p19 : Stt := ⟨7055, [o184, (1, .map [] 19), o1, o151, o152, o185, o186, o155, o6, o67, o187, o10, o11, o12, o13, o156, o16, o17, o18, o19, o20, o21, o22, o23, o24, o25, o26, o27, o28, o29, o30, o31, o32, o33, o34, o35, o36, o37, (2012, .map [] 0), o39, o157, o158, o40, o41, o42, (2019, .map [] 0), (2020, .map [] 0), o135, o44, o46, o47, o48, o49, o50, o58, o188, o61, o179, o74, o189, o77, o78, o79, o97, o180, o126, o111, o190, o114, o115, o118, o119, o120, o129, o130, o131, o132, o133, o134, o137, o147, o148, o181, o191, o160, o182, o162, o192, o164, o165, o166, o167, o168, o169, o170, o171, o172, o173, o174, o175, o176, o193, o194, o195, o196, o197]⟩
noncomputable def v19 : AV := (.int .i64 (.ofNat 0))
noncomputable def q19 : Stt := ⟨7079, [o184, o198, o1, o151, o152, o185, o186, o155, o6, o67, o187, o10, o11, o12, o13, o156, o16, o17, o18, o19, o20, o21, o22, o23, o24, o25, o26, o27, o28, o29, o30, o31, o32, o33, o34, o35, o36, o37, (2012, .map [] 0), o39, o157, o158, o40, o41, o42, (2019, .map [] 0), (2020, .map [] 0), o135, o44, o46, o47, o48, o49, o50, o58, o188, o61, o179, o74, o189, o77, o199, o79, o97, o180, o126, o111, o190, o114, o115, o118, o119, o120, o129, o130, o131, o132, o133, o134, o137, o147, o148, o181, o191, o160, o200, o162, o192, o164, o165, o166, o167, o168, o169, o170, o171, o172, o173, o174, o175, o176, o193, o194, o195, o196, o197, o201]⟩
noncomputable def s19 : Summ := segS a19 p19 v19 q19
set_option maxRecDepth 1000000
theorem r19 : segR c19 60 47 a19 p19 v19 q19 = true := by decide +kernel
theorem x19 : CtxOK c19 := ⟨names_of KBase.names, KBase.mixed, KBase.S0_ok⟩
theorem k19 : SummOK Tryz.prog 47 s19 := seg_summ x19 r19
end SY
end Go.Ab
namespace Go.Ab
open Go.RowKit Go.Proofs
namespace SY
noncomputable def c20 : Ctx := ⟨Tryz.prog, KBase.S0, fun _ => false⟩
noncomputable def a20 : List AV := [(.ptr (.i (.o (.o (.o (.i (.i (.o (.o .h)))))))) 0)]
noncomputable def p20 : Stt := ⟨7079, [o184, o198, o1, o151, o152, o185, o186, o155, o6, o67, o187, o10, o11, o12, o13, o156, o16, o17, o18, o19, o20, o21, o22, o23, o24, o25, o26, o27, o28, o29, o30, o31, o32, o33, o34, o35, o36, o37, (2012, .map [] 0), o39, o157, o158, o40, o41, o42, (2019, .map [] 0), (2020, .map [] 0), o135, o44, o46, o47, o48, o49, o50, o58, o188, o61, o179, o74, o189, o77, o199, o79, o97, o180, o126, o111, o190, o114, o115, o118, o119, o120, o129, o130, o131, o132, o133, o134, o137, o147, o148, o181, o191, o160, o200, o162, o192, o164, o165, o166, o167, o168, o169, o170, o171, o172, o173, o174, o175, o176, o193, o194, o195, o196, o197, o201]⟩
noncomputable def v20 : AV := (.int .i64 (.ofNat 0))
noncomputable def q20 : Stt := ⟨8617, [o202, (1, .map [] 20), o1, o151, o152, o203, o186, o155, o6, o67, o187, o10, o11, o12, o13, o156, o16, o17, o18, o19, o20, o21, o22, o23, o24, o25, o26, o27, o28, o29, o30, o31, o32, o33, o34, o35, o36, o37, (2012, .map [] 0), o39, o157, o158, o40, o41, o42, (2019, .map [] 0), (2020, .map [] 0), o135, o44, o46, o47, o48, o49, o50, o58, o188, o61, o179, o74, o204, o77, o199, o79, o97, o180, o126, o111, o205, o114, o115, o118, o119, o120, o129, o130, o131, o132, o133, o134, o137, o147, o148, o181, o191, o160, o200, o162, o206, o164, o165, o166, o167, o168, o169, o170, o171, o207, o173, o174, o175, o176, o193, o194, o195, o196, o197, o201, o208, o209, o210]⟩
noncomputable def s20 : Summ := segS a20 p20 v20 q20
set_option maxRecDepth 1000000
theorem r20 : segR c20 60 26 a20 p20 v20 q20 = true := by decide +kernel
theorem x20 : CtxOK c20 := ⟨names_of KBase.names, KBase.mixed, KBase.S0_ok⟩
theorem k20 : SummOK Tryz.prog 26 s20 := seg_summ x20 r20
end SY
end Go.Ab
