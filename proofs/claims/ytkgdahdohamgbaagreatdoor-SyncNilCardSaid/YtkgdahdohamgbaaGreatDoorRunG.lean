import Derived.Test.YtkgdahdohamgbaaGreatDoorRunF
import Derived.Test.YtkgdahdohamgbaaGreatDoorBase
import Derived.Test.YtkgdahdohamgbaaGreatDoorData
namespace Go.Ab
open Go.RowKit Go.Proofs
namespace SY
noncomputable def c25 : Ctx := ⟨Tryz.prog, (addS 47 (orS (atNx 8633) s23 badS) (addS 26 (orS (atNx 8653) s24 badS) KBase.S0)), fun _ => false⟩
noncomputable def a25 : List AV := [(.ptr (.i (.o (.o (.o (.i (.i (.o (.o .h)))))))) 0), (.func 38 [] [(.ptr (.i (.i (.o (.i (.o (.i (.o (.i (.i (.o (.o (.o (.o .h))))))))))))) 0), (.ptr (.o (.o (.i (.i (.o (.i (.o (.i (.i (.o (.o (.o (.o .h))))))))))))) 0)])]
noncomputable def p25 : Stt := ⟨8620, [o202, (1, .map [] 20), o1, o151, o152, o203, o186, o155, o6, o67, o187, o10, o11, o12, o13, o156, o16, o17, o18, o19, o20, o21, o22, o23, o24, o25, o26, o27, o28, o29, o30, o31, o32, o33, o34, o35, o36, o37, (2012, .map [] 0), o39, o157, o158, o40, o41, o42, (2019, .map [] 0), (2020, .map [] 0), o135, o44, o46, o47, o48, o49, o50, o58, o188, o61, o179, o74, o204, o77, o199, o79, o97, o180, o126, o111, o205, o114, o115, o118, o119, o120, o129, o130, o131, o132, o133, o134, o137, o147, o148, o181, o191, o160, o200, o162, o206, o164, o165, o166, o167, o168, o169, o170, o171, o207, o173, o174, o193, o208, o209, o210, o211, o212]⟩
noncomputable def v25 : AV := (.tup [(.int .i64 (.ofNat 1)), (.int .i64 (.ofNat 0))])
noncomputable def q25 : Stt := ⟨10192, [o218, (1, .map [] 21), o1, o151, o152, o219, o220, o155, o6, o67, o187, o10, o11, o12, o13, o156, o16, o17, o18, o19, o20, o21, o22, o23, o24, o25, o26, o27, o28, o29, o30, o31, o32, o33, o34, o35, o36, o37, (2012, .map [] 0), o39, o157, o158, o40, o41, o42, (2019, .map [] 0), (2020, .map [] 0), o135, o44, o46, o47, o48, o49, o50, o58, o188, o61, o179, o74, o221, o77, o199, o79, o97, o180, o126, o111, o222, o114, o115, o118, o119, o120, o129, o130, o131, o132, o133, o134, o137, o147, o148, o181, o191, o223, o215, o162, o224, o164, o165, o216, o225, o168, o169, o170, o171, o207, o173, o174, o193, o208, o209, o210, o211, o212, o226, o227, o228]⟩
noncomputable def s25 : Summ := segS a25 p25 v25 q25
set_option maxRecDepth 1000000
theorem r25 : segR c25 60 37 a25 p25 v25 q25 = true := by decide +kernel
theorem x25 : CtxOK c25 := ⟨names_of KBase.names, KBase.mixed, (addS_ok (orS_ok k23 badS_ok) (addS_ok (orS_ok k24 badS_ok) KBase.S0_ok))⟩
theorem k25 : SummOK Tryz.prog 37 s25 := seg_summ x25 r25
end SY
end Go.Ab
namespace Go.Ab
open Go.RowKit Go.Proofs
namespace SY
noncomputable def c26 : Ctx := ⟨Tryz.prog, (addS 37 (orS (atNx 8620) s25 badS) KBase.S0), fun _ => false⟩
noncomputable def a26 : List AV := [(.ptr (.i (.o (.o (.o (.i (.i (.o (.o .h)))))))) 0), (.int .i64 (.ofNat 8))]
noncomputable def p26 : Stt := ⟨8618, [o202, (1, .map [] 20), o1, o151, o152, o203, o186, o155, o6, o67, o187, o10, o11, o12, o13, o156, o16, o17, o18, o19, o20, o21, o22, o23, o24, o25, o26, o27, o28, o29, o30, o31, o32, o33, o34, o35, o36, o37, (2012, .map [] 0), o39, o157, o158, o40, o41, o42, (2019, .map [] 0), (2020, .map [] 0), o135, o44, o46, o47, o48, o49, o50, o58, o188, o61, o179, o74, o204, o77, o199, o79, o97, o180, o126, o111, o205, o114, o115, o118, o119, o120, o129, o130, o131, o132, o133, o134, o137, o147, o148, o181, o191, o160, o200, o162, o206, o164, o165, o166, o167, o168, o169, o170, o171, o207, o173, o174, o193, o208, o209, o210]⟩
noncomputable def v26 : AV := (.tup [(.int .i64 (.ofNat 1)), (.int .i64 (.ofNat 0))])
noncomputable def q26 : Stt := ⟨10192, [o218, (1, .map [] 21), o1, o151, o152, o219, o220, o155, o6, o67, o187, o10, o11, o12, o13, o156, o16, o17, o18, o19, o20, o21, o22, o23, o24, o25, o26, o27, o28, o29, o30, o31, o32, o33, o34, o35, o36, o37, (2012, .map [] 0), o39, o157, o158, o40, o41, o42, (2019, .map [] 0), (2020, .map [] 0), o135, o44, o46, o47, o48, o49, o50, o58, o188, o61, o179, o74, o221, o77, o199, o79, o97, o180, o126, o111, o222, o114, o115, o118, o119, o120, o129, o130, o131, o132, o133, o134, o137, o147, o148, o181, o191, o223, o215, o162, o224, o164, o165, o216, o225, o168, o169, o170, o171, o207, o173, o174, o193, o208, o209, o210, o226, o227, o228]⟩
noncomputable def s26 : Summ := segS a26 p26 v26 q26
set_option maxRecDepth 1000000
theorem r26 : segR c26 60 22 a26 p26 v26 q26 = true := by decide +kernel
theorem x26 : CtxOK c26 := ⟨names_of KBase.names, KBase.mixed, (addS_ok (orS_ok k25 badS_ok) KBase.S0_ok)⟩
theorem k26 : SummOK Tryz.prog 22 s26 := seg_summ x26 r26
end SY
end Go.Ab
namespace Go.Ab
open Go.RowKit Go.Proofs
namespace SY
noncomputable def c27 : Ctx := ⟨Tryz.prog, KBase.S0, fun _ => false⟩
noncomputable def a27 : List AV := [(.ptr (.i (.o (.o (.o (.i (.i (.o (.o .h)))))))) 0), (.int .i64 (.ofNat 3))]
noncomputable def p27 : Stt := ⟨10208, [o218, (1, .map [] 21), o1, o151, o152, o219, o220, o155, o6, o67, o187, o10, o11, o12, o13, o156, o16, o17, o18, o19, o20, o21, o22, o23, o24, o25, o26, o27, o28, o29, o30, o31, o32, o33, o34, o35, o36, o37, (2012, .map [] 0), o39, o157, o158, o40, o41, o42, (2019, .map [] 0), (2020, .map [] 0), o135, o44, o46, o47, o48, o49, o50, o58, o188, o61, o179, o74, o221, o77, o199, o79, o97, o180, o126, o111, o222, o114, o115, o118, o119, o120, o129, o130, o131, o132, o133, o134, o137, o147, o148, o181, o191, o223, o215, o162, o224, o164, o165, o216, o225, o168, o169, o170, o171, o207, o173, o174, o193, o226, o227, o228, o229, o230, o231]⟩
noncomputable def v27 : AV := (.int .i64 (.ofNat 0))
noncomputable def q27 : Stt := ⟨10230, [o218, o232, o1, o151, o152, o219, o220, o155, o6, o67, o187, o10, o11, o12, o13, o156, o16, o17, o18, o19, o20, o21, o22, o23, o24, o25, o26, o27, o28, o29, o30, o31, o32, o33, o34, o35, o36, o37, (2012, .map [] 0), o39, o157, o158, o40, o41, o42, (2019, .map [] 0), (2020, .map [] 0), o135, o44, o46, o47, o48, o49, o50, o58, o188, o61, o179, o74, o221, o77, o199, o79, o97, o180, o126, o111, o222, o114, o115, o118, o119, o120, o129, o130, o131, o132, o133, o134, o137, o147, o148, o181, o191, o223, o161, o162, o224, o164, o165, o216, o225, o168, o169, o233, o171, o207, o173, o174, o193, o226, o227, o228, o229, o230, o231, o234]⟩
noncomputable def s27 : Summ := segS a27 p27 v27 q27
set_option maxRecDepth 1000000
theorem r27 : segR c27 60 47 a27 p27 v27 q27 = true := by decide +kernel
theorem x27 : CtxOK c27 := ⟨names_of KBase.names, KBase.mixed, KBase.S0_ok⟩
theorem k27 : SummOK Tryz.prog 47 s27 := seg_summ x27 r27
end SY
end Go.Ab
namespace Go.Ab
open Go.RowKit Go.Proofs
namespace SY
noncomputable def c28 : Ctx := ⟨Tryz.prog, KBase.S0, fun _ => false⟩
noncomputable def a28 : List AV := [(.ptr (.i (.o (.o (.o (.i (.i (.o (.o .h)))))))) 0)]
noncomputable def p28 : Stt := ⟨10230, [o218, o232, o1, o151, o152, o219, o220, o155, o6, o67, o187, o10, o11, o12, o13, o156, o16, o17, o18, o19, o20, o21, o22, o23, o24, o25, o26, o27, o28, o29, o30, o31, o32, o33, o34, o35, o36, o37, (2012, .map [] 0), o39, o157, o158, o40, o41, o42, (2019, .map [] 0), (2020, .map [] 0), o135, o44, o46, o47, o48, o49, o50, o58, o188, o61, o179, o74, o221, o77, o199, o79, o97, o180, o126, o111, o222, o114, o115, o118, o119, o120, o129, o130, o131, o132, o133, o134, o137, o147, o148, o181, o191, o223, o161, o162, o224, o164, o165, o216, o225, o168, o169, o233, o171, o207, o173, o174, o193, o226, o227, o228, o229, o230, o231, o234]⟩
noncomputable def v28 : AV := (.int .i64 (.ofNat 0))
noncomputable def q28 : Stt := ⟨11768, [o235, (1, .map [] 22), o1, o151, o152, o236, o220, o155, o6, o67, o187, o10, o11, o12, o13, o156, o16, o17, o18, o19, o20, o21, o22, o23, o24, o25, o26, o27, o28, o29, o30, o31, o32, o33, o34, o35, o36, o37, (2012, .map [] 0), o39, o157, o158, o40, o41, o42, (2019, .map [] 0), (2020, .map [] 0), o135, o44, o46, o47, o48, o49, o50, o58, o188, o61, o179, o74, o237, o77, o199, o79, o97, o180, o126, o111, o238, o114, o115, o118, o119, o120, o129, o130, o131, o132, o133, o134, o137, o147, o148, o181, o191, o223, o161, o162, o224, o164, o165, o216, o225, o168, o169, o233, o171, o239, o173, o174, o193, o226, o227, o228, o229, o230, o231, o234, o240, o241]⟩
noncomputable def s28 : Summ := segS a28 p28 v28 q28
set_option maxRecDepth 1000000
theorem r28 : segR c28 60 26 a28 p28 v28 q28 = true := by decide +kernel
theorem x28 : CtxOK c28 := ⟨names_of KBase.names, KBase.mixed, KBase.S0_ok⟩
theorem k28 : SummOK Tryz.prog 26 s28 := seg_summ x28 r28
end SY
end Go.Ab
