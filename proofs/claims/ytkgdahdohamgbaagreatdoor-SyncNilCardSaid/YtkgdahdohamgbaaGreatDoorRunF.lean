import Derived.Test.YtkgdahdohamgbaaGreatDoorRunE
import Derived.Test.YtkgdahdohamgbaaGreatDoorBase
import Derived.Test.YtkgdahdohamgbaaGreatDoorData
namespace Go.Ab
open Go.RowKit Go.Proofs
namespace SY
noncomputable def c21 : Ctx := ⟨Tryz.prog, (addS 47 (orS (atNx 5472) s17 (orS (atNx 7055) s19 badS)) (addS 26 (orS (atNx 5502) s18 (orS (atNx 7079) s20 badS)) KBase.S0)), fun _ => false⟩
noncomputable def a21 : List AV := [(.ptr (.i (.o (.o (.o (.i (.i (.o (.o .h)))))))) 0), (.func 38 [] [(.ptr (.i (.o (.o (.o (.i (.o (.i (.o (.i (.o (.o (.o .h)))))))))))) 0), (.ptr (.o (.i (.o (.o (.i (.o (.i (.o (.i (.o (.o (.o .h)))))))))))) 0)])]
noncomputable def p21 : Stt := ⟨4434, [o2, (1, .map [] 18), o1, o151, o152, o153, o154, o155, o6, o67, o144, o10, o11, o12, o13, o156, o16, o17, o18, o19, o20, o21, o22, o23, o24, o25, o26, o27, o28, o29, o30, o31, o32, o33, o34, o35, o36, o37, (2012, .map [] 0), o39, o157, o158, o40, o41, o42, (2019, .map [] 0), (2020, .map [] 0), o135, o44, o46, o47, o48, o49, o50, o58, o145, o61, o62, o74, o159, o77, o78, o79, o97, o98, o126, o111, o128, o114, o115, o118, o119, o120, o129, o130, o131, o132, o133, o134, o137, o147, o148, o149, o150, o160, o161, o162, o163, o164, o165, o166, o167, o168, o169, o170, o171, o172, o173, o174, o175, o176]⟩
noncomputable def v21 : AV := (.tup [(.int .i64 (.ofNat 2)), (.int .i64 (.ofNat 0))])
noncomputable def q21 : Stt := ⟨8618, [o202, (1, .map [] 20), o1, o151, o152, o203, o186, o155, o6, o67, o187, o10, o11, o12, o13, o156, o16, o17, o18, o19, o20, o21, o22, o23, o24, o25, o26, o27, o28, o29, o30, o31, o32, o33, o34, o35, o36, o37, (2012, .map [] 0), o39, o157, o158, o40, o41, o42, (2019, .map [] 0), (2020, .map [] 0), o135, o44, o46, o47, o48, o49, o50, o58, o188, o61, o179, o74, o204, o77, o199, o79, o97, o180, o126, o111, o205, o114, o115, o118, o119, o120, o129, o130, o131, o132, o133, o134, o137, o147, o148, o181, o191, o160, o200, o162, o206, o164, o165, o166, o167, o168, o169, o170, o171, o207, o173, o174, o175, o176, o193, o208, o209, o210]⟩
noncomputable def s21 : Summ := segS a21 p21 v21 q21
set_option maxRecDepth 1000000
theorem r21 : segR c21 60 37 a21 p21 v21 q21 = true := by decide +kernel
theorem x21 : CtxOK c21 := ⟨names_of KBase.names, KBase.mixed, (addS_ok (orS_ok k17 (orS_ok k19 badS_ok)) (addS_ok (orS_ok k18 (orS_ok k20 badS_ok)) KBase.S0_ok))⟩
theorem k21 : SummOK Tryz.prog 37 s21 := seg_summ x21 r21
end SY
end Go.Ab
namespace Go.Ab
open Go.RowKit Go.Proofs
namespace SY
noncomputable def c22 : Ctx := ⟨Tryz.prog, (addS 37 (orS (atNx 4434) s21 badS) KBase.S0), fun _ => false⟩
noncomputable def a22 : List AV := [(.ptr (.i (.o (.o (.o (.i (.i (.o (.o .h)))))))) 0), (.int .i64 (.ofNat 2))]
noncomputable def p22 : Stt := ⟨4432, [o2, (1, .map [] 18), o1, o151, o152, o153, o154, o155, o6, o67, o144, o10, o11, o12, o13, o156, o16, o17, o18, o19, o20, o21, o22, o23, o24, o25, o26, o27, o28, o29, o30, o31, o32, o33, o34, o35, o36, o37, (2012, .map [] 0), o39, o157, o158, o40, o41, o42, (2019, .map [] 0), (2020, .map [] 0), o135, o44, o46, o47, o48, o49, o50, o58, o145, o61, o62, o74, o159, o77, o78, o79, o97, o98, o126, o111, o128, o114, o115, o118, o119, o120, o129, o130, o131, o132, o133, o134, o137, o147, o148, o149, o150, o160, o161, o162, o163, o164, o165, o166, o167, o168, o169, o170, o171, o172, o173, o174]⟩
noncomputable def v22 : AV := (.tup [(.int .i64 (.ofNat 2)), (.int .i64 (.ofNat 0))])
noncomputable def q22 : Stt := ⟨8618, [o202, (1, .map [] 20), o1, o151, o152, o203, o186, o155, o6, o67, o187, o10, o11, o12, o13, o156, o16, o17, o18, o19, o20, o21, o22, o23, o24, o25, o26, o27, o28, o29, o30, o31, o32, o33, o34, o35, o36, o37, (2012, .map [] 0), o39, o157, o158, o40, o41, o42, (2019, .map [] 0), (2020, .map [] 0), o135, o44, o46, o47, o48, o49, o50, o58, o188, o61, o179, o74, o204, o77, o199, o79, o97, o180, o126, o111, o205, o114, o115, o118, o119, o120, o129, o130, o131, o132, o133, o134, o137, o147, o148, o181, o191, o160, o200, o162, o206, o164, o165, o166, o167, o168, o169, o170, o171, o207, o173, o174, o193, o208, o209, o210]⟩
noncomputable def s22 : Summ := segS a22 p22 v22 q22
set_option maxRecDepth 1000000
theorem r22 : segR c22 60 22 a22 p22 v22 q22 = true := by decide +kernel
theorem x22 : CtxOK c22 := ⟨names_of KBase.names, KBase.mixed, (addS_ok (orS_ok k21 badS_ok) KBase.S0_ok)⟩
theorem k22 : SummOK Tryz.prog 22 s22 := seg_summ x22 r22
end SY
end Go.Ab
namespace Go.Ab
open Go.RowKit Go.Proofs
namespace SY
noncomputable def c23 : Ctx := ⟨Tryz.prog, KBase.S0, fun _ => false⟩
noncomputable def a23 : List AV := [(.ptr (.i (.o (.o (.o (.i (.i (.o (.o .h)))))))) 0), (.int .i64 (.ofNat 8))]
noncomputable def p23 : Stt := ⟨8633, [o202, (1, .map [] 20), o1, o151, o152, o203, o186, o155, o6, o67, o187, o10, o11, o12, o13, o156, o16, o17, o18, o19, o20, o21, o22, o23, o24, o25, o26, o27, o28, o29, o30, o31, o32, o33, o34, o35, o36, o37, (2012, .map [] 0), o39, o157, o158, o40, o41, o42, (2019, .map [] 0), (2020, .map [] 0), o135, o44, o46, o47, o48, o49, o50, o58, o188, o61, o179, o74, o204, o77, o199, o79, o97, o180, o126, o111, o205, o114, o115, o118, o119, o120, o129, o130, o131, o132, o133, o134, o137, o147, o148, o181, o191, o160, o200, o162, o206, o164, o165, o166, o167, o168, o169, o170, o171, o207, o173, o174, o193, o208, o209, o210, o211, o212, o213]⟩
noncomputable def v23 : AV := (.int .i64 (.ofNat 0))
noncomputable def q23 : Stt := ⟨8653, [o202, o214, o1, o151, o152, o203, o186, o155, o6, o67, o187, o10, o11, o12, o13, o156, o16, o17, o18, o19, o20, o21, o22, o23, o24, o25, o26, o27, o28, o29, o30, o31, o32, o33, o34, o35, o36, o37, (2012, .map [] 0), o39, o157, o158, o40, o41, o42, (2019, .map [] 0), (2020, .map [] 0), o135, o44, o46, o47, o48, o49, o50, o58, o188, o61, o179, o74, o204, o77, o199, o79, o97, o180, o126, o111, o205, o114, o115, o118, o119, o120, o129, o130, o131, o132, o133, o134, o137, o147, o148, o181, o191, o160, o215, o162, o206, o164, o165, o216, o167, o168, o169, o170, o171, o207, o173, o174, o193, o208, o209, o210, o211, o212, o213, o217]⟩
noncomputable def s23 : Summ := segS a23 p23 v23 q23
set_option maxRecDepth 1000000
theorem r23 : segR c23 60 47 a23 p23 v23 q23 = true := by decide +kernel
theorem x23 : CtxOK c23 := ⟨names_of KBase.names, KBase.mixed, KBase.S0_ok⟩
theorem k23 : SummOK Tryz.prog 47 s23 := seg_summ x23 r23
end SY
end Go.Ab
namespace Go.Ab
open Go.RowKit Go.Proofs
namespace SY
noncomputable def c24 : Ctx := ⟨Tryz.prog, KBase.S0, fun _ => false⟩
noncomputable def a24 : List AV := [(.ptr (.i (.o (.o (.o (.i (.i (.o (.o .h)))))))) 0)]
noncomputable def p24 : Stt := ⟨8653, [o202, o214, o1, o151, o152, o203, o186, o155, o6, o67, o187, o10, o11, o12, o13, o156, o16, o17, o18, o19, o20, o21, o22, o23, o24, o25, o26, o27, o28, o29, o30, o31, o32, o33, o34, o35, o36, o37, (2012, .map [] 0), o39, o157, o158, o40, o41, o42, (2019, .map [] 0), (2020, .map [] 0), o135, o44, o46, o47, o48, o49, o50, o58, o188, o61, o179, o74, o204, o77, o199, o79, o97, o180, o126, o111, o205, o114, o115, o118, o119, o120, o129, o130, o131, o132, o133, o134, o137, o147, o148, o181, o191, o160, o215, o162, o206, o164, o165, o216, o167, o168, o169, o170, o171, o207, o173, o174, o193, o208, o209, o210, o211, o212, o213, o217]⟩
noncomputable def v24 : AV := (.int .i64 (.ofNat 0))
noncomputable def q24 : Stt := ⟨10191, [o218, (1, .map [] 21), o1, o151, o152, o219, o220, o155, o6, o67, o187, o10, o11, o12, o13, o156, o16, o17, o18, o19, o20, o21, o22, o23, o24, o25, o26, o27, o28, o29, o30, o31, o32, o33, o34, o35, o36, o37, (2012, .map [] 0), o39, o157, o158, o40, o41, o42, (2019, .map [] 0), (2020, .map [] 0), o135, o44, o46, o47, o48, o49, o50, o58, o188, o61, o179, o74, o221, o77, o199, o79, o97, o180, o126, o111, o222, o114, o115, o118, o119, o120, o129, o130, o131, o132, o133, o134, o137, o147, o148, o181, o191, o223, o215, o162, o224, o164, o165, o216, o225, o168, o169, o170, o171, o207, o173, o174, o193, o208, o209, o210, o211, o212, o213, o217, o226, o227, o228]⟩
noncomputable def s24 : Summ := segS a24 p24 v24 q24
set_option maxRecDepth 1000000
theorem r24 : segR c24 60 26 a24 p24 v24 q24 = true := by decide +kernel
theorem x24 : CtxOK c24 := ⟨names_of KBase.names, KBase.mixed, KBase.S0_ok⟩
theorem k24 : SummOK Tryz.prog 26 s24 := seg_summ x24 r24
end SY
end Go.Ab
