import Derived.Test.YtkgdahdohamgbaaGreatDoorRunG
import Derived.Test.YtkgdahdohamgbaaGreatDoorRunF
import Derived.Test.YtkgdahdohamgbaaGreatDoorBase
import Derived.Test.YtkgdahdohamgbaaGreatDoorData
namespace Go.Ab
open Go.RowKit Go.Proofs
namespace SY
noncomputable def c29 : Ctx := ⟨Tryz.prog, (addS 47 (orS (atNx 10208) s27 badS) (addS 26 (orS (atNx 10230) s28 badS) KBase.S0)), fun _ => false⟩
noncomputable def a29 : List AV := [(.ptr (.i (.o (.o (.o (.i (.i (.o (.o .h)))))))) 0), (.func 38 [] [(.ptr (.i (.o (.o (.o (.i (.o (.i (.i (.i (.i (.i (.o (.o .h))))))))))))) 0), (.ptr (.o (.i (.o (.o (.i (.o (.i (.i (.i (.i (.i (.o (.o .h))))))))))))) 0)])]
noncomputable def p29 : Stt := ⟨10194, [o218, (1, .map [] 21), o1, o151, o152, o219, o220, o155, o6, o67, o187, o10, o11, o12, o13, o156, o16, o17, o18, o19, o20, o21, o22, o23, o24, o25, o26, o27, o28, o29, o30, o31, o32, o33, o34, o35, o36, o37, (2012, .map [] 0), o39, o157, o158, o40, o41, o42, (2019, .map [] 0), (2020, .map [] 0), o135, o44, o46, o47, o48, o49, o50, o58, o188, o61, o179, o74, o221, o77, o199, o79, o97, o180, o126, o111, o222, o114, o115, o118, o119, o120, o129, o130, o131, o132, o133, o134, o137, o147, o148, o181, o191, o223, o215, o162, o224, o164, o165, o216, o225, o168, o169, o170, o171, o207, o173, o174, o193, o226, o227, o228, o229, o230]⟩
noncomputable def v29 : AV := (.tup [(.int .i64 (.ofNat 1)), (.int .i64 (.ofNat 0))])
noncomputable def q29 : Stt := ⟨11769, [o235, (1, .map [] 22), o1, o151, o152, o236, o220, o155, o6, o67, o187, o10, o11, o12, o13, o156, o16, o17, o18, o19, o20, o21, o22, o23, o24, o25, o26, o27, o28, o29, o30, o31, o32, o33, o34, o35, o36, o37, (2012, .map [] 0), o39, o157, o158, o40, o41, o42, (2019, .map [] 0), (2020, .map [] 0), o135, o44, o46, o47, o48, o49, o50, o58, o188, o61, o179, o74, o237, o77, o199, o79, o97, o180, o126, o111, o238, o114, o115, o118, o119, o120, o129, o130, o131, o132, o133, o134, o137, o147, o148, o181, o191, o223, o161, o162, o224, o164, o165, o216, o225, o168, o169, o233, o171, o239, o173, o174, o193, o226, o227, o228, o229, o230, o240, o241]⟩
noncomputable def s29 : Summ := segS a29 p29 v29 q29
set_option maxRecDepth 1000000
theorem r29 : segR c29 60 37 a29 p29 v29 q29 = true := by decide +kernel
theorem x29 : CtxOK c29 := ⟨names_of KBase.names, KBase.mixed, (addS_ok (orS_ok k27 badS_ok) (addS_ok (orS_ok k28 badS_ok) KBase.S0_ok))⟩
theorem k29 : SummOK Tryz.prog 37 s29 := seg_summ x29 r29
end SY
end Go.Ab
namespace Go.Ab
open Go.RowKit Go.Proofs
namespace SY
noncomputable def c30 : Ctx := ⟨Tryz.prog, (addS 37 (orS (atNx 10194) s29 badS) KBase.S0), fun _ => false⟩
noncomputable def a30 : List AV := [(.ptr (.i (.o (.o (.o (.i (.i (.o (.o .h)))))))) 0), (.int .i64 (.ofNat 9))]
noncomputable def p30 : Stt := ⟨10192, [o218, (1, .map [] 21), o1, o151, o152, o219, o220, o155, o6, o67, o187, o10, o11, o12, o13, o156, o16, o17, o18, o19, o20, o21, o22, o23, o24, o25, o26, o27, o28, o29, o30, o31, o32, o33, o34, o35, o36, o37, (2012, .map [] 0), o39, o157, o158, o40, o41, o42, (2019, .map [] 0), (2020, .map [] 0), o135, o44, o46, o47, o48, o49, o50, o58, o188, o61, o179, o74, o221, o77, o199, o79, o97, o180, o126, o111, o222, o114, o115, o118, o119, o120, o129, o130, o131, o132, o133, o134, o137, o147, o148, o181, o191, o223, o215, o162, o224, o164, o165, o216, o225, o168, o169, o170, o171, o207, o173, o174, o193, o226, o227, o228]⟩
noncomputable def v30 : AV := (.tup [(.int .i64 (.ofNat 1)), (.int .i64 (.ofNat 0))])
noncomputable def q30 : Stt := ⟨11769, [o235, (1, .map [] 22), o1, o151, o152, o236, o220, o155, o6, o67, o187, o10, o11, o12, o13, o156, o16, o17, o18, o19, o20, o21, o22, o23, o24, o25, o26, o27, o28, o29, o30, o31, o32, o33, o34, o35, o36, o37, (2012, .map [] 0), o39, o157, o158, o40, o41, o42, (2019, .map [] 0), (2020, .map [] 0), o135, o44, o46, o47, o48, o49, o50, o58, o188, o61, o179, o74, o237, o77, o199, o79, o97, o180, o126, o111, o238, o114, o115, o118, o119, o120, o129, o130, o131, o132, o133, o134, o137, o147, o148, o181, o191, o223, o161, o162, o224, o164, o165, o216, o225, o168, o169, o233, o171, o239, o173, o174, o193, o226, o227, o228, o240, o241]⟩
noncomputable def s30 : Summ := segS a30 p30 v30 q30
set_option maxRecDepth 1000000
theorem r30 : segR c30 60 22 a30 p30 v30 q30 = true := by decide +kernel
theorem x30 : CtxOK c30 := ⟨names_of KBase.names, KBase.mixed, (addS_ok (orS_ok k29 badS_ok) KBase.S0_ok)⟩
theorem k30 : SummOK Tryz.prog 22 s30 := seg_summ x30 r30
end SY
end Go.Ab
namespace Go.Ab
open Go.RowKit Go.Proofs
namespace SY
noncomputable def c31 : Ctx := ⟨Tryz.prog, (addS 22 (orS (atNx 4432) s22 (orS (atNx 8618) s26 (orS (atNx 10192) s30 badS))) KBase.S0), fun _ => false⟩
noncomputable def a31 : List AV := [(.ptr (.o (.o (.o (.i (.o (.i (.i (.i (.i (.i .h)))))))))) 0), (.int .i64 (.ofNat 0))]
noncomputable def p31 : Stt := ⟨4430, [o2, (1, .map [] 18), o1, o151, o152, o153, o154, o155, o6, o67, o144, o10, o11, o12, o13, o156, o16, o17, o18, o19, o20, o21, o22, o23, o24, o25, o26, o27, o28, o29, o30, o31, o32, o33, o34, o35, o36, o37, (2012, .map [] 0), o39, o157, o158, o40, o41, o42, (2019, .map [] 0), (2020, .map [] 0), o135, o44, o46, o47, o48, o49, o50, o58, o145, o61, o62, o74, o159, o77, o78, o79, o97, o98, o126, o111, o128, o114, o115, o118, o119, o120, o129, o130, o131, o132, o133, o134, o137, o147, o148, o149, o150, o160, o161, o162, o163, o164, o165, o166, o167, o168, o169, o170, o171, o172, o173]⟩
noncomputable def v31 : AV := (.tup [(.int .i64 (.ofNat 4)), (.int .i64 (.ofNat 0))])
noncomputable def q31 : Stt := ⟨11769, [o235, (1, .map [] 22), o1, o151, o152, o236, o220, o155, o6, o67, o187, o10, o11, o12, o13, o156, o16, o17, o18, o19, o20, o21, o22, o23, o24, o25, o26, o27, o28, o29, o30, o31, o32, o33, o34, o35, o36, o37, (2012, .map [] 0), o39, o157, o158, o40, o41, o42, (2019, .map [] 0), (2020, .map [] 0), o135, o44, o46, o47, o48, o49, o50, o58, o188, o61, o179, o74, o237, o77, o199, o79, o97, o180, o126, o111, o238, o114, o115, o118, o119, o120, o129, o130, o131, o132, o133, o134, o137, o147, o148, o181, o191, o223, o161, o162, o224, o164, o165, o216, o225, o168, o169, o233, o171, o239, o173, o193, o228, o240, o241]⟩
noncomputable def s31 : Summ := segS a31 p31 v31 q31
set_option maxRecDepth 1000000
theorem r31 : segR c31 60 5 a31 p31 v31 q31 = true := by decide +kernel
theorem x31 : CtxOK c31 := ⟨names_of KBase.names, KBase.mixed, (addS_ok (orS_ok k22 (orS_ok k26 (orS_ok k30 badS_ok))) KBase.S0_ok)⟩
theorem k31 : SummOK Tryz.prog 5 s31 := seg_summ x31 r31
end SY
end Go.Ab
namespace Go.Ab
open Go.RowKit Go.Proofs
namespace SY
noncomputable def c32 : Ctx := ⟨Tryz.prog, KBase.S0, fun _ => false⟩
noncomputable def a32 : List AV := [(.ptr (.i (.o (.o (.o (.i (.i (.o (.o .h)))))))) 0), (.int .i64 (.ofNat 7))]
noncomputable def p32 : Stt := ⟨11779, [o235, (1, .map [] 22), o1, o151, o152, o236, o220, o155, o6, o67, o187, o10, o11, o12, o13, o156, o16, o17, o18, o19, o20, o21, o22, o23, o24, o25, o26, o27, o28, o29, o30, o31, o32, o33, o34, o35, o36, o37, (2012, .map [] 0), o39, o157, o158, o40, o41, o42, (2019, .map [] 0), (2020, .map [] 0), o135, o44, o46, o47, o48, o49, o50, o237, o126, o238, o114, o115, o118, o119, o120, o129, o130, o131, o132, o133, o134, o137, o147, o223, o161, o164, o168, o239, o173, o240, o241, o242]⟩
noncomputable def v32 : AV := (.int .i64 (.ofNat 0))
noncomputable def q32 : Stt := ⟨11801, [o235, o243, o1, o151, o152, o236, o220, o155, o6, o67, o187, o10, o11, o12, o13, o156, o16, o17, o18, o19, o20, o21, o22, o23, o24, o25, o26, o27, o28, o29, o30, o31, o32, o33, o34, o35, o36, o37, (2012, .map [] 0), o39, o157, o158, o40, o41, o42, (2019, .map [] 0), (2020, .map [] 0), o135, o44, o46, o47, o48, o49, o50, o237, o126, o238, o114, o244, o118, o119, o120, o129, o130, o131, o132, o133, o134, o137, o147, o223, o245, o164, o168, o239, o173, o240, o241, o242, o246]⟩
noncomputable def s32 : Summ := segS a32 p32 v32 q32
set_option maxRecDepth 1000000
theorem r32 : segR c32 60 47 a32 p32 v32 q32 = true := by decide +kernel
theorem x32 : CtxOK c32 := ⟨names_of KBase.names, KBase.mixed, KBase.S0_ok⟩
theorem k32 : SummOK Tryz.prog 47 s32 := seg_summ x32 r32
end SY
end Go.Ab
