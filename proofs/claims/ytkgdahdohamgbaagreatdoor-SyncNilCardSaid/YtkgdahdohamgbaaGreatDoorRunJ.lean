import Derived.Test.YtkgdahdohamgbaaGreatDoorBase
import Derived.Test.YtkgdahdohamgbaaGreatDoorRunH
import Derived.Test.YtkgdahdohamgbaaGreatDoorRunI
import Derived.Test.YtkgdahdohamgbaaGreatDoorData
namespace Go.Ab
open Go.RowKit Go.Proofs
namespace SY
noncomputable def c37 : Ctx := ⟨Tryz.prog, KBase.S0, fun _ => false⟩
noncomputable def a37 : List AV := [(.ptr (.i (.o (.o (.o (.i (.i (.o (.o .h)))))))) 0)]
noncomputable def p37 : Stt := ⟨14931, [o259, o269, o1, o151, o152, o260, o261, o155, o6, o67, o187, o10, o11, o12, o13, o262, o16, o17, o18, o19, o20, o21, o22, o23, o24, o25, o26, o27, o28, o29, o30, o31, o32, o33, o34, o35, o36, o37, (2012, .map [] 0), o39, o157, o158, o40, o41, o42, (2019, .map [] 0), (2020, .map [] 0), o135, o44, o46, o47, o48, o49, o50, o263, o126, o264, o114, o244, o118, o256, o120, o129, o130, o270, o132, o251, o134, o137, o147, o223, o245, o164, o168, o265, o173, o240, o241, o266, o267, o268, o271]⟩
noncomputable def v37 : AV := (.int .i64 (.ofNat 0))
noncomputable def q37 : Stt := ⟨14936, [o272, (1, .map [] 25), o1, o151, o152, (302, .map [] 9), (303, .map [] 4), o155, o6, o67, o187, o10, o11, o12, o13, o262, o16, o17, o18, o19, o20, o21, o22, o23, o24, o25, o26, o27, o28, o29, o30, o31, o32, o33, o34, o35, o36, o37, (2012, .map [] 0), o39, o157, o158, o40, o41, o42, (2019, .map [] 0), (2020, .map [] 0), o135, o44, o46, o47, o48, o49, o50, o263, o273, o274, o114, o244, o118, o256, o120, o129, o130, o270, o132, o275, o134, o137, o147, o223, o245, o164, o168, o265, o173, o240, o241, o266, o267, o268, o271, o276]⟩
noncomputable def s37 : Summ := segS a37 p37 v37 q37
set_option maxRecDepth 1000000
theorem r37 : segR c37 60 26 a37 p37 v37 q37 = true := by decide +kernel
theorem x37 : CtxOK c37 := ⟨names_of KBase.names, KBase.mixed, KBase.S0_ok⟩
theorem k37 : SummOK Tryz.prog 26 s37 := seg_summ x37 r37
end SY
end Go.Ab
namespace Go.Ab
open Go.RowKit Go.Proofs
namespace SY
noncomputable def c38 : Ctx := ⟨Tryz.prog, (addS 47 (orS (atNx 11779) s32 (orS (atNx 13344) s34 (orS (atNx 14911) s36 badS))) (addS 26 (orS (atNx 11801) s33 (orS (atNx 13368) s35 (orS (atNx 14931) s37 badS))) KBase.S0)), fun _ => false⟩
noncomputable def a38 : List AV := [(.ptr (.i (.o (.o (.o (.i (.i (.o (.o .h)))))))) 0), (.func 27 [(.ptr (.i (.o (.o (.o (.i (.i (.o (.o .h)))))))) 0)] [])]
noncomputable def p38 : Stt := ⟨11769, [o235, (1, .map [] 22), o1, o151, o152, o236, o220, o155, o6, o67, o187, o10, o11, o12, o13, o156, o16, o17, o18, o19, o20, o21, o22, o23, o24, o25, o26, o27, o28, o29, o30, o31, o32, o33, o34, o35, o36, o37, (2012, .map [] 0), o39, o157, o158, o40, o41, o42, (2019, .map [] 0), (2020, .map [] 0), o135, o44, o46, o47, o48, o49, o50, o237, o126, o238, o114, o115, o118, o119, o120, o129, o130, o131, o132, o133, o134, o137, o147, o223, o161, o164, o168, o239, o173, o240, o241]⟩
noncomputable def v38 : AV := (.tup [(.int .i64 (.ofNat 3)), (.int .i64 (.ofNat 0))])
noncomputable def q38 : Stt := ⟨14936, [o272, (1, .map [] 25), o1, o151, o152, (302, .map [] 9), (303, .map [] 4), o155, o6, o67, o187, o10, o11, o12, o13, o262, o16, o17, o18, o19, o20, o21, o22, o23, o24, o25, o26, o27, o28, o29, o30, o31, o32, o33, o34, o35, o36, o37, (2012, .map [] 0), o39, o157, o158, o40, o41, o42, (2019, .map [] 0), (2020, .map [] 0), o135, o44, o46, o47, o48, o49, o50, o263, o273, o274, o114, o244, o118, o256, o120, o129, o130, o270, o132, o275, o134, o137, o147, o223, o245, o164, o168, o265, o173, o240, o241, o266, o276]⟩
noncomputable def s38 : Summ := segS a38 p38 v38 q38
set_option maxRecDepth 1000000
theorem r38 : segR c38 60 37 a38 p38 v38 q38 = true := by decide +kernel
theorem x38 : CtxOK c38 := ⟨names_of KBase.names, KBase.mixed, (addS_ok (orS_ok k32 (orS_ok k34 (orS_ok k36 badS_ok))) (addS_ok (orS_ok k33 (orS_ok k35 (orS_ok k37 badS_ok))) KBase.S0_ok))⟩
theorem k38 : SummOK Tryz.prog 37 s38 := seg_summ x38 r38
end SY
end Go.Ab
namespace Go.Ab
open Go.RowKit Go.Proofs
namespace SY
noncomputable def c39 : Ctx := ⟨Tryz.prog, (addS 37 (orS (atNx 11769) s38 badS) KBase.S0), fun _ => false⟩
noncomputable def a39 : List AV := [(.ptr (.i (.o (.o (.o (.i (.i (.o (.o .h)))))))) 0)]
noncomputable def p39 : Stt := ⟨11769, [o235, (1, .map [] 22), o1, o151, o152, o236, o220, o155, o6, o67, o187, o10, o11, o12, o13, o156, o16, o17, o18, o19, o20, o21, o22, o23, o24, o25, o26, o27, o28, o29, o30, o31, o32, o33, o34, o35, o36, o37, (2012, .map [] 0), o39, o157, o158, o40, o41, o42, (2019, .map [] 0), (2020, .map [] 0), o135, o44, o46, o47, o48, o49, o50, o237, o126, o238, o114, o115, o118, o119, o120, o129, o130, o131, o132, o133, o134, o137, o147, o223, o161, o164, o168, o239, o173, o240, o241]⟩
noncomputable def v39 : AV := (.tup [(.int .i64 (.ofNat 3)), (.int .i64 (.ofNat 0))])
noncomputable def q39 : Stt := ⟨14936, [o272, (1, .map [] 25), o1, o151, o152, (302, .map [] 9), (303, .map [] 4), o155, o6, o67, o187, o10, o11, o12, o13, o262, o16, o17, o18, o19, o20, o21, o22, o23, o24, o25, o26, o27, o28, o29, o30, o31, o32, o33, o34, o35, o36, o37, (2012, .map [] 0), o39, o157, o158, o40, o41, o42, (2019, .map [] 0), (2020, .map [] 0), o135, o44, o46, o47, o48, o49, o50, o263, o273, o274, o114, o244, o118, o256, o120, o129, o130, o270, o132, o275, o134, o137, o147, o223, o245, o164, o168, o265, o173, o240, o241, o266, o276]⟩
noncomputable def s39 : Summ := segS a39 p39 v39 q39
set_option maxRecDepth 1000000
theorem r39 : segR c39 60 24 a39 p39 v39 q39 = true := by decide +kernel
theorem x39 : CtxOK c39 := ⟨names_of KBase.names, KBase.mixed, (addS_ok (orS_ok k38 badS_ok) KBase.S0_ok)⟩
theorem k39 : SummOK Tryz.prog 24 s39 := seg_summ x39 r39
end SY
end Go.Ab
namespace Go.Ab
open Go.RowKit Go.Proofs
namespace SY
noncomputable def c40 : Ctx := ⟨Tryz.prog, (addS 24 (orS (atNx 11769) s39 badS) KBase.S0), fun _ => false⟩
noncomputable def a40 : List AV := [(.ptr (.o (.o (.o (.i (.o (.i (.i (.i (.i (.i .h)))))))))) 0)]
noncomputable def p40 : Stt := ⟨11769, [o235, (1, .map [] 22), o1, o151, o152, o236, o220, o155, o6, o67, o187, o10, o11, o12, o13, o156, o16, o17, o18, o19, o20, o21, o22, o23, o24, o25, o26, o27, o28, o29, o30, o31, o32, o33, o34, o35, o36, o37, (2012, .map [] 0), o39, o157, o158, o40, o41, o42, (2019, .map [] 0), (2020, .map [] 0), o135, o44, o46, o47, o48, o49, o50, o237, o126, o238, o114, o115, o118, o119, o120, o129, o130, o131, o132, o133, o134, o137, o147, o223, o161, o164, o168, o239, o173, o240, o241]⟩
noncomputable def v40 : AV := (.tup [(.int .i64 (.ofNat 3)), (.int .i64 (.ofNat 0))])
noncomputable def q40 : Stt := ⟨14936, [o272, (1, .map [] 25), o1, o151, o152, (302, .map [] 9), (303, .map [] 4), o155, o6, o67, o187, o10, o11, o12, o13, o262, o16, o17, o18, o19, o20, o21, o22, o23, o24, o25, o26, o27, o28, o29, o30, o31, o32, o33, o34, o35, o36, o37, (2012, .map [] 0), o39, o157, o158, o40, o41, o42, (2019, .map [] 0), (2020, .map [] 0), o135, o44, o46, o47, o48, o49, o50, o263, o273, o274, o114, o244, o118, o256, o120, o129, o130, o270, o132, o275, o134, o137, o147, o223, o245, o164, o168, o265, o173, o240, o241, o266, o276]⟩
noncomputable def s40 : Summ := segS a40 p40 v40 q40
set_option maxRecDepth 1000000
theorem r40 : segR c40 60 6 a40 p40 v40 q40 = true := by decide +kernel
theorem x40 : CtxOK c40 := ⟨names_of KBase.names, KBase.mixed, (addS_ok (orS_ok k39 badS_ok) KBase.S0_ok)⟩
theorem k40 : SummOK Tryz.prog 6 s40 := seg_summ x40 r40
end SY
end Go.Ab
