import Derived.Test.YtkgdahdohamgbaaGreatDoorBase
import Derived.Test.YtkgdahdohamgbaaGreatDoorData
namespace Go.Ab
open Go.RowKit Go.Proofs
namespace SY
noncomputable def c33 : Ctx := ⟨Tryz.prog, KBase.S0, fun _ => false⟩
noncomputable def a33 : List AV := [(.ptr (.i (.o (.o (.o (.i (.i (.o (.o .h)))))))) 0)]
noncomputable def p33 : Stt := ⟨11801, [o235, o243, o1, o151, o152, o236, o220, o155, o6, o67, o187, o10, o11, o12, o13, o156, o16, o17, o18, o19, o20, o21, o22, o23, o24, o25, o26, o27, o28, o29, o30, o31, o32, o33, o34, o35, o36, o37, (2012, .map [] 0), o39, o157, o158, o40, o41, o42, (2019, .map [] 0), (2020, .map [] 0), o135, o44, o46, o47, o48, o49, o50, o237, o126, o238, o114, o244, o118, o119, o120, o129, o130, o131, o132, o133, o134, o137, o147, o223, o245, o164, o168, o239, o173, o240, o241, o242, o246]⟩
noncomputable def v33 : AV := (.int .i64 (.ofNat 0))
noncomputable def q33 : Stt := ⟨13339, [o247, (1, .map [] 23), o1, o151, o152, o248, o220, o155, o6, o67, o187, o10, o11, o12, o13, o156, o16, o17, o18, o19, o20, o21, o22, o23, o24, o25, o26, o27, o28, o29, o30, o31, o32, o33, o34, o35, o36, o37, (2012, .map [] 0), o39, o157, o158, o40, o41, o42, (2019, .map [] 0), (2020, .map [] 0), o135, o44, o46, o47, o48, o49, o50, o249, o126, o250, o114, o244, o118, o119, o120, o129, o130, o131, o132, o251, o134, o137, o147, o223, o245, o164, o168, o239, o173, o240, o241, o242, o246, o252, o253]⟩
noncomputable def s33 : Summ := segS a33 p33 v33 q33
set_option maxRecDepth 1000000
theorem r33 : segR c33 60 26 a33 p33 v33 q33 = true := by decide +kernel
theorem x33 : CtxOK c33 := ⟨names_of KBase.names, KBase.mixed, KBase.S0_ok⟩
theorem k33 : SummOK Tryz.prog 26 s33 := seg_summ x33 r33
end SY
end Go.Ab
namespace Go.Ab
open Go.RowKit Go.Proofs
namespace SY
noncomputable def c34 : Ctx := ⟨Tryz.prog, KBase.S0, fun _ => false⟩
noncomputable def a34 : List AV := [(.ptr (.i (.o (.o (.o (.i (.i (.o (.o .h)))))))) 0), (.int .i64 (.ofNat 3))]
noncomputable def p34 : Stt := ⟨13344, [o247, (1, .map [] 23), o1, o151, o152, o248, o220, o155, o6, o67, o187, o10, o11, o12, o13, o156, o16, o17, o18, o19, o20, o21, o22, o23, o24, o25, o26, o27, o28, o29, o30, o31, o32, o33, o34, o35, o36, o37, (2012, .map [] 0), o39, o157, o158, o40, o41, o42, (2019, .map [] 0), (2020, .map [] 0), o135, o44, o46, o47, o48, o49, o50, o249, o126, o250, o114, o244, o118, o119, o120, o129, o130, o131, o132, o251, o134, o137, o147, o223, o245, o164, o168, o239, o173, o240, o241, o252, o253, o254]⟩
noncomputable def v34 : AV := (.int .i64 (.ofNat 0))
noncomputable def q34 : Stt := ⟨13364, [o247, o255, o1, o151, o152, o248, o220, o155, o6, o67, o187, o10, o11, o12, o13, o156, o16, o17, o18, o19, o20, o21, o22, o23, o24, o25, o26, o27, o28, o29, o30, o31, o32, o33, o34, o35, o36, o37, (2012, .map [] 0), o39, o157, o158, o40, o41, o42, (2019, .map [] 0), (2020, .map [] 0), o135, o44, o46, o47, o48, o49, o50, o249, o126, o250, o114, o244, o118, o256, o120, o129, o130, o131, o132, o251, o134, o137, o147, o223, o257, o164, o168, o239, o173, o240, o241, o252, o253, o254, o258]⟩
noncomputable def s34 : Summ := segS a34 p34 v34 q34
set_option maxRecDepth 1000000
theorem r34 : segR c34 60 47 a34 p34 v34 q34 = true := by decide +kernel
theorem x34 : CtxOK c34 := ⟨names_of KBase.names, KBase.mixed, KBase.S0_ok⟩
theorem k34 : SummOK Tryz.prog 47 s34 := seg_summ x34 r34
end SY
end Go.Ab
namespace Go.Ab
open Go.RowKit Go.Proofs
namespace SY
noncomputable def c35 : Ctx := ⟨Tryz.prog, KBase.S0, fun _ => false⟩
noncomputable def a35 : List AV := [(.ptr (.i (.o (.o (.o (.i (.i (.o (.o .h)))))))) 0)]
noncomputable def p35 : Stt := ⟨13368, [o247, o255, o1, o151, o152, o248, o220, o155, o6, o67, o187, o10, o11, o12, o13, o156, o16, o17, o18, o19, o20, o21, o22, o23, o24, o25, o26, o27, o28, o29, o30, o31, o32, o33, o34, o35, o36, o37, (2012, .map [] 0), o39, o157, o158, o40, o41, o42, (2019, .map [] 0), (2020, .map [] 0), o135, o44, o46, o47, o48, o49, o50, o249, o126, o250, o114, o244, o118, o256, o120, o129, o130, o131, o132, o251, o134, o137, o147, o223, o257, o164, o168, o239, o173, o240, o241, o252, o253, o254, o258]⟩
noncomputable def v35 : AV := (.int .i64 (.ofNat 0))
noncomputable def q35 : Stt := ⟨14906, [o259, (1, .map [] 24), o1, o151, o152, o260, o261, o155, o6, o67, o187, o10, o11, o12, o13, o262, o16, o17, o18, o19, o20, o21, o22, o23, o24, o25, o26, o27, o28, o29, o30, o31, o32, o33, o34, o35, o36, o37, (2012, .map [] 0), o39, o157, o158, o40, o41, o42, (2019, .map [] 0), (2020, .map [] 0), o135, o44, o46, o47, o48, o49, o50, o263, o126, o264, o114, o244, o118, o256, o120, o129, o130, o131, o132, o251, o134, o137, o147, o223, o257, o164, o168, o265, o173, o240, o241, o252, o253, o254, o258, o266, o267]⟩
noncomputable def s35 : Summ := segS a35 p35 v35 q35
set_option maxRecDepth 1000000
theorem r35 : segR c35 60 26 a35 p35 v35 q35 = true := by decide +kernel
theorem x35 : CtxOK c35 := ⟨names_of KBase.names, KBase.mixed, KBase.S0_ok⟩
theorem k35 : SummOK Tryz.prog 26 s35 := seg_summ x35 r35
end SY
end Go.Ab
namespace Go.Ab
open Go.RowKit Go.Proofs
namespace SY
noncomputable def c36 : Ctx := ⟨Tryz.prog, KBase.S0, fun _ => false⟩
noncomputable def a36 : List AV := [(.ptr (.i (.o (.o (.o (.i (.i (.o (.o .h)))))))) 0), (.int .i64 (.ofNat 7))]
noncomputable def p36 : Stt := ⟨14911, [o259, (1, .map [] 24), o1, o151, o152, o260, o261, o155, o6, o67, o187, o10, o11, o12, o13, o262, o16, o17, o18, o19, o20, o21, o22, o23, o24, o25, o26, o27, o28, o29, o30, o31, o32, o33, o34, o35, o36, o37, (2012, .map [] 0), o39, o157, o158, o40, o41, o42, (2019, .map [] 0), (2020, .map [] 0), o135, o44, o46, o47, o48, o49, o50, o263, o126, o264, o114, o244, o118, o256, o120, o129, o130, o131, o132, o251, o134, o137, o147, o223, o257, o164, o168, o265, o173, o240, o241, o266, o267, o268]⟩
noncomputable def v36 : AV := (.int .i64 (.ofNat 0))
noncomputable def q36 : Stt := ⟨14931, [o259, o269, o1, o151, o152, o260, o261, o155, o6, o67, o187, o10, o11, o12, o13, o262, o16, o17, o18, o19, o20, o21, o22, o23, o24, o25, o26, o27, o28, o29, o30, o31, o32, o33, o34, o35, o36, o37, (2012, .map [] 0), o39, o157, o158, o40, o41, o42, (2019, .map [] 0), (2020, .map [] 0), o135, o44, o46, o47, o48, o49, o50, o263, o126, o264, o114, o244, o118, o256, o120, o129, o130, o270, o132, o251, o134, o137, o147, o223, o245, o164, o168, o265, o173, o240, o241, o266, o267, o268, o271]⟩
noncomputable def s36 : Summ := segS a36 p36 v36 q36
set_option maxRecDepth 1000000
theorem r36 : segR c36 60 47 a36 p36 v36 q36 = true := by decide +kernel
theorem x36 : CtxOK c36 := ⟨names_of KBase.names, KBase.mixed, KBase.S0_ok⟩
theorem k36 : SummOK Tryz.prog 47 s36 := seg_summ x36 r36
end SY
end Go.Ab
