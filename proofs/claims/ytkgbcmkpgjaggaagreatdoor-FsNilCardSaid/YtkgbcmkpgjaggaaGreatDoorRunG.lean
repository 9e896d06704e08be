import Derived.Test.YtkgbcmkpgjaggaaGreatDoorBase
import Derived.Test.YtkgbcmkpgjaggaaGreatDoorData
namespace Go.Ab
open Go.RowKit Go.Proofs
namespace FN
noncomputable def c19 : Ctx := ⟨Tryz.prog, KBase.S0, fun _ => false⟩
noncomputable def a19 : List AV := [(.ptr (.o (.i (.i (.i (.i (.o (.i (.i (.i (.i .h)))))))))) 0), (.int .i64 (.ofNat 0))]
noncomputable def p19 : Stt := ⟨5979, [o2, (1, .map [] 18), o1, o180, o181, o203, o183, o204, o6, o148, o174, o10, o11, o12, o13, o185, o16, o17, o18, o19, o20, o21, o22, o23, o24, o25, o26, o27, o28, o29, o30, o31, o32, o33, o34, o35, o36, o37, (2012, .map [] 0), o39, o186, o205, o40, o41, o42, (2019, .map [] 0), o134, o215, o44, o46, o47, o48, o49, o57, o175, o60, o61, o73, o188, o76, o77, o78, o96, o97, o125, o110, o127, o113, o114, o117, o118, o119, o128, o129, o130, o131, o132, o133, o143, o144, o157, o158, o159, o161, o176, o177, o178, o179, o206, o217, o191, o208, o194, o195, o197, o198, o199, o200, o201, o209, o210, o211, o212, o213, o214, o218, o219, o220, o221, o222]⟩
noncomputable def v19 : AV := (.tup [(.int .i64 (.ofNat 9)), (.int .i64 (.ofNat 13)), (.int .i64 (.ofNat 0))])
noncomputable def q19 : Stt := ⟨6239, [o2, (1, .map [] 18), o1, o180, o181, o223, o183, o224, o6, o148, o225, o10, o11, o12, o13, o185, o16, o17, o18, o19, o20, o21, o22, o23, o24, o25, o26, o27, o28, o29, o30, o31, o32, o33, o34, o35, o36, o37, (2012, .map [] 0), o39, o186, o205, o40, o41, o42, (2019, .map [] 0), o134, o215, o44, o46, o47, o48, o49, o57, o226, o60, o61, o73, o188, o76, o77, o78, o96, o97, o125, o110, o127, o113, o114, o117, o118, o119, o128, o129, o130, o131, o132, o133, o143, o144, o157, o158, o159, o161, o176, o177, o178, o206, o227, o191, o208, o194, o195, o197, o198, o199, o200, o201, o209, o210, o211, o212, o213, o214, o218, o219, o220, o221, o222, o228, o229, o230, o231]⟩
noncomputable def s19 : Summ := segS a19 p19 v19 q19
set_option maxRecDepth 1000000
theorem r19 : segR c19 60 330 a19 p19 v19 q19 = true := by decide +kernel
theorem x19 : CtxOK c19 := ⟨names_of KBase.names, KBase.mixed, KBase.S0_ok⟩
theorem k19 : SummOK Tryz.prog 330 s19 := seg_summ x19 r19
end FN
end Go.Ab
namespace Go.Ab
open Go.RowKit Go.Proofs
namespace FN
noncomputable def c20 : Ctx := ⟨Tryz.prog, (addS 330 (orS (atNx 5979) s19 badS) KBase.S0), fun _ => false⟩
noncomputable def a20 : List AV := [(.ptr (.i (.o (.o (.o (.o (.i (.i (.i (.i (.i .h)))))))))) 0), (.int .i64 (.ofNat 3)), (.int .i64 (.ofNat 0)), (.sl (.o (.i (.i (.i (.i (.i (.o (.o (.o (.i (.i (.o .h)))))))))))) 0 2 2 1 true)]
noncomputable def p20 : Stt := ⟨5694, [o2, (1, .map [] 18), o1, o180, o181, o203, o183, o204, o6, o148, o174, o10, o11, o12, o13, o185, o16, o17, o18, o19, o20, o21, o22, o23, o24, o25, o26, o27, o28, o29, o30, o31, o32, o33, o34, o35, o36, o37, (2012, .map [] 0), o39, o186, o205, o40, o41, o42, (2019, .map [] 0), o134, o215, o44, o46, o47, o48, o49, o57, o175, o60, o61, o73, o188, o76, o77, o78, o96, o97, o125, o110, o127, o113, o114, o117, o118, o119, o128, o129, o130, o131, o132, o133, o143, o144, o157, o158, o159, o161, o176, o177, o178, o179, o206, o216, o191, o208, o194, o195, o197, o198, o199, o200, o201, o209, o210, o211, o212, o213, o214, o218]⟩
noncomputable def v20 : AV := (.int .i64 (.ofNat 0))
noncomputable def q20 : Stt := ⟨6325, [o2, (1, .map [] 18), o1, o232, o233, o234, o235, o236, o6, o148, o225, o10, o11, o12, o13, o237, o16, o17, o18, o19, o20, o21, o22, o23, o24, o25, o26, o27, o28, o29, o30, o31, o32, o33, o34, o35, o36, o37, (2012, .map [] 0), o39, o238, o239, o40, o41, o42, (2019, .map [] 0), o134, o215, o44, o46, o47, o48, o49, o57, o226, o60, o61, o73, o240, o76, o77, o78, o96, o97, o125, o110, o127, o113, o114, o117, o118, o119, o128, o129, o130, o131, o132, o133, o143, o144, o157, o158, o159, o176, o177, o178, o206, o191, o208, o194, o195, o197, o198, o199, o200, o209, o210, o211, o212, o213, o214, o218, o228, o229, o230, o231, o241, o242, o243, o244, o245, o246, o247, o248, o249, o250, o251, o252, o253, o254]⟩
noncomputable def s20 : Summ := segS a20 p20 v20 q20
set_option maxRecDepth 1000000
theorem r20 : segR c20 60 79 a20 p20 v20 q20 = true := by decide +kernel
theorem x20 : CtxOK c20 := ⟨names_of KBase.names, KBase.mixed, (addS_ok (orS_ok k19 badS_ok) KBase.S0_ok)⟩
theorem k20 : SummOK Tryz.prog 79 s20 := seg_summ x20 r20
end FN
end Go.Ab
namespace Go.Ab
open Go.RowKit Go.Proofs
namespace FN
noncomputable def c21 : Ctx := ⟨Tryz.prog, (addS 79 (orS (atNx 5694) s20 badS) KBase.S0), fun _ => false⟩
noncomputable def a21 : List AV := [(.ptr (.i (.i (.i (.o (.o (.i (.i (.i (.i (.i .h)))))))))) 0), (.int .i64 (.ofNat 0)), (.int .i64 (.ofNat 0)), (.sl (.o (.i (.i (.i (.i (.i (.o (.o (.o (.i (.i (.o .h)))))))))))) 0 2 2 1 true)]
noncomputable def p21 : Stt := ⟨5694, [o2, (1, .map [] 18), o1, o180, o181, o203, o183, o204, o6, o148, o174, o10, o11, o12, o13, o185, o16, o17, o18, o19, o20, o21, o22, o23, o24, o25, o26, o27, o28, o29, o30, o31, o32, o33, o34, o35, o36, o37, (2012, .map [] 0), o39, o186, o205, o40, o41, o42, (2019, .map [] 0), o134, o215, o44, o46, o47, o48, o49, o57, o175, o60, o61, o73, o188, o76, o77, o78, o96, o97, o125, o110, o127, o113, o114, o117, o118, o119, o128, o129, o130, o131, o132, o133, o143, o144, o157, o158, o159, o161, o176, o177, o178, o179, o206, o216, o191, o208, o194, o195, o197, o198, o199, o200, o201, o209, o210, o211, o212, o213, o214, o218]⟩
noncomputable def v21 : AV := (.int .i64 (.ofNat 0))
noncomputable def q21 : Stt := ⟨6325, [o2, (1, .map [] 18), o1, o232, o233, o234, o235, o236, o6, o148, o225, o10, o11, o12, o13, o237, o16, o17, o18, o19, o20, o21, o22, o23, o24, o25, o26, o27, o28, o29, o30, o31, o32, o33, o34, o35, o36, o37, (2012, .map [] 0), o39, o238, o239, o40, o41, o42, (2019, .map [] 0), o134, o215, o44, o46, o47, o48, o49, o57, o226, o60, o61, o73, o240, o76, o77, o78, o96, o97, o125, o110, o127, o113, o114, o117, o118, o119, o128, o129, o130, o131, o132, o133, o143, o144, o157, o158, o159, o176, o177, o178, o206, o191, o208, o194, o195, o197, o198, o199, o200, o209, o210, o211, o212, o213, o214, o218, o228, o229, o230, o231, o241, o242, o243, o244, o245, o246, o247, o248, o249, o250, o251, o252, o253, o254]⟩
noncomputable def s21 : Summ := segS a21 p21 v21 q21
set_option maxRecDepth 1000000
theorem r21 : segR c21 60 32 a21 p21 v21 q21 = true := by decide +kernel
theorem x21 : CtxOK c21 := ⟨names_of KBase.names, KBase.mixed, (addS_ok (orS_ok k20 badS_ok) KBase.S0_ok)⟩
theorem k21 : SummOK Tryz.prog 32 s21 := seg_summ x21 r21
end FN
end Go.Ab
namespace Go.Ab
open Go.RowKit Go.Proofs
namespace FN
noncomputable def c22 : Ctx := ⟨Tryz.prog, KBase.S0, fun _ => false⟩
noncomputable def a22 : List AV := [(.ptr (.o (.i (.i (.o (.o (.i (.i (.i (.i (.i .h)))))))))) 0), (.int .i64 (.ofNat 4)), (.int .i64 (.ofNat 0))]
noncomputable def p22 : Stt := ⟨7209, [o2, (1, .map [] 18), o1, o232, o233, o234, o235, o236, o6, o148, o225, o10, o11, o12, o13, o237, o16, o17, o18, o19, o20, o21, o22, o23, o24, o25, o26, o27, o28, o29, o30, o31, o32, o33, o34, o35, o36, o37, (2012, .map [] 0), o39, o238, o239, o40, o41, o42, (2019, .map [] 0), o134, o215, o44, o46, o47, o48, o49, o57, o226, o60, o61, o73, o240, o76, o77, o78, o96, o97, o125, o110, o127, o113, o114, o117, o118, o119, o128, o129, o130, o131, o132, o133, o143, o144, o157, o158, o159, o177, o178, o206, o191, o208, o194, o195, o198, o199, o200, o209, o210, o211, o212, o213, o214, o218, o228, o229, o230, o231, o241, o255, o243, o244, o245, o246, o247, o248, o249, o250, o251, o252, o253, o254, o256, o257]⟩
noncomputable def v22 : AV := (.int .i64 (.ofNat 0))
noncomputable def q22 : Stt := ⟨7457, [o2, (1, .map [] 18), o1, o232, o233, o234, o235, o236, o6, o148, o225, o10, o11, o12, o13, o237, o16, o17, o18, o19, o20, o21, o22, o23, o24, o25, o26, o27, o28, o29, o30, o31, o32, o33, o34, o35, o36, o37, (2012, .map [] 0), o39, o238, o239, o40, o41, o42, (2019, .map [] 0), o134, o215, o44, o46, o47, o48, o49, o57, o226, o60, o61, o73, o240, o76, o77, o78, o96, o97, o125, o110, o127, o113, o114, o117, o118, o119, o128, o129, o130, o131, o132, o133, o143, o144, o157, o158, o159, o177, o178, o206, o191, o208, o194, o195, o198, o199, o200, o209, o210, o211, o212, o213, o214, o218, o228, o229, o230, o231, o241, o258, o243, o244, o245, o246, o247, o248, o249, o250, o251, o252, o253, o254, o256, o257]⟩
noncomputable def s22 : Summ := segS a22 p22 v22 q22
set_option maxRecDepth 1000000
theorem r22 : segR c22 60 139 a22 p22 v22 q22 = true := by decide +kernel
theorem x22 : CtxOK c22 := ⟨names_of KBase.names, KBase.mixed, KBase.S0_ok⟩
theorem k22 : SummOK Tryz.prog 139 s22 := seg_summ x22 r22
end FN
end Go.Ab
