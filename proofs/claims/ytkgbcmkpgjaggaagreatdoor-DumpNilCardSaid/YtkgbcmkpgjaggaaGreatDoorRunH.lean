import Derived.Test.YtkgbcmkpgjaggaaGreatDoorRunG
import Derived.Test.YtkgbcmkpgjaggaaGreatDoorData
namespace Go.Ab
open Go.RowKit Go.Proofs
namespace DN
noncomputable def c16 : Ctx := ⟨Tryz.prog, (addS 330 (orS (atNx 7226) s15 badS) KBase.S0), fun _ => false⟩
noncomputable def a16 : List AV := [(.ptr (.o (.o (.o (.o (.i (.i (.i (.o (.i (.o (.o .h))))))))))) 0), (.int .i64 (.ofNat 2)), (.int .i64 (.ofNat 0)), (.sl (.i (.o (.i (.i (.o (.i (.o (.o (.o (.i (.o (.i .h)))))))))))) 0 256 256 1 true)]
noncomputable def p16 : Stt := ⟨6701, [o0, o1, o4, (3, .map [] 21), o3, o107, o108, o161, o110, o162, o8, o163, o154, o12, o13, o14, o15, o16, o17, o18, o19, o20, o21, o164, o24, o25, o26, o27, o28, o29, o30, o31, o32, o33, o34, o35, o36, o37, o38, o39, o40, o41, o42, o43, o44, o45, (2411, .map [] 0), o47, o165, o166, o48, o49, o50, (2418, .map [] 0), o143, o51, o52, o144, o56, o65, o155, o68, o69, o81, o167, o84, o85, o86, o88, o103, o104, o105, o133, o168, o118, o135, o121, o122, o124, o125, o126, o127, o136, o137, o138, o139, o140, o141, o145, o146, o147, o149, o150, o157, o158, o159, o160, o169, o170, o171, o172, o173, o174, o175, o176, o177, o178, o179, o180, o181, o182]⟩
noncomputable def v16 : AV := (.int .i64 (.ofNat 0))
noncomputable def q16 : Stt := ⟨7572, [o0, o1, o4, (3, .map [] 21), o3, o195, o196, o197, o198, o199, o8, o163, o189, o12, o13, o14, o15, o16, o17, o18, o19, o20, o21, o200, o24, o25, o26, o27, o28, o29, o30, o31, o32, o33, o34, o35, o36, o37, o38, o39, o40, o41, o42, o43, o44, o45, (2411, .map [] 0), o47, o201, o202, o48, o49, o50, (2418, .map [] 0), o143, o51, o52, o144, o56, o65, o190, o68, o69, o81, o203, o84, o85, o86, o103, o104, o105, o133, o118, o135, o121, o122, o124, o125, o126, o127, o136, o137, o138, o139, o140, o141, o145, o146, o147, o149, o150, o157, o158, o159, o169, o170, o171, o172, o173, o174, o176, o177, o178, o179, o180, o181, o182, o191, o192, o193, o194, o204, o205, o206, o207, o208, o209, o210, o211, o212, o213, o214, o215, o216, o217]⟩
noncomputable def s16 : Summ := segS a16 p16 v16 q16
set_option maxRecDepth 1000000
theorem r16 : segR c16 60 79 a16 p16 v16 q16 = true := by decide +kernel
theorem x16 : CtxOK c16 := ⟨names_of KBase.names, KBase.mixed, (addS_ok (orS_ok k15 badS_ok) KBase.S0_ok)⟩
theorem k16 : SummOK Tryz.prog 79 s16 := seg_summ x16 r16
end DN
end Go.Ab
namespace Go.Ab
open Go.RowKit Go.Proofs
namespace DN
noncomputable def c17 : Ctx := ⟨Tryz.prog, (addS 79 (orS (atNx 6701) s16 badS) KBase.S0), fun _ => false⟩
noncomputable def a17 : List AV := [(.ptr (.i (.o (.o (.o (.i (.i (.i (.o (.i (.o (.o .h))))))))))) 0), (.int .i64 (.ofNat 2)), (.str [102]), (.int .i64 (.ofNat 3)), (.sl (.i (.i (.o (.o (.i (.o (.i (.i (.i (.o (.o (.i .h)))))))))))) 0 1 1 1 false)]
noncomputable def p17 : Stt := ⟨6611, [o0, o1, o4, (3, .map [] 21), o3, o107, o108, o161, o110, o162, o8, o163, o154, o12, o13, o14, o15, o16, o17, o18, o19, o20, o21, o164, o24, o25, o26, o27, o28, o29, o30, o31, o32, o33, o34, o35, o36, o37, o38, o39, o40, o41, o42, o43, o44, o45, (2411, .map [] 0), o47, o165, o166, o48, o49, o50, (2418, .map [] 0), o143, o51, o52, o144, o56, o65, o155, o68, o69, o81, o167, o84, o85, o86, o88, o103, o104, o105, o133, o168, o118, o135, o121, o122, o124, o125, o126, o127, o136, o137, o138, o139, o140, o141, o145, o146, o147, o149, o150, o157, o158, o159, o160, o169, o170, o171, o172, o173, o174, o175, o176, o177]⟩
noncomputable def v17 : AV := (.tup [(.int .i64 (.ofNat 12)), (.int .i64 (.ofNat 0))])
noncomputable def q17 : Stt := ⟨7655, [o0, o1, o4, (3, .map [] 21), o3, o195, o196, o218, o198, o219, o8, o163, o189, o12, o13, o14, o15, o16, o17, o18, o19, o20, o21, o200, o24, o25, o26, o27, o28, o29, o30, o31, o32, o33, o34, o35, o36, o37, o38, o39, o40, o41, o42, o43, o44, o45, (2411, .map [] 0), o47, o201, o220, o48, o49, o50, (2418, .map [] 0), o143, o51, o52, o144, o56, o65, o190, o68, o69, o81, o203, o84, o85, o86, o103, o104, o105, o133, o118, o135, o121, o122, o124, o125, o126, o127, o136, o137, o138, o139, o140, o141, o145, o146, o147, o149, o150, o157, o158, o159, o169, o170, o171, o172, o173, o174, o176, o177, o191, o192, o193, o194, o221, o222, o206, o223, o209, o210, o212, o213, o214, o215, o216, o224, o225, o226, o227, o228, o229]⟩
noncomputable def s17 : Summ := segS a17 p17 v17 q17
set_option maxRecDepth 1000000
theorem r17 : segR c17 60 141 a17 p17 v17 q17 = true := by decide +kernel
theorem x17 : CtxOK c17 := ⟨names_of KBase.names, KBase.mixed, (addS_ok (orS_ok k16 badS_ok) KBase.S0_ok)⟩
theorem k17 : SummOK Tryz.prog 141 s17 := seg_summ x17 r17
end DN
end Go.Ab
