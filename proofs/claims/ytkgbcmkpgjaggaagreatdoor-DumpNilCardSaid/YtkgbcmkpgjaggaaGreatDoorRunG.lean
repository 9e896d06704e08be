import Derived.Test.YtkgbcmkpgjaggaaGreatDoorBase
import Derived.Test.YtkgbcmkpgjaggaaGreatDoorData
namespace Go.Ab
open Go.RowKit Go.Proofs
namespace DN
noncomputable def c12 : Ctx := ⟨Tryz.prog, KBase.S0, fun _ => false⟩
noncomputable def a12 : List AV := [(.ptr (.i (.o (.i (.o (.i (.i (.i (.o (.i (.o (.o .h))))))))))) 0), (.int .i64 (.ofNat 4)), (.int .i64 (.ofNat 1))]
noncomputable def p12 : Stt := ⟨5788, [o0, o1, o4, (3, .map [] 21), o3, o107, o108, o130, o110, o131, o8, o74, o101, o12, o13, o14, o15, o16, o17, o18, o19, o20, o21, o112, o24, o25, o26, o27, o28, o29, o30, o31, o32, o33, o34, o35, o36, o37, o38, o39, o40, o41, o42, o43, o44, o45, (2411, .map [] 0), o47, o113, o132, o48, o49, o50, (2418, .map [] 0), o143, o51, o52, o144, o56, o65, o102, o68, o69, o81, o115, o84, o85, o86, o88, o103, o104, o105, o106, o133, o148, o118, o135, o121, o122, o124, o125, o126, o127, o128, o136, o137, o138, o139, o140, o141, o145, o146, o147, o149, o150]⟩
noncomputable def v12 : AV := (.int .i64 (.ofNat 0))
noncomputable def q12 : Stt := ⟨6276, [o0, o1, o4, (3, .map [] 21), o3, o107, o108, o130, o110, o131, o8, o74, o101, o12, o13, o14, o15, o16, o17, o18, o19, o20, o21, o112, o24, o25, o26, o27, o28, o29, o30, o31, o32, o33, o34, o35, o36, o37, o38, o39, o40, o41, o42, o43, o44, o45, (2411, .map [] 0), o47, o113, o132, o48, o49, o50, (2418, .map [] 0), o143, o51, o52, o144, o56, o65, o102, o68, o69, o81, o115, o84, o85, o86, o88, o103, o104, o105, o106, o133, o151, o118, o135, o121, o122, o124, o125, o126, o127, o128, o136, o137, o138, o139, o140, o141, o145, o146, o147, o149, o150]⟩
noncomputable def s12 : Summ := segS a12 p12 v12 q12
set_option maxRecDepth 1000000
theorem r12 : segR c12 60 139 a12 p12 v12 q12 = true := by decide +kernel
theorem x12 : CtxOK c12 := ⟨names_of KBase.names, KBase.mixed, KBase.S0_ok⟩
theorem k12 : SummOK Tryz.prog 139 s12 := seg_summ x12 r12
end DN
end Go.Ab
namespace Go.Ab
open Go.RowKit Go.Proofs
namespace DN
noncomputable def c13 : Ctx := ⟨Tryz.prog, KBase.S0, fun _ => false⟩
noncomputable def a13 : List AV := [(.ptr (.i (.o (.i (.i (.o (.i (.i (.o (.i (.o (.o .h))))))))))) 0), (.int .i64 (.ofNat 2))]
noncomputable def p13 : Stt := ⟨6276, [o0, o1, o4, (3, .map [] 21), o3, o107, o108, o130, o110, o131, o8, o74, o101, o12, o13, o14, o15, o16, o17, o18, o19, o20, o21, o112, o24, o25, o26, o27, o28, o29, o30, o31, o32, o33, o34, o35, o36, o37, o38, o39, o40, o41, o42, o43, o44, o45, (2411, .map [] 0), o47, o113, o132, o48, o49, o50, (2418, .map [] 0), o143, o51, o52, o144, o56, o65, o102, o68, o69, o81, o115, o84, o85, o86, o88, o103, o104, o105, o106, o133, o151, o118, o135, o121, o122, o124, o125, o126, o127, o128, o136, o137, o138, o139, o140, o141, o145, o146, o147, o149, o150]⟩
noncomputable def v13 : AV := (.tup [(.int .i64 (.ofNat 3)), (.int .i64 (.ofNat 7)), (.int .i64 (.ofNat 0))])
noncomputable def q13 : Stt := ⟨6527, [o0, o1, o4, (3, .map [] 21), o3, o107, o108, o152, o110, o153, o8, o74, o154, o12, o13, o14, o15, o16, o17, o18, o19, o20, o21, o112, o24, o25, o26, o27, o28, o29, o30, o31, o32, o33, o34, o35, o36, o37, o38, o39, o40, o41, o42, o43, o44, o45, (2411, .map [] 0), o47, o113, o132, o48, o49, o50, (2418, .map [] 0), o143, o51, o52, o144, o56, o65, o155, o68, o69, o81, o115, o84, o85, o86, o88, o103, o104, o105, o133, o156, o118, o135, o121, o122, o124, o125, o126, o127, o128, o136, o137, o138, o139, o140, o141, o145, o146, o147, o149, o150, o157, o158, o159, o160]⟩
noncomputable def s13 : Summ := segS a13 p13 v13 q13
set_option maxRecDepth 1000000
theorem r13 : segR c13 60 226 a13 p13 v13 q13 = true := by decide +kernel
theorem x13 : CtxOK c13 := ⟨names_of KBase.names, KBase.mixed, KBase.S0_ok⟩
theorem k13 : SummOK Tryz.prog 226 s13 := seg_summ x13 r13
end DN
end Go.Ab
namespace Go.Ab
open Go.RowKit Go.Proofs
namespace DN
noncomputable def c14 : Ctx := ⟨Tryz.prog, KBase.S0, fun _ => false⟩
noncomputable def a14 : List AV := [(.ptr (.o (.o (.o (.o (.i (.i (.i (.o (.i (.o (.o .h))))))))))) 0), (.int .i64 (.ofNat 3)), (.int .i64 (.ofNat 0)), .nils]
noncomputable def p14 : Stt := ⟨6577, [o0, o1, o4, (3, .map [] 21), o3, o107, o108, o161, o110, o162, o8, o163, o154, o12, o13, o14, o15, o16, o17, o18, o19, o20, o21, o164, o24, o25, o26, o27, o28, o29, o30, o31, o32, o33, o34, o35, o36, o37, o38, o39, o40, o41, o42, o43, o44, o45, (2411, .map [] 0), o47, o165, o166, o48, o49, o50, (2418, .map [] 0), o143, o51, o52, o144, o56, o65, o155, o68, o69, o81, o167, o84, o85, o86, o88, o103, o104, o105, o133, o168, o118, o135, o121, o122, o124, o125, o126, o127, o136, o137, o138, o139, o140, o141, o145, o146, o147, o149, o150, o157, o158, o159, o160, o169, o170, o171, o172, o173, o174, o175, o176]⟩
noncomputable def v14 : AV := (.int .i64 (.ofNat 0))
noncomputable def q14 : Stt := ⟨6609, [o0, o1, o4, (3, .map [] 21), o3, o107, o108, o161, o110, o162, o8, o163, o154, o12, o13, o14, o15, o16, o17, o18, o19, o20, o21, o164, o24, o25, o26, o27, o28, o29, o30, o31, o32, o33, o34, o35, o36, o37, o38, o39, o40, o41, o42, o43, o44, o45, (2411, .map [] 0), o47, o165, o166, o48, o49, o50, (2418, .map [] 0), o143, o51, o52, o144, o56, o65, o155, o68, o69, o81, o167, o84, o85, o86, o88, o103, o104, o105, o133, o168, o118, o135, o121, o122, o124, o125, o126, o127, o136, o137, o138, o139, o140, o141, o145, o146, o147, o149, o150, o157, o158, o159, o160, o169, o170, o171, o172, o173, o174, o175, o176]⟩
noncomputable def s14 : Summ := segS a14 p14 v14 q14
set_option maxRecDepth 1000000
theorem r14 : segR c14 60 79 a14 p14 v14 q14 = true := by decide +kernel
theorem x14 : CtxOK c14 := ⟨names_of KBase.names, KBase.mixed, KBase.S0_ok⟩
theorem k14 : SummOK Tryz.prog 79 s14 := seg_summ x14 r14
end DN
end Go.Ab
namespace Go.Ab
open Go.RowKit Go.Proofs
namespace DN
noncomputable def c15 : Ctx := ⟨Tryz.prog, KBase.S0, fun _ => false⟩
noncomputable def a15 : List AV := [(.ptr (.i (.o (.i (.i (.o (.i (.i (.o (.i (.o (.o .h))))))))))) 0), (.int .i64 (.ofNat 0))]
noncomputable def p15 : Stt := ⟨7226, [o0, o1, o4, (3, .map [] 21), o3, o107, o108, o161, o110, o162, o8, o163, o154, o12, o13, o14, o15, o16, o17, o18, o19, o20, o21, o164, o24, o25, o26, o27, o28, o29, o30, o31, o32, o33, o34, o35, o36, o37, o38, o39, o40, o41, o42, o43, o44, o45, (2411, .map [] 0), o47, o165, o166, o48, o49, o50, (2418, .map [] 0), o143, o51, o52, o144, o56, o65, o155, o68, o69, o81, o167, o84, o85, o86, o88, o103, o104, o105, o133, o151, o118, o135, o121, o122, o124, o125, o126, o127, o136, o137, o138, o139, o140, o141, o145, o146, o147, o149, o150, o157, o158, o159, o160, o169, o170, o171, o172, o173, o174, o175, o176, o177, o178, o179, o180, o181, o182, o183, o184, o185, o186]⟩
noncomputable def v15 : AV := (.tup [(.int .i64 (.ofNat 6)), (.int .i64 (.ofNat 9)), (.int .i64 (.ofNat 0))])
noncomputable def q15 : Stt := ⟨7486, [o0, o1, o4, (3, .map [] 21), o3, o107, o108, o187, o110, o188, o8, o163, o189, o12, o13, o14, o15, o16, o17, o18, o19, o20, o21, o164, o24, o25, o26, o27, o28, o29, o30, o31, o32, o33, o34, o35, o36, o37, o38, o39, o40, o41, o42, o43, o44, o45, (2411, .map [] 0), o47, o165, o166, o48, o49, o50, (2418, .map [] 0), o143, o51, o52, o144, o56, o65, o190, o68, o69, o81, o167, o84, o85, o86, o88, o103, o104, o105, o133, o156, o118, o135, o121, o122, o124, o125, o126, o127, o136, o137, o138, o139, o140, o141, o145, o146, o147, o149, o150, o157, o158, o159, o169, o170, o171, o172, o173, o174, o175, o176, o177, o178, o179, o180, o181, o182, o183, o184, o185, o186, o191, o192, o193, o194]⟩
noncomputable def s15 : Summ := segS a15 p15 v15 q15
set_option maxRecDepth 1000000
theorem r15 : segR c15 60 330 a15 p15 v15 q15 = true := by decide +kernel
theorem x15 : CtxOK c15 := ⟨names_of KBase.names, KBase.mixed, KBase.S0_ok⟩
theorem k15 : SummOK Tryz.prog 330 s15 := seg_summ x15 r15
end DN
end Go.Ab
