import Derived.Test.YtfnmplolnlaomaaGreatDoorBase
import Derived.Test.YtfnmplolnlaomaaGreatDoorData
namespace Go.Ab
open Go.RowKit Go.Proofs
namespace IM
noncomputable def c1 : Ctx := ⟨Tryz.prog, KBase.S0, fun _ => false⟩
noncomputable def a1 : List AV := [.nilp, .junk, .junk]
noncomputable def p1 : Stt := ⟨0, []⟩
noncomputable def v1 : AV := (.tup [(.int .i64 (.ofNat 0)), (.int .i64 (.ofNat 2))])
noncomputable def q1 : Stt := ⟨0, []⟩
noncomputable def s1 : Summ := segS a1 p1 v1 q1
set_option maxRecDepth 1000000
theorem r1 : segR c1 60 5 a1 p1 v1 q1 = true := by decide +kernel
theorem x1 : CtxOK c1 := ⟨names_of KBase.names, KBase.mixed, KBase.S0_ok⟩
theorem k1 : SummOK Tryz.prog 5 s1 := seg_summ x1 r1
end IM
end Go.Ab
namespace Go.Ab
open Go.RowKit Go.Proofs
namespace IM
noncomputable def c2 : Ctx := ⟨Tryz.prog, KBase.S0, fun _ => false⟩
noncomputable def a2 : List AV := [(.ptr (.i .h) 0), (.agg [(.int .i64 (.ofNat 32)), (.int .i64 (.ofNat 8)), (.int .i64 (.ofNat 3))])]
noncomputable def p2 : Stt := ⟨3, [o0, (1, .map [] 0), o1]⟩
noncomputable def v2 : AV := (.int .i64 (.ofNat 0))
noncomputable def q2 : Stt := ⟨276, [o2, (1, .map [] 12), o1]⟩
noncomputable def s2 : Summ := segS a2 p2 v2 q2
set_option maxRecDepth 1000000
theorem r2 : segR c2 60 28 a2 p2 v2 q2 = true := by decide +kernel
theorem x2 : CtxOK c2 := ⟨names_of KBase.names, KBase.mixed, KBase.S0_ok⟩
theorem k2 : SummOK Tryz.prog 28 s2 := seg_summ x2 r2
end IM
end Go.Ab
namespace Go.Ab
open Go.RowKit Go.Proofs
namespace IM
noncomputable def c3 : Ctx := ⟨Tryz.prog, KBase.S0, fun _ => false⟩
noncomputable def a3 : List AV := [(.ptr (.i .h) 0)]
noncomputable def p3 : Stt := ⟨276, [o2, (1, .map [] 12), o1]⟩
noncomputable def v3 : AV := (.tup [(.ptr (.i (.i (.i (.o (.i (.i (.o (.o .h)))))))) 0), (.int .i64 (.ofNat 0))])
noncomputable def q3 : Stt := ⟨1262, [o2, (1, .map [] 12), o1, o3, o4, (278, .map [] 0), (279, .map [] 0), o5, o6, o7, o8, o9, o10, o11, o12, o13, o14, o15, o16, o17, o18, o19, o20, o21, o22, o23, o24, o25, o26]⟩
noncomputable def s3 : Summ := segS a3 p3 v3 q3
set_option maxRecDepth 1000000
theorem r3 : segR c3 60 69 a3 p3 v3 q3 = true := by decide +kernel
theorem x3 : CtxOK c3 := ⟨names_of KBase.names, KBase.mixed, KBase.S0_ok⟩
theorem k3 : SummOK Tryz.prog 69 s3 := seg_summ x3 r3
end IM
end Go.Ab
namespace Go.Ab
open Go.RowKit Go.Proofs
namespace IM
noncomputable def c4 : Ctx := ⟨Tryz.prog, (addS 69 (orS (atNx 276) s3 badS) KBase.S0), fun _ => false⟩
noncomputable def a4 : List AV := [(.ptr (.i .h) 0)]
noncomputable def p4 : Stt := ⟨276, [o2, (1, .map [] 12), o1]⟩
noncomputable def v4 : AV := (.tup [(.ptr (.i (.o (.o (.i (.i (.i (.i (.i (.o (.o .h)))))))))) 0), (.int .i64 (.ofNat 0))])
noncomputable def q4 : Stt := ⟨1273, [o2, (1, .map [] 12), o1, o3, o4, (278, .map [] 0), (279, .map [] 0), o5, o6, o7, o8, o9, o10, o11, o12, o13, o14, o15, o16, o17, o18, o19, o20, o21, o22, o23, o24, o25, o26, (1262, .map [] 0), o27, (1264, .map [] 0), (1265, .map [] 0), o28, o29, o30, (1269, .map [] 0), (1270, .map [] 0), o31, o32]⟩
noncomputable def s4 : Summ := segS a4 p4 v4 q4
set_option maxRecDepth 1000000
theorem r4 : segR c4 60 29 a4 p4 v4 q4 = true := by decide +kernel
theorem x4 : CtxOK c4 := ⟨names_of KBase.names, KBase.mixed, (addS_ok (orS_ok k3 badS_ok) KBase.S0_ok)⟩
theorem k4 : SummOK Tryz.prog 29 s4 := seg_summ x4 r4
end IM
end Go.Ab
namespace Go.Ab
open Go.RowKit Go.Proofs
namespace IM
noncomputable def c5 : Ctx := ⟨Tryz.prog, KBase.S0, fun _ => false⟩
noncomputable def a5 : List AV := [(.ptr (.o (.o (.i (.i (.i (.i (.i (.i (.o (.o .h)))))))))) 0), (.int .i64 (.ofNat 5)), .junk]
noncomputable def p5 : Stt := ⟨1295, [o2, (1, .map [] 12), o1, o3, o4, (278, .map [] 0), (279, .map [] 0), o5, o6, o7, o8, o9, o10, o11, o12, o13, o14, o15, o16, o17, o18, o19, o20, o21, o22, o23, o24, o25, o26, (1262, .map [] 0), o27, (1264, .map [] 0), (1265, .map [] 0), o28, o29, o30, (1269, .map [] 0), (1270, .map [] 0), o31, o32, o33, o34, o35, o36, o37, o38, o39]⟩
noncomputable def v5 : AV := (.tup [(.int .i64 (.ofNat 0)), (.int .i64 (.ofNat 20))])
noncomputable def q5 : Stt := ⟨1325, [o2, (1, .map [] 12), o1, o3, o4, (278, .map [] 0), (279, .map [] 0), o5, o6, o7, o8, o9, o10, o11, o12, o13, o14, o15, o16, o17, o18, o19, o20, o21, o22, o23, o24, o25, o40, (1262, .map [] 0), o27, (1264, .map [] 0), (1265, .map [] 0), o28, o29, o30, (1269, .map [] 0), (1270, .map [] 0), o31, o32, o33, o34, o35, o36, o37, o38, o39]⟩
noncomputable def s5 : Summ := segS a5 p5 v5 q5
set_option maxRecDepth 1000000
theorem r5 : segR c5 60 5 a5 p5 v5 q5 = true := by decide +kernel
theorem x5 : CtxOK c5 := ⟨names_of KBase.names, KBase.mixed, KBase.S0_ok⟩
theorem k5 : SummOK Tryz.prog 5 s5 := seg_summ x5 r5
end IM
end Go.Ab
namespace Go.Ab
open Go.RowKit Go.Proofs
namespace IM
noncomputable def c6 : Ctx := ⟨Tryz.prog, KBase.S0, fun _ => false⟩
noncomputable def a6 : List AV := [(.ptr (.o (.o (.i (.i (.i (.i (.i (.i (.o (.o .h)))))))))) 0), (.int .i64 (.negSucc 0)), .junk]
noncomputable def p6 : Stt := ⟨1325, [o2, (1, .map [] 12), o1, o3, o4, (278, .map [] 0), (279, .map [] 0), o5, o6, o7, o8, o9, o10, o11, o12, o13, o14, o15, o16, o17, o18, o19, o20, o21, o22, o23, o24, o25, o40, (1262, .map [] 0), o27, (1264, .map [] 0), (1265, .map [] 0), o28, o29, o30, (1269, .map [] 0), (1270, .map [] 0), o31, o32, o33, o34, o35, o36, o37, o38, o39]⟩
noncomputable def v6 : AV := (.tup [(.int .i64 (.ofNat 0)), (.int .i64 (.ofNat 3))])
noncomputable def q6 : Stt := ⟨1333, [o2, (1, .map [] 12), o1, o3, o4, (278, .map [] 0), (279, .map [] 0), o5, o6, o7, o8, o9, o10, o11, o12, o13, o14, o15, o16, o17, o18, o19, o20, o21, o22, o23, o24, o25, o40, (1262, .map [] 0), o27, (1264, .map [] 0), (1265, .map [] 0), o28, o29, o30, (1269, .map [] 0), (1270, .map [] 0), o31, o32, o33, o34, o35, o36, o37, o38, o39]⟩
noncomputable def s6 : Summ := segS a6 p6 v6 q6
set_option maxRecDepth 1000000
theorem r6 : segR c6 60 5 a6 p6 v6 q6 = true := by decide +kernel
theorem x6 : CtxOK c6 := ⟨names_of KBase.names, KBase.mixed, KBase.S0_ok⟩
theorem k6 : SummOK Tryz.prog 5 s6 := seg_summ x6 r6
end IM
end Go.Ab
namespace Go.Ab
open Go.RowKit Go.Proofs
namespace IM
noncomputable def c7 : Ctx := ⟨Tryz.prog, KBase.S0, fun _ => false⟩
noncomputable def a7 : List AV := [.nilp, .junk]
noncomputable def p7 : Stt := ⟨1333, [o2, (1, .map [] 12), o1, o3, o4, (278, .map [] 0), (279, .map [] 0), o5, o6, o7, o8, o9, o10, o11, o12, o13, o14, o15, o16, o17, o18, o19, o20, o21, o22, o23, o24, o25, o40, (1262, .map [] 0), o27, (1264, .map [] 0), (1265, .map [] 0), o28, o29, o30, (1269, .map [] 0), (1270, .map [] 0), o31, o32, o33, o34, o35, o36, o37, o38, o39]⟩
noncomputable def v7 : AV := .nils
noncomputable def q7 : Stt := ⟨1333, [o2, (1, .map [] 12), o1, o3, o4, (278, .map [] 0), (279, .map [] 0), o5, o6, o7, o8, o9, o10, o11, o12, o13, o14, o15, o16, o17, o18, o19, o20, o21, o22, o23, o24, o25, o40, (1262, .map [] 0), o27, (1264, .map [] 0), (1265, .map [] 0), o28, o29, o30, (1269, .map [] 0), (1270, .map [] 0), o31, o32, o33, o34, o35, o36, o37, o38, o39]⟩
noncomputable def s7 : Summ := segS a7 p7 v7 q7
set_option maxRecDepth 1000000
theorem r7 : segR c7 60 8 a7 p7 v7 q7 = true := by decide +kernel
theorem x7 : CtxOK c7 := ⟨names_of KBase.names, KBase.mixed, KBase.S0_ok⟩
theorem k7 : SummOK Tryz.prog 8 s7 := seg_summ x7 r7
end IM
end Go.Ab
