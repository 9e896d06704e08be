import Derived.Test.YtfnmplolnlaomaaGreatDoorBase
import Derived.Test.YtfnmplolnlaomaaGreatDoorData
namespace Go.Ab
open Go.RowKit Go.Proofs
namespace IM
noncomputable def c72 : Ctx := ⟨Tryz.prog, KBase.S0, fun _ => false⟩
noncomputable def a72 : List AV := [(.ptr (.o (.i (.i (.i (.o (.i (.o (.o (.o (.i (.o .h))))))))))) 0), (.str [47, 98]), (.bool true)]
noncomputable def p72 : Stt := ⟨271257, [o2, (1, .map [] 12), o1, o3, o4, (278, .map [] 0), (279, .map [] 0), o5, o6, o7, o8, o9, o10, o11, o12, o13, o14, o15, o16, o17, o18, o19, o20, o21, o22, o23, o24, o25, o40, (1262, .map [] 0), o27, (1264, .map [] 0), (1265, .map [] 0), o28, o29, o30, (1269, .map [] 0), (1270, .map [] 0), o31, o32, o33, o34, o35, o36, o37, o38, o39, o446, (1334, .map [] 21), o42, o131, o132, o453, o454, o455, o47, o98, o456, o286, o53, o54, o447, o57, o58, o319, o61, o62, o63, o64, o65, o66, (2595, .map [] 0), o68, o430, o431, o69, o70, o71, (2602, .map [] 0), (2603, .map [] 0), o72, o73, o75, o76, o77, o78, o79, o80, o81, o420, o457, o432, o196, o198, o255, o269, o274, o404, o408, o435, o458, o459, o460, o461, o462, o463]⟩
noncomputable def v72 : AV := (.tup [(.agg [(.int .i64 (.ofNat 2)), (.int .i64 (.ofNat 1)), (.int .i64 (.ofNat 0)), (.int .i64 (.ofNat 2))]), (.int .i64 (.ofNat 0))])
noncomputable def q72 : Stt := ⟨271478, [o2, (1, .map [] 12), o1, o3, o4, (278, .map [] 0), (279, .map [] 0), o5, o6, o7, o8, o9, o10, o11, o12, o13, o14, o15, o16, o17, o18, o19, o20, o21, o22, o23, o24, o25, o40, (1262, .map [] 0), o27, (1264, .map [] 0), (1265, .map [] 0), o28, o29, o30, (1269, .map [] 0), (1270, .map [] 0), o31, o32, o33, o34, o35, o36, o37, o38, o39, o446, (1334, .map [] 21), o42, o131, o132, o453, o454, o455, o47, o98, o456, o286, o53, o54, o447, o57, o58, o319, o61, o62, o63, o64, o65, o66, (2595, .map [] 0), o68, o430, o431, o69, o70, o71, (2602, .map [] 0), (2603, .map [] 0), o72, o73, o75, o76, o77, o78, o79, o80, o81, o420, o464, o432, o196, o198, o255, o269, o274, o404, o408, o435, o458, o459, o460, o461, o462, o463]⟩
noncomputable def s72 : Summ := segS a72 p72 v72 q72
set_option maxRecDepth 1000000
theorem r72 : segR c72 60 37 a72 p72 v72 q72 = true := by decide +kernel
theorem x72 : CtxOK c72 := ⟨names_of KBase.names, KBase.mixed, KBase.S0_ok⟩
theorem k72 : SummOK Tryz.prog 37 s72 := seg_summ x72 r72
end IM
end Go.Ab
namespace Go.Ab
open Go.RowKit Go.Proofs
namespace IM
noncomputable def c73 : Ctx := ⟨Tryz.prog, KBase.S0, fun _ => false⟩
noncomputable def a73 : List AV := [(.ptr (.i (.o (.o (.o (.i (.i (.o (.o (.o (.i (.o .h))))))))))) 0), (.int .i64 (.ofNat 10))]
noncomputable def p73 : Stt := ⟨271479, [o2, (1, .map [] 12), o1, o3, o4, (278, .map [] 0), (279, .map [] 0), o5, o6, o7, o8, o9, o10, o11, o12, o13, o14, o15, o16, o17, o18, o19, o20, o21, o22, o23, o24, o25, o40, (1262, .map [] 0), o27, (1264, .map [] 0), (1265, .map [] 0), o28, o29, o30, (1269, .map [] 0), (1270, .map [] 0), o31, o32, o33, o34, o35, o36, o37, o38, o39, o446, (1334, .map [] 21), o42, o131, o132, o453, o454, o455, o47, o98, o456, o286, o53, o54, o447, o57, o58, o319, o61, o62, o63, o64, o65, o66, (2595, .map [] 0), o68, o430, o431, o69, o70, o71, (2602, .map [] 0), (2603, .map [] 0), o72, o73, o75, o76, o77, o78, o79, o80, o81, o420, o464, o432, o196, o198, o255, o269, o274, o404, o408, o435, o458, o459, o460, o461, o462, o463, o465]⟩
noncomputable def v73 : AV := (.sl (.o (.i (.o (.o (.i (.i (.i (.i (.i (.i (.i (.o (.o (.i (.o (.o (.o (.o .h)))))))))))))))))) 0 2 2 2 false)
noncomputable def q73 : Stt := ⟨272402, [o2, (1, .map [] 12), o1, o3, o4, (278, .map [] 0), (279, .map [] 0), o5, o6, o7, o8, o9, o10, o11, o12, o13, o14, o15, o16, o17, o18, o19, o20, o21, o22, o23, o24, o25, o40, (1262, .map [] 0), o27, (1264, .map [] 0), (1265, .map [] 0), o28, o29, o30, (1269, .map [] 0), (1270, .map [] 0), o31, o32, o33, o34, o35, o36, o37, o38, o39, o446, (1334, .map [] 21), o42, o131, o132, o453, o454, o455, o47, o98, o456, o286, o53, o54, o447, o57, o58, o319, o61, o62, o63, o64, o65, o66, (2595, .map [] 0), o68, o430, o431, o69, o70, o71, (2602, .map [] 0), (2603, .map [] 0), o72, o73, o75, o76, o77, o78, o79, o80, o81, o420, o466, o432, o196, o198, o255, o269, o274, o404, o408, o435, o458, o459, o460, o461, o462, o463, o465, o467]⟩
noncomputable def s73 : Summ := segS a73 p73 v73 q73
set_option maxRecDepth 1000000
theorem r73 : segR c73 60 8 a73 p73 v73 q73 = true := by decide +kernel
theorem x73 : CtxOK c73 := ⟨names_of KBase.names, KBase.mixed, KBase.S0_ok⟩
theorem k73 : SummOK Tryz.prog 8 s73 := seg_summ x73 r73
end IM
end Go.Ab
