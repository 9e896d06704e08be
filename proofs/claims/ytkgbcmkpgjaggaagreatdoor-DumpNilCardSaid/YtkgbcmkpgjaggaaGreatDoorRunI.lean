import Derived.Test.YtkgbcmkpgjaggaaGreatDoorRunG
import Derived.Test.YtkgbcmkpgjaggaaGreatDoorRunH
import Derived.Test.YtkgbcmkpgjaggaaGreatDoorData
namespace Go.Ab
open Go.RowKit Go.Proofs
namespace DN
noncomputable def c18 : Ctx := ⟨Tryz.prog, (addS 226 (orS (atNx 6276) s13 badS) (addS 141 (orS (atNx 6611) s17 badS) (addS 139 (orS (atNx 5788) s12 badS) (addS 79 (orS (atNx 6577) s14 badS) KBase.S0)))), fun _ => false⟩
noncomputable def a18 : List AV := [(.ptr (.o (.i (.i (.o (.i (.i (.i (.o (.i (.o (.o .h))))))))))) 0), (.str [47, 97, 47, 102])]
noncomputable def p18 : Stt := ⟨5455, [o0, o1, o4, (3, .map [] 21), o3, o107, o108, o130, o110, o131, o8, o74, o101, o12, o13, o14, o15, o16, o17, o18, o19, o20, o21, o112, o24, o25, o26, o27, o28, o29, o30, o31, o32, o33, o34, o35, o36, o37, o38, o39, o40, o41, o42, o43, o44, o45, (2411, .map [] 0), o47, o113, o132, o48, o49, o50, (2418, .map [] 0), o143, o51, o52, o144, o56, o65, o102, o68, o69, o81, o115, o84, o85, o86, o88, o103, o104, o105, o106, o133, o230, o118, o135, o121, o122, o124, o125, o126, o127, o128, o136, o137, o138, o139, o140, o141, o145, o146, o147, o149]⟩
noncomputable def v18 : AV := (.int .i64 (.ofNat 0))
noncomputable def q18 : Stt := ⟨7655, [o0, o1, o4, (3, .map [] 21), o3, o195, o196, o218, o198, o219, o8, o163, o189, o12, o13, o14, o15, o16, o17, o18, o19, o20, o21, o200, o24, o25, o26, o27, o28, o29, o30, o31, o32, o33, o34, o35, o36, o37, o38, o39, o40, o41, o42, o43, o44, o45, (2411, .map [] 0), o47, o201, o220, o48, o49, o50, (2418, .map [] 0), o143, o51, o52, o144, o56, o65, o190, o68, o69, o81, o203, o84, o85, o86, o103, o104, o105, o133, o118, o135, o121, o122, o124, o125, o126, o127, o136, o137, o138, o139, o140, o141, o145, o146, o147, o149, o158, o159, o172, o173, o174, o176, o191, o192, o193, o194, o221, o222, o206, o223, o209, o210, o212, o213, o214, o215, o216, o224, o225, o226, o227, o228, o229]⟩
noncomputable def s18 : Summ := segS a18 p18 v18 q18
set_option maxRecDepth 1000000
theorem r18 : segR c18 60 24 a18 p18 v18 q18 = true := by decide +kernel
theorem x18 : CtxOK c18 := ⟨names_of KBase.names, KBase.mixed, (addS_ok (orS_ok k13 badS_ok) (addS_ok (orS_ok k17 badS_ok) (addS_ok (orS_ok k12 badS_ok) (addS_ok (orS_ok k14 badS_ok) KBase.S0_ok))))⟩
theorem k18 : SummOK Tryz.prog 24 s18 := seg_summ x18 r18
end DN
end Go.Ab
