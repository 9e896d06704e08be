import Derived.Test.YtlcnngohlalhbaaGreatDoorRunJ
import Derived.Test.YtlcnngohlalhbaaGreatDoorRunK
import Derived.Test.YtlcnngohlalhbaaGreatDoorRunL
import Derived.Test.YtlcnngohlalhbaaGreatDoorRunM
import Derived.Test.YtlcnngohlalhbaaGreatDoorRunN
import Derived.Test.YtlcnngohlalhbaaGreatDoorRunO
import Derived.Test.YtlcnngohlalhbaaGreatDoorRunP
import Derived.Test.YtlcnngohlalhbaaGreatDoorRunQ
namespace Go.Ab
open Go.RowKit Go.Proofs
namespace SH
set_option maxRecDepth 1000000
theorem wt23 : t23.OK c23 60 d23 0 := (Tab.ok_step [1, 2, 3, 4, 5, 6] u23x0 (Tab.ok_step [7, 8, 9, 10, 11] u23x1 (Tab.ok_step [7, 12, 13, 14, 15] u23x2 (Tab.ok_step [8, 12, 16, 17, 18] u23x3 (Tab.ok_step [9, 13, 16, 19, 20] u23x4 (Tab.ok_step [10, 14, 17, 19, 21] u23x5 (Tab.ok_step [11, 15, 18, 20, 21] u23x6 (Tab.ok_step [22, 23, 24, 25] u23x7 (Tab.ok_step [22, 26, 27, 28] u23x8 (Tab.ok_step [23, 26, 29, 30] u23x9 (Tab.ok_step [24, 27, 29, 31] u23x10 (Tab.ok_step [25, 28, 30, 31] u23x11 (Tab.ok_step [22, 32, 33, 34] u23x12 (Tab.ok_step [23, 32, 35, 36] u23x13 (Tab.ok_step [24, 33, 35, 37] u23x14 (Tab.ok_step [25, 34, 36, 37] u23x15 (Tab.ok_step [26, 32, 38, 39] u23x16 (Tab.ok_step [27, 33, 38, 40] u23x17 (Tab.ok_step [28, 34, 39, 40] u23x18 (Tab.ok_step [29, 35, 38, 41] u23x19 (Tab.ok_step [30, 36, 39, 41] u23x20 (Tab.ok_step [31, 37, 40, 41] u23x21 (Tab.ok_step [42, 43, 44] u23x22 (Tab.ok_step [42, 45, 46] u23x23 (Tab.ok_step [43, 45, 47] u23x24 (Tab.ok_step [44, 46, 47] u23x25 (Tab.ok_step [42, 48, 49] u23x26 (Tab.ok_step [43, 48, 50] u23x27 (Tab.ok_step [44, 49, 50] u23x28 (Tab.ok_step [45, 48, 51] u23x29 (Tab.ok_step [46, 49, 51] u23x30 (Tab.ok_step [47, 50, 51] u23x31 (Tab.ok_step [42, 52, 53] u23x32 (Tab.ok_step [43, 52, 54] u23x33 (Tab.ok_step [44, 53, 54] u23x34 (Tab.ok_step [45, 52, 55] u23x35 (Tab.ok_step [46, 53, 55] u23x36 (Tab.ok_step [47, 54, 55] u23x37 (Tab.ok_step [48, 52, 56] u23x38 (Tab.ok_step [49, 53, 56] u23x39 (Tab.ok_step [50, 54, 56] u23x40 (Tab.ok_step [51, 55, 56] u23x41 (Tab.ok_step [57, 58] u23x42 (Tab.ok_step [57, 59] u23x43 (Tab.ok_step [58, 59] u23x44 (Tab.ok_step [57, 60] u23x45 (Tab.ok_step [58, 60] u23x46 (Tab.ok_step [59, 60] u23x47 (Tab.ok_step [57, 61] u23x48 (Tab.ok_step [58, 61] u23x49 (Tab.ok_step [59, 61] u23x50 (Tab.ok_step [60, 61] u23x51 (Tab.ok_step [57, 62] u23x52 (Tab.ok_step [58, 62] u23x53 (Tab.ok_step [59, 62] u23x54 (Tab.ok_step [60, 62] u23x55 (Tab.ok_step [61, 62] u23x56 (Tab.ok_step [63] u23x57 (Tab.ok_step [63] u23x58 (Tab.ok_step [63] u23x59 (Tab.ok_step [63] u23x60 (Tab.ok_step [63] u23x61 (Tab.ok_step [63] u23x62 (Tab.ok_step [] u23x63 (Tab.ok_end t23 c23 60 d23 (Nat.le_refl _))))))))))))))))))))))))))))))))))))))))))))))))))))))))))))))))))
theorem y23 : segT c23 60 257 t23 Tryz.f257 a23 p23 v23 q23 = true := by decide +kernel
theorem x23 : CtxOK c23 := ⟨names_of KBase.names, KBase.mixed, KBase.S0_ok⟩
theorem k23 : SummOK Tryz.prog 257 s23 := segT_summ (c := b23) (lb := d23) x23 Tryz.func257 (by kernel_rfl) (by kernel_rfl) (by kernel_rfl) wt23 y23
end SH
end Go.Ab
