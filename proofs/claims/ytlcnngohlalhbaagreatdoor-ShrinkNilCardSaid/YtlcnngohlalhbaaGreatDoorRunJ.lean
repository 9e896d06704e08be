import Derived.Test.YtlcnngohlalhbaaGreatDoorRunI
namespace Go.Ab
open Go.RowKit Go.Proofs
namespace SH
set_option maxRecDepth 1000000
theorem u23x0 : t23.step c23 60 d23 0 [1, 2, 3, 4, 5, 6] = true := by decide +kernel
theorem u23x8 : t23.step c23 60 d23 8 [22, 26, 27, 28] = true := by decide +kernel
theorem u23x16 : t23.step c23 60 d23 16 [26, 32, 38, 39] = true := by decide +kernel
theorem u23x24 : t23.step c23 60 d23 24 [43, 45, 47] = true := by decide +kernel
theorem u23x32 : t23.step c23 60 d23 32 [42, 52, 53] = true := by decide +kernel
theorem u23x40 : t23.step c23 60 d23 40 [50, 54, 56] = true := by decide +kernel
theorem u23x48 : t23.step c23 60 d23 48 [57, 61] = true := by decide +kernel
theorem u23x56 : t23.step c23 60 d23 56 [61, 62] = true := by decide +kernel
end SH
end Go.Ab
