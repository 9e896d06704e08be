import Derived.Test.YtlcnngohlalhbaaGreatDoorRunI
namespace Go.Ab
open Go.RowKit Go.Proofs
namespace SH
set_option maxRecDepth 1000000
theorem u23x4 : t23.step c23 60 d23 4 [9, 13, 16, 19, 20] = true := by decide +kernel
theorem u23x12 : t23.step c23 60 d23 12 [22, 32, 33, 34] = true := by decide +kernel
theorem u23x20 : t23.step c23 60 d23 20 [30, 36, 39, 41] = true := by decide +kernel
theorem u23x28 : t23.step c23 60 d23 28 [44, 49, 50] = true := by decide +kernel
theorem u23x36 : t23.step c23 60 d23 36 [46, 53, 55] = true := by decide +kernel
theorem u23x44 : t23.step c23 60 d23 44 [58, 59] = true := by decide +kernel
theorem u23x52 : t23.step c23 60 d23 52 [57, 62] = true := by decide +kernel
theorem u23x60 : t23.step c23 60 d23 60 [63] = true := by decide +kernel
end SH
end Go.Ab
