import Derived.Test.YtlcnngohlalhbaaGreatDoorRunI
namespace Go.Ab
open Go.RowKit Go.Proofs
namespace SH
set_option maxRecDepth 1000000
theorem u23x1 : t23.step c23 60 d23 1 [7, 8, 9, 10, 11] = true := by decide +kernel
theorem u23x9 : t23.step c23 60 d23 9 [23, 26, 29, 30] = true := by decide +kernel
theorem u23x17 : t23.step c23 60 d23 17 [27, 33, 38, 40] = true := by decide +kernel
theorem u23x25 : t23.step c23 60 d23 25 [44, 46, 47] = true := by decide +kernel
theorem u23x33 : t23.step c23 60 d23 33 [43, 52, 54] = true := by decide +kernel
theorem u23x41 : t23.step c23 60 d23 41 [51, 55, 56] = true := by decide +kernel
theorem u23x49 : t23.step c23 60 d23 49 [58, 61] = true := by decide +kernel
theorem u23x57 : t23.step c23 60 d23 57 [63] = true := by decide +kernel
end SH
end Go.Ab
