import Derived.Test.YtlcnngohlalhbaaGreatDoorRunI
namespace Go.Ab
open Go.RowKit Go.Proofs
namespace SH
set_option maxRecDepth 1000000
theorem u23x2 : t23.step c23 60 d23 2 [7, 12, 13, 14, 15] = true := by decide +kernel
theorem u23x10 : t23.step c23 60 d23 10 [24, 27, 29, 31] = true := by decide +kernel
theorem u23x18 : t23.step c23 60 d23 18 [28, 34, 39, 40] = true := by decide +kernel
theorem u23x26 : t23.step c23 60 d23 26 [42, 48, 49] = true := by decide +kernel
theorem u23x34 : t23.step c23 60 d23 34 [44, 53, 54] = true := by decide +kernel
theorem u23x42 : t23.step c23 60 d23 42 [57, 58] = true := by decide +kernel
theorem u23x50 : t23.step c23 60 d23 50 [59, 61] = true := by decide +kernel
theorem u23x58 : t23.step c23 60 d23 58 [63] = true := by decide +kernel
end SH
end Go.Ab
