import Derived.Test.YtlcnngohlalhbaaGreatDoorRunI
namespace Go.Ab
open Go.RowKit Go.Proofs
namespace SH
set_option maxRecDepth 1000000
theorem u23x5 : t23.step c23 60 d23 5 [10, 14, 17, 19, 21] = true := by decide +kernel
theorem u23x13 : t23.step c23 60 d23 13 [23, 32, 35, 36] = true := by decide +kernel
theorem u23x21 : t23.step c23 60 d23 21 [31, 37, 40, 41] = true := by decide +kernel
theorem u23x29 : t23.step c23 60 d23 29 [45, 48, 51] = true := by decide +kernel
theorem u23x37 : t23.step c23 60 d23 37 [47, 54, 55] = true := by decide +kernel
theorem u23x45 : t23.step c23 60 d23 45 [57, 60] = true := by decide +kernel
theorem u23x53 : t23.step c23 60 d23 53 [58, 62] = true := by decide +kernel
theorem u23x61 : t23.step c23 60 d23 61 [63] = true := by decide +kernel
end SH
end Go.Ab
