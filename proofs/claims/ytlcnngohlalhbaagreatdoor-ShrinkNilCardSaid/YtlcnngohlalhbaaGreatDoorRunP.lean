import Derived.Test.YtlcnngohlalhbaaGreatDoorRunI
namespace Go.Ab
open Go.RowKit Go.Proofs
namespace SH
set_option maxRecDepth 1000000
theorem u23x6 : t23.step c23 60 d23 6 [11, 15, 18, 20, 21] = true := by decide +kernel
theorem u23x14 : t23.step c23 60 d23 14 [24, 33, 35, 37] = true := by decide +kernel
theorem u23x22 : t23.step c23 60 d23 22 [42, 43, 44] = true := by decide +kernel
theorem u23x30 : t23.step c23 60 d23 30 [46, 49, 51] = true := by decide +kernel
theorem u23x38 : t23.step c23 60 d23 38 [48, 52, 56] = true := by decide +kernel
theorem u23x46 : t23.step c23 60 d23 46 [58, 60] = true := by decide +kernel
theorem u23x54 : t23.step c23 60 d23 54 [59, 62] = true := by decide +kernel
theorem u23x62 : t23.step c23 60 d23 62 [63] = true := by decide +kernel
end SH
end Go.Ab
