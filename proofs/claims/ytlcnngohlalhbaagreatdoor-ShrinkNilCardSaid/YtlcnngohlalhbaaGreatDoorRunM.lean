import Derived.Test.YtlcnngohlalhbaaGreatDoorRunI
namespace Go.Ab
open Go.RowKit Go.Proofs
namespace SH
set_option maxRecDepth 1000000
theorem u23x3 : t23.step c23 60 d23 3 [8, 12, 16, 17, 18] = true := by decide +kernel
theorem u23x11 : t23.step c23 60 d23 11 [25, 28, 30, 31] = true := by decide +kernel
theorem u23x19 : t23.step c23 60 d23 19 [29, 35, 38, 41] = true := by decide +kernel
theorem u23x27 : t23.step c23 60 d23 27 [43, 48, 50] = true := by decide +kernel
theorem u23x35 : t23.step c23 60 d23 35 [45, 52, 55] = true := by decide +kernel
theorem u23x43 : t23.step c23 60 d23 43 [57, 59] = true := by decide +kernel
theorem u23x51 : t23.step c23 60 d23 51 [60, 61] = true := by decide +kernel
theorem u23x59 : t23.step c23 60 d23 59 [63] = true := by decide +kernel
end SH
end Go.Ab
