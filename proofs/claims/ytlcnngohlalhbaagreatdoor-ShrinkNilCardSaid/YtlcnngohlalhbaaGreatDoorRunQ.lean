import Derived.Test.YtlcnngohlalhbaaGreatDoorRunI
namespace Go.Ab
open Go.RowKit Go.Proofs
namespace SH
set_option maxRecDepth 1000000
theorem u23x7 : t23.step c23 60 d23 7 [22, 23, 24, 25] = true := by decide +kernel
theorem u23x15 : t23.step c23 60 d23 15 [25, 34, 36, 37] = true := by decide +kernel
theorem u23x23 : t23.step c23 60 d23 23 [42, 45, 46] = true := by decide +kernel
theorem u23x31 : t23.step c23 60 d23 31 [47, 50, 51] = true := by decide +kernel
theorem u23x39 : t23.step c23 60 d23 39 [49, 53, 56] = true := by decide +kernel
theorem u23x47 : t23.step c23 60 d23 47 [59, 60] = true := by decide +kernel
theorem u23x55 : t23.step c23 60 d23 55 [60, 62] = true := by decide +kernel
theorem u23x63 : t23.step c23 60 d23 63 [] = true := by decide +kernel
end SH
end Go.Ab
