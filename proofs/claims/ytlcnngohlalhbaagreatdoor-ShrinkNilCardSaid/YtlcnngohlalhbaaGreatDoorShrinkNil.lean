/- For every whole number n the law ShrinkNil answers true, and its argument reads behind the call as it read before; there is no condition but what the row lists of unicode/utf8's tables, and the card ties that to the program's text. -/
import Derived.Test.YtlcnngohlalhbaaGreatDoorStepB
import Derived.Test.YtlcnngohlalhbaaGreatDoorRunZ
namespace Go.Proofs.YtlcnngohlalhbaaGreatDoor.shrinkNil
open Go.ChangeShapes Go.WideShapes Go.ChangeAt Go.RowKit
theorem walk (a0 : Int) (w : World) :
    Calls Tryz.prog 5 #[.int .i64 a0] w fun e w' => e = .returned (.bool true) ∧ Below w.heap.size w w' := by
  obtain ⟨fn, h1, h2, h3, h4⟩ := Ab.law_of_seg (Ab.seg_summ Ab.SH.x65 Ab.SH.r65) (args' := #[.int .i64 a0]) (.cons (.junk _) .nil) rfl rfl w
  refine callsIn_wide.1 (h4.mono fun e w' ⟨u, he, ρ, hv, hb⟩ => ⟨?_, hb⟩)
  cases hv
  exact he
theorem card : Rows.ShrinkNilCardSaid := card_of walk
end Go.Proofs.YtlcnngohlalhbaaGreatDoor.shrinkNil
