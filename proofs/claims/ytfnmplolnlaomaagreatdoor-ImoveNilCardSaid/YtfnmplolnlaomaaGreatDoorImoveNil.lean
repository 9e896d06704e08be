/- For every whole number n the law ImoveNil answers true, and its argument reads behind the call as it read before; there is no condition but what the row lists of unicode/utf8's tables, and the card ties that to the program's text. -/
import Derived.Test.YtfnmplolnlaomaaGreatDoorStepB
import Derived.Test.YtfnmplolnlaomaaGreatDoorRunZ
namespace Go.Proofs.YtfnmplolnlaomaaGreatDoor.imoveNil
open Go.ChangeShapes Go.WideShapes Go.ChangeAt Go.RowKit
theorem walk (a0 : Int) (a1 : Int) (w : World) :
    Calls Tryz.prog 3 #[.int .i64 a0, .int .i64 a1] w fun e w' => e = .returned (.bool true) ∧ Below w.heap.size w w' := by
  obtain ⟨fn, h1, h2, h3, h4⟩ := Ab.law_of_seg (Ab.seg_summ Ab.IM.x74 Ab.IM.r74) (args' := #[.int .i64 a0, .int .i64 a1]) (.cons (.junk _) (.cons (.junk _) .nil)) rfl rfl w
  refine callsIn_wide.1 (h4.mono fun e w' ⟨u, he, ρ, hv, hb⟩ => ⟨?_, hb⟩)
  cases hv
  exact he
theorem card : Rows.ImoveNilCardSaid := card_of walk
end Go.Proofs.YtfnmplolnlaomaaGreatDoor.imoveNil
