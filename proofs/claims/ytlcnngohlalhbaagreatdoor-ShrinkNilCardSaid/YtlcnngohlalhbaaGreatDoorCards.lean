/-
  DERIVED. GIVEN WITH THE SEED: THE CARDS: each row of YtlcnngohlalhbaaGreatDoorRows.lean that lists a variable, with what it lists TIED to the program's text (the seventh form; the later family's looks); each row that meets fmt, with fmt's text TOLD by the authors' own Lean function (tested against real Go, not proved from fmt's source: count such statements apart). THE CARD IS WHAT COUNTS. Prove the row's statement (the work); the ties are given (YtlcnngohlalhbaaGreatDoorTie.lean); close each card by the builder's one call (the guide's Derived/Test/ToyasCard.lean, 'card_holds'). Laid BY PROGRAM, IN A SANDBOX (cutbox-door.mjs). By AI agents, Wed Nov 11 2026. No macro, syntax, notation, axiom, sorry.
-/
import Derived.Test.YtlcnngohlalhbaaGreatDoorRows
import GoSem.ClaimSeven
namespace Go.Proofs.YtlcnngohlalhbaaGreatDoor
namespace Rows

/-- THE TIED CARD OF 'leveelaw25.DefragNil'. -/
def defragNilCard : Claim7 := { stood := { row := defragNilRow, standIns := [], harness := (true, "f74d3cfd11605203b7400a562c498a16e8bfdedb4ad72a0c10630fe95225565e"), looks := false }, kinds := [], alts := [], laidByText := true, laidKinds := [.data, .pinned], laidTests := true, laidLooks := .later }
def DefragNilCardSaid : Prop := Claim7.holds Tryz.pinned (.plain (OpenSpec.ofChange defragNilSpec)) defragNilCard

/-- THE TIED CARD OF 'leveelaw22.ImoveNil'. -/
def imoveNilCard : Claim7 := { stood := { row := imoveNilRow, standIns := [], harness := (true, "f74d3cfd11605203b7400a562c498a16e8bfdedb4ad72a0c10630fe95225565e"), looks := false }, kinds := [], alts := [], laidByText := true, laidKinds := [.data, .pinned], laidTests := true, laidLooks := .later }
def ImoveNilCardSaid : Prop := Claim7.holds Tryz.pinned (.plain (OpenSpec.ofChange imoveNilSpec)) imoveNilCard

/-- THE TIED CARD OF 'leveelaw24.ShrinkNil'. -/
def shrinkNilCard : Claim7 := { stood := { row := shrinkNilRow, standIns := [], harness := (true, "f74d3cfd11605203b7400a562c498a16e8bfdedb4ad72a0c10630fe95225565e"), looks := false }, kinds := [], alts := [], laidByText := true, laidKinds := [.data, .pinned], laidTests := true, laidLooks := .later }
def ShrinkNilCardSaid : Prop := Claim7.holds Tryz.pinned (.plain (OpenSpec.ofChange shrinkNilSpec)) shrinkNilCard

/-- THE SECOND FORM's CARD OF 'leveelaw25.DefragNil'. -/
def defragNilUptoCard : Claim7 := { stood := { row := defragNilUptoRow, standIns := [], harness := (true, "f74d3cfd11605203b7400a562c498a16e8bfdedb4ad72a0c10630fe95225565e"), looks := false }, kinds := [], alts := [], laidByText := true, laidKinds := [.data, .pinned], laidTests := true, laidLooks := .later }
def DefragNilUptoCardSaid : Prop := Claim7.holds Tryz.pinned (.plain (OpenSpec.upto defragNilSpec)) defragNilUptoCard

/-- THE SECOND FORM's CARD OF 'leveelaw22.ImoveNil'. -/
def imoveNilUptoCard : Claim7 := { stood := { row := imoveNilUptoRow, standIns := [], harness := (true, "f74d3cfd11605203b7400a562c498a16e8bfdedb4ad72a0c10630fe95225565e"), looks := false }, kinds := [], alts := [], laidByText := true, laidKinds := [.data, .pinned], laidTests := true, laidLooks := .later }
def ImoveNilUptoCardSaid : Prop := Claim7.holds Tryz.pinned (.plain (OpenSpec.upto imoveNilSpec)) imoveNilUptoCard

/-- THE SECOND FORM's CARD OF 'leveelaw24.ShrinkNil'. -/
def shrinkNilUptoCard : Claim7 := { stood := { row := shrinkNilUptoRow, standIns := [], harness := (true, "f74d3cfd11605203b7400a562c498a16e8bfdedb4ad72a0c10630fe95225565e"), looks := false }, kinds := [], alts := [], laidByText := true, laidKinds := [.data, .pinned], laidTests := true, laidLooks := .later }
def ShrinkNilUptoCardSaid : Prop := Claim7.holds Tryz.pinned (.plain (OpenSpec.upto shrinkNilSpec)) shrinkNilUptoCard
end Rows
end Go.Proofs.YtlcnngohlalhbaaGreatDoor
