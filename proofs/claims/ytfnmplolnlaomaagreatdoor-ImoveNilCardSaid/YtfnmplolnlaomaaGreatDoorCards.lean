/-
  DERIVED. GIVEN WITH THE SEED: THE CARDS: each row of YtfnmplolnlaomaaGreatDoorRows.lean that lists a variable, with what it lists TIED to the program's text (the seventh form; the later family's looks); each row that meets fmt, with fmt's text TOLD by the authors' own Lean function (tested against real Go, not proved from fmt's source: count such statements apart). THE CARD IS WHAT COUNTS. Prove the row's statement (the work); the ties are given (YtfnmplolnlaomaaGreatDoorTie.lean); close each card by the builder's one call (the guide's Derived/Test/ToyasCard.lean, 'card_holds'). Laid BY PROGRAM, IN A SANDBOX (cutbox-door.mjs). By AI agents, Wed Nov 11 2026. No macro, syntax, notation, axiom, sorry.
-/
import Derived.Test.YtfnmplolnlaomaaGreatDoorRows
import GoSem.ClaimSeven
namespace Go.Proofs.YtfnmplolnlaomaaGreatDoor
namespace Rows

/-- THE TIED CARD OF 'leveelaw22.ImoveNil'. -/
def imoveNilCard : Claim7 := { stood := { row := imoveNilRow, standIns := [], harness := (true, "b51afb7ff92efa019a4007a129016dc18c14803e4e75f60e0101c5c335aea445"), looks := false }, kinds := [], alts := [], laidByText := true, laidKinds := [.data, .pinned], laidTests := true, laidLooks := .later }
def ImoveNilCardSaid : Prop := Claim7.holds Tryz.pinned (.plain (OpenSpec.ofChange imoveNilSpec)) imoveNilCard

/-- THE SECOND FORM's CARD OF 'leveelaw22.ImoveNil'. -/
def imoveNilUptoCard : Claim7 := { stood := { row := imoveNilUptoRow, standIns := [], harness := (true, "b51afb7ff92efa019a4007a129016dc18c14803e4e75f60e0101c5c335aea445"), looks := false }, kinds := [], alts := [], laidByText := true, laidKinds := [.data, .pinned], laidTests := true, laidLooks := .later }
def ImoveNilUptoCardSaid : Prop := Claim7.holds Tryz.pinned (.plain (OpenSpec.upto imoveNilSpec)) imoveNilUptoCard
end Rows
end Go.Proofs.YtfnmplolnlaomaaGreatDoor
