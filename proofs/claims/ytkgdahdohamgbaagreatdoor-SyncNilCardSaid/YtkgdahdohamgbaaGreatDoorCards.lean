/-
  DERIVED. GIVEN WITH THE SEED: THE CARDS: each row of YtkgdahdohamgbaaGreatDoorRows.lean that lists a variable, with what it lists TIED to the program's text (the seventh form; the later family's looks); each row that meets fmt, with fmt's text TOLD by the authors' own Lean function (tested against real Go, not proved from fmt's source: count such statements apart). THE CARD IS WHAT COUNTS. Prove the row's statement (the work); the ties are given (YtkgdahdohamgbaaGreatDoorTie.lean); close each card by the builder's one call (the guide's Derived/Test/ToyasCard.lean, 'card_holds'). Laid BY PROGRAM, IN A SANDBOX (cutbox-door.mjs). By AI agents, Wed Nov 11 2026. No macro, syntax, notation, axiom, sorry.
-/
import Derived.Test.YtkgdahdohamgbaaGreatDoorRows
import GoSem.ClaimSeven
namespace Go.Proofs.YtkgdahdohamgbaaGreatDoor
namespace Rows

/-- THE TIED CARD OF 'leveelaw20.SyncNil'. -/
def syncNilCard : Claim7 := { stood := { row := syncNilRow, standIns := [], harness := (true, "889fe306621da08ea34d36962da6d55b5397d5840db569364330d802065e1ede"), looks := false }, kinds := [], alts := [], laidByText := true, laidKinds := [.data, .pinned], laidTests := true, laidLooks := .later }
def SyncNilCardSaid : Prop := Claim7.holds Tryz.pinned (.plain (OpenSpec.ofChange syncNilSpec)) syncNilCard

/-- THE SECOND FORM's CARD OF 'leveelaw20.SyncNil'. -/
def syncNilUptoCard : Claim7 := { stood := { row := syncNilUptoRow, standIns := [], harness := (true, "889fe306621da08ea34d36962da6d55b5397d5840db569364330d802065e1ede"), looks := false }, kinds := [], alts := [], laidByText := true, laidKinds := [.data, .pinned], laidTests := true, laidLooks := .later }
def SyncNilUptoCardSaid : Prop := Claim7.holds Tryz.pinned (.plain (OpenSpec.upto syncNilSpec)) syncNilUptoCard
end Rows
end Go.Proofs.YtkgdahdohamgbaaGreatDoor
