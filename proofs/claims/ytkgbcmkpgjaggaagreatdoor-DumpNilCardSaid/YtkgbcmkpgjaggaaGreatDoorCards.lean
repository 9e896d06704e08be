/-
  DERIVED. GIVEN WITH THE SEED: THE CARDS: each row of YtkgbcmkpgjaggaaGreatDoorRows.lean that lists a variable, with what it lists TIED to the program's text (the seventh form; the later family's looks); each row that meets fmt, with fmt's text TOLD by the authors' own Lean function (tested against real Go, not proved from fmt's source: count such statements apart). THE CARD IS WHAT COUNTS. Prove the row's statement (the work); the ties are given (YtkgbcmkpgjaggaaGreatDoorTie.lean); close each card by the builder's one call (the guide's Derived/Test/ToyasCard.lean, 'card_holds'). Laid BY PROGRAM, IN A SANDBOX (cutbox-door.mjs). By AI agents, Wed Nov 11 2026. No macro, syntax, notation, axiom, sorry.
-/
import Derived.Test.YtkgbcmkpgjaggaaGreatDoorRows
import GoSem.ClaimSeven
namespace Go.Proofs.YtkgbcmkpgjaggaaGreatDoor
namespace Rows

/-- THE TIED CARD OF 'leveelaw27.ScanNil'. -/
def scanNilCard : Claim7 := { stood := { row := scanNilRow, standIns := [], harness := (true, "f28a94ff1fb224a87c623f7677abafbdca06a17c9b5b0498f964a4a1d42e3ad3"), looks := false }, kinds := [], alts := [], laidByText := true, laidKinds := [.data, .pinned], laidTests := true, laidLooks := .later }
def ScanNilCardSaid : Prop := Claim7.holds Tryz.pinned (.plain (OpenSpec.ofChange scanNilSpec)) scanNilCard

/-- THE TIED CARD OF 'leveelaw19.FsNil'. -/
def fsNilCard : Claim7 := { stood := { row := fsNilRow, standIns := [], harness := (true, "f28a94ff1fb224a87c623f7677abafbdca06a17c9b5b0498f964a4a1d42e3ad3"), looks := false }, kinds := [], alts := [], laidByText := true, laidKinds := [.data, .pinned], laidTests := true, laidLooks := .later }
def FsNilCardSaid : Prop := Claim7.holds Tryz.pinned (.plain (OpenSpec.ofChange fsNilSpec)) fsNilCard

/-- THE TIED CARD OF 'leveelaw33.DumpNil'. -/
def dumpNilCard : Claim7 := { stood := { row := dumpNilRow, standIns := [], harness := (true, "f28a94ff1fb224a87c623f7677abafbdca06a17c9b5b0498f964a4a1d42e3ad3"), looks := false }, kinds := [], alts := [], laidByText := true, laidKinds := [.data, .pinned], laidTests := true, laidLooks := .later }
def DumpNilCardSaid : Prop := Claim7.holds Tryz.pinned (.plain (OpenSpec.ofChange dumpNilSpec)) dumpNilCard

/-- THE SECOND FORM's CARD OF 'leveelaw27.ScanNil'. -/
def scanNilUptoCard : Claim7 := { stood := { row := scanNilUptoRow, standIns := [], harness := (true, "f28a94ff1fb224a87c623f7677abafbdca06a17c9b5b0498f964a4a1d42e3ad3"), looks := false }, kinds := [], alts := [], laidByText := true, laidKinds := [.data, .pinned], laidTests := true, laidLooks := .later }
def ScanNilUptoCardSaid : Prop := Claim7.holds Tryz.pinned (.plain (OpenSpec.upto scanNilSpec)) scanNilUptoCard

/-- THE SECOND FORM's CARD OF 'leveelaw19.FsNil'. -/
def fsNilUptoCard : Claim7 := { stood := { row := fsNilUptoRow, standIns := [], harness := (true, "f28a94ff1fb224a87c623f7677abafbdca06a17c9b5b0498f964a4a1d42e3ad3"), looks := false }, kinds := [], alts := [], laidByText := true, laidKinds := [.data, .pinned], laidTests := true, laidLooks := .later }
def FsNilUptoCardSaid : Prop := Claim7.holds Tryz.pinned (.plain (OpenSpec.upto fsNilSpec)) fsNilUptoCard

/-- THE SECOND FORM's CARD OF 'leveelaw33.DumpNil'. -/
def dumpNilUptoCard : Claim7 := { stood := { row := dumpNilUptoRow, standIns := [], harness := (true, "f28a94ff1fb224a87c623f7677abafbdca06a17c9b5b0498f964a4a1d42e3ad3"), looks := false }, kinds := [], alts := [], laidByText := true, laidKinds := [.data, .pinned], laidTests := true, laidLooks := .later }
def DumpNilUptoCardSaid : Prop := Claim7.holds Tryz.pinned (.plain (OpenSpec.upto dumpNilSpec)) dumpNilUptoCard
end Rows
end Go.Proofs.YtkgbcmkpgjaggaaGreatDoor
