/-
  No cell of these rows narrows 'for every input' (looked for: loops, veiled, ifaces, maps, wideKeys, modest, calm, conditions, laid).
  DERIVED. THE GIVEN ROWS OF THIS SEAT. 3 by the template 'for every input the law returns true; each argument reads behind the call as it read before'; 0 by the template 'total and deterministic' (their statements: YtekhbhhmkbdnlaaGreatTotals.lean).
  GIVEN WITH THE SEED: the statements are not yours to turn. If you find one false, say at which input.
  Laid BY PROGRAM, IN A SANDBOX (cutbox-rows.mjs): the forced cells as the released guide's own fill.sh prints them over the translation 76d768771b9836d8… (all of the seat's roots in one cut). By AI agents, Wed Nov 11 2026. No macro, syntax, notation, axiom, sorry.
-/
import Derived.Test.YtekhbhhmkbdnlaaGreatChecked
import GoSem.Claim
import GoSem.ClaimJoined
import GoSem.ClaimMapViews
import Derived.JoinedTies
import Derived.KernelRfl
namespace Go.Proofs.YtekhbhhmkbdnlaaGreat
/- THE CELL 'sum', in the pinned program and in every row, IS THE sha256 OF THE DUMP (.gsa) THAT YtekhbhhmkbdnlaaGreatProg.lean LOADS. Nothing in Lean hashes anything: it is a label: what it is worth is what the hold of that sum in a sandbox is worth. -/
noncomputable def Tryz.pinned : Pinned := { name := "ytekhbhhmkbdnlaagreat", sum := "76d768771b9836d8b0f1e87ff0b28ee363c9a17417019300870a4f3988e8c52c", checked := Tryz.checked }
namespace Rows
def none {H : Type} : Left H := { results := [], args := [] }

/-- 'leveelaw26.CheckBytes': WHATEVER THE INPUT: true; the input reads as it did. -/
def checkBytesSpec : ChangeSpec := { name := "checkBytes", fn := fun _ => fun
  | [d] => { results := [.lit (.bool true)], args := [d] }
  | _ => none }
def checkBytesRow : OpenClaim := { program := "ytekhbhhmkbdnlaagreat", sum := "76d768771b9836d8b0f1e87ff0b28ee363c9a17417019300870a4f3988e8c52c", func := "levee/leveelaw26.CheckBytes", spec := "checkBytes", unfollowed := true, recurses := true, apart := false }
def CheckBytesSaid : Prop := checkBytesRow.holds Tryz.pinned (OpenSpec.ofChange checkBytesSpec)

/-- ITS FALSE NEIGHBOUR: 'it returns false'. Refute it at one input. -/
def checkBytesWrong : ChangeSpec := { name := "checkBytes", fn := fun _ => fun
  | [d] => { results := [.lit (.bool false)], args := [d] }
  | _ => none }
def CheckBytesWrongFalsely : Prop := checkBytesRow.holds Tryz.pinned (OpenSpec.ofChange checkBytesWrong)

/-- 'leveelaw28.FsckBytes': WHATEVER THE INPUT: true; the input reads as it did. -/
def fsckBytesSpec : ChangeSpec := { name := "fsckBytes", fn := fun _ => fun
  | [d] => { results := [.lit (.bool true)], args := [d] }
  | _ => none }
def fsckBytesRow : OpenClaim := { program := "ytekhbhhmkbdnlaagreat", sum := "76d768771b9836d8b0f1e87ff0b28ee363c9a17417019300870a4f3988e8c52c", func := "levee/leveelaw28.FsckBytes", spec := "fsckBytes", unfollowed := true, recurses := true, apart := false }
def FsckBytesSaid : Prop := fsckBytesRow.holds Tryz.pinned (OpenSpec.ofChange fsckBytesSpec)

/-- ITS FALSE NEIGHBOUR: 'it returns false'. Refute it at one input. -/
def fsckBytesWrong : ChangeSpec := { name := "fsckBytes", fn := fun _ => fun
  | [d] => { results := [.lit (.bool false)], args := [d] }
  | _ => none }
def FsckBytesWrongFalsely : Prop := fsckBytesRow.holds Tryz.pinned (OpenSpec.ofChange fsckBytesWrong)

/-- 'leveelaw23.GrowNil': WHATEVER THE INPUT: true; the input reads as it did. -/
def growNilSpec : ChangeSpec := { name := "growNil", fn := fun _ => fun
  | [d] => { results := [.lit (.bool true)], args := [d] }
  | _ => none }
def growNilRow : OpenClaim := { program := "ytekhbhhmkbdnlaagreat", sum := "76d768771b9836d8b0f1e87ff0b28ee363c9a17417019300870a4f3988e8c52c", func := "levee/leveelaw23.GrowNil", spec := "growNil", unfollowed := true, recurses := true, apart := false }
def GrowNilSaid : Prop := growNilRow.holds Tryz.pinned (OpenSpec.ofChange growNilSpec)

/-- ITS FALSE NEIGHBOUR: 'it returns false'. Refute it at one input. -/
def growNilWrong : ChangeSpec := { name := "growNil", fn := fun _ => fun
  | [d] => { results := [.lit (.bool false)], args := [d] }
  | _ => none }
def GrowNilWrongFalsely : Prop := growNilRow.holds Tryz.pinned (OpenSpec.ofChange growNilWrong)

/- THE SECOND FORM. 'bulk': how many values and letters a reading holds, each counted each time it is reached (what is shared counts as often as it is met; a slice's spare places count too). A statement '..UptoSaid' is the law's where the arguments, and the package variables that the reading takes, are together of bulk at most 1048576: NARROWER than '..Said'. Prove '..Said' where nothing that the law and all that it calls make is longer than what came in: it says more and counts as full. Else prove '..UptoSaid'. A law counts once. -/
mutual
def uptoBulk {H : Type} : DataW H → Nat
  | .lit (.string bytes) => bytes.length + 1
  | .lit _ => 1
  | .nil => 1
  | .ptr d => uptoBulk d + 1
  | .slice elems spare => uptoBulkAll elems + uptoBulkAll spare + 1
  | .agg parts => uptoBulkAll parts + 1
  | .iface _ d => uptoBulk d + 1
  | .map entries => uptoBulkEntries entries + 1
  | .held _ => 1
def uptoBulkAll {H : Type} : List (DataW H) → Nat
  | [] => 0
  | d :: r => uptoBulk d + uptoBulkAll r
def uptoBulkEntries {H : Type} : List (Lit × DataW H) → Nat
  | [] => 0
  | x :: r => uptoBulkEntry x + uptoBulkEntries r
def uptoBulkEntry {H : Type} : Lit × DataW H → Nat
  | (.string bytes, d) => bytes.length + uptoBulk d + 1
  | (_, d) => uptoBulk d + 1
 end
def uptoSmall : (H : Type) → List (DataW H) → Bool := fun _ ds => decide (uptoBulkAll ds ≤ 1048576)
def OpenSpec.upto (s : _root_.Go.ChangeSpec) : _root_.Go.OpenSpec := { _root_.Go.OpenSpec.ofChange s with cond := some uptoSmall }

/-- 'leveelaw26.CheckBytes', WHERE WHAT IT READS IS OF BULK AT MOST 1048576: true; the input reads as it did. -/
def checkBytesUptoRow : OpenClaim := { program := "ytekhbhhmkbdnlaagreat", sum := "76d768771b9836d8b0f1e87ff0b28ee363c9a17417019300870a4f3988e8c52c", func := "levee/leveelaw26.CheckBytes", spec := "checkBytes", unfollowed := true, recurses := true, apart := false, narrowed := true }
def CheckBytesUptoSaid : Prop := checkBytesUptoRow.holds Tryz.pinned (OpenSpec.upto checkBytesSpec)

/-- 'leveelaw28.FsckBytes', WHERE WHAT IT READS IS OF BULK AT MOST 1048576: true; the input reads as it did. -/
def fsckBytesUptoRow : OpenClaim := { program := "ytekhbhhmkbdnlaagreat", sum := "76d768771b9836d8b0f1e87ff0b28ee363c9a17417019300870a4f3988e8c52c", func := "levee/leveelaw28.FsckBytes", spec := "fsckBytes", unfollowed := true, recurses := true, apart := false, narrowed := true }
def FsckBytesUptoSaid : Prop := fsckBytesUptoRow.holds Tryz.pinned (OpenSpec.upto fsckBytesSpec)

/-- 'leveelaw23.GrowNil', WHERE WHAT IT READS IS OF BULK AT MOST 1048576: true; the input reads as it did. -/
def growNilUptoRow : OpenClaim := { program := "ytekhbhhmkbdnlaagreat", sum := "76d768771b9836d8b0f1e87ff0b28ee363c9a17417019300870a4f3988e8c52c", func := "levee/leveelaw23.GrowNil", spec := "growNil", unfollowed := true, recurses := true, apart := false, narrowed := true }
def GrowNilUptoSaid : Prop := growNilUptoRow.holds Tryz.pinned (OpenSpec.upto growNilSpec)

end Rows
end Go.Proofs.YtekhbhhmkbdnlaaGreat
