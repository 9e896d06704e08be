/- The functions that are met by summaries, and that these hold. -/
import Derived.Test.YtfnmplolnlaomaaGreatDoorMachineE
import Derived.Test.YtfnmplolnlaomaaGreatDoorShelf
import Derived.Test.YtfnmplolnlaomaaGreatDoorSumOpen
import Derived.Test.YtfnmplolnlaomaaGreatDoorSumCount
import Derived.Test.YtfnmplolnlaomaaGreatDoorSumDiff
namespace Go.Ab
open Go.RowKit Go.Proofs
namespace KBase
noncomputable def S0 : Nat → Option Summ := addS 119 (keysS 1) (addS 93 KCount.countS (addS 206 KZero.zeroS (addS 152 KNumGet.numS (addS 153 KDiff.diffS (addS 127 KSum.sumS (addS 271 strCountS (addS 272 strIndexS noS)))))))
theorem names : noRoutine Tryz.prog = true := by decide +kernel
theorem mixed : Tryz.prog.follows .mixedOrders = true := by decide +kernel
theorem sortOK : SummOK Tryz.prog 159 sortS :=
  sort_summ Tryz.func159 (names_of names _ _ Tryz.func159) (by decide +kernel) (fun blk off cap zs w h1 h2 h3 => Tryz.slices_Sort_int blk off cap zs w h1 h2 h3) (fun w => Tryz.slices_Sort_int_none none 0 w)
theorem one_ok {g : Nat} {s0 : Summ} (h0 : SummOK Tryz.prog g s0) : ∀ (f : Nat) (s : Summ), (match Nat.beq f g with | true => some s0 | false => none) = some s → SummOK Tryz.prog f s := by
  intro f s h
  split at h
  · rename_i hf
    cases h
    rw [Nat.eq_of_beq_eq_true hf]
    exact h0
  · cases h
theorem getOK : SummOK Tryz.prog 55 KGet.getS := KGet.summ ⟨names_of names, mixed, fun _ _ h => by cases h⟩
theorem S0_ok : ∀ f s, S0 f = some s → SummOK Tryz.prog f s :=
  addS_ok (KOpen.summ ⟨names_of names, mixed, one_ok sortOK⟩) <|
  addS_ok (KCount.summ ⟨names_of names, mixed, one_ok getOK⟩) <|
  addS_ok (KZero.summ ⟨names_of names, mixed, fun _ _ h => by cases h⟩) <|
  addS_ok (KNumGet.summ ⟨names_of names, mixed, fun _ _ h => by cases h⟩) <|
  addS_ok (KDiff.summ ⟨names_of names, mixed, fun _ _ h => by cases h⟩) <|
  addS_ok (KSum.summ ⟨names_of names, mixed, fun _ _ h => by cases h⟩) <|
  addS_ok (strCount_summ Tryz.func271 (names_of names _ _ Tryz.func271) (by decide +kernel) (fun s c w => Tryz.strings_Count_one s c w)) <|
  addS_ok (strIndex_summ Tryz.func272 (names_of names _ _ Tryz.func272) (by decide +kernel) (fun s c w => Tryz.strings_Index_one s c w)) noS_ok
end KBase
end Go.Ab
