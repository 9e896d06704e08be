/- The functions that are met by summaries, and that these hold. -/
import Derived.Test.YtkgdahdohamgbaaGreatDoorMachineE
import Derived.Test.YtkgdahdohamgbaaGreatDoorShelf
import Derived.Test.YtkgdahdohamgbaaGreatDoorSumOpen
import Derived.Test.YtkgdahdohamgbaaGreatDoorSumDirty
import Derived.Test.YtkgdahdohamgbaaGreatDoorSumCount
import Derived.Test.YtkgdahdohamgbaaGreatDoorSumNum
import Derived.Test.YtkgdahdohamgbaaGreatDoorSumDiff
import Derived.Test.YtkgdahdohamgbaaGreatDoorSumSum
namespace Go.Ab
open Go.RowKit Go.Proofs
namespace KBase
noncomputable def S0 : Nat → Option Summ := addS 137 (keysS 1) (addS 202 KCount.countS (addS 258 KZero.zeroS (addS 196 KNumGet.numS (addS 197 KDiff.diffS (addS 156 KSum.sumS (addS 27 (keysS 4) (addS 262 strCountS (addS 263 strIndexS noS))))))))
theorem names : noRoutine Tryz.prog = true := by decide +kernel
theorem mixed : Tryz.prog.follows .mixedOrders = true := by decide +kernel
theorem sortOK : SummOK Tryz.prog 54 sortS :=
  sort_summ Tryz.func54 (names_of names _ _ Tryz.func54) (by decide +kernel) (fun blk off cap zs w h1 h2 h3 => Tryz.slices_Sort_int blk off cap zs w h1 h2 h3) (fun w => Tryz.slices_Sort_int_none none 0 w)
theorem one_ok {g : Nat} {s0 : Summ} (h0 : SummOK Tryz.prog g s0) : ∀ (f : Nat) (s : Summ), (match Nat.beq f g with | true => some s0 | false => none) = some s → SummOK Tryz.prog f s := by
  intro f s h
  split at h
  · rename_i hf
    cases h
    rw [Nat.eq_of_beq_eq_true hf]
    exact h0
  · cases h
theorem getOK : SummOK Tryz.prog 204 KGet.getS := KGet.summ ⟨names_of names, mixed, fun _ _ h => by cases h⟩
theorem S0_ok : ∀ f s, S0 f = some s → SummOK Tryz.prog f s :=
  addS_ok (KOpen.summ ⟨names_of names, mixed, one_ok sortOK⟩) <|
  addS_ok (KCount.summ ⟨names_of names, mixed, one_ok getOK⟩) <|
  addS_ok (KZero.summ ⟨names_of names, mixed, fun _ _ h => by cases h⟩) <|
  addS_ok (KNumGet.summ ⟨names_of names, mixed, fun _ _ h => by cases h⟩) <|
  addS_ok (KDiff.summ ⟨names_of names, mixed, fun _ _ h => by cases h⟩) <|
  addS_ok (KSum.summ ⟨names_of names, mixed, fun _ _ h => by cases h⟩) <|
  addS_ok (KDirty.summ ⟨names_of names, mixed, one_ok sortOK⟩) <|
  addS_ok (strCount_summ Tryz.func262 (names_of names _ _ Tryz.func262) (by decide +kernel) (fun s c w => Tryz.strings_Count_one s c w)) <|
  addS_ok (strIndex_summ Tryz.func263 (names_of names _ _ Tryz.func263) (by decide +kernel) (fun s c w => Tryz.strings_Index_one s c w)) noS_ok
end KBase
end Go.Ab
