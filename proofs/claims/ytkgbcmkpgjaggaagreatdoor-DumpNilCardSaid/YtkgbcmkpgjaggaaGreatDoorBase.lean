/- The functions that are met by summaries, and that these hold. -/
import Derived.Test.YtkgbcmkpgjaggaaGreatDoorMachineE
import Derived.Test.YtkgbcmkpgjaggaaGreatDoorShelf
import Derived.Test.YtkgbcmkpgjaggaaGreatDoorSumOpen
import Derived.Test.YtkgbcmkpgjaggaaGreatDoorSumDirty
import Derived.Test.YtkgbcmkpgjaggaaGreatDoorSumCount
import Derived.Test.YtkgbcmkpgjaggaaGreatDoorSumNum
import Derived.Test.YtkgbcmkpgjaggaaGreatDoorSumDiff
import Derived.Test.YtkgbcmkpgjaggaaGreatDoorSumSum
namespace Go.Ab
open Go.RowKit Go.Proofs
namespace KBase
noncomputable def S0 : Nat → Option Summ := addS 88 strCmpS (addS 285 (keysS 1) (addS 225 KCount.countS (addS 169 KZero.zeroS (addS 165 KNumGet.numS (addS 302 KDiff.diffS (addS 166 KSum.sumS (addS 291 (keysS 4) (addS 337 strCountS (addS 338 strIndexS noS)))))))))
theorem names : noRoutine Tryz.prog = true := by decide +kernel
theorem mixed : Tryz.prog.follows .mixedOrders = true := by decide +kernel
theorem sortOK : SummOK Tryz.prog 46 sortS :=
  sort_summ Tryz.func46 (names_of names _ _ Tryz.func46) (by decide +kernel) (fun blk off cap zs w h1 h2 h3 => Tryz.slices_Sort_int blk off cap zs w h1 h2 h3) (fun w => Tryz.slices_Sort_int_none none 0 w)
theorem one_ok {g : Nat} {s0 : Summ} (h0 : SummOK Tryz.prog g s0) : ∀ (f : Nat) (s : Summ), (match Nat.beq f g with | true => some s0 | false => none) = some s → SummOK Tryz.prog f s := by
  intro f s h
  split at h
  · rename_i hf
    cases h
    rw [Nat.eq_of_beq_eq_true hf]
    exact h0
  · cases h
theorem getOK : SummOK Tryz.prog 310 KGet.getS := KGet.summ ⟨names_of names, mixed, fun _ _ h => by cases h⟩
theorem S0_ok : ∀ f s, S0 f = some s → SummOK Tryz.prog f s :=
  addS_ok (strCmp_summ Tryz.func88 (names_of names _ _ Tryz.func88) (by decide +kernel) (fun s t w => Tryz.strings_Compare s t w)) <|
  addS_ok (KOpen.summ ⟨names_of names, mixed, one_ok sortOK⟩) <|
  addS_ok (KCount.summ ⟨names_of names, mixed, one_ok getOK⟩) <|
  addS_ok (KZero.summ ⟨names_of names, mixed, fun _ _ h => by cases h⟩) <|
  addS_ok (KNumGet.summ ⟨names_of names, mixed, fun _ _ h => by cases h⟩) <|
  addS_ok (KDiff.summ ⟨names_of names, mixed, fun _ _ h => by cases h⟩) <|
  addS_ok (KSum.summ ⟨names_of names, mixed, fun _ _ h => by cases h⟩) <|
  addS_ok (KDirty.summ ⟨names_of names, mixed, one_ok sortOK⟩) <|
  addS_ok (strCount_summ Tryz.func337 (names_of names _ _ Tryz.func337) (by decide +kernel) (fun s c w => Tryz.strings_Count_one s c w)) <|
  addS_ok (strIndex_summ Tryz.func338 (names_of names _ _ Tryz.func338) (by decide +kernel) (fun s c w => Tryz.strings_Index_one s c w)) noS_ok
end KBase
end Go.Ab
