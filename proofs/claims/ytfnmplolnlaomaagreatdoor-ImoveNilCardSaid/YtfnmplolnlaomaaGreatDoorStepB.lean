/- A program none of whose functions starts a goroutine: no call of it does. -/
import Derived.SevenTiedAt
import Derived.ProofKit
import Derived.Test.YtfnmplolnlaomaaGreatDoorStep
namespace Go.Ab
theorem goes_none {P : Program} (h : P.funcs.toList.all (fun f => !Func.goes f) = true) (c : OpenClaim) : c.goesBy P = false := by
  have h0 : ∀ x ∈ P.funcs.toList, Func.goes x = false := fun x hx => by simpa using List.all_eq_true.1 h x hx
  have h1 : ∀ f, P.goes f = false := by
    intro f
    unfold Program.goes
    rw [Bool.or_eq_false_iff]
    constructor
    · rw [List.any_eq_false]
      intro g _
      cases hg : P.funcs[g]? with
      | none => simp
      | some x =>
        have := h0 x (by simpa using Array.mem_of_getElem? hg)
        simp [this]
    · have : P.funcs.any Func.goes = false := by
        rw [← Array.any_toList, List.any_eq_false]
        intro x hx
        simp [h0 x hx]
      rw [this, Bool.and_false]
  unfold OpenClaim.goesBy Program.goesAt Program.goesFrom
  rw [Bool.or_eq_false_iff]
  constructor
  · cases P.funcNamed c.func with
    | none => rfl
    | some f => simp [h1 f]
  · cases c.start with
    | entering => rfl
    | _ => simp only [List.any_eq_false]; intro x _; simp [h1 x]
end Go.Ab
namespace Go.Proofs.YtfnmplolnlaomaaGreatDoor.imoveNil
open Go.ChangeShapes Go.WideShapes Go.ChangeAt Go.RowKit
set_option linter.unusedVariables false
theorem nogo : Tryz.prog.funcs.toList.all (fun f => !Func.goes f) = true := by kernel_rfl
theorem plain (f : FuncId) (fn : Func) (hf : Tryz.pinned.checked.prog.funcNamed "levee/leveelaw22.ImoveNil" = some f) (hfn : Tryz.pinned.checked.prog.funcs[f]? = some fn) :
    false = Tryz.pinned.checked.prog.looks [] ∧ ∀ (j : Nat) t, fn.params[j]? = some t → Tryz.pinned.checked.prog.wantsStandIn t = false := by
  obtain rfl : f = 3 := Option.some.inj ((show Tryz.prog.funcNamed "levee/leveelaw22.ImoveNil" = some 3 by kernel_rfl).symm.trans hf) |>.symm
  obtain rfl : fn = Tryz.f3 := (Option.some.inj (Tryz.func3.symm.trans hfn)).symm
  refine ⟨by kernel_rfl, fun j t ht => ?_⟩
  rw [Tryz.params3] at ht
  have hm := Array.mem_of_getElem? ht
  simp only [List.mem_toArray, List.mem_cons, List.not_mem_nil, or_false] at hm
  rcases hm with rfl | rfl
  · exact (show Tryz.prog.wantsStandIn 3 = false by kernel_rfl)
  · exact (show Tryz.prog.wantsStandIn 3 = false by kernel_rfl)
set_option maxHeartbeats 8000000 in
theorem card_of (hw : ∀ (a0 : Int) (a1 : Int) (w : World), Calls Tryz.prog 3 #[.int .i64 a0, .int .i64 a1] w fun e w' => e = .returned (.bool true) ∧ Below w.heap.size w w') : Rows.ImoveNilCardSaid :=
  Claim7.holds_tied_plain_at .later [] _ _ _ _ (said hw) (fun _ h => by cases h) (by as_aux_lemma => kernel_rfl) (fun _ h => by cases h) imoveNil_row_tie rfl ⟨rfl, rfl⟩ (by as_aux_lemma => kernel_rfl) rfl plain (Go.Ab.goes_none nogo _).symm
end Go.Proofs.YtfnmplolnlaomaaGreatDoor.imoveNil
