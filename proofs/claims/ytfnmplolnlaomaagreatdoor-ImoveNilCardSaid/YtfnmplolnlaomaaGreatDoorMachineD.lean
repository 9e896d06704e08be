/- The abstract machine of these proofs, part 23: what it is that code is run soundly; the plain kinds of code. -/
import Derived.Test.YtfnmplolnlaomaaGreatDoorMachineC
import Derived.RangeFuncLeaves
import Derived.RangeFuncRecord
namespace Go.Ab
open Go.RowKit

def AX.to : AX → Exit
  | .normal => .normal
  | .exit i => .exit i
  | .goto l => .goto l
  | .ret => .ret

/-! ### The marks that ranges over functions leave among the deferred calls -/
def dmark (r : Nat) : Deferred := { target := .collected r, args := #[] }
/-- From which block on is ours; the calls that this frame has deferred by itself. -/
structure Mk where
  lo : Nat
  own : List Deferred := []
/-- All deferred calls but our own are marks of blocks from z on, each of its own, still open, none of them in use. -/
structure Marks (z : Mk) (ρ : Rho) (w : World) (ds : List Deferred) : Prop where
  low : z.lo ≤ w.heap.size
  all : ∃ rs rt : List Nat, ds = rs.map dmark ++ (z.own ++ rt.map dmark) ∧ (rs ++ rt).Nodup ∧ ∀ r ∈ rs ++ rt, z.lo ≤ r ∧ r < w.heap.size ∧ w.heap[r]? = some (.deferred (some [])) ∧ ∀ b e, ρ b = some e → e.r ≠ r
theorem Marks.nil {z : Nat} {ρ : Rho} {w : World} (h : z ≤ w.heap.size) : Marks ⟨z, []⟩ ρ w [] := ⟨h, [], [], rfl, .nil, fun _ h => by cases h⟩
theorem Marks.keep {z : Mk} {ρ ρ' : Rho} {w w' : World} (k : Ext ρ w ρ' w') {r : Nat} (h : z.lo ≤ r ∧ r < w.heap.size ∧ w.heap[r]? = some (.deferred (some [])) ∧ ∀ b e, ρ b = some e → e.r ≠ r) :
    z.lo ≤ r ∧ r < w'.heap.size ∧ w'.heap[r]? = some (.deferred (some [])) ∧ ∀ b e, ρ' b = some e → e.r ≠ r := by
  obtain ⟨a, b, c, d⟩ := h
  refine ⟨a, Nat.lt_of_lt_of_le b k.size, (k.keep r b d).trans c, fun x e hx he => ?_⟩
  rcases k.fresh x e hx with g | ⟨b0, e0, g1, g2⟩
  · omega
  · exact d b0 e0 g1 (g2.trans he)
theorem Marks.ext {z : Mk} {ρ ρ' : Rho} {w w' : World} {ds : List Deferred} (h : Marks z ρ w ds) (k : Ext ρ w ρ' w') : Marks z ρ' w' ds := by
  obtain ⟨rs, rt, h1, h2, h3⟩ := h.all
  exact ⟨Nat.le_trans h.low k.size, rs, rt, h1, h2, fun r hr => Marks.keep k (h3 r hr)⟩

/-- The round that we are in, if we are in one. -/
def RO (ρ : Rho) : Option Id → Option Nat → Prop
  | none, rn => rn = none
  | some l, rn => ∃ e, ρ l = some e ∧ rn = some e.r
theorem RO.mono {ρ ρ' : Rho} {ro : Option Id} {rn : Option Nat} (h : RO ρ ro rn) (k : ρ.le ρ') : RO ρ' ro rn := by
  cases ro with
  | none => exact h
  | some l => obtain ⟨e, h1, h2⟩ := h; exact ⟨e, k _ _ h1, h2⟩

structure St (z : Mk) (base : Hp) (ro : Option Id) (rn : Option Nat) (nt : Nat) (ρ : Rho) (fr : Fr) (ov : Hp) (a : Act) (w : World) : Prop where
  hr : HR base ρ ov w
  fr : FR ρ nt fr a.tmps
  dm : Marks z ρ w a.defers
  ro : RO ρ ro rn
theorem St.put {z : Mk} {base : Hp} {ro : Option Id} {rn : Option Nat} {nt : Nat} {ρ : Rho} {fr : Fr} {ov : Hp} {a : Act} {w : World} (h : St z base ro rn nt ρ fr ov a w) {d : Nat} (hd : d < nt) {v : AV} {v' : Value} (hv : VR ρ v v') :
    St z base ro rn nt ρ (fr.set (Id.of d) v) ov (a.put (some d) v') w := ⟨h.hr, h.fr.set hd hv, h.dm, h.ro⟩
theorem St.thru {z : Mk} {base : Hp} {ro : Option Id} {rn : Option Nat} {nt : Nat} {ρ ρ' : Rho} {fr : Fr} {ov ov' : Hp} {a : Act} {w w' : World} (h : St z base ro rn nt ρ fr ov a w) (k : Thru base ρ ov w ρ' ov' w') (hr : HR base ρ' ov' w') :
    St z base ro rn nt ρ' fr ov' a w' := ⟨hr, h.fr.mono k.ext.le, h.dm.ext k.ext, h.ro.mono k.ext.le⟩

def FW (rn : Option Nat) : Fence := { Fence.wide with round := rn }
theorem FW_none : FW none = Fence.wide := rfl

/-- What is asked behind a piece of code. -/
def Cont (z : Mk) (base : Hp) (ro : Option Id) (rn : Option Nat) (nt : Nat) (K : KX) (l : List Out) (ρ : Rho) (ov : Hp) (w : World) (Q : Exit → Act → World → Prop) : Prop :=
  ∀ x fr' ov' nx' ρ' a' w', Sat (K x fr' ov' nx') l → Thru base ρ ov w ρ' ov' w' → St z base ro rn nt ρ' fr' ov' a' w' → Q x.to a' w'
theorem Cont.thru {z : Mk} {base : Hp} {ro : Option Id} {rn : Option Nat} {nt : Nat} {K : KX} {l : List Out} {ρ ρ' : Rho} {ov ov' : Hp} {w w' : World} {Q : Exit → Act → World → Prop}
    (h : Cont z base ro rn nt K l ρ ov w Q) (k : Thru base ρ ov w ρ' ov' w') : Cont z base ro rn nt K l ρ' ov' w' Q :=
  fun x fr1 ov1 nx1 ρ1 a1 w1 hs ht hst => h x fr1 ov1 nx1 ρ1 a1 w1 hs (k.trans ht) hst
/-- A piece of code is run soundly. -/
structure Sound (P : Program) (c : Code) (X : R) : Prop where
  go : ∀ {z base ro rn nt fr ov nx K l ρ a w Q}, St z base ro rn nt ρ fr ov a w → Sat (X base ro nt fr ov nx K) l → Cont z base ro rn nt K l ρ ov w Q → c.wpIn (FW rn) 0 P Q a w

section
variable {P : Program}
theorem sound_skip : Sound P .skip (cExit .normal) := ⟨fun h hs hK => wpIn_skip (hK .normal _ _ _ _ _ _ hs (.refl _ _ _ _) h)⟩
theorem sound_label (i : Nat) : Sound P (.label i) (cExit .normal) := ⟨fun h hs hK => wpIn_label (hK .normal _ _ _ _ _ _ hs (.refl _ _ _ _) h)⟩
theorem sound_exit (i : Nat) : Sound P (.exit i) (cExit (.exit i)) := ⟨fun h hs hK => wpIn_exit (hK (.exit i) _ _ _ _ _ _ hs (.refl _ _ _ _) h)⟩
theorem sound_goto (i : Nat) : Sound P (.goto i) (cExit (.goto i)) := ⟨fun h hs hK => wpIn_goto (hK (.goto i) _ _ _ _ _ _ hs (.refl _ _ _ _) h)⟩
theorem sound_ret : Sound P .ret (cExit .ret) := ⟨fun h hs hK => wpIn_ret (hK .ret _ _ _ _ _ _ hs (.refl _ _ _ _) h)⟩
theorem sound_bad (c : Code) (w : String) : Sound P c (fun _ _ _ _ _ _ _ => .bad w) := ⟨fun _ hs _ => (not_sat_bad hs).elim⟩
theorem sound_seq {x y : Code} {rx ry : R} (hx : Sound P x rx) (hy : Sound P y ry) : Sound P (.seq x y) (cSeq rx ry) := by
  refine ⟨?_⟩
  intro z base ro rn nt fr ov nx K l ρ a w Q h hs hK
  refine wpIn_seq (hx.go h hs ?_)
  intro e fr1 ov1 nx1 ρ1 a1 w1 hs1 ht hst
  cases e with
  | normal => exact hy.go hst hs1 (hK.thru ht)
  | exit i => exact hK (.exit i) _ _ _ _ _ _ hs1 ht hst
  | goto i => exact hK (.goto i) _ _ _ _ _ _ hs1 ht hst
  | ret => exact hK .ret _ _ _ _ _ _ hs1 ht hst
theorem sound_cond {c : Operand} {x y : Code} {rx ry : R} (hx : Sound P x rx) (hy : Sound P y ry) : Sound P (.cond c x y) (cCond c rx ry) := by
  refine ⟨?_⟩
  intro z base ro rn nt fr ov nx K l ρ a w Q h hs hK
  unfold cCond at hs
  rw [evK_eq] at hs
  have hv := evS_VR h.fr c
  split at hs
  · rename_i e
    rw [e] at hv
    exact wpIn_cond_true (by cases hv' : a.eval c <;> rw [hv'] at hv <;> cases hv; rfl) (hx.go h hs hK)
  · rename_i e
    rw [e] at hv
    exact wpIn_cond_false (by cases hv' : a.eval c <;> rw [hv'] at hv <;> cases hv; rfl) (hy.go h hs hK)
  · exact (not_sat_bad hs).elim
theorem sound_block {i : Nat} {x : Code} {rx : R} (hx : Sound P x rx) : Sound P (.block i x) (cBlock i rx) := by
  refine ⟨?_⟩
  intro z base ro rn nt fr ov nx K l ρ a w Q h hs hK
  refine wpIn_block (hx.go h hs ?_)
  intro e fr1 ov1 nx1 ρ1 a1 w1 hs1 ht hst
  cases e with
  | normal => exact hK .normal _ _ _ _ _ _ hs1 ht hst
  | exit j =>
    simp only [AX.to, Exit.inBlock]
    have hs1 : Sat (match Nat.beq j i with | true => K .normal fr1 ov1 nx1 | false => K (.exit j) fr1 ov1 nx1) l := hs1
    rw [beq_dec] at hs1
    by_cases e : j = i
    · rw [if_pos e]; simp only [e, decide_true] at hs1; exact hK .normal _ _ _ _ _ _ hs1 ht hst
    · rw [if_neg e]; simp only [e, decide_false] at hs1; exact hK (.exit j) _ _ _ _ _ _ hs1 ht hst
  | goto j => exact hK (.goto j) _ _ _ _ _ _ hs1 ht hst
  | ret => exact hK .ret _ _ _ _ _ _ hs1 ht hst
theorem least_of {p : Nat → Prop} (h : ∃ m, p m) : ∃ m, p m ∧ ∀ k, p k → m ≤ k := by
  obtain ⟨m, hm⟩ := h
  induction m using Nat.strongRecOn with
  | _ m ih =>
    by_cases e : ∃ k, k < m ∧ p k
    · obtain ⟨k, h1, h2⟩ := e; exact ih k h1 h2
    · exact ⟨m, hm, fun k hk => Nat.le_of_not_lt fun hlt => e ⟨k, hlt, hk⟩⟩
theorem sound_loop {m : Nat} {x : Code} {rx : R} (hx : Sound P x rx) : Sound P (.loop x) (cLoop m rx) := by
  refine ⟨?_⟩
  intro z base ro rn nt fr ov nx K l ρ a w Q h hs hK
  let Good : Nat → Act → World → Prop := fun m a' w' => ∃ fr' ov' nx' ρ', St z base ro rn nt ρ' fr' ov' a' w' ∧ Thru base ρ ov w ρ' ov' w' ∧ Sat (cLoop m rx base ro nt fr' ov' nx' K) l
  have hg : ∃ m, Good m a w := ⟨m, fr, ov, nx, ρ, h, .refl _ _ _ _, hs⟩
  classical
  let μ : Act → World → Nat := fun a w => if e : ∃ m, Good m a w then Classical.choose (least_of e) else 0
  refine wpIn_loop (fun a w => ∃ m, Good m a w) μ hg ?_
  intro a1 w1 hI
  have hμ : μ a1 w1 = Classical.choose (least_of hI) := dif_pos hI
  obtain ⟨fr1, ov1, nx1, ρ1, hst, ht, hs1⟩ := (Classical.choose_spec (least_of hI)).1
  rw [← hμ] at hs1
  generalize μ a1 w1 = m1 at hs1 ⊢
  cases m1 with
  | zero => exact (not_sat_bad hs1).elim
  | succ m1 =>
    refine hx.go hst hs1 ?_
    intro e fr2 ov2 nx2 ρ2 a2 w2 hs2 ht2 hst2
    cases e with
    | normal =>
      have hg2 : Good m1 a2 w2 := ⟨fr2, ov2, nx2, ρ2, hst2, ht.trans ht2, hs2⟩
      refine ⟨⟨m1, hg2⟩, ?_⟩
      have h2 : μ a2 w2 = Classical.choose (least_of ⟨m1, hg2⟩) := dif_pos ⟨m1, hg2⟩
      rw [h2]
      exact Nat.lt_succ_of_le ((Classical.choose_spec (least_of ⟨m1, hg2⟩)).2 m1 hg2)
    | exit j => exact hK (.exit j) _ _ _ _ _ _ hs2 (ht.trans ht2) hst2
    | goto j => exact hK (.goto j) _ _ _ _ _ _ hs2 (ht.trans ht2) hst2
    | ret => exact hK .ret _ _ _ _ _ _ hs2 (ht.trans ht2) hst2

/-! ### A scope through which the run goes straight -/
section
variable {F : Fence} {n : Nat} {Q : Exit → Act → World → Prop} {a : Act} {w : World}
theorem stepR_scope {b : Frame} {k : List Item} {cs : List Frame} {c : Code} : step P (lone (b.atR a (.code (.scope c) :: k)) cs w) = .next (lone (b.atR a (.code c :: .inScope c :: k)) cs w) :=
  step_lone_go (by simp [stepG, stepG.exec, Frame.atR])
theorem stepR_inScope {b : Frame} {k : List Item} {cs : List Frame} {c : Code} : step P (lone (b.atR a (.inScope c :: k)) cs w) = .next (lone (b.atR a k) cs w) :=
  step_lone_go (by simp [stepG, stepG.exec, Frame.atR])
def straight (Q : Exit → Act → World → Prop) : Exit → Act → World → Prop
  | .goto _, _, _ => False
  | e, a, w => Q e a w
theorem wpIn_scope {c : Code} (h : c.wpIn F n P (straight Q) a w) : (Code.scope c).wpIn F n P Q a w := by
  intro b k cs hro hb hr
  have h0 : (lone (b.atR a (.code (.scope c) :: k)) cs w).fenced P F := fenced_calm hb hr rfl
  obtain ⟨e, a₁, w₁, hq, harr⟩ := h b (.inScope c :: k) cs hro hb hr
  cases e with
  | normal => exact ⟨.normal, a₁, w₁, hq, .head h0 stepR_scope (StepsIn.trans harr (.one (fenced_calm hb hr rfl) stepR_inScope))⟩
  | exit id =>
    have hx : exitTo id (.inScope c :: k) = exitTo id k := by simp [exitTo]
    exact ⟨.exit id, a₁, w₁, hq, fun k' hk => .head h0 stepR_scope (harr.1 k' (by rw [hx]; exact hk)), fun hr' hk => let ⟨k₁, h1, h2⟩ := harr.2 hr' (by rw [hx]; exact hk); ⟨k₁, h1, .head h0 stepR_scope h2⟩⟩
  | goto l => exact hq.elim
  | ret => exact ⟨_, a₁, w₁, hq, .of_steps (.one h0 stepR_scope) harr⟩
  | panic ch => exact ⟨_, a₁, w₁, hq, .of_steps (.one h0 stepR_scope) harr⟩
  | outgrown => exact ⟨_, a₁, w₁, hq, .of_steps (.one h0 stepR_scope) harr⟩
end
theorem sound_scope {x : Code} {rx : R} (hx : Sound P x rx) : Sound P (.scope x) (cScope rx) := by
  refine ⟨?_⟩
  intro z base ro rn nt fr ov nx K l ρ a w Q h hs hK
  refine wpIn_scope (hx.go h hs ?_)
  intro e fr1 ov1 nx1 ρ1 a1 w1 hs1 ht hst
  cases e with
  | normal => exact hK .normal _ _ _ _ _ _ hs1 ht hst
  | exit j => exact hK (.exit j) _ _ _ _ _ _ hs1 ht hst
  | goto j => exact (not_sat_bad hs1).elim
  | ret => exact hK .ret _ _ _ _ _ _ hs1 ht hst
end
end Go.Ab
/- The abstract machine of these proofs, part 24: whether two ends are one; one heap over another. -/
namespace Go.Ab
open Go.RowKit
theorem eqNs_eq : ∀ {a b : List Nat}, eqNs a b = true → a = b
  | [], [], _ => rfl
  | x :: a, y :: b, h => by
    simp only [eqNs, Bool.and_eq_true, Nat.beq_eq] at h
    rw [h.1, eqNs_eq h.2]
  | [], _ :: _, h => by simp [eqNs] at h
  | _ :: _, [], h => by simp [eqNs] at h
mutual
theorem AV.beq_eq : ∀ {a b : AV}, AV.beq a b = true → a = b
  | .junk, b, h => by cases b <;> simp [AV.beq] at h; rfl
  | .bool a, b, h => by cases b <;> simp [AV.beq] at h; rw [h]
  | .int k a, b, h => by cases b <;> simp [AV.beq] at h; rw [h.1, h.2]
  | .str a, b, h => by cases b <;> simp [AV.beq] at h; rw [eqNs_eq h]
  | .nilp, b, h => by cases b <;> simp [AV.beq] at h; rfl
  | .ptr a i, b, h => by cases b <;> simp [AV.beq] at h; rw [h.1, h.2]
  | .gptr a i, b, h => by cases b <;> simp [AV.beq] at h; rw [h.1, h.2]
  | .nils, b, h => by cases b <;> simp [AV.beq] at h; rfl
  | .sl a i l c e x, b, h => by cases b <;> simp [AV.beq] at h; obtain ⟨⟨⟨⟨⟨h1, h2⟩, h3⟩, h4⟩, h5⟩, h6⟩ := h; rw [h1, h2, h3, h4, h5, h6]
  | .nilm, b, h => by cases b <;> simp [AV.beq] at h; rfl
  | .map a, b, h => by cases b <;> simp [AV.beq] at h; rw [h]
  | .func f x y, b, h => by cases b <;> simp [AV.beq] at h; rw [h.1.1, AV.beqL_eq h.1.2, AV.beqL_eq h.2]
  | .yield a, b, h => by cases b <;> simp [AV.beq] at h; rw [h]
  | .nilf, b, h => by cases b <;> simp [AV.beq] at h; rfl
  | .nili, b, h => by cases b <;> simp [AV.beq] at h; rfl
  | .agg a, b, h => by cases b <;> simp [AV.beq] at h; rw [AV.beqL_eq h]
  | .tup a, b, h => by cases b <;> simp [AV.beq] at h; rw [AV.beqL_eq h]
theorem AV.beqL_eq : ∀ {a b : List AV}, AV.beqL a b = true → a = b
  | [], b, h => by cases b <;> simp [AV.beqL] at h; rfl
  | x :: a, b, h => by
    cases b with
    | nil => simp [AV.beqL] at h
    | cons y b => simp [AV.beqL] at h; rw [AV.beq_eq h.1, AV.beqL_eq h.2]
end
theorem beqO_eq {α : Type} {f : α → α → Bool} (hf : ∀ a b, f a b = true → a = b) {a b : Option α} (h : beqO f a b = true) : a = b := by
  cases a <;> cases b <;> simp [beqO] at h <;> first | rfl | rw [hf _ _ h]
theorem Tr.beq_eq {α : Type} {f : α → α → Bool} (hf : ∀ a b, f a b = true → a = b) : ∀ {a b : Tr α}, Tr.beq f a b = true → a = b
  | .e, b, h => by cases b <;> simp [Tr.beq] at h; rfl
  | .n l v r, b, h => by
    cases b with
    | e => simp [Tr.beq] at h
    | n l' v' r' => simp [Tr.beq] at h; rw [beqO_eq hf h.1.1, Tr.beq_eq hf h.1.2, Tr.beq_eq hf h.2]
theorem Rows.beq_eq {a b : Rows} (h : Rows.beq a b = true) : a = b := by
  cases a <;> cases b <;> simp [Rows.beq] at h
  · rw [AV.beqL_eq h]
  · rw [h.1.1, AV.beqL_eq h.1.2, Tr.beq_eq (fun _ _ h => AV.beqL_eq h) h.2]
theorem MEnt.beqL_eq : ∀ {a b : List MEnt}, MEnt.beqL a b = true → a = b
  | [], b, h => by cases b <;> simp [MEnt.beqL] at h; rfl
  | ⟨k, v, n⟩ :: a, b, h => by
    cases b with
    | nil => simp [MEnt.beqL] at h
    | cons y b => obtain ⟨k', v', n'⟩ := y; simp [MEnt.beqL] at h; rw [AV.beq_eq h.1.1.1, AV.beq_eq h.1.1.2, h.1.2, MEnt.beqL_eq h.2]
theorem AO.beq_eq {a b : AO} (h : AO.beq a b = true) : a = b := by
  cases a <;> cases b <;> simp [AO.beq] at h
  · rw [h.1.1, Rows.beq_eq h.1.2, h.2]
  · rw [MEnt.beqL_eq h.1, h.2]
  · obtain ⟨⟨⟨⟨⟨h1, h2⟩, h3⟩, h4⟩, h5⟩, h6⟩ := h
    rw [h1, h2, eqNs_eq h3, h4, h5, h6]
  · rw [eqNs_eq h.1, h.2]
theorem Hp.beq_eq {a b : Hp} (h : Hp.beq a b = true) : a = b := Tr.beq_eq (fun _ _ h => beqO_eq (fun _ _ h => AO.beq_eq h) h) h
theorem sameOut_eq {a b : Out} (h : sameOut a b = true) : a = b := by
  obtain ⟨v, o, n⟩ := a
  obtain ⟨v', o', n'⟩ := b
  simp [sameOut] at h
  rw [AV.beq_eq h.1.1, Hp.beq_eq h.1.2, h.2]
theorem joinV_eq {L : List Out} {x : Out} (h : joinV L = some x) : ∀ y ∈ L, y = x := by
  cases L with
  | nil => cases h
  | cons a r =>
    simp only [joinV] at h
    split at h
    · rename_i hr
      cases h
      intro y hy
      rcases List.mem_cons.1 hy with rfl | hy
      · rfl
      · exact (sameOut_eq (List.all_eq_true.1 hr y hy)).symm
    · cases h

/-! ### One heap over another -/
theorem look_over (base ov ov' : Hp) (b : Id) : look (Tr.over base ov) ov' b = look base (Tr.over ov ov') b := by
  simp only [look, Tr.getR_eq, Tr.get_over]
  cases ov'.get b <;> cases ov.get b <;> cases base.get b <;> rfl
theorem absent_over (base ov ov' : Hp) (b : Id) : absent (Tr.over base ov) ov' b = absent base (Tr.over ov ov') b := by
  simp only [absent, Tr.getR_eq, Tr.get_over]
  cases ov'.get b <;> cases ov.get b <;> cases base.get b <;> rfl
theorem over_e {α : Type} (t : Tr α) : Tr.over t .e = t := by cases t <;> rfl
theorem HR.over {base ov ov' : Hp} {ρ : Rho} {w : World} : HR (Tr.over base ov) ρ ov' w ↔ HR base ρ (Tr.over ov ov') w := by
  constructor
  · intro h
    exact ⟨fun b o e hb he => h.block b o e (by rw [look_over]; exact hb) he, fun b b' o o' e e' h1 h2 => h.inj b b' o o' e e' (by rw [look_over]; exact h1) (by rw [look_over]; exact h2),
      fun b hb => h.dom b (by rw [absent_over]; exact hb), h.size⟩
  · intro h
    exact ⟨fun b o e hb he => h.block b o e (by rw [← look_over]; exact hb) he, fun b b' o o' e e' h1 h2 => h.inj b b' o o' e e' (by rw [← look_over]; exact h1) (by rw [← look_over]; exact h2),
      fun b hb => h.dom b (by rw [← absent_over]; exact hb), h.size⟩
theorem Thru.over {base ov ov' : Hp} {ρ ρ' : Rho} {w w' : World} (h : Thru (Tr.over base ov) ρ .e w ρ' ov' w') : Thru base ρ ov w ρ' (Tr.over ov ov') w' := by
  refine ⟨h.ext, fun b hb hn => h.news b (by rw [absent_over, over_e]; exact hb) hn, fun b hb => ?_⟩
  have := h.abs b (by rw [absent_over]; exact hb)
  rwa [absent_over, over_e] at this
end Go.Ab
/- The abstract machine of these proofs, part 25: a function's activation. -/
namespace Go.Ab
open Go.RowKit

/-! ### Frames of arguments -/
def argFrame : Nat → List AV → Fr → Fr
  | _, [], fr => fr
  | i, a :: l, fr => argFrame (i + 1) l (fr.set (Id.of i) a)
theorem argFrameK_eq (i : Nat) (L : List AV) (fr : Fr) (K : Fr → Ans) : argFrameK i L fr K = K (argFrame i L fr) := by
  induction L generalizing i fr with
  | nil => rfl
  | cons a L ih => simp [argFrameK, argFrame, Tr.setK_eq, ih]
theorem argFrame_get (i : Nat) (L : List AV) (fr : Fr) (t : Nat) : (argFrame i L fr).get (Id.of t) = if i ≤ t ∧ t < i + L.length then L[t - i]? else fr.get (Id.of t) := by
  induction L generalizing i fr with
  | nil =>
    simp only [argFrame, List.length_nil, Nat.add_zero]
    rw [if_neg (by omega)]
  | cons a L ih =>
    simp only [argFrame, ih, List.length_cons]
    by_cases h1 : i + 1 ≤ t ∧ t < i + 1 + L.length
    · rw [if_pos h1, if_pos (by omega)]
      obtain ⟨k, rfl⟩ : ∃ k, t = i + 1 + k := ⟨t - (i + 1), by omega⟩
      rw [show i + 1 + k - i = k + 1 by omega, show i + 1 + k - (i + 1) = k by omega, List.getElem?_cons_succ]
    · rw [if_neg h1, Tr.get_set]
      by_cases h2 : t = i
      · subst h2
        rw [if_pos rfl, if_pos (by omega)]
        simp
      · rw [if_neg (fun e => h2 (Id.of_inj e)), if_neg (by omega)]
theorem argFrame_FR {ρ : Rho} {nt : Nat} {args : List AV} {args' : Array Value} (h : VRL ρ args args'.toList) (hn : args.length ≤ nt) :
    FR ρ nt (argFrame 0 args .e) (args' ++ Array.replicate (nt - args'.size) undef) := by
  have hl := h.length
  simp only [Array.length_toList] at hl
  refine ⟨by simp; omega, fun t v ht => ?_⟩
  rw [argFrame_get] at ht
  split at ht
  · rename_i hc
    obtain ⟨v', h1, h2⟩ := h.get ht
    refine ⟨v', ?_, h2⟩
    rw [Array.getElem?_append_left (by omega)]
    simpa using h1
  · simp [Tr.get] at ht

/-! ### Results -/
section
variable {C : Ctx} {base ov : Hp} {ρ : Rho} {w : World} {l : List Out} {nt : Nat} {fr : Fr} {tm : Array Value}
theorem loadVar_ok (h : HR base ρ ov w) {t : TypeId} {a : AV} {a' : Value} {wy : String} {B : AV → Ans} (ha : VR ρ a a') (hs : Sat (loadK C.P base ov t a wy B) l) :
    ∃ v v', Sat (B v) l ∧ VR ρ v v' ∧ (do loadVar t (← asAddr a')).run C.P w = .ok v' w := by
  obtain ⟨v, v', h1, h2, h3⟩ := load_ok h ha hs
  refine ⟨v, v', h1, h2, ?_⟩
  unfold loadK at hs
  split at hs
  · cases ha with
    | ptr off hb =>
      simp only [Instr.loadAt, Instr.sureAddr, Sem.run_bind, Sem.run_pure, Result.andThen_ok] at h3
      simp only [asAddr, Sem.run_bind, Sem.run_pure, Result.andThen_ok, h3]
  · exact (not_sat_bad hs).elim
def resSem (tm : Array Value) : ResultVar → Sem Value
  | .tmp t => pure (tm.getD t undef)
  | .cell a t => do loadVar t (← asAddr (tm.getD a undef))
theorem resultK_ok (h : HR base ρ ov w) (hf : FR ρ nt fr tm) {r : ResultVar} {K : AV → Ans} (hs : Sat (resultK C base ov fr r K) l) :
    ∃ v v', Sat (K v) l ∧ VR ρ v v' ∧ (resSem tm r).run C.P w = .ok v' w := by
  cases r with
  | tmp t =>
    simp only [resultK, Tr.getK_eq] at hs
    exact ⟨_, _, hs, hf.slot' t, rfl⟩
  | cell a t =>
    simp only [resultK, Tr.getK_eq] at hs
    exact loadVar_ok h (hf.slot' a) hs
theorem resultsL_ok (h : HR base ρ ov w) (hf : FR ρ nt fr tm) {rs : List ResultVar} {K : List AV → Ans} (hs : Sat (resultsL C base ov fr rs K) l) :
    ∃ vs vs', Sat (K vs) l ∧ VRL ρ vs vs' ∧ (rs.mapM (resSem tm)).run C.P w = .ok vs' w ∧ vs'.length = rs.length := by
  induction rs generalizing K with
  | nil => exact ⟨[], [], hs, .nil, rfl, rfl⟩
  | cons r rs ih =>
    obtain ⟨v, v', h1, h2, h3⟩ := resultK_ok h hf hs
    obtain ⟨vs, vs', g1, g2, g3, g4⟩ := ih h1
    exact ⟨_, v' :: vs', g1, .cons h2 g2, by simp [List.mapM_cons, h3, g3], by simp [g4]⟩
theorem results_eq (fn : Func) (tm : Array Value) : results fn tm = (do let vs ← fn.results.toList.mapM (resSem tm); pure (if h : vs.toArray.size = 1 then vs.toArray[0] else .tuple vs.toArray)) := by
  unfold results
  rw [Array.mapM_eq_mapM_toList]
  simp only [bind_map_left]
  congr 1
theorem resultsK_ok {fn : Func} {nx : Nat} {K : KV} (h : HR base ρ ov w) (hf : FR ρ nt fr tm) (hs : Sat (resultsK C fn.results.toList base ov nx fr K) l) :
    ∃ v v', Sat (K v ov nx) l ∧ VR ρ v v' ∧ (results fn tm).run C.P w = .ok v' w := by
  rw [results_eq]
  generalize fn.results.toList = rs at hs ⊢
  have many : ∀ rs : List ResultVar, rs.length ≠ 1 → Sat (resultsL C base ov fr rs fun vs => K (.tup vs) ov nx) l →
      ∃ v v', Sat (K v ov nx) l ∧ VR ρ v v' ∧ (do let vs ← rs.mapM (resSem tm); pure (if h : vs.toArray.size = 1 then vs.toArray[0] else .tuple vs.toArray) : Sem Value).run C.P w = .ok v' w := by
    intro rs hl hs
    obtain ⟨vs, vs', g1, g2, g3, g4⟩ := resultsL_ok h hf hs
    refine ⟨.tup vs, .tuple vs'.toArray, g1, .tup (by simpa using g2), ?_⟩
    simp only [Sem.run_bind, g3, Result.andThen_ok, Sem.run_pure]
    rw [dif_neg (by simp [g4, hl])]
  match rs with
  | [r] =>
    obtain ⟨v, v', g1, g2, g3⟩ := resultK_ok h hf hs
    exact ⟨v, v', g1, g2, by simp [g3]⟩
  | [] => exact many [] (by simp) hs
  | r :: r2 :: rs => exact many _ (by simp) hs
end

/-! ### Leaving -/
section
variable {C : Ctx} {E : Code → R} {base ov : Hp} {ρ : Rho} {w : World} {l : List Out} {nt nx : Nat} {fr : Fr} {tm : Array Value} {K : KV}
/-- Some blocks that nothing uses have turned. -/
structure Off (z : Nat) (w w' : World) : Prop where
  size : w'.heap.size = w.heap.size
  keep : ∀ r, r < z → w'.heap[r]? = w.heap[r]?
  os : w'.os = w.os
  tape : w'.tape = w.tape
  output : w'.output = w.output
theorem Off.refl (z : Nat) (w : World) : Off z w w := ⟨rfl, fun _ _ => rfl, rfl, rfl, rfl⟩
theorem Off.trans {z : Nat} {a b c : World} (h : Off z a b) (k : Off z b c) : Off z a c :=
  ⟨k.size.trans h.size, fun r hr => (k.keep r hr).trans (h.keep r hr), k.os.trans h.os, k.tape.trans h.tape, k.output.trans h.output⟩
theorem Off.put {z r : Nat} {w : World} (h : z ≤ r) (o : Obj) : Off z w (w.putObj r o) :=
  ⟨World.putObj_size, fun k hk => World.putObj_heap_other (by omega), rfl, rfl, rfl⟩
theorem Ext.off {ρ' : Rho} {w' w2 : World} (h : Ext ρ w ρ' w') (k : Off w.heap.size w' w2) : Ext ρ w ρ' w2 :=
  ⟨h.le, h.fresh, fun r hr hn => (k.keep r hr).trans (h.keep r hr hn), by rw [k.size]; exact h.size, k.os.trans h.os, k.tape.trans h.tape, k.output.trans h.output⟩
theorem Thru.off {ρ' : Rho} {ov' : Hp} {w' w2 : World} (h : Thru base ρ ov w ρ' ov' w') (k : Off w.heap.size w' w2) : Thru base ρ ov w ρ' ov' w2 := ⟨h.ext.off k, h.news, h.abs⟩
theorem HR.off {w' : World} (h : HR base ρ ov w) (hs : w'.heap.size = w.heap.size) (hk : ∀ b e, ρ b = some e → w'.heap[e.r]? = w.heap[e.r]?) : HR base ρ ov w' :=
  ⟨fun b o e hb he => (h.block b o e hb he).mono ρ.le_refl (hk b e he), h.inj, h.dom, fun b e hb => by rw [hs]; exact h.size b e hb⟩
theorem leaves_marks {z : Nat} {fn : Func} {R : Ending → World → Prop} {F : Fence} {n : Nat} (hf : FR ρ nt fr tm) (hs : Sat (resultsK C fn.results.toList base ov nx fr K) l) :
    ∀ (rs : List Nat) (w : World), rs.Nodup → (∀ r ∈ rs, z ≤ r ∧ w.heap[r]? = some (.deferred (some [])) ∧ ∀ b e, ρ b = some e → e.r ≠ r) → HR base ρ ov w →
      (∀ v v' w', Sat (K v ov nx) l → VR ρ v v' → HR base ρ ov w' → Off z w w' → R (.returned v') w') → LeavesInM F n C.P fn tm R (rs.map dmark) .returning w := by
  intro rs
  induction rs with
  | nil =>
    intro w _ _ h hR
    obtain ⟨v, v', h1, h2, h3⟩ := resultsK_ok h hf hs
    exact ⟨v', h3, hR v v' w h1 h2 h (.refl _ _)⟩
  | cons r rs ih =>
    intro w hd hall h hR
    obtain ⟨a, b, c⟩ := hall r (List.mem_cons_self ..)
    obtain ⟨hd1, hd2⟩ := List.nodup_cons.1 hd
    refine ⟨by simp, .inl ⟨r, w.putObj r (.deferred none), rfl, run_takeDeferred b, ?_⟩⟩
    refine ih _ hd2 (fun r2 hr2 => ?_) (h.off World.putObj_size fun b e he => World.putObj_heap_other (c b e he)) (fun v v' w' g1 g2 g3 g4 => hR v v' w' g1 g2 g3 (.trans (.put a _) g4))
    obtain ⟨a2, b2, c2⟩ := hall r2 (List.mem_cons_of_mem _ hr2)
    exact ⟨a2, by rw [World.putObj_heap_other (fun e => hd1 (by rw [← e]; exact hr2))]; exact b2, c2⟩

/-- A call of a Go function comes back, and what is asked holds then. -/
def Goes (P : Program) (f : Nat) (args : Array Value) (w : World) (R : Value → World → Prop) : Prop :=
  ∃ fn, P.funcs[f]? = some fn ∧ (fn.name == "runtime.NumGoroutine") = false ∧ fn.body.isSome = true ∧ CallsIn Fence.wide 0 P f args w fun e w' => ∃ v, e = .returned v ∧ R v w'
theorem Goes.mono {P : Program} {f : Nat} {args : Array Value} {R R' : Value → World → Prop} (h : Goes P f args w R) (hr : ∀ v w', R v w' → R' v w') : Goes P f args w R' :=
  let ⟨fn, a, b, c, d⟩ := h
  ⟨fn, a, b, c, d.mono fun _ _ ⟨v, e, r⟩ => ⟨v, e, hr _ _ r⟩⟩
/-- What is asked behind an operation or a call. -/
def ContV (base : Hp) (K : KV) (l : List Out) (ρ : Rho) (ov : Hp) (w : World) (R : Value → World → Prop) : Prop :=
  ∀ v ov' nx' ρ' v' w', Sat (K v ov' nx') l → Thru base ρ ov w ρ' ov' w' → HR base ρ' ov' w' → VR ρ' v v' → R v' w'
theorem bodyK_ok (hE : ∀ c, Sound C.P c (E c)) {f : Nat} {fn : Func} (hf : C.P.funcs[f]? = some fn) (hn : (fn.name == "runtime.NumGoroutine") = false) (h : HR base ρ ov w) {args : List AV} {args' : Array Value}
    (ha : VRL ρ args args'.toList) (hl : args.length ≤ fn.ntmps) (hs : Sat (bodyK C E base f fn args ov nx K) l) {R : Value → World → Prop} (hR : ContV base K l ρ ov w R) : Goes C.P f args' w R := by
  unfold bodyK at hs
  cases hb : fn.body with
  | none => rw [hb] at hs; exact (not_sat_bad hs).elim
  | some c =>
    rw [hb] at hs
    simp only [argFrameK_eq] at hs
    refine ⟨fn, hf, hn, by simp [hb], callsIn_of_wp_marks hf hb trivial ?_⟩
    have hst : St ⟨w.heap.size, []⟩ base none none fn.ntmps ρ (argFrame 0 args .e) ov { tmps := args' ++ Array.replicate (fn.ntmps - args'.size) undef, defers := [] } w :=
      ⟨h, argFrame_FR ha hl, .nil (Nat.le_refl _), rfl⟩
    refine (hE c).go hst hs ?_
    intro x fr1 ov1 nx1 ρ1 a1 w1 hs1 ht hst1
    have fin : Sat (resultsK C fn.results.toList base ov1 nx1 fr1 K) l → LeavesInM Fence.wide 0 C.P fn a1.tmps (fun e w' => ∃ v, e = .returned v ∧ R v w') a1.defers .returning w1 := by
      intro hs2
      obtain ⟨rs0, rt, e1, e2, e3⟩ := hst1.dm.all
      generalize hrs : rs0 ++ rt = rs at e2 e3
      rw [e1, List.nil_append, ← List.map_append, hrs]
      refine leaves_marks (z := w.heap.size) hst1.fr hs2 rs w1 e2 (fun r hr => ?_) hst1.hr fun v v' w' g1 g2 g3 g4 => ?_
      · obtain ⟨p, _, q, s⟩ := e3 r hr
        exact ⟨p, q, s⟩
      · exact ⟨v', rfl, hR v ov1 nx1 ρ1 v' w' g1 (ht.off g4) g3 g2⟩
    cases x with
    | normal => exact fin hs1
    | ret => exact fin hs1
    | exit i => exact (not_sat_bad hs1).elim
    | goto i => exact (not_sat_bad hs1).elim

/-- What a summary of a function must be. -/
def SummOK (P : Program) (f : Nat) (s : Summ) : Prop :=
  ∀ {base ov nx args K l ρ w args' R}, HR base ρ ov w → VRL ρ args args'.toList → Sat (s base ov nx args K) l → ContV base K l ρ ov w R → Goes P f args' w R
structure CtxOK (C : Ctx) : Prop where
  names : ∀ (f : Nat) (fn : Func), C.P.funcs[f]? = some fn → (fn.name == "runtime.NumGoroutine") = false
  mixed : C.P.follows .mixedOrders = true
  summ : ∀ (f : Nat) (s : Summ), C.S f = some s → SummOK C.P f s
theorem callK_ok (hC : CtxOK C) (hE : ∀ c, Sound C.P c (E c)) {f : Nat} (h : HR base ρ ov w) {args : List AV} {args' : Array Value} (ha : VRL ρ args args'.toList) (hs : Sat (callK C E base f args ov nx K) l)
    {R : Value → World → Prop} (hR : ContV base K l ρ ov w R) : Goes C.P f args' w R := by
  unfold callK at hs
  cases hS : C.S f with
  | some s => rw [hS] at hs; exact hC.summ f s hS h ha hs hR
  | none =>
    rw [hS] at hs
    simp only at hs
    cases hf : C.P.funcs[f]? with
    | none => rw [hf] at hs; exact (not_sat_bad hs).elim
    | some fn =>
      rw [hf] at hs
      simp only [ble_dec] at hs
      split at hs
      · rename_i hl hj
        exact bodyK_ok hE hf (hC.names f fn hf) h ha (by simpa using hl) hs hR
      · rename_i hl hj
        unfold joinK at hs
        cases hr : bodyK C E (Tr.over base ov) f fn args .e nx (fun v ov' nx' => .ok [(v, ov', nx')]) with
        | bad wy => rw [hr] at hs; exact (not_sat_bad hs).elim
        | ok L =>
          rw [hr] at hs
          simp only at hs
          cases hv : joinV L with
          | none => rw [hv] at hs; exact (not_sat_bad hs).elim
          | some x =>
            obtain ⟨v, ov1, nx1⟩ := x
            rw [hv] at hs
            simp only at hs
            refine bodyK_ok (l := L) hE hf (hC.names f fn hf) (HR.over.2 (by rw [over_e]; exact h)) ha (by simpa using hl) ⟨L, hr, fun _ h => h⟩ ?_
            intro v2 ov2 nx2 ρ2 v2' w2 hs2 ht2 hh2 hv2
            obtain ⟨L2, e2, hm⟩ := hs2
            cases e2
            have := joinV_eq hv _ (hm _ (List.mem_cons_self ..))
            cases this
            exact hR v _ nx1 ρ2 v2' w2 hs ht2.over (HR.over.1 hh2) hv2
      · exact (not_sat_bad hs).elim
end
end Go.Ab
/- The abstract machine of these proofs, part 26: operations that call; ranges over functions. -/
namespace Go.Ab
open Go.RowKit
section
variable {C : Ctx} {E : Code → R} {base ov : Hp} {ρ : Rho} {w : World} {l : List Out} {z : Mk} {nt nx : Nat} {fr : Fr} {ro : Option Id} {rn : Option Nat}
theorem But.put {r : Nat} {w : World} (o : Obj) : But r w (w.putObj r o) := ⟨World.putObj_size, fun _ hk => World.putObj_heap_other hk, rfl, rfl, rfl⟩
/-- A block that turns and is given up. -/
theorem HR.killBut {w' : World} {b : Id} {o : AO} {e : Ent} (h : HR base ρ ov w) (hb : look base ov b = some o) (he : ρ b = some e) (hw : But e.r w w') : HR base ρ (ov.set b none) w' := by
  refine ⟨fun b1 o1 e1 h1 r1 => ?_, (h.kill b).inj, (h.kill b).dom, fun b1 e1 h1 => by rw [hw.size]; exact h.size b1 e1 h1⟩
  rw [look_set] at h1
  split at h1
  · cases h1
  · rename_i hbb
    exact (h.block b1 o1 e1 h1 r1).mono ρ.le_refl (hw.other _ fun hr => hbb (h.inj b1 b o1 o e1 e h1 hb r1 he hr))
theorem HR.grow (h : HR base ρ ov w) (o : Obj) : HR base ρ ov (w.alloc o) :=
  ⟨fun b o1 e hb he => (h.block b o1 e hb he).mono ρ.le_refl (heap_alloc_old w o (h.size b e he)), h.inj, h.dom, fun b e hb => by have := h.size b e hb; simp; omega⟩
theorem Thru.grow (o : Obj) : Thru base ρ ov w ρ ov (w.alloc o) :=
  ⟨⟨ρ.le_refl, fun b e h => .inr ⟨b, e, h, rfl⟩, fun r hr _ => heap_alloc_old w o hr, by simp, rfl, rfl, rfl⟩, fun _ _ h => h, fun _ h => h⟩

/-! ### Frames with other slots -/
def zipFrame : List Nat → List AV → Fr → Fr
  | p :: ps, a :: l, fr => zipFrame ps l (fr.set (Id.of p) a)
  | _, _, fr => fr
theorem zipFrameK_eq (ps : List Nat) (L : List AV) (fr : Fr) (K : Fr → Ans) : zipFrameK ps L fr K = K (zipFrame ps L fr) := by
  induction ps generalizing L fr with
  | nil => rfl
  | cons p ps ih => cases L with
    | nil => rfl
    | cons a L => simp [zipFrameK, zipFrame, Tr.setK_eq, ih]
theorem zipFrame_FR {ps : List Nat} {L : List AV} {L' : List Value} {fr : Fr} {tm : Array Value} (h : FR ρ nt fr tm) (hp : ∀ p ∈ ps, p < nt) (hv : VRL ρ L L') :
    FR ρ nt (zipFrame ps L fr) ((ps.zip L').foldl (fun tmps (t, a) => tmps.setIfInBounds t a) tm) := by
  induction ps generalizing L L' fr tm with
  | nil => exact h
  | cons p ps ih =>
    cases hv with
    | nil => exact h
    | cons hx ht => exact ih (h.set (hp p (List.mem_cons_self ..)) hx) (fun q hq => hp q (List.mem_cons_of_mem _ hq)) ht

/-! ### Function values -/
theorem valueK_func {g : Nat} {first caps args : List AV} {K : KV} (hs : Sat (valueK C E base (.func g first caps) args ov nx K) l) : Sat (callK C E base g (first ++ (args ++ caps)) ov nx K) l := by
  unfold valueK at hs
  split at hs
  · rename_i he; cases he; simpa using hs
  · rename_i he; cases he; rw [spine_eq] at hs; exact hs
  · rename_i he; cases he
  · exact (not_sat_bad hs).elim
theorem callFunc_run {P : Program} {f : Nat} {fn : Func} (hf : P.funcs[f]? = some fn) (hn : (fn.name == "runtime.NumGoroutine") = false) (hb : fn.body.isSome = true) (args : Array Value) (w : World) :
    (callFunc f args).run P w = .ok (.enter f args) w := by
  unfold callFunc
  have hb2 : fn.body.isNone = false := by cases h : fn.body <;> simp [h] at hb ⊢
  simp only [Sem.run_bind, run_program, Result.andThen_ok, hf, hn, hb2, Bool.false_eq_true, if_false, Sem.run_pure]

/-! ### A round of a range over a function -/
theorem yield_ok (hE : ∀ c, Sound C.P c (E c)) (h : HR base ρ ov w) {b : Id} {e : Ent} (hb : ρ b = some e) {args : List AV} {args' : Array Value} (ha : VRL ρ args args'.toList) {K : KV}
    (hs : Sat (yieldK E base b args ov nx K) l) {R : Value → World → Prop} (hR : ContV base K l ρ ov w R) :
    ∃ f tm assign body, (Instr.yield e.r args').run C.P w = .ok (.round e.r f tm assign body) w ∧ RoundIn (FW rn) 0 C.P e.r f tm assign body w fun e w' => ∃ v, e = .returned v ∧ R v w' := by
  unfold yieldK at hs
  split at hs
  · rename_i pend fr nt ps assign body hl
    obtain ⟨L, g1, g2, g3, g4, g5, g6, g7⟩ := h.block _ _ _ hl hb
    split at hs
    · rename_i hc
      simp only [Bool.and_eq_true, Nat.beq_eq, List.all_eq_true, Nat.blt_eq] at hc
      rw [zipFrameK_eq] at hs
      have hlen := ha.length
      simp only [Array.length_toList] at hlen
      refine ⟨_, _, _, _, run_yield g1 (by rw [← Array.length_toList, ← Array.length_toList, g5]; simp; omega), ?_⟩
      refine roundIn_of_wpIn trivial ?_
      have hfr : FR ρ nt (zipFrame ps args fr) ((L.params.zip args').foldl (fun tmps x => tmps.setIfInBounds x.1 x.2) L.tmps) := by
        have := zipFrame_FR (ps := ps) g4 (fun p hp => hc.2 p hp) ha
        rw [← Array.foldl_toList, Array.toList_zip, g5]
        exact this
      rw [g6]
      refine (hE assign).go (z := ⟨w.heap.size, []⟩) (ro := some b) (rn := some e.r) (a := ⟨_, []⟩) ⟨h, hfr, .nil (Nat.le_refl _), e, hb, rfl⟩ hs ?_
      intro x fr1 ov1 nx1 ρ1 a1 w1 hs1 ht1 hst1
      unfold roundBody at hs1
      split at hs1
      · rename_i pend1 fr2 nt2 ps2 assign2 body2 hl1
        have hb1 := ht1.ext.le _ _ hb
        obtain ⟨L1, q1, q2, q3, q4, q5, q6, q7⟩ := hst1.hr.block _ _ _ hl1 hb1
        simp only [setLoop, Tr.setK_eq] at hs1
        have hrun := run_beginRound (P := C.P) q1 q2
        refine ⟨_, hrun, ?_⟩
        have ht2 : Thru base ρ1 ov1 w1 ρ1 (ov1.set b (some (.loop .busy pend1 fr2 nt2 ps2 assign2 body2))) (w1.putObj e.r (.loop { L1 with state := .busy })) := .but hb1 (.put _)
        have hh2 : HR base ρ1 (ov1.set b (some (.loop .busy pend1 fr2 nt2 ps2 assign2 body2))) (w1.putObj e.r (.loop { L1 with state := .busy })) :=
          hst1.hr.set hl1 hb1 (.put _) ⟨{ L1 with state := .busy }, World.putObj_heap_same (hst1.hr.size _ _ hb1), rfl, q3, q4, q5, q6, q7⟩
        rw [g7]
        refine (hE body).go (z := ⟨w.heap.size, []⟩) (ro := some b) (rn := some e.r) ⟨hh2, hst1.fr, hst1.dm.ext ht2.ext, hst1.ro⟩ hs1 ?_
        intro x fr3 ov3 nx3 ρ3 a3 w3 hs3 ht3 hst3
        have hb3 := ht3.ext.le _ _ hb1
        unfold roundEnd at hs3
        split at hs3
        · rename_i pend3 fr4 nt4 ps4 assign4 body4 hl3
          obtain ⟨L3, r1, r2, r3, r4, r5, r6, r7⟩ := hst3.hr.block _ _ _ hl3 hb3
          have hrun3 := fun jump => run_endRound (P := C.P) jump r1
          have fin : ∀ (st : LS) (jump : Option Code) (v : Bool), st.to = (if jump.isNone then .ready else .done) → Sat (K (.bool jump.isNone) (ov3.set b (some (.loop st jump fr4 nt4 ps4 assign4 body4))) nx3) l →
              R (.bool jump.isNone) (w3.putObj e.r (.loop { L3 with state := if jump.isNone then .ready else .done, pending := jump })) := by
            intro st jump _ hst hsat
            refine hR _ _ _ ρ3 _ _ hsat (((ht1.trans ht2).trans ht3).trans (.but hb3 (.put _))) ?_ (.bool _)
            exact hst3.hr.set hl3 hb3 (.put _) ⟨{ L3 with state := if jump.isNone then .ready else .done, pending := jump }, World.putObj_heap_same (hst3.hr.size _ _ hb3), hst.symm, rfl, r4, r5, r6, r7⟩
          cases x with
          | normal => exact ⟨_, _, hrun3 none, _, rfl, fin .ready none true rfl (by simpa only [setLoop, Tr.setK_eq, Option.isNone_none] using hs3)⟩
          | ret => exact ⟨_, _, hrun3 (some .ret), _, rfl, fin .done (some .ret) true rfl (by simpa only [setLoop, Tr.setK_eq, Option.isNone_some] using hs3)⟩
          | exit i => exact ⟨_, _, hrun3 (some (.exit i)), _, rfl, fin .done (some (.exit i)) true rfl (by simpa only [setLoop, Tr.setK_eq, Option.isNone_some] using hs3)⟩
          | goto i => exact ⟨_, _, hrun3 (some (.goto i)), _, rfl, fin .done (some (.goto i)) true rfl (by simpa only [setLoop, Tr.setK_eq, Option.isNone_some] using hs3)⟩
        · exact (not_sat_bad hs3).elim
      · exact (not_sat_bad hs1).elim
    · exact (not_sat_bad hs).elim
  · exact (not_sat_bad hs).elim

/-! ### An operation -/
theorem callsIn_FW {P : Program} {f : Nat} {args : Array Value} {R : Ending → World → Prop} (h : CallsIn Fence.wide 0 P f args w R) : CallsIn (FW rn) 0 P f args w R := h
theorem op_ok (hC : CtxOK C) (hE : ∀ c, Sound C.P c (E c)) {o : Oper} {a : Act} (h : HR base ρ ov w) (hev : Opers ρ fr a.eval o) {K : KV} (hs : Sat (opR o.op o C E base fr ov nx K) l)
    {next : Act → World → Prop} {Q : Exit → Act → World → Prop} (hR : ContV base K l ρ ov w fun v w' => next (a.put o.dst v) w') : o.wpIn (FW rn) 0 C.P a w next Q := by
  refine ⟨fun _ _ => trivial, ?_⟩
  have hnd : ∀ c, o.op ≠ .defer c := by
    intro c hc
    rw [hc] at hs
    exact not_sat_bad hs
  rw [Oper.semAt_eq _ _ _ hnd]
  cases hk : kindOf C.P o.op with
  | Q =>
    obtain ⟨v, v', h1, h2, h3⟩ := opQ_ok h hk hev hs
    rw [h3]
    exact hR v ov nx ρ v' w h1 (.refl _ _ _ _) h h2
  | A =>
    obtain ⟨b, ob, v, ⟨hb, h1, _⟩, h2⟩ := opA_ok hk hs
    have hn := h.dom b hb
    obtain ⟨obj, d, s, v', g1, g2, g3⟩ := h2 ρ w a.eval hev hn
    rw [g1]
    refine hR v _ _ _ v' _ h1 (.alloc hb hn) ?_ g3
    exact (h.lay (some ob) hb).alloc hn (by rw [look_set, if_pos rfl]) g2
  | E =>
    cases hc : callsValue o.op with
    | false =>
      obtain ⟨v, ov', nx', ρ', v', w', h1, h2, h3, h4, h5⟩ := opE_ok h hk hc hev hs
      rcases h5 with h5 | ⟨h5, rfl⟩
      · rw [h5]; exact hR v ov' nx' ρ' v' w' h1 h2 h3 h4
      · rw [h5]; exact hR v ov' nx' ρ' undef w' h1 h2 h3 h4
    | true =>
      obtain ⟨dst, op, type, pos, after, guard⟩ := o
      cases op <;> try (simp [callsValue] at hc; done)
      rename_i c
      obtain ⟨callee, args, argTypes⟩ := c
      cases callee with
      | builtin b => simp [callsValue] at hc
      | invoke r m => simp [callsValue] at hc
      | value f =>
        replace hs : Sat (evK fr f fun f => evL fr args.toList fun args => valueK C E base f args ov nx K) l := hs
        rw [evK_eq, evL_eq] at hs
        have hfv := hev f (by simp [Op.operands, Call.operands])
        have hargs : VRL ρ (args.toList.map (evS fr)) (args.map a.eval).toList := VRL.ofArr fun x hx => hev x (by simp [Op.operands, Call.operands, hx])
        generalize evS fr f = fv at hs hfv
        generalize args.toList.map (evS fr) = as at hs hargs
        generalize hA : args.map a.eval = A at hargs
        cases fv with
        | func g first caps =>
          cases hv : a.eval f with
          | func fn first' caps' =>
            rw [hv] at hfv
            cases hfv with
            | func h1 h2 =>
              have hs1 := valueK_func hs
              have hall : VRL ρ (first ++ (as ++ caps)) (first' ++ A ++ caps').toList := by
                simp only [Array.toList_append, List.append_assoc]
                exact h1.append (hargs.append h2)
              obtain ⟨fn, p1, p2, p3, p4⟩ := callK_ok hC hE h hall hs1 hR
              have hrun : (execOp a.eval ⟨dst, .call ⟨.value f, args, argTypes⟩, type, pos, after, guard⟩).run C.P w = .ok (.enter g (first' ++ A ++ caps')) w := by
                simp only [execOp, resolve, hA, hv, Deferred.ofValue, pure_bind, invoke]
                exact callFunc_run p1 p2 p3 _ w
              rw [hrun]
              refine ⟨fun hd => (by cases hd), (callsIn_FW p4).mono ?_⟩
              rintro e w' ⟨v, rfl, r⟩
              exact r
          | _ => rw [hv] at hfv; cases hfv
        | yield b =>
          cases hv : a.eval f with
          | func fn first' caps' =>
            rw [hv] at hfv
            cases hfv with
            | @yield _ e hb =>
              obtain ⟨f0, tm, assign, body, p1, p2⟩ := yield_ok (rn := rn) hE h hb hargs hs hR
              have hrun : (execOp a.eval ⟨dst, .call ⟨.value f, args, argTypes⟩, type, pos, after, guard⟩).run C.P w = .ok (.round e.r f0 tm assign body) w := by
                simp only [execOp, resolve, hA, hv, Deferred.ofValue, pure_bind, invoke]
                simpa using p1
              rw [hrun]
              refine ⟨fun hd => (by cases hd), p2.mono ?_⟩
              rintro e w' ⟨v, rfl, r⟩
              exact r
          | _ => rw [hv] at hfv; cases hfv
        | _ => exact (not_sat_bad hs).elim

/-! ### A range over a function -/
theorem enter_ok {b : Id} {a : Act} {ps : Array Tmp} {assign body : Code} (h : St z base ro rn nt ρ fr ov a w) (hab : absent base ov b = true) (hin : inLoop base ov ro = true) (fid : FuncId) :
    ∃ lr mark w1, (Instr.enterLoop fid a.tmps ps assign body rn).run C.P w = .ok (lr, mark) w1 ∧
      HR base (upd ρ b ⟨lr, 0, 0⟩) (ov.set b (some (.loop .ready none fr nt ps.toList assign body))) w1 ∧
      Thru base ρ ov w (upd ρ b ⟨lr, 0, 0⟩) (ov.set b (some (.loop .ready none fr nt ps.toList assign body))) w1 ∧ Marks z (upd ρ b ⟨lr, 0, 0⟩) w1 (mark ++ a.defers) := by
  have hn := h.hr.dom b hab
  have hlay := h.hr.lay (some (.loop .ready none fr nt ps.toList assign body)) hab
  have hlook : look base (ov.set b (some (.loop .ready none fr nt ps.toList assign body))) b = some (.loop .ready none fr nt ps.toList assign body) := by rw [look_set, if_pos rfl]
  have mk : ∀ (w0 : World) (L : Loop), HR base ρ (ov.set b (some (.loop .ready none fr nt ps.toList assign body))) w0 → Thru base ρ (ov.set b (some (.loop .ready none fr nt ps.toList assign body))) w ρ (ov.set b (some (.loop .ready none fr nt ps.toList assign body))) w0 →
      L.state = .ready → L.pending = none → L.tmps = a.tmps → L.params = ps → L.assign = assign → L.body = body →
      HR base (upd ρ b ⟨w0.heap.size, 0, 0⟩) (ov.set b (some (.loop .ready none fr nt ps.toList assign body))) (w0.alloc (.loop L)) ∧
      Thru base ρ ov w (upd ρ b ⟨w0.heap.size, 0, 0⟩) (ov.set b (some (.loop .ready none fr nt ps.toList assign body))) (w0.alloc (.loop L)) := by
    intro w0 L hh0 ht0 e1 e2 e3 e4 e5 e6
    refine ⟨hh0.alloc hn hlook ⟨L, heap_alloc_new _ _, e1, e2, by rw [e3]; exact h.fr.mono (upd_le _ hn), by rw [e4], e5, e6⟩, ?_⟩
    have ht1 : Thru base ρ ov w ρ (ov.set b (some (.loop .ready none fr nt ps.toList assign body))) w0 := (Thru.lay hab).trans ht0
    refine ⟨ht1.ext.trans (.alloc _ hn), fun b1 p q => ?_, ht1.abs⟩
    have hne : b1 ≠ b := by intro k; subst k; rw [hab] at p; cases p
    simp [upd, hne, q]
  cases ro with
  | none =>
    have hrn : rn = none := h.ro
    subst hrn
    have hm := mk (w.alloc (.deferred (some []))) { state := .ready, pending := none, fn := fid, tmps := a.tmps, params := ps, assign, body, defers := w.heap.size } (hlay.grow _) (.grow _) rfl rfl rfl rfl rfl rfl
    rw [World.size_alloc] at hm
    refine ⟨_, _, _, run_enterLoop_outer fid a.tmps ps assign body, hm.1, hm.2, ?_⟩
    have hlow := h.dm.low
    obtain ⟨rs, rt, q1, q2, q0⟩ := h.dm.all
    have q3 := fun r hr => Marks.keep hm.2.ext (q0 r hr)
    refine ⟨Nat.le_trans hlow hm.2.ext.size, w.heap.size :: rs, rt, by rw [q1]; rfl, List.nodup_cons.2 ⟨fun hmem => ?_, q2⟩, fun r hr => ?_⟩
    · have := (q0 _ hmem).2.1
      omega
    · rcases List.mem_cons.1 hr with rfl | hr
      · refine ⟨hlow, by simp; omega, ?_, fun b1 e1 h1 hh => ?_⟩
        · rw [heap_alloc_old _ _ (by simp)]; exact heap_alloc_new _ _
        · unfold upd at h1
          split at h1
          · cases h1; simp at hh
          · have := h.hr.size _ _ h1; omega
      · exact q3 r hr
  | some l0 =>
    obtain ⟨e0, p1, p2⟩ := h.ro
    subst p2
    unfold inLoop at hin
    simp only at hin
    split at hin
    · rename_i hl0
      obtain ⟨L0, r1, _⟩ := h.hr.block _ _ _ hl0 p1
      have hm := mk w { state := .ready, pending := none, fn := fid, tmps := a.tmps, params := ps, assign, body, defers := L0.defers } hlay (.refl _ _ _ _) rfl rfl rfl rfl rfl rfl
      refine ⟨_, [], _, ?_, hm.1, hm.2, h.dm.ext hm.2.ext⟩
      unfold Instr.enterLoop
      simp only [Sem.run_bind, run_getLoop r1, run_newObj_alloc, Result.andThen, Sem.run_pure]
    · cases hin
theorem sound_range (hC : CtxOK C) (hE : ∀ c, Sound C.P c (E c)) (f : Operand) (ps : Array Tmp) (assign body : Code) : Sound C.P (.rangeFunc f ps assign body) (cRange C E f ps assign body) := by
  refine ⟨?_⟩
  intro z base ro rn nt fr ov nx K l ρ a w Q h hs hK
  unfold cRange at hs
  split at hs
  · rename_i hab hin
    simp only [forceId_eq, setLoop, Tr.setK_eq, forceN_eq, evK_eq] at hs
    have hfv := evS_VR h.fr f
    generalize evS fr f = fv at hs hfv
    cases fv with
    | func g first caps =>
      simp only at hs
      cases hv : a.eval f with
      | func fn first' caps' =>
        rw [hv] at hfv
        cases hfv with
        | func h1 h2 =>
          generalize hid : Id.of nx = b at hs hab
          refine wpIn_rangeFunc fun fid _ => ?_
          obtain ⟨lr, mark, w1, k1, k2, k3, k4⟩ := enter_ok (C := C) (ps := ps) (assign := assign) (body := body) h hab hin fid
          have hs1 := valueK_func hs
          clear hs
          generalize ov.set b (some (.loop .ready none fr nt ps.toList assign body)) = ov1 at hs1 k2 k3
          have hrb : upd ρ b ⟨lr, 0, 0⟩ b = some ⟨lr, 0, 0⟩ := upd_same _ _ _
          have hargs : VRL (upd ρ b ⟨lr, 0, 0⟩) (first ++ ([.yield b] ++ caps)) ((first' ++ #[Value.func (.yield lr) #[] #[]]) ++ caps').toList := by
            simp only [Array.toList_append, List.append_assoc]
            exact (h1.mono k3.ext.le).append (.cons (.yield hrb) (h2.mono k3.ext.le))
          have hg := callK_ok (R := fun _ w3 => ∃ jump w4, (Instr.endLoop lr).run C.P w3 = .ok jump w4 ∧
              (match jump with
               | none => Q .normal { a with defers := mark ++ a.defers } w4
               | some c => c.wpIn (FW rn) 0 C.P Q { a with defers := mark ++ a.defers } w4)) hC hE k2 hargs hs1 ?_
          · obtain ⟨fn2, p1, p2, p3, p4⟩ := hg
            have p5 : CallsIn (FW rn) 0 C.P g (first' ++ #[Value.func (.yield lr) #[] #[]] ++ caps') w1 (rangePost (FW rn) 0 C.P lr Q { a with defers := mark ++ a.defers }) := by
              refine CallsIn.mono (callsIn_FW (rn := rn) p4) ?_
              rintro e w' ⟨v, rfl, r⟩
              exact r
            have p6 : (resolve a.eval (rangeCall f lr) 0).run C.P w1 = .ok { target := .fn (.func g) caps', args := first' ++ #[Value.func (.yield lr) #[] #[]] } w1 := by
              have hm : (rangeCall f lr).args.map a.eval = #[Value.func (.yield lr) #[] #[]] := by simp [Act.eval]
              show (Deferred.ofValue (a.eval f) ((rangeCall f lr).args.map a.eval)).run C.P w1 = _
              rw [hv, hm]
              rfl
            have p7 : (invoke (.fn (.func g) caps') (first' ++ #[Value.func (.yield lr) #[] #[]])).run C.P w1 = .ok (.enter g (first' ++ #[Value.func (.yield lr) #[] #[]] ++ caps')) w1 := callFunc_run p1 p2 p3 _ w1
            exact ⟨lr, mark, w1, _, w1, g, _, w1, k1, p6, fun _ _ => trivial, p7, fun hd => (by cases hd), p5⟩
          · intro v ov2 nx2 ρ2 v' w2 hs2 ht2 hh2 hv2
            have hb2 := ht2.ext.le _ _ hrb
            unfold endLoopK at hs2
            split at hs2
            · rename_i fr3 nt3 ps3 as3 bo3 hl
              obtain ⟨L, q1, q2, q3, _⟩ := hh2.block _ _ _ hl hb2
              rw [Tr.setK_eq] at hs2
              refine ⟨_, _, run_endLoop q1 (by rw [q2]; simp [LS.to]), ?_⟩
              have ht3 := (k3.trans ht2).trans (Thru.but (o := none) hb2 (.put (.loop { L with state := .exhausted })))
              split
              · exact hK .normal fr _ nx2 ρ2 _ _ hs2 ht3 ⟨hh2.killBut hl hb2 (.put _), h.fr.mono ht3.ext.le, (k4.ext ht2.ext).ext (Ext.but hb2 (.put _)), h.ro.mono ht3.ext.le⟩
              · rename_i hc; rw [q3] at hc; cases hc
            · rename_i c fr3 nt3 ps3 as3 bo3 hl
              obtain ⟨L, q1, q2, q3, _⟩ := hh2.block _ _ _ hl hb2
              rw [Tr.setK_eq] at hs2
              refine ⟨_, _, run_endLoop q1 (by rw [q2]; simp [LS.to]), ?_⟩
              have ht3 := (k3.trans ht2).trans (Thru.but (o := none) hb2 (.put (.loop { L with state := .exhausted })))
              split
              · rename_i hc; rw [q3] at hc; cases hc
              · rename_i c2 hc
                rw [q3] at hc
                cases hc
                exact (hE c).go ⟨hh2.killBut hl hb2 (.put _), h.fr.mono ht3.ext.le, (k4.ext ht2.ext).ext (Ext.but hb2 (.put _)), h.ro.mono ht3.ext.le⟩ hs2 (hK.thru ht3)
            · exact (not_sat_bad hs2).elim
      | _ => rw [hv] at hfv; cases hfv
    | _ => exact (not_sat_bad hs).elim
  · exact (not_sat_bad hs).elim
end
end Go.Ab
/- The abstract machine of these proofs, part 27: regions that are run in text order. -/
namespace Go.Ab
open Go.RowKit
section
variable {C : Ctx} {E : Code → R} {base ov : Hp} {ρ : Rho} {w : World} {l : List Out} {z : Mk} {nt nx : Nat} {fr : Fr} {ro : Option Id} {rn : Option Nat}
/-- Is an operation's guard met? none: that cannot be told. -/
noncomputable def wantA (ops : Array Oper) (fr : Fr) (o : Oper) : Option Bool :=
  match o.guard with
  | none => some true
  | some (j, want) => match (ops[j]?).bind (·.dst) with
    | some d => match (fr.get (Id.of d)).getD .junk with
      | .bool b => some (b == want)
      | .tup [] => some false
      | _ => none
    | none => none
theorem wantK_ok {ops : Array Oper} {o : Oper} {yes no : Ans} (hs : Sat (wantK ops fr o yes no) l) : (wantA ops fr o = some true ∧ Sat yes l) ∨ (wantA ops fr o = some false ∧ Sat no l) := by
  unfold wantK at hs
  unfold wantA
  cases hg : o.guard with
  | none => rw [hg] at hs; exact .inl ⟨rfl, hs⟩
  | some g =>
    obtain ⟨j, want⟩ := g
    rw [hg] at hs
    simp only at hs ⊢
    cases hd : (ops[j]?).bind (·.dst) with
    | none => rw [hd] at hs; exact (not_sat_bad hs).elim
    | some d =>
      rw [hd] at hs
      simp only [Tr.getK_eq] at hs ⊢
      generalize (fr.get (Id.of d)).getD .junk = v at hs ⊢
      split at hs
      · rename_i b
        cases hb : (b == want) with
        | true => rw [hb] at hs; exact .inl ⟨by simp only [hb], hs⟩
        | false => rw [hb] at hs; exact .inr ⟨by simp only [hb], hs⟩
      · exact .inr ⟨rfl, hs⟩
      · exact (not_sat_bad hs).elim
/-- The guard's slot is related: then it is met there as it is here. -/
theorem wanted_of {ops : Array Oper} {o : Oper} {tm : Array Value} {b : Bool} (hw : wantA ops fr o = some b)
    (hg : ∀ j want d, o.guard = some (j, want) → (ops[j]?).bind (·.dst) = some d → ∀ v, fr.get (Id.of d) = some v → ∃ v', tm[d]? = some v' ∧ VR ρ v v') : Region.wanted o (yielded ops tm) = b := by
  unfold wantA at hw
  unfold Region.wanted
  cases e : o.guard with
  | none => rw [e] at hw; cases hw; rfl
  | some g =>
    obtain ⟨j, want⟩ := g
    rw [e] at hw
    simp only at hw ⊢
    cases hd : (ops[j]?).bind (·.dst) with
    | none => rw [hd] at hw; cases hw
    | some d =>
      rw [hd] at hw
      simp only at hw
      unfold yielded
      rw [hd]
      cases hf : fr.get (Id.of d) with
      | none => rw [hf] at hw; cases hw
      | some v =>
        obtain ⟨v', h1, h2⟩ := hg j want d e hd v hf
        rw [hf] at hw
        simp only [Option.getD_some] at hw
        simp only [Option.bind_some, h1]
        split at hw
        · rename_i b0
          cases h2
          cases hw
          simp
        · cases h2 with
          | @tup _ a h => cases hw; rfl
        · cases hw
theorem putK_ok {dst : Option Tmp} {v : AV} {K : Fr → Ans} (hs : Sat (putK fr nt dst v K) l) : (dst = none ∧ Sat (K fr) l) ∨ ∃ d, dst = some d ∧ d < nt ∧ Sat (K (fr.set (Id.of d) v)) l := by
  unfold putK at hs
  cases dst with
  | none => exact .inl ⟨rfl, hs⟩
  | some d =>
    simp only at hs
    split at hs
    · rename_i h
      rw [Tr.setK_eq] at hs
      exact .inr ⟨d, rfl, by simpa using h, hs⟩
    · exact (not_sat_bad hs).elim
theorem ops_ok (hC : CtxOK C) (hE : ∀ c, Sound C.P c (E c)) {ops : Array Oper} {Q : Exit → Act → World → Prop} {K : KF} : ∀ (L : List Nat) (os : List Oper), os = L.map (opAt ops) → (∀ i ∈ L, i < ops.size) →
    ∀ {fr ov nx ρ a w}, St z base ro rn nt ρ fr ov a w → Sat (opsK C E base nt ops os fr ov nx K) l →
      (∀ fr' ov' nx' ρ' a' w', Sat (K fr' ov' nx') l → Thru base ρ ov w ρ' ov' w' → St z base ro rn nt ρ' fr' ov' a' w' → Q .normal a' w') → wpOpsIn (FW rn) 0 C.P ops Q L a w := by
  intro L
  induction L with
  | nil =>
    intro os hos _ fr ov nx ρ a w h hs hK
    subst hos
    exact hK fr ov nx ρ a w hs (.refl _ _ _ _) h
  | cons i L ih =>
    intro os hos hlt fr ov nx ρ a w h hs hK
    subst hos
    have hi := hlt i (List.mem_cons_self ..)
    have ho : ops[i]? = some (opAt ops i) := by simp [opAt, hi]
    rw [wpOpsIn_cons]
    unfold wpOpIn
    rw [ho]
    simp only
    generalize hoo : opAt ops i = o at ho hs
    replace hs : Sat (stepK C E base nt ops o (opsK C E base nt ops (L.map (opAt ops))) fr ov nx K) l := by
      rw [List.map_cons, hoo] at hs
      exact hs
    have hwd : ∀ b, wantA ops fr o = some b → Region.wanted o (yielded ops a.tmps) = b := fun b hb => wanted_of hb fun j want d _ _ v hv => h.fr.slot d v hv
    -- what comes behind
    have hnext : ∀ {v : AV} {ov' : Hp} {nx' : Nat} {ρ' : Rho} {v' : Value} {w' : World}, Thru base ρ ov w ρ' ov' w' → HR base ρ' ov' w' → VR ρ' v v' →
        Sat (putK fr nt o.dst v fun fr => opsK C E base nt ops (L.map (opAt ops)) fr ov' nx' K) l → wpOpsIn (FW rn) 0 C.P ops Q L (a.put o.dst v') w' := by
      intro v ov' nx' ρ' v' w' ht hh hv hs2
      have hst := h.thru ht hh
      rcases putK_ok hs2 with ⟨hd, hs3⟩ | ⟨d, hd, hlt2, hs3⟩
      · rw [hd]
        exact ih _ rfl (fun j hj => hlt j (List.mem_cons_of_mem _ hj)) hst hs3 fun fr2 ov2 nx2 ρ2 a2 w2 g1 g2 g3 => hK fr2 ov2 nx2 ρ2 a2 w2 g1 (ht.trans g2) g3
      · rw [hd]
        exact ih _ rfl (fun j hj => hlt j (List.mem_cons_of_mem _ hj)) (hst.put hlt2 hv) hs3 fun fr2 ov2 nx2 ρ2 a2 w2 g1 g2 g3 => hK fr2 ov2 nx2 ρ2 a2 w2 g1 (ht.trans g2) g3
    rcases wantK_ok hs with ⟨hw, hs1⟩ | ⟨hw, hs1⟩
    · rw [if_pos (hwd _ hw)]
      exact op_ok hC hE h.hr (fun x _ => evS_VR h.fr x) hs1 fun v ov' nx' ρ' v' w' hs2 ht hh hv => hnext ht hh hv hs2
    · rw [if_neg (by rw [hwd _ hw]; simp)]
      exact ⟨fun _ _ => trivial, hnext (.refl _ _ _ _) h.hr (.tup .nil) hs1⟩
theorem sound_plain (hC : CtxOK C) (hE : ∀ c, Sound C.P c (E c)) (id : Nat) (ops : Array Oper) : Sound C.P (.region id ops false) (cRegion C E ops false) := by
  refine ⟨?_⟩
  intro z base ro rn nt fr ov nx K l ρ a w Q h hs hK
  refine wpIn_region (ops_ok hC hE (List.range ops.size) ops.toList ?_ (fun i hi => List.mem_range.1 hi) h hs fun fr' ov' nx' ρ' a' w' g1 g2 g3 => hK .normal fr' ov' nx' ρ' a' w' g1 g2 g3)
  apply List.ext_getElem?
  intro i
  by_cases hi : i < ops.size
  · simp [opAt, hi]
  · simp [hi]
end
end Go.Ab
/- The abstract machine of these proofs, part 28: regions that draw their order. -/
namespace Go.Ab
open Go.RowKit

/-! ### What the checks of a plan say -/
theorem has_iff {l : List Nat} {i : Nat} : has l i = true ↔ i ∈ l := by
  simp [has, List.any_eq_true]
theorem dep_iff {o : Oper} {i : Nat} : dep o i = true ↔ ∃ e ∈ o.after, Region.binds .any e = true ∧ e.on = i := by
  unfold dep
  rw [List.any_eq_true]
  simp only [Array.mem_toList_iff, Bool.and_eq_true, Nat.beq_eq]
theorem depsIn_spec {D : List Nat} {o : Oper} (h : depsIn D o = true) {i : Nat} (hi : dep o i = true) : i ∈ D := by
  obtain ⟨e, he, hb, rfl⟩ := dep_iff.1 hi
  unfold depsIn at h
  have := List.all_eq_true.1 h e (by simpa using he)
  simpa [hb, has_iff] using this
structure Stat (ops : Array Oper) : Prop where
  guard : ∀ j, j < ops.size → ∀ g want, (opAt ops j).guard = some (g, want) → dep (opAt ops j) g = true
  reads : ∀ j i, j < ops.size → i < ops.size → ∀ t, .tmp t ∈ (opAt ops j).op.operands → (opAt ops i).dst = some t → dep (opAt ops j) i = true
  dist : ∀ j i, j < ops.size → i < ops.size → i ≠ j → ∀ t, (opAt ops j).dst = some t → (opAt ops i).dst ≠ some t
theorem dstIs_iff {o : Oper} {t : Nat} : dstIs o t = true ↔ o.dst = some t := by
  unfold dstIs
  cases o.dst <;> simp
theorem statOK_spec {ops : Array Oper} (h : statOK ops = true) : Stat ops := by
  have h1 : ∀ j, j < ops.size → _ := fun j hj => List.all_eq_true.1 h j (List.mem_range.2 hj)
  refine ⟨fun j hj g want hg => ?_, fun j i hj hi t ht hd => ?_, fun j i hj hi hne t ht hd => ?_⟩
  · have := (Bool.and_eq_true_iff.1 (h1 j hj)).1
    rw [hg] at this
    exact this
  · have := List.all_eq_true.1 (Bool.and_eq_true_iff.1 (h1 j hj)).2 i (List.mem_range.2 hi)
    have := List.all_eq_true.1 (Bool.and_eq_true_iff.1 this).1 t (by unfold readsOf; exact List.mem_filterMap.2 ⟨.tmp t, by simpa using ht, rfl⟩)
    rw [dstIs_iff.2 hd] at this
    simpa using this
  · have := List.all_eq_true.1 (Bool.and_eq_true_iff.1 (h1 j hj)).2 i (List.mem_range.2 hi)
    have := (Bool.and_eq_true_iff.1 this).2
    rw [ht] at this
    simp only [dstIs_iff.2 hd] at this
    simp at this
    exact hne this
def DepOrd (ops : Array Oper) : List Nat → Prop
  | [] => True
  | d :: D => (∀ i, dep (opAt ops d) i = true → i ∈ D) ∧ DepOrd ops D
theorem DepOrd.clo {ops : Array Oper} : ∀ {D : List Nat}, DepOrd ops D → ∀ j ∈ D, ∀ i, dep (opAt ops j) i = true → i ∈ D
  | d :: D, h, j, hj, i, hi => by
    rcases List.mem_cons.1 hj with rfl | hj
    · exact List.mem_cons_of_mem _ (h.1 i hi)
    · exact List.mem_cons_of_mem _ (h.2.clo j hj i hi)

/-! ### What is listed -/
def Ls (listed : Array Bool) (j : Nat) : Prop := listed[j]? = some true
theorem Ls.set_iff {listed : Array Bool} {i j : Nat} (hi : i < listed.size) : Ls (listed.setIfInBounds i true) j ↔ Ls listed j ∨ j = i := by
  unfold Ls
  by_cases e : i = j
  · subst e
    simp [hi]
  · rw [Array.getElem?_setIfInBounds_ne e]
    constructor
    · exact .inl
    · rintro (h | h)
      · exact h
      · exact absurd h.symm e
def unl : List Bool → Nat
  | [] => 0
  | b :: l => (if b then 0 else 1) + unl l
theorem unl_set : ∀ {l : List Bool} {j : Nat}, l[j]? = some false → unl (l.set j true) + 1 = unl l
  | b :: l, 0, h => by simp at h; subst h; simp [unl]; omega
  | b :: l, j + 1, h => by
    have := unl_set (l := l) (j := j) (by simpa using h)
    simp only [List.set_cons_succ, unl]
    omega
theorem unl_zero : ∀ {l : List Bool}, unl l = 0 → ∀ j : Nat, l[j]? ≠ some false
  | [], _, j => by simp
  | b :: l, h, j => by
    simp only [unl] at h
    cases j with
    | zero => cases b <;> simp at h ⊢
    | succ j => simpa using unl_zero (l := l) (by omega) j
theorem ready_iff {ops : Array Oper} {listed : Array Bool} (hs : listed.size = ops.size) {j : Nat} : j ∈ Region.ready .any ops listed ↔ j < ops.size ∧ ¬ Ls listed j ∧ ∀ i, dep (opAt ops j) i = true → Ls listed i := by
  rw [mem_ready]
  unfold Ls
  constructor
  · rintro ⟨h1, o, h2, h3⟩
    have hlt : j < ops.size := (Array.getElem?_eq_some_iff.1 h2).1
    have ho : opAt ops j = o := by simp [opAt, h2]
    refine ⟨hlt, fun hl => ?_, fun i hi => ?_⟩
    · rw [Array.getD_eq_getD_getElem?, hl] at h1; cases h1
    · rw [ho] at hi
      obtain ⟨e, he, hb, rfl⟩ := dep_iff.1 hi
      have := h3 e he hb
      rw [Array.getD_eq_getD_getElem?] at this
      cases hh : listed[e.on]? with
      | none => rw [hh] at this; cases this
      | some b => rw [hh] at this; simp at this; rw [this]
  · rintro ⟨hlt, h1, h2⟩
    have ho : ops[j]? = some (opAt ops j) := by simp [opAt, hlt]
    refine ⟨?_, _, ho, fun e he hb => ?_⟩
    · have : listed[j]? = some (listed[j]'(by omega)) := by simp [hs, hlt]
      rw [this] at h1
      rw [Array.getD_eq_getD_getElem?, this]
      simpa using h1
    · have := h2 e.on (dep_iff.2 ⟨e, he, hb, rfl⟩)
      rw [Array.getD_eq_getD_getElem?, this]
      rfl
theorem not_Ls {listed : Array Bool} {j : Nat} (hj : j < listed.size) (h : ¬ Ls listed j) : listed[j]? = some false := by
  unfold Ls at h
  have : listed[j]? = some listed[j] := by simp [hj]
  rw [this] at h ⊢
  cases e : listed[j] <;> simp [e] at h ⊢

section
variable {C : Ctx} {E : Code → R} {base ov ov0 : Hp} {ρ ρ0 : Rho} {w w0 : World} {l : List Out} {z : Mk} {nt nx : Nat} {fr : Fr} {ro : Option Id} {rn : Option Nat} {ops : Array Oper} {a : Act} {listed : Array Bool} {D pd : List Nat}

/-! ### Operations that were run here and not yet there -/
def Slot (fr : Fr) (dst : Option Tmp) (v : AV) : Prop := ∀ d, dst = some d → fr.get (Id.of d) = some v
def PendQ (P : Program) (base : Hp) (fr : Fr) (ov : Hp) (o : Oper) (v : AV) : Prop :=
  ∀ (ρ : Rho) (w : World) (ev : Operand → Value), HR base ρ ov w → Opers ρ fr ev o → ∃ v', VR ρ v v' ∧ (execOp ev o).run P w = .ok (.value v') w
structure PendA (P : Program) (base ov0 : Hp) (ρ : Rho) (fr : Fr) (ov : Hp) (o : Oper) (b : Id) : Prop where
  at_ : ∃ d v ob, o.dst = some d ∧ fr.get (Id.of d) = some v ∧ blockOf v = some b ∧ MakesOp P fr o b ob v ∧ look base ov b = some ob
  no : ρ b = none
  new : absent base ov0 b = true
def Pend (P : Program) (ops : Array Oper) (base ov0 : Hp) (ρ : Rho) (fr : Fr) (ov : Hp) (nt q : Nat) : Prop :=
  (∀ d, (opAt ops q).dst = some d → d < nt) ∧
  ((isE (kindAt P ops q) = false ∧ wantA ops fr (opAt ops q) = some false ∧ Slot fr (opAt ops q).dst (.tup [])) ∨
   (wantA ops fr (opAt ops q) = some true ∧ kindAt P ops q = .Q ∧ ∃ v, Slot fr (opAt ops q).dst v ∧ PendQ P base fr ov (opAt ops q) v) ∨
   (wantA ops fr (opAt ops q) = some true ∧ kindAt P ops q = .A ∧ ∃ b, PendA P base ov0 ρ fr ov (opAt ops q) b))
/-- The block that an operation has made. -/
def BlockAt (ops : Array Oper) (fr : Fr) (q : Nat) (b : Id) : Prop := ∃ d v, (opAt ops q).dst = some d ∧ fr.get (Id.of d) = some v ∧ blockOf v = some b
def IsMaker (P : Program) (ops : Array Oper) (fr : Fr) (q : Nat) : Prop := kindAt P ops q = .A ∧ wantA ops fr (opAt ops q) = some true

structure Inv (P : Program) (z : Mk) (base : Hp) (ro : Option Id) (rn : Option Nat) (nt : Nat) (ops : Array Oper) (ρ0 : Rho) (ov0 : Hp) (w0 : World) (D pd : List Nat) (listed : Array Bool) (ρ : Rho) (fr : Fr) (ov : Hp) (a : Act) (w : World) : Prop where
  hr : HR base ρ ov w
  dm : Marks z ρ w a.defers
  ro : RO ρ ro rn
  thru : Thru base ρ0 ov0 w0 ρ ov w
  size : nt ≤ a.tmps.size
  lsz : listed.size = ops.size
  out : ∀ t v, (∀ j, j < ops.size → (opAt ops j).dst ≠ some t) → fr.get (Id.of t) = some v → ∃ v', a.tmps[t]? = some v' ∧ VR ρ v v'
  sub : ∀ j, Ls listed j → j ∈ D
  inD : ∀ j ∈ D, j < ops.size
  ord : DepOrd ops D
  down : ∀ j, Ls listed j → ∀ i, dep (opAt ops j) i = true → Ls listed i
  res : ∀ j, Ls listed j → ∀ d, (opAt ops j).dst = some d → ∃ v v', fr.get (Id.of d) = some v ∧ a.tmps[d]? = some v' ∧ VR ρ v v'
  pend : ∀ q ∈ D, ¬ Ls listed q → q ∈ pd ∧ Pend P ops base ov0 ρ fr ov nt q
  distA : ∀ q1 ∈ D, ∀ q2 ∈ D, q1 ≠ q2 → ¬ Ls listed q1 → ¬ Ls listed q2 → IsMaker P ops fr q1 → IsMaker P ops fr q2 → ∀ b, BlockAt ops fr q1 b → BlockAt ops fr q2 b → False

theorem Opers.of_deps (h : Inv C.P z base ro rn nt ops ρ0 ov0 w0 D pd listed ρ fr ov a w) (hs : Stat ops) {j : Nat} (hj : j < ops.size) (hd : ∀ i, dep (opAt ops j) i = true → Ls listed i) : Opers ρ fr a.eval (opAt ops j) := by
  intro x hx
  cases x with
  | tmp t =>
    show VR ρ ((fr.get (Id.of t)).getD .junk) (a.tmps.getD t undef)
    by_cases e : ∃ i, i < ops.size ∧ (opAt ops i).dst = some t
    · obtain ⟨i, hi, ht⟩ := e
      obtain ⟨v, v', h1, h2, h3⟩ := h.res i (hd i (hs.reads j i hj hi t hx ht)) t ht
      rw [h1, Array.getD_eq_getD_getElem?, h2]
      exact h3
    · cases hf : fr.get (Id.of t) with
      | none => exact .junk _
      | some v =>
        obtain ⟨v', h1, h2⟩ := h.out t v (fun i hi ht => e ⟨i, hi, ht⟩) hf
        rw [Array.getD_eq_getD_getElem?, h1]
        exact h2
  | const v => exact ofValue_VR v
  | global g => exact .gptr g 0
  | func f => exact .func .nil .nil
theorem wanted_deps (h : Inv C.P z base ro rn nt ops ρ0 ov0 w0 D pd listed ρ fr ov a w) (hs : Stat ops) {j : Nat} (hj : j < ops.size) (hd : ∀ i, dep (opAt ops j) i = true → Ls listed i) {b : Bool} (hw : wantA ops fr (opAt ops j) = some b) :
    Region.wanted (opAt ops j) (yielded ops a.tmps) = b := by
  refine wanted_of (ρ := ρ) hw fun g want d hg hdd v hv => ?_
  have hl := hd g (hs.guard j hj g want hg)
  have hlt := h.inD g (h.sub g hl)
  have ho : ops[g]? = some (opAt ops g) := by simp [opAt, hlt]
  rw [ho] at hdd
  obtain ⟨v1, v', h1, h2, h3⟩ := h.res g hl d hdd
  rw [hv] at h1
  cases h1
  exact ⟨v', h2, h3⟩

/-! ### Frames that turn elsewhere -/
theorem evS_set {t : Nat} {v : AV} {x : Operand} (h : x ≠ .tmp t) : evS (fr.set (Id.of t) v) x = evS fr x := by
  cases x with
  | tmp u =>
    simp only [evS, Tr.get_set]
    rw [if_neg (fun e => h (by rw [Id.of_inj e]))]
  | _ => rfl
theorem Opers.set {t : Nat} {v : AV} {o : Oper} {ev : Operand → Value} (h : .tmp t ∉ o.op.operands) : Opers ρ (fr.set (Id.of t) v) ev o ↔ Opers ρ fr ev o := by
  unfold Opers
  constructor <;> intro hh x hx
  · rw [← evS_set (fr := fr) (t := t) (v := v) (fun e => h (e ▸ hx))]; exact hh x hx
  · rw [evS_set (fun e => h (e ▸ hx))]; exact hh x hx
theorem wantA_set {t : Nat} {v : AV} {o : Oper} (h : ∀ g want, o.guard = some (g, want) → (ops[g]?).bind (·.dst) ≠ some t) : wantA ops (fr.set (Id.of t) v) o = wantA ops fr o := by
  unfold wantA
  cases hg : o.guard with
  | none => rfl
  | some g =>
    obtain ⟨j, want⟩ := g
    simp only
    cases hd : (ops[j]?).bind (·.dst) with
    | none => rfl
    | some d =>
      have := h j want hg
      rw [hd] at this
      simp only [Tr.get_set]
      rw [if_neg (fun e => this (by rw [Id.of_inj e]))]
/-- A slot of an operation that nothing of those run hangs on. -/
structure Away (ops : Array Oper) (D : List Nat) (i t : Nat) : Prop where
  dst : (opAt ops i).dst = some t
  lt : i < ops.size
  notIn : i ∉ D
theorem Away.notReads {i t : Nat} (h : Away ops D i t) (hs : Stat ops) {q : Nat} (hq : q < ops.size) (hc : ∀ i, dep (opAt ops q) i = true → i ∈ D) : .tmp t ∉ (opAt ops q).op.operands :=
  fun hm => h.notIn (hc i (hs.reads q i hq h.lt t hm h.dst))
theorem Away.notGuard {i t : Nat} (h : Away ops D i t) (hs : Stat ops) {q : Nat} (hq : q < ops.size) (hc : ∀ i, dep (opAt ops q) i = true → i ∈ D) : ∀ g want, (opAt ops q).guard = some (g, want) → (ops[g]?).bind (·.dst) ≠ some t := by
  intro g want hg hd
  have hg1 := hc g (hs.guard q hq g want hg)
  have hne : g ≠ i := fun e => h.notIn (e ▸ hg1)
  by_cases hlt : g < ops.size
  · have ho : ops[g]? = some (opAt ops g) := by simp [opAt, hlt]
    rw [ho] at hd
    exact hs.dist i g h.lt hlt hne t h.dst hd
  · simp [hlt] at hd
theorem Away.slot {i t : Nat} (h : Away ops D i t) (hs : Stat ops) {q : Nat} (hq : q < ops.size) (hne : q ≠ i) {d : Nat} {v : AV} (hd : (opAt ops q).dst = some d) : (fr.set (Id.of t) v).get (Id.of d) = fr.get (Id.of d) := by
  rw [Tr.get_set, if_neg]
  intro e
  have := Id.of_inj e
  subst this
  exact hs.dist i q h.lt hq hne _ h.dst hd
theorem Pend.set {i t : Nat} {v : AV} (h : Away ops D i t) (hs : Stat ops) {q : Nat} (hq : q < ops.size) (hne : q ≠ i) (hc : ∀ i, dep (opAt ops q) i = true → i ∈ D) (hp : Pend C.P ops base ov0 ρ fr ov nt q) :
    Pend C.P ops base ov0 ρ (fr.set (Id.of t) v) ov nt q := by
  have hr := h.notReads hs hq hc
  have hw := wantA_set (fr := fr) (v := v) (h.notGuard hs hq hc)
  have hsl : ∀ {d : Nat}, (opAt ops q).dst = some d → (fr.set (Id.of t) v).get (Id.of d) = fr.get (Id.of d) := fun hd => h.slot hs hq hne hd
  refine ⟨hp.1, ?_⟩
  rcases hp.2 with ⟨h1, h2, h3⟩ | ⟨h1, h2, u, h3, h4⟩ | ⟨h1, h2, b, h3⟩
  · exact .inl ⟨h1, by rw [hw]; exact h2, fun d hd => by rw [hsl hd]; exact h3 d hd⟩
  · exact .inr (.inl ⟨by rw [hw]; exact h1, h2, u, fun d hd => by rw [hsl hd]; exact h3 d hd, fun ρ w ev hh ho => h4 ρ w ev hh ((Opers.set hr).1 ho)⟩)
  · refine .inr (.inr ⟨by rw [hw]; exact h1, h2, b, ?_, h3.no, h3.new⟩)
    obtain ⟨d, u, ob, p1, p2, p3, p4, p5⟩ := h3.at_
    exact ⟨d, u, ob, p1, by rw [hsl p1]; exact p2, p3, fun ρ w ev ho hn => p4 ρ w ev ((Opers.set hr).1 ho) hn, p5⟩
end
end Go.Ab
/- The abstract machine of these proofs, part 29: regions that draw their order: the steps. -/
namespace Go.Ab
open Go.RowKit
section
variable {C : Ctx} {E : Code → R} {base ov ov0 : Hp} {ρ ρ0 : Rho} {w w0 : World} {l : List Out} {z : Mk} {nt nx : Nat} {fr : Fr} {ro : Option Id} {rn : Option Nat} {ops : Array Oper} {a : Act} {listed : Array Bool} {D pd : List Nat}

/-- What an operation gives here. -/
def ValOf (C : Ctx) (E : Code → R) (base : Hp) (fr : Fr) (ov : Hp) (nx : Nat) (o : Oper) (v : AV) : Prop := ∃ x y, opR o.op o C E base fr ov nx (fun v _ _ => .ok [(v, .e, 0)]) = .ok [(v, x, y)]
theorem valK_ok {o : Oper} {K : AV → Ans} (hs : Sat (valK C E o base fr ov nx K) l) : ∃ v, ValOf C E base fr ov nx o v ∧ Sat (K v) l := by
  unfold valK at hs
  split at hs
  · rename_i v x y he
    exact ⟨v, ⟨x, y, he⟩, hs⟩
  · exact (not_sat_bad hs).elim
theorem ValOf.pend {o : Oper} {v : AV} (hk : kindOf C.P o.op = .Q) (h : ValOf C E base fr ov nx o v) : PendQ C.P base fr ov o v := by
  intro ρ w ev hh hev
  obtain ⟨x, y, he⟩ := h
  obtain ⟨v1, v', h1, h2, h3⟩ := opQ_ok (l := [(v, x, y)]) hh hk hev ⟨_, he, fun _ h => h⟩
  obtain ⟨L, e, hm⟩ := h1
  cases e
  have := hm _ (List.mem_cons_self ..)
  simp at this
  rw [← this.1]
  exact ⟨v', h2, h3⟩
theorem sameSlot_ok {dst : Option Tmp} {v : AV} {k : Ans} (hs : Sat (sameSlot fr dst v k) l) : (∀ d, dst = some d → v = (fr.get (Id.of d)).getD .junk) ∧ Sat k l := by
  unfold sameSlot at hs
  cases dst with
  | none => exact ⟨fun _ h => (by cases h), hs⟩
  | some d =>
    simp only [Tr.getK_eq] at hs
    split at hs
    · rename_i hb
      exact ⟨fun d2 h => (by cases h; exact AV.beq_eq hb), hs⟩
    · exact (not_sat_bad hs).elim
theorem sameBlock_ok {dst : Option Tmp} {ov' : Hp} {k : Ans} (hs : Sat (sameBlock base fr dst ov ov' k) l) : (∃ d b x, dst = some d ∧ blockOf ((fr.get (Id.of d)).getD .junk) = some b ∧ look base ov b = some x ∧ look base ov' b = some x) ∧ Sat k l := by
  unfold sameBlock at hs
  cases dst with
  | none => exact (not_sat_bad hs).elim
  | some d =>
    simp only [Tr.getK_eq] at hs
    cases hb : blockOf ((fr.get (Id.of d)).getD .junk) with
    | none => rw [hb] at hs; exact (not_sat_bad hs).elim
    | some b =>
      rw [hb] at hs
      simp only at hs
      cases hx : look base ov b with
      | none => rw [hx] at hs; exact (not_sat_bad hs).elim
      | some x =>
        cases hy : look base ov' b with
        | none => rw [hx, hy] at hs; exact (not_sat_bad hs).elim
        | some y =>
          rw [hx, hy] at hs
          simp only at hs
          split at hs
          · rename_i he
            exact ⟨⟨d, b, x, rfl, hb, hx, by rw [hy, AO.beq_eq he]⟩, hs⟩
          · exact (not_sat_bad hs).elim
def Rechecked (C : Ctx) (E : Code → R) (ops : Array Oper) (base : Hp) (fr : Fr) (ov ov' : Hp) (nx : Nat) (q : Nat) : Prop :=
  wantA ops fr (opAt ops q) = some false ∨
  (wantA ops fr (opAt ops q) = some true ∧ kindAt C.P ops q = .Q ∧ ∃ v, (∀ d, (opAt ops q).dst = some d → v = (fr.get (Id.of d)).getD .junk) ∧ ValOf C E base fr ov' nx (opAt ops q) v) ∨
  (wantA ops fr (opAt ops q) = some true ∧ kindAt C.P ops q = .A ∧ ∃ d b x, (opAt ops q).dst = some d ∧ blockOf ((fr.get (Id.of d)).getD .junk) = some b ∧ look base ov b = some x ∧ look base ov' b = some x)
theorem recheck_ok {ov' : Hp} {k : Ans} : ∀ {U : List Nat}, Sat (recheck C E ops base fr ov ov' nx k U) l → Sat k l ∧ ∀ q ∈ U, Rechecked C E ops base fr ov ov' nx q
  | [], hs => ⟨hs, fun _ h => by cases h⟩
  | q :: U, hs => by
    have hs1 : Sat (wantK ops fr (opAt ops q)
        (match kindAt C.P ops q with
          | .Q => valK C E (opAt ops q) base fr ov' nx fun v => sameSlot fr (opAt ops q).dst v (recheck C E ops base fr ov ov' nx k U)
          | .A => sameBlock base fr (opAt ops q).dst ov ov' (recheck C E ops base fr ov ov' nx k U)
          | .E => .bad "draw an effect afloat")
        (recheck C E ops base fr ov ov' nx k U)) l := hs
    have fin : Sat (recheck C E ops base fr ov ov' nx k U) l → Rechecked C E ops base fr ov ov' nx q → Sat k l ∧ ∀ q' ∈ q :: U, Rechecked C E ops base fr ov ov' nx q' := by
      intro h1 h2
      obtain ⟨g1, g2⟩ := recheck_ok h1
      exact ⟨g1, fun q' hq => by
        rcases List.mem_cons.1 hq with rfl | hq
        · exact h2
        · exact g2 q' hq⟩
    rcases wantK_ok hs1 with ⟨hw, hs2⟩ | ⟨hw, hs2⟩
    · split at hs2
      · rename_i hk
        obtain ⟨v, h1, h2⟩ := valK_ok hs2
        obtain ⟨h3, h4⟩ := sameSlot_ok h2
        exact fin h4 (.inr (.inl ⟨hw, hk, v, h3, h1⟩))
      · rename_i hk
        obtain ⟨h3, h4⟩ := sameBlock_ok hs2
        exact fin h4 (.inr (.inr ⟨hw, hk, h3⟩))
      · exact (not_sat_bad hs2).elim
    · exact fin hs2 (.inl hw)
theorem sureB_ok {v : AV} {b : Id} {k : Ans} (hs : Sat (sureB v b k) l) : blockOf v = some b ∧ Sat k l := by
  unfold sureB at hs
  split at hs
  · rename_i b' hb
    split at hs
    · rename_i he
      exact ⟨by rw [hb]; simpa using he, hs⟩
    · exact (not_sat_bad hs).elim
  · exact (not_sat_bad hs).elim

end
end Go.Ab
/- The abstract machine of these proofs, part 30: regions that draw their order, whole. -/
namespace Go.Ab
open Go.RowKit
section
variable {C : Ctx} {E : Code → R} {base ov ov0 : Hp} {ρ ρ0 : Rho} {w w0 : World} {l : List Out} {z : Mk} {nt nx : Nat} {fr : Fr} {ro : Option Id} {rn : Option Nat} {ops : Array Oper} {a : Act} {listed : Array Bool} {D pd : List Nat} {Q : Exit → Act → World → Prop}

/-- Memory has turned: what was run and has not come up there yet would come to the same. -/
theorem Pend.later {ov' : Hp} {ρ' : Rho} {nx' q : Nat} (hp : Pend C.P ops base ov0 ρ fr ov nt q) (hr : Rechecked C E ops base fr ov ov' nx' q) (hn : ∀ b, absent base ov b = false → ρ b = none → ρ' b = none) :
    Pend C.P ops base ov0 ρ' fr ov' nt q := by
  refine ⟨hp.1, ?_⟩
  rcases hp.2 with ⟨h1, h2, h3⟩ | ⟨h1, h2, u, h3, h4⟩ | ⟨h1, h2, b, h3⟩
  · exact .inl ⟨h1, h2, h3⟩
  · rcases hr with g | ⟨_, _, v, g1, g2⟩ | ⟨_, g, _⟩
    · rw [h1] at g; cases g
    · refine .inr (.inl ⟨h1, h2, v, fun d hd => ?_, g2.pend h2⟩)
      rw [g1 d hd, h3 d hd]; rfl
    · rw [h2] at g; cases g
  · rcases hr with g | ⟨_, g, _⟩ | ⟨_, _, d, b2, x, g1, g2, g3, g4⟩
    · rw [h1] at g; cases g
    · rw [h2] at g; cases g
    · obtain ⟨d1, v, ob, p1, p2, p3, p4, p5⟩ := h3.at_
      rw [p1] at g1; cases g1
      rw [p2] at g2
      simp only [Option.getD_some] at g2
      rw [p3] at g2; cases g2
      rw [p5] at g3; cases g3
      exact .inr (.inr ⟨h1, h2, b, ⟨_, v, _, p1, p2, p3, p4, g4⟩, hn b (not_absent_of_look p5) h3.no, h3.new⟩)
theorem put_tmps_ne {dst : Option Tmp} {v : Value} {t : Nat} (h : dst ≠ some t) : (a.put dst v).tmps[t]? = a.tmps[t]? := by
  cases dst with
  | none => rfl
  | some d => exact Array.getElem?_setIfInBounds_ne (fun e => h (by rw [e]))
theorem put_tmps_eq {v : Value} {d : Nat} (h : d < a.tmps.size) : (a.put (some d) v).tmps[d]? = some v := by
  show (a.tmps.setIfInBounds d v)[d]? = some v
  simp [h]
theorem put_size {dst : Option Tmp} {v : Value} : (a.put dst v).tmps.size = a.tmps.size := by
  cases dst with
  | none => rfl
  | some d => show (a.tmps.setIfInBounds d v).size = _; simp
theorem put_defers {dst : Option Tmp} {v : Value} : (a.put dst v).defers = a.defers := by
  cases dst <;> rfl
theorem Pend.rho {q : Nat} {ρ' : Rho} (hp : Pend C.P ops base ov0 ρ fr ov nt q) (hn : ∀ b, BlockAt ops fr q b → IsMaker C.P ops fr q → ρ b = none → ρ' b = none) : Pend C.P ops base ov0 ρ' fr ov nt q := by
  refine ⟨hp.1, ?_⟩
  rcases hp.2 with h | h | ⟨h1, h2, b, h3⟩
  · exact .inl h
  · exact .inr (.inl h)
  · obtain ⟨d, v, ob, p1, p2, p3, p4, p5⟩ := h3.at_
    exact .inr (.inr ⟨h1, h2, b, ⟨d, v, ob, p1, p2, p3, p4, p5⟩, hn b ⟨d, v, p1, p2, p3⟩ ⟨h2, h1⟩ h3.no, h3.new⟩)
/-- One operation more has come up there. -/
theorem Inv.come (hs : Stat ops) (h : Inv C.P z base ro rn nt ops ρ0 ov0 w0 D pd listed ρ fr ov a w) {j : Nat} (hj : j ∈ D) (hd : ∀ i, dep (opAt ops j) i = true → Ls listed i)
    {ρ' : Rho} {w' : World} {v : AV} {v' : Value} (hh : HR base ρ' ov w') (ht : Thru base ρ0 ov0 w0 ρ' ov w') (hx : Ext ρ w ρ' w') (hn : ∀ d, (opAt ops j).dst = some d → d < nt) (hsl : Slot fr (opAt ops j).dst v) (hv : VR ρ' v v')
    (hp : ∀ q, q ∈ D → q ≠ j → ¬ Ls listed q → ∀ b, BlockAt ops fr q b → IsMaker C.P ops fr q → ρ b = none → ρ' b = none) :
    Inv C.P z base ro rn nt ops ρ0 ov0 w0 D pd (listed.setIfInBounds j true) ρ' fr ov (a.put (opAt ops j).dst v') w' := by
  have hjs : j < listed.size := by rw [h.lsz]; exact h.inD j hj
  have hL : ∀ i, Ls (listed.setIfInBounds j true) i ↔ Ls listed i ∨ i = j := fun i => Ls.set_iff hjs
  refine ⟨hh, ?_, h.ro.mono hx.le, ht, by rw [put_size]; exact h.size, by simp [h.lsz], fun t u htn hu => ?_, fun i hi => ?_, h.inD, h.ord, fun i hi k hk => ?_, fun i hi d hdd => ?_, fun q hq hnq => ?_, fun q1 h1 q2 h2 hne n1 n2 => ?_⟩
  · rw [put_defers]; exact h.dm.ext hx
  · obtain ⟨u', g1, g2⟩ := h.out t u htn hu
    exact ⟨u', by rw [put_tmps_ne (htn j (h.inD j hj))]; exact g1, g2.mono hx.le⟩
  · rcases (hL i).1 hi with hi | rfl
    · exact h.sub i hi
    · exact hj
  · rcases (hL i).1 hi with hi | rfl
    · exact (hL k).2 (.inl (h.down i hi k hk))
    · exact (hL k).2 (.inl (hd k hk))
  · rcases Nat.decEq i j with hne | rfl
    · rcases (hL i).1 hi with hi | e
      · obtain ⟨u, u', g1, g2, g3⟩ := h.res i hi d hdd
        exact ⟨u, u', g1, by rw [put_tmps_ne (hs.dist i j (h.inD i (h.sub i hi)) (h.inD j hj) (fun e => hne e.symm) d hdd)]; exact g2, g3.mono hx.le⟩
      · exact absurd e hne
    · rw [hdd]
      exact ⟨v, v', hsl d hdd, put_tmps_eq (Nat.lt_of_lt_of_le (hn d hdd) h.size), hv⟩
  · have hne : q ≠ j := fun e => hnq ((hL q).2 (.inr e))
    have hnl : ¬ Ls listed q := fun e => hnq ((hL q).2 (.inl e))
    obtain ⟨g1, g2⟩ := h.pend q hq hnl
    exact ⟨g1, g2.rho (hp q hq hne hnl)⟩
  · exact h.distA q1 h1 q2 h2 hne (fun e => n1 ((hL _).2 (.inl e))) (fun e => n2 ((hL _).2 (.inl e)))
theorem notDefer {P : Program} {o : Oper} (hk : isE (kindOf P o.op) = false) (c : Call) : o.op ≠ .defer c := by
  intro e
  rw [e] at hk
  cases hk
/-- An operation that was run here comes up there. -/
theorem exec_pend (hs : Stat ops) (h : Inv C.P z base ro rn nt ops ρ0 ov0 w0 D pd listed ρ fr ov a w) {j : Nat} (hr : j ∈ Region.ready .any ops listed) (hj : j ∈ D) {K : Act → World → Prop}
    (hK : ∀ ρ' a' w', Inv C.P z base ro rn nt ops ρ0 ov0 w0 D pd (listed.setIfInBounds j true) ρ' fr ov a' w' → K a' w') : wpOpIn (FW rn) 0 C.P ops Q j K a w := by
  obtain ⟨hlt, hnl, hdeps⟩ := (ready_iff h.lsz).1 hr
  obtain ⟨_, hp⟩ := h.pend j hj hnl
  have ho : ops[j]? = some (opAt ops j) := by simp [opAt, hlt]
  have hop := Opers.of_deps h hs hlt hdeps
  have hw := fun b hb => wanted_deps (b := b) h hs hlt hdeps hb
  unfold wpOpIn
  rw [ho]
  simp only
  rcases hp.2 with ⟨h1, h2, h3⟩ | ⟨h1, h2, v, h3, h4⟩ | ⟨h1, h2, b, h3⟩
  · rw [if_neg (by rw [hw _ h2]; simp)]
    refine ⟨fun _ _ => trivial, hK ρ _ _ (h.come hs hj hdeps h.hr h.thru (.refl _ _) hp.1 h3 (.tup .nil) fun _ _ _ _ _ _ _ hn => hn)⟩
  · rw [if_pos (hw _ h1)]
    refine ⟨fun _ _ => trivial, ?_⟩
    have hk : isE (kindOf C.P (opAt ops j).op) = false := by
      have : kindOf C.P (opAt ops j).op = .Q := h2
      rw [this]; rfl
    rw [Oper.semAt_eq _ _ _ (notDefer hk)]
    obtain ⟨v', g1, g2⟩ := h4 ρ w a.eval h.hr hop
    rw [g2]
    exact hK ρ _ _ (h.come hs hj hdeps h.hr h.thru (.refl _ _) hp.1 h3 g1 fun _ _ _ _ _ _ _ hn => hn)
  · rw [if_pos (hw _ h1)]
    refine ⟨fun _ _ => trivial, ?_⟩
    have hk : isE (kindOf C.P (opAt ops j).op) = false := by
      have : kindOf C.P (opAt ops j).op = .A := h2
      rw [this]; rfl
    rw [Oper.semAt_eq _ _ _ (notDefer hk)]
    obtain ⟨d, v, ob, p1, p2, p3, p4, p5⟩ := h3.at_
    obtain ⟨obj, d0, s, v', g1, g2, g3⟩ := p4 ρ w a.eval hop h3.no
    rw [g1]
    have hx : Ext ρ w (upd ρ b ⟨w.heap.size, d0, s⟩) (w.alloc obj) := .alloc obj h3.no
    refine hK _ _ _ (h.come hs hj hdeps (h.hr.alloc h3.no p5 g2) ?_ hx hp.1 (fun d2 hd2 => by rw [p1] at hd2; cases hd2; exact p2) g3 fun q hq hne hnq b2 hb2 hm hn => ?_)
    · refine ⟨h.thru.ext.trans hx, fun b1 e1 e2 => ?_, h.thru.abs⟩
      have hne : b1 ≠ b := by intro k; subst k; rw [h3.new] at e1; cases e1
      simp [upd, hne, h.thru.news b1 e1 e2]
    · have hne2 : b2 ≠ b := by
        intro k
        subst k
        exact h.distA q hq j hj hne hnq hnl hm ⟨h2, h1⟩ b2 hb2 ⟨d, v, p1, p2, p3⟩
      simp [upd, hne2, hn]

/-! ### An operation that is no effect is run here -/
def putF (fr : Fr) (dst : Option Tmp) (v : AV) : Fr := match dst with
  | none => fr
  | some d => fr.set (Id.of d) v
theorem putF_ok {dst : Option Tmp} {v : AV} {K : Fr → Ans} (hs : Sat (putK fr nt dst v K) l) : (∀ d, dst = some d → d < nt) ∧ Sat (K (putF fr dst v)) l := by
  rcases putK_ok hs with ⟨rfl, h⟩ | ⟨d, rfl, hlt, h⟩
  · exact ⟨fun _ h => (by cases h), h⟩
  · exact ⟨fun d2 e => (by cases e; exact hlt), h⟩
theorem putF_slot {dst : Option Tmp} {v : AV} : Slot (putF fr dst v) dst v := by
  rintro d rfl
  simp [putF, Tr.get_set]
theorem Pend.putF {i q : Nat} {v : AV} (hs : Stat ops) (hi : i < ops.size) (hni : i ∉ D) (hq : q < ops.size) (hne : q ≠ i) (hc : ∀ i, dep (opAt ops q) i = true → i ∈ D) (hp : Pend C.P ops base ov0 ρ fr ov nt q) :
    Pend C.P ops base ov0 ρ (putF fr (opAt ops i).dst v) ov nt q := by
  cases hd : (opAt ops i).dst with
  | none => exact hp
  | some d => exact hp.set (D := D) ⟨hd, hi, hni⟩ hs hq hne hc
theorem putF_get {i q : Nat} {v : AV} (hs : Stat ops) (hi : i < ops.size) (hq : q < ops.size) (hne : q ≠ i) {d : Nat} (hd : (opAt ops q).dst = some d) : (putF fr (opAt ops i).dst v).get (Id.of d) = fr.get (Id.of d) := by
  cases h : (opAt ops i).dst with
  | none => rfl
  | some t => exact Away.slot (D := []) ⟨h, hi, by simp⟩ hs hq hne hd
theorem putF_wantA {i q : Nat} {v : AV} (hs : Stat ops) (hi : i < ops.size) (hni : i ∉ D) (hq : q < ops.size) (hc : ∀ i, dep (opAt ops q) i = true → i ∈ D) : wantA ops (putF fr (opAt ops i).dst v) (opAt ops q) = wantA ops fr (opAt ops q) := by
  cases h : (opAt ops i).dst with
  | none => rfl
  | some t => exact wantA_set (Away.notGuard (D := D) ⟨h, hi, hni⟩ hs hq hc)
theorem putF_opers {i q : Nat} {v : AV} {ev : Operand → Value} (hs : Stat ops) (hi : i < ops.size) (hni : i ∉ D) (hq : q < ops.size) (hc : ∀ i, dep (opAt ops q) i = true → i ∈ D) : Opers ρ (putF fr (opAt ops i).dst v) ev (opAt ops q) ↔ Opers ρ fr ev (opAt ops q) := by
  cases h : (opAt ops i).dst with
  | none => exact Iff.rfl
  | some t => exact Opers.set (Away.notReads (D := D) ⟨h, hi, hni⟩ hs hq hc)
theorem putF_block {i q : Nat} {v : AV} (hs : Stat ops) (hi : i < ops.size) (hq : q < ops.size) (hne : q ≠ i) {b : Id} : BlockAt ops (putF fr (opAt ops i).dst v) q b ↔ BlockAt ops fr q b := by
  constructor
  · rintro ⟨d, u, h1, h2, h3⟩
    exact ⟨d, u, h1, by rw [putF_get hs hi hq hne h1] at h2; exact h2, h3⟩
  · rintro ⟨d, u, h1, h2, h3⟩
    exact ⟨d, u, h1, by rw [putF_get hs hi hq hne h1]; exact h2, h3⟩
/-- The relation, one operation further here. -/
theorem Inv.further (hs : Stat ops) (h : Inv C.P z base ro rn nt ops ρ0 ov0 w0 D pd listed ρ fr ov a w) {i : Nat} (hi : i < ops.size) (hni : i ∉ D) (hdep : ∀ k, dep (opAt ops i) k = true → k ∈ D)
    {ov' : Hp} {v : AV} (hh : HR base ρ ov' w) (ht : Thru base ρ ov w ρ ov' w) (hp : ∀ q ∈ D, ¬ Ls listed q → Pend C.P ops base ov0 ρ fr ov' nt q) (hpi : Pend C.P ops base ov0 ρ (putF fr (opAt ops i).dst v) ov' nt i)
    (hfresh : ∀ b, IsMaker C.P ops (putF fr (opAt ops i).dst v) i → BlockAt ops (putF fr (opAt ops i).dst v) i b → absent base ov b = true) :
    Inv C.P z base ro rn nt ops ρ0 ov0 w0 (i :: D) (i :: pd) listed ρ (putF fr (opAt ops i).dst v) ov' a w := by
  have hnl : ¬ Ls listed i := fun e => hni (h.sub i e)
  have hfr : ∀ q ∈ D, q ≠ i := fun q hq e => hni (e ▸ hq)
  have hmk : ∀ q ∈ D, ∀ b, BlockAt ops fr q b → ¬ Ls listed q → IsMaker C.P ops fr q → absent base ov b = false := by
    intro q hq b hb hnq hm
    rcases (h.pend q hq hnq).2.2 with ⟨g1, g2, _⟩ | ⟨_, g2, _⟩ | ⟨_, _, b2, g3⟩
    · have := hm.2; rw [g2] at this; cases this
    · have := hm.1; rw [g2] at this; cases this
    · obtain ⟨d, v, ob, p1, p2, p3, p4, p5⟩ := g3.at_
      obtain ⟨d2, v2, q1, q2, q3⟩ := hb
      rw [p1] at q1; cases q1
      rw [p2] at q2; cases q2
      rw [p3] at q3; cases q3
      exact not_absent_of_look p5
  have hmaker : ∀ q ∈ D, IsMaker C.P ops (putF fr (opAt ops i).dst v) q ↔ IsMaker C.P ops fr q := by
    intro q hq
    unfold IsMaker
    rw [putF_wantA hs hi hni (h.inD q hq) (h.ord.clo q hq)]
  have hblock : ∀ q ∈ D, ∀ b, BlockAt ops (putF fr (opAt ops i).dst v) q b ↔ BlockAt ops fr q b := fun q hq b => putF_block hs hi (h.inD q hq) (hfr q hq)
  refine ⟨hh, h.dm, h.ro, h.thru.trans ht, h.size, h.lsz, fun t u htn hu => ?_, fun j hj => List.mem_cons_of_mem _ (h.sub j hj), fun j hj => ?_, ⟨hdep, h.ord⟩, h.down, fun j hj d hd => ?_, fun q hq hnq => ?_, fun q1 h1 q2 h2 hne n1 n2 m1 m2 b b1 b2 => ?_⟩
  · refine h.out t u htn ?_
    cases hd : (opAt ops i).dst with
    | none => rw [hd] at hu; exact hu
    | some d =>
      rw [hd] at hu
      simp only [Go.Ab.putF, Tr.get_set] at hu
      rw [if_neg (fun e => htn i hi (by rw [hd, Id.of_inj e]))] at hu
      exact hu
  · rcases List.mem_cons.1 hj with rfl | hj
    · exact hi
    · exact h.inD j hj
  · have hjD := h.sub j hj
    obtain ⟨u, u', g1, g2, g3⟩ := h.res j hj d hd
    exact ⟨u, u', by rw [putF_get hs hi (h.inD j hjD) (hfr j hjD) hd]; exact g1, g2, g3⟩
  · rcases List.mem_cons.1 hq with rfl | hq
    · exact ⟨List.mem_cons_self .., hpi⟩
    · exact ⟨List.mem_cons_of_mem _ (h.pend q hq hnq).1, (hp q hq hnq).putF hs hi hni (h.inD q hq) (hfr q hq) (h.ord.clo q hq)⟩
  · rcases List.mem_cons.1 h1 with e1 | h1 <;> rcases List.mem_cons.1 h2 with e2 | h2
    · exact hne (e1.trans e2.symm)
    · rw [e1] at m1 b1
      have := hmk q2 h2 b ((hblock q2 h2 b).1 b2) n2 ((hmaker q2 h2).1 m2)
      rw [hfresh b m1 b1] at this; cases this
    · rw [e2] at m2 b2
      have := hmk q1 h1 b ((hblock q1 h1 b).1 b1) n1 ((hmaker q1 h1).1 m1)
      rw [hfresh b m2 b2] at this; cases this
    · exact h.distA q1 h1 q2 h2 hne n1 n2 ((hmaker q1 h1).1 m1) ((hmaker q2 h2).1 m2) b ((hblock q1 h1 b).1 b1) ((hblock q2 h2 b).1 b2)
end
end Go.Ab
/- The abstract machine of these proofs, part 31: regions that draw their order, whole; all code is run soundly. -/
namespace Go.Ab
open Go.RowKit
section
variable {C : Ctx} {E : Code → R} {base ov ov0 : Hp} {ρ ρ0 : Rho} {w w0 : World} {l : List Out} {z : Mk} {nt nx : Nat} {fr : Fr} {ro : Option Id} {rn : Option Nat} {ops : Array Oper} {a : Act} {listed : Array Bool} {D pd : List Nat} {Q : Exit → Act → World → Prop} {K : KF}

theorem Pend.lay {q : Nat} {b : Id} {o : Option AO} (hp : Pend C.P ops base ov0 ρ fr ov nt q) (hb : absent base ov b = true) (hq : kindAt C.P ops q = .Q → wantA ops fr (opAt ops q) = some true → ∃ nx', Rechecked C E ops base fr ov (ov.set b o) nx' q) :
    Pend C.P ops base ov0 ρ fr (ov.set b o) nt q := by
  rcases hp.2 with h | ⟨h1, h2, u, h3⟩ | ⟨h1, h2, b2, h3⟩
  · exact ⟨hp.1, .inl h⟩
  · obtain ⟨nx', hr⟩ := hq h2 h1
    exact hp.later hr fun _ _ h => h
  · obtain ⟨d, v, ob, p1, p2, p3, p4, p5⟩ := h3.at_
    refine ⟨hp.1, .inr (.inr ⟨h1, h2, b2, ⟨d, v, ob, p1, p2, p3, p4, ?_⟩, h3.no, h3.new⟩)⟩
    rw [look_set, if_neg]
    · exact p5
    · intro e; subst e; rw [look_absent hb] at p5; cases p5
theorem advance (hs : Stat ops) (h : Inv C.P z base ro rn nt ops ρ0 ov0 w0 D pd listed ρ fr ov a w) {i : Nat} {U : List Nat} (hi : i < ops.size) (hni : i ∉ D) (hdep : ∀ k, dep (opAt ops i) k = true → k ∈ D) (hk : isE (kindAt C.P ops i) = false)
    (hU : kindAt C.P ops i = .A → (opAt ops i).dst.isSome = true ∧ ∀ q ∈ pd, kindAt C.P ops q = .Q → q ∈ U) {rest : Fr → Hp → Nat → KF → Ans} (hsat : Sat (drawStep C E base nt ops (i, U) rest fr ov nx K) l) :
    ∃ fr' ov' nx', Sat (rest fr' ov' nx' K) l ∧ Inv C.P z base ro rn nt ops ρ0 ov0 w0 (i :: D) (i :: pd) listed ρ fr' ov' a w := by
  unfold drawStep at hsat
  simp only at hsat
  have hwa := fun (v : AV) => putF_wantA (fr := fr) (v := v) hs hi hni hi hdep
  have hop := fun (v : AV) (ρ : Rho) (ev : Operand → Value) => putF_opers (fr := fr) (v := v) (ρ := ρ) (ev := ev) hs hi hni hi hdep
  rcases wantK_ok hsat with ⟨hw, hs1⟩ | ⟨hw, hs1⟩
  · split at hs1
    · rename_i hkk
      obtain ⟨v, g1, g2⟩ := valK_ok hs1
      obtain ⟨g3, g4⟩ := putF_ok g2
      refine ⟨_, _, _, g4, h.further hs hi hni hdep h.hr (.refl _ _ _ _) (fun q hq hnq => (h.pend q hq hnq).2) ?_ fun b hm => ?_⟩
      · refine ⟨g3, .inr (.inl ⟨by rw [hwa]; exact hw, hkk, v, putF_slot, ?_⟩)⟩
        intro ρ2 w2 ev h1 h2
        exact g1.pend hkk ρ2 w2 ev h1 ((hop v ρ2 ev).1 h2)
      · have := hm.1; rw [hkk] at this; cases this
    · rename_i hkk
      obtain ⟨hsome, hUq⟩ := hU hkk
      obtain ⟨b, ob, v, ⟨hb, hs2, hbx⟩, hmk⟩ := opA_ok hkk hs1
      obtain ⟨g1, g2⟩ := sureB_ok hs2
      rw [← hbx] at g1
      obtain ⟨g3, g4⟩ := recheck_ok g2
      obtain ⟨g5, g6⟩ := putF_ok g3
      have hn := h.hr.dom b hb
      refine ⟨_, _, _, g6, h.further hs hi hni hdep (h.hr.lay (some ob) hb) (.lay hb) (fun q hq hnq => ?_) ?_ fun b2 _ hb2 => ?_⟩
      · obtain ⟨p1, p2⟩ := h.pend q hq hnq
        exact p2.lay (C := C) (E := E) hb fun hkq _ => ⟨_, g4 q (hUq q p1 hkq)⟩
      · refine ⟨g5, .inr (.inr ⟨by rw [hwa]; exact hw, hkk, b, ?_⟩)⟩
        obtain ⟨d, hd⟩ := Option.isSome_iff_exists.1 hsome
        exact ⟨⟨d, v, ob, hd, putF_slot d hd, g1, fun ρ2 w2 ev h1 h2 => hmk ρ2 w2 ev ((hop v ρ2 ev).1 h1) h2, by rw [look_set, if_pos rfl]⟩, hn, h.thru.abs b hb⟩
      · obtain ⟨d, u, q1, q2, q3⟩ := hb2
        rw [putF_slot d q1] at q2
        cases q2
        rw [g1] at q3
        cases q3
        exact hb
    · rename_i hkk
      rw [hkk] at hk
      cases hk
  · obtain ⟨g3, g4⟩ := putF_ok hs1
    refine ⟨_, _, _, g4, h.further hs hi hni hdep h.hr (.refl _ _ _ _) (fun q hq hnq => (h.pend q hq hnq).2) ?_ fun b hm => ?_⟩
    · exact ⟨g3, .inl ⟨hk, by rw [hwa]; exact hw, putF_slot⟩⟩
    · have := hm.2; rw [hwa, hw] at this; cases this
theorem progress (h : Inv C.P z base ro rn nt ops ρ0 ov0 w0 D pd listed ρ fr ov a w) (hu : ∃ q ∈ D, ¬ Ls listed q) : ∃ j, j ∈ Region.ready .any ops listed := by
  have aux : ∀ T : List Nat, DepOrd ops T → (∀ q ∈ T, q < ops.size) → (∃ q ∈ T, ¬ Ls listed q) → ∃ j, j < ops.size ∧ ¬ Ls listed j ∧ ∀ i, dep (opAt ops j) i = true → Ls listed i := by
    intro T
    induction T with
    | nil => intro _ _ ⟨q, hq, _⟩; cases hq
    | cons d T ih =>
      intro ho hlt hu
      by_cases hh : ∃ q ∈ T, ¬ Ls listed q
      · exact ih ho.2 (fun q hq => hlt q (List.mem_cons_of_mem _ hq)) hh
      · obtain ⟨q, hq, hnq⟩ := hu
        rcases List.mem_cons.1 hq with rfl | hq
        · refine ⟨q, hlt q (List.mem_cons_self ..), hnq, fun i hi => ?_⟩
          have := ho.1 i hi
          exact Classical.byContradiction fun hc => hh ⟨i, this, hc⟩
        · exact absurd ⟨q, hq, hnq⟩ hh
  obtain ⟨j, h1, h2, h3⟩ := aux D h.ord h.inD hu
  exact ⟨j, (ready_iff h.lsz).2 ⟨h1, h2, h3⟩⟩
theorem forced_ok {o : Oper} {U : List Nat} (hd : ∀ i, dep o i = true → Ls listed i) (hdown : ∀ v, Ls listed v → ∀ i, dep (opAt ops v) i = true → Ls listed i) : ∀ (D acc : List Nat), forcedOK ops o pd U D acc = true → (∀ v ∈ acc, Ls listed v) →
    (∀ d ∈ D, d ∉ pd → Ls listed d) → ∀ q ∈ D, q ∉ U → Ls listed q
  | [], _, _, _, _, q, hq, _ => by cases hq
  | d :: D, acc, h, hacc, hpd, q, hq, hnU => by
    have hpd2 : ∀ d ∈ D, d ∉ pd → Ls listed d := fun x hx => hpd x (List.mem_cons_of_mem _ hx)
    have cons : Ls listed d → ∀ v ∈ d :: acc, Ls listed v := fun hl v hv => by
      rcases List.mem_cons.1 hv with rfl | hv
      · exact hl
      · exact hacc v hv
    simp only [forcedOK] at h
    split at h
    · rename_i h1
      have hl : Ls listed d := hpd d (List.mem_cons_self ..) (fun e => by rw [has_iff.2 e] at h1; cases h1)
      rcases List.mem_cons.1 hq with rfl | hq
      · exact hl
      · exact forced_ok hd hdown D _ h (cons hl) hpd2 q hq hnU
    · split at h
      · rename_i h2
        rcases List.mem_cons.1 hq with rfl | hq
        · exact absurd (has_iff.1 h2) hnU
        · exact forced_ok hd hdown D _ h hacc hpd2 q hq hnU
      · rw [Bool.and_eq_true_iff] at h
        have hl : Ls listed d := by
          rcases Bool.or_eq_true_iff.1 h.1 with h3 | h3
          · exact hd d h3
          · obtain ⟨v, hv, hvd⟩ := List.any_eq_true.1 h3
            exact hdown v (hacc v hv) d hvd
        rcases List.mem_cons.1 hq with rfl | hq
        · exact hl
        · exact forced_ok hd hdown D _ h.2 (cons hl) hpd2 q hq hnU
theorem depsOn_spec {c : List Nat} {o : Oper} (h : depsOn c o = true) : ∃ x ∈ c, dep o x = true := by
  simpa [depsOn, List.any_eq_true] using h
/-- What the checks of a plan say of its first step. -/
structure Head (P : Program) (ops : Array Oper) (i : Nat) (U : List Nat) (rest : Plan) (D pd : List Nat) (cur : Option (List Nat)) : Prop where
  lt : i < ops.size
  new : i ∉ D
  dep : ∀ k, dep (opAt ops i) k = true → k ∈ D
  stage : ∀ c, cur = some c → ∃ x ∈ c, Go.Ab.dep (opAt ops i) x = true
  kind : (kindAt P ops i = .Q ∧ walkOK P ops rest (i :: D) (i :: pd) (cur.map (i :: ·)) = true) ∨
    (kindAt P ops i = .A ∧ (opAt ops i).dst.isSome = true ∧ (∀ q ∈ pd, kindAt P ops q = .Q → q ∈ U) ∧ walkOK P ops rest (i :: D) (i :: pd) (cur.map (i :: ·)) = true) ∨
    (kindAt P ops i = .E ∧ forcedOK ops (opAt ops i) pd U D [] = true ∧ (∀ q ∈ U, q ∈ pd) ∧ walkOK P ops rest (i :: D) U (some [i]) = true)
theorem walk_head {P : Program} {i : Nat} {U : List Nat} {rest : Plan} {cur : Option (List Nat)} (h : walkOK P ops ((i, U) :: rest) D pd cur = true) : Head P ops i U rest D pd cur := by
  simp only [walkOK, Bool.and_eq_true] at h
  obtain ⟨⟨⟨⟨h1, h2⟩, h3⟩, h4⟩, h5⟩ := h
  refine ⟨by simpa using h1, fun e => ?_, fun k hk => depsIn_spec h3 hk, fun c hc => ?_, ?_⟩
  · rw [has_iff.2 e] at h2; cases h2
  · subst hc; exact depsOn_spec h4
  · split at h5
    · rename_i hk; exact .inl ⟨hk, h5⟩
    · rename_i hk
      simp only [Bool.and_eq_true] at h5
      refine .inr (.inl ⟨hk, h5.1.1, fun q hq hkq => ?_, h5.2⟩)
      have := List.all_eq_true.1 h5.1.2 q hq
      rw [hkq] at this
      exact has_iff.1 (by simpa [isQ] using this)
    · rename_i hk
      simp only [Bool.and_eq_true] at h5
      exact .inr (.inr ⟨hk, h5.1.1, fun q hq => has_iff.1 (List.all_eq_true.1 h5.1.2 q hq), h5.2⟩)
theorem walk_stage {P : Program} {D0 : List Nat} : ∀ (rest : Plan) (D pd c : List Nat), walkOK P ops rest D pd (some c) = true → (∀ x ∈ c, x ∉ D0) → (∀ x ∈ D0, x ∈ D) → ∀ s ∈ rest, ∃ x, x ∉ D0 ∧ dep (opAt ops s.1) x = true
  | [], _, _, _, _, _, _, s, hs => by cases hs
  | (i, U) :: rest, D, pd, c, h, hc, hD, s, hs => by
    have hh := walk_head h
    have hi0 : i ∉ D0 := fun e => hh.new (hD i e)
    have hD2 : ∀ x ∈ D0, x ∈ i :: D := fun x hx => List.mem_cons_of_mem _ (hD x hx)
    have hc2 : ∀ x ∈ i :: c, x ∉ D0 := fun x hx => by
      rcases List.mem_cons.1 hx with rfl | hx
      · exact hi0
      · exact hc x hx
    rcases List.mem_cons.1 hs with rfl | hs
    · obtain ⟨x, hx, hd⟩ := hh.stage c rfl
      exact ⟨x, hc x hx, hd⟩
    · rcases hh.kind with ⟨_, g⟩ | ⟨_, _, _, g⟩ | ⟨_, _, _, g⟩
      · exact walk_stage rest _ _ _ g hc2 hD2 s hs
      · exact walk_stage rest _ _ _ g hc2 hD2 s hs
      · exact walk_stage rest _ _ _ g (fun x hx => by simp at hx; subst hx; exact hi0) hD2 s hs
theorem walk_all {P : Program} : ∀ (plan : Plan) (D pd : List Nat) (cur : Option (List Nat)), walkOK P ops plan D pd cur = true → ∀ j, j < ops.size → j ∈ D ∨ ∃ s ∈ plan, s.1 = j
  | [], D, _, _, h, j, hj => by
    simp only [walkOK] at h
    exact .inl (has_iff.1 (List.all_eq_true.1 h j (List.mem_range.2 hj)))
  | (i, U) :: rest, D, pd, cur, h, j, hj => by
    have fin : (j ∈ i :: D ∨ ∃ s ∈ rest, s.1 = j) → j ∈ D ∨ ∃ s ∈ (i, U) :: rest, s.1 = j := by
      rintro (h | ⟨s, h1, h2⟩)
      · rcases List.mem_cons.1 h with rfl | h
        · exact .inr ⟨(j, U), List.mem_cons_self .., rfl⟩
        · exact .inl h
      · exact .inr ⟨s, List.mem_cons_of_mem _ h1, h2⟩
    rcases (walk_head h).kind with ⟨_, g⟩ | ⟨_, _, _, g⟩ | ⟨_, _, _, g⟩
    · exact fin (walk_all rest _ _ _ g j hj)
    · exact fin (walk_all rest _ _ _ g j hj)
    · exact fin (walk_all rest _ _ _ g j hj)
/-- What was run here comes up there, in whatever order; and then what is next. -/
theorem pump (hs : Stat ops)
    (Front : ∀ fuel listed ρ a w, Inv C.P z base ro rn nt ops ρ0 ov0 w0 D pd listed ρ fr ov a w → unl listed.toList ≤ fuel + 1 → ∀ j ∈ Region.ready .any ops listed, j ∉ D →
      wpOpIn (FW rn) 0 C.P ops Q j (wpAnyIn (FW rn) 0 C.P .any ops Q fuel (listed.setIfInBounds j true)) a w)
    (End : ∀ listed ρ a w, Inv C.P z base ro rn nt ops ρ0 ov0 w0 D pd listed ρ fr ov a w → Region.ready .any ops listed = [] → Q .normal a w) :
    ∀ fuel listed ρ a w, Inv C.P z base ro rn nt ops ρ0 ov0 w0 D pd listed ρ fr ov a w → unl listed.toList ≤ fuel → wpAnyIn (FW rn) 0 C.P .any ops Q fuel listed a w := by
  have one : ∀ {listed : Array Bool} {j : Nat}, listed.size = ops.size → j ∈ Region.ready .any ops listed → unl (listed.setIfInBounds j true).toList + 1 = unl listed.toList := by
    intro listed j hsz hj
    obtain ⟨h1, h2, h3⟩ := (ready_iff hsz).1 hj
    rw [Array.toList_setIfInBounds]
    exact unl_set (by rw [Array.getElem?_toList]; exact not_Ls (by omega) h2)
  intro fuel
  induction fuel with
  | zero =>
    intro listed ρ a w h hu
    have hr : Region.ready .any ops listed = [] := by
      rw [List.eq_nil_iff_forall_not_mem]
      intro j hj
      have := one h.lsz hj
      omega
    exact ⟨hr, End listed ρ a w h hr⟩
  | succ fuel ih =>
    intro listed ρ a w h hu
    refine ⟨End listed ρ a w h, fun j hj => ?_⟩
    by_cases hjD : j ∈ D
    · refine exec_pend hs h hj hjD fun ρ' a' w' h' => ih _ ρ' a' w' h' ?_
      have := one h.lsz hj
      omega
    · exact Front fuel listed ρ a w h hu j hj hjD
end
end Go.Ab
/- The abstract machine of these proofs, part 32: all code is run soundly. -/
namespace Go.Ab
open Go.RowKit
section
variable {C : Ctx} {E : Code → R} {base ov ov0 : Hp} {ρ ρ0 : Rho} {w w0 : World} {l : List Out} {z : Mk} {nt nx : Nat} {fr : Fr} {ro : Option Id} {rn : Option Nat} {ops : Array Oper} {a : Act} {listed : Array Bool} {D pd : List Nat} {Q : Exit → Act → World → Prop} {K : KF}

/-- The effect that is next here comes up there. -/
theorem Inv.effect (hs : Stat ops) (h : Inv C.P z base ro rn nt ops ρ0 ov0 w0 D pd listed ρ fr ov a w) {i : Nat} (hi : i < ops.size) (hni : i ∉ D) (hdep : ∀ k, dep (opAt ops i) k = true → k ∈ D) (hdl : ∀ k, dep (opAt ops i) k = true → Ls listed k)
    {U : List Nat} {ρ' : Rho} {ov' : Hp} {w' : World} {v : AV} {v' : Value} (hh : HR base ρ' ov' w') (ht : Thru base ρ ov w ρ' ov' w') (hv : VR ρ' v v') (hn : ∀ d, (opAt ops i).dst = some d → d < nt)
    (hp : ∀ q ∈ D, ¬ Ls listed q → q ∈ U ∧ Pend C.P ops base ov0 ρ' fr ov' nt q) :
    Inv C.P z base ro rn nt ops ρ0 ov0 w0 (i :: D) U (listed.setIfInBounds i true) ρ' (putF fr (opAt ops i).dst v) ov' (a.put (opAt ops i).dst v') w' := by
  have his : i < listed.size := by rw [h.lsz]; exact hi
  have hL : ∀ j, Ls (listed.setIfInBounds i true) j ↔ Ls listed j ∨ j = i := fun j => Ls.set_iff his
  have hfr : ∀ q ∈ D, q ≠ i := fun q hq e => hni (e ▸ hq)
  have hin : ∀ {q}, q ∈ i :: D → ¬ Ls (listed.setIfInBounds i true) q → q ∈ D ∧ ¬ Ls listed q := by
    intro q hq hnq
    rcases List.mem_cons.1 hq with rfl | hq
    · exact absurd ((hL _).2 (.inr rfl)) hnq
    · exact ⟨hq, fun e => hnq ((hL q).2 (.inl e))⟩
  refine ⟨hh, by rw [put_defers]; exact h.dm.ext ht.ext, h.ro.mono ht.ext.le, h.thru.trans ht, by rw [put_size]; exact h.size, by simp [h.lsz], fun t u htn hu => ?_, fun j hj => ?_, fun j hj => ?_, ⟨hdep, h.ord⟩, fun j hj k hk => ?_, fun j hj d hd => ?_, fun q hq hnq => ?_, fun q1 h1 q2 h2 hne n1 n2 m1 m2 b b1 b2 => ?_⟩
  · have hu2 : fr.get (Id.of t) = some u := by
      cases hd : (opAt ops i).dst with
      | none => rw [hd] at hu; exact hu
      | some d =>
        rw [hd] at hu
        simp only [putF, Tr.get_set] at hu
        rw [if_neg (fun e => htn i hi (by rw [hd, Id.of_inj e]))] at hu
        exact hu
    obtain ⟨u', g1, g2⟩ := h.out t u htn hu2
    exact ⟨u', by rw [put_tmps_ne (htn i hi)]; exact g1, g2.mono ht.ext.le⟩
  · rcases (hL j).1 hj with hj | rfl
    · exact List.mem_cons_of_mem _ (h.sub j hj)
    · exact List.mem_cons_self ..
  · rcases List.mem_cons.1 hj with rfl | hj
    · exact hi
    · exact h.inD j hj
  · rcases (hL j).1 hj with hj | rfl
    · exact (hL k).2 (.inl (h.down j hj k hk))
    · exact (hL k).2 (.inl (hdl k hk))
  · rcases (hL j).1 hj with hj | rfl
    · have hjD := h.sub j hj
      obtain ⟨u, u', g1, g2, g3⟩ := h.res j hj d hd
      refine ⟨u, u', by rw [putF_get hs hi (h.inD j hjD) (hfr j hjD) hd]; exact g1, ?_, g3.mono ht.ext.le⟩
      rw [put_tmps_ne (hs.dist j i (h.inD j hjD) hi (fun e => hfr j hjD e.symm) d hd)]
      exact g2
    · rw [hd]
      exact ⟨v, v', by simp [putF, Tr.get_set], put_tmps_eq (Nat.lt_of_lt_of_le (hn d hd) h.size), hv⟩
  · obtain ⟨g1, g2⟩ := hin hq hnq
    obtain ⟨g3, g4⟩ := hp q g1 g2
    exact ⟨g3, g4.putF hs hi hni (h.inD q g1) (hfr q g1) (h.ord.clo q g1)⟩
  · obtain ⟨g1, g2⟩ := hin h1 n1
    obtain ⟨g3, g4⟩ := hin h2 n2
    refine h.distA q1 g1 q2 g3 hne g2 g4 ⟨m1.1, ?_⟩ ⟨m2.1, ?_⟩ b ((putF_block hs hi (h.inD q1 g1) (hfr q1 g1)).1 b1) ((putF_block hs hi (h.inD q2 g3) (hfr q2 g3)).1 b2)
    · have := m1.2
      rwa [putF_wantA hs hi hni (h.inD q1 g1) (h.ord.clo q1 g1)] at this
    · have := m2.2
      rwa [putF_wantA hs hi hni (h.inD q2 g3) (h.ord.clo q2 g3)] at this
theorem draw_ok (hC : CtxOK C) (hE : ∀ c, Sound C.P c (E c)) (hs : Stat ops)
    (hK : ∀ fr' ov' nx' ρ' a' w', Sat (K fr' ov' nx') l → Thru base ρ0 ov0 w0 ρ' ov' w' → St z base ro rn nt ρ' fr' ov' a' w' → Q .normal a' w') :
    ∀ (plan : Plan) (D pd : List Nat) (cur : Option (List Nat)), walkOK C.P ops plan D pd cur = true → ∀ fuel listed ρ fr ov nx a w, Inv C.P z base ro rn nt ops ρ0 ov0 w0 D pd listed ρ fr ov a w → unl listed.toList ≤ fuel →
      Sat (drawK C E base nt ops plan fr ov nx K) l → wpAnyIn (FW rn) 0 C.P .any ops Q fuel listed a w := by
  intro plan
  induction plan with
  | nil =>
    intro D pd cur hwalk fuel listed ρ fr ov nx a w h hu hsat
    have hall : ∀ j, j < ops.size → j ∈ D := fun j hj => (walk_all [] D pd cur hwalk j hj).resolve_right (by simp)
    refine pump hs (fun fuel listed ρ a w h hu j hj hjD => absurd (hall j ((ready_iff h.lsz).1 hj).1) hjD) (fun listed ρ a w h hr => ?_) fuel listed ρ a w h hu
    have hl : ∀ j, j < ops.size → Ls listed j := by
      intro j hj
      refine Classical.byContradiction fun hc => ?_
      obtain ⟨k, hk⟩ := progress h ⟨j, hall j hj, hc⟩
      rw [hr] at hk
      cases hk
    refine hK fr ov nx ρ a w hsat h.thru ⟨h.hr, ⟨h.size, fun t v hv => ?_⟩, h.dm, h.ro⟩
    by_cases e : ∃ j, j < ops.size ∧ (opAt ops j).dst = some t
    · obtain ⟨j, hj, hd⟩ := e
      obtain ⟨u, u', g1, g2, g3⟩ := h.res j (hl j hj) t hd
      rw [hv] at g1
      cases g1
      exact ⟨u', g2, g3⟩
    · exact h.out t v (fun j hj hd => e ⟨j, hj, hd⟩) hv
  | cons s rest ih =>
    obtain ⟨i, U⟩ := s
    intro D pd cur hwalk fuel listed ρ fr ov nx a w h hu hsat
    have hh := walk_head hwalk
    replace hsat : Sat (drawStep C E base nt ops (i, U) (drawK C E base nt ops rest) fr ov nx K) l := hsat
    rcases hh.kind with ⟨hk, g⟩ | ⟨hk, hd, hU, g⟩ | ⟨hk, hf, hU, g⟩
    · obtain ⟨fr', ov', nx', h1, h2⟩ := advance hs h hh.lt hh.new hh.dep (by rw [hk]; rfl) (fun e => by rw [hk] at e; cases e) hsat
      exact ih _ _ _ g fuel listed ρ fr' ov' nx' a w h2 hu h1
    · obtain ⟨fr', ov', nx', h1, h2⟩ := advance hs h hh.lt hh.new hh.dep (by rw [hk]; rfl) (fun _ => ⟨hd, hU⟩) hsat
      exact ih _ _ _ g fuel listed ρ fr' ov' nx' a w h2 hu h1
    · have notListed : ∀ {listed ρ a w}, Inv C.P z base ro rn nt ops ρ0 ov0 w0 D pd listed ρ fr ov a w → ¬ Ls listed i := fun h e => hh.new (h.sub i e)
      have ho : ops[i]? = some (opAt ops i) := by simp [opAt, hh.lt]
      refine pump hs (fun fuel listed ρ a w h hu j hj hjD => ?_) (fun listed ρ a w h hr => ?_) fuel listed ρ a w h hu
      · obtain ⟨hlt, hnl, hdl⟩ := (ready_iff h.lsz).1 hj
        have hji : j = i := by
          refine Classical.byContradiction fun hne => ?_
          have hrest : ∃ s ∈ rest, s.1 = j := by
            rcases walk_all _ _ _ _ hwalk j hlt with e | ⟨s, h1, h2⟩
            · exact absurd e hjD
            · rcases List.mem_cons.1 h1 with rfl | h1
              · exact absurd h2.symm hne
              · exact ⟨s, h1, h2⟩
          obtain ⟨s, h1, h2⟩ := hrest
          obtain ⟨x, h3, h4⟩ := walk_stage (D0 := D) rest _ _ _ g (fun x hx => by simp at hx; subst hx; exact hh.new) (fun x hx => List.mem_cons_of_mem _ hx) s h1
          rw [h2] at h4
          exact h3 (h.sub x (hdl x h4))
        subst hji
        have hop := Opers.of_deps h hs hh.lt hdl
        have hw := fun b hb => wanted_deps (b := b) h hs hh.lt hdl hb
        have hforced : ∀ q ∈ D, ¬ Ls listed q → q ∈ U := fun q hq hnq => Classical.byContradiction fun hc => hnq (forced_ok hdl h.down D [] hf (fun _ h => by cases h) (fun d hd hnp => Classical.byContradiction fun hc => hnp (h.pend d hd hc).1) q hq hc)
        have hu2 : unl (listed.setIfInBounds j true).toList ≤ fuel := by
          have : unl (listed.setIfInBounds j true).toList + 1 = unl listed.toList := by
            rw [Array.toList_setIfInBounds]
            exact unl_set (by rw [Array.getElem?_toList]; exact not_Ls (by rw [h.lsz]; exact hlt) hnl)
          omega
        unfold wpOpIn
        rw [ho]
        simp only
        unfold drawStep at hsat
        simp only at hsat
        rcases wantK_ok hsat with ⟨hwt, hs1⟩ | ⟨hwt, hs1⟩
        · rw [if_pos (hw _ hwt)]
          rw [hk] at hs1
          simp only at hs1
          refine op_ok hC hE h.hr hop hs1 fun v ov' nx' ρ' v' w' hs2 ht2 hh2 hv2 => ?_
          obtain ⟨g3, g4⟩ := recheck_ok hs2
          obtain ⟨g5, g6⟩ := putF_ok g3
          refine ih _ _ _ g fuel _ ρ' _ ov' nx' _ w' (h.effect hs hh.lt hh.new hh.dep hdl hh2 ht2 hv2 g5 fun q hq hnq => ?_) hu2 g6
          have hqU := hforced q hq hnq
          exact ⟨hqU, (h.pend q hq hnq).2.later (g4 q hqU) ht2.news⟩
        · rw [if_neg (by rw [hw _ hwt]; simp)]
          refine ⟨fun _ _ => trivial, ?_⟩
          obtain ⟨g5, g6⟩ := putF_ok hs1
          exact ih _ _ _ g fuel _ ρ _ ov nx _ w (h.effect hs hh.lt hh.new hh.dep hdl h.hr (.refl _ _ _ _) (.tup .nil) g5 fun q hq hnq => ⟨hforced q hq hnq, (h.pend q hq hnq).2⟩) hu2 g6
      · by_cases e : ∃ q ∈ D, ¬ Ls listed q
        · obtain ⟨j, hj⟩ := progress h e
          rw [hr] at hj
          cases hj
        · have : i ∈ Region.ready .any ops listed := (ready_iff h.lsz).2 ⟨hh.lt, notListed h, fun k hk => Classical.byContradiction fun hc => e ⟨k, hh.dep k hk, hc⟩⟩
          rw [hr] at this
          cases this
theorem sound_draw (hC : CtxOK C) (hE : ∀ c, Sound C.P c (E c)) (id : Nat) (ops : Array Oper) : Sound C.P (.region id ops true) (cRegion C E ops true) := by
  refine ⟨?_⟩
  intro z base ro rn nt fr ov nx K l ρ a w Q h hs hK
  unfold cRegion at hs
  simp only at hs
  split at hs
  · rename_i hg
    unfold planGood at hg
    rw [Bool.and_eq_true_iff] at hg
    refine wpIn_region_any hC.mixed ?_
    have hL : ∀ j, ¬ Ls (Array.replicate ops.size false) j := by
      intro j e
      unfold Ls at e
      rw [Array.getElem?_replicate] at e
      split at e <;> cases e
    refine draw_ok (ρ0 := ρ) (ov0 := ov) (w0 := w) hC hE (statOK_spec hg.2) (fun fr' ov' nx' ρ' a' w' g1 g2 g3 => hK .normal fr' ov' nx' ρ' a' w' g1 g2 g3) _ [] [] none hg.1 ops.size (Array.replicate ops.size false) ρ fr ov nx a w.drew
      ⟨h.hr.drew, h.dm.ext (.drew _ _), h.ro, .drew _ _ _ _, h.fr.size, by simp, fun t v _ hv => h.fr.slot t v hv, fun j hj => absurd hj (hL j), fun j hj => (by cases hj), trivial, fun j hj => absurd hj (hL j), fun j hj => absurd hj (hL j), fun q hq => (by cases hq), fun q1 h1 => (by cases h1)⟩ ?_ hs
    have : ∀ n, unl (List.replicate n false) = n := by
      intro n
      induction n with
      | zero => rfl
      | succ n ih => simp [List.replicate_succ, unl, ih]; omega
    rw [Array.toList_replicate, this]
    exact Nat.le_refl _
  · exact (not_sat_bad hs).elim

/-! ### All code -/
theorem code_loop (x : Code) : code C E (.loop x) = cLoop loopFuel (code C E x) := id rfl
theorem sound_code (hC : CtxOK C) (hE : ∀ c, Sound C.P c (E c)) (c : Code) : Sound C.P c (code C E c) := by
  induction c with
  | skip => exact sound_skip
  | region id ops draw =>
    cases draw with
    | false => exact sound_plain hC hE id ops
    | true => exact sound_draw hC hE id ops
  | seq x y hx hy => exact sound_seq hx hy
  | cond c x y hx hy => exact sound_cond hx hy
  | block i x hx => exact sound_block hx
  | loop x hx => rw [code_loop]; exact sound_loop hx
  | rangeFunc f ps assign body _ _ => exact sound_range hC hE f ps assign body
  | exit i => exact sound_exit i
  | scope x hx => exact sound_scope hx
  | label i => exact sound_label i
  | goto i => exact sound_goto i
  | ret => exact sound_ret
  | refuse s => exact sound_bad _ s
theorem sound_exec (hC : CtxOK C) (n : Nat) (c : Code) : Sound C.P c (exec C n c) := by
  induction n generalizing c with
  | zero => exact sound_bad c "calls fuel"
  | succ n ih => exact sound_code hC ih c
/-- A closed call that comes to true here comes to true there, from whatever world, and turns nothing that lay there. -/
theorem run_ok (hC : CtxOK C) {n f nx : Nat} {args : List AV} {args' : Array Value} {base : Hp} {ρ : Rho} {ov : Hp} {w : World} {L : List Out} (h : HR base ρ ov w) (ha : VRL ρ args args'.toList)
    (hr : callK C (exec C n) base f args ov nx (fun v ov nx => .ok [(v, ov, nx)]) = .ok L) : Goes C.P f args' w fun v w' => ∃ x ∈ L, ∃ ρ', Thru base ρ ov w ρ' x.2.1 w' ∧ HR base ρ' x.2.1 w' ∧ VR ρ' x.1 v := by
  refine callK_ok (l := L) hC (sound_exec hC n) h ha ⟨L, hr, fun _ h => h⟩ ?_
  intro v ov' nx' ρ' v' w' hs ht hh hv
  obtain ⟨L2, e, hm⟩ := hs
  cases e
  exact ⟨_, hm _ (List.mem_cons_self ..), ρ', ht, hh, hv⟩
end
end Go.Ab
