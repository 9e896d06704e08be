/- The abstract machine of these proofs, part 10: binary and unary operators. -/
import Derived.Test.YtfnmplolnlaomaaGreatDoorMachineA
import Derived.Laws.BytesString
namespace Go.Ab
open Go.RowKit
section
variable {P : Program} {base ov : Hp} {ρ : Rho} {w : World} {l : List Out} {nx : Nat} {K : KV}

/-- The order of strings is total: what is neither less nor equal is more. -/
theorem less_flip : ∀ x y : List UInt8, (!Op.bytesLess x y && !(x == y)) = Op.bytesLess y x := by
  intro x
  induction x with
  | nil => intro y; cases y <;> simp [Op.bytesLess]
  | cons a x ih =>
    intro y
    cases y with
    | nil => simp [Op.bytesLess]
    | cons b y =>
      have := ih y
      simp only [Op.bytesLess, ← this]
      rcases Nat.lt_trichotomy a.toNat b.toNat with h | h | h
      · have h1 : a < b := h
        have h2 : ¬ b < a := fun h' => Nat.lt_asymm h h'
        have h3 : ¬ b = a := fun e => by subst e; exact Nat.lt_irrefl _ h
        simp [h1, h2, h3]
      · have e : a = b := UInt8.toNat_inj.mp h
        subst e
        have h2 : ¬ a < a := fun h' => Nat.lt_irrefl _ h'
        simp [h2]
      · have h1 : b < a := h
        have h2 : ¬ a < b := fun h' => Nat.lt_asymm h h'
        have h3 : ¬ a = b := fun e => by subst e; exact Nat.lt_irrefl _ h
        simp [h1, h2, h3]
/-- The guard ahead of an operator lets it pass. -/
theorem run_eqGuard_other (op : BinOp) (h1 : op ≠ .eql) (h2 : op ≠ .neq) (t : TypeId) (xo yo : Operand) (x y : Value) : (eqGuard op t xo yo x y).run P w = .ok () w := by
  cases op <;> first | exact absurd rfl h1 | exact absurd rfl h2 | simp [eqGuard]
theorem equal_shape (h : HR base ρ ov w) {d : Nat} (hd : d ≤ Op.maxDepth) {t : TypeId} {x y : AV} {x' y' : Value} {b : Bool} (hx : VR ρ x x') (hy : VR ρ y y') (hg : P.eqGuardType P.depth t = false)
    (he : eqV P base ov d t x y = some b) (xo yo : Operand) :
    (eqGuard .eql t xo yo x' y').run P w = .ok () w ∧ (eqGuard .neq t xo yo x' y').run P w = .ok () w ∧
    (binOp .eql t x' y').run P w = .ok (.bool b) w ∧ (binOp .neq t x' y').run P w = .ok (.bool !b) w := by
  have heq := eqV_ok (P := P) h d t x y x' y' b hx hy he Op.maxDepth hd
  have heq : (Op.equal t x' y').run P w = .ok b w := heq
  have hg : P.eqGuardType P.depth t = false := hg
  cases d with
  | zero => simp [eqV] at he
  | succ d =>
    unfold eqV at he
    split at he <;> (try cases he) <;> cases hx <;> cases hy <;>
      first
        | (refine ⟨?_, ?_, ?_, ?_⟩ <;> simp [eqGuard, binOp, heq]; done)
        | (refine ⟨?_, ?_, ?_, ?_⟩ <;> simp [eqGuard, program, Sem.run, binOp, heq] <;> (intro hh; rw [hg] at hh; cases hh))
        | skip
    · split at he
      · rename_i hk
        have := (ikEq_iff _ _).1 hk
        subst this
        cases he
        refine ⟨by simp [eqGuard], by simp [eqGuard], ?_, ?_⟩ <;> (simp [binOp, Op.intCmp, eqI_eq]; try (rw [Bool.eq_iff_iff]; simp))
      · cases he
    · rename_i _ h1 _ h2 _
      subst h1; subst h2
      refine ⟨by simp [eqGuard], by simp [eqGuard], ?_, ?_⟩ <;> simp [binOp, Op.stringOp, eqNs_bytes]
theorem eqlK_ok (h : HR base ρ ov w) {t : TypeId} {x y : AV} {x' y' : Value} {wy : String} {B : Bool → Ans} (hx : VR ρ x x') (hy : VR ρ y y') (hs : Sat (eqlK P base ov t x y wy B) l) (xo yo : Operand) :
    ∃ b, Sat (B b) l ∧ (eqGuard .eql t xo yo x' y').run P w = .ok () w ∧ (eqGuard .neq t xo yo x' y').run P w = .ok () w ∧
    (binOp .eql t x' y').run P w = .ok (.bool b) w ∧ (binOp .neq t x' y').run P w = .ok (.bool !b) w := by
  unfold eqlK at hs
  split at hs
  · split at hs
    · rename_i hk
      have := (ikEq_iff _ _).1 hk
      subst this
      cases hx; cases hy
      refine ⟨_, hs, by simp [eqGuard], by simp [eqGuard], ?_, ?_⟩ <;> (simp [binOp, Op.intCmp, eqI_eq]; try (rw [Bool.eq_iff_iff]; simp))
    · exact (not_sat_bad hs).elim
  · cases hx with
    | str h1 => cases hy with
      | str h2 =>
        subst h1; subst h2
        refine ⟨_, hs, by simp [eqGuard], by simp [eqGuard], ?_, ?_⟩ <;> simp [binOp, Op.stringOp, eqNs_bytes]
  · unfold eqAnyK at hs
    split at hs
    · exact (not_sat_bad hs).elim
    · rename_i hg
      split at hs
      · rename_i b hb
        exact ⟨b, hs, equal_shape h (by decide) hx hy hg hb xo yo⟩
      · exact (not_sat_bad hs).elim

/-- A binary operator, its guard ahead of it. -/
theorem binR_ok (h : HR base ρ ov w) {op : BinOp} {t : TypeId} {x y : AV} {x' y' : Value} {wy : String} (hx : VR ρ x x') (hy : VR ρ y y') (xo yo : Operand) (hs : Sat (binR op P base ov t x y wy nx K) l) :
    Calm P l ρ w ov nx K (do eqGuard op t xo yo x' y'; binOp op t x' y') := by
  have other : ∀ {v : AV} {v' : Value}, op ≠ .eql → op ≠ .neq → Sat (K v ov nx) l → VR ρ v v' → (binOp op t x' y').run P w = .ok v' w → Calm P l ρ w ov nx K (do eqGuard op t xo yo x' y'; binOp op t x' y') :=
    fun h1 h2 a b c => ⟨_, _, a, b, by simp [run_eqGuard_other op h1 h2, c]⟩
  cases op with
  | add =>
    replace hs : Sat (addR P base ov t x y wy nx K) l := hs
    unfold addR at hs
    split at hs
    · cases hx with
      | @str _ a h1 => cases hy with
        | @str _ b h2 =>
          split at hs
          · rename_i hl
            have hl := Nat.le_of_ble_eq_true hl
            rw [forceNs_eq] at hs
            subst h1; subst h2
            refine other (by simp) (by simp) hs (.str (s' := a ++ b) ?_) ?_
            · simp [ByteArray.data_append]
            · simp only [binOp]
              refine run_string_add_sum w a b ?_
              simp at hl
              have e1 : a.data.size = a.size := rfl
              have e2 : b.data.size = b.size := rfl
              omega
          · exact (not_sat_bad hs).elim
    · obtain ⟨k, a, b, e1, e2, h3⟩ := both_ok hx hy hs
      subst e1; subst e2
      exact other (by simp) (by simp) (retI_ok h3) (.int _ _) (by simp [binOp, Op.intArith, wrapI_eq, addI_eq])
  | sub =>
    obtain ⟨k, a, b, e1, e2, h3⟩ := both_ok hx hy (show Sat (bothInts x y wy _) l from hs)
    subst e1; subst e2
    exact other (by simp) (by simp) (retI_ok h3) (.int _ _) (by simp [binOp, Op.intArith, wrapI_eq, subI_eq])
  | mul =>
    obtain ⟨k, a, b, e1, e2, h3⟩ := both_ok hx hy (show Sat (bothInts x y wy _) l from hs)
    subst e1; subst e2
    exact other (by simp) (by simp) (retI_ok h3) (.int _ _) (by simp [binOp, Op.intArith, wrapI_eq])
  | quo =>
    obtain ⟨k, a, b, e1, e2, h3⟩ := both_ok hx hy (show Sat (bothInts x y wy _) l from hs)
    subst e1; subst e2
    split at h3
    · exact (not_sat_bad h3).elim
    · rename_i h0
      rw [eqI_eq] at h0
      have h0 : b ≠ 0 := by simpa using h0
      exact other (by simp) (by simp) (retI_ok h3) (.int _ _) (by simp [binOp, Op.intDiv, wrapI_eq, h0])
  | rem =>
    obtain ⟨k, a, b, e1, e2, h3⟩ := both_ok hx hy (show Sat (bothInts x y wy _) l from hs)
    subst e1; subst e2
    split at h3
    · exact (not_sat_bad h3).elim
    · rename_i h0
      rw [eqI_eq] at h0
      have h0 : b ≠ 0 := by simpa using h0
      exact other (by simp) (by simp) (retI_ok h3) (.int _ _) (by simp [binOp, Op.intDiv, h0])
  | and =>
    obtain ⟨k, a, b, e1, e2, h3⟩ := both_ok hx hy (show Sat (bothInts x y wy _) l from hs)
    subst e1; subst e2
    exact other (by simp) (by simp) (retI_ok h3) (.int _ _) (by simp [binOp, Op.intBits, wrapI_eq])
  | or =>
    obtain ⟨k, a, b, e1, e2, h3⟩ := both_ok hx hy (show Sat (bothInts x y wy _) l from hs)
    subst e1; subst e2
    exact other (by simp) (by simp) (retI_ok h3) (.int _ _) (by simp [binOp, Op.intBits, wrapI_eq])
  | xor =>
    obtain ⟨k, a, b, e1, e2, h3⟩ := both_ok hx hy (show Sat (bothInts x y wy _) l from hs)
    subst e1; subst e2
    exact other (by simp) (by simp) (retI_ok h3) (.int _ _) (by simp [binOp, Op.intBits, wrapI_eq])
  | andNot =>
    obtain ⟨k, a, b, e1, e2, h3⟩ := both_ok hx hy (show Sat (bothInts x y wy _) l from hs)
    subst e1; subst e2
    exact other (by simp) (by simp) (retI_ok h3) (.int _ _) (by simp [binOp, Op.intBits, wrapI_eq])
  | shl =>
    replace hs : Sat (shlR P base ov t x y wy nx K) l := hs
    unfold shlR at hs
    split at hs
    · cases hx; cases hy
      exact other (by simp) (by simp) (retI_ok hs) (.int _ _) (by simp [binOp, Op.shift, wrapI_eq]; omega)
    · exact (not_sat_bad hs).elim
  | shr =>
    replace hs : Sat (shrR P base ov t x y wy nx K) l := hs
    unfold shrR at hs
    split at hs
    · cases hx; cases hy
      exact other (by simp) (by simp) (retI_ok hs) (.int _ _) (by simp [binOp, Op.shift]; omega)
    · exact (not_sat_bad hs).elim
  | eql =>
    obtain ⟨b, h1, h2, h3, h4, h5⟩ := eqlK_ok h hx hy (show Sat (eqlK P base ov t x y wy _) l from hs) xo yo
    exact ⟨_, _, retB_ok h1, .bool _, by simp [h2, h4]⟩
  | neq =>
    obtain ⟨b, h1, h2, h3, h4, h5⟩ := eqlK_ok h hx hy (show Sat (eqlK P base ov t x y wy fun b => retB (!b) ov nx K) l from hs) xo yo
    exact ⟨_, _, retB_ok h1, .bool _, by simp [h3, h5]⟩
  | lss =>
    rcases lessK_ok hx hy (show Sat (lessK x y wy _) l from hs) with ⟨a, b, e1, e2, h3⟩ | ⟨k, a, b, e1, e2, h3⟩ <;> subst e1 <;> subst e2
    · exact other (by simp) (by simp) (retB_ok h3) (.bool _) (by simp [binOp, Op.stringOp])
    · exact other (by simp) (by simp) (retB_ok h3) (.bool _) (by simp [binOp, Op.intCmp])
  | geq =>
    rcases lessK_ok hx hy (show Sat (lessK x y wy fun b => retB (!b) ov nx K) l from hs) with ⟨a, b, e1, e2, h3⟩ | ⟨k, a, b, e1, e2, h3⟩ <;> subst e1 <;> subst e2
    · exact other (by simp) (by simp) (retB_ok h3) (.bool _) (by simp [binOp, Op.stringOp])
    · exact other (by simp) (by simp) (retB_ok h3) (.bool _) (by simp [binOp, Op.intCmp]; rw [Bool.eq_iff_iff]; simp)
  | gtr =>
    rcases lessK_ok hy hx (show Sat (lessK y x wy fun b => retB b ov nx K) l from hs) with ⟨a, b, e1, e2, h3⟩ | ⟨k, a, b, e1, e2, h3⟩ <;> subst e1 <;> subst e2
    · exact other (by simp) (by simp) (retB_ok h3) (.bool _) (by rw [← less_flip]; simp [binOp, Op.stringOp])
    · exact other (by simp) (by simp) (retB_ok h3) (.bool _) (by simp [binOp, Op.intCmp])
  | leq =>
    rcases lessK_ok hy hx (show Sat (lessK y x wy fun b => retB (!b) ov nx K) l from hs) with ⟨a, b, e1, e2, h3⟩ | ⟨k, a, b, e1, e2, h3⟩ <;> subst e1 <;> subst e2
    · exact other (by simp) (by simp) (retB_ok h3) (.bool _) (by rw [← less_flip]; simp [binOp, Op.stringOp])
    · exact other (by simp) (by simp) (retB_ok h3) (.bool _) (by simp [binOp, Op.intCmp]; rw [Bool.eq_iff_iff]; simp)
end
end Go.Ab
/- The abstract machine of these proofs, part 11: operations that leave memory as it is. -/
namespace Go.Ab
open Go.RowKit
section
variable {P : Program} {base ov : Hp} {ρ : Rho} {w : World} {l : List Out} {nx : Nat} {K : KV}

theorem run_getObj_of {r : Nat} {o : Obj} (h : w.heap[r]? = some o) (hc : ∀ c el fz, o ≠ .cells c el fz) : (getObj r).run P w = .ok o w := by
  unfold getObj
  simp only [Sem.run, h]
theorem VR.int_inv {v : Value} {k : IntKind} {n : Int} (h : VR ρ (.int k n) v) : v = .int k n := by cases h; rfl

/-! ### Loads, fields, elements -/
theorem load_ok (h : HR base ρ ov w) {t : TypeId} {a : AV} {a' : Value} {wy : String} {B : AV → Ans} (ha : VR ρ a a') (hs : Sat (loadK P base ov t a wy B) l) :
    ∃ v v', Sat (B v) l ∧ VR ρ v v' ∧ (Instr.loadAt t a').run P w = .ok v' w := by
  unfold loadK at hs
  split at hs
  · cases ha with
    | @ptr b e off hb =>
      split at hs
      · rename_i n hg hn
        obtain ⟨L, vs, h1, h2, h3, h4, _⟩ := readK_ok (P := P) h hb hs
        exact ⟨_, .agg vs.toArray, h1, .agg (by simpa using h2), by simp [Instr.loadAt, Instr.sureAddr, loadVar, run_isAgg hg, run_size hn, h4]⟩
      · rename_i n hg hn
        obtain ⟨v, v', h1, h2, h3⟩ := readOneK_ok (P := P) h hb hs
        exact ⟨v, v', h1, h2, by simp only [Instr.loadAt, Instr.sureAddr, loadVar, Sem.run_bind, Sem.run_pure, Result.andThen_ok, run_isAgg hg, Bool.false_eq_true, if_false, h3]⟩
      · exact (not_sat_bad hs).elim
  · exact (not_sat_bad hs).elim
theorem placeS_spec {fs : Array Field} {i d n : Nat} (h : placeS P fs i = some (d, n)) : ∃ f, fs[i]? = some f ∧ f.offset = d ∧ szOf P f.type = some n := by
  unfold placeS at h
  cases e : fs[i]? with
  | none => rw [e] at h; cases h
  | some f =>
    rw [e] at h
    simp at h
    obtain ⟨h1, h2, h3⟩ := h
    exact ⟨f, rfl, rfl, h1⟩
theorem fieldAddr_ok {s : TypeId} {f : Nat} {x : AV} {x' : Value} {wy : String} (hx : VR ρ x x')
    (hs : Sat (match (generalizing := false) placeS P (match P.underlying s with | some (.struct fs) => fs | _ => #[]) f, x with
      | some (d, _ + 1), .ptr b off => forceN (off + d) fun off => K (.ptr b off) ov nx
      | _, _ => Ans.bad wy) l) : Calm P l ρ w ov nx K (Instr.fieldAt s x' f) := by
  split at hs
  · rename_i d n b off hp
    rw [forceN_eq] at hs
    obtain ⟨fd, h1, h2, h3⟩ := placeS_spec hp
    split at h1
    · rename_i fs hu
      cases hx with
      | @ptr _ e _ hb =>
        refine ⟨_, _, hs, .ptr (off + d) hb, ?_⟩
        have := h2
        simp [Instr.fieldAt, run_underlying hu, h1, Instr.sureAddr, fieldPlace, run_size h3, add_eq, h2, Nat.add_assoc]
    · simp at h1
  · exact (not_sat_bad hs).elim
theorem optK_ok {o : Option AV} {wy : String} (hs : Sat (optK wy o ov nx K) l) : ∃ v, o = some v ∧ Sat (K v ov nx) l := by
  unfold optK at hs
  split at hs
  · exact ⟨_, rfl, ret_ok hs⟩
  · exact (not_sat_bad hs).elim
theorem field_ok {t : TypeId} {f : Nat} {x : AV} {x' : Value} {wy : String} (hx : VR ρ x x')
    (hs : Sat (match (generalizing := false) P.underlying t, x with
      | some (.struct fs), .agg cs => match fs[f]? with
        | some fd => optK wy (partA P fd.type cs fd.offset) ov nx K
        | none => .bad wy
      | _, _ => .bad wy) l) : Calm P l ρ w ov nx K (Instr.field t x' f) := by
  split at hs
  · rename_i fs cs hu
    cases hx with
    | agg hc =>
      split at hs
      · rename_i fd hf
        obtain ⟨v, hv, hs⟩ := optK_ok hs
        obtain ⟨v', h1, h2⟩ := part_ok hc hv
        exact ⟨v, v', hs, h2, by simp [Instr.field, run_underlying hu, hf, asAgg, h1]⟩
      · exact (not_sat_bad hs).elim
  · exact (not_sat_bad hs).elim
theorem indexAddr_ok {t : TypeId} {x i : AV} {x' i' : Value} {wy : String} (hx : VR ρ x x') (hi : VR ρ i i')
    (hs : Sat (match (generalizing := false) P.underlying t, x, i with
      | some (.array len e), .ptr b off, .int _ (.ofNat i) => match szOf P e, Nat.blt i len with
        | some n, true => forceN (off + i * n) fun off => K (.ptr b off) ov nx
        | _, _ => .bad wy
      | some (.slice e), .sl b off len _ n _, .int _ (.ofNat i) => match szOf P e, Nat.blt i len with
        | some m, true => match Nat.beq m n with
          | true => forceN (off + i * n) fun off => K (.ptr b off) ov nx
          | false => .bad wy
        | _, _ => .bad wy
      | _, _, _ => .bad wy) l) : Calm P l ρ w ov nx K (Instr.indexAt t x' i') := by
  split at hs
  · rename_i len e b off k i hu
    split at hs
    · rename_i n hn hlt
      have hlt := Nat.le_of_ble_eq_true hlt
      have hi := hi.int_inv
      subst hi
      cases hx with
      | @ptr _ en _ hb =>
        rw [forceN_eq] at hs
        refine ⟨_, _, hs, .ptr _ hb, ?_⟩
        have c1 : (0 : Int) ≤ Int.ofNat i ∧ Int.ofNat i < (len : Int) := ⟨Int.natCast_nonneg i, by show (i : Int) < len; omega⟩
        have c2 : (Int.ofNat i).toNat = i := rfl
        simp [Instr.indexAt, asIntOf, run_underlying hu, Instr.sureAddr, c1, c2, run_size hn, add_eq, Nat.add_assoc, -Int.ofNat_eq_natCast]
    · exact (not_sat_bad hs).elim
  · rename_i e b off len cap n ex k i hu
    split at hs
    · rename_i m hn hlt
      have hlt := Nat.le_of_ble_eq_true hlt
      have hi := hi.int_inv
      subst hi
      split at hs
      · rename_i hmn
        have hmn := Nat.eq_of_beq_eq_true hmn
        subst hmn
        cases hx with
        | @sl _ en _ _ _ cap' _ _ a hb hc hx' hl ha =>
          obtain ⟨ha, _⟩ := ha (by omega)
          subst ha
          rw [forceN_eq] at hs
          refine ⟨_, _, hs, .ptr _ hb, ?_⟩
          have c1 : (0 : Int) ≤ Int.ofNat i ∧ Int.ofNat i < (len : Int) := ⟨Int.natCast_nonneg i, by show (i : Int) < len; omega⟩
          have c2 : (Int.ofNat i).toNat = i := rfl
          simp [Instr.indexAt, asIntOf, run_underlying hu, c1, c2, run_size hn, add_eq, Nat.add_assoc, -Int.ofNat_eq_natCast]
      · exact (not_sat_bad hs).elim
    · exact (not_sat_bad hs).elim
  · exact (not_sat_bad hs).elim
theorem index_ok {t : TypeId} {x i : AV} {x' i' : Value} {wy : String} (hx : VR ρ x x') (hi : VR ρ i i')
    (hs : Sat (match (generalizing := false) P.underlying t, x, i with
      | some (.array len e), .agg cs, .int _ (.ofNat i) => match szOf P e, Nat.blt i len with
        | some n, true => optK wy (partA P e cs (i * n)) ov nx K
        | _, _ => .bad wy
      | some .string, .str s, .int _ (.ofNat i) => match s[i]? with
        | some c => K (.int .u8 (.ofNat c)) ov nx
        | none => .bad wy
      | _, _, _ => .bad wy) l) : Calm P l ρ w ov nx K (Instr.index t x' i') := by
  split at hs
  · rename_i len e cs k i hu
    split at hs
    · rename_i n hn hlt
      have hlt := Nat.le_of_ble_eq_true hlt
      have hi := hi.int_inv
      subst hi
      cases hx with
      | agg hc =>
        obtain ⟨v, hv, hs⟩ := optK_ok hs
        obtain ⟨v', h1, h2⟩ := part_ok hc hv
        refine ⟨v, v', hs, h2, ?_⟩
        have c1 : (0 : Int) ≤ Int.ofNat i ∧ Int.ofNat i < (len : Int) := ⟨Int.natCast_nonneg i, by show (i : Int) < len; omega⟩
        have c2 : (Int.ofNat i).toNat = i := rfl
        simp [Instr.index, asIntOf, run_underlying hu, c1, c2, run_size hn, h1, -Int.ofNat_eq_natCast]
    · exact (not_sat_bad hs).elim
  · rename_i s k i hu
    split at hs
    · rename_i c hc
      have hi := hi.int_inv
      subst hi
      cases hx with
      | @str _ s' hst =>
        subst hst
        rw [List.getElem?_map] at hc
        cases hb : s'.data.toList[i]? with
        | none => rw [hb] at hc; cases hc
        | some b =>
          rw [hb] at hc
          cases hc
          refine ⟨_, .int .u8 b.toNat, hs, .int _ _, ?_⟩
          have c1 : (0 : Int) ≤ Int.ofNat i := Int.natCast_nonneg i
          have c2 : (Int.ofNat i).toNat = i := rfl
          have c3 : s'[i]? = some b := by
            have hlt : i < s'.size := by
              rcases Nat.lt_or_ge i s'.data.toList.length with h | h
              · simpa using h
              · rw [List.getElem?_eq_none h] at hb; cases hb
            rw [getElem?_pos s' i hlt]
            rw [show s'[i] = s'.data[i] from rfl]
            congr 1
            have := hb
            simp only [Array.getElem?_toList] at this
            rw [Array.getElem?_eq_getElem (by exact hlt)] at this
            exact Option.some.inj this
          simp [Instr.index, asIntOf, run_underlying hu, c1, c2, c3, -Int.ofNat_eq_natCast]
    · exact (not_sat_bad hs).elim
  · exact (not_sat_bad hs).elim
theorem arrayAt_ok {t : TypeId} {x : AV} {x' : Value} {wy : String} (hx : VR ρ x x')
    (hs : Sat (match (generalizing := false) P.underlying t, x with
      | some (.array n e), .sl b off len _ es _ => match Nat.ble n len, Nat.blt 0 n, szOf P e with
        | true, true, some m => match Nat.beq m es with
          | true => K (.ptr b off) ov nx
          | false => .bad wy
        | _, _, _ => .bad wy
      | _, _ => .bad wy) l) : Calm P l ρ w ov nx K (Instr.arrayAt t x') := by
  split at hs
  · rename_i n e b off len cap es ex hu
    split at hs
    · rename_i m hle hlt hm
      have hle := Nat.le_of_ble_eq_true hle
      have hlt := Nat.le_of_ble_eq_true hlt
      split at hs
      · cases hx with
        | @sl _ en _ _ _ cap' _ _ a hb hc hx' hl ha =>
          obtain ⟨ha, _⟩ := ha (by omega)
          subst ha
          refine ⟨_, _, hs, .ptr _ hb, ?_⟩
          have : ¬ len < n := by omega
          simp [Instr.arrayAt, run_underlying hu, this]
      · exact (not_sat_bad hs).elim
    · exact (not_sat_bad hs).elim
  · exact (not_sat_bad hs).elim
theorem extract_ok {x : AV} {x' : Value} {i : Nat} {wy : String} (hx : VR ρ x x')
    (hs : Sat (match (generalizing := false) x with
      | .tup l => match lget l i with
        | some v => K v ov nx
        | none => .bad wy
      | _ => .bad wy) l) : Calm P l ρ w ov nx K (Instr.extract x' i) := by
  split at hs
  · rename_i hx
    cases hx with
    | tup ht =>
      split at hs
      · rename_i v hv
        rw [lget_eq] at hv
        obtain ⟨v', h1, h2⟩ := ht.get hv
        refine ⟨v, v', hs, h2, ?_⟩
        rw [Array.getElem?_toList] at h1
        simp [Instr.extract, h1]
      · exact (not_sat_bad hs).elim
  · exact (not_sat_bad hs).elim
theorem unary_ok {op : UnOp} {x : AV} {x' : Value} {wy : String} (hx : VR ρ x x')
    (hs : Sat (match (generalizing := false) op, x with
      | .neg, .int k n => retI k (wrapI k (subI 0 n)) ov nx K
      | .xor, .int k n => retI k (wrapI k (BitVec.ofInt k.bits (if k.signed then -1 else k.max) ^^^ BitVec.ofInt k.bits n).toNat) ov nx K
      | .not, .bool b => retB (!b) ov nx K
      | _, _ => .bad wy) l) : Calm P l ρ w ov nx K (Op.unary op x') := by
  split at hs
  · rename_i hx; cases hx; exact ⟨_, _, retI_ok hs, .int _ _, by simp [Op.unary, Op.intArith, wrapI_eq, subI_eq]⟩
  · rename_i hx; cases hx; exact ⟨_, _, retI_ok hs, .int _ _, by simp [Op.unary, Op.intBits, wrapI_eq]⟩
  · rename_i hx; cases hx; exact ⟨_, _, retB_ok hs, .bool _, by simp [Op.unary]⟩
  · exact (not_sat_bad hs).elim
end
end Go.Ab
/- The abstract machine of these proofs, part 12: maps read, lengths, parts of slices, conversions, composites. -/
namespace Go.Ab
open Go.RowKit
section
variable {P : Program} {base ov : Hp} {ρ : Rho} {w : World} {l : List Out} {nx : Nat} {K : KV}

/-! ### Maps -/
theorem MRL.length {es : List MEnt} {es' : List MapEntry} (h : MRL ρ es es') : es.length = es'.length := by
  induction h with
  | nil => rfl
  | cons h t ih => simp [ih]
theorem keyEq_ok {kd : TypeDesc} {a b : AV} {a' b' : Value} (ha : VR ρ a a') (hb : VR ρ b b') (hk : fitsK kd a = true) {r : Bool} (h : keyEq a b = some r) : Instr.sameNow kd a' b' = some r := by
  unfold keyEq at h
  split at h
  · have ha := ha.int_inv
    have hb := hb.int_inv
    subst ha; subst hb
    split at h
    · rename_i hh
      have := (ikEq_iff _ _).1 hh
      subst this
      cases h
      cases kd <;> simp [fitsK] at hk
      simp [Instr.sameNow, eqI_eq]
      rw [Bool.eq_iff_iff]; simp
    · cases h
  · rename_i ha hb
    cases ha with
    | str h1 => cases hb with
      | str h2 =>
        subst h1; subst h2
        cases h
        cases kd <;> simp [fitsK] at hk
        simp [Instr.sameNow, eqNs_bytes']
  · rename_i ha hb
    cases ha; cases hb
    cases h
    cases kd <;> simp [fitsK] at hk
    simp [Instr.sameNow]
  · cases h
/-- A found entry, here and there. -/
def Found (ρ : Rho) : Option (Nat × AV) → Option (Nat × Value) → Prop
  | none, none => True
  | some (i, v), some (j, v') => i = j ∧ VR ρ v v'
  | _, _ => False
theorem findK_ok {kd : TypeDesc} {k : AV} {k' : Value} (hk' : VR ρ k k') (hk : fitsK kd k = true) {es : List MEnt} {es' : List MapEntry} (h : MRL ρ es es') : ∀ (i : Nat) (r : Option (Nat × AV)), findK k es i = some r →
    ∃ r', Instr.findNow kd k' es' i = some r' ∧ Found ρ r r' := by
  induction h with
  | nil => intro i r h; simp [findK] at h; subst h; exact ⟨none, rfl, trivial⟩
  | cons he t ih =>
    intro i r h
    unfold findK at h
    split at h
    · rename_i hq
      cases h
      have := keyEq_ok (kd := kd) hk' he.key hk hq
      exact ⟨some (i, _), by simp [Instr.findNow, this], rfl, he.val⟩
    · rename_i hq
      have := keyEq_ok (kd := kd) hk' he.key hk hq
      obtain ⟨r', h1, h2⟩ := ih _ _ h
      exact ⟨r', by simp [Instr.findNow, this, h1], h2⟩
    · cases h
theorem keyFits_spec {t : TypeId} {k : AV} (h : keyFits P t k = true) : ∃ kd, P.underlying t = some kd ∧ fitsK kd k = true := by
  unfold keyFits at h
  split at h
  · rename_i kd hu; exact ⟨kd, hu, h⟩
  · cases h
theorem run_checkKey_of {t : TypeId} {k : AV} {k' : Value} (hf : keyFits P t k = true) (hk : VR ρ k k') (em : Bool) (n : Nat) : (Instr.checkKey em (n + 1) t k').run P w = .ok () w := by
  obtain ⟨kd, hu, hm⟩ := keyFits_spec hf
  unfold Instr.checkKey fitsK at *
  split at hm <;> first | (cases hk; simp [run_underlying hu]; done) | (cases hm; done)
theorem run_findKey_of {t : TypeId} {k : AV} {k' : Value} (hf : keyFits P t k = true) (hk : VR ρ k k') {es : List MEnt} {es' : List MapEntry} (h : MRL ρ es es') {r : Option (Nat × AV)} (hr : findK k es 0 = some r) :
    ∃ r', (Instr.findKey t k' es').run P w = .ok r' w ∧ Found ρ r r' := by
  obtain ⟨kd, hu, hm⟩ := keyFits_spec hf
  obtain ⟨r', h1, h2⟩ := findK_ok hk hm h 0 r hr
  exact ⟨r', by simp [Instr.findKey, run_underlying hu, h1], h2⟩
theorem ofMap (h : HR base ρ ov w) {b : Id} {e : Ent} (he : ρ b = some e) {es : List MEnt} {c : Nat} (hl : look base ov b = some (.map es c)) :
    ∃ es', w.heap[e.r]? = some (.map es' c) ∧ MRL ρ es es'.toList ∧ (getObj e.r).run P w = .ok (.map es' c) w := by
  obtain ⟨es', h1, h2⟩ := h.block b _ e hl he
  exact ⟨es', h1, h2, run_getObj_of h1 (by simp)⟩
theorem entriesOf_ok (h : HR base ρ ov w) {m : AV} {m' : Value} (hm : VR ρ m m') {es : List MEnt} (he : entriesOf base ov m = some es) :
    (m' = .map none ∧ es = []) ∨ ∃ r es' c, m' = .map (some r) ∧ (getObj r).run P w = .ok (.map es' c) w ∧ MRL ρ es es'.toList := by
  unfold entriesOf at he
  split at he
  · cases hm; cases he; exact .inl ⟨rfl, rfl⟩
  · cases hm with
    | @map _ e hb =>
      split at he
      · rename_i es0 c hl
        cases he
        obtain ⟨es', h1, h2, h3⟩ := ofMap (P := P) h hb hl
        exact .inr ⟨_, es', c, rfl, h3, h2⟩
      · cases he
  · cases he
theorem lookup_ok (h : HR base ρ ov w) {t : TypeId} {m k : AV} {m' k' : Value} {ok : Bool} {wy : String} (hm : VR ρ m m') (hk : VR ρ k k') (hs : Sat (lookupK P base ov t m k ok wy nx K) l) :
    Calm P l ρ w ov nx K (Instr.lookup t m' k' ok) := by
  unfold lookupK at hs
  split at hs
  · rename_i kt et es hu hes
    have main : ∀ {r : Option (Nat × AV)}, keyFits P kt k = true → findK k es 0 = some r → ∃ es' : Array MapEntry, ∃ r', Found ρ r r' ∧ (Instr.findKey kt k' es'.toList).run P w = .ok r' w ∧
        (Instr.lookup t m' k' ok).run P w = ((do
          let (v, okk) ← match r' with
            | some (_, v) => pure (v, true)
            | none => pure (← zeroValue et, false)
          pure (if ok then Value.tuple #[v, .bool okk] else v) : Sem Value)).run P w := by
      intro r hf hr
      rcases entriesOf_ok (P := P) h hm hes with ⟨e1, e2⟩ | ⟨r0, es', c, e1, e2, e3⟩
      · subst e1; subst e2
        obtain ⟨r', q1, q2⟩ := run_findKey_of (P := P) (w := w) hf hk (MRL.nil) hr
        refine ⟨#[], r', q2, q1, ?_⟩
        cases r' <;> simp [Instr.lookup, run_underlying hu, run_checkKey_of hf hk, q1]
      · subst e1
        obtain ⟨r', q1, q2⟩ := run_findKey_of (P := P) (w := w) hf hk e3 hr
        refine ⟨es', r', q2, q1, ?_⟩
        cases r' <;> simp [Instr.lookup, run_underlying hu, run_checkKey_of hf hk, e2, q1]
    split at hs
    · rename_i i v hf hr
      obtain ⟨es', r', q1, q2, q3⟩ := main hf hr
      cases r' with
      | none => exact q1.elim
      | some p =>
        obtain ⟨j, v'⟩ := p
        refine ⟨_, .tuple #[v', .bool true], hs, .tup (.cons q1.2 (.cons (.bool _) .nil)), ?_⟩
        rw [q3]; simp
    · rename_i i v hf hr
      obtain ⟨es', r', q1, q2, q3⟩ := main hf hr
      cases r' with
      | none => exact q1.elim
      | some p =>
        obtain ⟨j, v'⟩ := p
        refine ⟨_, v', hs, q1.2, ?_⟩
        rw [q3]; simp
    · rename_i hf hr
      obtain ⟨es', r', q1, q2, q3⟩ := main hf hr
      cases r' with
      | some p => exact q1.elim
      | none =>
        split at hs
        · rename_i z hz
          obtain ⟨z', hz1, hz2⟩ := run_zero hz
          rw [forceV_eq] at hs
          subst hz1
          refine ⟨_, .tuple #[z', .bool false], hs, .tup (.cons (ofValue_VR _) (.cons (.bool _) .nil)), ?_⟩
          rw [q3]; simp [hz2]
        · exact (not_sat_bad hs).elim
    · rename_i hf hr
      obtain ⟨es', r', q1, q2, q3⟩ := main hf hr
      cases r' with
      | some p => exact q1.elim
      | none =>
        split at hs
        · rename_i z hz
          obtain ⟨z', hz1, hz2⟩ := run_zero hz
          subst hz1
          refine ⟨_, z', ret_ok hs, ofValue_VR _, ?_⟩
          rw [q3]; simp [hz2]
        · exact (not_sat_bad hs).elim
    · exact (not_sat_bad hs).elim
  · exact (not_sat_bad hs).elim
end
end Go.Ab
/- The abstract machine of these proofs, part 13: lengths, parts of slices, conversions, composites. -/
namespace Go.Ab
open Go.RowKit
section
variable {P : Program} {base ov : Hp} {ρ : Rho} {w : World} {l : List Out} {nx : Nat} {K : KV}

theorem find_ok {es : List MEnt} {es' : List MapEntry} (h : MRL ρ es es') (s : Nat) {e : MEnt} (hf : es.find? (fun e => Nat.beq e.born s) = some e) : ∃ e', es'.find? (·.born == s) = some e' ∧ MR ρ e e' := by
  induction h with
  | nil => simp at hf
  | cons he t ih =>
    rename_i a b l1 l2
    simp only [List.find?_cons] at hf ⊢
    have : (b.born == s) = Nat.beq a.born s := by
      rw [he.born, Bool.eq_iff_iff]; simp
    rw [this]
    split at hf
    · cases hf; exact ⟨b, rfl, he⟩
    · exact ih hf
theorem entry_ok (h : HR base ρ ov w) {x : AV} {x' : Value} {v : AV} (hx : VR ρ x x') (hv : entryV base ov x = some v) (hs : Sat (K v ov nx) l) : Calm P l ρ w ov nx K (Instr.entry x') := by
  unfold entryV at hv
  split at hv
  · cases hx with
    | @ptr b e _ hb =>
      split at hv
      · rename_i m since seen stamp stepped nb hl
        split at hv
        · rename_i es clock hlm
          split at hv
          · cases hv
          · rename_i hc
            have hc : clock = stepped := by simpa using hc
            obtain ⟨m', seen', h1, h2, h3, h4, h5⟩ := h.block _ _ e hl hb
            obtain ⟨em, h6, h7⟩ := h4
            subst h7
            obtain ⟨es', g1, g2, g3⟩ := ofMap (P := P) h h6 hlm
            cases hfind : es.find? (fun e => Nat.beq e.born stamp) with
            | none => rw [hfind] at hv; cases hv
            | some en =>
              rw [hfind] at hv
              cases hv
              obtain ⟨en', q1, q2⟩ := find_ok g2 stamp hfind
              have q1 : es'.find? (fun e => e.born == stamp) = some en' := by rw [← Array.find?_toList]; exact q1
              have hb := h3 stamp rfl
              have hg := run_getObj_of (P := P) h1 (by simp)
              refine ⟨_, .tuple #[en'.key, en'.val], hs, .tup (.cons q2.key (.cons q2.val .nil)), ?_⟩
              simp [Instr.entry, h5, hg, hb, g3, hc, q1]
        · cases hv
      · cases hv
  · cases hv

/-! ### Lengths -/
theorem len_ok (h : HR base ρ ov w) {ts : Array TypeId} {t : TypeId} (ht : ts[0]? = some t) {x : AV} {x' : Value} {wy : String} {B : Nat → Ans} (hx : VR ρ x x') (hs : Sat (lenK base ov P t x wy B) l) :
    ∃ n, Sat (B n) l ∧ ∀ ty, (Builtin.len_ ts ty #[x']).run P w = .ok (.int .i64 (.ofNat n)) w := by
  unfold lenK at hs
  split at hs
  · rename_i hx hu
    cases hx with
    | str h1 => subst h1; exact ⟨_, hs, fun ty => by simp [Builtin.len_, ht, run_underlying hu, goInt]⟩
  · rename_i hx hu
    cases hx; exact ⟨_, hs, fun ty => by simp [Builtin.len_, ht, run_underlying hu, goInt]⟩
  · rename_i hx hu
    cases hx; exact ⟨_, hs, fun ty => by simp [Builtin.len_, ht, run_underlying hu, goInt]⟩
  · rename_i hx hu
    cases hx; exact ⟨_, hs, fun ty => by simp [Builtin.len_, ht, run_underlying hu, goInt]⟩
  · rename_i hx hu
    cases hx with
    | map hb =>
      split at hs
      · rename_i es c hl
        obtain ⟨es', g1, g2, g3⟩ := ofMap (P := P) h hb hl
        refine ⟨_, hs, fun ty => ?_⟩
        have := g2.length
        simp [Builtin.len_, ht, run_underlying hu, goInt, g3, this]
      · exact (not_sat_bad hs).elim
  · rename_i hu
    exact ⟨_, hs, fun ty => by simp [Builtin.len_, ht, run_underlying hu, goInt]⟩
  · rename_i hu
    split at hs
    · rename_i hu2
      exact ⟨_, hs, fun ty => by simp [Builtin.len_, ht, run_underlying hu, run_underlying hu2, goInt]⟩
    · exact (not_sat_bad hs).elim
  · exact (not_sat_bad hs).elim
theorem maxMin_ok {less : Int → Int → Bool} {f : Value → Value → Sem Value} (hf : ∀ k a b, (f (.int k a) (.int k b)) = pure (.int k (if less a b then b else a))) :
    ∀ {xs : List AV} {xs' : List Value} {x : AV} {x' : Value} {wy : String}, VRL ρ xs xs' → VR ρ x x' → Sat (maxMin less x xs wy ov nx K) l → Calm P l ρ w ov nx K (xs'.foldlM f x') := by
  intro xs
  induction xs with
  | nil =>
    intro xs' x x' wy hl hx hs
    cases hl
    cases x <;> exact ⟨_, x', hs, hx, by simp⟩
  | cons y xs ih =>
    intro xs' x x' wy hl hx hs
    cases hl with
    | cons hy ht =>
      unfold maxMin at hs
      split at hs
      · cases ‹_ :: _ = []›
      · rename_i k a k' b l0 _ _ _ _ e
        cases e
        have hx := hx.int_inv
        have hy := hy.int_inv
        subst hx; subst hy
        split at hs
        · rename_i hk hl
          have := (ikEq_iff _ _).1 hk
          subst this
          simp only [List.foldlM_cons, hf, hl, if_true]
          exact ih ht (.int _ _) hs
        · rename_i hk hl
          have := (ikEq_iff _ _).1 hk
          subst this
          simp only [List.foldlM_cons, hf, hl]
          exact ih ht (.int _ _) hs
        · exact (not_sat_bad hs).elim
      · exact (not_sat_bad hs).elim

/-! ### Parts of slices -/
theorem bound_ok {v : Option AV} {v' : Option Value} (hv : match v, v' with | none, none => True | some a, some a' => VR ρ a a' | _, _ => False) {d m n : Nat} (h : bound v d m = some n) :
    (v = none ∧ v' = none ∧ n = d) ∨ (∃ k, v' = some (.int k n) ∧ v.isSome = true ∧ n ≤ m) := by
  unfold bound at h
  split at h
  · cases v' with
    | none => cases h; exact .inl ⟨rfl, rfl, rfl⟩
    | some => exact hv.elim
  · split at h
    · rename_i hle
      cases h
      cases v' with
      | none => exact hv.elim
      | some v' =>
        have hv := VR.int_inv hv
        subst hv
        exact .inr ⟨_, rfl, rfl, Nat.le_of_ble_eq_true hle⟩
    · cases h
  · cases h
theorem run_sliceBound_of {k : IntKind} {n m : Nat} {c : BoundsCode} (h : n ≤ m) : (Instr.sliceBound (.int k n) m c).run P w = .ok n w := by
  have : (0 : Int) ≤ n ∧ (n : Int) ≤ m := ⟨Int.natCast_nonneg n, by omega⟩
  simp [Instr.sliceBound, asIntOf, h]
/-- Options that stand to each other. -/
def OV (ρ : Rho) : Option AV → Option Value → Prop
  | none, none => True
  | some a, some a' => VR ρ a a'
  | _, _ => False
theorem bounds_ok {lo hi mx : Option AV} {lo' hi' mx' : Option Value} (h1 : OV ρ lo lo') (h2 : OV ρ hi hi') (h3 : OV ρ mx mx') {isS : Bool} {len cap cap' m h k : Nat} (hm : bound mx cap cap = some m) (hh : bound hi len m = some h) (hk : bound lo 0 h = some k)
    (hlen : len ≤ cap) (hcap : cap ≤ cap') (hbad : (mx.isSome && hi.isNone) = false) :
    ∃ m', (Instr.sliceBounds isS len cap' lo' hi' mx').run P w = .ok (k, h, m') w ∧ k ≤ h ∧ h ≤ m ∧ m ≤ m' ∧ m' ≤ cap' ∧ ((mx = none ∧ m = cap ∧ m' = cap') ∨ (mx.isSome = true ∧ m = m')) := by
  have lowCase : ∀ {H : Nat} {C : BoundsCode}, h ≤ H → k ≤ h ∧ (lo' = none ∧ k = 0 ∨ ∃ kd, lo' = some (.int kd k)) := by
    intro H C _
    rcases bound_ok (by simpa [OV] using h1) hk with ⟨a, b, c⟩ | ⟨kd, a, b, c⟩
    · exact ⟨by omega, .inl ⟨b, c⟩⟩
    · exact ⟨c, .inr ⟨kd, a⟩⟩
  obtain ⟨hkh, hlow⟩ := lowCase (H := h) (C := .index) (Nat.le_refl _)
  rcases bound_ok (by simpa [OV] using h3) hm with ⟨a1, a2, a3⟩ | ⟨kd3, a1, a2, a3⟩
  · subst a1; subst a2; subst a3
    rcases bound_ok (by simpa [OV] using h2) hh with ⟨b1, b2, b3⟩ | ⟨kd2, b1, b2, b3⟩
    · subst b1; subst b2; subst b3
      refine ⟨cap', ?_, hkh, hlen, hcap, Nat.le_refl _, .inl ⟨rfl, rfl, rfl⟩⟩
      rcases hlow with ⟨c1, c2⟩ | ⟨kd, c1⟩
      · subst c1; subst c2; simp [Instr.sliceBounds]
      · subst c1; simp [Instr.sliceBounds, run_sliceBound_of hkh]
    · subst b1
      refine ⟨cap', ?_, hkh, b3, hcap, Nat.le_refl _, .inl ⟨rfl, rfl, rfl⟩⟩
      have hb : h ≤ cap' := by omega
      rcases hlow with ⟨c1, c2⟩ | ⟨kd, c1⟩
      · subst c1; subst c2; simp [Instr.sliceBounds, run_sliceBound_of hb]
      · subst c1; simp [Instr.sliceBounds, run_sliceBound_of hkh, run_sliceBound_of hb]
  · subst a1
    rcases bound_ok (by simpa [OV] using h2) hh with ⟨b1, b2, b3⟩ | ⟨kd2, b1, b2, b3⟩
    · subst b1; simp [a2] at hbad
    · subst b1
      refine ⟨m, ?_, hkh, b3, Nat.le_refl _, by omega, .inr ⟨a2, rfl⟩⟩
      have hm' : m ≤ cap' := by omega
      rcases hlow with ⟨c1, c2⟩ | ⟨kd, c1⟩
      · subst c1; subst c2; simp [Instr.sliceBounds, run_sliceBound_of b3, run_sliceBound_of hm']
      · subst c1; simp [Instr.sliceBounds, run_sliceBound_of hkh, run_sliceBound_of b3, run_sliceBound_of hm']
theorem slice_ok {t : TypeId} {x : AV} {x' : Value} {lo hi mx : Option AV} {lo' hi' mx' : Option Value} {v : AV} (hx : VR ρ x x') (h1 : OV ρ lo lo') (h2 : OV ρ hi hi') (h3 : OV ρ mx mx') (hv : sliceV P t x lo hi mx = some v)
    (hs : Sat (K v ov nx) l) : Calm P l ρ w ov nx K (Instr.sliceAt t x' lo' hi' mx') := by
  unfold sliceV at hv
  split at hv
  · rename_i s hx hu
    cases hx with
    | @str _ s' hst =>
      subst hst
      split at hv
      · cases hv
      · rename_i hmx
        have hmx : mx = none := by cases mx <;> simp at hmx ⊢
        subst hmx
        have hmx' : mx' = none := by cases mx' <;> simp [OV] at h3 ⊢
        subst hmx'
        cases hh : bound hi (s'.data.toList.map UInt8.toNat).length (s'.data.toList.map UInt8.toNat).length with
        | none => rw [hh] at hv; cases hv
        | some h =>
          rw [hh] at hv
          simp only [Option.bind_some] at hv
          cases hk : bound lo 0 h with
          | none => rw [hk] at hv; cases hv
          | some k =>
            rw [hk] at hv
            cases hv
            have e1 : (s'.data.toList.map UInt8.toNat).length = s'.size := by simp
            rw [e1] at hh
            obtain ⟨m', g1, g2, g3, g4, g5, g6⟩ := bounds_ok (P := P) (w := w) (mx := none) (mx' := none) (isS := false) h1 h2 trivial (cap := s'.size) (cap' := s'.size) (m := s'.size) rfl hh hk (Nat.le_refl _) (Nat.le_refl _) rfl
            refine ⟨_, .string (s'.extract k h), hs, .str ?_, ?_⟩
            · rw [ByteArray.data_extract, Array.toList_extract, List.extract_eq_take_drop, List.map_take, List.map_drop, ← List.drop_take]
            · simp [Instr.sliceAt, run_underlying hu, Instr.slice, g1]
  · rename_i e hu
    cases hx
    split at hv
    · cases hv
    · rename_i hbad
      simp only [Bool.or_eq_true, not_or, Bool.not_eq_true] at hbad
      obtain ⟨hes, hbad⟩ := hbad
      obtain ⟨es, hes⟩ : ∃ n, szOf P e = some n := by cases hq : szOf P e with
        | none => rw [hq] at hes; cases hes
        | some n => exact ⟨n, rfl⟩
      cases hm : bound mx 0 0 with
      | none => rw [hm] at hv; cases hv
      | some m =>
        rw [hm] at hv
        simp only [Option.bind_some] at hv
        cases hh : bound hi 0 m with
        | none => rw [hh] at hv; cases hv
        | some h =>
          rw [hh] at hv
          simp only [Option.bind_some] at hv
          cases hk : bound lo 0 h with
          | none => rw [hk] at hv; cases hv
          | some k =>
            rw [hk] at hv
            cases hv
            obtain ⟨m', g1, g2, g3, g4, g5, g6⟩ := bounds_ok (P := P) (w := w) (isS := true) h1 h2 h3 (cap' := 0) hm hh hk (Nat.le_refl _) (Nat.le_refl _) hbad
            refine ⟨_, .slice none 0 0, hs, .nils, ?_⟩
            have e1 : m' = 0 := by omega
            have e2 : h = 0 := by omega
            have e3 : k = 0 := by omega
            subst e1; subst e2; subst e3
            simp [Instr.sliceAt, run_underlying hu, Instr.slice, g1, run_size hes]
  · rename_i e b off len cap es ex hu
    split at hv
    · cases hv
    · rename_i hbad
      simp only [Bool.or_eq_true, decide_eq_true_eq, not_or, Bool.not_eq_true] at hbad
      obtain ⟨hes, hbad⟩ := hbad
      have hes : szOf P e = some es := by simpa using hes
      cases hx with
      | @sl _ en _ _ _ cap' _ _ a hb hc hx' hl ha =>
        cases hm : bound mx cap cap with
        | none => rw [hm] at hv; cases hv
        | some m =>
          rw [hm] at hv
          simp only [Option.bind_some] at hv
          cases hh : bound hi len m with
          | none => rw [hh] at hv; cases hv
          | some h =>
            rw [hh] at hv
            simp only [Option.bind_some] at hv
            cases hk : bound lo 0 h with
            | none => rw [hk] at hv; cases hv
            | some k =>
              rw [hk] at hv
              cases hv
              obtain ⟨m', g1, g2, g3, g4, g5, g6⟩ := bounds_ok (P := P) (w := w) (isS := true) h1 h2 h3 (cap' := cap') hm hh hk hl hc hbad
              refine ⟨_, .slice (some (if m' = k then a else a.add (k * es))) (h - k) (m' - k), hs, .sl hb (by omega) (fun hxx => ?_) (by omega) (fun h0 => ?_), ?_⟩
              · rcases g6 with ⟨q1, q2, q3⟩ | ⟨q1, q2⟩
                · subst q1
                  have := hx' (by simpa using hxx)
                  omega
                · omega
              · have hne : m' ≠ k := by omega
                obtain ⟨ha1, ha2⟩ := ha (by omega)
                rw [if_neg hne, ha1, add_eq]
                refine ⟨by simp [Nat.add_assoc], fun hxx => ?_⟩
                have hxf : ex = false := by cases ex <;> simp at hxx ⊢
                have ha2 := ha2 hxf
                have : k * es + (m' - k) * es = m' * es := by rw [← Nat.add_mul]; congr 1; omega
                have h3 : m' * es ≤ cap' * es := Nat.mul_le_mul_right _ g5
                omega
              · simp [Instr.sliceAt, run_underlying hu, Instr.slice, g1, run_size hes]
                split <;> rfl
  · rename_i n e b off hu
    split at hv
    · cases hv
    · rename_i hbad
      have hbad : (mx.isSome && hi.isNone) = false := by revert hbad; cases mx <;> cases hi <;> simp
      cases hx with
      | @ptr _ en _ hb =>
        cases hes : szOf P e with
        | none => rw [hes] at hv; cases hv
        | some es =>
          rw [hes] at hv
          simp only [Option.bind_some] at hv
          cases hm : bound mx n n with
          | none => rw [hm] at hv; cases hv
          | some m =>
            rw [hm] at hv
            simp only [Option.bind_some] at hv
            cases hh : bound hi n m with
            | none => rw [hh] at hv; cases hv
            | some h =>
              rw [hh] at hv
              simp only [Option.bind_some] at hv
              cases hk : bound lo 0 h with
              | none => rw [hk] at hv; cases hv
              | some k =>
                rw [hk] at hv
                cases hv
                obtain ⟨m', g1, g2, g3, g4, g5, g6⟩ := bounds_ok (P := P) (w := w) (isS := false) h1 h2 h3 (cap' := n) hm hh hk (Nat.le_refl _) (Nat.le_refl _) hbad
                have hmm : m = m' := by rcases g6 with ⟨q1, q2, q3⟩ | ⟨q1, q2⟩ <;> omega
                subst hmm
                refine ⟨_, .slice (some (if m = k then ⟨en.r, en.d + off, none⟩ else (⟨en.r, en.d + off, none⟩ : Addr).add (k * es))) (h - k) (m - k), hs, .sl hb (Nat.le_refl _) (fun _ => rfl) (by omega) (fun h0 => ?_), ?_⟩
                · rw [if_neg (by omega), add_eq]
                  exact ⟨by simp [Nat.add_assoc], fun hf => by cases hf⟩
                · simp [Instr.sliceAt, run_underlying hu, Instr.sureAddr, g1, run_size hes]
  · cases hv
end
end Go.Ab
/- The abstract machine of these proofs, part 14: conversions, composites. -/
namespace Go.Ab
open Go.RowKit
section
variable {P : Program} {base ov : Hp} {ρ : Rho} {w : World} {l : List Out} {nx : Nat} {K : KV}

/-! ### The first cells of a slice or a string -/
theorem strCells_VRC (ρ : Rho) (s : List UInt8) : VRC ρ (strCells (s.map UInt8.toNat)) (s.map fun b => Value.int .u8 b.toNat) := by
  induction s with
  | nil => exact .nil
  | cons a s ih => exact .cons rfl (.int .u8 a.toNat) ih
theorem elems_ok (h : HR base ρ ov w) {es n : Nat} {x : AV} {x' : Value} {wy : String} {B : List AV → Ans} (hx : VR ρ x x') (hs : Sat (elemsK base ov es n x wy B) l) :
    ∃ L vs, Sat (B L) l ∧ VRC ρ L vs ∧ vs.length = n * es ∧ ∀ w', w'.heap = w.heap → (Builtin.firstCells es n x').run P w' = .ok vs.toArray w' := by
  unfold elemsK at hs
  split at hs
  · split at hs
    · rename_i hn
      have hn := Nat.eq_of_beq_eq_true hn
      subst hn
      cases hx
      exact ⟨[], [], hs, .nil, by simp, fun w' _ => by simp [Builtin.firstCells]⟩
    · exact (not_sat_bad hs).elim
  · rename_i b off len cap es' ex
    split at hs
    · rename_i h1 h2 h3
      have h1 := Nat.eq_of_beq_eq_true h1
      have h3 := Nat.eq_of_beq_eq_true h3
      subst h1; subst h3
      cases hx with
      | sl hb hc hx hl ha => exact ⟨[], [], hs, .nil, by simp, fun w' _ => by simp [Builtin.firstCells, loadCells, loadCellsFrom]⟩
    · rename_i h1 h2 h3
      have h1 := Nat.eq_of_beq_eq_true h1
      have h2 := Nat.le_of_ble_eq_true h2
      have h3 : n ≠ 0 := by intro e; subst e; simp at h3
      subst h1
      cases hx with
      | @sl _ en _ _ _ cap' _ _ a hb hc hx hl ha =>
        obtain ⟨ha, _⟩ := ha (by omega)
        subst ha
        obtain ⟨L, vs, g1, g2, g3, g4, g5⟩ := readK_ok (P := P) h hb hs
        refine ⟨L, vs, g1, g2, g3, fun w' hw => ?_⟩
        have := run_loadCells_list (P := P) (w := w') (⟨en.r, en.d + off, none⟩ : Addr) vs (fun j v hj => by
          have := g5 j v hj
          rw [add_eq]
          unfold World.cell? at this ⊢
          rw [hw]
          exact this)
        rw [g3] at this
        simpa [Builtin.firstCells] using this
    · exact (not_sat_bad hs).elim
  · rename_i s
    split at hs
    · rename_i h1 h2
      have h1 := Nat.eq_of_beq_eq_true h1
      have h2 := Nat.le_of_ble_eq_true h2
      subst h1
      cases hx with
      | @str _ s' hst =>
        subst hst
        rw [forceL_eq] at hs
        rw [← List.map_take] at hs
        refine ⟨_, (s'.data.toList.take n).map fun b => Value.int .u8 b.toNat, hs, strCells_VRC ρ _, ?_, fun w' _ => ?_⟩
        · simp at h2 ⊢; omega
        · simp only [Builtin.firstCells, Sem.run_pure]
          congr 1
          apply Array.ext'
          simp [ByteArray.data_extract, Array.toList_extract, List.extract_eq_take_drop]
    · exact (not_sat_bad hs).elim
  · exact (not_sat_bad hs).elim

/-! ### Conversions -/
theorem bytesOfCells_ok : ∀ {L : List AV} {vs : List Value} {bs : List Nat}, VRC ρ L vs → bytesOfCells L = some bs → ∃ ns : List Int, vs = ns.map (Value.int .u8) ∧ ns.map (fun n => (UInt8.ofNat n.toNat).toNat) = bs := by
  intro L
  induction L with
  | nil => intro vs bs h hb; cases h; cases hb; exact ⟨[], rfl, rfl⟩
  | cons a L ih =>
    intro vs bs h hb
    cases h with
    | cons c h t =>
      unfold bytesOfCells at hb
      split at hb
      · cases ‹_ :: _ = []›
      · rename_i n l0 e
        cases e
        split at hb
        · rename_i hn
          have hn := Nat.le_of_ble_eq_true hn
          cases hq : bytesOfCells L with
          | none => rw [hq] at hb; cases hb
          | some bs' =>
            rw [hq] at hb
            cases hb
            obtain ⟨ns, e1, e2⟩ := ih t hq
            have h := h.int_inv
            subst h
            refine ⟨Int.ofNat n :: ns, by simp [e1], ?_⟩
            simp only [List.map_cons, e2]
            congr 1
            show (UInt8.ofNat n).toNat = n
            simp; omega
        · cases hb
      · cases hb
theorem foldl_push (ns : List Int) (s : ByteArray) : (ns.foldl (fun r n => r.push (UInt8.ofNat n.toNat)) s).data.toList.map UInt8.toNat = s.data.toList.map UInt8.toNat ++ ns.map (fun n => (UInt8.ofNat n.toNat).toNat) := by
  induction ns generalizing s with
  | nil => simp
  | cons n ns ih => rw [List.foldl_cons, ih]; simp [ByteArray.data_push]
theorem underlying_isSome {t : TypeId} {d : TypeDesc} (h : P.underlying t = some d) : ∀ w, (underlying t).run P w = .ok d w := fun w => run_underlying h w
theorem convert_ok (h : HR base ρ ov w) {s d : TypeId} {x : AV} {x' : Value} {wy : String} (hc : calmConv P d = true) (hx : VR ρ x x') (hs : Sat (convertK P base ov nx s d x wy K) l) :
    Calm P l ρ w ov nx K (convert s d x') := by
  unfold convertK at hs
  split at hs
  · rename_i hx hu hd
    have := hx.int_inv
    subst this
    exact ⟨_, _, retI_ok hs, .int _ _, by simp [convert, run_underlying hu, run_underlying hd, Conv.intToInt, wrapI_eq]⟩
  · rename_i td k n hu hd
    have := hx.int_inv
    subst this
    split at hs
    · rename_i hn
      have hn := Nat.le_of_ble_eq_true hn
      refine ⟨_, .string (Utf8.encode (Int.ofNat n)), hs, .str ?_, by simp [convert, run_underlying hu, run_underlying hd, Conv.intToString]⟩
      have v : Utf8.valid (Int.ofNat n) = true := by simp [Utf8.valid]; left; omega
      have e : (Int.ofNat n).toNat = n := rfl
      unfold Utf8.encode
      simp only [v, if_true, e]
      rw [if_pos (by omega)]
      simp; omega
    · exact (not_sat_bad hs).elim
  · rename_i hx hu hd
    cases hx with
    | str hst => exact ⟨_, _, hs, .str hst, by simp [convert, run_underlying hu, run_underlying hd]⟩
  · rename_i hd
    simp [calmConv, hd] at hc
  · rename_i e hx hu hd
    cases hx
    split at hs
    · rename_i he
      exact ⟨_, .string .empty, hs, .str rfl, by simp [convert, run_underlying hu, run_underlying hd, run_underlying he, Conv.bytesToString]⟩
    · exact (not_sat_bad hs).elim
  · rename_i e b off len cap es ex hu hd
    split at hs
    · rename_i he
      obtain ⟨L, vs, g1, g2, g3, g4⟩ := elems_ok (P := P) h hx hs
      unfold toStrK at g1
      split at g1
      · rename_i bs hb
        rw [forceNs_eq] at g1
        obtain ⟨ns, e1, e2⟩ := bytesOfCells_ok g2 hb
        cases hx with
        | @sl _ en _ _ _ cap' _ _ a hb hc hx hl ha =>
          have hrun : (loadCells a len).run P w = .ok (ns.map (Value.int .u8)).toArray w := by
            have := g4 w rfl
            rw [e1] at this
            simpa [Builtin.firstCells] using this
          have := run_bytesToString (P := P) w a len cap' ns hrun
          refine ⟨_, _, g1, .str (s' := ns.foldl (fun r n => r.push (UInt8.ofNat n.toNat)) ByteArray.empty) ?_, ?_⟩
          · rw [foldl_push]; simpa using e2
          · rw [run_convert_bytes_string w s d e (some a) len cap' hu he hd]; exact this
      · exact (not_sat_bad g1).elim
    · exact (not_sat_bad hs).elim
  · rename_i hd
    simp [calmConv, hd] at hc
  · exact (not_sat_bad hs).elim

/-! ### Composites -/
theorem zipIdx_setRange (off : Nat) : ∀ (vs : List Value) (c : Array Value) (k : Nat), (vs.zipIdx k).foldl (fun cs (p : Value × Nat) => cs.setIfInBounds (off + p.2) p.1) c = setRange c (off + k) vs
  | [], _, _ => rfl
  | v :: vs, c, k => by
    simp only [List.zipIdx_cons, List.foldl_cons, setRange]
    exact zipIdx_setRange off vs _ (k + 1)
theorem VRC.put {cs : List AV} {cs' : Array Value} (h : VRC ρ cs cs'.toList) {L : List AV} {vs : List Value} (hl : VRC ρ L vs) {off : Nat} (ho : off + L.length ≤ cs.length) : VRC ρ (lput cs off L) (setRange cs' off vs).toList := by
  have hsz := h.length
  have hls := hl.length
  simp only [Array.length_toList] at hsz
  have hsz2 : (lput cs off L).length = (setRange cs' off vs).toList.length := by
    rw [lput_length, Array.length_toList]; exact hsz.trans (setRange_size _ _ _).symm
  refine VRC.of hsz2 fun i v hi => ?_
  rw [lput_get _ _ _ _ ho] at hi
  rw [Array.getElem?_toList, setRange_get _ _ _ _ (by omega)]
  split at hi
  · rename_i hc
    rw [if_pos (by omega)]
    exact hl.get hi
  · rename_i hc
    rw [if_neg (by omega)]
    obtain ⟨a, b⟩ := h.get hi
    exact ⟨a, by simpa using b⟩
inductive Parts (ρ : Rho) : List (Nat × AV) → List (Nat × Value) → Prop
  | nil : Parts ρ [] []
  | cons {i : Nat} {v : AV} {v' : Value} {l : List (Nat × AV)} {l' : List (Nat × Value)} (h : VR ρ v v') (t : Parts ρ l l') : Parts ρ ((i, v) :: l) ((i, v') :: l')
theorem fill_ok {place : Nat → Option (Nat × Nat)} {wy : String} {B : List AV → Ans} {ps : List (Nat × AV)} {ps' : List (Nat × Value)} (hp : Parts ρ ps ps') : ∀ {cs : List AV} {cs' : Array Value}, VRC ρ cs cs'.toList → Sat (fillK place wy cs ps B) l →
    ∃ cs2 cs2', Sat (B cs2) l ∧ Instr.fill place cs' ps' = some cs2' ∧ VRC ρ cs2 cs2'.toList ∧ cs2'.size = cs'.size := by
  induction hp with
  | nil => intro cs cs' h hs; exact ⟨cs, cs', hs, rfl, h, rfl⟩
  | cons hv t ih =>
    intro cs cs' h hs
    rename_i i v v' l1 l2
    unfold fillK at hs
    split at hs
    · exact (not_sat_bad hs).elim
    · rename_i off size hpl
      obtain ⟨L, g1, g2⟩ := cellsK_ok hv hs
      split at g1
      · rename_i hl hle
        have hl := (lenIs_iff _ _).1 hl
        have hle := Nat.le_of_ble_eq_true hle
        rw [lputK_eq] at g1
        obtain ⟨cs2, cs2', q1, q2, q3, q4⟩ := ih (h.put g2 (off := off) (by omega)) g1
        refine ⟨cs2, cs2', q1, ?_, q3, by rw [q4, setRange_size]⟩
        have hsz := h.length
        have hgl := g2.length
        simp only [Array.length_toList] at hsz hgl
        unfold Instr.fill
        simp only [hpl]
        have hn : ¬ (v'.cells.size ≠ size ∨ off + v'.cells.size > cs'.size) := by omega
        simp only [Bool.or_eq_true, decide_eq_true_eq, if_neg hn]
        rw [← q2]
        congr 1
        rw [← Array.foldl_toList, Array.toList_zipIdx]
        exact zipIdx_setRange off v'.cells.toList cs' 0
      · exact (not_sat_bad g1).elim
end
end Go.Ab
/- The abstract machine of these proofs, part 15: composites built, blocks made. -/
namespace Go.Ab
open Go.RowKit
section
variable {P : Program} {base ov : Hp} {ρ : Rho} {w : World} {l : List Out} {nx : Nat} {K : KV}

theorem run_places {fs : Array Field} (h : fs.toList.all (fun f => (szOf P f.type).isSome) = true) :
    (fs.mapM (fun f => do pure (f.offset, ← sizeOf f.type)) : Sem (Array (Nat × Nat))).run P w = .ok (fs.map fun f => (f.offset, (szOf P f.type).getD 0)) w := by
  rw [Array.mapM_eq_mapM_toList]
  have main : ∀ L : List Field, L.all (fun f => (szOf P f.type).isSome) = true → (L.mapM (fun f => do pure (f.offset, ← sizeOf f.type)) : Sem (List (Nat × Nat))).run P w = .ok (L.map fun f => (f.offset, (szOf P f.type).getD 0)) w := by
    intro L
    induction L with
    | nil => intro _; simp
    | cons f L ih =>
      intro h
      simp only [List.all_cons, Bool.and_eq_true] at h
      obtain ⟨n, hn⟩ := Option.isSome_iff_exists.1 h.1
      rw [List.mapM_cons]
      simp only [Sem.run_bind, run_size hn, Result.andThen_ok, Sem.run_pure, ih h.2]
      simp [hn]
  rw [show (List.toArray <$> (fs.toList.mapM (fun f => do pure (f.offset, ← sizeOf f.type))) : Sem (Array (Nat × Nat))) = (do let x ← fs.toList.mapM (fun f => do pure (f.offset, ← sizeOf f.type)); pure x.toArray) from rfl]
  simp only [Sem.run_bind, main fs.toList h, Result.andThen_ok, Sem.run_pure]
  rw [← Array.toList_map, Array.toArray_toList]
theorem places_get {fs : Array Field} (h : fs.toList.all (fun f => (szOf P f.type).isSome) = true) (i : Nat) : (fs.map fun f => (f.offset, (szOf P f.type).getD 0))[i]? = placeS P fs i := by
  unfold placeS
  rw [Array.getElem?_map]
  cases e : fs[i]? with
  | none => rfl
  | some f =>
    have hf : f ∈ fs.toList := by
      rw [← Array.getElem?_toList] at e
      exact List.mem_of_getElem? e
    have := List.all_eq_true.1 h f hf
    obtain ⟨n, hn⟩ := Option.isSome_iff_exists.1 this
    simp [hn]
theorem ofValue_cells {z : Value} {wy : String} {B : List AV → Ans} (hs : Sat (cellsK (AV.ofValue z) (.bad wy) B) l) : ∃ L, Sat (B L) l ∧ ∀ ρ, VRC ρ L z.cells.toList := by
  obtain ⟨L, h1, h2⟩ := cellsK_ok (ofValue_VR (ρ := fun _ => none) z) hs
  exact ⟨L, h1, fun ρ => by
    have : (Rho.le (fun _ => none) ρ) := fun _ _ h => by cases h
    exact VRC.mono this h2⟩
theorem parts_ok {fr : Fr} {ev : Operand → Value} : ∀ {ps : List (Nat × Operand)}, (∀ p ∈ ps, VR ρ (evS fr p.2) (ev p.2)) → Parts ρ (ps.map fun p => (p.1, evS fr p.2)) (ps.map fun p => (p.1, ev p.2))
  | [], _ => .nil
  | p :: _ps, h => .cons (h p (List.mem_cons_self ..)) (parts_ok fun q hq => h q (List.mem_cons_of_mem _ hq))
theorem build_ok {t : TypeId} {fr : Fr} {ev : Operand → Value} {ps : Array (Nat × Operand)} {wy : String} (hp : ∀ p ∈ ps.toList, VR ρ (evS fr p.2) (ev p.2))
    (hs : Sat (match P.underlying t, zeroV P t with
      | some (.struct fs), some z => match fs.toList.all (fun f => (szOf P f.type).isSome) with
        | true => buildWith wy (placeS P fs) fr ps.toList z ov nx K
        | false => .bad wy
      | some (.array _ e), some z => match szOf P e with
        | some n => buildWith wy (fun i => some (i * n, n)) fr ps.toList z ov nx K
        | none => .bad wy
      | _, _ => .bad wy) l) : Calm P l ρ w ov nx K (Instr.build t (ps.map fun p => (p.1, ev p.2))) := by
  have core : ∀ {place : Nat → Option (Nat × Nat)} {z : AV}, zeroV P t = some z → Sat (buildWith wy place fr ps.toList z ov nx K) l →
      ∃ z', (∀ w, (zeroValue t).run P w = .ok z' w) ∧ ∃ cs2 cs2', Sat (K (.agg cs2) ov nx) l ∧ Instr.fill place z'.cells (ps.map fun p => (p.1, ev p.2)).toList = some cs2' ∧ VRC ρ cs2 cs2'.toList := by
    intro place z hz hs
    obtain ⟨z', e1, e2⟩ := run_zero hz
    subst e1
    unfold buildWith at hs
    rw [evP_eq] at hs
    obtain ⟨L, g1, g2⟩ := ofValue_cells hs
    rw [forceL_eq] at g1
    obtain ⟨cs2, cs2', q1, q2, q3, _⟩ := fill_ok (parts_ok hp) (g2 ρ) g1
    exact ⟨z', e2, cs2, cs2', q1, by rw [← q2]; simp, q3⟩
  split at hs
  · rename_i fs z hu hz
    split at hs
    · rename_i hall
      obtain ⟨z', g1, cs2, cs2', g2, g3, g4⟩ := core hz hs
      refine ⟨_, .agg cs2', g2, .agg g4, ?_⟩
      have : (fun i => (fs.map fun f => (f.offset, (szOf P f.type).getD 0))[i]?) = placeS P fs := funext (places_get hall)
      simp only [Instr.build, Sem.run_bind, g1, Result.andThen_ok, run_underlying hu, run_places hall, this, g3, Sem.run_pure]
    · exact (not_sat_bad hs).elim
  · rename_i n0 e z hu hz
    split at hs
    · rename_i n hn
      obtain ⟨z', g1, cs2, cs2', g2, g3, g4⟩ := core hz hs
      refine ⟨_, .agg cs2', g2, .agg g4, ?_⟩
      simp only [Instr.build, Sem.run_bind, g1, Result.andThen_ok, run_underlying hu, run_size hn, g3, Sem.run_pure]
    · exact (not_sat_bad hs).elim
  · exact (not_sat_bad hs).elim

/-! ### New blocks -/
/-- What an operation that makes a block gives: the block's key, what lies there, the value; and how the model makes it. -/
def MadeAs (P : Program) (ρ : Rho) (S : Sem Value) (b : Id) (o : AO) (v : AV) (w : World) : Prop :=
  ∃ obj d s v', S.run P w = .ok v' (w.alloc obj) ∧ OR (upd ρ b ⟨w.heap.size, d, s⟩) (w.alloc obj) ⟨w.heap.size, d, s⟩ o ∧ VR (upd ρ b ⟨w.heap.size, d, s⟩) v v'
theorem makes_newC {t : TypeId} {L : List AV} {vs : List Value} {b : Id} {S : Sem Value} (hv : VRC ρ L vs) (hn : ρ b = none)
    (hrun : S.run P w = .ok (.pointer (some ⟨w.heap.size, 0, none⟩)) (w.alloc (.cells vs.toArray t))) : MadeAs P ρ S b (.cells L.length (.flat L) true) (.ptr b 0) w := by
  refine ⟨.cells vs.toArray t, 0, vs.length, _, hrun, ?_, ?_⟩
  · have := OR_flat (ρ' := ρ) (b := b) (more := []) (el := t) w hv (upd_le _ hn)
    simpa using this
  · have := VR.ptr (ρ := upd ρ b ⟨w.heap.size, 0, vs.length⟩) 0 (upd_same ρ b ⟨w.heap.size, 0, vs.length⟩)
    simpa using this

theorem forceL_ok {L : List AV} {B : List AV → Ans} (hs : Sat (forceL L B) l) : Sat (B L) l := by rwa [forceL_eq] at hs
/-- The abstract side of an operation that makes a block. -/
def Makes (base ov : Hp) (nx : Nat) (l : List Out) (K : KV) (b : Id) (o : AO) (v : AV) : Prop :=
  absent base ov b = true ∧ Sat (K v (ov.set b (some o)) (nx + 1)) l ∧ b = Id.of nx
theorem alloc_ok {t : TypeId} {wy : String} (hs : Sat (match szOf P t, zeroV P t with
    | some n, some z => cellsK z (.bad wy) fun l => match lenIs l n with
      | true => forceL l fun l => newC base ov nx n l fun b ov nx => K (.ptr b 0) ov nx
      | false => .bad wy
    | _, _ => .bad wy) l) : ∃ b o v, Makes base ov nx l K b o v ∧ ∀ ρ w, ρ b = none → MadeAs P ρ (Instr.alloc t true (.tuple #[])) b o v w := by
  split at hs
  · rename_i n z hn hz
    obtain ⟨z', e1, e2⟩ := run_zero hz
    subst e1
    obtain ⟨L, g1, g2⟩ := ofValue_cells hs
    split at g1
    · rename_i hl
      have hl := (lenIs_iff _ _).1 hl
      obtain ⟨h1, h2⟩ := newC_ok (forceL_ok g1)
      refine ⟨_, _, _, ⟨h1, h2, rfl⟩, fun ρ w hb => ?_⟩
      rw [← hl]
      refine makes_newC (t := t) (g2 ρ) hb ?_
      simp [Instr.alloc, e2, newVar, newRow]
    · exact (not_sat_bad g1).elim
  · exact (not_sat_bad hs).elim
theorem box_ok {t : TypeId} {v : AV} {wy : String} (hs : Sat (cellsK v (.bad wy) fun l => newC base ov nx l.length l fun b ov nx => K (.ptr b 0) ov nx) l) :
    ∃ b o u, Makes base ov nx l K b o u ∧ ∀ ρ w v', VR ρ v v' → ρ b = none → MadeAs P ρ (Instr.box t v') b o u w := by
  have main : ∀ L, Sat (newC base ov nx L.length L fun b ov nx => K (.ptr b 0) ov nx) l → (∀ ρ v', VR ρ v v' → VRC ρ L v'.cells.toList) →
      ∃ b o u, Makes base ov nx l K b o u ∧ ∀ ρ w v', VR ρ v v' → ρ b = none → MadeAs P ρ (Instr.box t v') b o u w := by
    intro L g1 g2
    obtain ⟨h1, h2⟩ := newC_ok g1
    refine ⟨_, _, _, ⟨h1, h2, rfl⟩, fun ρ w v' hv hb => ?_⟩
    refine makes_newC (t := t) (g2 ρ v' hv) hb ?_
    simp [Instr.box, newVar, newRow]
  have one : cellOk v = true → (∀ l, v ≠ .agg l) → ∀ ρ v', VR ρ v v' → VRC ρ [v] v'.cells.toList := by
    intro hc ha ρ v' hv
    cases hv <;> first | exact absurd rfl (ha _) | (simp [cellOk] at hc; done) | exact .cons rfl (by constructor <;> assumption) .nil
  unfold cellsK at hs
  split at hs
  · refine main _ hs fun ρ v' hv => ?_
    cases hv with
    | agg h => exact h
  · exact (not_sat_bad hs).elim
  · exact (not_sat_bad hs).elim
  · rename_i h1 h2 h3
    refine main _ hs (one ?_ h1)
    cases v <;> first | rfl | exact absurd rfl (h1 _) | exact absurd rfl h2 | exact absurd rfl (h3 _)
theorem makeMap_ok {t : TypeId} (hs : Sat (newB base ov nx (.map [] 0) fun b ov nx => K (.map b) ov nx) l) :
    ∃ b o v, Makes base ov nx l K b o v ∧ ∀ ρ w, ρ b = none → MadeAs P ρ (Instr.makeMap t none) b o v w := by
  obtain ⟨h1, h2⟩ := newB_ok hs
  refine ⟨_, _, _, ⟨h1, h2, rfl⟩, fun ρ w hb => ⟨.map #[] 0, 0, 0, .map (some w.heap.size), by simp [Instr.makeMap], ⟨#[], heap_alloc_new _ _, .nil⟩, ?_⟩⟩
  exact VR.map (e := ⟨w.heap.size, 0, 0⟩) (upd_same ρ _ _)

/-- Many copies of a row. -/
theorem repL_length (n : Nat) (L : List AV) : (repL n L).length = n * L.length := by
  induction n with
  | zero => simp [repL]
  | succ n ih => simp [repL, ih, Nat.succ_mul]; omega
theorem repL_get (n : Nat) (L : List AV) (i : Nat) (h : i < n * L.length) : (repL n L)[i]? = L[i % L.length]? := by
  induction n generalizing i with
  | zero => omega
  | succ n ih =>
    simp only [repL]
    by_cases hi : i < L.length
    · rw [List.getElem?_append_left hi, Nat.mod_eq_of_lt hi]
    · rw [List.getElem?_append_right (by omega), ih _ (by rw [Nat.succ_mul] at h; omega)]
      congr 1
      conv => rhs; rw [show i = (i - L.length) + L.length by omega]
      rw [Nat.add_mod_right]
theorem rangeCells_get (zero : Array Value) (n : Nat) (i : Nat) (h : i < n) (hz : 0 < zero.size) : ((Array.range n).map (fun j => zero[j % zero.size]!))[i]? = zero[i % zero.size]? := by
  have hm := Nat.mod_lt i hz
  rw [Array.getElem?_map, Array.getElem?_range, if_pos h]
  simp [hm]
theorem range_VRC {L : List AV} {zero : Array Value} (h : VRC ρ L zero.toList) (n : Nat) (hL : 0 < L.length) : VRC ρ (repL n L) ((Array.range (n * L.length)).map (fun j => zero[j % zero.size]!)).toList := by
  have hz := h.length
  simp only [Array.length_toList] at hz
  refine VRC.of (by rw [repL_length]; simp) fun i v hi => ?_
  have hlt : i < n * L.length := by
    rcases Nat.lt_or_ge i (repL n L).length with hh | hh
    · rwa [repL_length] at hh
    · rw [List.getElem?_eq_none hh] at hi; cases hi
  rw [repL_get _ _ _ hlt] at hi
  obtain ⟨a, v', b, c⟩ := h.get hi
  refine ⟨a, v', ?_, c⟩
  rw [Array.getElem?_toList, rangeCells_get _ _ _ hlt (by omega), ← hz, ← b, Array.getElem?_toList]
theorem VR.sl_new {r s len cap n : Nat} {b : Id} (hl : len ≤ cap) : VR (upd ρ b ⟨r, 0, s⟩) (.sl b 0 len cap n true) (.slice (some ⟨r, 0, none⟩) len cap) :=
  .sl (upd_same ρ b ⟨r, 0, s⟩) (Nat.le_refl _) (fun _ => rfl) hl fun _ => ⟨rfl, fun h => by cases h⟩
theorem buildSlice_ok {t : TypeId} {len : Nat} {fr : Fr} {ps : Array (Nat × Operand)} {wy : String}
    (hs : Sat (match P.underlying t with
      | some (.slice e) => match szOf P e, zeroV P e with
        | some n, some z => cellsK z (.bad wy) fun zs => match lenIs zs n, Nat.ble (len * n) 16777216, Nat.blt 0 n with
          | true, true, true => evP fr ps.toList fun vs => forceL (repL len zs) fun l => fillK (fun i => some (i * n, n)) wy l vs fun cs =>
            newC base ov nx (len * n) cs fun b ov nx => K (.sl b 0 len len n true) ov nx
          | _, _, _ => .bad wy
        | _, _ => .bad wy
      | _ => .bad wy) l) : ∃ b o v, Makes base ov nx l K b o v ∧ ∀ ρ w (ev : Operand → Value), (∀ p ∈ ps.toList, VR ρ (evS fr p.2) (ev p.2)) → ρ b = none → MadeAs P ρ (Instr.buildSlice t len (ps.map fun p => (p.1, ev p.2))) b o v w := by
  split at hs
  · rename_i e hu
    split at hs
    · rename_i n z hn hz
      obtain ⟨z', e1, e2⟩ := run_zero hz
      subst e1
      obtain ⟨L, g1, g2⟩ := ofValue_cells hs
      split at g1
      · rename_i hl hle hlt
        have hl := (lenIs_iff _ _).1 hl
        have hle := Nat.le_of_ble_eq_true hle
        have hlt := Nat.le_of_ble_eq_true hlt
        rw [evP_eq, forceL_eq] at g1
        subst hl
        have hzs : ∀ ρ : Rho, VRC ρ (repL len L) ((Array.range (len * L.length)).map (fun j => z'.cells[j % z'.cells.size]!)).toList := fun ρ => range_VRC (g2 ρ) len (by omega)
        have hzl := (g2 (fun _ => none)).length
        simp only [Array.length_toList] at hzl
        -- the abstract cells do not hang on the relation
        have fillAbs : ∀ {vs : List (Nat × AV)} {cs : List AV}, Sat (fillK (fun i => some (i * L.length, L.length)) wy cs vs fun cs => newC base ov nx (len * L.length) cs fun b ov nx => K (.sl b 0 len len L.length true) ov nx) l →
            ∃ cs2, Sat (newC base ov nx (len * L.length) cs2 fun b ov nx => K (.sl b 0 len len L.length true) ov nx) l ∧ ∀ (ρ : Rho) (vs' : List (Nat × Value)) (cs' : Array Value), Parts ρ vs vs' → VRC ρ cs cs'.toList →
              ∃ cs2', Instr.fill (fun i => some (i * L.length, L.length)) cs' vs' = some cs2' ∧ VRC ρ cs2 cs2'.toList ∧ cs2'.size = cs'.size := by
          intro vs
          induction vs with
          | nil =>
            intro cs hs
            refine ⟨cs, hs, fun ρ vs' cs' hp hc => ?_⟩
            cases hp
            exact ⟨cs', rfl, hc, rfl⟩
          | cons p vs ih =>
            intro cs hs
            obtain ⟨i, v⟩ := p
            unfold fillK at hs
            simp only at hs
            have key : ∀ M : List AV, (∀ ρ v', VR ρ v v' → VRC ρ M v'.cells.toList) → Sat (match lenIs M L.length, Nat.ble (i * L.length + L.length) cs.length with
                | true, true => lputK cs (i * L.length) M fun cs => fillK (fun i => some (i * L.length, L.length)) wy cs vs fun cs => newC base ov nx (len * L.length) cs fun b ov nx => K (.sl b 0 len len L.length true) ov nx
                | _, _ => .bad wy) l → ∃ cs2, Sat (newC base ov nx (len * L.length) cs2 fun b ov nx => K (.sl b 0 len len L.length true) ov nx) l ∧ ∀ (ρ : Rho) (vs' : List (Nat × Value)) (cs' : Array Value), Parts ρ ((i, v) :: vs) vs' → VRC ρ cs cs'.toList →
              ∃ cs2', Instr.fill (fun i => some (i * L.length, L.length)) cs' vs' = some cs2' ∧ VRC ρ cs2 cs2'.toList ∧ cs2'.size = cs'.size := by
              intro M hM h1
              split at h1
              · rename_i hl hle
                have hl := (lenIs_iff _ _).1 hl
                have hle := Nat.le_of_ble_eq_true hle
                rw [lputK_eq] at h1
                obtain ⟨cs2, q1, q2⟩ := ih h1
                refine ⟨cs2, q1, fun ρ vs' cs' hp hc => ?_⟩
                cases hp with
                | @cons _ _ v' _ l' hv ht =>
                have hm := hM ρ v' hv
                obtain ⟨cs2', r1, r2, r3⟩ := q2 ρ l' _ ht (hc.put hm (off := i * L.length) (by omega))
                refine ⟨cs2', ?_, r2, by rw [r3, setRange_size]⟩
                have hsz := hc.length
                have hgl := hm.length
                simp only [Array.length_toList] at hsz hgl
                unfold Instr.fill
                have hn : ¬ (v'.cells.size ≠ L.length ∨ i * L.length + v'.cells.size > cs'.size) := by omega
                simp only [Bool.or_eq_true, decide_eq_true_eq, if_neg hn]
                rw [← r1]
                congr 1
                rw [← Array.foldl_toList, Array.toList_zipIdx]
                exact zipIdx_setRange (i * L.length) v'.cells.toList cs' 0
              · exact (not_sat_bad h1).elim
            unfold cellsK at hs
            split at hs
            · exact key _ (fun ρ v' hv => by cases hv with | agg h => exact h) hs
            · exact (not_sat_bad hs).elim
            · exact (not_sat_bad hs).elim
            · rename_i a1 a2 a3
              refine key _ (fun ρ v' hv => ?_) hs
              cases hv <;> first | exact absurd rfl (a1 _) | exact absurd rfl a2 | exact absurd rfl (a3 _) | exact .cons rfl (by constructor <;> assumption) .nil
        obtain ⟨cs2, h1, h2⟩ := fillAbs g1
        obtain ⟨h3, h4⟩ := newC_ok h1
        refine ⟨_, _, _, ⟨h3, h4, rfl⟩, fun ρ w ev hp hb => ?_⟩
        obtain ⟨cs2', r1, r2, r3⟩ := h2 ρ _ _ (parts_ok hp) (hzs ρ)
        have hlen : cs2.length = len * L.length := by rw [r2.length, Array.length_toList, r3]; simp
        refine ⟨.cells cs2' e, 0, len * L.length, .slice (some ⟨w.heap.size, 0, none⟩) len len, ?_, ?_, .sl_new (Nat.le_refl _)⟩
        · have c1 : ¬ (len * L.length > 2 ^ 24) := by omega
          by_cases c2 : len * L.length = 0
          · have : (Array.range (len * L.length)).map (fun j => z'.cells[j % z'.cells.size]!) = #[] := by rw [c2]; simp
            rw [this] at r1
            have r1' : Instr.fill (fun i => some (i * L.length, L.length)) #[] (ps.map fun p => (p.1, ev p.2)).toList = some cs2' := by rw [← r1]; simp
            simp only [Instr.buildSlice, Sem.run_bind, run_underlying hu, Result.andThen_ok, run_size hn, c2, if_true]
            rw [if_neg (by decide)]
            have e0 : (Array.range 0).map (fun j => (#[] : Array Value)[j % (#[] : Array Value).size]!) = #[] := by simp
            simp only [Sem.run_bind, Sem.run_pure, Result.andThen_ok]
            rw [e0, r1']
            simp [newRow]
          · have r1' : Instr.fill (fun i => some (i * L.length, L.length)) ((Array.range (len * L.length)).map (fun j => z'.cells[j % z'.cells.size]!)) (ps.map fun p => (p.1, ev p.2)).toList = some cs2' := by rw [← r1]; simp
            simp only [Instr.buildSlice, Sem.run_bind, run_underlying hu, Result.andThen_ok, run_size hn, if_neg c1, if_neg c2, e2, Sem.run_pure, r1']
            simp [newRow]
        · have := OR_flat (ρ' := ρ) (b := Id.of nx) (more := []) (el := e) w r2 (upd_le _ hb)
          simp only [List.append_nil, List.length_nil, Nat.add_zero, Array.length_toList, Array.toArray_toList] at this
          rw [hlen] at this
          have hsz : cs2'.size = len * L.length := by rw [r3]; simp
          rw [hsz] at this
          exact this
      · exact (not_sat_bad g1).elim
    · exact (not_sat_bad hs).elim
  · exact (not_sat_bad hs).elim
theorem makeSlice_ok {t : TypeId} {lv cv : AV} {wy : String}
    (hs : Sat (match P.underlying t, lv, cv with
      | some (.slice e), .int _ (.ofNat l), .int _ (.ofNat c) => match szOf P e, bytesOf P e, zeroV P e with
        | some n, some by_, some z => cellsK z (.bad wy) fun zs => match Nat.ble l c && Nat.ble c 1048576 && Nat.ble by_ 1048576, lenIs zs n && Nat.blt 0 n with
          | true, true => makeRows n c zs fun r => newB base ov nx (.cells (c * n) r true) fun b ov nx => K (.sl b 0 l c n true) ov nx
          | _, _ => .bad wy
        | _, _, _ => .bad wy
      | _, _, _ => .bad wy) l) : ∃ b o v, Makes base ov nx l K b o v ∧ ∀ ρ w lv' cv', VR ρ lv lv' → VR ρ cv cv' → ρ b = none → MadeAs P ρ (Instr.makeSlice t lv' cv') b o v w := by
  split at hs
  · rename_i e k1 ln k2 c hu
    split at hs
    · rename_i n by_ z hn hby hz
      obtain ⟨z', e1, e2⟩ := run_zero hz
      subst e1
      obtain ⟨L, g1, g2⟩ := ofValue_cells hs
      split at g1
      · rename_i hb1 hb2
        simp only [Bool.and_eq_true] at hb1 hb2
        have q1 := Nat.le_of_ble_eq_true hb1.1.1
        have q2 := Nat.le_of_ble_eq_true hb1.1.2
        have q3 := Nat.le_of_ble_eq_true hb1.2
        have hl := (lenIs_iff _ _).1 hb2.1
        have hlt := Nat.le_of_ble_eq_true hb2.2
        subst hl
        have hzl := (g2 (fun _ => none)).length
        simp only [Array.length_toList] at hzl
        obtain ⟨i, z2, hi1, hi2, hi3⟩ := zeroV_spec hz
        have hz2 : z2 = z' := by
          have := e2 default
          simp [zeroValue, run_info hi1, hi2] at this
          exact this
        subst hz2
        have hby : i.bytes = by_ := by simpa [bytesOf, hi1] using hby
        have hsz : i.size = L.length := by simpa [szOf, hi1] using hn
        have hbytes : (i.bytes : Int) * (c : Int) ≤ 281474976710656 := by
          have : by_ * c ≤ 1048576 * 1048576 := Nat.mul_le_mul q3 q2
          rw [hby]
          have h2 : (by_ : Int) * (c : Int) = ((by_ * c : Nat) : Int) := by simp
          rw [h2]; omega
        have key : ∀ rows : Rows, rows.good (c * L.length) → (∀ j, j < c * L.length → rows.get j = L[j % L.length]?) → Sat (newB base ov nx (.cells (c * L.length) rows true) fun b ov nx => K (.sl b 0 ln c L.length true) ov nx) l →
            ∃ b o v, Makes base ov nx l K b o v ∧ ∀ ρ w lv' cv', VR ρ (.int k1 (.ofNat ln)) lv' → VR ρ (.int k2 (.ofNat c)) cv' → ρ b = none → MadeAs P ρ (Instr.makeSlice t lv' cv') b o v w := by
          intro rows hg hget hs
          obtain ⟨h1, h2⟩ := newB_ok hs
          refine ⟨_, _, _, ⟨h1, h2, rfl⟩, fun ρ w lv' cv' hl1 hl2 hb => ?_⟩
          have hl1 := hl1.int_inv
          have hl2 := hl2.int_inv
          subst hl1; subst hl2
          have hr := run_make (P := P) w t e i z2 hu hi1 hi2 k1 k2 (ln : Int) (c : Int) (by omega) (by omega) hbytes (by omega)
          rw [Int.toNat_natCast, Int.toNat_natCast, hsz] at hr
          refine ⟨_, 0, c * L.length, _, hr, ?_, .sl_new q1⟩
          refine OR_cells (heap_alloc_new _ _) (size_madeCells _ _) (Nat.le_refl _) (clean_zero _) (fun _ h => by simp at h) hg fun j hj => ?_
          have hm := Nat.mod_lt j (show 0 < L.length by omega)
          obtain ⟨a1, v', a2, a3⟩ := (g2 ρ).get (i := j % L.length) (v := L[j % L.length]) (by simp [hm])
          refine ⟨L[j % L.length], by rw [hget j hj]; simp [hm], a1, v', ?_, a3.mono (upd_le _ hb)⟩
          unfold madeCells
          rw [rangeCells_get _ _ _ hj (by omega), ← hzl, ← a2, Array.getElem?_toList]
        unfold makeRows at g1
        split at g1
        · rw [forceL_eq] at g1
          refine key _ ?_ ?_ g1
          · simp [Rows.good, repL_length]
          · intro j hj; exact repL_get _ _ _ hj
        · rw [forceL_eq] at g1
          refine key _ ?_ ?_ g1
          · exact ⟨by omega, fun k => by simp [Rows.row, Tr.get]⟩
          · intro j hj; simp [Rows.get, Rows.row, Tr.get]
      · exact (not_sat_bad g1).elim
    · exact (not_sat_bad hs).elim
  · exact (not_sat_bad hs).elim
end
end Go.Ab
