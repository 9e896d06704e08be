/- The abstract machine of these proofs, part 16: operations that change memory. -/
import Derived.Test.YtfnmplolnlaomaaGreatDoorMachineB
namespace Go.Ab
open Go.RowKit
section
variable {P : Program} {base ov : Hp} {ρ : Rho} {w : World} {l : List Out} {nx : Nat} {K : KV}

/-- What an operation gives that may change memory. -/
def Does (P : Program) (base : Hp) (l : List Out) (K : KV) (ρ : Rho) (ov : Hp) (w : World) (S : Sem Value) : Prop :=
  ∃ v ov' nx' ρ' v' w', Sat (K v ov' nx') l ∧ Thru base ρ ov w ρ' ov' w' ∧ HR base ρ' ov' w' ∧ VR ρ' v v' ∧ S.run P w = .ok v' w'
/-- The same, of one that gives no value. -/
def DoesU (P : Program) (base : Hp) (l : List Out) (K : KV) (ρ : Rho) (ov : Hp) (w : World) (S : Sem Unit) : Prop :=
  ∃ ov' nx' ρ' w', Sat (K (.tup []) ov' nx') l ∧ Thru base ρ ov w ρ' ov' w' ∧ HR base ρ' ov' w' ∧ S.run P w = .ok () w'
theorem Calm.does (h : HR base ρ ov w) {S : Sem Value} (hc : Calm P l ρ w ov nx K S) : Does P base l K ρ ov w S :=
  let ⟨v, v', a, b, c⟩ := hc
  ⟨v, ov, nx, ρ, v', w, a, .refl _ _ _ _, h, b, c⟩
theorem Makes.does (h : HR base ρ ov w) {S : Sem Value} {b : Id} {o : AO} {v : AV} (hm : Makes base ov nx l K b o v) (hr : ρ b = none → MadeAs P ρ S b o v w) : Does P base l K ρ ov w S := by
  obtain ⟨h1, h2, _⟩ := hm
  have hn := h.dom b h1
  obtain ⟨obj, d, s, v', r1, r2, r3⟩ := hr hn
  refine ⟨v, _, _, _, v', _, h2, .alloc h1 hn, ?_, r3, r1⟩
  exact (h.lay (some o) h1).alloc hn (by rw [look_set, if_pos rfl]) r2

theorem store_ok (h : HR base ρ ov w) {t : TypeId} {a v : AV} {a' v' : Value} {wy : String} (ha : VR ρ a a') (hv : VR ρ v v')
    (hs : Sat (match (generalizing := false) a, szOf P t, v with
      | .ptr b off, some n, v => cellsK v (.bad wy) fun l => writeK base ov b off n l fun ov => K (.tup []) ov nx
      | _, _, _ => .bad wy) l) : DoesU P base l K ρ ov w (Instr.storeAt t a' v') := by
  split at hs
  · rename_i b off n hn
    cases ha with
    | @ptr _ e _ hb =>
      obtain ⟨L, g1, g2⟩ := cellsK_ok hv hs
      obtain ⟨q0, ov', w', q1, q2, q3, q4⟩ := writeK_ok (P := P) h hb g2 g1
      refine ⟨ov', nx, ρ, w', q1, q3, q2, ?_⟩
      have : v'.cells.size = n := by simpa using q0
      simp [Instr.storeAt, Instr.sureAddr, storeVar, run_size hn, this, q4]
  · exact (not_sat_bad hs).elim

/-! ### Maps written -/
theorem run_setObj_of {r : Nat} {o o' : Obj} (h : w.heap[r]? = some o) (hc : ∀ c el fz, o ≠ .cells c el fz) : (setObj r o').run P w = .ok () { w with heap := w.heap.setIfInBounds r o' } := by
  unfold setObj
  cases o <;> first | exact absurd rfl (hc _ _ _) | simp [Sem.run, h]
theorem heap_setObj {r : Nat} {o o' : Obj} (h : w.heap[r]? = some o) : But r w { w with heap := w.heap.setIfInBounds r o' } ∧ ({ w with heap := w.heap.setIfInBounds r o' } : World).heap[r]? = some o' := by
  have hr : r < w.heap.size := by
    rcases Nat.lt_or_ge r w.heap.size with hh | hh
    · exact hh
    · rw [Array.getElem?_eq_none hh] at h; cases h
  refine ⟨⟨by simp, fun k hk => ?_, rfl, rfl, rfl⟩, ?_⟩
  · show (w.heap.setIfInBounds r o')[k]? = _
    rw [Array.getElem?_setIfInBounds_ne (Ne.symm hk)]
  · show (w.heap.setIfInBounds r o')[r]? = _
    simp [hr]
theorem setMap_ok (h : HR base ρ ov w) {b : Id} {e : Ent} (hb : ρ b = some e) {es0 : List MEnt} {c0 : Nat} (hl : look base ov b = some (.map es0 c0)) {es : List MEnt} {c : Nat} {es' : Array MapEntry} (hes : MRL ρ es es'.toList) {B : Hp → Ans} (hs : Sat (setMap ov b es c B) l) :
    ∃ ov' w', Sat (B ov') l ∧ Thru base ρ ov w ρ ov' w' ∧ HR base ρ ov' w' ∧ (setObj e.r (.map es' c)).run P w = .ok () w' := by
  unfold setMap at hs
  rw [spineE_eq, forceN_eq, Tr.setK_eq] at hs
  obtain ⟨es1, g1, g2, g3⟩ := ofMap (P := P) h hb hl
  obtain ⟨a1, a2⟩ := heap_setObj (o' := .map es' c) g1
  exact ⟨_, _, hs, .but hb a1, h.set hl hb a1 ⟨es', a2, hes⟩, run_setObj_of g1 (by simp)⟩
theorem esetAt_ok {es : List MEnt} {es' : List MapEntry} (h : MRL ρ es es') {k v : AV} {k' v' : Value} (hk : VR ρ k k') (hv : VR ρ v v') : ∀ i, MRL ρ (esetAt es i k v) (es'.modify i fun e => { e with key := k', val := v' }) := by
  induction h with
  | nil => intro i; cases i <;> exact .nil
  | cons he t ih =>
    intro i
    cases i with
    | zero => exact .cons ⟨hk, hv, he.born⟩ t
    | succ i => exact .cons he (ih i)
theorem edel_ok {es : List MEnt} {es' : List MapEntry} (h : MRL ρ es es') : ∀ i, MRL ρ (edel es i) (es'.eraseIdx i) := by
  induction h with
  | nil => intro i; cases i <;> exact .nil
  | cons he t ih =>
    intro i
    cases i with
    | zero => exact t
    | succ i => exact .cons he (ih i)
theorem MRL.append {a b : List MEnt} {a' b' : List MapEntry} (h : MRL ρ a a') (k : MRL ρ b b') : MRL ρ (a ++ b) (a' ++ b') := by
  induction h with
  | nil => exact k
  | cons h t ih => exact .cons h ih
/-- The key that lies there and the new one are the same bits. -/
theorem findNow_key {kd : TypeDesc} {k : Value} : ∀ {es : List MapEntry} {i j : Nat} {v : Value}, Instr.findNow kd k es i = some (some (j, v)) → i ≤ j ∧ ∃ e, es[j - i]? = some e ∧ Instr.sameNow kd k e.key = some true := by
  intro es
  induction es with
  | nil => intro i j v h; simp [Instr.findNow] at h
  | cons e es ih =>
    intro i j v h
    unfold Instr.findNow at h
    split at h
    · rename_i hq
      cases h
      exact ⟨Nat.le_refl _, e, by simp, hq⟩
    · obtain ⟨a, e', b, c⟩ := ih h
      refine ⟨by omega, e', ?_, c⟩
      have : j - i = (j - (i + 1)) + 1 := by omega
      rw [this, List.getElem?_cons_succ]; exact b
    · cases h
theorem sameBits_of {kd : TypeDesc} {a b : Value} (h : Instr.sameNow kd a b = some true) (n : Nat) : Instr.sameBits n b a = true := by
  unfold Instr.sameNow at h
  split at h
  · split at h
    · rename_i hk
      subst hk
      have h := Option.some.inj h
      simp only [beq_iff_eq] at h
      subst h
      cases n <;> simp [Instr.sameBits]
    · cases h
  · rename_i a b
    replace h := Option.some.inj h
    cases a with
    | mk a => cases b with
      | mk b =>
        have h : (a == b) = true := h
        have h : a = b := by simpa using h
        subst h
        cases n <;> (simp only [Instr.sameBits]; exact beq_self_eq_true a)
  · have h := Option.some.inj h
    simp only [beq_iff_eq] at h
    subst h
    cases n <;> simp [Instr.sameBits]
  · cases h
theorem mapUpdate_ok (h : HR base ρ ov w) {t : TypeId} {m k v : AV} {m' k' v' : Value} {wy : String} (hm : VR ρ m m') (hk : VR ρ k k') (hv : VR ρ v v') (hs : Sat (mapUpdateK P base ov nx t m k v wy K) l) :
    DoesU P base l K ρ ov w (Instr.mapUpdate t m' k' v') := by
  unfold mapUpdateK at hs
  split at hs
  · rename_i kt et b hm hu
    cases hm with
    | @map _ e hb =>
      split at hs
      · rename_i es clock hf hl
        obtain ⟨es', g1, g2, g3⟩ := ofMap (P := P) h hb hl
        obtain ⟨kd, hu2, hfit⟩ := keyFits_spec hf
        split at hs
        · rename_i i u hr
          obtain ⟨r', q1, q2⟩ := findK_ok hk hfit g2 0 _ hr
          cases r' with
          | none => exact q2.elim
          | some p =>
            obtain ⟨j, u'⟩ := p
            obtain ⟨rfl, _⟩ := q2
            obtain ⟨_, e0, q3, q4⟩ := findNow_key q1
            have q3 : es'[i]? = some e0 := by simpa using q3
            have hmod : MRL ρ (esetAt es i k v) (es'.modify i fun e => { e with key := k', val := v' }).toList := by
              rw [Array.toList_modify]
              exact esetAt_ok g2 hk hv i
            obtain ⟨ov', w', r1, r2, r3, r4⟩ := setMap_ok (P := P) h hb hl hmod hs
            refine ⟨ov', nx, ρ, w', r1, r2, r3, ?_⟩
            have hst : (Instr.keyThatStays e0.key k').run P w = .ok k' w := by simp [Instr.keyThatStays, sameBits_of q4]
            simp [Instr.mapUpdate, run_underlying hu, g3, run_checkKey_of hf hk, Instr.findKey, run_underlying hu2, q1, q3, hst, r4]
        · rename_i hr
          obtain ⟨r', q1, q2⟩ := findK_ok hk hfit g2 0 _ hr
          cases r' with
          | some p => exact q2.elim
          | none =>
            have happ : MRL ρ (es ++ [⟨k, v, clock⟩]) (es'.push { key := k', val := v', born := clock }).toList := by
              rw [Array.toList_push]
              exact g2.append (.cons ⟨hk, hv, rfl⟩ .nil)
            obtain ⟨ov', w', r1, r2, r3, r4⟩ := setMap_ok (P := P) h hb hl happ hs
            refine ⟨ov', nx, ρ, w', r1, r2, r3, ?_⟩
            simp [Instr.mapUpdate, run_underlying hu, g3, run_checkKey_of hf hk, Instr.findKey, run_underlying hu2, q1, r4]
        · exact (not_sat_bad hs).elim
      · exact (not_sat_bad hs).elim
  · exact (not_sat_bad hs).elim
theorem delete_ok (h : HR base ρ ov w) {ts : Array TypeId} {ty : TypeId} {m k : AV} {m' k' : Value} {wy : String} (hm : VR ρ m m') (hk : VR ρ k k') (hs : Sat (deleteK P base ov nx ts m k wy K) l) :
    Does P base l K ρ ov w (Builtin.delete_ ts ty #[m', k']) := by
  unfold deleteK at hs
  split at hs
  · rename_i kt et b hu
    cases ht : ts[0]? with
    | none => rw [ht] at hu; cases hu
    | some t =>
      rw [ht] at hu
      have hu : P.underlying t = some (.map kt et) := hu
      cases hm with
      | @map _ e hb =>
        split at hs
        · rename_i es clock hf hl
          obtain ⟨es', g1, g2, g3⟩ := ofMap (P := P) h hb hl
          obtain ⟨kd, hu2, hfit⟩ := keyFits_spec hf
          split at hs
          · rename_i i u hr
            obtain ⟨r', q1, q2⟩ := findK_ok hk hfit g2 0 _ hr
            cases r' with
            | none => exact q2.elim
            | some p =>
              obtain ⟨j, u'⟩ := p
              obtain ⟨rfl, _⟩ := q2
              have hdel : MRL ρ (edel es i) (es'.eraseIdxIfInBounds i).toList := by
                rw [Array.toList_eraseIdxIfInBounds]
                exact edel_ok g2 i
              obtain ⟨ov', w', r1, r2, r3, r4⟩ := setMap_ok (P := P) h hb hl hdel hs
              refine ⟨_, ov', nx, ρ, .tuple #[], w', r1, r2, r3, .tup .nil, ?_⟩
              simp [Builtin.delete_, ht, run_underlying hu, g3, run_checkKey_of hf hk, Instr.findKey, run_underlying hu2, q1, r4]
          · rename_i hr
            obtain ⟨r', q1, q2⟩ := findK_ok hk hfit g2 0 _ hr
            cases r' with
            | some p => exact q2.elim
            | none =>
              obtain ⟨a1, a2⟩ := heap_setObj (o' := .map es' clock) g1
              have hr4 := run_setObj_of (P := P) (o' := .map es' clock) g1 (by simp)
              refine ⟨_, ov, nx, ρ, .tuple #[], { w with heap := w.heap.setIfInBounds e.r (.map es' clock) }, hs, ?_, ?_, .tup .nil, ?_⟩
              · exact ⟨.but hb a1, fun _ _ h => h, fun _ h => h⟩
              · refine ⟨fun b1 o1 e1 h1 r1 => ?_, h.inj, h.dom, fun b1 e1 h1 => by rw [a1.size]; exact h.size b1 e1 h1⟩
                by_cases hr : e1.r = e.r
                · have := h.inj b1 _ o1 _ e1 e h1 hl r1 hb hr
                  subst this
                  rw [hl] at h1; cases h1
                  rw [hb] at r1; cases r1
                  exact ⟨es', a2, g2⟩
                · exact (h.block b1 o1 e1 h1 r1).mono ρ.le_refl (a1.other _ hr)
              · simp [Builtin.delete_, ht, run_underlying hu, g3, run_checkKey_of hf hk, Instr.findKey, run_underlying hu2, q1, hr4]
          · exact (not_sat_bad hs).elim
        · exact (not_sat_bad hs).elim
  · exact (not_sat_bad hs).elim
end
end Go.Ab
/- The abstract machine of these proofs, part 17: clear, copy, conversions to slices, iterators. -/
namespace Go.Ab
open Go.RowKit
section
variable {P : Program} {base ov : Hp} {ρ : Rho} {w : World} {l : List Out} {nx : Nat} {K : KV}

theorem zeroCells_eq (z : Array Value) (n : Nat) : Builtin.zeroCells z n = (Array.range (n * z.size)).map (fun j => z[j % z.size]!) := rfl
theorem clear_ok (h : HR base ρ ov w) {ts : Array TypeId} {ty : TypeId} {x : AV} {x' : Value} {wy : String} (hx : VR ρ x x') (hs : Sat (clearK P base ((ts[0]?).bind P.underlying) x wy ov nx K) l) :
    Does P base l K ρ ov w (Builtin.clear_ ts ty #[x']) := by
  have top : ∀ {d : TypeDesc}, (ts[0]?).bind P.underlying = some d → ∃ t, ts[0]? = some t ∧ P.underlying t = some d := by
    intro d hd
    cases ht : ts[0]? with
    | none => rw [ht] at hd; cases hd
    | some t => rw [ht] at hd; exact ⟨t, rfl, hd⟩
  unfold clearK at hs
  split at hs
  · rename_i hx hd
    obtain ⟨t, ht, hu⟩ := top hd
    cases hx with
    | @map _ e hb =>
      split at hs
      · rename_i es clock hl
        obtain ⟨es', g1, g2, g3⟩ := ofMap (P := P) h hb hl
        obtain ⟨ov', w', r1, r2, r3, r4⟩ := setMap_ok (P := P) (es' := #[]) h hb hl MRL.nil hs
        refine ⟨_, ov', nx, ρ, .tuple #[], w', r1, r2, r3, .tup .nil, ?_⟩
        simp [Builtin.clear_, ht, run_underlying hu, g3, r4]
      · exact (not_sat_bad hs).elim
  · rename_i hx hd
    obtain ⟨t, ht, hu⟩ := top hd
    cases hx
    exact ⟨_, ov, nx, ρ, .tuple #[], w, hs, .refl _ _ _ _, h, .tup .nil, by simp [Builtin.clear_, ht, run_underlying hu]⟩
  · rename_i e b off len cap es ex hd
    obtain ⟨t, ht, hu⟩ := top hd
    split at hs
    · rename_i hlen
      have hlen := Nat.eq_of_beq_eq_true hlen
      subst hlen
      cases hx with
      | sl hb hc hx hl ha =>
        exact ⟨_, ov, nx, ρ, .tuple #[], w, hs, .refl _ _ _ _, h, .tup .nil, by simp [Builtin.clear_, ht, run_underlying hu]⟩
    · rename_i n z hlen hn hz
      have hlen : len ≠ 0 := by intro k; subst k; simp at hlen
      obtain ⟨z', e1, e2⟩ := run_zero hz
      subst e1
      obtain ⟨L, g1, g2⟩ := ofValue_cells hs
      split at g1
      · rename_i hne hL
        have hne := Nat.eq_of_beq_eq_true hne
        have hL := (lenIs_iff _ _).1 hL
        subst hne
        rw [forceL_eq] at g1
        cases hx with
        | @sl _ en _ _ _ cap' _ _ a hb hc hx hl ha =>
          obtain ⟨ha, _⟩ := ha (by omega)
          subst ha
          have hzl := (g2 ρ).length
          simp only [Array.length_toList] at hzl
          have hv : VRC ρ (repL len L) (Builtin.zeroCells z'.cells len).toList := by
            by_cases hn0 : 0 < L.length
            · have := range_VRC (g2 ρ) len hn0
              rw [hzl] at this
              exact this
            · have h0 : L.length = 0 := by omega
              have h1 : repL len L = [] := by
                have := repL_length len L
                rw [h0, Nat.mul_zero] at this
                exact List.eq_nil_of_length_eq_zero this
              have h2 : z'.cells.size = 0 := by omega
              have h3 : Builtin.zeroCells z'.cells len = #[] := by
                apply Array.eq_empty_of_size_eq_zero
                simp [zeroCells_eq, h2]
              rw [h1, h3]
              exact VRC.nil
          obtain ⟨q0, ov', w', q1, q2, q3, q4⟩ := writeK_ok (P := P) h hb hv g1
          refine ⟨_, ov', nx, ρ, .tuple #[], w', q1, q3, q2, .tup .nil, ?_⟩
          obtain ⟨k, rfl⟩ : ∃ k, len = k + 1 := ⟨len - 1, by omega⟩
          simp [Builtin.clear_, ht, run_underlying hu, e2, q4]
      · exact (not_sat_bad g1).elim
    · exact (not_sat_bad hs).elim
  · exact (not_sat_bad hs).elim
theorem countOf_ok {x : AV} {x' : Value} {n : Nat} (hx : VR ρ x x') (h : countOf x = some n) : (Builtin.lenOf x').run P w = .ok n w := by
  unfold countOf at h
  cases hx <;> simp at h <;> subst h
  · rename_i h1
    subst h1
    simp [Builtin.lenOf]
  · simp [Builtin.lenOf]
  · simp [Builtin.lenOf]
theorem copy_ok (h : HR base ρ ov w) {ts : Array TypeId} {ty : TypeId} {d s : AV} {d' s' : Value} {wy : String} (hd : VR ρ d d') (hsr : VR ρ s s') (hs : Sat (copyK P base ov nx ts d s wy K) l) :
    Does P base l K ρ ov w (Builtin.copy_ ts ty #[d', s']) := by
  unfold copyK at hs
  split at hs
  · rename_i e sn hu0 hc
    have hlen := countOf_ok (P := P) (w := w) hsr hc
    cases ht : ts[0]? with
    | none => rw [ht] at hu0; cases hu0
    | some t =>
      rw [ht] at hu0
      have hu : P.underlying t = some (.slice e) := hu0
      split at hs
      · rename_i es b off dn cap es' ex hes
        rw [forceN_eq] at hs
        cases hd with
        | @sl _ en _ _ _ cap' _ _ a hb hcc hx hl ha =>
          split at hs
          · rename_i h1 h2
            have h2 := Nat.eq_of_beq_eq_true h2
            have h1 := Nat.eq_of_beq_eq_true h1
            subst h1
            refine ⟨_, ov, nx, ρ, .int .i64 0, w, hs, .refl _ _ _ _, h, .int _ _, ?_⟩
            have h3 : Nat.min sn dn = 0 := h2
            have h4 : (Builtin.firstCells es 0 s').run P w = .ok #[] w := by
              cases hsr <;> simp [countOf] at hc <;> simp [Builtin.firstCells, loadCells, loadCellsFrom]
            simp [Builtin.copy_, ht, run_underlying hu, hlen, run_size hes, h3, h4, storeCells, goInt]
          · rename_i h1 h2
            have h2 : min sn dn ≠ 0 := by intro k; rw [k] at h2; simp at h2
            have h1 := Nat.eq_of_beq_eq_true h1
            subst h1
            obtain ⟨ha, _⟩ := ha (by omega)
            subst ha
            obtain ⟨L, vs, g1, g2, g3, g4⟩ := elems_ok (P := P) h hsr hs
            obtain ⟨q0, ov', w', q1, q2, q3, q4⟩ := writeK_ok (P := P) h hb g2 g1
            refine ⟨_, ov', nx, ρ, .int .i64 (Nat.min sn dn : Nat), w', q1, q3, q2, .int _ _, ?_⟩
            have g4 := g4 w rfl
            have e : min sn dn = Nat.min sn dn := rfl
            rw [e] at g4
            simp [Builtin.copy_, ht, run_underlying hu, hlen, run_size hes, g4, q4, goInt]
          · exact (not_sat_bad hs).elim
      · rename_i es hes
        cases hd
        refine ⟨_, ov, nx, ρ, .int .i64 0, w, hs, .refl _ _ _ _, h, .int _ _, ?_⟩
        have h3 : Nat.min sn 0 = 0 := Nat.min_zero _
        have h4 : (Builtin.firstCells es 0 s').run P w = .ok #[] w := by
          cases hsr <;> simp [countOf] at hc <;> simp [Builtin.firstCells, loadCells, loadCellsFrom]
        simp [Builtin.copy_, ht, run_underlying hu, hlen, run_size hes, h4, goInt]
      · exact (not_sat_bad hs).elim
  · exact (not_sat_bad hs).elim

/-! ### Conversions to slices, iterators made -/
theorem run_markStringish {a : Addr} {c : Array Value} {el : TypeId} {fz : Nat × Nat} (h : w.heap[a.block]? = some (.cells c el fz)) (hf : Clean fz c.size) :
    ∃ w' fz', (markStringish a).run P w = .ok () w' ∧ But a.block w w' ∧ w'.heap[a.block]? = some (.cells c el fz') ∧ Clean fz' c.size := by
  have hs : w.shape? a.block = some (el, c.size) := by simp [World.shape?, h]
  obtain ⟨lo, hi⟩ := fz
  refine ⟨w.freeze { block := a.block, off := c.size } 1, if lo == hi then (c.size, c.size + 1) else (min lo c.size, max hi (c.size + 1)), ?_, ?_, ?_, ?_⟩
  · simp [markStringish, shape, freeze, Sem.run, hs]
  · refine ⟨by simp [World.freeze], fun k hk => ?_, rfl, rfl, rfl⟩
    simp [World.freeze, Array.getElem?_modify, Ne.symm hk]
  · simp [World.freeze, Array.getElem?_modify, h]
  · split
    · exact .inr (Nat.le_refl _)
    · rename_i hne
      have hne : lo ≠ hi := by simpa using hne
      rcases hf with hf | hf
      · exact absurd hf hne
      · refine .inr ?_
        have hf : c.size ≤ lo := hf
        show c.size ≤ min lo c.size
        omega
theorem convertS_ok (h : HR base ρ ov w) {s d : TypeId} {x : AV} {x' : Value} {wy : String} (hc : calmConv P d = false) (hx : VR ρ x x') (hs : Sat (convertK P base ov nx s d x wy K) l) :
    Does P base l K ρ ov w (convert s d x') := by
  unfold convertK at hs
  split at hs
  · rename_i hd; simp [calmConv, hd] at hc
  · rename_i hd; simp [calmConv, hd] at hc
  · rename_i hd; simp [calmConv, hd] at hc
  · rename_i u0 e sx hu hd
    cases hx with
    | @str _ s' hst =>
      subst hst
      split at hs
      · rename_i he
        obtain ⟨h1, h2⟩ := newB_ok hs
        have h2 := ret1_ok h2
        have hn := h.dom _ h1
        let cap := s'.size + (w.tape w.drawn (.appendCap s'.size 0 e)) % (2 ^ 63 - s'.size)
        let cells : Array Value := (s'.data.map fun b => Value.int .u8 b.toNat) ++ Array.replicate (cap - s'.size) (.int .u8 0)
        have hsz : cells.size = cap := by simp [cells, cap]
        obtain ⟨w', fz', r1, r2, r3, r4⟩ := run_markStringish (P := P) (w := w.drew.alloc (.cells cells e)) (a := ⟨w.heap.size, 0, none⟩) (c := cells) (el := e) (fz := (0, 0)) (heap_alloc_new w.drew _) (clean_zero _)
        refine ⟨_, _, _, upd ρ (Id.of nx) ⟨w.heap.size, 0, cap⟩, .slice (some ⟨w.heap.size, 0, none⟩) s'.size cap, w', h2, ?_, ?_, ?_, ?_⟩
        · have t1 : Thru base ρ ov w (upd ρ (Id.of nx) ⟨w.heap.size, 0, cap⟩) (ov.set (Id.of nx) (some (.cells (s'.data.toList.map UInt8.toNat).length (.flat (strCells (s'.data.toList.map UInt8.toNat))) false))) (w.drew.alloc (.cells cells e)) :=
            .trans (.drew base ρ ov w) (.alloc (w := w.drew) h1 hn)
          exact t1.trans ⟨.but (upd_same ρ (Id.of nx) ⟨w.heap.size, 0, cap⟩) r2, fun _ _ h => h, fun _ h => h⟩
        · refine HR.use (w := w) ?_ hn (by rw [look_set, if_pos rfl]) ?_ ?_ ?_ ?_ ?_
          · exact h.lay _ h1
          · rw [r2.size]; simp
          · rw [r2.size]; simp
          · intro k hk hne
            rw [r2.other k hne]
            exact heap_alloc_old w.drew _ hk
          · intro b1 o1 e1 _ hr1
            have := h.size _ _ hr1
            show e1.r ≠ w.heap.size
            omega
          · refine OR_cells (fz := fz') r3 hsz (by simp [cap]) (by rw [← hsz]; exact r4) (fun hf => by cases hf) (by simp [Rows.good, strCells]) fun i hi => ?_
            have hi' : i < (strCells (s'.data.toList.map UInt8.toNat)).length := by simpa [strCells] using hi
            obtain ⟨a1, v', a2, a3⟩ := (strCells_VRC (upd ρ (Id.of nx) ⟨w.heap.size, 0, cap⟩) s'.data.toList).get (List.getElem?_eq_getElem hi')
            refine ⟨_, List.getElem?_eq_getElem hi', a1, v', ?_, a3⟩
            rw [← a2]
            simp only [cells]
            rw [Array.getElem?_append_left (by simpa [strCells] using hi')]
            simp
        · have e1 : (s'.data.toList.map UInt8.toNat).length = s'.size := by simp
          rw [e1]
          exact .sl (e := ⟨w.heap.size, 0, cap⟩) (upd_same _ _ _) (Nat.le_add_right _ _) (fun hf => by cases hf) (Nat.le_refl _) fun _ => ⟨rfl, fun _ => by simp⟩
        · have hcut : (Question.appendCap s'.size 0 e).cut (w.tape w.drawn (.appendCap s'.size 0 e)) = cap := rfl
          have hf : (Question.appendCap s'.size 0 e).forced = false := rfl
          have r1 : (markStringish ⟨w.heap.size, 0, none⟩).run P (w.drew.alloc (.cells ((s'.data.map fun b => Value.int .u8 b.toNat) ++ Array.replicate (cap - s'.size) (.int .u8 0)) e)) = .ok () w' := r1
          simp [convert, run_underlying hu, run_underlying hd, run_underlying he, Conv.stringToBytes, hf, hcut, newRow, r1]
      · exact (not_sat_bad hs).elim
  · rename_i hd; simp [calmConv, hd] at hc
  · rename_i hd; simp [calmConv, hd] at hc
  · rename_i u1 e b off len cap es ex hu hd
    split at hs
    · rename_i n r pl hsd he hl
      simp only [Bool.and_eq_true] at hsd
      have hcp := Nat.le_of_ble_eq_true hsd.2
      have hsd := Nat.eq_of_beq_eq_true hsd.1
      subst hsd
      have hue : TypeDesc.slice u1 = .slice e := Option.some.inj (hu.symm.trans hd)
      injection hue with hue
      subst hue
      rw [Tr.setK_eq] at hs
      cases hx with
      | @sl _ en _ _ _ cap' _ _ a hb hcc hx hle ha =>
        obtain ⟨c, el, fz, a1, a2, a3, a4, a5, a6, a7⟩ := h.block _ _ en hl hb
        obtain ⟨ha', _⟩ := ha (by omega)
        subst ha'
        obtain ⟨w', fz', r1, r2, r3, r4⟩ := run_markStringish (P := P) (a := ⟨en.r, en.d + off, none⟩) a1 (by rw [a2]; exact a4)
        refine ⟨_, _, nx, ρ, .slice (some ⟨en.r, en.d + off, none⟩) len cap', w', hs, .but hb r2, ?_, .sl hb hcc hx hle ha, ?_⟩
        · exact h.set hl hb r2 ⟨c, el, fz', r3, a2, a3, by rw [← a2]; exact r4, fun hf => (by cases hf), a6, fun i hi => a7 i hi⟩
        · simp [convert, run_underlying hu, run_underlying he, r1]
    · exact (not_sat_bad hs).elim
  · exact (not_sat_bad hs).elim
end
end Go.Ab
/- The abstract machine of these proofs, part 18: iterators. -/
namespace Go.Ab
open Go.RowKit
section
variable {P : Program} {base ov : Hp} {ρ : Rho} {w : World} {l : List Out} {nx : Nat} {K : KV}

theorem range_ok (h : HR base ρ ov w) {t : TypeId} {x : AV} {x' : Value} {wy : String} (hx : VR ρ x x')
    (hs : Sat (match (generalizing := false) P.underlying t, x with
      | some .string, .str s => newB base ov nx (.siter s 0) fun b ov nx => K (.ptr b 0) ov nx
      | some (.map _ _), .nilm => newB base ov nx (.miter none 0 [] none 0 nx) fun b ov nx => K (.ptr b 0) ov nx
      | some (.map _ _), .map m => match look base ov m with
        | some (.map _ clock) => newB base ov nx (.miter (some m) clock [] none clock nx) fun b ov nx => K (.ptr b 0) ov nx
        | _ => .bad wy
      | _, _ => .bad wy) l) : Does P base l K ρ ov w (Instr.range t x') := by
  have pv : ∀ b, VR (upd ρ b ⟨w.heap.size, 0, 0⟩) (.ptr b 0) (.pointer (some ⟨w.heap.size, 0, none⟩)) := fun b => by
    have := VR.ptr (ρ := upd ρ b ⟨w.heap.size, 0, 0⟩) 0 (upd_same ρ b ⟨w.heap.size, 0, 0⟩)
    simpa using this
  split at hs
  · rename_i s hx hu
    cases hx with
    | str h1 =>
      obtain ⟨g1, g2⟩ := newB_ok hs
      refine Makes.does h ⟨g1, g2, rfl⟩ fun hn => ⟨.stringIter _ 0, 0, 0, _, by simp [Instr.range, run_underlying hu], ⟨_, heap_alloc_new _ _, h1, rfl⟩, pv _⟩
  · rename_i hx hu
    cases hx
    obtain ⟨g1, g2⟩ := newB_ok hs
    refine Makes.does h ⟨g1, g2, rfl⟩ fun hn => ⟨.mapIter none 0 #[] 0, 0, 0, _, by simp [Instr.range, run_underlying hu], ⟨none, #[], heap_alloc_new _ _, by simp, by simp, rfl, rfl⟩, pv _⟩
  · rename_i m hx hu
    cases hx with
    | @map _ e hb =>
      split at hs
      · rename_i es clock hl
        obtain ⟨es', q1, q2, q3⟩ := ofMap (P := P) h hb hl
        obtain ⟨g1, g2⟩ := newB_ok hs
        refine Makes.does h ⟨g1, g2, rfl⟩ fun hn => ⟨.mapIter (some e.r) clock #[] clock, 0, 0, _, by simp [Instr.range, run_underlying hu, q3], ⟨some e.r, #[], heap_alloc_new _ _, by simp, by simp, ⟨e, upd_le _ hn _ _ hb, rfl⟩, rfl⟩, pv _⟩
      · exact (not_sat_bad hs).elim
  · exact (not_sat_bad hs).elim

/-! ### A step -/
theorem ins_mem (n x : Nat) (l : List Nat) : x ∈ ins n l ↔ x = n ∨ x ∈ l := by
  induction l with
  | nil => simp [ins]
  | cons a l ih =>
    unfold ins
    split
    · simp
    · simp [ih]; constructor
      · rintro (h | h | h) <;> simp [h]
      · rintro (h | h | h) <;> simp [h]
theorem decode_ascii {s : ByteArray} {i : Nat} {c : UInt8} (h : s.data.toList[i]? = some c) (hc : c.toNat < 128) : Utf8.decode s i = (c.toNat, 1) := by
  have hlt : i < s.data.size := by
    rcases Nat.lt_or_ge i s.data.toList.length with hh | hh
    · simpa using hh
    · rw [List.getElem?_eq_none hh] at h; cases h
  have hg : s.get! (i + 0) = c := by
    rw [Array.getElem?_toList, Array.getElem?_eq_getElem hlt] at h
    have h := Option.some.inj h
    rw [Nat.add_zero]
    cases s with
    | mk d =>
      show d[i]! = c
      rw [getElem!_pos d i hlt]
      exact h
  unfold Utf8.decode
  simp only [hg]
  rw [if_pos (by omega)]
theorem nextStr_ok (h : HR base ρ ov w) {b : Id} {e : Ent} (hb : ρ b = some e) {s : List Nat} {pos : Nat} {wy : String} {ty : TypeId} (hl : look base ov b = some (.siter s pos)) (hs : Sat (nextStrK ov nx b s pos wy K) l) :
    Does P base l K ρ ov w (Instr.next (.pointer (some ⟨e.r, e.d + 0, none⟩)) true ty) := by
  obtain ⟨s', g1, g2, g3⟩ := h.block b _ e hl hb
  have hg := run_getObj_of (P := P) g1 (by simp)
  subst g2
  unfold nextStrK at hs
  split at hs
  · rename_i c hc
    rw [List.getElem?_map] at hc
    cases hd : s'.data.toList[pos]? with
    | none => rw [hd] at hc; cases hc
    | some c8 =>
      rw [hd] at hc
      cases hc
      have hlt : pos < s'.size := by
        rcases Nat.lt_or_ge pos s'.data.toList.length with hh | hh
        · simpa using hh
        · rw [List.getElem?_eq_none hh] at hd; cases hd
      split at hs
      · rename_i h128
        have h128 := Nat.le_of_ble_eq_true h128
        simp only [setB, forceO_eq, Tr.setK_eq] at hs
        obtain ⟨a1, a2⟩ := heap_setObj (o' := .stringIter s' (pos + 1)) g1
        have hst := run_setObj_of (P := P) (o' := .stringIter s' (pos + 1)) g1 (by simp)
        refine ⟨_, _, nx, ρ, .tuple #[.bool true, goInt pos, .int .i32 c8.toNat], _, hs, .but hb a1, h.set hl hb a1 ⟨s', a2, rfl, g3⟩, .tup (.cons (.bool _) (.cons (.int _ _) (.cons (.int _ _) .nil))), ?_⟩
        simp [Instr.next, g3, hg, hlt, decode_ascii hd (by omega), hst]
      · exact (not_sat_bad hs).elim
  · rename_i hc
    rw [List.getElem?_map] at hc
    have hge : ¬ pos < s'.size := by
      intro hh
      have : pos < s'.data.toList.length := by simpa using hh
      rw [List.getElem?_eq_getElem this] at hc
      cases hc
    refine ⟨_, ov, nx, ρ, .tuple #[.bool false], w, hs, .refl _ _ _ _, h, .tup (.cons (.bool _) .nil), ?_⟩
    simp [Instr.next, g3, hg, hge]
theorem MRL.filter {es : List MEnt} {es' : List MapEntry} (h : MRL ρ es es') {p : MEnt → Bool} {q : MapEntry → Bool} (hpq : ∀ e e', MR ρ e e' → p e = q e') : MRL ρ (es.filter p) (es'.filter q) := by
  induction h with
  | nil => exact .nil
  | cons he t ih =>
    simp only [List.filter_cons, hpq _ _ he]
    split
    · exact .cons he ih
    · exact ih
theorem MRL.all {es : List MEnt} {es' : List MapEntry} (h : MRL ρ es es') {p : MEnt → Bool} {q : MapEntry → Bool} (hpq : ∀ e e', MR ρ e e' → p e = q e') : es.all p = es'.all q := by
  induction h with
  | nil => rfl
  | cons he t ih => simp only [List.all_cons, hpq _ _ he, ih]
theorem MRL.get {es : List MEnt} {es' : List MapEntry} (h : MRL ρ es es') {j : Nat} {e' : MapEntry} (hj : es'[j]? = some e') : ∃ e, e ∈ es ∧ MR ρ e e' := by
  induction h generalizing j with
  | nil => simp at hj
  | cons he t ih =>
    cases j with
    | zero => simp at hj; subst hj; exact ⟨_, List.mem_cons_self .., he⟩
    | succ j => obtain ⟨e, a, b⟩ := ih (by simpa using hj); exact ⟨e, List.mem_cons_of_mem _ a, b⟩
theorem anyK_mem {one : MEnt → Ans} : ∀ {es : List MEnt} {e : MEnt}, Sat (anyK one e es) l → ∀ x ∈ e :: es, Sat (one x) l
  | [], e, h, x, hx => by simp at hx; subst hx; exact h
  | e' :: es, e, h, x, hx => by
    obtain ⟨h1, h2⟩ := h.both
    rcases List.mem_cons.1 hx with rfl | hx
    · exact h1
    · exact anyK_mem h2 x hx
theorem run_choose_mapNext (n : Nat) (w : World) (hn : 0 < n) : ∃ j w', j < n ∧ (choose (.mapNext n)).run P w = .ok j w' ∧ (w' = w ∨ w' = w.drew) := by
  by_cases h1 : n ≤ 1
  · exact ⟨0, w, hn, by simp [choose, Sem.run, Question.forced, h1], .inl rfl⟩
  · refine ⟨w.tape w.drawn (.mapNext n) % n, w.drew, Nat.mod_lt _ hn, ?_, .inr rfl⟩
    simp [choose, Sem.run, Question.forced, Question.cut, h1]
theorem nextMap_ok (h : HR base ρ ov w) {b m : Id} {e : Ent} (hb : ρ b = some e) {since stepped nb : Nat} {seen : List Nat} {last : Option Nat} {wy : String} {ty : TypeId}
    (hl : look base ov b = some (.miter (some m) since seen last stepped nb)) (hs : Sat (nextMapK base ov nx b m since seen stepped nb wy K) l) :
    Does P base l K ρ ov w (Instr.next (.pointer (some ⟨e.r, e.d + 0, none⟩)) false ty) := by
  obtain ⟨m', seen', g1, g2, g3, ⟨em, g4, g5⟩, g6⟩ := h.block b _ e hl hb
  subst g5
  have hg := run_getObj_of (P := P) g1 (by simp)
  unfold nextMapK at hs
  split at hs
  · rename_i es clock hlm
    obtain ⟨es', q1, q2, q3⟩ := ofMap (P := P) h g4 hlm
    split at hs
    · exact (not_sat_bad hs).elim
    · rename_i hgone
      have hse : seen.isEmpty = seen'.isEmpty := by
        rw [Bool.eq_iff_iff, List.isEmpty_iff, Array.isEmpty_iff]
        constructor
        · intro k; subst k
          apply Array.eq_empty_iff_forall_not_mem.2
          intro x hx; have := (g2 x).2 hx; cases this
        · intro k; subst k
          apply List.eq_nil_iff_forall_not_mem.2
          intro x hx; have := (g2 x).1 hx; simp at this
      have hee : es.isEmpty = es'.isEmpty := by
        have := q2.length
        cases es with
        | nil => simp at this ⊢; exact Array.eq_empty_of_size_eq_zero this.symm
        | cons a es => simp at this ⊢; intro k; simp [k] at this
      have hall : es.all (fun e => decide (e.born ≥ stepped)) = es'.all (fun e => decide (e.born ≥ stepped)) := by
        rw [q2.all (q := fun e => decide (e.born ≥ stepped)) (fun e e' he => by rw [he.born])]
        simp
      have hgone' : (!seen'.isEmpty && !es'.isEmpty && es'.all (fun e => decide (e.born ≥ stepped))) = false := by
        rw [← hse, ← hee, ← hall]
        simpa using hgone
      have hleft : MRL ρ (es.filter (notSeen seen)) (es'.filter fun e => !seen'.contains e.born).toList := by
        rw [Array.toList_filter]
        refine q2.filter fun e e' he => ?_
        rw [he.born]
        unfold notSeen
        rw [Bool.eq_iff_iff]
        simp
        constructor
        · intro hh k
          have := hh _ ((g2 _).2 k)
          simp at this
        · intro hh x hx
          rw [← Bool.not_eq_true, Nat.beq_eq]
          intro k; subst k; exact hh ((g2 _).1 hx)
      split at hs
      · rename_i hold
        generalize hL : (es'.filter fun e => !seen'.contains e.born) = left at hleft
        have hold' : left.toList.all (fun e => decide (e.born < since)) = true := by
          rw [← hold]
          exact (hleft.all (q := fun e => decide (e.born < since)) (fun e e' he => by rw [he.born])).symm
        have hold'' : ∀ e ∈ left, e.born < since := fun e he => by
          have := List.all_eq_true.1 hold' e (Array.mem_toList_iff.2 he)
          simpa using this
        have f1 : left.filter (fun e => decide (e.born < since)) = left := by
          rw [Array.filter_eq_self]
          intro a ha; simpa using hold'' a ha
        have f2 : left.filter (fun e => decide (e.born ≥ since)) = #[] := by
          rw [Array.filter_eq_empty_iff]
          intro a ha; have := hold'' a ha; simp; omega
        cases hfil : es.filter (notSeen seen) with
        | nil =>
          rw [hfil] at hs hleft
          have hle : left = #[] := by
            have := hleft.length
            exact Array.eq_empty_of_size_eq_zero (by simpa using this.symm)
          subst hle
          simp only [setB, forceO_eq, Tr.setK_eq, forceN_eq] at hs
          refine ⟨_, _, _, ρ, .tuple #[.bool false], w, hs, .but hb (But.refl _ _), h.set hl hb (But.refl _ _) ⟨_, seen', g1, g2, by simp, ⟨em, g4, rfl⟩, g6⟩, .tup (.cons (.bool _) .nil), ?_⟩
          have hch : (choose (.mapNext 1)).run P w = .ok 0 w := by simp [choose, Sem.run, Question.forced]
          simp only [Instr.next, g6, Nat.add_zero, Sem.run_bind, hg, q3, Result.andThen_ok, hgone', hL]
          simp [Question.forced]
        | cons e0 rest =>
          rw [hfil] at hs hleft
          have hsz := hleft.length
          have hpos : 0 < left.size := by
            simp at hsz; omega
          obtain ⟨j, w1, hj, hch, hw1⟩ := run_choose_mapNext (P := P) left.size w hpos
          have hne : left.isEmpty = false := by
            rw [Bool.eq_false_iff]; intro k; rw [Array.isEmpty_iff] at k; subst k; simp at hpos
          obtain ⟨ej, hmem, hmr⟩ := hleft.get (j := j) (e' := left[j]) (by simp [hj])
          have hs := anyK_mem hs ej hmem
          unfold oneK at hs
          simp only [setB, forceO_eq, Tr.setK_eq, forceN_eq] at hs
          have g1' : w1.heap[e.r]? = some (.mapIter (some em.r) since seen' stepped) := by rcases hw1 with rfl | rfl <;> exact g1
          obtain ⟨a1, a2⟩ := heap_setObj (w := w1) (o' := .mapIter (some em.r) since (seen'.push left[j].born) clock) g1'
          have hst := run_setObj_of (P := P) (w := w1) (o' := .mapIter (some em.r) since (seen'.push left[j].born) clock) g1' (by simp)
          have hh1 : HR base ρ ov w1 := by rcases hw1 with rfl | rfl; exact h; exact h.drew
          have ht1 : Thru base ρ ov w ρ ov w1 := by rcases hw1 with rfl | rfl; exact .refl _ _ _ _; exact .drew _ _ _ _
          refine ⟨_, _, _, ρ, .tuple #[.bool true, left[j].key, left[j].val], _, hs, ht1.trans (.but hb a1), hh1.set hl hb a1 ⟨_, _, a2, fun x => ?_, fun s hs => ?_, ⟨em, g4, rfl⟩, g6⟩, .tup (.cons (.bool _) (.cons hmr.key (.cons hmr.val .nil))), ?_⟩
          · rw [ins_mem, Array.mem_push, g2 x, hmr.born]
            constructor
            · rintro (k | k) <;> simp [k]
            · rintro (k | k) <;> simp [k]
          · cases hs; simp [hmr.born]
          · simp only [Instr.next, g6, Nat.add_zero, Sem.run_bind, hg, q3, Result.andThen_ok, hgone', hL, f1, f2]
            simp only [choose, Sem.run] at hch
            split at hch
            · rename_i hf
              injection hch with e1 e2
              subst e1; subst e2
              simp [hne, hf, hst, Array.getElem?_eq_getElem hj]
            · rename_i hf
              injection hch with e1 e2
              subst e1; subst e2
              have hst' : (setObj e.r (.mapIter (some em.r) since (seen'.push left[(Question.mapNext left.size).cut (w.tape w.drawn (Question.mapNext left.size))].born) clock)).run P w.drew = _ := hst
              simp [hne, hf, hst', Array.getElem?_eq_getElem hj]
      · exact (not_sat_bad hs).elim
  · exact (not_sat_bad hs).elim
end
end Go.Ab
/- The abstract machine of these proofs, part 19: append. -/
namespace Go.Ab
open Go.RowKit
section
variable {P : Program} {base ov : Hp} {ρ : Rho} {w : World} {l : List Out} {nx : Nat} {K : KV}

theorem ble_false {a b : Nat} (h : Nat.ble a b = false) : ¬ a ≤ b := fun k => by
  have := Nat.ble_eq_true_of_le k
  rw [h] at this; cases this
/-- What 'append' needs of its types. -/
structure AppT (P : Program) (ts : Array TypeId) (e : TypeId) (size bytes : Nat) (z : Value) : Prop where
  ht : ∃ t, ts[0]? = some t ∧ P.underlying t = some (.slice e)
  hx : ∃ t d, ts[1]? = some t ∧ P.underlying t = some d ∧ ((∃ e, d = .slice e) ∨ d = .string)
  hi : ∃ i, P.info? e = some i ∧ i.size = size ∧ i.bytes = bytes ∧ i.zero = some z
theorem run_append_new {ts : Array TypeId} {ty e : TypeId} {size bytes : Nat} {z : Value} (hT : AppT P ts e size bytes z) {b : Option Addr} {sLen sCap n : Nat} {x : Value} {olds news : Array Value}
    (hlen : (Builtin.lenOf x).run P w = .ok n w) (hnot : ¬ sLen + n ≤ sCap) (hfit : Builtin.nextslicecap (sLen + n) sCap * bytes ≤ 281474976710656) (h63 : sLen + n ≤ 9223372036854775807)
    (hold : (Builtin.firstCells size sLen (.slice b sLen sCap)).run P w.drew = .ok olds w.drew) (hnew : (Builtin.firstCells size n x).run P w.drew = .ok news w.drew) :
    (Builtin.append_ ts ty #[.slice b sLen sCap, x]).run P w = .ok (.slice (some ⟨w.heap.size, 0, none⟩) (sLen + n) (grownCap w (sLen + n) sCap e))
      (w.drew.alloc (.cells (olds ++ news ++ Builtin.zeroCells z.cells (grownCap w (sLen + n) sCap e - (sLen + n))) e)) := by
  obtain ⟨t, ht, hu⟩ := hT.ht
  obtain ⟨t1, d, ht1, hu1, hd⟩ := hT.hx
  obtain ⟨i, hi, h1, h2, h3⟩ := hT.hi
  subst h1; subst h2
  have h63' : ¬ (9223372036854775807 < ((sLen : Int) + (n : Int))) := by omega
  have h48' : ¬ (281474976710656 < Builtin.nextslicecap (sLen + n) sCap * i.bytes) := by omega
  rcases hd with ⟨e2, rfl⟩ | rfl <;>
    simp [Builtin.append_, ht, ht1, run_underlying hu, run_underlying hu1, sizeOf, typeInfo, zeroValue, hi, h3, hlen, hnot, h63', h48', Question.forced, hold, hnew, newRow, grownCap]
theorem run_append_room {ts : Array TypeId} {ty e : TypeId} {size bytes : Nat} {z : Value} (hT : AppT P ts e size bytes z) {a : Addr} {sLen sCap n : Nat} {x : Value} {news : Array Value} {w' : World}
    (hlen : (Builtin.lenOf x).run P w = .ok n w) (hle : sLen + n ≤ sCap) (hnew : (Builtin.firstCells size n x).run P w = .ok news w) (hst : (storeCells (a.add (sLen * size)) news.toList).run P w = .ok () w') :
    (Builtin.append_ ts ty #[.slice (some a) sLen sCap, x]).run P w = .ok (.slice (some a) (sLen + n) sCap) w' := by
  obtain ⟨t, ht, hu⟩ := hT.ht
  obtain ⟨t1, d, ht1, hu1, hd⟩ := hT.hx
  obtain ⟨i, hi, h1, h2, h3⟩ := hT.hi
  subst h1; subst h2
  rcases hd with ⟨e2, rfl⟩ | rfl <;>
    simp [Builtin.append_, ht, ht1, run_underlying hu, run_underlying hu1, sizeOf, typeInfo, hi, hlen, hle, hnew, hst]
theorem run_append_none {ts : Array TypeId} {ty e : TypeId} {size bytes : Nat} {z : Value} (hT : AppT P ts e size bytes z) {x : Value} {news : Array Value}
    (hlen : (Builtin.lenOf x).run P w = .ok 0 w) (hnew : (Builtin.firstCells size 0 x).run P w = .ok news w) :
    (Builtin.append_ ts ty #[.slice none 0 0, x]).run P w = .ok (.slice none 0 0) w := by
  obtain ⟨t, ht, hu⟩ := hT.ht
  obtain ⟨t1, d, ht1, hu1, hd⟩ := hT.hx
  obtain ⟨i, hi, h1, h2, h3⟩ := hT.hi
  subst h1; subst h2
  rcases hd with ⟨e2, rfl⟩ | rfl <;>
    simp [Builtin.append_, ht, ht1, run_underlying hu, run_underlying hu1, sizeOf, typeInfo, hi, hlen, hnew]
theorem grownCap_le (w : World) (need old : Nat) (e : TypeId) : need ≤ grownCap w need old e := Nat.le_add_right _ _
end
end Go.Ab
/- The abstract machine of these proofs, part 20: append, joined. -/
namespace Go.Ab
open Go.RowKit
section
variable {P : Program} {base ov : Hp} {ρ : Rho} {w : World} {l : List Out} {nx : Nat} {K : KV}

theorem growK_ok {es by_ n : Nat} {cs : List AV} {plain : Bool} (hcs : cs.length = n * es) (hn : 0 < n) (hs : Sat (growK base nx es by_ n cs plain ov K) l) :
    absent base ov (Id.of nx) = true ∧ n ≤ 1048576 ∧ by_ ≤ 1048576 ∧ ∃ rows : Rows, Sat (K (.sl (Id.of nx) 0 n n es false) (ov.set (Id.of nx) (some (.cells (n * es) rows plain))) (nx + 1)) l ∧
      rows.good (n * es) ∧ ∀ i, i < n * es → rows.get i = cs[i]? := by
  unfold growK at hs
  split at hs
  · rename_i hb _
    simp only [Bool.and_eq_true] at hb
    obtain ⟨h1, h2⟩ := newQ_ok hs
    exact ⟨h1, Nat.le_of_ble_eq_true hb.1, Nat.le_of_ble_eq_true hb.2, .flat cs, h2, hcs, fun i _ => rfl⟩
  · rename_i hb he
    simp only [Bool.and_eq_true] at hb
    have he : 0 < es := by
      have : ¬ es + 1 ≤ 64 := ble_false he
      omega
    rw [putRowsK_eq, takeK_eq] at hs
    obtain ⟨h1, h2⟩ := newB_ok hs
    have hrow := putRows_row he (cs.take es) n .e 0 cs hcs
    refine ⟨h1, Nat.le_of_ble_eq_true hb.1, Nat.le_of_ble_eq_true hb.2, _, h2, ⟨he, fun k => ?_⟩, fun i hi => ?_⟩
    · rw [hrow]
      split
      · rename_i hk
        simp only [Nat.sub_zero, List.length_take, List.length_drop, hcs]
        have : (k + 1) * es ≤ n * es := Nat.mul_le_mul_right _ (by omega)
        rw [Nat.succ_mul] at this
        omega
      · simp only [Rows.row, Tr.get, Option.getD_none, List.length_take, hcs]
        have : 1 * es ≤ n * es := Nat.mul_le_mul_right _ hn
        omega
    · simp only [Rows.get]
      rw [hrow]
      have hd : i / es < n := by rw [Nat.div_lt_iff_lt_mul he]; exact hi
      rw [if_pos ⟨Nat.zero_le _, by rw [Nat.zero_add]; exact hd⟩, Nat.sub_zero, List.getElem?_take, if_pos (Nat.mod_lt _ he), List.getElem?_drop]
      congr 1
      have := Nat.div_add_mod i es
      rw [Nat.mul_comm] at this
      exact this
  · exact (not_sat_bad hs).elim
theorem growOldK_ok {es by_ n : Nat} {old new : List AV} {plain : Bool} (hs : Sat (growOldK base nx es by_ n old new plain ov K) l) : Sat (growK base nx es by_ n (old ++ new) plain ov K) l := by
  unfold growOldK at hs
  split at hs
  · exact hs
  · rwa [spine_eq] at hs
theorem zeroCells_size (z : Array Value) (n : Nat) : (Builtin.zeroCells z n).size = n * z.size := by simp [zeroCells_eq]
/-- A new row, old cells and new ones. -/
theorem appended_new (h : HR base ρ ov w) {ts : Array TypeId} {ty e : TypeId} {es by_ : Nat} {z : Value} (hT : AppT P ts e es by_ z) (hz : z.cells.size = es) {b : Option Addr} {sLen sCap n : Nat} {x : Value}
    {old new : List AV} {olds news : List Value} (ho : VRC ρ old olds) (hn : VRC ρ new news) (hol : olds.length = sLen * es) (hnl : news.length = n * es) (_hpos : 0 < n)
    (hlen : (Builtin.lenOf x).run P w = .ok n w) (hnot : ¬ sLen + n ≤ sCap)
    (hold : (Builtin.firstCells es sLen (.slice b sLen sCap)).run P w.drew = .ok olds.toArray w.drew) (hnew : (Builtin.firstCells es n x).run P w.drew = .ok news.toArray w.drew)
    {plain : Bool} (hs : Sat (growK base nx es by_ (sLen + n) (old ++ new) plain ov K) l) : Does P base l K ρ ov w (Builtin.append_ ts ty #[.slice b sLen sCap, x]) := by
  obtain ⟨g1, g2, g3, rows, g4, g5, g6⟩ := growK_ok (by rw [List.length_append, ho.length, hn.length, hol, hnl, Nat.add_mul]) (by omega) hs
  have hnone := h.dom _ g1
  have hcap := grownCap_le w (sLen + n) sCap e
  have hfit : Builtin.nextslicecap (sLen + n) sCap * by_ ≤ 281474976710656 := by
    have h1 : Builtin.nextslicecap (sLen + n) sCap ≤ 2 * (sLen + n) := nextslicecap_le (by omega)
    have h2 : Builtin.nextslicecap (sLen + n) sCap * by_ ≤ (2 * 1048576) * 1048576 := Nat.mul_le_mul (by omega) g3
    omega
  have hr := run_append_new (P := P) (ty := ty) hT hlen hnot hfit (by omega) hold hnew
  have hsz : (olds.toArray ++ news.toArray ++ Builtin.zeroCells z.cells (grownCap w (sLen + n) sCap e - (sLen + n))).size = grownCap w (sLen + n) sCap e * es := by
    simp only [Array.size_append, List.size_toArray, zeroCells_size, hol, hnl, hz]
    rw [← Nat.add_mul, ← Nat.add_mul]
    congr 1; omega
  have hle : (sLen + n) * es ≤ grownCap w (sLen + n) sCap e * es := Nat.mul_le_mul_right _ hcap
  refine ⟨_, _, _, upd ρ (Id.of nx) ⟨w.heap.size, 0, grownCap w (sLen + n) sCap e * es⟩, _, _, g4, .trans (.drew base ρ ov w) (.alloc (w := w.drew) g1 hnone), ?_, ?_, hr⟩
  · refine HR.alloc (w := w.drew) ((h.drew).lay _ g1) hnone (by rw [look_set, if_pos rfl]) ?_
    refine OR_cells (heap_alloc_new w.drew _) hsz hle (clean_zero _) (fun _ hh => by simp at hh) g5 fun i hi => ?_
    have hall := ho.append hn
    have hi2 : i < (old ++ new).length := by rw [List.length_append, ho.length, hn.length, hol, hnl, ← Nat.add_mul]; exact hi
    obtain ⟨a1, v', a2, a3⟩ := hall.get (List.getElem?_eq_getElem hi2)
    refine ⟨_, by rw [g6 i hi]; exact List.getElem?_eq_getElem hi2, a1, v', ?_, a3.mono (upd_le _ hnone)⟩
    rw [Array.getElem?_append_left (by simp only [Array.size_append, List.size_toArray, hol, hnl, ← Nat.add_mul]; exact hi), ← a2]
    simp
  · exact .sl (e := ⟨w.heap.size, 0, grownCap w (sLen + n) sCap e * es⟩) (upd_same _ _ _) hcap (fun hf => by cases hf) (Nat.le_refl _) fun _ => ⟨rfl, fun _ => by simp⟩
theorem append_ok (h : HR base ρ ov w) {ts : Array TypeId} {ty : TypeId} {s x : AV} {s' x' : Value} {wy : String} (hsv : VR ρ s s') (hxv : VR ρ x x') (hs : Sat (appendK P base ov nx ts s x wy K) l) :
    Does P base l K ρ ov w (Builtin.append_ ts ty #[s', x']) := by
  unfold appendK at hs
  split at hs
  · rename_i e n hu0 hb0 hcount
    have hlen := countOf_ok (P := P) (w := w) hxv hcount
    split at hs
    · rename_i es by_ z hes hby hz
      obtain ⟨i, z', i1, i2, i3⟩ := zeroV_spec hz
      subst i3
      obtain ⟨L0, g1, g2⟩ := ofValue_cells hs
      split at g1
      · rename_i hL0
        have hL0 := (lenIs_iff _ _).1 hL0
        have hzs : z'.cells.size = es := by have := (g2 ρ).length; simp only [Array.length_toList] at this; omega
        have hT : AppT P ts e es by_ z' := by
          refine ⟨?_, ?_, ⟨i, i1, by simpa [szOf, i1] using hes, by simpa [bytesOf, i1] using hby, i2⟩⟩
          · cases ht : ts[0]? with
            | none => rw [ht] at hu0; cases hu0
            | some t => rw [ht] at hu0; exact ⟨t, rfl, hu0⟩
          · cases ht : ts[1]? with
            | none => rw [ht] at hb0; cases hb0
            | some t =>
              rw [ht] at hb0
              simp only [Option.bind_some] at hb0
              unfold bytesT at hb0
              split at hb0
              · rename_i e2 hu2; exact ⟨t, _, rfl, hu2, .inl ⟨e2, rfl⟩⟩
              · rename_i hu2; exact ⟨t, _, rfl, hu2, .inr rfl⟩
              · cases hb0
        obtain ⟨new, news, q1, q2, q3, q4⟩ := elems_ok (P := P) h hxv g1
        unfold appendTo at q1
        split at q1
        · cases hsv
          split at q1
          · rename_i hn0
            have hn0 := Nat.eq_of_beq_eq_true hn0
            subst hn0
            exact ⟨_, ov, nx, ρ, _, w, q1, .refl _ _ _ _, h, .nils, run_append_none hT hlen (q4 w rfl)⟩
          · rename_i hn0
            have hn0 : n ≠ 0 := by intro k; subst k; simp at hn0
            rw [forceN_eq] at q1
            have := appended_new (ty := ty) (old := []) (olds := []) (sLen := 0) (sCap := 0) (b := none) (n := n) h hT hzs .nil q2 (by simp) q3 (by omega) hlen (by omega) (by simp [Builtin.firstCells]) (q4 w.drew rfl) (by simpa using q1)
            simpa using this
        · rename_i b off len cap es' ex
          split at q1
          · rename_i he1 hle
            have he1 := Nat.eq_of_beq_eq_true he1
            have hle := Nat.le_of_ble_eq_true hle
            subst he1
            cases hsv with
            | @sl _ en _ _ _ cap' _ _ a hb hc hx hl ha =>
              split at q1
              · rename_i hn0
                have hn0 := Nat.eq_of_beq_eq_true hn0
                subst hn0
                have hnl : news = [] := List.eq_nil_of_length_eq_zero (by simpa using q3)
                subst hnl
                have := run_append_room (P := P) (ty := ty) (a := a) (sLen := len) (sCap := cap') (w' := w) hT hlen (by omega) (q4 w rfl) (by simp [storeCells])
                exact ⟨_, ov, nx, ρ, _, w, q1, .refl _ _ _ _, h, .sl hb hc hx hl ha, this⟩
              · rename_i hn0
                have hn0 : n ≠ 0 := by intro k; subst k; simp at hn0
                obtain ⟨ha', _⟩ := ha (by omega)
                subst ha'
                obtain ⟨r0, ov', w', r1, r2, r3, r4⟩ := writeK_ok (P := P) h hb q2 q1
                have r1 := ret1_ok r1
                have := run_append_room (P := P) (ty := ty) (a := ⟨en.r, en.d + off, none⟩) (sLen := len) (sCap := cap') (w' := w') hT hlen (by omega) (q4 w rfl) (by rw [add_eq, Nat.add_assoc]; exact r4)
                exact ⟨_, ov', nx, ρ, _, w', r1, r3, r2, .sl hb hc hx (by omega) (fun _ => ha (by omega)), this⟩
          · rename_i he1 hle
            have he1 := Nat.eq_of_beq_eq_true he1
            have hle := ble_false hle
            subst he1
            obtain ⟨old, olds, p1, p2, p3, p4⟩ := elems_ok (P := P) h hsv q1
            cases hsv with
            | @sl _ en _ _ _ cap' _ _ a hb hc hx hl ha =>
              split at p1
              · rw [forceN_eq] at p1
                have hcc : cap = cap' := hx rfl
                refine appended_new (ty := ty) h hT hzs p2 q2 p3 q3 ?_ hlen (by omega) ?_ (q4 w.drew rfl) (growOldK_ok p1)
                · omega
                · exact p4 w.drew rfl
              · rename_i m0 rows0 plain hlk
                rw [Tr.setK_eq, forceN_eq] at p1
                have p1 := growOldK_ok p1
                have hk := h.kill b
                by_cases hroom : len + n ≤ cap'
                · obtain ⟨ha1, ha2⟩ := ha (by omega)
                  have ha2 := ha2 rfl
                  subst ha1
                  obtain ⟨c, el, fz, c1, c2, c3, c4, c5, c6, c7⟩ := h.block b _ en hlk hb
                  have hbound : en.d + off + (len * es + n * es) ≤ en.s := by
                    have : (len + n) * es ≤ cap' * es := Nat.mul_le_mul_right _ hroom
                    rw [Nat.add_mul] at this
                    omega
                  have holds : olds = (c.toList.drop (en.d + off)).take (len * es) := by
                    have e1 := p4 w rfl
                    have e2 := run_loadCells_at (P := P) c1 (o := en.d + off) (n := len * es) (by omega)
                    simp only [Builtin.firstCells] at e1
                    rw [e2] at e1
                    injection e1 with e1
                    simpa using e1.symm
                  obtain ⟨w', s1, s2, s3⟩ := run_storeCells_at (P := P) news 0 c w (o := en.d + off + len * es) c1 (by rw [c2]; exact c4) (by rw [q3]; omega) (by
                    intro v hvm
                    obtain ⟨j, hj⟩ := List.getElem?_of_mem hvm
                    have hjl : j < new.length := by
                      rw [q2.length]
                      rcases Nat.lt_or_ge j news.length with hh | hh
                      · exact hh
                      · rw [List.getElem?_eq_none hh] at hj; cases hj
                    obtain ⟨d1, v2, d2, d3⟩ := q2.get (List.getElem?_eq_getElem hjl)
                    rw [hj] at d2; cases d2
                    exact d3.cell d1)
                  have hrun := run_append_room (P := P) (ty := ty) (a := ⟨en.r, en.d + off, none⟩) (sLen := len) (sCap := cap') (w' := w') hT hlen hroom (q4 w rfl) (by rw [add_eq]; exact s1)
                  obtain ⟨t1, t2, t3, rows, t4, t5, t6⟩ := growK_ok (by rw [List.length_append, p2.length, q2.length, p3, q3, Nat.add_mul]) (by omega) p1
                  have habs : absent base ov (Id.of nx) = true := by
                    rw [absent_set] at t1
                    split at t1
                    · cases t1
                    · exact t1
                  have hnone := h.dom _ habs
                  have hne : Id.of nx ≠ b := fun k => by rw [k, hb] at hnone; cases hnone
                  let ne : Ent := ⟨en.r, en.d + off, en.s⟩
                  have hr : en.r < w.heap.size := h.size _ _ hb
                  refine ⟨_, _, _, upd ρ (Id.of nx) ne, _, w', t4, ⟨⟨upd_le _ hnone, fun b1 e1 h1 => ?_, fun r hr hn => s2.other r fun k => hn b en hb k.symm, Nat.le_of_eq s2.size.symm, s2.os, s2.tape, s2.output⟩, fun b1 h1 h2 => ?_, fun b1 h1 => ?_⟩, ?_, ?_, hrun⟩
                  · unfold upd at h1
                    split at h1
                    · cases h1; exact .inr ⟨b, en, hb, rfl⟩
                    · exact .inr ⟨b1, e1, h1, rfl⟩
                  · have hne1 : b1 ≠ Id.of nx := by intro k; subst k; rw [habs] at h1; cases h1
                    simp [upd, hne1, h2]
                  · rw [absent_set] at h1
                    split at h1
                    · cases h1
                    · rw [absent_set] at h1
                      split at h1
                      · cases h1
                      · exact h1
                  · refine HR.use (w := w) (hk.lay _ t1) hnone (by rw [look_set, if_pos rfl]) (Nat.le_of_eq s2.size.symm) (by rw [s2.size]; exact hr) (fun k _ hk => s2.other k hk) (fun b1 o1 e1 h1 r1 hh => ?_) ?_
                    · rw [look_set] at h1
                      split at h1
                      · rename_i hbb; subst hbb; rw [hnone] at r1; cases r1
                      · rw [look_set] at h1
                        split at h1
                        · cases h1
                        · rename_i hbb
                          exact hbb (h.inj b1 b o1 _ e1 en h1 hlk r1 hb hh)
                    · refine ⟨_, el, fz, s3, by rw [setRange_size]; exact c2, by show en.d + off + (len + n) * es ≤ en.s; rw [Nat.add_mul]; exact hbound, c4, c5, t5, fun i hi => ?_⟩
                      rw [Nat.add_mul] at hi
                      have hall := p2.append q2
                      have hi2 : i < (old ++ new).length := by rw [List.length_append, p2.length, q2.length, p3, q3]; exact hi
                      obtain ⟨a1, v', a2, a3⟩ := hall.get (List.getElem?_eq_getElem hi2)
                      refine ⟨_, by rw [t6 i (by rw [Nat.add_mul]; exact hi)]; exact List.getElem?_eq_getElem hi2, a1, v', ?_, a3.mono (upd_le _ hnone)⟩
                      show (setRange c (en.d + off + len * es + 0) news)[en.d + off + i]? = _
                      rw [setRange_get _ _ _ _ (by omega), ← a2]
                      by_cases hil : i < len * es
                      · rw [if_neg (by omega), List.getElem?_append_left (by rw [p3]; exact hil), holds, List.getElem?_take, if_pos hil, List.getElem?_drop]
                        simp
                      · rw [if_pos (by omega), List.getElem?_append_right (by rw [p3]; omega), p3]
                        congr 1; omega
                  · exact .sl (e := ne) (upd_same _ _ _) hroom (fun hf => by cases hf) (Nat.le_refl _) fun _ => ⟨rfl, fun _ => ha2⟩
                · have hnot : ¬ len + n ≤ cap' := hroom
                  obtain ⟨v, ov', nx', ρ', v', w', t1, t2, t3, t4, t5⟩ := appended_new (ty := ty) hk hT hzs p2 q2 p3 q3 (by omega) hlen hnot (p4 w.drew rfl) (q4 w.drew rfl) p1
                  exact ⟨v, ov', nx', ρ', v', w', t1, Thru.set.trans t2, t3, t4, t5⟩
              · exact (not_sat_bad p1).elim
          · exact (not_sat_bad q1).elim
        · exact (not_sat_bad q1).elim
      · exact (not_sat_bad g1).elim
    · exact (not_sat_bad hs).elim
  · exact (not_sat_bad hs).elim
end
end Go.Ab
/- The abstract machine of these proofs, part 21: one operation. -/
namespace Go.Ab
open Go.RowKit

section
variable {base ov : Hp} {ρ : Rho} {w : World} {l : List Out} {nx : Nat} {K : KV} {C : Ctx} {E : Code → R} {fr : Fr} {ev : Operand → Value} {o : Oper}

/-- What an operation's operands stand for, here and there. -/
def Opers (ρ : Rho) (fr : Fr) (ev : Operand → Value) (o : Oper) : Prop := ∀ x ∈ o.op.operands, VR ρ (evS fr x) (ev x)
theorem OV.of {x : Option Operand} (h : ∀ y, x = some y → VR ρ (evS fr y) (ev y)) : OV ρ (x.map (evS fr)) (x.map ev) := by
  cases x with
  | none => trivial
  | some y => exact h y rfl
theorem VRL.ofArr {xs : Array Operand} (h : ∀ x ∈ xs, VR ρ (evS fr x) (ev x)) : VRL ρ (xs.toList.map (evS fr)) (xs.map ev).toList := by
  rw [Array.toList_map]
  have h : ∀ x ∈ xs.toList, VR ρ (evS fr x) (ev x) := fun x hx => h x (Array.mem_toList_iff.1 hx)
  generalize xs.toList = L at h
  induction L with
  | nil => exact .nil
  | cons a L ih => exact .cons (h a (List.mem_cons_self ..)) (ih fun x hx => h x (List.mem_cons_of_mem _ hx))
theorem calm_exec {S : Sem Value} (hc : Calm C.P l ρ w ov nx K S) (he : execOp ev o = (do pure (.value (← S)))) :
    ∃ v v', Sat (K v ov nx) l ∧ VR ρ v v' ∧ (execOp ev o).run C.P w = .ok (.value v') w := by
  obtain ⟨v, v', a, b, c⟩ := hc
  exact ⟨v, v', a, b, by rw [he]; simp [c]⟩
theorem nilCheck_ok {x : AV} {x' : Value} {wy : String} (hx : VR ρ x x') (hs : Sat (match (generalizing := false) x with | .ptr b off => K (.ptr b off) ov nx | _ => .bad wy) l) :
    ∃ e off, x' = .pointer (some ⟨e, off, none⟩) ∧ Sat (K x ov nx) l := by
  split at hs
  · rename_i hx
    cases hx
    exact ⟨_, _, rfl, hs⟩
  · exact (not_sat_bad hs).elim
theorem builtinQ_ok (h : HR base ρ ov w) {P : Program} {b : Builtin} {ts : Array TypeId} {as : List AV} {A : Array Value} {wy : String} (hb : b = .len ∨ b = .cap ∨ b = .max ∨ b = .min) (ha : VRL ρ as A.toList)
    (hs : Sat (builtinK P base b ts as wy ov nx K) l) : ∃ v v', Sat (K v ov nx) l ∧ VR ρ v v' ∧ ∀ ty consts, (builtin b ts ty consts A).run P w = .ok (.value v') w := by
  obtain ⟨A⟩ := A
  simp only at ha
  rcases hb with rfl | rfl | rfl | rfl
  · cases ha with
    | nil => exact (not_sat_bad hs).elim
    | cons hx ht =>
      cases ht with
      | cons hy ht2 => exact (not_sat_bad hs).elim
      | nil =>
        replace hs : Sat (match ts[0]? with
          | some t => lenK base ov P t _ wy fun n => forceN n fun n => K (.int .i64 (.ofNat n)) ov nx
          | none => .bad wy) l := hs
        split at hs
        · rename_i t ht
          obtain ⟨n, g1, g2⟩ := len_ok (P := P) h ht hx hs
          rw [forceN_eq] at g1
          exact ⟨_, _, g1, .int _ _, fun ty consts => by simp [builtin, g2 ty]⟩
        · exact (not_sat_bad hs).elim
  · cases ha with
    | nil => exact (not_sat_bad hs).elim
    | cons hx ht =>
      cases ht with
      | cons hy ht2 => cases hx <;> first | exact (not_sat_bad hs).elim | (rename_i ex _ _ _ _ _ _; cases ex <;> exact (not_sat_bad hs).elim)
      | nil =>
        cases hx with
        | @sl _ _ _ _ cap cap' _ ex _ hb hc hx hl ha =>
          cases ex with
          | false => exact (not_sat_bad hs).elim
          | true =>
            replace hs : Sat (match (ts[0]?).bind P.underlying with
              | some (.slice _) => K (.int .i64 (.ofNat cap)) ov nx
              | _ => .bad wy) l := hs
            split at hs
            · rename_i e hu
              cases ht : ts[0]? with
              | none => rw [ht] at hu; cases hu
              | some t =>
                rw [ht] at hu
                have hu : P.underlying t = some (.slice e) := hu
                have hcc := hx rfl
                subst hcc
                exact ⟨_, _, hs, .int _ _, fun ty consts => by simp [builtin, Builtin.cap_, ht, run_underlying hu, goInt]⟩
            · exact (not_sat_bad hs).elim
        | _ => exact (not_sat_bad hs).elim
  · cases ha with
    | nil => exact (not_sat_bad hs).elim
    | cons hx ht =>
      have hs : Sat (maxMin (fun a b => ltI a b) _ _ wy ov nx K) l := hs
      obtain ⟨v, v', g1, g2, g3⟩ := maxMin_ok (P := P) (ρ := ρ) (w := w) (f := Builtin.max2) (fun k a b => by simp [Builtin.max2, ltI_eq]) ht hx hs
      exact ⟨v, v', g1, g2, fun ty consts => by simp [builtin, Builtin.max_, g3]⟩
  · cases ha with
    | nil => exact (not_sat_bad hs).elim
    | cons hx ht =>
      have hs : Sat (maxMin (fun a b => ltI b a) _ _ wy ov nx K) l := hs
      obtain ⟨v, v', g1, g2, g3⟩ := maxMin_ok (P := P) (ρ := ρ) (w := w) (f := Builtin.min2) (fun k a b => by simp [Builtin.min2, ltI_eq]) ht hx hs
      exact ⟨v, v', g1, g2, fun ty consts => by simp [builtin, Builtin.min_, g3]⟩
theorem opQ_ok (h : HR base ρ ov w) (hk : kindOf C.P o.op = .Q) (hev : Opers ρ fr ev o) (hs : Sat (opR o.op o C E base fr ov nx K) l) :
    ∃ v v', Sat (K v ov nx) l ∧ VR ρ v v' ∧ (execOp ev o).run C.P w = .ok (.value v') w := by
  obtain ⟨dst, op, type, pos, after, guard⟩ := o
  simp only at hk hs
  cases op <;> simp only [kindOf, reduceCtorEq] at hk <;> simp only [Opers, Op.operands] at hev
  case move x =>
    replace hs : Sat (evK fr x fun v => K v ov nx) l := hs
    rw [evK_eq] at hs
    exact ⟨_, _, hs, hev x (by simp), by simp [execOp]⟩
  case assign x =>
    replace hs : Sat (evK fr x fun v => K v ov nx) l := hs
    rw [evK_eq] at hs
    exact ⟨_, _, hs, hev x (by simp), by simp [execOp]⟩
  case pick c x y =>
    replace hs : Sat (evK fr c fun v => match v with | .bool true => evK fr x fun v => K v ov nx | .bool false => evK fr y fun v => K v ov nx | _ => .bad pos) l := hs
    rw [evK_eq] at hs
    have hc := hev c (by simp)
    generalize evS fr c = cv at hs hc
    split at hs
    · cases e : ev c <;> rw [e] at hc <;> cases hc
      rw [evK_eq] at hs
      exact ⟨_, _, hs, hev x (by simp), by simp [execOp, e, asBool]⟩
    · cases e : ev c <;> rw [e] at hc <;> cases hc
      rw [evK_eq] at hs
      exact ⟨_, _, hs, hev y (by simp), by simp [execOp, e, asBool]⟩
    · exact (not_sat_bad hs).elim
  case build t ps =>
    replace hs : Sat (buildR t ps ⟨dst, .build t ps, type, pos, after, guard⟩ C E base fr ov nx K) l := hs
    unfold buildR at hs
    have hp : ∀ p ∈ ps.toList, VR ρ (evS fr p.2) (ev p.2) := fun p hp => hev p.2 (by simp; exact ⟨p.1, by simpa using hp⟩)
    exact calm_exec (build_ok hp hs) rfl
  case load t a =>
    replace hs : Sat (evK fr a fun a => loadK C.P base ov t a pos fun v => K v ov nx) l := hs
    rw [evK_eq] at hs
    exact calm_exec (load_ok h (hev a (by simp)) hs) rfl
  case nilCheck x =>
    replace hs : Sat (evK fr x fun v => match v with | .ptr b off => K (.ptr b off) ov nx | _ => .bad pos) l := hs
    rw [evK_eq] at hs
    obtain ⟨e, off, h1, h2⟩ := nilCheck_ok (hev x (by simp)) hs
    exact ⟨_, _, h2, hev x (by simp), by simp [execOp, h1]⟩
  case binOp bo t x y yt =>
    replace hs : Sat (evK fr x fun a => evK fr y fun b => binR bo C.P base ov t a b pos nx K) l := hs
    rw [evK_eq, evK_eq] at hs
    exact calm_exec (binR_ok h (hev x (by simp)) (hev y (by simp)) x y hs) rfl
  case unOp uo t x =>
    replace hs : Sat (unOpR uo t x ⟨dst, .unOp uo t x, type, pos, after, guard⟩ C E base fr ov nx K) l := hs
    unfold unOpR at hs
    rw [evK_eq] at hs
    exact calm_exec (unary_ok (hev x (by simp)) hs) rfl
  case convert s d x =>
    split at hk
    · rename_i hc
      replace hs : Sat (evK fr x fun v => convertK C.P base ov nx s d v pos K) l := hs
      rw [evK_eq] at hs
      exact calm_exec (convert_ok h hc (hev x (by simp)) hs) rfl
    · cases hk
  case sliceToArrayPointer t x =>
    replace hs : Sat (toArrayR t x ⟨dst, .sliceToArrayPointer t x, type, pos, after, guard⟩ C E base fr ov nx K) l := hs
    unfold toArrayR at hs
    rw [evK_eq] at hs
    exact calm_exec (arrayAt_ok (hev x (by simp)) hs) rfl
  case makeFunc fn first caps =>
    replace hs : Sat (makeFuncR fn first caps ⟨dst, .makeFunc fn first caps, type, pos, after, guard⟩ C E base fr ov nx K) l := hs
    unfold makeFuncR at hs
    split at hs
    · rw [evL_eq, evL_eq] at hs
      refine ⟨_, _, hs, .func (VRL.ofArr fun x hx => hev x (by simp [hx])) (VRL.ofArr fun x hx => hev x (by simp [hx])), by simp [execOp, Instr.makeFunc]⟩
    · exact (not_sat_bad hs).elim
  case slice t x lo hi mx =>
    replace hs : Sat (evK fr x fun x => evO fr lo fun lo => evO fr hi fun hi => evO fr mx fun mx => match sliceV C.P t x lo hi mx with
      | some v => forceV1 v fun v => K v ov nx
      | none => .bad pos) l := hs
    rw [evK_eq, evO_eq, evO_eq, evO_eq] at hs
    split at hs
    · rename_i v hv
      rw [forceV1_eq] at hs
      exact calm_exec (slice_ok (hev x (by simp)) (.of fun y hy => hev y (by simp [hy])) (.of fun y hy => hev y (by simp [hy])) (.of fun y hy => hev y (by simp [hy])) hv hs) rfl
    · exact (not_sat_bad hs).elim
  case fieldAddr s x f =>
    replace hs : Sat (fieldAddrR s x f ⟨dst, .fieldAddr s x f, type, pos, after, guard⟩ C E base fr ov nx K) l := hs
    unfold fieldAddrR at hs
    rw [evK_eq] at hs
    exact calm_exec (fieldAddr_ok (hev x (by simp)) hs) rfl
  case field t x f =>
    replace hs : Sat (fieldR t x f ⟨dst, .field t x f, type, pos, after, guard⟩ C E base fr ov nx K) l := hs
    unfold fieldR at hs
    rw [evK_eq] at hs
    exact calm_exec (field_ok (hev x (by simp)) hs) rfl
  case indexAddr t x i =>
    replace hs : Sat (indexAddrR t x i ⟨dst, .indexAddr t x i, type, pos, after, guard⟩ C E base fr ov nx K) l := hs
    unfold indexAddrR at hs
    rw [evK_eq, evK_eq] at hs
    exact calm_exec (indexAddr_ok (hev x (by simp)) (hev i (by simp)) hs) rfl
  case index t x i =>
    replace hs : Sat (indexR t x i ⟨dst, .index t x i, type, pos, after, guard⟩ C E base fr ov nx K) l := hs
    unfold indexR at hs
    rw [evK_eq, evK_eq] at hs
    exact calm_exec (index_ok (hev x (by simp)) (hev i (by simp)) hs) rfl
  case lookup t m k ok =>
    replace hs : Sat (evK fr m fun m => evK fr k fun k => lookupK C.P base ov t m k ok pos nx K) l := hs
    rw [evK_eq, evK_eq] at hs
    exact calm_exec (lookup_ok h (hev m (by simp)) (hev k (by simp)) hs) rfl
  case entry it =>
    replace hs : Sat (evK fr it fun it => match entryV base ov it with
      | some v => K v ov nx
      | none => .bad pos) l := hs
    rw [evK_eq] at hs
    split at hs
    · rename_i v hv
      exact calm_exec (entry_ok h (hev it (by simp)) hv hs) rfl
    · exact (not_sat_bad hs).elim
  case extract t i =>
    replace hs : Sat (extractR t i ⟨dst, .extract t i, type, pos, after, guard⟩ C E base fr ov nx K) l := hs
    unfold extractR at hs
    rw [evK_eq] at hs
    exact calm_exec (extract_ok (hev t (by simp)) hs) rfl
  case call c =>
    obtain ⟨callee, args, argTypes⟩ := c
    cases callee with
    | value f => simp at hk
    | invoke r m => simp at hk
    | builtin b =>
      have ha : VRL ρ (args.toList.map (evS fr)) (args.map ev).toList := VRL.ofArr fun x hx => hev x (by simp [Call.operands, hx])
      replace hs : Sat (evL fr args.toList fun args => builtinK C.P base b argTypes args pos ov nx K) l := hs
      rw [evL_eq] at hs
      generalize args.toList.map (evS fr) = as at hs ha
      have hb : b = .len ∨ b = .cap ∨ b = .max ∨ b = .min := by
        cases b <;> first | exact .inl rfl | exact .inr (.inl rfl) | exact .inr (.inr (.inl rfl)) | exact .inr (.inr (.inr rfl)) | (simp at hk; done)
      obtain ⟨v, v', g1, g2, g3⟩ := builtinQ_ok (P := C.P) h hb ha hs
      refine ⟨v, v', g1, g2, ?_⟩
      simp only [execOp, resolve, Sem.run_bind, Sem.run_pure, Result.andThen_ok, invoke]
      exact g3 _ _
end
end Go.Ab
/- The abstract machine of these proofs, part 22: makers of a block, and operations that change memory. -/
namespace Go.Ab
open Go.RowKit
section
variable {base ov : Hp} {w : World} {l : List Out} {nx : Nat} {K : KV} {C : Ctx} {E : Code → R} {fr : Fr} {o : Oper}

/-- An operation that makes a block: what it makes, whatever the relation, the world and the values that its operands stand for. -/
def MakesOp (P : Program) (fr : Fr) (o : Oper) (b : Id) (ob : AO) (v : AV) : Prop :=
  ∀ (ρ : Rho) (w : World) (ev : Operand → Value), Opers ρ fr ev o → ρ b = none →
    ∃ obj d s v', (execOp ev o).run P w = .ok (.value v') (w.alloc obj) ∧ OR (upd ρ b ⟨w.heap.size, d, s⟩) (w.alloc obj) ⟨w.heap.size, d, s⟩ ob ∧ VR (upd ρ b ⟨w.heap.size, d, s⟩) v v'
theorem madeAs_exec {P : Program} {ρ : Rho} {w : World} {ev : Operand → Value} {S : Sem Value} {b : Id} {ob : AO} {v : AV} (hm : MadeAs P ρ S b ob v w) (he : execOp ev o = (do pure (.value (← S)))) :
    ∃ obj d s v', (execOp ev o).run P w = .ok (.value v') (w.alloc obj) ∧ OR (upd ρ b ⟨w.heap.size, d, s⟩) (w.alloc obj) ⟨w.heap.size, d, s⟩ ob ∧ VR (upd ρ b ⟨w.heap.size, d, s⟩) v v' := by
  obtain ⟨obj, d, s, v', a, b, c⟩ := hm
  exact ⟨obj, d, s, v', by rw [he]; simp [a], b, c⟩
theorem opA_ok (hk : kindOf C.P o.op = .A) (hs : Sat (opR o.op o C E base fr ov nx K) l) :
    ∃ b ob v, Makes base ov nx l K b ob v ∧ MakesOp C.P fr o b ob v := by
  obtain ⟨dst, op, type, pos, after, guard⟩ := o
  simp only at hk hs
  cases op <;> simp only [kindOf, reduceCtorEq] at hk
  case alloc t =>
    replace hs : Sat (allocR t ⟨dst, .alloc t, type, pos, after, guard⟩ C E base fr ov nx K) l := hs
    unfold allocR at hs
    obtain ⟨b, ob, v, g1, g2⟩ := alloc_ok hs
    exact ⟨b, ob, v, g1, fun ρ w ev _ hn => madeAs_exec (g2 ρ w hn) rfl⟩
  case box t x =>
    replace hs : Sat (boxR t x ⟨dst, .box t x, type, pos, after, guard⟩ C E base fr ov nx K) l := hs
    unfold boxR at hs
    rw [evK_eq] at hs
    obtain ⟨b, ob, v, g1, g2⟩ := box_ok (P := C.P) (t := t) hs
    exact ⟨b, ob, v, g1, fun ρ w ev hev hn => madeAs_exec (g2 ρ w (ev x) (hev x (by simp [Op.operands])) hn) rfl⟩
  case buildSlice t len ps =>
    replace hs : Sat (buildSliceR t len ps ⟨dst, .buildSlice t len ps, type, pos, after, guard⟩ C E base fr ov nx K) l := hs
    unfold buildSliceR at hs
    obtain ⟨b, ob, v, g1, g2⟩ := buildSlice_ok hs
    exact ⟨b, ob, v, g1, fun ρ w ev hev hn => madeAs_exec (g2 ρ w ev (fun p hp => hev p.2 (by simp [Op.operands]; exact ⟨p.1, by simpa using hp⟩)) hn) rfl⟩
  case makeMap t r =>
    replace hs : Sat (makeMapR t r ⟨dst, .makeMap t r, type, pos, after, guard⟩ C E base fr ov nx K) l := hs
    unfold makeMapR at hs
    cases r with
    | some r => exact (not_sat_bad hs).elim
    | none =>
      obtain ⟨b, ob, v, g1, g2⟩ := makeMap_ok (P := C.P) (t := t) hs
      exact ⟨b, ob, v, g1, fun ρ w ev _ hn => madeAs_exec (g2 ρ w hn) rfl⟩
  case makeSlice t lo ca =>
    replace hs : Sat (makeSliceR t lo ca ⟨dst, .makeSlice t lo ca, type, pos, after, guard⟩ C E base fr ov nx K) l := hs
    unfold makeSliceR at hs
    rw [evK_eq, evK_eq] at hs
    obtain ⟨b, ob, v, g1, g2⟩ := makeSlice_ok hs
    exact ⟨b, ob, v, g1, fun ρ w ev hev hn => madeAs_exec (g2 ρ w (ev lo) (ev ca) (hev lo (by simp [Op.operands])) (hev ca (by simp [Op.operands])) hn) rfl⟩
  case convert s d x => split at hk <;> cases hk
  case call c =>
    obtain ⟨callee, args, argTypes⟩ := c
    cases callee with
    | value f => simp at hk
    | invoke r m => simp at hk
    | builtin b => cases b <;> simp at hk

/-- What an operation gives that may change memory and calls no function. -/
def Deed (P : Program) (base : Hp) (l : List Out) (K : KV) (ρ : Rho) (ov : Hp) (w : World) (S : Sem Next) : Prop :=
  ∃ v ov' nx' ρ' v' w', Sat (K v ov' nx') l ∧ Thru base ρ ov w ρ' ov' w' ∧ HR base ρ' ov' w' ∧ VR ρ' v v' ∧ (S.run P w = .ok (.value v') w' ∨ (S.run P w = .ok .skip w' ∧ v' = undef))
theorem Does.deed {P : Program} {ρ : Rho} {S : Sem Value} {ev : Operand → Value} (hd : Does P base l K ρ ov w S) (he : execOp ev o = (do pure (.value (← S)))) : Deed P base l K ρ ov w (execOp ev o) := by
  obtain ⟨v, ov', nx', ρ', v', w', a, b, c, d, e⟩ := hd
  exact ⟨v, ov', nx', ρ', v', w', a, b, c, d, .inl (by rw [he]; simp [e])⟩
theorem DoesU.deed {P : Program} {ρ : Rho} {S : Sem Unit} {ev : Operand → Value} (hd : DoesU P base l K ρ ov w S) (he : execOp ev o = (do S; pure .skip)) : Deed P base l K ρ ov w (execOp ev o) := by
  obtain ⟨ov', nx', ρ', w', a, b, c, e⟩ := hd
  exact ⟨_, ov', nx', ρ', undef, w', a, b, c, .tup .nil, .inr ⟨by rw [he]; simp [e], rfl⟩⟩
theorem next_ok {P : Program} {ρ : Rho} (h : HR base ρ ov w) {it : AV} {it' : Value} {isS : Bool} {wy : String} {ty : TypeId} (hit : VR ρ it it') (hs : Sat (nextK base ov nx it isS wy K) l) :
    Does P base l K ρ ov w (Instr.next it' isS ty) := by
  unfold nextK at hs
  split at hs
  · rename_i b
    cases hit with
    | @ptr _ e _ hb =>
      split at hs
      · rename_i hl; exact nextStr_ok h hb hl hs
      · rename_i hl
        obtain ⟨m', seen', g1, g2, g3, g4, g5⟩ := h.block _ _ e hl hb
        have g4 : m' = none := g4
        subst g4
        have hg := run_getObj_of (P := P) g1 (by simp)
        exact ⟨_, ov, nx, ρ, .tuple #[.bool false], w, hs, .refl _ _ _ _, h, .tup (.cons (.bool _) .nil), by simp [Instr.next, g5, hg]⟩
      · rename_i hl; exact nextMap_ok h hb hl hs
      · exact (not_sat_bad hs).elim
  · exact (not_sat_bad hs).elim
/-- A call of a function's value. -/
def callsValue : Op → Bool
  | .call ⟨.value _, _, _⟩ => true
  | _ => false
theorem builtinE_ok {P : Program} {ρ : Rho} (h : HR base ρ ov w) {b : Builtin} {ts : Array TypeId} {as : List AV} {A : Array Value} {wy : String} (hb : b = .append ∨ b = .copy ∨ b = .clear ∨ b = .delete) (ha : VRL ρ as A.toList)
    (hs : Sat (builtinK P base b ts as wy ov nx K) l) (ty : TypeId) (consts : Array Bool) : ∃ S, Does P base l K ρ ov w S ∧ builtin b ts ty consts A = (do pure (.value (← S))) := by
  obtain ⟨A⟩ := A
  simp only at ha
  rcases hb with rfl | rfl | rfl | rfl
  · cases ha with
    | nil => exact (not_sat_bad hs).elim
    | cons hx ht =>
      cases ht with
      | nil => exact (not_sat_bad hs).elim
      | cons hy ht2 =>
        cases ht2 with
        | cons hz _ => exact (not_sat_bad hs).elim
        | nil => exact ⟨_, append_ok (ty := ty) h hx hy hs, rfl⟩
  · cases ha with
    | nil => exact (not_sat_bad hs).elim
    | cons hx ht =>
      cases ht with
      | nil => exact (not_sat_bad hs).elim
      | cons hy ht2 =>
        cases ht2 with
        | cons hz _ => exact (not_sat_bad hs).elim
        | nil => exact ⟨_, copy_ok (ty := ty) h hx hy hs, rfl⟩
  · cases ha with
    | nil => exact (not_sat_bad hs).elim
    | cons hx ht =>
      cases ht with
      | nil => exact ⟨_, clear_ok (ty := ty) h hx hs, rfl⟩
      | cons hy ht2 => exact (not_sat_bad hs).elim
  · cases ha with
    | nil => exact (not_sat_bad hs).elim
    | cons hx ht =>
      cases ht with
      | nil => exact (not_sat_bad hs).elim
      | cons hy ht2 =>
        cases ht2 with
        | cons hz _ => exact (not_sat_bad hs).elim
        | nil => exact ⟨_, delete_ok (ty := ty) h hx hy hs, rfl⟩
theorem opE_ok {ρ : Rho} {ev : Operand → Value} (h : HR base ρ ov w) (hk : kindOf C.P o.op = .E) (hc : callsValue o.op = false) (hev : Opers ρ fr ev o) (hs : Sat (opR o.op o C E base fr ov nx K) l) :
    Deed C.P base l K ρ ov w (execOp ev o) := by
  obtain ⟨dst, op, type, pos, after, guard⟩ := o
  simp only at hk hs hc
  cases op <;> simp only [kindOf, reduceCtorEq] at hk <;> simp only [Opers, Op.operands] at hev <;> try exact (not_sat_bad (show Sat (Ans.bad pos) l from hs)).elim
  case insert t m k v =>
    replace hs : Sat (mapUpdateR t m k v ⟨dst, .insert t m k v, type, pos, after, guard⟩ C E base fr ov nx K) l := hs
    unfold mapUpdateR at hs
    rw [evK_eq, evK_eq, evK_eq] at hs
    exact (mapUpdate_ok h (hev m (by simp)) (hev k (by simp)) (hev v (by simp)) hs).deed rfl
  case mapUpdate t m k v =>
    replace hs : Sat (mapUpdateR t m k v ⟨dst, .mapUpdate t m k v, type, pos, after, guard⟩ C E base fr ov nx K) l := hs
    unfold mapUpdateR at hs
    rw [evK_eq, evK_eq, evK_eq] at hs
    exact (mapUpdate_ok h (hev m (by simp)) (hev k (by simp)) (hev v (by simp)) hs).deed rfl
  case store t a v =>
    replace hs : Sat (storeR t a v ⟨dst, .store t a v, type, pos, after, guard⟩ C E base fr ov nx K) l := hs
    unfold storeR at hs
    rw [evK_eq, evK_eq] at hs
    exact (store_ok h (hev a (by simp)) (hev v (by simp)) hs).deed rfl
  case convert s d x =>
    split at hk
    · cases hk
    · rename_i hcalm
      replace hs : Sat (evK fr x fun v => convertK C.P base ov nx s d v pos K) l := hs
      rw [evK_eq] at hs
      exact (convertS_ok h (by simpa using hcalm) (hev x (by simp)) hs).deed rfl
  case range t x =>
    replace hs : Sat (rangeR t x ⟨dst, .range t x, type, pos, after, guard⟩ C E base fr ov nx K) l := hs
    unfold rangeR at hs
    rw [evK_eq] at hs
    exact (range_ok h (hev x (by simp)) hs).deed rfl
  case next it isS =>
    replace hs : Sat (evK fr it fun it => nextK base ov nx it isS pos K) l := hs
    rw [evK_eq] at hs
    exact (next_ok (ty := type) h (hev it (by simp)) hs).deed rfl
  case call c =>
    obtain ⟨callee, args, argTypes⟩ := c
    cases callee with
    | value f => simp [callsValue] at hc
    | invoke r m => exact (not_sat_bad hs).elim
    | builtin b =>
      have ha : VRL ρ (args.toList.map (evS fr)) (args.map ev).toList := VRL.ofArr fun x hx => hev x (by simp [Call.operands, hx])
      replace hs : Sat (evL fr args.toList fun args => builtinK C.P base b argTypes args pos ov nx K) l := hs
      rw [evL_eq] at hs
      by_cases hb : b = .append ∨ b = .copy ∨ b = .clear ∨ b = .delete
      · obtain ⟨S, g1, g2⟩ := builtinE_ok h hb ha hs type (args.map fun | .const _ => true | _ => false)
        refine g1.deed ?_
        rw [← g2]
        rfl
      · cases b <;> first | exact absurd (.inl rfl) hb | exact absurd (.inr (.inl rfl)) hb | exact absurd (.inr (.inr (.inl rfl))) hb | exact absurd (.inr (.inr (.inr rfl))) hb | (simp at hk; done) | exact (not_sat_bad hs).elim
end
end Go.Ab
