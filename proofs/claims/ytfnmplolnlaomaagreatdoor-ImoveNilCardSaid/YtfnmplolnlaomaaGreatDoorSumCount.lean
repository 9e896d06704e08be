/- The summary of bits.Get: is a bit set? -/
import Derived.Test.YtfnmplolnlaomaaGreatDoorMachineE
import Derived.Test.YtfnmplolnlaomaaGreatDoorProg
namespace Go.Ab
open Go.RowKit Go.Proofs
namespace KGet
noncomputable def cx : Ctx := { P := Tryz.prog, S := fun _ => none, J := fun _ => false }
noncomputable def ob : Code := Tryz.f55.body.getD .skip
def c1 : Code → Code
  | .seq a _ => a
  | c => c
def c2 : Code → Code
  | .seq _ b => b
  | c => c
def opsOf : Code → Array Oper
  | .region _ ops _ => ops
  | _ => #[]
noncomputable def rg : Array Oper := opsOf (c1 (c2 ob))
theorem plan_good : planGood cx.P rg = true := by decide +kernel
set_option maxRecDepth 100000
theorem plan_is : planOf cx.P rg = [(0, []), (1, []), (2, []), (3, []), (4, []), (5, []), (6, []), (7, []), (8, []), (9, []), (10, []), (11, []), (12, []), (13, []), (14, []), (15, [])] := by decide +kernel
theorem uSl : cx.P.underlying 155 = some (.slice 5) := rfl
theorem sByte : szOf cx.P 5 = some 1 := rfl
/-- Is there such a bit? -/
theorem there_run {base ov : Hp} {nx n : Nat} {b : Id} {off len cap : Nat} {ex : Bool} {i : Int} {K : KV} {l : List Out} (hlen : len < 1000000000) (h : Sat (K (.bool (!ltI i 0 && ltI i (8 * (len : Int)))) ov nx) l) :
    Sat (callK cx (exec cx (n + 1)) base 108 [.sl b off len cap 1 ex, .int .i64 i] ov nx K) l := by
  rw [callK_body (fn := Tryz.f108) rfl rfl rfl (Nat.le_of_ble_eq_true rfl)]
  have hw : wrapI .i64 (8 * (len : Int)) = 8 * (len : Int) := wrapI_small (by rw [wrap_i64]; split <;> omega)
  have hw2 : wrapI .i64 (8 * Int.ofNat len) = 8 * (len : Int) := hw
  unfold bodyK
  simp only [Tryz.f108, argFrameK_eq, argFrame]
  simp only [exec_succ, code_seq, code_region, code_ret, cSeq, cExit, cRegion]
  have a0 : (#[155] : Array TypeId)[0]? = some 155 := rfl
  cases hl : ltI i 0 with
  | true =>
    rw [hl] at h
    simp (decide := true) only [opsK_yes, opsK_no, opsK_nil, wantA_eq, opR_move, opR_assign, opR_binOp, opR_pick, moveR, binOpR, binR_geq, geqR, lessK, bothInts_same, evK_eq, evS, putK_some, get_set_if, if_true, if_false, Option.getD_some, AV.ofValue, AV.ofCell, retB_eq, hl, List.getElem?_toArray, List.getElem?_cons_zero, List.getElem?_cons_succ, Option.bind_some, Tr.getK_eq, Bool.not_true, pickR, leaveK, resultsK, resultK]
    exact h
  | false =>
    rw [hl] at h
    simp (decide := true) only [opsK_yes, opsK_nil, wantA_eq, opR_move, opR_assign, opR_call, opR_binOp, opR_pick, moveR, callR, evL_eq, List.map, builtinK, a0, lenK, uSl, forceN_eq, binOpR, binR_geq, geqR, binR_mul, binR_lss, lssR, mulR, lessK, bothInts_same, evK_eq, evS, putK_some, get_set_if, if_true, if_false, Option.getD_some, AV.ofValue, AV.ofCell, retB_eq, retI_eq, hl, hw2, List.getElem?_toArray, List.getElem?_cons_zero, List.getElem?_cons_succ, Option.bind_some, Tr.getK_eq, Bool.not_false, pickR, leaveK, resultsK, resultK]
    simpa using h
theorem bit_and : ∀ v : Fin 256, ∀ j : Fin 8, (!eqI (wrapI .u8 (((BitVec.ofInt 8 (Int.ofNat v.val) &&& BitVec.ofInt 8 (wrapI .u8 (1 * 2 ^ (min j.val 8)))).toNat : Nat) : Int)) 0) = Nat.testBit v.val j.val := by decide +kernel
theorem body_is : ob = .seq (c1 ob) (.seq (.region 1 rg true) .ret) := id rfl
theorem get_run {base ov : Hp} {nx n : Nat} {b : Id} {off len cap : Nat} {ex : Bool} {i v m : Nat} {r : Rows} {q : Bool} {K : KV} {l : List Out} (hlen : len < 1000000000) (hi : i < 8 * len) (hb : look base ov b = some (.cells m r q)) (hlt : Nat.blt (off + i / 8) m = true) (hr : r.getR (off + i / 8) = some (.int .u8 (.ofNat v))) (hv : v < 256)
    (h : Sat (K (.bool (Nat.testBit v (i % 8))) ov nx) l) :
    Sat (callK cx (exec cx (n + 2)) base 55 [.sl b off len cap 1 ex, .int .i64 (Int.ofNat i)] ov nx K) l := by
  rw [callK_body (fn := Tryz.f55) rfl rfl rfl (Nat.le_of_ble_eq_true rfl)]
  unfold bodyK
  have hb0 : Tryz.f55.body = some ob := rfl
  rw [hb0]
  simp only [argFrameK_eq, argFrame]
  rw [body_is]
  simp only [exec_succ, code_seq, code_region, code_ret, cSeq_eq, cExit_eq, cRegion_draw plan_good plan_is]
  simp only [rg, ob, Tryz.f55, Option.getD_some, c1, c2, opsOf]
  have h1 : ltI (Int.ofNat i) 0 = false := by rw [ltI_eq]; simp
  have h2 : ltI (Int.ofNat i) (8 * (len : Int)) = true := by rw [ltI_eq]; simp; omega
  simp (decide := true) only [code_region, cRegion_plain, opsK_yes, opsK_nil, wantA_eq, opR_assign, moveR, evK_eq, evS, AV.ofValue, AV.ofCell, putK_some]
  simp (decide := true) only [drawQ2, drawE2, opAt_eq, kindOf_eq, isQ_Q, isE_E, wantA_eq, valK_eq, List.getElem?_toArray, List.getElem?_cons_zero, List.getElem?_cons_succ, Option.getD_some, opR_move, moveR, evK_eq, evS, putK_some, get_set_if, if_true, if_false]
  simp (decide := true) only [opR_call, callR, evL_eq, List.map, evK_eq, evS, get_set_if, if_true, if_false, Option.getD_some, valueK]
  refine there_run hlen ?_
  have hbt : (!ltI (Int.ofNat i) 0 && ltI (Int.ofNat i) (8 * (len : Int))) = true := by rw [h1, h2]; rfl
  rw [hbt]
  have hdiv : wrapI .i64 (Int.tdiv (Int.ofNat i) 8) = Int.ofNat (i / 8) := by
    have : Int.tdiv (Int.ofNat i) 8 = Int.ofNat (i / 8) := rfl
    rw [this, wrapI_small]
    rw [wrap_i64]
    have : Int.ofNat (i / 8) = ((i / 8 : Nat) : Int) := rfl
    rw [this]
    split <;> omega
  have hmod : Int.tmod (Int.ofNat i) 8 = Int.ofNat (i % 8) := rfl
  have e0 : eqI 8 0 = false := rfl
  have hlen8 : Nat.blt (i / 8) len = true := by simp; omega
  have b1 : Nat.beq 1 1 = true := rfl
  have ab : aggT cx.P 5 = some false := rfl
  simp (decide := true) only [drawQ2, drawK_nil, opAt_eq, kindOf_eq, isQ_Q, wantA_eq, valK_eq, List.getElem?_toArray, List.getElem?_cons_zero, List.getElem?_cons_succ, Option.bind_some, Option.getD_some, opR_move, opR_assign, opR_binOp, opR_indexAddr, opR_load, opR_pick, moveR, evK_eq, evS, putK_some, get_set_if, if_true, if_false,
    binOpR, binR_quo, quoR, bothInts_same, AV.ofValue, AV.ofCell, e0, retI_eq, hdiv, indexAddrR, uSl, sByte, hlen8, forceN_eq, loadR, loadK, ab]
  have hbit := bit_and ⟨v, hv⟩ ⟨i % 8, by omega⟩
  simp only at hbit
  simp (decide := true) only [Nat.mul_one, readOneK, hb, hlt, hr, binR_rem, remR, bothInts_same, e0, hmod, retI_eq, show binR .shl = shlR from rfl, shlR, show binR .and = bitsR (fun _ a b => a &&& b) from rfl, bitsR, binR_neq, neqR, eqlK, ikEq_self, retB_eq, pickR, evK_eq, evS, get_set_if, if_true, if_false, Option.getD_some, AV.ofValue, AV.ofCell, leaveK, resultsK, resultK, Tr.getK_eq]
  rw [← hbit] at h
  exact h
/-- THE SUMMARY. -/
noncomputable def getS : Summ := fun base ov nx args K =>
  match args with
  | [.sl b off len _cap 1 _ex, .int .i64 (.ofNat i)] => match Nat.blt len 1000000000 && Nat.blt i (8 * len), look base ov b with
    | true, some (.cells m r _) => match Nat.blt (off + i / 8) m, r.getR (off + i / 8) with
      | true, some (.int .u8 (.ofNat v)) => match Nat.blt v 256 with
        | true => K (.bool (Nat.testBit v (i % 8))) ov nx
        | false => .bad "getS"
      | _, _ => .bad "getS"
    | _, _ => .bad "getS"
  | _ => .bad "getS"
theorem summ (hC : CtxOK cx) : SummOK cx.P 55 getS := by
  refine summ_of_run hC (n := 2) ?_
  intro base ov nx args K l hs
  unfold getS at hs
  split at hs
  · split at hs
    · rename_i hc hb
      simp only [Bool.and_eq_true, Nat.blt_eq] at hc
      split at hs
      · rename_i hlt hr
        split at hs
        · rename_i hv
          exact get_run hc.1 hc.2 hb hlt hr (by simpa using hv) hs
        · exact (not_sat_bad hs).elim
      · exact (not_sat_bad hs).elim
    · exact (not_sat_bad hs).elim
  · exact (not_sat_bad hs).elim
end KGet
end Go.Ab
/- The summary of bits.Count: how many of the first bits are set. -/
namespace Go.Ab
open Go.RowKit Go.Proofs
namespace KCount
noncomputable def cx : Ctx := { P := Tryz.prog, S := fun f => match Nat.beq f 55 with | true => some KGet.getS | false => none, J := fun _ => false }
noncomputable def ob : Code := Tryz.f93.body.getD .skip
def c1 : Code → Code
  | .seq a _ => a
  | .block _ a => a
  | .loop a => a
  | c => c
def c2 : Code → Code
  | .seq _ b => b
  | c => c
noncomputable def lb : Code := c1 (c1 (c2 (c1 (c2 (c2 ob)))))
theorem ob_eq : ob = .seq (c1 ob) (.seq (c1 (c2 ob)) (.seq (.seq (c1 (c1 (c2 (c2 ob)))) (.block 0 (.loop lb))) (c2 (c2 (c2 ob))))) := id rfl
set_option maxRecDepth 100000
theorem uSl : cx.P.underlying 155 = some (.slice 5) := rfl
def cntAt (bs : List Nat) (i : Nat) : Nat := match Nat.testBit (bs.getD (i / 8) 0) (i % 8) with
  | true => 1
  | false => 0
def cnt (bs : List Nat) : Nat → Nat
  | 0 => 0
  | m + 1 => cnt bs m + cntAt bs m
def lim (n : Int) (len : Nat) : Nat := match n with
  | .ofNat k => min k (8 * len)
  | .negSucc _ => 0
noncomputable def countS : Summ := fun base ov nx args K =>
  match args with
  | [.sl b off len _cap 1 _ex, .int .i64 n] => match Nat.blt len 10000 with
    | true => readK base ov b off len fun L => match bytesOfCells L with
      | some bs => forceN (cnt bs (lim n len)) fun c => K (.int .i64 (.ofNat c)) ov nx
      | none => .bad "countS"
    | false => .bad "countS"
  | _ => .bad "countS"
theorem cnt_le (bs : List Nat) (m : Nat) : cnt bs m ≤ m := by
  induction m with
  | zero => exact Nat.le_refl _
  | succ m ih =>
    have : cntAt bs m ≤ 1 := by unfold cntAt; split <;> omega
    simp only [cnt]; omega
section
variable {base ov : Hp} {nx N : Nat} {fr : Fr} {b : Id} {off len cap : Nat} {ex : Bool} {bs : List Nat} {m : Nat} {r : Rows} {q : Bool} {l : List Out}
/-- A round. -/
theorem iter_run {i M : Nat} (K : KX) (hlen : len < 10000) (hM : M ≤ 8 * len) (hi : i < M) (hb : look base ov b = some (.cells m r q)) (hm : off + len ≤ m) (hbs : ∀ j, j < len → ∃ x, bs[j]? = some x ∧ x < 256 ∧ r.getR (off + j) = some (.int .u8 (.ofNat x)))
    (h0 : fr.get (Id.of 0) = some (.sl b off len cap 1 ex)) (h9 : fr.get (Id.of 9) = some (.int .i64 (.ofNat M))) (h10 : fr.get (Id.of 10) = some (.int .i64 (.ofNat i))) (h5 : fr.get (Id.of 5) = some (.int .i64 (.ofNat (cnt bs i))))
    (h : ∀ fr', fr'.get (Id.of 0) = some (.sl b off len cap 1 ex) → fr'.get (Id.of 9) = some (.int .i64 (.ofNat M)) → fr'.get (Id.of 10) = some (.int .i64 (.ofNat (i + 1))) → fr'.get (Id.of 5) = some (.int .i64 (.ofNat (cnt bs (i + 1)))) → Sat (K .normal fr' ov nx) l) :
    Sat (code cx (exec cx N) lb base none 20 fr ov nx K) l := by
  obtain ⟨x, hx1, hx2, hx3⟩ := hbs (i / 8) (by omega)
  have hlt : ltI (Int.ofNat i) (Int.ofNat M) = true := by rw [ltI_eq]; simp; omega
  have hadd : wrapI .i64 (addI (Int.ofNat i) 1) = Int.ofNat (i + 1) := by
    have e : addI (Int.ofNat i) 1 = Int.ofNat (i + 1) := rfl
    rw [e, wrapI_small]
    rw [wrap_i64]
    have : Int.ofNat (i + 1) = ((i + 1 : Nat) : Int) := rfl
    rw [this]; split <;> omega
  have hcl := cnt_le bs i
  have hadd2 : wrapI .i64 (addI (Int.ofNat (cnt bs i)) 1) = Int.ofNat (cnt bs i + 1) := by
    have e : addI (Int.ofNat (cnt bs i)) 1 = Int.ofNat (cnt bs i + 1) := rfl
    rw [e, wrapI_small]
    rw [wrap_i64]
    have : Int.ofNat (cnt bs i + 1) = ((cnt bs i + 1 : Nat) : Int) := rfl
    rw [this]; split <;> omega
  have hS : cx.S 55 = some KGet.getS := rfl
  have g1 : (Nat.blt len 1000000000 && Nat.blt i (8 * len)) = true := by simp; omega
  have g2 : Nat.blt (off + i / 8) m = true := by simp; omega
  have g3 : Nat.blt x 256 = true := by simpa using hx2
  have hat : cnt bs (i + 1) = cnt bs i + (match Nat.testBit x (i % 8) with | true => 1 | false => 0) := by
    simp only [cnt, cntAt, List.getD_eq_getElem?_getD, hx1, Option.getD_some]
  simp only [lb, ob, Tryz.f93, Option.getD_some, c1, c2]
  simp only [code_seq, code_region, code_cond, code_block, code_exit, code_skip, cSeq, cCond, cBlock, cExit, cRegion_plain]
  cases ht : Nat.testBit x (i % 8) with
  | true =>
    rw [ht] at hat
    simp (decide := true) only [opsK_yes, opsK_nil, wantA_eq, opR_move, opR_assign, opR_binOp, opR_call, moveR, binOpR, binR_lss, lssR, lessK, bothInts_same, hlt, retB_eq, evK_eq, evS, putK_some, get_set_if, if_true, if_false, Option.getD_some, h0, h9, h10, h5,
      callR, evL_eq, List.map, valueK, callK, hS, KGet.getS, g1, hb, g2, hx3, g3, ht, binR_add, addR, AV.ofValue, AV.ofCell, retI_eq, hadd, hadd2]
    refine h _ ?_ ?_ ?_ ?_
    · simp (decide := true) only [get_set_if, if_false, h0]
    · simp (decide := true) only [get_set_if, if_false, h9]
    · simp (decide := true) only [get_set_if, if_true, if_false]
    · rw [hat]; simp (decide := true) only [get_set_if, if_true, if_false]
  | false =>
    rw [ht] at hat
    simp (decide := true) only [opsK_yes, opsK_nil, wantA_eq, opR_move, opR_assign, opR_binOp, opR_call, moveR, binOpR, binR_lss, lssR, lessK, bothInts_same, hlt, retB_eq, evK_eq, evS, putK_some, get_set_if, if_true, if_false, Option.getD_some, h0, h9, h10, h5,
      callR, evL_eq, List.map, valueK, callK, hS, KGet.getS, g1, hb, g2, hx3, g3, ht, binR_add, addR, AV.ofValue, AV.ofCell, retI_eq, hadd, hadd2]
    refine h _ ?_ ?_ ?_ ?_
    · simp (decide := true) only [get_set_if, if_false, h0]
    · simp (decide := true) only [get_set_if, if_false, h9]
    · simp (decide := true) only [get_set_if, if_true, if_false]
    · rw [hat]; simp (decide := true) only [get_set_if, if_false, h5, Nat.add_zero]
theorem end_run {M : Nat} (K : KX) (h9 : fr.get (Id.of 9) = some (.int .i64 (.ofNat M))) (h10 : fr.get (Id.of 10) = some (.int .i64 (.ofNat M))) (h : ∀ fr', fr'.get (Id.of 5) = fr.get (Id.of 5) → Sat (K (.exit 0) fr' ov nx) l) :
    Sat (code cx (exec cx N) lb base none 20 fr ov nx K) l := by
  have hlt : ltI (Int.ofNat M) (Int.ofNat M) = false := by rw [ltI_eq]; simp
  simp only [lb, ob, Tryz.f93, Option.getD_some, c1, c2]
  simp only [code_seq, code_region, code_cond, code_block, code_exit, code_skip, cSeq, cCond, cBlock, cExit, cRegion_plain]
  simp (decide := true) only [opsK_yes, opsK_nil, wantA_eq, opR_binOp, binOpR, binR_lss, lssR, lessK, bothInts_same, hlt, retB_eq, evK_eq, evS, putK_some, get_set_if, if_true, if_false, Option.getD_some, h9, h10]
  exact h _ (by simp (decide := true) only [get_set_if, if_false])
theorem loop_run {M : Nat} (K : KX) (hlen : len < 10000) (hM : M ≤ 8 * len) (hb : look base ov b = some (.cells m r q)) (hm : off + len ≤ m) (hbs : ∀ j, j < len → ∃ x, bs[j]? = some x ∧ x < 256 ∧ r.getR (off + j) = some (.int .u8 (.ofNat x)))
    (h : ∀ fr', fr'.get (Id.of 5) = some (.int .i64 (.ofNat (cnt bs M))) → Sat (K (.exit 0) fr' ov nx) l) :
    ∀ (d i fuel : Nat) (fr : Fr), i + d = M → d < fuel → fr.get (Id.of 0) = some (.sl b off len cap 1 ex) → fr.get (Id.of 9) = some (.int .i64 (.ofNat M)) → fr.get (Id.of 10) = some (.int .i64 (.ofNat i)) → fr.get (Id.of 5) = some (.int .i64 (.ofNat (cnt bs i))) →
      Sat (cLoop fuel (code cx (exec cx N) lb) base none 20 fr ov nx K) l := by
  intro d
  induction d with
  | zero =>
    intro i fuel fr hi hf h0 h9 h10 h5
    obtain ⟨fuel, rfl⟩ : ∃ k, fuel = k + 1 := ⟨fuel - 1, by omega⟩
    rw [cLoop_succ]
    have hi : i = M := by omega
    subst hi
    exact end_run _ h9 h10 fun fr' e => h fr' (e.trans h5)
  | succ d ih =>
    intro i fuel fr hi hf h0 h9 h10 h5
    obtain ⟨fuel, rfl⟩ : ∃ k, fuel = k + 1 := ⟨fuel - 1, by omega⟩
    rw [cLoop_succ]
    exact iter_run _ hlen hM (by omega) hb hm hbs h0 h9 h10 h5 fun fr' a0 a9 a10 a5 => ih (i + 1) fuel fr' (by omega) (by omega) a0 a9 a10 a5
theorem lim_le (n : Int) (len : Nat) : lim n len ≤ 8 * len := by
  unfold lim; split <;> omega
theorem most_run {n : Int} {K : KV} (hlen : len < 10000) (h : Sat (K (.int .i64 (.ofNat (lim n len))) ov nx) l) : Sat (callK cx (exec cx (N + 1)) base 154 [.sl b off len cap 1 ex, .int .i64 n] ov nx K) l := by
  rw [callK_body (fn := Tryz.f154) rfl rfl rfl (Nat.le_of_ble_eq_true rfl)]
  have hw : wrapI .i64 (8 * Int.ofNat len) = Int.ofNat (8 * len) := by
    have e : (8 : Int) * Int.ofNat len = Int.ofNat (8 * len) := by simp
    rw [e, wrapI_small]
    rw [wrap_i64]
    have : Int.ofNat (8 * len) = ((8 * len : Nat) : Int) := rfl
    rw [this]; split <;> omega
  have a0 : (#[155] : Array TypeId)[0]? = some 155 := rfl
  unfold bodyK
  simp only [Tryz.f154, argFrameK_eq, argFrame]
  simp only [exec_succ, code_seq, code_region, code_ret, cSeq, cExit, cRegion_plain]
  cases n with
  | ofNat k =>
    have hlt : ltI (Int.ofNat k) 0 = false := by rw [ltI_eq]; simp
    by_cases hk : 8 * len < k
    · have h2 : ltI (Int.ofNat (8 * len)) (Int.ofNat k) = true := by rw [ltI_eq]; simp; omega
      have e : lim (Int.ofNat k) len = 8 * len := by simp only [lim]; omega
      rw [e] at h
      simp (decide := true) only [opsK_yes, opsK_nil, wantA_eq, opR_move, opR_assign, opR_binOp, opR_call, moveR, callR, evL_eq, List.map, builtinK, maxMin, ikEq_self, hlt, lenK, a0, uSl, forceN_eq, binOpR, binR_mul, mulR, bothInts_same, hw, h2, retI_eq, evK_eq, evS, putK_some, get_set_if, if_true, if_false, Option.getD_some, AV.ofValue, AV.ofCell, leaveK, resultsK, resultK, Tr.getK_eq]
      exact h
    · have h2 : ltI (Int.ofNat (8 * len)) (Int.ofNat k) = false := by rw [ltI_eq]; simp; omega
      have e : lim (Int.ofNat k) len = k := by simp only [lim]; omega
      rw [e] at h
      simp (decide := true) only [opsK_yes, opsK_nil, wantA_eq, opR_move, opR_assign, opR_binOp, opR_call, moveR, callR, evL_eq, List.map, builtinK, maxMin, ikEq_self, hlt, lenK, a0, uSl, forceN_eq, binOpR, binR_mul, mulR, bothInts_same, hw, h2, retI_eq, evK_eq, evS, putK_some, get_set_if, if_true, if_false, Option.getD_some, AV.ofValue, AV.ofCell, leaveK, resultsK, resultK, Tr.getK_eq]
      exact h
  | negSucc k =>
    have hlt : ltI (Int.negSucc k) 0 = true := rfl
    have h2 : ltI (Int.ofNat (8 * len)) 0 = false := by rw [ltI_eq]; simp; omega
    have e : lim (Int.negSucc k) len = 0 := rfl
    rw [e] at h
    simp (decide := true) only [opsK_yes, opsK_nil, wantA_eq, opR_move, opR_assign, opR_binOp, opR_call, moveR, callR, evL_eq, List.map, builtinK, maxMin, ikEq_self, hlt, lenK, a0, uSl, forceN_eq, binOpR, binR_mul, mulR, bothInts_same, hw, h2, retI_eq, evK_eq, evS, putK_some, get_set_if, if_true, if_false, Option.getD_some, AV.ofValue, AV.ofCell, leaveK, resultsK, resultK, Tr.getK_eq]
    exact h
theorem count_run {n : Int} {K : KV} (hlen : len < 10000) (hb : look base ov b = some (.cells m r q)) (hm : off + len ≤ m) (hbs : ∀ j, j < len → ∃ x, bs[j]? = some x ∧ x < 256 ∧ r.getR (off + j) = some (.int .u8 (.ofNat x)))
    (h : Sat (K (.int .i64 (.ofNat (cnt bs (lim n len)))) ov nx) l) : Sat (callK cx (exec cx (N + 2)) base 93 [.sl b off len cap 1 ex, .int .i64 n] ov nx K) l := by
  rw [callK_body (fn := Tryz.f93) rfl rfl rfl (Nat.le_of_ble_eq_true rfl)]
  unfold bodyK
  have hb0 : Tryz.f93.body = some ob := rfl
  rw [hb0]
  simp only [argFrameK_eq, argFrame]
  rw [ob_eq]
  simp only [exec_succ (n := N + 1), code_seq, code_block, code_loop, cSeq_eq]
  have hl := lim_le n len
  simp only [ob, Tryz.f93, Option.getD_some, c1, c2, code_region, cRegion_plain]
  simp (decide := true) only [opsK_yes, opsK_nil, wantA_eq, opR_move, opR_assign, opR_call, moveR, callR, evL_eq, List.map, valueK, evK_eq, evS, putK_some, get_set_if, if_true, if_false, Option.getD_some, AV.ofValue, AV.ofCell]
  refine most_run hlen ?_
  simp (decide := true) only [cBlock]
  refine loop_run (ex := ex) (cap := cap) (M := lim n len) _ hlen hl hb hm hbs (fun fr' h5 => ?_) (lim n len) 0 loopFuel _ (by omega) (by unfold loopFuel; omega) ?_ ?_ ?_ ?_
  · simp (decide := true) only [code_seq, code_region, code_ret, cSeq, cExit, cRegion_plain, opsK_yes, opsK_nil, wantA_eq, opR_move, opR_assign, moveR, evK_eq, evS, putK_some, get_set_if, if_true, Option.getD_some, h5, leaveK, resultsK, resultK, Tr.getK_eq]
    exact h
  · simp (decide := true) only [get_set_if, if_true, if_false]
  · simp (decide := true) only [get_set_if, if_true, if_false]
  · simp (decide := true) only [get_set_if, if_true, if_false]; rfl
  · simp (decide := true) only [get_set_if, if_true, if_false]; rfl
end
/-- THE SUMMARY. -/
theorem summ (hC : CtxOK cx) : SummOK cx.P 93 countS := by
  refine summ_of_run2 hC (n := 2) ?_
  intro base ov nx args K l ρ w args' hh ha hs
  unfold countS at hs
  split at hs
  · rename_i b off len cap ex n
    split at hs
    · rename_i hc
      have hc : len < 10000 := by simpa using hc
      obtain ⟨A⟩ := args'
      replace ha : VRL ρ [.sl b off len cap 1 ex, .int .i64 n] A := ha
      obtain ⟨e, he⟩ : ∃ e, ρ b = some e := by
        cases ha with
        | cons hx _ => cases hx with
          | sl he _ _ _ _ => exact ⟨_, he⟩
      obtain ⟨m, r, q, L, h1, h2, h3, h4, h5⟩ := readK_abs hh he hs
      split at h5
      · rename_i bs hbs
        rw [forceN_eq] at h5
        obtain ⟨q1, q2⟩ := bytesOfCells_spec hbs
        exact count_run (N := 0) hc h1 h2 (fun j hj => by
          obtain ⟨v, v1, v2⟩ := h4 j hj
          obtain ⟨x, x1, x2, x3⟩ := q2 j v v1
          exact ⟨x, x1, x2, by rw [v2, x3]⟩) h5
      · exact (not_sat_bad h5).elim
    · exact (not_sat_bad hs).elim
  · exact (not_sat_bad hs).elim
end KCount
end Go.Ab
/- The summary of num.Zero: are all 0? -/
namespace Go.Ab
open Go.RowKit Go.Proofs
namespace KZero
noncomputable def cx : Ctx := { P := Tryz.prog, S := fun _ => none, J := fun _ => false }
noncomputable def ob : Code := Tryz.f206.body.getD .skip
def c1 : Code → Code
  | .seq a _ => a
  | .block _ a => a
  | .loop a => a
  | c => c
def c2 : Code → Code
  | .seq _ b => b
  | c => c
noncomputable def lb : Code := c1 (c1 (c2 (c1 (c2 (c2 ob)))))
theorem ob_eq : ob = .seq (c1 ob) (.seq (c1 (c2 ob)) (.seq (.seq (c1 (c1 (c2 (c2 ob)))) (.block 0 (.loop lb))) (c2 (c2 (c2 ob))))) := id rfl
set_option maxRecDepth 100000
theorem uSl : cx.P.underlying 155 = some (.slice 5) := rfl
theorem sByte : szOf cx.P 5 = some 1 := rfl
theorem aByte : aggT cx.P 5 = some false := rfl
noncomputable def orI (a : Int) (c : Nat) : Int := wrapI .u8 (((BitVec.ofInt IntKind.u8.bits a ||| BitVec.ofInt IntKind.u8.bits (Int.ofNat c)).toNat : Nat) : Int)
noncomputable def orAll : List Nat → Int → (Int → Ans) → Ans
  | [], a, k => k a
  | c :: bs, a, k => forceI (orI a c) fun a => orAll bs a k
theorem orAll_eq (bs : List Nat) (a : Int) (k : Int → Ans) : orAll bs a k = k (bs.foldl orI a) := by
  induction bs generalizing a with
  | nil => rfl
  | cons c bs ih => simp only [orAll, forceI_eq, List.foldl_cons, ih]
noncomputable def zeroS : Summ := fun base ov nx args K =>
  match args with
  | [.sl b off len _cap 1 _ex] => match Nat.blt len 90000 with
    | true => readK base ov b off len fun L => match bytesOfCells L with
      | some bs => orAll bs 0 fun a => retB (eqI a 0) ov nx K
      | none => .bad "zeroS"
    | false => .bad "zeroS"
  | _ => .bad "zeroS"
section
variable {base ov : Hp} {nx N : Nat} {fr : Fr} {b : Id} {off len cap : Nat} {ex : Bool} {m : Nat} {r : Rows} {q : Bool} {l : List Out}
theorem iter_run {i c : Nat} {a : Int} (K : KX) (hlen : len < 90000) (hi : i < len) (hb : look base ov b = some (.cells m r q)) (hm : off + len ≤ m) (hc : r.getR (off + i) = some (.int .u8 (.ofNat c)))
    (h6 : fr.get (Id.of 6) = some (.sl b off len cap 1 ex)) (h7 : fr.get (Id.of 7) = some (.int .i64 (.ofNat len))) (h8 : fr.get (Id.of 8) = some (.int .i64 (.ofNat i))) (h3 : fr.get (Id.of 3) = some (.int .u8 a))
    (h : ∀ fr', fr'.get (Id.of 6) = some (.sl b off len cap 1 ex) → fr'.get (Id.of 7) = some (.int .i64 (.ofNat len)) → fr'.get (Id.of 8) = some (.int .i64 (.ofNat (i + 1))) → fr'.get (Id.of 3) = some (.int .u8 (orI a c)) → Sat (K .normal fr' ov nx) l) :
    Sat (code cx (exec cx N) lb base none 18 fr ov nx K) l := by
  have hlt : ltI (Int.ofNat i) (Int.ofNat len) = true := by rw [ltI_eq]; simp; omega
  have hadd : wrapI .i64 (addI (Int.ofNat i) 1) = Int.ofNat (i + 1) := by
    have e : addI (Int.ofNat i) 1 = Int.ofNat (i + 1) := rfl
    rw [e, wrapI_small]
    rw [wrap_i64]
    have : Int.ofNat (i + 1) = ((i + 1 : Nat) : Int) := rfl
    rw [this]; split <;> omega
  have g1 : Nat.blt i len = true := by simpa using hi
  have g2 : Nat.blt (off + i * 1) m = true := by simp; omega
  have b1 : Nat.beq 1 1 = true := rfl
  have hc : r.getR (off + i * 1) = some (.int .u8 (.ofNat c)) := by rw [Nat.mul_one]; exact hc
  simp only [lb, ob, Tryz.f206, Option.getD_some, c1, c2]
  simp only [code_seq, code_region, code_cond, code_block, code_exit, code_skip, cSeq, cCond, cBlock, cExit, cRegion_plain]
  simp (decide := true) only [opsK_yes, opsK_nil, wantA_eq, opR_move, opR_assign, opR_binOp, opR_indexAddr, opR_load, moveR, binOpR, binR_lss, lssR, lessK, bothInts_same, hlt, retB_eq, evK_eq, evS, putK_some, get_set_if, if_true, if_false, Option.getD_some, h6, h7, h8, h3,
    indexAddrR, uSl, sByte, g1, forceN_eq, loadR, loadK, aByte, readOneK, hb, g2, hc, show binR .or = bitsR (fun _ a b => a ||| b) from rfl, bitsR, binR_add, addR, AV.ofValue, AV.ofCell, retI_eq, hadd]
  refine h _ ?_ ?_ ?_ ?_
  · simp (decide := true) only [get_set_if, if_false, h6]
  · simp (decide := true) only [get_set_if, if_false, h7]
  · simp (decide := true) only [get_set_if, if_true, if_false]
  · simp (decide := true) only [get_set_if, if_true, if_false]; rfl
theorem end_run (K : KX) (h7 : fr.get (Id.of 7) = some (.int .i64 (.ofNat len))) (h8 : fr.get (Id.of 8) = some (.int .i64 (.ofNat len))) (h : ∀ fr', fr'.get (Id.of 3) = fr.get (Id.of 3) → Sat (K (.exit 0) fr' ov nx) l) :
    Sat (code cx (exec cx N) lb base none 18 fr ov nx K) l := by
  have hlt : ltI (Int.ofNat len) (Int.ofNat len) = false := by rw [ltI_eq]; simp
  simp only [lb, ob, Tryz.f206, Option.getD_some, c1, c2]
  simp only [code_seq, code_region, code_cond, code_block, code_exit, code_skip, cSeq, cCond, cBlock, cExit, cRegion_plain]
  simp (decide := true) only [opsK_yes, opsK_nil, wantA_eq, opR_binOp, binOpR, binR_lss, lssR, lessK, bothInts_same, hlt, retB_eq, evK_eq, evS, putK_some, get_set_if, if_true, if_false, Option.getD_some, h7, h8]
  exact h _ (by simp (decide := true) only [get_set_if, if_false])
theorem loop_run (K : KX) (hlen : len < 90000) (hb : look base ov b = some (.cells m r q)) (hm : off + len ≤ m) : ∀ (rest : List Nat) (i fuel : Nat) (fr : Fr) (a : Int), i + rest.length = len → rest.length < fuel →
    (∀ j c, rest[j]? = some c → r.getR (off + (i + j)) = some (.int .u8 (.ofNat c))) → fr.get (Id.of 6) = some (.sl b off len cap 1 ex) → fr.get (Id.of 7) = some (.int .i64 (.ofNat len)) → fr.get (Id.of 8) = some (.int .i64 (.ofNat i)) → fr.get (Id.of 3) = some (.int .u8 a) →
    (∀ fr', fr'.get (Id.of 3) = some (.int .u8 (rest.foldl orI a)) → Sat (K (.exit 0) fr' ov nx) l) →
      Sat (cLoop fuel (code cx (exec cx N) lb) base none 18 fr ov nx K) l := by
  intro rest
  induction rest with
  | nil =>
    intro i fuel fr a hi hf hr h6 h7 h8 h3 h
    obtain ⟨fuel, rfl⟩ : ∃ k, fuel = k + 1 := ⟨fuel - 1, by simp at hf; omega⟩
    rw [cLoop_succ]
    have hi : i = len := by simpa using hi
    subst hi
    exact end_run _ h7 h8 fun fr' e => h fr' (e.trans h3)
  | cons c rest ih =>
    intro i fuel fr a hi hf hr h6 h7 h8 h3 h
    simp only [List.length_cons] at hi hf
    obtain ⟨fuel, rfl⟩ : ∃ k, fuel = k + 1 := ⟨fuel - 1, by omega⟩
    rw [cLoop_succ]
    refine iter_run _ hlen (by omega) hb hm (hr 0 c rfl) h6 h7 h8 h3 fun fr' a6 a7 a8 a3 => ?_
    refine ih (i + 1) fuel fr' _ (by omega) (by omega) (fun j c' hj => ?_) a6 a7 a8 a3 h
    have := hr (j + 1) c' (by simpa using hj)
    rw [show i + 1 + j = i + (j + 1) by omega]
    exact this
theorem zero_run {bs : List Nat} {K : KV} (hlen : len < 90000) (hbl : bs.length = len) (hb : look base ov b = some (.cells m r q)) (hm : off + len ≤ m) (hbs : ∀ (j : Nat) c, bs[j]? = some c → r.getR (off + j) = some (.int .u8 (.ofNat c)))
    (h : Sat (K (.bool (eqI (bs.foldl orI 0) 0)) ov nx) l) : Sat (callK cx (exec cx (N + 1)) base 206 [.sl b off len cap 1 ex] ov nx K) l := by
  rw [callK_body (fn := Tryz.f206) rfl rfl rfl (Nat.le_of_ble_eq_true rfl)]
  unfold bodyK
  have hb0 : Tryz.f206.body = some ob := rfl
  rw [hb0]
  simp only [argFrameK_eq, argFrame]
  rw [ob_eq]
  have a0 : (#[155] : Array TypeId)[0]? = some 155 := rfl
  simp only [exec_succ (n := N), code_seq, code_block, code_loop, cSeq_eq]
  simp only [ob, Tryz.f206, Option.getD_some, c1, c2, code_region, cRegion_plain]
  simp (decide := true) only [opsK_yes, opsK_nil, wantA_eq, opR_move, opR_assign, opR_call, moveR, callR, evL_eq, List.map, builtinK, a0, lenK, uSl, forceN_eq, evK_eq, evS, putK_some, get_set_if, if_true, if_false, Option.getD_some, AV.ofValue, AV.ofCell, cBlock]
  refine loop_run (ex := ex) (cap := cap) _ hlen hb hm bs 0 loopFuel _ 0 (by omega) (by unfold loopFuel; omega) (fun j c hj => by rw [Nat.zero_add]; exact hbs j c hj) ?_ ?_ ?_ ?_ (fun fr' h3 => ?_)
  · simp (decide := true) only [get_set_if, if_true, if_false]
  · simp (decide := true) only [get_set_if, if_true, if_false]
  · simp (decide := true) only [get_set_if, if_true, if_false]; rfl
  · simp (decide := true) only [get_set_if, if_true, if_false]
  · simp (decide := true) only [code_seq, code_region, code_ret, cSeq, cExit, cRegion_plain, opsK_yes, opsK_nil, wantA_eq, opR_move, opR_assign, opR_binOp, moveR, binOpR, binR_eql, eqlR, eqlK, ikEq_self, retB_eq, evK_eq, evS, putK_some, get_set_if, if_true, Option.getD_some, h3, AV.ofValue, AV.ofCell, leaveK, resultsK, resultK, Tr.getK_eq]
    exact h
end
/-- THE SUMMARY. -/
theorem summ (hC : CtxOK cx) : SummOK cx.P 206 zeroS := by
  refine summ_of_run2 hC (n := 1) ?_
  intro base ov nx args K l ρ w args' hh ha hs
  unfold zeroS at hs
  split at hs
  · rename_i b off len cap ex
    split at hs
    · rename_i hc
      have hc : len < 90000 := by simpa using hc
      obtain ⟨A⟩ := args'
      replace ha : VRL ρ [.sl b off len cap 1 ex] A := ha
      obtain ⟨e, he⟩ : ∃ e, ρ b = some e := by
        cases ha with
        | cons hx _ => cases hx with
          | sl he _ _ _ _ => exact ⟨_, he⟩
      obtain ⟨m, r, q, L, h1, h2, h3, h4, h5⟩ := readK_abs hh he hs
      split at h5
      · rename_i bs hbs
        rw [orAll_eq, retB_eq] at h5
        obtain ⟨q1, q2⟩ := bytesOfCells_spec hbs
        refine zero_run (N := 0) hc (by omega) h1 h2 (fun j c hj => ?_) h5
        have hlt : j < bs.length := (List.getElem?_eq_some_iff.1 hj).1
        obtain ⟨v, v1, v2⟩ := h4 j (by omega)
        obtain ⟨x, x1, _, x3⟩ := q2 j v v1
        rw [hj] at x1
        cases x1
        rw [v2, x3]
      · exact (not_sat_bad h5).elim
    · exact (not_sat_bad hs).elim
  · exact (not_sat_bad hs).elim
end KZero
end Go.Ab
/- The summary of num.Get: a number's bytes, the lowest first. -/
namespace Go.Ab
open Go.RowKit Go.Proofs
namespace KNumGet
noncomputable def cx : Ctx := { P := Tryz.prog, S := fun _ => none, J := fun _ => false }
noncomputable def ob : Code := Tryz.f152.body.getD .skip
def c1 : Code → Code
  | .seq a _ => a
  | .block _ a => a
  | .loop a => a
  | c => c
def c2 : Code → Code
  | .seq _ b => b
  | c => c
noncomputable def lb : Code := c1 (c1 (c2 (c1 (c2 (c2 ob)))))
theorem ob_eq : ob = .seq (c1 ob) (.seq (c1 (c2 ob)) (.seq (.seq (c1 (c1 (c2 (c2 ob)))) (.block 0 (.loop lb))) (c2 (c2 (c2 ob))))) := id rfl
set_option maxRecDepth 100000
theorem uSl : cx.P.underlying 155 = some (.slice 5) := rfl
theorem sByte : szOf cx.P 5 = some 1 := rfl
theorem aByte : aggT cx.P 5 = some false := rfl
theorem uByte : cx.P.underlying 5 = some (.int .u8) := rfl
theorem uBig : cx.P.underlying 246 = some (.int .u64) := rfl
noncomputable def gI (a : Int) (c i : Nat) : Int := wrapI .u64 (((BitVec.ofInt IntKind.u64.bits a ||| BitVec.ofInt IntKind.u64.bits (wrapI .u64 (wrapI .u64 (Int.ofNat c) * 2 ^ (min (8 * i) IntKind.u64.bits)))).toNat : Nat) : Int)
noncomputable def gAll : List Nat → Nat → Int → Int
  | [], _, a => a
  | c :: bs, i, a => gAll bs (i + 1) (gI a c i)
noncomputable def gAllK : List Nat → Nat → Int → (Int → Ans) → Ans
  | [], _, a, k => k a
  | c :: bs, i, a, k => forceI (gI a c i) fun a => gAllK bs (i + 1) a k
theorem gAllK_eq (bs : List Nat) (i : Nat) (a : Int) (k : Int → Ans) : gAllK bs i a k = k (gAll bs i a) := by
  induction bs generalizing i a with
  | nil => rfl
  | cons c bs ih => simp only [gAllK, forceI_eq, gAll, ih]
noncomputable def numS : Summ := fun base ov nx args K =>
  match args with
  | [.sl b off len _cap 1 _ex] => match Nat.blt len 90000 with
    | true => readK base ov b off len fun L => match bytesOfCells L with
      | some bs => gAllK (bs.take 8) 0 0 fun a => K (.int .u64 a) ov nx
      | none => .bad "numS"
    | false => .bad "numS"
  | _ => .bad "numS"
section
variable {base ov : Hp} {nx N : Nat} {fr : Fr} {b : Id} {off len cap : Nat} {ex : Bool} {m : Nat} {r : Rows} {q : Bool} {l : List Out}
theorem iter_run {i c M : Nat} {a : Int} (K : KX) (hM : M ≤ 8) (hMl : M ≤ len) (hi : i < M) (hb : look base ov b = some (.cells m r q)) (hm : off + len ≤ m) (hc : r.getR (off + i) = some (.int .u8 (.ofNat c)))
    (h0 : fr.get (Id.of 0) = some (.sl b off len cap 1 ex)) (h7 : fr.get (Id.of 7) = some (.int .i64 (.ofNat M))) (h8 : fr.get (Id.of 8) = some (.int .i64 (.ofNat i))) (h3 : fr.get (Id.of 3) = some (.int .u64 a))
    (h : ∀ fr', fr'.get (Id.of 0) = some (.sl b off len cap 1 ex) → fr'.get (Id.of 7) = some (.int .i64 (.ofNat M)) → fr'.get (Id.of 8) = some (.int .i64 (.ofNat (i + 1))) → fr'.get (Id.of 3) = some (.int .u64 (gI a c i)) → Sat (K .normal fr' ov nx) l) :
    Sat (code cx (exec cx N) lb base none 23 fr ov nx K) l := by
  have hlt : ltI (Int.ofNat i) (Int.ofNat M) = true := by rw [ltI_eq]; simp; omega
  have hadd : wrapI .i64 (addI (Int.ofNat i) 1) = Int.ofNat (i + 1) := by
    have e : addI (Int.ofNat i) 1 = Int.ofNat (i + 1) := rfl
    rw [e, wrapI_small]
    rw [wrap_i64]
    have : Int.ofNat (i + 1) = ((i + 1 : Nat) : Int) := rfl
    rw [this]; split <;> omega
  have hmul : wrapI .i64 (8 * Int.ofNat i) = Int.ofNat (8 * i) := by
    have e : (8 : Int) * Int.ofNat i = Int.ofNat (8 * i) := by simp
    rw [e, wrapI_small]
    rw [wrap_i64]
    have : Int.ofNat (8 * i) = ((8 * i : Nat) : Int) := rfl
    rw [this]; split <;> omega
  have g1 : Nat.blt i len = true := by simp; omega
  have g2 : Nat.blt (off + i * 1) m = true := by simp; omega
  have b1 : Nat.beq 1 1 = true := rfl
  have hc : r.getR (off + i * 1) = some (.int .u8 (.ofNat c)) := by rw [Nat.mul_one]; exact hc
  simp only [lb, ob, Tryz.f152, Option.getD_some, c1, c2]
  simp only [code_seq, code_region, code_cond, code_block, code_exit, code_skip, cSeq, cCond, cBlock, cExit, cRegion_plain]
  simp (decide := true) only [opsK_yes, opsK_nil, wantA_eq, opR_move, opR_assign, opR_binOp, opR_indexAddr, opR_load, opR_convert, moveR, binOpR, binR_lss, lss_int, hlt, evK_eq, evS, putK_some, get_set_if, if_true, if_false, Option.getD_some, h0, h7, h8, h3,
    indexAddrR, uSl, sByte, g1, forceN_eq, loadR, loadK, aByte, readOneK, hb, g2, hc, binR_or, bits_int, binR_add, add_int, binR_mul, mul_int, binR_shl, shl_int, convertR, convert_int _ _ _ _ _ _ _ _ _ uByte uBig, AV.ofValue, AV.ofCell, hadd, hmul]
  refine h _ ?_ ?_ ?_ ?_
  · simp (decide := true) only [get_set_if, if_false, h0]
  · simp (decide := true) only [get_set_if, if_false, h7]
  · simp (decide := true) only [get_set_if, if_true, if_false]
  · simp (decide := true) only [get_set_if, if_true, if_false]; rfl
theorem end_run {M : Nat} (K : KX) (h7 : fr.get (Id.of 7) = some (.int .i64 (.ofNat M))) (h8 : fr.get (Id.of 8) = some (.int .i64 (.ofNat M))) (h : ∀ fr', fr'.get (Id.of 3) = fr.get (Id.of 3) → Sat (K (.exit 0) fr' ov nx) l) :
    Sat (code cx (exec cx N) lb base none 23 fr ov nx K) l := by
  have hlt : ltI (Int.ofNat M) (Int.ofNat M) = false := by rw [ltI_eq]; simp
  simp only [lb, ob, Tryz.f152, Option.getD_some, c1, c2]
  simp only [code_seq, code_region, code_cond, code_block, code_exit, code_skip, cSeq, cCond, cBlock, cExit, cRegion_plain]
  simp (decide := true) only [opsK_yes, opsK_nil, wantA_eq, opR_binOp, binOpR, binR_lss, lssR, lessK, bothInts_same, hlt, retB_eq, evK_eq, evS, putK_some, get_set_if, if_true, if_false, Option.getD_some, h7, h8]
  exact h _ (by simp (decide := true) only [get_set_if, if_false])
theorem loop_run {M : Nat} (K : KX) (hM : M ≤ 8) (hMl : M ≤ len) (hb : look base ov b = some (.cells m r q)) (hm : off + len ≤ m) : ∀ (rest : List Nat) (i fuel : Nat) (fr : Fr) (a : Int), i + rest.length = M → rest.length < fuel →
    (∀ j c, rest[j]? = some c → r.getR (off + (i + j)) = some (.int .u8 (.ofNat c))) → fr.get (Id.of 0) = some (.sl b off len cap 1 ex) → fr.get (Id.of 7) = some (.int .i64 (.ofNat M)) → fr.get (Id.of 8) = some (.int .i64 (.ofNat i)) → fr.get (Id.of 3) = some (.int .u64 a) →
    (∀ fr', fr'.get (Id.of 3) = some (.int .u64 (gAll rest i a)) → Sat (K (.exit 0) fr' ov nx) l) →
      Sat (cLoop fuel (code cx (exec cx N) lb) base none 23 fr ov nx K) l := by
  intro rest
  induction rest with
  | nil =>
    intro i fuel fr a hi hf hr h0 h7 h8 h3 h
    obtain ⟨fuel, rfl⟩ : ∃ k, fuel = k + 1 := ⟨fuel - 1, by simp at hf; omega⟩
    rw [cLoop_succ]
    have hi : i = M := by simpa using hi
    subst hi
    exact end_run _ h7 h8 fun fr' e => h fr' (e.trans h3)
  | cons c rest ih =>
    intro i fuel fr a hi hf hr h0 h7 h8 h3 h
    simp only [List.length_cons] at hi hf
    obtain ⟨fuel, rfl⟩ : ∃ k, fuel = k + 1 := ⟨fuel - 1, by omega⟩
    rw [cLoop_succ]
    refine iter_run _ hM hMl (by omega) hb hm (hr 0 c rfl) h0 h7 h8 h3 fun fr' a0 a7 a8 a3 => ?_
    refine ih (i + 1) fuel fr' _ (by omega) (by omega) (fun j c' hj => ?_) a0 a7 a8 a3 h
    have := hr (j + 1) c' (by simpa using hj)
    rw [show i + 1 + j = i + (j + 1) by omega]
    exact this
theorem num_run {bs : List Nat} {K : KV} (hlen : len < 90000) (hbl : bs.length = len) (hb : look base ov b = some (.cells m r q)) (hm : off + len ≤ m) (hbs : ∀ (j : Nat) c, bs[j]? = some c → r.getR (off + j) = some (.int .u8 (.ofNat c)))
    (h : Sat (K (.int .u64 (gAll (bs.take 8) 0 0)) ov nx) l) : Sat (callK cx (exec cx (N + 1)) base 152 [.sl b off len cap 1 ex] ov nx K) l := by
  rw [callK_body (fn := Tryz.f152) rfl rfl rfl (Nat.le_of_ble_eq_true rfl)]
  unfold bodyK
  have hb0 : Tryz.f152.body = some ob := rfl
  rw [hb0]
  simp only [argFrameK_eq, argFrame]
  rw [ob_eq]
  have a0 : (#[155] : Array TypeId)[0]? = some 155 := rfl
  have main : ∀ (fr : Fr) (K' : KX), fr.get (Id.of 0) = some (.sl b off len cap 1 ex) → fr.get (Id.of 7) = some (.int .i64 (.ofNat (min len 8))) → fr.get (Id.of 8) = some (.int .i64 0) → fr.get (Id.of 3) = some (.int .u64 0) →
      (∀ fr', fr'.get (Id.of 3) = some (.int .u64 (gAll (bs.take 8) 0 0)) → Sat (K' (.exit 0) fr' ov nx) l) → Sat (cLoop loopFuel (code cx (exec cx N) lb) base none 23 fr ov nx K') l := by
    intro fr K' h0 h7 h8 h3 hk
    refine loop_run (ex := ex) (cap := cap) (M := min len 8) _ (by omega) (by omega) hb hm (bs.take 8) 0 loopFuel _ 0 (by simp; omega) (by simp [loopFuel]; omega) (fun j c hj => ?_) h0 h7 h8 h3 hk
    rw [Nat.zero_add]
    rw [List.getElem?_take] at hj
    split at hj
    · exact hbs j c hj
    · cases hj
  have fin : ∀ fr', fr'.get (Id.of 3) = some (.int .u64 (gAll (bs.take 8) 0 0)) → Sat (code cx (exec cx N) (c2 (c2 (c2 ob))) base none 23 fr' ov nx (leaveK cx base Tryz.f152 K)) l := by
    intro fr' h3
    simp only [ob, Tryz.f152, Option.getD_some, c2]
    simp (decide := true) only [code_seq, code_region, code_ret, cSeq, cExit, cRegion_plain, opsK_yes, opsK_nil, wantA_eq, opR_move, opR_assign, moveR, evK_eq, evS, putK_some, get_set_if, if_true, Option.getD_some, h3, leaveK, resultsK, resultK, Tr.getK_eq]
    exact h
  simp only [exec_succ (n := N), code_seq (x := c1 ob), code_seq (x := c1 (c2 ob)), code_seq (x := .seq (c1 (c1 (c2 (c2 ob)))) (.block 0 (.loop lb))), code_seq (x := c1 (c1 (c2 (c2 ob)))), code_block, code_loop, cSeq_eq]
  generalize hlast : code cx (exec cx N) (c2 (c2 (c2 ob))) = last at fin ⊢
  generalize hloop : code cx (exec cx N) lb = lp at main ⊢
  simp only [ob, Tryz.f152, Option.getD_some, c1, c2, code_region, cRegion_plain]
  by_cases hk : 8 < len
  · have h2 : ltI 8 (Int.ofNat len) = true := by rw [ltI_eq]; simp; omega
    have e : min len 8 = 8 := by omega
    rw [e] at main
    simp (decide := true) only [opsK_yes, opsK_nil, wantA_eq, opR_move, opR_assign, opR_call, moveR, callR, evL_eq, List.map, builtinK, maxMin, ikEq_self, h2, a0, lenK, uSl, forceN_eq, evK_eq, evS, putK_some, get_set_if, if_true, if_false, Option.getD_some, AV.ofValue, AV.ofCell, cBlock]
    refine main _ _ ?_ ?_ ?_ ?_ fin
    · simp (decide := true) only [get_set_if, if_true, if_false]
    · simp (decide := true) only [get_set_if, if_true, if_false]; rfl
    · simp (decide := true) only [get_set_if, if_true, if_false]
    · simp (decide := true) only [get_set_if, if_true, if_false]
  · have h2 : ltI 8 (Int.ofNat len) = false := by rw [ltI_eq]; simp; omega
    have e : min len 8 = len := by omega
    rw [e] at main
    simp (decide := true) only [opsK_yes, opsK_nil, wantA_eq, opR_move, opR_assign, opR_call, moveR, callR, evL_eq, List.map, builtinK, maxMin, ikEq_self, h2, a0, lenK, uSl, forceN_eq, evK_eq, evS, putK_some, get_set_if, if_true, if_false, Option.getD_some, AV.ofValue, AV.ofCell, cBlock]
    refine main _ _ ?_ ?_ ?_ ?_ fin
    · simp (decide := true) only [get_set_if, if_true, if_false]
    · simp (decide := true) only [get_set_if, if_true, if_false]
    · simp (decide := true) only [get_set_if, if_true, if_false]
    · simp (decide := true) only [get_set_if, if_true, if_false]
end
/-- THE SUMMARY. -/
theorem summ (hC : CtxOK cx) : SummOK cx.P 152 numS := by
  refine summ_of_run2 hC (n := 1) ?_
  intro base ov nx args K l ρ w args' hh ha hs
  unfold numS at hs
  split at hs
  · rename_i b off len cap ex
    split at hs
    · rename_i hc
      have hc : len < 90000 := by simpa using hc
      obtain ⟨A⟩ := args'
      replace ha : VRL ρ [.sl b off len cap 1 ex] A := ha
      obtain ⟨e, he⟩ : ∃ e, ρ b = some e := by
        cases ha with
        | cons hx _ => cases hx with
          | sl he _ _ _ _ => exact ⟨_, he⟩
      obtain ⟨m, r, q, L, h1, h2, h3, h4, h5⟩ := readK_abs hh he hs
      split at h5
      · rename_i bs hbs
        rw [gAllK_eq] at h5
        obtain ⟨q1, q2⟩ := bytesOfCells_spec hbs
        refine num_run (N := 0) hc (by omega) h1 h2 (fun j c hj => ?_) h5
        have hlt : j < bs.length := (List.getElem?_eq_some_iff.1 hj).1
        obtain ⟨v, v1, v2⟩ := h4 j (by omega)
        obtain ⟨x, x1, _, x3⟩ := q2 j v v1
        rw [hj] at x1
        cases x1
        rw [v2, x3]
      · exact (not_sat_bad h5).elim
    · exact (not_sat_bad hs).elim
  · exact (not_sat_bad hs).elim
end KNumGet
end Go.Ab
