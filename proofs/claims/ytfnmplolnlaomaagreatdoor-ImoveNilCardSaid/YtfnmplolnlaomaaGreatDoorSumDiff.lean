/- The summary of num.Diff, of two as long as one another: the first place at which they differ, and the one behind the last. -/
import Derived.Test.YtfnmplolnlaomaaGreatDoorMachineE
import Derived.Test.YtfnmplolnlaomaaGreatDoorProg
namespace Go.Ab
open Go.RowKit Go.Proofs
namespace KDiff
noncomputable def cx : Ctx := { P := Tryz.prog, S := fun _ => none, J := fun _ => false }
noncomputable def ob : Code := Tryz.f153.body.getD .skip
def c1 : Code → Code
  | .seq a _ => a
  | .block _ a => a
  | .loop a => a
  | c => c
def c2 : Code → Code
  | .seq _ b => b
  | c => c
def opsOf : Code → Array Oper
  | .region _ ops _ => ops
  | _ => #[]
noncomputable def lb : Code := c1 (c1 (c2 (c1 (c2 (c2 ob)))))
-- the body of a round: its block
noncomputable def bb : Code := c1 (c1 (c2 (c2 lb)))
noncomputable def rg : Array Oper := opsOf (c1 (c1 (c2 bb)))
theorem ob_eq : ob = .seq (c1 ob) (.seq (c1 (c2 ob)) (.seq (.seq (c1 (c1 (c2 (c2 ob)))) (.block 0 (.loop lb))) (c2 (c2 (c2 ob))))) := id rfl
set_option maxRecDepth 100000
theorem lb_eq : lb = .seq (c1 lb) (.seq (c1 (c2 lb)) (.seq (.block 1 bb) (c2 (c2 (c2 lb))))) := id rfl
theorem bb_eq : bb = .seq (c1 bb) (.seq (.seq (.region 5 rg true) (c2 (c1 (c2 bb)))) (c2 (c2 bb))) := id rfl
theorem plan_good : planGood cx.P rg = true := by decide +kernel
theorem plan_is : planOf cx.P rg = [(0, []), (1, []), (2, []), (3, []), (4, []), (5, []), (6, []), (7, []), (8, []), (9, []), (10, []), (11, []), (12, []), (13, []), (14, []), (15, []), (16, []), (17, [])] := by decide +kernel
theorem uSl : cx.P.underlying 155 = some (.slice 5) := rfl
theorem sByte : szOf cx.P 5 = some 1 := rfl
theorem aByte : aggT cx.P 5 = some false := rfl
noncomputable def stepF (a b i : Nat) (f : Int) : Int := match Nat.beq a b with
  | true => f
  | false => match ltI f 0 with
    | true => .ofNat i
    | false => f
noncomputable def stepL (a b i : Nat) (l : Int) : Int := match Nat.beq a b with
  | true => l
  | false => .ofNat (i + 1)
/-- Both answers. -/
noncomputable def dGo : List Nat → List Nat → Nat → Int → Int → Int × Int
  | a :: xs, b :: bs, i, f, l => dGo xs bs (i + 1) (stepF a b i f) (stepL a b i l)
  | _, _, _, f, l => (f, l)
noncomputable def dGoK : List Nat → List Nat → Nat → Int → Int → (Int → Int → Ans) → Ans
  | a :: xs, b :: bs, i, f, l, k => match Nat.beq a b with
    | true => dGoK xs bs (Nat.succ i) f l k
    | false => forceN (Nat.succ i) fun i' => dGoK xs bs i' (stepF a b i f) (.ofNat i') k
  | _, _, _, f, l, k => k f l
theorem dGoK_eq : ∀ (xs bs : List Nat) (i : Nat) (f l : Int) (k : Int → Int → Ans), dGoK xs bs i f l k = k (dGo xs bs i f l).1 (dGo xs bs i f l).2
  | [], bs, i, f, l, k => rfl
  | a :: xs, [], i, f, l, k => rfl
  | a :: xs, b :: bs, i, f, l, k => by
    simp only [dGoK, dGo]
    cases h : Nat.beq a b with
    | true => simp only [stepF, stepL, h, Nat.succ_eq_add_one]; exact dGoK_eq xs bs (i + 1) f l k
    | false => simp only [forceN_eq, Nat.succ_eq_add_one]; rw [dGoK_eq]; simp only [stepL, h]
noncomputable def diffS : Summ := fun base ov nx args K =>
  match args with
  | [.sl a offa len _capa 1 _exa, .sl b offb len' _capb 1 _exb] => match Nat.blt len 90000 && Nat.beq len len' with
    | true => readK base ov a offa len fun L => readK base ov b offb len fun M => match bytesOfCells L, bytesOfCells M with
      | some xs, some ys => dGoK xs ys 0 (-1) (-1) fun f l => forceI f fun f => forceI l fun l => K (.tup [.int .i64 f, .int .i64 l]) ov nx
      | _, _ => .bad "diffS"
    | false => .bad "diffS"
  | _ => .bad "diffS"
section
variable {base ov : Hp} {nx N : Nat} {fr : Fr} {a b : Id} {offa offb len capa capb : Nat} {exa exb : Bool} {ma mb : Nat} {ra rb : Rows} {qa qb : Bool} {l : List Out}
theorem iter_run {i x y : Nat} {f g : Int} (K : KX) (hlen : len < 90000) (hi : i < len) (ha : look base ov a = some (.cells ma ra qa)) (hma : offa + len ≤ ma) (hx : ra.getR (offa + i) = some (.int .u8 (.ofNat x)))
    (hb : look base ov b = some (.cells mb rb qb)) (hmb : offb + len ≤ mb) (hy : rb.getR (offb + i) = some (.int .u8 (.ofNat y)))
    (h0 : fr.get (Id.of 0) = some (.sl a offa len capa 1 exa)) (h1 : fr.get (Id.of 1) = some (.sl b offb len capb 1 exb)) (h13 : fr.get (Id.of 13) = some (.int .i64 (.ofNat len))) (h14 : fr.get (Id.of 14) = some (.int .i64 (.ofNat i)))
    (h6 : fr.get (Id.of 6) = some (.int .i64 f)) (h7 : fr.get (Id.of 7) = some (.int .i64 g))
    (h : ∀ fr', fr'.get (Id.of 0) = some (.sl a offa len capa 1 exa) → fr'.get (Id.of 1) = some (.sl b offb len capb 1 exb) → fr'.get (Id.of 13) = some (.int .i64 (.ofNat len)) → fr'.get (Id.of 14) = some (.int .i64 (.ofNat (i + 1))) →
      fr'.get (Id.of 6) = some (.int .i64 (stepF x y i f)) → fr'.get (Id.of 7) = some (.int .i64 (stepL x y i g)) → Sat (K .normal fr' ov nx) l) :
    Sat (code cx (exec cx N) lb base none 43 fr ov nx K) l := by
  have hlt : ltI (Int.ofNat i) (Int.ofNat len) = true := by rw [ltI_eq]; simp; omega
  have hnn : ltI (Int.ofNat len) (Int.ofNat len) = false := by rw [ltI_eq]; simp
  have hadd : wrapI .i64 (addI (Int.ofNat i) 1) = Int.ofNat (i + 1) := by
    have e : addI (Int.ofNat i) 1 = Int.ofNat (i + 1) := rfl
    rw [e, wrapI_small]
    rw [wrap_i64]
    have : Int.ofNat (i + 1) = ((i + 1 : Nat) : Int) := rfl
    rw [this]; split <;> omega
  have ga : Nat.blt (offa + i * 1) ma = true := by simp; omega
  have gb : Nat.blt (offb + i * 1) mb = true := by simp; omega
  have g1 : Nat.blt i len = true := by simpa using hi
  have b1 : Nat.beq 1 1 = true := rfl
  have hx : ra.getR (offa + i * 1) = some (.int .u8 (.ofNat x)) := by rw [Nat.mul_one]; exact hx
  have hy : rb.getR (offb + i * 1) = some (.int .u8 (.ofNat y)) := by rw [Nat.mul_one]; exact hy
  have a0 : (#[155] : Array TypeId)[0]? = some 155 := rfl
  have heq : eqI (Int.ofNat x) (Int.ofNat y) = Nat.beq x y := rfl
  rw [lb_eq]
  simp only [code_seq (x := c1 lb), code_seq (x := c1 (c2 lb)), code_seq (x := .block 1 bb), code_block, cSeq_eq]
  rw [bb_eq]
  simp only [code_seq, code_region, cSeq_eq, cBlock_eq, cRegion_draw plan_good plan_is]
  simp only [rg, bb, lb, ob, Tryz.f153, Option.getD_some, c1, c2, opsOf, code_region, code_cond, code_exit, code_skip, cCond, cExit_eq, cRegion_plain, code_seq, cSeq_eq]
  simp (decide := true) only [opsK_yes, opsK_nil, wantA_eq, opR_move, opR_assign, opR_binOp, moveR, binOpR, binR_lss, lss_int, hlt, evK_eq, evS, putK_some, get_set_if, if_true, if_false, Option.getD_some, h13, h14]
  simp (decide := true) only [drawQ2, drawK_nil, opAt_eq, kindOf_eq, isQ_Q, wantA_eq, valK_eq, List.getElem?_toArray, List.getElem?_cons_zero, List.getElem?_cons_succ, Option.bind_some, Option.getD_some, opR_move, opR_binOp, opR_call, opR_indexAddr, opR_load, opR_pick, moveR, evK_eq, evS, putK_some, get_set_if, if_true, if_false, h0, h1, h14,
    callR, evL_eq, List.map, builtinK, a0, lenK, uSl, sByte, forceN_eq, maxMin, ikEq_self, hnn, binOpR, binR_lss, lss_int, hlt, indexAddrR, g1, loadR, loadK, aByte, readOneK, ha, hb, ga, gb, hx, hy, binR_eql, eql_int, heq, pickR, AV.ofValue, AV.ofCell]
  cases hxy : Nat.beq x y with
  | true =>
    have s1 : stepF x y i f = f := by simp only [stepF, hxy]
    have s2 : stepL x y i g = g := by simp only [stepL, hxy]
    rw [s1, s2] at h
    simp (decide := true) only [binR_add, add_int, hadd]
    refine h _ ?_ ?_ ?_ ?_ ?_ ?_
    · simp (decide := true) only [get_set_if, if_false, h0]
    · simp (decide := true) only [get_set_if, if_false, h1]
    · simp (decide := true) only [get_set_if, if_false, h13]
    · simp (decide := true) only [get_set_if, if_true, if_false]
    · simp (decide := true) only [get_set_if, if_false, h6]
    · simp (decide := true) only [get_set_if, if_false, h7]
  | false =>
    have s2 : stepL x y i g = Int.ofNat (i + 1) := by simp only [stepL, hxy]
    rw [s2] at h
    cases hf : ltI f 0 with
    | true =>
      have s1 : stepF x y i f = Int.ofNat i := by simp only [stepF, hxy, hf]
      rw [s1] at h
      simp (decide := true) only [lss_int, hf, binR_add, add_int, hadd, Option.getD_some, h6]
      refine h _ ?_ ?_ ?_ ?_ ?_ ?_
      · simp (decide := true) only [get_set_if, if_false, h0]
      · simp (decide := true) only [get_set_if, if_false, h1]
      · simp (decide := true) only [get_set_if, if_false, h13]
      · simp (decide := true) only [get_set_if, if_true, if_false]
      · simp (decide := true) only [get_set_if, if_true, if_false]
      · simp (decide := true) only [get_set_if, if_true, if_false]
    | false =>
      have s1 : stepF x y i f = f := by simp only [stepF, hxy, hf]
      rw [s1] at h
      simp (decide := true) only [lss_int, hf, binR_add, add_int, hadd, Option.getD_some, h6]
      refine h _ ?_ ?_ ?_ ?_ ?_ ?_
      · simp (decide := true) only [get_set_if, if_false, h0]
      · simp (decide := true) only [get_set_if, if_false, h1]
      · simp (decide := true) only [get_set_if, if_false, h13]
      · simp (decide := true) only [get_set_if, if_true, if_false]
      · simp (decide := true) only [get_set_if, if_false, h6]
      · simp (decide := true) only [get_set_if, if_true, if_false]
theorem end_run (K : KX) (h13 : fr.get (Id.of 13) = some (.int .i64 (.ofNat len))) (h14 : fr.get (Id.of 14) = some (.int .i64 (.ofNat len))) (h : ∀ fr', fr'.get (Id.of 6) = fr.get (Id.of 6) → fr'.get (Id.of 7) = fr.get (Id.of 7) → Sat (K (.exit 0) fr' ov nx) l) :
    Sat (code cx (exec cx N) lb base none 43 fr ov nx K) l := by
  have hlt : ltI (Int.ofNat len) (Int.ofNat len) = false := by rw [ltI_eq]; simp
  rw [lb_eq]
  simp only [code_seq (x := c1 lb), code_seq (x := c1 (c2 lb)), cSeq_eq]
  generalize code cx (exec cx N) (.seq (.block 1 bb) (c2 (c2 (c2 lb)))) = rest
  simp only [lb, ob, Tryz.f153, Option.getD_some, c1, c2]
  simp only [code_region, code_cond, code_exit, code_skip, cCond, cExit, cRegion_plain]
  simp (decide := true) only [opsK_yes, opsK_nil, wantA_eq, opR_binOp, binOpR, binR_lss, lss_int, hlt, evK_eq, evS, putK_some, get_set_if, if_true, Option.getD_some, h13, h14]
  exact h _ (by simp (decide := true) only [get_set_if, if_false]) (by simp (decide := true) only [get_set_if, if_false])
theorem loop_run (K : KX) (hlen : len < 90000) (ha : look base ov a = some (.cells ma ra qa)) (hma : offa + len ≤ ma) (hb : look base ov b = some (.cells mb rb qb)) (hmb : offb + len ≤ mb) : ∀ (xs ys : List Nat) (i fuel : Nat) (fr : Fr) (f g : Int), xs.length = ys.length → i + xs.length = len → xs.length < fuel →
    (∀ j c, xs[j]? = some c → ra.getR (offa + (i + j)) = some (.int .u8 (.ofNat c))) → (∀ j c, ys[j]? = some c → rb.getR (offb + (i + j)) = some (.int .u8 (.ofNat c))) →
    fr.get (Id.of 0) = some (.sl a offa len capa 1 exa) → fr.get (Id.of 1) = some (.sl b offb len capb 1 exb) → fr.get (Id.of 13) = some (.int .i64 (.ofNat len)) → fr.get (Id.of 14) = some (.int .i64 (.ofNat i)) → fr.get (Id.of 6) = some (.int .i64 f) → fr.get (Id.of 7) = some (.int .i64 g) →
    (∀ fr', fr'.get (Id.of 6) = some (.int .i64 (dGo xs ys i f g).1) → fr'.get (Id.of 7) = some (.int .i64 (dGo xs ys i f g).2) → Sat (K (.exit 0) fr' ov nx) l) →
      Sat (cLoop fuel (code cx (exec cx N) lb) base none 43 fr ov nx K) l := by
  intro xs
  induction xs with
  | nil =>
    intro ys i fuel fr f g hl hi hf hx hy h0 h1 h13 h14 h6 h7 h
    obtain ⟨fuel, rfl⟩ : ∃ k, fuel = k + 1 := ⟨fuel - 1, by simp at hf; omega⟩
    rw [cLoop_succ]
    have hi : i = len := by simpa using hi
    subst hi
    obtain rfl : ys = [] := List.eq_nil_of_length_eq_zero (by simpa using hl.symm)
    exact end_run _ h13 h14 fun fr' e6 e7 => h fr' (e6.trans h6) (e7.trans h7)
  | cons x xs ih =>
    intro ys i fuel fr f g hl hi hf hx hy h0 h1 h13 h14 h6 h7 h
    cases ys with
    | nil => cases hl
    | cons y ys =>
      simp only [List.length_cons] at hi hf hl
      obtain ⟨fuel, rfl⟩ : ∃ k, fuel = k + 1 := ⟨fuel - 1, by omega⟩
      rw [cLoop_succ]
      refine iter_run _ hlen (by omega) ha hma (hx 0 x rfl) hb hmb (hy 0 y rfl) h0 h1 h13 h14 h6 h7 fun fr' a0 a1 a13 a14 a6 a7 => ?_
      refine ih ys (i + 1) fuel fr' _ _ (by omega) (by omega) (by omega) (fun j c hj => ?_) (fun j c hj => ?_) a0 a1 a13 a14 a6 a7 h
      · have := hx (j + 1) c (by simpa using hj)
        rw [show i + 1 + j = i + (j + 1) by omega]
        exact this
      · have := hy (j + 1) c (by simpa using hj)
        rw [show i + 1 + j = i + (j + 1) by omega]
        exact this
theorem diff_run {xs ys : List Nat} {K : KV} (hlen : len < 90000) (hxl : xs.length = len) (hyl : ys.length = len) (ha : look base ov a = some (.cells ma ra qa)) (hma : offa + len ≤ ma) (hb : look base ov b = some (.cells mb rb qb)) (hmb : offb + len ≤ mb)
    (hx : ∀ (j : Nat) c, xs[j]? = some c → ra.getR (offa + j) = some (.int .u8 (.ofNat c))) (hy : ∀ (j : Nat) c, ys[j]? = some c → rb.getR (offb + j) = some (.int .u8 (.ofNat c)))
    (h : Sat (K (.tup [.int .i64 (dGo xs ys 0 (-1) (-1)).1, .int .i64 (dGo xs ys 0 (-1) (-1)).2]) ov nx) l) : Sat (callK cx (exec cx (N + 1)) base 153 [.sl a offa len capa 1 exa, .sl b offb len capb 1 exb] ov nx K) l := by
  rw [callK_body (fn := Tryz.f153) rfl rfl rfl (Nat.le_of_ble_eq_true rfl)]
  unfold bodyK
  have hb0 : Tryz.f153.body = some ob := rfl
  rw [hb0]
  simp only [argFrameK_eq, argFrame]
  rw [ob_eq]
  have a0 : (#[155] : Array TypeId)[0]? = some 155 := rfl
  have hnn : ltI (Int.ofNat len) (Int.ofNat len) = false := by rw [ltI_eq]; simp
  simp only [exec_succ (n := N), code_seq (x := c1 ob), code_seq (x := c1 (c2 ob)), code_seq (x := .seq (c1 (c1 (c2 (c2 ob)))) (.block 0 (.loop lb))), code_seq (x := c1 (c1 (c2 (c2 ob)))), code_block, code_loop, cSeq_eq]
  have fin : ∀ fr', fr'.get (Id.of 6) = some (.int .i64 (dGo xs ys 0 (-1) (-1)).1) → fr'.get (Id.of 7) = some (.int .i64 (dGo xs ys 0 (-1) (-1)).2) → Sat (code cx (exec cx N) (c2 (c2 (c2 ob))) base none 43 fr' ov nx (leaveK cx base Tryz.f153 K)) l := by
    intro fr' h6 h7
    simp only [ob, Tryz.f153, Option.getD_some, c2]
    simp (decide := true) only [code_seq, code_region, code_ret, cSeq, cExit, cRegion_plain, opsK_yes, opsK_nil, wantA_eq, opR_move, opR_assign, moveR, evK_eq, evS, putK_some, get_set_if, if_true, if_false, Option.getD_some, h6, h7, leaveK, resultsK, resultsL, resultK, Tr.getK_eq]
    exact h
  have main : ∀ (fr : Fr) (K' : KX), fr.get (Id.of 0) = some (.sl a offa len capa 1 exa) → fr.get (Id.of 1) = some (.sl b offb len capb 1 exb) → fr.get (Id.of 13) = some (.int .i64 (.ofNat len)) → fr.get (Id.of 14) = some (.int .i64 (.ofNat 0)) → fr.get (Id.of 6) = some (.int .i64 (-1)) → fr.get (Id.of 7) = some (.int .i64 (-1)) →
      (∀ fr', fr'.get (Id.of 6) = some (.int .i64 (dGo xs ys 0 (-1) (-1)).1) → fr'.get (Id.of 7) = some (.int .i64 (dGo xs ys 0 (-1) (-1)).2) → Sat (K' (.exit 0) fr' ov nx) l) → Sat (cLoop loopFuel (code cx (exec cx N) lb) base none 43 fr ov nx K') l := by
    intro fr K' h0 h1 h13 h14 h6 h7 hk
    exact loop_run (exa := exa) (exb := exb) (capa := capa) (capb := capb) _ hlen ha hma hb hmb xs ys 0 loopFuel fr _ _ (by omega) (by omega) (by unfold loopFuel; omega) (fun j c hj => by rw [Nat.zero_add]; exact hx j c hj) (fun j c hj => by rw [Nat.zero_add]; exact hy j c hj) h0 h1 h13 h14 h6 h7 hk
  generalize hlast : code cx (exec cx N) (c2 (c2 (c2 ob))) = last at fin main ⊢
  generalize hloop : code cx (exec cx N) lb = lp at main ⊢
  simp only [ob, Tryz.f153, Option.getD_some, c1, c2, code_region, cRegion_plain]
  simp (decide := true) only [opsK_yes, opsK_nil, wantA_eq, opR_move, opR_assign, opR_call, moveR, callR, evL_eq, List.map, builtinK, maxMin, ikEq_self, hnn, a0, lenK, uSl, forceN_eq, evK_eq, evS, putK_some, get_set_if, if_true, if_false, Option.getD_some, AV.ofValue, AV.ofCell, cBlock_eq]
  refine main _ _ ?_ ?_ ?_ ?_ ?_ ?_ fin
  · simp (decide := true) only [get_set_if, if_true, if_false]
  · simp (decide := true) only [get_set_if, if_true, if_false]
  · simp (decide := true) only [get_set_if, if_true, if_false]
  · simp (decide := true) only [get_set_if, if_true, if_false]; rfl
  · simp (decide := true) only [get_set_if, if_true, if_false]
  · simp (decide := true) only [get_set_if, if_true, if_false]
end
/-- THE SUMMARY. -/
theorem summ (hC : CtxOK cx) : SummOK cx.P 153 diffS := by
  refine summ_of_run2 hC (n := 1) ?_
  intro base ov nx args K l ρ w args' hh ha hs
  unfold diffS at hs
  split at hs
  · rename_i a offa len capa exa b offb len' capb exb
    split at hs
    · rename_i hc
      simp only [Bool.and_eq_true, Nat.blt_eq, Nat.beq_eq] at hc
      obtain ⟨hc, rfl⟩ := hc
      obtain ⟨A⟩ := args'
      replace ha : VRL ρ [.sl a offa len capa 1 exa, .sl b offb len capb 1 exb] A := ha
      obtain ⟨⟨ea, hea⟩, ⟨eb, heb⟩⟩ : (∃ e, ρ a = some e) ∧ (∃ e, ρ b = some e) := by
        cases ha with
        | cons hx ht => cases ht with
          | cons hy _ =>
            cases hx with
            | sl he _ _ _ _ => cases hy with
              | sl he2 _ _ _ _ => exact ⟨⟨_, he⟩, ⟨_, he2⟩⟩
      obtain ⟨m, r, q, L, h1, h2, h3, h4, h5⟩ := readK_abs hh hea hs
      obtain ⟨m2, r2, q2, L2, g1, g2, g3, g4, g5⟩ := readK_abs hh heb h5
      split at g5
      · rename_i xs ys hxs hys
        rw [dGoK_eq, forceI_eq, forceI_eq] at g5
        obtain ⟨p1, p2⟩ := bytesOfCells_spec hxs
        obtain ⟨p3, p4⟩ := bytesOfCells_spec hys
        refine diff_run (N := 0) hc (by omega) (by omega) h1 h2 g1 g2 (fun j c hj => ?_) (fun j c hj => ?_) g5
        · have hlt : j < xs.length := (List.getElem?_eq_some_iff.1 hj).1
          obtain ⟨v, v1, v2⟩ := h4 j (by omega)
          obtain ⟨x, x1, _, x3⟩ := p2 j v v1
          rw [hj] at x1
          cases x1
          rw [v2, x3]
        · have hlt : j < ys.length := (List.getElem?_eq_some_iff.1 hj).1
          obtain ⟨v, v1, v2⟩ := g4 j (by omega)
          obtain ⟨x, x1, _, x3⟩ := p4 j v v1
          rw [hj] at x1
          cases x1
          rw [v2, x3]
      · exact (not_sat_bad g5).elim
    · exact (not_sat_bad hs).elim
  · exact (not_sat_bad hs).elim
end KDiff
end Go.Ab
/- The summary of num.Sum: bytes' sum, half a byte at a time. -/
namespace Go.Ab
open Go.RowKit Go.Proofs
namespace KSum
noncomputable def cx : Ctx := { P := Tryz.prog, S := fun _ => none, J := fun _ => false }
noncomputable def ob : Code := Tryz.f127.body.getD .skip
def c1 : Code → Code
  | .seq a _ => a
  | .block _ a => a
  | .loop a => a
  | c => c
def c2 : Code → Code
  | .seq _ b => b
  | c => c
-- the table's loop, its inner one, the bytes'
noncomputable def f1 : Code := c1 (c2 (c2 ob))
noncomputable def l1 : Code := c1 (c1 (c2 f1))
noncomputable def b1 : Code := c1 (c1 (c2 (c2 l1)))
noncomputable def fi : Code := c1 (c2 (c2 b1))
noncomputable def l2 : Code := c1 (c1 (c2 fi))
noncomputable def f2 : Code := c1 (c2 (c2 (c2 (c2 ob))))
noncomputable def l3 : Code := c1 (c1 (c2 f2))
theorem ob_eq : ob = .seq (c1 ob) (.seq (c1 (c2 ob)) (.seq (.seq (c1 f1) (.block 0 (.loop l1))) (.seq (c1 (c2 (c2 (c2 ob)))) (.seq (.seq (c1 f2) (.block 4 (.loop l3))) (c2 (c2 (c2 (c2 (c2 ob))))))))) := id rfl
noncomputable def b5 : Code := c1 (c1 (c2 (c2 l3)))
theorem l3_eq : l3 = .seq (c1 l3) (.seq (c1 (c2 l3)) (.seq (.block 5 b5) (c2 (c2 (c2 l3))))) := id rfl
theorem b5_eq : b5 = .seq (c1 b5) (.seq (c1 (c2 b5)) (.seq (c1 (c2 (c2 b5))) (c2 (c2 (c2 b5))))) := id rfl
theorem l1_eq : l1 = .seq (c1 l1) (.seq (c1 (c2 l1)) (.seq (.block 1 b1) (c2 (c2 (c2 l1))))) := id rfl
theorem b1_eq : b1 = .seq (c1 b1) (.seq (c1 (c2 b1)) (.seq (.seq (c1 fi) (.block 2 (.loop l2))) (c2 (c2 (c2 b1))))) := id rfl
set_option maxRecDepth 100000
theorem uSl : cx.P.underlying 155 = some (.slice 5) := rfl
theorem uInt : cx.P.underlying 3 = some (.int .i64) := rfl
theorem uByte : cx.P.underlying 5 = some (.int .u8) := rfl
theorem uU : cx.P.underlying 247 = some (.int .u32) := rfl
theorem uArr : cx.P.underlying 310 = some (.array 16 247) := rfl
theorem sArr : szOf cx.P 310 = some 16 := rfl
theorem sByte : szOf cx.P 5 = some 1 := rfl
theorem sU : szOf cx.P 247 = some 1 := rfl
theorem aByte : aggT cx.P 5 = some false := rfl
theorem aU : aggT cx.P 247 = some false := rfl
def zeros : List AV := repL 16 [.int .u32 0]
theorem zArr : zeroV cx.P 310 = some (.agg zeros) := rfl
/-! ### What it computes -/
noncomputable def crc1 (s : Int) : Int := .ofNat (x32 (s.fdiv (2 ^ (min 1 32))) (wrapI .u32 (3988292384 * .ofNat (a32 s 1))))
noncomputable def ent (i : Nat) : Int := crc1 (crc1 (crc1 (crc1 (wrapI .u32 (.ofNat i)))))
noncomputable def tab : Nat → List AV
  | 0 => zeros
  | i + 1 => lput (tab i) i [.int .u32 (ent i)]
theorem tab_len (i : Nat) : (tab i).length = 16 := by
  induction i with
  | zero => rfl
  | succ i ih => simp [tab, lput_length, ih]
theorem tab_get : ∀ (n j : Nat), n ≤ 16 → j < n → (tab n)[j]? = some (.int .u32 (ent j))
  | n + 1, j, hn, hj => by
    simp only [tab]
    rw [lput_get _ _ _ _ (by simp [tab_len]; omega)]
    by_cases e : j = n
    · subst e; simp
    · rw [if_neg (by simp; omega)]
      exact tab_get n j (by omega) (by omega)
noncomputable def half (s : Int) : Int := .ofNat (x32 (s.fdiv (2 ^ (min 4 32))) (ent (a32 s 15)))
noncomputable def byteS (s : Int) (c : Nat) : Int := half (half (.ofNat (x32 s (wrapI .u32 (.ofNat c)))))
theorem a32_15 (s : Int) : a32 s 15 < 16 := by
  unfold a32
  rw [BitVec.toNat_and]
  have : (BitVec.ofInt 32 15).toNat = 15 := by decide
  rw [this]
  exact Nat.lt_succ_of_le Nat.and_le_right
section
variable {base ov : Hp} {nx N : Nat} {fr : Fr} {b : Id} {off len cap : Nat} {ex : Bool} {m : Nat} {r : Rows} {q : Bool} {l : List Out}
/-- A round of the inner loop. -/
theorem in_iter {i : Nat} {s : Int} (K : KX) (hi : i < 4) (h14 : fr.get (Id.of 14) = some (.int .i64 (.ofNat i))) (h5 : fr.get (Id.of 5) = some (.int .u32 s))
    (h : ∀ fr', fr'.get (Id.of 14) = some (.int .i64 (.ofNat (i + 1))) → fr'.get (Id.of 5) = some (.int .u32 (crc1 s)) → (∀ t, t < 10 → t ≠ 5 → fr'.get (Id.of t) = fr.get (Id.of t)) → Sat (K .normal fr' ov nx) l) :
    Sat (code cx (exec cx N) l2 base none 54 fr ov nx K) l := by
  have hlt : ltI (Int.ofNat i) 4 = true := by rw [ltI_eq]; simp; omega
  have hadd : wrapI .i64 (addI (Int.ofNat i) 1) = Int.ofNat (i + 1) := by
    have e : addI (Int.ofNat i) 1 = Int.ofNat (i + 1) := rfl
    rw [e, wrapI_small]
    rw [wrap_i64]
    have : Int.ofNat (i + 1) = ((i + 1 : Nat) : Int) := rfl
    rw [this]; split <;> omega
  simp only [l2, fi, b1, l1, f1, ob, Tryz.f127, Option.getD_some, c1, c2]
  simp only [code_seq, code_region, code_cond, code_block, code_exit, code_skip, cSeq, cCond, cBlock, cExit, cRegion_plain]
  simp (decide := true) only [opsK_yes, opsK_nil, wantA_eq, opR_move, opR_assign, opR_binOp, moveR, binOpR, binR_lss, lss_int, hlt, binR_shr, shr_one, binR_and, binR_xor, and_u32, xor_u32, binR_mul, mul_int, binR_add, add_int, hadd, evK_eq, evS, putK_some, get_set_if, if_true, if_false, Option.getD_some, h14, h5, AV.ofValue, AV.ofCell]
  refine h _ ?_ ?_ ?_
  · simp (decide := true) only [get_set_if, if_true, if_false]
  · simp (decide := true) only [get_set_if, if_true, if_false]; rfl
  · intro t ht hne
    simp only [get_set_if]
    repeat rw [if_neg (by omega)]
theorem in_end (K : KX) (h14 : fr.get (Id.of 14) = some (.int .i64 (.ofNat 4))) (h : ∀ fr', fr'.get (Id.of 5) = fr.get (Id.of 5) → (∀ t, t < 10 → fr'.get (Id.of t) = fr.get (Id.of t)) → Sat (K (.exit 2) fr' ov nx) l) :
    Sat (code cx (exec cx N) l2 base none 54 fr ov nx K) l := by
  have hlt : ltI (Int.ofNat 4) 4 = false := rfl
  simp only [l2, fi, b1, l1, f1, ob, Tryz.f127, Option.getD_some, c1, c2]
  simp only [code_seq, code_region, code_cond, code_block, code_exit, code_skip, cSeq, cCond, cBlock, cExit, cRegion_plain]
  simp (decide := true) only [opsK_yes, opsK_nil, wantA_eq, opR_binOp, binOpR, binR_lss, lss_int, hlt, evK_eq, evS, putK_some, get_set_if, if_true, if_false, Option.getD_some, h14, AV.ofValue, AV.ofCell]
  refine h _ (by simp (decide := true) only [get_set_if, if_false]) ?_
  intro t ht
  simp only [get_set_if]
  rw [if_neg (by omega)]
def crcN : Nat → Int → Int → Prop
  | 0, s, u => s = u
  | n + 1, s, u => crcN n (crc1 s) u
theorem in_loop (K : KX) : ∀ (d i fuel : Nat) (fr : Fr) (s u : Int), i + d = 4 → d < fuel → fr.get (Id.of 14) = some (.int .i64 (.ofNat i)) → fr.get (Id.of 5) = some (.int .u32 s) → crcN d s u →
    (∀ fr', fr'.get (Id.of 5) = some (.int .u32 u) → (∀ t, t < 10 → t ≠ 5 → fr'.get (Id.of t) = fr.get (Id.of t)) → Sat (K (.exit 2) fr' ov nx) l) → Sat (cLoop fuel (code cx (exec cx N) l2) base none 54 fr ov nx K) l := by
  intro d
  induction d with
  | zero =>
    intro i fuel fr s u hi hf h14 h5 hc h
    obtain ⟨fuel, rfl⟩ : ∃ k, fuel = k + 1 := ⟨fuel - 1, by omega⟩
    rw [cLoop_succ]
    have hi : i = 4 := by omega
    subst hi
    have hc : s = u := hc
    subst hc
    exact in_end _ h14 fun fr' e5 et => h fr' (e5.trans h5) fun t ht _ => et t ht
  | succ d ih =>
    intro i fuel fr s u hi hf h14 h5 hc h
    obtain ⟨fuel, rfl⟩ : ∃ k, fuel = k + 1 := ⟨fuel - 1, by omega⟩
    rw [cLoop_succ]
    refine in_iter _ (by omega) h14 h5 fun fr' a14 a5 at_ => ?_
    exact ih (i + 1) fuel fr' _ u (by omega) (by omega) a14 a5 hc fun fr2 e5 et => h fr2 e5 fun t ht hne => (et t ht hne).trans (at_ t ht hne)
/-- A round of the table's loop. -/
theorem t_iter {i : Nat} {B : Id} (K : KX) (hi : i < 16) (h3 : fr.get (Id.of 3) = some (.ptr B 0)) (h9 : fr.get (Id.of 9) = some (.int .i64 (.ofNat i))) {ov' : Hp} (hl : look base ov' B = some (.cells 16 (.flat (tab i)) true))
    (h : ∀ fr', fr'.get (Id.of 3) = some (.ptr B 0) → fr'.get (Id.of 9) = some (.int .i64 (.ofNat (i + 1))) → fr'.get (Id.of 0) = fr.get (Id.of 0) → Sat (K .normal fr' (ov'.set B (some (.cells 16 (.flat (tab (i + 1))) true))) nx) l) :
    Sat (code cx (exec cx N) l1 base none 54 fr ov' nx K) l := by
  have hlt : ltI (Int.ofNat i) 16 = true := by rw [ltI_eq]; simp; omega
  have hadd : wrapI .i64 (addI (Int.ofNat i) 1) = Int.ofNat (i + 1) := by
    have e : addI (Int.ofNat i) 1 = Int.ofNat (i + 1) := rfl
    rw [e, wrapI_small]
    rw [wrap_i64]
    have : Int.ofNat (i + 1) = ((i + 1 : Nat) : Int) := rfl
    rw [this]; split <;> omega
  have main := fun (K' : KX) (fr : Fr) (h14 : fr.get (Id.of 14) = some (.int .i64 (.ofNat 0))) (h5 : fr.get (Id.of 5) = some (.int .u32 (wrapI .u32 (.ofNat i)))) hk =>
    in_loop (base := base) (ov := ov') (nx := nx) (N := N) (l := l) K' 4 0 loopFuel fr (wrapI .u32 (.ofNat i)) (ent i) rfl (by unfold loopFuel; omega) h14 h5 rfl hk
  rw [l1_eq]
  simp only [code_seq (x := c1 l1), code_seq (x := c1 (c2 l1)), code_seq (x := .block 1 b1), code_block, cSeq_eq, cBlock_eq]
  rw [b1_eq]
  simp only [code_seq (x := c1 b1), code_seq (x := c1 (c2 b1)), code_seq (x := .seq (c1 fi) (.block 2 (.loop l2))), code_seq (x := c1 fi), code_block, code_loop, cSeq_eq, cBlock_eq]
  generalize hloop : code cx (exec cx N) l2 = lp at main ⊢
  simp only [fi, b1, l1, f1, ob, Tryz.f127, Option.getD_some, c1, c2, code_region, code_cond, code_exit, code_skip, cCond, cExit_eq, cRegion_plain]
  simp (decide := true) only [opsK_yes, opsK_nil, wantA_eq, opR_move, opR_assign, opR_binOp, opR_convert, moveR, binOpR, binR_lss, lss_int, hlt, convertR, convert_int _ _ _ _ _ _ _ _ _ uInt uU, evK_eq, evS, putK_some, get_set_if, if_true, if_false, Option.getD_some, h9, AV.ofValue, AV.ofCell]
  refine main _ _ ?_ ?_ (fun fr' h5 hk => ?_)
  · simp (decide := true) only [get_set_if, if_true, if_false]; rfl
  · simp (decide := true) only [get_set_if, if_true, if_false]
  · have h3' : fr'.get (Id.of 3) = some (.ptr B 0) := by
      rw [hk 3 (by decide) (by decide)]; simp (decide := true) only [get_set_if, if_false, h3]
    have h9' : fr'.get (Id.of 9) = some (.int .i64 (.ofNat i)) := by
      rw [hk 9 (by decide) (by decide)]; simp (decide := true) only [get_set_if, if_false, h9]
    have h4' : fr'.get (Id.of 4) = some (.int .i64 (.ofNat i)) := by
      rw [hk 4 (by decide) (by decide)]; simp (decide := true) only [get_set_if, if_true, if_false]
    have h0' : fr'.get (Id.of 0) = fr.get (Id.of 0) := by
      rw [hk 0 (by decide) (by decide)]; simp (decide := true) only [get_set_if, if_false]
    have g1 : Nat.blt i 16 = true := by simpa using hi
    have g2 : Nat.ble (0 + i * 1 + 1) 16 = true := by simp; omega
    have g3 : ∀ v : AV, lenIs [v] 1 = true := fun _ => rfl
    have g4 : (Nat.beq (0 + i * 1) 0 && Nat.beq 1 16) = false := by
      have : Nat.beq 1 16 = false := rfl
      rw [this, Bool.and_false]
    have g5 : 0 + i * 1 = i := by omega
    simp (decide := true) only [Nat.beq, opR_indexAddr, opR_store, indexAddrR, uArr, sU, g1, forceN_eq, storeR, cellsK, writeK, hl, g3, Rows.putK, g5, lputK_eq, Tr.setK_eq, binR_add, add_int, hadd, evK_eq, evS, get_set_if, if_true, if_false, Option.getD_some, h3', h9', h4', h5, putK, Bool.and_false]
    have g6 : Nat.ble (i + 1) 16 = true := by simp; omega
    rw [g6]
    refine h _ ?_ ?_ ?_
    · simp (decide := true) only [get_set_if, if_false, h3']
    · simp (decide := true) only [get_set_if, if_true, if_false]
    · simp (decide := true) only [get_set_if, if_false, h0']
theorem t_end {ov' : Hp} (K : KX) (h9 : fr.get (Id.of 9) = some (.int .i64 (.ofNat 16))) (h : ∀ fr', (∀ t, t < 9 → fr'.get (Id.of t) = fr.get (Id.of t)) → Sat (K (.exit 0) fr' ov' nx) l) :
    Sat (code cx (exec cx N) l1 base none 54 fr ov' nx K) l := by
  have hlt : ltI (Int.ofNat 16) 16 = false := rfl
  rw [l1_eq]
  simp only [code_seq (x := c1 l1), code_seq (x := c1 (c2 l1)), cSeq_eq]
  generalize code cx (exec cx N) (.seq (.block 1 b1) (c2 (c2 (c2 l1)))) = rest
  simp only [l1, f1, ob, Tryz.f127, Option.getD_some, c1, c2]
  simp only [code_region, code_cond, code_exit, code_skip, cCond, cExit, cRegion_plain]
  simp (decide := true) only [opsK_yes, opsK_nil, wantA_eq, opR_binOp, binOpR, binR_lss, lss_int, hlt, evK_eq, evS, putK_some, get_set_if, if_true, Option.getD_some, h9, AV.ofValue, AV.ofCell]
  refine h _ fun t ht => ?_
  simp only [get_set_if]
  rw [if_neg (by omega)]
theorem t_loop {B : Id} (K : KX) : ∀ (d i fuel : Nat) (fr : Fr), i + d = 16 → d < fuel → fr.get (Id.of 3) = some (.ptr B 0) → fr.get (Id.of 9) = some (.int .i64 (.ofNat i)) →
    (∀ fr', fr'.get (Id.of 3) = some (.ptr B 0) → fr'.get (Id.of 0) = fr.get (Id.of 0) → Sat (K (.exit 0) fr' (ov.set B (some (.cells 16 (.flat (tab 16)) true))) nx) l) →
    Sat (cLoop fuel (code cx (exec cx N) l1) base none 54 fr (ov.set B (some (.cells 16 (.flat (tab i)) true))) nx K) l := by
  intro d
  induction d with
  | zero =>
    intro i fuel fr hi hf h3 h9 h
    obtain ⟨fuel, rfl⟩ : ∃ k, fuel = k + 1 := ⟨fuel - 1, by omega⟩
    rw [cLoop_succ]
    have hi : i = 16 := by omega
    subst hi
    exact t_end _ h9 fun fr' et => h fr' ((et 3 (by decide)).trans h3) (et 0 (by decide))
  | succ d ih =>
    intro i fuel fr hi hf h3 h9 h
    obtain ⟨fuel, rfl⟩ : ∃ k, fuel = k + 1 := ⟨fuel - 1, by omega⟩
    rw [cLoop_succ]
    refine t_iter _ (by omega) h3 h9 (by rw [look_set, if_pos rfl]) fun fr' a3 a9 a0 => ?_
    rw [set_set]
    exact ih (i + 1) fuel fr' (by omega) (by omega) a3 a9 fun fr2 e3 e0 => h fr2 e3 (e0.trans a0)
/-- A round over the bytes. -/
theorem s_iter {i c : Nat} {s : Int} {B : Id} (K : KX) (hlen : len < 90000) (hi : i < len) (hb : look base ov b = some (.cells m r q)) (hm : off + len ≤ m) (hc : r.getR (off + i) = some (.int .u8 (.ofNat c))) (hB : look base ov B = some (.cells 16 (.flat (tab 16)) true))
    (h3 : fr.get (Id.of 3) = some (.ptr B 0)) (h27 : fr.get (Id.of 27) = some (.sl b off len cap 1 ex)) (h28 : fr.get (Id.of 28) = some (.int .i64 (.ofNat len))) (h29 : fr.get (Id.of 29) = some (.int .i64 (.ofNat i))) (h6 : fr.get (Id.of 6) = some (.int .u32 s))
    (h : ∀ fr', fr'.get (Id.of 3) = some (.ptr B 0) → fr'.get (Id.of 27) = some (.sl b off len cap 1 ex) → fr'.get (Id.of 28) = some (.int .i64 (.ofNat len)) → fr'.get (Id.of 29) = some (.int .i64 (.ofNat (i + 1))) → fr'.get (Id.of 6) = some (.int .u32 (byteS s c)) → Sat (K .normal fr' ov nx) l) :
    Sat (code cx (exec cx N) l3 base none 54 fr ov nx K) l := by
  have hlt : ltI (Int.ofNat i) (Int.ofNat len) = true := by rw [ltI_eq]; simp; omega
  have hadd : wrapI .i64 (addI (Int.ofNat i) 1) = Int.ofNat (i + 1) := by
    have e : addI (Int.ofNat i) 1 = Int.ofNat (i + 1) := rfl
    rw [e, wrapI_small]
    rw [wrap_i64]
    have : Int.ofNat (i + 1) = ((i + 1 : Nat) : Int) := rfl
    rw [this]; split <;> omega
  have g1 : Nat.blt i len = true := by simpa using hi
  have g2 : Nat.blt (off + i * 1) m = true := by simp; omega
  have b1 : Nat.beq 1 1 = true := rfl
  have hc : r.getR (off + i * 1) = some (.int .u8 (.ofNat c)) := by rw [Nat.mul_one]; exact hc
  have hidx : ∀ s : Int, Nat.blt (a32 s 15) 16 = true := fun s => by rw [Nat.blt_eq]; exact a32_15 s
  have hget : ∀ s : Int, (Rows.flat (tab 16)).getR (0 + a32 s 15 * 1) = some (.int .u32 (ent (a32 s 15))) := fun s => by
    rw [Rows.getR_eq, Nat.zero_add, Nat.mul_one]
    exact tab_get 16 _ (Nat.le_refl _) (a32_15 s)
  have hidx2 : ∀ s : Int, Nat.blt (0 + a32 s 15 * 1) 16 = true := fun s => by
    rw [Nat.zero_add, Nat.mul_one]; exact hidx s
  rw [l3_eq]
  simp only [code_seq (x := c1 l3), code_seq (x := c1 (c2 l3)), code_seq (x := .block 5 b5), code_block, cSeq_eq, cBlock_eq]
  rw [b5_eq]
  simp only [code_seq (x := c1 b5), code_seq (x := c1 (c2 b5)), code_seq (x := c1 (c2 (c2 b5))), cSeq_eq]
  generalize e1 : code cx (exec cx N) (c1 (c2 b5)) = k1
  generalize e2 : code cx (exec cx N) (c1 (c2 (c2 b5))) = k2
  generalize e3 : code cx (exec cx N) (c2 (c2 (c2 b5))) = k3
  generalize e4 : code cx (exec cx N) (c2 (c2 (c2 l3))) = k4
  simp only [b5, l3, f2, ob, Tryz.f127, Option.getD_some, c1, c2, code_region, code_cond, code_exit, code_skip, cCond, cExit_eq, cRegion_plain]
  simp (decide := true) only [opsK_yes, opsK_nil, wantA_eq, opR_assign, opR_binOp, opR_indexAddr, opR_load, moveR, binOpR, binR_lss, lss_int, hlt, indexAddrR, uSl, sByte, g1, forceN_eq, loadR, loadK, aByte, readOneK, hb, g2, hc, evK_eq, evS, putK_some, get_set_if, if_true, if_false, Option.getD_some, h27, h28, h29]
  subst e1
  simp only [b5, l3, f2, ob, Tryz.f127, Option.getD_some, c1, c2, code_region, cRegion_plain]
  simp (decide := true) only [opsK_yes, opsK_nil, wantA_eq, opR_move, opR_assign, opR_binOp, opR_convert, moveR, binOpR, binR_xor, xor_u32, convertR, convert_int _ _ _ _ _ _ _ _ _ uByte uU, evK_eq, evS, putK_some, get_set_if, if_true, if_false, Option.getD_some, h6]
  subst e2
  simp only [b5, l3, f2, ob, Tryz.f127, Option.getD_some, c1, c2, code_region, cRegion_plain]
  simp (decide := true) only [opsK_yes, opsK_nil, wantA_eq, opR_move, opR_assign, opR_binOp, opR_indexAddr, opR_load, moveR, binOpR, binR_shr, shr_four, binR_and, binR_xor, and_u32, xor_u32, indexAddrR, uArr, sU, hidx, forceN_eq, loadR, loadK, aU, readOneK, hB, hidx2, hget, evK_eq, evS, putK_some, get_set_if, if_true, if_false, Option.getD_some, h3, AV.ofValue, AV.ofCell]
  subst e3
  simp only [b5, l3, f2, ob, Tryz.f127, Option.getD_some, c1, c2, code_region, cRegion_plain]
  simp (decide := true) only [opsK_yes, opsK_nil, wantA_eq, opR_move, opR_assign, opR_binOp, opR_indexAddr, opR_load, moveR, binOpR, binR_shr, shr_four, binR_and, binR_xor, and_u32, xor_u32, indexAddrR, uArr, sU, hidx, forceN_eq, loadR, loadK, aU, readOneK, hB, hidx2, hget, evK_eq, evS, putK_some, get_set_if, if_true, if_false, Option.getD_some, h3, AV.ofValue, AV.ofCell]
  subst e4
  simp only [l3, f2, ob, Tryz.f127, Option.getD_some, c1, c2, code_region, cRegion_plain]
  simp (decide := true) only [opsK_yes, opsK_nil, wantA_eq, opR_move, opR_binOp, moveR, binOpR, binR_add, add_int, hadd, evK_eq, evS, putK_some, get_set_if, if_true, if_false, Option.getD_some, h29, AV.ofValue, AV.ofCell]
  refine h _ ?_ ?_ ?_ ?_ ?_
  · simp (decide := true) only [get_set_if, if_false, h3]
  · simp (decide := true) only [get_set_if, if_false, h27]
  · simp (decide := true) only [get_set_if, if_false, h28]
  · simp (decide := true) only [get_set_if, if_true, if_false]
  · simp (decide := true) only [get_set_if, if_true, if_false]; rfl
theorem s_end (K : KX) (h28 : fr.get (Id.of 28) = some (.int .i64 (.ofNat len))) (h29 : fr.get (Id.of 29) = some (.int .i64 (.ofNat len))) (h : ∀ fr', fr'.get (Id.of 6) = fr.get (Id.of 6) → Sat (K (.exit 4) fr' ov nx) l) :
    Sat (code cx (exec cx N) l3 base none 54 fr ov nx K) l := by
  have hlt : ltI (Int.ofNat len) (Int.ofNat len) = false := by rw [ltI_eq]; simp
  simp only [l3, f2, ob, Tryz.f127, Option.getD_some, c1, c2]
  simp only [code_seq, code_region, code_cond, code_block, code_exit, code_skip, cSeq, cCond, cBlock, cExit, cRegion_plain]
  simp (decide := true) only [opsK_yes, opsK_nil, wantA_eq, opR_binOp, binOpR, binR_lss, lss_int, hlt, evK_eq, evS, putK_some, get_set_if, if_true, if_false, Option.getD_some, h28, h29]
  exact h _ (by simp (decide := true) only [get_set_if, if_false])
theorem s_loop {B : Id} (K : KX) (hlen : len < 90000) (hb : look base ov b = some (.cells m r q)) (hm : off + len ≤ m) (hB : look base ov B = some (.cells 16 (.flat (tab 16)) true)) : ∀ (rest : List Nat) (i fuel : Nat) (fr : Fr) (s : Int), i + rest.length = len → rest.length < fuel →
    (∀ j c, rest[j]? = some c → r.getR (off + (i + j)) = some (.int .u8 (.ofNat c))) → fr.get (Id.of 3) = some (.ptr B 0) → fr.get (Id.of 27) = some (.sl b off len cap 1 ex) → fr.get (Id.of 28) = some (.int .i64 (.ofNat len)) → fr.get (Id.of 29) = some (.int .i64 (.ofNat i)) → fr.get (Id.of 6) = some (.int .u32 s) →
    (∀ fr', fr'.get (Id.of 6) = some (.int .u32 (rest.foldl byteS s)) → Sat (K (.exit 4) fr' ov nx) l) →
      Sat (cLoop fuel (code cx (exec cx N) l3) base none 54 fr ov nx K) l := by
  intro rest
  induction rest with
  | nil =>
    intro i fuel fr s hi hf hr h3 h27 h28 h29 h6 h
    obtain ⟨fuel, rfl⟩ : ∃ k, fuel = k + 1 := ⟨fuel - 1, by simp at hf; omega⟩
    rw [cLoop_succ]
    have hi : i = len := by simpa using hi
    subst hi
    exact s_end _ h28 h29 fun fr' e => h fr' (e.trans h6)
  | cons c rest ih =>
    intro i fuel fr s hi hf hr h3 h27 h28 h29 h6 h
    simp only [List.length_cons] at hi hf
    obtain ⟨fuel, rfl⟩ : ∃ k, fuel = k + 1 := ⟨fuel - 1, by omega⟩
    rw [cLoop_succ]
    refine s_iter _ hlen (by omega) hb hm (hr 0 c rfl) hB h3 h27 h28 h29 h6 fun fr' a3 a27 a28 a29 a6 => ?_
    refine ih (i + 1) fuel fr' _ (by omega) (by omega) (fun j c' hj => ?_) a3 a27 a28 a29 a6 h
    have := hr (j + 1) c' (by simpa using hj)
    rw [show i + 1 + j = i + (j + 1) by omega]
    exact this
noncomputable def flip (s : Int) : Int := wrapI .u32 (((BitVec.ofInt IntKind.u32.bits (if IntKind.u32.signed = true then -1 else IntKind.u32.max) ^^^ BitVec.ofInt IntKind.u32.bits s).toNat : Nat) : Int)
theorem sum_run {bs : List Nat} {K : KV} (hlen : len < 90000) (hbl : bs.length = len) (hb : look base ov b = some (.cells m r q)) (hm : off + len ≤ m) (hbs : ∀ (j : Nat) c, bs[j]? = some c → r.getR (off + j) = some (.int .u8 (.ofNat c))) (hab : absent base ov (Id.of nx) = true)
    (h : Sat (K (.int .u32 (flip (bs.foldl byteS 4294967295))) (ov.set (Id.of nx) (some (.cells 16 (.flat (tab 16)) true))) (nx + 1)) l) : Sat (callK cx (exec cx (N + 1)) base 127 [.sl b off len cap 1 ex] ov nx K) l := by
  rw [callK_body (fn := Tryz.f127) rfl rfl rfl (Nat.le_of_ble_eq_true rfl)]
  unfold bodyK
  have hb0 : Tryz.f127.body = some ob := rfl
  rw [hb0]
  simp only [argFrameK_eq, argFrame]
  rw [ob_eq]
  have a0 : (#[155] : Array TypeId)[0]? = some 155 := rfl
  have hne : b ≠ Id.of nx := fun e => by rw [e, look_absent hab] at hb; cases hb
  have zl : lenIs zeros 16 = true := rfl
  simp only [exec_succ (n := N), code_seq (x := c1 ob), code_seq (x := c1 (c2 ob)), code_seq (x := .seq (c1 f1) (.block 0 (.loop l1))), code_seq (x := c1 f1), code_seq (x := c1 (c2 (c2 (c2 ob)))), code_seq (x := .seq (c1 f2) (.block 4 (.loop l3))), code_seq (x := c1 f2), code_block, code_loop, cSeq_eq, cBlock_eq]
  have fin : ∀ fr' ov' nx', ov' = ov.set (Id.of nx) (some (.cells 16 (.flat (tab 16)) true)) → nx' = nx + 1 → fr'.get (Id.of 6) = some (.int .u32 (bs.foldl byteS 4294967295)) → Sat (code cx (exec cx N) (c2 (c2 (c2 (c2 (c2 ob))))) base none 54 fr' ov' nx' (leaveK cx base Tryz.f127 K)) l := by
    rintro fr' _ _ rfl rfl h6
    simp only [ob, Tryz.f127, Option.getD_some, c2]
    simp (decide := true) only [code_seq, code_region, code_ret, cSeq, cExit, cRegion_plain, opsK_yes, opsK_nil, wantA_eq, opR_move, opR_assign, opR_unOp, unOpR, retI_eq, moveR, evK_eq, evS, putK_some, get_set_if, if_true, if_false, Option.getD_some, h6, leaveK, resultsK, resultK, Tr.getK_eq]
    exact h
  have main1 := fun (K' : KX) (fr : Fr) h3 h9 hk => t_loop (base := base) (ov := ov) (nx := nx + 1) (N := N) (l := l) (B := Id.of nx) K' 16 0 loopFuel fr rfl (by unfold loopFuel; omega) h3 h9 hk
  have main2 := fun (K' : KX) (fr : Fr) h3 h27 h28 h29 h6 hk => s_loop (base := base) (ov := ov.set (Id.of nx) (some (.cells 16 (.flat (tab 16)) true))) (nx := nx + 1) (N := N) (l := l) (B := Id.of nx) (b := b) (off := off) (len := len) (cap := cap) (ex := ex) (m := m) (r := r) (q := q) K' hlen
    (by rw [look_set, if_neg hne]; exact hb) hm (by rw [look_set, if_pos rfl]) bs 0 loopFuel fr 4294967295 (by omega) (by unfold loopFuel; omega) (fun j c hj => by rw [Nat.zero_add]; exact hbs j c hj) h3 h27 h28 h29 h6 hk
  generalize hlast : code cx (exec cx N) (c2 (c2 (c2 (c2 (c2 ob))))) = last at fin ⊢
  generalize hloop1 : code cx (exec cx N) l1 = lp1 at main1 ⊢
  generalize hloop3 : code cx (exec cx N) l3 = lp3 at main2 ⊢
  simp only [f1, f2, ob, Tryz.f127, Option.getD_some, c1, c2, code_region, cRegion_plain]
  simp (decide := true) only [opsK_yes, opsK_nil, wantA_eq, opR_move, opR_assign, opR_alloc, moveR, allocR, sArr, zArr, cellsK, zl, forceL_eq, newC, hab, forceId_eq, forceN_eq, Tr.setK_eq, evK_eq, evS, putK_some, get_set_if, if_false, AV.ofValue, AV.ofCell]
  refine main1 _ _ ?_ ?_ (fun fr' h3 h0 => ?_)
  · simp (decide := true) only [get_set_if, if_true, if_false]
  · simp (decide := true) only [get_set_if, if_true, if_false]; rfl
  · have h0' : fr'.get (Id.of 0) = some (.sl b off len cap 1 ex) := by
      rw [h0]; simp (decide := true) only [get_set_if, if_true, if_false]
    simp (decide := true) only [opR_call, callR, evL_eq, List.map, builtinK, a0, lenK, uSl, forceN_eq, evS, get_set_if, if_true, if_false, Option.getD_some, h0']
    refine main2 _ _ ?_ ?_ ?_ ?_ ?_ (fun fr2 h6 => fin fr2 _ _ rfl rfl h6)
    · simp (decide := true) only [get_set_if, if_false, h3]
    · simp (decide := true) only [get_set_if, if_true, if_false]
    · simp (decide := true) only [get_set_if, if_true, if_false]
    · simp (decide := true) only [get_set_if, if_true, if_false]; rfl
    · simp (decide := true) only [get_set_if, if_true, if_false]
end
noncomputable def halfK (s : Int) (k : Int → Ans) : Ans := forceN (a32 s 15) fun i => forceI (.ofNat (x32 (s.fdiv (2 ^ (min 4 32))) (ent i))) k
theorem halfK_eq (s : Int) (k : Int → Ans) : halfK s k = k (half s) := by simp only [halfK, forceN_eq, forceI_eq, half]
noncomputable def sumK : List Nat → Int → (Int → Ans) → Ans
  | [], s, k => k s
  | c :: bs, s, k => forceI (.ofNat (x32 s (wrapI .u32 (.ofNat c)))) fun s => halfK s fun s => halfK s fun s => sumK bs s k
theorem sumK_eq (bs : List Nat) (s : Int) (k : Int → Ans) : sumK bs s k = k (bs.foldl byteS s) := by
  induction bs generalizing s with
  | nil => rfl
  | cons c bs ih => simp only [sumK, forceI_eq, halfK_eq, List.foldl_cons, ih, byteS]
noncomputable def sumS : Summ := fun base ov nx args K =>
  match args with
  | [.sl b off len _cap 1 _ex] => match Nat.blt len 90000, absent base ov (Id.of nx) with
    | true, true => readK base ov b off len fun L => match bytesOfCells L with
      | some bs => sumK bs 4294967295 fun s => forceI (flip s) fun s => forceL (tab 16) fun t => forceId (Id.of nx) fun B => Tr.setK (some (.cells 16 (.flat t) true)) ov B fun ov => forceN (nx + 1) fun nx => K (.int .u32 s) ov nx
      | none => .bad "sumS"
    | _, _ => .bad "sumS"
  | _ => .bad "sumS"
/-- THE SUMMARY. -/
theorem summ (hC : CtxOK cx) : SummOK cx.P 127 sumS := by
  refine summ_of_run2 hC (n := 1) ?_
  intro base ov nx args K l ρ w args' hh ha hs
  unfold sumS at hs
  split at hs
  · rename_i b off len cap ex
    split at hs
    · rename_i hc hab
      have hc : len < 90000 := by simpa using hc
      obtain ⟨A⟩ := args'
      replace ha : VRL ρ [.sl b off len cap 1 ex] A := ha
      obtain ⟨e, he⟩ : ∃ e, ρ b = some e := by
        cases ha with
        | cons hx _ => cases hx with
          | sl he _ _ _ _ => exact ⟨_, he⟩
      obtain ⟨m, r, q, L, h1, h2, h3, h4, h5⟩ := readK_abs hh he hs
      split at h5
      · rename_i bs hbs
        rw [sumK_eq, forceI_eq, forceL_eq, forceId_eq, Tr.setK_eq, forceN_eq] at h5
        obtain ⟨q1, q2⟩ := bytesOfCells_spec hbs
        refine sum_run (N := 0) hc (by omega) h1 h2 (fun j c hj => ?_) hab h5
        have hlt : j < bs.length := (List.getElem?_eq_some_iff.1 hj).1
        obtain ⟨v, v1, v2⟩ := h4 j (by omega)
        obtain ⟨x, x1, _, x3⟩ := q2 j v v1
        rw [hj] at x1
        cases x1
        rw [v2, x3]
      · exact (not_sat_bad h5).elim
    · exact (not_sat_bad hs).elim
  · exact (not_sat_bad hs).elim
end KSum
end Go.Ab
