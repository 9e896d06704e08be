/- The summary of num.Diff, of two as long as one another: the first place at which they differ, and the one behind the last. -/
import Derived.Test.YtkgbcmkpgjaggaaGreatDoorMachineE
import Derived.Test.YtkgbcmkpgjaggaaGreatDoorProg
namespace Go.Ab
open Go.RowKit Go.Proofs
namespace KDiff
noncomputable def cx : Ctx := { P := Tryz.prog, S := fun _ => none, J := fun _ => false }
noncomputable def ob : Code := Tryz.f302.body.getD .skip
def c1 : Code → Code
  | .seq a _ => a
  | .block _ a => a
  | .loop a => a
  | c => c
def c2 : Code → Code
  | .seq _ b => b
  | c => c
def opsOf : Code → Array Oper
  | .region _ ops _ => ops
  | _ => #[]
noncomputable def lb : Code := c1 (c1 (c2 (c1 (c2 (c2 ob)))))
-- the body of a round: its block
noncomputable def bb : Code := c1 (c1 (c2 (c2 lb)))
noncomputable def rg : Array Oper := opsOf (c1 (c1 (c2 bb)))
theorem ob_eq : ob = .seq (c1 ob) (.seq (c1 (c2 ob)) (.seq (.seq (c1 (c1 (c2 (c2 ob)))) (.block 0 (.loop lb))) (c2 (c2 (c2 ob))))) := id rfl
set_option maxRecDepth 100000
theorem lb_eq : lb = .seq (c1 lb) (.seq (c1 (c2 lb)) (.seq (.block 1 bb) (c2 (c2 (c2 lb))))) := id rfl
theorem bb_eq : bb = .seq (c1 bb) (.seq (.seq (.region 5 rg true) (c2 (c1 (c2 bb)))) (c2 (c2 bb))) := id rfl
theorem plan_good : planGood cx.P rg = true := by decide +kernel
theorem plan_is : planOf cx.P rg = [(0, []), (1, []), (2, []), (3, []), (4, []), (5, []), (6, []), (7, []), (8, []), (9, []), (10, []), (11, []), (12, []), (13, []), (14, []), (15, []), (16, []), (17, [])] := by decide +kernel
theorem uSl : cx.P.underlying 37 = some (.slice 5) := rfl
theorem sByte : szOf cx.P 5 = some 1 := rfl
theorem aByte : aggT cx.P 5 = some false := rfl
noncomputable def stepF (a b i : Nat) (f : Int) : Int := match Nat.beq a b with
  | true => f
  | false => match ltI f 0 with
    | true => .ofNat i
    | false => f
noncomputable def stepL (a b i : Nat) (l : Int) : Int := match Nat.beq a b with
  | true => l
  | false => .ofNat (i + 1)
/-- Both answers. -/
noncomputable def dGo : List Nat → List Nat → Nat → Int → Int → Int × Int
  | a :: xs, b :: bs, i, f, l => dGo xs bs (i + 1) (stepF a b i f) (stepL a b i l)
  | _, _, _, f, l => (f, l)
noncomputable def dGoK : List Nat → List Nat → Nat → Int → Int → (Int → Int → Ans) → Ans
  | a :: xs, b :: bs, i, f, l, k => match Nat.beq a b with
    | true => dGoK xs bs (Nat.succ i) f l k
    | false => forceN (Nat.succ i) fun i' => dGoK xs bs i' (stepF a b i f) (.ofNat i') k
  | _, _, _, f, l, k => k f l
theorem dGoK_eq : ∀ (xs bs : List Nat) (i : Nat) (f l : Int) (k : Int → Int → Ans), dGoK xs bs i f l k = k (dGo xs bs i f l).1 (dGo xs bs i f l).2
  | [], bs, i, f, l, k => rfl
  | a :: xs, [], i, f, l, k => rfl
  | a :: xs, b :: bs, i, f, l, k => by
    simp only [dGoK, dGo]
    cases h : Nat.beq a b with
    | true => simp only [stepF, stepL, h, Nat.succ_eq_add_one]; exact dGoK_eq xs bs (i + 1) f l k
    | false => simp only [forceN_eq, Nat.succ_eq_add_one]; rw [dGoK_eq]; simp only [stepL, h]
noncomputable def diffS : Summ := fun base ov nx args K =>
  match args with
  | [.sl a offa len _capa 1 _exa, .sl b offb len' _capb 1 _exb] => match Nat.blt len 90000 && Nat.beq len len' with
    | true => readK base ov a offa len fun L => readK base ov b offb len fun M => match bytesOfCells L, bytesOfCells M with
      | some xs, some ys => dGoK xs ys 0 (-1) (-1) fun f l => forceI f fun f => forceI l fun l => K (.tup [.int .i64 f, .int .i64 l]) ov nx
      | _, _ => .bad "diffS"
    | false => .bad "diffS"
  | _ => .bad "diffS"
section
variable {base ov : Hp} {nx N : Nat} {fr : Fr} {a b : Id} {offa offb len capa capb : Nat} {exa exb : Bool} {ma mb : Nat} {ra rb : Rows} {qa qb : Bool} {l : List Out}
theorem iter_run {i x y : Nat} {f g : Int} (K : KX) (hlen : len < 90000) (hi : i < len) (ha : look base ov a = some (.cells ma ra qa)) (hma : offa + len ≤ ma) (hx : ra.getR (offa + i) = some (.int .u8 (.ofNat x)))
    (hb : look base ov b = some (.cells mb rb qb)) (hmb : offb + len ≤ mb) (hy : rb.getR (offb + i) = some (.int .u8 (.ofNat y)))
    (h0 : fr.get (Id.of 0) = some (.sl a offa len capa 1 exa)) (h1 : fr.get (Id.of 1) = some (.sl b offb len capb 1 exb)) (h13 : fr.get (Id.of 13) = some (.int .i64 (.ofNat len))) (h14 : fr.get (Id.of 14) = some (.int .i64 (.ofNat i)))
    (h6 : fr.get (Id.of 6) = some (.int .i64 f)) (h7 : fr.get (Id.of 7) = some (.int .i64 g))
    (h : ∀ fr', fr'.get (Id.of 0) = some (.sl a offa len capa 1 exa) → fr'.get (Id.of 1) = some (.sl b offb len capb 1 exb) → fr'.get (Id.of 13) = some (.int .i64 (.ofNat len)) → fr'.get (Id.of 14) = some (.int .i64 (.ofNat (i + 1))) →
      fr'.get (Id.of 6) = some (.int .i64 (stepF x y i f)) → fr'.get (Id.of 7) = some (.int .i64 (stepL x y i g)) → Sat (K .normal fr' ov nx) l) :
    Sat (code cx (exec cx N) lb base none 43 fr ov nx K) l := by
  have hlt : ltI (Int.ofNat i) (Int.ofNat len) = true := by rw [ltI_eq]; simp; omega
  have hnn : ltI (Int.ofNat len) (Int.ofNat len) = false := by rw [ltI_eq]; simp
  have hadd : wrapI .i64 (addI (Int.ofNat i) 1) = Int.ofNat (i + 1) := by
    have e : addI (Int.ofNat i) 1 = Int.ofNat (i + 1) := rfl
    rw [e, wrapI_small]
    rw [wrap_i64]
    have : Int.ofNat (i + 1) = ((i + 1 : Nat) : Int) := rfl
    rw [this]; split <;> omega
  have ga : Nat.blt (offa + i * 1) ma = true := by simp; omega
  have gb : Nat.blt (offb + i * 1) mb = true := by simp; omega
  have g1 : Nat.blt i len = true := by simpa using hi
  have b1 : Nat.beq 1 1 = true := rfl
  have hx : ra.getR (offa + i * 1) = some (.int .u8 (.ofNat x)) := by rw [Nat.mul_one]; exact hx
  have hy : rb.getR (offb + i * 1) = some (.int .u8 (.ofNat y)) := by rw [Nat.mul_one]; exact hy
  have a0 : (#[37] : Array TypeId)[0]? = some 37 := rfl
  have heq : eqI (Int.ofNat x) (Int.ofNat y) = Nat.beq x y := rfl
  rw [lb_eq]
  simp only [code_seq (x := c1 lb), code_seq (x := c1 (c2 lb)), code_seq (x := .block 1 bb), code_block, cSeq_eq]
  rw [bb_eq]
  simp only [code_seq, code_region, cSeq_eq, cBlock_eq, cRegion_draw plan_good plan_is]
  simp only [rg, bb, lb, ob, Tryz.f302, Option.getD_some, c1, c2, opsOf, code_region, code_cond, code_exit, code_skip, cCond, cExit_eq, cRegion_plain, code_seq, cSeq_eq]
  simp (decide := true) only [opsK_yes, opsK_nil, wantA_eq, opR_move, opR_assign, opR_binOp, moveR, binOpR, binR_lss, lss_int, hlt, evK_eq, evS, putK_some, get_set_if, if_true, if_false, Option.getD_some, h13, h14]
  simp (decide := true) only [drawQ2, drawK_nil, opAt_eq, kindOf_eq, isQ_Q, wantA_eq, valK_eq, List.getElem?_toArray, List.getElem?_cons_zero, List.getElem?_cons_succ, Option.bind_some, Option.getD_some, opR_move, opR_binOp, opR_call, opR_indexAddr, opR_load, opR_pick, moveR, evK_eq, evS, putK_some, get_set_if, if_true, if_false, h0, h1, h14,
    callR, evL_eq, List.map, builtinK, a0, lenK, uSl, sByte, forceN_eq, maxMin, ikEq_self, hnn, binOpR, binR_lss, lss_int, hlt, indexAddrR, g1, loadR, loadK, aByte, readOneK, ha, hb, ga, gb, hx, hy, binR_eql, eql_int, heq, pickR, AV.ofValue, AV.ofCell]
  cases hxy : Nat.beq x y with
  | true =>
    have s1 : stepF x y i f = f := by simp only [stepF, hxy]
    have s2 : stepL x y i g = g := by simp only [stepL, hxy]
    rw [s1, s2] at h
    simp (decide := true) only [binR_add, add_int, hadd]
    refine h _ ?_ ?_ ?_ ?_ ?_ ?_
    · simp (decide := true) only [get_set_if, if_false, h0]
    · simp (decide := true) only [get_set_if, if_false, h1]
    · simp (decide := true) only [get_set_if, if_false, h13]
    · simp (decide := true) only [get_set_if, if_true, if_false]
    · simp (decide := true) only [get_set_if, if_false, h6]
    · simp (decide := true) only [get_set_if, if_false, h7]
  | false =>
    have s2 : stepL x y i g = Int.ofNat (i + 1) := by simp only [stepL, hxy]
    rw [s2] at h
    cases hf : ltI f 0 with
    | true =>
      have s1 : stepF x y i f = Int.ofNat i := by simp only [stepF, hxy, hf]
      rw [s1] at h
      simp (decide := true) only [lss_int, hf, binR_add, add_int, hadd, Option.getD_some, h6]
      refine h _ ?_ ?_ ?_ ?_ ?_ ?_
      · simp (decide := true) only [get_set_if, if_false, h0]
      · simp (decide := true) only [get_set_if, if_false, h1]
      · simp (decide := true) only [get_set_if, if_false, h13]
      · simp (decide := true) only [get_set_if, if_true, if_false]
      · simp (decide := true) only [get_set_if, if_true, if_false]
      · simp (decide := true) only [get_set_if, if_true, if_false]
    | false =>
      have s1 : stepF x y i f = f := by simp only [stepF, hxy, hf]
      rw [s1] at h
      simp (decide := true) only [lss_int, hf, binR_add, add_int, hadd, Option.getD_some, h6]
      refine h _ ?_ ?_ ?_ ?_ ?_ ?_
      · simp (decide := true) only [get_set_if, if_false, h0]
      · simp (decide := true) only [get_set_if, if_false, h1]
      · simp (decide := true) only [get_set_if, if_false, h13]
      · simp (decide := true) only [get_set_if, if_true, if_false]
      · simp (decide := true) only [get_set_if, if_false, h6]
      · simp (decide := true) only [get_set_if, if_true, if_false]
theorem end_run (K : KX) (h13 : fr.get (Id.of 13) = some (.int .i64 (.ofNat len))) (h14 : fr.get (Id.of 14) = some (.int .i64 (.ofNat len))) (h : ∀ fr', fr'.get (Id.of 6) = fr.get (Id.of 6) → fr'.get (Id.of 7) = fr.get (Id.of 7) → Sat (K (.exit 0) fr' ov nx) l) :
    Sat (code cx (exec cx N) lb base none 43 fr ov nx K) l := by
  have hlt : ltI (Int.ofNat len) (Int.ofNat len) = false := by rw [ltI_eq]; simp
  rw [lb_eq]
  simp only [code_seq (x := c1 lb), code_seq (x := c1 (c2 lb)), cSeq_eq]
  generalize code cx (exec cx N) (.seq (.block 1 bb) (c2 (c2 (c2 lb)))) = rest
  simp only [lb, ob, Tryz.f302, Option.getD_some, c1, c2]
  simp only [code_region, code_cond, code_exit, code_skip, cCond, cExit, cRegion_plain]
  simp (decide := true) only [opsK_yes, opsK_nil, wantA_eq, opR_binOp, binOpR, binR_lss, lss_int, hlt, evK_eq, evS, putK_some, get_set_if, if_true, Option.getD_some, h13, h14]
  exact h _ (by simp (decide := true) only [get_set_if, if_false]) (by simp (decide := true) only [get_set_if, if_false])
theorem loop_run (K : KX) (hlen : len < 90000) (ha : look base ov a = some (.cells ma ra qa)) (hma : offa + len ≤ ma) (hb : look base ov b = some (.cells mb rb qb)) (hmb : offb + len ≤ mb) : ∀ (xs ys : List Nat) (i fuel : Nat) (fr : Fr) (f g : Int), xs.length = ys.length → i + xs.length = len → xs.length < fuel →
    (∀ j c, xs[j]? = some c → ra.getR (offa + (i + j)) = some (.int .u8 (.ofNat c))) → (∀ j c, ys[j]? = some c → rb.getR (offb + (i + j)) = some (.int .u8 (.ofNat c))) →
    fr.get (Id.of 0) = some (.sl a offa len capa 1 exa) → fr.get (Id.of 1) = some (.sl b offb len capb 1 exb) → fr.get (Id.of 13) = some (.int .i64 (.ofNat len)) → fr.get (Id.of 14) = some (.int .i64 (.ofNat i)) → fr.get (Id.of 6) = some (.int .i64 f) → fr.get (Id.of 7) = some (.int .i64 g) →
    (∀ fr', fr'.get (Id.of 6) = some (.int .i64 (dGo xs ys i f g).1) → fr'.get (Id.of 7) = some (.int .i64 (dGo xs ys i f g).2) → Sat (K (.exit 0) fr' ov nx) l) →
      Sat (cLoop fuel (code cx (exec cx N) lb) base none 43 fr ov nx K) l := by
  intro xs
  induction xs with
  | nil =>
    intro ys i fuel fr f g hl hi hf hx hy h0 h1 h13 h14 h6 h7 h
    obtain ⟨fuel, rfl⟩ : ∃ k, fuel = k + 1 := ⟨fuel - 1, by simp at hf; omega⟩
    rw [cLoop_succ]
    have hi : i = len := by simpa using hi
    subst hi
    obtain rfl : ys = [] := List.eq_nil_of_length_eq_zero (by simpa using hl.symm)
    exact end_run _ h13 h14 fun fr' e6 e7 => h fr' (e6.trans h6) (e7.trans h7)
  | cons x xs ih =>
    intro ys i fuel fr f g hl hi hf hx hy h0 h1 h13 h14 h6 h7 h
    cases ys with
    | nil => cases hl
    | cons y ys =>
      simp only [List.length_cons] at hi hf hl
      obtain ⟨fuel, rfl⟩ : ∃ k, fuel = k + 1 := ⟨fuel - 1, by omega⟩
      rw [cLoop_succ]
      refine iter_run _ hlen (by omega) ha hma (hx 0 x rfl) hb hmb (hy 0 y rfl) h0 h1 h13 h14 h6 h7 fun fr' a0 a1 a13 a14 a6 a7 => ?_
      refine ih ys (i + 1) fuel fr' _ _ (by omega) (by omega) (by omega) (fun j c hj => ?_) (fun j c hj => ?_) a0 a1 a13 a14 a6 a7 h
      · have := hx (j + 1) c (by simpa using hj)
        rw [show i + 1 + j = i + (j + 1) by omega]
        exact this
      · have := hy (j + 1) c (by simpa using hj)
        rw [show i + 1 + j = i + (j + 1) by omega]
        exact this
theorem diff_run {xs ys : List Nat} {K : KV} (hlen : len < 90000) (hxl : xs.length = len) (hyl : ys.length = len) (ha : look base ov a = some (.cells ma ra qa)) (hma : offa + len ≤ ma) (hb : look base ov b = some (.cells mb rb qb)) (hmb : offb + len ≤ mb)
    (hx : ∀ (j : Nat) c, xs[j]? = some c → ra.getR (offa + j) = some (.int .u8 (.ofNat c))) (hy : ∀ (j : Nat) c, ys[j]? = some c → rb.getR (offb + j) = some (.int .u8 (.ofNat c)))
    (h : Sat (K (.tup [.int .i64 (dGo xs ys 0 (-1) (-1)).1, .int .i64 (dGo xs ys 0 (-1) (-1)).2]) ov nx) l) : Sat (callK cx (exec cx (N + 1)) base 302 [.sl a offa len capa 1 exa, .sl b offb len capb 1 exb] ov nx K) l := by
  rw [callK_body (fn := Tryz.f302) rfl rfl rfl (Nat.le_of_ble_eq_true rfl)]
  unfold bodyK
  have hb0 : Tryz.f302.body = some ob := rfl
  rw [hb0]
  simp only [argFrameK_eq, argFrame]
  rw [ob_eq]
  have a0 : (#[37] : Array TypeId)[0]? = some 37 := rfl
  have hnn : ltI (Int.ofNat len) (Int.ofNat len) = false := by rw [ltI_eq]; simp
  simp only [exec_succ (n := N), code_seq (x := c1 ob), code_seq (x := c1 (c2 ob)), code_seq (x := .seq (c1 (c1 (c2 (c2 ob)))) (.block 0 (.loop lb))), code_seq (x := c1 (c1 (c2 (c2 ob)))), code_block, code_loop, cSeq_eq]
  have fin : ∀ fr', fr'.get (Id.of 6) = some (.int .i64 (dGo xs ys 0 (-1) (-1)).1) → fr'.get (Id.of 7) = some (.int .i64 (dGo xs ys 0 (-1) (-1)).2) → Sat (code cx (exec cx N) (c2 (c2 (c2 ob))) base none 43 fr' ov nx (leaveK cx base Tryz.f302 K)) l := by
    intro fr' h6 h7
    simp only [ob, Tryz.f302, Option.getD_some, c2]
    simp (decide := true) only [code_seq, code_region, code_ret, cSeq, cExit, cRegion_plain, opsK_yes, opsK_nil, wantA_eq, opR_move, opR_assign, moveR, evK_eq, evS, putK_some, get_set_if, if_true, if_false, Option.getD_some, h6, h7, leaveK, resultsK, resultsL, resultK, Tr.getK_eq]
    exact h
  have main : ∀ (fr : Fr) (K' : KX), fr.get (Id.of 0) = some (.sl a offa len capa 1 exa) → fr.get (Id.of 1) = some (.sl b offb len capb 1 exb) → fr.get (Id.of 13) = some (.int .i64 (.ofNat len)) → fr.get (Id.of 14) = some (.int .i64 (.ofNat 0)) → fr.get (Id.of 6) = some (.int .i64 (-1)) → fr.get (Id.of 7) = some (.int .i64 (-1)) →
      (∀ fr', fr'.get (Id.of 6) = some (.int .i64 (dGo xs ys 0 (-1) (-1)).1) → fr'.get (Id.of 7) = some (.int .i64 (dGo xs ys 0 (-1) (-1)).2) → Sat (K' (.exit 0) fr' ov nx) l) → Sat (cLoop loopFuel (code cx (exec cx N) lb) base none 43 fr ov nx K') l := by
    intro fr K' h0 h1 h13 h14 h6 h7 hk
    exact loop_run (exa := exa) (exb := exb) (capa := capa) (capb := capb) _ hlen ha hma hb hmb xs ys 0 loopFuel fr _ _ (by omega) (by omega) (by unfold loopFuel; omega) (fun j c hj => by rw [Nat.zero_add]; exact hx j c hj) (fun j c hj => by rw [Nat.zero_add]; exact hy j c hj) h0 h1 h13 h14 h6 h7 hk
  generalize hlast : code cx (exec cx N) (c2 (c2 (c2 ob))) = last at fin main ⊢
  generalize hloop : code cx (exec cx N) lb = lp at main ⊢
  simp only [ob, Tryz.f302, Option.getD_some, c1, c2, code_region, cRegion_plain]
  simp (decide := true) only [opsK_yes, opsK_nil, wantA_eq, opR_move, opR_assign, opR_call, moveR, callR, evL_eq, List.map, builtinK, maxMin, ikEq_self, hnn, a0, lenK, uSl, forceN_eq, evK_eq, evS, putK_some, get_set_if, if_true, if_false, Option.getD_some, AV.ofValue, AV.ofCell, cBlock_eq]
  refine main _ _ ?_ ?_ ?_ ?_ ?_ ?_ fin
  · simp (decide := true) only [get_set_if, if_true, if_false]
  · simp (decide := true) only [get_set_if, if_true, if_false]
  · simp (decide := true) only [get_set_if, if_true, if_false]
  · simp (decide := true) only [get_set_if, if_true, if_false]; rfl
  · simp (decide := true) only [get_set_if, if_true, if_false]
  · simp (decide := true) only [get_set_if, if_true, if_false]
end
/-- THE SUMMARY. -/
theorem summ (hC : CtxOK cx) : SummOK cx.P 302 diffS := by
  refine summ_of_run2 hC (n := 1) ?_
  intro base ov nx args K l ρ w args' hh ha hs
  unfold diffS at hs
  split at hs
  · rename_i a offa len capa exa b offb len' capb exb
    split at hs
    · rename_i hc
      simp only [Bool.and_eq_true, Nat.blt_eq, Nat.beq_eq] at hc
      obtain ⟨hc, rfl⟩ := hc
      obtain ⟨A⟩ := args'
      replace ha : VRL ρ [.sl a offa len capa 1 exa, .sl b offb len capb 1 exb] A := ha
      obtain ⟨⟨ea, hea⟩, ⟨eb, heb⟩⟩ : (∃ e, ρ a = some e) ∧ (∃ e, ρ b = some e) := by
        cases ha with
        | cons hx ht => cases ht with
          | cons hy _ =>
            cases hx with
            | sl he _ _ _ _ => cases hy with
              | sl he2 _ _ _ _ => exact ⟨⟨_, he⟩, ⟨_, he2⟩⟩
      obtain ⟨m, r, q, L, h1, h2, h3, h4, h5⟩ := readK_abs hh hea hs
      obtain ⟨m2, r2, q2, L2, g1, g2, g3, g4, g5⟩ := readK_abs hh heb h5
      split at g5
      · rename_i xs ys hxs hys
        rw [dGoK_eq, forceI_eq, forceI_eq] at g5
        obtain ⟨p1, p2⟩ := bytesOfCells_spec hxs
        obtain ⟨p3, p4⟩ := bytesOfCells_spec hys
        refine diff_run (N := 0) hc (by omega) (by omega) h1 h2 g1 g2 (fun j c hj => ?_) (fun j c hj => ?_) g5
        · have hlt : j < xs.length := (List.getElem?_eq_some_iff.1 hj).1
          obtain ⟨v, v1, v2⟩ := h4 j (by omega)
          obtain ⟨x, x1, _, x3⟩ := p2 j v v1
          rw [hj] at x1
          cases x1
          rw [v2, x3]
        · have hlt : j < ys.length := (List.getElem?_eq_some_iff.1 hj).1
          obtain ⟨v, v1, v2⟩ := g4 j (by omega)
          obtain ⟨x, x1, _, x3⟩ := p4 j v v1
          rw [hj] at x1
          cases x1
          rw [v2, x3]
      · exact (not_sat_bad g5).elim
    · exact (not_sat_bad hs).elim
  · exact (not_sat_bad hs).elim
end KDiff
end Go.Ab
