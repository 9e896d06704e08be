/- The summary of num.Sum: bytes' sum, half a byte at a time. -/
import Derived.Test.YtkgbcmkpgjaggaaGreatDoorMachineE
import Derived.Test.YtkgbcmkpgjaggaaGreatDoorProg
namespace Go.Ab
open Go.RowKit Go.Proofs
namespace KSum
noncomputable def cx : Ctx := { P := Tryz.prog, S := fun _ => none, J := fun _ => false }
noncomputable def ob : Code := Tryz.f166.body.getD .skip
def c1 : Code → Code
  | .seq a _ => a
  | .block _ a => a
  | .loop a => a
  | c => c
def c2 : Code → Code
  | .seq _ b => b
  | c => c
-- the table's loop, its inner one, the bytes'
noncomputable def f1 : Code := c1 (c2 (c2 ob))
noncomputable def l1 : Code := c1 (c1 (c2 f1))
noncomputable def b1 : Code := c1 (c1 (c2 (c2 l1)))
noncomputable def fi : Code := c1 (c2 (c2 b1))
noncomputable def l2 : Code := c1 (c1 (c2 fi))
noncomputable def f2 : Code := c1 (c2 (c2 (c2 (c2 ob))))
noncomputable def l3 : Code := c1 (c1 (c2 f2))
theorem ob_eq : ob = .seq (c1 ob) (.seq (c1 (c2 ob)) (.seq (.seq (c1 f1) (.block 0 (.loop l1))) (.seq (c1 (c2 (c2 (c2 ob)))) (.seq (.seq (c1 f2) (.block 4 (.loop l3))) (c2 (c2 (c2 (c2 (c2 ob))))))))) := id rfl
noncomputable def b5 : Code := c1 (c1 (c2 (c2 l3)))
theorem l3_eq : l3 = .seq (c1 l3) (.seq (c1 (c2 l3)) (.seq (.block 5 b5) (c2 (c2 (c2 l3))))) := id rfl
theorem b5_eq : b5 = .seq (c1 b5) (.seq (c1 (c2 b5)) (.seq (c1 (c2 (c2 b5))) (c2 (c2 (c2 b5))))) := id rfl
theorem l1_eq : l1 = .seq (c1 l1) (.seq (c1 (c2 l1)) (.seq (.block 1 b1) (c2 (c2 (c2 l1))))) := id rfl
theorem b1_eq : b1 = .seq (c1 b1) (.seq (c1 (c2 b1)) (.seq (.seq (c1 fi) (.block 2 (.loop l2))) (c2 (c2 (c2 b1))))) := id rfl
set_option maxRecDepth 100000
theorem uSl : cx.P.underlying 37 = some (.slice 5) := rfl
theorem uInt : cx.P.underlying 3 = some (.int .i64) := rfl
theorem uByte : cx.P.underlying 5 = some (.int .u8) := rfl
theorem uU : cx.P.underlying 282 = some (.int .u32) := rfl
theorem uArr : cx.P.underlying 389 = some (.array 16 282) := rfl
theorem sArr : szOf cx.P 389 = some 16 := rfl
theorem sByte : szOf cx.P 5 = some 1 := rfl
theorem sU : szOf cx.P 282 = some 1 := rfl
theorem aByte : aggT cx.P 5 = some false := rfl
theorem aU : aggT cx.P 282 = some false := rfl
def zeros : List AV := repL 16 [.int .u32 0]
theorem zArr : zeroV cx.P 389 = some (.agg zeros) := rfl
/-! ### What it computes -/
noncomputable def crc1 (s : Int) : Int := .ofNat (x32 (s.fdiv (2 ^ (min 1 32))) (wrapI .u32 (3988292384 * .ofNat (a32 s 1))))
noncomputable def ent (i : Nat) : Int := crc1 (crc1 (crc1 (crc1 (wrapI .u32 (.ofNat i)))))
noncomputable def tab : Nat → List AV
  | 0 => zeros
  | i + 1 => lput (tab i) i [.int .u32 (ent i)]
theorem tab_len (i : Nat) : (tab i).length = 16 := by
  induction i with
  | zero => rfl
  | succ i ih => simp [tab, lput_length, ih]
theorem tab_get : ∀ (n j : Nat), n ≤ 16 → j < n → (tab n)[j]? = some (.int .u32 (ent j))
  | n + 1, j, hn, hj => by
    simp only [tab]
    rw [lput_get _ _ _ _ (by simp [tab_len]; omega)]
    by_cases e : j = n
    · subst e; simp
    · rw [if_neg (by simp; omega)]
      exact tab_get n j (by omega) (by omega)
noncomputable def half (s : Int) : Int := .ofNat (x32 (s.fdiv (2 ^ (min 4 32))) (ent (a32 s 15)))
noncomputable def byteS (s : Int) (c : Nat) : Int := half (half (.ofNat (x32 s (wrapI .u32 (.ofNat c)))))
theorem a32_15 (s : Int) : a32 s 15 < 16 := by
  unfold a32
  rw [BitVec.toNat_and]
  have : (BitVec.ofInt 32 15).toNat = 15 := by decide
  rw [this]
  exact Nat.lt_succ_of_le Nat.and_le_right
section
variable {base ov : Hp} {nx N : Nat} {fr : Fr} {b : Id} {off len cap : Nat} {ex : Bool} {m : Nat} {r : Rows} {q : Bool} {l : List Out}
/-- A round of the inner loop. -/
theorem in_iter {i : Nat} {s : Int} (K : KX) (hi : i < 4) (h14 : fr.get (Id.of 14) = some (.int .i64 (.ofNat i))) (h5 : fr.get (Id.of 5) = some (.int .u32 s))
    (h : ∀ fr', fr'.get (Id.of 14) = some (.int .i64 (.ofNat (i + 1))) → fr'.get (Id.of 5) = some (.int .u32 (crc1 s)) → (∀ t, t < 10 → t ≠ 5 → fr'.get (Id.of t) = fr.get (Id.of t)) → Sat (K .normal fr' ov nx) l) :
    Sat (code cx (exec cx N) l2 base none 54 fr ov nx K) l := by
  have hlt : ltI (Int.ofNat i) 4 = true := by rw [ltI_eq]; simp; omega
  have hadd : wrapI .i64 (addI (Int.ofNat i) 1) = Int.ofNat (i + 1) := by
    have e : addI (Int.ofNat i) 1 = Int.ofNat (i + 1) := rfl
    rw [e, wrapI_small]
    rw [wrap_i64]
    have : Int.ofNat (i + 1) = ((i + 1 : Nat) : Int) := rfl
    rw [this]; split <;> omega
  simp only [l2, fi, b1, l1, f1, ob, Tryz.f166, Option.getD_some, c1, c2]
  simp only [code_seq, code_region, code_cond, code_block, code_exit, code_skip, cSeq, cCond, cBlock, cExit, cRegion_plain]
  simp (decide := true) only [opsK_yes, opsK_nil, wantA_eq, opR_move, opR_assign, opR_binOp, moveR, binOpR, binR_lss, lss_int, hlt, binR_shr, shr_one, binR_and, binR_xor, and_u32, xor_u32, binR_mul, mul_int, binR_add, add_int, hadd, evK_eq, evS, putK_some, get_set_if, if_true, if_false, Option.getD_some, h14, h5, AV.ofValue, AV.ofCell]
  refine h _ ?_ ?_ ?_
  · simp (decide := true) only [get_set_if, if_true, if_false]
  · simp (decide := true) only [get_set_if, if_true, if_false]; rfl
  · intro t ht hne
    simp only [get_set_if]
    repeat rw [if_neg (by omega)]
theorem in_end (K : KX) (h14 : fr.get (Id.of 14) = some (.int .i64 (.ofNat 4))) (h : ∀ fr', fr'.get (Id.of 5) = fr.get (Id.of 5) → (∀ t, t < 10 → fr'.get (Id.of t) = fr.get (Id.of t)) → Sat (K (.exit 2) fr' ov nx) l) :
    Sat (code cx (exec cx N) l2 base none 54 fr ov nx K) l := by
  have hlt : ltI (Int.ofNat 4) 4 = false := rfl
  simp only [l2, fi, b1, l1, f1, ob, Tryz.f166, Option.getD_some, c1, c2]
  simp only [code_seq, code_region, code_cond, code_block, code_exit, code_skip, cSeq, cCond, cBlock, cExit, cRegion_plain]
  simp (decide := true) only [opsK_yes, opsK_nil, wantA_eq, opR_binOp, binOpR, binR_lss, lss_int, hlt, evK_eq, evS, putK_some, get_set_if, if_true, if_false, Option.getD_some, h14, AV.ofValue, AV.ofCell]
  refine h _ (by simp (decide := true) only [get_set_if, if_false]) ?_
  intro t ht
  simp only [get_set_if]
  rw [if_neg (by omega)]
def crcN : Nat → Int → Int → Prop
  | 0, s, u => s = u
  | n + 1, s, u => crcN n (crc1 s) u
theorem in_loop (K : KX) : ∀ (d i fuel : Nat) (fr : Fr) (s u : Int), i + d = 4 → d < fuel → fr.get (Id.of 14) = some (.int .i64 (.ofNat i)) → fr.get (Id.of 5) = some (.int .u32 s) → crcN d s u →
    (∀ fr', fr'.get (Id.of 5) = some (.int .u32 u) → (∀ t, t < 10 → t ≠ 5 → fr'.get (Id.of t) = fr.get (Id.of t)) → Sat (K (.exit 2) fr' ov nx) l) → Sat (cLoop fuel (code cx (exec cx N) l2) base none 54 fr ov nx K) l := by
  intro d
  induction d with
  | zero =>
    intro i fuel fr s u hi hf h14 h5 hc h
    obtain ⟨fuel, rfl⟩ : ∃ k, fuel = k + 1 := ⟨fuel - 1, by omega⟩
    rw [cLoop_succ]
    have hi : i = 4 := by omega
    subst hi
    have hc : s = u := hc
    subst hc
    exact in_end _ h14 fun fr' e5 et => h fr' (e5.trans h5) fun t ht _ => et t ht
  | succ d ih =>
    intro i fuel fr s u hi hf h14 h5 hc h
    obtain ⟨fuel, rfl⟩ : ∃ k, fuel = k + 1 := ⟨fuel - 1, by omega⟩
    rw [cLoop_succ]
    refine in_iter _ (by omega) h14 h5 fun fr' a14 a5 at_ => ?_
    exact ih (i + 1) fuel fr' _ u (by omega) (by omega) a14 a5 hc fun fr2 e5 et => h fr2 e5 fun t ht hne => (et t ht hne).trans (at_ t ht hne)
/-- A round of the table's loop. -/
theorem t_iter {i : Nat} {B : Id} (K : KX) (hi : i < 16) (h3 : fr.get (Id.of 3) = some (.ptr B 0)) (h9 : fr.get (Id.of 9) = some (.int .i64 (.ofNat i))) {ov' : Hp} (hl : look base ov' B = some (.cells 16 (.flat (tab i)) true))
    (h : ∀ fr', fr'.get (Id.of 3) = some (.ptr B 0) → fr'.get (Id.of 9) = some (.int .i64 (.ofNat (i + 1))) → fr'.get (Id.of 0) = fr.get (Id.of 0) → Sat (K .normal fr' (ov'.set B (some (.cells 16 (.flat (tab (i + 1))) true))) nx) l) :
    Sat (code cx (exec cx N) l1 base none 54 fr ov' nx K) l := by
  have hlt : ltI (Int.ofNat i) 16 = true := by rw [ltI_eq]; simp; omega
  have hadd : wrapI .i64 (addI (Int.ofNat i) 1) = Int.ofNat (i + 1) := by
    have e : addI (Int.ofNat i) 1 = Int.ofNat (i + 1) := rfl
    rw [e, wrapI_small]
    rw [wrap_i64]
    have : Int.ofNat (i + 1) = ((i + 1 : Nat) : Int) := rfl
    rw [this]; split <;> omega
  have main := fun (K' : KX) (fr : Fr) (h14 : fr.get (Id.of 14) = some (.int .i64 (.ofNat 0))) (h5 : fr.get (Id.of 5) = some (.int .u32 (wrapI .u32 (.ofNat i)))) hk =>
    in_loop (base := base) (ov := ov') (nx := nx) (N := N) (l := l) K' 4 0 loopFuel fr (wrapI .u32 (.ofNat i)) (ent i) rfl (by unfold loopFuel; omega) h14 h5 rfl hk
  rw [l1_eq]
  simp only [code_seq (x := c1 l1), code_seq (x := c1 (c2 l1)), code_seq (x := .block 1 b1), code_block, cSeq_eq, cBlock_eq]
  rw [b1_eq]
  simp only [code_seq (x := c1 b1), code_seq (x := c1 (c2 b1)), code_seq (x := .seq (c1 fi) (.block 2 (.loop l2))), code_seq (x := c1 fi), code_block, code_loop, cSeq_eq, cBlock_eq]
  generalize hloop : code cx (exec cx N) l2 = lp at main ⊢
  simp only [fi, b1, l1, f1, ob, Tryz.f166, Option.getD_some, c1, c2, code_region, code_cond, code_exit, code_skip, cCond, cExit_eq, cRegion_plain]
  simp (decide := true) only [opsK_yes, opsK_nil, wantA_eq, opR_move, opR_assign, opR_binOp, opR_convert, moveR, binOpR, binR_lss, lss_int, hlt, convertR, convert_int _ _ _ _ _ _ _ _ _ uInt uU, evK_eq, evS, putK_some, get_set_if, if_true, if_false, Option.getD_some, h9, AV.ofValue, AV.ofCell]
  refine main _ _ ?_ ?_ (fun fr' h5 hk => ?_)
  · simp (decide := true) only [get_set_if, if_true, if_false]; rfl
  · simp (decide := true) only [get_set_if, if_true, if_false]
  · have h3' : fr'.get (Id.of 3) = some (.ptr B 0) := by
      rw [hk 3 (by decide) (by decide)]; simp (decide := true) only [get_set_if, if_false, h3]
    have h9' : fr'.get (Id.of 9) = some (.int .i64 (.ofNat i)) := by
      rw [hk 9 (by decide) (by decide)]; simp (decide := true) only [get_set_if, if_false, h9]
    have h4' : fr'.get (Id.of 4) = some (.int .i64 (.ofNat i)) := by
      rw [hk 4 (by decide) (by decide)]; simp (decide := true) only [get_set_if, if_true, if_false]
    have h0' : fr'.get (Id.of 0) = fr.get (Id.of 0) := by
      rw [hk 0 (by decide) (by decide)]; simp (decide := true) only [get_set_if, if_false]
    have g1 : Nat.blt i 16 = true := by simpa using hi
    have g2 : Nat.ble (0 + i * 1 + 1) 16 = true := by simp; omega
    have g3 : ∀ v : AV, lenIs [v] 1 = true := fun _ => rfl
    have g4 : (Nat.beq (0 + i * 1) 0 && Nat.beq 1 16) = false := by
      have : Nat.beq 1 16 = false := rfl
      rw [this, Bool.and_false]
    have g5 : 0 + i * 1 = i := by omega
    simp (decide := true) only [Nat.beq, opR_indexAddr, opR_store, indexAddrR, uArr, sU, g1, forceN_eq, storeR, cellsK, writeK, hl, g3, Rows.putK, g5, lputK_eq, Tr.setK_eq, binR_add, add_int, hadd, evK_eq, evS, get_set_if, if_true, if_false, Option.getD_some, h3', h9', h4', h5, putK, Bool.and_false]
    have g6 : Nat.ble (i + 1) 16 = true := by simp; omega
    rw [g6]
    refine h _ ?_ ?_ ?_
    · simp (decide := true) only [get_set_if, if_false, h3']
    · simp (decide := true) only [get_set_if, if_true, if_false]
    · simp (decide := true) only [get_set_if, if_false, h0']
theorem t_end {ov' : Hp} (K : KX) (h9 : fr.get (Id.of 9) = some (.int .i64 (.ofNat 16))) (h : ∀ fr', (∀ t, t < 9 → fr'.get (Id.of t) = fr.get (Id.of t)) → Sat (K (.exit 0) fr' ov' nx) l) :
    Sat (code cx (exec cx N) l1 base none 54 fr ov' nx K) l := by
  have hlt : ltI (Int.ofNat 16) 16 = false := rfl
  rw [l1_eq]
  simp only [code_seq (x := c1 l1), code_seq (x := c1 (c2 l1)), cSeq_eq]
  generalize code cx (exec cx N) (.seq (.block 1 b1) (c2 (c2 (c2 l1)))) = rest
  simp only [l1, f1, ob, Tryz.f166, Option.getD_some, c1, c2]
  simp only [code_region, code_cond, code_exit, code_skip, cCond, cExit, cRegion_plain]
  simp (decide := true) only [opsK_yes, opsK_nil, wantA_eq, opR_binOp, binOpR, binR_lss, lss_int, hlt, evK_eq, evS, putK_some, get_set_if, if_true, Option.getD_some, h9, AV.ofValue, AV.ofCell]
  refine h _ fun t ht => ?_
  simp only [get_set_if]
  rw [if_neg (by omega)]
theorem t_loop {B : Id} (K : KX) : ∀ (d i fuel : Nat) (fr : Fr), i + d = 16 → d < fuel → fr.get (Id.of 3) = some (.ptr B 0) → fr.get (Id.of 9) = some (.int .i64 (.ofNat i)) →
    (∀ fr', fr'.get (Id.of 3) = some (.ptr B 0) → fr'.get (Id.of 0) = fr.get (Id.of 0) → Sat (K (.exit 0) fr' (ov.set B (some (.cells 16 (.flat (tab 16)) true))) nx) l) →
    Sat (cLoop fuel (code cx (exec cx N) l1) base none 54 fr (ov.set B (some (.cells 16 (.flat (tab i)) true))) nx K) l := by
  intro d
  induction d with
  | zero =>
    intro i fuel fr hi hf h3 h9 h
    obtain ⟨fuel, rfl⟩ : ∃ k, fuel = k + 1 := ⟨fuel - 1, by omega⟩
    rw [cLoop_succ]
    have hi : i = 16 := by omega
    subst hi
    exact t_end _ h9 fun fr' et => h fr' ((et 3 (by decide)).trans h3) (et 0 (by decide))
  | succ d ih =>
    intro i fuel fr hi hf h3 h9 h
    obtain ⟨fuel, rfl⟩ : ∃ k, fuel = k + 1 := ⟨fuel - 1, by omega⟩
    rw [cLoop_succ]
    refine t_iter _ (by omega) h3 h9 (by rw [look_set, if_pos rfl]) fun fr' a3 a9 a0 => ?_
    rw [set_set]
    exact ih (i + 1) fuel fr' (by omega) (by omega) a3 a9 fun fr2 e3 e0 => h fr2 e3 (e0.trans a0)
/-- A round over the bytes. -/
theorem s_iter {i c : Nat} {s : Int} {B : Id} (K : KX) (hlen : len < 90000) (hi : i < len) (hb : look base ov b = some (.cells m r q)) (hm : off + len ≤ m) (hc : r.getR (off + i) = some (.int .u8 (.ofNat c))) (hB : look base ov B = some (.cells 16 (.flat (tab 16)) true))
    (h3 : fr.get (Id.of 3) = some (.ptr B 0)) (h27 : fr.get (Id.of 27) = some (.sl b off len cap 1 ex)) (h28 : fr.get (Id.of 28) = some (.int .i64 (.ofNat len))) (h29 : fr.get (Id.of 29) = some (.int .i64 (.ofNat i))) (h6 : fr.get (Id.of 6) = some (.int .u32 s))
    (h : ∀ fr', fr'.get (Id.of 3) = some (.ptr B 0) → fr'.get (Id.of 27) = some (.sl b off len cap 1 ex) → fr'.get (Id.of 28) = some (.int .i64 (.ofNat len)) → fr'.get (Id.of 29) = some (.int .i64 (.ofNat (i + 1))) → fr'.get (Id.of 6) = some (.int .u32 (byteS s c)) → Sat (K .normal fr' ov nx) l) :
    Sat (code cx (exec cx N) l3 base none 54 fr ov nx K) l := by
  have hlt : ltI (Int.ofNat i) (Int.ofNat len) = true := by rw [ltI_eq]; simp; omega
  have hadd : wrapI .i64 (addI (Int.ofNat i) 1) = Int.ofNat (i + 1) := by
    have e : addI (Int.ofNat i) 1 = Int.ofNat (i + 1) := rfl
    rw [e, wrapI_small]
    rw [wrap_i64]
    have : Int.ofNat (i + 1) = ((i + 1 : Nat) : Int) := rfl
    rw [this]; split <;> omega
  have g1 : Nat.blt i len = true := by simpa using hi
  have g2 : Nat.blt (off + i * 1) m = true := by simp; omega
  have b1 : Nat.beq 1 1 = true := rfl
  have hc : r.getR (off + i * 1) = some (.int .u8 (.ofNat c)) := by rw [Nat.mul_one]; exact hc
  have hidx : ∀ s : Int, Nat.blt (a32 s 15) 16 = true := fun s => by rw [Nat.blt_eq]; exact a32_15 s
  have hget : ∀ s : Int, (Rows.flat (tab 16)).getR (0 + a32 s 15 * 1) = some (.int .u32 (ent (a32 s 15))) := fun s => by
    rw [Rows.getR_eq, Nat.zero_add, Nat.mul_one]
    exact tab_get 16 _ (Nat.le_refl _) (a32_15 s)
  have hidx2 : ∀ s : Int, Nat.blt (0 + a32 s 15 * 1) 16 = true := fun s => by
    rw [Nat.zero_add, Nat.mul_one]; exact hidx s
  rw [l3_eq]
  simp only [code_seq (x := c1 l3), code_seq (x := c1 (c2 l3)), code_seq (x := .block 5 b5), code_block, cSeq_eq, cBlock_eq]
  rw [b5_eq]
  simp only [code_seq (x := c1 b5), code_seq (x := c1 (c2 b5)), code_seq (x := c1 (c2 (c2 b5))), cSeq_eq]
  generalize e1 : code cx (exec cx N) (c1 (c2 b5)) = k1
  generalize e2 : code cx (exec cx N) (c1 (c2 (c2 b5))) = k2
  generalize e3 : code cx (exec cx N) (c2 (c2 (c2 b5))) = k3
  generalize e4 : code cx (exec cx N) (c2 (c2 (c2 l3))) = k4
  simp only [b5, l3, f2, ob, Tryz.f166, Option.getD_some, c1, c2, code_region, code_cond, code_exit, code_skip, cCond, cExit_eq, cRegion_plain]
  simp (decide := true) only [opsK_yes, opsK_nil, wantA_eq, opR_assign, opR_binOp, opR_indexAddr, opR_load, moveR, binOpR, binR_lss, lss_int, hlt, indexAddrR, uSl, sByte, g1, forceN_eq, loadR, loadK, aByte, readOneK, hb, g2, hc, evK_eq, evS, putK_some, get_set_if, if_true, if_false, Option.getD_some, h27, h28, h29]
  subst e1
  simp only [b5, l3, f2, ob, Tryz.f166, Option.getD_some, c1, c2, code_region, cRegion_plain]
  simp (decide := true) only [opsK_yes, opsK_nil, wantA_eq, opR_move, opR_assign, opR_binOp, opR_convert, moveR, binOpR, binR_xor, xor_u32, convertR, convert_int _ _ _ _ _ _ _ _ _ uByte uU, evK_eq, evS, putK_some, get_set_if, if_true, if_false, Option.getD_some, h6]
  subst e2
  simp only [b5, l3, f2, ob, Tryz.f166, Option.getD_some, c1, c2, code_region, cRegion_plain]
  simp (decide := true) only [opsK_yes, opsK_nil, wantA_eq, opR_move, opR_assign, opR_binOp, opR_indexAddr, opR_load, moveR, binOpR, binR_shr, shr_four, binR_and, binR_xor, and_u32, xor_u32, indexAddrR, uArr, sU, hidx, forceN_eq, loadR, loadK, aU, readOneK, hB, hidx2, hget, evK_eq, evS, putK_some, get_set_if, if_true, if_false, Option.getD_some, h3, AV.ofValue, AV.ofCell]
  subst e3
  simp only [b5, l3, f2, ob, Tryz.f166, Option.getD_some, c1, c2, code_region, cRegion_plain]
  simp (decide := true) only [opsK_yes, opsK_nil, wantA_eq, opR_move, opR_assign, opR_binOp, opR_indexAddr, opR_load, moveR, binOpR, binR_shr, shr_four, binR_and, binR_xor, and_u32, xor_u32, indexAddrR, uArr, sU, hidx, forceN_eq, loadR, loadK, aU, readOneK, hB, hidx2, hget, evK_eq, evS, putK_some, get_set_if, if_true, if_false, Option.getD_some, h3, AV.ofValue, AV.ofCell]
  subst e4
  simp only [l3, f2, ob, Tryz.f166, Option.getD_some, c1, c2, code_region, cRegion_plain]
  simp (decide := true) only [opsK_yes, opsK_nil, wantA_eq, opR_move, opR_binOp, moveR, binOpR, binR_add, add_int, hadd, evK_eq, evS, putK_some, get_set_if, if_true, if_false, Option.getD_some, h29, AV.ofValue, AV.ofCell]
  refine h _ ?_ ?_ ?_ ?_ ?_
  · simp (decide := true) only [get_set_if, if_false, h3]
  · simp (decide := true) only [get_set_if, if_false, h27]
  · simp (decide := true) only [get_set_if, if_false, h28]
  · simp (decide := true) only [get_set_if, if_true, if_false]
  · simp (decide := true) only [get_set_if, if_true, if_false]; rfl
theorem s_end (K : KX) (h28 : fr.get (Id.of 28) = some (.int .i64 (.ofNat len))) (h29 : fr.get (Id.of 29) = some (.int .i64 (.ofNat len))) (h : ∀ fr', fr'.get (Id.of 6) = fr.get (Id.of 6) → Sat (K (.exit 4) fr' ov nx) l) :
    Sat (code cx (exec cx N) l3 base none 54 fr ov nx K) l := by
  have hlt : ltI (Int.ofNat len) (Int.ofNat len) = false := by rw [ltI_eq]; simp
  simp only [l3, f2, ob, Tryz.f166, Option.getD_some, c1, c2]
  simp only [code_seq, code_region, code_cond, code_block, code_exit, code_skip, cSeq, cCond, cBlock, cExit, cRegion_plain]
  simp (decide := true) only [opsK_yes, opsK_nil, wantA_eq, opR_binOp, binOpR, binR_lss, lss_int, hlt, evK_eq, evS, putK_some, get_set_if, if_true, if_false, Option.getD_some, h28, h29]
  exact h _ (by simp (decide := true) only [get_set_if, if_false])
theorem s_loop {B : Id} (K : KX) (hlen : len < 90000) (hb : look base ov b = some (.cells m r q)) (hm : off + len ≤ m) (hB : look base ov B = some (.cells 16 (.flat (tab 16)) true)) : ∀ (rest : List Nat) (i fuel : Nat) (fr : Fr) (s : Int), i + rest.length = len → rest.length < fuel →
    (∀ j c, rest[j]? = some c → r.getR (off + (i + j)) = some (.int .u8 (.ofNat c))) → fr.get (Id.of 3) = some (.ptr B 0) → fr.get (Id.of 27) = some (.sl b off len cap 1 ex) → fr.get (Id.of 28) = some (.int .i64 (.ofNat len)) → fr.get (Id.of 29) = some (.int .i64 (.ofNat i)) → fr.get (Id.of 6) = some (.int .u32 s) →
    (∀ fr', fr'.get (Id.of 6) = some (.int .u32 (rest.foldl byteS s)) → Sat (K (.exit 4) fr' ov nx) l) →
      Sat (cLoop fuel (code cx (exec cx N) l3) base none 54 fr ov nx K) l := by
  intro rest
  induction rest with
  | nil =>
    intro i fuel fr s hi hf hr h3 h27 h28 h29 h6 h
    obtain ⟨fuel, rfl⟩ : ∃ k, fuel = k + 1 := ⟨fuel - 1, by simp at hf; omega⟩
    rw [cLoop_succ]
    have hi : i = len := by simpa using hi
    subst hi
    exact s_end _ h28 h29 fun fr' e => h fr' (e.trans h6)
  | cons c rest ih =>
    intro i fuel fr s hi hf hr h3 h27 h28 h29 h6 h
    simp only [List.length_cons] at hi hf
    obtain ⟨fuel, rfl⟩ : ∃ k, fuel = k + 1 := ⟨fuel - 1, by omega⟩
    rw [cLoop_succ]
    refine s_iter _ hlen (by omega) hb hm (hr 0 c rfl) hB h3 h27 h28 h29 h6 fun fr' a3 a27 a28 a29 a6 => ?_
    refine ih (i + 1) fuel fr' _ (by omega) (by omega) (fun j c' hj => ?_) a3 a27 a28 a29 a6 h
    have := hr (j + 1) c' (by simpa using hj)
    rw [show i + 1 + j = i + (j + 1) by omega]
    exact this
noncomputable def flip (s : Int) : Int := wrapI .u32 (((BitVec.ofInt IntKind.u32.bits (if IntKind.u32.signed = true then -1 else IntKind.u32.max) ^^^ BitVec.ofInt IntKind.u32.bits s).toNat : Nat) : Int)
theorem sum_run {bs : List Nat} {K : KV} (hlen : len < 90000) (hbl : bs.length = len) (hb : look base ov b = some (.cells m r q)) (hm : off + len ≤ m) (hbs : ∀ (j : Nat) c, bs[j]? = some c → r.getR (off + j) = some (.int .u8 (.ofNat c))) (hab : absent base ov (Id.of nx) = true)
    (h : Sat (K (.int .u32 (flip (bs.foldl byteS 4294967295))) (ov.set (Id.of nx) (some (.cells 16 (.flat (tab 16)) true))) (nx + 1)) l) : Sat (callK cx (exec cx (N + 1)) base 166 [.sl b off len cap 1 ex] ov nx K) l := by
  rw [callK_body (fn := Tryz.f166) rfl rfl rfl (Nat.le_of_ble_eq_true rfl)]
  unfold bodyK
  have hb0 : Tryz.f166.body = some ob := rfl
  rw [hb0]
  simp only [argFrameK_eq, argFrame]
  rw [ob_eq]
  have a0 : (#[37] : Array TypeId)[0]? = some 37 := rfl
  have hne : b ≠ Id.of nx := fun e => by rw [e, look_absent hab] at hb; cases hb
  have zl : lenIs zeros 16 = true := rfl
  simp only [exec_succ (n := N), code_seq (x := c1 ob), code_seq (x := c1 (c2 ob)), code_seq (x := .seq (c1 f1) (.block 0 (.loop l1))), code_seq (x := c1 f1), code_seq (x := c1 (c2 (c2 (c2 ob)))), code_seq (x := .seq (c1 f2) (.block 4 (.loop l3))), code_seq (x := c1 f2), code_block, code_loop, cSeq_eq, cBlock_eq]
  have fin : ∀ fr' ov' nx', ov' = ov.set (Id.of nx) (some (.cells 16 (.flat (tab 16)) true)) → nx' = nx + 1 → fr'.get (Id.of 6) = some (.int .u32 (bs.foldl byteS 4294967295)) → Sat (code cx (exec cx N) (c2 (c2 (c2 (c2 (c2 ob))))) base none 54 fr' ov' nx' (leaveK cx base Tryz.f166 K)) l := by
    rintro fr' _ _ rfl rfl h6
    simp only [ob, Tryz.f166, Option.getD_some, c2]
    simp (decide := true) only [code_seq, code_region, code_ret, cSeq, cExit, cRegion_plain, opsK_yes, opsK_nil, wantA_eq, opR_move, opR_assign, opR_unOp, unOpR, retI_eq, moveR, evK_eq, evS, putK_some, get_set_if, if_true, if_false, Option.getD_some, h6, leaveK, resultsK, resultK, Tr.getK_eq]
    exact h
  have main1 := fun (K' : KX) (fr : Fr) h3 h9 hk => t_loop (base := base) (ov := ov) (nx := nx + 1) (N := N) (l := l) (B := Id.of nx) K' 16 0 loopFuel fr rfl (by unfold loopFuel; omega) h3 h9 hk
  have main2 := fun (K' : KX) (fr : Fr) h3 h27 h28 h29 h6 hk => s_loop (base := base) (ov := ov.set (Id.of nx) (some (.cells 16 (.flat (tab 16)) true))) (nx := nx + 1) (N := N) (l := l) (B := Id.of nx) (b := b) (off := off) (len := len) (cap := cap) (ex := ex) (m := m) (r := r) (q := q) K' hlen
    (by rw [look_set, if_neg hne]; exact hb) hm (by rw [look_set, if_pos rfl]) bs 0 loopFuel fr 4294967295 (by omega) (by unfold loopFuel; omega) (fun j c hj => by rw [Nat.zero_add]; exact hbs j c hj) h3 h27 h28 h29 h6 hk
  generalize hlast : code cx (exec cx N) (c2 (c2 (c2 (c2 (c2 ob))))) = last at fin ⊢
  generalize hloop1 : code cx (exec cx N) l1 = lp1 at main1 ⊢
  generalize hloop3 : code cx (exec cx N) l3 = lp3 at main2 ⊢
  simp only [f1, f2, ob, Tryz.f166, Option.getD_some, c1, c2, code_region, cRegion_plain]
  simp (decide := true) only [opsK_yes, opsK_nil, wantA_eq, opR_move, opR_assign, opR_alloc, moveR, allocR, sArr, zArr, cellsK, zl, forceL_eq, newC, hab, forceId_eq, forceN_eq, Tr.setK_eq, evK_eq, evS, putK_some, get_set_if, if_false, AV.ofValue, AV.ofCell]
  refine main1 _ _ ?_ ?_ (fun fr' h3 h0 => ?_)
  · simp (decide := true) only [get_set_if, if_true, if_false]
  · simp (decide := true) only [get_set_if, if_true, if_false]; rfl
  · have h0' : fr'.get (Id.of 0) = some (.sl b off len cap 1 ex) := by
      rw [h0]; simp (decide := true) only [get_set_if, if_true, if_false]
    simp (decide := true) only [opR_call, callR, evL_eq, List.map, builtinK, a0, lenK, uSl, forceN_eq, evS, get_set_if, if_true, if_false, Option.getD_some, h0']
    refine main2 _ _ ?_ ?_ ?_ ?_ ?_ (fun fr2 h6 => fin fr2 _ _ rfl rfl h6)
    · simp (decide := true) only [get_set_if, if_false, h3]
    · simp (decide := true) only [get_set_if, if_true, if_false]
    · simp (decide := true) only [get_set_if, if_true, if_false]
    · simp (decide := true) only [get_set_if, if_true, if_false]; rfl
    · simp (decide := true) only [get_set_if, if_true, if_false]
end
noncomputable def halfK (s : Int) (k : Int → Ans) : Ans := forceN (a32 s 15) fun i => forceI (.ofNat (x32 (s.fdiv (2 ^ (min 4 32))) (ent i))) k
theorem halfK_eq (s : Int) (k : Int → Ans) : halfK s k = k (half s) := by simp only [halfK, forceN_eq, forceI_eq, half]
noncomputable def sumK : List Nat → Int → (Int → Ans) → Ans
  | [], s, k => k s
  | c :: bs, s, k => forceI (.ofNat (x32 s (wrapI .u32 (.ofNat c)))) fun s => halfK s fun s => halfK s fun s => sumK bs s k
theorem sumK_eq (bs : List Nat) (s : Int) (k : Int → Ans) : sumK bs s k = k (bs.foldl byteS s) := by
  induction bs generalizing s with
  | nil => rfl
  | cons c bs ih => simp only [sumK, forceI_eq, halfK_eq, List.foldl_cons, ih, byteS]
noncomputable def sumS : Summ := fun base ov nx args K =>
  match args with
  | [.sl b off len _cap 1 _ex] => match Nat.blt len 90000, absent base ov (Id.of nx) with
    | true, true => readK base ov b off len fun L => match bytesOfCells L with
      | some bs => sumK bs 4294967295 fun s => forceI (flip s) fun s => forceL (tab 16) fun t => forceId (Id.of nx) fun B => Tr.setK (some (.cells 16 (.flat t) true)) ov B fun ov => forceN (nx + 1) fun nx => K (.int .u32 s) ov nx
      | none => .bad "sumS"
    | _, _ => .bad "sumS"
  | _ => .bad "sumS"
/-- THE SUMMARY. -/
theorem summ (hC : CtxOK cx) : SummOK cx.P 166 sumS := by
  refine summ_of_run2 hC (n := 1) ?_
  intro base ov nx args K l ρ w args' hh ha hs
  unfold sumS at hs
  split at hs
  · rename_i b off len cap ex
    split at hs
    · rename_i hc hab
      have hc : len < 90000 := by simpa using hc
      obtain ⟨A⟩ := args'
      replace ha : VRL ρ [.sl b off len cap 1 ex] A := ha
      obtain ⟨e, he⟩ : ∃ e, ρ b = some e := by
        cases ha with
        | cons hx _ => cases hx with
          | sl he _ _ _ _ => exact ⟨_, he⟩
      obtain ⟨m, r, q, L, h1, h2, h3, h4, h5⟩ := readK_abs hh he hs
      split at h5
      · rename_i bs hbs
        rw [sumK_eq, forceI_eq, forceL_eq, forceId_eq, Tr.setK_eq, forceN_eq] at h5
        obtain ⟨q1, q2⟩ := bytesOfCells_spec hbs
        refine sum_run (N := 0) hc (by omega) h1 h2 (fun j c hj => ?_) hab h5
        have hlt : j < bs.length := (List.getElem?_eq_some_iff.1 hj).1
        obtain ⟨v, v1, v2⟩ := h4 j (by omega)
        obtain ⟨x, x1, _, x3⟩ := q2 j v v1
        rw [hj] at x1
        cases x1
        rw [v2, x3]
      · exact (not_sat_bad h5).elim
    · exact (not_sat_bad hs).elim
  · exact (not_sat_bad hs).elim
end KSum
end Go.Ab
