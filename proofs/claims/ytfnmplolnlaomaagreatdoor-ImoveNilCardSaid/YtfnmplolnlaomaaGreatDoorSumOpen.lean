/- The summary of disk.Open: the keys of a map, collected in whatever order they come, and sorted. -/
import Derived.Test.YtfnmplolnlaomaaGreatDoorMachineE
import Derived.Test.YtfnmplolnlaomaaGreatDoorProg
namespace Go.Ab
open Go.RowKit Go.Sort Go.Proofs
namespace KOpen
/-- Parts of code. -/
def c1 : Code → Code
  | .seq a _ => a
  | .block _ a => a
  | .loop a => a
  | .cond _ a _ => a
  | c => c
def c2 : Code → Code
  | .seq _ b => b
  | .cond _ _ b => b
  | c => c
noncomputable def ob : Code := Tryz.f119.body.getD .skip
noncomputable def p0 : Code := c1 ob
noncomputable def p1 : Code := c1 (c2 ob)
noncomputable def p2 : Code := c1 (c2 (c2 ob))
noncomputable def p3 : Code := c1 (c1 (c2 (c2 (c2 ob))))
noncomputable def lb : Code := c1 (c1 (c2 (c1 (c2 (c2 (c2 ob))))))
noncomputable def p4 : Code := c2 (c2 (c2 (c2 ob)))
theorem ob_eq : ob = .seq p0 (.seq p1 (.seq p2 (.seq (.seq p3 (.block 0 (.loop lb))) p4))) := id rfl
noncomputable def cx : Ctx := { P := Tryz.prog, S := fun f => match Nat.beq f 159 with | true => some sortS | false => none, J := fun _ => false }
section
variable {base ov : Hp} {fr : Fr}
set_option maxRecDepth 100000
theorem uSl : cx.P.underlying 83 = some (.slice 3) := rfl
theorem sInt : szOf cx.P 3 = some 1 := rfl
theorem bInt : bytesOf cx.P 3 = some 8 := rfl
theorem zInt : zeroV cx.P 3 = some (.int .i64 0) := rfl
/-- A round. -/
theorem round_run {m I : Id} {es : List MEnt} {clock N : Nat} {seen : List Nat} {last : Option Nat} {xs : List Int} {lv : AV} (K : KX) (hgood : goodEs es clock = true) (hlen : xs.length < 1000000)
    (hI : look base ov I = some (.miter (some m) clock seen last clock N)) (hm : look base ov m = some (.map es clock)) (hfree : Free base ov N)
    (h3 : fr.get (Id.of 3) = some lv) (h11 : fr.get (Id.of 11) = some (.ptr I 0))
    (hlv : (xs = [] ∧ lv = .nils) ∨ (xs ≠ [] ∧ ∃ L, lv = .sl L 0 xs.length xs.length 1 false ∧ look base ov L = some (.cells xs.length (.flat (xs.map (AV.int .i64))) true)))
    (hEnd : es.filter (notSeen seen) = [] → ∀ fr' ov' nx', fr'.get (Id.of 3) = some lv → (∀ b, b ≠ I → look base ov' b = look base ov b) → Sat (K (.exit 0) fr' ov' nx') [])
    (hStep : ∀ e ∈ es, notSeen seen e = true → ∀ fr' ov' nx' L N', fr'.get (Id.of 3) = some (.sl L 0 (xs.length + 1) (xs.length + 1) 1 false) → fr'.get (Id.of 11) = some (.ptr I 0) →
      look base ov' L = some (.cells (xs.length + 1) (.flat ((xs ++ [keyI e]).map (AV.int .i64))) true) → look base ov' I = some (.miter (some m) clock (ins e.born seen) (some e.born) clock N) → Free base ov' N' →
      absent base ov L = true → (∀ b, absent base ov b = false → b ≠ I → (∀ x, lv ≠ .sl b 0 x x 1 false) → look base ov' b = look base ov b) → Sat (K .normal fr' ov' nx') []) :
    Sat (exec cx 1 lb base none 23 fr ov N K) [] := by
  have hIm : I ≠ m := by intro e; rw [e, hm] at hI; cases hI
  simp only [goodEs, Bool.and_eq_true, List.all_eq_true, Nat.blt_eq] at hgood
  obtain ⟨⟨⟨hk, hb⟩, hr⟩, hesl⟩ := hgood
  have hnd := rising_nodup hr
  simp only [lb, ob, Tryz.f119, Option.getD_some, c1, c2]
  simp only [exec_succ, code_seq, code_region, code_cond, code_block, code_exit, code_skip, cSeq, cCond, cBlock, cExit, cRegion, opsK_cons, opsK_nil, wantK, opR_extract]
  simp (decide := true) only [opR_next, nextR, evK_eq, evS, putK_some, get_set_if, if_true, Option.getD_some, h11, nextK, hI, nextMapK, hm]
  have hg : (!seen.isEmpty && !es.isEmpty && es.all fun e => decide (e.born ≥ clock)) = false := by
    cases es with
    | nil => simp
    | cons e l => have := hb e (List.mem_cons_self ..); simp; omega
  have hf : ((es.filter (notSeen seen)).all fun e => decide (e.born < clock)) = true := by
    rw [List.all_eq_true]
    intro e he
    have := hb e (List.mem_filter.1 he).1
    simpa using this
  rw [hg, hf]
  simp only [Bool.false_eq_true, if_false, if_true]
  split
  · simp (decide := true) only [setB, forceO_eq, Tr.setK_eq, forceN_eq, extractR, evK_eq, evS, get_set_if, if_true, if_false, Option.getD_some, lget]
    rename_i he
    refine hEnd he _ _ _ (by simp (decide := true) only [get_set_if, if_false, h3]) fun b hb => ?_
    rw [look_set, if_neg hb]
  · rename_i e l he
    refine anyK_ok fun x hx => ?_
    have hxe : x ∈ es := (List.mem_filter.1 (he ▸ hx)).1
    have hns : notSeen seen x = true := (List.mem_filter.1 (he ▸ hx)).2
    have hkx := isIntKey_spec (hk x hxe)
    have hsome : absent base ov I = false := not_absent_of_look hI
    unfold oneK
    simp (decide := true) only [setB, forceO_eq, Tr.setK_eq, forceN_eq, extractR, evK_eq, evS, get_set_if, if_true, if_false, Option.getD_some, lget, opR_entry, entryR, opR_assign, moveR, opR_move, h11, h3]
    have hent : entryV base (Tr.set ov I (some (AO.miter (some m) clock (ins x.born seen) (some x.born) clock N))) (AV.ptr I 0) = some (.tup [x.key, x.val]) := by
      simp (decide := true) only [entryV, look_set, if_true, if_neg (Ne.symm hIm), hm, if_false, find_born hnd x hxe, Option.map_some, ne_eq, not_true_eq_false]
    have hnx : N ≤ (if (seen.isEmpty && l.isEmpty) = true then N else N + 4096 * (x.born + 1)) := by split <;> omega
    generalize (if (seen.isEmpty && l.isEmpty) = true then N else N + 4096 * (x.born + 1)) = nx at hnx
    have fr1 := hfree.setOld hsome (some (AO.miter (some m) clock (ins x.born seen) (some x.born) clock N))
    rw [hent]
    have l1 : ∀ v : AV, lenIs [v] 1 = true := fun _ => rfl
    have d1 : Nat.ble (1 * 1) 16777216 = true := rfl
    have d2 : Nat.blt 0 1 = true := rfl
    have d3 : ∀ v : AV, Nat.ble (0 * 1 + 1) ([v] : List AV).length = true := fun _ => rfl
    have q0 : ∀ (u : AV) (v : List AV), (List.rec (motive := fun x => Nat → Option AV) (fun x => none) (fun a x r i => Nat.rec (some a) (fun i x => r i) i) (u :: v) 0 : Option AV) = some u := fun _ _ => rfl
    have hI2 : look base (Tr.set ov I (some (AO.miter (some m) clock (ins x.born seen) (some x.born) clock N))) I = some (AO.miter (some m) clock (ins x.born seen) (some x.born) clock N) := by rw [look_set, if_pos rfl]
    have hold : ∀ b, b ≠ I → look base (Tr.set ov I (some (AO.miter (some m) clock (ins x.born seen) (some x.born) clock N))) b = look base ov b := fun b hb => by rw [look_set, if_neg hb]
    have habs : ∀ b, absent base (Tr.set ov I (some (AO.miter (some m) clock (ins x.born seen) (some x.born) clock N))) b = true → absent base ov b = true := by
      intro b hb; rw [absent_set] at hb; split at hb
      · cases hb
      · exact hb
    generalize (Tr.set ov I (some (AO.miter (some m) clock (ins x.born seen) (some x.born) clock N))) = ov1 at fr1 hI2 hold habs ⊢
    have ab1 : absent base ov1 (Id.of nx) = true := fr1 nx hnx
    simp (decide := true) only [hkx, opR_buildSlice, buildSliceR, uSl, sInt, zInt, cellsK, l1, d1, d2, evP_eq, List.map, evS, get_set_if, if_true, if_false, Option.getD_some, forceL_eq, repL, fillK, List.append_nil, d3, lputK_eq, lput, newC, ab1, forceId_eq, forceN_eq, Tr.setK_eq]
    have fr2 := (fr1.mono hnx).set nx (some (AO.cells (1 * 1) (.flat [AV.int .i64 (keyI x)]) true))
    have hnI : ∀ {b}, absent base ov b = true → b ≠ I := fun h e => by rw [e, hsome] at h; cases h
    have ab2 : absent base (ov1.set (Id.of nx) (some (AO.cells (1 * 1) (.flat [AV.int .i64 (keyI x)]) true))) (Id.of (nx + 1)) = true := fr2 (nx + 1) (by omega)
    have lk : look base (ov1.set (Id.of nx) (some (AO.cells (1 * 1) (.flat [AV.int .i64 (keyI x)]) true))) (Id.of nx) = some (AO.cells (1 * 1) (.flat [AV.int .i64 (keyI x)]) true) := by rw [look_set, if_pos rfl]
    have hI3 : look base (ov1.set (Id.of nx) (some (AO.cells (1 * 1) (.flat [AV.int .i64 (keyI x)]) true))) I = some (AO.miter (some m) clock (ins x.born seen) (some x.born) clock N) := by
      rw [look_set, if_neg (hnI (habs _ ab1)).symm]; exact hI2
    have hold2 : ∀ b, absent base ov b = false → b ≠ I → look base (ov1.set (Id.of nx) (some (AO.cells (1 * 1) (.flat [AV.int .i64 (keyI x)]) true))) b = look base ov b := by
      intro b hb1 hb2
      rw [look_set, if_neg (fun e => by rw [e, habs _ ab1] at hb1; cases hb1)]
      exact hold b hb2
    have habs2 : ∀ b, absent base (ov1.set (Id.of nx) (some (AO.cells (1 * 1) (.flat [AV.int .i64 (keyI x)]) true))) b = true → absent base ov b = true := by
      intro b hb; rw [absent_set] at hb; split at hb
      · cases hb
      · exact habs b hb
    generalize (ov1.set (Id.of nx) (some (AO.cells (1 * 1) (.flat [AV.int .i64 (keyI x)]) true))) = ov2 at fr2 ab2 lk hI3 hold2 habs2 ⊢
    have hnew := habs2 _ ab2
    have a0 : (#[83, 83] : Array TypeId)[0]? = some 83 := rfl
    have a1 : (#[83, 83] : Array TypeId)[1]? = some 83 := rfl
    have bt : bytesT (some (.slice 3)) = true := rfl
    simp (decide := true) only [opR_call, callR, evL_eq, List.map, evS, get_set_if, if_true, if_false, Option.getD_some, builtinK, appendK, a0, a1, Option.bind_some, uSl, bt, countOf, sInt, bInt, zInt, cellsK, l1, elemsK]
    have e1 : Nat.beq 1 1 = true := rfl
    have e2 : Nat.ble 1 1 = true := rfl
    have e3 : Nat.beq 1 0 = false := rfl
    have e4 : Nat.ble (0 + 1 * 1) (1 * 1) = true := rfl
    have e5 : (Nat.beq 0 0 && Nat.beq (1 * 1) (1 * 1)) = true := rfl
    have e6 : Nat.blt 1 64 = true := rfl
    have e7 : (Nat.beq 0 0 && true) = true := rfl
    have e8 : (Nat.ble 1 1048576 && Nat.ble 8 1048576) = true := rfl
    simp only [e1, readK, lk, Rows.subK, e7]
    have hIne : I ≠ Id.of (nx + 1) := (hnI hnew).symm
    rcases hlv with ⟨hxs, rfl⟩ | ⟨hxs, L, rfl, hL⟩
    · subst hxs
      simp (decide := true) only [appendTo, forceN_eq, growK, e6, e8, newQ, ab2, forceId_eq, Tr.setK_eq]
      refine hStep x hxe hns _ _ _ (Id.of (nx + 1)) _ ?_ ?_ ?_ ?_ (fr2.set (nx + 1) _) hnew ?_
      · simp (decide := true) only [get_set_if, if_true, if_false]; rfl
      · simp (decide := true) only [get_set_if, if_false, h11]
      · rw [look_set, if_pos rfl]; rfl
      · rw [look_set, if_neg hIne]; exact hI3
      · intro b hb1 hb2 _
        rw [look_set, if_neg (fun e => by rw [e, hnew] at hb1; cases hb1)]
        exact hold2 b hb1 hb2
    · have hLa : absent base ov L = false := not_absent_of_look hL
      have hLI : L ≠ I := by intro e; rw [e, hI] at hL; cases hL
      have hL2 := (hold2 L hLa hLI).trans hL
      have hne : xs.map (AV.int .i64) ≠ [] := by simpa using hxs
      have g1 : Nat.ble (xs.length + 1) xs.length = false := by rw [Bool.eq_false_iff]; simp
      have g2 : Nat.ble xs.length xs.length = true := by simp
      have g3 : Nat.beq xs.length 0 = false := by rw [Bool.eq_false_iff]; simpa using hxs
      have g4 : Nat.ble (0 + xs.length * 1) xs.length = true := by simp
      have g5 : Nat.beq (xs.length * 1) xs.length = true := by simp
      have g6 : (Nat.ble (xs.length + 1) 1048576 && Nat.ble 8 1048576) = true := by simp; omega
      have g0 : Nat.beq 0 0 = true := rfl
      have hgo : ∀ (old : List AV) (nx : Nat) (ov : Hp) (K : KV), old ≠ [] → growOldK base nx 1 8 (xs.length + 1) old [AV.int .i64 (keyI x)] true ov K = growK base nx 1 8 (xs.length + 1) (old ++ [AV.int .i64 (keyI x)]) true ov K := by
        intro old nx ov K ho
        cases old with
        | nil => exact absurd rfl ho
        | cons u v => simp only [growOldK, spine_eq]
      have fr3 := fr2.setOld (not_absent_of_look hL2) none
      have hmx : max nx (nx + 1) = nx + 1 := by omega
      have ab3 : absent base (ov2.set L none) (Id.of (nx + 1)) = true := fr3 (nx + 1) (by omega)
      simp (decide := true) only [appendTo, e1, g1, elemsK, g2, g3, readK, hL2, g4, Rows.subK, g0, g5, Bool.and_true, Tr.setK_eq, forceN_eq, hgo _ _ _ _ hne, growK, g6, e6, newQ, ab3, forceId_eq]
      refine hStep x hxe hns _ _ _ (Id.of (nx + 1)) _ ?_ ?_ ?_ ?_ (fr3.set (nx + 1) _) hnew ?_
      · simp (decide := true) only [get_set_if, if_true, if_false]
      · simp (decide := true) only [get_set_if, if_false, h11]
      · rw [look_set, if_pos rfl]; simp
      · rw [look_set, if_neg hIne, look_set, if_neg hLI.symm]; exact hI3
      · intro b hb1 hb2 hb3
        rw [look_set, if_neg (fun e => by rw [e, hnew] at hb1; cases hb1), look_set, if_neg (fun e => hb3 xs.length (by rw [e]))]
        exact hold2 b hb1 hb2

theorem hg : cx.P.eqGuardType cx.P.depth 29 = false := by decide +kernel
theorem p0_run {N : Nat} (K : KX) (h : ∀ fr' nx', fr'.get (Id.of 0) = fr.get (Id.of 0) → Sat (K .normal fr' ov nx') []) : Sat (exec cx 1 p0 base none 23 fr ov N K) [] := by
  simp only [p0, ob, Tryz.f119, Option.getD_some, c1]
  simp only [exec_succ, code_region, cRegion, opsK_cons, opsK_nil, wantK, opR_assign]
  simp (decide := true) only [moveR, evK_eq, evS, putK_some]
  exact h _ _ (by simp (decide := true) only [get_set_if, if_false])
theorem p1_run {N : Nat} {b : Id} {off : Nat} (K : KX) (h0 : fr.get (Id.of 0) = some (.ptr b off)) (h : ∀ fr' nx', fr'.get (Id.of 0) = fr.get (Id.of 0) → Sat (K .normal fr' ov nx') []) : Sat (exec cx 1 p1 base none 23 fr ov N K) [] := by
  have hu : cx.P.underlying 29 = some (.pointer 167) := rfl
  simp only [p1, ob, Tryz.f119, Option.getD_some, c1, c2]
  simp only [exec_succ, code_region, code_seq, code_cond, code_skip, code_ret, cSeq, cCond, cExit, cRegion, opsK_cons, opsK_nil, wantK, opR_assign, opR_move, opR_binOp]
  simp (decide := true) only [moveR, binOpR, binR_eql, eqlR, eql_ptr_nil hg hu, evK_eq, evS, putK_some, get_set_if, if_true, h0, Option.getD_some, AV.ofValue, AV.ofCell, retB_eq]
  exact h _ _ (by simp (decide := true) only [get_set_if, if_false, h0])
theorem p2_run {N : Nat} (K : KX) (h : ∀ fr' nx', fr'.get (Id.of 0) = fr.get (Id.of 0) → fr'.get (Id.of 3) = some .nils → Sat (K .normal fr' ov nx') []) : Sat (exec cx 1 p2 base none 23 fr ov N K) [] := by
  simp only [p2, ob, Tryz.f119, Option.getD_some, c1, c2]
  simp only [exec_succ, code_region, cRegion, opsK_cons, opsK_nil, wantK, opR_assign]
  simp (decide := true) only [moveR, evK_eq, evS, putK_some]
  exact h _ _ (by simp (decide := true) only [get_set_if, if_false]) (by simp (decide := true) only [get_set_if, if_true]; rfl)
theorem p3_run {N : Nat} {b m : Id} {off n : Nat} {r : Rows} {p : Bool} {es : List MEnt} {clock : Nat} (K : KX) (h0 : fr.get (Id.of 0) = some (.ptr b off)) (h3 : fr.get (Id.of 3) = some .nils)
    (hb : look base ov b = some (.cells n r p)) (hlt : Nat.blt (off + 1) n = true) (hr : r.getR (off + 1) = some (.map m)) (hm : look base ov m = some (.map es clock)) (hfree : Free base ov N)
    (h : ∀ fr' nx', fr'.get (Id.of 3) = some .nils → fr'.get (Id.of 11) = some (.ptr (Id.of N) 0) → Sat (K .normal fr' (ov.set (Id.of N) (some (.miter (some m) clock [] none clock N))) nx') []) : Sat (exec cx 1 p3 base none 23 fr ov N K) [] := by
  have hp : placeS cx.P (fieldsOf cx.P 167) 1 = some (1, 1) := rfl
  have ha : aggT cx.P 165 = some false := rfl
  have hz : szOf cx.P 165 = some 1 := rfl
  have hu : cx.P.underlying 165 = some (.map 3 164) := rfl
  have hn := hfree N (Nat.le_refl _)
  simp only [p3, ob, Tryz.f119, Option.getD_some, c1, c2]
  simp only [exec_succ, code_region, cRegion, opsK_cons, opsK_nil, wantK, opR_move, opR_nilCheck, opR_fieldAddr, opR_load, opR_range]
  simp (decide := true) only [moveR, nilCheckR, fieldAddr_run hp, loadR, loadK, ha, hz, readOneK, hb, hlt, hr, rangeR, hu, hm, newB, hn, forceN_eq, forceId_eq, setB, forceO_eq, Tr.setK_eq, evK_eq, evS, putK_some, get_set_if, if_true, h0, Option.getD_some]
  exact h _ _ (by simp (decide := true) only [get_set_if, if_false, h3]) (by simp (decide := true) only [get_set_if, if_true])
theorem p4_run {N : Nat} {L : Id} {k : Nat} {zs : List Int} {q : Bool} (K : KX) (hk : k = zs.length) (h0 : 0 < k) (h1 : k < 1000000) (h3 : fr.get (Id.of 3) = some (.sl L 0 k k 1 false)) (hL : look base ov L = some (.cells k (.flat (zs.map (AV.int .i64))) q))
    (h : ∀ fr' nx', fr'.get (Id.of 2) = some (.sl L 0 k k 1 false) → Sat (K .ret fr' (ov.set L (some (.cells k (.flat ((sortI zs).map (AV.int .i64))) q))) nx') []) : Sat (exec cx 1 p4 base none 23 fr ov N K) [] := by
  have hi : ∀ zs : List Int, intsOf (zs.map (AV.int .i64)) = some zs := by
    intro zs
    induction zs with
    | nil => rfl
    | cons z zs ih => simp [intsOf, ih]
  have c1 : (Nat.beq k k && Nat.blt 0 k && Nat.blt k 4611686018427387904) = true := by simp; omega
  have hS : cx.S 159 = some sortS := rfl
  simp only [p4, ob, Tryz.f119, Option.getD_some, c2]
  simp only [exec_succ, code_region, code_seq, code_ret, cSeq, cExit, cRegion, opsK_cons, opsK_nil, wantK, opR_move, opR_assign, opR_call]
  simp (decide := true) only [moveR, callR, evL_eq, List.map, evK_eq, evS, putK_some, get_set_if, if_true, if_false, h3, Option.getD_some, valueK, callK, hS, sortS, hL, c1, hi, forceL_eq, Tr.setK_eq]
  exact h _ _ (by simp (decide := true) only [get_set_if, if_true])
theorem p4_nil {N : Nat} (K : KX) (h3 : fr.get (Id.of 3) = some .nils) (h : ∀ fr' nx', fr'.get (Id.of 2) = some .nils → Sat (K .ret fr' ov nx') []) : Sat (exec cx 1 p4 base none 23 fr ov N K) [] := by
  have hS : cx.S 159 = some sortS := rfl
  simp only [p4, ob, Tryz.f119, Option.getD_some, c2]
  simp only [exec_succ, code_region, code_seq, code_ret, cSeq, cExit, cRegion, opsK_cons, opsK_nil, wantK, opR_move, opR_assign, opR_call]
  simp (decide := true) only [moveR, callR, evL_eq, List.map, evK_eq, evS, putK_some, get_set_if, if_true, if_false, h3, Option.getD_some, valueK, callK, hS, sortS]
  exact h _ _ (by simp (decide := true) only [get_set_if, if_true])
/-- At nil. -/
theorem nil_run {nx : Nat} {K : KV} {l : List Out} (h : Sat (K .nils ov nx) l) : Sat (callK cx (exec cx 1) base 119 [.nilp] ov nx K) l := by
  rw [callK_body (fn := Tryz.f119) rfl rfl rfl (by decide)]
  have hu : cx.P.underlying 29 = some (.pointer 167) := rfl
  unfold bodyK
  have hb : Tryz.f119.body = some ob := rfl
  rw [hb]
  simp only [argFrameK_eq, argFrame]
  rw [ob_eq]
  simp only [exec_succ, code_seq, p0, p1, ob, Tryz.f119, Option.getD_some, c1, c2, code_region, code_cond, code_skip, code_ret, cSeq, cCond, cExit, cRegion, opsK_cons, opsK_nil, wantK, opR_assign, opR_move, opR_binOp]
  simp (decide := true) only [moveR, binOpR, binR_eql, eqlR, eql_nil_nil hg hu, evK_eq, evS, putK_some, get_set_if, if_true, if_false, Option.getD_some, AV.ofValue, AV.ofCell, retB_eq, leaveK, resultsK, resultK, Tr.getK_eq]
  exact h
theorem result_run {fr : Fr} {ov : Hp} {nx : Nat} {lv : AV} {K : KV} (h : fr.get (Id.of 2) = some lv) (hs : Sat (K lv ov nx) []) : Sat (resultsK cx Tryz.f119.results.toList base ov nx fr K) [] := by
  have hr : Tryz.f119.results.toList = [.tmp 2] := rfl
  rw [hr]
  simp only [resultsK, resultK, Tr.getK_eq, h, Option.getD_some]
  exact hs
/-- THE SUMMARY. -/
theorem summ (hC : CtxOK cx) : SummOK cx.P 119 (keysS 1) := by
  intro base ov nx args K l ρ w args' R h ha hsat hR
  unfold keysS at hsat
  split at hsat
  · exact callK_ok hC (sound_exec hC 1) h ha (nil_run hsat) hR
  · rename_i b off
    unfold readOneK at hsat
    split at hsat
    · rename_i n r p hb
      split at hsat
      · rename_i v hlt hr
        simp only at hsat
        split at hsat
        · rename_i m
          split at hsat
          · rename_i es clock hm
            split at hsat
            · rename_i hgood
              -- the function's body
              obtain ⟨A⟩ := args'
              replace ha : VRL ρ [.ptr b off] A := ha
              have hb0 : Tryz.f119.body = some ob := rfl
              refine ⟨Tryz.f119, rfl, rfl, rfl, callsIn_of_wp_marks (fn := Tryz.f119) (c := ob) rfl hb0 trivial ?_⟩
              have hst : St ⟨w.heap.size, []⟩ base none none 23 ρ (argFrame 0 [.ptr b off] .e) ov { tmps := (⟨A⟩ : Array Value) ++ Array.replicate (Tryz.f119.ntmps - (⟨A⟩ : Array Value).size) undef, defers := [] } w :=
                ⟨h, argFrame_FR (nt := Tryz.f119.ntmps) (args' := ⟨A⟩) ha (show 1 ≤ 23 by decide), .nil (Nat.le_refl _), rfl⟩
              have hf0 : (argFrame 0 [.ptr b off] .e).get (Id.of 0) = some (AV.ptr b off) := by rw [argFrame_get]; rfl
              generalize argFrame 0 [.ptr b off] .e = fr0 at hst hf0
              generalize ({ tmps := (⟨A⟩ : Array Value) ++ Array.replicate (Tryz.f119.ntmps - (⟨A⟩ : Array Value).size) undef, defers := [] } : Act) = a0 at hst ⊢
              obtain ⟨N, hfree⟩ := free_exists base ov
              rw [ob_eq]
              refine wpIn_seq (piece hC (n := 1) (p := fun x fr' ov' _ => x = .normal ∧ ov = ov' ∧ fr'.get (Id.of 0) = some (.ptr b off)) hst (p0_run (N := N) _ fun fr' nx' e => KP_iff.2 ⟨rfl, rfl, e.trans hf0⟩) ?_)
              rintro _ fr1 _ _ ρ1 a1 w1 ⟨rfl, rfl, hf1⟩ ht1 hst1
              refine wpIn_seq (piece hC (n := 1) (p := fun x fr' ov'' _ => x = .normal ∧ ov = ov'' ∧ fr'.get (Id.of 0) = some (.ptr b off)) hst1 (p1_run (N := N) _ hf1 fun fr' nx' e => KP_iff.2 ⟨rfl, rfl, e.trans hf1⟩) ?_)
              rintro _ fr2 _ _ ρ2 a2 w2 ⟨rfl, rfl, hf2⟩ ht2 hst2
              refine wpIn_seq (piece hC (n := 1) (p := fun x fr' ov'' _ => x = .normal ∧ ov = ov'' ∧ fr'.get (Id.of 0) = some (.ptr b off) ∧ fr'.get (Id.of 3) = some .nils) hst2 (p2_run (N := N) _ fun fr' nx' e e3 => KP_iff.2 ⟨rfl, rfl, e.trans hf2, e3⟩) ?_)
              rintro _ fr3 _ _ ρ3 a3 w3 ⟨rfl, rfl, hf3, hl3⟩ ht3 hst3
              refine wpIn_seq (wpIn_seq (piece hC (n := 1) (p := fun x fr' ov'' _ => x = .normal ∧ ov.set (Id.of N) (some (.miter (some m) clock [] none clock N)) = ov'' ∧ fr'.get (Id.of 3) = some .nils ∧ fr'.get (Id.of 11) = some (.ptr (Id.of N) 0)) hst3
                (p3_run _ hf3 hl3 hb hlt hr hm hfree fun fr' nx' e3 e11 => KP_iff.2 ⟨rfl, rfl, e3, e11⟩) ?_))
              rintro _ fr4 _ _ ρ4 a4 w4 ⟨rfl, rfl, hl4, hi4⟩ ht4 hst4
              have hN := hfree N (Nat.le_refl _)
              have ht04 := ((ht1.trans ht2).trans ht3).trans ht4
              have hmN : m ≠ Id.of N := fun e => by rw [e, look_absent hN] at hm; cases hm
              have hgl : es.length < 1000000 := by
                simp only [goodEs, Bool.and_eq_true, Nat.blt_eq] at hgood; omega
              have hgd : es.Pairwise (fun x y => x.born ≠ y.born) := by
                simp only [goodEs, Bool.and_eq_true] at hgood; exact rising_nodup hgood.1.2
              -- the loop
              let I : Nat → Act → World → Prop := fun k a1 w1 => ∃ ρ1 ov1 fr1 N1 seen last met, k = (es.filter (notSeen seen)).length ∧ Met es seen met ∧ St ⟨w.heap.size, []⟩ base none none 23 ρ1 fr1 ov1 a1 w1 ∧ Thru base ρ ov w ρ1 ov1 w1 ∧ Free base ov1 N1 ∧
                (∀ b o, look base ov b = some o → look base ov1 b = some o) ∧ look base ov1 (Id.of N) = some (.miter (some m) clock seen last clock N1) ∧ fr1.get (Id.of 11) = some (.ptr (Id.of N) 0) ∧
                ((met = [] ∧ fr1.get (Id.of 3) = some .nils) ∨ (met ≠ [] ∧ ∃ L, fr1.get (Id.of 3) = some (.sl L 0 met.length met.length 1 false) ∧ look base ov1 L = some (.cells met.length (.flat ((met.map keyI).map (AV.int .i64))) true) ∧ absent base ov L = true))
              have renb : ∀ {ρ1 ov1 fr1 a1 w1 seen last n0 n1}, St ⟨w.heap.size, []⟩ base none none 23 ρ1 fr1 ov1 a1 w1 → look base ov1 (Id.of N) = some (.miter (some m) clock seen last clock n0) → fr1.get (Id.of 11) = some (.ptr (Id.of N) 0) →
                  St ⟨w.heap.size, []⟩ base none none 23 ρ1 fr1 (ov1.set (Id.of N) (some (.miter (some m) clock seen last clock n1))) a1 w1 := by
                intro ρ1 ov1 fr1 a1 w1 seen last n0 n1 hs hl hi
                obtain ⟨v', _, g2⟩ := hs.fr.slot 11 _ hi
                cases g2 with
                | @ptr _ e _ he => exact ⟨hs.hr.set hl he (.refl _ _) (by have := hs.hr.block _ _ e hl he; exact this), hs.fr, hs.dm, hs.ro⟩
              have start : I (es.filter (notSeen [])).length a4 w4 := by
                refine ⟨ρ4, (ov.set (Id.of N) (some (.miter (some m) clock [] none clock N))).set (Id.of N) (some (.miter (some m) clock [] none clock (N + 1))), fr4, N + 1, [], none, [], rfl, .start es, renb hst4 (by rw [look_set, if_pos rfl]) hi4, ht04.trans .set, ?_, ?_, by rw [look_set, if_pos rfl], hi4, .inl ⟨rfl, hl4⟩⟩
                · have := (hfree.set N (some (.miter (some m) clock [] none clock N))).setOld (b := Id.of N) (by rw [absent_set, if_pos rfl]) (some (.miter (some m) clock [] none clock (N + 1)))
                  exact this.mono (by omega)
                · intro b' o hb'
                  have hne : b' ≠ Id.of N := fun e => by rw [e, look_absent hN] at hb'; cases hb'
                  rw [look_set, if_neg hne, look_set, if_neg hne]
                  exact hb'
              refine wpIn_block (loop_nat I start ?_)
              rintro k a5 w5 ⟨ρ5, ov5, fr5, N5, seen, last, met, rfl, hmet, hst5, ht5, hfree5, hkeep5, hI5, h11, hlist⟩
              have hm5 := hkeep5 _ _ hm
              have hlen5 : (met.map keyI).length < 1000000 := by have := hmet.len; simp; omega
              obtain ⟨lv, h3, hlv⟩ : ∃ lv, fr5.get (Id.of 3) = some lv ∧ ((met.map keyI = [] ∧ lv = .nils) ∨ (met.map keyI ≠ [] ∧ ∃ L, lv = .sl L 0 (met.map keyI).length (met.map keyI).length 1 false ∧ look base ov5 L = some (.cells (met.map keyI).length (.flat ((met.map keyI).map (AV.int .i64))) true))) := by
                rcases hlist with ⟨e1, e2⟩ | ⟨e1, L, e2, e3, _⟩
                · exact ⟨_, e2, .inl ⟨by rw [e1]; rfl, rfl⟩⟩
                · exact ⟨_, e2, .inr ⟨by simpa using e1, L, by rw [List.length_map], by rw [List.length_map]; exact e3⟩⟩
              refine piece hC (n := 1) (p := fun x fr' ov'' _ => (x = .exit 0 ∧ es.filter (notSeen seen) = [] ∧ fr'.get (Id.of 3) = some lv ∧ ∀ b, b ≠ Id.of N → look base ov'' b = look base ov5 b) ∨
                (x = .normal ∧ ∃ e ∈ es, notSeen seen e = true ∧ ∃ L N', fr'.get (Id.of 3) = some (.sl L 0 ((met.map keyI).length + 1) ((met.map keyI).length + 1) 1 false) ∧ fr'.get (Id.of 11) = some (.ptr (Id.of N) 0) ∧
                  look base ov'' L = some (.cells ((met.map keyI).length + 1) (.flat ((met.map keyI ++ [keyI e]).map (AV.int .i64))) true) ∧ look base ov'' (Id.of N) = some (.miter (some m) clock (ins e.born seen) (some e.born) clock N5) ∧ Free base ov'' N' ∧
                  absent base ov5 L = true ∧ ∀ b, absent base ov5 b = false → b ≠ Id.of N → (∀ x, lv ≠ .sl b 0 x x 1 false) → look base ov'' b = look base ov5 b)) hst5
                (round_run _ hgood hlen5 hI5 hm5 hfree5 h3 h11 hlv (fun he fr' ov' nx' e3 e4 => KP_iff.2 (.inl ⟨rfl, he, e3, e4⟩))
                  (fun e he hs fr' ov' nx' L N' e3 e11 eL eI eF eA eO => KP_iff.2 (.inr ⟨rfl, e, he, hs, L, N', e3, e11, eL, eI, eF, eA, eO⟩))) ?_
              have hNa : absent base ov5 (Id.of N) = false := not_absent_of_look hI5
              rintro _ fr6 ov6 _ ρ6 a6 w6 (⟨rfl, hun, h36, hold6⟩ | ⟨rfl, e, he, hs, L, N', h36, h116, hL6, hI6, hF6, hA6, hO6⟩) ht6 hst6
              · -- nothing is left
                have hkeep6 : ∀ b o, look base ov b = some o → look base ov6 b = some o := fun b o hb' => by
                  rw [hold6 b (fun e => by rw [e, look_absent hN] at hb'; cases hb')]; exact hkeep5 b o hb'
                have ht06 := ht5.trans ht6
                show p4.wpIn (FW none) 0 cx.P _ a6 w6
                have fin : ∀ {lv' : AV} {ov7 fr7 ρ7 a7 w7}, fr7.get (Id.of 2) = some lv' → Thru base ρ6 ov6 w6 ρ7 ov7 w7 → St ⟨w.heap.size, []⟩ base none none 23 ρ7 fr7 ov7 a7 w7 →
                    (∀ v' w8, VR ρ7 lv' v' → HR base ρ7 ov7 w8 → Thru base ρ ov w ρ7 ov7 w8 → R v' w8) →
                    LeavesInM Fence.wide 0 cx.P Tryz.f119 a7.tmps (fun e w' => ∃ v, e = .returned v ∧ R v w') a7.defers .returning w7 := by
                  intro lv' ov7 fr7 ρ7 a7 w7 h2 ht7 hst7 hr7
                  obtain ⟨rs0, rt, e1, e2, e3⟩ := hst7.dm.all
                  generalize hrs : rs0 ++ rt = rs at e2 e3
                  rw [e1, List.nil_append, ← List.map_append, hrs]
                  have hres : Sat (resultsK cx Tryz.f119.results.toList base ov7 0 fr7 (KPV fun v _ _ => v = lv')) [] := result_run h2 (KPV_iff.2 rfl)
                  refine leaves_marks (z := w.heap.size) hst7.fr hres rs w7 e2 (fun r hr => ?_) hst7.hr fun v v' w8 g1 g2 g3 g4 => ?_
                  · obtain ⟨p, _, q, s⟩ := e3 r hr
                    exact ⟨p, q, s⟩
                  · have hv := KPV_iff.1 g1
                    subst hv
                    exact ⟨v', rfl, hr7 v' w8 g2 g3 ((ht06.trans ht7).off g4)⟩
                rcases hlv with ⟨hn, rfl⟩ | ⟨hn, L, rfl, hL⟩
                · have hes : sortI (es.map keyI) = [] := by
                    rw [← hmet.done hun, hn]; rfl
                  rw [hes] at hsat
                  refine piece hC (n := 1) (p := fun x fr' ov'' _ => x = .ret ∧ ov6 = ov'' ∧ fr'.get (Id.of 2) = some .nils) hst6 (p4_nil (N := 0) _ h36 fun fr' nx' e2 => KP_iff.2 ⟨rfl, rfl, e2⟩) ?_
                  rintro _ fr7 _ _ ρ7 a7 w7 ⟨rfl, rfl, h27⟩ ht7 hst7
                  refine fin h27 ht7 hst7 fun v' w8 g1 g2 g3 => ?_
                  have hv : VR ρ .nils v' := by cases g1; exact .nils
                  exact hR .nils ov nx ρ v' w8 hsat ⟨⟨ρ.le_refl, fun b e h => .inr ⟨b, e, h, rfl⟩, g3.ext.keep, g3.ext.size, g3.ext.os, g3.ext.tape, g3.ext.output⟩, fun _ _ h => h, fun _ h => h⟩ (h.distill g2 g3 hkeep6) hv
                · have hne : met ≠ [] := by simpa using hn
                  have hL' : absent base ov L = true := by
                    rcases hlist with ⟨e1, _⟩ | ⟨_, L2, e2, _, e4⟩
                    · exact absurd e1 hne
                    · rw [h3] at e2; rw [(AV.sl.inj (Option.some.inj e2)).1]; exact e4
                  have hLN : L ≠ Id.of N := fun e => by rw [e, hI5] at hL; cases hL
                  have hL6 := (hold6 L hLN).trans hL
                  have hpos : 0 < (met.map keyI).length := by have := List.length_pos_iff.2 hn; exact this
                  refine piece hC (n := 1) (p := fun x fr' ov'' _ => x = .ret ∧ ov6.set L (some (.cells (met.map keyI).length (.flat ((sortI (met.map keyI)).map (AV.int .i64))) true)) = ov'' ∧ fr'.get (Id.of 2) = some (.sl L 0 (met.map keyI).length (met.map keyI).length 1 false)) hst6
                    (p4_run (N := 0) _ rfl hpos hlen5 h36 hL6 fun fr' nx' e2 => KP_iff.2 ⟨rfl, rfl, e2⟩) ?_
                  rintro _ fr7 _ _ ρ7 a7 w7 ⟨rfl, rfl, h27⟩ ht7 hst7
                  refine fin h27 ht7 hst7 fun v' w8 g1 g2 g3 => ?_
                  have hks := hmet.done hun
                  have hlk : (met.map keyI).length = (sortI (es.map keyI)).length := by rw [← hks, (sortI_perm _).length_eq]
                  have hkeep7 : ∀ b o, look base ov b = some o → look base (ov6.set L (some (.cells (met.map keyI).length (.flat ((sortI (met.map keyI)).map (AV.int .i64))) true))) b = some o := by
                    intro b o hb'
                    rw [look_set, if_neg (fun e => by rw [e, look_absent hL'] at hb'; cases hb')]
                    exact hkeep6 b o hb'
                  have hl7 : look base (ov6.set L (some (.cells (met.map keyI).length (.flat ((sortI (met.map keyI)).map (AV.int .i64))) true))) L = some (.cells (sortI (es.map keyI)).length (.flat ((sortI (es.map keyI)).map (AV.int .i64))) true) := by
                    rw [look_set, if_pos rfl, hks, ← hlk]
                  cases hsk : sortI (es.map keyI) with
                  | nil => rw [hsk] at hlk; rw [hlk] at hpos; cases hpos
                  | cons z zs =>
                    rw [hsk] at hsat hl7
                    simp only at hsat
                    obtain ⟨hab, hsat2⟩ := newB_ok hsat
                    rw [ret1, forceV1_eq] at hsat2
                    cases g1 with
                    | @sl _ e _ _ _ cap' _ _ ad he hcc hcx hlc haa =>
                      obtain ⟨d1, d2⟩ := h.distillOne g2 g3 hkeep7 hab hL' hl7 he (fun ρ' => OR_ints (g2.block _ _ _ hl7 he))
                      refine hR _ _ _ _ _ w8 hsat2 d2 d1 ?_
                      rw [hlk, hsk] at hcc hlc
                      rw [hlk, hsk]
                      exact .sl (upd_same _ _ _) hcc (fun hx => by cases hx) hlc haa
              · -- an entry has come
                obtain ⟨hmet6, hless⟩ := hmet.step hgd he hs
                refine ⟨_, hless, ρ6, ov6.set (Id.of N) (some (.miter (some m) clock (ins e.born seen) (some e.born) clock N')), fr6, N', ins e.born seen, some e.born, met ++ [e], rfl, hmet6, renb hst6 hI6 h116, (ht5.trans ht6).trans .set, ?_, ?_, by rw [look_set, if_pos rfl], h116, .inr ⟨by simp, L, ?_, ?_, ?_⟩⟩
                · exact hF6.setOld (not_absent_of_look hI6) _
                · intro b o hb'
                  have hbN : b ≠ Id.of N := fun e => by rw [e, look_absent hN] at hb'; cases hb'
                  rw [look_set, if_neg hbN, hO6 b (not_absent_of_look (hkeep5 b o hb')) hbN ?_]
                  · exact hkeep5 b o hb'
                  · intro x hx
                    subst hx
                    rcases hlist with ⟨_, e2⟩ | ⟨_, L2, e2, _, e4⟩
                    · rw [h3] at e2; cases e2
                    · rw [h3] at e2; rw [(AV.sl.inj (Option.some.inj e2)).1, look_absent e4] at hb'; cases hb'
                · simpa using h36
                · have hLN : L ≠ Id.of N := fun e => by rw [e, hNa] at hA6; cases hA6
                  rw [look_set, if_neg hLN]
                  simpa using hL6
                · exact ht5.abs L hA6
            · exact (not_sat_bad hsat).elim
          · exact (not_sat_bad hsat).elim
        · exact (not_sat_bad hsat).elim
      · exact (not_sat_bad hsat).elim
    · exact (not_sat_bad hsat).elim
  · exact (not_sat_bad hsat).elim
end
end KOpen
end Go.Ab
