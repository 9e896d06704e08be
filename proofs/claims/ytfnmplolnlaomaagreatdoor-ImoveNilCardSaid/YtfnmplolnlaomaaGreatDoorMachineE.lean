/- The abstract machine of these proofs, part 33: its runs as equations, for summaries. -/
import Derived.Test.YtfnmplolnlaomaaGreatDoorMachineD
import Derived.Sort.OwnSortedInts
import Derived.Lib.Bytealg
import Derived.ChangeSame
import Derived.Below
namespace Go.Ab
open Go.RowKit
section
variable {C : Ctx} {E : Code → R}
theorem code_skip : code C E .skip = cExit .normal := id rfl
theorem code_region (i : Nat) (ops : Array Oper) (d : Bool) : code C E (.region i ops d) = cRegion C E ops d := id rfl
theorem code_seq (x y : Code) : code C E (.seq x y) = cSeq (code C E x) (code C E y) := id rfl
theorem code_cond (c : Operand) (x y : Code) : code C E (.cond c x y) = cCond c (code C E x) (code C E y) := id rfl
theorem code_block (i : Nat) (x : Code) : code C E (.block i x) = cBlock i (code C E x) := id rfl
theorem code_exit (i : Nat) : code C E (.exit i) = cExit (.exit i) := id rfl
theorem code_ret : code C E .ret = cExit .ret := id rfl
theorem exec_succ (n : Nat) (c : Code) : exec C (n + 1) c = code C (exec C n) c := id rfl
theorem cLoop_succ (n : Nat) (ra : R) (base : Hp) (ro : Option Id) (nt : Nat) (fr : Fr) (ov : Hp) (nx : Nat) (K : KX) : cLoop (n + 1) ra base ro nt fr ov nx K = ra base ro nt fr ov nx fun x fr ov nx => match x with
    | .normal => cLoop n ra base ro nt fr ov nx K
    | x => K x fr ov nx := id rfl
theorem opsK_nil (base : Hp) (nt : Nat) (ops : Array Oper) (fr : Fr) (ov : Hp) (nx : Nat) (K : KF) : opsK C E base nt ops [] fr ov nx K = K fr ov nx := id rfl
theorem opsK_cons (base : Hp) (nt : Nat) (ops : Array Oper) (o : Oper) (l : List Oper) (fr : Fr) (ov : Hp) (nx : Nat) (K : KF) : opsK C E base nt ops (o :: l) fr ov nx K =
    wantK ops fr o (opR o.op o C E base fr ov nx fun v ov nx => putK fr nt o.dst v fun fr => opsK C E base nt ops l fr ov nx K)
      (putK fr nt o.dst (.tup []) fun fr => opsK C E base nt ops l fr ov nx K) := id rfl
theorem set_set {α : Type} (t : Tr α) (p : Id) (a b : α) : (t.set p a).set p b = t.set p b := by
  have hs : ∀ (p : Id) (a b : α), (Tr.single p a).set p b = Tr.single p b := by
    intro p a b
    induction p with
    | h => rfl
    | o p ih => simp only [Tr.single, Tr.set, ih]
    | i p ih => simp only [Tr.single, Tr.set, ih]
  induction t generalizing p with
  | e => exact hs p a b
  | n l v r ihl ihr => cases p <;> simp only [Tr.set, ihl, ihr]
theorem drawK_nil (base : Hp) (nt : Nat) (ops : Array Oper) (fr : Fr) (ov : Hp) (nx : Nat) (K : KF) : drawK C E base nt ops [] fr ov nx K = K fr ov nx := id rfl
theorem drawK_cons (base : Hp) (nt : Nat) (ops : Array Oper) (s : Nat × List Nat) (l : Plan) (fr : Fr) (ov : Hp) (nx : Nat) (K : KF) : drawK C E base nt ops (s :: l) fr ov nx K = drawStep C E base nt ops s (drawK C E base nt ops l) fr ov nx K := id rfl
theorem recheck_nil (ops : Array Oper) (base : Hp) (fr : Fr) (ov ov' : Hp) (nx : Nat) (k : Ans) : recheck C E ops base fr ov ov' nx k [] = k := id rfl
theorem wantK_true {ops : Array Oper} {fr : Fr} {o : Oper} {yes no : Ans} (h : wantA ops fr o = some true) : wantK ops fr o yes no = yes := by
  unfold wantA at h
  unfold wantK
  cases hg : o.guard with
  | none => rfl
  | some g =>
    obtain ⟨j, want⟩ := g
    rw [hg] at h
    simp only at h ⊢
    cases hd : (ops[j]?).bind (·.dst) with
    | none => rw [hd] at h; cases h
    | some d =>
      rw [hd] at h
      simp only [Tr.getK_eq] at h ⊢
      generalize (fr.get (Id.of d)).getD .junk = v at h ⊢
      split at h
      · rename_i b; simp only at h ⊢; cases h2 : (b == want) <;> rw [h2] at h <;> first | rfl | cases h
      · cases h
      · cases h
theorem wantK_false {ops : Array Oper} {fr : Fr} {o : Oper} {yes no : Ans} (h : wantA ops fr o = some false) : wantK ops fr o yes no = no := by
  unfold wantA at h
  unfold wantK
  cases hg : o.guard with
  | none => rw [hg] at h; cases h
  | some g =>
    obtain ⟨j, want⟩ := g
    rw [hg] at h
    simp only at h ⊢
    cases hd : (ops[j]?).bind (·.dst) with
    | none => rw [hd] at h; cases h
    | some d =>
      rw [hd] at h
      simp only [Tr.getK_eq] at h ⊢
      generalize (fr.get (Id.of d)).getD .junk = v at h ⊢
      split at h
      · rename_i b; simp only at h ⊢; cases h2 : (b == want) <;> rw [h2] at h <;> first | rfl | cases h
      · rfl
      · cases h
theorem wantA_eq (ops : Array Oper) (fr : Fr) (o : Oper) : wantA ops fr o = match o.guard with
  | none => some true
  | some (j, want) => match (ops[j]?).bind (·.dst) with
    | some d => match (fr.get (Id.of d)).getD .junk with
      | .bool b => some (b == want)
      | .tup [] => some false
      | _ => none
    | none => none := id rfl
theorem opsK_yes {base : Hp} {nt : Nat} {ops : Array Oper} {o : Oper} {l : List Oper} {fr : Fr} {ov : Hp} {nx : Nat} {K : KF} (h : wantA ops fr o = some true) : opsK C E base nt ops (o :: l) fr ov nx K =
    opR o.op o C E base fr ov nx fun v ov nx => putK fr nt o.dst v fun fr => opsK C E base nt ops l fr ov nx K := by rw [opsK_cons, wantK_true h]
theorem opsK_no {base : Hp} {nt : Nat} {ops : Array Oper} {o : Oper} {l : List Oper} {fr : Fr} {ov : Hp} {nx : Nat} {K : KF} (h : wantA ops fr o = some false) : opsK C E base nt ops (o :: l) fr ov nx K =
    putK fr nt o.dst (.tup []) fun fr => opsK C E base nt ops l fr ov nx K := by rw [opsK_cons, wantK_false h]
/-- A drawn step of a calm operation whose value is known. -/
theorem drawQ {base : Hp} {nt : Nat} {ops : Array Oper} {i : Nat} {U : List Nat} {l : Plan} {fr : Fr} {ov : Hp} {nx : Nat} {K : KF} {o : Oper} (ho : opAt ops i = o) (hk : kindOf C.P o.op = .Q) (h : wantA ops fr o = some true) :
    drawK C E base nt ops ((i, U) :: l) fr ov nx K = valK C E o base fr ov nx fun v => putK fr nt o.dst v fun fr => drawK C E base nt ops l fr ov nx K := by
  have hk2 : kindAt C.P ops i = .Q := by unfold kindAt; rw [ho]; exact hk
  rw [drawK_cons]
  unfold drawStep
  simp only [ho, hk2, wantK_true h]
theorem drawNo {base : Hp} {nt : Nat} {ops : Array Oper} {i : Nat} {U : List Nat} {l : Plan} {fr : Fr} {ov : Hp} {nx : Nat} {K : KF} {o : Oper} (ho : opAt ops i = o) (h : wantA ops fr o = some false) :
    drawK C E base nt ops ((i, U) :: l) fr ov nx K = putK fr nt o.dst (.tup []) fun fr => drawK C E base nt ops l fr ov nx K := by
  rw [drawK_cons]
  unfold drawStep
  simp only [ho, wantK_false h]
theorem drawE {base : Hp} {nt : Nat} {ops : Array Oper} {i : Nat} {l : Plan} {fr : Fr} {ov : Hp} {nx : Nat} {K : KF} {o : Oper} (ho : opAt ops i = o) (hk : kindOf C.P o.op = .E) (h : wantA ops fr o = some true) :
    drawK C E base nt ops ((i, []) :: l) fr ov nx K = opR o.op o C E base fr ov nx fun v ov' nx' => putK fr nt o.dst v fun fr => drawK C E base nt ops l fr ov' nx' K := by
  have hk2 : kindAt C.P ops i = .E := by unfold kindAt; rw [ho]; exact hk
  rw [drawK_cons]
  unfold drawStep
  simp only [ho, hk2, wantK_true h, recheck_nil]
theorem valK_of {o : Oper} {base : Hp} {fr : Fr} {ov : Hp} {nx : Nat} {K : AV → Ans} {v : AV} {x : Hp} {y : Nat} (h : opR o.op o C E base fr ov nx (fun v _ _ => .ok [(v, .e, 0)]) = .ok [(v, x, y)]) : valK C E o base fr ov nx K = K v := by
  unfold valK
  rw [h]
theorem drawQ2 {base : Hp} {nt : Nat} {ops : Array Oper} {i : Nat} {U : List Nat} {l : Plan} {fr : Fr} {ov : Hp} {nx : Nat} {K : KF} (hk : isQ (kindOf C.P (opAt ops i).op) = true) (h : wantA ops fr (opAt ops i) = some true) :
    drawK C E base nt ops ((i, U) :: l) fr ov nx K = valK C E (opAt ops i) base fr ov nx fun v => putK fr nt (opAt ops i).dst v fun fr => drawK C E base nt ops l fr ov nx K :=
  drawQ rfl (by revert hk; cases kindOf C.P (opAt ops i).op <;> simp [isQ]) h
theorem drawNo2 {base : Hp} {nt : Nat} {ops : Array Oper} {i : Nat} {U : List Nat} {l : Plan} {fr : Fr} {ov : Hp} {nx : Nat} {K : KF} (h : wantA ops fr (opAt ops i) = some false) :
    drawK C E base nt ops ((i, U) :: l) fr ov nx K = putK fr nt (opAt ops i).dst (.tup []) fun fr => drawK C E base nt ops l fr ov nx K := drawNo rfl h
theorem drawE2 {base : Hp} {nt : Nat} {ops : Array Oper} {i : Nat} {l : Plan} {fr : Fr} {ov : Hp} {nx : Nat} {K : KF} (hk : isE (kindOf C.P (opAt ops i).op) = true) (h : wantA ops fr (opAt ops i) = some true) :
    drawK C E base nt ops ((i, []) :: l) fr ov nx K = opR (opAt ops i).op (opAt ops i) C E base fr ov nx fun v ov' nx' => putK fr nt (opAt ops i).dst v fun fr => drawK C E base nt ops l fr ov' nx' K :=
  drawE rfl (by revert hk; cases kindOf C.P (opAt ops i).op <;> simp [isE]) h
theorem opAt_eq (ops : Array Oper) (i : Nat) : opAt ops i = (ops[i]?).getD default := id rfl
theorem kindOf_eq (P : Program) (o : Op) : kindOf P o = match o with
  | .move _ | .assign _ | .pick .. | .build .. | .load .. | .nilCheck _ | .binOp .. | .unOp .. | .sliceToArrayPointer .. | .makeFunc .. | .slice .. | .fieldAddr .. | .field .. | .indexAddr .. | .index .. | .lookup .. | .entry _ | .extract .. => .Q
  | .convert _ d _ => if calmConv P d then .Q else .E
  | .alloc _ | .box .. | .buildSlice .. | .makeMap .. | .makeSlice .. => .A
  | .call ⟨.builtin .len, _, _⟩ | .call ⟨.builtin .cap, _, _⟩ | .call ⟨.builtin .max, _, _⟩ | .call ⟨.builtin .min, _, _⟩ => .Q
  | _ => .E := by cases o <;> rfl
theorem isQ_Q : isQ .Q = true := id rfl
theorem isE_E : isE .E = true := id rfl
theorem valK_eq (o : Oper) (base : Hp) (fr : Fr) (ov : Hp) (nx : Nat) (K : AV → Ans) : valK C E o base fr ov nx K = match opR o.op o C E base fr ov nx (fun v _ _ => .ok [(v, .e, 0)]) with
  | .ok [(v, _, _)] => K v
  | _ => .bad "draw value" := id rfl
theorem cRegion_plain (ops : Array Oper) (base : Hp) (ro : Option Id) (nt : Nat) (fr : Fr) (ov : Hp) (nx : Nat) (K : KX) : cRegion C E ops false base ro nt fr ov nx K = opsK C E base nt ops ops.toList fr ov nx fun fr ov nx => K .normal fr ov nx := id rfl
theorem cRegion_draw {ops : Array Oper} {pl : Plan} (hg : planGood C.P ops = true) (hp : planOf C.P ops = pl) (base : Hp) (ro : Option Id) (nt : Nat) (fr : Fr) (ov : Hp) (nx : Nat) (K : KX) : cRegion C E ops true base ro nt fr ov nx K = drawK C E base nt ops pl fr ov nx fun fr ov nx => K .normal fr ov nx := by
  subst hp
  unfold cRegion
  simp only [hg]
theorem cSeq_eq (ra rb : R) (base : Hp) (ro : Option Id) (nt : Nat) (fr : Fr) (ov : Hp) (nx : Nat) (K : KX) : cSeq ra rb base ro nt fr ov nx K = ra base ro nt fr ov nx fun x fr ov nx => match x with
  | .normal => rb base ro nt fr ov nx K
  | x => K x fr ov nx := id rfl
theorem cBlock_eq (i : Nat) (ra : R) (base : Hp) (ro : Option Id) (nt : Nat) (fr : Fr) (ov : Hp) (nx : Nat) (K : KX) : cBlock i ra base ro nt fr ov nx K = ra base ro nt fr ov nx fun x fr ov nx => match x with
  | .exit j => match Nat.beq j i with
    | true => K .normal fr ov nx
    | false => K (.exit j) fr ov nx
  | x => K x fr ov nx := id rfl
theorem cExit_eq (x : AX) (base : Hp) (ro : Option Id) (nt : Nat) (fr : Fr) (ov : Hp) (nx : Nat) (K : KX) : cExit x base ro nt fr ov nx K = K x fr ov nx := id rfl
theorem opR_move (x : Operand) : opR (.move x) = moveR x := id rfl
theorem opR_assign (x : Operand) : opR (.assign x) = moveR x := id rfl
theorem opR_pick (c a b : Operand) : opR (.pick c a b) = pickR c a b := id rfl
theorem opR_alloc (t : TypeId) : opR (.alloc t) = allocR t := id rfl
theorem opR_load (t : TypeId) (a : Operand) : opR (.load t a) = loadR t a := id rfl
theorem opR_store (t : TypeId) (a v : Operand) : opR (.store t a v) = storeR t a v := id rfl
theorem opR_binOp (op : BinOp) (t : TypeId) (x y : Operand) (u : TypeId) : opR (.binOp op t x y u) = binOpR op t x y u := id rfl
theorem opR_unOp (op : UnOp) (t : TypeId) (x : Operand) : opR (.unOp op t x) = unOpR op t x := id rfl
theorem opR_convert (s d : TypeId) (x : Operand) : opR (.convert s d x) = convertR s d x := id rfl
theorem opR_indexAddr (t : TypeId) (x i : Operand) : opR (.indexAddr t x i) = indexAddrR t x i := id rfl
theorem opR_fieldAddr (t : TypeId) (x : Operand) (i : Nat) : opR (.fieldAddr t x i) = fieldAddrR t x i := id rfl
theorem opR_call (c : Call) : opR (.call c) = callR c := id rfl
theorem opR_range (t : TypeId) (x : Operand) : opR (.range t x) = rangeR t x := id rfl
theorem opR_extract (t : Operand) (i : Nat) : opR (.extract t i) = extractR t i := id rfl
theorem opR_next (x : Operand) (s : Bool) : opR (.next x s) = nextR x s := id rfl
theorem opR_entry (x : Operand) : opR (.entry x) = entryR x := id rfl
theorem opR_buildSlice (t : TypeId) (n : Nat) (ps : Array (Nat × Operand)) : opR (.buildSlice t n ps) = buildSliceR t n ps := id rfl
theorem opR_nilCheck (x : Operand) : opR (.nilCheck x) = nilCheckR x := id rfl
theorem opR_index (t : TypeId) (x i : Operand) : opR (.index t x i) = indexR t x i := id rfl
theorem opR_slice (t : TypeId) (x : Operand) (l h m : Option Operand) : opR (.slice t x l h m) = sliceR t x l h m := id rfl
theorem opR_makeSlice (t : TypeId) (l c : Operand) : opR (.makeSlice t l c) = makeSliceR t l c := id rfl
def fieldsOf (P : Program) (s : TypeId) : Array Field := match P.underlying s with
  | some (.struct fs) => fs
  | _ => #[]
theorem fieldAddr_run {s : TypeId} {x : Operand} {f d n : Nat} (hp : placeS C.P (fieldsOf C.P s) f = some (d, n + 1)) (o : Oper) (base : Hp) (fr : Fr) (ov : Hp) (nx : Nat) (K : KV) :
    fieldAddrR s x f o C E base fr ov nx K = evK fr x fun v => match v with
      | .ptr b off => K (.ptr b (off + d)) ov nx
      | _ => .bad o.pos := by
  have : fieldAddrR s x f o C E base fr ov nx K = evK fr x fun v => match placeS C.P (fieldsOf C.P s) f, v with
      | some (d, _ + 1), .ptr b off => forceN (off + d) fun off => K (.ptr b off) ov nx
      | _, _ => .bad o.pos := id rfl
  rw [this, hp]
  congr 1
  funext v
  cases v <;> simp only [forceN_eq]
theorem eql_ptr_nil {P : Program} {base ov : Hp} {t u : TypeId} {b : Id} {off : Nat} {w : String} {K : Bool → Ans} (hg : P.eqGuardType P.depth t = false) (hu : P.underlying t = some (.pointer u)) : eqlK P base ov t (.ptr b off) .nilp w K = K false := by
  unfold eqlK
  simp only [eqAnyK, hg]
  unfold eqV
  simp only [hu]
theorem eql_nil_nil {P : Program} {base ov : Hp} {t u : TypeId} {w : String} {K : Bool → Ans} (hg : P.eqGuardType P.depth t = false) (hu : P.underlying t = some (.pointer u)) : eqlK P base ov t .nilp .nilp w K = K true := by
  unfold eqlK
  simp only [eqAnyK, hg]
  unfold eqV
  simp only [hu]
theorem id_ne {m n : Nat} (h : m ≠ n) : ¬ (Id.of m = Id.of n) := fun e => h (Id.of_inj e)
theorem get_set_ne {t : Tr AV} {m n : Nat} {v : AV} (h : n ≠ m) : (t.set (Id.of m) v).get (Id.of n) = t.get (Id.of n) := by rw [Tr.get_set, if_neg (id_ne h)]
theorem get_set_eq {t : Tr AV} {m : Nat} {v : AV} : (t.set (Id.of m) v).get (Id.of m) = some v := by rw [Tr.get_set, if_pos rfl]
theorem get_set_if {t : Tr AV} {m n : Nat} {v : AV} : (t.set (Id.of m) v).get (Id.of n) = if n = m then some v else t.get (Id.of n) := by
  by_cases h : n = m
  · subst h; rw [get_set_eq, if_pos rfl]
  · rw [get_set_ne h, if_neg h]
theorem putK_some {fr : Fr} {nt d : Nat} {v : AV} {K : Fr → Ans} (h : d < nt) : putK fr nt (some d) v K = K (fr.set (Id.of d) v) := by
  have hb : Nat.blt d nt = true := by simpa using h
  simp only [putK, hb, Tr.setK_eq]
theorem binR_add : binR .add = addR := id rfl
theorem binR_sub : binR .sub = subR := id rfl
theorem binR_mul : binR .mul = mulR := id rfl
theorem binR_quo : binR .quo = quoR := id rfl
theorem binR_rem : binR .rem = remR := id rfl
theorem binR_lss : binR .lss = lssR := id rfl
theorem binR_leq : binR .leq = leqR := id rfl
theorem binR_gtr : binR .gtr = gtrR := id rfl
theorem binR_geq : binR .geq = geqR := id rfl
theorem binR_eql : binR .eql = eqlR := id rfl
theorem binR_neq : binR .neq = neqR := id rfl
theorem retI_eq (k : IntKind) (n : Int) (ov : Hp) (nx : Nat) (K : KV) : retI k n ov nx K = K (.int k n) ov nx := forceI_eq _ _
theorem retB_eq (b : Bool) (ov : Hp) (nx : Nat) (K : KV) : retB b ov nx K = K (.bool b) ov nx := forceB_eq _ _
theorem ikEq_self (k : IntKind) : ikEq k k = true := (ikEq_iff k k).2 rfl
theorem bothInts_same (k : IntKind) (a b : Int) (w : String) (K : IntKind → Int → Int → Ans) : bothInts (.int k a) (.int k b) w K = K k a b := by
  simp [bothInts, ikEq_self]
theorem wrapI_small' {k : IntKind} {n : Int} (h : k.wrap n = n) : wrapI k n = n := by rw [wrapI_eq, h]
section
variable (P : Program) (base ov : Hp) (t : TypeId) (k k' : IntKind) (a b : Int) (w : String) (nx : Nat) (K : KV)
theorem add_int : addR P base ov t (.int k a) (.int k b) w nx K = K (.int k (wrapI k (addI a b))) ov nx := by simp only [addR, bothInts_same, retI_eq]
theorem sub_int : subR P base ov t (.int k a) (.int k b) w nx K = K (.int k (wrapI k (subI a b))) ov nx := by simp only [subR, bothInts_same, retI_eq]
theorem mul_int : mulR P base ov t (.int k a) (.int k b) w nx K = K (.int k (wrapI k (a * b))) ov nx := by simp only [mulR, bothInts_same, retI_eq]
theorem bits_int (f : (k : IntKind) → BitVec k.bits → BitVec k.bits → BitVec k.bits) : bitsR f P base ov t (.int k a) (.int k b) w nx K = K (.int k (wrapI k (f k (BitVec.ofInt k.bits a) (BitVec.ofInt k.bits b)).toNat)) ov nx := by simp only [bitsR, bothInts_same, retI_eq]
theorem shl_int (n : Nat) : shlR P base ov t (.int k a) (.int k' (Int.ofNat n)) w nx K = K (.int k (wrapI k (a * 2 ^ (min n k.bits)))) ov nx := by simp only [shlR, retI_eq]
theorem shr_int (n : Nat) : shrR P base ov t (.int k a) (.int k' (Int.ofNat n)) w nx K = K (.int k (a.fdiv (2 ^ (min n k.bits)))) ov nx := by simp only [shrR, retI_eq]
theorem lss_int : lssR P base ov t (.int k a) (.int k b) w nx K = K (.bool (ltI a b)) ov nx := by simp only [lssR, lessK, bothInts_same, retB_eq]
theorem geq_int : geqR P base ov t (.int k a) (.int k b) w nx K = K (.bool (!ltI a b)) ov nx := by simp only [geqR, lessK, bothInts_same, retB_eq]
theorem gtr_int : gtrR P base ov t (.int k a) (.int k b) w nx K = K (.bool (ltI b a)) ov nx := by simp only [gtrR, lessK, bothInts_same, retB_eq]
theorem eql_int : eqlR P base ov t (.int k a) (.int k b) w nx K = K (.bool (eqI a b)) ov nx := by simp only [eqlR, eqlK, ikEq_self, retB_eq]
theorem neq_int : neqR P base ov t (.int k a) (.int k b) w nx K = K (.bool (!eqI a b)) ov nx := by simp only [neqR, eqlK, ikEq_self, retB_eq]
theorem binR_and : binR .and = bitsR (fun _ a b => a &&& b) := id rfl
theorem binR_or : binR .or = bitsR (fun _ a b => a ||| b) := id rfl
theorem binR_xor : binR .xor = bitsR (fun _ a b => a ^^^ b) := id rfl
theorem binR_shl : binR .shl = shlR := id rfl
theorem binR_shr : binR .shr = shrR := id rfl
theorem shr_one : shrR P base ov t (.int k a) (.int k' 1) w nx K = K (.int k (a.fdiv (2 ^ (min 1 k.bits)))) ov nx := shr_int P base ov t k k' a w nx K 1
theorem shr_four : shrR P base ov t (.int k a) (.int k' 4) w nx K = K (.int k (a.fdiv (2 ^ (min 4 k.bits)))) ov nx := shr_int P base ov t k k' a w nx K 4
theorem wrap_u32 (x : BitVec 32) : wrapI .u32 ((x.toNat : Nat) : Int) = Int.ofNat x.toNat := by
  have h : x.toNat < 4294967296 := x.isLt
  refine wrapI_small' ?_
  simp only [IntKind.wrap, IntKind.bits, IntKind.signed, Bool.false_and]
  have : ((2 : Int) ^ 32) = 4294967296 := by decide
  rw [this]
  show (if false = true then _ else _) = _
  simp only [Bool.false_eq_true, if_false]
  omega
theorem bits_u32 (f : (k : IntKind) → BitVec k.bits → BitVec k.bits → BitVec k.bits) : bitsR f P base ov t (.int .u32 a) (.int .u32 b) w nx K = K (.int .u32 (Int.ofNat (f .u32 (BitVec.ofInt 32 a) (BitVec.ofInt 32 b)).toNat)) ov nx := by
  rw [bits_int]
  exact congrArg (fun n => K (.int .u32 n) ov nx) (wrap_u32 _)
def x32 (a b : Int) : Nat := (BitVec.ofInt 32 a ^^^ BitVec.ofInt 32 b).toNat
def a32 (a b : Int) : Nat := (BitVec.ofInt 32 a &&& BitVec.ofInt 32 b).toNat
theorem and_u32 : bitsR (fun _ a b => a &&& b) P base ov t (.int .u32 a) (.int .u32 b) w nx K = K (.int .u32 (Int.ofNat (a32 a b))) ov nx := bits_u32 P base ov t a b w nx K _
theorem xor_u32 : bitsR (fun _ a b => a ^^^ b) P base ov t (.int .u32 a) (.int .u32 b) w nx K = K (.int .u32 (Int.ofNat (x32 a b))) ov nx := bits_u32 P base ov t a b w nx K _
theorem convert_int {s d : TypeId} {ds : TypeDesc} (hs : P.underlying s = some ds) (hd : P.underlying d = some (.int k)) : convertK P base ov nx s d (.int k' a) w K = K (.int k (wrapI k a)) ov nx := by
  unfold convertK
  rw [hs, hd]
  simp only [retI_eq]
end
theorem wrapI_small {k : IntKind} {n : Int} (h : k.wrap n = n) : wrapI k n = n := by rw [wrapI_eq, h]
end
end Go.Ab
/- The abstract machine of these proofs, part 34: what is asked behind a run, as a predicate; pieces of code. -/
namespace Go.Ab
open Go.RowKit
open Classical in
/-- A continuation that asks. -/
noncomputable def KP (p : AX → Fr → Hp → Nat → Prop) : KX := fun x fr ov nx => if p x fr ov nx then .ok [] else .bad ""
theorem KP_iff {p : AX → Fr → Hp → Nat → Prop} {x : AX} {fr : Fr} {ov : Hp} {nx : Nat} : Sat (KP p x fr ov nx) [] ↔ p x fr ov nx := by
  unfold KP
  constructor
  · intro h
    split at h
    · assumption
    · exact (not_sat_bad h).elim
  · intro h
    rw [if_pos h]
    exact ⟨[], rfl, fun _ h => h⟩
theorem Sat.nil : Sat (.ok []) [] := ⟨[], rfl, fun _ h => h⟩
theorem piece {C : Ctx} (hC : CtxOK C) {n : Nat} {c : Code} {p : AX → Fr → Hp → Nat → Prop} {z : Mk} {base : Hp} {ro : Option Id} {rn : Option Nat} {nt : Nat} {fr : Fr} {ov : Hp} {nx : Nat} {ρ : Rho} {a : Act} {w : World} {Q : Exit → Act → World → Prop}
    (h : St z base ro rn nt ρ fr ov a w) (hs : Sat (exec C n c base ro nt fr ov nx (KP p)) [])
    (hK : ∀ x fr' ov' nx' ρ' a' w', p x fr' ov' nx' → Thru base ρ ov w ρ' ov' w' → St z base ro rn nt ρ' fr' ov' a' w' → Q x.to a' w') : c.wpIn (FW rn) 0 C.P Q a w :=
  (sound_exec hC n c).go h hs fun x fr' ov' nx' ρ' a' w' h1 h2 h3 => hK x fr' ov' nx' ρ' a' w' (KP_iff.1 h1) h2 h3
theorem anyK_ok {one : MEnt → Ans} {l : List Out} : ∀ {e : MEnt} {L : List MEnt}, (∀ x ∈ e :: L, Sat (one x) l) → Sat (anyK one e L) l
  | e, [], h => h e (List.mem_cons_self ..)
  | e, e' :: L, h => by
    obtain ⟨l1, h1, g1⟩ := h e (List.mem_cons_self ..)
    obtain ⟨l2, h2, g2⟩ := anyK_ok (one := one) (e := e') (L := L) fun x hx => h x (List.mem_cons_of_mem _ hx)
    refine ⟨l1 ++ l2, ?_, fun x hx => ?_⟩
    · show Ans.both (one e) (anyK one e' L) = _
      rw [h1, h2]
      rfl
    · rcases List.mem_append.1 hx with h | h
      · exact g1 x h
      · exact g2 x h
/-- A summary that stands for a run of the machine itself. -/
theorem summ_of_run {C : Ctx} (hC : CtxOK C) {f n : Nat} {s : Summ} (h : ∀ base ov nx args K l, Sat (s base ov nx args K) l → Sat (callK C (exec C n) base f args ov nx K) l) : SummOK C.P f s := by
  intro base ov nx args K l ρ w args' R hh ha hs hR
  exact callK_ok hC (sound_exec hC n) hh ha (h base ov nx args K l hs) hR
theorem summ_of_run2 {C : Ctx} (hC : CtxOK C) {f n : Nat} {s : Summ} (h : ∀ base ov nx args K l ρ w (args' : Array Value), HR base ρ ov w → VRL ρ args args'.toList → Sat (s base ov nx args K) l → Sat (callK C (exec C n) base f args ov nx K) l) : SummOK C.P f s := by
  intro base ov nx args K l ρ w args' R hh ha hs hR
  exact callK_ok hC (sound_exec hC n) hh ha (h base ov nx args K l ρ w args' hh ha hs) hR
/-- What is read of a related block, place by place. -/
theorem readK_abs {base ov : Hp} {b : Id} {off n : Nat} {K : List AV → Ans} {l : List Out} {ρ : Rho} {w : World} {e : Ent} (h : HR base ρ ov w) (he : ρ b = some e) (hs : Sat (readK base ov b off n K) l) :
    ∃ m r p L, look base ov b = some (.cells m r p) ∧ off + n ≤ m ∧ L.length = n ∧ (∀ j, j < n → ∃ v, L[j]? = some v ∧ r.getR (off + j) = some v) ∧ Sat (K L) l := by
  unfold readK at hs
  split at hs
  · rename_i m r p hl
    split at hs
    · rename_i hb
      have hb : off + n ≤ m := by simpa using hb
      rw [Rows.subK_eq] at hs
      split at hs
      · rename_i L hsub
        obtain ⟨c, el, fz, _, _, _, _, _, g6, g7⟩ := h.block _ _ _ hl he
        obtain ⟨q1, q2⟩ := Rows.sub_get g6 hb hsub
        refine ⟨m, r, p, L, hl, hb, q1, fun j hj => ?_, hs⟩
        obtain ⟨v, v1, _⟩ := g7 (off + j) (by omega)
        exact ⟨v, by rw [q2 j hj]; exact v1, by rw [Rows.getR_eq]; exact v1⟩
      · exact (not_sat_bad hs).elim
    · exact (not_sat_bad hs).elim
  · exact (not_sat_bad hs).elim
theorem bytesOfCells_spec : ∀ {L : List AV} {bs : List Nat}, bytesOfCells L = some bs → bs.length = L.length ∧ ∀ (j : Nat) (v : AV), L[j]? = some v → ∃ x, bs[j]? = some x ∧ x < 256 ∧ v = .int .u8 (.ofNat x)
  | [], bs, h => by simp [bytesOfCells] at h; subst h; exact ⟨rfl, fun j v hv => by simp at hv⟩
  | a :: L, bs, h => by
    unfold bytesOfCells at h
    split at h
    · rename_i he; cases he
    · rename_i n l he
      cases he
      split at h
      · rename_i hn
        cases hb : bytesOfCells L with
        | none => rw [hb] at h; cases h
        | some xs =>
          rw [hb] at h
          simp at h
          subst h
          obtain ⟨g1, g2⟩ := bytesOfCells_spec hb
          refine ⟨by simp [g1], fun j v hv => ?_⟩
          cases j with
          | zero => simp at hv; subst hv; exact ⟨n, rfl, by simpa using hn, rfl⟩
          | succ j => simpa using g2 j v (by simpa using hv)
      · cases h
    · cases h
theorem callK_body {C : Ctx} {E : Code → R} {base ov : Hp} {f nx : Nat} {fn : Func} {args : List AV} {K : KV} (hS : C.S f = none) (hJ : C.J f = false) (hf : C.P.funcs[f]? = some fn) (hl : args.length ≤ fn.ntmps) :
    callK C E base f args ov nx K = bodyK C E base f fn args ov nx K := by
  have hb : Nat.ble args.length fn.ntmps = true := by simpa using hl
  simp only [callK, hS, hf, hb, hJ]
end Go.Ab
/- The abstract machine of these proofs, part 35: numbers that no block has; what lay there before, seen behind a run that made blocks of its own. -/
namespace Go.Ab
open Go.RowKit
/-! ### Numbers that no block has -/
def Id.len : Id → Nat
  | .h => 0
  | .o p => p.len + 1
  | .i p => p.len + 1
theorem Id.back_lt (p : Id) : p.back < 2 ^ (p.len + 1) := by
  induction p with
  | h => simp [Id.back, Id.len]
  | o p ih => simp only [Id.back, Id.len, Nat.pow_succ] at *; omega
  | i p ih => simp only [Id.back, Id.len, Nat.pow_succ] at *; omega
def Tr.depth {α : Type} : Tr α → Nat
  | .e => 0
  | .n l _ r => max l.depth r.depth + 1
theorem Tr.get_deep {α : Type} (t : Tr α) (p : Id) (h : t.depth ≤ p.len) : t.get p = none := by
  induction t generalizing p with
  | e => cases p <;> rfl
  | n l v r ihl ihr =>
    cases p with
    | h => simp [Tr.depth, Id.len] at h
    | o p => exact ihl p (by simp only [Tr.depth, Id.len] at h; omega)
    | i p => exact ihr p (by simp only [Tr.depth, Id.len] at h; omega)
theorem Tr.free {α : Type} (t : Tr α) : ∃ N, ∀ n, N ≤ n → t.get (Id.of n) = none := by
  refine ⟨2 ^ (t.depth + 1), fun n hn => t.get_deep _ ?_⟩
  have hb : (Id.of n).back = n + 1 := Id.back_ofF n (n + 1) (by omega) (by omega)
  have h1 := (Id.of n).back_lt
  rw [hb] at h1
  refine Nat.le_of_not_lt fun hc => ?_
  have : 2 ^ ((Id.of n).len + 1) ≤ 2 ^ (t.depth + 1) := Nat.pow_le_pow_right (by omega) (by omega)
  omega
def Free (base ov : Hp) (N : Nat) : Prop := ∀ n, N ≤ n → absent base ov (Id.of n) = true
theorem free_exists (base ov : Hp) : ∃ N, Free base ov N := by
  obtain ⟨N1, h1⟩ := Tr.free base
  obtain ⟨N2, h2⟩ := Tr.free ov
  refine ⟨max N1 N2, fun n hn => ?_⟩
  simp only [absent, Tr.getR_eq, h1 n (by omega), h2 n (by omega)]
theorem Free.set {base ov : Hp} {N : Nat} (h : Free base ov N) (n : Nat) (o : Option AO) : Free base (ov.set (Id.of n) o) (max N (n + 1)) := by
  intro m hm
  rw [absent_set, if_neg (id_ne (by omega))]
  exact h m (by omega)
theorem Free.setOld {base ov : Hp} {N : Nat} (h : Free base ov N) {b : Id} (hb : absent base ov b = false) (o : Option AO) : Free base (ov.set b o) N := by
  intro m hm
  rw [absent_set, if_neg (fun e => by rw [← e, h m hm] at hb; cases hb)]
  exact h m hm
theorem Free.mono {base ov : Hp} {N M : Nat} (h : Free base ov N) (hm : N ≤ M) : Free base ov M := fun n hn => h n (Nat.le_trans hm hn)

/-! ### The same values under the smaller relation -/
section
variable {ρ ρ' : Rho}
mutual
theorem VR.shrink (hle : ρ.le ρ') : ∀ {v : AV} {u v' : Value}, VR ρ v u → VR ρ' v v' → VR ρ v v'
  | _, _, _, .junk _, _ => .junk _
  | _, _, _, .bool _, h => by cases h; exact .bool _
  | _, _, _, .int _ _, h => by cases h; exact .int _ _
  | _, _, _, .str _, h => by cases h with | str h => exact .str h
  | _, _, _, .nilp, h => by cases h; exact .nilp
  | _, _, _, .ptr off hb, h => by
    cases h with
    | ptr _ hb' => have := hle _ _ hb; rw [this] at hb'; cases hb'; exact .ptr off hb
  | _, _, _, .gptr g off, h => by cases h; exact .gptr g off
  | _, _, _, .nils, h => by cases h; exact .nils
  | _, _, _, .sl hb _ _ _ _, h => by
    cases h with
    | sl hb' hc hx hl ha => have := hle _ _ hb; rw [this] at hb'; cases hb'; exact .sl hb hc hx hl ha
  | _, _, _, .nilm, h => by cases h; exact .nilm
  | _, _, _, .map hb, h => by
    cases h with
    | map hb' => have := hle _ _ hb; rw [this] at hb'; cases hb'; exact .map hb
  | _, _, _, .func h1 h2, h => by
    cases h with
    | func g1 g2 => exact .func (VRL.shrink hle h1 g1) (VRL.shrink hle h2 g2)
  | _, _, _, .yield hb, h => by
    cases h with
    | yield hb' => have := hle _ _ hb; rw [this] at hb'; cases hb'; exact .yield hb
  | _, _, _, .nilf, h => by cases h; exact .nilf
  | _, _, _, .nili, h => by cases h; exact .nili
  | _, _, _, .agg h1, h => by
    cases h with
    | agg g => exact .agg (VRC.shrink hle h1 g)
  | _, _, _, .tup h1, h => by
    cases h with
    | tup g => exact .tup (VRL.shrink hle h1 g)
theorem VRL.shrink (hle : ρ.le ρ') : ∀ {l : List AV} {m l' : List Value}, VRL ρ l m → VRL ρ' l l' → VRL ρ l l'
  | _, _, _, .nil, h => by cases h; exact .nil
  | _, _, _, .cons h1 t1, h => by
    cases h with
    | cons h2 t2 => exact .cons (VR.shrink hle h1 h2) (VRL.shrink hle t1 t2)
theorem VRC.shrink (hle : ρ.le ρ') : ∀ {l : List AV} {m l' : List Value}, VRC ρ l m → VRC ρ' l l' → VRC ρ l l'
  | _, _, _, .nil, h => by cases h; exact .nil
  | _, _, _, .cons c h1 t1, h => by
    cases h with
    | cons _ h2 t2 => exact .cons c (VR.shrink hle h1 h2) (VRC.shrink hle t1 t2)
end
theorem MRL.shrink (hle : ρ.le ρ') : ∀ {l : List MEnt} {m l' : List MapEntry}, MRL ρ l m → MRL ρ' l l' → MRL ρ l l'
  | [], _, _, h, k => by cases h; cases k; exact .nil
  | e :: l, _, _, h, k => by
    cases h with
    | cons h1 t1 =>
      cases k with
      | cons h2 t2 => exact .cons ⟨h1.key.shrink hle h2.key, h1.val.shrink hle h2.val, h2.born⟩ (MRL.shrink hle t1 t2)
theorem FR.shrink {nt : Nat} {fr : Fr} {tm tm' : Array Value} (hle : ρ.le ρ') (h : FR ρ nt fr tm) (k : FR ρ' nt fr tm') : FR ρ nt fr tm' := by
  refine ⟨k.size, fun t v ht => ?_⟩
  obtain ⟨u, _, h2⟩ := h.slot t v ht
  obtain ⟨u', g1, g2⟩ := k.slot t v ht
  exact ⟨u', g1, h2.shrink hle g2⟩
theorem OR.shrink {w w' : World} {e : Ent} {o : AO} (hle : ρ.le ρ') (h : OR ρ w e o) (k : OR ρ' w' e o) : OR ρ w' e o := by
  cases o with
  | cells n rows plain =>
    obtain ⟨c, el, fz, _, _, _, _, _, _, h7⟩ := h
    obtain ⟨c', el', fz', g1, g2, g3, g4, g5, g6, g7⟩ := k
    refine ⟨c', el', fz', g1, g2, g3, g4, g5, g6, fun i hi => ?_⟩
    obtain ⟨v, a1, a2, v', a3, a4⟩ := h7 i hi
    obtain ⟨u, b1, b2, u', b3, b4⟩ := g7 i hi
    rw [a1] at b1; cases b1
    exact ⟨v, a1, a2, u', b3, a4.shrink hle b4⟩
  | map es clock =>
    obtain ⟨es1, _, h2⟩ := h
    obtain ⟨es2, g1, g2⟩ := k
    exact ⟨es2, g1, h2.shrink hle g2⟩
  | miter m since seen last stepped nb =>
    obtain ⟨m1, s1, _, _, _, h4, _⟩ := h
    obtain ⟨m2, s2, g1, g2, g3, g4, g5⟩ := k
    refine ⟨m2, s2, g1, g2, g3, ?_, g5⟩
    cases m with
    | none => exact g4
    | some b =>
      obtain ⟨eb, p1, p2⟩ := h4
      obtain ⟨eb', q1, q2⟩ := g4
      have := hle _ _ p1
      rw [this] at q1; cases q1
      exact ⟨eb, p1, q2⟩
  | siter s pos => exact k
  | loop st pend fr nt ps assign body =>
    obtain ⟨L, _, _, _, h4, _⟩ := h
    obtain ⟨L', g1, g2, g3, g4, g5, g6, g7⟩ := k
    exact ⟨L', g1, g2, g3, h4.shrink hle g4, g5, g6, g7⟩
end
/-- What lay there before lies there still, behind a run that turned none of it. -/
theorem HR.distill {base ov0 ovf : Hp} {ρ0 ρf : Rho} {w0 wf : World} (h0 : HR base ρ0 ov0 w0) (hf : HR base ρf ovf wf) (ht : Thru base ρ0 ov0 w0 ρf ovf wf) (ho : ∀ b o, look base ov0 b = some o → look base ovf b = some o) : HR base ρ0 ov0 wf :=
  ⟨fun b o e hb he => (h0.block b o e hb he).shrink ht.ext.le (hf.block b o e (ho b o hb) (ht.ext.le _ _ he)), h0.inj, h0.dom, fun b e hb => Nat.lt_of_lt_of_le (h0.size b e hb) ht.ext.size⟩
/-- One block of the run's own is kept. -/
theorem HR.distillOne {base ov0 ovf : Hp} {ρ0 ρf : Rho} {w0 wf : World} (h0 : HR base ρ0 ov0 w0) (hf : HR base ρf ovf wf) (ht : Thru base ρ0 ov0 w0 ρf ovf wf) (ho : ∀ b o, look base ov0 b = some o → look base ovf b = some o)
    {b bf : Id} {o : AO} {e : Ent} (hb : absent base ov0 b = true) (hbf : absent base ov0 bf = true) (hl : look base ovf bf = some o) (he : ρf bf = some e) (hor : ∀ ρ, OR ρ wf e o) :
    HR base (upd ρ0 b e) (ov0.set b (some o)) wf ∧ Thru base ρ0 ov0 w0 (upd ρ0 b e) (ov0.set b (some o)) wf := by
  have hn := h0.dom b hb
  have hd := h0.distill hf ht ho
  constructor
  · refine (hd.lay (some o) hb).use hn (by rw [look_set, if_pos rfl]) (Nat.le_refl _) (hf.size _ _ he) (fun _ _ _ => rfl) (fun b1 o1 e1 h1 r1 hr => ?_) (hor _)
    have hne : b1 ≠ b := by intro k; subst k; rw [hn] at r1; cases r1
    rw [look_set, if_neg hne] at h1
    have := hf.inj b1 bf o1 o e1 e (ho _ _ h1) hl (ht.ext.le _ _ r1) he hr
    subst this
    rw [look_absent hbf] at h1
    cases h1
  · refine ⟨⟨upd_le _ hn, fun b1 e1 h1 => ?_, ht.ext.keep, ht.ext.size, ht.ext.os, ht.ext.tape, ht.ext.output⟩, fun b1 h1 h2 => ?_, fun b1 h1 => ?_⟩
    · unfold upd at h1
      split at h1
      · cases h1; exact ht.ext.fresh bf e he
      · exact .inr ⟨b1, e1, h1, rfl⟩
    · have hne : b1 ≠ b := by intro k; subst k; rw [hb] at h1; cases h1
      simp [upd, hne, h2]
    · rw [absent_set] at h1
      split at h1
      · cases h1
      · exact h1
end Go.Ab
/- The abstract machine of these proofs, part 36: the summary of the library's sort of whole numbers. -/
namespace Go.Ab
open Go.RowKit Go.Sort
/-- The numbers of a list of cells. -/
def intsOf : List AV → Option (List Int)
  | [] => some []
  | .int .i64 n :: l => (intsOf l).map (n :: ·)
  | _ => none
theorem intsOf_spec : ∀ {l : List AV} {zs : List Int}, intsOf l = some zs → l = zs.map (AV.int .i64)
  | [], zs, h => by simp [intsOf] at h; subst h; rfl
  | v :: l, zs, h => by
    unfold intsOf at h
    split at h
    · rename_i he; cases he
    · rename_i n l' he
      cases he
      cases hh : intsOf l with
      | none => rw [hh] at h; cases h
      | some ys =>
        rw [hh] at h
        simp at h
        subst h
        rw [intsOf_spec hh]
        rfl
    · cases h
def insI (n : Int) : List Int → List Int
  | [] => [n]
  | a :: l => if n ≤ a then n :: a :: l else a :: insI n l
def sortI : List Int → List Int
  | [] => []
  | a :: l => insI a (sortI l)
theorem insI_perm (n : Int) (l : List Int) : (insI n l).Perm (n :: l) := by
  induction l with
  | nil => exact .refl _
  | cons a l ih =>
    simp only [insI]
    split
    · exact .refl _
    · exact (ih.cons a).trans (List.Perm.swap n a l)
theorem sortI_perm (l : List Int) : (sortI l).Perm l := by
  induction l with
  | nil => exact .refl _
  | cons a l ih => exact (insI_perm a _).trans (ih.cons a)
theorem insI_sorted (n : Int) (l : List Int) (h : l.Pairwise (· ≤ ·)) : (insI n l).Pairwise (· ≤ ·) := by
  induction l with
  | nil => simp [insI]
  | cons a l ih =>
    obtain ⟨h1, h2⟩ := List.pairwise_cons.1 h
    simp only [insI]
    split
    · rename_i hle
      refine List.pairwise_cons.2 ⟨fun b hb => ?_, h⟩
      rcases List.mem_cons.1 hb with rfl | hb
      · exact hle
      · exact Int.le_trans hle (h1 b hb)
    · rename_i hle
      refine List.pairwise_cons.2 ⟨fun b hb => ?_, ih h2⟩
      rcases List.mem_cons.1 ((insI_perm n l).mem_iff.1 hb) with rfl | hb
      · omega
      · exact h1 b hb
theorem sortI_sorted (l : List Int) : (sortI l).Pairwise (· ≤ ·) := by
  induction l with
  | nil => exact .nil
  | cons a l ih => exact insI_sorted a _ ih
theorem sorted_perm_eq {l m : List Int} (hl : l.Pairwise (· ≤ ·)) (hm : m.Pairwise (· ≤ ·)) (h : l.Perm m) : l = m :=
  List.Perm.eq_of_pairwise (le := (· ≤ ·)) (fun _ _ _ _ => Int.le_antisymm) hl hm h
theorem mergeSort_sortI {l m : List Int} (h : l.Perm m) : l.mergeSort (fun x y => decide (x ≤ y)) = sortI m := by
  refine sorted_perm_eq ?_ (sortI_sorted m) (((List.mergeSort_perm l _).trans h).trans (sortI_perm m).symm)
  have := List.pairwise_mergeSort (le := fun (x y : Int) => decide (x ≤ y)) (fun a b c h1 h2 => by simp only [decide_eq_true_eq] at *; omega) (fun a b => by simp only [Bool.or_eq_true, decide_eq_true_eq]; omega) l
  exact this.imp (by simp)
/-- The sort of a whole block. -/
noncomputable def sortS : Summ := fun base ov nx args K =>
  match args with
  | [.nils] => K (.tup []) ov nx
  | [.sl b 0 len _cap 1 _ex] => match look base ov b with
    | some (.cells n (.flat l) p) => match Nat.beq n len && Nat.blt 0 n && Nat.blt n 4611686018427387904, intsOf l with
      | true, some zs => forceL ((sortI zs).map (AV.int .i64)) fun l => Tr.setK (some (.cells n (.flat l) p)) ov b fun ov => K (.tup []) ov nx
      | _, _ => .bad "sort"
    | _ => .bad "sort block"
  | _ => .bad "sort args"
structure Turned (r : Nat) (w w' : World) : Prop where
  size : w.heap.size ≤ w'.heap.size
  other : ∀ k, k < w.heap.size → k ≠ r → w'.heap[k]? = w.heap[k]?
  os : w'.os = w.os
  tape : w'.tape = w.tape
  output : w'.output = w.output
section
variable {base ov : Hp} {ρ : Rho} {w w' : World}
theorem HR.turn {b : Id} {o o' : AO} {e : Ent} (h : HR base ρ ov w) (hb : look base ov b = some o) (he : ρ b = some e) (hw : Turned e.r w w') (ho : OR ρ w' e o') : HR base ρ (ov.set b (some o')) w' := by
  have hk : HR base ρ (ov.set b (some o)) w := h.set hb he (.refl _ _) (h.block b o e hb he)
  refine ⟨fun b1 o1 e1 h1 r1 => ?_, fun b1 b2 o1 o2 e1 e2 h1 h2 r1 r2 hr => ?_, fun b1 h1 => hk.dom b1 (by rw [absent_set] at h1 ⊢; exact h1), fun b1 e1 h1 => Nat.lt_of_lt_of_le (h.size b1 e1 h1) hw.size⟩
  · rw [look_set] at h1
    split at h1
    · rename_i hbb; subst hbb; cases h1; rw [he] at r1; cases r1; exact ho
    · rename_i hbb
      exact (h.block b1 o1 e1 h1 r1).mono ρ.le_refl (hw.other _ (h.size _ _ r1) fun hr => hbb (h.inj b1 b o1 o e1 e h1 hb r1 he hr))
  · have f : ∀ b3 o3, look base (ov.set b (some o')) b3 = some o3 → ∃ o4, look base ov b3 = some o4 := by
      intro b3 o3 h3
      rw [look_set] at h3
      split at h3
      · rename_i hbb; subst hbb; exact ⟨o, hb⟩
      · exact ⟨o3, h3⟩
    obtain ⟨p1, q1⟩ := f b1 o1 h1
    obtain ⟨p2, q2⟩ := f b2 o2 h2
    exact h.inj b1 b2 p1 p2 e1 e2 q1 q2 r1 r2 hr
theorem Thru.turn {b : Id} {o : Option AO} {e : Ent} (he : ρ b = some e) (hw : Turned e.r w w') : Thru base ρ ov w ρ (ov.set b o) w' := by
  refine ⟨⟨ρ.le_refl, fun b e h => .inr ⟨b, e, h, rfl⟩, fun r hr hn => hw.other r hr fun hh => hn b e he hh.symm, hw.size, hw.os, hw.tape, hw.output⟩, fun _ _ h => h, fun b1 h1 => ?_⟩
  rw [absent_set] at h1
  split at h1
  · cases h1
  · exact h1
end
def SortCalls (P : Program) (f : Nat) : Prop := ∀ (blk off cap : Nat) (zs : List Int) (w : World), Holds (Value.int .i64) w blk off zs.toArray → blk < w.heap.size → zs.length < 4611686018427387904 →
  Calls P f #[.slice (some ⟨blk, off, none⟩) zs.length cap] w fun e w' => e = .returned (.tuple #[]) ∧ ∃ n os, w' = grow (putRow (Value.int .i64) (Sort.ahead w n) blk off (zs.mergeSort fun x y => decide (x ≤ y)).toArray) os
theorem sort_summ {P : Program} {f : Nat} {fn : Func} (hf : P.funcs[f]? = some fn) (hn : (fn.name == "runtime.NumGoroutine") = false) (hb : fn.body.isSome = true) (hs : SortCalls P f)
    (h0 : ∀ w, Calls P f #[.slice none 0 0] w fun e w' => e = .returned (.tuple #[]) ∧ w' = w) : SummOK P f sortS := by
  intro base ov nx args K l ρ w args' R h ha hsat hR
  obtain ⟨A⟩ := args'
  replace ha : VRL ρ args A := ha
  unfold sortS at hsat
  split at hsat
  · cases ha with
    | cons hx ht =>
      cases ht with
      | nil =>
        cases hx
        refine ⟨fn, hf, hn, hb, (callsIn_wide.2 (h0 w)).mono ?_⟩
        rintro e w' ⟨rfl, rfl⟩
        exact ⟨_, rfl, hR _ ov nx ρ _ _ hsat (.refl _ _ _ _) h (.tup .nil)⟩
  · rename_i b len cap ex
    split at hsat
    · rename_i n L p hl
      split at hsat
      · rename_i hc hz
        rw [forceL_eq, Tr.setK_eq] at hsat
        simp only [Bool.and_eq_true, Nat.beq_eq, Nat.blt_eq] at hc
        obtain ⟨⟨rfl, hpos⟩, hbig⟩ := hc
        rename_i zs
        have hL := intsOf_spec hz
        subst hL
        cases ha with
        | cons hx ht =>
          cases ht with
          | nil =>
            cases hx with
            | @sl _ e _ _ _ cap' _ _ a hbe hcc hcx hlc haa =>
              obtain ⟨c, el, fz, g1, g2, g3, g4, g5, g6, g7⟩ := h.block _ _ _ hl hbe
              have hlen : zs.length = n := by
                have g6 : (zs.map (AV.int .i64)).length = n := g6
                simpa using g6
              obtain ⟨ha1, _⟩ := haa (by omega)
              subst ha1
              have hcell : ∀ i, i < n → c[e.d + i]? = some (.int .i64 (zs.getD i 0)) := by
                intro i hi
                obtain ⟨v, q1, q2, v', q3, q4⟩ := g7 i hi
                have q1 : (zs.map (AV.int .i64))[i]? = some v := q1
                rw [List.getElem?_map] at q1
                have : zs[i]? = some (zs.getD i 0) := by simp [List.getD, List.getElem?_eq_getElem (show i < zs.length by omega)]
                rw [this] at q1
                simp at q1
                subst q1
                cases q4
                exact q3
              have hH : Holds (Value.int .i64) w e.r (e.d + 0) zs.toArray := by
                intro j hj
                have hj' : j < n := by simp at hj; omega
                refine ⟨?_, ?_⟩
                · rw [cell_of g1, Nat.add_zero, hcell j hj']
                  simp [List.getD, List.getElem?_eq_getElem (show j < zs.length by omega)]
                · exact frozen_clean g1 (by rw [g2]; exact g4) (by omega)
              have hlt := h.size _ _ hbe
              have hcall := hs e.r (e.d + 0) cap' zs w hH hlt (by omega)
              rw [hlen] at hcall
              refine ⟨fn, hf, hn, hb, (callsIn_wide.2 hcall).mono ?_⟩
              rintro x w' ⟨rfl, m, os, rfl⟩
              have hms : zs.mergeSort (fun x y => decide (x ≤ y)) = sortI zs := mergeSort_sortI (.refl _)
              rw [hms]
              have hsl : (sortI zs).length = n := by rw [(sortI_perm zs).length_eq, hlen]
              have hheap : ∀ k, k < w.heap.size → (grow (putRow (Value.int .i64) (Sort.ahead w m) e.r (e.d + 0) (sortI zs).toArray) os).heap[k]? = if k = e.r then some (.cells (putCells (Value.int .i64) (e.d + 0) (sortI zs).toArray c) el fz) else w.heap[k]? := by
                intro k hk
                rw [heap_grow_old _ _ (by simpa using hk)]
                simp only [putRow, mapBlock, Sort.ahead, Array.getElem?_modify]
                by_cases hkr : e.r = k
                · subst hkr
                  simp [g1, onCells]
                · rw [if_neg hkr, if_neg (fun e => hkr e.symm)]
              have hT : Turned e.r w (grow (putRow (Value.int .i64) (Sort.ahead w m) e.r (e.d + 0) (sortI zs).toArray) os) :=
                ⟨by simp, fun k hk hne => by rw [hheap k hk, if_neg hne], rfl, rfl, rfl⟩
              refine ⟨_, rfl, hR _ _ nx ρ _ _ hsat (.turn hbe hT) (h.turn hl hbe hT ?_) (.tup .nil)⟩
              refine ⟨_, el, fz, by rw [hheap _ hlt, if_pos rfl], by simp [putCells, g2], g3, g4, g5, by show ((sortI zs).map (AV.int .i64)).length = n; simp [hsl], fun i hi => ?_⟩
              have hi2 : i < (sortI zs).length := by omega
              refine ⟨.int .i64 ((sortI zs)[i]), ?_, rfl, .int .i64 ((sortI zs)[i]), ?_, .int _ _⟩
              · show ((sortI zs).map (AV.int .i64))[i]? = _
                simp [hi2]
              · simp only [putCells, Nat.add_zero, Array.getElem?_mapIdx]
                have : c[e.d + i]? = some (c[e.d + i]'(by omega)) := by simp [show e.d + i < c.size by omega]
                rw [this]
                simp [hi2]
      · exact (not_sat_bad hsat).elim
    · exact (not_sat_bad hsat).elim
  · exact (not_sat_bad hsat).elim
end Go.Ab
/- The abstract machine of these proofs, part 37: keys of a map, collected in whatever order and sorted: what every such function shares. -/
namespace Go.Ab
open Go.RowKit Go.Sort
def keyI (e : MEnt) : Int := match e.key with
  | .int _ n => n
  | _ => 0
def isIntKey (e : MEnt) : Bool := match e.key with
  | .int .i64 _ => true
  | _ => false
theorem isIntKey_spec {e : MEnt} (h : isIntKey e = true) : e.key = .int .i64 (keyI e) := by
  unfold isIntKey at h
  unfold keyI
  split at h
  · rename_i n he; rw [he]
  · cases h
/-- Stamps rise, and lie below the clock. -/
def rising : List MEnt → Nat → Bool
  | [], _ => true
  | e :: l, lo => Nat.ble lo e.born && rising l (e.born + 1)
theorem rising_ge : ∀ {l : List MEnt} {lo : Nat}, rising l lo = true → ∀ e ∈ l, lo ≤ e.born
  | [], _, _, _, h => by cases h
  | a :: l, lo, h, e, he => by
    simp only [rising, Bool.and_eq_true, Nat.ble_eq] at h
    rcases List.mem_cons.1 he with rfl | he
    · exact h.1
    · have := rising_ge h.2 e he; omega
theorem rising_nodup : ∀ {l : List MEnt} {lo : Nat}, rising l lo = true → l.Pairwise (fun x y => x.born ≠ y.born)
  | [], _, _ => .nil
  | a :: l, lo, h => by
    simp only [rising, Bool.and_eq_true, Nat.ble_eq] at h
    refine List.pairwise_cons.2 ⟨fun e he => ?_, rising_nodup h.2⟩
    have := rising_ge h.2 e he
    omega
def goodEs (es : List MEnt) (clock : Nat) : Bool := es.all isIntKey && (es.all fun e => Nat.blt e.born clock) && rising es 0 && Nat.blt es.length 100000
theorem find_born : ∀ {l : List MEnt}, l.Pairwise (fun x y => x.born ≠ y.born) → ∀ x ∈ l, l.find? (fun e => Nat.beq e.born x.born) = some x
  | a :: l, h, x, hx => by
    obtain ⟨h1, h2⟩ := List.pairwise_cons.1 h
    rw [List.find?_cons]
    rcases List.mem_cons.1 hx with rfl | hx
    · simp
    · have : Nat.beq a.born x.born = false := by rw [Bool.eq_false_iff]; simpa using h1 x hx
      rw [this]
      exact find_born h2 x hx
theorem notSeen_ins (b : Nat) (seen : List Nat) (e : MEnt) : notSeen (ins b seen) e = (notSeen seen e && !Nat.beq e.born b) := by
  have hm : ∀ x, x ∈ ins b seen ↔ x = b ∨ x ∈ seen := by
    intro x
    induction seen with
    | nil => simp [ins]
    | cons a l ih =>
      simp only [ins]
      split
      · simp
      · simp only [List.mem_cons, ih]
        constructor
        · rintro (h | h | h) <;> simp [h]
        · rintro (h | h | h) <;> simp [h]
  rw [Bool.eq_iff_iff]
  simp only [notSeen, List.all_eq_true, Bool.and_eq_true, Bool.not_eq_true']
  constructor
  · intro h
    refine ⟨fun s hs => h s ((hm s).2 (.inr hs)), ?_⟩
    have := h b ((hm b).2 (.inl rfl))
    rw [Bool.eq_false_iff] at this ⊢
    simp at this ⊢
    exact fun e => this e.symm
  · rintro ⟨h1, h2⟩ s hs
    rcases (hm s).1 hs with rfl | hs
    · rw [Bool.eq_false_iff] at h2 ⊢
      simp at h2 ⊢
      exact fun e => h2 e.symm
    · exact h1 s hs
theorem perm_out : ∀ {u : List MEnt}, u.Pairwise (fun x y => x.born ≠ y.born) → ∀ e ∈ u, u.Perm (e :: u.filter fun y => !Nat.beq y.born e.born)
  | a :: u, h, e, he => by
    obtain ⟨h1, h2⟩ := List.pairwise_cons.1 h
    rcases List.mem_cons.1 he with rfl | he
    · have h3 : (u.filter fun y => !Nat.beq y.born e.born) = u := by
        rw [List.filter_eq_self]
        intro y hy
        have : Nat.beq y.born e.born = false := by rw [Bool.eq_false_iff]; simp; exact fun k => h1 y hy k.symm
        rw [this]; rfl
      rw [List.filter_cons]
      simp [h3]
    · have : (!Nat.beq a.born e.born) = true := by
        have : Nat.beq a.born e.born = false := by rw [Bool.eq_false_iff]; simpa using h1 e he
        rw [this]; rfl
      rw [List.filter_cons, if_pos this]
      exact ((perm_out h2 e he).cons a).trans (List.Perm.swap e a _)
theorem filter_ins (b : Nat) (seen : List Nat) (es : List MEnt) : es.filter (notSeen (ins b seen)) = (es.filter (notSeen seen)).filter fun y => !Nat.beq y.born b := by
  rw [List.filter_filter]
  congr 1
  funext y
  rw [notSeen_ins, Bool.and_comm]
/-- What was met so far, and what is to come. -/
structure Met (es : List MEnt) (seen : List Nat) (met : List MEnt) : Prop where
  perm : (met ++ es.filter (notSeen seen)).Perm es
theorem Met.start (es : List MEnt) : Met es [] [] := by
  refine ⟨?_⟩
  have : es.filter (notSeen []) = es := by rw [List.filter_eq_self]; intro _ _; rfl
  rw [this]
  exact .refl _
theorem Met.step {es : List MEnt} {seen : List Nat} {met : List MEnt} (hn : es.Pairwise (fun x y => x.born ≠ y.born)) (h : Met es seen met) {e : MEnt} (he : e ∈ es) (hs : notSeen seen e = true) :
    Met es (ins e.born seen) (met ++ [e]) ∧ (es.filter (notSeen (ins e.born seen))).length < (es.filter (notSeen seen)).length := by
  have hp := perm_out (hn.filter (notSeen seen)) e (List.mem_filter.2 ⟨he, hs⟩)
  rw [← filter_ins] at hp
  refine ⟨⟨?_⟩, ?_⟩
  · refine .trans ?_ h.perm
    rw [List.append_assoc]
    exact (hp.symm).append_left met
  · rw [hp.length_eq]; simp
theorem Met.done {es : List MEnt} {seen : List Nat} {met : List MEnt} (h : Met es seen met) (hu : es.filter (notSeen seen) = []) : sortI (met.map keyI) = sortI (es.map keyI) := by
  have hp := h.perm
  rw [hu, List.append_nil] at hp
  exact sorted_perm_eq (sortI_sorted _) (sortI_sorted _) (((sortI_perm _).trans (hp.map keyI)).trans (sortI_perm _).symm)
theorem Met.len {es : List MEnt} {seen : List Nat} {met : List MEnt} (h : Met es seen met) : met.length ≤ es.length := by
  have := h.perm.length_eq
  simp at this
  omega
/-- Keys of the map in a cell behind a pointer, sorted. -/
noncomputable def keysS (cell : Nat) : Summ := fun base ov nx args K =>
  match args with
  | [.nilp] => K .nils ov nx
  | [.ptr b off] => readOneK base ov b (off + cell) fun v => match v with
    | .map m => match look base ov m with
      | some (.map es clock) => match goodEs es clock with
        | true => match sortI (es.map keyI) with
          | [] => K .nils ov nx
          | ks => newB base ov nx (.cells ks.length (.flat (ks.map (AV.int .i64))) true) fun b ov nx => ret1 (.sl b 0 ks.length ks.length 1 false) ov nx K
        | false => .bad "keysS entries"
      | _ => .bad "keysS map"
    | _ => .bad "keysS cell"
  | _ => .bad "keysS"
/-- A loop, its rounds counted down. -/
theorem loop_nat {P : Program} {F : Fence} {n : Nat} {c : Code} {Q : Exit → Act → World → Prop} (I : Nat → Act → World → Prop) {m : Nat} {a : Act} {w : World} (h : I m a w)
    (round : ∀ m a w, I m a w → c.wpIn F n P (Exit.then (fun a' w' => ∃ m', m' < m ∧ I m' a' w') Q) a w) : (Code.loop c).wpIn F n P Q a w := by
  classical
  let μ : Act → World → Nat := fun a w => if e : ∃ m, I m a w then Classical.choose (least_of e) else 0
  refine wpIn_loop (fun a w => ∃ m, I m a w) μ ⟨m, h⟩ ?_
  intro a1 w1 hI
  have hμ : μ a1 w1 = Classical.choose (least_of hI) := dif_pos hI
  have hspec := (Classical.choose_spec (least_of hI)).1
  rw [← hμ] at hspec
  refine wpIn_mono (round _ a1 w1 hspec) ?_
  intro e a2 w2 hq
  cases e with
  | normal =>
    obtain ⟨m', hlt, hI2⟩ := hq
    refine ⟨⟨m', hI2⟩, ?_⟩
    have h2 : μ a2 w2 = Classical.choose (least_of ⟨m', hI2⟩) := dif_pos ⟨m', hI2⟩
    rw [h2]
    exact Nat.lt_of_le_of_lt ((Classical.choose_spec (least_of ⟨m', hI2⟩)).2 m' hI2) hlt
  | _ => exact hq
open Classical in
noncomputable def KPV (p : AV → Hp → Nat → Prop) : KV := fun v ov nx => if p v ov nx then .ok [] else .bad ""
theorem KPV_iff {p : AV → Hp → Nat → Prop} {v : AV} {ov : Hp} {nx : Nat} : Sat (KPV p v ov nx) [] ↔ p v ov nx := by
  unfold KPV
  constructor
  · intro h
    split at h
    · assumption
    · exact (not_sat_bad h).elim
  · intro h
    rw [if_pos h]
    exact Sat.nil
/-- A block of whole numbers is one under whatever relation. -/
theorem OR_ints {ρ ρ' : Rho} {w : World} {e : Ent} {n : Nat} {zs : List Int} {p : Bool} (h : OR ρ w e (.cells n (.flat (zs.map (AV.int .i64))) p)) : OR ρ' w e (.cells n (.flat (zs.map (AV.int .i64))) p) := by
  obtain ⟨c, el, fz, g1, g2, g3, g4, g5, g6, g7⟩ := h
  refine ⟨c, el, fz, g1, g2, g3, g4, g5, g6, fun i hi => ?_⟩
  obtain ⟨v, q1, q2, v', q3, q4⟩ := g7 i hi
  refine ⟨v, q1, q2, v', q3, ?_⟩
  have q1 : (zs.map (AV.int .i64))[i]? = some v := q1
  rw [List.getElem?_map] at q1
  cases hz : zs[i]? with
  | none => rw [hz] at q1; cases q1
  | some z =>
    rw [hz] at q1
    simp at q1
    subst q1
    cases q4
    exact .int _ _
end Go.Ab
/- The abstract machine of these proofs, part 40: strings.Count and strings.Index at one byte. -/
namespace Go.Ab
open Go.RowKit
noncomputable def countN (l : List Nat) (c : Nat) : Nat := List.rec (motive := fun _ => Nat) 0 (fun a _ r => match Nat.beq a c with | true => r + 1 | false => r) l
noncomputable def indexN (l : List Nat) (c : Nat) : Nat → Int := List.rec (motive := fun _ => Nat → Int) (fun _ => .negSucc 0) (fun a _ r i => match Nat.beq a c with | true => .ofNat i | false => r (i + 1)) l
theorem beq_toNat (a c : UInt8) : Nat.beq a.toNat c.toNat = (a == c) := by
  cases h : a == c with
  | true => rw [eq_of_beq h]; exact Nat.beq_refl _
  | false =>
    have hne : a ≠ c := fun e => by subst e; simp at h
    rw [Bool.eq_false_iff]
    intro hh
    exact hne (UInt8.toNat_inj.1 (Nat.eq_of_beq_eq_true hh))
theorem countN_cons (a : Nat) (l : List Nat) (c : Nat) : countN (a :: l) c = (match Nat.beq a c with | true => countN l c + 1 | false => countN l c) := rfl
theorem countN_eq (l : List UInt8) (c : UInt8) : countN (l.map UInt8.toNat) c.toNat = Lib.countByte l c := by
  unfold Lib.countByte
  induction l with
  | nil => rfl
  | cons a l ih =>
    rw [List.map_cons, countN_cons, beq_toNat, ih, List.count_cons]
    cases a == c <;> rfl
theorem indexN_cons (a : Nat) (l : List Nat) (c i : Nat) : indexN (a :: l) c i = (match Nat.beq a c with | true => .ofNat i | false => indexN l c (i + 1)) := rfl
theorem indexN_eq (l : List UInt8) (c : UInt8) : ∀ i, indexN (l.map UInt8.toNat) c.toNat i = if Lib.indexByte l c = -1 then -1 else Lib.indexByte l c + i := by
  induction l with
  | nil => intro i; rfl
  | cons a l ih =>
    intro i
    have hge := Lib.indexByte_ge l c
    rw [List.map_cons, indexN_cons, beq_toNat]
    unfold Lib.indexByte
    cases h : a == c with
    | true => simp
    | false =>
      simp only [ih, beq_iff_eq, Bool.false_eq_true, if_false]
      by_cases hi : Lib.indexByte l c = -1
      · simp [hi]
      · have : ¬ (Lib.indexByte l c + 1 = -1) := by omega
        simp only [hi, if_false, this]
        push_cast
        omega
noncomputable def strCountS : Summ := fun _ ov nx args K =>
  match args with
  | [.str s, .str [c]] => forceN (countN s c) fun n => K (.int .i64 (.ofNat n)) ov nx
  | _ => .bad "strings.Count"
noncomputable def strIndexS : Summ := fun _ ov nx args K =>
  match args with
  | [.str s, .str [c]] => forceI (indexN s c 0) fun n => K (.int .i64 n) ov nx
  | _ => .bad "strings.Index"
theorem one_byte {ρ : Rho} {c : Nat} {v : Value} (h : VR ρ (.str [c]) v) : ∃ b : UInt8, v = .string ⟨#[b]⟩ ∧ b.toNat = c := by
  cases h with
  | @str _ s' h =>
    obtain ⟨⟨d⟩⟩ := s'
    match d, h with
    | [b], h => exact ⟨b, rfl, by simpa using h⟩
    | [], h => simp at h
    | _ :: _ :: _, h => simp at h
theorem strCount_summ {P : Program} {f : Nat} {fn : Func} (hf : P.funcs[f]? = some fn) (hn : (fn.name == "runtime.NumGoroutine") = false) (hb : fn.body.isSome = true)
    (hs : ∀ (s : ByteArray) (c : UInt8) (w : World), Calls P f #[.string s, .string ⟨#[c]⟩] w fun e w' => e = .returned (.int .i64 (Lib.countByte s.data.toList c)) ∧ w' = w) : SummOK P f strCountS := by
  intro base ov nx args K l ρ w args' R h ha hsat hR
  obtain ⟨A⟩ := args'
  replace ha : VRL ρ args A := ha
  unfold strCountS at hsat
  split at hsat
  · rename_i s c
    cases ha with
    | cons hx ht =>
      cases ht with
      | cons hy ht =>
        cases ht
        obtain ⟨b, rfl, rfl⟩ := one_byte hy
        cases hx with
        | @str _ s' hs' =>
          subst hs'
          rw [forceN_eq, countN_eq] at hsat
          refine ⟨fn, hf, hn, hb, (callsIn_wide.2 (hs s' b w)).mono ?_⟩
          rintro e w' ⟨rfl, rfl⟩
          exact ⟨_, rfl, hR _ ov nx ρ _ _ hsat (.refl _ _ _ _) h (.int _ _)⟩
  · exact (not_sat_bad hsat).elim
theorem strIndex_summ {P : Program} {f : Nat} {fn : Func} (hf : P.funcs[f]? = some fn) (hn : (fn.name == "runtime.NumGoroutine") = false) (hb : fn.body.isSome = true)
    (hs : ∀ (s : ByteArray) (c : UInt8) (w : World), Calls P f #[.string s, .string ⟨#[c]⟩] w fun e w' => e = .returned (.int .i64 (Lib.indexByte s.data.toList c)) ∧ w' = w) : SummOK P f strIndexS := by
  intro base ov nx args K l ρ w args' R h ha hsat hR
  obtain ⟨A⟩ := args'
  replace ha : VRL ρ args A := ha
  unfold strIndexS at hsat
  split at hsat
  · rename_i s c
    cases ha with
    | cons hx ht =>
      cases ht with
      | cons hy ht =>
        cases ht
        obtain ⟨b, rfl, rfl⟩ := one_byte hy
        cases hx with
        | @str _ s' hs' =>
          subst hs'
          have he : indexN (s'.data.toList.map UInt8.toNat) b.toNat 0 = Lib.indexByte s'.data.toList b := by
            rw [indexN_eq]
            split
            · rename_i h; exact h.symm
            · simp
          rw [forceI_eq, he] at hsat
          refine ⟨fn, hf, hn, hb, (callsIn_wide.2 (hs s' b w)).mono ?_⟩
          rintro e w' ⟨rfl, rfl⟩
          exact ⟨_, rfl, hR _ ov nx ρ _ _ hsat (.refl _ _ _ _) h (.int _ _)⟩
  · exact (not_sat_bad hsat).elim
end Go.Ab
/- The abstract machine of these proofs, part 40b: strings.Compare. -/
namespace Go.Ab
open Go.RowKit
noncomputable def cmpN (a b : List Nat) : Int := match eqNs a b with
  | true => .ofNat 0
  | false => match lessNs a b with
    | true => .negSucc 0
    | false => .ofNat 1
theorem cmpN_eq : ∀ (a b : List UInt8), cmpN (a.map UInt8.toNat) (b.map UInt8.toNat) = Lib.compareBytes a b
  | [], [] => rfl
  | [], _ :: _ => rfl
  | _ :: _, [] => rfl
  | a :: as, b :: bs => by
    have ih := cmpN_eq as bs
    unfold cmpN at ih
    unfold cmpN Lib.compareBytes
    simp only [List.map_cons, eqNs, lessNs]
    by_cases h1 : a < b
    · have h2 : a.toNat < b.toNat := UInt8.lt_iff_toNat_lt.1 h1
      have e1 : Nat.beq a.toNat b.toNat = false := by rw [Bool.eq_false_iff]; intro h; have := Nat.eq_of_beq_eq_true h; omega
      have e2 : Nat.blt a.toNat b.toNat = true := by simpa using h2
      rw [if_pos h1, e1, e2]
      rfl
    · by_cases h2 : b < a
      · have h3 : b.toNat < a.toNat := UInt8.lt_iff_toNat_lt.1 h2
        have e1 : Nat.beq a.toNat b.toNat = false := by rw [Bool.eq_false_iff]; intro h; have := Nat.eq_of_beq_eq_true h; omega
        have e2 : Nat.blt a.toNat b.toNat = false := by rw [Bool.eq_false_iff]; intro h; simp at h; omega
        rw [if_neg h1, if_pos h2, e1, e2]
        rfl
      · have n1 : ¬ a.toNat < b.toNat := fun h => h1 (UInt8.lt_iff_toNat_lt.2 h)
        have n2 : ¬ b.toNat < a.toNat := fun h => h2 (UInt8.lt_iff_toNat_lt.2 h)
        have e : a.toNat = b.toNat := by omega
        have e1 : Nat.beq a.toNat b.toNat = true := by rw [e]; exact Nat.beq_refl _
        have e2 : Nat.blt a.toNat b.toNat = false := by rw [Bool.eq_false_iff]; intro h; simp at h; omega
        rw [if_neg h1, if_neg h2, e1, e2, ← ih]
        rfl
noncomputable def strCmpS : Summ := fun _ ov nx args K =>
  match args with
  | [.str s, .str t] => forceI (cmpN s t) fun n => K (.int .i64 n) ov nx
  | _ => .bad "strings.Compare"
theorem strCmp_summ {P : Program} {f : Nat} {fn : Func} (hf : P.funcs[f]? = some fn) (hn : (fn.name == "runtime.NumGoroutine") = false) (hb : fn.body.isSome = true)
    (hs : ∀ (s t : ByteArray) (w : World), Calls P f #[.string s, .string t] w fun e w' => e = .returned (.int .i64 (Lib.compareBytes s.data.toList t.data.toList)) ∧ w' = w) : SummOK P f strCmpS := by
  intro base ov nx args K l ρ w args' R h ha hsat hR
  obtain ⟨A⟩ := args'
  replace ha : VRL ρ args A := ha
  unfold strCmpS at hsat
  split at hsat
  · cases ha with
    | cons hx ht =>
      cases ht with
      | cons hy ht =>
        cases ht
        cases hx with
        | @str _ s' hs' =>
          cases hy with
          | @str _ t' ht' =>
            subst hs'
            subst ht'
            rw [forceI_eq, cmpN_eq] at hsat
            refine ⟨fn, hf, hn, hb, (callsIn_wide.2 (hs s' t' w)).mono ?_⟩
            rintro e w' ⟨rfl, rfl⟩
            exact ⟨_, rfl, hR _ ov nx ρ _ _ hsat (.refl _ _ _ _) h (.int _ _)⟩
  · exact (not_sat_bad hsat).elim
end Go.Ab
/- The abstract machine of these proofs, part 38: a run in pieces: one call at one state, and what is left of what it made. -/
namespace Go.Ab
open Go.RowKit
/-! ### Less is remembered -/
noncomputable def dead (t : Hp) : Bool :=
  Tr.rec (motive := fun _ => Bool) true (fun _ v _ dl dr => match v with
    | some (some _) => false
    | _ => match dl with
      | true => dr
      | false => false) t
noncomputable def okv (v v' : Option (Option AO)) : Bool :=
  match v' with
  | some none => true
  | none => match v with
    | none => true
    | some _ => false
  | some (some b) => match v with
    | some (some a) => AO.beq a b
    | _ => false
/-- What the second one knows, the first one knows; what is new to the second one is new to the first one. -/
noncomputable def forgets (t : Hp) : Hp → Bool :=
  Tr.rec (motive := fun _ => Hp → Bool) dead (fun _ v _ fl fr t' => match t' with
    | .e => match v with
      | none => match fl .e with
        | true => fr .e
        | false => false
      | some _ => false
    | .n l' v' r' => match okv v v' with
      | true => match fl l' with
        | true => fr r'
        | false => false
      | false => false) t
theorem dead_n (l : Hp) (v : Option (Option AO)) (r : Hp) : dead (.n l v r) = (match v with
    | some (some _) => false
    | _ => match dead l with
      | true => dead r
      | false => false) := rfl
theorem forgets_ne (l : Hp) (v : Option (Option AO)) (r : Hp) : forgets (.n l v r) .e = (match v with
    | none => (match forgets l .e with
      | true => forgets r .e
      | false => false)
    | some _ => false) := rfl
theorem forgets_nn (l : Hp) (v : Option (Option AO)) (r l' : Hp) (v' : Option (Option AO)) (r' : Hp) : forgets (.n l v r) (.n l' v' r') = (match okv v v' with
    | true => (match forgets l l' with
      | true => forgets r r'
      | false => false)
    | false => false) := rfl
theorem dead_get {t : Hp} (h : dead t = true) (b : Id) (o : AO) : t.get b ≠ some (some o) := by
  induction t generalizing b with
  | e => cases b <;> simp [Tr.get]
  | n l v r ihl ihr =>
    rw [dead_n] at h
    split at h
    · cases h
    · rename_i hv
      split at h
      · rename_i hl
        cases b with
        | h => intro k; exact hv o k
        | o p => exact ihl hl p
        | i p => exact ihr h p
      · cases h
theorem okv_eq {v v' : Option (Option AO)} (h : okv v v' = true) : (∀ o, v' = some (some o) → v = some (some o)) ∧ (v' = none → v = none) := by
  cases v' with
  | none =>
    cases v with
    | none => exact ⟨fun o k => (by cases k), fun _ => rfl⟩
    | some _ => cases h
  | some x =>
    cases x with
    | none => exact ⟨fun o k => (by cases k), fun k => (by cases k)⟩
    | some b =>
      cases v with
      | none => cases h
      | some y =>
        cases y with
        | none => cases h
        | some a =>
          have := AO.beq_eq (show AO.beq a b = true from h)
          subst this
          exact ⟨fun o k => k, fun k => (by cases k)⟩
theorem forgets_get : ∀ {t t' : Hp}, forgets t t' = true → ∀ b, (∀ o, t'.get b = some (some o) → t.get b = some (some o)) ∧ (t'.get b = none → t.get b = none) := by
  intro t
  induction t with
  | e =>
    intro t' h b
    have h : dead t' = true := h
    exact ⟨fun o k => (dead_get h b o k).elim, fun _ => (by cases b <;> rfl)⟩
  | n l v r ihl ihr =>
    intro t' h b
    cases t' with
    | e =>
      rw [forgets_ne] at h
      cases v with
      | some _ => cases h
      | none =>
        simp only at h
        split at h
        · rename_i hl
          refine ⟨fun o k => (by cases b <;> simp [Tr.get] at k), fun _ => ?_⟩
          cases b with
          | h => rfl
          | o p => exact (ihl hl p).2 (by cases p <;> rfl)
          | i p => exact (ihr h p).2 (by cases p <;> rfl)
        · cases h
    | n l' v' r' =>
      rw [forgets_nn] at h
      split at h
      · rename_i hv
        split at h
        · rename_i hl
          cases b with
          | h => exact okv_eq hv
          | o p => exact ihl hl p
          | i p => exact ihr h p
        · cases h
      · cases h
theorem look_e (ov : Hp) (b : Id) : look .e ov b = match ov.get b with | some r => r | none => none := by
  simp only [look, Tr.getR_eq]
  have : (Tr.e : Hp).get b = none := by cases b <;> rfl
  rw [this]
  cases ov.get b <;> rfl
theorem absent_e (ov : Hp) (b : Id) : absent .e ov b = true ↔ ov.get b = none := by
  simp only [absent, Tr.getR_eq]
  have : (Tr.e : Hp).get b = none := by cases b <;> rfl
  rw [this]
  cases ov.get b <;> simp
theorem look_e_some {ov : Hp} {b : Id} {o : AO} : look .e ov b = some o ↔ ov.get b = some (some o) := by
  rw [look_e]
  cases h : ov.get b with
  | none => simp
  | some r => simp
theorem HR.forget {ov ov2 : Hp} {ρ : Rho} {w : World} (h : HR .e ρ ov w) (hf : forgets ov ov2 = true) : HR .e ρ ov2 w ∧ Thru .e ρ ov w ρ ov2 w := by
  have g := forgets_get hf
  have hl : ∀ b o, look .e ov2 b = some o → look .e ov b = some o := fun b o k => look_e_some.2 ((g b).1 o (look_e_some.1 k))
  have ha : ∀ b, absent .e ov2 b = true → absent .e ov b = true := fun b k => (absent_e _ _).2 ((g b).2 ((absent_e _ _).1 k))
  exact ⟨⟨fun b o e hb he => h.block b o e (hl b o hb) he, fun b b' o o' e e' h1 h2 => h.inj b b' o o' e e' (hl _ _ h1) (hl _ _ h2), fun b hb => h.dom b (ha b hb), h.size⟩,
    ⟨.refl _ _, fun _ _ k => k, ha⟩⟩

/-! ### A state, told -/
/-- So many blocks that are not known any more. -/
noncomputable def goneF (fuel : Nat) : Nat → Hp :=
  Nat.rec (motive := fun _ => Nat → Hp) (fun _ => .e) (fun _ r n => Nat.rec (motive := fun _ => Hp) .e (fun m _ => .n (r ((m + 1) / 2)) (some none) (r (m / 2))) n) fuel
noncomputable def stK (l : List (Nat × AO)) : Hp → (Hp → Ans) → Ans :=
  List.rec (motive := fun _ => Hp → (Hp → Ans) → Ans) (fun t k => k t) (fun x _ r t k => forceO x.2 fun o => Tr.setK (some o) t (Id.of x.1) fun t => r t k) l
def stP (l : List (Nat × AO)) (t : Hp) : Hp := l.foldl (fun t x => t.set (Id.of x.1) (some x.2)) t
theorem stK_eq (l : List (Nat × AO)) (t : Hp) (k : Hp → Ans) : stK l t k = k (stP l t) := by
  induction l generalizing t with
  | nil => rfl
  | cons x l ih =>
    show (forceO x.2 fun o => Tr.setK (some o) t (Id.of x.1) fun t => stK l t k) = _
    rw [forceO_eq, Tr.setK_eq, ih]
    rfl
/-- A state: how many blocks there were, and those that are known. -/
structure Stt where
  nx : Nat
  live : List (Nat × AO)
noncomputable def Stt.hp (s : Stt) : Hp := stP s.live (goneF 60 s.nx)
noncomputable def Stt.hpK (s : Stt) (k : Hp → Ans) : Ans := stK s.live (goneF 60 s.nx) k
theorem Stt.hpK_eq (s : Stt) (k : Hp → Ans) : s.hpK k = k s.hp := stK_eq _ _ _
/-- What one call gives at one state. -/
noncomputable def segS (args : List AV) (s : Stt) (v : AV) (s' : Stt) : Summ := fun base ov _ as K =>
  match base with
  | .n _ _ _ => .bad "seg drawn"
  | .e => match AV.beqL as args with
    | false => .bad "seg args"
    | true => s.hpK fun o => match forgets ov o with
      | false => .bad "seg state"
      | true => s'.hpK fun o' => K v o' s'.nx
noncomputable def segC (v : AV) (s' : Stt) : KV := fun u ov _ =>
  match AV.beq u v with
  | false => .bad "seg value"
  | true => s'.hpK fun o' => match forgets ov o' with
    | true => .ok []
    | false => .bad "seg new state"
noncomputable def okNil (a : Ans) : Bool := match a with
  | .ok [] => true
  | _ => false
noncomputable def segR (C : Ctx) (n f : Nat) (args : List AV) (s : Stt) (v : AV) (s' : Stt) : Bool :=
  okNil (s.hpK fun o => callK C (exec C n) .e f args o s.nx (segC v s'))
theorem seg_summ {C : Ctx} (hC : CtxOK C) {n f : Nat} {args : List AV} {s : Stt} {v : AV} {s' : Stt} (h : segR C n f args s v s' = true) : SummOK C.P f (segS args s v s') := by
  intro base ov nx as K l ρ w args' R hh ha hs hR
  unfold segS at hs
  cases base with
  | n _ _ _ => exact (not_sat_bad hs).elim
  | e =>
    simp only at hs
    split at hs
    · exact (not_sat_bad hs).elim
    · rename_i hargs
      have := AV.beqL_eq hargs
      subst this
      rw [Stt.hpK_eq] at hs
      split at hs
      · exact (not_sat_bad hs).elim
      · rename_i hf
        rw [Stt.hpK_eq] at hs
        obtain ⟨h1, t1⟩ := hh.forget hf
        have hsat : Sat (callK C (exec C n) .e f as s.hp s.nx (segC v s')) [] := by
          unfold segR okNil at h
          rw [Stt.hpK_eq] at h
          split at h
          · rename_i he; exact ⟨[], he, fun _ h => h⟩
          · cases h
        refine callK_ok hC (sound_exec hC n) h1 ha hsat fun u ov' nx' ρ' u' w' hsat' ht hr hv => ?_
        unfold segC at hsat'
        split at hsat'
        · exact (not_sat_bad hsat').elim
        · rename_i hvv
          have := AV.beq_eq hvv
          subst this
          rw [Stt.hpK_eq] at hsat'
          split at hsat'
          · rename_i hf2
            obtain ⟨h2, t2⟩ := hr.forget hf2
            exact hR _ _ _ _ _ _ hs ((t1.trans ht).trans t2) h2 hv
          · exact (not_sat_bad hsat').elim
/-- One of two. -/
noncomputable def orS (c : Hp → Nat → List AV → Bool) (s t : Summ) : Summ := fun base ov nx args K => match c ov nx args with
  | true => s base ov nx args K
  | false => t base ov nx args K
theorem orS_ok {P : Program} {f : Nat} {c : Hp → Nat → List AV → Bool} {s t : Summ} (hs : SummOK P f s) (ht : SummOK P f t) : SummOK P f (orS c s t) := by
  intro base ov nx as K l ρ w args' R hh ha hS hR
  unfold orS at hS
  split at hS
  · exact hs hh ha hS hR
  · exact ht hh ha hS hR
noncomputable def atNx (n : Nat) : Hp → Nat → List AV → Bool := fun _ nx _ => Nat.beq nx n
noncomputable def badS : Summ := fun _ _ _ _ _ => .bad "seg none"
theorem badS_ok {P : Program} {f : Nat} : SummOK P f badS := fun _ _ h _ => (not_sat_bad h).elim
noncomputable def addS (g : Nat) (s : Summ) (S : Nat → Option Summ) : Nat → Option Summ := fun f => match Nat.beq f g with
  | true => some s
  | false => S f
noncomputable def noS : Nat → Option Summ := fun _ => none
theorem noS_ok {P : Program} : ∀ f s, noS f = some s → SummOK P f s := fun _ _ h => by cases h
theorem addS_ok {P : Program} {g : Nat} {s : Summ} {S : Nat → Option Summ} (hs : SummOK P g s) (hS : ∀ f t, S f = some t → SummOK P f t) : ∀ f t, addS g s S f = some t → SummOK P f t := by
  intro f t h
  unfold addS at h
  split at h
  · rename_i hf
    cases h
    rw [Nat.eq_of_beq_eq_true hf]
    exact hs
  · exact hS f t h
noncomputable def noRoutine (P : Program) : Bool := P.funcs.all fun fn => !(fn.name == "runtime.NumGoroutine")
theorem names_of {P : Program} (h : noRoutine P = true) (f : Nat) (fn : Func) (hf : P.funcs[f]? = some fn) : (fn.name == "runtime.NumGoroutine") = false := by
  unfold noRoutine at h
  rw [Array.all_eq_true'] at h
  have := h fn (Array.mem_of_getElem? hf)
  simpa using this
/-! ### Told shorter -/
noncomputable def b8 (l : List Nat) : List AV := List.rec (motive := fun _ => List AV) [] (fun n _ r => .int .u8 (.ofNat n) :: r) l
noncomputable def zs (n : Nat) : List AV := Nat.rec (motive := fun _ => List AV) [] (fun _ r => .int .u8 (.ofNat 0) :: r) n
end Go.Ab
/- The abstract machine of these proofs, part 39: from a run in pieces to a law's statement. -/
namespace Go.Ab
open Go.RowKit Go.ChangeShapes Go.WideShapes
theorem hr_nothing (w : World) : HR .e (fun _ => none) .e w :=
  ⟨fun _ _ _ _ h => (by cases h), fun _ _ _ _ _ _ _ _ h => (by cases h), fun _ _ => rfl, fun _ _ h => (by cases h)⟩
theorem law_of_seg {P : Program} {f : Nat} {args : List AV} {v : AV} {q : Stt} (h : SummOK P f (segS args ⟨0, []⟩ v q)) {args' : Array Value} (ha : VRL (fun _ => none) args args'.toList) (hb : AV.beqL args args = true) (hv0 : AV.beq v v = true) (w : World) :
    Goes P f args' w fun u w' => ∃ ρ, VR ρ v u ∧ Below w.heap.size w w' := by
  refine h (K := fun u _ _ => match AV.beq u v with | true => .ok [] | false => .bad "") (l := []) (nx := 0) (hr_nothing w) ha ?_ fun u ov' nx' ρ' u' w' hs ht hr hv => ?_
  · unfold segS
    rw [hb]
    simp only [Stt.hpK_eq]
    have : forgets .e (Stt.hp ⟨0, []⟩) = true := rfl
    rw [this]
    simp only [hv0]
    exact ⟨[], rfl, fun _ h => h⟩
  · simp only at hs
    split at hs
    · rename_i he
      rw [AV.beq_eq he] at hv
      exact ⟨ρ', hv, ht.ext.below⟩
    · exact (not_sat_bad hs).elim
theorem post_of_below {H : Type} {enc : TypeId × Value → H} {P : Program} {f : Func} {s : ChangeSpec} {apart fresh handsOn : Bool} {W W' : World} {args : Array Value} {v : Value} {ds gs : List (DataW H)} {before pa pv : List MemPlace}
    (hW : DataW.Whole enc P f.params.toList s.vars apart W args.toList ds gs before)
    (hres : ∀ (b : Nat) (sp : Nat → Bool) (hd : Bool), DataW.TrodAll enc P W' b sp hd f.resultTypes.toList (v.resultList f.resultTypes.size) (s.fn H (ds ++ gs)).results [])
    (hargs : ∀ sp : Nat → Bool, (∀ p ∈ before, sp p.block = true) → DataW.TrodAll enc P W' 0 sp true f.params.toList args.toList (s.fn H (ds ++ gs)).args pa)
    (hvars : ∀ sp : Nat → Bool, (∀ p ∈ before, sp p.block = true) → DataW.TrodVars enc P W' sp s.vars (s.fn H (ds ++ gs)).vars pv)
    (hps : before = pa ++ pv) (hk : W.keptBut W' (· ∈ before)) :
    s.post enc P f apart fresh handsOn false W args v W' := by
  have hold : ∀ p ∈ before, (fun b => decide (b < W.heap.size)) p.block = true := fun p hp => by simpa using hW.lt p hp
  refine ⟨ds, gs, before, [], pa, pv, hW, hres _ _ _, hargs _ hold, hvars _ hold, World.keptBut_mono (fun p hp => ⟨hp, ?_⟩) hk, fun h => by cases h⟩
  rw [hps, List.mem_append] at hp
  exact Or.inr hp
end Go.Ab
/- The abstract machine of these proofs, part 41: a loop that is told by a table of states: each round goes from one of them to a later one, or leaves. -/
namespace Go.Ab
open Go.RowKit
/-! ### Less is remembered, the last entry of a range too -/
def AO.sub : AO → AO → Bool
  | .miter m s seen _ st _, .miter m' s' seen' none st' _ => AO.beq (.miter m s seen none st 0) (.miter m' s' seen' none st' 0)
  | a, b => AO.beq a b
theorem OR_sub {ρ : Rho} {w : World} {e : Ent} {a b : AO} (h : AO.sub a b = true) (ho : OR ρ w e a) : OR ρ w e b := by
  unfold AO.sub at h
  split at h
  · have := AO.beq_eq h
    obtain ⟨m', seen', h1, h2, h3, h4, h5⟩ := ho
    cases this
    exact ⟨m', seen', h1, h2, fun s hs => (by cases hs), h4, h5⟩
  · rw [← AO.beq_eq h]; exact ho
noncomputable def okv2 (v v' : Option (Option AO)) : Bool :=
  match v' with
  | some none => true
  | none => match v with
    | none => true
    | some _ => false
  | some (some b) => match v with
    | some (some a) => AO.sub a b
    | _ => false
noncomputable def forgets2 (t : Hp) : Hp → Bool :=
  Tr.rec (motive := fun _ => Hp → Bool) dead (fun _ v _ fl fr t' => match t' with
    | .e => match v with
      | none => match fl .e with
        | true => fr .e
        | false => false
      | some _ => false
    | .n l' v' r' => match okv2 v v' with
      | true => match fl l' with
        | true => fr r'
        | false => false
      | false => false) t
theorem forgets2_ne (l : Hp) (v : Option (Option AO)) (r : Hp) : forgets2 (.n l v r) .e = (match v with
    | none => (match forgets2 l .e with
      | true => forgets2 r .e
      | false => false)
    | some _ => false) := rfl
theorem forgets2_nn (l : Hp) (v : Option (Option AO)) (r l' : Hp) (v' : Option (Option AO)) (r' : Hp) : forgets2 (.n l v r) (.n l' v' r') = (match okv2 v v' with
    | true => (match forgets2 l l' with
      | true => forgets2 r r'
      | false => false)
    | false => false) := rfl
theorem okv2_eq {v v' : Option (Option AO)} (h : okv2 v v' = true) : (∀ o, v' = some (some o) → ∃ a, v = some (some a) ∧ AO.sub a o = true) ∧ (v' = none → v = none) := by
  cases v' with
  | none =>
    cases v with
    | none => exact ⟨fun o k => (by cases k), fun _ => rfl⟩
    | some _ => cases h
  | some x =>
    cases x with
    | none => exact ⟨fun o k => (by cases k), fun k => (by cases k)⟩
    | some b =>
      cases v with
      | none => cases h
      | some y =>
        cases y with
        | none => cases h
        | some a => exact ⟨fun o k => (by cases k; exact ⟨a, rfl, h⟩), fun k => (by cases k)⟩
theorem forgets2_get : ∀ {t t' : Hp}, forgets2 t t' = true → ∀ b, (∀ o, t'.get b = some (some o) → ∃ a, t.get b = some (some a) ∧ AO.sub a o = true) ∧ (t'.get b = none → t.get b = none) := by
  intro t
  induction t with
  | e =>
    intro t' h b
    have h : dead t' = true := h
    exact ⟨fun o k => (dead_get h b o k).elim, fun _ => (by cases b <;> rfl)⟩
  | n l v r ihl ihr =>
    intro t' h b
    cases t' with
    | e =>
      rw [forgets2_ne] at h
      cases v with
      | some _ => cases h
      | none =>
        simp only at h
        split at h
        · rename_i hl
          refine ⟨fun o k => (by cases b <;> simp [Tr.get] at k), fun _ => ?_⟩
          cases b with
          | h => rfl
          | o p => exact (ihl hl p).2 (by cases p <;> rfl)
          | i p => exact (ihr h p).2 (by cases p <;> rfl)
        · cases h
    | n l' v' r' =>
      rw [forgets2_nn] at h
      split at h
      · rename_i hv
        split at h
        · rename_i hl
          cases b with
          | h => exact okv2_eq hv
          | o p => exact ihl hl p
          | i p => exact ihr h p
        · cases h
      · cases h
theorem HR.forget2 {ov ov2 : Hp} {ρ : Rho} {w : World} (h : HR .e ρ ov w) (hf : forgets2 ov ov2 = true) : HR .e ρ ov2 w ∧ Thru .e ρ ov w ρ ov2 w := by
  have g := forgets2_get hf
  have hl : ∀ b o, look .e ov2 b = some o → ∃ a, look .e ov b = some a ∧ AO.sub a o = true := fun b o k => by
    obtain ⟨a, h1, h2⟩ := (g b).1 o (look_e_some.1 k)
    exact ⟨a, look_e_some.2 h1, h2⟩
  have ha : ∀ b, absent .e ov2 b = true → absent .e ov b = true := fun b k => (absent_e _ _).2 ((g b).2 ((absent_e _ _).1 k))
  refine ⟨⟨fun b o e hb he => ?_, fun b b' o o' e e' h1 h2 h3 h4 h5 => ?_, fun b hb => h.dom b (ha b hb), h.size⟩, ⟨.refl _ _, fun _ _ k => k, ha⟩⟩
  · obtain ⟨a, h1, h2⟩ := hl b o hb
    exact OR_sub h2 (h.block b a e h1 he)
  · obtain ⟨a, g1, _⟩ := hl b o h1
    obtain ⟨a', g2, _⟩ := hl b' o' h2
    exact h.inj b b' a a' e e' g1 g2 h3 h4 h5

/-! ### Frames, told -/
def frL : List (Nat × AV) → Fr
  | [] => .e
  | p :: l => (frL l).set (Id.of p.1) p.2
theorem frL_get : ∀ {l : List (Nat × AV)} {s : Nat} {v : AV}, (frL l).get (Id.of s) = some v → (s, v) ∈ l
  | [], s, v, h => by
    simp only [frL] at h
    cases e : Id.of s <;> rw [e] at h <;> cases h
  | p :: l, s, v, h => by
    simp only [frL, Tr.get_set] at h
    split at h
    · rename_i e
      have := Id.of_inj e
      cases h
      rw [this]
      exact List.mem_cons_self ..
    · exact List.mem_cons_of_mem _ (frL_get h)
noncomputable def frIs (l : List (Nat × AV)) (fr : Fr) : Bool := l.all fun p => match fr.getR (Id.of p.1) with
  | some v => AV.beq v p.2
  | none => false
theorem frIs_FR {l : List (Nat × AV)} {fr : Fr} {ρ : Rho} {nt : Nat} {tm : Array Value} (h : frIs l fr = true) (hf : FR ρ nt fr tm) : FR ρ nt (frL l) tm := by
  refine ⟨hf.size, fun t v ht => ?_⟩
  have hm := frL_get ht
  unfold frIs at h
  rw [List.all_eq_true] at h
  have := h _ hm
  rw [Tr.getR_eq] at this
  split at this
  · rename_i u hu
    rw [AV.beq_eq this] at hu
    exact hf.slot t v hu
  · cases this

/-! ### States whose lost blocks lie in ranges -/
noncomputable def goneR (a : Nat) (t : Hp) (k : Hp → Ans) (c : Nat) : Ans :=
  Nat.rec (motive := fun _ => (Hp → Ans) → Ans) (fun k => k t) (fun m r k => r fun t => Tr.setK none t (Id.of (Nat.add a m)) k) c k
def goneP (a : Nat) (t : Hp) : Nat → Hp
  | 0 => t
  | m + 1 => (goneP a t m).set (Id.of (Nat.add a m)) none
theorem goneR_eq (a : Nat) (t : Hp) (k : Hp → Ans) (c : Nat) : goneR a t k c = k (goneP a t c) := by
  induction c generalizing k with
  | zero => rfl
  | succ c ih =>
    show goneR a t (fun t => Tr.setK none t (Id.of (Nat.add a c)) k) c = _
    rw [ih, Tr.setK_eq]
    rfl
noncomputable def goneK (l : List (Nat × Nat)) : Hp → (Hp → Ans) → Ans :=
  List.rec (motive := fun _ => Hp → (Hp → Ans) → Ans) (fun t k => k t) (fun x _ r t k => goneR x.1 t (fun t => r t k) x.2) l
def goneL (l : List (Nat × Nat)) (t : Hp) : Hp := l.foldl (fun t x => goneP x.1 t x.2) t
theorem goneK_eq (l : List (Nat × Nat)) (t : Hp) (k : Hp → Ans) : goneK l t k = k (goneL l t) := by
  induction l generalizing t with
  | nil => rfl
  | cons x l ih =>
    show goneR x.1 t (fun t => goneK l t k) x.2 = _
    rw [goneR_eq, ih]
    rfl
/-- A state: how many blocks there were, which ranges of numbers are gone besides, those that are known; from which number on new ones get theirs. -/
structure Stg where
  nx : Nat
  gone : List (Nat × Nat)
  live : List (Nat × AO)
  nn : Nat
noncomputable def Stg.hp (s : Stg) : Hp := stP s.live (goneL s.gone (goneF 60 s.nx))
noncomputable def Stg.hpK (s : Stg) (k : Hp → Ans) : Ans := goneK s.gone (goneF 60 s.nx) fun t => stK s.live t k
theorem Stg.hpK_eq (s : Stg) (k : Hp → Ans) : s.hpK k = k s.hp := by
  unfold Stg.hpK
  rw [goneK_eq, stK_eq]
  rfl
/-! ### The table -/
/-- A state at the head of a round: the slots that are told, the memory; how many there are: they come in order, the way out stands apart. -/
structure Tab where
  i : Nat
  nt : Nat
  N : Nat
  f : Nat → List (Nat × AV)
  s : Nat → Stg
  ff : List (Nat × AV)
  fs : Stg
noncomputable def sameH (s : Stg) (ov : Hp) : Bool := okNil (s.hpK fun o => match forgets2 ov o with
  | true => .ok []
  | false => .bad "")
theorem sameH_eq {s : Stg} {ov : Hp} (h : sameH s ov = true) : forgets2 ov s.hp = true := by
  unfold sameH at h
  rw [Stg.hpK_eq] at h
  cases hf : forgets2 ov s.hp with
  | true => rfl
  | false => rw [hf] at h; cases h
noncomputable def Tab.at (T : Tab) (k : Nat) (fr : Fr) (ov : Hp) : Bool := match frIs (T.f k) fr with
  | true => sameH (T.s k) ov
  | false => false
noncomputable def Tab.out (T : Tab) (fr : Fr) (ov : Hp) : Bool := match frIs T.ff fr with
  | true => sameH T.fs ov
  | false => false
/-- What is asked behind a round that begins at the k-th state; ns: the states that it may go to. -/
noncomputable def Tab.K (T : Tab) (k : Nat) (ns : List Nat) : KX := fun e fr ov _ => match e with
  | .normal => match ns.any fun j => Nat.blt k j && (Nat.blt j T.N && T.at j fr ov) with
    | true => .ok []
    | false => .bad "table no state"
  | .exit j => match Nat.beq j T.i && T.out fr ov with
    | true => .ok []
    | false => .bad "table the way out"
  | _ => .bad "table exit"
noncomputable def Tab.step (T : Tab) (C : Ctx) (n : Nat) (lb : Code) (k : Nat) (ns : List Nat) : Bool :=
  okNil ((T.s k).hpK fun o => code C (exec C n) lb .e none T.nt (frL (T.f k)) o (T.s k).nn (T.K k ns))
/-- All rounds from the k-th state on. -/
def Tab.OK (T : Tab) (C : Ctx) (n : Nat) (lb : Code) (k : Nat) : Prop := ∀ j, k ≤ j → j < T.N → ∃ ns, T.step C n lb j ns = true
theorem Tab.ok_end (T : Tab) (C : Ctx) (n : Nat) (lb : Code) {k : Nat} (h : T.N ≤ k) : T.OK C n lb k := fun j h1 h2 => by omega
theorem Tab.ok_step {T : Tab} {C : Ctx} {n : Nat} {lb : Code} {k : Nat} (ns : List Nat) (h : T.step C n lb k ns = true) (t : T.OK C n lb (k + 1)) : T.OK C n lb k := fun j h1 h2 => by
  by_cases e : j = k
  · subst e; exact ⟨ns, h⟩
  · exact t j (by omega) h2
noncomputable def Tab.R (T : Tab) : R := fun base ro nt fr ov _ K => match base, ro with
  | .e, none => match Nat.beq nt T.nt && (Nat.blt 0 T.N && T.at 0 fr ov) with
    | true => T.fs.hpK fun o => K .normal (frL T.ff) o T.fs.nn
    | false => .bad "table entry"
  | _, _ => .bad "table base"
theorem okNil_sat {a : Ans} (h : okNil a = true) : Sat a [] := by
  unfold okNil at h
  split at h
  · exact ⟨[], rfl, fun _ h => h⟩
  · cases h
theorem St.told {z : Mk} {ro : Option Id} {rn : Option Nat} {nt : Nat} {ρ : Rho} {fr : Fr} {ov : Hp} {a : Act} {w : World} (h : St z .e ro rn nt ρ fr ov a w) {l : List (Nat × AV)} {s : Stg} (h1 : frIs l fr = true) (h2 : sameH s ov = true) :
    St z .e ro rn nt ρ (frL l) s.hp a w ∧ Thru .e ρ ov w ρ s.hp w := by
  obtain ⟨g1, g2⟩ := h.hr.forget2 (sameH_eq h2)
  exact ⟨⟨g1, frIs_FR h1 h.fr, h.dm, h.ro⟩, g2⟩
theorem tab_sound {C : Ctx} (hC : CtxOK C) {n : Nat} {lb : Code} {T : Tab} (hT : T.OK C n lb 0) : Sound C.P (.block T.i (.loop lb)) T.R := by
  refine ⟨?_⟩
  intro z base ro rn nt fr ov nx K l ρ a w Q hst hs hK
  unfold Tab.R at hs
  split at hs
  · split at hs
    · rename_i hg
      simp only [Bool.and_eq_true] at hg
      obtain ⟨hnt, hN, hat⟩ := hg
      have hnt := Nat.eq_of_beq_eq_true hnt
      subst hnt
      rw [Stg.hpK_eq] at hs
      have told : ∀ {k : Nat} {fr : Fr} {ov : Hp}, T.at k fr ov = true → frIs (T.f k) fr = true ∧ sameH (T.s k) ov = true := by
        intro k fr ov h
        unfold Tab.at at h
        split at h
        · rename_i h1; exact ⟨h1, h⟩
        · cases h
      obtain ⟨t1, t2⟩ := told hat
      obtain ⟨s1, s2⟩ := hst.told t1 t2
      refine wpIn_block ?_
      let Good : Nat → Act → World → Prop := fun m a' w' => ∃ k ρ', k < T.N ∧ T.N - k = m ∧ St z .e none rn T.nt ρ' (frL (T.f k)) (T.s k).hp a' w' ∧ Thru .e ρ ov w ρ' (T.s k).hp w'
      have hg : ∃ m, Good m a w := ⟨T.N, 0, ρ, by simpa using hN, by omega, s1, s2⟩
      classical
      let ν : Act → World → Nat := fun a w => if e : ∃ m, Good m a w then Classical.choose (least_of e) else 0
      refine wpIn_loop (fun a w => ∃ m, Good m a w) ν hg ?_
      intro a1 w1 hI
      have hν : ν a1 w1 = Classical.choose (least_of hI) := dif_pos hI
      obtain ⟨k, ρ1, hk, hm, hst1, ht1⟩ := (Classical.choose_spec (least_of hI)).1
      rw [← hν] at hm
      obtain ⟨ns, hstep⟩ := hT k (Nat.zero_le _) hk
      have hstep := okNil_sat hstep
      rw [Stg.hpK_eq] at hstep
      refine (sound_code hC (sound_exec hC n) lb).go hst1 hstep ?_
      intro e fr2 ov2 nx2 ρ2 a2 w2 hs2 ht2 hst2
      unfold Tab.K at hs2
      cases e with
      | normal =>
        simp only at hs2
        split at hs2
        · rename_i hany
          obtain ⟨j, _, hj⟩ := List.any_eq_true.1 hany
          simp only [Bool.and_eq_true] at hj
          obtain ⟨j1, j2, j3⟩ := hj
          have j1 : k < j := by simpa using j1
          have j2 : j < T.N := by simpa using j2
          obtain ⟨q1, q2⟩ := told j3
          obtain ⟨r1, r2⟩ := hst2.told q1 q2
          have hg2 : Good (T.N - j) a2 w2 := ⟨j, ρ2, j2, rfl, r1, (ht1.trans ht2).trans r2⟩
          have ex : ∃ m, Good m a2 w2 := ⟨_, hg2⟩
          refine ⟨ex, ?_⟩
          have hd : ν a2 w2 = Classical.choose (least_of ex) := dif_pos ex
          rw [hd]
          have := (Classical.choose_spec (least_of ex)).2 _ hg2
          omega
        · exact (not_sat_bad hs2).elim
      | exit j =>
        simp only at hs2
        split at hs2
        · rename_i ho
          simp only [Bool.and_eq_true] at ho
          obtain ⟨o1, o2⟩ := ho
          have o1 := Nat.eq_of_beq_eq_true o1
          unfold Tab.out at o2
          split at o2
          · rename_i o3
            obtain ⟨r1, r2⟩ := hst2.told o3 o2
            have fin := hK .normal _ _ _ _ _ _ hs ((ht1.trans ht2).trans r2) r1
            show Exit.inBlock T.i Q (.exit j) a2 w2
            simp only [Exit.inBlock]
            rw [if_pos o1]
            exact fin
          · cases o2
        · exact (not_sat_bad hs2).elim
      | goto j => exact (not_sat_bad hs2).elim
      | ret => exact (not_sat_bad hs2).elim
    · exact (not_sat_bad hs).elim
  · exact (not_sat_bad hs).elim

/-! ### A body one of whose loops is told -/
noncomputable def codeB (C : Ctx) (E : Code → R) (B : Nat → Option R) (c : Code) : R :=
  Code.rec (motive := fun _ => R) (code C E .skip) (fun i ops draw => code C E (.region i ops draw)) (fun _ _ ra rb => cSeq ra rb) (fun c _ _ ra rb => cCond c ra rb)
    (fun i _ ra => match B i with | some r => r | none => cBlock i ra)
    (fun x _ => code C E (.loop x)) (fun f ps assign body _ _ => code C E (.rangeFunc f ps assign body)) (fun i => code C E (.exit i)) (fun x _ => code C E (.scope x)) (fun i => code C E (.label i))
    (fun l => code C E (.goto l)) (code C E .ret) (fun w => code C E (.refuse w)) c
noncomputable def loopAt (c : Code) (l : List Code) : Code := match l with
  | [.loop x] => x
  | _ => c
def blocksAt (i : Nat) : Code → List Code
  | .seq x y => blocksAt i x ++ blocksAt i y
  | .cond _ x y => blocksAt i x ++ blocksAt i y
  | .block j x => match Nat.beq j i with
    | true => x :: blocksAt i x
    | false => blocksAt i x
  | _ => []
theorem codeB_region {C : Ctx} {E : Code → R} {B : Nat → Option R} (i : Nat) (ops : Array Oper) (d : Bool) : codeB C E B (.region i ops d) = code C E (.region i ops d) := by
  generalize hx : code C E = F
  unfold codeB
  rw [hx]
theorem sound_codeB {C : Ctx} {E : Code → R} (hE : ∀ c, Sound C.P c (code C E c)) {B : Nat → Option R} :
    ∀ (c : Code), (∀ i r x, B i = some r → x ∈ blocksAt i c → Sound C.P (.block i x) r) → Sound C.P c (codeB C E B c) := by
  intro c
  induction c with
  | seq x y hx hy =>
    intro hB
    exact sound_seq (hx fun i r q h1 h2 => hB i r q h1 (by unfold blocksAt; exact List.mem_append_left _ h2)) (hy fun i r q h1 h2 => hB i r q h1 (by unfold blocksAt; exact List.mem_append_right _ h2))
  | cond c x y hx hy =>
    intro hB
    exact sound_cond (hx fun i r q h1 h2 => hB i r q h1 (by unfold blocksAt; exact List.mem_append_left _ h2)) (hy fun i r q h1 h2 => hB i r q h1 (by unfold blocksAt; exact List.mem_append_right _ h2))
  | block i x hx =>
    intro hB
    show Sound C.P (.block i x) (match B i with | some r => r | none => cBlock i (codeB C E B x))
    cases hb : B i with
    | some r => exact hB i r x hb (by unfold blocksAt; simp)
    | none =>
      refine sound_block (hx fun j r q h1 h2 => hB j r q h1 ?_)
      unfold blocksAt
      split
      · exact List.mem_cons_of_mem _ h2
      · exact h2
  | skip => intro _; exact hE .skip
  | region i ops d =>
    intro _
    rw [codeB_region]
    exact hE (.region i ops d)
  | loop x _ => intro _; exact hE (.loop x)
  | rangeFunc f ps a b _ _ => intro _; exact hE (.rangeFunc f ps a b)
  | exit i => intro _; exact hE (.exit i)
  | scope x _ => intro _; exact hE (.scope x)
  | label i => intro _; exact hE (.label i)
  | goto i => intro _; exact hE (.goto i)
  | ret => intro _; exact hE .ret
  | refuse w => intro _; exact hE (.refuse w)
/-- A call of a function whose body's block i is told by a table. -/
noncomputable def tabB (T : Tab) : Nat → Option R := fun i => match Nat.beq i T.i with
  | true => some T.R
  | false => none
noncomputable def tabE (C : Ctx) (n : Nat) (T : Tab) (c : Code) : Code → R := fun _ => codeB C (exec C n) (tabB T) c
noncomputable def segT (C : Ctx) (n f : Nat) (T : Tab) (fn : Func) (args : List AV) (s : Stt) (v : AV) (s' : Stt) : Bool :=
  okNil (s.hpK fun o => match fn.body with
    | some c => bodyK C (tabE C n T c) .e f fn args o s.nx (segC v s')
    | none => .bad "table no body")
theorem body_one {C : Ctx} {E : Code → R} {base ov : Hp} {ρ : Rho} {w : World} {l : List Out} {nx : Nat} {K : KV} {f : Nat} {fn : Func} {c : Code} (hf : C.P.funcs[f]? = some fn) (hb : fn.body = some c) (hn : (fn.name == "runtime.NumGoroutine") = false)
    (hE : Sound C.P c (E c)) (h : HR base ρ ov w) {args : List AV} {args' : Array Value}
    (ha : VRL ρ args args'.toList) (hl : args.length ≤ fn.ntmps) (hs : Sat (bodyK C E base f fn args ov nx K) l) {R : Value → World → Prop} (hR : ContV base K l ρ ov w R) : Goes C.P f args' w R := by
  unfold bodyK at hs
  rw [hb] at hs
  simp only [argFrameK_eq] at hs
  refine ⟨fn, hf, hn, by simp [hb], callsIn_of_wp_marks hf hb trivial ?_⟩
  have hst : St ⟨w.heap.size, []⟩ base none none fn.ntmps ρ (argFrame 0 args .e) ov { tmps := args' ++ Array.replicate (fn.ntmps - args'.size) undef, defers := [] } w :=
    ⟨h, argFrame_FR ha hl, .nil (Nat.le_refl _), rfl⟩
  refine hE.go hst hs ?_
  intro x fr1 ov1 nx1 ρ1 a1 w1 hs1 ht hst1
  have fin : Sat (resultsK C fn.results.toList base ov1 nx1 fr1 K) l → LeavesInM Fence.wide 0 C.P fn a1.tmps (fun e w' => ∃ v, e = .returned v ∧ R v w') a1.defers .returning w1 := by
    intro hs2
    obtain ⟨rs0, rt, e1, e2, e3⟩ := hst1.dm.all
    generalize hrs : rs0 ++ rt = rs at e2 e3
    rw [e1, List.nil_append, ← List.map_append, hrs]
    refine leaves_marks (z := w.heap.size) hst1.fr hs2 rs w1 e2 (fun r hr => ?_) hst1.hr fun v v' w' g1 g2 g3 g4 => ?_
    · obtain ⟨p, _, q, s⟩ := e3 r hr
      exact ⟨p, q, s⟩
    · exact ⟨v', rfl, hR v ov1 nx1 ρ1 v' w' g1 (ht.off g4) g3 g2⟩
  cases x with
  | normal => exact fin hs1
  | ret => exact fin hs1
  | exit i => exact (not_sat_bad hs1).elim
  | goto i => exact (not_sat_bad hs1).elim
theorem segT_summ {C : Ctx} (hC : CtxOK C) {n f : Nat} {T : Tab} {fn : Func} {c lb : Code} {args : List AV} {s : Stt} {v : AV} {s' : Stt} (hf : C.P.funcs[f]? = some fn) (hb : fn.body = some c) (hl : Nat.ble args.length fn.ntmps = true)
    (hx : blocksAt T.i c = [.loop lb]) (hT : T.OK C n lb 0) (h : segT C n f T fn args s v s' = true) : SummOK C.P f (segS args s v s') := by
  intro base ov nx as K l ρ w args' R hh ha hs hR
  unfold segS at hs
  cases base with
  | n _ _ _ => exact (not_sat_bad hs).elim
  | e =>
    simp only at hs
    split at hs
    · exact (not_sat_bad hs).elim
    · rename_i hargs
      have := AV.beqL_eq hargs
      subst this
      rw [Stt.hpK_eq] at hs
      split at hs
      · exact (not_sat_bad hs).elim
      · rename_i hfg
        rw [Stt.hpK_eq] at hs
        obtain ⟨h1, t1⟩ := hh.forget hfg
        unfold segT at h
        rw [Stt.hpK_eq, hb] at h
        have hsat := okNil_sat h
        have hE : Sound C.P c (tabE C n T c c) := by
          refine sound_codeB (fun c => sound_code hC (sound_exec hC n) c) c fun i r x hb hm => ?_
          unfold tabB at hb
          split at hb
          · rename_i hi
            cases hb
            rw [Nat.eq_of_beq_eq_true hi, hx] at hm
            have hm : x = .loop lb := by simpa using hm
            rw [hm, Nat.eq_of_beq_eq_true hi]
            exact tab_sound hC hT
          · cases hb
        refine body_one hf hb (hC.names f fn hf) hE h1 ha (Nat.le_of_ble_eq_true hl) hsat fun u ov' nx' ρ' u' w' hsat' ht hr hv => ?_
        unfold segC at hsat'
        split at hsat'
        · exact (not_sat_bad hsat').elim
        · rename_i hvv
          have := AV.beq_eq hvv
          subst this
          rw [Stt.hpK_eq] at hsat'
          split at hsat'
          · rename_i hf2
            obtain ⟨h2, t2⟩ := hr.forget hf2
            exact hR _ _ _ _ _ _ hs ((t1.trans ht).trans t2) h2 hv
          · exact (not_sat_bad hsat').elim
end Go.Ab
