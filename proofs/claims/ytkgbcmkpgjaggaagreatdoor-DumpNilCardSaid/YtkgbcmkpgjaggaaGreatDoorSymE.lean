/- The symbolic machine of these proofs, part 33: its runs as equations, for summaries. -/
import Derived.Test.YtkgbcmkpgjaggaaGreatDoorSymD
import Derived.Test.YtkgbcmkpgjaggaaGreatDoorMachineE
import Derived.WalkKit
set_option linter.all false
namespace Go.Sb
open Go.RowKit
section
variable {C : Ctx} {E : Code → R}
theorem code_skip : code C E .skip = cExit .normal := id rfl
theorem code_region (i : Nat) (ops : Array Oper) (d : Bool) : code C E (.region i ops d) = cRegion C E ops d := id rfl
theorem code_seq (x y : Code) : code C E (.seq x y) = cSeq (code C E x) (code C E y) := id rfl
theorem code_cond (c : Operand) (x y : Code) : code C E (.cond c x y) = cCond c (code C E x) (code C E y) := id rfl
theorem code_block (i : Nat) (x : Code) : code C E (.block i x) = cBlock i (code C E x) := id rfl
theorem code_exit (i : Nat) : code C E (.exit i) = cExit (.exit i) := id rfl
theorem code_ret : code C E .ret = cExit .ret := id rfl
theorem exec_succ (n : Nat) (c : Code) : exec C (n + 1) c = code C (exec C n) c := id rfl
theorem cLoop_succ (n : Nat) (ra : R) (base : Hp) (ro : Option Id) (nt : Nat) (fr : Fr) (ov : Hp) (nx : Nat) (K : KX) : cLoop (n + 1) ra base ro nt fr ov nx K = ra base ro nt fr ov nx fun x fr ov nx => match x with
    | .normal => cLoop n ra base ro nt fr ov nx K
    | x => K x fr ov nx := id rfl
theorem opsK_nil (base : Hp) (nt : Nat) (ops : Array Oper) (fr : Fr) (ov : Hp) (nx : Nat) (K : KF) : opsK C E base nt ops [] fr ov nx K = K fr ov nx := id rfl
theorem opsK_cons (base : Hp) (nt : Nat) (ops : Array Oper) (o : Oper) (l : List Oper) (fr : Fr) (ov : Hp) (nx : Nat) (K : KF) : opsK C E base nt ops (o :: l) fr ov nx K =
    wantK ops fr o (opR o.op o C E base fr ov nx fun v ov nx => putK fr nt o.dst v fun fr => opsK C E base nt ops l fr ov nx K)
      (putK fr nt o.dst (.tup []) fun fr => opsK C E base nt ops l fr ov nx K) := id rfl
theorem set_set {α : Type} (t : Tr α) (p : Id) (a b : α) : (t.set p a).set p b = t.set p b := by
  have hs : ∀ (p : Id) (a b : α), (Tr.single p a).set p b = Tr.single p b := by
    intro p a b
    induction p with
    | h => rfl
    | o p ih => simp only [Tr.single, Tr.set, ih]
    | i p ih => simp only [Tr.single, Tr.set, ih]
  induction t generalizing p with
  | e => exact hs p a b
  | n l v r ihl ihr => cases p <;> simp only [Tr.set, ihl, ihr]
theorem drawK_nil (base : Hp) (nt : Nat) (ops : Array Oper) (fr : Fr) (ov : Hp) (nx : Nat) (K : KF) : drawK C E base nt ops [] fr ov nx K = K fr ov nx := id rfl
theorem drawK_cons (base : Hp) (nt : Nat) (ops : Array Oper) (s : Nat × List Nat) (l : Plan) (fr : Fr) (ov : Hp) (nx : Nat) (K : KF) : drawK C E base nt ops (s :: l) fr ov nx K = drawStep C E base nt ops s (drawK C E base nt ops l) fr ov nx K := id rfl
theorem recheck_nil (ops : Array Oper) (base : Hp) (fr : Fr) (ov ov' : Hp) (nx : Nat) (k : Ans) : recheck C E ops base fr ov ov' nx k [] = k := id rfl
theorem wantK_true {ops : Array Oper} {fr : Fr} {o : Oper} {yes no : Ans} (h : wantA ops fr o = some true) : wantK ops fr o yes no = yes := by
  unfold wantA at h
  unfold wantK
  cases hg : o.guard with
  | none => rfl
  | some g =>
    obtain ⟨j, want⟩ := g
    rw [hg] at h
    simp only at h ⊢
    cases hd : (ops[j]?).bind (·.dst) with
    | none => rw [hd] at h; cases h
    | some d =>
      rw [hd] at h
      simp only [Tr.getK_eq] at h ⊢
      generalize (fr.get (Id.of d)).getD .junk = v at h ⊢
      split at h
      · rename_i b; simp only at h ⊢; cases h2 : (b == want) <;> rw [h2] at h <;> first | rfl | cases h
      · cases h
      · cases h
theorem wantK_false {ops : Array Oper} {fr : Fr} {o : Oper} {yes no : Ans} (h : wantA ops fr o = some false) : wantK ops fr o yes no = no := by
  unfold wantA at h
  unfold wantK
  cases hg : o.guard with
  | none => rw [hg] at h; cases h
  | some g =>
    obtain ⟨j, want⟩ := g
    rw [hg] at h
    simp only at h ⊢
    cases hd : (ops[j]?).bind (·.dst) with
    | none => rw [hd] at h; cases h
    | some d =>
      rw [hd] at h
      simp only [Tr.getK_eq] at h ⊢
      generalize (fr.get (Id.of d)).getD .junk = v at h ⊢
      split at h
      · rename_i b; simp only at h ⊢; cases h2 : (b == want) <;> rw [h2] at h <;> first | rfl | cases h
      · rfl
      · cases h
theorem wantA_eq (ops : Array Oper) (fr : Fr) (o : Oper) : wantA ops fr o = match o.guard with
  | none => some true
  | some (j, want) => match (ops[j]?).bind (·.dst) with
    | some d => match (fr.get (Id.of d)).getD .junk with
      | .bool b => some (b == want)
      | .tup [] => some false
      | _ => none
    | none => none := id rfl
theorem opsK_yes {base : Hp} {nt : Nat} {ops : Array Oper} {o : Oper} {l : List Oper} {fr : Fr} {ov : Hp} {nx : Nat} {K : KF} (h : wantA ops fr o = some true) : opsK C E base nt ops (o :: l) fr ov nx K =
    opR o.op o C E base fr ov nx fun v ov nx => putK fr nt o.dst v fun fr => opsK C E base nt ops l fr ov nx K := by rw [opsK_cons, wantK_true h]
theorem opsK_no {base : Hp} {nt : Nat} {ops : Array Oper} {o : Oper} {l : List Oper} {fr : Fr} {ov : Hp} {nx : Nat} {K : KF} (h : wantA ops fr o = some false) : opsK C E base nt ops (o :: l) fr ov nx K =
    putK fr nt o.dst (.tup []) fun fr => opsK C E base nt ops l fr ov nx K := by rw [opsK_cons, wantK_false h]
/-- A drawn step of a calm operation whose value is known. -/
theorem drawQ {base : Hp} {nt : Nat} {ops : Array Oper} {i : Nat} {U : List Nat} {l : Plan} {fr : Fr} {ov : Hp} {nx : Nat} {K : KF} {o : Oper} (ho : opAt ops i = o) (hk : kindOf C.P o.op = .Q) (h : wantA ops fr o = some true) :
    drawK C E base nt ops ((i, U) :: l) fr ov nx K = valK C E o base fr ov nx fun v => putK fr nt o.dst v fun fr => drawK C E base nt ops l fr ov nx K := by
  have hk2 : kindAt C.P ops i = .Q := by unfold kindAt; rw [ho]; exact hk
  rw [drawK_cons]
  unfold drawStep
  simp only [ho, hk2, wantK_true h]
theorem drawNo {base : Hp} {nt : Nat} {ops : Array Oper} {i : Nat} {U : List Nat} {l : Plan} {fr : Fr} {ov : Hp} {nx : Nat} {K : KF} {o : Oper} (ho : opAt ops i = o) (h : wantA ops fr o = some false) :
    drawK C E base nt ops ((i, U) :: l) fr ov nx K = putK fr nt o.dst (.tup []) fun fr => drawK C E base nt ops l fr ov nx K := by
  rw [drawK_cons]
  unfold drawStep
  simp only [ho, wantK_false h]
theorem drawE {base : Hp} {nt : Nat} {ops : Array Oper} {i : Nat} {l : Plan} {fr : Fr} {ov : Hp} {nx : Nat} {K : KF} {o : Oper} (ho : opAt ops i = o) (hk : kindOf C.P o.op = .E) (h : wantA ops fr o = some true) :
    drawK C E base nt ops ((i, []) :: l) fr ov nx K = opR o.op o C E base fr ov nx fun v ov' nx' => putK fr nt o.dst v fun fr => drawK C E base nt ops l fr ov' nx' K := by
  have hk2 : kindAt C.P ops i = .E := by unfold kindAt; rw [ho]; exact hk
  rw [drawK_cons]
  unfold drawStep
  simp only [ho, hk2, wantK_true h, recheck_nil]
theorem drawQ2 {base : Hp} {nt : Nat} {ops : Array Oper} {i : Nat} {U : List Nat} {l : Plan} {fr : Fr} {ov : Hp} {nx : Nat} {K : KF} (hk : isQ (kindOf C.P (opAt ops i).op) = true) (h : wantA ops fr (opAt ops i) = some true) :
    drawK C E base nt ops ((i, U) :: l) fr ov nx K = valK C E (opAt ops i) base fr ov nx fun v => putK fr nt (opAt ops i).dst v fun fr => drawK C E base nt ops l fr ov nx K :=
  drawQ rfl (by revert hk; cases kindOf C.P (opAt ops i).op <;> simp [isQ]) h
theorem drawNo2 {base : Hp} {nt : Nat} {ops : Array Oper} {i : Nat} {U : List Nat} {l : Plan} {fr : Fr} {ov : Hp} {nx : Nat} {K : KF} (h : wantA ops fr (opAt ops i) = some false) :
    drawK C E base nt ops ((i, U) :: l) fr ov nx K = putK fr nt (opAt ops i).dst (.tup []) fun fr => drawK C E base nt ops l fr ov nx K := drawNo rfl h
theorem drawE2 {base : Hp} {nt : Nat} {ops : Array Oper} {i : Nat} {l : Plan} {fr : Fr} {ov : Hp} {nx : Nat} {K : KF} (hk : isE (kindOf C.P (opAt ops i).op) = true) (h : wantA ops fr (opAt ops i) = some true) :
    drawK C E base nt ops ((i, []) :: l) fr ov nx K = opR (opAt ops i).op (opAt ops i) C E base fr ov nx fun v ov' nx' => putK fr nt (opAt ops i).dst v fun fr => drawK C E base nt ops l fr ov' nx' K :=
  drawE rfl (by revert hk; cases kindOf C.P (opAt ops i).op <;> simp [isE]) h
theorem opAt_eq (ops : Array Oper) (i : Nat) : opAt ops i = (ops[i]?).getD default := id rfl
theorem kindOf_eq (P : Program) (o : Op) : kindOf P o = match o with
  | .move _ | .assign _ | .pick .. | .build .. | .load .. | .nilCheck _ | .binOp .. | .unOp .. | .sliceToArrayPointer .. | .makeFunc .. | .slice .. | .fieldAddr .. | .field .. | .indexAddr .. | .index .. | .lookup .. | .entry _ | .extract .. => .Q
  | .convert _ d _ => if calmConv P d then .Q else .E
  | .alloc _ | .box .. | .buildSlice .. | .makeMap .. | .makeSlice .. => .A
  | .call ⟨.builtin .len, _, _⟩ | .call ⟨.builtin .cap, _, _⟩ | .call ⟨.builtin .max, _, _⟩ | .call ⟨.builtin .min, _, _⟩ => .Q
  | _ => .E := by cases o <;> rfl
theorem isQ_Q : isQ .Q = true := id rfl
theorem isE_E : isE .E = true := id rfl
theorem cRegion_plain (ops : Array Oper) (base : Hp) (ro : Option Id) (nt : Nat) (fr : Fr) (ov : Hp) (nx : Nat) (K : KX) : cRegion C E ops false base ro nt fr ov nx K = opsK C E base nt ops ops.toList fr ov nx fun fr ov nx => K .normal fr ov nx := id rfl
theorem cRegion_draw {ops : Array Oper} {pl : Plan} (hg : planGood C.P ops = true) (hp : planOf C.P ops = pl) (base : Hp) (ro : Option Id) (nt : Nat) (fr : Fr) (ov : Hp) (nx : Nat) (K : KX) : cRegion C E ops true base ro nt fr ov nx K = drawK C E base nt ops pl fr ov nx fun fr ov nx => K .normal fr ov nx := by
  subst hp
  unfold cRegion
  simp only [hg]
theorem cSeq_eq (ra rb : R) (base : Hp) (ro : Option Id) (nt : Nat) (fr : Fr) (ov : Hp) (nx : Nat) (K : KX) : cSeq ra rb base ro nt fr ov nx K = ra base ro nt fr ov nx fun x fr ov nx => match x with
  | .normal => rb base ro nt fr ov nx K
  | x => K x fr ov nx := id rfl
theorem cBlock_eq (i : Nat) (ra : R) (base : Hp) (ro : Option Id) (nt : Nat) (fr : Fr) (ov : Hp) (nx : Nat) (K : KX) : cBlock i ra base ro nt fr ov nx K = ra base ro nt fr ov nx fun x fr ov nx => match x with
  | .exit j => match Nat.beq j i with
    | true => K .normal fr ov nx
    | false => K (.exit j) fr ov nx
  | x => K x fr ov nx := id rfl
theorem cExit_eq (x : AX) (base : Hp) (ro : Option Id) (nt : Nat) (fr : Fr) (ov : Hp) (nx : Nat) (K : KX) : cExit x base ro nt fr ov nx K = K x fr ov nx := id rfl
theorem opR_move (x : Operand) : opR (.move x) = moveR x := id rfl
theorem opR_assign (x : Operand) : opR (.assign x) = moveR x := id rfl
theorem opR_pick (c a b : Operand) : opR (.pick c a b) = pickR c a b := id rfl
theorem opR_alloc (t : TypeId) : opR (.alloc t) = allocR t := id rfl
theorem opR_load (t : TypeId) (a : Operand) : opR (.load t a) = loadR t a := id rfl
theorem opR_store (t : TypeId) (a v : Operand) : opR (.store t a v) = storeR t a v := id rfl
theorem opR_binOp (op : BinOp) (t : TypeId) (x y : Operand) (u : TypeId) : opR (.binOp op t x y u) = binOpR op t x y u := id rfl
theorem opR_unOp (op : UnOp) (t : TypeId) (x : Operand) : opR (.unOp op t x) = unOpR op t x := id rfl
theorem opR_convert (s d : TypeId) (x : Operand) : opR (.convert s d x) = convertR s d x := id rfl
theorem opR_indexAddr (t : TypeId) (x i : Operand) : opR (.indexAddr t x i) = indexAddrR t x i := id rfl
theorem opR_fieldAddr (t : TypeId) (x : Operand) (i : Nat) : opR (.fieldAddr t x i) = fieldAddrR t x i := id rfl
theorem opR_call (c : Call) : opR (.call c) = callR c := id rfl
theorem opR_range (t : TypeId) (x : Operand) : opR (.range t x) = rangeR t x := id rfl
theorem opR_extract (t : Operand) (i : Nat) : opR (.extract t i) = extractR t i := id rfl
theorem opR_next (x : Operand) (s : Bool) : opR (.next x s) = nextR x s := id rfl
theorem opR_entry (x : Operand) : opR (.entry x) = entryR x := id rfl
theorem opR_buildSlice (t : TypeId) (n : Nat) (ps : Array (Nat × Operand)) : opR (.buildSlice t n ps) = buildSliceR t n ps := id rfl
theorem opR_nilCheck (x : Operand) : opR (.nilCheck x) = nilCheckR x := id rfl
theorem opR_index (t : TypeId) (x i : Operand) : opR (.index t x i) = indexR t x i := id rfl
theorem opR_slice (t : TypeId) (x : Operand) (l h m : Option Operand) : opR (.slice t x l h m) = sliceR t x l h m := id rfl
theorem opR_makeSlice (t : TypeId) (l c : Operand) : opR (.makeSlice t l c) = makeSliceR t l c := id rfl
def fieldsOf (P : Program) (s : TypeId) : Array Field := match P.underlying s with
  | some (.struct fs) => fs
  | _ => #[]
theorem fieldAddr_run {s : TypeId} {x : Operand} {f d n : Nat} (hp : placeS C.P (fieldsOf C.P s) f = some (d, n + 1)) (o : Oper) (base : Hp) (fr : Fr) (ov : Hp) (nx : Nat) (K : KV) :
    fieldAddrR s x f o C E base fr ov nx K = evK fr x fun v => match v with
      | .ptr b off => K (.ptr b (off + d)) ov nx
      | _ => .bad "" := by
  have : fieldAddrR s x f o C E base fr ov nx K = evK fr x fun v => match placeS C.P (fieldsOf C.P s) f, v with
      | some (d, _ + 1), .ptr b off => forceN (off + d) fun off => K (.ptr b off) ov nx
      | _, _ => .bad "" := id rfl
  rw [this, hp]
  congr 1
  funext v
  cases v <;> simp only [forceN_eq]
theorem eql_ptr_nil {P : Program} {base ov : Hp} {t u : TypeId} {b : Id} {off : Nat} {w : String} {K : Bool → Ans} (hg : P.eqGuardType P.depth t = false) (hu : P.underlying t = some (.pointer u)) : eqlK P base ov t (.ptr b off) .nilp w K = K false := by
  unfold eqlK
  simp only [eqAnyK, hg]
  unfold eqV
  simp only [hu]
theorem eql_nil_nil {P : Program} {base ov : Hp} {t u : TypeId} {w : String} {K : Bool → Ans} (hg : P.eqGuardType P.depth t = false) (hu : P.underlying t = some (.pointer u)) : eqlK P base ov t .nilp .nilp w K = K true := by
  unfold eqlK
  simp only [eqAnyK, hg]
  unfold eqV
  simp only [hu]
theorem id_ne {m n : Nat} (h : m ≠ n) : ¬ (Id.of m = Id.of n) := fun e => h (Id.of_inj e)
theorem get_set_ne {t : Tr AV} {m n : Nat} {v : AV} (h : n ≠ m) : (t.set (Id.of m) v).get (Id.of n) = t.get (Id.of n) := by rw [Tr.get_set, if_neg (id_ne h)]
theorem get_set_eq {t : Tr AV} {m : Nat} {v : AV} : (t.set (Id.of m) v).get (Id.of m) = some v := by rw [Tr.get_set, if_pos rfl]
theorem get_set_if {t : Tr AV} {m n : Nat} {v : AV} : (t.set (Id.of m) v).get (Id.of n) = if n = m then some v else t.get (Id.of n) := by
  by_cases h : n = m
  · subst h; rw [get_set_eq, if_pos rfl]
  · rw [get_set_ne h, if_neg h]
theorem putK_some {fr : Fr} {nt d : Nat} {v : AV} {K : Fr → Ans} (h : d < nt) : putK fr nt (some d) v K = K (fr.set (Id.of d) v) := by
  have hb : Nat.blt d nt = true := by simpa using h
  simp only [putK, hb, Tr.setK_eq]
theorem binR_add : binR .add = addR := id rfl
theorem binR_sub : binR .sub = subR := id rfl
theorem binR_mul : binR .mul = mulR := id rfl
theorem binR_quo : binR .quo = quoR := id rfl
theorem binR_rem : binR .rem = remR := id rfl
theorem binR_lss : binR .lss = lssR := id rfl
theorem binR_leq : binR .leq = leqR := id rfl
theorem binR_gtr : binR .gtr = gtrR := id rfl
theorem binR_geq : binR .geq = geqR := id rfl
theorem binR_eql : binR .eql = eqlR := id rfl
theorem binR_neq : binR .neq = neqR := id rfl
theorem retI_eq (k : IntKind) (n : Int) (ov : Hp) (nx : Nat) (K : KV) : retI k n ov nx K = K (.int k n) ov nx := forceI_eq _ _
theorem retB_eq (b : Bool) (ov : Hp) (nx : Nat) (K : KV) : retB b ov nx K = K (.bool b) ov nx := forceB_eq _ _
theorem ikEq_self (k : IntKind) : ikEq k k = true := (ikEq_iff k k).2 rfl
theorem bothInts_same (k : IntKind) (a b : Int) (w : String) (K : IntKind → Int → Int → Ans) : bothInts (.int k a) (.int k b) w K = K k a b := by
  simp [bothInts, ikEq_self]
theorem wrapI_small' {k : IntKind} {n : Int} (h : k.wrap n = n) : wrapI k n = n := by rw [wrapI_eq, h]
section
variable (P : Program) (base ov : Hp) (t : TypeId) (k k' : IntKind) (a b : Int) (w : String) (nx : Nat) (K : KV)
theorem add_int : addR P base ov t (.int k a) (.int k b) w nx K = K (.int k (wrapI k (addI a b))) ov nx := by simp only [addR, bothInts_same, retI_eq]
theorem sub_int : subR P base ov t (.int k a) (.int k b) w nx K = K (.int k (wrapI k (subI a b))) ov nx := by simp only [subR, bothInts_same, retI_eq]
theorem mul_int : mulR P base ov t (.int k a) (.int k b) w nx K = K (.int k (wrapI k (a * b))) ov nx := by simp only [mulR, bothInts_same, retI_eq]
theorem bits_int (f : (k : IntKind) → BitVec k.bits → BitVec k.bits → BitVec k.bits) : bitsR f P base ov t (.int k a) (.int k b) w nx K = K (.int k (wrapI k (f k (BitVec.ofInt k.bits a) (BitVec.ofInt k.bits b)).toNat)) ov nx := by simp only [bitsR, bothInts_same, retI_eq]
theorem lss_int : lssR P base ov t (.int k a) (.int k b) w nx K = K (.bool (ltI a b)) ov nx := by simp only [lssR, lessK, bothInts_same, retB_eq]
theorem geq_int : geqR P base ov t (.int k a) (.int k b) w nx K = K (.bool (!ltI a b)) ov nx := by simp only [geqR, lessK, bothInts_same, retB_eq]
theorem gtr_int : gtrR P base ov t (.int k a) (.int k b) w nx K = K (.bool (ltI b a)) ov nx := by simp only [gtrR, lessK, bothInts_same, retB_eq]
theorem eql_int : eqlR P base ov t (.int k a) (.int k b) w nx K = K (.bool (eqI a b)) ov nx := by simp only [eqlR, eqlK, ikEq_self, retB_eq]
theorem neq_int : neqR P base ov t (.int k a) (.int k b) w nx K = K (.bool (!eqI a b)) ov nx := by simp only [neqR, eqlK, ikEq_self, retB_eq]
theorem binR_and : binR .and = bitsR (fun _ a b => a &&& b) := id rfl
theorem binR_or : binR .or = bitsR (fun _ a b => a ||| b) := id rfl
theorem binR_xor : binR .xor = bitsR (fun _ a b => a ^^^ b) := id rfl
theorem binR_shl : binR .shl = shlR := id rfl
theorem binR_shr : binR .shr = shrR := id rfl
theorem wrap_u32 (x : BitVec 32) : wrapI .u32 ((x.toNat : Nat) : Int) = Int.ofNat x.toNat := by
  have h : x.toNat < 4294967296 := x.isLt
  refine wrapI_small' ?_
  simp only [IntKind.wrap, IntKind.bits, IntKind.signed, Bool.false_and]
  have : ((2 : Int) ^ 32) = 4294967296 := by decide
  rw [this]
  show (if false = true then _ else _) = _
  simp only [Bool.false_eq_true, if_false]
  omega
theorem bits_u32 (f : (k : IntKind) → BitVec k.bits → BitVec k.bits → BitVec k.bits) : bitsR f P base ov t (.int .u32 a) (.int .u32 b) w nx K = K (.int .u32 (Int.ofNat (f .u32 (BitVec.ofInt 32 a) (BitVec.ofInt 32 b)).toNat)) ov nx := by
  rw [bits_int]
  exact congrArg (fun n => K (.int .u32 n) ov nx) (wrap_u32 _)
def x32 (a b : Int) : Nat := (BitVec.ofInt 32 a ^^^ BitVec.ofInt 32 b).toNat
def a32 (a b : Int) : Nat := (BitVec.ofInt 32 a &&& BitVec.ofInt 32 b).toNat
theorem and_u32 : bitsR (fun _ a b => a &&& b) P base ov t (.int .u32 a) (.int .u32 b) w nx K = K (.int .u32 (Int.ofNat (a32 a b))) ov nx := bits_u32 P base ov t a b w nx K _
theorem xor_u32 : bitsR (fun _ a b => a ^^^ b) P base ov t (.int .u32 a) (.int .u32 b) w nx K = K (.int .u32 (Int.ofNat (x32 a b))) ov nx := bits_u32 P base ov t a b w nx K _
theorem convert_int {s d : TypeId} {ds : TypeDesc} (hs : P.underlying s = some ds) (hd : P.underlying d = some (.int k)) : convertK P base ov nx s d (.int k' a) w K = K (.int k (wrapI k a)) ov nx := by
  unfold convertK
  rw [hs, hd]
  simp only [retI_eq]
end
theorem wrapI_small {k : IntKind} {n : Int} (h : k.wrap n = n) : wrapI k n = n := by rw [wrapI_eq, h]
end
end Go.Sb
/- The symbolic machine of these proofs, part 34: what is asked behind a run, as a predicate; pieces of code. -/
namespace Go.Sb
open Go.RowKit
open Classical in
/-- A continuation that asks. -/
noncomputable def KP (p : AX → Fr → Hp → Nat → Prop) : KX := fun x fr ov nx => if p x fr ov nx then .ok [] else .bad ""
theorem KP_iff {p : AX → Fr → Hp → Nat → Prop} {x : AX} {fr : Fr} {ov : Hp} {nx : Nat} : Sat (KP p x fr ov nx) [] ↔ p x fr ov nx := by
  unfold KP
  constructor
  · intro h
    split at h
    · assumption
    · exact (not_sat_bad h).elim
  · intro h
    rw [if_pos h]
    exact ⟨[], rfl, fun _ h => h⟩
theorem Sat.nil : Sat (.ok []) [] := ⟨[], rfl, fun _ h => h⟩
theorem piece {C : Ctx} (hC : CtxOK C) {n : Nat} {c : Code} {p : AX → Fr → Hp → Nat → Prop} {z : Nat} {base : Hp} {ro : Option Id} {rn : Option Nat} {nt : Nat} {fr : Fr} {ov : Hp} {nx : Nat} {ρ : Rho} {a : Act} {w : World} {Q : Exit → Act → World → Prop}
    (h : St z base ro rn nt ρ fr ov a w) (hs : Sat (exec C n c base ro nt fr ov nx (KP p)) [])
    (hK : ∀ x fr' ov' nx' ρ' a' w', p x fr' ov' nx' → Thru base ρ ov w ρ' ov' w' → St z base ro rn nt ρ' fr' ov' a' w' → Q x.to a' w') : c.wpIn (FW rn) 0 C.P Q a w :=
  (sound_exec hC n c).go h hs fun x fr' ov' nx' ρ' a' w' h1 h2 h3 => hK x fr' ov' nx' ρ' a' w' (KP_iff.1 h1) h2 h3
theorem anyK_ok {one : MEnt → Ans} {l : List Out} : ∀ {e : MEnt} {L : List MEnt}, (∀ x ∈ e :: L, Sat (one x) l) → Sat (anyK one e L) l
  | e, [], h => h e (List.mem_cons_self ..)
  | e, e' :: L, h => by
    obtain ⟨l1, h1, g1⟩ := h e (List.mem_cons_self ..)
    obtain ⟨l2, h2, g2⟩ := anyK_ok (one := one) (e := e') (L := L) fun x hx => h x (List.mem_cons_of_mem _ hx)
    refine ⟨l1 ++ l2, ?_, fun x hx => ?_⟩
    · show Ans.both (one e) (anyK one e' L) = _
      rw [h1, h2]
      rfl
    · rcases List.mem_append.1 hx with h | h
      · exact g1 x h
      · exact g2 x h
/-- A summary that stands for a run of the machine itself. -/
theorem summ_of_run {C : Ctx} (hC : CtxOK C) {f n : Nat} {s : Summ} (h : ∀ base ov nx args K l, Sat (s base ov nx args K) l → Sat (callK C (exec C n) base f args ov nx K) l) : SummOK C.P f s := by
  intro base ov nx args K l ρ w args' R hh ha hs hR
  exact callK_ok hC (sound_exec hC n) hh ha (h base ov nx args K l hs) hR
theorem summ_of_run2 {C : Ctx} (hC : CtxOK C) {f n : Nat} {s : Summ} (h : ∀ base ov nx args K l ρ w (args' : Array Value), HR base ρ ov w → VRL ρ args args'.toList → Sat (s base ov nx args K) l → Sat (callK C (exec C n) base f args ov nx K) l) : SummOK C.P f s := by
  intro base ov nx args K l ρ w args' R hh ha hs hR
  exact callK_ok hC (sound_exec hC n) hh ha (h base ov nx args K l ρ w args' hh ha hs) hR
theorem bytesOfCells_spec : ∀ {L : List AV} {bs : List Nat}, bytesOfCells L = some bs → bs.length = L.length ∧ ∀ (j : Nat) (v : AV), L[j]? = some v → ∃ x, bs[j]? = some x ∧ x < 256 ∧ v = .int .u8 (.ofNat x)
  | [], bs, h => by simp [bytesOfCells] at h; subst h; exact ⟨rfl, fun j v hv => by simp at hv⟩
  | a :: L, bs, h => by
    unfold bytesOfCells at h
    split at h
    · rename_i he; cases he
    · rename_i n l he
      cases he
      split at h
      · rename_i hn
        cases hb : bytesOfCells L with
        | none => rw [hb] at h; cases h
        | some xs =>
          rw [hb] at h
          simp at h
          subst h
          obtain ⟨g1, g2⟩ := bytesOfCells_spec hb
          refine ⟨by simp [g1], fun j v hv => ?_⟩
          cases j with
          | zero => simp at hv; subst hv; exact ⟨n, rfl, by simpa using hn, rfl⟩
          | succ j => simpa using g2 j v (by simpa using hv)
      · cases h
    · cases h
theorem callK_body {C : Ctx} {E : Code → R} {base ov : Hp} {f nx : Nat} {fn : Func} {args : List AV} {K : KV} (hS : C.S f = none) (hJ : C.J f = false) (hf : C.P.funcs[f]? = some fn) (hl : args.length ≤ fn.ntmps) :
    callK C E base f args ov nx K = bodyK C E base f fn args ov nx K := by
  have hb : Nat.ble args.length fn.ntmps = true := by simpa using hl
  simp only [callK, hS, hf, hb, hJ]
end Go.Sb
/- The symbolic machine of these proofs, part 35: numbers that no block has; what lay there before, seen behind a run that made blocks of its own. -/
namespace Go.Sb
open Go.RowKit
/-! ### Numbers that no block has -/
def Id.len : Id → Nat
  | .h => 0
  | .o p => p.len + 1
  | .i p => p.len + 1
theorem Id.back_lt (p : Id) : p.back < 2 ^ (p.len + 1) := by
  induction p with
  | h => simp [Id.back, Id.len]
  | o p ih => simp only [Id.back, Id.len, Nat.pow_succ] at *; omega
  | i p ih => simp only [Id.back, Id.len, Nat.pow_succ] at *; omega
def Tr.depth {α : Type} : Tr α → Nat
  | .e => 0
  | .n l _ r => max l.depth r.depth + 1
theorem Tr.get_deep {α : Type} (t : Tr α) (p : Id) (h : t.depth ≤ p.len) : t.get p = none := by
  induction t generalizing p with
  | e => cases p <;> rfl
  | n l v r ihl ihr =>
    cases p with
    | h => simp [Tr.depth, Id.len] at h
    | o p => exact ihl p (by simp only [Tr.depth, Id.len] at h; omega)
    | i p => exact ihr p (by simp only [Tr.depth, Id.len] at h; omega)
theorem Tr.free {α : Type} (t : Tr α) : ∃ N, ∀ n, N ≤ n → t.get (Id.of n) = none := by
  refine ⟨2 ^ (t.depth + 1), fun n hn => t.get_deep _ ?_⟩
  have hb : (Id.of n).back = n + 1 := Id.back_ofF n (n + 1) (by omega) (by omega)
  have h1 := (Id.of n).back_lt
  rw [hb] at h1
  refine Nat.le_of_not_lt fun hc => ?_
  have : 2 ^ ((Id.of n).len + 1) ≤ 2 ^ (t.depth + 1) := Nat.pow_le_pow_right (by omega) (by omega)
  omega
def Free (base ov : Hp) (N : Nat) : Prop := ∀ n, N ≤ n → absent base ov (Id.of n) = true
theorem free_exists (base ov : Hp) : ∃ N, Free base ov N := by
  obtain ⟨N1, h1⟩ := Tr.free base
  obtain ⟨N2, h2⟩ := Tr.free ov
  refine ⟨max N1 N2, fun n hn => ?_⟩
  simp only [absent, Tr.getR_eq, h1 n (by omega), h2 n (by omega)]
theorem Free.set {base ov : Hp} {N : Nat} (h : Free base ov N) (n : Nat) (o : Option AO) : Free base (ov.set (Id.of n) o) (max N (n + 1)) := by
  intro m hm
  rw [absent_set, if_neg (id_ne (by omega))]
  exact h m (by omega)
theorem Free.setOld {base ov : Hp} {N : Nat} (h : Free base ov N) {b : Id} (hb : absent base ov b = false) (o : Option AO) : Free base (ov.set b o) N := by
  intro m hm
  rw [absent_set, if_neg (fun e => by rw [← e, h m hm] at hb; cases hb)]
  exact h m hm
theorem Free.mono {base ov : Hp} {N M : Nat} (h : Free base ov N) (hm : N ≤ M) : Free base ov M := fun n hn => h n (Nat.le_trans hm hn)

/-! ### The same values under the smaller relation -/
section
variable {ρ ρ' : Rho}
mutual
theorem VR.shrink (hle : ρ.le ρ') : ∀ {v : AV} {u v' : Value}, VR ρ v u → VR ρ' v v' → VR ρ v v'
  | _, _, _, .junk _, _ => .junk _
  | _, _, _, .bool _, h => by cases h; exact .bool _
  | _, _, _, .int _ _, h => by cases h; exact .int _ _
  | _, _, _, .str _, h => by cases h with | str h => exact .str h
  | _, _, _, .nilp, h => by cases h; exact .nilp
  | _, _, _, .ptr off hb, h => by
    cases h with
    | ptr _ hb' => have := hle _ _ hb; rw [this] at hb'; cases hb'; exact .ptr off hb
  | _, _, _, .gptr g off, h => by cases h; exact .gptr g off
  | _, _, _, .nils, h => by cases h; exact .nils
  | _, _, _, .sl hb _ _ _ _, h => by
    cases h with
    | sl hb' hc hx hl ha => have := hle _ _ hb; rw [this] at hb'; cases hb'; exact .sl hb hc hx hl ha
  | _, _, _, .nilm, h => by cases h; exact .nilm
  | _, _, _, .map hb, h => by
    cases h with
    | map hb' => have := hle _ _ hb; rw [this] at hb'; cases hb'; exact .map hb
  | _, _, _, .func h1 h2, h => by
    cases h with
    | func g1 g2 => exact .func (VRL.shrink hle h1 g1) (VRL.shrink hle h2 g2)
  | _, _, _, .yield hb, h => by
    cases h with
    | yield hb' => have := hle _ _ hb; rw [this] at hb'; cases hb'; exact .yield hb
  | _, _, _, .nilf, h => by cases h; exact .nilf
  | _, _, _, .nili, h => by cases h; exact .nili
  | _, _, _, .agg h1, h => by
    cases h with
    | agg g => exact .agg (VRC.shrink hle h1 g)
  | _, _, _, .tup h1, h => by
    cases h with
    | tup g => exact .tup (VRL.shrink hle h1 g)
theorem VRL.shrink (hle : ρ.le ρ') : ∀ {l : List AV} {m l' : List Value}, VRL ρ l m → VRL ρ' l l' → VRL ρ l l'
  | _, _, _, .nil, h => by cases h; exact .nil
  | _, _, _, .cons h1 t1, h => by
    cases h with
    | cons h2 t2 => exact .cons (VR.shrink hle h1 h2) (VRL.shrink hle t1 t2)
theorem VRC.shrink (hle : ρ.le ρ') : ∀ {l : List AV} {m l' : List Value}, VRC ρ l m → VRC ρ' l l' → VRC ρ l l'
  | _, _, _, .nil, h => by cases h; exact .nil
  | _, _, _, .cons c h1 t1, h => by
    cases h with
    | cons _ h2 t2 => exact .cons c (VR.shrink hle h1 h2) (VRC.shrink hle t1 t2)
end
theorem MRL.shrink (hle : ρ.le ρ') : ∀ {l : List MEnt} {m l' : List MapEntry}, MRL ρ l m → MRL ρ' l l' → MRL ρ l l'
  | [], _, _, h, k => by cases h; cases k; exact .nil
  | e :: l, _, _, h, k => by
    cases h with
    | cons h1 t1 =>
      cases k with
      | cons h2 t2 => exact .cons ⟨h1.key.shrink hle h2.key, h1.val.shrink hle h2.val, h2.born⟩ (MRL.shrink hle t1 t2)
theorem FR.shrink {nt : Nat} {fr : Fr} {tm tm' : Array Value} (hle : ρ.le ρ') (h : FR ρ nt fr tm) (k : FR ρ' nt fr tm') : FR ρ nt fr tm' := by
  refine ⟨k.size, fun t v ht => ?_⟩
  obtain ⟨u, _, h2⟩ := h.slot t v ht
  obtain ⟨u', g1, g2⟩ := k.slot t v ht
  exact ⟨u', g1, h2.shrink hle g2⟩
theorem OR.shrink {w w' : World} {e : Ent} {o : AO} (hle : ρ.le ρ') (h : OR ρ w e o) (k : OR ρ' w' e o) : OR ρ w' e o := by
  cases o with
  | cells n rows plain =>
    obtain ⟨c, el, fz, _, _, _, _, _, _, h7⟩ := h
    obtain ⟨c', el', fz', g1, g2, g3, g4, g5, g6, g7⟩ := k
    refine ⟨c', el', fz', g1, g2, g3, g4, g5, g6, fun i hi => ?_⟩
    obtain ⟨v, a1, a2, v', a3, a4⟩ := h7 i hi
    obtain ⟨u, b1, b2, u', b3, b4⟩ := g7 i hi
    rw [a1] at b1; cases b1
    exact ⟨v, a1, a2, u', b3, a4.shrink hle b4⟩
  | map es clock =>
    obtain ⟨es1, _, h2⟩ := h
    obtain ⟨es2, g1, g2⟩ := k
    exact ⟨es2, g1, h2.shrink hle g2⟩
  | miter m since seen last stepped nb =>
    obtain ⟨m1, s1, _, _, _, h4, _⟩ := h
    obtain ⟨m2, s2, g1, g2, g3, g4, g5⟩ := k
    refine ⟨m2, s2, g1, g2, g3, ?_, g5⟩
    cases m with
    | none => exact g4
    | some b =>
      obtain ⟨eb, p1, p2⟩ := h4
      obtain ⟨eb', q1, q2⟩ := g4
      have := hle _ _ p1
      rw [this] at q1; cases q1
      exact ⟨eb, p1, q2⟩
  | siter s pos => exact k
  | loop st pend fr nt ps assign body =>
    obtain ⟨L, _, _, _, h4, _⟩ := h
    obtain ⟨L', g1, g2, g3, g4, g5, g6, g7⟩ := k
    exact ⟨L', g1, g2, g3, h4.shrink hle g4, g5, g6, g7⟩
end
/-- What lay there before lies there still, behind a run that turned none of it. -/
theorem HR.distill {base ov0 ovf : Hp} {ρ0 ρf : Rho} {w0 wf : World} (h0 : HR base ρ0 ov0 w0) (hf : HR base ρf ovf wf) (ht : Thru base ρ0 ov0 w0 ρf ovf wf) (ho : ∀ b o, look base ov0 b = some o → look base ovf b = some o) : HR base ρ0 ov0 wf :=
  ⟨fun b o e hb he => (h0.block b o e hb he).shrink ht.ext.le (hf.block b o e (ho b o hb) (ht.ext.le _ _ he)), h0.inj, h0.dom, fun b e hb => Nat.lt_of_lt_of_le (h0.size b e hb) ht.ext.size⟩
/-- One block of the run's own is kept. -/
theorem HR.distillOne {base ov0 ovf : Hp} {ρ0 ρf : Rho} {w0 wf : World} (h0 : HR base ρ0 ov0 w0) (hf : HR base ρf ovf wf) (ht : Thru base ρ0 ov0 w0 ρf ovf wf) (ho : ∀ b o, look base ov0 b = some o → look base ovf b = some o)
    {b bf : Id} {o : AO} {e : Ent} (hb : absent base ov0 b = true) (hbf : absent base ov0 bf = true) (hl : look base ovf bf = some o) (he : ρf bf = some e) (hor : ∀ ρ, OR ρ wf e o) :
    HR base (upd ρ0 b e) (ov0.set b (some o)) wf ∧ Thru base ρ0 ov0 w0 (upd ρ0 b e) (ov0.set b (some o)) wf := by
  have hn := h0.dom b hb
  have hd := h0.distill hf ht ho
  constructor
  · refine (hd.lay (some o) hb).use hn (by rw [look_set, if_pos rfl]) (Nat.le_refl _) (hf.size _ _ he) (fun _ _ _ => rfl) (fun b1 o1 e1 h1 r1 hr => ?_) (hor _)
    have hne : b1 ≠ b := by intro k; subst k; rw [hn] at r1; cases r1
    rw [look_set, if_neg hne] at h1
    have := hf.inj b1 bf o1 o e1 e (ho _ _ h1) hl (ht.ext.le _ _ r1) he hr
    subst this
    rw [look_absent hbf] at h1
    cases h1
  · refine ⟨⟨upd_le _ hn, fun b1 e1 h1 => ?_, ht.ext.keep, ht.ext.size, ht.ext.os, ht.ext.tape, ht.ext.output⟩, fun b1 h1 h2 => ?_, fun b1 h1 => ?_⟩
    · unfold upd at h1
      split at h1
      · cases h1; exact ht.ext.fresh bf e he
      · exact .inr ⟨b1, e1, h1, rfl⟩
    · have hne : b1 ≠ b := by intro k; subst k; rw [hb] at h1; cases h1
      simp [upd, hne, h2]
    · rw [absent_set] at h1
      split at h1
      · cases h1
      · exact h1
end Go.Sb
/- The symbolic machine of these proofs, part 37: loops that are told by what they do; bodies of functions over a heap of their own. -/
namespace Go.Sb
open Go.RowKit

/-! ### Frames and heaps, told -/
def frL : List (Nat × AV) → Fr
  | [] => .e
  | p :: l => (frL l).set (Id.of p.1) p.2
def hpL : List (Nat × AO) → Hp
  | [] => .e
  | q :: m => (hpL m).set (Id.of q.1) (some q.2)
theorem frL_get : ∀ {l : List (Nat × AV)} {s : Nat} {v : AV}, (frL l).get (Id.of s) = some v → (s, v) ∈ l
  | [], s, v, h => by
    simp only [frL] at h
    cases e : Id.of s <;> rw [e] at h <;> cases h
  | p :: l, s, v, h => by
    simp only [frL, Tr.get_set] at h
    split at h
    · rename_i e
      have := Id.of_inj e
      cases h
      rw [this]
      exact List.mem_cons_self ..
    · exact List.mem_cons_of_mem _ (frL_get h)
theorem hpL_get : ∀ {m : List (Nat × AO)} {b : Id} {o : Option AO}, (hpL m).get b = some o → ∃ n a, b = Id.of n ∧ o = some a ∧ (n, a) ∈ m
  | [], b, o, h => by
    simp only [hpL] at h
    cases b <;> cases h
  | q :: m, b, o, h => by
    simp only [hpL, Tr.get_set] at h
    split at h
    · rename_i e
      cases h
      exact ⟨q.1, q.2, e, rfl, List.mem_cons_self ..⟩
    · obtain ⟨n, a, h1, h2, h3⟩ := hpL_get h
      exact ⟨n, a, h1, h2, List.mem_cons_of_mem _ h3⟩
theorem hpL_has : ∀ {m : List (Nat × AO)} {n : Nat} {o : AO}, (n, o) ∈ m → (hpL m).get (Id.of n) ≠ none
  | [], n, o, h => by cases h
  | q :: m, n, o, h => by
    simp only [hpL, Tr.get_set]
    split
    · simp
    · rename_i e
      rcases List.mem_cons.1 h with h | h
      · exact absurd (by rw [← h]) e
      · exact hpL_has h

/-! ### Other numbers for blocks -/
def tau : List (Nat × Nat) → Id → Option Id
  | [], _ => none
  | p :: l, b => if b = Id.of p.1 then some (Id.of p.2) else tau l b
theorem tau_mem : ∀ {ids : List (Nat × Nat)} {b c : Id}, tau ids b = some c → ∃ p ∈ ids, b = Id.of p.1 ∧ c = Id.of p.2
  | [], b, c, h => by cases h
  | p :: l, b, c, h => by
    unfold tau at h
    split at h
    · rename_i e; cases h; exact ⟨p, List.mem_cons_self .., e, rfl⟩
    · obtain ⟨q, h1, h2⟩ := tau_mem h; exact ⟨q, List.mem_cons_of_mem _ h1, h2⟩
def okIds : List (Nat × Nat) → Bool
  | [] => true
  | p :: l => (l.all fun q => !Nat.beq p.2 q.2) && okIds l
theorem tau_inj : ∀ {ids : List (Nat × Nat)}, okIds ids = true → ∀ {b b' c : Id}, tau ids b = some c → tau ids b' = some c → b = b'
  | [], _, b, b', c, h, _ => by cases h
  | p :: l, hk, b, b', c, h, h' => by
    unfold okIds at hk
    rw [Bool.and_eq_true, List.all_eq_true] at hk
    have no : ∀ {x : Id}, tau l x = some (Id.of p.2) → False := by
      intro x hx
      obtain ⟨q, h1, _, h3⟩ := tau_mem hx
      have := hk.1 q h1
      rw [Id.of_inj h3] at this
      simp at this
    unfold tau at h h'
    split at h
    · rename_i e
      cases h
      split at h'
      · rename_i e'; rw [e, e']
      · exact (no h').elim
    · split at h'
      · cases h'; exact (no h).elim
      · exact tau_inj hk.2 h h'
def ren1 (τ : Id → Option Id) : AV → Option AV
  | .ptr b off => match τ b with
    | some c => some (.ptr c off)
    | none => none
  | .sl b off len cap es ex => match τ b with
    | some c => some (.sl c off len cap es ex)
    | none => none
  | .map b => match τ b with
    | some c => some (.map c)
    | none => none
  | .junk => some .junk
  | .bool b => some (.bool b)
  | .int k n => some (.int k n)
  | .str s => some (.str s)
  | .nilp => some .nilp
  | .gptr g off => some (.gptr g off)
  | .nils => some .nils
  | .nilm => some .nilm
  | .nilf => some .nilf
  | .nili => some .nili
  | .func f [] [] => some (.func f [] [])
  | _ => none
def renL (τ : Id → Option Id) : List AV → Option (List AV)
  | [] => some []
  | a :: l => match ren1 τ a, renL τ l with
    | some a, some l => some (a :: l)
    | _, _ => none
def renC (τ : Id → Option Id) : AO → Option AO
  | .cells n (.ik k f) p => some (.cells n (.ik k f) p)
  | .cells n (.flat l) p => match renL τ l with
    | some l => some (.cells n (.flat l) p)
    | none => none
  | _ => none
def comp (τ : Id → Option Id) (ρ : Rho) : Rho := fun b => (τ b).bind ρ
theorem VR_ren {τ : Id → Option Id} {ρ : Rho} {v u : AV} {v' : Value} (h : ren1 τ v = some u) (hv : VR ρ u v') : VR (comp τ ρ) v v' := by
  cases v with
  | ptr b off =>
    simp only [ren1] at h
    cases hb : τ b with
    | none => rw [hb] at h; cases h
    | some c => rw [hb] at h; cases h; cases hv with | ptr off hc => exact .ptr off (by simp [comp, hb, hc])
  | sl b off len cap es ex =>
    simp only [ren1] at h
    cases hb : τ b with
    | none => rw [hb] at h; cases h
    | some c => rw [hb] at h; cases h; cases hv with | sl hc h1 h2 h3 h4 => exact .sl (by simp [comp, hb, hc]) h1 h2 h3 h4
  | map b =>
    simp only [ren1] at h
    cases hb : τ b with
    | none => rw [hb] at h; cases h
    | some c => rw [hb] at h; cases h; cases hv with | map hc => exact .map (by simp [comp, hb, hc])
  | junk => exact .junk _
  | bool b => cases h; cases hv; exact .bool _
  | int k n => cases h; cases hv; exact .int _ _
  | str s => cases h; cases hv with | str e => exact .str e
  | nilp => cases h; cases hv; exact .nilp
  | gptr g off => cases h; cases hv; exact .gptr _ _
  | nils => cases h; cases hv; exact .nils
  | nilm => cases h; cases hv; exact .nilm
  | nilf => cases h; cases hv; exact .nilf
  | nili => cases h; cases hv; exact .nili
  | func f a b =>
    cases a with
    | cons _ _ => cases h
    | nil =>
      cases b with
      | cons _ _ => cases h
      | nil =>
        cases h
        cases hv with
        | func h1 h2 =>
          refine .func ?_ ?_
          · rw [List.eq_nil_of_length_eq_zero h1.length.symm]; exact .nil
          · rw [List.eq_nil_of_length_eq_zero h2.length.symm]; exact .nil
  | yield l => cases h
  | agg l => cases h
  | tup l => cases h
theorem ren1_ok {τ : Id → Option Id} {v u : AV} (h : ren1 τ v = some u) (hu : cellOk u = true) : cellOk v = true := by
  cases v <;> simp [ren1] at h <;> (try (subst h; exact hu)) <;> rfl
theorem renL_get {τ : Id → Option Id} : ∀ {l m : List AV}, renL τ l = some m → m.length = l.length ∧ ∀ (i : Nat) (u : AV), m[i]? = some u → ∃ v, l[i]? = some v ∧ ren1 τ v = some u
  | [], m, h => by cases h; exact ⟨rfl, fun i u h => by cases h⟩
  | a :: l, m, h => by
    unfold renL at h
    split at h
    · rename_i a' l' h1 h2
      cases h
      obtain ⟨g1, g2⟩ := renL_get h2
      refine ⟨by simp [g1], fun i u hu => ?_⟩
      cases i with
      | zero => simp at hu; subst hu; exact ⟨a, rfl, h1⟩
      | succ i => exact g2 i u (by simpa using hu)
    · cases h
theorem OR_ren {τ : Id → Option Id} {ρ : Rho} {w : World} {e : Ent} {o o' : AO} (h : renC τ o = some o') (ho : OR ρ w e o') : OR (comp τ ρ) w e o := by
  cases o with
  | cells n r p =>
    cases r with
    | ik k f =>
      cases h
      obtain ⟨c, el, fz, h1, h2, h3, h4, h5, h6, h7⟩ := ho
      refine ⟨c, el, fz, h1, h2, h3, h4, h5, h6, fun i hi => ?_⟩
      obtain ⟨v, g1, g2, v', g3, g4⟩ := h7 i hi
      refine ⟨v, g1, g2, v', g3, ?_⟩
      cases g1
      rw [g4.int_inv]
      exact .int _ _
    | flat l =>
      simp only [renC] at h
      cases hl : renL τ l with
      | none => rw [hl] at h; cases h
      | some m =>
        rw [hl] at h
        cases h
        obtain ⟨g1, g2⟩ := renL_get hl
        obtain ⟨c, el, fz, h1, h2, h3, h4, h5, h6, h7⟩ := ho
        refine ⟨c, el, fz, h1, h2, h3, h4, h5, (by have h6 : m.length = n := h6; show l.length = n; omega), fun i hi => ?_⟩
        obtain ⟨u, k1, k2, v', k3, k4⟩ := h7 i hi
        obtain ⟨v, q1, q2⟩ := g2 i u k1
        exact ⟨v, q1, ren1_ok q2 k2, v', k3, VR_ren q2 k4⟩
    | tr w d t => cases h
  | _ => cases h

/-! ### A state that knows less -/
def Le (N : Nat) (fr : Fr) (ov : Hp) (fr2 : Fr) (ov2 : Hp) : Prop :=
  ∀ {nt : Nat} {ρ : Rho} {tm : Array Value} {w : World}, HR .e ρ ov w → FR ρ nt fr tm → ∃ ρ2 : Rho, HR .e ρ2 ov2 w ∧ FR ρ2 nt fr2 tm ∧ (∀ b e, ρ2 b = some e → ∃ b', ρ b' = some e) ∧ ∀ n, 0 < n → n < N → ρ2 (Id.of n) = ρ (Id.of n)
theorem look_e_get {ov : Hp} {b : Id} {o : AO} : look .e ov b = some o ↔ ov.get b = some (some o) := by
  simp only [look, Tr.getR_eq]
  have : (Tr.e : Hp).get b = none := by cases b <;> rfl
  rw [this]
  cases h : ov.get b with
  | none => simp
  | some r => simp
theorem absent_e_get {ov : Hp} {b : Id} : absent .e ov b = true ↔ ov.get b = none := by
  simp only [absent, Tr.getR_eq]
  have : (Tr.e : Hp).get b = none := by cases b <;> rfl
  rw [this]
  cases h : ov.get b with
  | none => simp
  | some r => simp
theorem le_mk {N : Nat} {fr : Fr} {ov : Hp} {l : List (Nat × AV)} {m : List (Nat × AO)} (ids : List (Nat × Nat)) (hn : okIds ids = true)
    (hl : ∀ p ∈ l, ∃ u, ren1 (tau ids) p.2 = some u ∧ fr.get (Id.of p.1) = some u)
    (hm : ∀ q ∈ m, ∃ c o, tau ids (Id.of q.1) = some c ∧ renC (tau ids) q.2 = some o ∧ ov.get c = some (some o))
    (hd : ∀ p ∈ ids, ∃ o, (p.1, o) ∈ m) (hN : ∀ n, 0 < n → n < N → tau ids (Id.of n) = some (Id.of n)) : Le N fr ov (frL l) (hpL m) := by
  intro nt ρ tm w hh hf
  have hlook : ∀ b o, look .e (hpL m) b = some o → ∃ c o', tau ids b = some c ∧ renC (tau ids) o = some o' ∧ look .e ov c = some o' := by
    intro b o h
    obtain ⟨n, a, e1, e2, e3⟩ := hpL_get (look_e_get.1 h)
    cases e2
    subst e1
    obtain ⟨c, o', g1, g2, g3⟩ := hm _ e3
    exact ⟨c, o', g1, g2, look_e_get.2 g3⟩
  refine ⟨comp (tau ids) ρ, ⟨fun b o e hb he => ?_, fun b b' o o' e e' h1 h2 h3 h4 h5 => ?_, fun b hb => ?_, fun b e he => ?_⟩, ⟨hf.size, fun t v ht => ?_⟩, fun b e he => ?_, fun n hpos hlt => ?_⟩
  · obtain ⟨c, o', g1, g2, g3⟩ := hlook b o hb
    have he : ρ c = some e := by simpa [comp, g1] using he
    exact OR_ren g2 (hh.block c o' e g3 he)
  · obtain ⟨c, a, g1, g2, g3⟩ := hlook b o h1
    obtain ⟨c', a', k1, k2, k3⟩ := hlook b' o' h2
    have he : ρ c = some e := by simpa [comp, g1] using h3
    have he' : ρ c' = some e' := by simpa [comp, k1] using h4
    have := hh.inj c c' a a' e e' g3 k3 he he' h5
    subst this
    exact tau_inj hn g1 k1
  · cases hb2 : tau ids b with
    | none => simp [comp, hb2]
    | some c =>
      obtain ⟨p, p1, p2, _⟩ := tau_mem hb2
      obtain ⟨o, ho⟩ := hd p p1
      rw [p2] at hb
      exact absurd (absent_e_get.1 hb) (hpL_has ho)
  · cases hb2 : tau ids b with
    | none => simp [comp, hb2] at he
    | some c => exact hh.size c e (by simpa [comp, hb2] using he)
  · obtain ⟨u, g1, g2⟩ := hl _ (frL_get ht)
    obtain ⟨v', k1, k2⟩ := hf.slot t u g2
    exact ⟨v', k1, VR_ren g1 k2⟩
  · cases hb2 : tau ids b with
    | none => simp [comp, hb2] at he
    | some c => exact ⟨c, by simpa [comp, hb2] using he⟩
  · simp [comp, hN n hpos hlt]

/-! ### Code over a heap of its own -/
structure StT (z : Nat) (ρ0 : Rho) (w0 : World) (nt : Nat) (ρ : Rho) (fr : Fr) (ov : Hp) (a : Act) (w : World) : Prop where
  st : St z .e none none nt ρ fr ov a w
  ext : Ext ρ0 w0 ρ w
theorem StT.less {z N nt : Nat} {ρ0 ρ : Rho} {w0 w : World} {fr fr2 : Fr} {ov ov2 : Hp} {a : Act} (h : StT z ρ0 w0 nt ρ fr ov a w) (hk : Le N fr ov fr2 ov2) (h0 : ∀ b e, ρ0 b = some e → ∃ n, 0 < n ∧ n < N ∧ b = Id.of n) :
    ∃ ρ2, StT z ρ0 w0 nt ρ2 fr2 ov2 a w := by
  obtain ⟨ρ2, h1, h2, h3, h4⟩ := hk h.st.hr h.st.fr
  obtain ⟨rs, m1, m2, m3⟩ := h.st.dm.all
  refine ⟨ρ2, ⟨h1, h2, ⟨h.st.dm.low, rs, m1, m2, fun r hr => ?_⟩, rfl⟩, ⟨fun b e he => ?_, fun b e he => ?_, h.ext.keep, h.ext.size, h.ext.os, h.ext.tape, h.ext.output⟩⟩
  · obtain ⟨a1, a2, a3, a4⟩ := m3 r hr
    exact ⟨a1, a2, a3, fun b e he => by obtain ⟨b', hb'⟩ := h3 b e he; exact a4 b' e hb'⟩
  · obtain ⟨n, hp, hn, rfl⟩ := h0 b e he
    rw [h4 n hp hn]
    exact h.ext.le _ _ he
  · obtain ⟨b', hb'⟩ := h3 b e he
    exact h.ext.fresh b' e hb'
structure SoundT (P : Program) (z : Nat) (ρ0 : Rho) (w0 : World) (nt : Nat) (c : Code) (X : R) : Prop where
  go : ∀ {fr ov nx K l ρ a w Q}, StT z ρ0 w0 nt ρ fr ov a w → Sat (X .e none nt fr ov nx K) l →
    (∀ x fr' ov' nx' ρ' a' w', Sat (K x fr' ov' nx') l → StT z ρ0 w0 nt ρ' fr' ov' a' w' → Q x.to a' w') → c.wpIn (FW none) 0 P Q a w
section
variable {P : Program} {z nt N : Nat} {ρ0 : Rho} {w0 : World}
theorem Sound.T {c : Code} {X : R} (h : Sound P c X) : SoundT P z ρ0 w0 nt c X := by
  refine ⟨?_⟩
  intro fr ov nx K l ρ a w Q hst hs hK
  exact h.go hst.st hs fun x fr' ov' nx' ρ' a' w' h1 h2 h3 => hK x fr' ov' nx' ρ' a' w' h1 ⟨h3, hst.ext.trans h2.ext⟩
theorem soundT_seq {x y : Code} {rx ry : R} (hx : SoundT P z ρ0 w0 nt x rx) (hy : SoundT P z ρ0 w0 nt y ry) : SoundT P z ρ0 w0 nt (.seq x y) (cSeq rx ry) := by
  refine ⟨?_⟩
  intro fr ov nx K l ρ a w Q hst hs hK
  refine wpIn_seq (hx.go hst hs ?_)
  intro e fr1 ov1 nx1 ρ1 a1 w1 hs1 hst1
  cases e with
  | normal => exact hy.go hst1 hs1 hK
  | exit i => exact hK (.exit i) _ _ _ _ _ _ hs1 hst1
  | goto i => exact hK (.goto i) _ _ _ _ _ _ hs1 hst1
  | ret => exact hK .ret _ _ _ _ _ _ hs1 hst1
theorem soundT_cond {c : Operand} {x y : Code} {rx ry : R} (hx : SoundT P z ρ0 w0 nt x rx) (hy : SoundT P z ρ0 w0 nt y ry) : SoundT P z ρ0 w0 nt (.cond c x y) (cCond c rx ry) := by
  refine ⟨?_⟩
  intro fr ov nx K l ρ a w Q hst hs hK
  unfold cCond at hs
  rw [evK_eq] at hs
  have hv := evS_VR hst.st.fr c
  split at hs
  · rename_i e
    rw [e] at hv
    exact wpIn_cond_true (by cases hv' : a.eval c <;> rw [hv'] at hv <;> cases hv; rfl) (hx.go hst hs hK)
  · rename_i e
    rw [e] at hv
    exact wpIn_cond_false (by cases hv' : a.eval c <;> rw [hv'] at hv <;> cases hv; rfl) (hy.go hst hs hK)
  · exact (not_sat_bad hs).elim
theorem soundT_block {i : Nat} {x : Code} {rx : R} (hx : SoundT P z ρ0 w0 nt x rx) : SoundT P z ρ0 w0 nt (.block i x) (cBlock i rx) := by
  refine ⟨?_⟩
  intro fr ov nx K l ρ a w Q hst hs hK
  refine wpIn_block (hx.go hst hs ?_)
  intro e fr1 ov1 nx1 ρ1 a1 w1 hs1 hst1
  cases e with
  | normal => exact hK .normal _ _ _ _ _ _ hs1 hst1
  | exit j =>
    simp only [AX.to, Exit.inBlock]
    have hs1 : Sat (match Nat.beq j i with | true => K .normal fr1 ov1 nx1 | false => K (.exit j) fr1 ov1 nx1) l := hs1
    rw [beq_dec] at hs1
    by_cases e : j = i
    · rw [if_pos e]; simp only [e, decide_true] at hs1; exact hK .normal _ _ _ _ _ _ hs1 hst1
    · rw [if_neg e]; simp only [e, decide_false] at hs1; exact hK (.exit j) _ _ _ _ _ _ hs1 hst1
  | goto j => exact hK (.goto j) _ _ _ _ _ _ hs1 hst1
  | ret => exact hK .ret _ _ _ _ _ _ hs1 hst1
/-- How a block is left. -/
def outOf (i : Nat) : AX → AX
  | .exit j => if j = i then .normal else .exit j
  | e => e
/-- A loop by what it does: from each state that is told, a round goes to another one, that is lower, or leaves as was told. -/
theorem loopT {X : Type} {i : Nat} {lb : Code} {rb r : R} (hb : SoundT P z ρ0 w0 nt lb rb) (h0 : ∀ b e, ρ0 b = some e → ∃ n, 0 < n ∧ n < N ∧ b = Id.of n)
    (μ : X → Nat) (pf : X → Fr) (po : X → Hp) (pn : X → Nat) (fe : X → AX) (ff : X → Fr) (fo : X → Hp)
    (hr : ∀ {fr ov nx K l}, Sat (r .e none nt fr ov nx K) l → ∃ x n, Le N fr ov (pf x) (po x) ∧ Sat (K (fe x) (ff x) (fo x) n) l)
    (Kx : X → KX) (hKx : ∀ x e fr ov nx, Sat (Kx x e fr ov nx) [] → (e = .normal ∧ ∃ x', μ x' < μ x ∧ fe x' = fe x ∧ ff x' = ff x ∧ fo x' = fo x ∧ Le N fr ov (pf x') (po x')) ∨
      (e ≠ .normal ∧ outOf i e = fe x ∧ Le N fr ov (ff x) (fo x)))
    (step : ∀ x, Sat (rb .e none nt (pf x) (po x) (pn x) (Kx x)) []) : SoundT P z ρ0 w0 nt (.block i (.loop lb)) r := by
  refine ⟨?_⟩
  intro fr ov nx K l ρ a w Q hst hs hK
  obtain ⟨x0, n0, hle, hs0⟩ := hr hs
  obtain ⟨ρx, hstx⟩ := hst.less hle h0
  refine wpIn_block ?_
  let Good : X → Act → World → Prop := fun x a' w' => fe x = fe x0 ∧ ff x = ff x0 ∧ fo x = fo x0 ∧ ∃ ρ', StT z ρ0 w0 nt ρ' (pf x) (po x) a' w'
  let GoodN : Nat → Act → World → Prop := fun n a' w' => ∃ x, μ x = n ∧ Good x a' w'
  have hg : ∃ n, GoodN n a w := ⟨μ x0, x0, rfl, rfl, rfl, rfl, ρx, hstx⟩
  classical
  let ν : Act → World → Nat := fun a w => if e : ∃ m, GoodN m a w then Classical.choose (least_of e) else 0
  refine wpIn_loop (fun a w => ∃ m, GoodN m a w) ν hg ?_
  intro a1 w1 hI
  have hν : ν a1 w1 = Classical.choose (least_of hI) := dif_pos hI
  obtain ⟨x, hx, e1, e2, e3, ρ1, hst1⟩ := (Classical.choose_spec (least_of hI)).1
  rw [← hν] at hx
  refine hb.go hst1 (step x) ?_
  intro e fr2 ov2 nx2 ρ2 a2 w2 hs2 hst2
  rcases hKx _ _ _ _ _ hs2 with ⟨rfl, x', h1, h2, h3, h4, h5⟩ | ⟨h1, h2, h3⟩
  · obtain ⟨ρ3, hst3⟩ := hst2.less h5 h0
    have hg2 : GoodN (μ x') a2 w2 := ⟨x', rfl, h2.trans e1, h3.trans e2, h4.trans e3, ρ3, hst3⟩
    refine ⟨⟨_, hg2⟩, ?_⟩
    have hd : ν a2 w2 = Classical.choose (least_of ⟨_, hg2⟩) := dif_pos ⟨_, hg2⟩
    rw [hd, ← hx]
    exact Nat.lt_of_le_of_lt ((Classical.choose_spec (least_of ⟨_, hg2⟩)).2 _ hg2) h1
  · obtain ⟨ρ3, hst3⟩ := hst2.less h3 h0
    rw [e2, e3] at hst3
    rw [e1] at h2
    have fin := hK (fe x0) _ _ _ _ _ _ hs0 hst3
    rw [← h2] at fin
    cases e with
    | normal => exact absurd rfl h1
    | exit j =>
      simp only [outOf] at fin
      show Exit.inBlock i Q (.exit j) a2 w2
      simp only [Exit.inBlock]
      by_cases e : j = i
      · rw [if_pos e] at fin ⊢; exact fin
      · rw [if_neg e] at fin ⊢; exact fin
    | goto j => exact fin
    | ret => exact fin
end

/-! ### A body whose loops are told -/
noncomputable def codeB (C : Ctx) (E : Code → R) (B : Nat → Option R) (c : Code) : R :=
  Code.rec (motive := fun _ => R) (code C E .skip) (fun i ops draw => code C E (.region i ops draw)) (fun _ _ ra rb => cSeq ra rb) (fun c _ _ ra rb => cCond c ra rb)
    (fun i _ ra => match B i with | some r => r | none => cBlock i ra)
    (fun x _ => code C E (.loop x)) (fun f ps assign body _ _ => code C E (.rangeFunc f ps assign body)) (fun i => code C E (.exit i)) (fun x _ => code C E (.scope x)) (fun i => code C E (.label i))
    (fun l => code C E (.goto l)) (code C E .ret) (fun w => code C E (.refuse w)) c
def blocksAt (i : Nat) : Code → List Code
  | .seq x y => blocksAt i x ++ blocksAt i y
  | .cond _ x y => blocksAt i x ++ blocksAt i y
  | .block j x => match Nat.beq j i with
    | true => x :: blocksAt i x
    | false => blocksAt i x
  | _ => []
theorem codeB_region {C : Ctx} {E : Code → R} {B : Nat → Option R} (i : Nat) (ops : Array Oper) (d : Bool) : codeB C E B (.region i ops d) = code C E (.region i ops d) := by
  generalize hx : code C E = F
  unfold codeB
  rw [hx]
theorem soundT_codeB {C : Ctx} {E : Code → R} (hE : ∀ c, Sound C.P c (code C E c)) {B : Nat → Option R} {z nt : Nat} {ρ0 : Rho} {w0 : World} :
    ∀ (c : Code), (∀ i r x, B i = some r → x ∈ blocksAt i c → SoundT C.P z ρ0 w0 nt (.block i x) r) → SoundT C.P z ρ0 w0 nt c (codeB C E B c) := by
  intro c
  induction c with
  | seq x y hx hy =>
    intro hB
    exact soundT_seq (hx fun i r q h1 h2 => hB i r q h1 (by unfold blocksAt; exact List.mem_append_left _ h2)) (hy fun i r q h1 h2 => hB i r q h1 (by unfold blocksAt; exact List.mem_append_right _ h2))
  | cond c x y hx hy =>
    intro hB
    exact soundT_cond (hx fun i r q h1 h2 => hB i r q h1 (by unfold blocksAt; exact List.mem_append_left _ h2)) (hy fun i r q h1 h2 => hB i r q h1 (by unfold blocksAt; exact List.mem_append_right _ h2))
  | block i x hx =>
    intro hB
    show SoundT C.P z ρ0 w0 nt (.block i x) (match B i with | some r => r | none => cBlock i (codeB C E B x))
    cases hb : B i with
    | some r => exact hB i r x hb (by unfold blocksAt; simp)
    | none =>
      refine soundT_block (hx fun j r q h1 h2 => hB j r q h1 ?_)
      unfold blocksAt
      split
      · exact List.mem_cons_of_mem _ h2
      · exact h2
  | skip => intro _; exact Sound.T (X := code C E .skip) (hE .skip)
  | region i ops d =>
    intro _
    rw [codeB_region]
    exact (hE (.region i ops d)).T
  | loop x _ => intro _; exact Sound.T (X := code C E (.loop x)) (hE (.loop x))
  | rangeFunc f ps a b _ _ => intro _; exact Sound.T (X := code C E (.rangeFunc f ps a b)) (hE (.rangeFunc f ps a b))
  | exit i => intro _; exact Sound.T (X := code C E (.exit i)) (hE (.exit i))
  | scope x _ => intro _; exact Sound.T (X := code C E (.scope x)) (hE (.scope x))
  | label i => intro _; exact Sound.T (X := code C E (.label i)) (hE (.label i))
  | goto i => intro _; exact Sound.T (X := code C E (.goto i)) (hE (.goto i))
  | ret => intro _; exact Sound.T (X := code C E .ret) (hE .ret)
  | refuse w => intro _; exact Sound.T (X := code C E (.refuse w)) (hE (.refuse w))

/-! ### A function's body -/
section
variable {C : Ctx} {E : Code → R} {ov : Hp} {ρ : Rho} {w : World} {l : List Out} {nx : Nat} {K : KV}
theorem bodyT {X : R} {f : Nat} {fn : Func} {c : Code} (hf : C.P.funcs[f]? = some fn) (hb : fn.body = some c) (hn : (fn.name == "runtime.NumGoroutine") = false)
    (hX : SoundT C.P w.heap.size ρ w fn.ntmps c X) (h : HR .e ρ ov w) {args : List AV} {args' : Array Value}
    (ha : VRL ρ args args'.toList) (hl : args.length ≤ fn.ntmps) (hs : Sat (X .e none fn.ntmps (argFrame 0 args .e) ov nx (leaveK C .e fn K)) l) {R : Value → World → Prop}
    (hR : ∀ v ov' nx' ρ' v' w', Sat (K v ov' nx') l → Ext ρ w ρ' w' → HR .e ρ' ov' w' → VR ρ' v v' → R v' w') : Goes C.P f args' w R := by
  refine ⟨fn, hf, hn, by simp [hb], callsIn_of_wp_marks hf hb trivial ?_⟩
  have hst : St w.heap.size .e none none fn.ntmps ρ (argFrame 0 args .e) ov { tmps := args' ++ Array.replicate (fn.ntmps - args'.size) undef, defers := [] } w :=
    ⟨h, argFrame_FR ha hl, .nil (Nat.le_refl _), rfl⟩
  refine hX.go ⟨hst, .refl _ _⟩ hs ?_
  intro x fr1 ov1 nx1 ρ1 a1 w1 hs1 hst1
  have fin : Sat (resultsK C fn.results.toList .e ov1 nx1 fr1 K) l → LeavesInM Fence.wide 0 C.P fn a1.tmps (fun e w' => ∃ v, e = .returned v ∧ R v w') a1.defers .returning w1 := by
    intro hs2
    obtain ⟨rs, e1, e2, e3⟩ := hst1.st.dm.all
    rw [e1]
    refine leaves_marks (z := w.heap.size) hst1.st.fr hs2 rs w1 e2 (fun r hr => ?_) hst1.st.hr fun v v' w' g1 g2 g3 g4 => ?_
    · obtain ⟨p, _, q, s⟩ := e3 r hr
      exact ⟨p, q, s⟩
    · exact ⟨v', rfl, hR v ov1 nx1 ρ1 v' w' g1 (hst1.ext.off g4) g3 g2⟩
  cases x with
  | normal => exact fin hs1
  | ret => exact fin hs1
  | exit i => exact (not_sat_bad hs1).elim
  | goto i => exact (not_sat_bad hs1).elim
end

/-! ### Functions of plain data -/
def plainV : AV → Bool
  | .bool _ | .int _ _ | .str _ | .nilp | .nils | .nilm | .nilf | .nili => true
  | _ => false
def plainR : AV → Bool
  | .tup l => l.all plainV
  | v => plainV v
theorem VR_plain {ρ ρ' : Rho} {v : AV} {v' : Value} (hp : plainV v = true) (h : VR ρ v v') : VR ρ' v v' := by
  cases v <;> simp [plainV] at hp <;> cases h <;> first | exact .bool _ | exact .int _ _ | exact .nilp | exact .nils | exact .nilm | exact .nilf | exact .nili | (constructor; assumption)
theorem VRL_plain {ρ ρ' : Rho} : ∀ {l : List AV} {l' : List Value}, l.all plainV = true → VRL ρ l l' → VRL ρ' l l'
  | [], _, _, h => by cases h; exact .nil
  | a :: l, _, hp, h => by
    rw [List.all_cons, Bool.and_eq_true] at hp
    cases h with
    | cons h t => exact .cons (VR_plain hp.1 h) (VRL_plain hp.2 t)
theorem VR_plainR {ρ ρ' : Rho} {v : AV} {v' : Value} (hp : plainR v = true) (h : VR ρ v v') : VR ρ' v v' := by
  cases v with
  | tup l => cases h with | tup h => exact .tup (VRL_plain hp h)
  | _ => exact VR_plain hp h
/-- The summary of a function of plain data: what it gives. -/
noncomputable def plainS (F : List AV → Option AV) : Summ := fun _ ov nx args K => match F args with
  | some v => K v ov nx
  | none => .bad ""
theorem HR_empty (w : World) : HR .e (fun _ => none) .e w :=
  ⟨fun b o e _ h => (by cases h), fun b b' o o' e e' _ _ h _ _ => (by cases h), fun _ _ => rfl, fun b e h => (by cases h)⟩
theorem HR_below {base ov : Hp} {ρ : Rho} {w w' : World} (h : HR base ρ ov w) (hb : Below w.heap.size w w') : HR base ρ ov w' :=
  ⟨fun b o e hl he => (h.block b o e hl he).mono ρ.le_refl (hb.block _ (h.size b e he)), h.inj, h.dom, fun b e he => Nat.lt_of_lt_of_le (h.size b e he) hb.size⟩
theorem Thru_below {base ov : Hp} {ρ : Rho} {w w' : World} (hb : Below w.heap.size w w') : Thru base ρ ov w ρ ov w' :=
  ⟨⟨ρ.le_refl, fun b e h => .inr ⟨b, e, h, rfl⟩, fun r hr _ => hb.block r hr, hb.size, hb.os, hb.tape, hb.output⟩, fun _ _ h => h, fun _ h => h⟩
open Classical in
/-- A continuation that asks. -/
noncomputable def KPp (p : Prop) : Ans := if p then .ok [] else .bad ""
theorem KPp_iff {p : Prop} : Sat (KPp p) [] ↔ p := by
  unfold KPp
  constructor
  · intro h
    split at h
    · assumption
    · exact (not_sat_bad h).elim
  · intro h
    rw [if_pos h]
    exact ⟨[], rfl, fun _ h => h⟩
theorem plain_ok {C : Ctx} {X : R} {f n : Nat} {fn : Func} {c : Code} {F : List AV → Option AV} (hf : C.P.funcs[f]? = some fn) (hb : fn.body = some c) (hn : (fn.name == "runtime.NumGoroutine") = false)
    (hX : ∀ w : World, SoundT C.P w.heap.size (fun _ => none) w fn.ntmps c X)
    (h : ∀ args v, F args = some v → args.all plainV = true ∧ plainR v = true ∧ args.length ≤ fn.ntmps ∧ Sat (X .e none fn.ntmps (argFrame 0 args .e) .e n (leaveK C .e fn fun u _ _ => KPp (u = v))) []) :
    SummOK C.P f (plainS F) := by
  intro base ov nx args K l ρ w args' R hh ha hs hR
  unfold plainS at hs
  split at hs
  · rename_i v hv
    obtain ⟨h1, h2, h3, h4⟩ := h args v hv
    refine bodyT hf hb hn (hX w) (HR_empty w) (VRL_plain h1 ha) h3 h4 ?_
    intro u ov' nx' ρ' u' w' hu he _ hvr
    have := KPp_iff.1 hu
    subst this
    have hbl := he.below
    exact hR _ _ _ _ _ _ hs (Thru_below hbl) (HR_below hh hbl) (VR_plainR h2 hvr)
  · exact (not_sat_bad hs).elim
end Go.Sb
/- The symbolic machine of these proofs, part 38: from a run to a law's statement; a closed call that answers true, as a summary. -/
namespace Go.Sb
open Go.RowKit
noncomputable abbrev br (c : Bool) (a b : Ans) : Ans := Bool.rec (motive := fun _ => Ans) b a c
theorem sat_br {c : Bool} {a b : Ans} {l : List Out} (h1 : c = true → Sat a l) (h2 : c = false → Sat b l) : Sat (br c a b) l := by
  cases c with
  | true => exact h1 rfl
  | false => exact h2 rfl
/-- What a call without arguments gives that answers true. -/
def kF : List AV → Option AV
  | [] => some (.bool true)
  | _ => none
theorem known_summ {P : Program} {f : Nat} (h : ∀ w, Go.Ab.Goes P f #[] w fun u w' => ∃ ρ, Go.Ab.VR ρ (.bool true) u ∧ Below w.heap.size w w') : SummOK P f (plainS kF) := by
  intro base ov nx args K l ρ w args' R hh ha hs hR
  unfold plainS at hs
  cases args with
  | cons _ _ => exact (not_sat_bad hs).elim
  | nil =>
    have hs : Sat (K (.bool true) ov nx) l := hs
    have he : args' = #[] := by
      apply Array.toList_inj.1
      exact List.eq_nil_of_length_eq_zero ha.length.symm
    subst he
    obtain ⟨fn, h1, h2, h3, h4⟩ := h w
    exact ⟨fn, h1, h2, h3, h4.mono fun e w' ⟨u, he, r, hv, hb⟩ => ⟨u, he, hR _ _ _ ρ u w' hs (Thru_below hb) (HR_below hh hb) (by cases hv; exact .bool _)⟩⟩
theorem law_of_run {C : Ctx} (hC : CtxOK C) {n f : Nat} {args : List AV} {args' : Array Value} (ha : VRL (fun _ => none) args args'.toList)
    (h : ∀ G : AV → Ans, Sat (G (.bool true)) [] → Sat (callK C (exec C n) .e f args .e 1 fun v _ _ => G v) []) (w : World) :
    Calls C.P f args' w fun e w' => e = .returned (.bool true) ∧ Below w.heap.size w w' := by
  have := callK_ok (l := []) (K := fun v _ _ => KPp (v = .bool true)) hC (sound_exec hC n) (HR_empty w) ha (h (fun v => KPp (v = .bool true)) (KPp_iff.2 rfl)) (R := fun u w' => u = .bool true ∧ Below w.heap.size w w')
    (fun v ov' nx' ρ' v' w' hs ht _ hv => ⟨by rw [KPp_iff.1 hs] at hv; cases hv; rfl, ht.ext.below⟩)
  obtain ⟨fn, h1, h2, h3, h4⟩ := this
  exact callsIn_wide.1 (h4.mono fun e w' ⟨u, he, hu, hb⟩ => ⟨by rw [he, hu], hb⟩)
theorem str_VR (ρ : Rho) (s : ByteArray) : VR ρ (.str (s.data.toList.map UInt8.toNat)) (.string s) := .str rfl
end Go.Sb
