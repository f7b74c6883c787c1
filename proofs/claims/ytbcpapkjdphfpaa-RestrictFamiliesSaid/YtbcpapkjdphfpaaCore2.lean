/- The abstract machine, second part: values, heap, operations, code, the evaluator. No condition. -/
import Derived.Test.YtbcpapkjdphfpaaCore1
namespace Go.Ab

inductive AV where
  | b (x : Bool)
  | i (k : IntKind) (n : Int)
  | s (x : List UInt8)
  | nilp
  | ptr (blk off : Nat)
  | nils
  | sl (blk off len cap : Nat) (loose : Bool)
  | nilf
  | fn (f : Nat) (first cap : List AV)
  | nili
  | ifc (t : Nat) (v : AV)
  | agg (cs : List AV)
  | tup (cs : List AV)
  | nilm
  | map (r : Nat)
  | sym (id : Nat)
  | undef

/-- a block: cells (how many an element has; may they be written; may the row be appended to), or none any more, or a map -/
inductive Blk where
  | cells (esz : Nat) (w a : Bool) (cs : List AV)
  | dead
  | map (es : List (AV × AV))

structure Hp where
  sz : Nat
  fl : Nat
  tr : Tr Blk

inductive O where
  | t (n : Nat)
  | c (v : AV)

inductive PK where
  | b | i | s

inductive NK where
  | ptr | slice | func | iface | map

inductive IOp where
  | mov (x : O)
  | pick (c x y : O)
  | alloc (zero : List AV)
  | box (x : O)
  | build (zero : List AV) (parts : List (Nat × Nat × O))
  | buildS (len : Nat) (zero : List AV) (parts : List (Nat × Nat × O))
  | load1 (x : O)
  | loadN (n : Nat) (x : O)
  | store (n : Nat) (x v : O)
  | nilChk (x : O)
  | bin (op : BinOp) (x y : O)
  | eqB (neg : Bool) (x y : O)
  | eqN (neg : Bool) (q : NK) (x : O)
  | eqA (neg : Bool) (ks : List PK) (x y : O)
  | un (op : UnOp) (x : O)
  | cvInt (k : IntKind) (x : O)
  | cvStr (x : O)
  | s2b (x : O)
  | b2s (x : O)
  | fAddr (off : Nat) (x : O)
  | fld (off : Nat) (n : Option Nat) (x : O)
  | iAddrA (len esz : Nat) (x i : O)
  | iAddrS (esz : Nat) (x i : O)
  | idxA (len esz : Nat) (agg : Bool) (x i : O)
  | idxS (x i : O)
  | slcS (esz : Nat) (x : O) (lo hi mx : Option O)
  | slcStr (x : O) (lo hi : Option O)
  | slcA (len esz : Nat) (x : O) (lo hi mx : Option O)
  | ext (x : O) (i : Nat)
  | mkF (f : Nat) (first cap : List O)
  | mkS (esz bytes : Nat) (zero : List AV) (len cap : O)
  | len (str : Bool) (x : O)
  | app (esz bytes : Nat) (consume : Bool) (s x : O)
  | copy (esz : Nat) (d s : O)
  | max (x y : O)
  | clear (zero : List AV) (x : O)
  | mkM
  | lookM (kd : Option IntKind) (ok : Bool) (zero : AV) (x i : O)
  | updM (kd : Option IntKind) (x i v : O)
  | lenM (x : O)
  | min (x y : O)
  | rangeS (x : O)
  | nextS (x : O)
  | storeD (n : Nat) (x v : O) (ps : List Nat)
  | appF (esz bytes : Nat) (s x : O)
  | no

inductive RK where
  | op (o : IOp)
  | callF (f : Nat) (args : List O)
  | callV (x : O) (args : List O)

/-- an operation of a region: where its value goes, what it is, under which test -/
structure ROp where
  dst : Option Nat
  k : RK
  guard : Option (Nat × Bool)

inductive ICode where
  | skip
  | reg (draw : Bool) (ops : List ROp)
  | seq (x y : ICode)
  | cond (c : O) (x y : ICode)
  | blk (id : Nat) (x : ICode)
  | loop (x : ICode)
  | exit (id : Nat)
  | ret
  | no

inductive RV where
  | tmp (n : Nat)
  | cell (n size : Nat) (agg : Bool)

structure IFn where
  res : List RV
  body : ICode

inductive X where
  | normal
  | exit (id : Nat)
  | ret

/-- what a call is known to answer: a value, or a row of its own -/
inductive Ans where
  | val (v : AV)
  | row (esz n : Nat) (cs : List AV)
/-- what is known of the unknown atoms, and of calls -/
structure Orc where
  bin : BinOp → AV → AV → Option AV
  len : Nat → Option AV
  cv : IntKind → Nat → Option AV
  call : Nat → List AV → Option Ans

/-! ### strictness -/
noncomputable def forceN (n : Nat) (k : Nat → Prop) : Prop := Nat.rec (motive := fun _ => Prop) (k 0) (fun m _ => k (Nat.succ m)) n
noncomputable def forceI (n : Int) (k : Int → Prop) : Prop := Int.rec (motive := fun _ => Prop) (fun m => forceN m (fun m => k (.ofNat m))) (fun m => forceN m (fun m => k (.negSucc m))) n
noncomputable def forceB (x : Bool) (k : Bool → Prop) : Prop := Bool.rec (motive := fun _ => Prop) (k false) (k true) x
@[simp] theorem forceN_eq (n : Nat) (k : Nat → Prop) : forceN n k = k n := by cases n <;> rfl
@[simp] theorem forceI_eq (n : Int) (k : Int → Prop) : forceI n k = k n := by cases n <;> simp [forceI]
@[simp] theorem forceB_eq (n : Bool) (k : Bool → Prop) : forceB n k = k n := by cases n <;> rfl

/-! ### lists -/
noncomputable def nthK (l : List AV) : Nat → (AV → Prop) → Prop :=
  List.rec (motive := fun _ => Nat → (AV → Prop) → Prop) (fun _ _ => False) (fun x _ ih n k => Nat.rec (motive := fun _ => Prop) (k x) (fun m _ => ih m k) n) l
noncomputable def takeK (n : Nat) : List AV → (List AV → Prop) → Prop :=
  Nat.rec (motive := fun _ => List AV → (List AV → Prop) → Prop) (fun _ k => k []) (fun _ ih l k => List.rec (motive := fun _ => Prop) False (fun x xs _ => ih xs (fun ys => k (x :: ys))) l) n
noncomputable def dropK (n : Nat) : List AV → (List AV → Prop) → Prop :=
  Nat.rec (motive := fun _ => List AV → (List AV → Prop) → Prop) (fun l k => k l) (fun _ ih l k => List.rec (motive := fun _ => Prop) False (fun _ xs _ => ih xs k) l) n
/-- the first cells of a list are replaced by others -/
noncomputable def overK (vs : List AV) : List AV → (List AV → Prop) → Prop :=
  List.rec (motive := fun _ => List AV → (List AV → Prop) → Prop) (fun l k => k l) (fun v _ ih l k => List.rec (motive := fun _ => Prop) False (fun _ xs _ => ih xs (fun ys => k (v :: ys))) l) vs
noncomputable def spliceK (vs : List AV) (off : Nat) : List AV → (List AV → Prop) → Prop :=
  Nat.rec (motive := fun _ => List AV → (List AV → Prop) → Prop) (fun l k => overK vs l k) (fun _ ih l k => List.rec (motive := fun _ => Prop) False (fun x xs _ => ih xs (fun ys => k (x :: ys))) l) off
/-- 'as ++ bs', told as a list written out -/
noncomputable def catK (as : List AV) (bs : List AV) (k : List AV → Prop) : Prop :=
  List.rec (motive := fun _ => (List AV → Prop) → Prop) (fun k => k bs) (fun x _ ih k => ih (fun ys => k (x :: ys))) as k
noncomputable def lenK (l : List AV) (k : Nat → Prop) : Prop :=
  List.rec (motive := fun _ => Nat → (Nat → Prop) → Prop) (fun n k => k n) (fun _ _ ih n k => forceN (Nat.succ n) (fun m => ih m k)) l 0 k
noncomputable def repK (z : List AV) (n : Nat) (k : List AV → Prop) : Prop :=
  Nat.rec (motive := fun _ => (List AV → Prop) → Prop) (fun k => k []) (fun _ ih k => ih (fun ys => catK z ys k)) n k

theorem nthK_iff (l : List AV) : ∀ (n : Nat) (k : AV → Prop), nthK l n k ↔ ∃ v, l[n]? = some v ∧ k v := by
  induction l with
  | nil => intro n k; constructor
           · intro h; exact h.elim
           · rintro ⟨v, h, _⟩; simp at h
  | cons x xs ih =>
    intro n k
    cases n with
    | zero => simp only [List.getElem?_cons_zero, Option.some.injEq]; exact ⟨fun h => ⟨x, rfl, h⟩, fun ⟨v, h, hk⟩ => h ▸ hk⟩
    | succ n => simp only [List.getElem?_cons_succ]; exact ih n k
theorem takeK_iff (n : Nat) : ∀ (l : List AV) (k : List AV → Prop), takeK n l k ↔ n ≤ l.length ∧ k (l.take n) := by
  induction n with
  | zero => intro l k; simp; exact Iff.rfl
  | succ n ih =>
    intro l k
    cases l with
    | nil => simp; exact fun h => h
    | cons x xs => simp only [List.length_cons, List.take_succ_cons, Nat.add_le_add_iff_right]; exact ih xs (fun ys => k (x :: ys))
theorem dropK_iff (n : Nat) : ∀ (l : List AV) (k : List AV → Prop), dropK n l k ↔ n ≤ l.length ∧ k (l.drop n) := by
  induction n with
  | zero => intro l k; simp; exact Iff.rfl
  | succ n ih =>
    intro l k
    cases l with
    | nil => simp; exact fun h => h
    | cons x xs => simp only [List.length_cons, List.drop_succ_cons, Nat.add_le_add_iff_right]; exact ih xs k
theorem overK_iff (vs : List AV) : ∀ (l : List AV) (k : List AV → Prop), overK vs l k ↔ vs.length ≤ l.length ∧ k (vs ++ l.drop vs.length) := by
  induction vs with
  | nil => intro l k; simp; exact Iff.rfl
  | cons v vs ih =>
    intro l k
    cases l with
    | nil => simp; exact fun h => h
    | cons x xs => simp only [List.length_cons, List.drop_succ_cons, Nat.add_le_add_iff_right, List.cons_append]; exact ih xs (fun ys => k (v :: ys))
theorem spliceK_iff (vs : List AV) (off : Nat) : ∀ (l : List AV) (k : List AV → Prop),
    spliceK vs off l k ↔ off + vs.length ≤ l.length ∧ k (l.take off ++ (vs ++ l.drop (off + vs.length))) := by
  induction off with
  | zero => intro l k; simp only [Nat.zero_add, List.take_zero, List.nil_append]; exact overK_iff vs l k
  | succ n ih =>
    intro l k
    cases l with
    | nil => simp only [List.length_nil, Nat.le_zero]; constructor
             · intro h; exact h.elim
             · rintro ⟨h, _⟩; omega
    | cons x xs =>
      have e : n + 1 + vs.length = (n + vs.length) + 1 := by omega
      simp only [e, List.length_cons, List.take_succ_cons, List.drop_succ_cons, Nat.add_le_add_iff_right, List.cons_append]
      exact ih xs (fun ys => k (x :: ys))
theorem catK_iff (as bs : List AV) : ∀ (k : List AV → Prop), catK as bs k ↔ k (as ++ bs) := by
  induction as with
  | nil => intro k; exact Iff.rfl
  | cons x xs ih => intro k; exact ih (fun ys => k (x :: ys))
theorem lenK_iff (l : List AV) (k : Nat → Prop) : lenK l k ↔ k l.length := by
  have key : ∀ (l : List AV) (n : Nat), (List.rec (motive := fun _ => Nat → (Nat → Prop) → Prop) (fun n k => k n) (fun _ _ ih n k => forceN (Nat.succ n) (fun m => ih m k)) l n k : Prop) ↔ k (l.length + n) := by
    intro l
    induction l with
    | nil => intro n; simp
    | cons x xs ih =>
      intro n
      have : xs.length + n.succ = xs.length + 1 + n := by omega
      simp only [List.length_cons]
      rw [← this, ← ih n.succ]
      exact Iff.of_eq (forceN_eq (Nat.succ n) _)
  exact key l 0
theorem repK_iff (z : List AV) (n : Nat) : ∀ (k : List AV → Prop), repK z n k ↔ k (List.replicate n z).flatten := by
  induction n with
  | zero => intro k; simp; exact Iff.rfl
  | succ n ih =>
    intro k
    have h := ih (fun ys => catK z ys k)
    rw [List.replicate_succ, List.flatten_cons]
    exact h.trans (catK_iff _ _ _)

/-! ### numbers -/
def hi : IntKind → Nat
  | .i8 => 127 | .i16 => 32767 | .i32 => 2147483647 | .i64 => 9223372036854775807
  | .u8 => 255 | .u16 => 65535 | .u32 => 4294967295 | .u64 => 18446744073709551615
noncomputable def wrapF (k : IntKind) (n : Int) : Int :=
  Int.rec (motive := fun _ => Int) (fun m => Bool.rec (motive := fun _ => Int) (k.wrap (.ofNat m)) (.ofNat m) (Nat.ble m (hi k))) (fun m => k.wrap (.negSucc m)) n
theorem wrapF_eq (k : IntKind) (n : Int) : wrapF k n = k.wrap n := by
  cases n with
  | ofNat m =>
    show (Bool.rec (motive := fun _ => Int) (k.wrap (.ofNat m)) (.ofNat m) (Nat.ble m (hi k)) : Int) = _
    cases h : Nat.ble m (hi k) with
    | false => rfl
    | true =>
      have h' : m ≤ hi k := Nat.le_of_ble_eq_true h
      show (Int.ofNat m) = _
      cases k <;> simp [hi] at h' <;> simp [IntKind.wrap, IntKind.bits, IntKind.signed] <;> omega
  | negSucc m => rfl
noncomputable def ltI (x y : Int) : Bool :=
  Int.rec (motive := fun _ => Bool) (fun m => Int.rec (motive := fun _ => Bool) (fun n => Nat.ble (Nat.succ m) n) (fun _ => false) y)
    (fun m => Int.rec (motive := fun _ => Bool) (fun _ => true) (fun n => Nat.ble (Nat.succ n) m) y) x
noncomputable def eqI (x y : Int) : Bool :=
  Int.rec (motive := fun _ => Bool) (fun m => Int.rec (motive := fun _ => Bool) (fun n => Nat.beq m n) (fun _ => false) y)
    (fun m => Int.rec (motive := fun _ => Bool) (fun _ => false) (fun n => Nat.beq m n) y) x
theorem bleD (m n : Nat) : Nat.ble m n = decide (m ≤ n) := by
  cases h : Nat.ble m n with
  | true => simp [Nat.le_of_ble_eq_true h]
  | false => simp; exact Nat.lt_of_not_le (fun hle => by rw [Nat.ble_eq_true_of_le hle] at h; cases h)
theorem ltI_eq (x y : Int) : ltI x y = decide (x < y) := by
  cases x <;> cases y <;> simp [ltI, bleD] <;> omega
theorem eqI_eq (x y : Int) : eqI x y = (x == y) := by
  rw [Bool.eq_iff_iff]
  cases x <;> cases y <;> simp [eqI] <;> omega
def p2 (n : Nat) : Int := Int.ofNat (Nat.pow 2 n)
theorem p2_eq (n : Nat) : p2 n = (2 : Int) ^ n := by
  show ((2 ^ n : Nat) : Int) = _
  simp

noncomputable def eqS (x : List UInt8) : List UInt8 → Bool :=
  List.rec (motive := fun _ => List UInt8 → Bool) (fun y => List.rec (motive := fun _ => Bool) true (fun _ _ _ => false) y)
    (fun c _ ih y => List.rec (motive := fun _ => Bool) false (fun d ds _ => Bool.rec (motive := fun _ => Bool) false (ih ds) (Nat.beq c.toNat d.toNat)) y) x
theorem eqS_eq (x : List UInt8) : ∀ y, eqS x y = (x == y) := by
  induction x with
  | nil => intro y; cases y <;> rfl
  | cons c cs ih =>
    intro y
    cases y with
    | nil => rfl
    | cons d ds =>
      show (Bool.rec (motive := fun _ => Bool) false (eqS cs ds) (Nat.beq c.toNat d.toNat) : Bool) = _
      rw [ih]
      have : Nat.beq c.toNat d.toNat = (c == d) := by
        rw [Bool.eq_iff_iff]; simp [UInt8.toNat_inj]
      rw [this]
      cases h : (c == d) <;> simp [h]
noncomputable def ltS (x : List UInt8) : List UInt8 → Bool :=
  List.rec (motive := fun _ => List UInt8 → Bool) (fun y => List.rec (motive := fun _ => Bool) false (fun _ _ _ => true) y)
    (fun c _ ih y => List.rec (motive := fun _ => Bool) false (fun d ds _ => Bool.rec (motive := fun _ => Bool) (Bool.rec (motive := fun _ => Bool) false (ih ds) (Nat.beq c.toNat d.toNat)) true (Nat.ble (Nat.succ c.toNat) d.toNat)) y) x
theorem ltS_eq (x : List UInt8) : ∀ y, ltS x y = Op.bytesLess x y := by
  induction x with
  | nil => intro y; cases y <;> rfl
  | cons c cs ih =>
    intro y
    cases y with
    | nil => rfl
    | cons d ds =>
      show (Bool.rec (motive := fun _ => Bool) (Bool.rec (motive := fun _ => Bool) false (ltS cs ds) (Nat.beq c.toNat d.toNat)) true (Nat.ble (Nat.succ c.toNat) d.toNat) : Bool) = _
      rw [ih, bleD]
      have h1 : Nat.beq c.toNat d.toNat = (c == d) := by
        rw [Bool.eq_iff_iff]; simp [UInt8.toNat_inj]
      have h2 : decide (c.toNat.succ ≤ d.toNat) = decide (c < d) := by
        rw [decide_eq_decide, UInt8.lt_iff_toNat_lt]; exact Iff.rfl
      rw [h1, h2]
      simp only [Op.bytesLess]
      cases decide (c < d) <;> cases (c == d) <;> rfl

/-! ### the heap -/
noncomputable def blkK (h : Hp) (b : Nat) (k : Blk → Prop) : Prop := h.tr.getK b k
noncomputable def cellsK (h : Hp) (b : Nat) (k : Nat → Bool → Bool → List AV → Prop) : Prop :=
  h.tr.getK b (fun x => Blk.rec (motive := fun _ => Prop) k False (fun _ => False) x)
noncomputable def newK (h : Hp) (x : Blk) (k : Nat → Hp → Prop) : Prop :=
  Hp.rec (motive := fun _ => Prop) (fun sz fl tr => tr.setK sz x (fun tr' => forceN (Nat.succ sz) (fun s => k sz ⟨s, fl, tr'⟩))) h
noncomputable def putK (h : Hp) (b : Nat) (x : Blk) (k : Hp → Prop) : Prop :=
  Hp.rec (motive := fun _ => Prop) (fun sz fl tr => Bool.rec (motive := fun _ => Prop) False (tr.setK b x (fun tr' => k ⟨sz, fl, tr'⟩)) (Nat.ble fl b)) h
noncomputable def ldK (h : Hp) (b off : Nat) (k : AV → Prop) : Prop := cellsK h b (fun _ _ _ cs => nthK cs off k)
noncomputable def ldsK (h : Hp) (b off n : Nat) (k : List AV → Prop) : Prop := cellsK h b (fun _ _ _ cs => dropK off cs (fun l => takeK n l k))
/-- may a value lie in one cell? -/
noncomputable def cellOk (v : AV) : Bool := AV.rec (motive_1 := fun _ => Bool) (motive_2 := fun _ => Bool)
  (fun _ => true) (fun _ _ => true) (fun _ => true) true (fun _ _ => true) true (fun _ _ _ _ _ => true) true (fun _ _ _ _ _ => true) true (fun _ _ _ => true) (fun _ _ => false) (fun _ _ => false) true (fun _ => true) (fun _ => true) false
  true (fun _ _ h t => Bool.rec (motive := fun _ => Bool) false t h) v
noncomputable def cellsOk (l : List AV) : Bool := List.rec (motive := fun _ => Bool) true (fun v _ ih => Bool.rec (motive := fun _ => Bool) false ih (cellOk v)) l
noncomputable def stK (h : Hp) (b off : Nat) (vs : List AV) (k : Hp → Prop) : Prop :=
  cellsK h b (fun e w a cs => Bool.rec (motive := fun _ => Prop) False (Bool.rec (motive := fun _ => Prop) False (spliceK vs off cs (fun cs' => putK h b (.cells e w a cs') k)) (cellsOk vs)) w)
def defd : AV → Bool
  | .undef => false
  | _ => true
def cellsOf : AV → List AV
  | .agg cs => cs
  | v => [v]

/-! ### operands -/
noncomputable def evK (t : Tr AV) (x : O) (k : AV → Prop) : Prop := O.rec (motive := fun _ => Prop) (fun n => t.getK n k) k x
noncomputable def evsK (t : Tr AV) (xs : List O) (k : List AV → Prop) : Prop :=
  List.rec (motive := fun _ => (List AV → Prop) → Prop) (fun k => k []) (fun x _ ih k => evK t x (fun v => ih (fun vs => k (v :: vs)))) xs k

noncomputable def unB (v : AV) (k : Bool → Prop) : Prop := match v with | .b x => k x | _ => False
noncomputable def unI (v : AV) (k : IntKind → Int → Prop) : Prop := match v with | .i q n => k q n | _ => False
noncomputable def unN (v : AV) (k : Nat → Prop) : Prop := match v with | .i _ n => Int.rec (motive := fun _ => Prop) k (fun _ => False) n | _ => False
noncomputable def unP (v : AV) (k : Nat → Nat → Prop) : Prop := match v with | .ptr b o => k b o | _ => False
noncomputable def whenK (x : Bool) (k : Prop) : Prop := Bool.rec (motive := fun _ => Prop) False k x

/-! ### operations -/
noncomputable def intBinK (op : BinOp) (q : IntKind) (x y : Int) (k : AV → Prop) : Prop :=
  match op with
  | .add => forceI (wrapF q (Int.add x y)) (fun r => k (.i q r))
  | .sub => forceI (wrapF q (Int.sub x y)) (fun r => k (.i q r))
  | .mul => forceI (wrapF q (Int.mul x y)) (fun r => k (.i q r))
  | .quo => Bool.rec (motive := fun _ => Prop) (forceI (wrapF q (x.tdiv y)) (fun r => k (.i q r))) False (eqI y 0)
  | .rem => Bool.rec (motive := fun _ => Prop) (forceI (x.tmod y) (fun r => k (.i q r))) False (eqI y 0)
  | .and => forceI (q.wrap (BitVec.ofInt q.bits x &&& BitVec.ofInt q.bits y).toNat) (fun r => k (.i q r))
  | .or => forceI (q.wrap (BitVec.ofInt q.bits x ||| BitVec.ofInt q.bits y).toNat) (fun r => k (.i q r))
  | .xor => forceI (q.wrap (BitVec.ofInt q.bits x ^^^ BitVec.ofInt q.bits y).toNat) (fun r => k (.i q r))
  | .andNot => forceI (q.wrap (BitVec.ofInt q.bits x &&& ~~~ (BitVec.ofInt q.bits y)).toNat) (fun r => k (.i q r))
  | .eql => forceB (eqI x y) (fun r => k (.b r))
  | .neq => forceB (eqI x y) (fun r => forceB (not r) (fun r => k (.b r)))
  | .lss => forceB (ltI x y) (fun r => k (.b r))
  | .leq => forceB (ltI y x) (fun r => forceB (not r) (fun r => k (.b r)))
  | .gtr => forceB (ltI y x) (fun r => k (.b r))
  | .geq => forceB (ltI x y) (fun r => forceB (not r) (fun r => k (.b r)))
  | .shl | .shr => False
noncomputable def shiftK (op : BinOp) (q : IntKind) (x y : Int) (k : AV → Prop) : Prop :=
  Int.rec (motive := fun _ => Prop) (fun m => forceN (min m q.bits) (fun n => match op with
    | .shl => forceI (q.wrap (x * p2 n)) (fun r => k (.i q r))
    | .shr => forceI (x.fdiv (p2 n)) (fun r => k (.i q r))
    | _ => False)) (fun _ => False) y
noncomputable def strBinK (op : BinOp) (x y : List UInt8) (k : AV → Prop) : Prop :=
  match op with
  | .add => Bool.rec (motive := fun _ => Prop) False (k (.s (x ++ y))) (Nat.ble (x.length + y.length) 9223372036854775807)
  | .eql => forceB (eqS x y) (fun r => k (.b r))
  | .neq => forceB (eqS x y) (fun r => forceB (not r) (fun r => k (.b r)))
  | .lss => forceB (ltS x y) (fun r => k (.b r))
  | .leq => forceB (ltS x y) (fun r => forceB (eqS x y) (fun e => forceB (or r e) (fun r => k (.b r))))
  | .gtr => forceB (ltS x y) (fun r => forceB (eqS x y) (fun e => forceB (not (or r e)) (fun r => k (.b r))))
  | .geq => forceB (ltS x y) (fun r => forceB (not r) (fun r => k (.b r)))
  | _ => False
noncomputable def orcK (r : Option AV) (k : AV → Prop) : Prop := Option.rec (motive := fun _ => Prop) False k r
noncomputable def binK (orc : Orc) (op : BinOp) (x y : AV) (k : AV → Prop) : Prop :=
  match x with
  | .i q n => (match y with
    | .i q' m => (match op with
      | .shl => shiftK .shl q n m k
      | .shr => shiftK .shr q n m k
      | op => whenK (decide (q = q')) (intBinK op q n m k))
    | .sym j => orcK (orc.bin op (.i q n) (.sym j)) k
    | _ => False)
  | .s a => (match y with
    | .s c => strBinK op a c k
    | .sym j => orcK (orc.bin op (.s a) (.sym j)) k
    | _ => False)
  | .sym j => orcK (orc.bin op (.sym j) y) k
  | _ => False
/-- is it nil? -/
noncomputable def isNilK (q : NK) (x : AV) (k : Bool → Prop) : Prop :=
  match q with
  | .ptr => (match x with | .nilp => k true | .ptr _ _ => k false | _ => False)
  | .slice => (match x with | .nils => k true | .sl _ _ _ _ _ => k false | _ => False)
  | .func => (match x with | .nilf => k true | .fn _ _ _ => k false | _ => False)
  | .iface => (match x with | .nili => k true | .ifc _ _ => k false | _ => False)
  | .map => (match x with | .nilm => k true | .map _ => k false | _ => False)
noncomputable def cellEqK (q : PK) (x y : AV) (k : Bool → Prop) : Prop :=
  match q with
  | .i => (match x with | .i q n => (match y with | .i q' m => whenK (decide (q = q')) (forceB (eqI n m) k) | _ => False) | _ => False)
  | .s => (match x with | .s a => (match y with | .s c => forceB (eqS a c) k | _ => False) | _ => False)
  | .b => (match x with | .b a => (match y with | .b c => forceB (a == c) k | _ => False) | _ => False)
noncomputable def cellsEqK (qs : List PK) : List AV → List AV → (Bool → Prop) → Prop :=
  List.rec (motive := fun _ => List AV → List AV → (Bool → Prop) → Prop) (fun _ _ k => k true)
    (fun q _ ih x y k => List.rec (motive := fun _ => Prop) False (fun u us _ => List.rec (motive := fun _ => Prop) False (fun v vs _ => cellEqK q u v (fun e => Bool.rec (motive := fun _ => Prop) (k false) (ih us vs k) e)) y) x) qs
noncomputable def unopK (op : UnOp) (x : AV) (k : AV → Prop) : Prop :=
  match op with
  | .neg => (match x with | .i q n => forceI (q.wrap (0 - n)) (fun r => k (.i q r)) | _ => False)
  | .xor => (match x with | .i q n => forceI (q.wrap (BitVec.ofInt q.bits (if q.signed then -1 else q.max) ^^^ BitVec.ofInt q.bits n).toNat) (fun r => k (.i q r)) | _ => False)
  | .not => (match x with | .b a => forceB (not a) (fun r => k (.b r)) | _ => False)
  | .plus => False
/-- the parts of a literal laid into its cells -/
noncomputable def fillK (t : Tr AV) (ps : List (Nat × Nat × O)) : List AV → (List AV → Prop) → Prop :=
  List.rec (motive := fun _ => List AV → (List AV → Prop) → Prop) (fun l k => k l)
    (fun p _ ih l k => evK t p.2.2 (fun v => whenK (defd v) (forceN p.1 (fun off => lenK (cellsOf v) (fun n => whenK (Nat.beq n p.2.1) (spliceK (cellsOf v) off l (fun l' => ih l' k))))))) ps
noncomputable def optK (t : Tr AV) (x : Option O) (k : Option AV → Prop) : Prop := Option.rec (motive := fun _ => Prop) (k none) (fun x => evK t x (fun v => k (some v))) x
/-- a bound of a slice expression -/
noncomputable def bndK (x : Option AV) (dflt top : Nat) (k : Nat → Prop) : Prop :=
  Option.rec (motive := fun _ => Prop) (k dflt) (fun v => unN v (fun n => whenK (Nat.ble n top) (forceN n k))) x
/-- low, high, max -/
noncomputable def bndsK (len cap : Nat) (lo hi mx : Option AV) (k : Nat → Nat → Nat → Prop) : Prop :=
  bndK mx cap cap (fun m => Option.rec (motive := fun _ => Prop) (Option.rec (motive := fun _ => Prop) (whenK (Nat.ble len m) (bndK lo 0 len (fun l => k l len m))) (fun _ => False) mx)
    (fun v => unN v (fun h => whenK (Nat.ble h m) (forceN h (fun h => bndK lo 0 h (fun l => k l h m))))) hi)
/-- the cells that an append brings -/
noncomputable def srcK (h : Hp) (esz : Nat) (x : AV) (k : Nat → List AV → Prop) : Prop :=
  match x with
  | .nils => k 0 []
  | .sl b o n _ _ => ldsK h b o (Nat.mul n esz) (fun cs => k n cs)
  | .s a => whenK (Nat.beq esz 1) (forceN a.length (fun n => k n (a.map fun c => .i .u8 (Int.ofNat c.toNat))))
  | _ => False
def roomB : Nat := 70368744177664
noncomputable def appK (h : Hp) (esz bytes : Nat) (consume : Bool) (s x : AV) (k : AV → Hp → Prop) : Prop :=
  srcK h esz x (fun n new => match s with
    | .nils => Nat.rec (motive := fun _ => Prop) (k .nils h) (fun _ _ => whenK (Nat.ble n roomB) (whenK (Nat.ble (Nat.mul n bytes) roomB) (newK h (.cells esz true true new) (fun b h' => k (.sl b 0 n n true) h')))) n
    | .sl b o len cap loose => forceN (Nat.add len n) (fun need => Bool.rec (motive := fun _ => Prop)
        (whenK (Nat.ble need roomB) (whenK (Nat.ble (Nat.mul need bytes) roomB) (Bool.rec (motive := fun _ => Prop)
          (ldsK h b o (Nat.mul len esz) (fun old => catK old new (fun cs => newK h (.cells esz true true cs) (fun b' h' => k (.sl b' 0 need need true) h'))))
          (cellsK h b (fun e w a cs => whenK (cellsOk new) (whenK a (whenK (Nat.beq e esz) (dropK o cs (fun old => lenK old (fun m => whenK (Nat.beq m (Nat.mul len esz)) (catK old new (fun cs' =>
            Bool.rec (motive := fun _ => Prop)
              (putK h b (.cells e false false cs) (fun h1 => newK h1 (.cells esz false true cs') (fun b' h' => k (.sl b' 0 need need true) h')))
              (putK h b .dead (fun h1 => newK h1 (.cells esz w true cs') (fun b' h' => k (.sl b' 0 need need true) h')))
              consume)))))))))
          loose)))
        (Nat.rec (motive := fun _ => Prop) (k (.sl b o need cap loose) h) (fun _ _ => forceN (Nat.add o (Nat.mul len esz)) (fun at_ => stK h b at_ new (fun h' => k (.sl b o need cap loose) h'))) n)
        (Nat.ble need cap))
    | _ => False)
noncomputable def copyK (h : Hp) (esz : Nat) (d s : AV) (k : AV → Hp → Prop) : Prop :=
  match d with
  | .nils => srcK h esz s (fun _ _ => k (.i .i64 0) h)
  | .sl b o len _ _ => srcK h esz s (fun n new => forceN (min n len) (fun m => takeK (Nat.mul m esz) new (fun cs => stK h b o cs (fun h' => k (.i .i64 (Int.ofNat m)) h'))))
  | _ => False
noncomputable def toBytesK (cs : List AV) (k : List UInt8 → Prop) : Prop :=
  List.rec (motive := fun _ => (List UInt8 → Prop) → Prop) (fun k => k []) (fun v _ ih k => match v with
    | .i .u8 n => Int.rec (motive := fun _ => Prop) (fun m => ih (fun l => k (UInt8.ofNat m :: l))) (fun _ => False) n
    | _ => False) cs k

/-- a row of elements of that size, where it is asked -/
noncomputable def eszK (h : Hp) (b esz : Nat) (c : Bool) (p : Prop) : Prop := Bool.rec (motive := fun _ => Prop) p (cellsK h b (fun e _ _ _ => whenK (Nat.beq e esz) p)) c
noncomputable def cvK (orc : Orc) (q : IntKind) (x : AV) (k : AV → Prop) : Prop :=
  match x with
  | .i _ n => forceI (wrapF q n) (fun r => k (.i q r))
  | .sym j => orcK (orc.cv q j) k
  | _ => False
/-! ### maps: keys are strings, or numbers of one kind -/
noncomputable def keyK (orc : Orc) (kd : Option IntKind) (i : AV) (p : Prop) : Prop :=
  match i with
  | .s _ => (match kd with | none => p | some _ => False)
  | .i q _ => (match kd with | some q' => whenK (decide (q' = q)) p | none => False)
  | .sym j => (match kd with | none => orcK (orc.len j) (fun _ => p) | some _ => False)
  | _ => False
noncomputable def keyEqK (orc : Orc) (x y : AV) (k : Bool → Prop) : Prop :=
  match y with
  | .s c => (match x with | .s a => forceB (eqS a c) k | .sym j => orcK (orc.len j) (fun _ => orcK (orc.bin .eql (.sym j) (.s c)) (fun v => unB v k)) | _ => False)
  | .i q n => (match x with | .i q' m => whenK (decide (q' = q)) (forceB (eqI m n) k) | _ => False)
  | _ => False
noncomputable def findK (orc : Orc) (i : AV) (es : List (AV × AV)) : (Option AV → Prop) → Prop :=
  List.rec (motive := fun _ => (Option AV → Prop) → Prop) (fun k => k none) (fun e _ ih k => keyEqK orc i e.1 (fun r => Bool.rec (motive := fun _ => Prop) (ih k) (k (some e.2)) r)) es
noncomputable def updK (orc : Orc) (i v : AV) (es : List (AV × AV)) : (List (AV × AV) → Prop) → Prop :=
  List.rec (motive := fun _ => (List (AV × AV) → Prop) → Prop) (fun k => k [(i, v)]) (fun e es' ih k => keyEqK orc i e.1 (fun r => Bool.rec (motive := fun _ => Prop) (ih (fun l => k (e :: l))) (k ((i, v) :: es')) r)) es
/-- entries of a map, none of an iterator -/
noncomputable def isMapK (es : List (AV × AV)) (p : Prop) : Prop :=
  List.rec (motive := fun _ => Prop) p (fun e _ _ => match e.1 with | .undef => False | _ => p) es
noncomputable def mapK (h : Hp) (b : Nat) (k : List (AV × AV) → Prop) : Prop :=
  h.tr.getK b (fun x => Blk.rec (motive := fun _ => Prop) (fun _ _ _ _ => False) False (fun es => isMapK es (k es)) x)
/-- an iterator over a string: the string, and where it stands -/
def iterE (a : List UInt8) (n : Nat) : List (AV × AV) := [(.undef, .s a), (.undef, .i .i64 (Int.ofNat n))]
noncomputable def iterK (h : Hp) (b : Nat) (k : List UInt8 → Nat → Prop) : Prop :=
  h.tr.getK b (fun x => Blk.rec (motive := fun _ => Prop) (fun _ _ _ _ => False) False (fun es => match es with
    | [(.undef, .s a), (.undef, .i .i64 (.ofNat n))] => k a n
    | _ => False) x)
noncomputable def ansM (ok : Bool) (zero : AV) (v : Option AV) (k : AV → Prop) : Prop :=
  Option.rec (motive := fun _ => Prop) (Bool.rec (motive := fun _ => Prop) (k zero) (k (.tup [zero, .b false])) ok) (fun v => Bool.rec (motive := fun _ => Prop) (k v) (k (.tup [v, .b true])) ok) v
noncomputable def lenEK (es : List (AV × AV)) (k : Nat → Prop) : Prop :=
  List.rec (motive := fun _ => Nat → (Nat → Prop) → Prop) (fun n k => k n) (fun _ _ ih n k => forceN (Nat.succ n) (fun m => ih m k)) es 0 k
/-- a place is in none of the blocks that some temporaries point to -/
noncomputable def apartK (t : Tr AV) (b : Nat) (ps : List Nat) (p : Prop) : Prop :=
  List.rec (motive := fun _ => Prop) p (fun q _ ih => t.getK q (fun y => unP y (fun b' _ => whenK (not (Nat.beq b' b)) ih))) ps
noncomputable def opK (orc : Orc) (o : IOp) (t : Tr AV) (h : Hp) (k : AV → Hp → Prop) : Prop :=
  match o with
  | .mov x => evK t x (fun v => k v h)
  | .pick c x y => evK t c (fun c => unB c (fun c => Bool.rec (motive := fun _ => Prop) (evK t y (fun v => k v h)) (evK t x (fun v => k v h)) c))
  | .alloc z => newK h (.cells 0 true false z) (fun b h' => k (.ptr b 0) h')
  | .box x => evK t x (fun v => whenK (defd v) (newK h (.cells 0 true false (cellsOf v)) (fun b h' => k (.ptr b 0) h')))
  | .build z ps => fillK t ps z (fun cs => k (.agg cs) h)
  | .buildS n z ps => repK z n (fun cs => fillK t ps cs (fun cs => newK h (.cells 0 true false cs) (fun b h' => k (.sl b 0 n n false) h')))
  | .load1 x => evK t x (fun p => unP p (fun b o => ldK h b o (fun v => k v h)))
  | .loadN n x => evK t x (fun p => unP p (fun b o => ldsK h b o n (fun cs => k (.agg cs) h)))
  | .store n x v => evK t x (fun p => unP p (fun b o => evK t v (fun v => whenK (defd v) (lenK (cellsOf v) (fun m => whenK (Nat.beq m n) (stK h b o (cellsOf v) (fun h' => k .undef h')))))))
  | .nilChk x => evK t x (fun v => match v with | .ptr b o => k (.ptr b o) h | .fn f a c => k (.fn f a c) h | .map r => k (.map r) h | _ => False)
  | .bin op x y => evK t x (fun x => evK t y (fun y => binK orc op x y (fun v => k v h)))
  | .eqB neg x y => evK t x (fun x => evK t y (fun y => unB x (fun x => unB y (fun y => forceB (xor neg (x == y)) (fun r => k (.b r) h)))))
  | .eqN neg q x => evK t x (fun x => isNilK q x (fun r => forceB (xor neg r) (fun r => k (.b r) h)))
  | .eqA neg ks x y => evK t x (fun x => evK t y (fun y => match x with | .agg a => (match y with | .agg c => cellsEqK ks a c (fun r => forceB (xor neg r) (fun r => k (.b r) h)) | _ => False) | _ => False))
  | .un op x => evK t x (fun x => unopK op x (fun v => k v h))
  | .cvInt q x => evK t x (fun x => cvK orc q x (fun v => k v h))
  | .cvStr x => evK t x (fun x => match x with | .s a => k (.s a) h | _ => False)
  | .s2b x => evK t x (fun x => match x with | .s a => forceN a.length (fun n => newK h (.cells 1 true true (a.map fun c => .i .u8 (Int.ofNat c.toNat))) (fun b h' => k (.sl b 0 n n true) h')) | _ => False)
  | .b2s x => evK t x (fun x => match x with
    | .nils => k (.s []) h
    | .sl b o n _ _ => ldsK h b o n (fun cs => toBytesK cs (fun l => k (.s l) h))
    | _ => False)
  | .fAddr off x => evK t x (fun p => unP p (fun b o => forceN (Nat.add o off) (fun o' => k (.ptr b o') h)))
  | .fld off n x => evK t x (fun x => match x with
    | .agg cs => Option.rec (motive := fun _ => Prop) (nthK cs off (fun v => k v h)) (fun n => dropK off cs (fun l => takeK n l (fun l => k (.agg l) h))) n
    | _ => False)
  | .iAddrA len esz x i => evK t x (fun p => unP p (fun b o => evK t i (fun i => unN i (fun i => whenK (Nat.ble (Nat.succ i) len) (forceN (Nat.add o (Nat.mul i esz)) (fun o' => k (.ptr b o') h))))))
  | .iAddrS esz x i => evK t x (fun x => match x with
    | .sl b o len _ _ => evK t i (fun i => unN i (fun i => whenK (Nat.ble (Nat.succ i) len) (forceN (Nat.add o (Nat.mul i esz)) (fun o' => k (.ptr b o') h))))
    | _ => False)
  | .idxA len esz agg x i => evK t x (fun x => match x with
    | .agg cs => evK t i (fun i => unN i (fun i => whenK (Nat.ble (Nat.succ i) len) (forceN (Nat.mul i esz) (fun o => Bool.rec (motive := fun _ => Prop) (nthK cs o (fun v => k v h)) (dropK o cs (fun l => takeK esz l (fun l => k (.agg l) h))) agg))))
    | _ => False)
  | .idxS x i => evK t x (fun x => match x with
    | .s a => evK t i (fun i => unN i (fun i => Option.rec (motive := fun _ => Prop) False (fun c => k (.i .u8 (Int.ofNat c.toNat)) h) (a[i]?)))
    | _ => False)
  | .slcS esz x lo hi mx => evK t x (fun x => optK t lo (fun lo => optK t hi (fun hi => optK t mx (fun mx => match x with
    | .nils => bndsK 0 0 lo hi mx (fun _ _ _ => k .nils h)
    | .sl b o len cap loose => bndsK len cap lo hi mx (fun l h' m => forceN (if (loose && mx.isNone) = false ∧ m = l then o else Nat.add o (Nat.mul l esz)) (fun o' => forceN (h' - l) (fun len' => forceN (m - l) (fun cap' =>
        eszK h b esz (loose && mx.isNone) (k (.sl b o' len' cap' (loose && mx.isNone)) h)))))
    | _ => False))))
  | .slcStr x lo hi => evK t x (fun x => optK t lo (fun lo => optK t hi (fun hi => match x with
    | .s a => bndsK a.length a.length lo hi none (fun l h' _ => k (.s ((a.take h').drop l)) h)
    | _ => False)))
  | .slcA len esz x lo hi mx => evK t x (fun p => unP p (fun b o => optK t lo (fun lo => optK t hi (fun hi => optK t mx (fun mx =>
      bndsK len len lo hi mx (fun l h' m => forceN (if m = l then o else Nat.add o (Nat.mul l esz)) (fun o' => forceN (h' - l) (fun len' => forceN (m - l) (fun cap' => k (.sl b o' len' cap' false) h))))))))) 
  | .ext x i => evK t x (fun x => match x with | .tup cs => nthK cs i (fun v => k v h) | _ => False)
  | .mkF f a c => evsK t a (fun a => evsK t c (fun c => k (.fn f a c) h))
  | .mkS _ bytes z len cap => evK t len (fun len => evK t cap (fun cap => unN len (fun l => unN cap (fun c => whenK (Nat.ble l c) (whenK (Nat.ble c roomB) (whenK (Nat.ble (Nat.mul bytes c) roomB) (repK z c (fun cs => newK h (.cells 0 true false cs) (fun b h' => k (.sl b 0 l c false) h')))))))))
  | .len str x => evK t x (fun x => match x with
    | .nils => Bool.rec (motive := fun _ => Prop) (k (.i .i64 0) h) False str
    | .sl _ _ n _ _ => Bool.rec (motive := fun _ => Prop) (k (.i .i64 (Int.ofNat n)) h) False str
    | .s a => Bool.rec (motive := fun _ => Prop) False (forceN a.length (fun n => k (.i .i64 (Int.ofNat n)) h)) str
    | .sym j => Bool.rec (motive := fun _ => Prop) False (orcK (orc.len j) (fun v => k v h)) str
    | _ => False)
  | .app esz bytes c s x => evK t s (fun s => evK t x (fun x => appK h esz bytes c s x k))
  | .copy esz d s => evK t d (fun d => evK t s (fun s => copyK h esz d s k))
  | .max x y => evK t x (fun x => evK t y (fun y => unI x (fun q n => unI y (fun _ m => Bool.rec (motive := fun _ => Prop) (k (.i q n) h) (k (.i q m) h) (ltI n m)))))
  | .clear z x => evK t x (fun x => match x with
    | .nils => k (.tup []) h
    | .sl b o n _ _ => Nat.rec (motive := fun _ => Prop) (k (.tup []) h) (fun _ _ => repK z n (fun cs => stK h b o cs (fun h' => k (.tup []) h'))) n
    | _ => False)
  | .mkM => newK h (.map []) (fun b h' => k (.map b) h')
  | .lookM kd ok zero x i => evK t x (fun x => evK t i (fun i => keyK orc kd i (match x with
    | .nilm => ansM ok zero none (fun v => k v h)
    | .map r => mapK h r (fun es => findK orc i es (fun v => ansM ok zero v (fun v => k v h)))
    | _ => False)))
  | .updM kd x i v => evK t x (fun x => evK t i (fun i => evK t v (fun v => keyK orc kd i (match x with
    | .map r => mapK h r (fun es => updK orc i v es (fun es' => putK h r (.map es') (fun h' => k .undef h')))
    | _ => False))))
  | .lenM x => evK t x (fun x => match x with
    | .nilm => k (.i .i64 0) h
    | .map r => mapK h r (fun es => lenEK es (fun n => k (.i .i64 (Int.ofNat n)) h))
    | _ => False)
  | .min x y => evK t x (fun x => evK t y (fun y => unI x (fun q n => unI y (fun _ m => Bool.rec (motive := fun _ => Prop) (k (.i q n) h) (k (.i q m) h) (ltI m n)))))
  | .rangeS x => evK t x (fun x => match x with
    | .s a => newK h (.map (iterE a 0)) (fun b h' => k (.ptr b 0) h')
    | _ => False)
  | .nextS x => evK t x (fun x => unP x (fun b o => whenK (Nat.beq o 0) (iterK h b (fun a n => match a[n]? with
    | some c => Bool.rec (motive := fun _ => Prop)
        (putK h b (.map (iterE a (Nat.add n (Utf8.decode ⟨a.toArray⟩ n).2))) (fun h' => k (.tup [.b true, .i .i64 (Int.ofNat n), .i .i32 (Int.ofNat (Utf8.decode ⟨a.toArray⟩ n).1)]) h'))
        (forceN (Nat.succ n) (fun m => putK h b (.map (iterE a m)) (fun h' => k (.tup [.b true, .i .i64 (Int.ofNat n), .i .i32 (Int.ofNat c.toNat)]) h')))
        (Nat.ble (Nat.succ c.toNat) 128)
    | none => k (.tup [.b false]) h))))
  | .storeD n x v ps => evK t x (fun p => unP p (fun b o => apartK t b ps (evK t v (fun v => whenK (defd v) (lenK (cellsOf v) (fun m => whenK (Nat.beq m n) (stK h b o (cellsOf v) (fun h' => k .undef h'))))))))
  | .appF esz bytes s x => evK t s (fun s => evK t x (fun x => appK h esz bytes true s x k))
  | .no => False

noncomputable def dstK (t : Tr AV) (d : Option Nat) (v : AV) (k : Tr AV → Prop) : Prop := Option.rec (motive := fun _ => Prop) (k t) (fun n => t.setK n v k) d
noncomputable def argsK (l : List AV) (n : Nat) (t : Tr AV) (k : Tr AV → Prop) : Prop :=
  List.rec (motive := fun _ => Nat → Tr AV → (Tr AV → Prop) → Prop) (fun _ t k => k t) (fun v _ ih n t k => t.setK n v (fun t' => forceN (Nat.succ n) (fun n' => ih n' t' k))) l n t k
noncomputable def resK (t : Tr AV) (h : Hp) (rs : List RV) (k : List AV → Prop) : Prop :=
  List.rec (motive := fun _ => (List AV → Prop) → Prop) (fun k => k []) (fun r _ ih k => match r with
    | .tmp n => t.getK n (fun v => ih (fun vs => k (v :: vs)))
    | .cell n size agg => t.getK n (fun p => unP p (fun b o => Bool.rec (motive := fun _ => Prop) (ldK h b o (fun v => ih (fun vs => k (v :: vs)))) (ldsK h b o size (fun cs => ih (fun vs => k (.agg cs :: vs)))) agg))) rs k
def packR : List AV → AV
  | [v] => v
  | vs => .tup vs
noncomputable def exitK (e : X) (n : Prop) (x : Nat → Prop) (r : Prop) : Prop := X.rec (motive := fun _ => Prop) n x r e
abbrev Body := ICode → (X → Tr AV → Hp → Prop) → Tr AV → Hp → Prop
/-- a call of a function: its body by 'ih' -/
noncomputable def callK (env : Tr IFn) (ih : Body) (f : Nat) (args : List AV) (h : Hp) (k : AV → Hp → Prop) : Prop :=
  env.getK f (fun fn => IFn.rec (motive := fun _ => Prop) (fun res body => argsK args 0 .leaf (fun t0 => ih body (fun e t h' =>
    exitK e (resK t h' res (fun vs => k (packR vs) h')) (fun _ => False) (resK t h' res (fun vs => k (packR vs) h'))) t0 h)) fn)
/-- under a floor: whatever was there before may not be written -/
noncomputable def raiseK (F : Hp → (AV → Hp → Prop) → Prop) (h : Hp) (k : AV → Hp → Prop) : Prop :=
  Hp.rec (motive := fun _ => Prop) (fun sz fl tr => F ⟨sz, sz, tr⟩ (fun v h' => Hp.rec (motive := fun _ => Prop) (fun sz' _ tr' => k v ⟨sz', fl, tr'⟩) h')) h
/-- the operations that may write what was there -/
def wr : RK → Bool
  | .op (.store _ _ _) | .op (.app _ _ _ _ _) | .op (.copy _ _ _) | .op (.clear _ _) | .op (.updM _ _ _ _) | .op (.nextS _) | .op (.storeD _ _ _ _) => true
  | _ => false
noncomputable def hookK (a : Option Ans) (h : Hp) (k : AV → Hp → Prop) (d : Prop) : Prop :=
  Option.rec (motive := fun _ => Prop) d (fun a => Ans.rec (motive := fun _ => Prop) (fun v => k v h) (fun esz n cs => newK h (.cells esz true true cs) (fun b h' => k (.sl b 0 n n true) h')) a) a
noncomputable def ropK0 (orc : Orc) (env : Tr IFn) (ih : Body) (r : RK) (t : Tr AV) (h : Hp) (k : AV → Hp → Prop) : Prop :=
  match r with
  | .op o => opK orc o t h k
  | .callF f args => evsK t args (fun vs => hookK (orc.call f vs) h k (callK env ih f vs h k))
  | .callV x args => evK t x (fun g => evsK t args (fun vs => match g with | .fn f a c => callK env ih f (a ++ (vs ++ c)) h k | _ => False))
noncomputable def ropK (orc : Orc) (env : Tr IFn) (draw : Bool) (ih : Body) (r : RK) (t : Tr AV) (h : Hp) (k : AV → Hp → Prop) : Prop :=
  Bool.rec (motive := fun _ => Prop) (ropK0 orc env ih r t h k) (raiseK (ropK0 orc env ih r t) h k) (and draw (not (wr r)))
noncomputable def guardK (t : Tr AV) (g : Option (Nat × Bool)) (k : Bool → Prop) : Prop :=
  Option.rec (motive := fun _ => Prop) (k true) (fun g => t.getK g.1 (fun v => match v with
    | .b x => forceB (x == g.2) k
    | .tup _ => k false
    | _ => False)) g
noncomputable def regK (orc : Orc) (env : Tr IFn) (draw : Bool) (ih : Body) (ops : List ROp) (Q : Tr AV → Hp → Prop) : Tr AV → Hp → Prop :=
  List.rec (motive := fun _ => Tr AV → Hp → Prop) Q (fun r _ rest t h => ROp.rec (motive := fun _ => Prop) (fun dst k guard => guardK t guard (fun go => Bool.rec (motive := fun _ => Prop)
    (dstK t dst (.tup []) (fun t' => rest t' h)) (ropK orc env draw ih k t h (fun v h' => dstK t dst v (fun t' => rest t' h'))) go)) r) ops

noncomputable def awp (orc : Orc) (env : Tr IFn) (n : Nat) : Body :=
  Nat.rec (motive := fun _ => Body) (fun _ _ _ _ => False) (fun _ ih c Q t h => match c with
    | .skip => Q .normal t h
    | .reg draw ops => regK orc env draw ih ops (fun t h => Q .normal t h) t h
    | .seq x y => ih x (fun e t h => X.rec (motive := fun _ => Prop) (ih y Q t h) (fun id => Q (.exit id) t h) (Q .ret t h) e) t h
    | .cond c x y => evK t c (fun v => unB v (fun b => Bool.rec (motive := fun _ => Prop) (ih y Q t h) (ih x Q t h) b))
    | .blk id x => ih x (fun e t h => X.rec (motive := fun _ => Prop) (Q .normal t h) (fun id' => Bool.rec (motive := fun _ => Prop) (Q (.exit id') t h) (Q .normal t h) (Nat.beq id' id)) (Q .ret t h) e) t h
    | .loop x => ih x (fun e t h => X.rec (motive := fun _ => Prop) (ih (.loop x) Q t h) (fun id => Q (.exit id) t h) (Q .ret t h) e) t h
    | .exit id => Q (.exit id) t h
    | .ret => Q .ret t h
    | .no => False) n
end Go.Ab
