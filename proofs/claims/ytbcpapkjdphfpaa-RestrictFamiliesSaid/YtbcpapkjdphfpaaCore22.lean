/- Atoms: numbers and strings of which bounds and differences are known, and the oracle that answers comparisons of them. Condition: the valuation is as the atoms say. -/
import Derived.Test.YtbcpapkjdphfpaaCore21
namespace Go.Ab
variable {σ : Nat → Value} {P : Program}

/-- what is known of an atom: a number within bounds that is none of some; a string that is none of some, and the atom of its length -/
inductive At where
  | int (k : IntKind) (lo hi : Int) (ne : List Int)
  | str (len : Nat) (ne : List (List UInt8))
  | bool

def AtOk (σ : Nat → Value) (j : Nat) : At → Prop
  | .int k lo hi ne => ∃ n, σ j = .int k n ∧ lo ≤ n ∧ n ≤ hi ∧ ∀ m ∈ ne, n ≠ m
  | .str l ne => ∃ s : ByteArray, σ j = .string s ∧ σ l = .int .i64 s.size ∧ ∀ x ∈ ne, s ≠ ⟨x.toArray⟩
  | .bool => ∃ b, σ j = .bool b

def swapOp : BinOp → BinOp
  | .lss => .gtr | .gtr => .lss | .leq => .geq | .geq => .leq | op => op

/-- 'n op c' for the numbers n within bounds -/
noncomputable def cmpAt (op : BinOp) (lo hi : Int) (ne : List Int) (c : Int) : Option Bool :=
  let no := ltI c lo || ltI hi c || ne.any (fun m => eqI m c)
  let yes := eqI lo c && eqI hi c
  match op with
  | .eql => cond no (some false) (cond yes (some true) none)
  | .neq => cond no (some true) (cond yes (some false) none)
  | .lss => cond (ltI hi c) (some true) (cond (ltI lo c) none (some false))
  | .geq => cond (ltI hi c) (some false) (cond (ltI lo c) none (some true))
  | .gtr => cond (ltI c lo) (some true) (cond (ltI c hi) none (some false))
  | .leq => cond (ltI c lo) (some false) (cond (ltI c hi) none (some true))
  | _ => none
def cmpSame (op : BinOp) : Option Bool :=
  match op with
  | .eql | .geq | .leq => some true
  | .neq | .lss | .gtr => some false
  | _ => none
noncomputable def cmpStr (op : BinOp) (ne : List (List UInt8)) (x : List UInt8) : Option Bool :=
  match op with
  | .eql => cond (ne.any (fun m => eqS m x)) (some false) none
  | .neq => cond (ne.any (fun m => eqS m x)) (some true) none
  | _ => none

def kindEq (a b : IntKind) : Bool := decide (a = b)
noncomputable def atBin (ats : Nat → At) (op : BinOp) (x y : AV) : Option AV :=
  match x with
  | .sym j =>
    match ats j with
    | .int k lo hi ne => (match y with
      | .i k' c => cond (kindEq k k') ((cmpAt op lo hi ne c).map .b) none
      | .sym i => cond (Nat.beq i j) ((cmpSame op).map .b) none
      | _ => none)
    | .str _ ne => (match y with
      | .s c => (cmpStr op ne c).map .b
      | .sym i => (match op with | .eql => cond (Nat.beq i j) (some (.b true)) none | .neq => cond (Nat.beq i j) (some (.b false)) none | _ => none)
      | _ => none)
    | .bool => none
  | .i k' c => (match y with
    | .sym j => (match ats j with | .int k lo hi ne => cond (kindEq k k') ((cmpAt (swapOp op) lo hi ne c).map .b) none | _ => none)
    | _ => none)
  | .s c => (match y with
    | .sym j => (match ats j with | .str _ ne => (cmpStr op ne c).map .b | _ => none)
    | _ => none)
  | _ => none
def atLen (ats : Nat → At) (j : Nat) : Option AV := match ats j with | .str l _ => some (.sym l) | _ => none
noncomputable def atOrc (ats : Nat → At) : Orc := ⟨atBin ats, atLen ats, fun _ _ => none, fun _ _ => none⟩

theorem cmpAt_ok {op : BinOp} {lo hi : Int} {ne : List Int} {c n : Int} {r : Bool} {k : IntKind} (h : cmpAt op lo hi ne c = some r) (h1 : lo ≤ n) (h2 : n ≤ hi) (h3 : ∀ m ∈ ne, n ≠ m) (P : Program) (t : TypeId) (w : World) :
    (binOp op t (.int k n) (.int k c)).run P w = .ok (.bool r) w := by
  have hno : (ltI c lo || ltI hi c || ne.any (fun m => eqI m c)) = true → n ≠ c := by
    intro hh
    simp only [ltI_eq, eqI_eq, Bool.or_eq_true, decide_eq_true_eq, List.any_eq_true] at hh
    rcases hh with (hh | hh) | ⟨m, hm, hh⟩
    · omega
    · omega
    · have := h3 m hm; have := eq_of_beq hh; omega
  have hyes : (eqI lo c && eqI hi c) = true → n = c := by
    intro hh
    simp only [eqI_eq, Bool.and_eq_true, beq_iff_eq] at hh
    omega
  cases op <;> simp only [cmpAt] at h <;> try (cases h; done)
  case eql =>
    generalize hA : (ltI c lo || ltI hi c || ne.any (fun m => eqI m c)) = A at h hno
    generalize hB : (eqI lo c && eqI hi c) = B at h hyes
    cases A <;> cases B <;> simp at h <;> subst h <;> simp [binOp, Op.intCmp]
    · exact hyes rfl
    · exact hno rfl
    · exact hno rfl
  case neq =>
    generalize hA : (ltI c lo || ltI hi c || ne.any (fun m => eqI m c)) = A at h hno
    generalize hB : (eqI lo c && eqI hi c) = B at h hyes
    cases A <;> cases B <;> simp at h <;> subst h <;> simp [binOp, Op.intCmp]
    · exact hyes rfl
    · exact hno rfl
    · exact hno rfl
  all_goals
    simp only [ltI_eq] at h
    first
    | (by_cases hA : hi < c <;> by_cases hB : lo < c <;> simp [hA, hB] at h <;> subst h <;> simp [binOp, Op.intCmp] <;> omega)
    | (by_cases hA : c < lo <;> by_cases hB : c < hi <;> simp [hA, hB] at h <;> subst h <;> simp [binOp, Op.intCmp] <;> omega)

theorem run_eql {k : IntKind} {a b : Int} {P : Program} {t : TypeId} {w : World} : (binOp .eql t (.int k a) (.int k b)).run P w = .ok (.bool (a == b)) w := by simp [binOp, Op.intCmp]
theorem run_neq {k : IntKind} {a b : Int} {P : Program} {t : TypeId} {w : World} : (binOp .neq t (.int k a) (.int k b)).run P w = .ok (.bool (a != b)) w := by simp [binOp, Op.intCmp]
theorem ok_inj {r s : Bool} {w : World} (h : (Result.ok (Value.bool r) w : Result Value) = .ok (.bool s) w) : r = s := by cases h; rfl
theorem int_comm (n c : Int) : (n == c) = (c == n) := by rw [Bool.eq_iff_iff, beq_iff_eq, beq_iff_eq]; exact eq_comm

theorem swap_run {op : BinOp} {lo hi : Int} {ne : List Int} {k : IntKind} {n c : Int} {r : Bool} {P : Program} {t : TypeId} {w : World} (hr : cmpAt (swapOp op) lo hi ne c = some r) (h : (binOp (swapOp op) t (.int k n) (.int k c)).run P w = .ok (.bool r) w) :
    (binOp op t (.int k c) (.int k n)).run P w = .ok (.bool r) w := by
  cases op
  case eql => rw [show swapOp .eql = .eql from rfl, run_eql] at h; rw [run_eql, ← ok_inj h, int_comm]
  case neq => rw [show swapOp .neq = .neq from rfl, run_neq] at h; rw [run_neq, ← ok_inj h]; simp only [bne, int_comm]
  case lss => simp [swapOp, binOp, Op.intCmp] at h ⊢; exact h
  case leq => simp [swapOp, binOp, Op.intCmp] at h ⊢; exact h
  case gtr => simp [swapOp, binOp, Op.intCmp] at h ⊢; exact h
  case geq => simp [swapOp, binOp, Op.intCmp] at h ⊢; exact h
  all_goals cases hr
theorem same_run {op : BinOp} {k : IntKind} {n : Int} {r : Bool} (hr : cmpSame op = some r) (P : Program) (t : TypeId) (w : World) : (binOp op t (.int k n) (.int k n)).run P w = .ok (.bool r) w := by
  cases op <;> cases hr <;> simp [binOp, Op.intCmp]

theorem str_run {op : BinOp} {ne : List (List UInt8)} {x : List UInt8} {r : Bool} {s : ByteArray} (hr : cmpStr op ne x = some r) (hs : ∀ x ∈ ne, s ≠ ⟨x.toArray⟩) (P : Program) (t : TypeId) (w : World) :
    (binOp op t (.string s) (.string ⟨x.toArray⟩)).run P w = .ok (.bool r) w ∧ (binOp op t (.string ⟨x.toArray⟩) (.string s)).run P w = .ok (.bool r) w := by
  have key : (ne.any (fun m => eqS m x)) = true → s ≠ ⟨x.toArray⟩ := by
    intro h
    rw [List.any_eq_true] at h
    obtain ⟨m, h1, h2⟩ := h
    rw [eqS_eq] at h2
    have := hs m h1
    rwa [eq_of_beq h2] at this
  cases op <;> simp only [cmpStr] at hr <;> try (cases hr; done)
  all_goals
    generalize hA : (ne.any (fun m => eqS m x)) = A at hr key
    cases A
    · cases hr
    · cases hr
      have h1 := key rfl
      have h2 : s.toList ≠ x := by
        intro e
        apply h1
        rw [← e, ByteArray.toList_eq]
      constructor <;> simp [binOp, Op.stringOp, h2, Ne.symm h2]

theorem atOrc_ok {ats : Nat → At} (h : ∀ j, AtOk σ j (ats j)) : OrcOk P σ (atOrc ats) := by
  have prim : ∀ j, (∃ k n, σ j = .int k n) ∨ (∃ s, σ j = .string s) ∨ (∃ b, σ j = .bool b) := by
    intro j
    have := h j
    cases hj : ats j with
    | int k lo hi ne => rw [hj] at this; obtain ⟨n, h1, _⟩ := this; exact .inl ⟨k, n, h1⟩
    | str l ne => rw [hj] at this; obtain ⟨s, h1, _⟩ := this; exact .inr (.inl ⟨s, h1⟩)
    | bool => rw [hj] at this; obtain ⟨s, h1⟩ := this; exact .inr (.inr ⟨s, h1⟩)
  refine ⟨?_, ?_, ?_, (by intro _ _ _ h; cases h), (by intro _ _ _ h; cases h), prim⟩
  · intro j
    rcases prim j with ⟨_, _, e⟩ | ⟨_, e⟩ | ⟨_, e⟩ <;> rw [e] <;> rfl
  · intro op x y r hr ρ x' y' hx hy
    have hr' : atBin ats op x y = some r := hr
    clear hr
    have bool : ∀ {o : Option Bool}, o.map AV.b = some r → ∃ b, o = some b ∧ r = .b b := by
      intro o ho; cases o with
      | none => cases ho
      | some b => cases ho; exact ⟨b, rfl, rfl⟩
    have cnd : ∀ {b : Bool} {o : Option AV}, cond b o none = some r → b = true ∧ o = some r := by
      intro b o ho; cases b
      · cases ho
      · exact ⟨rfl, ho⟩
    cases x <;> try (cases hr'; done)
    case i k' c =>
      have ex := hx.un_i; subst ex
      cases y <;> try (cases hr'; done)
      case sym j =>
        have ey := hy.un_sym; subst ey
        simp only [atBin] at hr'
        have hj := h j
        cases hat : ats j with
        | str => rw [hat] at hr'; cases hr'
        | bool => rw [hat] at hr'; cases hr'
        | int k lo hi ne =>
          rw [hat] at hr' hj
          obtain ⟨n, h1, h2, h3, h4⟩ := hj
          obtain ⟨h5, h6⟩ := cnd hr'
          obtain rfl : k = k' := by simpa [kindEq] using h5
          obtain ⟨b, h7, rfl⟩ := bool h6
          refine ⟨.bool b, .b b, fun P t w => ?_⟩
          rw [h1]
          exact swap_run h7 (cmpAt_ok h7 h2 h3 h4 P t w)
    case s c =>
      have ex := hx.un_s; subst ex
      cases y <;> try (cases hr'; done)
      case sym j =>
        have ey := hy.un_sym; subst ey
        simp only [atBin] at hr'
        have hj := h j
        cases hat : ats j with
        | int => rw [hat] at hr'; cases hr'
        | bool => rw [hat] at hr'; cases hr'
        | str l ne =>
          rw [hat] at hr' hj
          obtain ⟨s, h1, _, h4⟩ := hj
          obtain ⟨b, h7, rfl⟩ := bool hr'
          refine ⟨.bool b, .b b, fun P t w => ?_⟩
          rw [h1]
          exact (str_run h7 h4 P t w).2
    case sym j =>
      have ex := hx.un_sym; subst ex
      have hj := h j
      simp only [atBin] at hr'
      cases hat : ats j with
      | bool => rw [hat] at hr'; cases hr'
      | int k lo hi ne =>
        rw [hat] at hr' hj
        obtain ⟨n, h1, h2, h3, h4⟩ := hj
        cases y <;> try (cases hr'; done)
        case i k' c =>
          have ey := hy.un_i; subst ey
          obtain ⟨h5, h6⟩ := cnd hr'
          obtain rfl : k = k' := by simpa [kindEq] using h5
          obtain ⟨b, h7, rfl⟩ := bool h6
          refine ⟨.bool b, .b b, fun P t w => ?_⟩
          rw [h1]
          exact cmpAt_ok h7 h2 h3 h4 P t w
        case sym i =>
          have ey := hy.un_sym; subst ey
          obtain ⟨h5, h6⟩ := cnd hr'
          obtain rfl := Nat.eq_of_beq_eq_true h5
          obtain ⟨b, h7, rfl⟩ := bool h6
          refine ⟨.bool b, .b b, fun P t w => ?_⟩
          rw [h1]
          exact same_run h7 P t w
      | str l ne =>
        rw [hat] at hr' hj
        obtain ⟨s, h1, _, h4⟩ := hj
        cases y <;> try (cases hr'; done)
        case s c =>
          have ey := hy.un_s; subst ey
          obtain ⟨b, h7, rfl⟩ := bool hr'
          refine ⟨.bool b, .b b, fun P t w => ?_⟩
          rw [h1]
          exact (str_run h7 h4 P t w).1
        case sym i =>
          have ey := hy.un_sym; subst ey
          cases op <;> try (cases hr'; done)
          all_goals
            obtain ⟨h5, h6⟩ := cnd hr'
            cases h6
            obtain rfl := Nat.eq_of_beq_eq_true h5
            refine ⟨_, .b _, fun P t w => ?_⟩
            rw [h1]
            simp [binOp, Op.stringOp]
  · intro j r hr
    have hr' : atLen ats j = some r := hr
    have hj := h j
    simp only [atLen] at hr'
    cases hat : ats j with
    | int => rw [hat] at hr'; cases hr'
    | bool => rw [hat] at hr'; cases hr'
    | str l ne =>
      rw [hat] at hr' hj
      obtain ⟨s, h1, h2, _⟩ := hj
      cases hr'
      exact ⟨s, h1, fun ρ => by rw [← h2]; exact .sym l⟩
end Go.Ab
