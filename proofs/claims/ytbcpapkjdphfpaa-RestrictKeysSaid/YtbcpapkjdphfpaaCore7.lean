/- Operations that leave the heap alone: the abstract ones stand for the model's. No condition. -/
import Derived.Test.YtbcpapkjdphfpaaCore6
import Derived.Laws.Sem
import Derived.Laws.Strings2
import Derived.Calls
namespace Go.Ab
variable {σ : Nat → Value} {ρ ρ' : Ren} {P : Program}

def Res (P : Program) (σ : Nat → Value) (ρ : Ren) (B : Nat) (h : Hp) (w : World) (s : Sem Next) (k : AV → Hp → Prop) : Prop :=
  ∃ v v' h' ρ' w', k v h' ∧ (s.run P w = .ok (.value v') w' ∨ (s.run P w = .ok .skip w' ∧ v' = undef)) ∧ VR σ ρ' v v' ∧ Rel σ ρ' B h' w' ∧ Kept ρ B h w ρ' h' w'

theorem Res.pure {B : Nat} {h : Hp} {w : World} (r : Rel σ ρ B h w) {s : Sem Next} {k : AV → Hp → Prop} {v : AV} {v' : Value} (hk : k v h) (hs : s.run P w = .ok (.value v') w) (hv : VR σ ρ v v') : Res P σ ρ B h w s k :=
  ⟨v, v', h, ρ, w, hk, .inl hs, hv, r, Kept.refl _ _ _ _⟩

/-- nothing old differs -/
structure Same0 (w w' : World) : Prop where
  pres : ∀ k, k < w.heap.size → w'.heap[k]? = w.heap[k]?
  size : w.heap.size ≤ w'.heap.size
  io : w'.os = w.os ∧ w'.output = w.output
/-- the model's answer is the known one -/
def AnsOk (σ : Nat → Value) (w w' : World) (v' : Value) : Ans → Prop
  | .val v => ∀ ρ, VR σ ρ v v'
  | .row esz n cs => ∃ (L : Loc) (c : Array Value) (ty : TypeId) (fz : Nat × Nat) (cap : Nat), v' = .slice (some ⟨L.blk, L.off, none⟩) n cap ∧ w.heap.size ≤ L.blk ∧ w'.heap[L.blk]? = some (.cells c ty fz) ∧ c.size = L.size ∧ L.esz = esz ∧
      (∀ j, j < L.size → ¬ (fz.1 ≤ j ∧ j < fz.2)) ∧ n ≤ cap ∧ L.off + cap * esz ≤ L.size ∧ L.off + cs.length ≤ L.size ∧ ∀ (j : Nat) v, cs[j]? = some v → ∃ v', c[L.off + j]? = some v' ∧ ∀ ρ, VR σ ρ v v'
/-- what the oracle says of the atoms is so -/
structure OrcOk (P : Program) (σ : Nat → Value) (orc : Orc) : Prop where
  atoms : AtomsOk σ
  bin : ∀ op x y r, orc.bin op x y = some r → ∀ ρ x' y', VR σ ρ x x' → VR σ ρ y y' → ∃ r', VR σ ρ r r' ∧ ∀ (P : Program) t w, (binOp op t x' y').run P w = .ok r' w
  len : ∀ j r, orc.len j = some r → ∃ s, σ j = .string s ∧ ∀ ρ, VR σ ρ r (.int .i64 s.size)
  cv : ∀ q j r, orc.cv q j = some r → ∃ k n, σ j = .int k n ∧ ∀ ρ, VR σ ρ r (.int q (q.wrap n))
  call : ∀ f vs r, orc.call f vs = some r → (∃ fn, P.funcs[f]? = some fn ∧ fn.name ≠ "runtime.NumGoroutine" ∧ fn.body.isSome = true) ∧
    ∀ ρ (args : Array Value), VRs σ ρ vs args.toList → ∀ w, Calls P f args w fun e w' => ∃ v', e = .returned v' ∧ AnsOk σ w w' v' r ∧ Same0 w w'
  prim : ∀ j, (∃ k n, σ j = .int k n) ∨ (∃ s, σ j = .string s) ∨ (∃ b, σ j = .bool b)

theorem boolV {r r' : Bool} (h : r = r') : VR σ ρ (.b r) (.bool r') := by subst h; exact .b _
theorem intV {q : IntKind} {r r' : Int} (h : r = r') : VR σ ρ (.i q r) (.int q r') := by subst h; exact .i _ _

theorem intBin_ok {op : BinOp} {q : IntKind} {x y : Int} {k : AV → Prop} (h : intBinK op q x y k) (t : TypeId) (w : World) :
    ∃ r r', k r ∧ VR σ ρ r r' ∧ (binOp op t (.int q x) (.int q y)).run P w = .ok r' w := by
  have hne : ∀ {y : Int} {A : Prop}, (Bool.rec (motive := fun _ => Prop) A False (eqI y 0) : Prop) → A ∧ y ≠ 0 := by
    intro y A hh
    rw [eqI_eq] at hh
    cases hc : (y == 0) with
    | false => rw [hc] at hh; exact ⟨hh, by simpa using hc⟩
    | true => rw [hc] at hh; exact hh.elim
  cases op <;> simp only [intBinK, forceI_eq, forceB_eq, wrapF_eq] at h
  case add => exact ⟨_, _, h, .i _ _, by simp [binOp, Op.intArith]⟩
  case sub => exact ⟨_, _, h, .i _ _, by simp [binOp, Op.intArith]; rfl⟩
  case mul => exact ⟨_, _, h, .i _ _, by simp [binOp, Op.intArith]⟩
  case quo => obtain ⟨h, hy⟩ := hne h; exact ⟨_, _, h, .i _ _, by simp [binOp, Op.intDiv, hy]⟩
  case rem => obtain ⟨h, hy⟩ := hne h; exact ⟨_, _, h, .i _ _, by simp [binOp, Op.intDiv, hy]⟩
  case and => exact ⟨_, _, h, .i _ _, by simp [binOp, Op.intBits]⟩
  case or => exact ⟨_, _, h, .i _ _, by simp [binOp, Op.intBits]⟩
  case xor => exact ⟨_, _, h, .i _ _, by simp [binOp, Op.intBits]⟩
  case andNot => exact ⟨_, _, h, .i _ _, by simp [binOp, Op.intBits]⟩
  case eql => exact ⟨_, _, h, boolV (eqI_eq x y), by simp [binOp, Op.intCmp]⟩
  case neq => exact ⟨_, _, h, boolV (r' := x != y) (by rw [eqI_eq]; rfl), by simp [binOp, Op.intCmp]⟩
  case lss => exact ⟨_, _, h, boolV (ltI_eq x y), by simp [binOp, Op.intCmp]⟩
  case leq => exact ⟨_, _, h, boolV (r' := decide (x ≤ y)) (by rw [ltI_eq, ← decide_not]; simp), by simp [binOp, Op.intCmp]⟩
  case gtr => exact ⟨_, _, h, boolV (ltI_eq y x), by simp [binOp, Op.intCmp]⟩
  case geq => exact ⟨_, _, h, boolV (r' := decide (y ≤ x)) (by rw [ltI_eq, ← decide_not]; simp), by simp [binOp, Op.intCmp]⟩

theorem shift_ok {op : BinOp} (ho : op = .shl ∨ op = .shr) {q q' : IntKind} {x y : Int} {k : AV → Prop} (h : shiftK op q x y k) (t : TypeId) (w : World) :
    ∃ r r', k r ∧ VR σ ρ r r' ∧ (binOp op t (.int q x) (.int q' y)).run P w = .ok r' w := by
  cases y with
  | negSucc m => exact h.elim
  | ofNat m =>
    have hn : ¬ ((m : Int) < 0) := by omega
    rcases ho with rfl | rfl
    · have h' : (forceN (min m q.bits) (fun n => forceI (q.wrap (x * p2 n)) (fun r => k (.i q r)))) := h
      rw [forceN_eq, forceI_eq, p2_eq] at h'
      exact ⟨_, _, h', .i _ _, by simp [binOp, Op.shift, hn]⟩
    · have h' : (forceN (min m q.bits) (fun n => forceI (x.fdiv (p2 n)) (fun r => k (.i q r)))) := h
      rw [forceN_eq, forceI_eq, p2_eq] at h'
      exact ⟨_, _, h', .i _ _, by simp [binOp, Op.shift, hn]⟩

theorem strBin_ok {op : BinOp} {x y : List UInt8} {k : AV → Prop} (h : strBinK op x y k) (t : TypeId) (w : World) :
    ∃ r r', k r ∧ VR σ ρ r r' ∧ (binOp op t (.string ⟨x.toArray⟩) (.string ⟨y.toArray⟩)).run P w = .ok r' w := by
  have tl : ∀ l : List UInt8, (⟨l.toArray⟩ : ByteArray).toList = l := fun l => by rw [ByteArray.toList_eq]
  cases op <;> simp only [strBinK, forceB_eq] at h <;> try exact h.elim
  case add =>
    rw [bleD] at h
    by_cases hl : x.length + y.length ≤ 9223372036854775807
    · simp only [hl, decide_true] at h
      refine ⟨_, _, h, .s _, ?_⟩
      have h3 : ¬ (IntKind.max .i64 < (((⟨x.toArray⟩ : ByteArray).size + (⟨y.toArray⟩ : ByteArray).size : Nat) : Int)) := by
        show ¬ ((9223372036854775807 : Int) < ((x.length + y.length : Nat) : Int)); omega
      simp only [binOp, Op.stringOp]
      rw [if_neg h3]
      simp only [Sem.run_pure]
      congr 2
    · simp only [hl, decide_false] at h
  case eql => exact ⟨_, _, h, boolV (eqS_eq x y), by simp [binOp, Op.stringOp, tl]⟩
  case neq => exact ⟨_, _, h, boolV (r' := !(x == y)) (by rw [eqS_eq]), by simp [binOp, Op.stringOp, tl]⟩
  case lss => exact ⟨_, _, h, boolV (ltS_eq x y), by simp [binOp, Op.stringOp, tl]⟩
  case leq => exact ⟨_, _, h, boolV (r' := (Op.bytesLess x y || x == y)) (by rw [ltS_eq, eqS_eq]), by simp [binOp, Op.stringOp, tl]⟩
  case gtr => exact ⟨_, _, h, boolV (r' := !(Op.bytesLess x y || x == y)) (by rw [ltS_eq, eqS_eq]), by simp [binOp, Op.stringOp, tl]⟩
  case geq => exact ⟨_, _, h, boolV (r' := !(Op.bytesLess x y)) (by rw [ltS_eq]), by simp [binOp, Op.stringOp, tl]⟩
end Go.Ab
