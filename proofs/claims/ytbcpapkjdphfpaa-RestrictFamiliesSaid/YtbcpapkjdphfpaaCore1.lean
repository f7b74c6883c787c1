/- The abstract machine: values, heap, code, and the evaluator 'awp'. No condition. -/
import GoSem.Step
namespace Go.Ab

/-! ### tries -/
inductive Tr (α : Type) where
  | leaf
  | node (v : Option α) (l r : Tr α)

namespace Tr
variable {α : Type}
/-- the value at an index -/
noncomputable def get (t : Tr α) : Nat → Option α :=
  Tr.rec (fun _ => none) (fun v _ _ gl gr n => Nat.rec v (fun m _ => Bool.rec (gr (Nat.div m 2)) (gl (Nat.div m 2)) (Nat.beq (Nat.mod m 2) 0)) n) t

noncomputable def getK (t : Tr α) : Nat → (α → Prop) → Prop :=
  Tr.rec (motive := fun _ => Nat → (α → Prop) → Prop) (fun _ _ => False)
    (fun v _ _ gl gr n k => Nat.rec (motive := fun _ => Prop) (Option.rec (motive := fun _ => Prop) False k v)
      (fun m _ => Bool.rec (motive := fun _ => Prop) (gr (Nat.div m 2) k) (gl (Nat.div m 2) k) (Nat.beq (Nat.mod m 2) 0)) n) t

/-- a new path -/
noncomputable def mk (f : Nat) : Nat → α → Tr α :=
  Nat.rec (fun _ _ => .leaf) (fun _ ih n x => Nat.rec (.node (some x) .leaf .leaf)
    (fun m _ => Bool.rec (.node none .leaf (ih (Nat.div m 2) x)) (.node none (ih (Nat.div m 2) x) .leaf) (Nat.beq (Nat.mod m 2) 0)) n) f

noncomputable def mkK (f : Nat) : Nat → α → (Tr α → Prop) → Prop :=
  Nat.rec (motive := fun _ => Nat → α → (Tr α → Prop) → Prop) (fun _ _ k => k .leaf) (fun _ ih n x k => Nat.rec (motive := fun _ => Prop) (k (.node (some x) .leaf .leaf))
    (fun m _ => Bool.rec (motive := fun _ => Prop) (ih (Nat.div m 2) x (fun r => k (.node none .leaf r))) (ih (Nat.div m 2) x (fun l => k (.node none l .leaf))) (Nat.beq (Nat.mod m 2) 0)) n) f

noncomputable def set (t : Tr α) : Nat → α → Tr α :=
  Tr.rec (fun n x => mk (Nat.succ n) n x) (fun v l r sl sr n x => Nat.rec (.node (some x) l r)
    (fun m _ => Bool.rec (.node v l (sr (Nat.div m 2) x)) (.node v (sl (Nat.div m 2) x) r) (Nat.beq (Nat.mod m 2) 0)) n) t

noncomputable def setK (t : Tr α) : Nat → α → (Tr α → Prop) → Prop :=
  Tr.rec (motive := fun _ => Nat → α → (Tr α → Prop) → Prop) (fun n x k => mkK (Nat.succ n) n x k) (fun v l r sl sr n x k => Nat.rec (motive := fun _ => Prop) (k (.node (some x) l r))
    (fun m _ => Bool.rec (motive := fun _ => Prop) (sr (Nat.div m 2) x (fun r' => k (.node v l r'))) (sl (Nat.div m 2) x (fun l' => k (.node v l' r))) (Nat.beq (Nat.mod m 2) 0)) n) t

theorem beq0 (m : Nat) : Nat.beq (Nat.mod m 2) 0 = decide (m % 2 = 0) := by
  show Nat.beq (m % 2) 0 = _
  rcases h : m % 2 with _ | k
  · rfl
  · simp [Nat.beq]

@[simp] theorem get_leaf (n : Nat) : (Tr.leaf : Tr α).get n = none := rfl
theorem get_node (v : Option α) (l r : Tr α) (n : Nat) :
    (Tr.node v l r).get n = match n with | 0 => v | m + 1 => if m % 2 = 0 then l.get (m / 2) else r.get (m / 2) := by
  cases n with
  | zero => rfl
  | succ m =>
    show (Bool.rec (motive := fun _ => Option α) (r.get (Nat.div m 2)) (l.get (Nat.div m 2)) (Nat.beq (Nat.mod m 2) 0) : Option α) = _
    rw [beq0]
    by_cases h : m % 2 = 0 <;> simp only [h, decide_true, decide_false, if_true, if_false] <;> rfl
theorem set_node (v : Option α) (l r : Tr α) (n : Nat) (x : α) :
    (Tr.node v l r).set n x = match n with | 0 => .node (some x) l r | m + 1 => if m % 2 = 0 then .node v (l.set (m / 2) x) r else .node v l (r.set (m / 2) x) := by
  cases n with
  | zero => rfl
  | succ m =>
    show Bool.rec (motive := fun _ => Tr α) (Tr.node v l (r.set (Nat.div m 2) x)) (Tr.node v (l.set (Nat.div m 2) x) r) (Nat.beq (Nat.mod m 2) 0) = _
    rw [beq0]
    by_cases h : m % 2 = 0 <;> simp only [h, decide_true, decide_false, if_true, if_false] <;> rfl
theorem mk_succ (f n : Nat) (x : α) :
    (mk (f + 1) n x) = match n with | 0 => .node (some x) .leaf .leaf | m + 1 => if m % 2 = 0 then .node none (mk f (m / 2) x) .leaf else .node none .leaf (mk f (m / 2) x) := by
  cases n with
  | zero => rfl
  | succ m =>
    show Bool.rec (motive := fun _ => Tr α) (Tr.node none .leaf (mk f (Nat.div m 2) x)) (Tr.node none (mk f (Nat.div m 2) x) .leaf) (Nat.beq (Nat.mod m 2) 0) = _
    rw [beq0]
    by_cases h : m % 2 = 0 <;> simp only [h, decide_true, decide_false, if_true, if_false] <;> rfl

theorem get_mk (f : Nat) : ∀ (n : Nat) (x : α), n < f → ∀ j, (mk f n x).get j = if j = n then some x else none := by
  induction f with
  | zero => intro n x h; omega
  | succ f ih =>
    intro n x h j
    rw [mk_succ]
    cases n with
    | zero =>
      cases j with
      | zero => simp [get_node]
      | succ j => simp [get_node]
    | succ m =>
      have hm : m / 2 < f := by omega
      by_cases h2 : m % 2 = 0
      · simp only [h2, if_true]
        cases j with
        | zero => simp [get_node]
        | succ j =>
          rw [get_node]
          by_cases j2 : j % 2 = 0
          · simp only [j2, if_true]
            rw [ih _ _ hm]
            have : (j / 2 = m / 2) ↔ (j + 1 = m + 1) := by omega
            simp only [this]
          · simp only [j2, if_false, get_leaf]
            rw [if_neg (by omega)]
      · simp only [h2, if_false]
        cases j with
        | zero => simp [get_node]
        | succ j =>
          rw [get_node]
          by_cases j2 : j % 2 = 0
          · simp only [j2, if_true, get_leaf]
            rw [if_neg (by omega)]
          · simp only [j2, if_false]
            rw [ih _ _ hm]
            have : (j / 2 = m / 2) ↔ (j + 1 = m + 1) := by omega
            simp only [this]

theorem get_set (t : Tr α) : ∀ (n : Nat) (x : α) (j : Nat), (t.set n x).get j = if j = n then some x else t.get j := by
  induction t with
  | leaf => intro n x j; show (mk (n + 1) n x).get j = _; rw [get_mk _ _ _ (Nat.lt_succ_self n)]; rfl
  | node v l r ihl ihr =>
    intro n x j
    rw [set_node]
    cases n with
    | zero =>
      cases j with
      | zero => simp [get_node]
      | succ j => simp [get_node]
    | succ m =>
      by_cases h2 : m % 2 = 0
      · simp only [h2, if_true]
        cases j with
        | zero => simp [get_node]
        | succ j =>
          simp only [get_node]
          by_cases j2 : j % 2 = 0
          · simp only [j2, if_true]
            rw [ihl]
            have : (j / 2 = m / 2) ↔ (j + 1 = m + 1) := by omega
            simp only [this]
          · simp only [j2, if_false]
            rw [if_neg (by omega)]
      · simp only [h2, if_false]
        cases j with
        | zero => simp [get_node]
        | succ j =>
          simp only [get_node]
          by_cases j2 : j % 2 = 0
          · simp only [j2, if_true]
            rw [if_neg (by omega)]
          · simp only [j2, if_false]
            rw [ihr]
            have : (j / 2 = m / 2) ↔ (j + 1 = m + 1) := by omega
            simp only [this]

theorem getK_iff (t : Tr α) : ∀ (n : Nat) (k : α → Prop), t.getK n k ↔ ∃ v, t.get n = some v ∧ k v := by
  induction t with
  | leaf => intro n k; constructor
            · intro h; exact h.elim
            · rintro ⟨v, h, _⟩; simp at h
  | node v l r ihl ihr =>
    intro n k
    cases n with
    | zero =>
      show (Option.rec (motive := fun _ => Prop) False k v : Prop) ↔ _
      cases v with
      | none => simp [get_node]
      | some v => simp [get_node]
    | succ m =>
      show (Bool.rec (motive := fun _ => Prop) (r.getK (Nat.div m 2) k) (l.getK (Nat.div m 2) k) (Nat.beq (Nat.mod m 2) 0) : Prop) ↔ _
      rw [beq0, get_node]
      by_cases h : m % 2 = 0
      · simp only [h, decide_true, if_true]; exact ihl _ _
      · simp only [h, decide_false, if_false]; exact ihr _ _

theorem mkK_iff (f : Nat) : ∀ (n : Nat) (x : α) (k : Tr α → Prop), mkK f n x k ↔ k (mk f n x) := by
  induction f with
  | zero => intro n x k; exact Iff.rfl
  | succ f ih =>
    intro n x k
    cases n with
    | zero => exact Iff.rfl
    | succ m =>
      show (Bool.rec (motive := fun _ => Prop) (mkK f (Nat.div m 2) x (fun r => k (.node none .leaf r))) (mkK f (Nat.div m 2) x (fun l => k (.node none l .leaf))) (Nat.beq (Nat.mod m 2) 0) : Prop) ↔ _
      rw [beq0, mk_succ]
      by_cases h : m % 2 = 0
      · simp only [h, decide_true, if_true]; exact ih _ _ _
      · simp only [h, decide_false, if_false]; exact ih _ _ _

theorem setK_iff (t : Tr α) : ∀ (n : Nat) (x : α) (k : Tr α → Prop), t.setK n x k ↔ k (t.set n x) := by
  induction t with
  | leaf => intro n x k; exact mkK_iff (n + 1) n x k
  | node v l r ihl ihr =>
    intro n x k
    cases n with
    | zero => exact Iff.rfl
    | succ m =>
      show (Bool.rec (motive := fun _ => Prop) (r.setK (Nat.div m 2) x (fun r' => k (.node v l r'))) (l.setK (Nat.div m 2) x (fun l' => k (.node v l' r))) (Nat.beq (Nat.mod m 2) 0) : Prop) ↔ _
      rw [beq0, set_node]
      by_cases h : m % 2 = 0
      · simp only [h, decide_true, if_true]; exact ihl _ _ _
      · simp only [h, decide_false, if_false]; exact ihr _ _ _
end Tr
end Go.Ab
