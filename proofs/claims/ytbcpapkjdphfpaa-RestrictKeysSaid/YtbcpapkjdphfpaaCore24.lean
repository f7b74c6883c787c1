/- A call's answer as the model has it, and back to the abstract machine's table. No condition. -/
import Derived.Test.YtbcpapkjdphfpaaCore23
namespace Go.Ab
variable {σ : Nat → Value} {P : Program} {orc : Orc} {env : Tr IFn}

/-- the call answers 'v' wherever it is made, and changes nothing old -/
def Ret (P : Program) (f : Nat) (args : Array Value) (v : Value) : Prop :=
  (∃ fn, P.funcs[f]? = some fn ∧ fn.name ≠ "runtime.NumGoroutine" ∧ fn.body.isSome = true) ∧ ∀ w, Calls P f args w fun e w' => e = .returned v ∧ Same0 w w'

theorem Knows.ret {f : Nat} {vs : List AV} {r : AV} {args : Array Value} {v : Value} (h : Knows P σ f vs (.val r)) (ha : VRs σ (fun _ => none) vs args.toList) (hv : ∀ v', VR σ (fun _ => none) r v' → v' = v) : Ret P f args v := by
  refine ⟨h.1, fun w => (h.2 _ args ha w).mono fun e w' hh => ?_⟩
  obtain ⟨v', rfl, h1, h2⟩ := hh
  exact ⟨by rw [hv v' (h1 _)], h2⟩
theorem Ret.knows {f : Nat} {vs : List AV} {r : AV} {args : Array Value} {v : Value} (h : Ret P f args v) (ha : ∀ ρ (a' : Array Value), VRs σ ρ vs a'.toList → a' = args) (hv : ∀ ρ, VR σ ρ r v) : Knows P σ f vs (.val r) := by
  refine ⟨h.1, fun ρ a' h1 w => ?_⟩
  rw [ha ρ a' h1]
  refine (h.2 w).mono fun e w' hh => ?_
  obtain ⟨rfl, h2⟩ := hh
  exact ⟨v, rfl, hv, h2⟩

theorem args0 {ρ : Ren} {a : Array Value} (h : VRs σ ρ [] a.toList) : a = #[] := by
  cases a with
  | mk l => cases h; rfl
theorem args1 {ρ : Ren} {x : AV} {v : Value} {a : Array Value} (h : VRs σ ρ [x] a.toList) (hx : ∀ v', VR σ ρ x v' → v' = v) : a = #[v] := by
  cases a with
  | mk l =>
    cases h with
    | cons _ _ v1 vs1 h1 h2 =>
      cases h2
      rw [hx _ h1]
theorem args2 {ρ : Ren} {x y : AV} {v u : Value} {a : Array Value} (h : VRs σ ρ [x, y] a.toList) (hx : ∀ v', VR σ ρ x v' → v' = v) (hy : ∀ v', VR σ ρ y v' → v' = u) : a = #[v, u] := by
  cases a with
  | mk l =>
    cases h with
    | cons _ _ v1 vs1 h1 h2 =>
      cases h2 with
      | cons _ _ v2 vs2 h3 h4 =>
        cases h4
        rw [hx _ h1, hy _ h3]
theorem VR.tup2 {ρ : Ren} {x y : AV} {v : Value} {p q : Value} (h : VR σ ρ (.tup [x, y]) v) (hx : ∀ v', VR σ ρ x v' → v' = p) (hy : ∀ v', VR σ ρ y v' → v' = q) : v = .tuple #[p, q] := by
  obtain ⟨vs, h1, rfl⟩ := h.un_tup
  rw [args2 h1 hx hy]
end Go.Ab
