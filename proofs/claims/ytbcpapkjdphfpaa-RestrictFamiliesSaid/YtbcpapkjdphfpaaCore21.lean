/- The last step from the abstract machine to a row: what a run keeps of the world; the tree of the code. No condition. -/
import Derived.Test.YtbcpapkjdphfpaaCore20
import GoSem.ClaimChange
namespace Go.Ab
variable {σ : Nat → Value} {P : Program} {orc : Orc} {env : Tr IFn}

/-- the code in a tree is the program's, at the places a * n + b -/
inductive OkT (P : Program) : Nat → Nat → Tr IFn → Prop where
  | leaf (a b : Nat) : OkT P a b .leaf
  | no (a b : Nat) {l r : Tr IFn} : OkT P (2 * a) (a + b) l → OkT P (2 * a) (2 * a + b) r → OkT P a b (.node none l r)
  | fn (a b : Nat) {i : IFn} {l r : Tr IFn} : chkFn P b i = true → OkT P (2 * a) (a + b) l → OkT P (2 * a) (2 * a + b) r → OkT P a b (.node (some i) l r)

theorem OkT.get {a b : Nat} {t : Tr IFn} (h : OkT P a b t) : ∀ n i, t.get n = some i → chkFn P (a * n + b) i = true := by
  induction h with
  | leaf => intro n i h; simp at h
  | no a b hl hr ihl ihr =>
    intro n i h
    cases n with
    | zero => rw [Tr.get_node] at h; cases h
    | succ m =>
      rcases Nat.mod_two_eq_zero_or_one m with h0 | h0
      · obtain ⟨j, rfl⟩ : ∃ j, m = 2 * j := ⟨m / 2, by omega⟩
        rw [Tr.get_node] at h
        simp only [h0, if_true, Nat.mul_div_cancel_left j (Nat.zero_lt_two)] at h
        have := ihl j i h
        rwa [show 2 * a * j + (a + b) = a * (2 * j + 1) + b from by rw [Nat.mul_add, Nat.mul_one, ← Nat.mul_assoc, Nat.mul_comm a 2]; omega] at this
      · obtain ⟨j, rfl⟩ : ∃ j, m = 2 * j + 1 := ⟨m / 2, by omega⟩
        rw [Tr.get_node] at h
        simp only [h0, Nat.one_ne_zero, if_false, show (2 * j + 1) / 2 = j from by omega] at h
        have := ihr j i h
        rwa [show 2 * a * j + (2 * a + b) = a * (2 * j + 1 + 1) + b from by rw [Nat.mul_add, Nat.mul_add, Nat.mul_one, ← Nat.mul_assoc, Nat.mul_comm a 2]; omega] at this
  | fn a b hc hl hr ihl ihr =>
    intro n i h
    cases n with
    | zero => rw [Tr.get_node] at h; cases h; simpa using hc
    | succ m =>
      rcases Nat.mod_two_eq_zero_or_one m with h0 | h0
      · obtain ⟨j, rfl⟩ : ∃ j, m = 2 * j := ⟨m / 2, by omega⟩
        rw [Tr.get_node] at h
        simp only [h0, if_true, Nat.mul_div_cancel_left j (Nat.zero_lt_two)] at h
        have := ihl j i h
        rwa [show 2 * a * j + (a + b) = a * (2 * j + 1) + b from by rw [Nat.mul_add, Nat.mul_one, ← Nat.mul_assoc, Nat.mul_comm a 2]; omega] at this
      · obtain ⟨j, rfl⟩ : ∃ j, m = 2 * j + 1 := ⟨m / 2, by omega⟩
        rw [Tr.get_node] at h
        simp only [h0, Nat.one_ne_zero, if_false, show (2 * j + 1) / 2 = j from by omega] at h
        have := ihr j i h
        rwa [show 2 * a * j + (2 * a + b) = a * (2 * j + 1 + 1) + b from by rw [Nat.mul_add, Nat.mul_add, Nat.mul_one, ← Nat.mul_assoc, Nat.mul_comm a 2]; omega] at this

theorem OkT.envOk {t : Tr IFn} (h : OkT P 1 0 t) : EnvOk P t := fun f i hg => by
  have := h.get f i hg
  rwa [Nat.one_mul] at this

/-- no old block differs -/
theorem Kept.same {ρ ρ' : Ren} {h h' : Hp} {w w' : World} (k : Kept ρ w.heap.size h w ρ' h' w') (may : MemPlace → Prop) : w.keptBut w' may := by
  refine ⟨k.io.1, k.io.2, fun i hi => ?_⟩
  have e := k.pres i hi
  rw [e]
  cases w.heap[i]? with
  | none => rfl
  | some o => cases o <;> simp

/-- the abstract machine at its start: nothing is known of the world -/
noncomputable def hp0 : Hp := ⟨0, 0, .leaf⟩
theorem Rel.start (σ : Nat → Value) (w : World) : Rel σ (fun _ => none) w.heap.size hp0 w :=
  ⟨(by intro _ _ h; cases h), (by intro _ _ _ _ _ _ h; cases h), (by intro _ _ _ h; cases h), (by intro _ _ _ _ _ h; cases h), (by intro _ _ _ h; cases h), (by intro _ _ _ _ _ h; cases h), (by intro _ _ h; cases h), Nat.le_refl _⟩

/-- the answer is true -/
def yes : AV → Prop
  | .b true => True
  | _ => False
theorem yes_iff {v : AV} (h : yes v) : v = .b true := by
  unfold yes at h; split at h
  · rfl
  · exact h.elim

/-- a law's call: where the abstract machine says 'true', the program does -/
theorem law_run (horc : OrcOk P σ orc) (henv : EnvOk P env) (n : Nat) {f : Nat} {vs : List AV} {args : Array Value} (hk : callK env (awp orc env n) f vs hp0 (fun v _ => yes v))
    (ha : ∀ ρ, VRs σ ρ vs args.toList) (w : World) : Calls P f args w fun e w' => e = .returned (.bool true) ∧ ∀ may, w.keptBut w' may := by
  refine (call_sound horc henv n hk (Rel.start σ w) (ha _)).mono fun e w' h => ?_
  obtain ⟨v, v', h', ρ', rfl, hy, hv, _, hkept⟩ := h
  obtain rfl := yes_iff hy
  cases hv
  exact ⟨rfl, fun may => hkept.same may⟩

/-- a row's last step where nothing old has changed -/
theorem post_of_kept {H : Type} {enc : TypeId × Value → H} {f : Func} {s : ChangeSpec} {apart fresh handsOn : Bool} {W W' : World} {args : Array Value} {v : Value} {ds gs : List (DataW H)} {before pa pv : List MemPlace}
    (hW : DataW.Whole enc P f.params.toList s.vars apart W args.toList ds gs before)
    (hres : ∀ (b : Nat) (sp : Nat → Bool) (hd : Bool), DataW.TrodAll enc P W' b sp hd f.resultTypes.toList (v.resultList f.resultTypes.size) (s.fn H (ds ++ gs)).results [])
    (hargs : ∀ sp : Nat → Bool, DataW.TrodAll enc P W' 0 sp true f.params.toList args.toList (s.fn H (ds ++ gs)).args pa)
    (hvars : ∀ sp : Nat → Bool, DataW.TrodVars enc P W' sp s.vars (s.fn H (ds ++ gs)).vars pv)
    (hk : ∀ may, W.keptBut W' may) : s.post enc P f apart fresh handsOn false W args v W' :=
  ⟨ds, gs, before, [], pa, pv, hW, hres _ _ _, hargs _, hvars _, hk _, fun h => by cases h⟩
end Go.Ab
