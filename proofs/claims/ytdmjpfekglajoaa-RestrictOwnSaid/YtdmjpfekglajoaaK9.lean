/- Part 9 of the abstract machine and of the functions' walks. Conditions: with each theorem. -/
import Derived.Test.YtdmjpfekglajoaaK8
set_option linter.unusedSimpArgs false
set_option linter.unusedVariables false
set_option linter.unnecessarySimpa false
section
/- What a setter leaves: lists that rise still rise, only the named field differs, every note tells of a fault. No condition. -/
namespace Go.Kc
theorem bsN_congr (p q : Nat → Bool) : ∀ (m i j : Nat), j - i = m → (∀ k, k < j → p k = q k) → bsN p i j = bsN q i j := by
  intro m
  induction m using Nat.strongRecOn with
  | ind m ih =>
    intro i j hm h
    conv => lhs; rw [bsN]
    conv => rhs; rw [bsN]
    split
    · rw [h _ (by omega)]
      split
      · exact ih (j - ((i + j) / 2 + 1)) (by omega) _ _ rfl h
      · exact ih ((i + j) / 2 - i) (by omega) _ _ rfl fun k hk => h k (by omega)
    · rfl
theorem bsI_spec {l : List Int} {x : Int} (h : l.Pairwise (· < ·)) : (∀ a (ha : a < l.length), a < bsI l x → l[a] < x) ∧ (∀ a (ha : a < l.length), bsI l x ≤ a → ¬ l[a] < x) := by
  have hp := List.pairwise_iff_getElem.1 h
  have e : bsI l x = bsN (fun k => if hk : k < l.length then decide (l[k] < x) else false) 0 l.length := by
    refine bsN_congr _ _ _ 0 l.length rfl fun k hk => ?_
    rw [dif_pos hk, List.getD_eq_getElem?_getD, List.getElem?_eq_getElem hk]; rfl
  have := bsN_mono (fun k => if hk : k < l.length then decide (l[k] < x) else false) (fun a b hab hb => by
    by_cases hbl : b < l.length
    · simp only [dif_pos hbl, decide_eq_true_eq] at hb
      have hal : a < l.length := by omega
      simp only [dif_pos hal, decide_eq_true_eq]
      rcases Nat.lt_or_eq_of_le hab with hlt | rfl
      · have := hp a b hal hbl hlt; omega
      · exact hb
    · simp only [dif_neg hbl] at hb; cases hb) l.length 0 l.length rfl (Nat.zero_le _) (fun a ha => by omega) (fun a ha => dif_neg (by omega))
  rw [← e] at this
  refine ⟨fun a ha hlt => ?_, fun a ha hle => ?_⟩
  · have := this.1 a hlt
    simpa only [dif_pos ha, decide_eq_true_eq] using this
  · have := this.2 a hle
    simpa only [dif_pos ha, decide_eq_false_iff_not] using this
theorem withL_rises {l : List Int} (n : Int) (is : Bool) (h : l.Pairwise (· < ·)) : (withL l n is).Pairwise (· < ·) := by
  unfold withL
  have hm : (l.filter (fun x => !decide (x = n))).Pairwise (· < ·) := h.filter _
  have hne : ∀ x ∈ l.filter (fun x => !decide (x = n)), x ≠ n := fun x hx => by simpa using (List.mem_filter.1 hx).2
  generalize l.filter (fun x => !decide (x = n)) = m at hm hne
  dsimp only
  split
  · obtain ⟨h1, h2⟩ := bsI_spec (x := n) hm
    have hp := List.pairwise_iff_getElem.1 hm
    generalize bsI m n = k at h1 h2
    refine List.pairwise_append.2 ⟨hm.sublist (List.take_sublist _ _), List.pairwise_cons.2 ⟨fun y hy => ?_, hm.sublist (List.drop_sublist _ _)⟩, fun a ha b hb => ?_⟩
    · obtain ⟨i, hi, rfl⟩ := List.mem_drop_iff_getElem.1 hy
      have := h2 (k + i) (by omega) (by omega)
      have := hne m[k + i] (List.getElem_mem _)
      omega
    · obtain ⟨i, hi, rfl⟩ := List.mem_take_iff_getElem.1 ha
      have hi' : i < m.length := by omega
      have q1 := h1 i hi' (by omega)
      rcases List.mem_cons.1 hb with rfl | hb
      · exact q1
      · obtain ⟨j, hj, rfl⟩ := List.mem_drop_iff_getElem.1 hb
        exact hp i (k + j) hi' (by omega) (by omega)
  · exact hm
def Rises (p : Pol) : Prop := p.arches.Pairwise (· < ·) ∧ p.fams.Pairwise (· < ·)
instance (p : Pol) : Decidable (Rises p) := inferInstanceAs (Decidable (_ ∧ _))
theorem archFold_rises (ws : List (List UInt8)) : ∀ s : List Int × List (Int × List UInt8), s.1.Pairwise (· < ·) → (ws.foldl archStep s).1.Pairwise (· < ·) := by
  induction ws with
  | nil => intro s h; exact h
  | cons w ws ih =>
    intro s h
    refine ih _ ?_
    unfold archStep
    split
    · exact withL_rises (archM w).1 true h
    · exact h
theorem famFold_rises (b : Bool) (ws : List (List UInt8)) : ∀ s : List Int × List (Int × List UInt8), s.1.Pairwise (· < ·) → (ws.foldl (famStep b) s).1.Pairwise (· < ·) := by
  induction ws with
  | nil => intro s h; exact h
  | cons w ws ih =>
    intro s h
    refine ih _ ?_
    unfold famStep
    split
    · exact withL_rises _ _ h
    · exact h
def errs (l : List (Int × List UInt8)) : Prop := ∀ x ∈ l, x.1 ≠ 0
theorem errs_app {l : List (Int × List UInt8)} {e : Int} {w : List UInt8} (h : errs l) (he : e ≠ 0) : errs (l ++ [(e, w)]) := by
  intro x hx
  rcases List.mem_append.1 hx with hx | hx
  · exact h x hx
  · obtain rfl := List.mem_singleton.1 hx; exact he
theorem archFold_errs (ws : List (List UInt8)) : ∀ s : List Int × List (Int × List UInt8), errs s.2 → errs (ws.foldl archStep s).2 := by
  induction ws with
  | nil => intro s h; exact h
  | cons w ws ih =>
    intro s h
    refine ih _ ?_
    unfold archStep
    split
    · exact h
    · rename_i he; exact errs_app h he
theorem famFold_errs (b : Bool) (ws : List (List UInt8)) : ∀ s : List Int × List (Int × List UInt8), errs s.2 → errs (ws.foldl (famStep b) s).2 := by
  induction ws with
  | nil => intro s h; exact h
  | cons w ws ih =>
    intro s h
    refine ih _ ?_
    unfold famStep
    split
    · exact h
    · rename_i he; exact errs_app h he
theorem spFold_errs (ws : List (List UInt8)) : ∀ s : Int × List (Int × List UInt8), errs s.2 → errs (ws.foldl spStep s).2 := by
  induction ws with
  | nil => intro s h; exact h
  | cons w ws ih =>
    intro s h
    refine ih _ ?_
    unfold spStep
    dsimp only
    split
    · exact h
    · rename_i he; exact errs_app h he
theorem saysM_errs (v : List UInt8) : errs (saysM v).2 := by
  unfold saysM errs
  repeat' split
  all_goals simp
theorem errs_nil : errs [] := fun _ h => by cases h
theorem setM_errs (p : Pol) (k v : List UInt8) : errs (setM p k v).2 := by
  unfold setM
  repeat' split
  · exact archFold_errs _ _ errs_nil
  · unfold m_families
    repeat' split
    · exact errs_nil
    · exact errs_nil
    · exact famFold_errs _ _ _ errs_nil
  · unfold m_namespaces
    repeat' split
    · exact errs_nil
    · exact errs_nil
    · exact errs_nil
    · exact spFold_errs _ _ errs_nil
  · exact saysM_errs v
  · exact saysM_errs v
  · exact saysM_errs v
  · exact saysM_errs v
  · exact errs_nil
theorem spEnd_same (p : Pol) (t : Bool) (r : Int × List (Int × List UInt8)) : ∃ n, spEnd p t r = { p with spaces := n } := by
  unfold spEnd
  repeat' split
  · exact ⟨_, rfl⟩
  · exact ⟨_, rfl⟩
  · exact ⟨p.spaces, rfl⟩
theorem m_ns_same (p : Pol) (v : List UInt8) : ∃ n, (m_namespaces p v).1 = { p with spaces := n } := by
  unfold m_namespaces
  repeat' split
  · exact ⟨_, rfl⟩
  · exact ⟨_, rfl⟩
  · exact ⟨_, rfl⟩
  · exact spEnd_same _ _ _
theorem m_fam_same (p : Pol) (v : List UInt8) : ∃ l n, (m_families p v).1 = { p with fams := l, fmode := n } ∧ (p.fams.Pairwise (· < ·) → l.Pairwise (· < ·)) := by
  unfold m_families
  repeat' split
  · exact ⟨_, _, rfl, fun _ => .nil⟩
  · exact ⟨_, _, rfl, fun _ => .nil⟩
  · exact ⟨_, _, rfl, fun h => famFold_rises _ _ _ h⟩
theorem setM_same (p : Pol) (k v : List UInt8) : ∃ a l m s w e r n, (setM p k v).1 = ⟨a, p.filter, p.deny, p.log, l, m, s, w, e, r, n⟩ ∧ (Rises p → a.Pairwise (· < ·) ∧ l.Pairwise (· < ·)) ∧
    (k ≠ kArch → a = p.arches) ∧ (k ≠ kFam → l = p.fams ∧ m = p.fmode) ∧ (k ≠ kSp → s = p.spaces) ∧ (k ≠ kWe → w = p.we) ∧ (k ≠ kPe → e = p.pe) ∧ (k ≠ kRt → r = p.rt) ∧ (k ≠ kNp → n = p.np) ∧ (keyM k = false → (setM p k v).2 = []) := by
  unfold setM
  by_cases h0 : k = kArch
  · rw [if_pos h0]
    refine ⟨_, _, _, _, _, _, _, _, rfl, fun h => ⟨archFold_rises _ _ ?_, h.2⟩, fun h => absurd h0 h, fun _ => ⟨rfl, rfl⟩, fun _ => rfl, fun _ => rfl, fun _ => rfl, fun _ => rfl, fun _ => rfl, fun h => by simp [keyM, h0] at h⟩
    dsimp only
    split
    · exact .nil
    · exact h.1
  by_cases h1 : k = kFam
  · rw [if_neg h0, if_pos h1]
    obtain ⟨l, n, e, hl⟩ := m_fam_same p v
    refine ⟨_, _, _, _, _, _, _, _, e, fun h => ⟨h.1, hl h.2⟩, fun _ => rfl, fun h => absurd h1 h, fun _ => rfl, fun _ => rfl, fun _ => rfl, fun _ => rfl, fun _ => rfl, fun h => by simp [keyM, h1] at h⟩
  by_cases h2 : k = kSp
  · rw [if_neg h0, if_neg h1, if_pos h2]
    obtain ⟨n, e⟩ := m_ns_same p v
    refine ⟨_, _, _, _, _, _, _, _, e, fun h => h, fun _ => rfl, fun _ => ⟨rfl, rfl⟩, fun h => absurd h2 h, fun _ => rfl, fun _ => rfl, fun _ => rfl, fun _ => rfl, fun h => by simp [keyM, h2] at h⟩
  by_cases h3 : k = kWe
  · rw [if_neg h0, if_neg h1, if_neg h2, if_pos h3]
    exact ⟨_, _, _, _, _, _, _, _, rfl, fun h => h, fun _ => rfl, fun _ => ⟨rfl, rfl⟩, fun _ => rfl, fun h => absurd h3 h, fun _ => rfl, fun _ => rfl, fun _ => rfl, fun h => by simp [keyM, h3] at h⟩
  by_cases h4 : k = kPe
  · rw [if_neg h0, if_neg h1, if_neg h2, if_neg h3, if_pos h4]
    exact ⟨_, _, _, _, _, _, _, _, rfl, fun h => h, fun _ => rfl, fun _ => ⟨rfl, rfl⟩, fun _ => rfl, fun _ => rfl, fun h => absurd h4 h, fun _ => rfl, fun _ => rfl, fun h => by simp [keyM, h4] at h⟩
  by_cases h5 : k = kRt
  · rw [if_neg h0, if_neg h1, if_neg h2, if_neg h3, if_neg h4, if_pos h5]
    exact ⟨_, _, _, _, _, _, _, _, rfl, fun h => h, fun _ => rfl, fun _ => ⟨rfl, rfl⟩, fun _ => rfl, fun _ => rfl, fun _ => rfl, fun h => absurd h5 h, fun _ => rfl, fun h => by simp [keyM, h5] at h⟩
  by_cases h6 : k = kNp
  · rw [if_neg h0, if_neg h1, if_neg h2, if_neg h3, if_neg h4, if_neg h5, if_pos h6]
    exact ⟨_, _, _, _, _, _, _, _, rfl, fun h => h, fun _ => rfl, fun _ => ⟨rfl, rfl⟩, fun _ => rfl, fun _ => rfl, fun _ => rfl, fun _ => rfl, fun h => absurd h6 h, fun h => by simp [keyM, h6] at h⟩
  rw [if_neg h0, if_neg h1, if_neg h2, if_neg h3, if_neg h4, if_neg h5, if_neg h6]
  exact ⟨_, _, _, _, _, _, _, _, rfl, fun h => h, fun _ => rfl, fun _ => ⟨rfl, rfl⟩, fun _ => rfl, fun _ => rfl, fun _ => rfl, fun _ => rfl, fun _ => rfl, fun _ => rfl⟩
end Go.Kc
end
section
/- What the small functions of the law RestrictOwn answer. Condition: the functions' texts are these. -/
namespace Go.Kc
variable {P : Program} {f : Nat}
theorem fr_sl0 {h : Hp} {b : Nat} : Frz h (.sl b 0 0 0 false) (.fz 0 []) ↔ evB (h.tr.get b) (fun z => cellAt z (fun _ w _ _ => w = true)) := by
  constructor
  · intro hh
    cases hh with
    | sl _ _ _ _ _ e af cs m cs' hb => exact ⟨_, hb, rfl⟩
  · rintro ⟨z, hz, h2⟩
    cases z with
    | cells e w af ys =>
      cases h2
      exact .sl b 0 0 0 false e af ys 0 [] hz (Nat.le_refl _) (Nat.zero_le _) (fun _ => rfl) .nil
    | dead => exact h2.elim
    | map es => exact h2.elim
theorem rI_e {q : IntKind} {l : List Int} : (l = [] → rI q l = []) ↔ True := iff_true_intro fun h => by rw [h]; rfl
theorem rC_e {l : List GCall} : (l = [] → rC l = []) ↔ True := iff_true_intro fun h => by rw [h]; rfl
def ir_vestibulelaw16_Great : IFn := ⟨[.tmp 2],
  .seq (.reg false [⟨(some 1), .op (.box (.t 0)), none⟩,
    ⟨(some 2), .op (.mov (.c (.b false))), none⟩])
  (.seq (.reg false [⟨(some 3), .op (.fAddr 1 (.t 1)), none⟩,
    ⟨(some 4), .op (.load1 (.t 3)), none⟩,
    ⟨(some 5), .op (.len false (.t 4)), none⟩,
    ⟨(some 6), .op (.bin .gtr (.t 5) (.c (.i .i64 100))), none⟩,
    ⟨(some 2), .op (.mov (.t 6)), none⟩])
  (.ret))⟩
def great16 (l : GList) : Bool := decide (100 < l.calls.length)
theorem great16_pure (hc : chkFn P f ir_vestibulelaw16_Great = true) (l : GList) : Pure P f [.agg (cList l)] (.b (great16 l)) := by
  refine Pure.mk hc rfl ?_
  simp only [ir_vestibulelaw16_Great, cList, argsT, H0, mkT, mkH, trL, List.length_cons, List.length_nil, Nat.reduceAdd, Nat.zero_add]
  by_cases h : (100 : Int) < l.calls.length
  · have h' : 100 < l.calls.length := by omega
    simp only [↓vA, ↓vE, ↓vO, ↓vB, ↓vF, ↓vM, ↓vR, ↓vX, cvF_pc, vP, shb, shv, shvs, she_nil, she_cons, vC, vQ, Nat.reduceEqDiff, ↓reduceIte, eq_self, Nat.reduceAdd, Nat.reduceMul, Nat.reduceSub, Nat.reduceLeDiff, Nat.reduceLT, defd, cellsOf, wr, packR, Int.reduceLE, Int.reduceLT, Int.reduceEq, Int.cast_ofNat_Int, Int.reduceToNat, h, great16, h', vZ]
  · have h' : ¬ 100 < l.calls.length := by omega
    simp only [↓vA, ↓vE, ↓vO, ↓vB, ↓vF, ↓vM, ↓vR, ↓vX, cvF_pc, vP, shb, shv, shvs, she_nil, she_cons, vC, vQ, Nat.reduceEqDiff, ↓reduceIte, eq_self, Nat.reduceAdd, Nat.reduceMul, Nat.reduceSub, Nat.reduceLeDiff, Nat.reduceLT, defd, cellsOf, wr, packR, Int.reduceLE, Int.reduceLT, Int.reduceEq, Int.cast_ofNat_Int, Int.reduceToNat, h, great16, h', vZ]
def ir_vestibulelaw17_Great (f_vestibulelaw16_Great : Nat) : IFn := ⟨[.tmp 4],
  .seq (.reg false [⟨(some 2), .op (.box (.t 0)), none⟩,
    ⟨(some 3), .op (.box (.t 1)), none⟩,
    ⟨(some 4), .op (.mov (.c (.b false))), none⟩])
  (.seq (.reg false [⟨(some 5), .op (.fAddr 0 (.t 2)), none⟩,
    ⟨(some 6), .op (.load1 (.t 5)), none⟩,
    ⟨(some 7), .op (.len false (.t 6)), none⟩,
    ⟨(some 8), .op (.bin .gtr (.t 7) (.c (.i .i64 20))), none⟩,
    ⟨(some 9), .op (.mov (.t 8)), none⟩,
    ⟨(some 10), .op (.fAddr 6 (.t 2)), (some (9, false))⟩,
    ⟨(some 11), .op (.load1 (.t 10)), (some (9, false))⟩,
    ⟨(some 12), .op (.len false (.t 11)), (some (9, false))⟩,
    ⟨(some 13), .op (.bin .gtr (.t 12) (.c (.i .i64 20))), (some (9, false))⟩,
    ⟨(some 14), .op (.pick (.t 9) (.c (.b true)) (.t 13)), none⟩,
    ⟨(some 15), .op (.mov (.t 14)), none⟩,
    ⟨(some 16), .op (.fAddr 1 (.t 2)), (some (15, false))⟩,
    ⟨(some 17), .op (.loadN 2 (.t 16)), (some (15, false))⟩,
    ⟨(some 18), .callF f_vestibulelaw16_Great [(.t 17)], (some (15, false))⟩,
    ⟨(some 19), .op (.pick (.t 15) (.c (.b true)) (.t 18)), none⟩,
    ⟨(some 20), .op (.mov (.t 19)), none⟩,
    ⟨(some 21), .op (.fAddr 4 (.t 2)), (some (20, false))⟩,
    ⟨(some 22), .op (.loadN 2 (.t 21)), (some (20, false))⟩,
    ⟨(some 23), .callF f_vestibulelaw16_Great [(.t 22)], (some (20, false))⟩,
    ⟨(some 24), .op (.pick (.t 20) (.c (.b true)) (.t 23)), none⟩,
    ⟨(some 25), .op (.mov (.t 24)), none⟩,
    ⟨(some 26), .op (.fAddr 4 (.t 3)), (some (25, false))⟩,
    ⟨(some 27), .op (.load1 (.t 26)), (some (25, false))⟩,
    ⟨(some 28), .op (.len true (.t 27)), (some (25, false))⟩,
    ⟨(some 29), .op (.bin .gtr (.t 28) (.c (.i .i64 1000))), (some (25, false))⟩,
    ⟨(some 30), .op (.pick (.t 25) (.c (.b true)) (.t 29)), none⟩,
    ⟨(some 31), .op (.mov (.t 30)), none⟩,
    ⟨(some 32), .op (.fAddr 3 (.t 3)), (some (31, false))⟩,
    ⟨(some 33), .op (.load1 (.t 32)), (some (31, false))⟩,
    ⟨(some 34), .op (.len true (.t 33)), (some (31, false))⟩,
    ⟨(some 35), .op (.bin .gtr (.t 34) (.c (.i .i64 200))), (some (31, false))⟩,
    ⟨(some 36), .op (.pick (.t 31) (.c (.b true)) (.t 35)), none⟩,
    ⟨(some 37), .op (.mov (.t 36)), none⟩,
    ⟨(some 38), .op (.fAddr 0 (.t 3)), (some (37, false))⟩,
    ⟨(some 39), .op (.load1 (.t 38)), (some (37, false))⟩,
    ⟨(some 40), .op (.len true (.t 39)), (some (37, false))⟩,
    ⟨(some 41), .op (.bin .gtr (.t 40) (.c (.i .i64 200))), (some (37, false))⟩,
    ⟨(some 42), .op (.pick (.t 37) (.c (.b true)) (.t 41)), none⟩,
    ⟨(some 4), .op (.mov (.t 42)), none⟩])
  (.ret))⟩
def great17 (p : Pol) (a : Asg) : Bool := decide (20 < p.arches.length) || decide (20 < p.fams.length) || great16 p.filter || great16 p.log || decide (1000 < a.val.length) || decide (200 < a.key.length) || decide (200 < a.file.length)
theorem great17_pure {g : Nat} (hc : chkFn P f (ir_vestibulelaw17_Great g) = true) (hg : ∀ l, Pure P g [.agg (cList l)] (.b (great16 l))) (p : Pol) (a : Asg) : Pure P f [.agg (cPol p), .agg (cAsg a)] (.b (great17 p a)) := by
  have cast : ∀ (n m : Nat), ((n : Int) < (m : Int)) = (n < m) := fun n m => by simp
  refine Pure.mk hc rfl ?_
  simp only [ir_vestibulelaw17_Great, cPol, cAsg, argsT, H0, mkT, mkH, trL, List.length_cons, List.length_nil, Nat.reduceAdd, Nat.zero_add]
  by_cases h1 : (20 : Int) < p.arches.length
  · have h1' : 20 < p.arches.length := by omega
    simp only [↓vA, ↓vE, ↓vO, ↓vB, ↓vF, ↓vM, ↓vR, ↓vX, cvF_pc, vP, shb, shv, shvs, she_nil, she_cons, vC, vQ, Nat.reduceEqDiff, ↓reduceIte, eq_self, Nat.reduceAdd, Nat.reduceMul, Nat.reduceSub, Nat.reduceLeDiff, Nat.reduceLT, defd, cellsOf, wr, packR, Int.reduceLE, Int.reduceLT, Int.reduceEq, Int.cast_ofNat_Int, Int.reduceToNat, h1, great17, h1', vZ]
    simp
  have h1' : ¬ 20 < p.arches.length := by omega
  by_cases h2 : (20 : Int) < p.fams.length
  · have h2' : 20 < p.fams.length := by omega
    simp only [↓vA, ↓vE, ↓vO, ↓vB, ↓vF, ↓vM, ↓vR, ↓vX, cvF_pc, vP, shb, shv, shvs, she_nil, she_cons, vC, vQ, Nat.reduceEqDiff, ↓reduceIte, eq_self, Nat.reduceAdd, Nat.reduceMul, Nat.reduceSub, Nat.reduceLeDiff, Nat.reduceLT, defd, cellsOf, wr, packR, Int.reduceLE, Int.reduceLT, Int.reduceEq, Int.cast_ofNat_Int, Int.reduceToNat, h1, h2, great17, h1', h2', vZ]
    simp
  have h2' : ¬ 20 < p.fams.length := by omega
  simp only [↓vA, ↓vE, ↓vO, ↓vB, ↓vF, ↓vM, ↓vR, ↓vX, cvF_pc, vP, shb, shv, shvs, she_nil, she_cons, vC, vQ, Nat.reduceEqDiff, ↓reduceIte, eq_self, Nat.reduceAdd, Nat.reduceMul, Nat.reduceSub, Nat.reduceLeDiff, Nat.reduceLT, defd, cellsOf, wr, packR, Int.reduceLE, Int.reduceLT, Int.reduceEq, Int.cast_ofNat_Int, Int.reduceToNat, h1, h2]
  refine (hg p.filter).sc ?_
  cases h3 : great16 p.filter
  case true =>
    simp only [↓vA, ↓vE, ↓vO, ↓vB, ↓vF, ↓vM, ↓vR, ↓vX, cvF_pc, vP, shb, shv, shvs, she_nil, she_cons, vC, vQ, Nat.reduceEqDiff, ↓reduceIte, eq_self, Nat.reduceAdd, Nat.reduceMul, Nat.reduceSub, Nat.reduceLeDiff, Nat.reduceLT, defd, cellsOf, wr, packR, Int.reduceLE, Int.reduceLT, Int.reduceEq, Int.cast_ofNat_Int, Int.reduceToNat]
    simp [great17, h3, vZ]
  simp only [↓vA, ↓vE, ↓vO, ↓vB, ↓vF, ↓vM, ↓vR, ↓vX, cvF_pc, vP, shb, shv, shvs, she_nil, she_cons, vC, vQ, Nat.reduceEqDiff, ↓reduceIte, eq_self, Nat.reduceAdd, Nat.reduceMul, Nat.reduceSub, Nat.reduceLeDiff, Nat.reduceLT, defd, cellsOf, wr, packR, Int.reduceLE, Int.reduceLT, Int.reduceEq, Int.cast_ofNat_Int, Int.reduceToNat]
  refine (hg p.log).sc ?_
  cases h4 : great16 p.log
  case true =>
    simp only [↓vA, ↓vE, ↓vO, ↓vB, ↓vF, ↓vM, ↓vR, ↓vX, cvF_pc, vP, shb, shv, shvs, she_nil, she_cons, vC, vQ, Nat.reduceEqDiff, ↓reduceIte, eq_self, Nat.reduceAdd, Nat.reduceMul, Nat.reduceSub, Nat.reduceLeDiff, Nat.reduceLT, defd, cellsOf, wr, packR, Int.reduceLE, Int.reduceLT, Int.reduceEq, Int.cast_ofNat_Int, Int.reduceToNat]
    simp [great17, h4, vZ]
  by_cases h5 : (1000 : Int) < a.val.length
  · have h5' : 1000 < a.val.length := by omega
    simp only [↓vA, ↓vE, ↓vO, ↓vB, ↓vF, ↓vM, ↓vR, ↓vX, cvF_pc, vP, shb, shv, shvs, she_nil, she_cons, vC, vQ, Nat.reduceEqDiff, ↓reduceIte, eq_self, Nat.reduceAdd, Nat.reduceMul, Nat.reduceSub, Nat.reduceLeDiff, Nat.reduceLT, defd, cellsOf, wr, packR, Int.reduceLE, Int.reduceLT, Int.reduceEq, Int.cast_ofNat_Int, Int.reduceToNat, h5]
    simp [great17, h5', vZ]
  have h5' : ¬ 1000 < a.val.length := by omega
  by_cases h6 : (200 : Int) < a.key.length
  · have h6' : 200 < a.key.length := by omega
    simp only [↓vA, ↓vE, ↓vO, ↓vB, ↓vF, ↓vM, ↓vR, ↓vX, cvF_pc, vP, shb, shv, shvs, she_nil, she_cons, vC, vQ, Nat.reduceEqDiff, ↓reduceIte, eq_self, Nat.reduceAdd, Nat.reduceMul, Nat.reduceSub, Nat.reduceLeDiff, Nat.reduceLT, defd, cellsOf, wr, packR, Int.reduceLE, Int.reduceLT, Int.reduceEq, Int.cast_ofNat_Int, Int.reduceToNat, h5, h6]
    simp [great17, h6', vZ]
  have h6' : ¬ 200 < a.key.length := by omega
  by_cases h7 : (200 : Int) < a.file.length
  · have h7' : 200 < a.file.length := by omega
    simp only [↓vA, ↓vE, ↓vO, ↓vB, ↓vF, ↓vM, ↓vR, ↓vX, cvF_pc, vP, shb, shv, shvs, she_nil, she_cons, vC, vQ, Nat.reduceEqDiff, ↓reduceIte, eq_self, Nat.reduceAdd, Nat.reduceMul, Nat.reduceSub, Nat.reduceLeDiff, Nat.reduceLT, defd, cellsOf, wr, packR, Int.reduceLE, Int.reduceLT, Int.reduceEq, Int.cast_ofNat_Int, Int.reduceToNat, h5, h6, h7]
    simp [great17, h7', vZ]
  have h7' : ¬ 200 < a.file.length := by omega
  simp only [↓vA, ↓vE, ↓vO, ↓vB, ↓vF, ↓vM, ↓vR, ↓vX, cvF_pc, vP, shb, shv, shvs, she_nil, she_cons, vC, vQ, Nat.reduceEqDiff, ↓reduceIte, eq_self, Nat.reduceAdd, Nat.reduceMul, Nat.reduceSub, Nat.reduceLeDiff, Nat.reduceLT, defd, cellsOf, wr, packR, Int.reduceLE, Int.reduceLT, Int.reduceEq, Int.cast_ofNat_Int, Int.reduceToNat, h5, h6, h7]
  simp [great17, h1', h2', h3, h4, h5', h6', h7', vZ]
def ir_vestibulelaw16_Copied : IFn := ⟨[.cell 2 2 true],
  .seq (.reg false [⟨(some 1), .op (.box (.t 0)), none⟩,
    ⟨(some 2), .op (.alloc [.i .u8 0, .nils]), none⟩])
  (.seq (.reg true [⟨(some 3), .op (.fAddr 0 (.t 1)), none⟩,
    ⟨(some 4), .op (.load1 (.t 3)), none⟩,
    ⟨(some 5), .op (.buildS 0 [.s [], .i .u32 0] []), none⟩,
    ⟨(some 6), .op (.fAddr 1 (.t 1)), none⟩,
    ⟨(some 7), .op (.load1 (.t 6)), none⟩,
    ⟨(some 8), .op (.appF 2 24 (.t 5) (.t 7)), none⟩,
    ⟨(some 9), .op (.build [.i .u8 0, .nils] [(0, 1, (.t 4)), (1, 1, (.t 8))]), none⟩,
    ⟨none, .op (.store 2 (.t 2) (.t 9)), none⟩])
  (.ret))⟩
theorem copied16 (hc : chkFn P f ir_vestibulelaw16_Copied = true) (l : GList) (hl : l.calls.length ≤ 1000) : Pure P f [.agg (cList l)] (.agg (cList l)) := by
  refine Pure.mk hc rfl ?_
  simp only [ir_vestibulelaw16_Copied, cList, argsT, H0, mkT, mkH, trL, List.length_cons, List.length_nil, Nat.reduceAdd, Nat.zero_add]
  simp only [↓vA, ↓vE, ↓vO, ↓vB, ↓vF, ↓vM, ↓vR, ↓vX, cvF_pc, vP, shb, shv, shvs, she_nil, she_cons, vC, vQ, Nat.reduceEqDiff, ↓reduceIte, eq_self, Nat.reduceAdd, Nat.reduceMul, Nat.reduceSub, Nat.reduceLeDiff, Nat.reduceLT, defd, cellsOf, wr, packR, Int.reduceLE, Int.reduceLT, Int.reduceEq, Int.cast_ofNat_Int, Int.reduceToNat]
  refine VD_pc ?_
  have hT : List.take (l.calls.length * 2) (rC l.calls) = rC l.calls := List.take_of_length_le (by rw [rC_len]; exact Nat.le_refl _)
  by_cases h0 : l.calls = []
  · simp only [↓vA, ↓vE, ↓vO, ↓vB, ↓vF, ↓vM, ↓vR, ↓vX, cvF_pc, vP, shb, shv, shvs, she_nil, she_cons, vC, vQ, Nat.reduceEqDiff, ↓reduceIte, eq_self, Nat.reduceAdd, Nat.reduceMul, Nat.reduceSub, Nat.reduceLeDiff, Nat.reduceLT, defd, cellsOf, wr, packR, Int.reduceLE, Int.reduceLT, Int.reduceEq, Int.cast_ofNat_Int, Int.reduceToNat, h0, rC_nil, Nat.zero_mul]
    simp [vZ, vP, Tr.get_set, frzs_self, fr_sl0]
  · have hn : ¬ l.calls.length ≤ 0 := by
      intro h; exact h0 (List.eq_nil_of_length_eq_zero (by omega))
    have hr : l.calls.length ≤ roomB := by simp only [roomB]; omega
    have hr2 : l.calls.length * 24 ≤ roomB := by simp only [roomB]; omega
    simp only [↓vA, ↓vE, ↓vO, ↓vB, ↓vF, ↓vM, ↓vR, ↓vX, cvF_pc, vP, shb, shv, shvs, she_nil, she_cons, vC, vQ, Nat.reduceEqDiff, ↓reduceIte, eq_self, Nat.reduceAdd, Nat.reduceMul, Nat.reduceSub, Nat.reduceLeDiff, Nat.reduceLT, defd, cellsOf, wr, packR, Int.reduceLE, Int.reduceLT, Int.reduceEq, Int.cast_ofNat_Int, Int.reduceToNat, rC_len, hT, hn, rC_ok, hr, hr2]
    simp [vZ, vP, Tr.get_set, frzs_self rC_clos, rC_clos, rC_e]
def ir_restrict_Key (f_restrict_keys : Nat) : IFn := ⟨[.tmp 2],
  .seq (.reg false [⟨(some 2), .op (.mov (.c (.b false))), none⟩])
  (.seq (.reg false [⟨(some 6), .callF f_restrict_keys [], none⟩,
    ⟨(some 7), .op (.mov (.t 0)), none⟩,
    ⟨(some 8), .op (.lookM none true (.nilf) (.t 6) (.t 7)), none⟩,
    ⟨(some 5), .op (.mov (.t 8)), none⟩,
    ⟨(some 9), .op (.ext (.t 5) 0), none⟩,
    ⟨(some 10), .op (.ext (.t 5) 1), none⟩,
    ⟨(some 3), .op (.mov (.t 9)), none⟩,
    ⟨(some 4), .op (.mov (.t 10)), none⟩])
  (.seq (.reg false [⟨(some 11), .op (.mov (.t 4)), none⟩,
    ⟨(some 2), .op (.mov (.t 11)), none⟩])
  (.ret)))⟩
theorem key_pure {g1 m1 m2 m3 m4 m5 m6 m7 : Nat} (hc : chkFn P f (ir_restrict_Key g1) = true) (h2 : Own P g1 [] (.map 0) [.map (keysE m1 m2 m3 m4 m5 m6 m7)]) (k : List UInt8) : Pure P f [.s k] (.b (keyM k)) := by
  refine Pure.mk hc rfl ?_
  simp only [ir_restrict_Key, argsT, H0, mkT, mkH, trL, List.length_cons, List.length_nil, Nat.reduceAdd, Nat.zero_add]
  simp only [↓vA, ↓vE, ↓vO, ↓vB, ↓vF, ↓vM, ↓vR, ↓vX, cvF_pc, vP, shb, shv, shvs, she_nil, she_cons, vC, vQ, Nat.reduceEqDiff, ↓reduceIte, eq_self, Nat.reduceAdd, Nat.reduceMul, Nat.reduceSub, Nat.reduceLeDiff, Nat.reduceLT, defd, cellsOf, wr, packR, Int.reduceLE, Int.reduceLT, Int.reduceEq, Int.cast_ofNat_Int, Int.reduceToNat]
  refine h2.sc ?_
  simp only [pushs_cons, pushs_nil, push_mk, shb, shv, shvs, she_nil, she_cons, List.map_cons, List.map_nil, up_mk, down_mk, Nat.reduceAdd, Nat.zero_add, keysE]
  simp only [↓vA, ↓vE, ↓vO, ↓vB, ↓vF, ↓vM, ↓vR, ↓vX, cvF_pc, vP, shb, shv, shvs, she_nil, she_cons, vC, vQ, Nat.reduceEqDiff, ↓reduceIte, eq_self, Nat.reduceAdd, Nat.reduceMul, Nat.reduceSub, Nat.reduceLeDiff, Nat.reduceLT, defd, cellsOf, wr, packR, Int.reduceLE, Int.reduceLT, Int.reduceEq, Int.cast_ofNat_Int, Int.reduceToNat]
  unfold keyM
  repeat' split
  all_goals simp_all [vZ, kArch, kFam, kSp, kWe, kPe, kRt, kNp]
def ir_vestibulelaw17_Copied (f_vestibulelaw16_Copied : Nat) : IFn := ⟨[.cell 2 13 true],
  .seq (.reg false [⟨(some 1), .op (.box (.t 0)), none⟩,
    ⟨(some 2), .op (.alloc [.nils, .i .u8 0, .nils, .i .u32 0, .i .u8 0, .nils, .nils, .i .u8 0, .i .u64 0, .b false, .b false, .b false, .b false]), none⟩])
  (.seq (.reg false [⟨(some 3), .op (.buildS 0 [.i .i64 0] []), none⟩,
    ⟨(some 4), .op (.fAddr 0 (.t 1)), none⟩,
    ⟨(some 5), .op (.load1 (.t 4)), none⟩,
    ⟨(some 6), .op (.app 1 8 true (.t 3) (.t 5)), none⟩,
    ⟨(some 7), .op (.fAddr 0 (.t 1)), none⟩,
    ⟨none, .op (.store 1 (.t 7) (.t 6)), none⟩])
  (.seq (.reg false [⟨(some 8), .op (.buildS 0 [.i .u32 0] []), none⟩,
    ⟨(some 9), .op (.fAddr 6 (.t 1)), none⟩,
    ⟨(some 10), .op (.load1 (.t 9)), none⟩,
    ⟨(some 11), .op (.app 1 4 true (.t 8) (.t 10)), none⟩,
    ⟨(some 12), .op (.fAddr 6 (.t 1)), none⟩,
    ⟨none, .op (.store 1 (.t 12) (.t 11)), none⟩])
  (.seq (.reg false [⟨(some 13), .op (.fAddr 1 (.t 1)), none⟩,
    ⟨(some 14), .op (.loadN 2 (.t 13)), none⟩,
    ⟨(some 15), .callF f_vestibulelaw16_Copied [(.t 14)], none⟩,
    ⟨(some 16), .op (.fAddr 1 (.t 1)), none⟩,
    ⟨none, .op (.store 2 (.t 16) (.t 15)), none⟩])
  (.seq (.reg false [⟨(some 17), .op (.fAddr 4 (.t 1)), none⟩,
    ⟨(some 18), .op (.loadN 2 (.t 17)), none⟩,
    ⟨(some 19), .callF f_vestibulelaw16_Copied [(.t 18)], none⟩,
    ⟨(some 20), .op (.fAddr 4 (.t 1)), none⟩,
    ⟨none, .op (.store 2 (.t 20) (.t 19)), none⟩])
  (.seq (.reg false [⟨(some 21), .op (.loadN 13 (.t 1)), none⟩,
    ⟨none, .op (.store 13 (.t 2) (.t 21)), none⟩])
  (.ret))))))⟩
theorem copied17 {g : Nat} (hc : chkFn P f (ir_vestibulelaw17_Copied g) = true) (hg : ∀ l : GList, l.calls.length ≤ 1000 → Pure P g [.agg (cList l)] (.agg (cList l))) : cCopied P f := by
  intro p hp
  have ha := hp.a
  have hf := hp.f
  have hcc := hp.c
  have hl := hp.l
  have hT : List.take p.arches.length (rI .i64 p.arches) = rI .i64 p.arches := List.take_of_length_le (by rw [rI_len]; exact Nat.le_refl _)
  have hT2 : List.take p.fams.length (rI .u32 p.fams) = rI .u32 p.fams := List.take_of_length_le (by rw [rI_len]; exact Nat.le_refl _)
  refine Pure.mk hc rfl ?_
  simp only [ir_vestibulelaw17_Copied, cPol, argsT, H0, mkT, mkH, trL, List.length_cons, List.length_nil, Nat.reduceAdd, Nat.zero_add]
  simp only [↓vA, ↓vE, ↓vO, ↓vB, ↓vF, ↓vM, ↓vR, ↓vX, cvF_pc, vP, shb, shv, shvs, she_nil, she_cons, vC, vQ, Nat.reduceEqDiff, ↓reduceIte, eq_self, Nat.reduceAdd, Nat.reduceMul, Nat.reduceSub, Nat.reduceLeDiff, Nat.reduceLT, defd, cellsOf, wr, packR, Int.reduceLE, Int.reduceLT, Int.reduceEq, Int.cast_ofNat_Int, Int.reduceToNat]
  by_cases h0 : p.arches = []
  · by_cases h1 : p.fams = []
    · simp only [↓vA, ↓vE, ↓vO, ↓vB, ↓vF, ↓vM, ↓vR, ↓vX, cvF_pc, vP, shb, shv, shvs, she_nil, she_cons, vC, vQ, Nat.reduceEqDiff, ↓reduceIte, eq_self, Nat.reduceAdd, Nat.reduceMul, Nat.reduceSub, Nat.reduceLeDiff, Nat.reduceLT, defd, cellsOf, wr, packR, Int.reduceLE, Int.reduceLT, Int.reduceEq, Int.cast_ofNat_Int, Int.reduceToNat, h0, h1, rI_nil, Nat.zero_mul]
      refine (hg p.filter hcc).sc ?_
      simp only [↓vA, ↓vE, ↓vO, ↓vB, ↓vF, ↓vM, ↓vR, ↓vX, cvF_pc, vP, shb, shv, shvs, she_nil, she_cons, vC, vQ, Nat.reduceEqDiff, ↓reduceIte, eq_self, Nat.reduceAdd, Nat.reduceMul, Nat.reduceSub, Nat.reduceLeDiff, Nat.reduceLT, defd, cellsOf, wr, packR, Int.reduceLE, Int.reduceLT, Int.reduceEq, Int.cast_ofNat_Int, Int.reduceToNat, cList]
      refine (hg p.log hl).sc ?_
      simp only [↓vA, ↓vE, ↓vO, ↓vB, ↓vF, ↓vM, ↓vR, ↓vX, cvF_pc, vP, shb, shv, shvs, she_nil, she_cons, vC, vQ, Nat.reduceEqDiff, ↓reduceIte, eq_self, Nat.reduceAdd, Nat.reduceMul, Nat.reduceSub, Nat.reduceLeDiff, Nat.reduceLT, defd, cellsOf, wr, packR, Int.reduceLE, Int.reduceLT, Int.reduceEq, Int.cast_ofNat_Int, Int.reduceToNat, cList]
      simp [vZ, vP, Tr.get_set, frzs_self, h0, h1, rI_nil, fr_sl0]
    · have hn : ¬ p.fams.length ≤ 0 := by
        intro h; exact h1 (List.eq_nil_of_length_eq_zero (by omega))
      have hr : p.fams.length ≤ roomB := by simp only [roomB]; omega
      have hr2 : p.fams.length * 4 ≤ roomB := by simp only [roomB]; omega
      simp only [↓vA, ↓vE, ↓vO, ↓vB, ↓vF, ↓vM, ↓vR, ↓vX, cvF_pc, vP, shb, shv, shvs, she_nil, she_cons, vC, vQ, Nat.reduceEqDiff, ↓reduceIte, eq_self, Nat.reduceAdd, Nat.reduceMul, Nat.reduceSub, Nat.reduceLeDiff, Nat.reduceLT, defd, cellsOf, wr, packR, Int.reduceLE, Int.reduceLT, Int.reduceEq, Int.cast_ofNat_Int, Int.reduceToNat, h0, rI_nil, Nat.zero_mul, rI_len, Nat.mul_one, hT2, hn, rI_ok, hr, hr2]
      refine (hg p.filter hcc).sc ?_
      simp only [↓vA, ↓vE, ↓vO, ↓vB, ↓vF, ↓vM, ↓vR, ↓vX, cvF_pc, vP, shb, shv, shvs, she_nil, she_cons, vC, vQ, Nat.reduceEqDiff, ↓reduceIte, eq_self, Nat.reduceAdd, Nat.reduceMul, Nat.reduceSub, Nat.reduceLeDiff, Nat.reduceLT, defd, cellsOf, wr, packR, Int.reduceLE, Int.reduceLT, Int.reduceEq, Int.cast_ofNat_Int, Int.reduceToNat, cList]
      refine (hg p.log hl).sc ?_
      simp only [↓vA, ↓vE, ↓vO, ↓vB, ↓vF, ↓vM, ↓vR, ↓vX, cvF_pc, vP, shb, shv, shvs, she_nil, she_cons, vC, vQ, Nat.reduceEqDiff, ↓reduceIte, eq_self, Nat.reduceAdd, Nat.reduceMul, Nat.reduceSub, Nat.reduceLeDiff, Nat.reduceLT, defd, cellsOf, wr, packR, Int.reduceLE, Int.reduceLT, Int.reduceEq, Int.cast_ofNat_Int, Int.reduceToNat, cList]
      simp [vZ, vP, Tr.get_set, frzs_self rI_clos, rI_clos, h0, rI_nil, fr_sl0, rI_e]
  · have hm : ¬ p.arches.length ≤ 0 := by
      intro h; exact h0 (List.eq_nil_of_length_eq_zero (by omega))
    have hs : p.arches.length ≤ roomB := by simp only [roomB]; omega
    have hs2 : p.arches.length * 8 ≤ roomB := by simp only [roomB]; omega
    by_cases h1 : p.fams = []
    · simp only [↓vA, ↓vE, ↓vO, ↓vB, ↓vF, ↓vM, ↓vR, ↓vX, cvF_pc, vP, shb, shv, shvs, she_nil, she_cons, vC, vQ, Nat.reduceEqDiff, ↓reduceIte, eq_self, Nat.reduceAdd, Nat.reduceMul, Nat.reduceSub, Nat.reduceLeDiff, Nat.reduceLT, defd, cellsOf, wr, packR, Int.reduceLE, Int.reduceLT, Int.reduceEq, Int.cast_ofNat_Int, Int.reduceToNat, h1, rI_nil, Nat.zero_mul, rI_len, Nat.mul_one, hT, hm, rI_ok, hs, hs2]
      refine (hg p.filter hcc).sc ?_
      simp only [↓vA, ↓vE, ↓vO, ↓vB, ↓vF, ↓vM, ↓vR, ↓vX, cvF_pc, vP, shb, shv, shvs, she_nil, she_cons, vC, vQ, Nat.reduceEqDiff, ↓reduceIte, eq_self, Nat.reduceAdd, Nat.reduceMul, Nat.reduceSub, Nat.reduceLeDiff, Nat.reduceLT, defd, cellsOf, wr, packR, Int.reduceLE, Int.reduceLT, Int.reduceEq, Int.cast_ofNat_Int, Int.reduceToNat, cList]
      refine (hg p.log hl).sc ?_
      simp only [↓vA, ↓vE, ↓vO, ↓vB, ↓vF, ↓vM, ↓vR, ↓vX, cvF_pc, vP, shb, shv, shvs, she_nil, she_cons, vC, vQ, Nat.reduceEqDiff, ↓reduceIte, eq_self, Nat.reduceAdd, Nat.reduceMul, Nat.reduceSub, Nat.reduceLeDiff, Nat.reduceLT, defd, cellsOf, wr, packR, Int.reduceLE, Int.reduceLT, Int.reduceEq, Int.cast_ofNat_Int, Int.reduceToNat, cList]
      simp [vZ, vP, Tr.get_set, frzs_self rI_clos, rI_clos, h1, rI_nil, fr_sl0, rI_e]
    · have hn : ¬ p.fams.length ≤ 0 := by
        intro h; exact h1 (List.eq_nil_of_length_eq_zero (by omega))
      have hr : p.fams.length ≤ roomB := by simp only [roomB]; omega
      have hr2 : p.fams.length * 4 ≤ roomB := by simp only [roomB]; omega
      simp only [↓vA, ↓vE, ↓vO, ↓vB, ↓vF, ↓vM, ↓vR, ↓vX, cvF_pc, vP, shb, shv, shvs, she_nil, she_cons, vC, vQ, Nat.reduceEqDiff, ↓reduceIte, eq_self, Nat.reduceAdd, Nat.reduceMul, Nat.reduceSub, Nat.reduceLeDiff, Nat.reduceLT, defd, cellsOf, wr, packR, Int.reduceLE, Int.reduceLT, Int.reduceEq, Int.cast_ofNat_Int, Int.reduceToNat, rI_len, Nat.mul_one, hT, hT2, hn, hm, rI_ok, hr, hr2, hs, hs2]
      refine (hg p.filter hcc).sc ?_
      simp only [↓vA, ↓vE, ↓vO, ↓vB, ↓vF, ↓vM, ↓vR, ↓vX, cvF_pc, vP, shb, shv, shvs, she_nil, she_cons, vC, vQ, Nat.reduceEqDiff, ↓reduceIte, eq_self, Nat.reduceAdd, Nat.reduceMul, Nat.reduceSub, Nat.reduceLeDiff, Nat.reduceLT, defd, cellsOf, wr, packR, Int.reduceLE, Int.reduceLT, Int.reduceEq, Int.cast_ofNat_Int, Int.reduceToNat, cList]
      refine (hg p.log hl).sc ?_
      simp only [↓vA, ↓vE, ↓vO, ↓vB, ↓vF, ↓vM, ↓vR, ↓vX, cvF_pc, vP, shb, shv, shvs, she_nil, she_cons, vC, vQ, Nat.reduceEqDiff, ↓reduceIte, eq_self, Nat.reduceAdd, Nat.reduceMul, Nat.reduceSub, Nat.reduceLeDiff, Nat.reduceLT, defd, cellsOf, wr, packR, Int.reduceLE, Int.reduceLT, Int.reduceEq, Int.cast_ofNat_Int, Int.reduceToNat, cList]
      simp [vZ, vP, Tr.get_set, frzs_self rI_clos, rI_clos, rI_e, fr_sl0]
end Go.Kc
end
section
/- Does a policy rise. Condition: the function's text is this. -/
namespace Go.Kc
variable {P : Program} {f : Nat}
/-- the first j of a row rise -/
def upTo (l : List Int) (j : Nat) : Prop := ∀ a b (ha : a < l.length) (hb : b < l.length), a < b → b < j → l[a] < l[b]
theorem upTo_one (l : List Int) : upTo l 1 := fun a b ha hb h1 h2 => by omega
theorem upTo_step {l : List Int} {j : Nat} (h : upTo l j) (hj : j < l.length) (h0 : 0 < j) (hlt : l[j - 1] < l[j]) : upTo l (j + 1) := by
  intro a b ha hb h1 h2
  rcases Nat.lt_or_ge b j with h3 | h3
  · exact h a b ha hb h1 h3
  · obtain rfl : b = j := by omega
    rcases Nat.lt_or_ge a (b - 1) with h4 | h4
    · have := h a (b - 1) ha (by omega) h4 (by omega); omega
    · obtain rfl : a = b - 1 := by omega
      exact hlt
theorem upTo_all {l : List Int} {j : Nat} (h : upTo l j) (hj : l.length ≤ j) : l.Pairwise (· < ·) := List.pairwise_iff_getElem.2 fun a b ha hb h1 => h a b ha hb h1 (by omega)
theorem not_up {l : List Int} {j : Nat} (hj : j < l.length) (h0 : 0 < j) (hlt : ¬ l[j - 1] < l[j]) : ¬ l.Pairwise (· < ·) := fun h => hlt (List.pairwise_iff_getElem.1 h (j - 1) j (by omega) hj (by omega))
def ir_vestibulelaw18_Rises : IFn := ⟨[.tmp 2],
  .seq (.reg false [⟨(some 1), .op (.box (.t 0)), none⟩,
    ⟨(some 2), .op (.mov (.c (.b false))), none⟩])
  (.seq (.seq (.reg false [⟨(some 3), .op (.mov (.c (.i .i64 1))), none⟩])
  (.blk 0 (.loop (.seq (.seq (.reg false [⟨(some 5), .op (.mov (.t 3)), none⟩,
    ⟨(some 6), .op (.fAddr 0 (.t 1)), none⟩,
    ⟨(some 7), .op (.load1 (.t 6)), none⟩,
    ⟨(some 8), .op (.len false (.t 7)), none⟩,
    ⟨(some 9), .op (.bin .lss (.t 5) (.t 8)), none⟩])
  (.cond (.t 9) (.skip) (.exit 0)))
  (.seq (.blk 1 (.seq (.reg true [⟨(some 12), .op (.fAddr 0 (.t 1)), none⟩,
    ⟨(some 13), .op (.load1 (.t 12)), none⟩,
    ⟨(some 14), .op (.mov (.t 3)), none⟩,
    ⟨(some 15), .op (.bin .sub (.t 14) (.c (.i .i64 1))), none⟩,
    ⟨(some 16), .op (.iAddrS 1 (.t 13) (.t 15)), none⟩,
    ⟨(some 17), .op (.load1 (.t 16)), none⟩,
    ⟨(some 18), .op (.fAddr 0 (.t 1)), none⟩,
    ⟨(some 19), .op (.load1 (.t 18)), none⟩,
    ⟨(some 20), .op (.mov (.t 3)), none⟩,
    ⟨(some 21), .op (.iAddrS 1 (.t 19) (.t 20)), none⟩,
    ⟨(some 22), .op (.load1 (.t 21)), none⟩,
    ⟨(some 23), .op (.bin .geq (.t 17) (.t 22)), none⟩])
  (.cond (.t 23) (.seq (.reg false [⟨(some 2), .op (.mov (.c (.b false))), none⟩])
  (.ret)) (.skip))))
  (.reg false [⟨(some 10), .op (.mov (.t 3)), none⟩,
    ⟨(some 11), .op (.bin .add (.t 10) (.c (.i .i64 1))), none⟩,
    ⟨(some 3), .op (.mov (.t 11)), none⟩]))))))
  (.seq (.seq (.reg false [⟨(some 4), .op (.mov (.c (.i .i64 1))), none⟩])
  (.blk 2 (.loop (.seq (.seq (.reg false [⟨(some 24), .op (.mov (.t 4)), none⟩,
    ⟨(some 25), .op (.fAddr 6 (.t 1)), none⟩,
    ⟨(some 26), .op (.load1 (.t 25)), none⟩,
    ⟨(some 27), .op (.len false (.t 26)), none⟩,
    ⟨(some 28), .op (.bin .lss (.t 24) (.t 27)), none⟩])
  (.cond (.t 28) (.skip) (.exit 2)))
  (.seq (.blk 3 (.seq (.reg true [⟨(some 31), .op (.fAddr 6 (.t 1)), none⟩,
    ⟨(some 32), .op (.load1 (.t 31)), none⟩,
    ⟨(some 33), .op (.mov (.t 4)), none⟩,
    ⟨(some 34), .op (.bin .sub (.t 33) (.c (.i .i64 1))), none⟩,
    ⟨(some 35), .op (.iAddrS 1 (.t 32) (.t 34)), none⟩,
    ⟨(some 36), .op (.load1 (.t 35)), none⟩,
    ⟨(some 37), .op (.fAddr 6 (.t 1)), none⟩,
    ⟨(some 38), .op (.load1 (.t 37)), none⟩,
    ⟨(some 39), .op (.mov (.t 4)), none⟩,
    ⟨(some 40), .op (.iAddrS 1 (.t 38) (.t 39)), none⟩,
    ⟨(some 41), .op (.load1 (.t 40)), none⟩,
    ⟨(some 42), .op (.bin .geq (.t 36) (.t 41)), none⟩])
  (.cond (.t 42) (.seq (.reg false [⟨(some 2), .op (.mov (.c (.b false))), none⟩])
  (.ret)) (.skip))))
  (.reg false [⟨(some 29), .op (.mov (.t 4)), none⟩,
    ⟨(some 30), .op (.bin .add (.t 29) (.c (.i .i64 1))), none⟩,
    ⟨(some 4), .op (.mov (.t 30)), none⟩]))))))
  (.seq (.reg false [⟨(some 2), .op (.mov (.c (.b true))), none⟩])
  (.ret))))⟩
theorem rises_pure (hc : chkFn P f ir_vestibulelaw18_Rises = true) (p : Pol) (ha : p.arches.length ≤ 10000) (hf : p.fams.length ≤ 10000) : Pure P f [.agg (cPol p)] (.b (decide (Rises p))) := by
  refine Pure.mk hc rfl ?_
  simp only [ir_vestibulelaw18_Rises, cPol, argsT, H0, mkT, mkH, trL, List.length_cons, List.length_nil, Nat.reduceAdd, Nat.zero_add]
  simp only [↓vA, ↓vE, ↓vO, ↓vB, ↓vF, ↓vM, ↓vR, ↓vX, cvF_pc, vP, shb, shv, shvs, she_nil, she_cons, vC, vQ, Nat.reduceEqDiff, ↓reduceIte, eq_self, Nat.reduceAdd, Nat.reduceMul, Nat.reduceSub, Nat.reduceLeDiff, Nat.reduceLT, defd, cellsOf, wr, packR, Int.reduceLE, Int.reduceLT, Int.reduceEq, Int.cast_ofNat_Int, Int.reduceToNat]
  refine SL.loop (α := Nat) (fun j => [(1, .ptr 0 0), (2, .b false), (3, .i .i64 j)]) (fun _ => [.cells 0 true false (cPol p)]) (fun j => 0 < j ∧ upTo p.arches j) (fun j => p.arches.length - j) 1 [0] ?_ ?_ ?_ rfl ?_ ?_
  · simp [vW, bw_map, mapAt_map, mapClo_it, mapClo_nil, mapClo_cons, vP, vZ, Tr.get_set]
  · simp [vW, bw_map, mapAt_map, mapClo_it, mapClo_nil, mapClo_cons, vP, vZ, Tr.get_set, cPol]
  · simp
  · exact ⟨by decide, upTo_one _⟩
  rintro j ⟨hj, hI⟩ G ih
  simp only [argsT, H0, mkT, mkH, trL, List.length_cons, List.length_nil, Nat.reduceAdd, Nat.zero_add, cPol]
  by_cases hlt : j < p.arches.length
  · have hx : p.arches[j]? = some p.arches[j] := List.getElem?_eq_getElem hlt
    have hp : j - 1 < p.arches.length := by omega
    have hy : p.arches[j - 1]? = some p.arches[j - 1] := List.getElem?_eq_getElem hp
    have hw : IntKind.wrap .i64 ((j : Int) + 1) = ((j + 1 : Nat) : Int) := by rw [wrap64 (by omega) (by omega)]; omega
    have hw2 : IntKind.wrap .i64 ((j : Int) - 1) = ((j - 1 : Nat) : Int) := by rw [wrap64 (by omega) (by omega)]; omega
    simp only [↓vA, ↓vE, ↓vO, ↓vB, ↓vF, ↓vM, ↓vR, ↓vX, cvF_pc, vP, shb, shv, shvs, she_nil, she_cons, vC, vQ, Nat.reduceEqDiff, ↓reduceIte, eq_self, Nat.reduceAdd, Nat.reduceMul, Nat.reduceSub, Nat.reduceLeDiff, Nat.reduceLT, defd, cellsOf, wr, packR, Int.reduceLE, Int.reduceLT, Int.reduceEq, Int.cast_ofNat_Int, Int.reduceToNat, hlt]
    refine VD_pc ?_
    by_cases hl : p.arches[j - 1] < p.arches[j]
    · have hl' : ¬ p.arches[j] ≤ p.arches[j - 1] := by omega
      simp only [↓vA, ↓vE, ↓vO, ↓vB, ↓vF, ↓vM, ↓vR, ↓vX, cvF_pc, vP, shb, shv, shvs, she_nil, she_cons, vC, vQ, Nat.reduceEqDiff, ↓reduceIte, eq_self, Nat.reduceAdd, Nat.reduceMul, Nat.reduceSub, Nat.reduceLeDiff, Nat.reduceLT, defd, cellsOf, wr, packR, Int.reduceLE, Int.reduceLT, Int.reduceEq, Int.cast_ofNat_Int, Int.reduceToNat, hlt, hw, hw2, hp, Nat.mul_one, rI_get, hx, hy, Option.map_some, hl']
      refine ih (j + 1) ⟨by omega, upTo_step hI hlt hj hl⟩ (by omega) _ _ (Wk.mk _ _ [0] ?_ ?_ ?_ rfl)
      · simp [vW, bw_map, mapAt_map, mapClo_it, mapClo_nil, mapClo_cons, vP, vZ, Tr.get_set]
      · simp [vW, bw_map, mapAt_map, mapClo_it, mapClo_nil, mapClo_cons, vP, vZ, Tr.get_set, cPol]
      · simp
    · have hl' : p.arches[j] ≤ p.arches[j - 1] := by omega
      simp only [↓vA, ↓vE, ↓vO, ↓vB, ↓vF, ↓vM, ↓vR, ↓vX, cvF_pc, vP, shb, shv, shvs, she_nil, she_cons, vC, vQ, Nat.reduceEqDiff, ↓reduceIte, eq_self, Nat.reduceAdd, Nat.reduceMul, Nat.reduceSub, Nat.reduceLeDiff, Nat.reduceLT, defd, cellsOf, wr, packR, Int.reduceLE, Int.reduceLT, Int.reduceEq, Int.cast_ofNat_Int, Int.reduceToNat, hlt, hw, hw2, hp, Nat.mul_one, rI_get, hx, hy, Option.map_some, hl']
      have hn : ¬ Rises p := fun h => not_up hlt hj hl h.1
      simp [vZ, hn]
  have hA := upTo_all hI (by omega)
  simp only [↓vA, ↓vE, ↓vO, ↓vB, ↓vF, ↓vM, ↓vR, ↓vX, cvF_pc, vP, shb, shv, shvs, she_nil, she_cons, vC, vQ, Nat.reduceEqDiff, ↓reduceIte, eq_self, Nat.reduceAdd, Nat.reduceMul, Nat.reduceSub, Nat.reduceLeDiff, Nat.reduceLT, defd, cellsOf, wr, packR, Int.reduceLE, Int.reduceLT, Int.reduceEq, Int.cast_ofNat_Int, Int.reduceToNat, hlt]
  refine SL.loop (α := Nat) (fun j => [(1, .ptr 0 0), (2, .b false), (4, .i .i64 j)]) (fun _ => [.cells 0 true false (cPol p)]) (fun j => 0 < j ∧ upTo p.fams j) (fun j => p.fams.length - j) 1 [0] ?_ ?_ ?_ rfl ?_ ?_
  · simp [vW, bw_map, mapAt_map, mapClo_it, mapClo_nil, mapClo_cons, vP, vZ, Tr.get_set]
  · simp [vW, bw_map, mapAt_map, mapClo_it, mapClo_nil, mapClo_cons, vP, vZ, Tr.get_set, cPol]
  · simp
  · exact ⟨by decide, upTo_one _⟩
  clear hI hj hlt ih
  rintro j ⟨hj, hI⟩ G ih
  simp only [argsT, H0, mkT, mkH, trL, List.length_cons, List.length_nil, Nat.reduceAdd, Nat.zero_add, cPol]
  by_cases hlt : j < p.fams.length
  · have hx : p.fams[j]? = some p.fams[j] := List.getElem?_eq_getElem hlt
    have hp : j - 1 < p.fams.length := by omega
    have hy : p.fams[j - 1]? = some p.fams[j - 1] := List.getElem?_eq_getElem hp
    have hw : IntKind.wrap .i64 ((j : Int) + 1) = ((j + 1 : Nat) : Int) := by rw [wrap64 (by omega) (by omega)]; omega
    have hw2 : IntKind.wrap .i64 ((j : Int) - 1) = ((j - 1 : Nat) : Int) := by rw [wrap64 (by omega) (by omega)]; omega
    simp only [↓vA, ↓vE, ↓vO, ↓vB, ↓vF, ↓vM, ↓vR, ↓vX, cvF_pc, vP, shb, shv, shvs, she_nil, she_cons, vC, vQ, Nat.reduceEqDiff, ↓reduceIte, eq_self, Nat.reduceAdd, Nat.reduceMul, Nat.reduceSub, Nat.reduceLeDiff, Nat.reduceLT, defd, cellsOf, wr, packR, Int.reduceLE, Int.reduceLT, Int.reduceEq, Int.cast_ofNat_Int, Int.reduceToNat, hlt]
    refine VD_pc ?_
    by_cases hl : p.fams[j - 1] < p.fams[j]
    · have hl' : ¬ p.fams[j] ≤ p.fams[j - 1] := by omega
      simp only [↓vA, ↓vE, ↓vO, ↓vB, ↓vF, ↓vM, ↓vR, ↓vX, cvF_pc, vP, shb, shv, shvs, she_nil, she_cons, vC, vQ, Nat.reduceEqDiff, ↓reduceIte, eq_self, Nat.reduceAdd, Nat.reduceMul, Nat.reduceSub, Nat.reduceLeDiff, Nat.reduceLT, defd, cellsOf, wr, packR, Int.reduceLE, Int.reduceLT, Int.reduceEq, Int.cast_ofNat_Int, Int.reduceToNat, hlt, hw, hw2, hp, Nat.mul_one, rI_get, hx, hy, Option.map_some, hl']
      refine ih (j + 1) ⟨by omega, upTo_step hI hlt hj hl⟩ (by omega) _ _ (Wk.mk _ _ [0] ?_ ?_ ?_ rfl)
      · simp [vW, bw_map, mapAt_map, mapClo_it, mapClo_nil, mapClo_cons, vP, vZ, Tr.get_set]
      · simp [vW, bw_map, mapAt_map, mapClo_it, mapClo_nil, mapClo_cons, vP, vZ, Tr.get_set, cPol]
      · simp
    · have hl' : p.fams[j] ≤ p.fams[j - 1] := by omega
      simp only [↓vA, ↓vE, ↓vO, ↓vB, ↓vF, ↓vM, ↓vR, ↓vX, cvF_pc, vP, shb, shv, shvs, she_nil, she_cons, vC, vQ, Nat.reduceEqDiff, ↓reduceIte, eq_self, Nat.reduceAdd, Nat.reduceMul, Nat.reduceSub, Nat.reduceLeDiff, Nat.reduceLT, defd, cellsOf, wr, packR, Int.reduceLE, Int.reduceLT, Int.reduceEq, Int.cast_ofNat_Int, Int.reduceToNat, hlt, hw, hw2, hp, Nat.mul_one, rI_get, hx, hy, Option.map_some, hl']
      have hn : ¬ Rises p := fun h => not_up hlt hj hl h.2
      simp [vZ, hn]
  have hn : Rises p := ⟨hA, upTo_all hI (by omega)⟩
  simp only [↓vA, ↓vE, ↓vO, ↓vB, ↓vF, ↓vM, ↓vR, ↓vX, cvF_pc, vP, shb, shv, shvs, she_nil, she_cons, vC, vQ, Nat.reduceEqDiff, ↓reduceIte, eq_self, Nat.reduceAdd, Nat.reduceMul, Nat.reduceSub, Nat.reduceLeDiff, Nat.reduceLT, defd, cellsOf, wr, packR, Int.reduceLE, Int.reduceLT, Int.reduceEq, Int.cast_ofNat_Int, Int.reduceToNat, hlt, vZ, hn]
end Go.Kc
end
section
/- The law RestrictOwn: whatever the policy and the assignment, true comes back. Condition: the functions' texts are these. -/
namespace Go.Kc
variable {P : Program} {f : Nat}
theorem great_ok {p : Pol} {a : Asg} (h : great17 p a = false) : p.arches.length ≤ 20 ∧ p.fams.length ≤ 20 ∧ PolOk p ∧ a.val.length ≤ 1000 := by
  simp only [great17, great16, Bool.or_eq_false_iff, decide_eq_false_iff_not] at h
  obtain ⟨⟨⟨⟨⟨⟨h1, h2⟩, h3⟩, h4⟩, h5⟩, h6⟩, h7⟩ := h
  exact ⟨by omega, by omega, ⟨by omega, by omega, by omega, by omega⟩, by omega⟩
theorem setM_lens (p : Pol) (k v : List UInt8) : (setM p k v).1.arches.length ≤ p.arches.length + v.length ∧ (setM p k v).1.fams.length ≤ p.fams.length + v.length := by
  have hw := words_len v
  have ht := turnP_len v
  have hw2 := words_len (turnP v).1
  unfold setM
  repeat' split
  · unfold m_arches
    have := (archStep_len (words v) (if words v = [] then [] else p.arches, [])).1
    have h0 : (if words v = [] then [] else p.arches).length ≤ p.arches.length := by split <;> simp
    dsimp only at this ⊢
    omega
  · unfold m_families
    repeat' split
    · simp
    · simp
    · have := (famStep_len ((turnP v).2 == decide (modeF p.fmode (turnP v).2 = 2)) (words (turnP v).1) (p.fams, [])).1
      dsimp only at this ⊢
      omega
  · obtain ⟨n, e⟩ := m_ns_same p v
    rw [e]; dsimp only; omega
  · unfold m_we; dsimp only; omega
  · unfold m_pe; dsimp only; omega
  · unfold m_rt; dsimp only; omega
  · unfold m_np; dsimp only; omega
  · dsimp only; omega
theorem setM_own (p : Pol) (k v : List UInt8) : ∃ q ns, setM p k v = (q, ns) ∧ q.filter = p.filter ∧ q.deny = p.deny ∧ q.log = p.log ∧ (Rises p → Rises q) ∧ (k ≠ kArch → q.arches = p.arches) ∧ (k ≠ kFam → q.fams = p.fams ∧ q.fmode = p.fmode) ∧
    (k ≠ kSp → q.spaces = p.spaces) ∧ (k ≠ kWe → q.we = p.we) ∧ (k ≠ kPe → q.pe = p.pe) ∧ (k ≠ kRt → q.rt = p.rt) ∧ (k ≠ kNp → q.np = p.np) ∧ (keyM k = false → ns = []) ∧ errs ns ∧ ns.length ≤ v.length + 1 ∧ q.arches.length ≤ p.arches.length + v.length ∧ q.fams.length ≤ p.fams.length + v.length := by
  obtain ⟨xa, xl, xm, xs, xw, xe, xr, xn, e0, e1, e2, e3, e4, e5, e6, e7, e8, e9⟩ := setM_same p k v
  have e11 := setM_lens p k v
  refine ⟨(setM p k v).1, (setM p k v).2, rfl, ?_⟩
  rw [e0] at e11 ⊢
  exact ⟨rfl, rfl, rfl, e1, e2, e3, e4, e5, e6, e7, e8, e9, setM_errs p k v, setM_notes p k v, e11.1, e11.2⟩
def ir_vestibulelaw18_RestrictOwn_c10 (f_vestibulelaw17_Great f_vestibulelaw18_Rises f_vestibulelaw18_awake f_vestibulelaw17_Copied f_restrict_Set f_restrict_Key : Nat) : ICode := .seq (.reg false [⟨(some 249), .op (.fAddr 3 (.t 3)), none⟩,
    ⟨(some 250), .op (.load1 (.t 249)), none⟩,
    ⟨(some 251), .callF f_restrict_Key [(.t 250)], none⟩,
    ⟨(some 252), .op (.mov (.t 251)), none⟩,
    ⟨(some 253), .op (.mov (.t 6)), (some (252, false))⟩,
    ⟨(some 254), .op (.len false (.t 253)), (some (252, false))⟩,
    ⟨(some 255), .op (.bin .eql (.t 254) (.c (.i .i64 0))), (some (252, false))⟩,
    ⟨(some 256), .op (.pick (.t 252) (.c (.b true)) (.t 255)), none⟩,
    ⟨(some 257), .op (.mov (.t 256)), none⟩,
    ⟨(some 258), .callF f_vestibulelaw18_awake [], (some (257, true))⟩,
    ⟨(some 259), .op (.pick (.t 257) (.t 258) (.c (.b false))), none⟩,
    ⟨(some 4), .op (.mov (.t 259)), none⟩])
  (.ret)
def ir_vestibulelaw18_RestrictOwn_c9 (f_vestibulelaw17_Great f_vestibulelaw18_Rises f_vestibulelaw18_awake f_vestibulelaw17_Copied f_restrict_Set f_restrict_Key : Nat) : ICode := .seq (.seq (.reg false [⟨(some 11), .op (.mov (.c (.i .i64 0))), none⟩])
  (.blk 4 (.loop (.seq (.seq (.reg false [⟨(some 217), .op (.mov (.t 11)), none⟩,
    ⟨(some 218), .op (.mov (.t 6)), none⟩,
    ⟨(some 219), .op (.len false (.t 218)), none⟩,
    ⟨(some 220), .op (.bin .lss (.t 217) (.t 219)), none⟩])
  (.cond (.t 220) (.skip) (.exit 4)))
  (.seq (.blk 5 (.seq (.reg true [⟨(some 223), .op (.mov (.t 6)), none⟩,
    ⟨(some 224), .op (.mov (.t 11)), none⟩,
    ⟨(some 225), .op (.iAddrS 4 (.t 223) (.t 224)), none⟩,
    ⟨(some 226), .op (.fAddr 0 (.t 225)), none⟩,
    ⟨(some 227), .op (.load1 (.t 226)), none⟩,
    ⟨(some 228), .op (.fAddr 0 (.t 3)), none⟩,
    ⟨(some 229), .op (.load1 (.t 228)), none⟩,
    ⟨(some 230), .op (.bin .neq (.t 227) (.t 229)), none⟩,
    ⟨(some 231), .op (.mov (.t 230)), none⟩,
    ⟨(some 232), .op (.mov (.t 6)), (some (231, false))⟩,
    ⟨(some 233), .op (.mov (.t 11)), (some (231, false))⟩,
    ⟨(some 234), .op (.iAddrS 4 (.t 232) (.t 233)), (some (231, false))⟩,
    ⟨(some 235), .op (.fAddr 1 (.t 234)), (some (231, false))⟩,
    ⟨(some 236), .op (.load1 (.t 235)), (some (231, false))⟩,
    ⟨(some 237), .op (.fAddr 1 (.t 3)), (some (231, false))⟩,
    ⟨(some 238), .op (.load1 (.t 237)), (some (231, false))⟩,
    ⟨(some 239), .op (.bin .neq (.t 236) (.t 238)), (some (231, false))⟩,
    ⟨(some 240), .op (.pick (.t 231) (.c (.b true)) (.t 239)), none⟩,
    ⟨(some 241), .op (.mov (.t 240)), none⟩,
    ⟨(some 242), .op (.mov (.t 6)), (some (241, false))⟩,
    ⟨(some 243), .op (.mov (.t 11)), (some (241, false))⟩,
    ⟨(some 244), .op (.iAddrS 4 (.t 242) (.t 243)), (some (241, false))⟩,
    ⟨(some 245), .op (.fAddr 2 (.t 244)), (some (241, false))⟩,
    ⟨(some 246), .op (.load1 (.t 245)), (some (241, false))⟩,
    ⟨(some 247), .op (.bin .eql (.t 246) (.c (.i .i64 0))), (some (241, false))⟩,
    ⟨(some 248), .op (.pick (.t 241) (.c (.b true)) (.t 247)), none⟩])
  (.cond (.t 248) (.seq (.reg false [⟨(some 4), .op (.mov (.c (.b false))), none⟩])
  (.ret)) (.skip))))
  (.reg false [⟨(some 221), .op (.mov (.t 11)), none⟩,
    ⟨(some 222), .op (.bin .add (.t 221) (.c (.i .i64 1))), none⟩,
    ⟨(some 11), .op (.mov (.t 222)), none⟩]))))))
  (.cut (ir_vestibulelaw18_RestrictOwn_c10 f_vestibulelaw17_Great f_vestibulelaw18_Rises f_vestibulelaw18_awake f_vestibulelaw17_Copied f_restrict_Set f_restrict_Key))
def ir_vestibulelaw18_RestrictOwn_c8 (f_vestibulelaw17_Great f_vestibulelaw18_Rises f_vestibulelaw18_awake f_vestibulelaw17_Copied f_restrict_Set f_restrict_Key : Nat) : ICode := .seq (.seq (.reg false [⟨(some 141), .op (.fAddr 3 (.t 3)), none⟩,
    ⟨(some 142), .op (.load1 (.t 141)), none⟩,
    ⟨(some 143), .op (.bin .neq (.t 142) (.c (.s [83, 121, 115, 116, 101, 109, 67, 97, 108, 108, 65, 114, 99, 104, 105, 116, 101, 99, 116, 117, 114, 101, 115]))), none⟩,
    ⟨(some 144), .op (.mov (.t 143)), none⟩,
    ⟨(some 145), .op (.mov (.t 7)), (some (144, true))⟩,
    ⟨(some 146), .op (.un .not (.t 145)), (some (144, true))⟩,
    ⟨(some 147), .op (.pick (.t 144) (.t 146) (.c (.b false))), none⟩,
    ⟨(some 148), .op (.mov (.t 147)), none⟩,
    ⟨(some 149), .op (.fAddr 3 (.t 3)), (some (148, false))⟩,
    ⟨(some 150), .op (.load1 (.t 149)), (some (148, false))⟩,
    ⟨(some 151), .op (.bin .neq (.t 150) (.c (.s [82, 101, 115, 116, 114, 105, 99, 116, 65, 100, 100, 114, 101, 115, 115, 70, 97, 109, 105, 108, 105, 101, 115]))), (some (148, false))⟩,
    ⟨(some 152), .op (.mov (.t 151)), (some (148, false))⟩,
    ⟨(some 153), .op (.mov (.t 9)), (some (152, true))⟩,
    ⟨(some 154), .op (.un .not (.t 153)), (some (152, true))⟩,
    ⟨(some 155), .op (.pick (.t 152) (.t 154) (.c (.b false))), (some (148, false))⟩,
    ⟨(some 156), .op (.pick (.t 148) (.c (.b true)) (.t 155)), none⟩,
    ⟨(some 157), .op (.mov (.t 156)), none⟩,
    ⟨(some 158), .op (.fAddr 3 (.t 3)), (some (157, false))⟩,
    ⟨(some 159), .op (.load1 (.t 158)), (some (157, false))⟩,
    ⟨(some 160), .op (.bin .neq (.t 159) (.c (.s [82, 101, 115, 116, 114, 105, 99, 116, 78, 97, 109, 101, 115, 112, 97, 99, 101, 115]))), (some (157, false))⟩,
    ⟨(some 161), .op (.mov (.t 160)), (some (157, false))⟩,
    ⟨(some 162), .op (.fAddr 8 (.t 2)), (some (161, true))⟩,
    ⟨(some 163), .op (.load1 (.t 162)), (some (161, true))⟩,
    ⟨(some 164), .op (.fAddr 8 (.t 5)), (some (161, true))⟩,
    ⟨(some 165), .op (.load1 (.t 164)), (some (161, true))⟩,
    ⟨(some 166), .op (.bin .neq (.t 163) (.t 165)), (some (161, true))⟩,
    ⟨(some 167), .op (.pick (.t 161) (.t 166) (.c (.b false))), (some (157, false))⟩,
    ⟨(some 168), .op (.pick (.t 157) (.c (.b true)) (.t 167)), none⟩,
    ⟨(some 169), .op (.mov (.t 168)), none⟩,
    ⟨(some 170), .op (.fAddr 3 (.t 3)), (some (169, false))⟩,
    ⟨(some 171), .op (.load1 (.t 170)), (some (169, false))⟩,
    ⟨(some 172), .op (.bin .neq (.t 171) (.c (.s [77, 101, 109, 111, 114, 121, 68, 101, 110, 121, 87, 114, 105, 116, 101, 69, 120, 101, 99, 117, 116, 101]))), (some (169, false))⟩,
    ⟨(some 173), .op (.mov (.t 172)), (some (169, false))⟩,
    ⟨(some 174), .op (.fAddr 9 (.t 2)), (some (173, true))⟩,
    ⟨(some 175), .op (.load1 (.t 174)), (some (173, true))⟩,
    ⟨(some 176), .op (.fAddr 9 (.t 5)), (some (173, true))⟩,
    ⟨(some 177), .op (.load1 (.t 176)), (some (173, true))⟩,
    ⟨(some 178), .op (.eqB true (.t 175) (.t 177)), (some (173, true))⟩,
    ⟨(some 179), .op (.pick (.t 173) (.t 178) (.c (.b false))), (some (169, false))⟩,
    ⟨(some 180), .op (.pick (.t 169) (.c (.b true)) (.t 179)), none⟩,
    ⟨(some 181), .op (.mov (.t 180)), none⟩,
    ⟨(some 182), .op (.fAddr 3 (.t 3)), (some (181, false))⟩,
    ⟨(some 183), .op (.load1 (.t 182)), (some (181, false))⟩,
    ⟨(some 184), .op (.bin .neq (.t 183) (.c (.s [76, 111, 99, 107, 80, 101, 114, 115, 111, 110, 97, 108, 105, 116, 121]))), (some (181, false))⟩,
    ⟨(some 185), .op (.mov (.t 184)), (some (181, false))⟩,
    ⟨(some 186), .op (.fAddr 10 (.t 2)), (some (185, true))⟩,
    ⟨(some 187), .op (.load1 (.t 186)), (some (185, true))⟩,
    ⟨(some 188), .op (.fAddr 10 (.t 5)), (some (185, true))⟩,
    ⟨(some 189), .op (.load1 (.t 188)), (some (185, true))⟩,
    ⟨(some 190), .op (.eqB true (.t 187) (.t 189)), (some (185, true))⟩,
    ⟨(some 191), .op (.pick (.t 185) (.t 190) (.c (.b false))), (some (181, false))⟩,
    ⟨(some 192), .op (.pick (.t 181) (.c (.b true)) (.t 191)), none⟩,
    ⟨(some 193), .op (.mov (.t 192)), none⟩,
    ⟨(some 194), .op (.fAddr 3 (.t 3)), (some (193, false))⟩,
    ⟨(some 195), .op (.load1 (.t 194)), (some (193, false))⟩,
    ⟨(some 196), .op (.bin .neq (.t 195) (.c (.s [82, 101, 115, 116, 114, 105, 99, 116, 82, 101, 97, 108, 116, 105, 109, 101]))), (some (193, false))⟩,
    ⟨(some 197), .op (.mov (.t 196)), (some (193, false))⟩,
    ⟨(some 198), .op (.fAddr 11 (.t 2)), (some (197, true))⟩,
    ⟨(some 199), .op (.load1 (.t 198)), (some (197, true))⟩,
    ⟨(some 200), .op (.fAddr 11 (.t 5)), (some (197, true))⟩,
    ⟨(some 201), .op (.load1 (.t 200)), (some (197, true))⟩,
    ⟨(some 202), .op (.eqB true (.t 199) (.t 201)), (some (197, true))⟩,
    ⟨(some 203), .op (.pick (.t 197) (.t 202) (.c (.b false))), (some (193, false))⟩,
    ⟨(some 204), .op (.pick (.t 193) (.c (.b true)) (.t 203)), none⟩,
    ⟨(some 205), .op (.mov (.t 204)), none⟩,
    ⟨(some 206), .op (.fAddr 3 (.t 3)), (some (205, false))⟩,
    ⟨(some 207), .op (.load1 (.t 206)), (some (205, false))⟩,
    ⟨(some 208), .op (.bin .neq (.t 207) (.c (.s [78, 111, 78, 101, 119, 80, 114, 105, 118, 105, 108, 101, 103, 101, 115]))), (some (205, false))⟩,
    ⟨(some 209), .op (.mov (.t 208)), (some (205, false))⟩,
    ⟨(some 210), .op (.fAddr 12 (.t 2)), (some (209, true))⟩,
    ⟨(some 211), .op (.load1 (.t 210)), (some (209, true))⟩,
    ⟨(some 212), .op (.fAddr 12 (.t 5)), (some (209, true))⟩,
    ⟨(some 213), .op (.load1 (.t 212)), (some (209, true))⟩,
    ⟨(some 214), .op (.eqB true (.t 211) (.t 213)), (some (209, true))⟩,
    ⟨(some 215), .op (.pick (.t 209) (.t 214) (.c (.b false))), (some (205, false))⟩,
    ⟨(some 216), .op (.pick (.t 205) (.c (.b true)) (.t 215)), none⟩])
  (.cond (.t 216) (.seq (.reg false [⟨(some 4), .op (.mov (.c (.b false))), none⟩])
  (.ret)) (.skip)))
  (.cut (ir_vestibulelaw18_RestrictOwn_c9 f_vestibulelaw17_Great f_vestibulelaw18_Rises f_vestibulelaw18_awake f_vestibulelaw17_Copied f_restrict_Set f_restrict_Key))
def ir_vestibulelaw18_RestrictOwn_c6 (f_vestibulelaw17_Great f_vestibulelaw18_Rises f_vestibulelaw18_awake f_vestibulelaw17_Copied f_restrict_Set f_restrict_Key : Nat) : ICode := .seq (.reg false [⟨(some 106), .op (.fAddr 6 (.t 2)), none⟩,
    ⟨(some 107), .op (.load1 (.t 106)), none⟩,
    ⟨(some 108), .op (.len false (.t 107)), none⟩,
    ⟨(some 109), .op (.fAddr 6 (.t 5)), none⟩,
    ⟨(some 110), .op (.load1 (.t 109)), none⟩,
    ⟨(some 111), .op (.len false (.t 110)), none⟩,
    ⟨(some 112), .op (.bin .eql (.t 108) (.t 111)), none⟩,
    ⟨(some 113), .op (.mov (.t 112)), none⟩,
    ⟨(some 114), .op (.fAddr 7 (.t 2)), (some (113, true))⟩,
    ⟨(some 115), .op (.load1 (.t 114)), (some (113, true))⟩,
    ⟨(some 116), .op (.fAddr 7 (.t 5)), (some (113, true))⟩,
    ⟨(some 117), .op (.load1 (.t 116)), (some (113, true))⟩,
    ⟨(some 118), .op (.bin .eql (.t 115) (.t 117)), (some (113, true))⟩,
    ⟨(some 119), .op (.pick (.t 113) (.t 118) (.c (.b false))), none⟩,
    ⟨(some 9), .op (.mov (.t 119)), none⟩])
  (.seq (.seq (.reg false [⟨(some 10), .op (.mov (.c (.i .i64 0))), none⟩])
  (.blk 2 (.loop (.seq (.seq (.reg false [⟨(some 120), .op (.mov (.t 10)), none⟩,
    ⟨(some 121), .op (.fAddr 6 (.t 2)), none⟩,
    ⟨(some 122), .op (.load1 (.t 121)), none⟩,
    ⟨(some 123), .op (.len false (.t 122)), none⟩,
    ⟨(some 124), .op (.bin .lss (.t 120) (.t 123)), none⟩,
    ⟨(some 125), .op (.mov (.t 124)), none⟩,
    ⟨(some 126), .op (.mov (.t 9)), (some (125, true))⟩,
    ⟨(some 127), .op (.pick (.t 125) (.t 126) (.c (.b false))), none⟩])
  (.cond (.t 127) (.skip) (.exit 2)))
  (.seq (.blk 3 (.reg true [⟨(some 130), .op (.fAddr 6 (.t 2)), none⟩,
    ⟨(some 131), .op (.load1 (.t 130)), none⟩,
    ⟨(some 132), .op (.mov (.t 10)), none⟩,
    ⟨(some 133), .op (.iAddrS 1 (.t 131) (.t 132)), none⟩,
    ⟨(some 134), .op (.load1 (.t 133)), none⟩,
    ⟨(some 135), .op (.fAddr 6 (.t 5)), none⟩,
    ⟨(some 136), .op (.load1 (.t 135)), none⟩,
    ⟨(some 137), .op (.mov (.t 10)), none⟩,
    ⟨(some 138), .op (.iAddrS 1 (.t 136) (.t 137)), none⟩,
    ⟨(some 139), .op (.load1 (.t 138)), none⟩,
    ⟨(some 140), .op (.bin .eql (.t 134) (.t 139)), none⟩,
    ⟨(some 9), .op (.mov (.t 140)), none⟩]))
  (.reg false [⟨(some 128), .op (.mov (.t 10)), none⟩,
    ⟨(some 129), .op (.bin .add (.t 128) (.c (.i .i64 1))), none⟩,
    ⟨(some 10), .op (.mov (.t 129)), none⟩]))))))
  (.cut (ir_vestibulelaw18_RestrictOwn_c8 f_vestibulelaw17_Great f_vestibulelaw18_Rises f_vestibulelaw18_awake f_vestibulelaw17_Copied f_restrict_Set f_restrict_Key)))
def ir_vestibulelaw18_RestrictOwn_c4 (f_vestibulelaw17_Great f_vestibulelaw18_Rises f_vestibulelaw18_awake f_vestibulelaw17_Copied f_restrict_Set f_restrict_Key : Nat) : ICode := .seq (.reg false [⟨(some 78), .op (.fAddr 0 (.t 2)), none⟩,
    ⟨(some 79), .op (.load1 (.t 78)), none⟩,
    ⟨(some 80), .op (.len false (.t 79)), none⟩,
    ⟨(some 81), .op (.fAddr 0 (.t 5)), none⟩,
    ⟨(some 82), .op (.load1 (.t 81)), none⟩,
    ⟨(some 83), .op (.len false (.t 82)), none⟩,
    ⟨(some 84), .op (.bin .eql (.t 80) (.t 83)), none⟩,
    ⟨(some 7), .op (.mov (.t 84)), none⟩])
  (.seq (.seq (.reg false [⟨(some 8), .op (.mov (.c (.i .i64 0))), none⟩])
  (.blk 0 (.loop (.seq (.seq (.reg false [⟨(some 85), .op (.mov (.t 8)), none⟩,
    ⟨(some 86), .op (.fAddr 0 (.t 2)), none⟩,
    ⟨(some 87), .op (.load1 (.t 86)), none⟩,
    ⟨(some 88), .op (.len false (.t 87)), none⟩,
    ⟨(some 89), .op (.bin .lss (.t 85) (.t 88)), none⟩,
    ⟨(some 90), .op (.mov (.t 89)), none⟩,
    ⟨(some 91), .op (.mov (.t 7)), (some (90, true))⟩,
    ⟨(some 92), .op (.pick (.t 90) (.t 91) (.c (.b false))), none⟩])
  (.cond (.t 92) (.skip) (.exit 0)))
  (.seq (.blk 1 (.reg true [⟨(some 95), .op (.fAddr 0 (.t 2)), none⟩,
    ⟨(some 96), .op (.load1 (.t 95)), none⟩,
    ⟨(some 97), .op (.mov (.t 8)), none⟩,
    ⟨(some 98), .op (.iAddrS 1 (.t 96) (.t 97)), none⟩,
    ⟨(some 99), .op (.load1 (.t 98)), none⟩,
    ⟨(some 100), .op (.fAddr 0 (.t 5)), none⟩,
    ⟨(some 101), .op (.load1 (.t 100)), none⟩,
    ⟨(some 102), .op (.mov (.t 8)), none⟩,
    ⟨(some 103), .op (.iAddrS 1 (.t 101) (.t 102)), none⟩,
    ⟨(some 104), .op (.load1 (.t 103)), none⟩,
    ⟨(some 105), .op (.bin .eql (.t 99) (.t 104)), none⟩,
    ⟨(some 7), .op (.mov (.t 105)), none⟩]))
  (.reg false [⟨(some 93), .op (.mov (.t 8)), none⟩,
    ⟨(some 94), .op (.bin .add (.t 93) (.c (.i .i64 1))), none⟩,
    ⟨(some 8), .op (.mov (.t 94)), none⟩]))))))
  (.cut (ir_vestibulelaw18_RestrictOwn_c6 f_vestibulelaw17_Great f_vestibulelaw18_Rises f_vestibulelaw18_awake f_vestibulelaw17_Copied f_restrict_Set f_restrict_Key)))
def ir_vestibulelaw18_RestrictOwn_c3 (f_vestibulelaw17_Great f_vestibulelaw18_Rises f_vestibulelaw18_awake f_vestibulelaw17_Copied f_restrict_Set f_restrict_Key : Nat) : ICode := .seq (.seq (.reg false [⟨(some 28), .op (.loadN 13 (.t 5)), none⟩,
    ⟨(some 29), .callF f_vestibulelaw18_Rises [(.t 28)], none⟩,
    ⟨(some 30), .op (.un .not (.t 29)), none⟩,
    ⟨(some 31), .op (.mov (.t 30)), none⟩,
    ⟨(some 32), .op (.fAddr 3 (.t 5)), (some (31, false))⟩,
    ⟨(some 33), .op (.load1 (.t 32)), (some (31, false))⟩,
    ⟨(some 34), .op (.fAddr 3 (.t 2)), (some (31, false))⟩,
    ⟨(some 35), .op (.load1 (.t 34)), (some (31, false))⟩,
    ⟨(some 36), .op (.bin .neq (.t 33) (.t 35)), (some (31, false))⟩,
    ⟨(some 37), .op (.pick (.t 31) (.c (.b true)) (.t 36)), none⟩,
    ⟨(some 38), .op (.mov (.t 37)), none⟩,
    ⟨(some 39), .op (.fAddr 1 (.t 5)), (some (38, false))⟩,
    ⟨(some 40), .op (.fAddr 0 (.t 39)), (some (38, false))⟩,
    ⟨(some 41), .op (.load1 (.t 40)), (some (38, false))⟩,
    ⟨(some 42), .op (.fAddr 1 (.t 2)), (some (38, false))⟩,
    ⟨(some 43), .op (.fAddr 0 (.t 42)), (some (38, false))⟩,
    ⟨(some 44), .op (.load1 (.t 43)), (some (38, false))⟩,
    ⟨(some 45), .op (.bin .neq (.t 41) (.t 44)), (some (38, false))⟩,
    ⟨(some 46), .op (.pick (.t 38) (.c (.b true)) (.t 45)), none⟩,
    ⟨(some 47), .op (.mov (.t 46)), none⟩,
    ⟨(some 48), .op (.fAddr 1 (.t 5)), (some (47, false))⟩,
    ⟨(some 49), .op (.fAddr 1 (.t 48)), (some (47, false))⟩,
    ⟨(some 50), .op (.load1 (.t 49)), (some (47, false))⟩,
    ⟨(some 51), .op (.len false (.t 50)), (some (47, false))⟩,
    ⟨(some 52), .op (.fAddr 1 (.t 2)), (some (47, false))⟩,
    ⟨(some 53), .op (.fAddr 1 (.t 52)), (some (47, false))⟩,
    ⟨(some 54), .op (.load1 (.t 53)), (some (47, false))⟩,
    ⟨(some 55), .op (.len false (.t 54)), (some (47, false))⟩,
    ⟨(some 56), .op (.bin .neq (.t 51) (.t 55)), (some (47, false))⟩,
    ⟨(some 57), .op (.pick (.t 47) (.c (.b true)) (.t 56)), none⟩,
    ⟨(some 58), .op (.mov (.t 57)), none⟩,
    ⟨(some 59), .op (.fAddr 4 (.t 5)), (some (58, false))⟩,
    ⟨(some 60), .op (.fAddr 0 (.t 59)), (some (58, false))⟩,
    ⟨(some 61), .op (.load1 (.t 60)), (some (58, false))⟩,
    ⟨(some 62), .op (.fAddr 4 (.t 2)), (some (58, false))⟩,
    ⟨(some 63), .op (.fAddr 0 (.t 62)), (some (58, false))⟩,
    ⟨(some 64), .op (.load1 (.t 63)), (some (58, false))⟩,
    ⟨(some 65), .op (.bin .neq (.t 61) (.t 64)), (some (58, false))⟩,
    ⟨(some 66), .op (.pick (.t 58) (.c (.b true)) (.t 65)), none⟩,
    ⟨(some 67), .op (.mov (.t 66)), none⟩,
    ⟨(some 68), .op (.fAddr 4 (.t 5)), (some (67, false))⟩,
    ⟨(some 69), .op (.fAddr 1 (.t 68)), (some (67, false))⟩,
    ⟨(some 70), .op (.load1 (.t 69)), (some (67, false))⟩,
    ⟨(some 71), .op (.len false (.t 70)), (some (67, false))⟩,
    ⟨(some 72), .op (.fAddr 4 (.t 2)), (some (67, false))⟩,
    ⟨(some 73), .op (.fAddr 1 (.t 72)), (some (67, false))⟩,
    ⟨(some 74), .op (.load1 (.t 73)), (some (67, false))⟩,
    ⟨(some 75), .op (.len false (.t 74)), (some (67, false))⟩,
    ⟨(some 76), .op (.bin .neq (.t 71) (.t 75)), (some (67, false))⟩,
    ⟨(some 77), .op (.pick (.t 67) (.c (.b true)) (.t 76)), none⟩])
  (.cond (.t 77) (.seq (.reg false [⟨(some 4), .op (.mov (.c (.b false))), none⟩])
  (.ret)) (.skip)))
  (.cut (ir_vestibulelaw18_RestrictOwn_c4 f_vestibulelaw17_Great f_vestibulelaw18_Rises f_vestibulelaw18_awake f_vestibulelaw17_Copied f_restrict_Set f_restrict_Key))
def ir_vestibulelaw18_RestrictOwn (f_vestibulelaw17_Great f_vestibulelaw18_Rises f_vestibulelaw18_awake f_vestibulelaw17_Copied f_restrict_Set f_restrict_Key : Nat) : IFn := ⟨[.tmp 4],
  .seq (.reg false [⟨(some 2), .op (.box (.t 0)), none⟩,
    ⟨(some 3), .op (.box (.t 1)), none⟩,
    ⟨(some 4), .op (.mov (.c (.b false))), none⟩])
  (.seq (.seq (.reg false [⟨(some 12), .op (.loadN 13 (.t 2)), none⟩,
    ⟨(some 13), .op (.loadN 5 (.t 3)), none⟩,
    ⟨(some 14), .callF f_vestibulelaw17_Great [(.t 12), (.t 13)], none⟩,
    ⟨(some 15), .op (.mov (.t 14)), none⟩,
    ⟨(some 16), .op (.loadN 13 (.t 2)), (some (15, false))⟩,
    ⟨(some 17), .callF f_vestibulelaw18_Rises [(.t 16)], (some (15, false))⟩,
    ⟨(some 18), .op (.un .not (.t 17)), (some (15, false))⟩,
    ⟨(some 19), .op (.pick (.t 15) (.c (.b true)) (.t 18)), none⟩])
  (.cond (.t 19) (.seq (.reg false [⟨(some 20), .callF f_vestibulelaw18_awake [], none⟩,
    ⟨(some 4), .op (.mov (.t 20)), none⟩])
  (.ret)) (.skip)))
  (.seq (.reg true [⟨(some 22), .op (.loadN 13 (.t 2)), none⟩,
    ⟨(some 23), .callF f_vestibulelaw17_Copied [(.t 22)], none⟩,
    ⟨(some 24), .op (.loadN 5 (.t 3)), none⟩,
    ⟨(some 25), .callF f_restrict_Set [(.t 23), (.t 24)], none⟩,
    ⟨(some 21), .op (.mov (.t 25)), none⟩,
    ⟨(some 26), .op (.ext (.t 21) 0), none⟩,
    ⟨(some 27), .op (.ext (.t 21) 1), none⟩,
    ⟨(some 5), .op (.alloc [.nils, .i .u8 0, .nils, .i .u32 0, .i .u8 0, .nils, .nils, .i .u8 0, .i .u64 0, .b false, .b false, .b false, .b false]), none⟩,
    ⟨none, .op (.store 13 (.t 5) (.t 26)), none⟩,
    ⟨(some 6), .op (.mov (.t 27)), none⟩])
  (.cut (ir_vestibulelaw18_RestrictOwn_c3 f_vestibulelaw17_Great f_vestibulelaw18_Rises f_vestibulelaw18_awake f_vestibulelaw17_Copied f_restrict_Set f_restrict_Key))))⟩
def oB (p q : Pol) (a : Asg) : List Blk := [.cells 0 true false (cPol p), .cells 0 true false (cAsg a), .cells 0 true false (cPol q)]
theorem oB_len {p q : Pol} {a : Asg} : (oB p q a).length = 3 := rfl
theorem own_c10 {g1 g2 g3 g4 g5 g6 : Nat} (h3 : Pure P g3 [] (.b true)) (h6 : ∀ k, Pure P g6 [.s k] (.b (keyM k))) {p q : Pol} {a : Asg} {ns : List (Int × List UInt8)} (hl : ns.length ≤ 10000) (e9 : keyM a.key = false → ns = []) {t' : Tr AV} {h' : Hp}
    (hw : Wk 0 t' h' (mkT [(2, .ptr 0 0), (3, .ptr 1 0), (4, .b false), (5, .ptr 2 0), (6, .fz (ns.map (noteOf a)).length (rN (ns.map (noteOf a))))]) (mkH 0 (oB p q a))) : S P 0 (ir_vestibulelaw18_RestrictOwn_c10 g1 g2 g3 g4 g5 g6) (endX [.tmp 4] fun v' h' => Frz h' v' (.b true)) t' h' := by
  refine S.weak hw (V_sound ?_)
  simp only [ir_vestibulelaw18_RestrictOwn_c10, oB, cPol, cAsg, argsT, H0, mkT, mkH, trL, List.length_cons, List.length_nil, Nat.reduceAdd, Nat.zero_add]
  simp only [↓vA, ↓vE, ↓vO, ↓vB, ↓vF, ↓vM, ↓vR, ↓vX, cvF_pc, vP, shb, shv, shvs, she_nil, she_cons, vC, vQ, Nat.reduceEqDiff, ↓reduceIte, eq_self, Nat.reduceAdd, Nat.reduceMul, Nat.reduceSub, Nat.reduceLeDiff, Nat.reduceLT, defd, cellsOf, wr, packR, Int.reduceLE, Int.reduceLT, Int.reduceEq, Int.cast_ofNat_Int, Int.reduceToNat]
  refine (h6 a.key).sc ?_
  cases hk : keyM a.key with
  | true =>
    simp only [↓vA, ↓vE, ↓vO, ↓vB, ↓vF, ↓vM, ↓vR, ↓vX, cvF_pc, vP, shb, shv, shvs, she_nil, she_cons, vC, vQ, Nat.reduceEqDiff, ↓reduceIte, eq_self, Nat.reduceAdd, Nat.reduceMul, Nat.reduceSub, Nat.reduceLeDiff, Nat.reduceLT, defd, cellsOf, wr, packR, Int.reduceLE, Int.reduceLT, Int.reduceEq, Int.cast_ofNat_Int, Int.reduceToNat]
    refine h3.sc ?_
    simp only [↓vA, ↓vE, ↓vO, ↓vB, ↓vF, ↓vM, ↓vR, ↓vX, cvF_pc, vP, shb, shv, shvs, she_nil, she_cons, vC, vQ, Nat.reduceEqDiff, ↓reduceIte, eq_self, Nat.reduceAdd, Nat.reduceMul, Nat.reduceSub, Nat.reduceLeDiff, Nat.reduceLT, defd, cellsOf, wr, packR, Int.reduceLE, Int.reduceLT, Int.reduceEq, Int.cast_ofNat_Int, Int.reduceToNat, vZ]
  | false =>
    simp only [↓vA, ↓vE, ↓vO, ↓vB, ↓vF, ↓vM, ↓vR, ↓vX, cvF_pc, vP, shb, shv, shvs, she_nil, she_cons, vC, vQ, Nat.reduceEqDiff, ↓reduceIte, eq_self, Nat.reduceAdd, Nat.reduceMul, Nat.reduceSub, Nat.reduceLeDiff, Nat.reduceLT, defd, cellsOf, wr, packR, Int.reduceLE, Int.reduceLT, Int.reduceEq, Int.cast_ofNat_Int, Int.reduceToNat, e9 hk]
    refine h3.sc ?_
    simp only [↓vA, ↓vE, ↓vO, ↓vB, ↓vF, ↓vM, ↓vR, ↓vX, cvF_pc, vP, shb, shv, shvs, she_nil, she_cons, vC, vQ, Nat.reduceEqDiff, ↓reduceIte, eq_self, Nat.reduceAdd, Nat.reduceMul, Nat.reduceSub, Nat.reduceLeDiff, Nat.reduceLT, defd, cellsOf, wr, packR, Int.reduceLE, Int.reduceLT, Int.reduceEq, Int.cast_ofNat_Int, Int.reduceToNat, vZ]
theorem own_c9 {g1 g2 g3 g4 g5 g6 : Nat} (h3 : Pure P g3 [] (.b true)) (h6 : ∀ k, Pure P g6 [.s k] (.b (keyM k))) {p q : Pol} {a : Asg} {ns : List (Int × List UInt8)} (hl : ns.length ≤ 10000) (e9 : keyM a.key = false → ns = []) (e10 : errs ns) {t' : Tr AV} {h' : Hp}
    (hw : Wk 0 t' h' (mkT [(2, .ptr 0 0), (3, .ptr 1 0), (4, .b false), (5, .ptr 2 0), (6, .fz (ns.map (noteOf a)).length (rN (ns.map (noteOf a))))]) (mkH 0 (oB p q a))) : S P 0 (ir_vestibulelaw18_RestrictOwn_c9 g1 g2 g3 g4 g5 g6) (endX [.tmp 4] fun v' h' => Frz h' v' (.b true)) t' h' := by
  refine S.weak hw (V_sound ?_)
  simp only [ir_vestibulelaw18_RestrictOwn_c9, oB, cPol, cAsg, argsT, H0, mkT, mkH, trL, List.length_cons, List.length_nil, Nat.reduceAdd, Nat.zero_add]
  simp only [↓vA, ↓vE, ↓vO, ↓vB, ↓vF, ↓vM, ↓vR, ↓vX, cvF_pc, vP, shb, shv, shvs, she_nil, she_cons, vC, vQ, Nat.reduceEqDiff, ↓reduceIte, eq_self, Nat.reduceAdd, Nat.reduceMul, Nat.reduceSub, Nat.reduceLeDiff, Nat.reduceLT, defd, cellsOf, wr, packR, Int.reduceLE, Int.reduceLT, Int.reduceEq, Int.cast_ofNat_Int, Int.reduceToNat]
  refine SL.loop (α := Nat) (fun j => [(2, .ptr 0 0), (3, .ptr 1 0), (4, .b false), (5, .ptr 2 0), (6, .fz (ns.map (noteOf a)).length (rN (ns.map (noteOf a)))), (11, .i .i64 j)]) (fun _ => [.cells 0 true false (cPol p), .cells 0 true false (cAsg a), .cells 0 true false (cPol q)]) (fun j => True) (fun j => ns.length - j) 0 [0, 1, 2] ?_ ?_ ?_ rfl ?_ ?_
  · simp [vW, bw_map, mapAt_map, mapClo_it, mapClo_nil, mapClo_cons, vP, vZ, Tr.get_set, oB_len]
  · simp [vW, bw_map, mapAt_map, mapClo_it, mapClo_nil, mapClo_cons, vP, vZ, Tr.get_set, cPol, cAsg]
  · simp
  · trivial
  rintro j - G ih
  simp only [argsT, H0, mkT, mkH, trL, List.length_cons, List.length_nil, Nat.reduceAdd, Nat.zero_add, cPol, cAsg]
  by_cases hj : j < ns.length
  · have hx : (ns.map (noteOf a))[j]? = some (noteOf a ns[j]) := by simp [hj]
    have hw : IntKind.wrap .i64 ((j : Int) + 1) = ((j + 1 : Nat) : Int) := by rw [wrap64 (by omega) (by omega)]; omega
    have hne := e10 ns[j] (List.getElem_mem _)
    simp only [↓vA, ↓vE, ↓vO, ↓vB, ↓vF, ↓vM, ↓vR, ↓vX, cvF_pc, vP, shb, shv, shvs, she_nil, she_cons, vC, vQ, Nat.reduceEqDiff, ↓reduceIte, eq_self, Nat.reduceAdd, Nat.reduceMul, Nat.reduceSub, Nat.reduceLeDiff, Nat.reduceLT, defd, cellsOf, wr, packR, Int.reduceLE, Int.reduceLT, Int.reduceEq, Int.cast_ofNat_Int, Int.reduceToNat, List.length_map, hj]
    refine VD_pc ?_
    have g0 : (rN (ns.map (noteOf a)))[j * 4]? = some (.s a.file) := rN_get hx (i := 0) (by decide)
    have g1 : (rN (ns.map (noteOf a)))[j * 4 + 1]? = some (.i .i64 a.line) := rN_get hx (i := 1) (by decide)
    have g2 : (rN (ns.map (noteOf a)))[j * 4 + 2]? = some (.i .i64 ns[j].1) := rN_get hx (i := 2) (by decide)
    simp only [↓vA, ↓vE, ↓vO, ↓vB, ↓vF, ↓vM, ↓vR, ↓vX, cvF_pc, vP, shb, shv, shvs, she_nil, she_cons, vC, vQ, Nat.reduceEqDiff, ↓reduceIte, eq_self, Nat.reduceAdd, Nat.reduceMul, Nat.reduceSub, Nat.reduceLeDiff, Nat.reduceLT, defd, cellsOf, wr, packR, Int.reduceLE, Int.reduceLT, Int.reduceEq, Int.cast_ofNat_Int, Int.reduceToNat, List.length_map, hj, hw, g0, g1, g2, hne]
    refine ih (j + 1) trivial (by omega) _ _ (Wk.mk _ _ [0, 1, 2] ?_ ?_ ?_ rfl)
    · simp [vW, bw_map, mapAt_map, mapClo_it, mapClo_nil, mapClo_cons, vP, vZ, Tr.get_set, oB_len]
    · simp [vW, bw_map, mapAt_map, mapClo_it, mapClo_nil, mapClo_cons, vP, vZ, Tr.get_set, cPol, cAsg]
    · simp
  · simp only [↓vA, ↓vE, ↓vO, ↓vB, ↓vF, ↓vM, ↓vR, ↓vX, cvF_pc, vP, shb, shv, shvs, she_nil, she_cons, vC, vQ, Nat.reduceEqDiff, ↓reduceIte, eq_self, Nat.reduceAdd, Nat.reduceMul, Nat.reduceSub, Nat.reduceLeDiff, Nat.reduceLT, defd, cellsOf, wr, packR, Int.reduceLE, Int.reduceLT, Int.reduceEq, Int.cast_ofNat_Int, Int.reduceToNat, List.length_map, hj]
    refine own_c10 (p := p) (q := q) h3 h6 hl e9 (Wk.mk _ _ [0, 1, 2] ?_ ?_ ?_ rfl)
    · simp [vW, bw_map, mapAt_map, mapClo_it, mapClo_nil, mapClo_cons, vP, vZ, Tr.get_set, oB_len]
    · simp [vW, bw_map, mapAt_map, mapClo_it, mapClo_nil, mapClo_cons, vP, vZ, Tr.get_set, oB, cPol, cAsg]
    · simp
set_option maxRecDepth 8000 in
theorem own_c8 {g1 g2 g3 g4 g5 g6 : Nat} (h3 : Pure P g3 [] (.b true)) (h6 : ∀ k, Pure P g6 [.s k] (.b (keyM k))) {p q : Pol} {a : Asg} {ns : List (Int × List UInt8)} (hl : ns.length ≤ 10000) (e9 : keyM a.key = false → ns = []) (e10 : errs ns) {b7 b9 : Bool} (e2 : a.key ≠ kArch → b7 = true) (e3 : a.key ≠ kFam → b9 = true) (e4 : a.key ≠ kSp → q.spaces = p.spaces) (e5 : a.key ≠ kWe → q.we = p.we) (e6 : a.key ≠ kPe → q.pe = p.pe) (e7 : a.key ≠ kRt → q.rt = p.rt) (e8 : a.key ≠ kNp → q.np = p.np) {t' : Tr AV} {h' : Hp}
    (hw : Wk 0 t' h' (mkT [(2, .ptr 0 0), (3, .ptr 1 0), (4, .b false), (5, .ptr 2 0), (6, .fz (ns.map (noteOf a)).length (rN (ns.map (noteOf a)))), (7, .b b7), (9, .b b9)]) (mkH 0 (oB p q a))) : S P 0 (ir_vestibulelaw18_RestrictOwn_c8 g1 g2 g3 g4 g5 g6) (endX [.tmp 4] fun v' h' => Frz h' v' (.b true)) t' h' := by
  refine S.weak hw (V_sound ?_)
  simp only [ir_vestibulelaw18_RestrictOwn_c8, oB, cPol, cAsg, argsT, H0, mkT, mkH, trL, List.length_cons, List.length_nil, Nat.reduceAdd, Nat.zero_add]
  by_cases n0 : a.key = kArch
  · have e3' := e3 (by rw [n0]; decide)
    have e4' := e4 (by rw [n0]; decide)
    have e5' := e5 (by rw [n0]; decide)
    have e6' := e6 (by rw [n0]; decide)
    have e7' := e7 (by rw [n0]; decide)
    have e8' := e8 (by rw [n0]; decide)
    simp (decide := true) only [↓vA, ↓vE, ↓vO, ↓vB, ↓vF, ↓vM, ↓vR, ↓vX, cvF_pc, vP, shb, shv, shvs, she_nil, she_cons, vC, vQ, Nat.reduceEqDiff, ↓reduceIte, eq_self, Nat.reduceAdd, Nat.reduceMul, Nat.reduceSub, Nat.reduceLeDiff, Nat.reduceLT, defd, cellsOf, wr, packR, Int.reduceLE, Int.reduceLT, Int.reduceEq, Int.cast_ofNat_Int, Int.reduceToNat, n0, kArch, e3', e4', e5', e6', e7', e8', beq_self_eq_true]

    refine own_c9 (p := p) (q := q) h3 h6 hl e9 e10 (Wk.mk _ _ [0, 1, 2] ?_ ?_ ?_ rfl)
    · simp [vW, bw_map, mapAt_map, mapClo_it, mapClo_nil, mapClo_cons, vP, vZ, Tr.get_set, oB_len]
    · simp [vW, bw_map, mapAt_map, mapClo_it, mapClo_nil, mapClo_cons, vP, vZ, Tr.get_set, oB, cPol, cAsg, n0, kArch, e3', e4', e5', e6', e7', e8']
    · simp
  by_cases n1 : a.key = kFam
  · have e2' := e2 (by rw [n1]; decide)
    have e4' := e4 (by rw [n1]; decide)
    have e5' := e5 (by rw [n1]; decide)
    have e6' := e6 (by rw [n1]; decide)
    have e7' := e7 (by rw [n1]; decide)
    have e8' := e8 (by rw [n1]; decide)
    simp (decide := true) only [↓vA, ↓vE, ↓vO, ↓vB, ↓vF, ↓vM, ↓vR, ↓vX, cvF_pc, vP, shb, shv, shvs, she_nil, she_cons, vC, vQ, Nat.reduceEqDiff, ↓reduceIte, eq_self, Nat.reduceAdd, Nat.reduceMul, Nat.reduceSub, Nat.reduceLeDiff, Nat.reduceLT, defd, cellsOf, wr, packR, Int.reduceLE, Int.reduceLT, Int.reduceEq, Int.cast_ofNat_Int, Int.reduceToNat, n1, kFam, e2', e4', e5', e6', e7', e8', beq_self_eq_true]
    refine own_c9 (p := p) (q := q) h3 h6 hl e9 e10 (Wk.mk _ _ [0, 1, 2] ?_ ?_ ?_ rfl)
    · simp [vW, bw_map, mapAt_map, mapClo_it, mapClo_nil, mapClo_cons, vP, vZ, Tr.get_set, oB_len]
    · simp [vW, bw_map, mapAt_map, mapClo_it, mapClo_nil, mapClo_cons, vP, vZ, Tr.get_set, oB, cPol, cAsg, n1, kFam, e2', e4', e5', e6', e7', e8']
    · simp
  by_cases n2 : a.key = kSp
  · have e2' := e2 (by rw [n2]; decide)
    have e3' := e3 (by rw [n2]; decide)
    have e5' := e5 (by rw [n2]; decide)
    have e6' := e6 (by rw [n2]; decide)
    have e7' := e7 (by rw [n2]; decide)
    have e8' := e8 (by rw [n2]; decide)
    simp (decide := true) only [↓vA, ↓vE, ↓vO, ↓vB, ↓vF, ↓vM, ↓vR, ↓vX, cvF_pc, vP, shb, shv, shvs, she_nil, she_cons, vC, vQ, Nat.reduceEqDiff, ↓reduceIte, eq_self, Nat.reduceAdd, Nat.reduceMul, Nat.reduceSub, Nat.reduceLeDiff, Nat.reduceLT, defd, cellsOf, wr, packR, Int.reduceLE, Int.reduceLT, Int.reduceEq, Int.cast_ofNat_Int, Int.reduceToNat, n2, kSp, e2', e3', e5', e6', e7', e8', beq_self_eq_true]
    refine own_c9 (p := p) (q := q) h3 h6 hl e9 e10 (Wk.mk _ _ [0, 1, 2] ?_ ?_ ?_ rfl)
    · simp [vW, bw_map, mapAt_map, mapClo_it, mapClo_nil, mapClo_cons, vP, vZ, Tr.get_set, oB_len]
    · simp [vW, bw_map, mapAt_map, mapClo_it, mapClo_nil, mapClo_cons, vP, vZ, Tr.get_set, oB, cPol, cAsg, n2, kSp, e2', e3', e5', e6', e7', e8']
    · simp
  by_cases n3 : a.key = kWe
  · have e2' := e2 (by rw [n3]; decide)
    have e3' := e3 (by rw [n3]; decide)
    have e4' := e4 (by rw [n3]; decide)
    have e6' := e6 (by rw [n3]; decide)
    have e7' := e7 (by rw [n3]; decide)
    have e8' := e8 (by rw [n3]; decide)
    simp (decide := true) only [↓vA, ↓vE, ↓vO, ↓vB, ↓vF, ↓vM, ↓vR, ↓vX, cvF_pc, vP, shb, shv, shvs, she_nil, she_cons, vC, vQ, Nat.reduceEqDiff, ↓reduceIte, eq_self, Nat.reduceAdd, Nat.reduceMul, Nat.reduceSub, Nat.reduceLeDiff, Nat.reduceLT, defd, cellsOf, wr, packR, Int.reduceLE, Int.reduceLT, Int.reduceEq, Int.cast_ofNat_Int, Int.reduceToNat, n3, kWe, e2', e3', e4', e6', e7', e8', beq_self_eq_true]
    refine own_c9 (p := p) (q := q) h3 h6 hl e9 e10 (Wk.mk _ _ [0, 1, 2] ?_ ?_ ?_ rfl)
    · simp [vW, bw_map, mapAt_map, mapClo_it, mapClo_nil, mapClo_cons, vP, vZ, Tr.get_set, oB_len]
    · simp [vW, bw_map, mapAt_map, mapClo_it, mapClo_nil, mapClo_cons, vP, vZ, Tr.get_set, oB, cPol, cAsg, n3, kWe, e2', e3', e4', e6', e7', e8']
    · simp
  by_cases n4 : a.key = kPe
  · have e2' := e2 (by rw [n4]; decide)
    have e3' := e3 (by rw [n4]; decide)
    have e4' := e4 (by rw [n4]; decide)
    have e5' := e5 (by rw [n4]; decide)
    have e7' := e7 (by rw [n4]; decide)
    have e8' := e8 (by rw [n4]; decide)
    simp (decide := true) only [↓vA, ↓vE, ↓vO, ↓vB, ↓vF, ↓vM, ↓vR, ↓vX, cvF_pc, vP, shb, shv, shvs, she_nil, she_cons, vC, vQ, Nat.reduceEqDiff, ↓reduceIte, eq_self, Nat.reduceAdd, Nat.reduceMul, Nat.reduceSub, Nat.reduceLeDiff, Nat.reduceLT, defd, cellsOf, wr, packR, Int.reduceLE, Int.reduceLT, Int.reduceEq, Int.cast_ofNat_Int, Int.reduceToNat, n4, kPe, e2', e3', e4', e5', e7', e8', beq_self_eq_true]
    refine own_c9 (p := p) (q := q) h3 h6 hl e9 e10 (Wk.mk _ _ [0, 1, 2] ?_ ?_ ?_ rfl)
    · simp [vW, bw_map, mapAt_map, mapClo_it, mapClo_nil, mapClo_cons, vP, vZ, Tr.get_set, oB_len]
    · simp [vW, bw_map, mapAt_map, mapClo_it, mapClo_nil, mapClo_cons, vP, vZ, Tr.get_set, oB, cPol, cAsg, n4, kPe, e2', e3', e4', e5', e7', e8']
    · simp
  by_cases n5 : a.key = kRt
  · have e2' := e2 (by rw [n5]; decide)
    have e3' := e3 (by rw [n5]; decide)
    have e4' := e4 (by rw [n5]; decide)
    have e5' := e5 (by rw [n5]; decide)
    have e6' := e6 (by rw [n5]; decide)
    have e8' := e8 (by rw [n5]; decide)
    simp (decide := true) only [↓vA, ↓vE, ↓vO, ↓vB, ↓vF, ↓vM, ↓vR, ↓vX, cvF_pc, vP, shb, shv, shvs, she_nil, she_cons, vC, vQ, Nat.reduceEqDiff, ↓reduceIte, eq_self, Nat.reduceAdd, Nat.reduceMul, Nat.reduceSub, Nat.reduceLeDiff, Nat.reduceLT, defd, cellsOf, wr, packR, Int.reduceLE, Int.reduceLT, Int.reduceEq, Int.cast_ofNat_Int, Int.reduceToNat, n5, kRt, e2', e3', e4', e5', e6', e8', beq_self_eq_true]
    refine own_c9 (p := p) (q := q) h3 h6 hl e9 e10 (Wk.mk _ _ [0, 1, 2] ?_ ?_ ?_ rfl)
    · simp [vW, bw_map, mapAt_map, mapClo_it, mapClo_nil, mapClo_cons, vP, vZ, Tr.get_set, oB_len]
    · simp [vW, bw_map, mapAt_map, mapClo_it, mapClo_nil, mapClo_cons, vP, vZ, Tr.get_set, oB, cPol, cAsg, n5, kRt, e2', e3', e4', e5', e6', e8']
    · simp
  by_cases n6 : a.key = kNp
  · have e2' := e2 (by rw [n6]; decide)
    have e3' := e3 (by rw [n6]; decide)
    have e4' := e4 (by rw [n6]; decide)
    have e5' := e5 (by rw [n6]; decide)
    have e6' := e6 (by rw [n6]; decide)
    have e7' := e7 (by rw [n6]; decide)
    simp (decide := true) only [↓vA, ↓vE, ↓vO, ↓vB, ↓vF, ↓vM, ↓vR, ↓vX, cvF_pc, vP, shb, shv, shvs, she_nil, she_cons, vC, vQ, Nat.reduceEqDiff, ↓reduceIte, eq_self, Nat.reduceAdd, Nat.reduceMul, Nat.reduceSub, Nat.reduceLeDiff, Nat.reduceLT, defd, cellsOf, wr, packR, Int.reduceLE, Int.reduceLT, Int.reduceEq, Int.cast_ofNat_Int, Int.reduceToNat, n6, kNp, e2', e3', e4', e5', e6', e7', beq_self_eq_true]
    refine own_c9 (p := p) (q := q) h3 h6 hl e9 e10 (Wk.mk _ _ [0, 1, 2] ?_ ?_ ?_ rfl)
    · simp [vW, bw_map, mapAt_map, mapClo_it, mapClo_nil, mapClo_cons, vP, vZ, Tr.get_set, oB_len]
    · simp [vW, bw_map, mapAt_map, mapClo_it, mapClo_nil, mapClo_cons, vP, vZ, Tr.get_set, oB, cPol, cAsg, n6, kNp, e2', e3', e4', e5', e6', e7']
    · simp
  have e2' := e2 n0
  have e3' := e3 n1
  have e4' := e4 n2
  have e5' := e5 n3
  have e6' := e6 n4
  have e7' := e7 n5
  have e8' := e8 n6
  simp only [kArch] at n0
  simp only [kFam] at n1
  simp only [kSp] at n2
  simp only [kWe] at n3
  simp only [kPe] at n4
  simp only [kRt] at n5
  simp only [kNp] at n6
  simp only [↓vA, ↓vE, ↓vO, ↓vB, ↓vF, ↓vM, ↓vR, ↓vX, cvF_pc, vP, shb, shv, shvs, she_nil, she_cons, vC, vQ, Nat.reduceEqDiff, ↓reduceIte, eq_self, Nat.reduceAdd, Nat.reduceMul, Nat.reduceSub, Nat.reduceLeDiff, Nat.reduceLT, defd, cellsOf, wr, packR, Int.reduceLE, Int.reduceLT, Int.reduceEq, Int.cast_ofNat_Int, Int.reduceToNat, n0, n1, n2, n3, n4, n5, n6, e2', e3', e4', e5', e6', e7', e8', beq_self_eq_true]
  refine own_c9 (p := p) (q := q) h3 h6 hl e9 e10 (Wk.mk _ _ [0, 1, 2] ?_ ?_ ?_ rfl)
  · simp [vW, bw_map, mapAt_map, mapClo_it, mapClo_nil, mapClo_cons, vP, vZ, Tr.get_set, oB_len]
  · simp [vW, bw_map, mapAt_map, mapClo_it, mapClo_nil, mapClo_cons, vP, vZ, Tr.get_set, oB, cPol, cAsg, e2', e3', e4', e5', e6', e7', e8']
  · simp
theorem own_c6 {g1 g2 g3 g4 g5 g6 : Nat} (h3 : Pure P g3 [] (.b true)) (h6 : ∀ k, Pure P g6 [.s k] (.b (keyM k))) {p q : Pol} {a : Asg} {ns : List (Int × List UInt8)} (hl : ns.length ≤ 10000) (e9 : keyM a.key = false → ns = []) (e10 : errs ns) {b7 : Bool} (hp : p.fams.length ≤ 1000) (e2 : a.key ≠ kArch → b7 = true) (e3 : a.key ≠ kFam → q.fams = p.fams ∧ q.fmode = p.fmode) (e4 : a.key ≠ kSp → q.spaces = p.spaces) (e5 : a.key ≠ kWe → q.we = p.we) (e6 : a.key ≠ kPe → q.pe = p.pe) (e7 : a.key ≠ kRt → q.rt = p.rt) (e8 : a.key ≠ kNp → q.np = p.np) {t' : Tr AV} {h' : Hp}
    (hw : Wk 0 t' h' (mkT [(2, .ptr 0 0), (3, .ptr 1 0), (4, .b false), (5, .ptr 2 0), (6, .fz (ns.map (noteOf a)).length (rN (ns.map (noteOf a)))), (7, .b b7)]) (mkH 0 (oB p q a))) : S P 0 (ir_vestibulelaw18_RestrictOwn_c6 g1 g2 g3 g4 g5 g6) (endX [.tmp 4] fun v' h' => Frz h' v' (.b true)) t' h' := by
  refine S.weak hw (V_sound ?_)
  simp only [ir_vestibulelaw18_RestrictOwn_c6, oB, cPol, cAsg, argsT, H0, mkT, mkH, trL, List.length_cons, List.length_nil, Nat.reduceAdd, Nat.zero_add]
  by_cases hE : (p.fams.length : Int) = q.fams.length
  · have hE' : q.fams.length = p.fams.length := by omega
    simp only [↓vA, ↓vE, ↓vO, ↓vB, ↓vF, ↓vM, ↓vR, ↓vX, cvF_pc, vP, shb, shv, shvs, she_nil, she_cons, vC, vQ, Nat.reduceEqDiff, ↓reduceIte, eq_self, Nat.reduceAdd, Nat.reduceMul, Nat.reduceSub, Nat.reduceLeDiff, Nat.reduceLT, defd, cellsOf, wr, packR, Int.reduceLE, Int.reduceLT, Int.reduceEq, Int.cast_ofNat_Int, Int.reduceToNat, hE]
    refine SL.loop (α := Bool × Nat) (fun s => [(2, .ptr 0 0), (3, .ptr 1 0), (4, .b false), (5, .ptr 2 0), (6, .fz (ns.map (noteOf a)).length (rN (ns.map (noteOf a)))), (7, .b b7), (9, .b s.1), (10, .i .i64 s.2)]) (fun _ => [.cells 0 true false (cPol p), .cells 0 true false (cAsg a), .cells 0 true false (cPol q)]) (fun s => (s.1 = true → q.fams.length = p.fams.length) ∧ (q.fams = p.fams ∧ q.fmode = p.fmode → s.1 = true)) (fun s => p.fams.length - s.2) (decide (p.fmode = q.fmode), 0) [0, 1, 2] ?_ ?_ ?_ rfl ?_ ?_
    · simp [vW, bw_map, mapAt_map, mapClo_it, mapClo_nil, mapClo_cons, vP, vZ, Tr.get_set, oB_len]
    · simp [vW, bw_map, mapAt_map, mapClo_it, mapClo_nil, mapClo_cons, vP, vZ, Tr.get_set, cPol, cAsg]
    · simp
    · exact ⟨fun _ => hE', fun h => by simp [h.2]⟩
    rintro ⟨b, j⟩ ⟨hI, hJ⟩ G ih
    dsimp only at hI hJ ih ⊢
    simp only [argsT, H0, mkT, mkH, trL, List.length_cons, List.length_nil, Nat.reduceAdd, Nat.zero_add, cPol, cAsg]
    by_cases hj : j < p.fams.length
    · cases b with
      | true =>
        have hj2 : j < q.fams.length := by have := hI rfl; omega
        have hx : p.fams[j]? = some p.fams[j] := List.getElem?_eq_getElem hj
        have hy : q.fams[j]? = some q.fams[j] := List.getElem?_eq_getElem hj2
        have hw : IntKind.wrap .i64 ((j : Int) + 1) = ((j + 1 : Nat) : Int) := by rw [wrap64 (by omega) (by omega)]; omega
        simp only [↓vA, ↓vE, ↓vO, ↓vB, ↓vF, ↓vM, ↓vR, ↓vX, cvF_pc, vP, shb, shv, shvs, she_nil, she_cons, vC, vQ, Nat.reduceEqDiff, ↓reduceIte, eq_self, Nat.reduceAdd, Nat.reduceMul, Nat.reduceSub, Nat.reduceLeDiff, Nat.reduceLT, defd, cellsOf, wr, packR, Int.reduceLE, Int.reduceLT, Int.reduceEq, Int.cast_ofNat_Int, Int.reduceToNat, hj, hj2]
        refine VD_pc ?_
        simp only [↓vA, ↓vE, ↓vO, ↓vB, ↓vF, ↓vM, ↓vR, ↓vX, cvF_pc, vP, shb, shv, shvs, she_nil, she_cons, vC, vQ, Nat.reduceEqDiff, ↓reduceIte, eq_self, Nat.reduceAdd, Nat.reduceMul, Nat.reduceSub, Nat.reduceLeDiff, Nat.reduceLT, defd, cellsOf, wr, packR, Int.reduceLE, Int.reduceLT, Int.reduceEq, Int.cast_ofNat_Int, Int.reduceToNat, hj, hj2, hw, Nat.mul_one, rI_get, hx, hy, Option.map_some]
        refine ih (decide (p.fams[j] = q.fams[j]), j + 1) ⟨fun _ => hI rfl, fun h => ?_⟩ (by dsimp only; omega) _ _ (Wk.mk _ _ [0, 1, 2] ?_ ?_ ?_ rfl)
        · simp [h.1]
        · simp [vW, bw_map, mapAt_map, mapClo_it, mapClo_nil, mapClo_cons, vP, vZ, Tr.get_set, oB_len]
        · simp [vW, bw_map, mapAt_map, mapClo_it, mapClo_nil, mapClo_cons, vP, vZ, Tr.get_set, cPol, cAsg]
        · simp
      | false =>
        simp only [↓vA, ↓vE, ↓vO, ↓vB, ↓vF, ↓vM, ↓vR, ↓vX, cvF_pc, vP, shb, shv, shvs, she_nil, she_cons, vC, vQ, Nat.reduceEqDiff, ↓reduceIte, eq_self, Nat.reduceAdd, Nat.reduceMul, Nat.reduceSub, Nat.reduceLeDiff, Nat.reduceLT, defd, cellsOf, wr, packR, Int.reduceLE, Int.reduceLT, Int.reduceEq, Int.cast_ofNat_Int, Int.reduceToNat, hj]
        refine own_c8 (p := p) (q := q) (b7 := b7) (b9 := false) h3 h6 hl e9 e10 e2 (fun h => hJ (e3 h)) e4 e5 e6 e7 e8 (Wk.mk _ _ [0, 1, 2] ?_ ?_ ?_ rfl)
        · simp [vW, bw_map, mapAt_map, mapClo_it, mapClo_nil, mapClo_cons, vP, vZ, Tr.get_set, oB_len]
        · simp [vW, bw_map, mapAt_map, mapClo_it, mapClo_nil, mapClo_cons, vP, vZ, Tr.get_set, oB, cPol, cAsg]
        · simp
    · simp only [↓vA, ↓vE, ↓vO, ↓vB, ↓vF, ↓vM, ↓vR, ↓vX, cvF_pc, vP, shb, shv, shvs, she_nil, she_cons, vC, vQ, Nat.reduceEqDiff, ↓reduceIte, eq_self, Nat.reduceAdd, Nat.reduceMul, Nat.reduceSub, Nat.reduceLeDiff, Nat.reduceLT, defd, cellsOf, wr, packR, Int.reduceLE, Int.reduceLT, Int.reduceEq, Int.cast_ofNat_Int, Int.reduceToNat, hj]
      refine own_c8 (p := p) (q := q) (b7 := b7) (b9 := b) h3 h6 hl e9 e10 e2 (fun h => hJ (e3 h)) e4 e5 e6 e7 e8 (Wk.mk _ _ [0, 1, 2] ?_ ?_ ?_ rfl)
      · simp [vW, bw_map, mapAt_map, mapClo_it, mapClo_nil, mapClo_cons, vP, vZ, Tr.get_set, oB_len]
      · simp [vW, bw_map, mapAt_map, mapClo_it, mapClo_nil, mapClo_cons, vP, vZ, Tr.get_set, oB, cPol, cAsg]
      · simp
  · simp only [↓vA, ↓vE, ↓vO, ↓vB, ↓vF, ↓vM, ↓vR, ↓vX, cvF_pc, vP, shb, shv, shvs, she_nil, she_cons, vC, vQ, Nat.reduceEqDiff, ↓reduceIte, eq_self, Nat.reduceAdd, Nat.reduceMul, Nat.reduceSub, Nat.reduceLeDiff, Nat.reduceLT, defd, cellsOf, wr, packR, Int.reduceLE, Int.reduceLT, Int.reduceEq, Int.cast_ofNat_Int, Int.reduceToNat, hE]
    refine SL.loop (α := Bool × Nat) (fun s => [(2, .ptr 0 0), (3, .ptr 1 0), (4, .b false), (5, .ptr 2 0), (6, .fz (ns.map (noteOf a)).length (rN (ns.map (noteOf a)))), (7, .b b7), (9, .b s.1), (10, .i .i64 s.2)]) (fun _ => [.cells 0 true false (cPol p), .cells 0 true false (cAsg a), .cells 0 true false (cPol q)]) (fun s => (s.1 = true → q.fams.length = p.fams.length) ∧ (q.fams = p.fams ∧ q.fmode = p.fmode → s.1 = true)) (fun s => p.fams.length - s.2) (false, 0) [0, 1, 2] ?_ ?_ ?_ rfl ?_ ?_
    · simp [vW, bw_map, mapAt_map, mapClo_it, mapClo_nil, mapClo_cons, vP, vZ, Tr.get_set, oB_len]
    · simp [vW, bw_map, mapAt_map, mapClo_it, mapClo_nil, mapClo_cons, vP, vZ, Tr.get_set, cPol, cAsg]
    · simp
    · exact ⟨fun h => (by cases h), fun h => absurd (by rw [h.1]) hE⟩
    rintro ⟨b, j⟩ ⟨hI, hJ⟩ G ih
    dsimp only at hI hJ ih ⊢
    simp only [argsT, H0, mkT, mkH, trL, List.length_cons, List.length_nil, Nat.reduceAdd, Nat.zero_add, cPol, cAsg]
    by_cases hj : j < p.fams.length
    · cases b with
      | true =>
        have hj2 : j < q.fams.length := by have := hI rfl; omega
        have hx : p.fams[j]? = some p.fams[j] := List.getElem?_eq_getElem hj
        have hy : q.fams[j]? = some q.fams[j] := List.getElem?_eq_getElem hj2
        have hw : IntKind.wrap .i64 ((j : Int) + 1) = ((j + 1 : Nat) : Int) := by rw [wrap64 (by omega) (by omega)]; omega
        simp only [↓vA, ↓vE, ↓vO, ↓vB, ↓vF, ↓vM, ↓vR, ↓vX, cvF_pc, vP, shb, shv, shvs, she_nil, she_cons, vC, vQ, Nat.reduceEqDiff, ↓reduceIte, eq_self, Nat.reduceAdd, Nat.reduceMul, Nat.reduceSub, Nat.reduceLeDiff, Nat.reduceLT, defd, cellsOf, wr, packR, Int.reduceLE, Int.reduceLT, Int.reduceEq, Int.cast_ofNat_Int, Int.reduceToNat, hj, hj2]
        refine VD_pc ?_
        simp only [↓vA, ↓vE, ↓vO, ↓vB, ↓vF, ↓vM, ↓vR, ↓vX, cvF_pc, vP, shb, shv, shvs, she_nil, she_cons, vC, vQ, Nat.reduceEqDiff, ↓reduceIte, eq_self, Nat.reduceAdd, Nat.reduceMul, Nat.reduceSub, Nat.reduceLeDiff, Nat.reduceLT, defd, cellsOf, wr, packR, Int.reduceLE, Int.reduceLT, Int.reduceEq, Int.cast_ofNat_Int, Int.reduceToNat, hj, hj2, hw, Nat.mul_one, rI_get, hx, hy, Option.map_some]
        refine ih (decide (p.fams[j] = q.fams[j]), j + 1) ⟨fun _ => hI rfl, fun h => ?_⟩ (by dsimp only; omega) _ _ (Wk.mk _ _ [0, 1, 2] ?_ ?_ ?_ rfl)
        · simp [h.1]
        · simp [vW, bw_map, mapAt_map, mapClo_it, mapClo_nil, mapClo_cons, vP, vZ, Tr.get_set, oB_len]
        · simp [vW, bw_map, mapAt_map, mapClo_it, mapClo_nil, mapClo_cons, vP, vZ, Tr.get_set, cPol, cAsg]
        · simp
      | false =>
        simp only [↓vA, ↓vE, ↓vO, ↓vB, ↓vF, ↓vM, ↓vR, ↓vX, cvF_pc, vP, shb, shv, shvs, she_nil, she_cons, vC, vQ, Nat.reduceEqDiff, ↓reduceIte, eq_self, Nat.reduceAdd, Nat.reduceMul, Nat.reduceSub, Nat.reduceLeDiff, Nat.reduceLT, defd, cellsOf, wr, packR, Int.reduceLE, Int.reduceLT, Int.reduceEq, Int.cast_ofNat_Int, Int.reduceToNat, hj]
        refine own_c8 (p := p) (q := q) (b7 := b7) (b9 := false) h3 h6 hl e9 e10 e2 (fun h => hJ (e3 h)) e4 e5 e6 e7 e8 (Wk.mk _ _ [0, 1, 2] ?_ ?_ ?_ rfl)
        · simp [vW, bw_map, mapAt_map, mapClo_it, mapClo_nil, mapClo_cons, vP, vZ, Tr.get_set, oB_len]
        · simp [vW, bw_map, mapAt_map, mapClo_it, mapClo_nil, mapClo_cons, vP, vZ, Tr.get_set, oB, cPol, cAsg]
        · simp
    · simp only [↓vA, ↓vE, ↓vO, ↓vB, ↓vF, ↓vM, ↓vR, ↓vX, cvF_pc, vP, shb, shv, shvs, she_nil, she_cons, vC, vQ, Nat.reduceEqDiff, ↓reduceIte, eq_self, Nat.reduceAdd, Nat.reduceMul, Nat.reduceSub, Nat.reduceLeDiff, Nat.reduceLT, defd, cellsOf, wr, packR, Int.reduceLE, Int.reduceLT, Int.reduceEq, Int.cast_ofNat_Int, Int.reduceToNat, hj]
      refine own_c8 (p := p) (q := q) (b7 := b7) (b9 := b) h3 h6 hl e9 e10 e2 (fun h => hJ (e3 h)) e4 e5 e6 e7 e8 (Wk.mk _ _ [0, 1, 2] ?_ ?_ ?_ rfl)
      · simp [vW, bw_map, mapAt_map, mapClo_it, mapClo_nil, mapClo_cons, vP, vZ, Tr.get_set, oB_len]
      · simp [vW, bw_map, mapAt_map, mapClo_it, mapClo_nil, mapClo_cons, vP, vZ, Tr.get_set, oB, cPol, cAsg]
      · simp
set_option maxRecDepth 8000 in
theorem restrictOwn {g1 g2 g3 g4 g5 g6 : Nat} (hc : chkFn P f (ir_vestibulelaw18_RestrictOwn g1 g2 g3 g4 g5 g6) = true) (h1 : ∀ p a, Pure P g1 [.agg (cPol p), .agg (cAsg a)] (.b (great17 p a)))
    (h2 : ∀ p : Pol, p.arches.length ≤ 10000 → p.fams.length ≤ 10000 → Pure P g2 [.agg (cPol p)] (.b (decide (Rises p)))) (h3 : Pure P g3 [] (.b true)) (h4 : cCopied P g4) (h5 : cSet P g5) (h6 : ∀ k, Pure P g6 [.s k] (.b (keyM k)))
    (p : Pol) (a : Asg) : Pure P f [.agg (cPol p), .agg (cAsg a)] (.b true) := by
  refine Pure.mk hc rfl ?_
  simp only [ir_vestibulelaw18_RestrictOwn, cPol, cAsg, argsT, H0, mkT, mkH, trL, List.length_cons, List.length_nil, Nat.reduceAdd, Nat.zero_add]
  simp only [↓vA, ↓vE, ↓vO, ↓vB, ↓vF, ↓vM, ↓vR, ↓vX, cvF_pc, vP, shb, shv, shvs, she_nil, she_cons, vC, vQ, Nat.reduceEqDiff, ↓reduceIte, eq_self, Nat.reduceAdd, Nat.reduceMul, Nat.reduceSub, Nat.reduceLeDiff, Nat.reduceLT, defd, cellsOf, wr, packR, Int.reduceLE, Int.reduceLT, Int.reduceEq, Int.cast_ofNat_Int, Int.reduceToNat]
  refine (h1 p a).sc ?_
  cases hg : great17 p a with
  | true =>
    simp only [↓vA, ↓vE, ↓vO, ↓vB, ↓vF, ↓vM, ↓vR, ↓vX, cvF_pc, vP, shb, shv, shvs, she_nil, she_cons, vC, vQ, Nat.reduceEqDiff, ↓reduceIte, eq_self, Nat.reduceAdd, Nat.reduceMul, Nat.reduceSub, Nat.reduceLeDiff, Nat.reduceLT, defd, cellsOf, wr, packR, Int.reduceLE, Int.reduceLT, Int.reduceEq, Int.cast_ofNat_Int, Int.reduceToNat]
    refine h3.sc ?_
    simp only [↓vA, ↓vE, ↓vO, ↓vB, ↓vF, ↓vM, ↓vR, ↓vX, cvF_pc, vP, shb, shv, shvs, she_nil, she_cons, vC, vQ, Nat.reduceEqDiff, ↓reduceIte, eq_self, Nat.reduceAdd, Nat.reduceMul, Nat.reduceSub, Nat.reduceLeDiff, Nat.reduceLT, defd, cellsOf, wr, packR, Int.reduceLE, Int.reduceLT, Int.reduceEq, Int.cast_ofNat_Int, Int.reduceToNat, vZ]
  | false =>
    obtain ⟨ha, hf, hok, hv⟩ := great_ok hg
    simp only [↓vA, ↓vE, ↓vO, ↓vB, ↓vF, ↓vM, ↓vR, ↓vX, cvF_pc, vP, shb, shv, shvs, she_nil, she_cons, vC, vQ, Nat.reduceEqDiff, ↓reduceIte, eq_self, Nat.reduceAdd, Nat.reduceMul, Nat.reduceSub, Nat.reduceLeDiff, Nat.reduceLT, defd, cellsOf, wr, packR, Int.reduceLE, Int.reduceLT, Int.reduceEq, Int.cast_ofNat_Int, Int.reduceToNat]
    refine (h2 p (by omega) (by omega)).sc ?_
    by_cases hR : Rises p
    case neg =>
      simp only [↓vA, ↓vE, ↓vO, ↓vB, ↓vF, ↓vM, ↓vR, ↓vX, cvF_pc, vP, shb, shv, shvs, she_nil, she_cons, vC, vQ, Nat.reduceEqDiff, ↓reduceIte, eq_self, Nat.reduceAdd, Nat.reduceMul, Nat.reduceSub, Nat.reduceLeDiff, Nat.reduceLT, defd, cellsOf, wr, packR, Int.reduceLE, Int.reduceLT, Int.reduceEq, Int.cast_ofNat_Int, Int.reduceToNat, hR]
      refine h3.sc ?_
      simp only [↓vA, ↓vE, ↓vO, ↓vB, ↓vF, ↓vM, ↓vR, ↓vX, cvF_pc, vP, shb, shv, shvs, she_nil, she_cons, vC, vQ, Nat.reduceEqDiff, ↓reduceIte, eq_self, Nat.reduceAdd, Nat.reduceMul, Nat.reduceSub, Nat.reduceLeDiff, Nat.reduceLT, defd, cellsOf, wr, packR, Int.reduceLE, Int.reduceLT, Int.reduceEq, Int.cast_ofNat_Int, Int.reduceToNat, vZ]
    simp only [↓vA, ↓vE, ↓vO, ↓vB, ↓vF, ↓vM, ↓vR, ↓vX, cvF_pc, vP, shb, shv, shvs, she_nil, she_cons, vC, vQ, Nat.reduceEqDiff, ↓reduceIte, eq_self, Nat.reduceAdd, Nat.reduceMul, Nat.reduceSub, Nat.reduceLeDiff, Nat.reduceLT, defd, cellsOf, wr, packR, Int.reduceLE, Int.reduceLT, Int.reduceEq, Int.cast_ofNat_Int, Int.reduceToNat, hR]
    refine VD_pc ?_
    simp only [↓vA, ↓vE, ↓vO, ↓vB, ↓vF, ↓vM, ↓vR, ↓vX, cvF_pc, vP, shb, shv, shvs, she_nil, she_cons, vC, vQ, Nat.reduceEqDiff, ↓reduceIte, eq_self, Nat.reduceAdd, Nat.reduceMul, Nat.reduceSub, Nat.reduceLeDiff, Nat.reduceLT, defd, cellsOf, wr, packR, Int.reduceLE, Int.reduceLT, Int.reduceEq, Int.cast_ofNat_Int, Int.reduceToNat]
    refine (h4 p hok).pc ?_
    simp only [↓vA, ↓vE, ↓vO, ↓vB, ↓vF, ↓vM, ↓vR, ↓vX, cvF_pc, vP, shb, shv, shvs, she_nil, she_cons, vC, vQ, Nat.reduceEqDiff, ↓reduceIte, eq_self, Nat.reduceAdd, Nat.reduceMul, Nat.reduceSub, Nat.reduceLeDiff, Nat.reduceLT, defd, cellsOf, wr, packR, Int.reduceLE, Int.reduceLT, Int.reduceEq, Int.cast_ofNat_Int, Int.reduceToNat]
    refine (h5 p a hok hv).pc ?_
    obtain ⟨q, ns, e0, f1, f2, f3, e1, e2, e3, e4, e5, e6, e7, e8, e9, e10, e11, e12, e13⟩ := setM_own p a.key a.val
    have hR2 := e1 hR
    rw [e0]
    simp only [↓vA, ↓vE, ↓vO, ↓vB, ↓vF, ↓vM, ↓vR, ↓vX, cvF_pc, vP, shb, shv, shvs, she_nil, she_cons, vC, vQ, Nat.reduceEqDiff, ↓reduceIte, eq_self, Nat.reduceAdd, Nat.reduceMul, Nat.reduceSub, Nat.reduceLeDiff, Nat.reduceLT, defd, cellsOf, wr, packR, Int.reduceLE, Int.reduceLT, Int.reduceEq, Int.cast_ofNat_Int, Int.reduceToNat, cPol]
    refine S.weak (Wk.mk [(2, .ptr 0 0), (3, .ptr 1 0), (4, .b false), (5, .ptr 2 0), (6, .fz (ns.map (noteOf a)).length (rN (ns.map (noteOf a))))] [.cells 0 true false (cPol p), .cells 0 true false (cAsg a), .cells 0 true false (cPol q)] [0, 1, 2] ?_ ?_ ?_ rfl) (V_sound ?_)
    · simp [vW, bw_map, mapAt_map, mapClo_it, mapClo_nil, mapClo_cons, vP, vZ, Tr.get_set, oB_len]
    · simp [vW, bw_map, mapAt_map, mapClo_it, mapClo_nil, mapClo_cons, vP, vZ, Tr.get_set, cPol, cAsg]
    · simp
    simp only [ir_vestibulelaw18_RestrictOwn_c3, cPol, cAsg, argsT, H0, mkT, mkH, trL, List.length_cons, List.length_nil, Nat.reduceAdd, Nat.zero_add]
    simp only [↓vA, ↓vE, ↓vO, ↓vB, ↓vF, ↓vM, ↓vR, ↓vX, cvF_pc, vP, shb, shv, shvs, she_nil, she_cons, vC, vQ, Nat.reduceEqDiff, ↓reduceIte, eq_self, Nat.reduceAdd, Nat.reduceMul, Nat.reduceSub, Nat.reduceLeDiff, Nat.reduceLT, defd, cellsOf, wr, packR, Int.reduceLE, Int.reduceLT, Int.reduceEq, Int.cast_ofNat_Int, Int.reduceToNat]
    refine (h2 q (by omega) (by omega)).sc ?_
    simp only [↓vA, ↓vE, ↓vO, ↓vB, ↓vF, ↓vM, ↓vR, ↓vX, cvF_pc, vP, shb, shv, shvs, she_nil, she_cons, vC, vQ, Nat.reduceEqDiff, ↓reduceIte, eq_self, Nat.reduceAdd, Nat.reduceMul, Nat.reduceSub, Nat.reduceLeDiff, Nat.reduceLT, defd, cellsOf, wr, packR, Int.reduceLE, Int.reduceLT, Int.reduceEq, Int.cast_ofNat_Int, Int.reduceToNat, hR2, f1, f2, f3]
    refine S.weak (Wk.mk [(2, .ptr 0 0), (3, .ptr 1 0), (4, .b false), (5, .ptr 2 0), (6, .fz (ns.map (noteOf a)).length (rN (ns.map (noteOf a))))] [.cells 0 true false (cPol p), .cells 0 true false (cAsg a), .cells 0 true false (cPol q)] [0, 1, 2] ?_ ?_ ?_ rfl) (V_sound ?_)
    · simp [vW, bw_map, mapAt_map, mapClo_it, mapClo_nil, mapClo_cons, vP, vZ, Tr.get_set, oB_len]
    · simp [vW, bw_map, mapAt_map, mapClo_it, mapClo_nil, mapClo_cons, vP, vZ, Tr.get_set, cPol, cAsg, f1, f2, f3]
    · simp
    simp only [ir_vestibulelaw18_RestrictOwn_c4, cPol, cAsg, argsT, H0, mkT, mkH, trL, List.length_cons, List.length_nil, Nat.reduceAdd, Nat.zero_add]
    simp only [↓vA, ↓vE, ↓vO, ↓vB, ↓vF, ↓vM, ↓vR, ↓vX, cvF_pc, vP, shb, shv, shvs, she_nil, she_cons, vC, vQ, Nat.reduceEqDiff, ↓reduceIte, eq_self, Nat.reduceAdd, Nat.reduceMul, Nat.reduceSub, Nat.reduceLeDiff, Nat.reduceLT, defd, cellsOf, wr, packR, Int.reduceLE, Int.reduceLT, Int.reduceEq, Int.cast_ofNat_Int, Int.reduceToNat]
    refine SL.loop (α := Bool × Nat) (fun s => [(2, .ptr 0 0), (3, .ptr 1 0), (4, .b false), (5, .ptr 2 0), (6, .fz (ns.map (noteOf a)).length (rN (ns.map (noteOf a)))), (7, .b s.1), (8, .i .i64 s.2)]) (fun _ => [.cells 0 true false (cPol p), .cells 0 true false (cAsg a), .cells 0 true false (cPol q)]) (fun s => (s.1 = true → q.arches.length = p.arches.length) ∧ (q.arches = p.arches → s.1 = true)) (fun s => p.arches.length - s.2) (decide ((p.arches.length : Int) = q.arches.length), 0) [0, 1, 2] ?_ ?_ ?_ rfl ?_ ?_
    · simp [vW, bw_map, mapAt_map, mapClo_it, mapClo_nil, mapClo_cons, vP, vZ, Tr.get_set, oB_len]
    · simp [vW, bw_map, mapAt_map, mapClo_it, mapClo_nil, mapClo_cons, vP, vZ, Tr.get_set, cPol, cAsg]
    · simp
    · refine ⟨fun h => ?_, fun h => ?_⟩
      · have := of_decide_eq_true h; omega
      · simp [h]
    rintro ⟨b, j⟩ ⟨hI, hJ⟩ G ih
    dsimp only at hI hJ ih ⊢
    simp only [argsT, H0, mkT, mkH, trL, List.length_cons, List.length_nil, Nat.reduceAdd, Nat.zero_add, cPol, cAsg]
    by_cases hj : j < p.arches.length
    · cases b with
      | true =>
        have hj2 : j < q.arches.length := by have := hI rfl; omega
        have hx : p.arches[j]? = some p.arches[j] := List.getElem?_eq_getElem hj
        have hy : q.arches[j]? = some q.arches[j] := List.getElem?_eq_getElem hj2
        have hw : IntKind.wrap .i64 ((j : Int) + 1) = ((j + 1 : Nat) : Int) := by rw [wrap64 (by omega) (by omega)]; omega
        simp only [↓vA, ↓vE, ↓vO, ↓vB, ↓vF, ↓vM, ↓vR, ↓vX, cvF_pc, vP, shb, shv, shvs, she_nil, she_cons, vC, vQ, Nat.reduceEqDiff, ↓reduceIte, eq_self, Nat.reduceAdd, Nat.reduceMul, Nat.reduceSub, Nat.reduceLeDiff, Nat.reduceLT, defd, cellsOf, wr, packR, Int.reduceLE, Int.reduceLT, Int.reduceEq, Int.cast_ofNat_Int, Int.reduceToNat, hj, hj2]
        refine VD_pc ?_
        simp only [↓vA, ↓vE, ↓vO, ↓vB, ↓vF, ↓vM, ↓vR, ↓vX, cvF_pc, vP, shb, shv, shvs, she_nil, she_cons, vC, vQ, Nat.reduceEqDiff, ↓reduceIte, eq_self, Nat.reduceAdd, Nat.reduceMul, Nat.reduceSub, Nat.reduceLeDiff, Nat.reduceLT, defd, cellsOf, wr, packR, Int.reduceLE, Int.reduceLT, Int.reduceEq, Int.cast_ofNat_Int, Int.reduceToNat, hj, hj2, hw, Nat.mul_one, rI_get, hx, hy, Option.map_some]
        refine ih (decide (p.arches[j] = q.arches[j]), j + 1) ⟨fun _ => hI rfl, fun h => ?_⟩ (by dsimp only; omega) _ _ (Wk.mk _ _ [0, 1, 2] ?_ ?_ ?_ rfl)
        · simp [h]
        · simp [vW, bw_map, mapAt_map, mapClo_it, mapClo_nil, mapClo_cons, vP, vZ, Tr.get_set, oB_len]
        · simp [vW, bw_map, mapAt_map, mapClo_it, mapClo_nil, mapClo_cons, vP, vZ, Tr.get_set, cPol, cAsg]
        · simp
      | false =>
        simp only [↓vA, ↓vE, ↓vO, ↓vB, ↓vF, ↓vM, ↓vR, ↓vX, cvF_pc, vP, shb, shv, shvs, she_nil, she_cons, vC, vQ, Nat.reduceEqDiff, ↓reduceIte, eq_self, Nat.reduceAdd, Nat.reduceMul, Nat.reduceSub, Nat.reduceLeDiff, Nat.reduceLT, defd, cellsOf, wr, packR, Int.reduceLE, Int.reduceLT, Int.reduceEq, Int.cast_ofNat_Int, Int.reduceToNat, hj]
        refine own_c6 (p := p) (q := q) (b7 := false) h3 h6 (by omega) e9 e10 (by omega) (fun h => hJ (e2 h)) e3 e4 e5 e6 e7 e8 (Wk.mk _ _ [0, 1, 2] ?_ ?_ ?_ rfl)
        · simp [vW, bw_map, mapAt_map, mapClo_it, mapClo_nil, mapClo_cons, vP, vZ, Tr.get_set, oB_len]
        · simp [vW, bw_map, mapAt_map, mapClo_it, mapClo_nil, mapClo_cons, vP, vZ, Tr.get_set, oB, cPol, cAsg]
        · simp
    · simp only [↓vA, ↓vE, ↓vO, ↓vB, ↓vF, ↓vM, ↓vR, ↓vX, cvF_pc, vP, shb, shv, shvs, she_nil, she_cons, vC, vQ, Nat.reduceEqDiff, ↓reduceIte, eq_self, Nat.reduceAdd, Nat.reduceMul, Nat.reduceSub, Nat.reduceLeDiff, Nat.reduceLT, defd, cellsOf, wr, packR, Int.reduceLE, Int.reduceLT, Int.reduceEq, Int.cast_ofNat_Int, Int.reduceToNat, hj]
      refine own_c6 (p := p) (q := q) (b7 := b) h3 h6 (by omega) e9 e10 (by omega) (fun h => hJ (e2 h)) e3 e4 e5 e6 e7 e8 (Wk.mk _ _ [0, 1, 2] ?_ ?_ ?_ rfl)
      · simp [vW, bw_map, mapAt_map, mapClo_it, mapClo_nil, mapClo_cons, vP, vZ, Tr.get_set, oB_len]
      · simp [vW, bw_map, mapAt_map, mapClo_it, mapClo_nil, mapClo_cons, vP, vZ, Tr.get_set, oB, cPol, cAsg]
      · simp
end Go.Kc
end
