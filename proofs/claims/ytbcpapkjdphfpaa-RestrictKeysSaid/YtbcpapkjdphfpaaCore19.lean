/- Regions that draw their order, second part: the run in the order of the text, and its facts. No condition. -/
import Derived.Test.YtbcpapkjdphfpaaCore18
namespace Go.Ab
variable {σ : Nat → Value} {ρ ρ' : Ren} {P : Program} {orc : Orc} {env : Tr IFn}

theorem chkRs_get {ops : Array Oper} {nt : Nat} : ∀ {os : List Oper} {rs : List ROp}, chkRs P ops nt os rs = true → os.length = rs.length ∧ ∀ (i : Nat) o r, os[i]? = some o → rs[i]? = some r → chkR P ops nt o r = true
  | [], [], _ => ⟨rfl, by simp⟩
  | o :: os, r :: rs, h => by
    simp only [chkRs, Bool.and_eq_true] at h
    obtain ⟨h1, h2⟩ := h
    obtain ⟨h3, h4⟩ := chkRs_get h2
    refine ⟨by simp [h3], fun i o' r' ho hr => ?_⟩
    cases i with
    | zero => simp at ho hr; subst ho; subst hr; exact h1
    | succ i => exact h4 i o' r' (by simpa using ho) (by simpa using hr)
  | [], _ :: _, h => by simp [chkRs] at h
  | _ :: _, [], h => by simp [chkRs] at h

/-- the run in the order of the text -/
structure Canon (orc : Orc) (env : Tr IFn) (ih : Body) (rs : List ROp) (T : Nat → Tr AV) (H : Nat → Hp) (G : Nat → Bool) (V : Nat → AV) : Prop where
  step : ∀ (i : Nat) r, rs[i]? = some r → guardK (T i) r.guard (fun g => g = G i) ∧ dstK (T i) r.dst (V i) (fun t => t = T (i + 1)) ∧
    ((G i = true ∧ ropK orc env true ih r.k (T i) (H i) (fun v h => v = V i ∧ h = H (i + 1))) ∨ (G i = false ∧ V i = .tup [] ∧ H (i + 1) = H i))

theorem canon_of {ih : Body} (hi : LB ih) {Q : Tr AV → Hp → Prop} : ∀ (rs : List ROp) (t : Tr AV) (h : Hp), regK orc env true ih rs Q t h →
    ∃ T H G V, T 0 = t ∧ H 0 = h ∧ Canon orc env ih rs T H G V ∧ Q (T rs.length) (H rs.length)
  | [], t, h, hk => ⟨fun _ => t, fun _ => h, fun _ => false, fun _ => .undef, rfl, rfl, ⟨by simp⟩, hk⟩
  | ⟨dst, k, g⟩ :: rs, t, h, hk => by
    have hk' : guardK t g (fun go => Bool.rec (motive := fun _ => Prop)
      (dstK t dst (.tup []) (fun t' => regK orc env true ih rs Q t' h)) (ropK orc env true ih k t h (fun v h' => dstK t dst v (fun t' => regK orc env true ih rs Q t' h'))) go) := hk
    obtain ⟨go, h1, h2⟩ := guardK_l t g _ hk'
    have shift : ∀ (v : AV) (t1 : Tr AV) (h1 : Hp), dstK t dst v (fun t' => t' = t1) → ((go = true ∧ ropK orc env true ih k t h (fun v' h' => v' = v ∧ h' = h1)) ∨ (go = false ∧ v = .tup [] ∧ h1 = h)) → regK orc env true ih rs Q t1 h1 →
        ∃ T H G V, T 0 = t ∧ H 0 = h ∧ Canon orc env ih (⟨dst, k, g⟩ :: rs) T H G V ∧ Q (T (rs.length + 1)) (H (rs.length + 1)) := by
      intro v t1 hh1 hd hg hr
      obtain ⟨T, H, G, V, e1, e2, e3, e4⟩ := canon_of hi rs t1 hh1 hr
      refine ⟨fun i => match i with | 0 => t | i + 1 => T i, fun i => match i with | 0 => h | i + 1 => H i, fun i => match i with | 0 => go | i + 1 => G i, fun i => match i with | 0 => v | i + 1 => V i, rfl, rfl, ⟨?_⟩, e4⟩
      intro i r hri
      cases i with
      | zero =>
        simp at hri; subst hri
        refine ⟨h2 _ rfl, ?_, ?_⟩
        · show dstK t dst v (fun t' => t' = T 0); rw [e1]; exact hd
        · show (go = true ∧ ropK orc env true ih k t h (fun v' h' => v' = v ∧ h' = H 0)) ∨ (go = false ∧ v = .tup [] ∧ H 0 = h)
          rw [e2]; exact hg
      | succ i => exact e3.step i r (by simpa using hri)
    cases go with
    | false =>
      obtain ⟨t1, h3, h4⟩ := dstK_l t dst _ _ h1
      exact shift _ t1 h (h4 _ rfl) (.inr ⟨rfl, rfl, rfl⟩) h3
    | true =>
      obtain ⟨v, hh, h3, h4⟩ := ropK_l orc env true hi k t h _ h1
      obtain ⟨t1, h5, h6⟩ := dstK_l t dst v _ h3
      exact shift v t1 hh (h6 _ rfl) (.inl ⟨rfl, h4 _ ⟨rfl, rfl⟩⟩) h5

theorem T_step {ih : Body} {rs : List ROp} {T : Nat → Tr AV} {H : Nat → Hp} {G : Nat → Bool} {V : Nat → AV} (hc : Canon orc env ih rs T H G V) {i : Nat} {r : ROp} (hr : rs[i]? = some r) (x : Nat) :
    (T (i + 1)).get x = if r.dst = some x then some (V i) else (T i).get x := by
  obtain ⟨_, h2, _⟩ := hc.step i r hr
  cases hd : r.dst with
  | none =>
    rw [hd] at h2
    have h2' : T i = T (i + 1) := h2
    simp [← h2']
  | some d =>
    rw [hd] at h2
    have h2' : (T i).setK d (V i) (fun t => t = T (i + 1)) := h2
    rw [Tr.setK_iff] at h2'
    rw [← h2', Tr.get_set]
    by_cases hx : x = d
    · subst hx; simp
    · have : ¬ (some d = some x) := fun h => hx (Option.some.inj h).symm
      rw [if_neg hx, if_neg this]

/-- a plain conclusion out of an operation's run -/
theorem wp_extract {o : Oper} {a : Act} {w : World} {F : Prop} (h : o.wp P a w (fun _ _ => F) (fun _ _ _ => False)) : F := by
  unfold Oper.wp at h
  generalize (execOp a.eval o).run P w = r at h
  cases r with
  | ok n w' =>
    cases n <;> simp only [Oper.upon] at h
    case enter f args =>
      obtain ⟨e, w'', fr, hR, _⟩ := h []
      cases e with
      | returned v => exact hR
      | panicked => exact hR.elim
      | outgrown => obtain ⟨_, _, hh⟩ := hR; exact hh.elim
    case row row args =>
      obtain ⟨v, w'', hR, _⟩ := h default []
      exact hR
    all_goals first | exact h | exact h.elim
  | halt x w' => cases x <;> simp only [Oper.upon] at h

/-- what each step of it keeps -/
structure Fact (rs : List ROp) (H : Nat → Hp) (i : Nat) : Prop where
  sz : (H i).sz ≤ (H (i + 1)).sz
  fl : (H (i + 1)).fl = (H i).fl
  keep : (∀ r, rs[i]? = some r → wr r.k = false) → ∀ b, b < (H i).sz → (H (i + 1)).tr.get b = (H i).tr.get b
  floor : ∀ b, b < (H i).fl → b < (H i).sz → (H (i + 1)).tr.get b = (H i).tr.get b

theorem canon_facts (horc : OrcOk P σ orc) (henv : EnvOk P env) {ih : Body} (hs : Sound P σ ih) {nt : Nat} {ops : Array Oper} {rs : List ROp} (hrs : chkRs P ops nt ops.toList rs = true) {T : Nat → Tr AV} {H : Nat → Hp} {G : Nat → Bool} {V : Nat → AV} (hc : Canon orc env ih rs T H G V)
    {B : Nat} {w : World} {a : Act} (ht : TR σ ρ (T 0) a.tmps) (hsz : nt ≤ a.tmps.size) (r : Rel σ ρ B (H 0) w) : ∀ i, i ≤ rs.length →
    (∃ (ρ' : Ren) (a' : Act) (w' : World), TR σ ρ' (T i) a'.tmps ∧ nt ≤ a'.tmps.size ∧ Rel σ ρ' B (H i) w') ∧ ∀ j, j < i → Fact rs H j
  | 0, _ => ⟨⟨ρ, a, w, ht, hsz, r⟩, fun j hj => absurd hj (Nat.not_lt_zero _)⟩
  | i + 1, hi => by
    obtain ⟨⟨ρ1, a1, w1, ht1, hs1, r1⟩, hf⟩ := canon_facts horc henv hs hrs hc ht hsz r i (by omega)
    obtain ⟨hlen, hget⟩ := chkRs_get hrs
    have hri : rs[i]? = some rs[i] := List.getElem?_eq_getElem (by omega)
    have hoi : ops.toList[i]? = some (ops.toList[i]'(by omega)) := List.getElem?_eq_getElem (by omega)
    have hchk := hget i _ _ hoi hri
    generalize rs[i] = rr at hri hchk
    generalize ops.toList[i]'(by omega) = o at hoi hchk
    simp only [chkR, Bool.and_eq_true] at hchk
    obtain ⟨⟨hc1, hc2⟩, hc3⟩ := hchk
    obtain ⟨g1, g2, g3⟩ := hc.step i rr hri
    have key : (∃ (ρ' : Ren) (a' : Act) (w' : World), TR σ ρ' (T (i + 1)) a'.tmps ∧ nt ≤ a'.tmps.size ∧ Rel σ ρ' B (H (i + 1)) w') ∧ Fact rs H i := by
      rcases g3 with ⟨_, g3⟩ | ⟨_, g3, g4⟩
      · rcases (brec_iff _ _ _).1 g3 with ⟨hb, g3⟩ | ⟨hb, g3⟩
        · refine wp_extract (P := P) (o := o) (a := a1) (w := w1) (rop0_ok horc henv hs r1 ht1 hc3 g3 _ _ ?_)
          rintro v v' h' ρ' w' ⟨rfl, rfl⟩ q1 q2 q3
          obtain ⟨t', q4, q5⟩ := (ht1.mono (q3.mono r1.dom)).put hs1 hc1 q1 g2
          subst q4
          refine ⟨⟨ρ', _, w', q5, by rw [put_size]; exact hs1, q2⟩, q3.szle, q3.fl, fun hw => ?_, q3.akeep⟩
          have := hw rr hri
          simp [this] at hb
        · refine wp_extract (P := P) (o := o) (a := a1) (w := w1) (raise_ok horc henv hs r1 ht1 hc3 g3 _ _ ?_)
          rintro v v' h' ρ' w' ⟨rfl, rfl⟩ q1 q2 q3 q6 _ _
          obtain ⟨t', q4, q5⟩ := (ht1.mono (q3.mono r1.dom)).put hs1 hc1 q1 g2
          subst q4
          exact ⟨⟨ρ', _, w', q5, by rw [put_size]; exact hs1, q2⟩, q3.szle, q3.fl, fun _ => q6, q3.akeep⟩
      · obtain ⟨t', q4, q5⟩ := ht1.put hs1 hc1 (.tup [] #[] .nil) (by rw [g3] at g2; exact g2)
        subst q4
        exact ⟨⟨ρ1, _, w1, q5, by rw [put_size]; exact hs1, by rw [g4]; exact r1⟩, by rw [g4]; exact Nat.le_refl _, by rw [g4], fun _ _ _ => by rw [g4], fun _ _ _ => by rw [g4]⟩
    refine ⟨key.1, fun j hj => ?_⟩
    rcases Nat.lt_succ_iff_lt_or_eq.1 hj with hj | rfl
    · exact hf j hj
    · exact key.2

section facts
variable {rs : List ROp} {H : Nat → Hp}
theorem sz_le (hf : ∀ j, j < rs.length → Fact rs H j) {i j : Nat} (hij : i ≤ j) (hj : j ≤ rs.length) : (H i).sz ≤ (H j).sz := by
  induction j with
  | zero => obtain rfl : i = 0 := by omega
            exact Nat.le_refl _
  | succ j ih =>
    rcases Nat.lt_or_eq_of_le hij with h | rfl
    · exact Nat.le_trans (ih (by omega) (by omega)) (hf j (by omega)).sz
    · exact Nat.le_refl _
theorem fl_eq (hf : ∀ j, j < rs.length → Fact rs H j) {i j : Nat} (hij : i ≤ j) (hj : j ≤ rs.length) : (H j).fl = (H i).fl := by
  induction j with
  | zero => obtain rfl : i = 0 := by omega
            rfl
  | succ j ih =>
    rcases Nat.lt_or_eq_of_le hij with h | rfl
    · exact (hf j (by omega)).fl.trans (ih (by omega) (by omega))
    · rfl
theorem keep_eq (hf : ∀ j, j < rs.length → Fact rs H j) {i j : Nat} (hij : i ≤ j) (hj : j ≤ rs.length) (hw : ∀ k, i ≤ k → k < j → ∀ r, rs[k]? = some r → wr r.k = false) (b : Nat) (hb : b < (H i).sz) : (H j).tr.get b = (H i).tr.get b := by
  induction j with
  | zero => obtain rfl : i = 0 := by omega
            rfl
  | succ j ih =>
    rcases Nat.lt_or_eq_of_le hij with h | rfl
    · rw [← ih (by omega) (by omega) (fun k h1 h2 => hw k h1 (by omega))]
      exact (hf j (by omega)).keep (hw j (by omega) (by omega)) b (Nat.lt_of_lt_of_le hb (sz_le hf (by omega) (by omega)))
    · rfl
theorem floor_eq (hf : ∀ j, j < rs.length → Fact rs H j) {j : Nat} (hj : j ≤ rs.length) (b : Nat) (hb : b < (H 0).fl) (hb2 : b < (H 0).sz) : (H j).tr.get b = (H 0).tr.get b := by
  induction j with
  | zero => rfl
  | succ j ih =>
    rw [← ih (by omega)]
    exact (hf j (by omega)).floor b (by rw [fl_eq hf (Nat.zero_le _) (by omega)]; exact hb) (Nat.lt_of_lt_of_le hb2 (sz_le hf (Nat.zero_le _) (by omega)))
end facts

/-! ### the masks -/
theorem masks_len : ∀ (os : List Oper) (acc : List Nat), (masks os acc).length = acc.length + os.length
  | [], acc => by simp [masks]
  | o :: os, acc => by rw [masks, masks_len]; simp; omega
theorem masks_pre : ∀ (os : List Oper) (acc : List Nat) (j : Nat), j < acc.length → (masks os acc)[j]? = acc[j]?
  | [], acc, j, h => rfl
  | o :: os, acc, j, h => by rw [masks, masks_pre os _ j (by simp; omega), List.getElem?_append_left h]
theorem masks_get : ∀ (os : List Oper) (acc : List Nat) (i : Nat) (o : Oper), os[i]? = some o → (masks os acc)[acc.length + i]? = some (mask o ((masks os acc).take (acc.length + i)))
  | [], _, _, _, h => by simp at h
  | p :: os, acc, i, o, h => by
    cases i with
    | zero =>
      simp at h; subst h
      rw [masks, Nat.add_zero]
      have e1 : (masks os (acc ++ [mask p acc])).take acc.length = acc := by
        apply List.ext_getElem?
        intro j
        rw [List.getElem?_take]
        split
        · rw [masks_pre _ _ _ (by simp; omega), List.getElem?_append_left (by assumption)]
        · rw [List.getElem?_eq_none (by omega)]
      rw [masks_pre _ _ _ (by simp), e1]
      simp
    | succ i =>
      have := masks_get os (acc ++ [mask p acc]) i o (by simpa using h)
      rw [masks]
      simp only [List.length_append, List.length_cons, List.length_nil] at this
      rw [show acc.length + (i + 1) = acc.length + (0 + 1) + i from by omega]
      exact this
theorem mask_bit {o : Oper} {acc : List Nat} {j : Nat} (h : (mask o acc).testBit j = true) : ∃ e ∈ o.after, Region.binds .any e = true ∧ (e.on = j ∨ (acc.getD e.on 0).testBit j = true) := by
  have key : ∀ (es : List Edge) (s : Nat), (es.foldl (fun s e => if Region.binds .any e then s ||| 2 ^ e.on ||| acc.getD e.on 0 else s) s).testBit j = true → s.testBit j = true ∨ ∃ e ∈ es, Region.binds .any e = true ∧ (e.on = j ∨ (acc.getD e.on 0).testBit j = true) := by
    intro es
    induction es with
    | nil => intro s h; exact .inl h
    | cons e es ih =>
      intro s h
      rw [List.foldl_cons] at h
      rcases ih _ h with h1 | ⟨e', h1, h2⟩
      · by_cases hb : Region.binds .any e = true
        · rw [if_pos hb] at h1
          simp only [Nat.testBit_or, Bool.or_eq_true, Nat.testBit_two_pow, decide_eq_true_eq] at h1
          rcases h1 with (h1 | h1) | h1
          · exact .inl h1
          · exact .inr ⟨e, by simp, hb, .inl h1⟩
          · exact .inr ⟨e, by simp, hb, .inr h1⟩
        · rw [if_neg hb] at h1; exact .inl h1
      · exact .inr ⟨e', by simp [h1], h2⟩
  rcases key _ 0 h with h1 | ⟨e, h1, h2⟩
  · simp at h1
  · exact ⟨e, by simpa using h1, h2⟩
/-- what the mask names is done -/
theorem mask_done {ops : Array Oper} {S : Nat → Prop} (hlt : ∀ (i : Nat) o, ops[i]? = some o → ∀ e ∈ o.after, Region.binds .any e = true → e.on < i) (hcl : ∀ (i : Nat) o, S i → ops[i]? = some o → ∀ e ∈ o.after, Region.binds .any e = true → S e.on) :
    ∀ (i : Nat) o, ops[i]? = some o → (∀ e ∈ o.after, Region.binds .any e = true → S e.on) → ∀ j, ((masks ops.toList []).getD i 0).testBit j = true → S j := by
  intro i
  induction i using Nat.strongRecOn with
  | _ i ih =>
    intro o ho hr j hj
    have hm := masks_get ops.toList [] i o (by simpa using ho)
    simp only [List.length_nil, Nat.zero_add] at hm
    rw [List.getD_eq_getElem?_getD, hm] at hj
    obtain ⟨e, he, hb, h1⟩ := mask_bit hj
    have hle := hlt i o ho e he hb
    have hS := hr e he hb
    rcases h1 with rfl | h1
    · exact hS
    · have hi : i < ops.size := (Array.getElem?_eq_some_iff.1 ho).1
      have e1 : ((masks ops.toList []).take i).getD e.on 0 = (masks ops.toList []).getD e.on 0 := by
        rw [List.getD_eq_getElem?_getD, List.getD_eq_getElem?_getD, List.getElem?_take_of_lt hle]
      rw [e1] at h1
      have ho' : ops[e.on]? = some ops[e.on] := Array.getElem?_eq_getElem (by omega)
      exact ih e.on hle _ ho' (hcl e.on _ hS ho') j h1

theorem pairs_get {rs : List ROp} {ms : List Nat} : ∀ (rest : List ROp) (j : Nat), chkPairs rs ms j rest = true → rs.drop j = rest → ∀ i k a b, i < k → j ≤ k → rs[i]? = some a → rs[k]? = some b → meets a b = true → (ms.getD k 0).testBit i = true
  | [], j, _, hd, i, k, a, b, _, hjk, _, hb, _ => by
    have : rs.length ≤ j := by simpa using hd
    have := (List.getElem?_eq_some_iff.1 hb).1
    omega
  | r :: rest, j, hc, hd, i, k, a, b, hik, hjk, ha, hb, hm => by
    simp only [chkPairs, Bool.and_eq_true] at hc
    have hrj : rs[j]? = some r := by
      have := congrArg (fun l => l[0]?) hd
      simpa using this
    rcases Nat.lt_or_eq_of_le hjk with h | rfl
    · exact pairs_get rest (j + 1) hc.2 (by rw [← List.drop_drop, hd]; rfl) i k a b hik h ha hb hm
    · rw [hrj] at hb; cases hb
      have := (List.all_eq_true.1 hc.1) (a, i) (by
        rw [List.mem_zipIdx_iff_getElem?]
        simp only
        rw [List.getElem?_take_of_lt hik]; exact ha)
      simpa [hm] using this
end Go.Ab
