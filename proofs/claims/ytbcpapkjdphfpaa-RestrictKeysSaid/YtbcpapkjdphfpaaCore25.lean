/- Maps: the abstract operations stand for the model's. No condition. -/
import Derived.Test.YtbcpapkjdphfpaaCore14
import Derived.Test.YtbcpapkjdphfpaaCore16
import Derived.MapKept
namespace Go.Ab
variable {σ : Nat → Value} {ρ ρ' : Ren} {P : Program}

/-! ### the relation over a new map, and over a map that is written -/
theorem Rel.newMap {B : Nat} {h : Hp} {w w' : World} (r : Rel σ ρ B h w) {es0 : List (AV × AV)} {o : Obj} (hes : ∀ ρ', ObjR σ ρ' es0 o) (hw : w'.heap = w.heap.push o) (hio : w'.os = w.os ∧ w'.output = w.output) :
    Rel σ (ρ.add h.sz ⟨w.heap.size, 0, 0, 0⟩) B (h.push (.map es0)) w' ∧ Kept ρ B h w (ρ.add h.sz ⟨w.heap.size, 0, 0, 0⟩) (h.push (.map es0)) w' := by
  have hold : ∀ k, k < w.heap.size → w'.heap[k]? = w.heap[k]? := by intro k hk; rw [hw, Array.getElem?_push]; rw [if_neg (by omega)]
  have hsz : w.heap.size ≤ w'.heap.size := by rw [hw, Array.size_push]; exact Nat.le_succ _
  have hnew : w'.heap[w.heap.size]? = some o := by rw [hw]; simp
  have hext : ∀ b L, ρ b = some L → (ρ.add h.sz ⟨w.heap.size, 0, 0, 0⟩) b = some L := by
    intro b L hb; have := r.dom b L hb; simp only [Ren.add]; rw [if_neg (by omega)]; exact hb
  have hwf := r.blk_lt
  have hget : ∀ b x, (h.push (.map es0)).tr.get b = some x → b ≠ h.sz → h.tr.get b = some x := by
    intro b x hx hb; simp only [Hp.push, Tr.get_set] at hx; rwa [if_neg hb] at hx
  have hget' : ∀ x, (h.push (.map es0)).tr.get h.sz = some x → x = .map es0 := by
    intro x hx; simp [Hp.push, Tr.get_set] at hx; exact hx.symm
  have hren : ∀ b L, (ρ.add h.sz ⟨w.heap.size, 0, 0, 0⟩) b = some L → (b = h.sz ∧ L = ⟨w.heap.size, 0, 0, 0⟩) ∨ (b ≠ h.sz ∧ ρ b = some L) := by
    intro b L hb; simp only [Ren.add] at hb; split at hb
    · left; exact ⟨by assumption, by simpa using hb.symm⟩
    · right; exact ⟨by assumption, hb⟩
  refine ⟨⟨?_, ?_, ?_, ?_, ?_, ?_, ?_, ?_⟩, ⟨?_, ?_, rfl, ?_, ?_, ?_, hio⟩⟩
  · intro b L hb
    rcases hren b L hb with ⟨rfl, _⟩ | ⟨_, hb⟩
    · exact Nat.lt_succ_self _
    · exact Nat.lt_succ_of_lt (r.dom b L hb)
  · intro b L e' wf' af' cs' hb hg
    rcases hren b L hb with ⟨rfl, rfl⟩ | ⟨hne, hb⟩
    · cases hget' _ hg
    · have hg' := hget _ _ hg hne
      obtain ⟨h1, c', ty', fz, h2, h3, h4, h5, h6⟩ := r.cells b L e' wf' af' cs' hb hg'
      refine ⟨h1, c', ty', fz, ?_, h3, h4, ?_, h6⟩
      · rw [hold _ (hwf b L hb _ hg' (by simp))]; exact h2
      · intro j v hv; obtain ⟨v', h7, h8⟩ := h5 j v hv; exact ⟨v', h7, h8.mono hext⟩
  · intro b L es hb hg
    rcases hren b L hb with ⟨rfl, rfl⟩ | ⟨hne, hb⟩
    · cases hget' _ hg
      exact ⟨rfl, o, hnew, hes _⟩
    · have hg' := hget _ _ hg hne
      obtain ⟨h0, ob, h2, h3⟩ := r.maps b L es hb hg'
      refine ⟨h0, ob, ?_, h3.mono hext⟩
      rw [hold _ (hwf b L hb _ hg' (by simp))]; exact h2
  · intro b L e' af' cs' hb hg b' L' x hb' hx hd he
    rcases hren b L hb with ⟨rfl, rfl⟩ | ⟨hne, hb1⟩ <;> rcases hren b' L' hb' with ⟨rfl, rfl⟩ | ⟨hne', hb'⟩
    · rfl
    · have := hwf b' L' hb' _ (hget _ _ hx hne') hd; simp only at he; omega
    · have := hwf b L hb1 _ (hget _ _ hg hne) (by simp); simp only at he; omega
    · exact r.excl b L e' af' cs' hb1 (hget _ _ hg hne) b' L' x hb' (hget _ _ hx hne') hd he
  · intro b L es hb hg b' L' x hb' hx hd he
    rcases hren b L hb with ⟨rfl, rfl⟩ | ⟨hne, hb1⟩ <;> rcases hren b' L' hb' with ⟨rfl, rfl⟩ | ⟨hne', hb'⟩
    · rfl
    · have := hwf b' L' hb' _ (hget _ _ hx hne') hd; simp only at he; omega
    · have := hwf b L hb1 _ (hget _ _ hg hne) (by simp); simp only at he; omega
    · exact r.exclm b L es hb1 (hget _ _ hg hne) b' L' x hb' (hget _ _ hx hne') hd he
  · intro b L e' wf' cs' hb hg b' L' e2 wf2 af2 cs2 hb' hx he
    rcases hren b L hb with ⟨rfl, rfl⟩ | ⟨hne, hb1⟩ <;> rcases hren b' L' hb' with ⟨rfl, rfl⟩ | ⟨hne', hb'⟩
    · cases hget' _ hg
    · cases hget' _ hg
    · cases hget' _ hx
    · exact r.app b L e' wf' cs' hb1 (hget _ _ hg hne) b' L' e2 wf2 af2 cs2 hb' (hget _ _ hx hne') he
  · intro b L hb hf
    rcases hren b L hb with ⟨rfl, rfl⟩ | ⟨_, hb⟩
    · exact r.base
    · exact r.flr b L hb hf
  · exact Nat.le_trans r.base hsz
  · intro b hb; simp only [Ren.add]; rw [if_neg (by omega)]
  · exact Nat.le_succ _
  · intro b _ hb; simp only [Hp.push, Tr.get_set]; rw [if_neg (by omega)]
  · intro k hk; exact hold k (Nat.lt_of_lt_of_le hk r.base)
  · exact hsz

theorem Rel.putMap {B : Nat} {h : Hp} {w w' : World} (r : Rel σ ρ B h w) {b : Nat} {L : Loc} {es es' : List (AV × AV)} (hb : ρ b = some L) (hg : h.tr.get b = some (.map es)) (hf : h.fl ≤ b)
    {o : Obj} (ho : w.heap[L.blk]? = some o) {o' : Obj} (hes : ObjR σ ρ es' o') (hw : w'.heap = w.heap.setIfInBounds L.blk o') (hio : w'.os = w.os ∧ w'.output = w.output) :
    Rel σ ρ B (h.put b (.map es')) w' ∧ Kept ρ B h w ρ (h.put b (.map es')) w' := by
  have hlt : L.blk < w.heap.size := (Array.getElem?_eq_some_iff.1 ho).1
  have hold : ∀ k, k ≠ L.blk → w'.heap[k]? = w.heap[k]? := by
    intro k hk; rw [hw, Array.getElem?_setIfInBounds]; rw [if_neg (by omega)]
  have hnew : w'.heap[L.blk]? = some o' := by rw [hw, Array.getElem?_setIfInBounds]; simp [hlt]
  have hget : ∀ b' x, (h.put b (.map es')).tr.get b' = some x → b' ≠ b → h.tr.get b' = some x := by
    intro b' x hx hne; simp only [Hp.put, Tr.get_set] at hx; rwa [if_neg hne] at hx
  have hgb : ∀ x, (h.put b (.map es')).tr.get b = some x → x = .map es' := by
    intro x hx; simp [Hp.put, Tr.get_set] at hx; exact hx.symm
  have hother : ∀ b' L' x, ρ b' = some L' → h.tr.get b' = some x → x ≠ .dead → b' ≠ b → L'.blk ≠ L.blk :=
    fun b' L' x hb' hx hd hne he => hne (r.exclm b L es hb hg b' L' x hb' hx hd he)
  refine ⟨⟨r.dom, ?_, ?_, ?_, ?_, ?_, r.flr, ?_⟩, ⟨fun _ _ => rfl, Nat.le_refl _, rfl, ?_, ?_, ?_, hio⟩⟩
  · intro b' L' e' wf' af' cs' hb' hg'
    by_cases hne : b' = b
    · subst hne; cases hgb _ hg'
    · have hg2 := hget _ _ hg' hne
      obtain ⟨h1, c, ty, fz, h2, h3⟩ := r.cells b' L' e' wf' af' cs' hb' hg2
      exact ⟨h1, c, ty, fz, by rw [hold _ (hother b' L' _ hb' hg2 (by simp) hne)]; exact h2, h3⟩
  · intro b' L' es2 hb' hg'
    by_cases hne : b' = b
    · subst hne
      rw [hb] at hb'; cases hb'
      cases hgb _ hg'
      exact ⟨(r.maps _ _ _ hb hg).1, o', hnew, hes⟩
    · have hg2 := hget _ _ hg' hne
      obtain ⟨h1, ob, h2, h3⟩ := r.maps b' L' es2 hb' hg2
      exact ⟨h1, ob, by rw [hold _ (hother b' L' _ hb' hg2 (by simp) hne)]; exact h2, h3⟩
  · intro b1 L1 e1 af1 cs1 hb1 hg1 b2 L2 x hb2 hx hd he2
    by_cases m1 : b1 = b
    · subst m1; cases hgb _ hg1
    · have hg1' := hget _ _ hg1 m1
      by_cases m2 : b2 = b
      · subst m2; rw [hb] at hb2; cases hb2
        exact absurd he2.symm (hother b1 L1 _ hb1 hg1' (by simp) m1)
      · exact r.excl b1 L1 e1 af1 cs1 hb1 hg1' b2 L2 x hb2 (hget _ _ hx m2) hd he2
  · intro b1 L1 es1 hb1 hg1 b2 L2 x hb2 hx hd he2
    by_cases m1 : b1 = b
    · subst m1; rw [hb] at hb1; cases hb1
      by_cases m2 : b2 = b1
      · exact m2
      · exact absurd he2 (hother b2 L2 x hb2 (hget _ _ hx m2) hd m2)
    · have hg1' := hget _ _ hg1 m1
      by_cases m2 : b2 = b
      · subst m2; rw [hb] at hb2; cases hb2
        exact absurd he2.symm (hother b1 L1 _ hb1 hg1' (by simp) m1)
      · exact r.exclm b1 L1 es1 hb1 hg1' b2 L2 x hb2 (hget _ _ hx m2) hd he2
  · intro b1 L1 e1 wf1 cs1 hb1 hg1 b2 L2 e2 wf2 af2 cs2 hb2 hg2 he2
    by_cases m1 : b1 = b
    · subst m1; cases hgb _ hg1
    · by_cases m2 : b2 = b
      · subst m2; cases hgb _ hg2
      · exact r.app b1 L1 e1 wf1 cs1 hb1 (hget _ _ hg1 m1) b2 L2 e2 wf2 af2 cs2 hb2 (hget _ _ hg2 m2) he2
  · rw [hw, Array.size_setIfInBounds]; exact r.base
  · intro b' hb' hs'; simp only [Hp.put, Tr.get_set]; rw [if_neg (by omega)]
  · intro k hk; exact hold k (by have := r.flr b L hb hf; omega)
  · rw [hw, Array.size_setIfInBounds]; exact Nat.le_refl _

/-! ### keys -/
theorem EntsR.cons {e : AV × AV} {es : List (AV × AV)} {vs : List MapEntry} (h : EntsR σ ρ (e :: es) vs) : ∃ v us, vs = v :: us ∧ VR σ ρ e.1 v.key ∧ VR σ ρ e.2 v.val ∧ EntsR σ ρ es us := by
  cases vs with
  | nil => cases h.1
  | cons v us =>
    obtain ⟨v', h1, h2, h3⟩ := h.2 0 e rfl
    simp at h1; subst h1
    exact ⟨v, us, rfl, h2, h3, by simpa using h.1, fun j e' he => by simpa using h.2 (j + 1) e' (by simpa using he)⟩
theorem EntsR.mk {e : AV × AV} {es : List (AV × AV)} {v : MapEntry} {us : List MapEntry} (h1 : VR σ ρ e.1 v.key) (h2 : VR σ ρ e.2 v.val) (h : EntsR σ ρ es us) : EntsR σ ρ (e :: es) (v :: us) := by
  refine ⟨by simp [h.1], fun j e' he => ?_⟩
  cases j with
  | zero => simp at he; subst he; exact ⟨v, rfl, h1, h2⟩
  | succ j => simpa using h.2 j e' (by simpa using he)
theorem EntsR.nil : EntsR σ ρ [] [] := ⟨rfl, fun j e' he => by simp at he⟩

def kdOf : Option IntKind → TypeDesc
  | none => .string
  | some q => .int q
theorem key_ok {orc : Orc} (horc : OrcOk P σ orc) {kd : Option IntKind} {i : AV} {i' : Value} {p : Prop} (hi : VR σ ρ i i') (h : keyK orc kd i p) : MapKept.IsKey (kdOf kd) i' ∧ p := by
  unfold keyK at h
  split at h
  · have := hi.un_s; subst this
    cases kd
    · exact ⟨trivial, h⟩
    · exact h.elim
  · have := hi.un_i; subst this
    cases kd
    · exact h.elim
    · obtain ⟨h1, h2⟩ := (whenK_iff _ _).1 h
      exact ⟨(of_decide_eq_true h1).symm, h2⟩
  · rename_i j
    cases kd
    · cases hl : orc.len j with
      | none => simp only [hl] at h; exact h.elim
      | some r =>
        simp only [hl] at h
        obtain ⟨s, h1, _⟩ := horc.len j r hl
        have := hi.un_sym
        rw [this, h1]
        exact ⟨trivial, h⟩
    · exact h.elim
  · exact h.elim
theorem keyEq_ok {orc : Orc} (horc : OrcOk P σ orc) {kd : Option IntKind} {x y : AV} {x' y' : Value} (hx : VR σ ρ x x') (hy : VR σ ρ y y') (hk : MapKept.IsKey (kdOf kd) x') {k : Bool → Prop} (h : keyEqK orc x y k) :
    ∃ b, k b ∧ Instr.sameNow (kdOf kd) x' y' = some b := by
  unfold keyEqK at h
  split at h
  · rename_i c
    have ey := hy.un_s; subst ey
    split at h
    · rename_i a
      have ex := hx.un_s; subst ex
      rw [forceB_eq] at h
      cases kd
      · refine ⟨_, h, ?_⟩
        show some ((⟨a.toArray⟩ : ByteArray) == ⟨c.toArray⟩) = _
        rw [eqS_eq]
        congr 1
        rw [Bool.eq_iff_iff, MapKept.bytes_beq, beq_iff_eq]
        constructor
        · intro e; have := congrArg (fun b => b.data.toList) e; simpa using this
        · intro e; rw [e]
      · exact hk.elim
    · rename_i j
      cases hl : orc.len j with
      | none => simp only [hl] at h; exact h.elim
      | some lv =>
      simp only [hl] at h
      have h : orcK (orc.bin .eql (.sym j) (.s c)) (fun v => unB v k) := h
      cases hb : orc.bin .eql (.sym j) (.s c) with
      | none => simp only [hb] at h; exact h.elim
      | some r =>
        simp only [hb] at h
        obtain ⟨r', h1, h2⟩ := horc.bin _ _ _ _ hb ρ x' _ hx hy
        have h' : unB r k := h
        unfold unB at h'
        split at h' <;> try exact h'.elim
        rename_i b
        cases kd
        · cases x' <;> try exact hk.elim
          rename_i s
          have h3 := h2 P 0 (default : World)
          cases h1
          refine ⟨b, h', ?_⟩
          simp [binOp, Op.stringOp] at h3
          show some (s == (⟨c.toArray⟩ : ByteArray)) = some b
          rw [← h3]
          congr 1
          rw [Bool.eq_iff_iff, MapKept.bytes_beq, beq_iff_eq]
          constructor
          · intro e; rw [e, ByteArray.toList_eq]
          · intro e
            rw [ByteArray.toList_eq] at e
            rw [← e]
        · obtain ⟨s, h3, _⟩ := horc.len j lv hl
          rw [hx.un_sym, h3] at hk
          exact hk.elim
    · exact h.elim
  · rename_i q n
    have ey := hy.un_i; subst ey
    split at h <;> try exact h.elim
    rename_i q' m
    have ex := hx.un_i; subst ex
    obtain ⟨h1, h2⟩ := (whenK_iff _ _).1 h
    have h1 := of_decide_eq_true h1
    subst h1
    rw [forceB_eq] at h2
    cases kd
    · exact hk.elim
    · refine ⟨_, h2, ?_⟩
      have hk' : q' = _ := hk
      subst hk'
      simp [kdOf, Instr.sameNow, eqI_eq]
  · exact h.elim
theorem find_ok {orc : Orc} (horc : OrcOk P σ orc) {kd : Option IntKind} {i : AV} {i' : Value} (hi : VR σ ρ i i') (hk : MapKept.IsKey (kdOf kd) i') :
    ∀ {es : List (AV × AV)} {vs : List MapEntry} (n : Nat), EntsR σ ρ es vs → ∀ {k : Option AV → Prop}, findK orc i es k →
      (k none ∧ Instr.findNow (kdOf kd) i' vs n = some none) ∨ ∃ v m u, k (some v) ∧ VR σ ρ v u ∧ Instr.findNow (kdOf kd) i' vs n = some (some (m, u))
  | [], vs, n, he, k, h => by
    have : vs = [] := List.length_eq_zero_iff.1 he.1.symm
    subst this
    exact .inl ⟨h, rfl⟩
  | e :: es, vs, n, he, k, h => by
    obtain ⟨v, us, rfl, h1, h2, h3⟩ := he.cons
    have h' : keyEqK orc i e.1 (fun r => Bool.rec (motive := fun _ => Prop) (findK orc i es k) (k (some e.2)) r) := h
    obtain ⟨b, h4, h5⟩ := keyEq_ok horc hi h1 hk h'
    cases b with
    | true => exact .inr ⟨e.2, n, v.val, h4, h2, by simp [Instr.findNow, h5]⟩
    | false =>
      rcases find_ok horc hi hk (n + 1) h3 h4 with ⟨h6, h7⟩ | ⟨x, m, u, h6, h7, h8⟩
      · exact .inl ⟨h6, by simp [Instr.findNow, h5, h7]⟩
      · exact .inr ⟨x, m, u, h6, h7, by simp [Instr.findNow, h5, h8]⟩
/-- an entry more, or one written over -/
theorem upd_ok {orc : Orc} (horc : OrcOk P σ orc) {kd : Option IntKind} {i x : AV} {i' x' : Value} (hu : i ≠ .undef) (hi : VR σ ρ i i') (hx : VR σ ρ x x') (hk : MapKept.IsKey (kdOf kd) i') :
    ∀ {es : List (AV × AV)} {vs : List MapEntry} (n : Nat), EntsR σ ρ es vs → ∀ {k : List (AV × AV) → Prop}, updK orc i x es k →
      (∃ es', k es' ∧ (NoIt es → NoIt es') ∧ Instr.findNow (kdOf kd) i' vs n = some none ∧ ∀ born, EntsR σ ρ es' (vs ++ [⟨i', x', born⟩])) ∨
        ∃ es' j e, k es' ∧ (NoIt es → NoIt es') ∧ vs[j]? = some e ∧ Instr.findNow (kdOf kd) i' vs n = some (some (n + j, e.val)) ∧ Instr.sameNow (kdOf kd) i' e.key = some true ∧ EntsR σ ρ es' (vs.set j { e with key := i', val := x' })
  | [], vs, n, he, k, h => by
    have : vs = [] := List.length_eq_zero_iff.1 he.1.symm
    subst this
    exact .inl ⟨[(i, x)], h, (fun _ e he => by cases he; exact hu), rfl, fun born => EntsR.mk hi hx EntsR.nil⟩
  | e :: es, vs, n, he, k, h => by
    obtain ⟨v, us, rfl, h1, h2, h3⟩ := he.cons
    have h' : keyEqK orc i e.1 (fun r => Bool.rec (motive := fun _ => Prop) (updK orc i x es (fun l => k (e :: l))) (k ((i, x) :: es)) r) := h
    obtain ⟨b, h4, h5⟩ := keyEq_ok horc hi h1 hk h'
    cases b with
    | true => exact .inr ⟨(i, x) :: es, 0, v, h4, (fun _ e he => by cases he; exact hu), rfl, by simp [Instr.findNow, h5], h5, by simpa using EntsR.mk (v := { v with key := i', val := x' }) hi hx h3⟩
    | false =>
      rcases upd_ok horc hu hi hx hk (n + 1) h3 h4 with ⟨es', h6, _, h7, h8⟩ | ⟨es', j, e', h6, _, h7, h8, h9, h10⟩
      · exact .inl ⟨e :: es', h6, (fun hh e' he => by cases he; exact hh _ rfl), by simp [Instr.findNow, h5, h7], fun born => EntsR.mk h1 h2 (h8 born)⟩
      · exact .inr ⟨e :: es', j + 1, e', h6, (fun hh e' he => by cases he; exact hh _ rfl), by simpa using h7, by simp [Instr.findNow, h5, h8]; omega, h9, by simpa using EntsR.mk h1 h2 h10⟩
theorem same_bits {kd : Option IntKind} {a b : Value} (ha : MapKept.IsKey (kdOf kd) a) (h : Instr.sameNow (kdOf kd) a b = some true) : ∀ n, Instr.sameBits n b a = true := by
  intro n
  cases kd
  · cases a <;> try exact ha.elim
    cases b <;> simp [kdOf, Instr.sameNow] at h
    rename_i s s'
    cases n <;> simp [Instr.sameBits, (MapKept.bytes_beq _ _).1 h, MapKept.bytes_beq]
  · cases a <;> try exact ha.elim
    cases b <;> simp [kdOf, Instr.sameNow] at h
    obtain ⟨h1, h2⟩ := h
    cases n <;> simp [Instr.sameBits, h1, h2]

theorem mapOf_some {t k e : TypeId} (h : mapOf P t = some (k, e)) : P.underlying t = some (.map k e) := by
  unfold mapOf at h; split at h
  · simp at h; obtain ⟨rfl, rfl⟩ := h; assumption
  · cases h
theorem keyKind_some {t : TypeId} {kd : Option IntKind} (h : keyKind P t kd = true) : P.underlying t = some (kdOf kd) := by
  unfold keyKind at h; split at h
  · assumption
  · obtain rfl := of_decide_eq_true h; assumption
  · cases h
theorem chkKey_some {t : TypeId} {kd : Option IntKind} (h : chkKey P t kd = true) : ∃ k e, mapOf P t = some (k, e) ∧ P.underlying t = some (.map k e) ∧ P.underlying k = some (kdOf kd) := by
  unfold chkKey at h; split at h
  · rename_i k e he; exact ⟨k, e, he, mapOf_some he, keyKind_some h⟩
  · cases h
theorem chkZ1_some {t : TypeId} {z : AV} (h : chkZ1 P t z = true) : ∃ i v, P.info? t = some i ∧ i.zero = some v ∧ VR σ ρ z v := by
  unfold chkZ1 at h; split at h
  · rename_i i hi; split at h
    · rename_i v hv; exact ⟨i, v, hi, hv, vrc_ok _ _ h⟩
    · cases h
  · cases h
theorem VR.un_nilm {v : Value} (h : VR σ ρ .nilm v) : v = .map none := by cases h; rfl
theorem mapK_get {h : Hp} {b : Nat} {k : List (AV × AV) → Prop} (hk : mapK h b k) : ∃ es, h.tr.get b = some (.map es) ∧ NoIt es ∧ k es := by
  obtain ⟨x, h1, h2⟩ := (Tr.getK_iff _ _ _).1 hk
  cases x with
  | cells => exact h2.elim
  | dead => exact h2.elim
  | map es => exact ⟨es, h1, isMapK_iff.1 h2⟩
section ops
variable {B : Nat} {h : Hp} {w : World} {a : Act} {t : Tr AV} {orc : Orc} {k : AV → Hp → Prop} {o : Oper}

theorem mkM_ok (r : Rel σ ρ B h w) {ty : TypeId} {rs : Option Operand} (ho : o.op = .makeMap ty rs) (hc : rs = none ∨ ∃ q n, rs = some (.const (.int q n)) ∧ (mapOf P ty).isSome = true) (hk : opK orc .mkM t h k) : Res P σ ρ B h w (execOp a.eval o) k := by
  have h1 : k (.map h.sz) (h.push (.map [])) := (newK_iff h (.map []) (fun b h' => k (.map b) h')).1 hk
  obtain ⟨r1, k1⟩ := r.newMap (w' := w.alloc (.map #[] 0)) (es0 := []) (fun _ => .inl ⟨(by intro e he; cases he), #[], 0, rfl, EntsR.nil⟩) rfl ⟨rfl, rfl⟩
  refine ⟨.map h.sz, .map (some w.heap.size), _, _, w.alloc (.map #[] 0), h1, .inl ?_, .map _ _ (Ren.add_self _ _ _) rfl, r1, k1⟩
  rcases hc with rfl | ⟨q, n, rfl, hm⟩
  · have e : (Instr.makeMap ty none).run P w = .ok (.map (some w.heap.size)) (w.alloc (.map #[] 0)) := rfl
    simp [execOp, ho, e]
  · obtain ⟨⟨k', e'⟩, hm⟩ := Option.isSome_iff_exists.1 hm
    have e : (Instr.makeMap ty (some (.int q n))).run P w = .ok (.map (some w.heap.size)) (w.alloc (.map #[] 0)) := by
      simp [Instr.makeMap, und_run (mapOf_some hm), asInt]
      rfl
    simp [execOp, ho, Act.eval, e]

theorem lookup_some {ty key elem : TypeId} {kd : Option IntKind} (h4 : P.underlying ty = some (.map key elem)) (h5 : P.underlying key = some (kdOf kd)) {x i : Value} {vs : Array MapEntry} (hx : (x = .map none ∧ vs = #[]) ∨ (∃ b clk, x = .map (some b) ∧ w.heap[b]? = some (.map vs clk)))
    (g5 : MapKept.IsKey (kdOf kd) i) {n : Nat} {u : Value} (hf : Instr.findNow (kdOf kd) i vs.toList 0 = some (some (n, u))) (ok : Bool) : (Instr.lookup ty x i ok).run P w = .ok (if ok then .tuple #[u, .bool true] else u) w := by
  rcases hx with ⟨rfl, rfl⟩ | ⟨b, clk, rfl, e2⟩
  · simp [Instr.lookup, und_run h4, MapKept.run_checkKey h5 g5, MapKept.run_findKey h5 hf]
  · simp [Instr.lookup, und_run h4, MapKept.run_getObj_map e2, MapKept.run_checkKey h5 g5, MapKept.run_findKey h5 hf]
theorem lookup_none {ty key elem : TypeId} {kd : Option IntKind} (h4 : P.underlying ty = some (.map key elem)) (h5 : P.underlying key = some (kdOf kd)) {x i : Value} {vs : Array MapEntry} (hx : (x = .map none ∧ vs = #[]) ∨ (∃ b clk, x = .map (some b) ∧ w.heap[b]? = some (.map vs clk)))
    (g5 : MapKept.IsKey (kdOf kd) i) (hf : Instr.findNow (kdOf kd) i vs.toList 0 = some none) {info : TypeInfo} {zv : Value} (h6 : P.info? elem = some info) (h7 : info.zero = some zv) (ok : Bool) : (Instr.lookup ty x i ok).run P w = .ok (if ok then .tuple #[zv, .bool false] else zv) w := by
  rcases hx with ⟨rfl, rfl⟩ | ⟨b, clk, rfl, e2⟩
  · simp [Instr.lookup, und_run h4, MapKept.run_checkKey h5 g5, MapKept.run_findKey h5 hf, zero_run h6 h7]
  · simp [Instr.lookup, und_run h4, MapKept.run_getObj_map e2, MapKept.run_checkKey h5 g5, MapKept.run_findKey h5 hf, zero_run h6 h7]
theorem lookM_ok (horc : OrcOk P σ orc) (r : Rel σ ρ B h w) (ht : TR σ ρ t a.tmps) {kd : Option IntKind} {ok : Bool} {z : AV} {x i : O} {x' i' : Operand} {ty : TypeId} (ho : o.op = .lookup ty x' i' ok) (hc1 : chkO x' x = true) (hc2 : chkO i' i = true)
    (h1 : chkKey P ty kd = true) (h2 : (match mapOf P ty with | some (_, e) => chkZ1 P e z | none => false) = true) (hk : opK orc (.lookM kd ok z x i) t h k) : Res P σ ρ B h w (execOp a.eval o) k := by
  obtain ⟨key, elem, h3, h4, h5⟩ := chkKey_some h1
  rw [h3] at h2
  obtain ⟨info, zv, h6, h7, h8⟩ := chkZ1_some (σ := σ) (ρ := ρ) h2
  obtain ⟨u, g1, g2⟩ := ev_ok ht hc1 hk
  obtain ⟨iv, g3, g4⟩ := ev_ok ht hc2 g1
  obtain ⟨g5, g6⟩ := key_ok horc g4 g3
  have fin : ∀ {vs : Array MapEntry} {m : Option AV}, (a.eval x' = .map none ∧ vs = #[]) ∨ (∃ b clk, a.eval x' = .map (some b) ∧ w.heap[b]? = some (.map vs clk)) → ansM ok z m (fun v => k v h) →
      ((m = none ∧ Instr.findNow (kdOf kd) (a.eval i') vs.toList 0 = some none) ∨ ∃ v n u, m = some v ∧ VR σ ρ v u ∧ Instr.findNow (kdOf kd) (a.eval i') vs.toList 0 = some (some (n, u))) → Res P σ ρ B h w (execOp a.eval o) k := by
    intro vs m hx ha hf
    rcases hf with ⟨rfl, hf⟩ | ⟨v, n, u, rfl, hv, hf⟩
    · cases ok
      · refine Res.pure r (v := z) ha (v' := zv) ?_ h8
        simp [execOp, ho, lookup_none h4 h5 hx g5 hf h6 h7]
      · refine Res.pure r (v := .tup [z, .b false]) ha (v' := .tuple #[zv, .bool false]) ?_ (.tup _ _ (.cons _ _ _ _ h8 (.cons _ _ _ _ (.b _) .nil)))
        simp [execOp, ho, lookup_none h4 h5 hx g5 hf h6 h7]
    · cases ok
      · refine Res.pure r (v := v) ha (v' := u) ?_ hv
        simp [execOp, ho, lookup_some h4 h5 hx g5 hf]
      · refine Res.pure r (v := .tup [v, .b true]) ha (v' := .tuple #[u, .bool true]) ?_ (.tup _ _ (.cons _ _ _ _ hv (.cons _ _ _ _ (.b _) .nil)))
        simp [execOp, ho, lookup_some h4 h5 hx g5 hf]
  cases u <;> try exact g6.elim
  · exact fin (.inl ⟨g2.un_nilm, rfl⟩) g6 (.inl ⟨rfl, rfl⟩)
  · rename_i b
    obtain ⟨es, e1, e0, e2⟩ := mapK_get g6
    obtain ⟨L, e3, e4, e5⟩ := g2.un_map
    obtain ⟨e6, ob, e7, e9⟩ := r.maps b L es e3 e1
    obtain ⟨vs, clk, rfl, e8⟩ := e9.map e0
    rcases find_ok horc g4 g5 0 e8 e2 with ⟨f1, f2⟩ | ⟨v, m, u, f1, f2, f3⟩
    · exact fin (.inr ⟨_, clk, e5, e7⟩) f1 (.inl ⟨rfl, f2⟩)
    · exact fin (.inr ⟨_, clk, e5, e7⟩) f1 (.inr ⟨v, m, u, rfl, f2, f3⟩)

theorem updM_ok (horc : OrcOk P σ orc) (r : Rel σ ρ B h w) (ht : TR σ ρ t a.tmps) {kd : Option IntKind} {x i v : O} {x' i' v' : Operand} {ty : TypeId} (ho : o.op = .mapUpdate ty x' i' v' ∨ o.op = .insert ty x' i' v') (hc1 : chkO x' x = true) (hc2 : chkO i' i = true) (hc3 : chkO v' v = true)
    (h1 : chkKey P ty kd = true) (hk : opK orc (.updM kd x i v) t h k) : Res P σ ρ B h w (execOp a.eval o) k := by
  obtain ⟨key, elem, h3, h4, h5⟩ := chkKey_some h1
  obtain ⟨u, g1, g2⟩ := ev_ok ht hc1 hk
  obtain ⟨iv, g3, g4⟩ := ev_ok ht hc2 g1
  obtain ⟨vv, g7, g8⟩ := ev_ok ht hc3 g3
  obtain ⟨g5, g6⟩ := key_ok horc g4 g7
  cases u <;> try exact g6.elim
  rename_i b
  obtain ⟨es, e1, e0, e2⟩ := mapK_get g6
  obtain ⟨L, e3, e4, e5⟩ := g2.un_map
  obtain ⟨e6, ob, e7, e9⟩ := r.maps b L es e3 e1
  obtain ⟨vs, clk, rfl, e8⟩ := e9.map e0
  have exec : ∀ {w' : World}, (Instr.mapUpdate ty (a.eval x') (a.eval i') (a.eval v')).run P w = .ok () w' → (execOp a.eval o).run P w = .ok .skip w' := by
    intro w' hr
    rcases ho with ho | ho <;> simp [execOp, ho, hr]
  have hu : iv ≠ .undef := by rintro rfl; exact g7.elim
  rcases upd_ok horc hu g4 g8 g5 0 e8 e2 with ⟨es', f1, f0, f2, f3⟩ | ⟨es', j, e, f1, f0, f2, f3, f4, f5⟩
  · obtain ⟨f6, f7⟩ := (putK_iff _ _ _ _).1 f1
    obtain ⟨r1, k1⟩ := r.putMap (w' := { w with heap := w.heap.setIfInBounds L.blk (.map (vs.push ⟨a.eval i', a.eval v', clk⟩) (clk + 1)) }) e3 e1 f6 e7 (.inl ⟨f0 e0, _, _, rfl, by rw [Array.toList_push]; exact f3 clk⟩) rfl ⟨rfl, rfl⟩
    refine ⟨.undef, undef, _, _, _, f7, .inr ⟨exec ?_, rfl⟩, .undef _, r1, k1⟩
    simp [Instr.mapUpdate, und_run h4, e5, MapKept.run_getObj_map e7, MapKept.run_checkKey h5 g5, MapKept.run_findKey h5 f2, MapKept.run_setObj_map _ e7]
  · obtain ⟨f6, f7⟩ := (putK_iff _ _ _ _).1 f1
    have hm : (vs.modify j fun e => { e with key := a.eval i', val := a.eval v' }).toList = vs.toList.set j { e with key := a.eval i', val := a.eval v' } := by
      have hj : vs[j]? = some e := by simpa using f2
      have hlt : j < vs.size := (Array.getElem?_eq_some_iff.1 hj).1
      apply List.ext_getElem?
      intro n
      rw [List.getElem?_set, Array.getElem?_toList, Array.getElem?_modify]
      by_cases hn : j = n
      · subst hn
        simp only [hlt, Array.length_toList, if_true, hj, Option.map_some]
      · simp only [hn, if_false, Array.getElem?_toList]
    obtain ⟨r1, k1⟩ := r.putMap (w' := { w with heap := w.heap.setIfInBounds L.blk (.map (vs.modify j fun e => { e with key := a.eval i', val := a.eval v' }) clk) }) e3 e1 f6 e7 (.inl ⟨f0 e0, _, _, rfl, by rw [hm]; exact f5⟩) rfl ⟨rfl, rfl⟩
    refine ⟨.undef, undef, _, _, _, f7, .inr ⟨exec ?_, rfl⟩, .undef _, r1, k1⟩
    have hj : vs[j]? = some e := by simpa using f2
    have f3' : Instr.findNow (kdOf kd) (a.eval i') vs.toList 0 = some (some (j, e.val)) := by simpa using f3
    simp [Instr.mapUpdate, und_run h4, e5, MapKept.run_getObj_map e7, MapKept.run_checkKey h5 g5, MapKept.run_findKey h5 f3', hj, Instr.keyThatStays, same_bits g5 f4, MapKept.run_setObj_map _ e7]

theorem lenM_ok (r : Rel σ ρ B h w) (ht : TR σ ρ t a.tmps) {x : O} {y : Operand} {ty : TypeId} {args : Array TypeId} {ops : Array Operand} (ho : o.op = .call ⟨.builtin .len, ops, args⟩) (hops : ops.toList = [y]) (hr : args[0]? = some ty) (h1 : (mapOf P ty).isSome = true) (hc : chkO y x = true) (hk : opK orc (.lenM x) t h k) : Res P σ ρ B h w (execOp a.eval o) k := by
  obtain ⟨v, h2, h3⟩ := ev_ok ht hc hk
  obtain rfl : ops = #[y] := by cases ops; simpa using hops
  obtain ⟨⟨key, elem⟩, hm⟩ := Option.isSome_iff_exists.1 h1
  have hu := mapOf_some hm
  cases v <;> try exact h2.elim
  · have e' := h3.un_nilm
    exact Res.pure r (v := .i .i64 0) h2 (by simp [execOp, ho, resolve, invoke, builtin, Builtin.len_, hr, und_run hu, e', goInt]) (.i _ _)
  · rename_i b
    obtain ⟨es, e1, e0, e2⟩ := mapK_get h2
    obtain ⟨L, e3, e4, e5⟩ := h3.un_map
    obtain ⟨e6, ob, e7, e11⟩ := r.maps b L es e3 e1
    obtain ⟨vs, clk, rfl, e8⟩ := e11.map e0
    have e9 := (lenEK_iff _ _).1 e2
    have e10 : vs.size = es.length := by have := e8.1; simpa using this.symm
    exact Res.pure r (v := .i .i64 (Int.ofNat es.length)) e9 (by simp [execOp, ho, resolve, invoke, builtin, Builtin.len_, hr, und_run hu, e5, goInt, MapKept.run_getObj_map e7, e10]) (.i _ _)

theorem min_ok (r : Rel σ ρ B h w) (ht : TR σ ρ t a.tmps) {x y : O} {x' y' : Operand} {args : Array TypeId} {ops : Array Operand} (ho : o.op = .call ⟨.builtin .min, ops, args⟩) (hops : ops.toList = [x', y']) (hc : chkO x' x = true) (hc2 : chkO y' y = true) (hk : opK orc (.min x y) t h k) : Res P σ ρ B h w (execOp a.eval o) k := by
  obtain ⟨u, h1, h2⟩ := ev_ok ht hc hk
  obtain ⟨v, h3, h4⟩ := ev_ok ht hc2 h1
  obtain rfl : ops = #[x', y'] := by cases ops; simpa using hops
  obtain ⟨q, n, h5, h6⟩ := unI_ok h2 h3
  obtain ⟨q', m, h7, h8⟩ := unI_ok h4 h6
  have hrun : (execOp a.eval o).run P w = .ok (.value (.int q (if m < n then m else n))) w := by
    simp [execOp, ho, resolve, invoke, builtin, Builtin.min_, Builtin.min2, h5, h7]
  rw [ltI_eq] at h8
  by_cases hlt : m < n
  · simp only [hlt, decide_true] at h8
    exact Res.pure r h8 (by rw [hrun, if_pos hlt]) (.i _ _)
  · simp only [hlt, decide_false] at h8
    exact Res.pure r h8 (by rw [hrun, if_neg hlt]) (.i _ _)

theorem rangeS_ok (r : Rel σ ρ B h w) (ht : TR σ ρ t a.tmps) {x : O} {y : Operand} {ty : TypeId} (ho : o.op = .range ty y) (hc : chkO y x = true) (hs : isStrT P ty = true) (hk : opK orc (.rangeS x) t h k) : Res P σ ρ B h w (execOp a.eval o) k := by
  obtain ⟨v, h1, h2⟩ := ev_ok ht hc hk
  cases v <;> try exact h1.elim
  rename_i l
  have e' := h2.un_s
  have h3 : k (.ptr h.sz 0) (h.push (.map (iterE l 0))) := (newK_iff h (.map (iterE l 0)) (fun b h' => k (.ptr b 0) h')).1 h1
  obtain ⟨r1, k1⟩ := r.newMap (w' := w.alloc (.stringIter ⟨l.toArray⟩ 0)) (es0 := iterE l 0) (fun _ => .inr ⟨l, 0, rfl, rfl⟩) rfl ⟨rfl, rfl⟩
  refine ⟨.ptr h.sz 0, .pointer (some ⟨w.heap.size, 0, none⟩), _, _, w.alloc (.stringIter ⟨l.toArray⟩ 0), h3, .inl ?_, .ptr _ _ _ (Ren.add_self _ _ _), r1, k1⟩
  have hn : (newObj (.stringIter ⟨l.toArray⟩ 0)).run P w = .ok w.heap.size (w.alloc (.stringIter ⟨l.toArray⟩ 0)) := rfl
  simp [execOp, ho, Instr.range, und_run (isStrT_some hs), e', hn]

theorem run_getObj_iter {r : Nat} {s : ByteArray} {n : Nat} (hb : w.heap[r]? = some (.stringIter s n)) : (getObj r).run P w = .ok (.stringIter s n) w := by
  simp [getObj, Sem.run, hb]
theorem run_setObj_iter {r : Nat} {s : ByteArray} {n : Nat} (o : Obj) (hb : w.heap[r]? = some (.stringIter s n)) : (setObj r o).run P w = .ok () { w with heap := w.heap.setIfInBounds r o } := by
  simp [setObj, Sem.run, hb]
theorem decode_ascii {l : List UInt8} {n : Nat} {c : UInt8} (h : l[n]? = some c) (hc : c.toNat < 128) : Utf8.decode ⟨l.toArray⟩ n = (c.toNat, 1) := by
  have hn : n < l.length := (List.getElem?_eq_some_iff.1 h).1
  have hg : (ByteArray.mk l.toArray).get! n = c := by
    show (l.toArray)[n]! = c
    rw [getElem!_def, List.getElem?_toArray, h]
  simp only [Utf8.decode, Nat.add_zero, hg]
  rw [if_pos (by omega)]
theorem nextS_ok (r : Rel σ ρ B h w) (ht : TR σ ρ t a.tmps) {x : O} {y : Operand} (ho : o.op = .next y true) (hc : chkO y x = true) (hk : opK orc (.nextS x) t h k) : Res P σ ρ B h w (execOp a.eval o) k := by
  obtain ⟨v, h1, h2⟩ := ev_ok ht hc hk
  cases v <;> try exact h1.elim
  rename_i b o'
  have h1' : whenK (Nat.beq o' 0) (iterK h b (fun a n => match a[n]? with
    | some c => Bool.rec (motive := fun _ => Prop)
        (putK h b (.map (iterE a (Nat.add n (Utf8.decode ⟨a.toArray⟩ n).2))) (fun h' => k (.tup [.b true, .i .i64 (Int.ofNat n), .i .i32 (Int.ofNat (Utf8.decode ⟨a.toArray⟩ n).1)]) h'))
        (forceN (Nat.succ n) (fun m => putK h b (.map (iterE a m)) (fun h' => k (.tup [.b true, .i .i64 (Int.ofNat n), .i .i32 (Int.ofNat c.toNat)]) h')))
        (Nat.ble (Nat.succ c.toNat) 128)
    | none => k (.tup [.b false]) h)) := h1
  obtain ⟨h3, h4⟩ := (whenK_iff _ _).1 h1'
  obtain rfl := Nat.eq_of_beq_eq_true h3
  obtain ⟨l, n, h5, h6⟩ := iterK_iff.1 h4
  obtain ⟨L, e1, e2⟩ := h2.un_ptr
  obtain ⟨e3, ob, e4, e5⟩ := r.maps b L _ e1 h5
  obtain rfl := e5.iter
  have e6 : a.eval y = .pointer (some ⟨L.blk, 0, none⟩) := by rw [e2, e3]
  cases hn : l[n]? with
  | none =>
    rw [hn] at h6
    have hlen : ¬ n < (⟨l.toArray⟩ : ByteArray).size := by rw [ba_size]; simpa using hn
    refine Res.pure r (v := .tup [.b false]) h6 (v' := .tuple #[.bool false]) ?_ (.tup _ _ (.cons _ _ _ _ (.b _) .nil))
    simp [execOp, ho, Instr.next, e6, run_getObj_iter e4, hlen]
  | some c =>
    rw [hn] at h6
    have hlen : n < (⟨l.toArray⟩ : ByteArray).size := by rw [ba_size]; exact (List.getElem?_eq_some_iff.1 hn).1
    have h7 : putK h b (.map (iterE l (n + (Utf8.decode ⟨l.toArray⟩ n).2))) (fun h' => k (.tup [.b true, .i .i64 (Int.ofNat n), .i .i32 (Int.ofNat (Utf8.decode ⟨l.toArray⟩ n).1)]) h') := by
      have h6' : (Bool.rec (motive := fun _ => Prop)
        (putK h b (.map (iterE l (Nat.add n (Utf8.decode ⟨l.toArray⟩ n).2))) (fun h' => k (.tup [.b true, .i .i64 (Int.ofNat n), .i .i32 (Int.ofNat (Utf8.decode ⟨l.toArray⟩ n).1)]) h'))
        (forceN (Nat.succ n) (fun m => putK h b (.map (iterE l m)) (fun h' => k (.tup [.b true, .i .i64 (Int.ofNat n), .i .i32 (Int.ofNat c.toNat)]) h')))
        (Nat.ble (Nat.succ c.toNat) 128) : Prop) := h6
      cases hb : Nat.ble (Nat.succ c.toNat) 128 with
      | false => rw [hb] at h6'; exact h6'
      | true =>
        rw [hb] at h6'
        have h8 := (Iff.of_eq (forceN_eq _ _)).1 h6'
        have := Nat.le_of_ble_eq_true hb
        rw [decode_ascii hn (by omega)]
        exact h8
    obtain ⟨f6, f7⟩ := (putK_iff _ _ _ _).1 h7
    obtain ⟨r1, k1⟩ := r.putMap (w' := { w with heap := w.heap.setIfInBounds L.blk (.stringIter ⟨l.toArray⟩ (n + (Utf8.decode ⟨l.toArray⟩ n).2)) }) e1 h5 f6 e4 (.inr ⟨l, _, rfl, rfl⟩) rfl ⟨rfl, rfl⟩
    refine ⟨_, .tuple #[.bool true, .int .i64 n, .int .i32 (Utf8.decode ⟨l.toArray⟩ n).1], _, _, _, f7, .inl ?_, .tup _ _ (.cons _ _ _ _ (.b _) (.cons _ _ _ _ (.i _ _) (.cons _ _ _ _ (.i _ _) .nil))), r1, k1⟩
    simp [execOp, ho, Instr.next, e6, run_getObj_iter e4, hlen, run_setObj_iter _ e4, goInt]
end ops
end Go.Ab
