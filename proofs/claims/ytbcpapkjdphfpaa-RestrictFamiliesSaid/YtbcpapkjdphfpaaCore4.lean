/- Stores and appends in place: what they keep of the relation. No condition. -/
import Derived.Test.YtbcpapkjdphfpaaCore3
namespace Go.Ab
variable {σ : Nat → Value} {ρ ρ' : Ren}

/-- 'c'' is 'c' with the cells from p on replaced by vs -/
structure Spl (c : Array Value) (p : Nat) (vs : List Value) (c' : Array Value) : Prop where
  size : c'.size = c.size
  out : ∀ j, j < p ∨ p + vs.length ≤ j → c'[j]? = c[j]?
  inn : ∀ j v, vs[j]? = some v → c'[p + j]? = some v

theorem Rel.blk_lt {B : Nat} {h : Hp} {w : World} (r : Rel σ ρ B h w) : ∀ b L, ρ b = some L → ∀ x, h.tr.get b = some x → x ≠ .dead → L.blk < w.heap.size := by
  intro b L hb x hx hd
  cases x with
  | cells e' wf' af' cs' => obtain ⟨_, c', ty', fz', hh, _⟩ := r.cells b L e' wf' af' cs' hb hx; exact (Array.getElem?_eq_some_iff.1 hh).1
  | dead => exact absurd rfl hd
  | map es => obtain ⟨_, ob, hh, _⟩ := r.maps b L es hb hx; exact (Array.getElem?_eq_some_iff.1 hh).1

/-- cells of a writable block are written -/
theorem Rel.store {B : Nat} {h : Hp} {w w' : World} (r : Rel σ ρ B h w) {b : Nat} {L : Loc} {e : Nat} {af : Bool} {cs : List AV} (hb : ρ b = some L)
    (hg : h.tr.get b = some (.cells e true af cs)) (hf : h.fl ≤ b) (off : Nat) (vs : List AV) (vs' : List Value) (hv : VRs σ ρ vs vs') (hl : off + vs.length ≤ cs.length)
    {c c' : Array Value} {ty : TypeId} {fz : Nat × Nat} (hc : w.heap[L.blk]? = some (.cells c ty fz)) (hs : Spl c (L.off + off) vs' c')
    (hw : w'.heap = w.heap.setIfInBounds L.blk (.cells c' ty fz)) (hio : w'.os = w.os ∧ w'.output = w.output) :
    Rel σ ρ B (h.put b (.cells e true af (cs.take off ++ (vs ++ cs.drop (off + vs.length))))) w' ∧ Kept ρ B h w ρ (h.put b (.cells e true af (cs.take off ++ (vs ++ cs.drop (off + vs.length))))) w' := by
  have hlen := hv.length
  have hcl : (cs.take off ++ (vs ++ cs.drop (off + vs.length))).length = cs.length := by simp; omega
  have hlt : L.blk < w.heap.size := (Array.getElem?_eq_some_iff.1 hc).1
  have hold : ∀ k, k ≠ L.blk → w'.heap[k]? = w.heap[k]? := by
    intro k hk; rw [hw, Array.getElem?_setIfInBounds]; rw [if_neg (by omega)]
  have hnew : w'.heap[L.blk]? = some (.cells c' ty fz) := by rw [hw, Array.getElem?_setIfInBounds]; simp [hlt]
  have hget : ∀ b' x, (h.put b (.cells e true af (cs.take off ++ (vs ++ cs.drop (off + vs.length))))).tr.get b' = some x → b' ≠ b → h.tr.get b' = some x := by
    intro b' x hx hne; simp only [Hp.put, Tr.get_set] at hx; rwa [if_neg hne] at hx
  have hgb : ∀ x, (h.put b (.cells e true af (cs.take off ++ (vs ++ cs.drop (off + vs.length))))).tr.get b = some x → x = .cells e true af (cs.take off ++ (vs ++ cs.drop (off + vs.length))) := by
    intro x hx; simp [Hp.put, Tr.get_set] at hx; exact hx.symm
  have hother : ∀ b' L' x, ρ b' = some L' → h.tr.get b' = some x → x ≠ .dead → b' ≠ b → L'.blk ≠ L.blk :=
    fun b' L' x hb' hx hd hne he => hne (r.excl b L e af cs hb hg b' L' x hb' hx hd he)
  obtain ⟨he, c0, ty0, fz0, h1, h2, h3, h4, h5⟩ := r.cells b L e true af cs hb hg
  rw [hc] at h1; cases h1
  refine ⟨⟨r.dom, ?_, ?_, ?_, ?_, ?_, r.flr, ?_⟩, ⟨fun _ _ => rfl, Nat.le_refl _, rfl, ?_, ?_, ?_, hio⟩⟩
  · intro b' L' e' wf' af' cs' hb' hg'
    by_cases hne : b' = b
    · subst hne
      rw [hb] at hb'; cases hb'
      cases hgb _ hg'
      refine ⟨he, c', ty, fz, hnew, hs.size.trans h2, by omega, ?_, h5⟩
      intro j v hv'
      by_cases hj1 : j < off
      · rw [List.getElem?_append_left (by simp; omega), List.getElem?_take_of_lt hj1] at hv'
        obtain ⟨v', h6, h7⟩ := h4 j v hv'
        exact ⟨v', by rw [hs.out _ (by omega)]; exact h6, h7⟩
      · rw [List.getElem?_append_right (by simp; omega)] at hv'
        have e1 : (cs.take off).length = off := by simp; omega
        rw [e1] at hv'
        by_cases hj2 : j < off + vs.length
        · rw [List.getElem?_append_left (by omega)] at hv'
          obtain ⟨v', h6, h7⟩ := hv.get hv'
          refine ⟨v', ?_, h7⟩
          have := hs.inn _ _ h6
          rwa [show L.off + off + (j - off) = L.off + j from by omega] at this
        · rw [List.getElem?_append_right (by omega), List.getElem?_drop] at hv'
          rw [show off + vs.length + (j - off - vs.length) = j from by omega] at hv'
          obtain ⟨v', h6, h7⟩ := h4 j v hv'
          exact ⟨v', by rw [hs.out _ (by omega)]; exact h6, h7⟩
    · have hg2 := hget _ _ hg' hne
      obtain ⟨h6, c2, ty2, fz2, h7, h8, h9, h10, h11⟩ := r.cells b' L' e' wf' af' cs' hb' hg2
      exact ⟨h6, c2, ty2, fz2, by rw [hold _ (hother b' L' _ hb' hg2 (by simp) hne)]; exact h7, h8, h9, h10, h11⟩
  · intro b' L' es hb' hg'
    have hne : b' ≠ b := by rintro rfl; cases hgb _ hg'
    have hg2 := hget _ _ hg' hne
    obtain ⟨h6, ob, h7, h8⟩ := r.maps b' L' es hb' hg2
    exact ⟨h6, ob, by rw [hold _ (hother b' L' _ hb' hg2 (by simp) hne)]; exact h7, h8⟩
  · intro b1 L1 e1 af1 cs1 hb1 hg1 b2 L2 x hb2 hx hd he2
    by_cases n1 : b1 = b
    · subst n1
      rw [hb] at hb1; cases hb1
      by_cases n2 : b2 = b1
      · exact n2
      · exact absurd he2 (hother b2 L2 x hb2 (hget _ _ hx n2) hd n2)
    · have hg1' := hget _ _ hg1 n1
      by_cases n2 : b2 = b
      · subst n2
        rw [hb] at hb2; cases hb2
        exact absurd he2.symm (hother b1 L1 _ hb1 hg1' (by simp) n1)
      · exact r.excl b1 L1 e1 af1 cs1 hb1 hg1' b2 L2 x hb2 (hget _ _ hx n2) hd he2
  · intro b1 L1 es hb1 hg1 b2 L2 x hb2 hx hd he2
    have n1 : b1 ≠ b := by rintro rfl; cases hgb _ hg1
    have hg1' := hget _ _ hg1 n1
    by_cases n2 : b2 = b
    · subst n2
      rw [hb] at hb2; cases hb2
      exact absurd he2.symm (hother b1 L1 _ hb1 hg1' (by simp) n1)
    · exact r.exclm b1 L1 es hb1 hg1' b2 L2 x hb2 (hget _ _ hx n2) hd he2
  · intro b1 L1 e1 wf1 cs1 hb1 hg1 b2 L2 e2 wf2 af2 cs2 hb2 hg2 he2
    by_cases n1 : b1 = b
    · subst n1
      rw [hb] at hb1; cases hb1
      by_cases n2 : b2 = b1
      · subst n2
        rw [hb] at hb2; cases hb2
        cases hgb _ hg1; cases hgb _ hg2; exact ⟨Nat.le_refl _, fun _ => rfl⟩
      · exact absurd he2 (hother b2 L2 _ hb2 (hget _ _ hg2 n2) (by simp) n2)
    · have hg1' := hget _ _ hg1 n1
      by_cases n2 : b2 = b
      · subst n2
        rw [hb] at hb2; cases hb2
        exact absurd he2.symm (hother b1 L1 _ hb1 hg1' (by simp) n1)
      · exact r.app b1 L1 e1 wf1 cs1 hb1 hg1' b2 L2 e2 wf2 af2 cs2 hb2 (hget _ _ hg2 n2) he2
  · rw [hw, Array.size_setIfInBounds]; exact r.base
  · intro b' hb' _; simp only [Hp.put, Tr.get_set]; rw [if_neg (by omega)]
  · intro k hk; exact hold k (by have := r.flr b L hb hf; omega)
  · rw [hw, Array.size_setIfInBounds]; exact Nat.le_refl _

/-- a block is given up, or given up for writing -/
theorem Rel.weak {B : Nat} {h : Hp} {w : World} (r : Rel σ ρ B h w) {b : Nat} {e : Nat} {wf af : Bool} {cs : List AV}
    (hg : h.tr.get b = some (.cells e wf af cs)) (hf : h.fl ≤ b) (y : Blk) (hy : y = .dead ∨ y = .cells e false false cs) :
    Rel σ ρ B (h.put b y) w ∧ Kept ρ B h w ρ (h.put b y) w := by
  have hget : ∀ b' x, (h.put b y).tr.get b' = some x → (b' = b ∧ x = y) ∨ (b' ≠ b ∧ h.tr.get b' = some x) := by
    intro b' x hx; simp only [Hp.put, Tr.get_set] at hx
    split at hx
    · left; exact ⟨by assumption, by simpa using hx.symm⟩
    · right; exact ⟨by assumption, hx⟩
  have hold : ∀ b' e' wf' af' cs', (h.put b y).tr.get b' = some (.cells e' wf' af' cs') → ∃ wf2 af2, h.tr.get b' = some (.cells e' wf2 af2 cs') ∧ (wf' = true → wf2 = true ∧ b' ≠ b) ∧ (af' = true → af2 = true ∧ b' ≠ b) := by
    intro b' e' wf' af' cs' hx
    rcases hget b' _ hx with ⟨rfl, h1⟩ | ⟨hne, h1⟩
    · rcases hy with rfl | rfl
      · cases h1
      · cases h1; exact ⟨wf, af, hg, (fun hh => by cases hh), (fun hh => by cases hh)⟩
    · exact ⟨wf', af', h1, fun hh => ⟨hh, hne⟩, fun hh => ⟨hh, hne⟩⟩
  have holdm : ∀ b' es, (h.put b y).tr.get b' = some (.map es) → h.tr.get b' = some (.map es) := by
    intro b' es hx
    rcases hget b' _ hx with ⟨rfl, h1⟩ | ⟨hne, h1⟩
    · rcases hy with rfl | rfl <;> cases h1
    · exact h1
  have holdx : ∀ b' x, (h.put b y).tr.get b' = some x → x ≠ .dead → ∃ x', h.tr.get b' = some x' ∧ x' ≠ .dead := by
    intro b' x hx hd
    rcases hget b' _ hx with ⟨rfl, h1⟩ | ⟨hne, h1⟩
    · exact ⟨_, hg, by simp⟩
    · exact ⟨x, h1, hd⟩
  refine ⟨⟨r.dom, ?_, ?_, ?_, ?_, ?_, r.flr, r.base⟩, ⟨fun _ _ => rfl, Nat.le_refl _, rfl, ?_, fun _ _ => rfl, Nat.le_refl _, rfl, rfl⟩⟩
  · intro b' L e' wf' af' cs' hb hx
    obtain ⟨wf2, af2, h1, h2, h3⟩ := hold b' e' wf' af' cs' hx
    obtain ⟨h4, c, ty, fz, h5, h6, h7, h8, h9⟩ := r.cells b' L e' wf2 af2 cs' hb h1
    refine ⟨h4, c, ty, fz, h5, h6, h7, h8, fun hh => h9 ?_⟩
    cases wf' <;> cases af' <;> simp at hh h2 h3 <;> simp_all
  · intro b' L es hb hx; exact r.maps b' L es hb (holdm b' es hx)
  · intro b1 L1 e1 af1 cs1 hb1 hx1 b2 L2 x hb2 hx2 hd he
    obtain ⟨wf2, af2, h1, h2, h3⟩ := hold b1 _ _ _ _ hx1
    obtain ⟨rfl, _⟩ := h2 rfl
    obtain ⟨x', h4, h5⟩ := holdx b2 x hx2 hd
    exact r.excl b1 L1 e1 af2 cs1 hb1 h1 b2 L2 x' hb2 h4 h5 he
  · intro b1 L1 es hb1 hx1 b2 L2 x hb2 hx2 hd he
    obtain ⟨x', h4, h5⟩ := holdx b2 x hx2 hd
    exact r.exclm b1 L1 es hb1 (holdm _ _ hx1) b2 L2 x' hb2 h4 h5 he
  · intro b1 L1 e1 wf1 cs1 hb1 hx1 b2 L2 e2 wf2 af2 cs2 hb2 hx2 he
    obtain ⟨wf3, af3, h1, h2, h3⟩ := hold b1 _ _ _ _ hx1
    obtain ⟨rfl, _⟩ := h3 rfl
    obtain ⟨wf4, af4, h4, h5, h6⟩ := hold b2 _ _ _ _ hx2
    have := r.app b1 L1 e1 wf3 cs1 hb1 h1 b2 L2 e2 wf4 af4 cs2 hb2 h4 he
    exact ⟨this.1, fun hh => this.2 (h6 hh).1⟩
  · intro b' hb' _; simp only [Hp.put, Tr.get_set]; rw [if_neg (by omega)]

/-- an append within the capacity: a new abstract block over the same row; 'y': what becomes of the old one -/
theorem Rel.grow {B : Nat} {h : Hp} {w w' : World} (r : Rel σ ρ B h w) {b : Nat} {L : Loc} {e : Nat} {wf : Bool} {cs : List AV} (hb : ρ b = some L)
    (hg : h.tr.get b = some (.cells e wf true cs)) (hf : h.fl ≤ b) (o : Nat) (ho : o ≤ cs.length) (vs : List AV) (vs' : List Value) (hv : VRs σ ρ vs vs') (hl : L.off + cs.length + vs.length ≤ L.size)
    (y : Blk) (wf2 : Bool) (hy : (y = .dead ∧ wf2 = wf) ∨ (y = .cells e false false cs ∧ wf2 = false))
    {c c' : Array Value} {ty : TypeId} {fz : Nat × Nat} (hc : w.heap[L.blk]? = some (.cells c ty fz)) (hs : Spl c (L.off + cs.length) vs' c')
    (hw : w'.heap = w.heap.setIfInBounds L.blk (.cells c' ty fz)) (hio : w'.os = w.os ∧ w'.output = w.output) :
    Rel σ (ρ.add h.sz ⟨L.blk, L.off + o, L.size, e⟩) B ((h.put b y).push (.cells e wf2 true (cs.drop o ++ vs))) w' ∧
    Kept ρ B h w (ρ.add h.sz ⟨L.blk, L.off + o, L.size, e⟩) ((h.put b y).push (.cells e wf2 true (cs.drop o ++ vs))) w' := by
  have hlen := hv.length
  have hbs := r.dom b L hb
  have hlt : L.blk < w.heap.size := (Array.getElem?_eq_some_iff.1 hc).1
  have hold : ∀ k, k ≠ L.blk → w'.heap[k]? = w.heap[k]? := by
    intro k hk; rw [hw, Array.getElem?_setIfInBounds]; rw [if_neg (by omega)]
  have hnew : w'.heap[L.blk]? = some (.cells c' ty fz) := by rw [hw, Array.getElem?_setIfInBounds]; simp [hlt]
  have hext : ∀ b' L', ρ b' = some L' → (ρ.add h.sz ⟨L.blk, L.off + o, L.size, e⟩) b' = some L' := by
    intro b' L' hb'; have := r.dom b' L' hb'; simp only [Ren.add]; rw [if_neg (by omega)]; exact hb'
  have hren : ∀ b' L', (ρ.add h.sz ⟨L.blk, L.off + o, L.size, e⟩) b' = some L' → (b' = h.sz ∧ L' = ⟨L.blk, L.off + o, L.size, e⟩) ∨ (b' ≠ h.sz ∧ ρ b' = some L') := by
    intro b' L' hb'; simp only [Ren.add] at hb'; split at hb'
    · left; exact ⟨by assumption, by simpa using hb'.symm⟩
    · right; exact ⟨by assumption, hb'⟩
  have hgn : ∀ x, ((h.put b y).push (.cells e wf2 true (cs.drop o ++ vs))).tr.get h.sz = some x → x = .cells e wf2 true (cs.drop o ++ vs) := by
    intro x hx; simp [Hp.push, Hp.put, Tr.get_set] at hx; exact hx.symm
  have hgb : ∀ x, ((h.put b y).push (.cells e wf2 true (cs.drop o ++ vs))).tr.get b = some x → x = y := by
    intro x hx; simp only [Hp.push, Hp.put, Tr.get_set] at hx; rw [if_neg (by omega)] at hx; simpa using hx.symm
  have hget : ∀ b' x, ((h.put b y).push (.cells e wf2 true (cs.drop o ++ vs))).tr.get b' = some x → b' ≠ h.sz → b' ≠ b → h.tr.get b' = some x := by
    intro b' x hx h1 h2; simp only [Hp.push, Hp.put, Tr.get_set] at hx; rw [if_neg h1, if_neg h2] at hx; exact hx
  obtain ⟨he, c0, ty0, fz0, h1, h2, h3, h4, h5⟩ := r.cells b L e wf true cs hb hg
  rw [hc] at h1; cases h1
  -- no other living block of the row is writable
  have hnw : ∀ b' L' e' af' cs', ρ b' = some L' → h.tr.get b' = some (.cells e' true af' cs') → b' ≠ b → L'.blk ≠ L.blk :=
    fun b' L' e' af' cs' hb' hx hne heq => hne (r.excl b' L' e' af' cs' hb' hx b L _ hb hg (by simp) heq.symm).symm
  have hnm : ∀ b' L' es, ρ b' = some L' → h.tr.get b' = some (.map es) → L'.blk ≠ L.blk := by
    intro b' L' es hb' hx heq
    obtain ⟨_, ob, h7, h8⟩ := r.maps b' L' es hb' hx
    rw [heq, hc] at h7; cases h7; exact h8.notCells
  have hexw : wf = true → ∀ b' L' x, ρ b' = some L' → h.tr.get b' = some x → x ≠ .dead → b' ≠ b → L'.blk ≠ L.blk := by
    intro hwf b' L' x hb' hx hd hne heq; subst hwf; exact hne (r.excl b L e true cs hb hg b' L' x hb' hx hd heq)
  refine ⟨⟨?_, ?_, ?_, ?_, ?_, ?_, ?_, ?_⟩, ⟨?_, ?_, rfl, ?_, ?_, ?_, hio⟩⟩
  · intro b' L' hb'
    rcases hren b' L' hb' with ⟨rfl, _⟩ | ⟨_, hb'⟩
    · exact Nat.lt_succ_self _
    · exact Nat.lt_succ_of_lt (r.dom b' L' hb')
  · intro b' L' e' wf' af' cs' hb' hg'
    rcases hren b' L' hb' with ⟨rfl, rfl⟩ | ⟨hne, hb'⟩
    · cases hgn _ hg'
      refine ⟨rfl, c', ty, fz, hnew, hs.size.trans h2, by simp; omega, ?_, fun _ => h5 (by simp)⟩
      intro j v hv'
      by_cases hj : j < cs.length - o
      · rw [List.getElem?_append_left (by simp; omega), List.getElem?_drop] at hv'
        obtain ⟨v', h6, h7⟩ := h4 _ v hv'
        refine ⟨v', ?_, h7.mono hext⟩
        rw [hs.out _ (by simp; omega)]
        rw [← h6]; congr 1; simp; omega
      · rw [List.getElem?_append_right (by simp; omega)] at hv'
        obtain ⟨v', h6, h7⟩ := hv.get hv'
        refine ⟨v', ?_, h7.mono hext⟩
        have := hs.inn _ _ h6
        rw [← this]; congr 1; simp; omega
    · by_cases hbb : b' = b
      · subst hbb
        rw [hb] at hb'; cases hb'
        cases hgb _ hg'
        rcases hy with ⟨hy, _⟩ | ⟨hy, _⟩
        · cases hy
        · cases hy
          refine ⟨he, c', ty, fz, hnew, hs.size.trans h2, h3, ?_, fun hh => by simp at hh⟩
          intro j v hv'
          obtain ⟨v', h6, h7⟩ := h4 _ v hv'
          have hj : j < cs.length := (List.getElem?_eq_some_iff.1 hv').1
          exact ⟨v', by rw [hs.out _ (by omega)]; exact h6, h7.mono hext⟩
      · have hg2 := hget _ _ hg' hne hbb
        obtain ⟨h6, c2, ty2, fz2, h7, h8, h9, h10, h11⟩ := r.cells b' L' e' wf' af' cs' hb' hg2
        by_cases heq : L'.blk = L.blk
        · rw [heq, hc] at h7; cases h7
          have happ := r.app b L e wf cs hb hg b' L' e' wf' af' cs' hb' hg2 heq
          refine ⟨h6, c', ty, fz, by rw [heq]; exact hnew, hs.size.trans h8, h9, ?_, h11⟩
          intro j v hv'
          obtain ⟨v', h12, h13⟩ := h10 _ v hv'
          have hj : j < cs'.length := (List.getElem?_eq_some_iff.1 hv').1
          exact ⟨v', by rw [hs.out _ (by omega)]; exact h12, h13.mono hext⟩
        · refine ⟨h6, c2, ty2, fz2, by rw [hold _ heq]; exact h7, h8, h9, ?_, h11⟩
          intro j v hv'; obtain ⟨v', h12, h13⟩ := h10 _ v hv'; exact ⟨v', h12, h13.mono hext⟩
  · intro b' L' es hb' hg'
    rcases hren b' L' hb' with ⟨rfl, rfl⟩ | ⟨hne, hb'⟩
    · cases hgn _ hg'
    · have hbb : b' ≠ b := by
        rintro rfl; have := hgb _ hg'; subst this; rcases hy with ⟨hy, _⟩ | ⟨hy, _⟩ <;> cases hy
      have hg2 := hget _ _ hg' hne hbb
      obtain ⟨h6, ob, h7, h8⟩ := r.maps b' L' es hb' hg2
      exact ⟨h6, ob, by rw [hold _ (hnm b' L' es hb' hg2)]; exact h7, h8.mono hext⟩
  · intro b1 L1 e1 af1 cs1 hb1 hg1 b2 L2 x hb2 hx hd he2
    rcases hren b1 L1 hb1 with ⟨rfl, rfl⟩ | ⟨n1, hb1⟩
    · -- the new block is writable: so was the old one, which is dead
      cases hgn _ hg1
      rcases hren b2 L2 hb2 with ⟨rfl, _⟩ | ⟨n2, hb2⟩
      · rfl
      · by_cases m2 : b2 = b
        · subst m2
          have := hgb _ hx; subst this
          rcases hy with ⟨hy, _⟩ | ⟨_, hy⟩
          · exact absurd hy hd
          · cases hy
        · rcases hy with ⟨_, hy⟩ | ⟨_, hy⟩
          · exact absurd he2 (hexw hy.symm b2 L2 x hb2 (hget _ _ hx n2 m2) hd m2)
          · cases hy
    · have m1 : b1 ≠ b := by
        rintro rfl; have := hgb _ hg1; subst this; rcases hy with ⟨hy, _⟩ | ⟨hy, _⟩ <;> cases hy
      have hg1' := hget _ _ hg1 n1 m1
      rcases hren b2 L2 hb2 with ⟨rfl, rfl⟩ | ⟨n2, hb2⟩
      · exact absurd he2.symm (hnw b1 L1 e1 af1 cs1 hb1 hg1' m1)
      · by_cases m2 : b2 = b
        · subst m2; rw [hb] at hb2; cases hb2; exact absurd he2.symm (hnw b1 L1 e1 af1 cs1 hb1 hg1' m1)
        · exact r.excl b1 L1 e1 af1 cs1 hb1 hg1' b2 L2 x hb2 (hget _ _ hx n2 m2) hd he2
  · intro b1 L1 es hb1 hg1 b2 L2 x hb2 hx hd he2
    rcases hren b1 L1 hb1 with ⟨rfl, rfl⟩ | ⟨n1, hb1⟩
    · cases hgn _ hg1
    · have m1 : b1 ≠ b := by
        rintro rfl; have := hgb _ hg1; subst this; rcases hy with ⟨hy, _⟩ | ⟨hy, _⟩ <;> cases hy
      have hg1' := hget _ _ hg1 n1 m1
      rcases hren b2 L2 hb2 with ⟨rfl, rfl⟩ | ⟨n2, hb2⟩
      · exact absurd he2.symm (hnm b1 L1 es hb1 hg1')
      · by_cases m2 : b2 = b
        · subst m2; rw [hb] at hb2; cases hb2; exact absurd he2.symm (hnm b1 L1 es hb1 hg1')
        · exact r.exclm b1 L1 es hb1 hg1' b2 L2 x hb2 (hget _ _ hx n2 m2) hd he2
  · intro b1 L1 e1 wf1 cs1 hb1 hg1 b2 L2 e2 wf2' af2 cs2 hb2 hg2 he2
    rcases hren b1 L1 hb1 with ⟨rfl, rfl⟩ | ⟨n1, hb1⟩
    · cases hgn _ hg1
      rcases hren b2 L2 hb2 with ⟨rfl, rfl⟩ | ⟨n2, hb2⟩
      · cases hgn _ hg2; exact ⟨Nat.le_refl _, fun _ => rfl⟩
      · by_cases m2 : b2 = b
        · subst m2
          rw [hb] at hb2; cases hb2
          have := hgb _ hg2; subst this
          rcases hy with ⟨hy, _⟩ | ⟨hy, _⟩
          · cases hy
          · cases hy; exact ⟨by simp; omega, fun hh => by cases hh⟩
        · have := r.app b L e wf cs hb hg b2 L2 e2 wf2' af2 cs2 hb2 (hget _ _ hg2 n2 m2) he2
          exact ⟨by simp; omega, fun hh => absurd (this.2 hh) m2⟩
    · have m1 : b1 ≠ b := by
        rintro rfl; have := hgb _ hg1; subst this; rcases hy with ⟨hy, _⟩ | ⟨hy, _⟩ <;> cases hy
      have hg1' := hget _ _ hg1 n1 m1
      rcases hren b2 L2 hb2 with ⟨rfl, rfl⟩ | ⟨n2, hb2⟩
      · -- two blocks of a row that may be appended to: their ends are one; nothing is appended then, or they are on rows of their own
        cases hgn _ hg2
        exact absurd ((r.app b1 L1 e1 wf1 cs1 hb1 hg1' b L e wf true cs hb hg he2).2 rfl).symm m1
      · by_cases m2 : b2 = b
        · subst m2
          rw [hb] at hb2; cases hb2
          have := hgb _ hg2; subst this
          rcases hy with ⟨hy, _⟩ | ⟨hy, _⟩
          · cases hy
          · cases hy
            exact ⟨(r.app b1 L1 e1 wf1 cs1 hb1 hg1' b2 L e wf true cs hb hg he2).1, fun hh => by cases hh⟩
        · exact r.app b1 L1 e1 wf1 cs1 hb1 hg1' b2 L2 e2 wf2' af2 cs2 hb2 (hget _ _ hg2 n2 m2) he2
  · intro b' L' hb' hf'
    rcases hren b' L' hb' with ⟨rfl, rfl⟩ | ⟨_, hb'⟩
    · exact r.flr b L hb hf
    · exact r.flr b' L' hb' hf'
  · rw [hw, Array.size_setIfInBounds]; exact r.base
  · intro b' hb'; simp only [Ren.add]; rw [if_neg (by omega)]
  · exact Nat.le_succ _
  · intro b' hb' hs'; have : h.fl ≤ b := hf; simp only [Hp.push, Hp.put, Tr.get_set]; rw [if_neg (by omega), if_neg (by omega)]
  · intro k hk; exact hold k (by have := r.flr b L hb hf; omega)
  · rw [hw, Array.size_setIfInBounds]; exact Nat.le_refl _
end Go.Ab
