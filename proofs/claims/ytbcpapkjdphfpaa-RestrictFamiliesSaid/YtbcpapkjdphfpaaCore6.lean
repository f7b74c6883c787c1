/- Memory operations of the model, at the abstract heap. No condition. -/
import Derived.Test.YtbcpapkjdphfpaaCore5
namespace Go.Ab
variable {σ : Nat → Value} {ρ ρ' : Ren} {P : Program}

/-- the atoms are values of one cell -/
def AtomsOk (σ : Nat → Value) : Prop := ∀ j, (σ j).oneCell' = true

theorem cellOk_ok (hσ : AtomsOk σ) {v : AV} {v' : Value} (h : VR σ ρ v v') (hc : cellOk v = true) : v'.oneCell' = true := by
  cases h <;> first | rfl | (exact hσ _) | (exact absurd hc (by simp [cellOk]))
theorem cellsOk_ok (hσ : AtomsOk σ) : ∀ {vs : List AV} {vs' : List Value} (_ : VRs σ ρ vs vs') (_ : cellsOk vs = true), ∀ v ∈ vs', v.oneCell' = true
  | [], _, .nil, _ => by simp
  | v :: vs, _, .cons _ _ v' vs' h hs, hc => by
    have h2 : cellOk v = true ∧ cellsOk vs = true := by
      have : (Bool.rec (motive := fun _ => Bool) true (cellsOk vs) (cellOk v) : Bool) = true ∨ True := Or.inr trivial
      have hc' : (Bool.rec (motive := fun _ => Bool) false (cellsOk vs) (cellOk v) : Bool) = true := hc
      cases h1 : cellOk v with
      | false => rw [h1] at hc'; cases hc'
      | true => rw [h1] at hc'; exact ⟨rfl, hc'⟩
    intro u hu
    rcases List.mem_cons.1 hu with rfl | hu
    · exact cellOk_ok hσ h h2.1
    · exact cellsOk_ok hσ hs h2.2 u hu

theorem cell?_of {w : World} {k : Nat} {c : Array Value} {ty : TypeId} {fz : Nat × Nat} (h : w.heap[k]? = some (.cells c ty fz)) (o : Nat) : w.cell? ⟨k, o, none⟩ = c[o]? := by
  simp [World.cell?, h]
theorem frozen?_of {w : World} {k : Nat} {c : Array Value} {ty : TypeId} {fz : Nat × Nat} (h : w.heap[k]? = some (.cells c ty fz)) (o : Nat) : w.frozen? ⟨k, o, none⟩ = decide (fz.1 ≤ o ∧ o < fz.2) := by
  simp [World.frozen?, h]
theorem add_none (k o n : Nat) : (⟨k, o, none⟩ : Addr).add n = ⟨k, o + n, none⟩ := by
  unfold Addr.add; split <;> simp_all

theorem ld_ok {B : Nat} {h : Hp} {w : World} (r : Rel σ ρ B h w) {b off : Nat} {L : Loc} (hb : ρ b = some L) {k : AV → Prop} (hk : ldK h b off k) :
    ∃ v v', k v ∧ VR σ ρ v v' ∧ w.cell? ⟨L.blk, L.off + off, none⟩ = some v' := by
  obtain ⟨e, wf, af, cs, hg, hn⟩ := (cellsK_iff _ _ _).1 hk
  obtain ⟨v, hv, hk⟩ := (nthK_iff _ _ _).1 hn
  obtain ⟨_, c, ty, fz, h1, _, _, h4, _⟩ := r.cells b L e wf af cs hb hg
  obtain ⟨v', h5, h6⟩ := h4 _ _ hv
  exact ⟨v, v', hk, h6, by rw [cell?_of h1]; exact h5⟩

theorem lds_ok {B : Nat} {h : Hp} {w : World} (r : Rel σ ρ B h w) {b off n : Nat} {L : Loc} (hb : ρ b = some L) {k : List AV → Prop} (hk : ldsK h b off n k) :
    ∃ vs vs', k vs ∧ VRs σ ρ vs vs' ∧ vs'.length = n ∧ (∀ j v, vs'[j]? = some v → w.cell? ⟨L.blk, L.off + off + j, none⟩ = some v) := by
  obtain ⟨e, wf, af, cs, hg, hn⟩ := (cellsK_iff _ _ _).1 hk
  obtain ⟨hl, hn⟩ := (dropK_iff _ _ _).1 hn
  obtain ⟨hl2, hk⟩ := (takeK_iff _ _ _).1 hn
  rw [List.length_drop] at hl2
  obtain ⟨_, c, ty, fz, h1, h2, h3, h4, _⟩ := r.cells b L e wf af cs hb hg
  refine ⟨_, ((c.toList.drop (L.off + off)).take n), hk, ?_, ?_, ?_⟩
  · refine VRs.of_get ?_ ?_
    · simp; omega
    · intro j a ha
      rw [List.getElem?_take] at ha
      split at ha
      · rw [List.getElem?_drop] at ha
        obtain ⟨v', h5, h6⟩ := h4 _ _ ha
        refine ⟨v', ?_, h6⟩
        rw [List.getElem?_take_of_lt (by assumption), List.getElem?_drop]
        rw [Array.getElem?_toList, ← h5]; congr 1; omega
      · cases ha
  · simp; omega
  · intro j v hv
    rw [List.getElem?_take] at hv
    split at hv
    · rw [List.getElem?_drop, Array.getElem?_toList] at hv
      rw [cell?_of h1]; exact hv
    · cases hv

theorem run_lds {w : World} {k o n : Nat} {vs : List Value} (hl : vs.length = n) (h : ∀ j v, vs[j]? = some v → w.cell? ⟨k, o + j, none⟩ = some v) :
    (loadCells ⟨k, o, none⟩ n).run P w = .ok vs.toArray w := by
  subst hl
  exact run_loadCells_list w _ vs (fun j v hv => by rw [add_none]; exact h j v hv)

/-- writing cells one by one is splicing -/
theorem setCells_spl {k : Nat} {ty : TypeId} {fz : Nat × Nat} : ∀ (vs : List Value) (o : Nat) (w : World) (c : Array Value), w.heap[k]? = some (.cells c ty fz) → o + vs.length ≤ c.size →
    ∃ c', Spl c o vs c' ∧ (w.setCells k o vs).heap = w.heap.setIfInBounds k (.cells c' ty fz)
  | [], o, w, c, h, _ => by
    refine ⟨c, ⟨rfl, fun _ _ => rfl, fun j v hv => by simp at hv⟩, ?_⟩
    show w.heap = _
    apply Array.ext_getElem?
    intro i
    rw [Array.getElem?_setIfInBounds]
    split
    · subst_vars; split
      · exact h
      · rename_i hlt; exact absurd (Array.getElem?_eq_some_iff.1 h).1 hlt
    · rfl
  | v :: vs, o, w, c, h, hl => by
    simp only [List.length_cons] at hl
    have hlt : k < w.heap.size := (Array.getElem?_eq_some_iff.1 h).1
    have e1 : (w.setCell ⟨k, o, none⟩ v).heap = w.heap.setIfInBounds k (.cells (c.setIfInBounds o v) ty fz) := by
      simp only [World.setCell]
      apply Array.ext_getElem?
      intro i
      rw [Array.getElem?_modify, Array.getElem?_setIfInBounds]
      split
      · subst_vars; rw [h]; simp
      · rfl
    have h1 : (w.setCell ⟨k, o, none⟩ v).heap[k]? = some (.cells (c.setIfInBounds o v) ty fz) := by
      rw [e1, Array.getElem?_setIfInBounds]; simp [hlt]
    obtain ⟨c', hs, hw⟩ := setCells_spl vs (o + 1) _ _ h1 (by simp; omega)
    refine ⟨c', ⟨by rw [hs.size]; simp, ?_, ?_⟩, ?_⟩
    · intro j hj
      simp only [List.length_cons] at hj
      rw [hs.out j (by omega), Array.getElem?_setIfInBounds, if_neg (by omega)]
    · intro j u hu
      cases j with
      | zero =>
        simp at hu; subst hu
        rw [hs.out _ (by omega), Array.getElem?_setIfInBounds]; simp; omega
      | succ j =>
        have := hs.inn j u (by simpa using hu)
        rwa [show o + 1 + j = o + (j + 1) from by omega] at this
    · rw [World.setCells, hw, e1]
      apply Array.ext_getElem?
      intro i
      simp only [Array.getElem?_setIfInBounds, Array.size_setIfInBounds]
      split <;> rfl

theorem setCells_io (k : Nat) : ∀ (vs : List Value) (o : Nat) (w : World), (w.setCells k o vs).os = w.os ∧ (w.setCells k o vs).output = w.output
  | [], _, _ => ⟨rfl, rfl⟩
  | v :: vs, o, w => setCells_io k vs (o + 1) (w.setCell ⟨k, o, none⟩ v)

theorem st_ok (hσ : AtomsOk σ) {B : Nat} {h : Hp} {w : World} (r : Rel σ ρ B h w) {b off : Nat} {L : Loc} (hb : ρ b = some L) {vs : List AV} {vs' : List Value} (hv : VRs σ ρ vs vs') {k : Hp → Prop} (hk : stK h b off vs k) :
    ∃ h' w', k h' ∧ Rel σ ρ B h' w' ∧ Kept ρ B h w ρ h' w' ∧ (storeCells ⟨L.blk, L.off + off, none⟩ vs').run P w = .ok () w' := by
  obtain ⟨e, wf, af, cs, hg, hn⟩ := (cellsK_iff _ _ _).1 hk
  cases wf with
  | false => exact hn.elim
  | true =>
    have hn' : (Bool.rec (motive := fun _ => Prop) False (spliceK vs off cs (fun cs' => putK h b (.cells e true af cs') k)) (cellsOk vs) : Prop) := hn
    cases hco : cellsOk vs with
    | false => rw [hco] at hn'; exact hn'.elim
    | true =>
      rw [hco] at hn'
      obtain ⟨hl, hn2⟩ := (spliceK_iff _ _ _ _).1 hn'
      obtain ⟨hf, hk⟩ := (putK_iff _ _ _ _).1 hn2
      obtain ⟨_, c, ty, fz, h1, h2, h3, h4, h5⟩ := r.cells b L e true af cs hb hg
      have hlen := hv.length
      obtain ⟨c', hs, hw⟩ := setCells_spl vs' (L.off + off) w c h1 (by omega)
      obtain ⟨r', k'⟩ := r.store hb hg hf off vs vs' hv hl h1 hs hw (setCells_io _ _ _ _)
      refine ⟨_, w.setCells L.blk (L.off + off) vs', hk, r', k', ?_⟩
      have := run_storeCells_cells (P := P) L.blk (L.off + off) vs' 0 w (fun j hj => by
          rw [cell?_of h1]; simp; omega) (fun j hj => by
          rw [frozen?_of h1]; simp only [decide_eq_false_iff_not]; exact h5 (by simp) _ (by omega)) (cellsOk_ok hσ hv hco)
      simpa using this

/-- a new row -/
theorem new_ok {B : Nat} {h : Hp} {w w1 : World} (r : Rel σ ρ B h w) {e : Nat} {wf af : Bool} {cs : List AV} {c : Array Value} {ty : TypeId} (hc : ∃ z : List Value, c.toList = z ∧ VRs σ ρ cs (z.take cs.length))
    {k : Nat → Hp → Prop} (hk : newK h (.cells e wf af cs) k) {fz : Nat × Nat} (hw : w1.heap = w.heap.push (.cells c ty fz)) (hfz : ∀ j, j < c.size → ¬ (fz.1 ≤ j ∧ j < fz.2) := by intro j _ hj; exact absurd hj.2 (Nat.not_lt_zero _)) (hio : w1.os = w.os ∧ w1.output = w.output := by exact ⟨rfl, rfl⟩) :
    ∃ ρ' h', k h.sz h' ∧ Rel σ ρ' B h' w1 ∧ Kept ρ B h w ρ' h' w1 ∧ ρ' h.sz = some ⟨w.heap.size, 0, c.size, e⟩ := by
  obtain ⟨z, rfl, hv⟩ := hc
  have hl := hv.length
  simp at hl
  obtain ⟨r', k'⟩ := r.push e wf af cs c ty fz hfz hw hio (by omega) (fun j v hv' => by
    obtain ⟨v', h1, h2⟩ := hv.get hv'
    rw [List.getElem?_take] at h1
    split at h1
    · exact ⟨v', by simpa using h1, h2⟩
    · cases h1)
  exact ⟨_, _, (newK_iff _ _ _).1 hk, r', k', Ren.add_self _ _ _⟩
end Go.Ab
