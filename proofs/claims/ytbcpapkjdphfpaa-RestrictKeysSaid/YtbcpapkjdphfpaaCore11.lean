/- The abstract operations stand for the model's, one by one (fourth part: slices, nil, structs compared, bytes and strings). No condition. -/
import Derived.Test.YtbcpapkjdphfpaaCore10
namespace Go.Ab
variable {σ : Nat → Value} {ρ ρ' : Ren} {P : Program}

def OptR (σ : Nat → Value) (ρ : Ren) (v : Option AV) (y : Option Value) : Prop := (v = none ∧ y = none) ∨ ∃ u y', v = some u ∧ y = some y' ∧ VR σ ρ u y'

theorem bnd_run {v : Option AV} {y : Option Value} (hv : OptR σ ρ v y) {d top topR : Nat} (ht : top ≤ topR) {k : Nat → Prop} (hk : bndK v d top k) (code : Instr.sliceBound = Instr.sliceBound → BoundsCode) (w : World) :
    ∃ n, k n ∧ ((v = none ∧ y = none ∧ n = d) ∨ ∃ u, y = some u ∧ v ≠ none ∧ n ≤ top ∧ (Instr.sliceBound u topR (code rfl)).run P w = .ok n w) := by
  rcases hv with ⟨rfl, rfl⟩ | ⟨u, y', rfl, rfl, hv⟩
  · exact ⟨d, hk, .inl ⟨rfl, rfl, rfl⟩⟩
  · have hk' : unN u (fun n => whenK (Nat.ble n top) (forceN n k)) := hk
    obtain ⟨q, n, e, h1⟩ := unN_ok hv hk'
    obtain ⟨h2, h3⟩ := (whenK_iff _ _).1 h1
    rw [forceN_eq] at h3
    rw [bleD] at h2
    have h4 : n ≤ top := by simpa using h2
    refine ⟨n, h3, .inr ⟨_, rfl, by simp, h4, ?_⟩⟩
    have : (0 : Int) ≤ n ∧ (n : Int) ≤ topR := by omega
    simp [Instr.sliceBound, e, asIntOf, this]

theorem bnds_run {lo hi mx : Option AV} {lo' hi' mx' : Option Value} (h1 : OptR σ ρ lo lo') (h2 : OptR σ ρ hi hi') (h3 : OptR σ ρ mx mx') {len cap capR : Nat} (hc : cap ≤ capR) {k : Nat → Nat → Nat → Prop} (hk : bndsK len cap lo hi mx k) (isSlice : Bool) (w : World) :
    ∃ l h m mR, k l h m ∧ (Instr.sliceBounds isSlice len capR lo' hi' mx').run P w = .ok (l, h, mR) w ∧ l ≤ h ∧ h ≤ m ∧ m ≤ cap ∧ ((mx = none ∧ m = cap ∧ mR = capR) ∨ (mx ≠ none ∧ mR = m)) := by
  have hk' : bndK mx cap cap (fun m => Option.rec (motive := fun _ => Prop) (Option.rec (motive := fun _ => Prop) (whenK (Nat.ble len m) (bndK lo 0 len (fun l => k l len m))) (fun _ => False) mx)
    (fun v => unN v (fun h => whenK (Nat.ble h m) (forceN h (fun h => bndK lo 0 h (fun l => k l h m))))) hi) := hk
  obtain ⟨m, hm, hm2⟩ := bnd_run (P := P) h3 hc hk' (fun _ => if isSlice then .slice3Acap else .slice3Alen) w
  rcases h2 with ⟨rfl, rfl⟩ | ⟨u, y', rfl, rfl, hv⟩
  · rcases hm2 with ⟨rfl, rfl, rfl⟩ | ⟨u, rfl, hne, _⟩
    · have hm' : whenK (Nat.ble len m) (bndK lo 0 len (fun l => k l len m)) := hm
      obtain ⟨h4, h5⟩ := (whenK_iff _ _).1 hm'
      rw [bleD] at h4
      obtain ⟨l, h6, h7⟩ := bnd_run (P := P) h1 (Nat.le_refl _) h5 (fun _ => .sliceB) w
      rcases h7 with ⟨rfl, rfl, rfl⟩ | ⟨u, rfl, _, h8, h9⟩
      · exact ⟨0, len, m, capR, h6, by simp [Instr.sliceBounds], Nat.zero_le _, by simpa using h4, Nat.le_refl _, .inl ⟨rfl, rfl, rfl⟩⟩
      · exact ⟨l, len, m, capR, h6, by simp [Instr.sliceBounds, h9], h8, by simpa using h4, Nat.le_refl _, .inl ⟨rfl, rfl, rfl⟩⟩
    · cases mx with
      | none => exact absurd rfl hne
      | some v => exact hm.elim
  · have hm' : unN u (fun h => whenK (Nat.ble h m) (forceN h (fun h => bndK lo 0 h (fun l => k l h m)))) := hm
    obtain ⟨q, h, e, h4⟩ := unN_ok hv hm'
    obtain ⟨h5, h6⟩ := (whenK_iff _ _).1 h4
    rw [forceN_eq] at h6
    rw [bleD] at h5
    have h5' : h ≤ m := by simpa using h5
    rcases hm2 with ⟨rfl, rfl, rfl⟩ | ⟨v, rfl, hne, hmt, hmr⟩
    · obtain ⟨l, h7, h8⟩ := bnd_run (P := P) h1 (Nat.le_refl _) h6 (fun _ => .sliceB) w
      have hh : ∀ code, (Instr.sliceBound y' capR code).run P w = .ok h w := by
        intro code
        have : (h : Int) ≤ capR := by omega
        simp [Instr.sliceBound, e, asIntOf]; omega
      rcases h8 with ⟨rfl, rfl, rfl⟩ | ⟨v, rfl, _, h8, h9⟩
      · exact ⟨0, h, m, capR, h7, by simp [Instr.sliceBounds, hh], Nat.zero_le _, h5', Nat.le_refl _, .inl ⟨rfl, rfl, rfl⟩⟩
      · exact ⟨l, h, m, capR, h7, by simp [Instr.sliceBounds, hh, h9], h8, h5', Nat.le_refl _, .inl ⟨rfl, rfl, rfl⟩⟩
    · obtain ⟨l, h7, h8⟩ := bnd_run (P := P) h1 (Nat.le_refl _) h6 (fun _ => .slice3C) w
      have hh : ∀ code, (Instr.sliceBound y' m code).run P w = .ok h w := by
        intro code
        simp [Instr.sliceBound, e, asIntOf]; omega
      have hmr' : (Instr.sliceBound v capR (if isSlice = true then .slice3Acap else .slice3Alen)).run P w = .ok m w := hmr
      rcases h8 with ⟨rfl, rfl, rfl⟩ | ⟨z, rfl, _, h8, h9⟩
      · exact ⟨0, h, m, m, h7, by simp [Instr.sliceBounds, hmr', hh], Nat.zero_le _, h5', hmt, .inr ⟨hne, rfl⟩⟩
      · exact ⟨l, h, m, m, h7, by simp [Instr.sliceBounds, hmr', hh, h9], h8, h5', hmt, .inr ⟨hne, rfl⟩⟩

theorem optR_ok {t : Tr AV} {a : Act} (ht : TR σ ρ t a.tmps) {x : Option O} {y : Option Operand} (hc : chkOpt y x = true) {k : Option AV → Prop} (h : optK t x k) : ∃ v, k v ∧ OptR σ ρ v (y.map a.eval) := by
  obtain ⟨v, h1, h2⟩ := optK_ok ht hc h
  rcases h2 with ⟨rfl, rfl⟩ | ⟨u, y', rfl, rfl, h3⟩
  · exact ⟨none, h1, .inl ⟨rfl, rfl⟩⟩
  · exact ⟨some u, h1, .inr ⟨u, _, rfl, rfl, h3⟩⟩

section ops
variable {B : Nat} {h : Hp} {w : World} {a : Act} {t : Tr AV} {orc : Orc} {k : AV → Hp → Prop} {o : Oper}

theorem slcS_ok (r : Rel σ ρ B h w) (ht : TR σ ρ t a.tmps) {esz : Nat} {x : O} {lo hi mx : Option O} {x' : Operand} {lo' hi' mx' : Option Operand} {ty e : TypeId} (ho : o.op = .slice ty x' lo' hi' mx') (hc : chkO x' x = true) (hc1 : chkOpt lo' lo = true) (hc2 : chkOpt hi' hi = true) (hc3 : chkOpt mx' mx = true) (h1 : elemOf P ty = some e) (h2 : chkSize P e esz = true) (hk : opK orc (.slcS esz x lo hi mx) t h k) : Res P σ ρ B h w (execOp a.eval o) k := by
  obtain ⟨v, h3, h4⟩ := ev_ok ht hc hk
  obtain ⟨l, h5, hl⟩ := optR_ok ht hc1 h3
  obtain ⟨hh, h6, hhi⟩ := optR_ok ht hc2 h5
  obtain ⟨m, h7, hm⟩ := optR_ok ht hc3 h6
  have hu := elemOf_some h1
  cases v <;> try exact h7.elim
  · obtain ⟨l0, h0, m0, mR, h8, h9, h10, h11, h12, h13⟩ := bnds_run (P := P) hl hhi hm (Nat.le_refl 0) h7 true w
    refine Res.pure r h8 (v' := .slice none 0 0) ?_ .nils
    have : l0 = 0 ∧ h0 = 0 ∧ mR = 0 := by rcases h13 with ⟨_, _, _⟩ | ⟨_, _⟩ <;> omega
    obtain ⟨rfl, rfl, rfl⟩ := this
    simp [execOp, ho, Instr.sliceAt, und_run hu, Instr.slice, h4.un_nils, h9, size_run h2]
  · rename_i b o' len cap loose
    obtain ⟨L, c, off, h8, h9, h10⟩ := h4.un_sl
    have hcc : cap ≤ c := by rcases h10 with ⟨_, h | h⟩ | ⟨_, h, h'⟩ <;> omega
    obtain ⟨l0, h0, m0, mR, h11, h12, h13, h14, h15, h16⟩ := bnds_run (P := P) hl hhi hm hcc h7 true w
    simp only [forceN_eq] at h11
    have h11' : k (.sl b (if (loose && m.isNone) = false ∧ m0 = l0 then o' else o'.add (l0.mul esz)) (h0 - l0) (m0 - l0) (loose && m.isNone)) h ∧ ((loose && m.isNone) = true → L.esz = esz) := by
      revert h11
      cases (loose && m.isNone) with
      | false => intro h11; exact ⟨h11, fun hh => by cases hh⟩
      | true =>
        intro h11
        obtain ⟨e2, wf, af, cs, hg, h17⟩ := (cellsK_iff _ _ _).1 h11
        obtain ⟨h18, h19⟩ := (whenK_iff _ _).1 h17
        obtain ⟨h20, _⟩ := r.cells b L e2 wf af cs h8 hg
        exact ⟨h19, fun _ => h20.trans (by simpa using h18)⟩
    obtain ⟨h11, hesz⟩ := h11'
    have hrun : (execOp a.eval o).run P w = .ok (.value (.slice (some (if mR = l0 then ⟨L.blk, off, none⟩ else ⟨L.blk, off + l0 * esz, none⟩)) (h0 - l0) (mR - l0))) w := by
      simp only [execOp, ho, Instr.sliceAt, Sem.run_bind, und_run hu, Result.andThen_ok, Instr.slice, h9, h12, size_run h2, Option.map_some, Sem.run_pure, add_none]
      congr 3
      split <;> rfl
    refine Res.pure r h11 hrun ?_
    by_cases hz : mR = l0
    · rw [if_pos hz, hz, Nat.sub_self]
      have e1 : h0 - l0 = 0 := by rcases h16 with ⟨_, _, _⟩ | ⟨_, _⟩ <;> omega
      have e2 : m0 - l0 = 0 := by rcases h16 with ⟨_, _, _⟩ | ⟨_, _⟩ <;> omega
      rw [e1, e2]
      exact .slz _ _ _ _ L h8
    · rw [if_neg hz]
      rcases h10 with ⟨rfl, h10⟩ | ⟨hl0, hc0, hcr⟩
      · rcases h16 with ⟨rfl, rfl, rfl⟩ | ⟨hmx, rfl⟩
        · -- no max
          have e3 : (if (loose && (none : Option AV).isNone) = false ∧ m0 = l0 then o' else o'.add (l0.mul esz)) = o' + l0 * esz := by
            split
            · rename_i hcond
              rcases h10 with h10 | ⟨h10, _⟩
              · omega
              · simp [h10] at hcond
            · rfl
          rw [e3]
          have e4 : L.off + o' + l0 * esz = L.off + (o' + l0 * esz) := by omega
          rw [e4]
          refine .sl _ _ _ _ _ _ L h8 ?_
          rcases h10 with h10 | ⟨h10, h17, h18⟩
          · left; omega
          · right
            have he := hesz (by simp [h10])
            refine ⟨by simp [h10], by omega, ?_⟩
            have hmul : l0 * esz + (mR - l0) * esz = mR * esz := by rw [← Nat.add_mul]; congr 1; omega
            rw [he] at h18 ⊢
            omega
        · have e3 : (if (loose && m.isNone) = false ∧ mR = l0 then o' else o'.add (l0.mul esz)) = o' + l0 * esz := by
            rw [if_neg (by intro hh; exact hz hh.2)]; rfl
          rw [e3]
          have e4 : L.off + o' + l0 * esz = L.off + (o' + l0 * esz) := by omega
          rw [e4]
          exact .sl _ _ _ _ _ _ L h8 (.inl rfl)
      · exfalso; rcases h16 with ⟨_, _, _⟩ | ⟨_, _⟩ <;> omega
end ops
end Go.Ab
