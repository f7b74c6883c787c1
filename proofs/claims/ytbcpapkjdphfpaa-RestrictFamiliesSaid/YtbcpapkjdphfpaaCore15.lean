/- Every checked operation stands for the model's. No condition. -/
import Derived.Test.YtbcpapkjdphfpaaCore25
namespace Go.Ab
variable {σ : Nat → Value} {ρ ρ' : Ren} {P : Program}
section ops
variable {B : Nat} {h : Hp} {w : World} {a : Act} {t : Tr AV} {orc : Orc} {k : AV → Hp → Prop} {o : Oper}

theorem builtin_ok (horc : OrcOk P σ orc) (r : Rel σ ρ B h w) (ht : TR σ ρ t a.tmps) {b : Builtin} {args : Array Operand} {argTypes : Array TypeId} {io : IOp} (ho : o.op = .call ⟨.builtin b, args, argTypes⟩) (hc : chkBuiltin P b argTypes args.toList io = true) (hk : opK orc io t h k) : Res P σ ρ B h w (execOp a.eval o) k := by
  unfold chkBuiltin at hc
  split at hc
  · rename_i y n hops
    cases ha : argTypes[0]? with
    | none => simp [ha] at hc
    | some ty =>
      simp only [ha, Option.bind_some] at hc
      split at hc
      · rename_i m e he
        exact lenArr_ok r ho hops ha he (by simpa using hc) hk
      · cases hc
  · rename_i x str y hops
    simp only [Bool.and_eq_true] at hc
    cases ha : argTypes[0]? with
    | none => simp [ha] at hc
    | some ty =>
      simp only [ha] at hc
      exact len_ok horc r ht ho hops ha hc.2 hc.1 hk
  · rename_i x y hops
    simp only [Bool.and_eq_true] at hc
    cases ha : argTypes[0]? with
    | none => simp [ha] at hc
    | some ty =>
      simp only [ha, Option.bind_some] at hc
      exact lenM_ok r ht ho hops ha hc.2 hc.1 hk
  · rename_i s x esz bytes consume s' x' hops
    simp only [Bool.and_eq_true] at hc
    cases h0 : argTypes[0]? with
    | none => simp [h0] at hc
    | some ts =>
      cases h1 : argTypes[1]? with
      | none => simp [h0, h1] at hc
      | some tx =>
        simp only [h0, h1] at hc
        obtain ⟨⟨hc1, hc2⟩, hc3⟩ := hc
        cases he : elemOf P ts with
        | none => simp [he] at hc3
        | some e =>
          simp only [he, Bool.and_eq_true] at hc3
          obtain ⟨⟨⟨hs, hb⟩, hz⟩, hx⟩ := hc3
          split at hz <;> try (cases hz; done)
          rename_i i hi
          split at hz <;> try (cases hz; done)
          rename_i z hzz
          have hx' : P.underlying tx = some .string ∨ ∃ e, P.underlying tx = some (.slice e) := by
            rw [Bool.or_eq_true] at hx
            rcases hx with hx | hx
            · exact .inl (isStrT_some hx)
            · obtain ⟨e, hx⟩ := Option.isSome_iff_exists.1 hx
              exact .inr ⟨e, elemOf_some hx⟩
          exact app_ok horc.atoms r ht ho hops h0 h1 he hx' hs hb hi hzz (by simpa using hz) hc1 hc2 hk
  · rename_i s x esz bytes s' x' hops
    simp only [Bool.and_eq_true] at hc
    cases h0 : argTypes[0]? with
    | none => simp [h0] at hc
    | some ts =>
      cases h1 : argTypes[1]? with
      | none => simp [h0, h1] at hc
      | some tx =>
        simp only [h0, h1] at hc
        obtain ⟨⟨hc1, hc2⟩, hc3⟩ := hc
        cases he : elemOf P ts with
        | none => simp [he] at hc3
        | some e =>
          simp only [he, Bool.and_eq_true] at hc3
          obtain ⟨⟨⟨hs, hb⟩, hz⟩, hx⟩ := hc3
          split at hz <;> try (cases hz; done)
          rename_i i hi
          split at hz <;> try (cases hz; done)
          rename_i z hzz
          have hx' : P.underlying tx = some .string ∨ ∃ e, P.underlying tx = some (.slice e) := by
            rw [Bool.or_eq_true] at hx
            rcases hx with hx | hx
            · exact .inl (isStrT_some hx)
            · obtain ⟨e, hx⟩ := Option.isSome_iff_exists.1 hx
              exact .inr ⟨e, elemOf_some hx⟩
          exact app_ok horc.atoms r ht ho hops h0 h1 he hx' hs hb hi hzz (by simpa using hz) hc1 hc2 (orc := orc) (consume := true) hk
  · rename_i d s esz d' s' hops
    simp only [Bool.and_eq_true] at hc
    cases h0 : argTypes[0]? with
    | none => simp [h0] at hc
    | some td =>
      simp only [h0, Option.bind_some] at hc
      obtain ⟨⟨⟨hc1, hc2⟩, hc4⟩, hc3⟩ := hc
      split at hc3 <;> try (cases hc3; done)
      rename_i e he
      exact copy_ok horc.atoms r ht ho hops h0 hc4 he hc3 hc1 hc2 hk
  · rename_i x y x' y' hops
    simp only [Bool.and_eq_true] at hc
    exact max_ok r ht ho hops hc.1 hc.2 hk
  · rename_i x y x' y' hops
    simp only [Bool.and_eq_true] at hc
    exact min_ok r ht ho hops hc.1 hc.2 hk
  · rename_i x z y hops
    simp only [Bool.and_eq_true] at hc
    cases h0 : argTypes[0]? with
    | none => simp [h0] at hc
    | some td =>
      simp only [h0, Option.bind_some] at hc
      obtain ⟨hc1, hc3⟩ := hc
      split at hc3 <;> try (cases hc3; done)
      rename_i e he
      exact clear_ok horc.atoms r ht ho hops h0 he hc3 hc1 hk
  · cases hc

theorem apart_elim {b : Nat} : ∀ {ps : List Nat} {p : Prop}, apartK t b ps p → p ∧ ∀ q ∈ ps, ∃ b' o', t.get q = some (.ptr b' o') ∧ b' ≠ b
  | [], p, h => ⟨h, (by intro q hq; cases hq)⟩
  | q :: ps, p, h => by
    have h' : t.getK q (fun y => unP y (fun b' _ => whenK (not (Nat.beq b' b)) (apartK t b ps p))) := h
    obtain ⟨y, h1, h2⟩ := (Tr.getK_iff _ _ _).1 h'
    cases y <;> try exact h2.elim
    rename_i b' o'
    obtain ⟨h3, h4⟩ := (whenK_iff _ _).1 h2
    obtain ⟨h5, h6⟩ := apart_elim h4
    refine ⟨h5, fun q' hq => ?_⟩
    rcases List.mem_cons.1 hq with rfl | hq
    · refine ⟨b', o', h1, ?_⟩
      rintro rfl
      simp at h3
    · exact h6 q' hq
theorem storeD_store {n : Nat} {x v : O} {ps : List Nat} (hk : opK orc (.storeD n x v ps) t h k) : opK orc (.store n x v) t h k := by
  obtain ⟨p, h1, h2⟩ := evK_l t x _ hk
  cases p <;> try exact h1.elim
  exact h2 _ (apart_elim h1).1
theorem op_ok (horc : OrcOk P σ orc) (r : Rel σ ρ B h w) (ht : TR σ ρ t a.tmps) {io : IOp} (hc : chkOp P o.op io = true) (hk : opK orc io t h k) : Res P σ ρ B h w (execOp a.eval o) k := by
  generalize ho : o.op = oo at hc
  unfold chkOp at hc
  split at hc
  · exact mov_ok r ht (.inl ho) hc hk
  · exact mov_ok r ht (.inr ho) hc hk
  · simp only [Bool.and_eq_true] at hc; exact pick_ok r ht ho hc.1.1 hc.1.2 hc.2 hk
  · exact alloc_ok r ho hc hk
  · exact box_ok horc.atoms r ht ho hc hk
  · simp only [Bool.and_eq_true] at hc; exact build_ok horc.atoms r ht ho hc.1 hc.2 hk
  · simp only [Bool.and_eq_true] at hc
    obtain ⟨hn, hc⟩ := hc
    split at hc <;> try (cases hc; done)
    rename_i e he
    simp only [Bool.and_eq_true] at hc
    obtain ⟨⟨h1, h2⟩, h3⟩ := hc
    split at h3 <;> try (cases h3; done)
    rename_i j hj
    obtain rfl := eq_of_beq hn
    exact buildS_ok horc.atoms r ht ho he h1 (by simpa using h2) hj h3 hk
  · simp only [Bool.and_eq_true, Bool.not_eq_true'] at hc; exact load1_ok r ht ho hc.1.1 hc.1.2 hc.2 hk
  · simp only [Bool.and_eq_true] at hc; exact loadN_ok r ht ho hc.1.1 hc.1.2 hc.2 hk
  · simp only [Bool.and_eq_true] at hc; exact store_ok horc.atoms r ht ho hc.1.1 hc.1.2 hc.2 hk
  · simp only [Bool.and_eq_true] at hc; exact store_ok horc.atoms r ht ho hc.1.1 hc.1.2 hc.2 (storeD_store hk)
  · exact nilChk_ok r ht ho hc hk
  · simp only [Bool.and_eq_true, decide_eq_true_eq] at hc
    obtain ⟨⟨⟨rfl, h1⟩, h2⟩, _⟩ := hc
    exact bin_ok horc r ht ho h1 h2 hk
  · simp only [Bool.and_eq_true, Bool.not_eq_true'] at hc
    exact eqB_ok r ht (.inl ⟨rfl, hc.1.1.1⟩) ho hc.1.1.2 hc.1.2 hc.2 hk
  · simp only [Bool.and_eq_true] at hc
    exact eqB_ok r ht (.inr ⟨rfl, hc.1.1.1⟩) ho hc.1.1.2 hc.1.2 hc.2 hk
  · simp only [Bool.and_eq_true, Bool.or_eq_true, Bool.not_eq_true'] at hc
    exact eqN_ok r ht (.inl ⟨rfl, hc.1.1⟩) ho hc.1.2 hc.2 hk
  · simp only [Bool.and_eq_true, Bool.or_eq_true] at hc
    exact eqN_ok r ht (.inr ⟨rfl, hc.1.1⟩) ho hc.1.2 hc.2 hk
  · simp only [Bool.and_eq_true, Bool.not_eq_true'] at hc
    exact eqA_ok r ht (.inl ⟨rfl, hc.1.1.1⟩) ho hc.1.1.2 hc.1.2 hc.2 hk
  · simp only [Bool.and_eq_true] at hc
    exact eqA_ok r ht (.inr ⟨rfl, hc.1.1.1⟩) ho hc.1.1.2 hc.1.2 hc.2 hk
  · simp only [Bool.and_eq_true, decide_eq_true_eq] at hc
    obtain ⟨rfl, h1⟩ := hc
    exact un_ok r ht ho h1 hk
  · simp only [Bool.and_eq_true] at hc; exact cvInt_ok horc r ht ho hc.1.1 hc.1.2 hc.2 hk
  · simp only [Bool.and_eq_true] at hc; exact cvStr_ok r ht ho hc.1.1 hc.1.2 hc.2 hk
  · simp only [Bool.and_eq_true] at hc
    obtain ⟨⟨h1, h2⟩, h3⟩ := hc
    split at h3 <;> try (cases h3; done)
    rename_i e he
    exact s2b_ok r ht ho h1 h2 he h3 hk
  · simp only [Bool.and_eq_true] at hc
    obtain ⟨⟨h1, h2⟩, h3⟩ := hc
    split at h3 <;> try (cases h3; done)
    rename_i e he
    exact b2s_ok r ht ho h1 h2 he h3 hk
  · simp only [Bool.and_eq_true] at hc
    obtain ⟨h1, h2⟩ := hc
    split at h2 <;> try (cases h2; done)
    rename_i fs hfs
    split at h2 <;> try (cases h2; done)
    rename_i fd hfd
    simp only [Bool.and_eq_true, Bool.not_eq_true'] at h2
    exact fAddr_ok r ht ho h1 hfs hfd (eq_of_beq h2.1.1) h2.1.2 h2.2 hk
  · simp only [Bool.and_eq_true] at hc
    exact fld_ok r ht ho hc.1 hc.2 hk
  · simp only [Bool.and_eq_true] at hc
    obtain ⟨⟨h1, h2⟩, h3⟩ := hc
    split at h3 <;> try (cases h3; done)
    rename_i n e he
    simp only [Bool.and_eq_true] at h3
    obtain rfl := eq_of_beq h3.1
    exact iAddrA_ok r ht ho h1 h2 he h3.2 hk
  · simp only [Bool.and_eq_true] at hc
    obtain ⟨⟨h1, h2⟩, h3⟩ := hc
    split at h3 <;> try (cases h3; done)
    rename_i e he
    exact iAddrS_ok r ht ho h1 h2 he h3 hk
  · simp only [Bool.and_eq_true] at hc
    obtain ⟨⟨h1, h2⟩, h3⟩ := hc
    split at h3 <;> try (cases h3; done)
    rename_i n e he
    simp only [Bool.and_eq_true] at h3
    obtain ⟨⟨⟨h4, h5⟩, h6⟩, h7⟩ := h3
    obtain rfl := eq_of_beq h4
    exact idxA_ok r ht ho h1 h2 he h5 (eq_of_beq h6) h7 hk
  · simp only [Bool.and_eq_true] at hc; exact idxS_ok r ht ho hc.1.1 hc.1.2 hc.2 hk
  · simp only [Bool.and_eq_true] at hc
    obtain ⟨⟨⟨⟨h1, h2⟩, h3⟩, h4⟩, h5⟩ := hc
    split at h5 <;> try (cases h5; done)
    rename_i e he
    exact slcS_ok r ht ho h1 h2 h3 h4 he h5 hk
  · simp only [Bool.and_eq_true] at hc; exact slcStr_ok r ht ho hc.1.1.1 hc.1.1.2 hc.1.2 hc.2 hk
  · simp only [Bool.and_eq_true] at hc
    obtain ⟨⟨⟨⟨h1, h2⟩, h3⟩, h4⟩, h5⟩ := hc
    split at h5 <;> try (cases h5; done)
    rename_i n e he
    simp only [Bool.and_eq_true] at h5
    obtain rfl := eq_of_beq h5.1
    exact slcA_ok r ht ho h1 h2 h3 h4 he h5.2 hk
  · simp only [Bool.and_eq_true] at hc
    obtain ⟨h1, h2⟩ := hc
    obtain rfl := eq_of_beq h2
    exact ext_ok r ht ho h1 hk
  · simp only [Bool.and_eq_true] at hc
    obtain ⟨⟨h1, h2⟩, h3⟩ := hc
    obtain rfl := eq_of_beq h1
    exact mkF_ok r ht ho h2 h3 hk
  · simp only [Bool.and_eq_true] at hc
    obtain ⟨⟨h1, h2⟩, h3⟩ := hc
    split at h3 <;> try (cases h3; done)
    rename_i e he
    simp only [Bool.and_eq_true] at h3
    exact mkS_ok r ht ho h1 h2 he h3.1.2 h3.2 hk
  · exact mkM_ok r ho (.inl rfl) hk
  · exact mkM_ok r ho (.inr ⟨_, _, rfl, hc⟩) hk
  · simp only [Bool.and_eq_true, beq_iff_eq] at hc
    obtain ⟨⟨⟨⟨h1, h2⟩, rfl⟩, h3⟩, h4⟩ := hc
    exact lookM_ok horc r ht ho h1 h2 h3 h4 hk
  · simp only [Bool.and_eq_true] at hc
    exact updM_ok horc r ht (.inl ho) hc.1.1.1 hc.1.1.2 hc.1.2 hc.2 hk
  · simp only [Bool.and_eq_true] at hc
    exact updM_ok horc r ht (.inr ho) hc.1.1.1 hc.1.1.2 hc.1.2 hc.2 hk
  · exact hk.elim
  · simp only [Bool.and_eq_true] at hc
    exact rangeS_ok r ht ho hc.1 hc.2 hk
  · exact nextS_ok r ht ho hc hk
  · exact builtin_ok horc r ht ho hc hk
  · cases hc
end ops
end Go.Ab
