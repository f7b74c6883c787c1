/- The abstract operations stand for the model's, one by one (fifth part). No condition. -/
import Derived.Test.YtbcpapkjdphfpaaCore11
import Derived.Laws.StructEq
namespace Go.Ab
variable {σ : Nat → Value} {ρ ρ' : Ren} {P : Program}
section ops
variable {B : Nat} {h : Hp} {w : World} {a : Act} {t : Tr AV} {orc : Orc} {k : AV → Hp → Prop} {o : Oper}

theorem slcStr_ok (r : Rel σ ρ B h w) (ht : TR σ ρ t a.tmps) {x : O} {lo hi : Option O} {x' : Operand} {lo' hi' : Option Operand} {ty : TypeId} (ho : o.op = .slice ty x' lo' hi' none) (hc : chkO x' x = true) (hc1 : chkOpt lo' lo = true) (hc2 : chkOpt hi' hi = true) (h1 : isStrT P ty = true) (hk : opK orc (.slcStr x lo hi) t h k) : Res P σ ρ B h w (execOp a.eval o) k := by
  obtain ⟨v, h3, h4⟩ := ev_ok ht hc hk
  obtain ⟨l, h5, hl⟩ := optR_ok ht hc1 h3
  obtain ⟨hh, h6, hhi⟩ := optR_ok ht hc2 h5
  have hu := isStrT_some h1
  cases v <;> try exact h6.elim
  rename_i s
  obtain ⟨l0, h0, m0, mR, h8, h9, h10, h11, h12, h13⟩ := bnds_run (P := P) hl hhi (.inl ⟨rfl, rfl⟩) (Nat.le_refl s.length) h6 false w
  refine Res.pure r h8 (v' := .string ⟨((s.take h0).drop l0).toArray⟩) ?_ (.s _)
  have e1 : (ByteArray.mk s.toArray).extract l0 h0 = ⟨((s.take h0).drop l0).toArray⟩ := by
    apply ByteArray.ext
    rw [ByteArray.data_extract]
    apply Array.ext'
    simp [List.extract_eq_take_drop, List.drop_take]
  have h9' : (Instr.sliceBounds false (ByteArray.mk s.toArray).size (ByteArray.mk s.toArray).size (lo'.map a.eval) (hi'.map a.eval) none).run P w = .ok (l0, h0, mR) w := by rw [ba_size]; exact h9
  simp only [execOp, ho, Instr.sliceAt, Sem.run_bind, und_run hu, Result.andThen_ok, Instr.slice, h4.un_s, Option.map_none, Option.isSome_none, Bool.false_eq_true, if_false, h9', Sem.run_pure, e1]

theorem slcA_ok (r : Rel σ ρ B h w) (ht : TR σ ρ t a.tmps) {len esz : Nat} {x : O} {lo hi mx : Option O} {x' : Operand} {lo' hi' mx' : Option Operand} {ty e : TypeId} (ho : o.op = .slice ty x' lo' hi' mx') (hc : chkO x' x = true) (hc1 : chkOpt lo' lo = true) (hc2 : chkOpt hi' hi = true) (hc3 : chkOpt mx' mx = true) (h1 : arrOf P ty = some (len, e)) (h2 : chkSize P e esz = true) (hk : opK orc (.slcA len esz x lo hi mx) t h k) : Res P σ ρ B h w (execOp a.eval o) k := by
  obtain ⟨v, h3, h4⟩ := ev_ok ht hc hk
  obtain ⟨b, o', L, h5, h6, h7⟩ := unP_ok h4 h3
  obtain ⟨l, h8, hl⟩ := optR_ok ht hc1 h7
  obtain ⟨hh, h9, hhi⟩ := optR_ok ht hc2 h8
  obtain ⟨m, h10, hm⟩ := optR_ok ht hc3 h9
  obtain ⟨l0, h0, m0, mR, h11, h12, h13, h14, h15, h16⟩ := bnds_run (P := P) hl hhi hm (Nat.le_refl len) h10 false w
  simp only [forceN_eq] at h11
  have hmR : mR = m0 := by rcases h16 with ⟨_, rfl, rfl⟩ | ⟨_, rfl⟩ <;> rfl
  subst hmR
  have hrun : (execOp a.eval o).run P w = .ok (.value (.slice (some ⟨L.blk, L.off + (if mR = l0 then o' else o'.add (l0.mul esz)), none⟩) (h0 - l0) (mR - l0))) w := by
    simp only [execOp, ho, Instr.sliceAt, Sem.run_bind, und_run (arrOf_some h1), Result.andThen_ok, h6, Instr.sureAddr, Sem.run_pure, h12, size_run h2, add_none]
    congr 3
    split
    · rfl
    · simp [Nat.add_assoc]
  exact Res.pure r h11 hrun (.sl _ _ _ _ _ _ L h5 (.inl rfl))

set_option maxHeartbeats 2000000 in
theorem isNil_ok {q : NK} {x : AV} {x' : Value} (hx : VR σ ρ x x') {k : Bool → Prop} (hk : isNilK q x k) {ty : TypeId} (hT : nilT P q ty = true) {y : Operand} (hy : isNilC q y = true) (w : World) :
    ∃ c z, k c ∧ y = .const z ∧ (Op.equalIn (9999 + 1) ty x' z).run P w = .ok c w ∧ (Op.equalIn (9999 + 1) ty z x').run P w = .ok c w ∧ (∀ cs, x' ≠ .agg cs) ∧ (∀ cs, z ≠ .agg cs) ∧
      (∀ op, op = .eql ∨ op = .neq → binOp op ty x' z = (do let r ← Op.equal ty x' z; pure (.bool (xor (op == .neq) r)))) ∧
      (∀ op, op = .eql ∨ op = .neq → binOp op ty z x' = (do let r ← Op.equal ty z x'; pure (.bool (xor (op == .neq) r)))) := by
  unfold nilT at hT
  split at hT <;> try (cases hT; done)
  all_goals
    rename_i hu
    cases y <;> first | (simp [isNilC] at hy; done) | skip
    rename_i z
    unfold isNilC at hy
    split at hy <;> first | (simp at hy; done) | skip
    all_goals
      rename_i hz
      cases hz
      cases x <;> first | exact hk.elim | skip
      all_goals
        cases hx <;>
        refine ⟨_, _, hk, rfl, (by rw [Op.equalIn]; simp [und_run hu]), (by rw [Op.equalIn]; simp [und_run hu]), (by intro cs hh; cases hh), (by intro cs hh; cases hh), ?_, ?_⟩ <;>
          (intro op hop; rcases hop with rfl | rfl <;> simp [binOp, show (BinOp.eql == BinOp.neq) = false from rfl])

theorem eqN_ok (r : Rel σ ρ B h w) (ht : TR σ ρ t a.tmps) {neg : Bool} {q : NK} {op : BinOp} (hop : (op = .eql ∧ neg = false) ∨ (op = .neq ∧ neg = true)) {x : O} {x' y' : Operand} {ty uy : TypeId} (ho : o.op = .binOp op ty x' y' uy)
    (hc : (chkO x' x = true ∧ isNilC q y' = true) ∨ (chkO y' x = true ∧ isNilC q x' = true)) (hT : nilT P q ty = true) (hk : opK orc (.eqN neg q x) t h k) : Res P σ ρ B h w (execOp a.eval o) k := by
  have hop' : op = .eql ∨ op = .neq := hop.imp (·.1) (·.1)
  have hneg : neg = (op == .neq) := by rcases hop with ⟨rfl, rfl⟩ | ⟨rfl, rfl⟩ <;> rfl
  have hg : ∀ {X Y : Operand} {u v : Value}, ((∃ z, X = .const z) ∨ ∃ z, Y = .const z) → (∀ cs, u ≠ .agg cs) → (eqGuard op ty X Y u v).run P w = .ok () w := by
    intro X Y u v hc hu
    by_cases hn : u = .nilIface
    · subst hn
      cases v <;> first | (cases op <;> simp [eqGuard]; done) | (rcases hc with ⟨z, rfl⟩ | ⟨z, rfl⟩ <;> cases op <;> simp [eqGuard])
    · exact eqGuard_prim hu hn w
  rcases hc with ⟨hc, hn⟩ | ⟨hc, hn⟩
  · obtain ⟨v, h1, h2⟩ := ev_ok ht hc hk
    obtain ⟨c, z, h3, rfl, h4, h5, h6, h7, h8, h9⟩ := isNil_ok (P := P) h2 h1 hT hn w
    rw [forceB_eq] at h3
    refine Res.pure r h3 (execBin ho (hg (.inr ⟨z, rfl⟩) h6) ?_) (.b _)
    show (binOp op ty (a.eval x') z).run P w = _
    have h4' : (Op.equal ty (a.eval x') z).run P w = .ok c w := h4
    rw [h8 op hop', hneg]
    simp [h4']
  · obtain ⟨v, h1, h2⟩ := ev_ok ht hc hk
    obtain ⟨c, z, h3, rfl, h4, h5, h6, h7, h8, h9⟩ := isNil_ok (P := P) h2 h1 hT hn w
    rw [forceB_eq] at h3
    refine Res.pure r h3 (execBin ho (hg (.inl ⟨z, rfl⟩) h7) ?_) (.b _)
    show (binOp op ty z (a.eval y')).run P w = _
    have h5' : (Op.equal ty z (a.eval y')).run P w = .ok c w := h5
    rw [h9 op hop', hneg]
    simp [h5']

theorem cellsEq_ok (d : Nat) (xs ys : Array Value) (w : World) : ∀ (fs : List Field) (qs : List PK) (i : Nat) (us vs : List AV), chkFields P i fs qs = true →
    VRs σ ρ us (xs.toList.drop i) → VRs σ ρ vs (ys.toList.drop i) → ∀ (k : Bool → Prop), cellsEqK qs us vs k → ∃ c, k c ∧ (Op.eqFields (d + 1) xs ys fs).run P w = .ok c w
  | [], qs, i, us, vs, hf, _, _, k, hk => by
    cases qs with
    | nil => exact ⟨true, hk, by simp [Op.eqFields]⟩
    | cons => simp [chkFields] at hf
  | f :: fs, qs, i, us, vs, hf, hu, hv, k, hk => by
    cases qs with
    | nil => simp [chkFields] at hf
    | cons q qs =>
    cases us with
    | nil => exact hk.elim
    | cons u us =>
      cases vs with
      | nil => exact hk.elim
      | cons v vs =>
        have hk' : cellEqK q u v (fun e => Bool.rec (motive := fun _ => Prop) (k false) (cellsEqK qs us vs k) e) := hk
        simp only [chkFields, Bool.and_eq_true, bne_iff_ne, beq_iff_eq] at hf
        obtain ⟨⟨⟨hn, hof⟩, hty⟩, hf⟩ := hf
        obtain ⟨u', hu1, hu2⟩ := hu.get (j := 0) rfl
        obtain ⟨v', hv1, hv2⟩ := hv.get (j := 0) rfl
        have hu3 : xs[f.offset]? = some u' := by rw [hof]; simpa using hu1
        have hv3 : ys[f.offset]? = some v' := by rw [hof]; simpa using hv1
        have hsome : (P.underlying f.type).isSome = true := by split at hty <;> simp_all
        have hna : isAggT P f.type = false := by unfold isAggT; split at hty <;> simp_all
        have p1 := (part_run (P := P) (t := f.type) xs f.offset w).1 hna hsome hu3
        have p2 := (part_run (P := P) (t := f.type) ys f.offset w).1 hna hsome hv3
        have heq : ∃ c : Bool, (Bool.rec (motive := fun _ => Prop) (k false) (cellsEqK qs us vs k) c : Prop) ∧ (Op.equalIn (d + 1) f.type u' v').run P w = .ok c w := by
          split at hty <;> try (cases hty; done)
          · rename_i hh
            cases u <;> try exact hk'.elim
            cases v <;> try exact hk'.elim
            have e1 := hu2.un_b; have e2 := hv2.un_b; subst e1; subst e2
            simp only [cellEqK, forceB_eq] at hk'
            exact ⟨_, hk', run_equalIn_bool' w d f.type _ _ hh⟩
          · rename_i hh
            cases u <;> try exact hk'.elim
            cases v <;> try exact hk'.elim
            have e1 := hu2.un_i; have e2 := hv2.un_i; subst e1; subst e2
            simp only [cellEqK, forceB_eq, whenK_iff, eqI_eq] at hk'
            obtain ⟨hq, hk'⟩ := hk'
            have hqq := of_decide_eq_true hq
            subst hqq
            exact ⟨_, hk', run_equalIn_int w d f.type _ _ _ _ hh⟩
          · rename_i hh
            cases u <;> try exact hk'.elim
            cases v <;> try exact hk'.elim
            have e1 := hu2.un_s; have e2 := hv2.un_s; subst e1; subst e2
            simp only [cellEqK, forceB_eq, eqS_eq] at hk'
            refine ⟨_, hk', (run_equalIn_string w d f.type _ _ hh).trans ?_⟩
            rw [ByteArray.toList_eq, ByteArray.toList_eq]
        obtain ⟨c, hc1, hc2⟩ := heq
        cases c with
        | false => exact ⟨false, hc1, by simp [Op.eqFields, hn, p1, p2, hc2]⟩
        | true =>
          obtain ⟨c, hc3, hc4⟩ := cellsEq_ok d xs ys w fs qs (i + 1) us vs hf
            (by have := hu.drop 1; simpa using this) (by have := hv.drop 1; simpa using this) k hc1
          exact ⟨c, hc3, by simp [Op.eqFields, hn, p1, p2, hc2, hc4]⟩

theorem eqA_ok (r : Rel σ ρ B h w) (ht : TR σ ρ t a.tmps) {neg : Bool} {qs : List PK} {op : BinOp} (hop : (op = .eql ∧ neg = false) ∨ (op = .neq ∧ neg = true)) {x y : O} {x' y' : Operand} {ty uy : TypeId} (ho : o.op = .binOp op ty x' y' uy)
    (hc1 : chkO x' x = true) (hc2 : chkO y' y = true) (hf : chkFlat P ty qs = true) (hk : opK orc (.eqA neg qs x y) t h k) : Res P σ ρ B h w (execOp a.eval o) k := by
  obtain ⟨u, h1, h2⟩ := ev_ok ht hc1 hk
  obtain ⟨v, h3, h4⟩ := ev_ok ht hc2 h1
  cases u <;> try exact h3.elim
  cases v <;> try exact h3.elim
  obtain ⟨xs, h5, h6⟩ := h2.un_agg
  obtain ⟨ys, h7, h8⟩ := h4.un_agg
  unfold chkFlat at hf
  split at hf <;> try (cases hf; done)
  rename_i fs hu
  simp only [Bool.and_eq_true, Bool.not_eq_true'] at hf
  obtain ⟨⟨hs, hg⟩, hf⟩ := hf
  have hfo : P.fieldsOf ty = fs := by simp [Program.fieldsOf, hu]
  obtain ⟨c, h9, h10⟩ := cellsEq_ok (P := P) 9998 xs ys w fs.toList qs 0 _ _ hf (by simpa using h5) (by simpa using h7) _ h3
  rw [forceB_eq] at h9
  have h11 : (Op.equalIn 10000 ty (.agg xs) (.agg ys)).run P w = .ok c w := by
    rw [run_equalIn_struct w 9999 ty xs ys (by rw [hfo]; exact hu) hs, hfo]; exact h10
  refine Res.pure r h9 (execBin ho ?_ ?_) (.b _)
  · rw [h6, h8]; exact run_eqGuard_agg w op ty _ _ _ _ hg
  · rw [h6, h8]
    rcases hop with ⟨rfl, rfl⟩ | ⟨rfl, rfl⟩
    · rw [run_eql_struct, h11]; simp
    · rw [run_neq_struct, h11]; simp
end ops
end Go.Ab
