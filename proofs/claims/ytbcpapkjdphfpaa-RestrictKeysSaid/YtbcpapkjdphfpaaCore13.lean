/- The abstract operations stand for the model's, one by one (sixth part: what makes rows). No condition. -/
import Derived.Test.YtbcpapkjdphfpaaCore12
import Derived.Laws.BytesString
namespace Go.Ab
variable {σ : Nat → Value} {ρ ρ' : Ren} {P : Program}

theorem VRs.splice {l : List AV} {c c' : Array Value} {off : Nat} {vs : List AV} {vs' : List Value} (hl : VRs σ ρ l c.toList) (hv : VRs σ ρ vs vs') (h : off + vs.length ≤ l.length) (hs : Spl c off vs' c') :
    VRs σ ρ (l.take off ++ (vs ++ l.drop (off + vs.length))) c'.toList := by
  have h1 := hl.length
  have h2 := hv.length
  have h3 := hs.size
  refine VRs.of_get (by simp at h1 ⊢; omega) ?_
  intro j a ha
  rw [Array.getElem?_toList]
  by_cases hj : j < off
  · rw [List.getElem?_append_left (by simp; omega), List.getElem?_take_of_lt hj] at ha
    obtain ⟨v, hv1, hv2⟩ := hl.get ha
    exact ⟨v, by rw [hs.out _ (by omega)]; simpa using hv1, hv2⟩
  · rw [List.getElem?_append_right (by simp; omega)] at ha
    have e1 : (l.take off).length = off := by simp; omega
    rw [e1] at ha
    by_cases hj2 : j < off + vs.length
    · rw [List.getElem?_append_left (by omega)] at ha
      obtain ⟨v, hv1, hv2⟩ := hv.get ha
      refine ⟨v, ?_, hv2⟩
      have := hs.inn _ _ hv1
      rwa [show off + (j - off) = j from by omega] at this
    · rw [List.getElem?_append_right (by omega), List.getElem?_drop] at ha
      rw [show off + vs.length + (j - off - vs.length) = j from by omega] at ha
      obtain ⟨v, hv1, hv2⟩ := hl.get ha
      exact ⟨v, by rw [hs.out _ (by omega)]; simpa using hv1, hv2⟩

theorem fold_spl (off : Nat) : ∀ (vs : List Value) (s : Nat) (c : Array Value), off + s + vs.length ≤ c.size →
    Spl c (off + s) vs ((vs.zipIdx s).foldl (fun cs p => cs.setIfInBounds (off + p.2) p.1) c)
  | [], s, c, _ => ⟨rfl, fun _ _ => rfl, fun j v hv => by simp at hv⟩
  | v :: vs, s, c, h => by
    simp only [List.length_cons] at h
    rw [List.zipIdx_cons, List.foldl_cons]
    have ih := fold_spl off vs (s + 1) (c.setIfInBounds (off + s) v) (by simp; omega)
    refine ⟨by rw [ih.size]; simp, ?_, ?_⟩
    · intro j hj
      simp only [List.length_cons] at hj
      rw [ih.out j (by omega), Array.getElem?_setIfInBounds, if_neg (by omega)]
    · intro j u hu
      cases j with
      | zero =>
        simp at hu; subst hu
        rw [ih.out _ (by omega), Array.getElem?_setIfInBounds]; simp; omega
      | succ j =>
        have := ih.inn j u (by simpa using hu)
        rwa [show off + (s + 1) + j = off + s + (j + 1) from by omega] at this

theorem fill_ok (hσ : AtomsOk σ) {t : Tr AV} {a : Act} (ht : TR σ ρ t a.tmps) (place : Nat → Option (Nat × Nat)) : ∀ (xs : List (Nat × Operand)) (ps : List (Nat × Nat × O)) (l : List AV) (c : Array Value), chkParts place xs ps = true → VRs σ ρ l c.toList →
    ∀ (k : List AV → Prop), fillK t ps l k → ∃ l' c', k l' ∧ VRs σ ρ l' c'.toList ∧ Instr.fill place c (xs.map fun p => (p.1, a.eval p.2)) = some c'
  | [], ps, l, c, hc, hv, k, hk => by
    cases ps with
    | nil => exact ⟨l, c, hk, hv, rfl⟩
    | cons => simp [chkParts] at hc
  | (i, x) :: xs, ps, l, c, hc, hv, k, hk => by
    cases ps with
    | nil => simp [chkParts] at hc
    | cons p ps =>
      obtain ⟨off, n, y⟩ := p
      simp only [chkParts, Bool.and_eq_true, beq_iff_eq] at hc
      obtain ⟨⟨hp, hx⟩, hc⟩ := hc
      have hk' : evK t y (fun v => whenK (defd v) (forceN off (fun off => lenK (cellsOf v) (fun m => whenK (Nat.beq m n) (spliceK (cellsOf v) off l (fun l' => fillK t ps l' k)))))) := hk
      obtain ⟨v, h1, h2⟩ := ev_ok ht hx hk'
      obtain ⟨hd, h3⟩ := (whenK_iff _ _).1 h1
      rw [forceN_eq, lenK_iff] at h3
      obtain ⟨hn, h4⟩ := (whenK_iff _ _).1 h3
      obtain ⟨h5, h6⟩ := (spliceK_iff _ _ _ _).1 h4
      have hvs := VRs.cells hσ h2 hd
      have hl := hvs.length
      have hl2 := hv.length
      have hn' : (cellsOf v).length = n := by simpa using hn
      have hspl := fold_spl off (a.eval x).cells.toList 0 c (by simp at hl hl2 ⊢; omega)
      obtain ⟨l', c', h7, h8, h9⟩ := fill_ok hσ ht place xs ps _ _ hc (VRs.splice hv hvs (by omega) hspl) k h6
      refine ⟨l', c', h7, h8, ?_⟩
      have e1 : ¬ ((a.eval x).cells.size ≠ n) := by simp at hl; omega
      have e2 : ¬ (off + (a.eval x).cells.size > c.size) := by simp at hl hl2; omega
      simp only [List.map_cons, Instr.fill, hp]
      rw [if_neg (by simp; simp at e1 e2; omega)]
      rw [← h9]
      congr 1
      rw [← Array.foldl_toList, Array.toList_zipIdx]

theorem rep_ok {z : List AV} {zero : Array Value} (hz : VRs σ ρ z zero.toList) (n : Nat) (zero' : Array Value) (h0 : n * z.length = 0 ∨ zero' = zero) :
    VRs σ ρ (List.replicate n z).flatten ((Array.range (n * z.length)).map (fun i => zero'[i % zero'.size]!)).toList := by
  have hl := hz.length
  refine VRs.of_get (by simp [List.length_flatten]) ?_
  intro j a ha
  have hj : j < n * z.length := by
    have := (List.getElem?_eq_some_iff.1 ha).1
    simpa [List.length_flatten] using this
  have hz0 : 0 < z.length := Nat.pos_of_ne_zero (by rintro h; rw [h] at hj; simp at hj)
  rcases h0 with h0 | rfl
  · omega
  · have hm : j % z.length < z.length := Nat.mod_lt _ hz0
    have ha' : z[j % z.length]? = some a := by
      have key : ∀ (n j : Nat), j < n * z.length → (List.replicate n z).flatten[j]? = z[j % z.length]? := by
        intro n
        induction n with
        | zero => intro j hj; simp at hj
        | succ n ih =>
          intro j hj
          rw [List.replicate_succ, List.flatten_cons]
          by_cases hlt : j < z.length
          · rw [List.getElem?_append_left hlt, Nat.mod_eq_of_lt hlt]
          · rw [List.getElem?_append_right (by omega), ih _ (by rw [Nat.add_mul, Nat.one_mul] at hj; omega)]
            rw [Nat.mod_eq_sub_mod (by omega : j ≥ z.length)]
      rw [← key n j hj]; exact ha
    obtain ⟨v, hv1, hv2⟩ := hz.get ha'
    refine ⟨v, ?_, hv2⟩
    have hsz : zero'.size = z.length := by simpa using hl.symm
    rw [Array.toList_map, List.getElem?_map, Array.getElem?_toList, Array.getElem?_range, if_pos hj]
    simp only [Option.map_some, Option.some.injEq]
    rw [hsz]
    have : zero'[j % z.length]? = some v := by simpa using hv1
    rw [getElem!_pos zero' (j % z.length) (by rw [hsz]; exact hm)]
    rw [Array.getElem?_eq_some_iff] at this
    exact this.2

theorem mapM_fields (fs : Array Field) (hf : ∀ f ∈ fs.toList, (P.info? f.type).isSome = true) (w : World) :
    (fs.mapM (fun f => (do pure (f.offset, ← sizeOf f.type) : Sem (Nat × Nat)))).run P w = .ok (fs.map fun f => (f.offset, P.cellsOf f.type)) w := by
  have hpl : ∀ (l : List Field), (∀ f ∈ l, (P.info? f.type).isSome = true) → (List.mapM (fun (f : Field) => (do pure (f.offset, ← sizeOf f.type) : Sem (Nat × Nat))) l).run P w = .ok (l.map fun f => (f.offset, P.cellsOf f.type)) w := by
    intro l
    induction l with
    | nil => intro _; simp
    | cons f l ih =>
      intro hl
      obtain ⟨j, hj⟩ := Option.isSome_iff_exists.1 (hl f (by simp))
      rw [List.mapM_cons]
      simp only [Sem.run_bind, Sem.run_pure, sizeOf, typeInfo, run_program, hj, Result.andThen_ok] at ih ⊢
      rw [ih (fun g hg => hl g (by simp [hg]))]
      simp [Program.cellsOf, hj]
  obtain ⟨l⟩ := fs
  rw [List.mapM_toArray]
  simp only [Sem.run_map]
  rw [hpl l (by simpa using hf)]
  simp

section ops
variable {B : Nat} {h : Hp} {w : World} {a : Act} {t : Tr AV} {orc : Orc} {k : AV → Hp → Prop} {o : Oper}

theorem build_ok (hσ : AtomsOk σ) (r : Rel σ ρ B h w) (ht : TR σ ρ t a.tmps) {z : List AV} {ps : List (Nat × Nat × O)} {ty : TypeId} {xs : Array (Nat × Operand)} (ho : o.op = .build ty xs) (hz : chkZero P ty z = true)
    (hc : (match P.underlying ty with
      | some (.struct fs) => chkParts (fun i => (fs[i]?).bind fun f => (P.info? f.type).map fun j => (f.offset, j.size)) xs.toList ps && fs.toList.all fun f => (P.info? f.type).isSome
      | some (.array _ e) => (match P.info? e with | some j => chkParts (fun i => some (i * j.size, j.size)) xs.toList ps | none => false)
      | _ => false) = true) (hk : opK orc (.build z ps) t h k) : Res P σ ρ B h w (execOp a.eval o) k := by
  obtain ⟨i, v, h1, h2, h3, h4⟩ := zero_info hz
  have hv := vrcs_ok (σ := σ) (ρ := ρ) _ _ h3
  have hk' : fillK t ps z (fun cs => k (.agg cs) h) := hk
  split at hc <;> try (cases hc; done)
  · rename_i fs hu
    simp only [Bool.and_eq_true] at hc
    obtain ⟨l', c', h5, h6, h7⟩ := fill_ok hσ ht _ _ _ _ _ hc.1 hv _ hk'
    refine Res.pure r h5 (v' := .agg c') ?_ (.agg _ _ h6)
    have hmap := mapM_fields (P := P) fs (fun f hf => List.all_eq_true.1 hc.2 f hf) w
    have hplace : (fun (i : Nat) => (fs.map fun (f : Field) => (f.offset, P.cellsOf f.type))[i]?) = (fun (i : Nat) => (fs[i]?).bind fun (f : Field) => (P.info? f.type).map fun j => (f.offset, j.size)) := by
      funext i
      rw [Array.getElem?_map]
      cases hi : fs[i]? with
      | none => rfl
      | some f =>
        have hm : f ∈ fs.toList := by
          rw [Array.getElem?_eq_some_iff] at hi
          obtain ⟨hlt, rfl⟩ := hi
          simp
        have hs := (List.all_eq_true.1 hc.2) f hm
        obtain ⟨j, hj⟩ := Option.isSome_iff_exists.1 hs
        simp [Program.cellsOf, hj]
    simp only [execOp, ho, Instr.build, Sem.run_bind, zero_run h1 h2, Result.andThen_ok, und_run hu, hmap, hplace]
    have h7' : Instr.fill (fun i => (fs[i]?).bind fun (f : Field) => (P.info? f.type).map fun j => (f.offset, j.size)) v.cells (xs.map fun p => (p.1, a.eval p.2)).toList = some c' := by rw [Array.toList_map]; exact h7
    simp only [h7', Sem.run_pure, Result.andThen_ok]
  · rename_i n e hu
    cases he : P.info? e with
    | none => simp [he] at hc
    | some j =>
      simp only [he] at hc
      obtain ⟨l', c', h5, h6, h7⟩ := fill_ok hσ ht _ _ _ _ _ hc hv _ hk'
      refine Res.pure r h5 (v' := .agg c') ?_ (.agg _ _ h6)
      have h7' : Instr.fill (fun i => some (i * j.size, j.size)) v.cells (xs.map fun p => (p.1, a.eval p.2)).toList = some c' := by rw [Array.toList_map]; exact h7
      simp only [execOp, ho, Instr.build, Sem.run_bind, zero_run h1 h2, Result.andThen_ok, und_run hu, sizeOf, typeInfo, run_program, he, Sem.run_pure, h7']

theorem buildS_ok (hσ : AtomsOk σ) (r : Rel σ ρ B h w) (ht : TR σ ρ t a.tmps) {n : Nat} {z : List AV} {ps : List (Nat × Nat × O)} {ty e : TypeId} {xs : Array (Nat × Operand)} (ho : o.op = .buildSlice ty n xs) (he : elemOf P ty = some e) (hz : chkZero P e z = true) (hb : n * z.length ≤ 16777216)
    {j : TypeInfo} (hj : P.info? e = some j) (hc : chkParts (fun i => some (i * j.size, j.size)) xs.toList ps = true) (hk : opK orc (.buildS n z ps) t h k) : Res P σ ρ B h w (execOp a.eval o) k := by
  obtain ⟨i, v, h1, h2, h3, h4⟩ := zero_info hz
  rw [hj] at h1; cases h1
  have hv := vrcs_ok (σ := σ) (ρ := ρ) _ _ h3
  have hl := hv.length
  have hsz : z.length = j.size := by simp at hl; omega
  have hk' : repK z n (fun cs => fillK t ps cs (fun cs => newK h (.cells 0 true false cs) (fun b h' => k (.sl b 0 n n false) h'))) := hk
  rw [repK_iff] at hk'
  have hrep := rep_ok hv n (if n * z.length = 0 then #[] else v.cells) (by split <;> simp_all)
  obtain ⟨l', c', h5, h6, h7⟩ := fill_ok hσ ht _ _ _ _ _ hc hrep _ hk'
  have hl6 := h6.length
  obtain ⟨ρ', h', h8, h9, h10, h11⟩ := new_ok (w1 := { w with heap := w.heap.push (.cells c' e) }) r (c := c') ⟨_, rfl, by rw [hl6, List.take_length]; exact h6⟩ h5 rfl
  refine ⟨_, _, h', ρ', _, h8, .inl (?_ : _ = Result.ok (Next.value (.slice (some ⟨w.heap.size, 0 + 0, none⟩) n n)) { w with heap := w.heap.push (.cells c' e) }), .sl _ 0 _ _ _ _ _ h11 (.inl rfl), h9, h10⟩
  have hb' : ¬ (n * j.size > 2 ^ 24) := by rw [← hsz]; omega
  have h7' : Instr.fill (fun i => some (i * j.size, j.size)) ((Array.range (n * j.size)).map (fun i => (if n * j.size = 0 then #[] else v.cells)[i % (if n * j.size = 0 then #[] else v.cells).size]!)) (xs.map fun p => (p.1, a.eval p.2)).toList = some c' := by
    rw [Array.toList_map]; rw [hsz] at h7; exact h7
  simp only [execOp, ho, Instr.buildSlice, Sem.run_bind, und_run (elemOf_some he), Result.andThen_ok, sizeOf, typeInfo, run_program, hj, Sem.run_pure]
  rw [if_neg hb']
  by_cases hz0 : n * j.size = 0
  · simp only [hz0, if_true] at h7' ⊢
    simp only [Sem.run_bind, Sem.run_pure, Result.andThen_ok, h7', newRow, run_newObj, Nat.add_zero]
  · simp only [hz0, if_false] at h7' ⊢
    simp only [Sem.run_bind, zero_run hj h2, Sem.run_pure, Result.andThen_ok, h7', newRow, run_newObj, Nat.add_zero]

theorem wrap64_nat {n : Nat} (h : n ≤ 70368744177664) : IntKind.i64.wrap (n : Int) = n := by
  simp [IntKind.wrap, IntKind.bits, IntKind.signed]; omega

theorem mkS_ok (r : Rel σ ρ B h w) (ht : TR σ ρ t a.tmps) {esz bytes : Nat} {z : List AV} {len cap : O} {l' c' : Operand} {ty e : TypeId} (ho : o.op = .makeSlice ty l' c') (hc1 : chkO l' len = true) (hc2 : chkO c' cap = true) (he : elemOf P ty = some e) (hb : chkBytes P e bytes = true) (hz : chkZero P e z = true) (hk : opK orc (.mkS esz bytes z len cap) t h k) : Res P σ ρ B h w (execOp a.eval o) k := by
  obtain ⟨i, v, h1, h2, h3, h4⟩ := zero_info hz
  obtain ⟨i', hi', h5⟩ := bytes_info hb
  rw [h1] at hi'; cases hi'
  have hv := vrcs_ok (σ := σ) (ρ := ρ) _ _ h3
  have hl := hv.length
  have hsz : z.length = i.size := by simp at hl; omega
  obtain ⟨u, h6, h7⟩ := ev_ok ht hc1 hk
  obtain ⟨x, h8, h9⟩ := ev_ok ht hc2 h6
  obtain ⟨q, n, e1, h10⟩ := unN_ok h7 h8
  obtain ⟨q', m, e2, h11⟩ := unN_ok h9 h10
  obtain ⟨h12, h11⟩ := (whenK_iff _ _).1 h11
  obtain ⟨h13, h11⟩ := (whenK_iff _ _).1 h11
  obtain ⟨h14, h11⟩ := (whenK_iff _ _).1 h11
  rw [repK_iff] at h11
  rw [bleD] at h12 h13 h14
  have g1 : n ≤ m := by simpa using h12
  have g2 : m ≤ 70368744177664 := of_decide_eq_true h13
  have g3 : bytes * m ≤ 70368744177664 := of_decide_eq_true h14
  have hrep := rep_ok hv m (if m * z.length = 0 then #[] else v.cells) (by split <;> simp_all)
  have hl6 := hrep.length
  obtain ⟨ρ', h', h18, h19, h20, h21⟩ := new_ok (w1 := { w with heap := w.heap.push (.cells ((Array.range (m * z.length)).map (fun i => (if m * z.length = 0 then #[] else v.cells)[i % (if m * z.length = 0 then #[] else v.cells).size]!)) e) }) r ⟨_, rfl, by rw [hl6, List.take_length]; exact hrep⟩ h11 rfl
  refine ⟨_, _, h', ρ', _, h18, .inl (?_ : _ = Result.ok (Next.value (.slice (some ⟨w.heap.size, 0 + 0, none⟩) n m)) { w with heap := w.heap.push (.cells ((Array.range (m * z.length)).map (fun i => (if m * z.length = 0 then #[] else v.cells)[i % (if m * z.length = 0 then #[] else v.cells).size]!)) e) }), .sl _ 0 _ _ _ _ _ h21 (.inl rfl), h19, h20⟩
  have w1 := wrap64_nat (Nat.le_trans g1 g2)
  have w2 := wrap64_nat g2
  have t1 : ¬ ((m : Int) < 0) := by omega
  have t2 : ¬ ((n : Int) < 0) := by omega
  have t3 : ¬ ((n : Int) > (m : Int)) := by omega
  have t4 : ¬ ((i.bytes : Int) * (m : Int) > 2 ^ 48) := by
    rw [h5]
    have : ((bytes * m : Nat) : Int) ≤ 70368744177664 := Int.ofNat_le.2 g3
    rw [Int.natCast_mul] at this
    omega
  have hs : (sizeOf e).run P w = .ok i.size w := size_run (by unfold chkSize; rw [h1]; simp) w
  simp only [execOp, ho, Instr.makeSlice, Sem.run_bind, und_run (elemOf_some he), Result.andThen_ok, e1, e2, asInt, asIntOf, Sem.run_pure, info_run h1, w1, w2]
  simp only [t1, t2, t3, t4, decide_false, Bool.or_false, Bool.false_eq_true, if_false, Sem.run_bind, run_askRoom, Result.andThen_ok, Int.toNat_natCast, hs]
  rw [hsz]
  by_cases hz0 : m * i.size = 0
  · simp only [hz0, if_true]
    simp only [Sem.run_bind, Sem.run_pure, Result.andThen_ok, newRow, run_newObj, Nat.add_zero]
  · simp only [hz0, if_false]
    simp only [Sem.run_bind, zero_run h1 h2, Sem.run_pure, Result.andThen_ok, newRow, run_newObj, Nat.add_zero]
end ops
end Go.Ab
