/- The abstract operations stand for the model's, one by one (second part). No condition. -/
import Derived.Test.YtbcpapkjdphfpaaCore8
namespace Go.Ab
variable {σ : Nat → Value} {ρ ρ' : Ren} {P : Program}

theorem eqGuard_prim {op : BinOp} {t : TypeId} {x y : Operand} {u v : Value} (hu : ∀ cs, u ≠ .agg cs) (hu2 : u ≠ .nilIface) (w : World) : (eqGuard op t x y u v).run P w = .ok () w := by
  cases u <;> first | exact absurd rfl hu2 | exact absurd rfl (hu _) | (cases op <;> simp [eqGuard])

theorem equalIn_bool (d : Nat) {t : TypeId} (hu : P.underlying t = some .bool) (p q : Bool) (w : World) : (Op.equalIn (d + 1) t (.bool p) (.bool q)).run P w = .ok (p == q) w := by
  rw [Op.equalIn]
  simp [und_run hu]
theorem equal_bool {t : TypeId} (hu : P.underlying t = some .bool) (p q : Bool) (w : World) : (Op.equal t (.bool p) (.bool q)).run P w = .ok (p == q) w := equalIn_bool 9999 hu p q w
section ops
variable {B : Nat} {h : Hp} {w : World} {a : Act} {t : Tr AV} {orc : Orc} {k : AV → Hp → Prop} {o : Oper}

theorem binV_ok (ho : OrcOk P σ orc) {op : BinOp} {x y : AV} {x' y' : Value} (hx : VR σ ρ x x') (hy : VR σ ρ y y') {k : AV → Prop} (hk : binK orc op x y k) {ty : TypeId} (w : World) :
    ∃ r r', k r ∧ VR σ ρ r r' ∧ (binOp op ty x' y').run P w = .ok r' w ∧ (∀ cs, x' ≠ .agg cs) ∧ x' ≠ .nilIface := by
  have orcOk : ∀ {q : AV} {x y : AV}, orc.bin op x y = some q → VR σ ρ x x' → VR σ ρ y y' → k q → ∃ r r', k r ∧ VR σ ρ r r' ∧ (binOp op ty x' y').run P w = .ok r' w := by
    intro q x y h1 h2 h3 h4
    obtain ⟨r', h5, h6⟩ := ho.bin _ _ _ _ h1 ρ x' y' h2 h3
    exact ⟨q, r', h4, h5, h6 P ty w⟩
  have orcK_ok : ∀ {m : Option AV}, orcK m k → ∃ q, m = some q ∧ k q := by
    intro m hm; cases m with
    | none => exact hm.elim
    | some q => exact ⟨q, rfl, hm⟩
  cases x <;> try exact hk.elim
  case i q n =>
    have ex := hx.un_i; subst ex
    cases y <;> try exact hk.elim
    case i q' m =>
      have ey := hy.un_i; subst ey
      have hnn : (∀ cs, Value.int q n ≠ .agg cs) ∧ Value.int q n ≠ .nilIface := ⟨(fun _ hh => by cases hh), (fun hh => by cases hh)⟩
      by_cases hs : op = .shl ∨ op = .shr
      · have hk' : shiftK op q n m k := by rcases hs with rfl | rfl <;> exact hk
        obtain ⟨r, r', h1, h2, h3⟩ := shift_ok (P := P) (σ := σ) (ρ := ρ) hs (q' := q') hk' ty w
        exact ⟨r, r', h1, h2, h3, hnn⟩
      · have hk' : whenK (decide (q = q')) (intBinK op q n m k) := by cases op <;> first | exact hk | simp at hs
        obtain ⟨h1, h2⟩ := (whenK_iff _ _).1 hk'
        have : q = q' := by simpa using h1
        subst this
        obtain ⟨r, r', h1, h2, h3⟩ := intBin_ok (P := P) (σ := σ) (ρ := ρ) h2 ty w
        exact ⟨r, r', h1, h2, h3, hnn⟩
    case sym j =>
      obtain ⟨q', h1, h2⟩ := orcK_ok hk
      obtain ⟨r, r', h3, h4, h5⟩ := orcOk h1 (.i _ _) hy h2
      exact ⟨r, r', h3, h4, h5, (fun _ hh => by cases hh), (fun hh => by cases hh)⟩
  case s l =>
    have ex := hx.un_s; subst ex
    cases y <;> try exact hk.elim
    case s l' =>
      have ey := hy.un_s; subst ey
      obtain ⟨r, r', h1, h2, h3⟩ := strBin_ok (P := P) (σ := σ) (ρ := ρ) hk ty w
      exact ⟨r, r', h1, h2, h3, (fun _ hh => by cases hh), (fun hh => by cases hh)⟩
    case sym j =>
      obtain ⟨q', h1, h2⟩ := orcK_ok hk
      obtain ⟨r, r', h3, h4, h5⟩ := orcOk h1 (.s _) hy h2
      exact ⟨r, r', h3, h4, h5, (fun _ hh => by cases hh), (fun hh => by cases hh)⟩
  case sym j =>
    obtain ⟨q', h1, h2⟩ := orcK_ok hk
    obtain ⟨r, r', h3, h4, h5⟩ := orcOk h1 hx hy h2
    cases hx with
    | sym =>
      refine ⟨r, r', h3, h4, h5, ?_, ?_⟩
      · intro cs hh; have := ho.atoms j; rw [hh] at this; cases this
      · intro hh; rcases ho.prim j with ⟨_, _, e⟩ | ⟨_, e⟩ | ⟨_, e⟩ <;> rw [e] at hh <;> cases hh

theorem execBin {op : BinOp} {ty uy : TypeId} {x y : Operand} {r : Value} (ho : o.op = .binOp op ty x y uy) (hg : (eqGuard op ty x y (a.eval x) (a.eval y)).run P w = .ok () w) (hr : (binOp op ty (a.eval x) (a.eval y)).run P w = .ok r w) :
    (execOp a.eval o).run P w = .ok (.value r) w := by
  simp [execOp, ho, hg, hr]

theorem bin_ok (horc : OrcOk P σ orc) (r : Rel σ ρ B h w) (ht : TR σ ρ t a.tmps) {op : BinOp} {x y : O} {x' y' : Operand} {ty uy : TypeId} (ho : o.op = .binOp op ty x' y' uy) (hc1 : chkO x' x = true) (hc2 : chkO y' y = true) (hk : opK orc (.bin op x y) t h k) : Res P σ ρ B h w (execOp a.eval o) k := by
  obtain ⟨u, h1, h2⟩ := ev_ok ht hc1 hk
  obtain ⟨v, h3, h4⟩ := ev_ok ht hc2 h1
  obtain ⟨q, q', h5, h6, h7, h8, h9⟩ := binV_ok (P := P) horc h2 h4 h3 (ty := ty) w
  exact Res.pure r h5 (execBin ho (eqGuard_prim h8 h9 w) h7) h6

theorem eqB_ok (r : Rel σ ρ B h w) (ht : TR σ ρ t a.tmps) {neg : Bool} {op : BinOp} (hop : (op = .eql ∧ neg = false) ∨ (op = .neq ∧ neg = true)) {x y : O} {x' y' : Operand} {ty uy : TypeId} (ho : o.op = .binOp op ty x' y' uy) (hc1 : chkO x' x = true) (hc2 : chkO y' y = true) (hb : isBoolT P ty = true) (hk : opK orc (.eqB neg x y) t h k) : Res P σ ρ B h w (execOp a.eval o) k := by
  obtain ⟨u, h1, h2⟩ := ev_ok ht hc1 hk
  obtain ⟨v, h3, h4⟩ := ev_ok ht hc2 h1
  obtain ⟨p, h5, h6⟩ := unB_ok h2 h3
  obtain ⟨q, h7, h8⟩ := unB_ok h4 h6
  have hu : P.underlying ty = some .bool := by
    unfold isBoolT at hb; split at hb
    · assumption
    · cases hb
  rw [forceB_eq] at h8
  refine Res.pure r h8 (execBin (r := .bool (xor neg (p == q))) ho (eqGuard_prim (by rw [h5]; intro _ hh; cases hh) (by rw [h5]; intro hh; cases hh) w) ?_) (.b _)
  rw [h5, h7]
  rcases hop with ⟨rfl, rfl⟩ | ⟨rfl, rfl⟩ <;> simp [binOp, equal_bool hu]

theorem un_ok (r : Rel σ ρ B h w) (ht : TR σ ρ t a.tmps) {op : UnOp} {x : O} {y : Operand} {ty : TypeId} (ho : o.op = .unOp op ty y) (hc : chkO y x = true) (hk : opK orc (.un op x) t h k) : Res P σ ρ B h w (execOp a.eval o) k := by
  obtain ⟨v, h1, h2⟩ := ev_ok ht hc hk
  cases op
  · cases v <;> try exact h1.elim
    have e := h2.un_i
    have h1' := h1
    simp only [unopK, forceI_eq] at h1'
    exact Res.pure r h1' (by simp [execOp, ho, e, Op.unary, Op.intArith]) (.i _ _)
  · cases v <;> try exact h1.elim
    have e := h2.un_i
    have h1' := h1
    simp only [unopK, forceI_eq] at h1'
    exact Res.pure r h1' (by simp [execOp, ho, e, Op.unary, Op.intBits]) (.i _ _)
  · cases v <;> try exact h1.elim
    have e := h2.un_b
    have h1' := h1
    simp only [unopK, forceB_eq] at h1'
    exact Res.pure r h1' (by simp [execOp, ho, e, Op.unary]) (.b _)
  · exact h1.elim

theorem cvInt_ok (horc : OrcOk P σ orc) (r : Rel σ ρ B h w) (ht : TR σ ρ t a.tmps) {q : IntKind} {x : O} {y : Operand} {s d : TypeId} (ho : o.op = .convert s d y) (hc : chkO y x = true) (hs : (P.underlying s).isSome = true) (hd : intT P d q = true) (hk : opK orc (.cvInt q x) t h k) : Res P σ ρ B h w (execOp a.eval o) k := by
  obtain ⟨v, h1, h2⟩ := ev_ok ht hc hk
  obtain ⟨ds, hs⟩ := Option.isSome_iff_exists.1 hs
  have key : ∃ r' p n, k r' h ∧ a.eval y = .int p n ∧ VR σ ρ r' (.int q (q.wrap n)) := by
    cases v <;> try exact h1.elim
    case i p n =>
      have e := h2.un_i
      have h4 : forceI (wrapF q n) (fun r => k (.i q r) h) := h1
      rw [forceI_eq, wrapF_eq] at h4
      exact ⟨_, p, n, h4, e, .i _ _⟩
    case sym j =>
      have h4 : orcK (orc.cv q j) (fun v => k v h) := h1
      have e := h2.un_sym
      cases hq : orc.cv q j with
      | none => rw [hq] at h4; exact h4.elim
      | some r' =>
        rw [hq] at h4
        obtain ⟨p, n, h5, h6⟩ := horc.cv _ _ _ hq
        exact ⟨r', p, n, h4, e.trans h5, h6 ρ⟩
  obtain ⟨r', p, n, h4, h3, h5⟩ := key
  refine Res.pure r h4 (v' := .int q (q.wrap n)) ?_ h5
  simp only [execOp, ho, convert, Sem.run_bind, und_run hs, und_run (intT_some hd), Result.andThen_ok, h3]
  cases ds <;> simp [Conv.intToInt]

theorem cvStr_ok (r : Rel σ ρ B h w) (ht : TR σ ρ t a.tmps) {x : O} {y : Operand} {s d : TypeId} (ho : o.op = .convert s d y) (hc : chkO y x = true) (hs : isStrT P s = true) (hd : isStrT P d = true) (hk : opK orc (.cvStr x) t h k) : Res P σ ρ B h w (execOp a.eval o) k := by
  obtain ⟨v, h1, h2⟩ := ev_ok ht hc hk
  cases v <;> try exact h1.elim
  have e := h2.un_s
  exact Res.pure r h1 (by simp [execOp, ho, convert, und_run (isStrT_some hs), und_run (isStrT_some hd), e]) (.s _)

theorem fAddr_ok (r : Rel σ ρ B h w) (ht : TR σ ρ t a.tmps) {off f : Nat} {x : O} {y : Operand} {ty : TypeId} (ho : o.op = .fieldAddr ty y f) (hc : chkO y x = true) {fs : Array Field} (h1 : fieldsOf P ty = some fs) {fd : Field} (h2 : fs[f]? = some fd) (h3 : fd.offset = off) (h4 : chkSize P fd.type 0 = false) (h5 : (P.info? fd.type).isSome = true) (hk : opK orc (.fAddr off x) t h k) : Res P σ ρ B h w (execOp a.eval o) k := by
  obtain ⟨v, h6, h7⟩ := ev_ok ht hc hk
  obtain ⟨b, o', L, h8, h9, h10⟩ := unP_ok h7 h6
  obtain ⟨i, hi⟩ := Option.isSome_iff_exists.1 h5
  have hz : i.size ≠ 0 := by unfold chkSize at h4; rw [hi] at h4; simpa using h4
  rw [forceN_eq] at h10
  refine Res.pure r h10 (v' := .pointer (some ⟨L.blk, L.off + (o' + off), none⟩)) ?_ (.ptr _ _ L h8)
  simp [execOp, ho, Instr.fieldAt, und_run (fieldsOf_some h1), h2, h9, Instr.sureAddr, fieldPlace, sizeOf, typeInfo, hi, hz, add_none, h3, Nat.add_assoc]

theorem fld_ok (r : Rel σ ρ B h w) (ht : TR σ ρ t a.tmps) {off f : Nat} {n : Option Nat} {x : O} {y : Operand} {ty : TypeId} (ho : o.op = .field ty y f) (hc : chkO y x = true) (hf : chkFld P ((fieldsOf P ty).bind (·[f]?)) off n = true) (hk : opK orc (.fld off n x) t h k) : Res P σ ρ B h w (execOp a.eval o) k := by
  obtain ⟨v, h1, h2⟩ := ev_ok ht hc hk
  cases v <;> try exact h1.elim
  rename_i cs
  obtain ⟨vs, h3, h4⟩ := h2.un_agg
  cases hfs : fieldsOf P ty with
  | none => rw [hfs] at hf; cases n <;> cases hf
  | some fs =>
    rw [hfs] at hf
    cases hfd : fs[f]? with
    | none => simp [hfd, chkFld] at hf
    | some fd =>
      simp only [Option.bind_some, hfd] at hf
      cases n with
      | none =>
        simp [chkFld] at hf
        have h1' : nthK cs off (fun v => k v h) := h1
        obtain ⟨v, h5, h6⟩ := (nthK_iff _ _ _).1 h1'
        obtain ⟨v', h7, h8⟩ := h3.get h5
        refine Res.pure r h6 (v' := v') ?_ h8
        have hp := (part_run (P := P) (t := fd.type) vs fd.offset w).1 (v := v') hf.1.2 hf.2 (by rw [hf.1.1]; simpa using h7)
        simp [execOp, ho, Instr.field, und_run (fieldsOf_some hfs), hfd, h4, asAgg, hp]
      | some n =>
        simp [chkFld] at hf
        have h1' : dropK off cs (fun l => takeK n l (fun l => k (.agg l) h)) := h1
        obtain ⟨h5, h6⟩ := (dropK_iff _ _ _).1 h1'
        obtain ⟨h7, h8⟩ := (takeK_iff _ _ _).1 h6
        have hp := (part_run (P := P) (t := fd.type) vs fd.offset w).2 (n := n) hf.1.2 hf.2
        refine Res.pure r h8 (v' := .agg (vs.extract off (off + n))) ?_ (.agg _ _ ?_)
        · rw [hf.1.1] at hp
          simp [execOp, ho, Instr.field, und_run (fieldsOf_some hfs), hfd, h4, asAgg, hp, hf.1.1]
        · rw [Array.toList_extract, List.extract_eq_take_drop]
          rw [show off + n - off = n from by omega]
          exact (h3.drop off).take n

theorem iAddrA_ok (r : Rel σ ρ B h w) (ht : TR σ ρ t a.tmps) {len esz : Nat} {x i : O} {x' i' : Operand} {ty e : TypeId} (ho : o.op = .indexAddr ty x' i') (hc1 : chkO x' x = true) (hc2 : chkO i' i = true) (h1 : arrOf P ty = some (len, e)) (h2 : chkSize P e esz = true) (hk : opK orc (.iAddrA len esz x i) t h k) : Res P σ ρ B h w (execOp a.eval o) k := by
  obtain ⟨v, h3, h4⟩ := ev_ok ht hc1 hk
  obtain ⟨b, o', L, h5, h6, h7⟩ := unP_ok h4 h3
  obtain ⟨u, h8, h9⟩ := ev_ok ht hc2 h7
  obtain ⟨q, n, h10, h11⟩ := unN_ok h9 h8
  obtain ⟨h12, h13⟩ := (whenK_iff _ _).1 h11
  rw [forceN_eq] at h13
  have hlt : n < len := by rw [bleD] at h12; exact Nat.lt_of_succ_le (by simpa using h12)
  refine Res.pure r h13 (v' := .pointer (some ⟨L.blk, L.off + (o' + n * esz), none⟩)) ?_ (.ptr _ _ L h5)
  simp [execOp, ho, Instr.indexAt, h6, h10, asIntOf, und_run (arrOf_some h1), Instr.sureAddr, hlt, size_run h2, add_none, Nat.add_assoc]

theorem iAddrS_ok (r : Rel σ ρ B h w) (ht : TR σ ρ t a.tmps) {esz : Nat} {x i : O} {x' i' : Operand} {ty e : TypeId} (ho : o.op = .indexAddr ty x' i') (hc1 : chkO x' x = true) (hc2 : chkO i' i = true) (h1 : elemOf P ty = some e) (h2 : chkSize P e esz = true) (hk : opK orc (.iAddrS esz x i) t h k) : Res P σ ρ B h w (execOp a.eval o) k := by
  obtain ⟨v, h3, h4⟩ := ev_ok ht hc1 hk
  cases v <;> try exact h3.elim
  rename_i b o' len cap loose
  obtain ⟨L, c, off, h5, h7, h6⟩ := h4.un_sl
  obtain ⟨u, h8, h9⟩ := ev_ok ht hc2 h3
  obtain ⟨q, n, h10, h11⟩ := unN_ok h9 h8
  obtain ⟨h12, h13⟩ := (whenK_iff _ _).1 h11
  rw [forceN_eq] at h13
  have hlt : n < len := by rw [bleD] at h12; exact Nat.lt_of_succ_le (by simpa using h12)
  have hoff : off = L.off + o' := by rcases h6 with ⟨h6, _⟩ | ⟨h6, _, _⟩ <;> omega
  subst hoff
  refine Res.pure r h13 (v' := .pointer (some ⟨L.blk, L.off + (o' + n * esz), none⟩)) ?_ (.ptr _ _ L h5)
  simp [execOp, ho, Instr.indexAt, h7, h10, asIntOf, und_run (elemOf_some h1), hlt, size_run h2, add_none, Nat.add_assoc]
end ops
end Go.Ab
