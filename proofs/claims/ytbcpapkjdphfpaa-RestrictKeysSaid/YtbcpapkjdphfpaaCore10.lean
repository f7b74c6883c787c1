/- The abstract operations stand for the model's, one by one (third part). No condition. -/
import Derived.Test.YtbcpapkjdphfpaaCore9
namespace Go.Ab
variable {σ : Nat → Value} {ρ ρ' : Ren} {P : Program}
theorem ba_size (l : List UInt8) : (ByteArray.mk l.toArray).size = l.length := by simp [ByteArray.size]
theorem ba_get (l : List UInt8) (n : Nat) : (ByteArray.mk l.toArray)[n]? = l[n]? := by
  by_cases h : n < l.length
  · have h2 : n < (ByteArray.mk l.toArray).size := by simpa [ByteArray.size] using h
    rw [getElem?_pos (ByteArray.mk l.toArray) n h2, List.getElem?_eq_getElem h]; rfl
  · have h2 : ¬ n < (ByteArray.mk l.toArray).size := by simpa [ByteArray.size] using h
    rw [getElem?_neg (ByteArray.mk l.toArray) n h2, List.getElem?_eq_none (by omega)]
section ops
variable {B : Nat} {h : Hp} {w : World} {a : Act} {t : Tr AV} {orc : Orc} {k : AV → Hp → Prop} {o : Oper}

theorem idxA_ok (r : Rel σ ρ B h w) (ht : TR σ ρ t a.tmps) {len esz : Nat} {agg : Bool} {x i : O} {x' i' : Operand} {ty e : TypeId} (ho : o.op = .index ty x' i') (hc1 : chkO x' x = true) (hc2 : chkO i' i = true) (h1 : arrOf P ty = some (len, e)) (h2 : chkSize P e esz = true) (hag : isAggT P e = agg) (hu : (P.underlying e).isSome = true) (hk : opK orc (.idxA len esz agg x i) t h k) : Res P σ ρ B h w (execOp a.eval o) k := by
  obtain ⟨v, h3, h4⟩ := ev_ok ht hc1 hk
  cases v <;> try exact h3.elim
  rename_i cs
  obtain ⟨vs, h5, h6⟩ := h4.un_agg
  obtain ⟨u, h8, h9⟩ := ev_ok ht hc2 h3
  obtain ⟨q, n, h10, h11⟩ := unN_ok h9 h8
  obtain ⟨h12, h13⟩ := (whenK_iff _ _).1 h11
  rw [forceN_eq] at h13
  have hlt : n < len := by rw [bleD] at h12; exact Nat.lt_of_succ_le (by simpa using h12)
  cases agg with
  | false =>
    have h14 : nthK cs (n * esz) (fun v => k v h) := h13
    obtain ⟨v, h15, h16⟩ := (nthK_iff _ _ _).1 h14
    obtain ⟨v', h17, h18⟩ := h5.get h15
    have hp := (part_run (P := P) (t := e) vs (n * esz) w).1 (v := v') hag hu (by simpa using h17)
    refine Res.pure r h16 (v' := v') ?_ h18
    simp [execOp, ho, Instr.index, h6, h10, asIntOf, und_run (arrOf_some h1), hlt, size_run h2, hp]
  | true =>
    have h14 : dropK (n * esz) cs (fun l => takeK esz l (fun l => k (.agg l) h)) := h13
    obtain ⟨_, h15⟩ := (dropK_iff _ _ _).1 h14
    obtain ⟨_, h16⟩ := (takeK_iff _ _ _).1 h15
    have hp := (part_run (P := P) (t := e) vs (n * esz) w).2 (n := esz) hag h2
    refine Res.pure r h16 (v' := .agg (vs.extract (n * esz) (n * esz + esz))) ?_ (.agg _ _ ?_)
    · simp [execOp, ho, Instr.index, h6, h10, asIntOf, und_run (arrOf_some h1), hlt, size_run h2, hp]
    · rw [Array.toList_extract, List.extract_eq_take_drop, show n * esz + esz - n * esz = esz from by omega]
      exact (h5.drop _).take _

theorem idxS_ok (r : Rel σ ρ B h w) (ht : TR σ ρ t a.tmps) {x i : O} {x' i' : Operand} {ty : TypeId} (ho : o.op = .index ty x' i') (hc1 : chkO x' x = true) (hc2 : chkO i' i = true) (h1 : isStrT P ty = true) (hk : opK orc (.idxS x i) t h k) : Res P σ ρ B h w (execOp a.eval o) k := by
  obtain ⟨v, h3, h4⟩ := ev_ok ht hc1 hk
  cases v <;> try exact h3.elim
  rename_i l
  have h6 := h4.un_s
  obtain ⟨u, h8, h9⟩ := ev_ok ht hc2 h3
  obtain ⟨q, n, h10, h11⟩ := unN_ok h9 h8
  cases hg : l[n]? with
  | none => rw [hg] at h11; exact h11.elim
  | some c =>
    rw [hg] at h11
    refine Res.pure r h11 (v' := .int .u8 (c.toNat : Int)) ?_ (.i _ _)
    have hn : n < l.length := (List.getElem?_eq_some_iff.1 hg).1
    have hb := (ba_get l n).trans hg
    simp [execOp, ho, Instr.index, h6, h10, asIntOf, und_run (isStrT_some h1), hb]

theorem ext_ok (r : Rel σ ρ B h w) (ht : TR σ ρ t a.tmps) {x : O} {i : Nat} {y : Operand} (ho : o.op = .extract y i) (hc : chkO y x = true) (hk : opK orc (.ext x i) t h k) : Res P σ ρ B h w (execOp a.eval o) k := by
  obtain ⟨v, h1, h2⟩ := ev_ok ht hc hk
  cases v <;> try exact h1.elim
  rename_i cs
  obtain ⟨vs, h3, h4⟩ := h2.un_tup
  have h1' : nthK cs i (fun v => k v h) := h1
  obtain ⟨v, h5, h6⟩ := (nthK_iff _ _ _).1 h1'
  obtain ⟨v', h7, h8⟩ := h3.get h5
  exact Res.pure r h6 (by simp only [Array.getElem?_toList] at h7; simp [execOp, ho, h4, Instr.extract, h7]) h8

theorem mkF_ok (r : Rel σ ρ B h w) (ht : TR σ ρ t a.tmps) {f : Nat} {xs cs : List O} {ys ds : Array Operand} (ho : o.op = .makeFunc (.func f) ys ds) (hc1 : chkOs ys.toList xs = true) (hc2 : chkOs ds.toList cs = true) (hk : opK orc (.mkF f xs cs) t h k) : Res P σ ρ B h w (execOp a.eval o) k := by
  obtain ⟨vs, h1, h2⟩ := evs_ok ht hc1 hk
  obtain ⟨us, h3, h4⟩ := evs_ok ht hc2 h1
  exact Res.pure r h3 (v' := .func (.func f) (ys.map a.eval) (ds.map a.eval)) (by simp [execOp, ho, Instr.makeFunc]) (.fn _ _ _ _ _ (by simpa using h2) (by simpa using h4))

theorem lenArr_ok (r : Rel σ ρ B h w) {ty : TypeId} {y : Operand} {n : Nat} {m : Int} {args : Array TypeId} {ops : Array Operand} (ho : o.op = .call ⟨.builtin .len, ops, args⟩) (hops : ops.toList = [y]) (hr : args[0]? = some ty) {e : TypeId} (h1 : arrOf P ty = some (n, e)) (hm : m = (n : Int)) (hk : opK orc (.mov (.c (.i .i64 m))) t h k) : Res P σ ρ B h w (execOp a.eval o) k := by
  subst hm
  have hk' : k (.i .i64 (n : Int)) h := hk
  obtain rfl : ops = #[y] := by cases ops; simpa using hops
  exact Res.pure r hk' (v' := .int .i64 n) (by simp [execOp, ho, resolve, invoke, builtin, Builtin.len_, hr, und_run (arrOf_some h1), goInt]) (.i _ _)

theorem len_ok (horc : OrcOk P σ orc) (r : Rel σ ρ B h w) (ht : TR σ ρ t a.tmps) {str : Bool} {ty : TypeId} {x : O} {y : Operand} {args : Array TypeId} {ops : Array Operand} (ho : o.op = .call ⟨.builtin .len, ops, args⟩) (hops : ops.toList = [y]) (hr : args[0]? = some ty) (h1 : (if str then isStrT P ty else (elemOf P ty).isSome) = true) (hc : chkO y x = true) (hk : opK orc (.len str x) t h k) : Res P σ ρ B h w (execOp a.eval o) k := by
  obtain ⟨v, h2, h3⟩ := ev_ok ht hc hk
  obtain rfl : ops = #[y] := by cases ops; simpa using hops
  cases str with
  | false =>
    obtain ⟨e, he⟩ := Option.isSome_iff_exists.1 (by simpa using h1)
    have hu := elemOf_some he
    cases v <;> try exact h2.elim
    · have e' := h3.un_nils
      exact Res.pure r (v := .i .i64 0) h2 (by simp [execOp, ho, resolve, invoke, builtin, Builtin.len_, hr, und_run hu, e', goInt]) (.i _ _)
    · obtain ⟨L, c, _, _, e', _⟩ := h3.un_sl
      exact Res.pure r (v := .i .i64 (Int.ofNat _)) h2 (by simp [execOp, ho, resolve, invoke, builtin, Builtin.len_, hr, und_run hu, e', goInt]) (.i _ _)
  | true =>
    have hu := isStrT_some (P := P) (t := ty) (by simpa using h1)
    cases v <;> try exact h2.elim
    · have e' := h3.un_s
      have h2' : forceN _ _ := h2
      rw [forceN_eq] at h2'
      exact Res.pure r (v := .i .i64 (Int.ofNat _)) h2' (by simp [execOp, ho, resolve, invoke, builtin, Builtin.len_, hr, und_run hu, e', goInt, ba_size]) (.i _ _)
    · rename_i j
      have h2' : orcK (orc.len j) (fun v => k v h) := h2
      cases hq : orc.len j with
      | none => rw [hq] at h2'; exact h2'.elim
      | some q =>
        rw [hq] at h2'
        obtain ⟨s, hs, hv⟩ := horc.len _ _ hq
        have e' : a.eval y = .string s := h3.un_sym.trans hs
        exact Res.pure r h2' (by simp [execOp, ho, resolve, invoke, builtin, Builtin.len_, hr, und_run hu, e', goInt]) (hv _)

theorem max_ok (r : Rel σ ρ B h w) (ht : TR σ ρ t a.tmps) {x y : O} {x' y' : Operand} {args : Array TypeId} {ops : Array Operand} (ho : o.op = .call ⟨.builtin .max, ops, args⟩) (hops : ops.toList = [x', y']) (hc : chkO x' x = true) (hc2 : chkO y' y = true) (hk : opK orc (.max x y) t h k) : Res P σ ρ B h w (execOp a.eval o) k := by
  obtain ⟨u, h1, h2⟩ := ev_ok ht hc hk
  obtain ⟨v, h3, h4⟩ := ev_ok ht hc2 h1
  obtain rfl : ops = #[x', y'] := by cases ops; simpa using hops
  obtain ⟨q, n, h5, h6⟩ := unI_ok h2 h3
  obtain ⟨q', m, h7, h8⟩ := unI_ok h4 h6
  have hrun : (execOp a.eval o).run P w = .ok (.value (.int q (if m > n then m else n))) w := by
    simp [execOp, ho, resolve, invoke, builtin, Builtin.max_, Builtin.max2, h5, h7]
  rw [ltI_eq] at h8
  by_cases hlt : n < m
  · simp only [hlt, decide_true] at h8
    exact Res.pure r h8 (by rw [hrun, if_pos hlt]) (.i _ _)
  · simp only [hlt, decide_false] at h8
    exact Res.pure r h8 (by rw [hrun, if_neg hlt]) (.i _ _)
end ops
end Go.Ab
