/- The abstract operations stand for the model's, one by one (first part). No condition. -/
import Derived.Test.YtbcpapkjdphfpaaCore7
namespace Go.Ab
variable {σ : Nat → Value} {ρ ρ' : Ren} {P : Program}

theorem und_run {t : TypeId} {d : TypeDesc} (h : P.underlying t = some d) (w : World) : (underlying t).run P w = .ok d w := run_underlying h w
theorem isAgg_run {t : TypeId} (h : (P.underlying t).isSome = true) (w : World) : (isAgg t).run P w = .ok (isAggT P t) w := by
  obtain ⟨d, hd⟩ := Option.isSome_iff_exists.1 h
  unfold isAgg isAggT
  simp only [Sem.run_bind, und_run hd, Result.andThen_ok, hd]
  cases d <;> rfl
theorem isAggT_some {t : TypeId} (h : isAggT P t = true) : (P.underlying t).isSome = true := by
  unfold isAggT at h
  split at h <;> simp_all
theorem size_info {t : TypeId} {n : Nat} (h : chkSize P t n = true) : ∃ i, P.info? t = some i ∧ i.size = n := by
  unfold chkSize at h
  split at h
  · rename_i i hi; exact ⟨i, hi, by simpa using h⟩
  · cases h
theorem bytes_info {t : TypeId} {n : Nat} (h : chkBytes P t n = true) : ∃ i, P.info? t = some i ∧ i.bytes = n := by
  unfold chkBytes at h
  split at h
  · rename_i i hi; exact ⟨i, hi, by simpa using h⟩
  · cases h
theorem info_run {t : TypeId} {i : TypeInfo} (h : P.info? t = some i) (w : World) : (typeInfo t).run P w = .ok i w := by
  simp [typeInfo, h]
theorem size_run {t : TypeId} {n : Nat} (h : chkSize P t n = true) (w : World) : (sizeOf t).run P w = .ok n w := by
  obtain ⟨i, hi, rfl⟩ := size_info h
  simp [sizeOf, typeInfo, hi]
theorem zero_info {t : TypeId} {z : List AV} (h : chkZero P t z = true) : ∃ i v, P.info? t = some i ∧ i.zero = some v ∧ vrcs z v.cells.toList = true ∧ v.cells.size = i.size := by
  unfold chkZero at h
  split at h
  · rename_i i hi
    split at h
    · rename_i v hv; simp at h; exact ⟨i, v, hi, hv, h.1, h.2⟩
    · cases h
  · cases h
theorem zero_run {t : TypeId} {i : TypeInfo} {v : Value} (h : P.info? t = some i) (hz : i.zero = some v) (w : World) : (zeroValue t).run P w = .ok v w := by
  simp [zeroValue, typeInfo, h, hz]

theorem elemOf_some {t e : TypeId} (h : elemOf P t = some e) : P.underlying t = some (.slice e) := by
  unfold elemOf at h; split at h
  · simp at h; subst h; assumption
  · cases h
theorem arrOf_some {t : TypeId} {n : Nat} {e : TypeId} (h : arrOf P t = some (n, e)) : P.underlying t = some (.array n e) := by
  unfold arrOf at h; split at h
  · simp at h; obtain ⟨rfl, rfl⟩ := h; assumption
  · cases h
theorem fieldsOf_some {t : TypeId} {fs : Array Field} (h : fieldsOf P t = some fs) : P.underlying t = some (.struct fs) := by
  unfold fieldsOf at h; split at h
  · simp at h; subst h; assumption
  · cases h
theorem isStrT_some {t : TypeId} (h : isStrT P t = true) : P.underlying t = some .string := by
  unfold isStrT at h; split at h
  · assumption
  · cases h
theorem intT_some {t : TypeId} {k : IntKind} (h : intT P t k = true) : P.underlying t = some (.int k) := by
  unfold intT at h; split at h
  · rename_i q hq; have : q = k := by simpa using h
    subst this; exact hq
  · cases h

theorem part_run {t : TypeId} (cs : Array Value) (off : Nat) (w : World) :
    (∀ {v}, isAggT P t = false → (P.underlying t).isSome = true → cs[off]? = some v → (part t cs off).run P w = .ok v w) ∧
    (∀ {n}, isAggT P t = true → chkSize P t n = true → (part t cs off).run P w = .ok (.agg (cs.extract off (off + n))) w) := by
  constructor
  · intro v h1 h2 h3
    simp [part, isAgg_run h2, h1, h3]
  · intro n h1 h2
    simp [part, isAgg_run (isAggT_some h1), h1, size_run h2]

/-! ### what a value that stands for a known one is -/
theorem VR.un_b {x : Bool} {v : Value} (h : VR σ ρ (.b x) v) : v = .bool x := by cases h; rfl
theorem VR.un_i {q : IntKind} {n : Int} {v : Value} (h : VR σ ρ (.i q n) v) : v = .int q n := by cases h; rfl
theorem VR.un_s {x : List UInt8} {v : Value} (h : VR σ ρ (.s x) v) : v = .string ⟨x.toArray⟩ := by cases h; rfl
theorem VR.un_ptr {b o : Nat} {v : Value} (h : VR σ ρ (.ptr b o) v) : ∃ L, ρ b = some L ∧ v = .pointer (some ⟨L.blk, L.off + o, none⟩) := by cases h; exact ⟨_, by assumption, rfl⟩
theorem VR.un_sl {b o len cap : Nat} {l : Bool} {v : Value} (h : VR σ ρ (.sl b o len cap l) v) : ∃ L c off, ρ b = some L ∧ v = .slice (some ⟨L.blk, off, none⟩) len c ∧
    ((off = L.off + o ∧ (c = cap ∨ (l = true ∧ cap ≤ c ∧ L.off + o + c * L.esz ≤ L.size))) ∨ (len = 0 ∧ cap = 0 ∧ c = 0)) := by
  cases h
  · exact ⟨_, _, _, by assumption, rfl, .inl ⟨rfl, by assumption⟩⟩
  · exact ⟨_, _, _, by assumption, rfl, .inr ⟨rfl, rfl, rfl⟩⟩
theorem VR.un_agg {cs : List AV} {v : Value} (h : VR σ ρ (.agg cs) v) : ∃ vs : Array Value, VRs σ ρ cs vs.toList ∧ v = .agg vs := by cases h; exact ⟨_, by assumption, rfl⟩
theorem VR.un_tup {cs : List AV} {v : Value} (h : VR σ ρ (.tup cs) v) : ∃ vs : Array Value, VRs σ ρ cs vs.toList ∧ v = .tuple vs := by cases h; exact ⟨_, by assumption, rfl⟩
theorem VR.un_fn {f : Nat} {a c : List AV} {v : Value} (h : VR σ ρ (.fn f a c) v) : ∃ a' c' : Array Value, VRs σ ρ a a'.toList ∧ VRs σ ρ c c'.toList ∧ v = .func (.func f) a' c' := by cases h; exact ⟨_, _, by assumption, by assumption, rfl⟩
theorem VR.un_map {b : Nat} {v : Value} (h : VR σ ρ (.map b) v) : ∃ L, ρ b = some L ∧ L.off = 0 ∧ v = .map (some L.blk) := by cases h; exact ⟨_, by assumption, by assumption, rfl⟩
theorem VR.un_nils {v : Value} (h : VR σ ρ .nils v) : v = .slice none 0 0 := by cases h; rfl
theorem VR.un_sym {j : Nat} {v : Value} (h : VR σ ρ (.sym j) v) : v = σ j := by cases h; rfl
theorem unB_ok {v : AV} {v' : Value} (h : VR σ ρ v v') {k : Bool → Prop} (hk : unB v k) : ∃ x, v' = .bool x ∧ k x := by
  cases v <;> first | exact hk.elim | exact ⟨_, h.un_b, hk⟩
theorem unI_ok {v : AV} {v' : Value} (h : VR σ ρ v v') {k : IntKind → Int → Prop} (hk : unI v k) : ∃ q x, v' = .int q x ∧ k q x := by
  cases v <;> first | exact hk.elim | exact ⟨_, _, h.un_i, hk⟩
theorem unN_ok {v : AV} {v' : Value} (h : VR σ ρ v v') {k : Nat → Prop} (hk : unN v k) : ∃ q, ∃ x : Nat, v' = .int q (x : Int) ∧ k x := by
  cases v <;> try exact hk.elim
  rename_i q n
  cases n with
  | ofNat m => exact ⟨q, m, h.un_i, hk⟩
  | negSucc m => exact hk.elim
theorem unP_ok {v : AV} {v' : Value} (h : VR σ ρ v v') {k : Nat → Nat → Prop} (hk : unP v k) : ∃ b o L, ρ b = some L ∧ v' = .pointer (some ⟨L.blk, L.off + o, none⟩) ∧ k b o := by
  cases v <;> first | exact hk.elim | (obtain ⟨L, h1, h2⟩ := h.un_ptr; exact ⟨_, _, L, h1, h2, hk⟩)
theorem whenK_iff (x : Bool) (k : Prop) : whenK x k ↔ x = true ∧ k := by
  cases x
  · exact ⟨fun h => h.elim, fun h => by cases h.1⟩
  · exact ⟨fun h => ⟨rfl, h⟩, fun h => h.2⟩
theorem brec_iff (x : Bool) (a b : Prop) : (Bool.rec (motive := fun _ => Prop) a b x) ↔ (x = false ∧ a) ∨ (x = true ∧ b) := by
  cases x <;> simp
theorem optK_ok {t : Tr AV} {a : Act} (ht : TR σ ρ t a.tmps) {x : Option O} {y : Option Operand} (hc : chkOpt y x = true) {k : Option AV → Prop} (h : optK t x k) :
    ∃ v, k v ∧ ((v = none ∧ y = none) ∨ ∃ u y', v = some u ∧ y = some y' ∧ VR σ ρ u (a.eval y')) := by
  cases x <;> cases y <;> simp [chkOpt] at hc
  · exact ⟨none, h, .inl ⟨rfl, rfl⟩⟩
  · obtain ⟨v, h1, h2⟩ := ev_ok ht hc h
    exact ⟨some v, h1, .inr ⟨v, _, rfl, rfl, h2⟩⟩

section ops
variable {B : Nat} {h : Hp} {w : World} {a : Act} {t : Tr AV} {orc : Orc} {k : AV → Hp → Prop} {o : Oper}

theorem mov_ok (r : Rel σ ρ B h w) (ht : TR σ ρ t a.tmps) {x : O} {y : Operand} (ho : o.op = .move y ∨ o.op = .assign y) (hc : chkO y x = true) (hk : opK orc (.mov x) t h k) : Res P σ ρ B h w (execOp a.eval o) k := by
  obtain ⟨v, h1, h2⟩ := ev_ok ht hc hk
  exact Res.pure r h1 (by rcases ho with ho | ho <;> simp [execOp, ho]) h2

theorem pick_ok (r : Rel σ ρ B h w) (ht : TR σ ρ t a.tmps) {c x y : O} {c' x' y' : Operand} (ho : o.op = .pick c' x' y') (hc1 : chkO c' c = true) (hc2 : chkO x' x = true) (hc3 : chkO y' y = true) (hk : opK orc (.pick c x y) t h k) : Res P σ ρ B h w (execOp a.eval o) k := by
  obtain ⟨v, h1, h2⟩ := ev_ok ht hc1 hk
  obtain ⟨b, h3, h4⟩ := unB_ok h2 h1
  cases b with
  | true => obtain ⟨v, h5, h6⟩ := ev_ok ht hc2 h4; exact Res.pure r h5 (by simp [execOp, ho, h3, asBool]) h6
  | false => obtain ⟨v, h5, h6⟩ := ev_ok ht hc3 h4; exact Res.pure r h5 (by simp [execOp, ho, h3, asBool]) h6

theorem load1_ok (r : Rel σ ρ B h w) (ht : TR σ ρ t a.tmps) {x : O} {ty : TypeId} {y : Operand} (ho : o.op = .load ty y) (hc : chkO y x = true) (h1 : isAggT P ty = false) (h2 : (P.underlying ty).isSome = true) (hk : opK orc (.load1 x) t h k) : Res P σ ρ B h w (execOp a.eval o) k := by
  obtain ⟨v, h3, h4⟩ := ev_ok ht hc hk
  obtain ⟨b, off, L, h5, h6, h7⟩ := unP_ok h4 h3
  obtain ⟨v, v', h8, h9, h10⟩ := ld_ok r h5 h7
  exact Res.pure r h8 (by simp [execOp, ho, h6, Instr.loadAt, Instr.sureAddr, loadVar, isAgg_run h2, h1, h10]) h9

theorem loadN_ok (r : Rel σ ρ B h w) (ht : TR σ ρ t a.tmps) {x : O} {n : Nat} {ty : TypeId} {y : Operand} (ho : o.op = .load ty y) (hc : chkO y x = true) (h1 : isAggT P ty = true) (h2 : chkSize P ty n = true) (hk : opK orc (.loadN n x) t h k) : Res P σ ρ B h w (execOp a.eval o) k := by
  obtain ⟨v, h3, h4⟩ := ev_ok ht hc hk
  obtain ⟨b, off, L, h5, h6, h7⟩ := unP_ok h4 h3
  obtain ⟨vs, vs', h8, h9, h10, h11⟩ := lds_ok r h5 h7
  exact Res.pure r h8 (by simp [execOp, ho, h6, Instr.loadAt, Instr.sureAddr, loadVar, isAgg_run (isAggT_some h1), h1, size_run h2, run_lds h10 h11]) (.agg _ _ h9)

theorem VRs.cells (hσ : AtomsOk σ) {v : AV} {v' : Value} (hv : VR σ ρ v v') (hu : defd v = true) : VRs σ ρ (cellsOf v) v'.cells.toList := by
  have one : ∀ {v'}, VR σ ρ v v' → v'.cells = #[v'] → cellsOf v = [v] → VRs σ ρ (cellsOf v) v'.cells.toList := by
    intro v' h1 h2 h3; rw [h2, h3]; exact .cons _ _ _ _ h1 .nil
  cases hv with
  | undef => cases hu
  | agg cs cs' h1 => exact h1
  | sym j =>
    refine one (.sym j) ?_ rfl
    have := hσ j
    cases hs : σ j <;> simp [hs, Value.oneCell'] at this <;> rfl
  | b => exact one (.b _) rfl rfl
  | i => exact one (.i _ _) rfl rfl
  | s => exact one (.s _) rfl rfl
  | nilp => exact one .nilp rfl rfl
  | ptr b o L h => exact one (.ptr b o L h) rfl rfl
  | nils => exact one .nils rfl rfl
  | sl b o len cap c loose L h hc => exact one (.sl b o len cap c loose L h hc) rfl rfl
  | slz b o x l L h => exact one (.slz b o x l L h) rfl rfl
  | nilf => exact one .nilf rfl rfl
  | fn f first cap a1 a2 h1 h2 => exact one (.fn f first cap a1 a2 h1 h2) rfl rfl
  | nili => exact one .nili rfl rfl
  | ifc t v v' h => exact one (.ifc t v v' h) rfl rfl
  | tup cs cs' h => exact one (.tup cs cs' h) rfl rfl
  | nilm => exact one .nilm rfl rfl
  | map b L h h0 => exact one (.map b L h h0) rfl rfl

theorem alloc_ok (r : Rel σ ρ B h w) {z : List AV} {ty : TypeId} (ho : o.op = .alloc ty) (hc : chkZero P ty z = true) (hk : opK orc (.alloc z) t h k) : Res P σ ρ B h w (execOp a.eval o) k := by
  obtain ⟨i, v, h1, h2, h3, h4⟩ := zero_info hc
  have hv := vrcs_ok (σ := σ) (ρ := ρ) _ _ h3
  have hl := hv.length
  have hk' : newK h (.cells 0 true false z) (fun b h' => k (.ptr b 0) h') := hk
  obtain ⟨ρ', h', h5, h6, h7, h8⟩ := new_ok (w1 := { w with heap := w.heap.push (.cells v.cells ty) }) r (c := v.cells) ⟨_, rfl, by rw [hl, List.take_length]; exact hv⟩ hk' rfl
  refine ⟨_, _, h', ρ', _, h5, .inl (?_ : _ = Result.ok (Next.value (.pointer (some ⟨w.heap.size, 0, none⟩))) { w with heap := w.heap.push (.cells v.cells ty) }), .ptr _ 0 _ h8, h6, h7⟩
  simp [execOp, ho, Instr.alloc, zero_run h1 h2, newVar, newRow]

theorem box_ok (hσ : AtomsOk σ) (r : Rel σ ρ B h w) (ht : TR σ ρ t a.tmps) {x : O} {y : Operand} {ty : TypeId} (ho : o.op = .box ty y) (hc : chkO y x = true) (hk : opK orc (.box x) t h k) : Res P σ ρ B h w (execOp a.eval o) k := by
  obtain ⟨v, h1, h2⟩ := ev_ok ht hc hk
  obtain ⟨hd, h1⟩ := (whenK_iff _ _).1 h1
  have hv := VRs.cells hσ h2 hd
  have hl := hv.length
  obtain ⟨ρ', h', h5, h6, h7, h8⟩ := new_ok (w1 := { w with heap := w.heap.push (.cells (a.eval y).cells ty) }) r (c := (a.eval y).cells) ⟨_, rfl, by rw [hl, List.take_length]; exact hv⟩ h1 rfl
  refine ⟨_, _, h', ρ', _, h5, .inl (?_ : _ = Result.ok (Next.value (.pointer (some ⟨w.heap.size, 0, none⟩))) { w with heap := w.heap.push (.cells (a.eval y).cells ty) }), .ptr _ 0 _ h8, h6, h7⟩
  simp [execOp, ho, Instr.box, newVar, newRow]

theorem store_ok (hσ : AtomsOk σ) (r : Rel σ ρ B h w) (ht : TR σ ρ t a.tmps) {x v : O} {n : Nat} {y u : Operand} {ty : TypeId} (ho : o.op = .store ty y u) (hc : chkO y x = true) (hc2 : chkO u v = true) (hs : chkSize P ty n = true) (hk : opK orc (.store n x v) t h k) : Res P σ ρ B h w (execOp a.eval o) k := by
  obtain ⟨p, h1, h2⟩ := ev_ok ht hc hk
  obtain ⟨b, off, L, h3, h4, h5⟩ := unP_ok h2 h1
  obtain ⟨q, h6, h7⟩ := ev_ok ht hc2 h5
  obtain ⟨hd, h6⟩ := (whenK_iff _ _).1 h6
  rw [lenK_iff] at h6
  obtain ⟨hn, h6⟩ := (whenK_iff _ _).1 h6
  have hv := VRs.cells hσ h7 hd
  have hl := hv.length
  obtain ⟨h', w', h8, h9, h10, h11⟩ := st_ok (P := P) hσ r h3 hv h6
  refine ⟨_, _, h', ρ, w', h8, .inr ⟨?_, rfl⟩, .undef _, h9, h10⟩
  have hn' : (cellsOf q).length = n := by simpa using hn
  have hsz : (a.eval u).cells.size = n := by simp at hl; omega
  simp [execOp, ho, h4, Instr.storeAt, Instr.sureAddr, storeVar, size_run hs, h11, hsz]

theorem nilChk_ok (r : Rel σ ρ B h w) (ht : TR σ ρ t a.tmps) {x : O} {y : Operand} (ho : o.op = .nilCheck y) (hc : chkO y x = true) (hk : opK orc (.nilChk x) t h k) : Res P σ ρ B h w (execOp a.eval o) k := by
  obtain ⟨v, h1, h2⟩ := ev_ok ht hc hk
  cases v <;> try exact h1.elim
  · obtain ⟨L, h3, h4⟩ := h2.un_ptr
    exact Res.pure r h1 (by simp [execOp, ho, h4]) (.ptr _ _ L h3)
  · obtain ⟨a', c', h3, h4, h5⟩ := h2.un_fn
    exact Res.pure r h1 (by simp [execOp, ho, h5]) (.fn _ _ _ _ _ h3 h4)
  · obtain ⟨L, h3, h4, h5⟩ := h2.un_map
    exact Res.pure r h1 (by simp [execOp, ho, h5]) (.map _ L h3 h4)
end ops
end Go.Ab
