/- How abstract values and heaps stand for the model's: the relations, and what keeps them. No condition. -/
import Derived.Test.YtbcpapkjdphfpaaCore2
import Derived.Laws.IdiomCopy
import Derived.Laws.AppendOwn
import Derived.Laws.Append
namespace Go.Ab

structure Loc where
  blk : Nat
  off : Nat
  size : Nat
  esz : Nat
abbrev Ren := Nat → Option Loc

mutual
inductive VR (σ : Nat → Value) (ρ : Ren) : AV → Value → Prop where
  | undef (v : Value) : VR σ ρ .undef v
  | b (x : Bool) : VR σ ρ (.b x) (.bool x)
  | i (k : IntKind) (n : Int) : VR σ ρ (.i k n) (.int k n)
  | s (x : List UInt8) : VR σ ρ (.s x) (.string ⟨x.toArray⟩)
  | nilp : VR σ ρ .nilp (.pointer none)
  | ptr (b o : Nat) (L : Loc) (h : ρ b = some L) : VR σ ρ (.ptr b o) (.pointer (some ⟨L.blk, L.off + o, none⟩))
  | nils : VR σ ρ .nils (.slice none 0 0)
  | sl (b o len cap c : Nat) (loose : Bool) (L : Loc) (h : ρ b = some L)
      (hc : c = cap ∨ (loose = true ∧ cap ≤ c ∧ L.off + o + c * L.esz ≤ L.size)) : VR σ ρ (.sl b o len cap loose) (.slice (some ⟨L.blk, L.off + o, none⟩) len c)
  | slz (b o x : Nat) (l : Bool) (L : Loc) (h : ρ b = some L) : VR σ ρ (.sl b o 0 0 l) (.slice (some ⟨L.blk, x, none⟩) 0 0)
  | nilf : VR σ ρ .nilf .nilFunc
  | fn (f : Nat) (first cap : List AV) (first' cap' : Array Value) (h1 : VRs σ ρ first first'.toList) (h2 : VRs σ ρ cap cap'.toList) : VR σ ρ (.fn f first cap) (.func (.func f) first' cap')
  | nili : VR σ ρ .nili .nilIface
  | ifc (t : Nat) (v : AV) (v' : Value) (h : VR σ ρ v v') : VR σ ρ (.ifc t v) (.iface t v')
  | agg (cs : List AV) (cs' : Array Value) (h : VRs σ ρ cs cs'.toList) : VR σ ρ (.agg cs) (.agg cs')
  | tup (cs : List AV) (cs' : Array Value) (h : VRs σ ρ cs cs'.toList) : VR σ ρ (.tup cs) (.tuple cs')
  | nilm : VR σ ρ .nilm (.map none)
  | map (b : Nat) (L : Loc) (h : ρ b = some L) (h0 : L.off = 0) : VR σ ρ (.map b) (.map (some L.blk))
  | sym (j : Nat) : VR σ ρ (.sym j) (σ j)
inductive VRs (σ : Nat → Value) (ρ : Ren) : List AV → List Value → Prop where
  | nil : VRs σ ρ [] []
  | cons (v : AV) (vs : List AV) (v' : Value) (vs' : List Value) (h : VR σ ρ v v') (hs : VRs σ ρ vs vs') : VRs σ ρ (v :: vs) (v' :: vs')
end

variable {σ : Nat → Value} {ρ ρ' : Ren}

mutual
theorem VR.mono (hρ : ∀ b L, ρ b = some L → ρ' b = some L) : ∀ {a : AV} {v : Value}, VR σ ρ a v → VR σ ρ' a v
  | _, _, .undef v => .undef v
  | _, _, .b x => .b x
  | _, _, .i k n => .i k n
  | _, _, .s x => .s x
  | _, _, .nilp => .nilp
  | _, _, .ptr b o L h => .ptr b o L (hρ b L h)
  | _, _, .nils => .nils
  | _, _, .sl b o len cap c loose L h hc => .sl b o len cap c loose L (hρ b L h) hc
  | _, _, .slz b o x l L h => .slz b o x l L (hρ b L h)
  | _, _, .nilf => .nilf
  | _, _, .fn f first cap first' cap' h1 h2 => .fn f first cap first' cap' (h1.mono hρ) (h2.mono hρ)
  | _, _, .nili => .nili
  | _, _, .ifc t v v' h => .ifc t v v' (h.mono hρ)
  | _, _, .agg cs cs' h => .agg cs cs' (h.mono hρ)
  | _, _, .tup cs cs' h => .tup cs cs' (h.mono hρ)
  | _, _, .nilm => .nilm
  | _, _, .map b L h h0 => .map b L (hρ b L h) h0
  | _, _, .sym j => .sym j
theorem VRs.mono (hρ : ∀ b L, ρ b = some L → ρ' b = some L) : ∀ {a : List AV} {v : List Value}, VRs σ ρ a v → VRs σ ρ' a v
  | _, _, .nil => .nil
  | _, _, .cons v vs v' vs' h hs => .cons v vs v' vs' (h.mono hρ) (hs.mono hρ)
end

theorem VRs.length {as : List AV} {vs : List Value} (h : VRs σ ρ as vs) : as.length = vs.length := by
  induction as generalizing vs with
  | nil => cases h; rfl
  | cons a as ih => cases h with | cons _ _ _ _ h hs => simp [ih hs]
theorem VRs.get {as : List AV} {vs : List Value} (h : VRs σ ρ as vs) {j : Nat} {a : AV} (ha : as[j]? = some a) : ∃ v, vs[j]? = some v ∧ VR σ ρ a v := by
  induction as generalizing vs j with
  | nil => simp at ha
  | cons x xs ih =>
    cases h with
    | cons _ _ v' vs' h hs =>
      cases j with
      | zero => simp at ha; subst ha; exact ⟨v', rfl, h⟩
      | succ j => simp at ha; obtain ⟨v, hv, hr⟩ := ih hs ha; exact ⟨v, by simpa using hv, hr⟩
theorem VRs.of_get {as : List AV} {vs : List Value} (hl : as.length = vs.length) (h : ∀ (j : Nat) a, as[j]? = some a → ∃ v, vs[j]? = some v ∧ VR σ ρ a v) : VRs σ ρ as vs := by
  induction as generalizing vs with
  | nil => cases vs with
           | nil => exact .nil
           | cons => simp at hl
  | cons x xs ih =>
    cases vs with
    | nil => simp at hl
    | cons v vs =>
      obtain ⟨v', hv, hr⟩ := h 0 x rfl
      simp at hv; subst hv
      exact .cons _ _ _ _ hr (ih (by simpa using hl) fun j a ha => by simpa using h (j + 1) a (by simpa using ha))
theorem VRs.append {as bs : List AV} {vs us : List Value} (h : VRs σ ρ as vs) (h' : VRs σ ρ bs us) : VRs σ ρ (as ++ bs) (vs ++ us) := by
  induction as generalizing vs with
  | nil => cases h; exact h'
  | cons a as ih => cases h with | cons _ _ _ _ h hs => exact .cons _ _ _ _ h (ih hs)
theorem VRs.take {as : List AV} {vs : List Value} (h : VRs σ ρ as vs) (n : Nat) : VRs σ ρ (as.take n) (vs.take n) := by
  induction as generalizing vs n with
  | nil => cases h; simp; exact .nil
  | cons a as ih => cases h with | cons _ _ _ _ h hs => cases n with
                                                        | zero => exact .nil
                                                        | succ n => exact .cons _ _ _ _ h (ih hs n)
theorem VRs.drop {as : List AV} {vs : List Value} (h : VRs σ ρ as vs) (n : Nat) : VRs σ ρ (as.drop n) (vs.drop n) := by
  induction as generalizing vs n with
  | nil => cases h; simp; exact .nil
  | cons a as ih => cases h with | cons _ _ _ _ h hs => cases n with
                                                        | zero => exact .cons _ _ _ _ h hs
                                                        | succ n => exact ih hs n

/-- entries of a map -/
def EntsR (σ : Nat → Value) (ρ : Ren) (es : List (AV × AV)) (vs : List MapEntry) : Prop :=
  es.length = vs.length ∧ ∀ (j : Nat) (e : AV × AV), es[j]? = some e → ∃ v : MapEntry, vs[j]? = some v ∧ VR σ ρ e.1 v.key ∧ VR σ ρ e.2 v.val

/-- no iterator -/
def NoIt (es : List (AV × AV)) : Prop := ∀ e, es.head? = some e → e.1 ≠ .undef
/-- a map, or an iterator over a string -/
def ObjR (σ : Nat → Value) (ρ : Ren) (es : List (AV × AV)) (o : Obj) : Prop :=
  (NoIt es ∧ ∃ vs clk, o = .map vs clk ∧ EntsR σ ρ es vs.toList) ∨ ∃ a n, es = iterE a n ∧ o = .stringIter ⟨a.toArray⟩ n
theorem ObjR.mono (hρ : ∀ b L, ρ b = some L → ρ' b = some L) {es : List (AV × AV)} {o : Obj} (h : ObjR σ ρ es o) : ObjR σ ρ' es o := by
  rcases h with ⟨h0, vs, clk, h1, h2, h3⟩ | h
  · exact .inl ⟨h0, vs, clk, h1, h2, fun j e he => let ⟨v, a, b, c⟩ := h3 j e he; ⟨v, a, b.mono hρ, c.mono hρ⟩⟩
  · exact .inr h
theorem ObjR.map {es : List (AV × AV)} {o : Obj} (h : ObjR σ ρ es o) (hn : NoIt es) : ∃ vs clk, o = .map vs clk ∧ EntsR σ ρ es vs.toList := by
  rcases h with ⟨_, h⟩ | ⟨a, n, rfl, _⟩
  · exact h
  · exact absurd rfl (hn _ rfl)
theorem ObjR.iter {a : List UInt8} {n : Nat} {o : Obj} (h : ObjR σ ρ (iterE a n) o) : o = .stringIter ⟨a.toArray⟩ n := by
  rcases h with ⟨h, _⟩ | ⟨a', n', h1, h2⟩
  · exact absurd rfl (h _ rfl)
  · simp only [iterE, List.cons.injEq, Prod.mk.injEq, AV.s.injEq, AV.i.injEq, true_and, and_true] at h1
    obtain ⟨rfl, h1⟩ := h1
    have : n = n' := Int.ofNat.inj h1
    subst this
    exact h2
theorem ObjR.notCells {es : List (AV × AV)} {c : Array Value} {ty : TypeId} {fz : Nat × Nat} (h : ObjR σ ρ es (.cells c ty fz)) : False := by
  rcases h with ⟨_, _, _, h, _⟩ | ⟨_, _, _, h⟩ <;> cases h

/-- the heap stands in the world -/
structure Rel (σ : Nat → Value) (ρ : Ren) (B : Nat) (h : Hp) (w : World) : Prop where
  dom : ∀ b L, ρ b = some L → b < h.sz
  cells : ∀ b L e wf af cs, ρ b = some L → h.tr.get b = some (.cells e wf af cs) → L.esz = e ∧ ∃ c ty fz, w.heap[L.blk]? = some (.cells c ty fz) ∧ c.size = L.size ∧ L.off + cs.length ≤ L.size ∧
    (∀ j v, cs[j]? = some v → ∃ v', c[L.off + j]? = some v' ∧ VR σ ρ v v') ∧ ((wf || af) = true → ∀ j, j < L.size → ¬ (fz.1 ≤ j ∧ j < fz.2))
  maps : ∀ b L es, ρ b = some L → h.tr.get b = some (.map es) → L.off = 0 ∧ ∃ o, w.heap[L.blk]? = some o ∧ ObjR σ ρ es o
  excl : ∀ b L e af cs, ρ b = some L → h.tr.get b = some (.cells e true af cs) → ∀ b' L' x, ρ b' = some L' → h.tr.get b' = some x → x ≠ .dead → L'.blk = L.blk → b' = b
  exclm : ∀ b L es, ρ b = some L → h.tr.get b = some (.map es) → ∀ b' L' x, ρ b' = some L' → h.tr.get b' = some x → x ≠ .dead → L'.blk = L.blk → b' = b
  app : ∀ b L e wf cs, ρ b = some L → h.tr.get b = some (.cells e wf true cs) → ∀ b' L' e' wf' af' cs', ρ b' = some L' → h.tr.get b' = some (.cells e' wf' af' cs') → L'.blk = L.blk → L'.off + cs'.length ≤ L.off + cs.length ∧ (af' = true → b' = b)
  flr : ∀ b L, ρ b = some L → h.fl ≤ b → B ≤ L.blk
  base : B ≤ w.heap.size

/-- what a step keeps -/
structure Kept (ρ : Ren) (B : Nat) (h : Hp) (w : World) (ρ' : Ren) (h' : Hp) (w' : World) : Prop where
  ext : ∀ b, b < h.sz → ρ' b = ρ b
  szle : h.sz ≤ h'.sz
  fl : h'.fl = h.fl
  akeep : ∀ b, b < h.fl → b < h.sz → h'.tr.get b = h.tr.get b
  pres : ∀ k, k < B → w'.heap[k]? = w.heap[k]?
  wle : w.heap.size ≤ w'.heap.size
  io : w'.os = w.os ∧ w'.output = w.output

theorem Kept.refl (ρ : Ren) (B : Nat) (h : Hp) (w : World) : Kept ρ B h w ρ h w :=
  ⟨fun _ _ => rfl, Nat.le_refl _, rfl, fun _ _ _ => rfl, fun _ _ => rfl, Nat.le_refl _, rfl, rfl⟩
theorem Kept.trans {ρ ρ1 ρ2 : Ren} {B : Nat} {h h1 h2 : Hp} {w w1 w2 : World} (k1 : Kept ρ B h w ρ1 h1 w1) (k2 : Kept ρ1 B h1 w1 ρ2 h2 w2) : Kept ρ B h w ρ2 h2 w2 :=
  ⟨fun b hb => (k2.ext b (Nat.lt_of_lt_of_le hb k1.szle)).trans (k1.ext b hb), Nat.le_trans k1.szle k2.szle, k2.fl.trans k1.fl,
   fun b hb hb' => (k2.akeep b (k1.fl ▸ hb) (Nat.lt_of_lt_of_le hb' k1.szle)).trans (k1.akeep b hb hb'), fun k hk => (k2.pres k hk).trans (k1.pres k hk), Nat.le_trans k1.wle k2.wle, k2.io.1.trans k1.io.1, k2.io.2.trans k1.io.2⟩
theorem Kept.mono {B : Nat} {h h' : Hp} {w w' : World} (k : Kept ρ B h w ρ' h' w') (hd : ∀ b L, ρ b = some L → b < h.sz) : ∀ b L, ρ b = some L → ρ' b = some L :=
  fun b L hb => (k.ext b (hd b L hb)).trans hb

/-- only the heap of a world counts -/
theorem Rel.heap {B : Nat} {h : Hp} {w w' : World} (r : Rel σ ρ B h w) (e : w'.heap = w.heap) : Rel σ ρ B h w' :=
  ⟨r.dom, by rw [e]; exact r.cells, by rw [e]; exact r.maps, r.excl, r.exclm, r.app, r.flr, by rw [e]; exact r.base⟩
theorem Kept.heap {B : Nat} {h h' : Hp} {w w' w2 : World} (k : Kept ρ B h w ρ' h' w') (e : w2.heap = w'.heap) (e2 : w2.os = w'.os ∧ w2.output = w'.output) : Kept ρ B h w ρ' h' w2 :=
  ⟨k.ext, k.szle, k.fl, k.akeep, by rw [e]; exact k.pres, by rw [e]; exact k.wle, e2.1.trans k.io.1, e2.2.trans k.io.2⟩
theorem Kept.heap0 {B : Nat} {h h' : Hp} {w w' w0 : World} (k : Kept ρ B h w ρ' h' w') (e : w0.heap = w.heap) (e2 : w0.os = w.os ∧ w0.output = w.output) : Kept ρ B h w0 ρ' h' w' :=
  ⟨k.ext, k.szle, k.fl, k.akeep, by rw [e]; exact k.pres, by rw [e]; exact k.wle, k.io.1.trans e2.1.symm, k.io.2.trans e2.2.symm⟩

def Ren.add (ρ : Ren) (b : Nat) (L : Loc) : Ren := fun x => if x = b then some L else ρ x
noncomputable def Hp.push (h : Hp) (x : Blk) : Hp := ⟨Nat.succ h.sz, h.fl, h.tr.set h.sz x⟩
noncomputable def Hp.put (h : Hp) (b : Nat) (x : Blk) : Hp := ⟨h.sz, h.fl, h.tr.set b x⟩

theorem newK_iff (h : Hp) (x : Blk) (k : Nat → Hp → Prop) : newK h x k ↔ k h.sz (h.push x) := by
  cases h; simp only [newK, Tr.setK_iff, forceN_eq]; exact Iff.rfl
theorem putK_iff (h : Hp) (b : Nat) (x : Blk) (k : Hp → Prop) : putK h b x k ↔ h.fl ≤ b ∧ k (h.put b x) := by
  cases h with
  | mk sz fl tr =>
    show (Bool.rec (motive := fun _ => Prop) False (tr.setK b x (fun tr' => k ⟨sz, fl, tr'⟩)) (Nat.ble fl b) : Prop) ↔ _
    rw [bleD]
    by_cases hb : fl ≤ b
    · simp only [hb, decide_true]; rw [Tr.setK_iff]; simp; exact Iff.rfl
    · simp [hb]
theorem cellsK_iff (h : Hp) (b : Nat) (k : Nat → Bool → Bool → List AV → Prop) : cellsK h b k ↔ ∃ e w a cs, h.tr.get b = some (.cells e w a cs) ∧ k e w a cs := by
  simp only [cellsK, Tr.getK_iff]
  constructor
  · rintro ⟨v, hv, hk⟩
    cases v with
    | cells e w a cs => exact ⟨e, w, a, cs, hv, hk⟩
    | dead => exact hk.elim
    | map es => exact hk.elim
  · rintro ⟨e, w, a, cs, hv, hk⟩; exact ⟨_, hv, hk⟩

/-- a new abstract block over a row that is new -/
theorem Rel.fresh {B : Nat} {h : Hp} {w w' : World} (r : Rel σ ρ B h w) (wf af : Bool) (cs : List AV) (c : Array Value) (ty : TypeId) (fz : Nat × Nat) (L0 : Loc) (hfz : ∀ j, j < L0.size → ¬ (fz.1 ≤ j ∧ j < fz.2))
    (hold : ∀ k, k < w.heap.size → w'.heap[k]? = w.heap[k]?) (hsz : w.heap.size ≤ w'.heap.size) (hL : w.heap.size ≤ L0.blk) (hnew : w'.heap[L0.blk]? = some (.cells c ty fz)) (hcs : c.size = L0.size)
    (hio : w'.os = w.os ∧ w'.output = w.output) (hl : L0.off + cs.length ≤ L0.size) (hc : ∀ (j : Nat) v, cs[j]? = some v → ∃ v', c[L0.off + j]? = some v' ∧ VR σ ρ v v') :
    Rel σ (ρ.add h.sz L0) B (h.push (.cells L0.esz wf af cs)) w' ∧ Kept ρ B h w (ρ.add h.sz L0) (h.push (.cells L0.esz wf af cs)) w' := by
  have hext : ∀ b L, ρ b = some L → (ρ.add h.sz L0) b = some L := by
    intro b L hb; have := r.dom b L hb; simp only [Ren.add]; rw [if_neg (by omega)]; exact hb
  have hwf : ∀ b L, ρ b = some L → ∀ x, h.tr.get b = some x → x ≠ .dead → L.blk < w.heap.size := by
    intro b L hb x hx hd
    cases x with
    | cells e' wf' af' cs' => obtain ⟨_, c', ty', fz', hh, _⟩ := r.cells b L e' wf' af' cs' hb hx; exact (Array.getElem?_eq_some_iff.1 hh).1
    | dead => exact absurd rfl hd
    | map es => obtain ⟨_, ob, hh, _⟩ := r.maps b L es hb hx; exact (Array.getElem?_eq_some_iff.1 hh).1
  have hget : ∀ b x, (h.push (.cells L0.esz wf af cs)).tr.get b = some x → b ≠ h.sz → h.tr.get b = some x := by
    intro b x hx hb; simp only [Hp.push, Tr.get_set] at hx; rwa [if_neg hb] at hx
  have hget' : ∀ x, (h.push (.cells L0.esz wf af cs)).tr.get h.sz = some x → x = .cells L0.esz wf af cs := by
    intro x hx; simp [Hp.push, Tr.get_set] at hx; exact hx.symm
  have hren : ∀ b L, (ρ.add h.sz L0) b = some L → (b = h.sz ∧ L = L0) ∨ (b ≠ h.sz ∧ ρ b = some L) := by
    intro b L hb; simp only [Ren.add] at hb; split at hb
    · left; exact ⟨by assumption, by simpa using hb.symm⟩
    · right; exact ⟨by assumption, hb⟩
  refine ⟨⟨?_, ?_, ?_, ?_, ?_, ?_, ?_, ?_⟩, ⟨?_, ?_, rfl, ?_, ?_, ?_, hio⟩⟩
  · intro b L hb
    rcases hren b L hb with ⟨rfl, _⟩ | ⟨_, hb⟩
    · exact Nat.lt_succ_self _
    · exact Nat.lt_succ_of_lt (r.dom b L hb)
  · intro b L e' wf' af' cs' hb hg
    rcases hren b L hb with ⟨rfl, rfl⟩ | ⟨hne, hb⟩
    · cases hget' _ hg
      refine ⟨rfl, c, ty, fz, hnew, hcs, hl, ?_, fun _ j hj hh => hfz j hj hh⟩
      intro j v hv
      obtain ⟨v', h1, h2⟩ := hc j v hv
      exact ⟨v', h1, h2.mono hext⟩
    · have hg' := hget _ _ hg hne
      obtain ⟨h1, c', ty', fz, h2, h3, h4, h5, h6⟩ := r.cells b L e' wf' af' cs' hb hg'
      refine ⟨h1, c', ty', fz, ?_, h3, h4, ?_, h6⟩
      · rw [hold _ (hwf b L hb _ hg' (by simp))]; exact h2
      · intro j v hv; obtain ⟨v', h7, h8⟩ := h5 j v hv; exact ⟨v', h7, h8.mono hext⟩
  · intro b L es hb hg
    rcases hren b L hb with ⟨rfl, rfl⟩ | ⟨hne, hb⟩
    · cases hget' _ hg
    · have hg' := hget _ _ hg hne
      obtain ⟨h0, ob, h2, h3⟩ := r.maps b L es hb hg'
      refine ⟨h0, ob, ?_, h3.mono hext⟩
      rw [hold _ (hwf b L hb _ hg' (by simp))]; exact h2
  · intro b L e' af' cs' hb hg b' L' x hb' hx hd he
    rcases hren b L hb with ⟨rfl, rfl⟩ | ⟨hne, hb1⟩ <;> rcases hren b' L' hb' with ⟨rfl, rfl⟩ | ⟨hne', hb'⟩
    · rfl
    · have := hwf b' L' hb' _ (hget _ _ hx hne') hd; omega
    · have := hwf b L hb1 _ (hget _ _ hg hne) (by simp); omega
    · exact r.excl b L e' af' cs' hb1 (hget _ _ hg hne) b' L' x hb' (hget _ _ hx hne') hd he
  · intro b L es hb hg b' L' x hb' hx hd he
    rcases hren b L hb with ⟨rfl, rfl⟩ | ⟨hne, hb1⟩ <;> rcases hren b' L' hb' with ⟨rfl, rfl⟩ | ⟨hne', hb'⟩
    · rfl
    · have := hwf b' L' hb' _ (hget _ _ hx hne') hd; omega
    · have := hwf b L hb1 _ (hget _ _ hg hne) (by simp); omega
    · exact r.exclm b L es hb1 (hget _ _ hg hne) b' L' x hb' (hget _ _ hx hne') hd he
  · intro b L e' wf' cs' hb hg b' L' e2 wf2 af2 cs2 hb' hx he
    rcases hren b L hb with ⟨rfl, rfl⟩ | ⟨hne, hb1⟩ <;> rcases hren b' L' hb' with ⟨rfl, rfl⟩ | ⟨hne', hb'⟩
    · cases hget' _ hg; cases hget' _ hx; exact ⟨Nat.le_refl _, fun _ => rfl⟩
    · have := hwf b' L' hb' _ (hget _ _ hx hne') (by simp); omega
    · have := hwf b L hb1 _ (hget _ _ hg hne) (by simp); omega
    · exact r.app b L e' wf' cs' hb1 (hget _ _ hg hne) b' L' e2 wf2 af2 cs2 hb' (hget _ _ hx hne') he
  · intro b L hb hf
    rcases hren b L hb with ⟨rfl, rfl⟩ | ⟨_, hb⟩
    · exact Nat.le_trans r.base hL
    · exact r.flr b L hb hf
  · exact Nat.le_trans r.base hsz
  · intro b hb; simp only [Ren.add]; rw [if_neg (by omega)]
  · exact Nat.le_succ _
  · intro b _ hb; simp only [Hp.push, Tr.get_set]; rw [if_neg (by omega)]
  · intro k hk; exact hold k (Nat.lt_of_lt_of_le hk r.base)
  · exact hsz

/-- one new block -/
theorem Rel.push {B : Nat} {h : Hp} {w w' : World} (r : Rel σ ρ B h w) (e : Nat) (wf af : Bool) (cs : List AV) (c : Array Value) (ty : TypeId) (fz : Nat × Nat) (hfz : ∀ j, j < c.size → ¬ (fz.1 ≤ j ∧ j < fz.2))
    (hw : w'.heap = w.heap.push (.cells c ty fz)) (hio : w'.os = w.os ∧ w'.output = w.output) (hl : cs.length ≤ c.size) (hc : ∀ (j : Nat) v, cs[j]? = some v → ∃ v', c[j]? = some v' ∧ VR σ ρ v v') :
    Rel σ (ρ.add h.sz ⟨w.heap.size, 0, c.size, e⟩) B (h.push (.cells e wf af cs)) w' ∧ Kept ρ B h w (ρ.add h.sz ⟨w.heap.size, 0, c.size, e⟩) (h.push (.cells e wf af cs)) w' :=
  r.fresh wf af cs c ty fz ⟨w.heap.size, 0, c.size, e⟩ hfz (by intro k hk; rw [hw, Array.getElem?_push]; rw [if_neg (by omega)]) (by rw [hw, Array.size_push]; exact Nat.le_succ _) (Nat.le_refl _) (by rw [hw]; simp) rfl hio (by simpa using hl)
    (by intro j v hv; obtain ⟨v', h1, h2⟩ := hc j v hv; exact ⟨v', by simpa using h1, h2⟩)

theorem Rel.world {B : Nat} {h : Hp} {w w' : World} (r : Rel σ ρ B h w) (hw : ∀ n, n < w.heap.size → w'.heap[n]? = w.heap[n]?) (hs : w.heap.size ≤ w'.heap.size) : Rel σ ρ B h w' := by
  refine ⟨r.dom, ?_, ?_, r.excl, r.exclm, r.app, r.flr, Nat.le_trans r.base hs⟩
  · intro b L e wf af cs hb hg
    obtain ⟨h1, c, ty, fz, h2, h3⟩ := r.cells b L e wf af cs hb hg
    exact ⟨h1, c, ty, fz, by rw [hw _ (Array.getElem?_eq_some_iff.1 h2).1]; exact h2, h3⟩
  · intro b L es hb hg
    obtain ⟨h1, ob, h2, h3⟩ := r.maps b L es hb hg
    exact ⟨h1, ob, by rw [hw _ (Array.getElem?_eq_some_iff.1 h2).1]; exact h2, h3⟩
theorem Ren.add_self (ρ : Ren) (b : Nat) (L : Loc) : (ρ.add b L) b = some L := by simp [Ren.add]
end Go.Ab
