/- Regions that draw their order, first part: what an operation looks at; relations that are cut and joined. No condition. -/
import Derived.Test.YtbcpapkjdphfpaaCore17
namespace Go.Ab
variable {σ : Nat → Value} {ρ ρ' : Ren} {P : Program} {orc : Orc} {env : Tr IFn}

/-! ### an operation looks at the temporaries that it names, and at no others -/
def Same (t t' : Tr AV) (ns : List Nat) : Prop := ∀ n ∈ ns, t'.get n = t.get n
theorem Same.sub {t t' : Tr AV} {ns ms : List Nat} (h : Same t t' ns) (hs : ∀ n ∈ ms, n ∈ ns) : Same t t' ms := fun n hn => h n (hs n hn)
theorem evK_same {t t' : Tr AV} {x : O} (h : Same t t' (namesO x)) : evK t' x = evK t x := by
  cases x with
  | c v => rfl
  | t n =>
    funext k
    apply propext
    show t'.getK n k ↔ t.getK n k
    rw [Tr.getK_iff, Tr.getK_iff, h n (by simp [namesO])]
theorem evsK_same {t t' : Tr AV} : ∀ {xs : List O} (_ : Same t t' (namesOs xs)), evsK t' xs = evsK t xs
  | [], _ => rfl
  | x :: xs, h => by
    have e1 := evK_same (x := x) (h.sub fun n hn => by simp [namesOs, hn])
    have e2 := evsK_same (xs := xs) (h.sub fun n hn => by simp only [namesOs, List.flatMap_cons, List.mem_append] at hn ⊢; exact .inr hn)
    funext k
    show evK t' x (fun v => evsK t' xs (fun vs => k (v :: vs))) = evK t x (fun v => evsK t xs (fun vs => k (v :: vs)))
    rw [e1, e2]
theorem optK_same {t t' : Tr AV} {x : Option O} (h : Same t t' (namesOpt x)) : optK t' x = optK t x := by
  cases x with
  | none => rfl
  | some x =>
    funext k
    show evK t' x (fun v => k (some v)) = evK t x (fun v => k (some v))
    rw [evK_same h]
theorem fillK_same {t t' : Tr AV} : ∀ {ps : List (Nat × Nat × O)} (_ : Same t t' (namesP ps)), fillK t' ps = fillK t ps
  | [], _ => rfl
  | p :: ps, h => by
    have e1 := evK_same (x := p.2.2) (h.sub fun n hn => by simp [namesP, hn])
    have e2 := fillK_same (ps := ps) (h.sub fun n hn => by simp only [namesP, List.flatMap_cons, List.mem_append] at hn ⊢; exact .inr hn)
    funext l k
    show evK t' p.2.2 (fun v => whenK (defd v) (forceN p.1 (fun off => lenK (cellsOf v) (fun n => whenK (Nat.beq n p.2.1) (spliceK (cellsOf v) off l (fun l' => fillK t' ps l' k)))))) = evK t p.2.2 (fun v => whenK (defd v) (forceN p.1 (fun off => lenK (cellsOf v) (fun n => whenK (Nat.beq n p.2.1) (spliceK (cellsOf v) off l (fun l' => fillK t ps l' k))))))
    rw [e1, e2]
theorem apartK_same {t t' : Tr AV} (b : Nat) : ∀ {ps : List Nat} (_ : Same t t' ps), apartK t' b ps = apartK t b ps
  | [], _ => rfl
  | q :: ps, h => by
    have e1 : t'.getK q = t.getK q := evK_same (x := .t q) (t := t) (t' := t') (fun n hn => h n (by simp [namesO] at hn; simp [hn]))
    have e2 := apartK_same b (ps := ps) (h.sub fun n hn => by simp [hn])
    funext p
    show t'.getK q (fun y => unP y (fun b' _ => whenK (not (Nat.beq b' b)) (apartK t' b ps p))) = t.getK q (fun y => unP y (fun b' _ => whenK (not (Nat.beq b' b)) (apartK t b ps p)))
    rw [e1, e2]
theorem opK_same {t t' : Tr AV} {o : IOp} (h : Same t t' (namesI o)) : opK orc o t' = opK orc o t := by
  have hv : ∀ x, (∀ n ∈ namesO x, n ∈ namesI o) → evK t' x = evK t x := fun x hx => evK_same (h.sub hx)
  have ho : ∀ x, (∀ n ∈ namesOpt x, n ∈ namesI o) → optK t' x = optK t x := fun x hx => optK_same (h.sub hx)
  have hp : ∀ x, (∀ n ∈ namesP x, n ∈ namesI o) → fillK t' x = fillK t x := fun x hx => fillK_same (h.sub hx)
  have hs : ∀ x, (∀ n ∈ namesOs x, n ∈ namesI o) → evsK t' x = evsK t x := fun x hx => evsK_same (h.sub hx)
  funext hh k
  cases o <;> simp only [opK]
  case mov x => rw [hv x (by simp [namesI])]
  case pick c x y => rw [hv c (by simp +contextual [namesI]), hv x (by simp +contextual [namesI]), hv y (by simp +contextual [namesI])]
  case box x => rw [hv x (by simp [namesI])]
  case build z ps => rw [hp ps (by simp [namesI])]
  case buildS n z ps => rw [hp ps (by simp [namesI])]
  case load1 x => rw [hv x (by simp [namesI])]
  case loadN n x => rw [hv x (by simp [namesI])]
  case store n x v => rw [hv x (by simp +contextual [namesI]), hv v (by simp +contextual [namesI])]
  case nilChk x => rw [hv x (by simp [namesI])]
  case bin op x y => rw [hv x (by simp +contextual [namesI]), hv y (by simp +contextual [namesI])]
  case eqB neg x y => rw [hv x (by simp +contextual [namesI]), hv y (by simp +contextual [namesI])]
  case eqN neg q x => rw [hv x (by simp [namesI])]
  case eqA neg ks x y => rw [hv x (by simp +contextual [namesI]), hv y (by simp +contextual [namesI])]
  case un op x => rw [hv x (by simp [namesI])]
  case cvInt k x => rw [hv x (by simp [namesI])]
  case cvStr x => rw [hv x (by simp [namesI])]
  case s2b x => rw [hv x (by simp [namesI])]
  case b2s x => rw [hv x (by simp [namesI])]
  case fAddr off x => rw [hv x (by simp [namesI])]
  case fld off n x => rw [hv x (by simp [namesI])]
  case iAddrA len esz x i => rw [hv x (by simp +contextual [namesI]), hv i (by simp +contextual [namesI])]
  case iAddrS esz x i => rw [hv x (by simp +contextual [namesI]), hv i (by simp +contextual [namesI])]
  case idxA len esz agg x i => rw [hv x (by simp +contextual [namesI]), hv i (by simp +contextual [namesI])]
  case idxS x i => rw [hv x (by simp +contextual [namesI]), hv i (by simp +contextual [namesI])]
  case slcS esz x lo hi mx => rw [hv x (by simp +contextual [namesI]), ho lo (by simp +contextual [namesI]), ho hi (by simp +contextual [namesI]), ho mx (by simp +contextual [namesI])]
  case slcStr x lo hi => rw [hv x (by simp +contextual [namesI]), ho lo (by simp +contextual [namesI]), ho hi (by simp +contextual [namesI])]
  case slcA len esz x lo hi mx => rw [hv x (by simp +contextual [namesI]), ho lo (by simp +contextual [namesI]), ho hi (by simp +contextual [namesI]), ho mx (by simp +contextual [namesI])]
  case ext x i => rw [hv x (by simp [namesI])]
  case mkF f a c => rw [hs a (by simp +contextual [namesI]), hs c (by simp +contextual [namesI])]
  case mkS esz bytes z len cap => rw [hv len (by simp +contextual [namesI]), hv cap (by simp +contextual [namesI])]
  case len str x => rw [hv x (by simp [namesI])]
  case app esz bytes c s x => rw [hv s (by simp +contextual [namesI]), hv x (by simp +contextual [namesI])]
  case copy esz d s => rw [hv d (by simp +contextual [namesI]), hv s (by simp +contextual [namesI])]
  case max x y => rw [hv x (by simp +contextual [namesI]), hv y (by simp +contextual [namesI])]
  case clear z x => rw [hv x (by simp [namesI])]
  case lookM kd ok z x i => rw [hv x (by simp +contextual [namesI]), hv i (by simp +contextual [namesI])]
  case updM kd x i v => rw [hv x (by simp +contextual [namesI]), hv i (by simp +contextual [namesI]), hv v (by simp +contextual [namesI])]
  case lenM x => rw [hv x (by simp [namesI])]
  case min x y => rw [hv x (by simp +contextual [namesI]), hv y (by simp +contextual [namesI])]
  case rangeS x => rw [hv x (by simp [namesI])]
  case storeD n x v ps =>
    have e := fun b => apartK_same (t := t) (t' := t') b (ps := ps) (h.sub fun n hn => by simp [namesI, hn])
    rw [hv x (by simp +contextual [namesI]), hv v (by simp +contextual [namesI])]
    simp only [e]
  case appF esz bytes s x => rw [hv s (by simp +contextual [namesI]), hv x (by simp +contextual [namesI])]
  case nextS x => rw [hv x (by simp [namesI])]
theorem ropK0_same {ih : Body} {t t' : Tr AV} {r : RK} (h : Same t t' (namesK r)) : ropK0 orc env ih r t' = ropK0 orc env ih r t := by
  cases r with
  | op o => exact opK_same h
  | callF f args =>
    have e := evsK_same (xs := args) h
    funext hh k
    show evsK t' args (fun vs => hookK (orc.call f vs) hh k (callK env ih f vs hh k)) = evsK t args (fun vs => hookK (orc.call f vs) hh k (callK env ih f vs hh k))
    rw [e]
  | callV x args =>
    have e1 := evK_same (x := x) (h.sub fun n hn => by simp [namesK, hn])
    have e2 := evsK_same (xs := args) (h.sub fun n hn => by simp [namesK, hn])
    funext hh k
    simp only [ropK0, e1, e2]
theorem ropK_same {ih : Body} {t t' : Tr AV} {draw : Bool} {r : RK} (h : Same t t' (namesK r)) : ropK orc env draw ih r t' = ropK orc env draw ih r t := by
  funext hh k
  simp only [ropK, ropK0_same h]
theorem guardK_same {t t' : Tr AV} {g : Option (Nat × Bool)} (h : Same t t' (match g with | some g => [g.1] | none => [])) : guardK t' g = guardK t g := by
  cases g with
  | none => rfl
  | some g =>
    funext k
    have e := evK_same (x := .t g.1) (t := t) (t' := t') (fun n hn => h n (by simpa [namesO] using hn))
    have e' : t'.getK g.1 = t.getK g.1 := e
    simp only [guardK, e']
/-- a trie of some names alone -/
noncomputable def only (t : Tr AV) : List Nat → Tr AV
  | [] => .leaf
  | n :: ns => match t.get n with | some v => (only t ns).set n v | none => only t ns
theorem only_get (t : Tr AV) : ∀ (ns : List Nat) (n : Nat), (only t ns).get n = if n ∈ ns then t.get n else none
  | [], n => by simp [only]
  | m :: ns, n => by
    simp only [only]
    cases h : t.get m with
    | none =>
      simp only
      rw [only_get t ns n]
      by_cases hn : n = m
      · subst hn; simp [h]
      · simp [hn]
    | some v =>
      simp only
      rw [Tr.get_set, only_get t ns n]
      by_cases hn : n = m
      · subst hn; simp [h]
      · simp [hn]

/-! ### operations that have nothing to do with memory -/
theorem pure_op {o : IOp} (hp : pureK (.op o) = true) {t : Tr AV} {h : Hp} {k : AV → Hp → Prop} (hk : opK orc o t h k) : ∃ v, k v h ∧ ∀ h2 (k2 : AV → Hp → Prop), k2 v h2 → opK orc o t h2 k2 := by
  have mk : ∀ {G : (AV → Prop) → Prop}, L1 G → G (fun v => k v h) → ∃ v, k v h ∧ ∀ h2 (k2 : AV → Hp → Prop), k2 v h2 → G (fun v => k2 v h2) := by
    intro G hG h1
    obtain ⟨v, h2, h3⟩ := hG _ h1
    exact ⟨v, h2, fun h2 k2 hk2 => h3 _ hk2⟩
  cases o <;> first | (simp [pureK] at hp; done) | skip
  case mov x => exact mk (evK_l t x) hk
  case pick c x y => exact mk (G := fun k => evK t c (fun c => unB c (fun c => Bool.rec (motive := fun _ => Prop) (evK t y k) (evK t x k) c))) (L1.b1 (evK_l t c) fun c => L1.b1 (unB_l c) fun c => L1.br _ (evK_l t y) (evK_l t x)) hk
  case bin op x y => exact mk (G := fun k => evK t x (fun x => evK t y (fun y => binK orc op x y k))) (L1.b1 (evK_l t x) fun x => L1.b1 (evK_l t y) fun y => binK_l orc op x y) hk
  case eqB neg x y => exact mk (G := fun k => evK t x (fun x => evK t y (fun y => unB x (fun x => unB y (fun y => forceB (xor neg (x == y)) (fun r => k (.b r))))))) (L1.b1 (evK_l t x) fun x => L1.b1 (evK_l t y) fun y => L1.b1 (unB_l x) fun x => L1.b1 (unB_l y) fun y => L1.b1 (forceB_l _) fun r => L1.ret _) hk
  case un op x => exact mk (G := fun k => evK t x (fun x => unopK op x k)) (L1.b1 (evK_l t x) fun x => unopK_l op x) hk
  case cvInt q x => exact mk (G := fun k => evK t x (fun x => cvK orc q x k)) (L1.b1 (evK_l t x) fun x => cvK_l orc q x) hk
  case fAddr off x => exact mk (G := fun k => evK t x (fun p => unP p (fun b o => forceN (Nat.add o off) (fun o' => k (.ptr b o'))))) (L1.b1 (evK_l t x) fun p => L2.b1 (unP_l p) fun b o => L1.b1 (forceN_l _) fun o' => L1.ret _) hk
  case iAddrA len esz x i => exact mk (G := fun k => evK t x (fun p => unP p (fun b o => evK t i (fun i => unN i (fun i => whenK (Nat.ble (Nat.succ i) len) (forceN (Nat.add o (Nat.mul i esz)) (fun o' => k (.ptr b o')))))))) (L1.b1 (evK_l t x) fun p => L2.b1 (unP_l p) fun b o => L1.b1 (evK_l t i) fun i => L1.b1 (unN_l i) fun i => L1.wh _ (L1.b1 (forceN_l _) fun o' => L1.ret _)) hk
  case iAddrS esz x i =>
    refine mk (G := fun k => evK t x (fun x => match x with
      | .sl b o len _ _ => evK t i (fun i => unN i (fun i => whenK (Nat.ble (Nat.succ i) len) (forceN (Nat.add o (Nat.mul i esz)) (fun o' => k (.ptr b o')))))
      | _ => False)) (L1.b1 (evK_l t x) fun x => ?_) hk
    cases x <;> dsimp only <;> first | exact L1.no | exact L1.b1 (evK_l t i) fun i => L1.b1 (unN_l i) fun i => L1.wh _ (L1.b1 (forceN_l _) fun o' => L1.ret _)
  case nilChk x =>
    refine mk (G := fun k => evK t x (fun v => match v with | .ptr b o => k (.ptr b o) | .fn f a c => k (.fn f a c) | .map r => k (.map r) | _ => False)) (L1.b1 (evK_l t x) fun x => ?_) (show evK t x (fun v => match v with | .ptr b o => k (.ptr b o) h | .fn f a c => k (.fn f a c) h | .map r => k (.map r) h | _ => False) from hk)
    cases x <;> dsimp only <;> first | exact L1.no | exact L1.ret _
  case eqN neg q x => exact mk (G := fun k => evK t x (fun x => isNilK q x (fun r => forceB (xor neg r) (fun r => k (.b r))))) (L1.b1 (evK_l t x) fun x => L1.b1 (isNilK_l q x) fun r => L1.b1 (forceB_l _) fun r => L1.ret _) hk
  case fld off n x =>
    refine mk (G := fun k => evK t x (fun x => match x with
      | .agg cs => Option.rec (motive := fun _ => Prop) (nthK cs off k) (fun n => dropK off cs (fun l => takeK n l (fun l => k (.agg l)))) n
      | _ => False)) (L1.b1 (evK_l t x) fun x => ?_) hk
    cases x <;> dsimp only <;> try exact L1.no
    cases n
    · exact nthK_l _ _
    · exact L1.b1 (dropK_l _ _) fun l => L1.b1 (takeK_l _ _) fun l => L1.ret _
  case ext x i =>
    refine mk (G := fun k => evK t x (fun x => match x with | .tup cs => nthK cs i k | _ => False)) (L1.b1 (evK_l t x) fun x => ?_) hk
    cases x <;> dsimp only <;> first | exact L1.no | exact nthK_l _ _

/-! ### relations cut and joined -/
/-- a longer heap -/
theorem Rel.longer {B : Nat} {h h' : Hp} {w : World} (r : Rel σ ρ B h w) (hs : h.sz ≤ h'.sz) (hf : h'.fl = h.fl) (hg : ∀ b, b < h.sz → h'.tr.get b = h.tr.get b) : Rel σ ρ B h' w := by
  have hget : ∀ b L, ρ b = some L → h'.tr.get b = h.tr.get b := fun b L hb => hg b (r.dom b L hb)
  refine ⟨fun b L hb => Nat.lt_of_lt_of_le (r.dom b L hb) hs, ?_, ?_, ?_, ?_, ?_, fun b L hb hh => r.flr b L hb (hf ▸ hh), r.base⟩
  · intro b L e wf af cs hb hx; rw [hget b L hb] at hx; exact r.cells b L e wf af cs hb hx
  · intro b L es hb hx; rw [hget b L hb] at hx; exact r.maps b L es hb hx
  · intro b L e af cs hb hx b' L' x hb' hx'; rw [hget b L hb] at hx; rw [hget b' L' hb'] at hx'; exact r.excl b L e af cs hb hx b' L' x hb' hx'
  · intro b L es hb hx b' L' x hb' hx'; rw [hget b L hb] at hx; rw [hget b' L' hb'] at hx'; exact r.exclm b L es hb hx b' L' x hb' hx'
  · intro b L e wf cs hb hx b' L' e' wf' af' cs' hb' hx'; rw [hget b L hb] at hx; rw [hget b' L' hb'] at hx'; exact r.app b L e wf cs hb hx b' L' e' wf' af' cs' hb' hx'

/-- two parts of a heap that lie apart -/
theorem Rel.join {ρ1 ρ2 : Ren} {B : Nat} {h h2 : Hp} {w w' : World} (r1 : Rel σ ρ1 B h w) (r2 : Rel σ ρ2 B h2 w') (hw : ∀ n, n < w.heap.size → w'.heap[n]? = w.heap[n]?) (hsz : w.heap.size ≤ w'.heap.size)
    (hs : h2.sz ≤ h.sz) (hf : h.fl = h2.fl) (hg : ∀ b, b < h2.sz → h.tr.get b = h2.tr.get b) (h1ρ : ∀ b L, ρ1 b = some L → ρ' b = some L) (h2ρ : ∀ b L, ρ2 b = some L → ρ' b = some L)
    (hor : ∀ b L, ρ' b = some L → ρ1 b = some L ∨ (ρ2 b = some L ∧ w.heap.size ≤ L.blk)) : Rel σ ρ' B h w' := by
  have r1' := r1.world hw hsz
  have r2' := r2.longer hs hf hg
  have old : ∀ b L x, ρ1 b = some L → h.tr.get b = some x → x ≠ .dead → L.blk < w.heap.size := fun b L x hb hx hd => r1.blk_lt b L hb x hx hd
  refine ⟨?_, ?_, ?_, ?_, ?_, ?_, ?_, r1'.base⟩
  · intro b L hb; rcases hor b L hb with hb | ⟨hb, _⟩
    · exact r1'.dom b L hb
    · exact r2'.dom b L hb
  · intro b L e wf af cs hb hx
    rcases hor b L hb with hb | ⟨hb, _⟩
    · obtain ⟨g1, c, ty, fz, g2, g3, g4, g5, g6⟩ := r1'.cells b L e wf af cs hb hx
      exact ⟨g1, c, ty, fz, g2, g3, g4, fun j v hv => let ⟨v', a, b⟩ := g5 j v hv; ⟨v', a, b.mono h1ρ⟩, g6⟩
    · obtain ⟨g1, c, ty, fz, g2, g3, g4, g5, g6⟩ := r2'.cells b L e wf af cs hb hx
      exact ⟨g1, c, ty, fz, g2, g3, g4, fun j v hv => let ⟨v', a, b⟩ := g5 j v hv; ⟨v', a, b.mono h2ρ⟩, g6⟩
  · intro b L es hb hx
    rcases hor b L hb with hb | ⟨hb, _⟩
    · obtain ⟨g1, ob, g2, g3⟩ := r1'.maps b L es hb hx
      exact ⟨g1, ob, g2, g3.mono h1ρ⟩
    · obtain ⟨g1, ob, g2, g3⟩ := r2'.maps b L es hb hx
      exact ⟨g1, ob, g2, g3.mono h2ρ⟩
  · intro b L e af cs hb hx b' L' x hb' hx' hd he
    rcases hor b L hb with hb | ⟨hb, hn⟩ <;> rcases hor b' L' hb' with hb' | ⟨hb', hn'⟩
    · exact r1'.excl b L e af cs hb hx b' L' x hb' hx' hd he
    · have := old b L _ hb hx (by simp); omega
    · have := old b' L' _ hb' hx' hd; omega
    · exact r2'.excl b L e af cs hb hx b' L' x hb' hx' hd he
  · intro b L es hb hx b' L' x hb' hx' hd he
    rcases hor b L hb with hb | ⟨hb, hn⟩ <;> rcases hor b' L' hb' with hb' | ⟨hb', hn'⟩
    · exact r1'.exclm b L es hb hx b' L' x hb' hx' hd he
    · have := old b L _ hb hx (by simp); omega
    · have := old b' L' _ hb' hx' hd; omega
    · exact r2'.exclm b L es hb hx b' L' x hb' hx' hd he
  · intro b L e wf cs hb hx b' L' e' wf' af' cs' hb' hx' he
    rcases hor b L hb with hb | ⟨hb, hn⟩ <;> rcases hor b' L' hb' with hb' | ⟨hb', hn'⟩
    · exact r1'.app b L e wf cs hb hx b' L' e' wf' af' cs' hb' hx' he
    · have := old b L _ hb hx (by simp); omega
    · have := old b' L' _ hb' hx' (by simp); omega
    · exact r2'.app b L e wf cs hb hx b' L' e' wf' af' cs' hb' hx' he
  · intro b L hb hh
    rcases hor b L hb with hb | ⟨hb, _⟩
    · exact r1'.flr b L hb hh
    · exact r2'.flr b L hb hh
end Go.Ab
