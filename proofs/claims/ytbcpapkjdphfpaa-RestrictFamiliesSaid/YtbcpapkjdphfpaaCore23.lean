/- Calls whose answers are known: each is run once, and the runs above use the answer. Condition: the runs are done in the abstract machine. -/
import Derived.Test.YtbcpapkjdphfpaaCore22
namespace Go.Ab
variable {σ : Nat → Value} {P : Program} {orc : Orc} {env : Tr IFn}

def isT (b : Bool) : Prop := Bool.rec (motive := fun _ => Prop) False True b
theorem isT_iff {b : Bool} (h : isT b) : b = true := by cases b; exact h.elim; rfl
/-- values without places are alike -/
noncomputable def eq1 (x y : AV) : Bool :=
  match x with
  | .b a => (match y with | .b c => cond a c (not c) | _ => false)
  | .i k n => (match y with | .i q m => kindEq k q && eqI n m | _ => false)
  | .s a => (match y with | .s c => eqS a c | _ => false)
  | .sym i => (match y with | .sym j => Nat.beq i j | _ => false)
  | .nils => (match y with | .nils => true | _ => false)
  | .nilp => (match y with | .nilp => true | _ => false)
  | .nili => (match y with | .nili => true | _ => false)
  | _ => false
noncomputable def eqL : List AV → List AV → Bool
  | [], [] => true
  | x :: xs, y :: ys => eq1 x y && eqL xs ys
  | _, _ => false
noncomputable def eqV (x y : AV) : Bool :=
  match x with
  | .tup a => (match y with | .tup c => eqL a c | _ => false)
  | .agg a => (match y with | .agg c => eqL a c | _ => false)
  | x => eq1 x y

/-- no places within -/
def Flat (x : AV) : Prop := ∀ (σ : Nat → Value) (ρ ρ' : Ren) v, VR σ ρ x v → VR σ ρ' x v
theorem eq1_ok {x y : AV} (h : eq1 x y = true) : x = y ∧ Flat x := by
  cases x <;> cases y <;> simp only [eq1] at h <;> try (cases h; done)
  case b.b a c => cases a <;> cases c <;> simp at h <;> exact ⟨rfl, fun σ ρ ρ' v hv => by cases hv; exact .b _⟩
  case i.i k n q m =>
    simp only [Bool.and_eq_true, kindEq, decide_eq_true_eq, eqI_eq, beq_iff_eq] at h
    obtain ⟨rfl, rfl⟩ := h
    exact ⟨rfl, fun σ ρ ρ' v hv => by cases hv; exact .i _ _⟩
  case s.s a c =>
    rw [eqS_eq] at h
    obtain rfl := eq_of_beq h
    exact ⟨rfl, fun σ ρ ρ' v hv => by cases hv; exact .s _⟩
  case sym.sym i j =>
    obtain rfl := Nat.eq_of_beq_eq_true h
    exact ⟨rfl, fun σ ρ ρ' v hv => by cases hv; exact .sym _⟩
  case nils.nils => exact ⟨rfl, fun σ ρ ρ' v hv => by cases hv; exact .nils⟩
  case nilp.nilp => exact ⟨rfl, fun σ ρ ρ' v hv => by cases hv; exact .nilp⟩
  case nili.nili => exact ⟨rfl, fun σ ρ ρ' v hv => by cases hv; exact .nili⟩
theorem eqL_ok : ∀ {x y : List AV}, eqL x y = true → x = y ∧ (∀ v ∈ x, Flat v) ∧ ∀ (σ : Nat → Value) (ρ ρ' : Ren) v, VRs σ ρ x v → VRs σ ρ' x v
  | [], [], _ => ⟨rfl, (by intro v hv; cases hv), fun σ ρ ρ' v hv => by cases hv; exact .nil⟩
  | x :: xs, y :: ys, h => by
    simp only [eqL, Bool.and_eq_true] at h
    obtain ⟨rfl, h1⟩ := eq1_ok h.1
    obtain ⟨rfl, h2, h3⟩ := eqL_ok h.2
    exact ⟨rfl, (by intro v hv; rcases List.mem_cons.1 hv with rfl | hv; exact h1; exact h2 v hv), fun σ ρ ρ' v hv => by
      cases hv with
      | cons _ _ v' vs' a b => exact .cons _ _ _ _ (h1 _ _ _ _ a) (h3 _ _ _ _ b)⟩
  | [], _ :: _, h => by cases h
  | _ :: _, [], h => by cases h
theorem eqV_ok {x y : AV} (h : eqV x y = true) : x = y ∧ Flat x := by
  cases x <;> try exact eq1_ok h
  case tup a =>
    cases y <;> try (cases h; done)
    obtain ⟨rfl, _, h1⟩ := eqL_ok h
    exact ⟨rfl, fun σ ρ ρ' v hv => by obtain ⟨vs, h2, rfl⟩ := hv.un_tup; exact .tup _ _ (h1 _ _ _ _ h2)⟩
  case agg a =>
    cases y <;> try (cases h; done)
    obtain ⟨rfl, _, h1⟩ := eqL_ok h
    exact ⟨rfl, fun σ ρ ρ' v hv => by obtain ⟨vs, h2, rfl⟩ := hv.un_agg; exact .agg _ _ (h1 _ _ _ _ h2)⟩

/-- what is known of one call -/
def Knows (P : Program) (σ : Nat → Value) (f : Nat) (vs : List AV) (r : Ans) : Prop :=
  (∃ fn, P.funcs[f]? = some fn ∧ fn.name ≠ "runtime.NumGoroutine" ∧ fn.body.isSome = true) ∧
    ∀ ρ (args : Array Value), VRs σ ρ vs args.toList → ∀ w, Calls P f args w fun e w' => ∃ v', e = .returned v' ∧ AnsOk σ w w' v' r ∧ Same0 w w'

theorem there (henv : EnvOk P env) {ih : Body} {f : Nat} {vs : List AV} {h : Hp} {k : AV → Hp → Prop} (hk : callK env ih f vs h k) : ∃ fn, P.funcs[f]? = some fn ∧ fn.name ≠ "runtime.NumGoroutine" ∧ fn.body.isSome = true := by
  have hk' : env.getK f (fun fn => IFn.rec (motive := fun _ => Prop) (fun res body => argsK vs 0 .leaf (fun t0 => ih body (fun e t h' =>
    exitK e (resK t h' res (fun vs => k (packR vs) h')) (fun _ => False) (resK t h' res (fun vs => k (packR vs) h'))) t0 h)) fn) := hk
  obtain ⟨i, hi, hk2⟩ := (Tr.getK_iff _ _ _).1 hk'
  have hchk := henv f i hi
  unfold chkFn at hchk
  split at hchk <;> try (cases hchk; done)
  rename_i fn hfn
  simp only [Bool.and_eq_true, bne_iff_ne] at hchk
  obtain ⟨⟨hname, hbody⟩, hres⟩ := hchk
  split at hbody <;> try (cases hbody; done)
  rename_i c hc
  exact ⟨fn, hfn, hname, by rw [hc]; rfl⟩

theorem Kept.same0 {ρ ρ' : Ren} {h h' : Hp} {w w' : World} (k : Kept ρ w.heap.size h w ρ' h' w') : Same0 w w' := ⟨k.pres, k.wle, k.io⟩

theorem fact_val (horc : OrcOk P σ orc) (henv : EnvOk P env) (n : Nat) {f : Nat} {vs : List AV} {r : AV} (hp : eqL vs vs = true) (hk : (callK env (awp orc env n) f vs hp0 (fun v _ => isT (eqV v r))) = True) : Knows P σ f vs (.val r) := by
  have hk := of_eq_true hk
  refine ⟨there henv hk, fun ρ args ha w => ?_⟩
  refine (call_sound horc henv n hk (Rel.start σ w) ((eqL_ok hp).2.2 _ _ _ _ ha)).mono fun e w' h => ?_
  obtain ⟨v, v', h', ρ', rfl, hy, hv, _, hkept⟩ := h
  obtain ⟨rfl, hf⟩ := eqV_ok (isT_iff hy)
  exact ⟨v', rfl, fun ρ2 => hf _ _ _ _ hv, hkept.same0⟩

noncomputable def rowIs (esz n : Nat) (want : List AV) (v : AV) (h : Hp) : Prop :=
  match v with
  | .sl b o len cap _ => whenK (Nat.beq len n && (Nat.ble 1 n && Nat.ble n cap)) (cellsK h b (fun e wf af cs => whenK (Nat.beq e esz && (wf || af)) (dropK o cs (fun c2 => lenK c2 (fun m => whenK (Nat.ble (Nat.mul cap esz) m && eqL c2 want) True)))))
  | _ => False

theorem fact_row (horc : OrcOk P σ orc) (henv : EnvOk P env) (m : Nat) {f : Nat} {vs : List AV} {esz n : Nat} {cs : List AV} (hp : eqL vs vs = true) (hk : (callK env (awp orc env m) f vs hp0 (rowIs esz n cs)) = True) : Knows P σ f vs (.row esz n cs) := by
  have hk := of_eq_true hk
  refine ⟨there henv hk, fun ρ args ha w => ?_⟩
  refine (call_sound horc henv m hk (Rel.start σ w) ((eqL_ok hp).2.2 _ _ _ _ ha)).mono fun e w' h => ?_
  obtain ⟨v, v', h', ρ', rfl, hy, hv, hr, hkept⟩ := h
  refine ⟨v', rfl, ?_, hkept.same0⟩
  unfold rowIs at hy
  split at hy
  · rename_i b o len cap loose
    obtain ⟨h1, hy⟩ := (whenK_iff _ _).1 hy
    obtain ⟨e, wf, af, cs0, hg, hy⟩ := (cellsK_iff _ _ _).1 hy
    obtain ⟨h2, hy⟩ := (whenK_iff _ _).1 hy
    obtain ⟨h3, hy⟩ := (dropK_iff _ _ _).1 hy
    rw [lenK_iff] at hy
    obtain ⟨h4, _⟩ := (whenK_iff _ _).1 hy
    simp only [Bool.and_eq_true, Bool.or_eq_true] at h1 h2 h4
    obtain ⟨h1a, h1b, h1c⟩ := h1
    obtain rfl := Nat.eq_of_beq_eq_true h1a
    have h1b := Nat.le_of_ble_eq_true h1b
    have h1c := Nat.le_of_ble_eq_true h1c
    obtain ⟨h2a, h2b⟩ := h2
    obtain rfl := Nat.eq_of_beq_eq_true h2a
    obtain ⟨h4a, h4b⟩ := h4
    have h4a : cap * e ≤ (cs0.drop o).length := Nat.le_of_ble_eq_true h4a
    obtain ⟨rfl, hfl, _⟩ := eqL_ok h4b
    cases hv with
    | slz => omega
    | sl _ _ _ _ c _ L hL hc =>
      obtain ⟨q1, c', ty, fz, q2, q3, q4, q5, q6⟩ := hr.cells b L e wf af cs0 hL hg
      have hlen : (cs0.drop o).length = cs0.length - o := List.length_drop
      have hB := hr.flr b L hL (by have := hkept.fl; simp [hp0] at this; omega)
      refine ⟨⟨L.blk, L.off + o, L.size, e⟩, c', ty, fz, c, rfl, hB, q2, q3, rfl, q6 (by simpa using h2b), ?_, ?_, ?_, ?_⟩
      · rcases hc with rfl | ⟨_, hc, _⟩ <;> omega
      · rcases hc with rfl | ⟨_, _, hc⟩
        · show L.off + o + c * e ≤ L.size; omega
        · rw [q1] at hc; exact hc
      · show L.off + o + (cs0.drop o).length ≤ L.size; omega
      · intro j v hj
        rw [List.getElem?_drop] at hj
        obtain ⟨v', q7, q8⟩ := q5 _ v hj
        refine ⟨v', by rw [Nat.add_assoc]; exact q7, fun ρ2 => hfl v (List.mem_of_getElem? (by rw [List.getElem?_drop]; exact hj) ) _ _ _ _ q8⟩
  · exact hy.elim

/-! ### tables -/
noncomputable def tabCall (tab : List (Nat × List AV × Ans)) (f : Nat) (vs : List AV) : Option Ans :=
  List.rec (motive := fun _ => Option Ans) none (fun e _ ih => cond (Nat.beq e.1 f) (cond (eqL e.2.1 vs) (some e.2.2) ih) ih) tab
theorem tabCall_ok {tab : List (Nat × List AV × Ans)} {f : Nat} {vs : List AV} {r : Ans} (h : tabCall tab f vs = some r) : (f, vs, r) ∈ tab := by
  induction tab with
  | nil => cases h
  | cons e tab ih =>
    have h' : cond (Nat.beq e.1 f) (cond (eqL e.2.1 vs) (some e.2.2) (tabCall tab f vs)) (tabCall tab f vs) = some r := h
    cases h1 : Nat.beq e.1 f with
    | false => rw [h1] at h'; exact List.mem_cons_of_mem _ (ih h')
    | true =>
      rw [h1] at h'
      cases h2 : eqL e.2.1 vs with
      | false => rw [h2] at h'; exact List.mem_cons_of_mem _ (ih h')
      | true =>
        rw [h2] at h'
        cases h'
        have e1 := Nat.eq_of_beq_eq_true h1
        have e2 := (eqL_ok h2).1
        obtain ⟨a, b, c⟩ := e
        simp only at e1 e2
        subst e1 e2
        exact List.mem_cons_self
noncomputable def Orc.calls (o : Orc) (tab : List (Nat × List AV × Ans)) : Orc := ⟨o.bin, o.len, o.cv, tabCall tab⟩
theorem OrcOk.calls (h : OrcOk P σ orc) {tab : List (Nat × List AV × Ans)} (ht : ∀ e ∈ tab, Knows P σ e.1 e.2.1 e.2.2) : OrcOk P σ (orc.calls tab) :=
  ⟨h.atoms, h.bin, h.len, h.cv, fun _ _ _ hr => ht _ (tabCall_ok hr), h.prim⟩

def opEq (a b : BinOp) : Bool := decide (a = b)
noncomputable def tabBin (tab : List (BinOp × AV × AV × AV)) (op : BinOp) (x y : AV) (d : Option AV) : Option AV :=
  List.rec (motive := fun _ => Option AV) d (fun e _ ih => cond (opEq e.1 op && (eq1 e.2.1 x && eq1 e.2.2.1 y)) (some e.2.2.2) ih) tab
noncomputable def Orc.bins (o : Orc) (tab : List (BinOp × AV × AV × AV)) : Orc := ⟨fun op x y => tabBin tab op x y (o.bin op x y), o.len, o.cv, o.call⟩
theorem OrcOk.bins (h : OrcOk P σ orc) {tab : List (BinOp × AV × AV × AV)}
    (ht : ∀ e ∈ tab, ∀ ρ x' y', VR σ ρ e.2.1 x' → VR σ ρ e.2.2.1 y' → ∃ r', VR σ ρ e.2.2.2 r' ∧ ∀ (P : Program) t w, (binOp e.1 t x' y').run P w = .ok r' w) : OrcOk P σ (orc.bins tab) := by
  refine ⟨h.atoms, ?_, h.len, h.cv, h.call, h.prim⟩
  intro op x y r hr
  have hr' : tabBin tab op x y (orc.bin op x y) = some r := hr
  clear hr
  induction tab with
  | nil => exact h.bin op x y r hr'
  | cons e tab ih =>
    have h' : cond (opEq e.1 op && (eq1 e.2.1 x && eq1 e.2.2.1 y)) (some e.2.2.2) (tabBin tab op x y (orc.bin op x y)) = some r := hr'
    cases h1 : (opEq e.1 op && (eq1 e.2.1 x && eq1 e.2.2.1 y)) with
    | false => rw [h1] at h'; exact ih (fun e he => ht e (List.mem_cons_of_mem _ he)) h'
    | true =>
      rw [h1] at h'
      cases h'
      simp only [Bool.and_eq_true, opEq, decide_eq_true_eq] at h1
      obtain ⟨rfl, h2, h3⟩ := h1
      obtain ⟨rfl, _⟩ := eq1_ok h2
      obtain ⟨rfl, _⟩ := eq1_ok h3
      exact ht e List.mem_cons_self

noncomputable def Orc.cvs (o : Orc) (tab : List (IntKind × Nat × AV)) : Orc :=
  ⟨o.bin, o.len, fun q j => List.rec (motive := fun _ => Option AV) (o.cv q j) (fun e _ ih => cond (kindEq e.1 q && Nat.beq e.2.1 j) (some e.2.2) ih) tab, o.call⟩
theorem OrcOk.cvs (h : OrcOk P σ orc) {tab : List (IntKind × Nat × AV)} (ht : ∀ e ∈ tab, ∃ k n, σ e.2.1 = .int k n ∧ ∀ ρ, VR σ ρ e.2.2 (.int e.1 (e.1.wrap n))) : OrcOk P σ (orc.cvs tab) := by
  refine ⟨h.atoms, h.bin, h.len, ?_, h.call, h.prim⟩
  intro q j r hr
  have hr' : (List.rec (motive := fun _ => Option AV) (orc.cv q j) (fun e _ ih => cond (kindEq e.1 q && Nat.beq e.2.1 j) (some e.2.2) ih) tab : Option AV) = some r := hr
  clear hr
  induction tab with
  | nil => exact h.cv q j r hr'
  | cons e tab ih =>
    have h' : cond (kindEq e.1 q && Nat.beq e.2.1 j) (some e.2.2) (List.rec (motive := fun _ => Option AV) (orc.cv q j) (fun e _ ih => cond (kindEq e.1 q && Nat.beq e.2.1 j) (some e.2.2) ih) tab : Option AV) = some r := hr'
    cases h1 : (kindEq e.1 q && Nat.beq e.2.1 j) with
    | false => rw [h1] at h'; exact ih (fun e he => ht e (List.mem_cons_of_mem _ he)) h'
    | true =>
      rw [h1] at h'
      cases h'
      simp only [Bool.and_eq_true, kindEq, decide_eq_true_eq] at h1
      obtain ⟨rfl, h2⟩ := h1
      obtain rfl := Nat.eq_of_beq_eq_true h2
      exact ht e List.mem_cons_self

/-- of each of a list, one behind the other -/
noncomputable def allK {α : Type} (l : List α) (F : α → Prop → Prop) : Prop := List.rec (motive := fun _ => Prop) True (fun x _ ih => F x ih) l
theorem allK_iff {α : Type} {l : List α} {F : α → Prop → Prop} {G : α → Prop} (hF : ∀ x q, F x q → G x ∧ q) (h : allK l F = True) : ∀ x ∈ l, G x := by
  have h := of_eq_true h
  induction l with
  | nil => intro x hx; cases hx
  | cons y l ih =>
    have h' : G y ∧ allK l F := hF _ _ h
    intro x hx
    rcases List.mem_cons.1 hx with rfl | hx
    · exact h'.1
    · exact ih (eq_true h'.2) h'.2 x hx
/-- a call answers 'r', and then 'q' -/
noncomputable def ansK (orc : Orc) (env : Tr IFn) (n f : Nat) (vs : List AV) (r : AV) (q : Prop) : Prop := callK env (awp orc env n) f vs hp0 (fun v _ => whenK (eqV v r) q)
theorem ansK_iff {n f : Nat} {vs : List AV} {r : AV} {q : Prop} (h : ansK orc env n f vs r q) : (callK env (awp orc env n) f vs hp0 (fun v _ => isT (eqV v r))) = True ∧ q := by
  obtain ⟨v, h', h1, h2⟩ := callK_l env (awp_l orc env n) f vs hp0 _ h
  obtain ⟨h3, h4⟩ := (whenK_iff _ _).1 h1
  exact ⟨eq_true (h2 _ (by rw [h3]; trivial)), h4⟩
theorem knows_ans (horc : OrcOk P σ orc) (henv : EnvOk P env) {n : Nat} {f : Nat} {vs : List AV} {r : AV} {q : Prop} (hp : eqL vs vs = true) (hk : ansK orc env n f vs r q) : Knows P σ f vs (.val r) ∧ q :=
  ⟨fact_val horc henv n hp (ansK_iff hk).1, (ansK_iff hk).2⟩
/-- a law's call answers 'true', and then 'q' -/
noncomputable def yesK (orc : Orc) (env : Tr IFn) (n f : Nat) (vs : List AV) (q : Prop) : Prop := ansK orc env n f vs (.b true) q
theorem yesK_run (horc : OrcOk P σ orc) (henv : EnvOk P env) {n f : Nat} {vs : List AV} {q : Prop} (hk : yesK orc env n f vs q) :
    (∀ {args : Array Value} (_ : VRs σ (fun _ => none) vs args.toList) (w : World), Calls P f args w fun e w' => e = .returned (.bool true) ∧ ∀ may, w.keptBut w' may) ∧ q := by
  obtain ⟨h1, h2⟩ := ansK_iff hk
  refine ⟨fun ha w => ?_, h2⟩
  refine (call_sound horc henv n (of_eq_true h1) (Rel.start σ w) ha).mono fun e w' h => ?_
  obtain ⟨v, v', h', ρ', rfl, hy, hv, _, hkept⟩ := h
  obtain ⟨rfl, hf⟩ := eqV_ok (isT_iff hy)
  cases hv
  exact ⟨rfl, fun may => hkept.same may⟩

theorem law_runT (horc : OrcOk P σ orc) (henv : EnvOk P env) {n f : Nat} {vs : List AV} {args : Array Value} (hk : (callK env (awp orc env n) f vs hp0 (fun v _ => yes v)) = True)
    (ha : ∀ ρ, VRs σ ρ vs args.toList) (w : World) : Calls P f args w fun e w' => e = .returned (.bool true) ∧ ∀ may, w.keptBut w' may :=
  law_run horc henv n (of_eq_true hk) ha w
end Go.Ab
