/- Part 5 of the abstract machine and of the functions' walks. Conditions: with each theorem. -/
import Derived.Test.YtdmjpfekglajoaaK4
import Derived.Laws.Externs
import Derived.Lib.Overlaps
import GoSem.ClaimChange
set_option linter.unusedSimpArgs false
set_option linter.unusedVariables false
set_option linter.unnecessarySimpa false
set_option linter.defProp false
section
/- The machine with fuel, which the kernel runs on known data. No condition. -/
namespace Go.Kc
variable {P : Program}

abbrev Body := ICode → (X → Tr AV → Hp → Prop) → Tr AV → Hp → Prop
noncomputable def callE0 (env : Tr IFn) (ih : Body) (f : Nat) (args : List AV) (h : Hp) (k : AV → Hp → Prop) : Prop :=
  env.getK f (fun fn => IFn.rec (motive := fun _ => Prop) (fun res body => argsK args 0 .leaf (fun t0 => ih body (fun e t h' =>
    X.rec (motive := fun _ => Prop) (resK t h' res (fun vs => k (packR vs) h')) (fun _ => False) (resK t h' res (fun vs => k (packR vs) h')) e) t0 h)) fn)
/-- what is known of calls: whatever the heap, they answer this -/
abbrev Hook := Nat → List AV → Option AV
def Hook.none : Hook := fun _ _ => Option.none
def HookOk (P : Program) (ho : Hook) : Prop := ∀ f vs v, ho f vs = some v → Pure P f vs v
theorem HookOk.none : HookOk P Hook.none := fun _ _ _ h => by cases h
noncomputable def callE (env : Tr IFn) (ho : Hook) (ih : Body) (f : Nat) (args : List AV) (h : Hp) (k : AV → Hp → Prop) : Prop :=
  Option.rec (motive := fun _ => Prop) (callE0 env ih f args h k) (fun v => k v h) (ho f args)
noncomputable def fv (env : Tr IFn) (ho : Hook) (n : Nat) : Body :=
  Nat.rec (motive := fun _ => Body) (fun _ _ _ _ => False) (fun _ ih c Q t h => match c with
    | .skip => Q .normal t h
    | .reg draw ops => regK orc0 draw (callE env ho ih) ops (fun t h => Q .normal t h) t h
    | .seq x y => ih x (fun e t h => X.rec (motive := fun _ => Prop) (ih y Q t h) (fun id => Q (.exit id) t h) (Q .ret t h) e) t h
    | .cond c x y => evK t c (fun v => unB v (fun b => Bool.rec (motive := fun _ => Prop) (ih y Q t h) (ih x Q t h) b))
    | .blk id x => ih x (fun e t h => X.rec (motive := fun _ => Prop) (Q .normal t h) (fun id' => Bool.rec (motive := fun _ => Prop) (Q (.exit id') t h) (Q .normal t h) (Nat.beq id' id)) (Q .ret t h) e) t h
    | .loop x => ih x (fun e t h => X.rec (motive := fun _ => Prop) (ih (.loop x) Q t h) (fun id => Q (.exit id) t h) (Q .ret t h) e) t h
    | .exit id => Q (.exit id) t h
    | .ret => Q .ret t h
    | .no => False
    | .cut x => ih x Q t h) n
def LB (ih : Body) : Prop := ∀ c Q t h, ih c Q t h → ∃ e t' h', Q e t' h' ∧ ∀ Q', Q' e t' h' → ih c Q' t h
theorem callE0_l (env : Tr IFn) {ih : Body} (hi : LB ih) : LC (callE0 env ih) := by
  intro f vs h k hk
  obtain ⟨fn, g1, g2⟩ := (Tr.getK_iff _ _ _).1 hk
  cases fn with
  | mk res body =>
    obtain ⟨t0, g3, g4⟩ := argsK_l vs 0 .leaf _ g2
    obtain ⟨e, t', h', h1, h2⟩ := hi _ _ _ _ g3
    have back : ∀ k', (X.rec (motive := fun _ => Prop) (resK t' h' res (fun vs => k' (packR vs) h')) (fun _ => False) (resK t' h' res (fun vs => k' (packR vs) h')) e : Prop) → callE0 env ih f vs h k' := fun k' hk' =>
      (Tr.getK_iff _ _ _).2 ⟨⟨res, body⟩, g1, g4 (fun t0 => ih body (fun e t h' => X.rec (motive := fun _ => Prop) (resK t h' res (fun vs => k' (packR vs) h')) (fun _ => False) (resK t h' res (fun vs => k' (packR vs) h')) e) t0 h) (h2 (fun e t h' => X.rec (motive := fun _ => Prop) (resK t h' res (fun vs => k' (packR vs) h')) (fun _ => False) (resK t h' res (fun vs => k' (packR vs) h')) e) hk')⟩
    cases e with
    | exit id => exact h1.elim
    | normal =>
      obtain ⟨vs, h3, h4⟩ := resK_l t' h' res _ h1
      exact ⟨_, _, h3, fun k' hk' => back k' (h4 (fun vs => k' (packR vs) h') hk')⟩
    | ret =>
      obtain ⟨vs, h3, h4⟩ := resK_l t' h' res _ h1
      exact ⟨_, _, h3, fun k' hk' => back k' (h4 (fun vs => k' (packR vs) h') hk')⟩
theorem callE_l (env : Tr IFn) (ho : Hook) {ih : Body} (hi : LB ih) : LC (callE env ho ih) := by
  intro f vs h k hk
  unfold callE at hk
  cases hv : ho f vs with
  | none =>
    rw [hv] at hk
    obtain ⟨v, h', h1, h2⟩ := callE0_l env hi f vs h k hk
    exact ⟨v, h', h1, fun k' hk' => by unfold callE; rw [hv]; exact h2 k' hk'⟩
  | some v =>
    rw [hv] at hk
    exact ⟨v, h, hk, fun k' hk' => by unfold callE; rw [hv]; exact hk'⟩
theorem fv_l (env : Tr IFn) (ho : Hook) : ∀ n, LB (fv env ho n)
  | 0 => fun _ _ _ _ h => h.elim
  | n + 1 => fun c Q t h hk => by
    have ih := fv_l env ho n
    cases c with
    | no => exact hk.elim
    | cut x => exact ih _ _ _ _ hk
    | skip => exact ⟨_, _, _, hk, fun _ h => h⟩
    | exit id => exact ⟨_, _, _, hk, fun _ h => h⟩
    | ret => exact ⟨_, _, _, hk, fun _ h => h⟩
    | reg draw ops =>
      obtain ⟨t', h', h1, h2⟩ := regK_l orc0 draw (callE_l env ho ih) ops t h _ hk
      exact ⟨_, _, _, h1, fun Q' hQ => h2 (fun t h => Q' .normal t h) hQ⟩
    | seq x y =>
      obtain ⟨e, t1, h1, g1, g2⟩ := ih _ _ _ _ hk
      cases e with
      | normal =>
        obtain ⟨e2, t2, h2, g3, g4⟩ := ih _ _ _ _ g1
        exact ⟨e2, t2, h2, g3, fun Q' hQ => g2 (fun e t h => X.rec (motive := fun _ => Prop) (fv env ho n y Q' t h) (fun id => Q' (.exit id) t h) (Q' .ret t h) e) (g4 _ hQ)⟩
      | exit id => exact ⟨_, t1, h1, g1, fun Q' hQ => g2 (fun e t h => X.rec (motive := fun _ => Prop) (fv env ho n y Q' t h) (fun id => Q' (.exit id) t h) (Q' .ret t h) e) hQ⟩
      | ret => exact ⟨_, t1, h1, g1, fun Q' hQ => g2 (fun e t h => X.rec (motive := fun _ => Prop) (fv env ho n y Q' t h) (fun id => Q' (.exit id) t h) (Q' .ret t h) e) hQ⟩
    | cond c x y =>
      obtain ⟨v, g1, g2⟩ := evK_l t c _ hk
      obtain ⟨b, g3, g4⟩ := unB_l v _ g1
      cases b with
      | true =>
        obtain ⟨e, t1, h1, g5, g6⟩ := ih _ _ _ _ g3
        exact ⟨e, t1, h1, g5, fun Q' hQ => g2 (fun v => unB v (fun b => Bool.rec (motive := fun _ => Prop) (fv env ho n y Q' t h) (fv env ho n x Q' t h) b)) (g4 (fun b => Bool.rec (motive := fun _ => Prop) (fv env ho n y Q' t h) (fv env ho n x Q' t h) b) (g6 _ hQ))⟩
      | false =>
        obtain ⟨e, t1, h1, g5, g6⟩ := ih _ _ _ _ g3
        exact ⟨e, t1, h1, g5, fun Q' hQ => g2 (fun v => unB v (fun b => Bool.rec (motive := fun _ => Prop) (fv env ho n y Q' t h) (fv env ho n x Q' t h) b)) (g4 (fun b => Bool.rec (motive := fun _ => Prop) (fv env ho n y Q' t h) (fv env ho n x Q' t h) b) (g6 _ hQ))⟩
    | blk id x =>
      obtain ⟨e, t1, h1, g1, g2⟩ := ih _ _ _ _ hk
      cases e with
      | normal => exact ⟨_, t1, h1, g1, fun Q' hQ => g2 (fun e t h => X.rec (motive := fun _ => Prop) (Q' .normal t h) (fun id' => Bool.rec (motive := fun _ => Prop) (Q' (.exit id') t h) (Q' .normal t h) (Nat.beq id' id)) (Q' .ret t h) e) hQ⟩
      | ret => exact ⟨_, t1, h1, g1, fun Q' hQ => g2 (fun e t h => X.rec (motive := fun _ => Prop) (Q' .normal t h) (fun id' => Bool.rec (motive := fun _ => Prop) (Q' (.exit id') t h) (Q' .normal t h) (Nat.beq id' id)) (Q' .ret t h) e) hQ⟩
      | exit id' =>
        have g1' : (Bool.rec (motive := fun _ => Prop) (Q (.exit id') t1 h1) (Q .normal t1 h1) (Nat.beq id' id) : Prop) := g1
        cases hb : Nat.beq id' id with
        | true =>
          rw [hb] at g1'
          refine ⟨_, t1, h1, g1', fun Q' hQ => g2 (fun e t h => X.rec (motive := fun _ => Prop) (Q' .normal t h) (fun id' => Bool.rec (motive := fun _ => Prop) (Q' (.exit id') t h) (Q' .normal t h) (Nat.beq id' id)) (Q' .ret t h) e) ?_⟩
          show (Bool.rec (motive := fun _ => Prop) (Q' (.exit id') t1 h1) (Q' .normal t1 h1) (Nat.beq id' id) : Prop)
          rw [hb]; exact hQ
        | false =>
          rw [hb] at g1'
          refine ⟨_, t1, h1, g1', fun Q' hQ => g2 (fun e t h => X.rec (motive := fun _ => Prop) (Q' .normal t h) (fun id' => Bool.rec (motive := fun _ => Prop) (Q' (.exit id') t h) (Q' .normal t h) (Nat.beq id' id)) (Q' .ret t h) e) ?_⟩
          show (Bool.rec (motive := fun _ => Prop) (Q' (.exit id') t1 h1) (Q' .normal t1 h1) (Nat.beq id' id) : Prop)
          rw [hb]; exact hQ
    | loop x =>
      obtain ⟨e, t1, h1, g1, g2⟩ := ih _ _ _ _ hk
      cases e with
      | normal =>
        obtain ⟨e2, t2, h2, g3, g4⟩ := ih _ _ _ _ g1
        exact ⟨e2, t2, h2, g3, fun Q' hQ => g2 (fun e t h => X.rec (motive := fun _ => Prop) (fv env ho n (.loop x) Q' t h) (fun id => Q' (.exit id) t h) (Q' .ret t h) e) (g4 _ hQ)⟩
      | exit id => exact ⟨_, t1, h1, g1, fun Q' hQ => g2 (fun e t h => X.rec (motive := fun _ => Prop) (fv env ho n (.loop x) Q' t h) (fun id => Q' (.exit id) t h) (Q' .ret t h) e) hQ⟩
      | ret => exact ⟨_, t1, h1, g1, fun Q' hQ => g2 (fun e t h => X.rec (motive := fun _ => Prop) (fv env ho n (.loop x) Q' t h) (fun id => Q' (.exit id) t h) (Q' .ret t h) e) hQ⟩

/-! ### soundness -/
theorem S.mono {n : Nat} {c : ICode} {Q Q' : X → Tr AV → Hp → Prop} {t : Tr AV} {h : Hp} (hs : S P n c Q t h) (hq : ∀ e t h, Q e t h → Q' e t h) : S P n c Q' t h := by
  intro nt code hc hn ro ρ B w a ht hsz r
  refine wpIn_mono (hs nt code hc hn ro ρ B w a ht hsz r) ?_
  rintro e a1 w1 ⟨x1, t1, h1, ρ1, hx, hq1, rest⟩
  exact ⟨x1, t1, h1, ρ1, hx, hq _ _ _ hq1, rest⟩
/-- the code holds, where the executed form of it does with what follows it as it is -/
theorem S.reg {n : Nat} {d : Bool} {rs : List ROp} {C : CallsB} (hl : LC C) (hC : SoundC P σ0 C) {Q : X → Tr AV → Hp → Prop} {t : Tr AV} {h : Hp} (hv : regK orc0 d C rs (fun t h => Q .normal t h) t h) : S P n (.reg d rs) Q t h := by
  intro nt code hc hn ro ρ B w a ht hsz r
  cases code <;> first | (simp [chkCode] at hc; done) | skip
  rename_i id ops d'
  simp only [chkCode, Bool.and_eq_true] at hc
  obtain ⟨⟨h1, h2⟩, h3⟩ := hc
  obtain rfl := eq_of_beq h1
  cases d' with
  | false =>
    refine wpIn_region ?_
    have := reg_ok (ops := ops) (nt := nt) (ro := ro) (K := Post σ0 Q nt n ρ B h w a.defers) (ρ0 := ρ) (h0 := h) (w0 := w) (ds := a.defers) (orc0_ok P) hC (fun a' w' t' h' ρ' g1 g2 g3 g4 g5 g6 => ⟨_, t', h', ρ', .normal, g1, g2, g3, g4, g5, g6.kep hn⟩)
      ops.toList rs 0 h2 rfl t h ρ w a hv ht hsz rfl r (Kept.refl _ _ _ _)
    rw [List.range_eq_range']
    simpa using this
  | true =>
    simp only [Bool.not_true, Bool.false_or, Bool.and_eq_true] at h3
    exact draw_ok (orc0_ok P) hl hC h2 h3.1 h3.2 hv ht hsz r (fun a' w' t' h' ρ' g1 g2 g3 g4 g5 g6 => ⟨_, t', h', ρ', .normal, g1, g2, g3, g4, g5, g6.kep hn⟩)
theorem S.seq {n : Nat} {x y : ICode} {Q : X → Tr AV → Hp → Prop} {t : Tr AV} {h : Hp} (hv : S P n x (fun e t h => onX e (S P n y Q t h) (fun id => Q (.exit id) t h) (Q .ret t h)) t h) : S P n (.seq x y) Q t h := by
  intro nt code hc hn ro ρ B w a ht hsz r
  cases code <;> first | (simp [chkCode] at hc; done) | skip
  rename_i cx cy
  simp only [chkCode, Bool.and_eq_true] at hc
  refine wpIn_seq (wpIn_mono (hv nt cx hc.1 hn ro ρ B w a ht hsz r) ?_)
  rintro e a1 w1 ⟨x1, t1, h1, ρ1, hx, hq, ht1, hs1, hd1, r1, k1⟩
  cases hx with
  | normal => exact wpIn_mono (hq nt cy hc.2 k1.szle ro ρ1 B w1 a1 ht1 hs1 r1) (fun e a2 w2 hp => by rw [hd1] at hp; exact Post.weaken k1 hp)
  | exit id => exact ⟨_, t1, h1, ρ1, .exit id, hq, ht1, hs1, hd1, r1, k1⟩
  | ret => exact ⟨_, t1, h1, ρ1, .ret, hq, ht1, hs1, hd1, r1, k1⟩
theorem S.cond {n : Nat} {c : O} {x y : ICode} {Q : X → Tr AV → Hp → Prop} {t : Tr AV} {h : Hp} (hv : evK t c (fun v => unB v (fun b => if b = true then S P n x Q t h else S P n y Q t h))) : S P n (.cond c x y) Q t h := by
  intro nt code hc hn ro ρ B w a ht hsz r
  cases code <;> first | (simp [chkCode] at hc; done) | skip
  rename_i cc cx cy
  simp only [chkCode, Bool.and_eq_true] at hc
  obtain ⟨⟨h1, h2⟩, h3⟩ := hc
  obtain ⟨v, h4, h5⟩ := ev_ok ht h1 hv
  obtain ⟨b, h6, h7⟩ := unB_ok h5 h4
  cases b with
  | true => exact wpIn_cond_true h6 (h7 nt cx h2 hn ro ρ B w a ht hsz r)
  | false => exact wpIn_cond_false h6 (h7 nt cy h3 hn ro ρ B w a ht hsz r)
theorem S.blk {n id : Nat} {x : ICode} {Q : X → Tr AV → Hp → Prop} {t : Tr AV} {h : Hp} (hv : S P n x (fun e t h => onX e (Q .normal t h) (fun i => if i = id then Q .normal t h else Q (.exit i) t h) (Q .ret t h)) t h) : S P n (.blk id x) Q t h := by
  intro nt code hc hn ro ρ B w a ht hsz r
  cases code <;> first | (simp [chkCode] at hc; done) | skip
  rename_i id' cx
  simp only [chkCode, Bool.and_eq_true] at hc
  obtain rfl := eq_of_beq hc.1
  refine wpIn_block (wpIn_mono (hv nt cx hc.2 hn ro ρ B w a ht hsz r) ?_)
  rintro e a1 w1 ⟨x1, t1, h1, ρ1, hx, hq, ht1, hs1, hd1, r1, k1⟩
  cases hx with
  | normal => exact ⟨_, t1, h1, ρ1, .normal, hq, ht1, hs1, hd1, r1, k1⟩
  | ret => exact ⟨_, t1, h1, ρ1, .ret, hq, ht1, hs1, hd1, r1, k1⟩
  | exit id2 =>
    show (if id2 = id' then _ else _)
    have hq' : (if id2 = id' then Q .normal t1 h1 else Q (.exit id2) t1 h1) := hq
    by_cases he : id2 = id'
    · rw [if_pos he] at hq' ⊢
      exact ⟨_, t1, h1, ρ1, .normal, hq', ht1, hs1, hd1, r1, k1⟩
    · rw [if_neg he] at hq' ⊢
      exact ⟨_, t1, h1, ρ1, .exit id2, hq', ht1, hs1, hd1, r1, k1⟩
theorem S.loop {n : Nat} {x : ICode} {Q : X → Tr AV → Hp → Prop} {t : Tr AV} {h : Hp} (hv : SL P n x Q t h) : S P n (.loop x) Q t h := by
  intro nt code hc hn ro ρ B w a ht hsz r
  cases code <;> first | (simp [chkCode] at hc; done) | skip
  rename_i cx
  exact loopIn_wp (hv nt cx (by simpa [chkCode] using hc) hn ro ρ B w a ht hsz r)
theorem SL.of_S {n : Nat} {x : ICode} {Q : X → Tr AV → Hp → Prop} {t : Tr AV} {h : Hp} (hv : S P n x (fun e t h => onX e (SL P n x Q t h) (fun id => Q (.exit id) t h) (Q .ret t h)) t h) : SL P n x Q t h := by
  intro nt cx hc hn ro ρ B w a ht hsz r
  refine loopIn_step (wpIn_mono (hv nt cx hc hn ro ρ B w a ht hsz r) ?_)
  rintro e a1 w1 ⟨x1, t1, h1, ρ1, hx, hq, ht1, hs1, hd1, r1, k1⟩
  cases hx with
  | normal => exact LoopIn.mono (hq nt cx hc k1.szle ro ρ1 B w1 a1 ht1 hs1 r1) (fun e a2 w2 hp => by rw [hd1] at hp; exact Post.weaken k1 hp)
  | exit id => exact ⟨_, t1, h1, ρ1, .exit id, hq, ht1, hs1, hd1, r1, k1⟩
  | ret => exact ⟨_, t1, h1, ρ1, .ret, hq, ht1, hs1, hd1, r1, k1⟩
/-- each function in the tree is the program's -/
def EnvOk (P : Program) (env : Tr IFn) : Prop := ∀ f i, env.get f = some i → chkFn P f i = true
theorem argsK_iff : ∀ {l : List AV} {n : Nat} {t : Tr AV} {k : Tr AV → Prop}, argsK l n t k ↔ k (argsT l n t)
  | [], _, _, _ => Iff.rfl
  | v :: l, n, t, k => by
    show t.setK n v (fun t' => forceN (Nat.succ n) (fun n' => argsK l n' t' k)) ↔ _
    rw [Tr.setK_iff, forceN_eq, argsK_iff]
    exact Iff.rfl
theorem callE0_sound {env : Tr IFn} (he : EnvOk P env) {ih : Body} (hi : ∀ c Q t h, ih c Q t h → ∀ n, S P n c Q t h) {f : Nat} {vs : List AV} {h : Hp} {k : AV → Hp → Prop} (hk : callE0 env ih f vs h k) : SC P f vs h k := by
  obtain ⟨fn, g1, g2⟩ := (Tr.getK_iff _ _ _).1 hk
  cases fn with
  | mk res body =>
    have g3 := argsK_iff.1 g2
    exact SC.mk (he f _ g1) (hi _ _ _ _ g3 h.sz)
theorem callE_sound {env : Tr IFn} {ho : Hook} (he : EnvOk P env) (hh : HookOk P ho) {ih : Body} (hi : ∀ c Q t h, ih c Q t h → ∀ n, S P n c Q t h) {f : Nat} {vs : List AV} {h : Hp} {k : AV → Hp → Prop} (hk : callE env ho ih f vs h k) : SC P f vs h k := by
  unfold callE at hk
  cases hv : ho f vs with
  | none => rw [hv] at hk; exact callE0_sound he hi hk
  | some v => rw [hv] at hk; exact hh f vs v hv h k hk
theorem fv_sound {env : Tr IFn} {ho : Hook} (he : EnvOk P env) (hh : HookOk P ho) : ∀ m, (∀ c Q t h, fv env ho m c Q t h → ∀ n, S P n c Q t h) ∧ (∀ x Q t h, fv env ho m (.loop x) Q t h → ∀ n, SL P n x Q t h)
  | 0 => ⟨fun _ _ _ _ h => h.elim, fun _ _ _ _ h => h.elim⟩
  | m + 1 => by
    obtain ⟨ih, ihl⟩ := fv_sound he hh m
    have loop : ∀ x Q t h, fv env ho (m + 1) (.loop x) Q t h → ∀ n, SL P n x Q t h := by
      intro x Q t h hv n
      have hv' : fv env ho m x (fun e t h => onX e (fv env ho m (.loop x) Q t h) (fun id => Q (.exit id) t h) (Q .ret t h)) t h := hv
      refine SL.of_S ((ih _ _ _ _ hv' n).mono ?_)
      intro e t h hq
      cases e with
      | normal => exact ihl x Q t h hq n
      | exit id => exact hq
      | ret => exact hq
    refine ⟨fun c Q t h hv n => ?_, loop⟩
    cases c with
    | no => exact hv.elim
    | cut x => exact V_sound (c := .cut x) (ih _ _ _ _ hv n)
    | skip => exact V_sound (c := .skip) hv
    | exit id => exact V_sound (c := .exit id) hv
    | ret => exact V_sound (c := .ret) hv
    | reg d ops => exact S.reg (callE_l env ho (fv_l env ho m)) (fun f vs h k hk => callE_sound he hh ih hk) hv
    | seq x y =>
      have hv' : fv env ho m x (fun e t h => onX e (fv env ho m y Q t h) (fun id => Q (.exit id) t h) (Q .ret t h)) t h := hv
      refine S.seq ((ih _ _ _ _ hv' n).mono ?_)
      intro e t h hq
      cases e with
      | normal => exact ih y Q t h hq n
      | exit id => exact hq
      | ret => exact hq
    | cond c x y =>
      obtain ⟨v, g1, g2⟩ := evK_l t c _ hv
      refine S.cond (g2 _ ?_)
      obtain ⟨b, g3, g4⟩ := unB_l v _ g1
      refine g4 _ ?_
      cases b with
      | true => exact ih _ _ _ _ g3 n
      | false => exact ih _ _ _ _ g3 n
    | blk id x =>
      have hv' : fv env ho m x (fun e t h => X.rec (motive := fun _ => Prop) (Q .normal t h) (fun id' => Bool.rec (motive := fun _ => Prop) (Q (.exit id') t h) (Q .normal t h) (Nat.beq id' id)) (Q .ret t h) e) t h := hv
      refine S.blk ((ih _ _ _ _ hv' n).mono ?_)
      intro e t h hq
      cases e with
      | normal => exact hq
      | ret => exact hq
      | exit i =>
        have hq' : (Bool.rec (motive := fun _ => Prop) (Q (.exit i) t h) (Q .normal t h) (Nat.beq i id) : Prop) := hq
        show (if i = id then _ else _)
        by_cases hi : i = id
        · subst hi; rw [Nat.beq_refl] at hq'; rw [if_pos rfl]; exact hq'
        · rw [if_neg hi]
          cases hb : Nat.beq i id with
          | true => exact absurd (Nat.eq_of_beq_eq_true hb) hi
          | false => rw [hb] at hq'; exact hq'
    | loop x => exact S.loop (loop x Q t h hv n)
/-- a call that the kernel runs -/
theorem SC.run {env : Tr IFn} {ho : Hook} (he : EnvOk P env) (hh : HookOk P ho) (m : Nat) {f : Nat} {vs : List AV} {h : Hp} {k : AV → Hp → Prop} (hk : callE env ho (fv env ho m) f vs h k) : SC P f vs h k := callE_sound he hh (fv_sound he hh m).1 hk
theorem Pure.run {env : Tr IFn} {ho : Hook} (he : EnvOk P env) (hh : HookOk P ho) (m : Nat) {f : Nat} {vs : List AV} {v : AV} (hcl : clos vs = true) (hk : callE env ho (fv env ho m) f vs H0 (fun v' h' => Frz h' v' v)) : Pure P f vs v := Pure.of_SC hcl (SC.run he hh m hk)
end Go.Kc
end
section
/- Ranges over strings; maps in states written out. No condition. -/
namespace Go.Kc
variable {P : Program} {t : Tr AV} {h : Hp} {k : AV → Hp → Prop}

/-- the rune at a place, and how many bytes it has -/
def runeAt (l : List UInt8) (i : Nat) : Nat × Nat := Utf8.decode ⟨l.toArray⟩ i
theorem rune_w (l : List UInt8) (i : Nat) : 1 ≤ (runeAt l i).2 := by
  unfold runeAt Utf8.decode
  dsimp only
  repeat' split
  all_goals simp
theorem op_rangeS {x : O} : opK orc0 (.rangeS x) t h k ↔ evK t x (fun x => match x with | .s a => newK h (.map (iterE a 0)) (fun b h' => k (.ptr b 0) h') | _ => False) := Iff.rfl
def itAt (x : Blk) (k : List UInt8 → Nat → Prop) : Prop := ∃ a n, x = .map (iterE a n) ∧ k a n
@[congr] theorem itAt_congr {x x' : Blk} {k : List UInt8 → Nat → Prop} {mk : Prop} (_ : Mark = mk) (h : x = x') : itAt x k = itAt x' k := by rw [h]
theorem iterE_inj {a a' : List UInt8} {n n' : Nat} (e : iterE a n = iterE a' n') : a = a' ∧ n = n' := by
  simp only [iterE, List.cons.injEq, Prod.mk.injEq, AV.s.injEq, AV.i.injEq, true_and, and_true] at e
  exact ⟨e.1, Int.ofNat.inj e.2⟩
theorem itAt_it {a : List UInt8} {n : Nat} {k : List UInt8 → Nat → Prop} : itAt (.map (iterE a n)) k ↔ k a n := by
  constructor
  · rintro ⟨a', n', h1, h2⟩
    obtain ⟨rfl, rfl⟩ := iterE_inj (Blk.map.inj h1)
    exact h2
  · intro h1; exact ⟨a, n, rfl, h1⟩
theorem op_nextS {x : O} : opK orc0 (.nextS x) t h k ↔ evK t x (fun x => unP x (fun b o => ifK (o = 0) (evB (h.tr.get b) (fun y => itAt y (fun a n => if n < a.length then evN (n + (runeAt a n).2) (fun m => putK h b (.map (iterE a m)) (fun h' => evA (.i .i32 ((runeAt a n).1 : Int)) (fun c => k (.tup [.b true, .i .i64 (n : Int), c]) h'))) else k (.tup [.b false]) h))))) := by
  show evK t x (fun x => unP x (fun b o => whenK (Nat.beq o 0) (iterK h b _))) ↔ _
  refine iff_of_eq (congrArg _ (funext fun v => congrArg _ (funext fun b => funext fun o => ?_)))
  rw [show (whenK (Nat.beq o 0) = fun p => ifK (o = 0) p) from by funext p; exact propext ((whenK_iff _ _).trans (by rw [beq_iff]; exact Iff.rfl))]
  refine congrArg _ (propext (iterK_iff.trans ?_))
  have body : ∀ a n, (match a[n]? with
    | some c => (Bool.rec (motive := fun _ => Prop)
        (putK h b (.map (iterE a (Nat.add n (Utf8.decode ⟨a.toArray⟩ n).2))) (fun h' => k (.tup [.b true, .i .i64 (Int.ofNat n), .i .i32 (Int.ofNat (Utf8.decode ⟨a.toArray⟩ n).1)]) h'))
        (forceN (Nat.succ n) (fun m => putK h b (.map (iterE a m)) (fun h' => k (.tup [.b true, .i .i64 (Int.ofNat n), .i .i32 (Int.ofNat c.toNat)]) h')))
        (Nat.ble (Nat.succ c.toNat) 128) : Prop)
    | none => k (.tup [.b false]) h) ↔ if n < a.length then evN (n + (runeAt a n).2) (fun m => putK h b (.map (iterE a m)) (fun h' => evA (.i .i32 ((runeAt a n).1 : Int)) (fun c => k (.tup [.b true, .i .i64 (n : Int), c]) h'))) else k (.tup [.b false]) h := by
    intro a n
    by_cases hi : n < a.length
    · rw [if_pos hi, List.getElem?_eq_getElem hi]
      dsimp only
      cases hc : Nat.ble (Nat.succ a[n].toNat) 128 with
      | false => exact Iff.rfl
      | true =>
        have hlt := Nat.le_of_ble_eq_true hc
        have hd : runeAt a n = (a[n].toNat, 1) := decode_ascii (List.getElem?_eq_getElem hi) (by omega)
        show forceN _ _ ↔ _
        rw [forceN_eq, hd]
        exact Iff.rfl
    · rw [if_neg hi, List.getElem?_eq_none (by omega)]
  constructor
  · rintro ⟨a, n, h1, h2⟩
    exact ⟨_, h1, a, n, rfl, (body a n).1 h2⟩
  · rintro ⟨_, h1, a, n, rfl, h2⟩
    exact ⟨a, n, h1, (body a n).2 h2⟩
/-- entries that name no block -/
def mapClo (es : List (AV × AV)) : Prop := ∀ e ∈ es, clo e.1 = true ∧ clo e.2 = true
theorem bw_map {r : Nat → Nat} {m b : Nat} {es : List (AV × AV)} (hb : b < h.sz) : BW h r m b (.map es) ↔ evB (h.tr.get b) (fun x => mapAt x (fun es' => es' = es ∧ mapClo es)) := by
  constructor
  · rintro (h1 | h1 | ⟨e', w0, a0, cs, w', a', cs'', h1, h2, h3, h4, h5⟩ | ⟨es', h1, h2, h3⟩)
    · omega
    · cases h1
    · cases h2
    · cases h2
      exact ⟨_, h1, rfl, h3⟩
  · rintro ⟨x, h1, h2⟩
    cases x with
    | map es' =>
      obtain ⟨rfl, h3⟩ := h2
      exact .inr (.inr (.inr ⟨_, h1, rfl, h3⟩))
    | dead => exact h2.elim
    | cells e0 w0 a0 cs => exact h2.elim
theorem mapClo_it {a : List UInt8} {n : Nat} : mapClo (iterE a n) ↔ True := by
  refine iff_true_intro ?_
  intro e he
  simp only [iterE, List.mem_cons, List.mem_nil_iff, or_false] at he
  rcases he with rfl | rfl <;> exact ⟨rfl, rfl⟩
theorem mapClo_nil : mapClo [] ↔ True := iff_true_intro (by intro e he; cases he)
theorem mapClo_cons {e : AV × AV} {es : List (AV × AV)} : mapClo (e :: es) ↔ (clo e.1 = true ∧ clo e.2 = true) ∧ mapClo es := by simp [mapClo]
theorem un_xor {n : Nat} (hn : n ≤ 9223372036854775807) {k : AV → Prop} : unopK .xor (.i .i64 (n : Int)) k ↔ evA (.i .i64 (-1 - (n : Int))) k := by
  have e : (BitVec.ofInt 64 (-1) ^^^ BitVec.ofInt 64 (Int.ofNat n)).toNat = 18446744073709551615 - n := by
    have e1 : BitVec.ofInt 64 (-1) = BitVec.allOnes 64 := by decide
    have e2 : BitVec.ofInt 64 (Int.ofNat n) = BitVec.ofNat 64 n := BitVec.ofInt_natCast 64 n
    rw [e1, e2, BitVec.allOnes_xor, BitVec.toNat_not, BitVec.toNat_ofNat, Nat.mod_eq_of_lt (by omega)]
  show forceI (IntKind.wrap .i64 ((BitVec.ofInt 64 (-1) ^^^ BitVec.ofInt 64 (Int.ofNat n)).toNat : Nat)) (fun r => k (.i .i64 r)) ↔ _
  rw [forceI_eq, e]
  have e3 : IntKind.wrap .i64 ((18446744073709551615 - n : Nat) : Int) = -1 - (n : Int) := by
    simp [IntKind.wrap, IntKind.bits, IntKind.signed]
    omega
  rw [e3]; exact Iff.rfl
/-- an empty slice of which it isn't known whether it is nil -/
theorem SC.nil0 {f : Nat} {k : AV → Hp → Prop} (h1 : SC P f [.nils] h k) (h2 : SC P f [.nz] h k) : SC P f [.fz 0 []] h k := by
  refine ⟨h1.1, fun ρ B w args r ha => ?_⟩
  generalize hl : args.toList = xs at ha
  cases ha with
  | cons _ _ x xs hx hxs =>
    cases hx with
    | fz _ off c _ k' arr hn hk hs => exact h2.2 ρ B w args r (by rw [hl]; exact .cons _ _ _ _ (.nz _ _) hxs)
    | fz0 a =>
      cases a with
      | none => exact h1.2 ρ B w args r (by rw [hl]; exact .cons _ _ _ _ .nils hxs)
      | some a => exact h2.2 ρ B w args r (by rw [hl]; exact .cons _ _ _ _ (.nz _ _) hxs)
theorem nvs_self {r : Nat → Nat} {m : Nat} {vs : List AV} (hc : clos vs = true) : NVs r m vs vs ↔ True := iff_true_intro (NVs.refl hc)
theorem frzs_self {vs : List AV} (hc : clos vs = true) : Frzs h vs vs ↔ True := iff_true_intro (Frzs.self hc)
theorem clos_nil : clos [] = true := rfl
theorem clos_rep {n : Nat} {v : AV} (hv : clo v = true) : clos (List.replicate n v) = true := by
  induction n with
  | zero => rfl
  | succ n ih => simp [List.replicate_succ, clos, hv, ih]
theorem rep_one {n : Nat} {v : AV} : (List.replicate n [v]).flatten = List.replicate n v := by
  induction n with
  | zero => rfl
  | succ n ih => rw [List.replicate_succ, List.flatten_cons, ih]; rfl
/-- the same within a call, where the first n blocks keep their names -/
theorem Wk.mkn {n : Nat} {t : Tr AV} (ts : List (Nat × AV)) (bl : List Blk) (src : List Nat) (hT : TWs t (rl src h.sz) bl.length ts) (hB : BWs h (rl src h.sz) bl.length src bl)
    (hI : ((src.filter fun b => decide (b < h.sz)).Nodup)) (hfl : h.fl = 0) (hn : n ≤ bl.length) (hlow : ∀ b, b < n → rl src h.sz b = b) : Wk n t h (mkT ts) (mkH 0 bl) := by
  obtain ⟨hlen, hget⟩ := hB.get
  refine Wk.of (r := rl src h.sz) ⟨hfl.symm, fun b' x' hb hg => ?_, fun b1 b2 h1 h2 _ _ he hl => ?_, fun b' _ _ _ => by rw [hfl]; exact Nat.zero_le _, hlow, hn, fun b _ hb => by rw [hfl] at hb; exact absurd hb (Nat.not_lt_zero _), fun j v' hj => ?_⟩
  · rw [mkH_get] at hg
    obtain ⟨b, q1, q2⟩ := hget b' x' hg
    have : rl src h.sz b' = b := by simp [rl, List.getD_eq_getElem?_getD, q1]
    rw [this]; exact q2
  · have h1 : b1 < src.length := by rw [hlen]; exact h1
    have h2 : b2 < src.length := by rw [hlen]; exact h2
    simp only [rl, List.getD_eq_getElem?_getD, List.getElem?_eq_getElem h1, List.getElem?_eq_getElem h2, Option.getD_some] at he hl
    exact Wk.mk.nodup_filter_inj hI h1 h2 he (by simpa using hl)
  · exact hT.get _ (mkT_get hj)
theorem SL.loopn {n : Nat} {α : Type} {x : ICode} {Q : X → Tr AV → Hp → Prop} (T : α → List (Nat × AV)) (B : α → List Blk) (I : α → Prop) (μ : α → Nat) (a0 : α) (src : List Nat)
    (hT : TWs t (rl src h.sz) (B a0).length (T a0)) (hB : BWs h (rl src h.sz) (B a0).length src (B a0)) (hI : (src.filter fun b => decide (b < h.sz)).Nodup) (hfl : h.fl = 0) (hn : n ≤ (B a0).length) (hlow : ∀ b, b < n → rl src h.sz b = b) (h0 : I a0)
    (step : ∀ a, I a → ∀ G : Tr AV → Hp → Prop, (∀ b, I b → μ b < μ a → ∀ t' h', Wk n t' h' (mkT (T b)) (mkH 0 (B b)) → G t' h') →
      V P n x (fun e t h => onX e (G t h) (fun id => Q (.exit id) t h) (Q .ret t h)) (mkT (T a)) (mkH 0 (B a))) : SL P n x Q t h := by
  have main : ∀ m a, μ a = m → I a → SL P n x Q (mkT (T a)) (mkH 0 (B a)) := by
    intro m
    induction m using Nat.strongRecOn with
    | ind m ih =>
      intro a ha hi
      exact SL_step (step a hi (fun t h => SL P n x Q t h) fun b hb hlt t' h' hw => SL.weak hw (ih (μ b) (ha ▸ hlt) b rfl hb))
  exact SL.weak (Wk.mkn (T a0) (B a0) src hT hB hI hfl hn hlow) (main _ a0 rfl h0)
end Go.Kc
end
section
/- Calls that write through pointers: shown on the blocks they reach, used at any heap. No condition. -/
namespace Go.Kc
variable {P : Program}

mutual
/-- other names for blocks -/
def rnv (g : Nat → Nat) : AV → AV
  | .ptr b o => .ptr (g b) o
  | .sl b o n c l => .sl (g b) o n c l
  | .map b => .map (g b)
  | .own b n => .own (g b) n
  | .fn f a c => .fn f (rnvs g a) (rnvs g c)
  | .ifc t v => .ifc t (rnv g v)
  | .agg cs => .agg (rnvs g cs)
  | .tup cs => .tup (rnvs g cs)
  | v => v
def rnvs (g : Nat → Nat) : List AV → List AV
  | [] => []
  | v :: vs => rnv g v :: rnvs g vs
end
mutual
/-- all names lie below a bound -/
def bnd (m : Nat) : AV → Bool
  | .ptr b _ => decide (b < m)
  | .sl b _ _ _ _ => decide (b < m)
  | .map b => decide (b < m)
  | .own b _ => decide (b < m)
  | .fn _ a c => bnds m a && bnds m c
  | .ifc _ v => bnd m v
  | .agg cs => bnds m cs
  | .tup cs => bnds m cs
  | _ => true
def bnds (m : Nat) : List AV → Bool
  | [] => true
  | v :: vs => bnd m v && bnds m vs
end
theorem rnvs_get {g : Nat → Nat} : ∀ {vs : List AV} {j : Nat}, (rnvs g vs)[j]? = (vs[j]?).map (rnv g)
  | [], j => by simp [rnvs]
  | v :: vs, 0 => by simp [rnvs]
  | v :: vs, j + 1 => by simpa [rnvs] using rnvs_get (vs := vs) (j := j)
theorem rnvs_length {g : Nat → Nat} : ∀ {vs : List AV}, (rnvs g vs).length = vs.length
  | [] => rfl
  | v :: vs => by simp [rnvs, rnvs_length (vs := vs)]
theorem bnds_get {m : Nat} : ∀ {vs : List AV} {j : Nat} {v : AV}, bnds m vs = true → vs[j]? = some v → bnd m v = true
  | [], _, _, _, h => by simp at h
  | x :: xs, 0, _, hb, h => by
    simp only [bnds, Bool.and_eq_true] at hb
    simp at h; subst h; exact hb.1
  | x :: xs, j + 1, _, hb, h => by
    simp only [bnds, Bool.and_eq_true] at hb
    exact bnds_get (vs := xs) (j := j) hb.2 (by simpa using h)
mutual
/-- out of the small heap -/
theorem VR.rn {ρ2 ρ3 : Ren} {g : Nat → Nat} (h1 : ∀ b L, ρ2 b = some L → ρ3 (g b) = some L) (h2 : ∀ k a, ρ2.frz k = some a → ρ3.frz k = some a) (h3 : ∀ b, b < ρ2.n → g b < ρ3.n) : ∀ {v : AV} {x : Value}, VR σ0 ρ2 v x → VR σ0 ρ3 (rnv g v) x
  | _, _, .undef v => .undef v
  | _, _, .b x => .b x
  | _, _, .i k n => .i k n
  | _, _, .s x => .s x
  | _, _, .nilp => .nilp
  | _, _, .ptr b o L h => .ptr _ _ L (h1 _ _ h)
  | _, _, .nils => .nils
  | _, _, .sl b o len cap c loose L h hc => .sl _ _ _ _ _ _ L (h1 _ _ h) hc
  | _, _, .slz b o x l' L h => .slz _ _ _ _ L (h1 _ _ h)
  | _, _, .nilf => .nilf
  | _, _, .fn f first cap first' cap' q1 q2 => .fn _ _ _ _ _ (VRs.rn h1 h2 h3 q1) (VRs.rn h1 h2 h3 q2)
  | _, _, .nili => .nili
  | _, _, .ifc t v v' h => .ifc _ _ _ (VR.rn h1 h2 h3 h)
  | _, _, .agg cs cs' h => .agg _ _ (VRs.rn h1 h2 h3 h)
  | _, _, .tup cs cs' h => .tup _ _ (VRs.rn h1 h2 h3 h)
  | _, _, .nilm => .nilm
  | _, _, .map b L h h0 => .map _ L (h1 _ _ h) h0
  | _, _, .sym j => .sym j
  | _, _, .fz n off c cs k arr hn h hs => .fz n off c cs k arr hn (h2 _ _ h) (hs.mono h2)
  | _, _, .fz0 a => .fz0 a
  | _, _, .pf off base cs k arr h hs => .pf off base cs k arr (h2 _ _ h) (hs.mono h2)
  | _, _, .e0 a => .e0 a
  | _, _, .nz a c => .nz a c
  | _, _, .own0 b a hb => .own0 _ _ (h3 _ hb)
  | _, _, .own b n c L h hn hc' => .own _ _ _ L (h1 _ _ h) hn hc'
theorem VRs.rn {ρ2 ρ3 : Ren} {g : Nat → Nat} (h1 : ∀ b L, ρ2 b = some L → ρ3 (g b) = some L) (h2 : ∀ k a, ρ2.frz k = some a → ρ3.frz k = some a) (h3 : ∀ b, b < ρ2.n → g b < ρ3.n) : ∀ {v : List AV} {x : List Value}, VRs σ0 ρ2 v x → VRs σ0 ρ3 (rnvs g v) x
  | _, _, .nil => .nil
  | _, _, .cons v vs v' vs' h hs => .cons _ _ _ _ (VR.rn h1 h2 h3 h) (VRs.rn h1 h2 h3 hs)
end
mutual
/-- into the small heap -/
theorem VR.nr {ρ ρs : Ren} {g : Nat → Nat} {m : Nat} (h1 : ∀ b L, b < m → ρ (g b) = some L → ρs b = some L) (h2 : ρs.frz = ρ.frz) (h3 : ρs.n = m) : ∀ {v : AV} {x : Value}, bnd m v = true → VR σ0 ρ (rnv g v) x → VR σ0 ρs v x
  | .undef, _, _, h => by cases h; exact .undef _
  | .b _, _, _, h => by cases h; exact .b _
  | .i _ _, _, _, h => by cases h; exact .i _ _
  | .s _, _, _, h => by cases h; exact .s _
  | .nilp, _, _, h => by cases h; exact .nilp
  | .ptr b o, _, hb, h => by
    simp only [bnd, decide_eq_true_eq] at hb
    cases h with
    | ptr _ _ L q => exact .ptr _ _ L (h1 _ _ hb q)
  | .nils, _, _, h => by cases h; exact .nils
  | .sl b o n c l, _, hb, h => by
    simp only [bnd, decide_eq_true_eq] at hb
    cases h with
    | sl _ _ _ _ _ _ L q hc => exact .sl _ _ _ _ _ _ L (h1 _ _ hb q) hc
    | slz _ _ _ _ L q => exact .slz _ _ _ _ L (h1 _ _ hb q)
  | .nilf, _, _, h => by cases h; exact .nilf
  | .fn f a c, _, hb, h => by
    simp only [bnd, Bool.and_eq_true] at hb
    cases h with
    | fn _ _ _ _ _ q1 q2 => exact .fn _ _ _ _ _ (VRs.nr h1 h2 h3 hb.1 q1) (VRs.nr h1 h2 h3 hb.2 q2)
  | .nili, _, _, h => by cases h; exact .nili
  | .ifc t v, _, hb, h => by
    simp only [bnd] at hb
    cases h with
    | ifc _ _ _ q => exact .ifc _ _ _ (VR.nr h1 h2 h3 hb q)
  | .agg cs, _, hb, h => by
    simp only [bnd] at hb
    cases h with
    | agg _ _ q => exact .agg _ _ (VRs.nr h1 h2 h3 hb q)
  | .tup cs, _, hb, h => by
    simp only [bnd] at hb
    cases h with
    | tup _ _ q => exact .tup _ _ (VRs.nr h1 h2 h3 hb q)
  | .nilm, _, _, h => by cases h; exact .nilm
  | .map b, _, hb, h => by
    simp only [bnd, decide_eq_true_eq] at hb
    cases h with
    | map _ L q h0 => exact .map _ L (h1 _ _ hb q) h0
  | .sym j, _, _, h => by cases h; exact .sym _
  | .fz n cs, _, _, h => by
    cases h with
    | fz _ off c _ k arr hn q hs => exact .fz _ off c _ k arr hn (by rw [h2]; exact q) (by rw [h2]; exact hs)
    | fz0 a => exact .fz0 a
  | .pf cs o, _, _, h => by
    cases h with
    | pf off base _ k arr q hs => exact .pf _ base _ k arr (by rw [h2]; exact q) (by rw [h2]; exact hs)
  | .e0, _, _, h => by cases h; exact .e0 _
  | .nz, _, _, h => by cases h; exact .nz _ _
  | .own b n, _, hb, h => by
    simp only [bnd, decide_eq_true_eq] at hb
    cases h with
    | own0 _ a q => exact .own0 _ _ (by rw [h3]; exact hb)
    | own _ _ c L q hn hc => exact .own _ _ c L (h1 _ _ hb q) hn hc
theorem VRs.nr {ρ ρs : Ren} {g : Nat → Nat} {m : Nat} (h1 : ∀ b L, b < m → ρ (g b) = some L → ρs b = some L) (h2 : ρs.frz = ρ.frz) (h3 : ρs.n = m) : ∀ {v : List AV} {x : List Value}, bnds m v = true → VRs σ0 ρ (rnvs g v) x → VRs σ0 ρs v x
  | [], _, _, h => by cases h; exact .nil
  | v :: vs, _, hb, h => by
    simp only [bnds, Bool.and_eq_true] at hb
    cases h with
    | cons _ _ _ _ q1 q2 => exact .cons _ _ _ _ (VR.nr h1 h2 h3 hb.1 q1) (VRs.nr h1 h2 h3 hb.2 q2)
end

/-! ### a call on the blocks that it reaches -/
/-- where the small heap's blocks lie in the great one: those lent at their places, new ones behind -/
def gAt (at' : List Nat) (d : Nat) : Nat → Nat := fun b => if b < at'.length then at'.getD b 0 else d + (b - at'.length)
theorem gAt_lo {at' : List Nat} {d b : Nat} (h : b < at'.length) : gAt at' d b = at'[b] := by
  simp [gAt, h]
theorem gAt_hi {at' : List Nat} {d b : Nat} (h : at'.length ≤ b) : gAt at' d b = d + (b - at'.length) := by
  simp only [gAt]; rw [if_neg (by omega)]
/-- the blocks lent: rows and variables of one's own -/
structure Lent (h : Hp) (at' : List Nat) (bs : List Blk) : Prop where
  len : at'.length = bs.length
  nd : at'.Nodup
  blk : ∀ i x, bs[i]? = some x → ∃ e a cs, x = .cells e true a cs ∧ bnds bs.length cs = true ∧ h.tr.get (gAt at' h.sz i) = some (.cells e true a (rnvs (gAt at' h.sz) cs)) ∧ h.fl ≤ gAt at' h.sz i ∧ gAt at' h.sz i < h.sz
def Ren.small (ρ : Ren) (at' : List Nat) (d : Nat) : Ren := ⟨fun i => if i < at'.length then ρ (gAt at' d i) else none, ρ.frz, at'.length⟩
theorem small_some {ρ : Ren} {at' : List Nat} {d i : Nat} {L : Loc} (h : ρ.small at' d i = some L) : i < at'.length ∧ ρ (gAt at' d i) = some L := by
  simp only [Ren.small] at h; split at h
  · exact ⟨by assumption, h⟩
  · cases h
/-- what the call may not touch: what was barred, and all that isn't lent -/
def Bar (ρ : Ren) (B : Nat → Prop) (h : Hp) (at' : List Nat) : Nat → Prop := fun k => B k ∨ ∃ b L x, ρ b = some L ∧ b ∉ at' ∧ h.tr.get b = some x ∧ x ≠ .dead ∧ L.blk = k
theorem Lent.inj {h : Hp} {at' : List Nat} {bs : List Blk} (l : Lent h at' bs) {i j : Nat} (hi : i < at'.length) (hj : j < at'.length) (he : gAt at' h.sz i = gAt at' h.sz j) : i = j := by
  rw [gAt_lo hi, gAt_lo hj] at he
  exact (List.getElem_inj l.nd).1 he
theorem Lent.mem {h : Hp} {at' : List Nat} {i : Nat} (hi : i < at'.length) : gAt at' h.sz i ∈ at' := by
  rw [gAt_lo hi]; exact List.getElem_mem _
theorem Rel.small {ρ : Ren} {B : Nat → Prop} {h : Hp} {w : World} {at' : List Nat} {bs : List Blk} (r : Rel σ0 ρ B h w) (l : Lent h at' bs) : Rel σ0 (ρ.small at' h.sz) (Bar ρ B h at') (mkH 0 bs) w := by
  have get : ∀ i L x, ρ.small at' h.sz i = some L → (mkH 0 bs).tr.get i = some x → i < at'.length ∧ ρ (gAt at' h.sz i) = some L ∧ ∃ e a cs, x = .cells e true a cs ∧ bnds bs.length cs = true ∧ h.tr.get (gAt at' h.sz i) = some (.cells e true a (rnvs (gAt at' h.sz) cs)) ∧ h.fl ≤ gAt at' h.sz i := by
    intro i L x h1 h2
    obtain ⟨h3, h4⟩ := small_some h1
    rw [mkH_get] at h2
    obtain ⟨e, a, cs, h5, h6, h7, h8, _⟩ := l.blk i x h2
    exact ⟨h3, h4, e, a, cs, h5, h6, h7, h8⟩
  refine ⟨fun i L hb => ?_, ?_, ?_, ?_, ?_, ?_, ?_, ?_, ?_, ?_⟩
  · have := (small_some hb).1
    rw [l.len] at this; exact this
  · intro i L e wf af cs hb hg
    obtain ⟨h1, h2, e', a, cs', h3, h4, h5, h6⟩ := get i L _ hb hg
    cases h3
    obtain ⟨q1, c, ty, fz, q2, q3, q4, q5, q6⟩ := r.cells _ L _ _ _ _ h2 h5
    rw [rnvs_length] at q4
    refine ⟨q1, c, ty, fz, q2, q3, q4, fun j v hv => ?_, q6⟩
    obtain ⟨v', p1, p2⟩ := q5 j (rnv (gAt at' h.sz) v) (by rw [rnvs_get, hv]; rfl)
    exact ⟨v', p1, VR.nr (ρ := ρ) (ρs := ρ.small at' h.sz) (g := gAt at' h.sz) (m := bs.length) (fun b L hbm hbL => by
      show (if b < at'.length then ρ (gAt at' h.sz b) else none) = some L
      rw [if_pos (by rw [l.len]; exact hbm)]; exact hbL) rfl l.len (bnds_get h4 hv) p2⟩
  · intro i L es hb hg
    obtain ⟨_, _, e', a, cs', h3, _⟩ := get i L _ hb hg
    cases h3
  · intro b L e af cs hb hg b' L' x hb' hx hd he
    obtain ⟨h1, h2, e', a, cs', h3, h4, h5, h6⟩ := get b L _ hb hg
    obtain ⟨i1, i2, e2, a2, cs2, i3, i4, i5, i6⟩ := get b' L' _ hb' hx
    exact l.inj i1 h1 (r.excl _ L _ _ _ h2 h5 _ L' _ i2 i5 (by simp) he)
  · intro b L es hb hg
    obtain ⟨_, _, e', a, cs', h3, _⟩ := get b L _ hb hg
    cases h3
  · intro b L e wf cs hb hg b' L' e' wf' af' cs' hb' hx he
    obtain ⟨h1, h2, e1, a1, cs1, h3, h4, h5, h6⟩ := get b L _ hb hg
    obtain ⟨i1, i2, e2, a2, cs2, i3, i4, i5, i6⟩ := get b' L' _ hb' hx
    cases h3; cases i3
    have q := r.app _ L _ _ _ h2 h5 _ L' _ _ _ _ i2 i5 he
    rw [rnvs_length, rnvs_length] at q
    exact ⟨q.1, fun hh => l.inj i1 h1 (q.2 hh)⟩
  · intro i L hb _ hbar
    have hi := (small_some hb).1
    have hi' : i < bs.length := by rw [← l.len]; exact hi
    obtain ⟨h1, h2, e', a, cs', h3, h4, h5, h6⟩ := get i L bs[i] hb (by rw [mkH_get, List.getElem?_eq_getElem hi'])
    rcases hbar with hB | ⟨b, L', x, g1, g2, g3, g4, g5⟩
    · exact r.flr _ L h2 h6 hB
    · have := r.excl _ L _ _ _ h2 h5 b L' x g1 g3 g4 g5
      exact g2 (this ▸ Lent.mem hi)
  · rintro k (hB | ⟨b, L', x, g1, g2, g3, g4, rfl⟩)
    · exact r.base k hB
    · exact r.blk_lt b L' g1 x g3 g4
  · intro k arr hk
    refine ⟨(r.frz k arr hk).1, fun b L x hb hx hd => ?_⟩
    obtain ⟨h1, h2, e', a, cs', h3, h4, h5, h6⟩ := get b L _ hb hx
    exact (r.frz k arr hk).2 _ L _ h2 h5 (by simp)
  · show at'.length ≤ bs.length
    rw [l.len]; exact Nat.le_refl _

/-- a block by other names; a map is not handed on -/
def rnb (g : Nat → Nat) : Blk → Blk
  | .cells e w a cs => .cells e w a (rnvs g cs)
  | .dead => .dead
  | .map _ => .dead
noncomputable def puts : Hp → List Nat → List Blk → Hp
  | h, b :: at', x :: xs => puts (h.put b x) at' xs
  | h, _, _ => h
theorem puts_sz : ∀ {at' : List Nat} {xs : List Blk} {h : Hp}, (puts h at' xs).sz = h.sz
  | [], _, _ => by simp [puts]
  | _ :: _, [], _ => by simp [puts]
  | b :: at', x :: xs, h => by
    show (puts (h.put b x) at' xs).sz = _
    rw [puts_sz]; rfl
theorem puts_fl : ∀ {at' : List Nat} {xs : List Blk} {h : Hp}, (puts h at' xs).fl = h.fl
  | [], _, _ => by simp [puts]
  | _ :: _, [], _ => by simp [puts]
  | b :: at', x :: xs, h => by
    show (puts (h.put b x) at' xs).fl = _
    rw [puts_fl]; rfl
theorem puts_out : ∀ {at' : List Nat} {xs : List Blk} {h : Hp} {b : Nat}, b ∉ at' → (puts h at' xs).tr.get b = h.tr.get b
  | [], _, _, _, _ => by simp [puts]
  | _ :: _, [], _, _, _ => by simp [puts]
  | c :: at', x :: xs, h, b, hb => by
    show (puts (h.put c x) at' xs).tr.get b = _
    rw [puts_out (fun hh => hb (List.mem_cons_of_mem _ hh))]
    simp only [Hp.put, Tr.get_set]
    rw [if_neg (fun hh => hb (by simp [hh]))]
theorem puts_in : ∀ {at' : List Nat} {xs : List Blk} {h : Hp} {i b : Nat}, at'.Nodup → at'.length = xs.length → at'[i]? = some b → (puts h at' xs).tr.get b = xs[i]?
  | [], _, _, _, _, _, _, hi => by simp at hi
  | _ :: _, [], _, _, _, _, hl, _ => by simp at hl
  | c :: at', x :: xs, h, 0, b, hn, hl, hi => by
    simp at hi; subst hi
    show (puts (h.put c x) at' xs).tr.get c = _
    rw [puts_out (List.nodup_cons.1 hn).1]
    simp [Hp.put, Tr.get_set]
  | c :: at', x :: xs, h, i + 1, b, hn, hl, hi => by
    show (puts (h.put c x) at' xs).tr.get b = _
    rw [puts_in (List.nodup_cons.1 hn).2 (by simpa using hl) (by simpa using hi)]
    simp
/-- the great heap behind the call -/
noncomputable def backH (h : Hp) (at' : List Nat) (bs2 : List Blk) : Hp := pushs (puts h at' ((bs2.take at'.length).map (rnb (gAt at' h.sz)))) ((bs2.drop at'.length).map (rnb (gAt at' h.sz)))
def Ren.back (ρ ρ2 : Ren) (at' : List Nat) (d l : Nat) : Ren := ⟨fun b => if b < d then ρ b else ρ2 (b - d + at'.length), ρ2.frz, d + (l - at'.length)⟩
theorem backH_sz {h : Hp} {at' : List Nat} {bs2 : List Blk} : (backH h at' bs2).sz = h.sz + (bs2.length - at'.length) := by
  unfold backH; rw [pushs_sz, puts_sz]; simp
theorem backH_fl {h : Hp} {at' : List Nat} {bs2 : List Blk} : (backH h at' bs2).fl = h.fl := by
  unfold backH; rw [pushs_fl, puts_fl]
theorem backH_old {h : Hp} {at' : List Nat} {bs2 : List Blk} {b : Nat} (hb : b < h.sz) (hm : b ∉ at') : (backH h at' bs2).tr.get b = h.tr.get b := by
  unfold backH; rw [pushs_get, puts_sz, if_pos hb, puts_out hm]
theorem backH_in {h : Hp} {at' : List Nat} {bs2 : List Blk} (hn : at'.Nodup) (hl : at'.length ≤ bs2.length) (hlt : ∀ b ∈ at', b < h.sz) {i : Nat} (hi : i < at'.length) : (backH h at' bs2).tr.get (gAt at' h.sz i) = (bs2[i]?).map (rnb (gAt at' h.sz)) := by
  have hm : gAt at' h.sz i ∈ at' := Lent.mem hi
  unfold backH
  rw [pushs_get, puts_sz, if_pos (hlt _ hm), puts_in (i := i) hn (by simp; omega) (by rw [gAt_lo hi]; exact List.getElem?_eq_getElem hi), List.getElem?_map, List.getElem?_take_of_lt hi]
theorem backH_new {h : Hp} {at' : List Nat} {bs2 : List Blk} {i : Nat} (hi : at'.length ≤ i) (hi2 : i < bs2.length) : (backH h at' bs2).tr.get (gAt at' h.sz i) = (bs2[i]?).map (rnb (gAt at' h.sz)) := by
  unfold backH
  rw [gAt_hi hi, pushs_get, puts_sz, if_neg (by omega), if_pos (by simp; omega), List.getElem?_map, List.getElem?_drop]
  rw [show at'.length + (h.sz + (i - at'.length) - h.sz) = i from by omega]
theorem Rel.back {ρ ρ2 : Ren} {B : Nat → Prop} {h : Hp} {w w1 : World} {at' : List Nat} {bs bs2 : List Blk} (r : Rel σ0 ρ B h w) (l : Lent h at' bs) (r2 : Rel σ0 ρ2 (Bar ρ B h at') (mkH 0 bs2) w1) (hl : at'.length ≤ bs2.length)
    (he : ∀ i, i < at'.length → ρ2 i = ρ.small at' h.sz i) (hp : ∀ k, Bar ρ B h at' k → w1.heap[k]? = w.heap[k]?) (hw : w.heap.size ≤ w1.heap.size)
    (f1 : ∀ k a, ρ.frz k = some a → ρ2.frz k = some a) (f2 : ∀ k a, ρ2.frz k = some a → ρ.frz k = some a ∨ ¬ Bar ρ B h at' k) : (∀ b L, ρ2 b = some L → ρ.back ρ2 at' h.sz bs2.length (gAt at' h.sz b) = some L) ∧ Rel σ0 (ρ.back ρ2 at' h.sz bs2.length) B (backH h at' bs2) w1 := by
  have hlt : ∀ b ∈ at', b < h.sz := by
    intro b hb
    obtain ⟨i, hi, rfl⟩ := List.getElem_of_mem hb
    have hi' : i < bs.length := by rw [← l.len]; exact hi
    obtain ⟨_, _, _, _, _, _, _, h6⟩ := l.blk i bs[i] (List.getElem?_eq_getElem hi')
    rwa [gAt_lo hi] at h6
  have up : ∀ b L, ρ2 b = some L → ρ.back ρ2 at' h.sz bs2.length (gAt at' h.sz b) = some L := by
    intro b L hb
    show (if gAt at' h.sz b < h.sz then ρ (gAt at' h.sz b) else ρ2 (gAt at' h.sz b - h.sz + at'.length)) = some L
    by_cases hbm : b < at'.length
    · rw [if_pos (hlt _ (Lent.mem hbm))]
      rw [he b hbm] at hb
      exact (small_some hb).2
    · rw [gAt_hi (by omega), if_neg (by omega), show h.sz + (b - at'.length) - h.sz + at'.length = b from by omega]
      exact hb
  refine ⟨up, ?_⟩
  have nle : ∀ b, b < ρ2.n → gAt at' h.sz b < h.sz + (bs2.length - at'.length) := by
    intro b hb
    have hb2 : b < bs2.length := Nat.lt_of_lt_of_le hb r2.dn
    by_cases hbm : b < at'.length
    · have := hlt _ (Lent.mem (h := h) hbm); omega
    · rw [gAt_hi (by omega)]; omega
  have le1 : ∀ b L, ρ b = some L → ρ.back ρ2 at' h.sz bs2.length b = some L := by
    intro b L hb
    show (if b < h.sz then ρ b else _) = some L
    rw [if_pos (r.dom b L hb)]; exact hb
  have le2 : ρ.le (ρ.back ρ2 at' h.sz bs2.length) := ⟨le1, f1, Nat.le_trans r.dn (Nat.le_add_right _ _)⟩
  -- a block: an old one that stayed, or one of the small heap
  have split : ∀ b L, ρ.back ρ2 at' h.sz bs2.length b = some L → (b ∉ at' ∧ ρ b = some L ∧ (backH h at' bs2).tr.get b = h.tr.get b) ∨
      ∃ c, b = gAt at' h.sz c ∧ ρ2 c = some L ∧ (backH h at' bs2).tr.get b = ((mkH 0 bs2).tr.get c).map (rnb (gAt at' h.sz)) := by
    intro b L hb
    have hb' : (if b < h.sz then ρ b else ρ2 (b - h.sz + at'.length)) = some L := hb
    by_cases hbs : b < h.sz
    · rw [if_pos hbs] at hb'
      by_cases hm : b ∈ at'
      · obtain ⟨i, hi, rfl⟩ := List.getElem_of_mem hm
        refine .inr ⟨i, (gAt_lo hi).symm, ?_, ?_⟩
        · rw [he i hi]
          show (if i < at'.length then ρ (gAt at' h.sz i) else none) = some L
          rw [if_pos hi, gAt_lo hi]; exact hb'
        · have := backH_in (bs2 := bs2) l.nd hl hlt hi
          rw [gAt_lo hi] at this
          rw [this, mkH_get]
      · exact .inl ⟨hm, hb', backH_old hbs hm⟩
    · rw [if_neg hbs] at hb'
      have hc : b - h.sz + at'.length < bs2.length := r2.dom _ L hb'
      have e : gAt at' h.sz (b - h.sz + at'.length) = b := by rw [gAt_hi (by omega)]; omega
      refine .inr ⟨b - h.sz + at'.length, e.symm, hb', ?_⟩
      have := backH_new (h := h) (at' := at') (bs2 := bs2) (i := b - h.sz + at'.length) (by omega) hc
      rw [e] at this
      rw [this, mkH_get]
  have apart : ∀ b L x c L2, b ∉ at' → ρ b = some L → h.tr.get b = some x → x ≠ .dead → ρ2 c = some L2 → L2.blk ≠ L.blk := by
    intro b L x c L2 h1 h2 h3 h4 h5 h6
    exact r2.flr c L2 h5 (Nat.zero_le _) (.inr ⟨b, L, x, h2, h1, h3, h4, h6.symm⟩)
  have shc : ∀ {o : Option Blk} {e : Nat} {w a : Bool} {cs : List AV}, o.map (rnb (gAt at' h.sz)) = some (.cells e w a cs) → ∃ cs0, o = some (.cells e w a cs0) ∧ cs = rnvs (gAt at' h.sz) cs0 := by
    intro o e w a cs ho
    cases o with
    | none => simp at ho
    | some x =>
      cases x with
      | cells e' w' a' cs' => simp [rnb] at ho; obtain ⟨rfl, rfl, rfl, rfl⟩ := ho; exact ⟨_, rfl, rfl⟩
      | dead => simp [rnb] at ho
      | map es => simp [rnb] at ho
  have shn : ∀ {o : Option Blk} {y : Blk}, o.map (rnb (gAt at' h.sz)) = some y → y ≠ .dead → ∃ x, o = some x ∧ x ≠ .dead := by
    intro o y ho hy
    cases o with
    | none => simp at ho
    | some x =>
      refine ⟨x, rfl, fun hx => ?_⟩
      subst hx; simp [rnb] at ho; exact hy ho.symm
  have shm : ∀ {o : Option Blk} {es : List (AV × AV)}, o.map (rnb (gAt at' h.sz)) = some (.map es) → False := by
    intro o es ho
    cases o with
    | none => simp at ho
    | some x => cases x <;> simp [rnb] at ho
  refine ⟨fun b L hb => ?_, ?_, ?_, ?_, ?_, ?_, ?_, base_le r.base hw, ?_, ?_⟩
  · rw [backH_sz]
    have hb' : (if b < h.sz then ρ b else ρ2 (b - h.sz + at'.length)) = some L := hb
    by_cases hbs : b < h.sz
    · omega
    · rw [if_neg hbs] at hb'
      have hc : b - h.sz + at'.length < bs2.length := r2.dom _ L hb'
      omega
  · intro b L e wf af cs hb hg
    rcases split b L hb with ⟨h1, h2, h3⟩ | ⟨c, rfl, h2, h3⟩
    · rw [h3] at hg
      obtain ⟨q1, c, ty, fz, q2, q3, q4, q5, q6⟩ := r.cells b L e wf af cs h2 hg
      exact ⟨q1, c, ty, fz, by rw [hp _ (.inr ⟨b, L, _, h2, h1, hg, by simp, rfl⟩)]; exact q2, q3, q4, fun j v hv => let ⟨v', g7, g8⟩ := q5 j v hv; ⟨v', g7, g8.mono le2⟩, q6⟩
    · rw [h3] at hg
      obtain ⟨cs0, g1, rfl⟩ := shc hg
      obtain ⟨q1, c', ty, fz, q2, q3, q4, q5, q6⟩ := r2.cells c L e wf af cs0 h2 g1
      refine ⟨q1, c', ty, fz, q2, q3, by rw [rnvs_length]; exact q4, fun j v hv => ?_, q6⟩
      rw [rnvs_get] at hv
      cases hj : cs0[j]? with
      | none => rw [hj] at hv; simp at hv
      | some v0 =>
        rw [hj] at hv; simp at hv; subst hv
        obtain ⟨v', g7, g8⟩ := q5 j v0 hj
        exact ⟨v', g7, VR.rn (ρ3 := ρ.back ρ2 at' h.sz bs2.length) up (fun _ _ h => h) nle g8⟩
  · intro b L es hb hg
    rcases split b L hb with ⟨h1, h2, h3⟩ | ⟨c, rfl, h2, h3⟩
    · rw [h3] at hg
      obtain ⟨q1, o, q2, q3⟩ := r.maps b L es h2 hg
      exact ⟨q1, o, by rw [hp _ (.inr ⟨b, L, _, h2, h1, hg, by simp, rfl⟩)]; exact q2, q3.mono le2⟩
    · rw [h3] at hg; exact (shm hg).elim
  · intro b L e af cs hb hg b' L' x hb' hx hd hee
    rcases split b L hb with ⟨h1, h2, h3⟩ | ⟨c, rfl, h2, h3⟩ <;> rcases split b' L' hb' with ⟨i1, i2, i3⟩ | ⟨c', rfl, i2, i3⟩
    · rw [h3] at hg; rw [i3] at hx
      exact r.excl b L e af cs h2 hg b' L' x i2 hx hd hee
    · rw [h3] at hg
      exact absurd hee (apart b L _ c' L' h1 h2 hg (by simp) i2)
    · rw [i3] at hx
      exact absurd hee.symm (apart b' L' _ c L i1 i2 hx hd h2)
    · rw [h3] at hg; rw [i3] at hx
      obtain ⟨cs0, g1, rfl⟩ := shc hg
      obtain ⟨x0, g2, g3⟩ := shn hx hd
      rw [r2.excl c L e af cs0 h2 g1 c' L' x0 i2 g2 g3 hee]
  · intro b L es hb hg b' L' x hb' hx hd hee
    rcases split b L hb with ⟨h1, h2, h3⟩ | ⟨c, rfl, h2, h3⟩
    · rw [h3] at hg
      rcases split b' L' hb' with ⟨i1, i2, i3⟩ | ⟨c', rfl, i2, i3⟩
      · rw [i3] at hx
        exact r.exclm b L es h2 hg b' L' x i2 hx hd hee
      · exact absurd hee (apart b L _ c' L' h1 h2 hg (by simp) i2)
    · rw [h3] at hg; exact (shm hg).elim
  · intro b L e wf cs hb hg b' L' e' wf' af' cs' hb' hx hee
    rcases split b L hb with ⟨h1, h2, h3⟩ | ⟨c, rfl, h2, h3⟩ <;> rcases split b' L' hb' with ⟨i1, i2, i3⟩ | ⟨c', rfl, i2, i3⟩
    · rw [h3] at hg; rw [i3] at hx
      exact r.app b L e wf cs h2 hg b' L' e' wf' af' cs' i2 hx hee
    · rw [h3] at hg
      exact absurd hee (apart b L _ c' L' h1 h2 hg (by simp) i2)
    · rw [i3] at hx
      exact absurd hee.symm (apart b' L' _ c L i1 i2 hx (by simp) h2)
    · rw [h3] at hg; rw [i3] at hx
      obtain ⟨cs0, g1, rfl⟩ := shc hg
      obtain ⟨cs1, g2, rfl⟩ := shc hx
      have q := r2.app c L e wf cs0 h2 g1 c' L' e' wf' af' cs1 i2 g2 hee
      rw [rnvs_length, rnvs_length]
      exact ⟨q.1, fun hh => by rw [q.2 hh]⟩
  · intro b L hb hf hB
    rw [backH_fl] at hf
    rcases split b L hb with ⟨h1, h2, h3⟩ | ⟨c, rfl, h2, h3⟩
    · exact r.flr b L h2 hf hB
    · exact r2.flr c L h2 (Nat.zero_le _) (.inl hB)
  · intro k arr hk
    refine ⟨(r2.frz k arr hk).1, fun b L x hb hx hd => ?_⟩
    rcases split b L hb with ⟨h1, h2, h3⟩ | ⟨c, rfl, h2, h3⟩
    · rw [h3] at hx
      rcases f2 k arr hk with g | g
      · exact (r.frz k arr g).2 b L x h2 hx hd
      · exact fun hh => g (.inr ⟨b, L, x, h2, h1, hx, hd, hh⟩)
    · rw [h3] at hx
      obtain ⟨x0, g2, g3⟩ := shn hx hd
      exact (r2.frz k arr hk).2 c L x0 h2 g2 g3
  · show h.sz + (bs2.length - at'.length) ≤ _
    rw [backH_sz]; exact Nat.le_refl _
/-- what a run on the blocks lent comes to, as v and bs2 -/
def UpdZ (m : Nat) (v : AV) (bs2 : List Blk) (v' : AV) (h' : Hp) : Prop := h'.fl = 0 → ∃ src : List Nat, NV (rl src h'.sz) bs2.length v' v ∧ BWs h' (rl src h'.sz) bs2.length src bs2 ∧ (src.filter fun b => decide (b < h'.sz)).Nodup ∧ ∀ b, b < m → rl src h'.sz b = b
def UpdW (m : Nat) (v : AV) (bs2 : List Blk) (v' : AV) (h' : Hp) : Prop := h'.fl = 0 → Wk m (mkT [(0, v')]) h' (mkT [(0, v)]) (mkH 0 bs2)
theorem UpdZ.w {m : Nat} {v : AV} {bs2 : List Blk} {v' : AV} {h' : Hp} (hz : UpdZ m v bs2 v' h') (hle : m ≤ bs2.length) : UpdW m v bs2 v' h' := by
  intro hfl
  obtain ⟨src, s1, s2, s3, s4⟩ := hz hfl
  exact Wk.mkn [(0, v)] bs2 src ⟨⟨v', by simp [mkT, Tr.get_set], s1⟩, trivial⟩ s2 s3 hfl hle s4
/-- a call that writes in blocks lent (0, 1, ..): it answers v, the blocks are then bs2 (the new ones behind) -/
def Upd (P : Program) (f : Nat) (vs : List AV) (bs : List Blk) (v : AV) (bs2 : List Blk) : Prop :=
  bnds bs.length vs = true ∧ bs.length ≤ bs2.length ∧ SC P f vs (mkH 0 bs) (UpdW bs.length v bs2)
theorem Upd.mkS {f : Nat} {i : IFn} {vs : List AV} {v : AV} {bs bs2 : List Blk} (hc : chkFn P f i = true) (hb : bnds bs.length vs = true) (hl : bs.length ≤ bs2.length) (hV : S P bs.length i.body (endX i.res (UpdW bs.length v bs2)) (argsT vs 0 .leaf) (mkH 0 bs)) : Upd P f vs bs v bs2 :=
  ⟨hb, hl, SC.mk hc hV⟩
theorem Upd.mk {f : Nat} {i : IFn} {vs : List AV} {v : AV} {bs bs2 : List Blk} (hc : chkFn P f i = true) (hb : bnds bs.length vs = true) (hl : bs.length ≤ bs2.length) (hV : V P bs.length i.body (endX i.res (UpdZ bs.length v bs2)) (argsT vs 0 .leaf) (mkH 0 bs)) : Upd P f vs bs v bs2 :=
  ⟨hb, hl, (SC.mk hc (V_sound hV)).mono fun _ _ hz => hz.w hl⟩
theorem Upd.sc {f : Nat} {vs : List AV} {bs bs2 : List Blk} {v : AV} {h : Hp} {k : AV → Hp → Prop} (at' : List Nat) (hu : Upd P f vs bs v bs2) (l : Lent h at' bs) (hk : k (rnv (gAt at' h.sz) v) (backH h at' bs2)) : SC P f (rnvs (gAt at' h.sz) vs) h k := by
  obtain ⟨hb, hle, hu⟩ := hu
  refine ⟨hu.1, fun ρ B w args r ha => ?_⟩
  have hle' : at'.length ≤ bs2.length := by rw [l.len]; exact hle
  have ha' : VRs σ0 (ρ.small at' h.sz) vs args.toList := VRs.nr (ρ := ρ) (ρs := ρ.small at' h.sz) (g := gAt at' h.sz) (m := bs.length) (fun b L hbm hbL => by
    show (if b < at'.length then ρ (gAt at' h.sz b) else none) = some L
    rw [if_pos (by rw [l.len]; exact hbm)]; exact hbL) rfl l.len hb ha
  refine CallsX.mono (hu.2 (ρ.small at' h.sz) (Bar ρ B h at') w args (r.small l) ha') ?_
  rintro e w1 ⟨v0, v', h1, ρ1, rfl, g1, g2, g3, g4⟩
  have hw : Wk bs.length (mkT [(0, v0)]) h1 (mkT [(0, v)]) (mkH 0 bs2) := g1 g4.fl
  obtain ⟨ρ2, t2, r2, k2⟩ := hw ρ1 (Bar ρ B h at') w1 #[v'] (fun j x hj => by
    have := mkT_get hj
    simp at this
    obtain ⟨rfl, rfl⟩ := this
    exact ⟨by simp, by simpa using g2⟩) g3
  have hv2 : VR σ0 ρ2 v v' := by
    have := (t2 0 v (by simp [mkT, Tr.get_set])).2
    simpa using this
  have he : ∀ i, i < at'.length → ρ2 i = ρ.small at' h.sz i := fun i hi => (k2.ext i (by rw [← l.len]; exact hi)).trans (g4.ext i (by rw [mkH_sz, ← l.len]; exact hi))
  have f1 : ∀ k a, ρ.frz k = some a → ρ2.frz k = some a := fun k a hk => k2.frz k a (g4.frz k a hk)
  have f2 : ∀ k a, ρ2.frz k = some a → ρ.frz k = some a ∨ ¬ Bar ρ B h at' k := fun k a hk => (k2.fnew k a hk).elim (g4.fnew k a) .inr
  obtain ⟨up, big⟩ := Rel.back r l r2 hle' he g4.pres g4.wle f1 f2
  have nle : ∀ b, b < ρ2.n → gAt at' h.sz b < (ρ.back ρ2 at' h.sz bs2.length).n := by
    intro b hb
    have hb2 : b < bs2.length := Nat.lt_of_lt_of_le hb r2.dn
    show _ < h.sz + (bs2.length - at'.length)
    by_cases hbm : b < at'.length
    · have hbm' : b < bs.length := by rw [← l.len]; exact hbm
      obtain ⟨_, _, _, _, _, _, _, h6⟩ := l.blk b bs[b] (List.getElem?_eq_getElem hbm')
      omega
    · rw [gAt_hi (by omega)]; omega
  refine ⟨_, v', _, ρ.back ρ2 at' h.sz bs2.length, rfl, hk, VR.rn up (fun _ _ h => h) nle hv2, big, ?_⟩
  refine ⟨fun b hb => ?_, by rw [backH_sz]; omega, backH_fl, fun b hf hb => backH_old hb (fun hm => ?_), fun k hk => g4.pres k (.inl hk), g4.wle, g4.io, f1, fun k a hk => (f2 k a hk).imp id (fun hh hB => hh (.inl hB)), Nat.le_trans r.dn (Nat.le_add_right _ _)⟩
  · show (if b < h.sz then ρ b else _) = ρ b
    rw [if_pos hb]
  · obtain ⟨i, hi, rfl⟩ := List.getElem_of_mem hm
    have hi' : i < bs.length := by rw [← l.len]; exact hi
    obtain ⟨_, _, _, _, _, _, h5, _⟩ := l.blk i bs[i] (List.getElem?_eq_getElem hi')
    rw [gAt_lo hi] at h5
    omega
end Go.Kc
end
section
/- Frames, written out. No condition. -/
namespace Go.Kc
variable {P : Program} {h : Hp}

/-- the blocks lent, one by one -/
def lentL (h : Hp) (g : Nat → Nat) (m : Nat) : List Nat → List Blk → Prop
  | [], [] => True
  | b :: at', .cells e true a cs :: xs => (bnds m cs = true ∧ evB (h.tr.get b) (fun y => y = Blk.cells e true a (rnvs g cs)) ∧ h.fl ≤ b ∧ b < h.sz) ∧ lentL h g m at' xs
  | _, _ => False
theorem lentL.get {g : Nat → Nat} {m : Nat} : ∀ {at' : List Nat} {bs : List Blk}, lentL h g m at' bs → at'.length = bs.length ∧ ∀ (i : Nat) (x : Blk), bs[i]? = some x → ∃ b e a cs, at'[i]? = some b ∧ x = .cells e true a cs ∧ bnds m cs = true ∧ h.tr.get b = some (.cells e true a (rnvs g cs)) ∧ h.fl ≤ b ∧ b < h.sz
  | [], [], _ => ⟨rfl, by simp⟩
  | [], _ :: _, hh => by simp [lentL] at hh
  | _ :: _, [], hh => by simp [lentL] at hh
  | b :: at', .dead :: xs, hh => by simp [lentL] at hh
  | b :: at', .map _ :: xs, hh => by simp [lentL] at hh
  | b :: at', .cells e false a cs :: xs, hh => by simp [lentL] at hh
  | b :: at', .cells e true a cs :: xs, hh => by
    obtain ⟨⟨h1, ⟨y, h2, h3⟩, h4, h5⟩, h6⟩ := hh
    subst h3
    obtain ⟨h7, h8⟩ := lentL.get h6
    refine ⟨by simp [h7], fun i x hx => ?_⟩
    cases i with
    | zero => simp at hx; subst hx; exact ⟨b, e, a, cs, rfl, rfl, h1, h2, h4, h5⟩
    | succ i => simpa using h8 i x (by simpa using hx)
theorem Lent.of {at' : List Nat} {bs : List Blk} (hn : at'.Nodup) (hl : lentL h (gAt at' h.sz) bs.length at' bs) : Lent h at' bs := by
  obtain ⟨h1, h2⟩ := hl.get
  refine ⟨h1, hn, fun i x hx => ?_⟩
  obtain ⟨b, e, a, cs, q1, q2, q3, q4, q5, q6⟩ := h2 i x hx
  have hi : i < at'.length := (List.getElem?_eq_some_iff.1 q1).1
  have e1 : gAt at' h.sz i = b := by
    rw [gAt_lo hi]
    exact (List.getElem?_eq_some_iff.1 q1).2
  exact ⟨e, a, cs, q2, q3, by rw [e1]; exact q4, by rw [e1]; exact q5, by rw [e1]; exact q6⟩
theorem lent_nil {g : Nat → Nat} {m : Nat} : lentL h g m [] [] ↔ True := Iff.rfl
theorem lent_cons {g : Nat → Nat} {m b e : Nat} {at' : List Nat} {a : Bool} {cs : List AV} {xs : List Blk} : lentL h g m (b :: at') (.cells e true a cs :: xs) ↔ (bnds m cs = true ∧ evB (h.tr.get b) (fun y => y = Blk.cells e true a (rnvs g cs)) ∧ h.fl ≤ b ∧ b < h.sz) ∧ lentL h g m at' xs := Iff.rfl
theorem hput_mk {s f b : Nat} {tr : Tr Blk} {x : Blk} : Hp.put ⟨s, f, tr⟩ b x = ⟨s, f, tr.set b x⟩ := rfl
theorem puts_nil {xs : List Blk} : puts h [] xs = h := by simp [puts]
theorem puts_cons {b : Nat} {at' : List Nat} {x : Blk} {xs : List Blk} : puts h (b :: at') (x :: xs) = puts (h.put b x) at' xs := rfl
theorem rnv_clo {g : Nat → Nat} {v : AV} (hv : clo v = true) : rnv g v = v := by
  have key : (∀ v : AV, clo v = true → rnv g v = v) := fun v => by
    refine AV.rec (motive_1 := fun v => clo v = true → rnv g v = v) (motive_2 := fun vs => clos vs = true → rnvs g vs = vs) ?_ ?_ ?_ ?_ ?_ ?_ ?_ ?_ ?_ ?_ ?_ ?_ ?_ ?_ ?_ ?_ ?_ ?_ ?_ ?_ ?_ ?_ ?_ ?_ v
    all_goals first
      | (intros; rfl)
      | (intros; rename_i hh; simp [clo] at hh; done)
      | skip
    · intro f a c h1 h2 hh
      simp only [clo, Bool.and_eq_true] at hh
      simp only [rnv, h1 hh.1, h2 hh.2]
    · intro t v h1 hh
      simp only [clo] at hh
      simp only [rnv, h1 hh]
    · intro cs h1 hh
      simp only [clo] at hh
      simp only [rnv, h1 hh]
    · intro cs h1 hh
      simp only [clo] at hh
      simp only [rnv, h1 hh]
    · intro v vs h1 h2 hh
      simp only [clos, Bool.and_eq_true] at hh
      simp only [rnvs, h1 hh.1, h2 hh.2]
  exact key v hv
theorem rnvs_clo {g : Nat → Nat} : ∀ {vs : List AV}, clos vs = true → rnvs g vs = vs
  | [], _ => rfl
  | v :: vs, h => by
    simp only [clos, Bool.and_eq_true] at h
    simp only [rnvs, rnv_clo h.1, rnvs_clo h.2]
/-! ### states where dead blocks may share a name -/
def live : Blk → Bool
  | .dead => false
  | _ => true
theorem nodup_inj {α β : Type} {f : α → β} {p : α → Bool} : ∀ {l : List α}, ((l.filter p).map f).Nodup → ∀ {i j : Nat} {x y : α}, l[i]? = some x → l[j]? = some y → p x = true → p y = true → f x = f y → i = j
  | [], _, i, j, x, y, hi, _, _, _, _ => by simp at hi
  | a :: l, hn, i, j, x, y, hi, hj, hx, hy, he => by
    have tail : ((l.filter p).map f).Nodup := by
      rw [List.filter_cons] at hn
      split at hn
      · exact (List.nodup_cons.1 hn).2
      · exact hn
    have no : ∀ {z : α} {m : Nat}, l[m]? = some z → p z = true → p a = true → f a = f z → False := by
      intro z m hz hpz hpa hfz
      rw [List.filter_cons, if_pos hpa] at hn
      exact (List.nodup_cons.1 hn).1 (hfz ▸ List.mem_map_of_mem (List.mem_filter.2 ⟨List.mem_of_getElem? hz, hpz⟩))
    cases i with
    | zero =>
      simp at hi; subst hi
      cases j with
      | zero => rfl
      | succ j => exact (no (by simpa using hj) hy hx he).elim
    | succ i =>
      cases j with
      | zero => simp at hj; subst hj; exact (no (by simpa using hi) hx hy he.symm).elim
      | succ j =>
        have hij : i = j := nodup_inj tail (i := i) (j := j) (by simpa using hi) (by simpa using hj) hx hy he
        rw [hij]
theorem Wk.mkd {n : Nat} {t : Tr AV} (ts : List (Nat × AV)) (bl : List Blk) (src : List Nat) (hT : TWs t (rl src h.sz) bl.length ts) (hB : BWs h (rl src h.sz) bl.length src bl)
    (hI : (((src.zip bl).filter fun p => decide (p.1 < h.sz) && live p.2).map Prod.fst).Nodup) (hfl : h.fl = 0) (hn : n ≤ bl.length) (hlow : ∀ b, b < n → rl src h.sz b = b) : Wk n t h (mkT ts) (mkH 0 bl) := by
  obtain ⟨hlen, hget⟩ := hB.get
  refine Wk.of (r := rl src h.sz) ⟨hfl.symm, fun b' x' hb hg => ?_, fun b1 b2 h1 h2 l1 l2 he hl => ?_, fun b' _ _ _ => by rw [hfl]; exact Nat.zero_le _, hlow, hn, fun b _ hb => by rw [hfl] at hb; exact absurd hb (Nat.not_lt_zero _), fun j v' hj => ?_⟩
  · rw [mkH_get] at hg
    obtain ⟨b, q1, q2⟩ := hget b' x' hg
    have : rl src h.sz b' = b := by simp [rl, List.getD_eq_getElem?_getD, q1]
    rw [this]; exact q2
  · obtain ⟨x1, g1, d1⟩ := l1
    obtain ⟨x2, g2, d2⟩ := l2
    rw [mkH_get] at g1 g2
    obtain ⟨c1, q1, _⟩ := hget b1 x1 g1
    obtain ⟨c2, q2, _⟩ := hget b2 x2 g2
    have e1 : rl src h.sz b1 = c1 := by simp [rl, List.getD_eq_getElem?_getD, q1]
    have e2 : rl src h.sz b2 = c2 := by simp [rl, List.getD_eq_getElem?_getD, q2]
    rw [e1, e2] at he
    rw [e1] at hl
    have v1 : live x1 = true := by cases x1 <;> first | rfl | exact absurd rfl d1
    have v2 : live x2 = true := by cases x2 <;> first | rfl | exact absurd rfl d2
    refine nodup_inj hI (i := b1) (j := b2) (x := (c1, x1)) (y := (c2, x2)) ?_ ?_ ?_ ?_ he
    · rw [List.getElem?_zip_eq_some]; exact ⟨q1, g1⟩
    · rw [List.getElem?_zip_eq_some]; exact ⟨q2, g2⟩
    · simp [hl, v1]
    · simp [← he, hl, v2]
  · exact hT.get _ (mkT_get hj)
theorem nilCh_ptr {b o : Nat} {k : AV → Prop} : nilCh (.ptr b o) k ↔ k (.ptr b o) := Iff.rfl
theorem nilCh_pf {cs : List AV} {o : Nat} {k : AV → Prop} : nilCh (.pf cs o) k ↔ k (.pf cs o) := Iff.rfl
theorem nilCh_map {b : Nat} {k : AV → Prop} : nilCh (.map b) k ↔ k (.map b) := Iff.rfl
theorem nilCh_fn {f : Nat} {a c : List AV} {k : AV → Prop} : nilCh (.fn f a c) k ↔ k (.fn f a c) := Iff.rfl
theorem vr_down {C : CallsB} {ops : List ROp} {Q : Tr AV → Hp → Prop} {t : Tr AV} {s f f' : Nat} {tr : Tr Blk} : VR' C ops Q t (Hp.down ⟨s, f, tr⟩ f') ↔ VR' C ops Q t ⟨s, f', tr⟩ := Iff.rfl
theorem vr_op {C : CallsB} {ops : List ROp} {Q : Tr AV → Hp → Prop} {t : Tr AV} {s f : Nat} {tr : Tr Blk} {dst : Option Nat} {o : IOp} : VR' C (⟨dst, .op o, none⟩ :: ops) Q t ⟨s, f, tr⟩ ↔
    if wr (.op o) = true then opK orc0 o t ⟨s, f, tr⟩ (fun v h' => dstK t dst v (fun t' => VR' C ops Q t' h')) else opK orc0 o t ⟨s, s, tr⟩ (fun v h' => dstK t dst v (fun t' => VR' C ops Q t' (h'.down f))) := VR'_op
theorem vr_nil {C : CallsB} {Q : Tr AV → Hp → Prop} {t : Tr AV} {s f : Nat} {tr : Tr Blk} : VR' C [] Q t ⟨s, f, tr⟩ ↔ Q t ⟨s, f, tr⟩ := Iff.rfl
theorem bnd_clo {m : Nat} : ∀ {v : AV}, clo v = true → bnd m v = true := by
  intro v
  refine AV.rec (motive_1 := fun v => clo v = true → bnd m v = true) (motive_2 := fun vs => clos vs = true → bnds m vs = true) ?_ ?_ ?_ ?_ ?_ ?_ ?_ ?_ ?_ ?_ ?_ ?_ ?_ ?_ ?_ ?_ ?_ ?_ ?_ ?_ ?_ ?_ ?_ ?_ v
  all_goals first
    | (intros; rfl)
    | (intros; rename_i hh; simp [clo] at hh; done)
    | skip
  · intro f a c h1 h2 hh
    simp only [clo, Bool.and_eq_true] at hh
    simp only [bnd, h1 hh.1, h2 hh.2, Bool.and_self]
  · intro t v h1 hh
    simp only [clo] at hh
    simp only [bnd, h1 hh]
  · intro cs h1 hh
    simp only [clo] at hh
    simp only [bnd, h1 hh]
  · intro cs h1 hh
    simp only [clo] at hh
    simp only [bnd, h1 hh]
  · intro v vs h1 h2 hh
    simp only [clos, Bool.and_eq_true] at hh
    simp only [bnds, h1 hh.1, h2 hh.2, Bool.and_self]
theorem bnds_clo {m : Nat} : ∀ {vs : List AV}, clos vs = true → bnds m vs = true
  | [], _ => rfl
  | v :: vs, h => by
    simp only [clos, Bool.and_eq_true] at h
    simp only [bnds, bnd_clo h.1, bnds_clo h.2, Bool.and_self]
end Go.Kc
end
section
/- One name for the lemmas that every walk names. No condition. -/
namespace Go.Kc
def vQ := And.intro @List.map_cons.{0,0} (And.intro @List.map_nil.{0,0} (And.intro @Bool.and_true (And.intro @Bool.true_and (And.intro @Bool.and_self (And.intro @and_self (And.intro @Tr.get_set (And.intro @decide_eq_true_eq (And.intro @Bool.false_eq_true (And.intro @true_and (And.intro @and_true (And.intro @List.getElem?_cons_zero.{0} (And.intro @List.getElem?_cons_succ.{0} (And.intro @List.length_cons.{0} (And.intro @List.length_nil.{0} (And.intro @List.take_zero.{0} (And.intro @List.take_succ_cons.{0} (And.intro @List.drop_zero.{0} (And.intro @List.drop_succ_cons.{0} (And.intro @List.drop_nil.{0} (And.intro @List.take_nil.{0} (And.intro @List.nil_append.{0} (And.intro @List.cons_append.{0} (And.intro @List.append_nil.{0} (And.intro @Nat.zero_add (And.intro @Nat.add_zero (And.intro @Nat.le_refl (And.intro @Nat.zero_le (And.intro @Int.toNat_natCast (And.intro @Int.natCast_nonneg (And.intro @Int.ofNat_lt (And.intro @Bool.not_true (And.intro @Bool.not_false (And.intro @decide_true (And.intro @decide_false (And.intro @Bool.xor_false (And.intro @Bool.xor_true (And.intro @Bool.false_xor (And.intro @Bool.true_xor (And.intro @Nat.lt_irrefl (And.intro @List.replicate_succ.{0} (And.intro @List.replicate_zero.{0} (And.intro @List.flatten_cons.{0} (And.intro @List.flatten_nil.{0} (And.intro @Nat.succ_eq_add_one (And.intro @Option.isNone_none.{0} (And.intro @Option.isSome_none.{0} (And.intro @Bool.false_and (And.intro @Bool.and_false (And.intro @Nat.sub_zero (And.intro @puts_nil (And.intro @puts_cons (And.intro @hput_mk (And.intro @itAt_it (And.intro @push_mk (And.intro @pushs_nil (And.intro @pushs_cons @List.append_assoc.{0}))))))))))))))))))))))))))))))))))))))))))))))))))))))))
def vX := And.intro @vr_down (And.intro @vr_op (And.intro @vr_nil (And.intro @pc_callF (And.intro @op_rangeS (And.intro @op_nextS (And.intro @nilCh_ptr (And.intro @nilCh_pf (And.intro @nilCh_map @nilCh_fn))))))))
end Go.Kc
end
section
/- A row that is written no more becomes a row that stays as it is. No condition. -/
namespace Go.Kc
variable {P : Program}

/-! ### a row, frozen -/
mutual
def fzv (b e : Nat) (cs : List AV) : AV → AV
  | .own b' n => if b' = b then .fz n (if n = 0 then [] else cs) else .own b' n
  | .ptr b' o => if b' = b then .pf cs o else .ptr b' o
  | .sl b' o n c l => if b' = b then (if n ≤ c then .fz n ((cs.drop o).take (n * e)) else .undef) else .sl b' o n c l
  | .map b' => if b' = b then .undef else .map b'
  | .fn f x c => .fn f (fzvs b e cs x) (fzvs b e cs c)
  | .ifc t v => .ifc t (fzv b e cs v)
  | .agg l => .agg (fzvs b e cs l)
  | .tup l => .tup (fzvs b e cs l)
  | v => v
def fzvs (b e : Nat) (cs : List AV) : List AV → List AV
  | [] => []
  | v :: vs => fzv b e cs v :: fzvs b e cs vs
end
def fzB (b e : Nat) (cs : List AV) : Blk → Blk
  | .cells k w a l => .cells k w a (fzvs b e cs l)
  | .dead => .dead
  | .map es => .map es
theorem fzvs_get {b e : Nat} {cs : List AV} : ∀ {vs : List AV} {j : Nat}, (fzvs b e cs vs)[j]? = (vs[j]?).map (fzv b e cs)
  | [], j => by simp [fzvs]
  | v :: vs, 0 => by simp [fzvs]
  | v :: vs, j + 1 => by simpa [fzvs] using fzvs_get (vs := vs) (j := j)
theorem fzvs_length {b e : Nat} {cs : List AV} : ∀ {vs : List AV}, (fzvs b e cs vs).length = vs.length
  | [] => rfl
  | v :: vs => by simp [fzvs, fzvs_length (vs := vs)]
theorem fzv_clo {b e : Nat} {cs : List AV} {v : AV} (hv : clo v = true) : fzv b e cs v = v := by
  refine AV.rec (motive_1 := fun v => clo v = true → fzv b e cs v = v) (motive_2 := fun vs => clos vs = true → fzvs b e cs vs = vs) ?_ ?_ ?_ ?_ ?_ ?_ ?_ ?_ ?_ ?_ ?_ ?_ ?_ ?_ ?_ ?_ ?_ ?_ ?_ ?_ ?_ ?_ ?_ ?_ v hv
  all_goals first
    | (intros; rfl)
    | (intros; rename_i hh; simp [clo] at hh; done)
    | skip
  · intro f a c h1 h2 hh
    simp only [clo, Bool.and_eq_true] at hh
    simp only [fzv, h1 hh.1, h2 hh.2]
  · intro t v h1 hh
    simp only [clo] at hh
    simp only [fzv, h1 hh]
  · intro cs h1 hh
    simp only [clo] at hh
    simp only [fzv, h1 hh]
  · intro cs h1 hh
    simp only [clo] at hh
    simp only [fzv, h1 hh]
  · intro v vs h1 h2 hh
    simp only [clos, Bool.and_eq_true] at hh
    simp only [fzvs, h1 hh.1, h2 hh.2]
theorem fzvs_clo {b e : Nat} {cs : List AV} : ∀ {vs : List AV}, clos vs = true → fzvs b e cs vs = vs
  | [], _ => rfl
  | v :: vs, h => by
    simp only [clos, Bool.and_eq_true] at h
    simp only [fzvs, fzv_clo h.1, fzvs_clo h.2]
theorem CRs.cut {φ : Nat → Option (Array Value)} : ∀ {cs : List AV} {vs : List Value} (o m : Nat), CRs σ0 φ cs (vs.take cs.length) → CRs σ0 φ ((cs.drop o).take m) ((vs.drop o).take ((cs.drop o).take m).length)
  | [], vs, o, m, h => by simp; exact .nil
  | c :: cs, [], o, m, h => by simp at h; cases h
  | c :: cs, v :: vs, 0, 0, h => by simp; exact .nil
  | c :: cs, v :: vs, 0, m + 1, h => by
    simp only [List.length_cons, List.take_succ_cons] at h
    cases h with
    | cons _ _ _ _ h1 h2 =>
      have := CRs.cut 0 m h2
      simp only [List.drop_zero] at this
      simp only [List.drop_zero, List.take_succ_cons, List.length_cons]
      exact .cons _ _ _ _ h1 this
  | c :: cs, v :: vs, o + 1, m, h => by
    simp only [List.length_cons, List.take_succ_cons] at h
    cases h with
    | cons _ _ _ _ h1 h2 => simpa using CRs.cut o m h2
/-- the names where a row is frozen -/
def Ren.iced (ρ : Ren) (b k : Nat) (arr : Array Value) : Ren := ⟨fun b' => if b' = b then none else ρ b', fun k' => if k' = k then some arr else ρ.frz k', ρ.n⟩
mutual
theorem VR.iced {ρ : Ren} {b e : Nat} {cs : List AV} {L : Loc} {arr : Array Value} (hL : ∀ L', ρ b = some L' → L' = L) (hf : ∀ k a, ρ.frz k = some a → (ρ.iced b L.blk arr).frz k = some a)
    (hs : CRs σ0 (ρ.iced b L.blk arr).frz cs ((arr.toList.drop L.off).take cs.length)) : ∀ {v : AV} {x : Value}, VR σ0 ρ v x → VR σ0 (ρ.iced b L.blk arr) (fzv b e cs v) x
  | _, _, .undef v => .undef v
  | _, _, .b x => .b x
  | _, _, .i k n => .i k n
  | _, _, .s x => .s x
  | _, _, .nilp => .nilp
  | _, _, .ptr b' o L' h => by
    simp only [fzv]
    split
    · rename_i hb; subst hb
      obtain rfl := hL _ h
      refine .pf o L'.off cs L'.blk arr (by simp [Ren.iced]) hs
    · rename_i hb
      exact .ptr _ _ L' (by simp only [Ren.iced]; rw [if_neg hb]; exact h)
  | _, _, .nils => .nils
  | _, _, .sl b' o n cap c l L' h hc => by
    simp only [fzv]
    split
    · rename_i hb; subst hb
      obtain rfl := hL _ h
      split
      · rename_i hn
        refine .fz n (L'.off + o) c _ L'.blk arr (by omega) (by simp [Ren.iced]) ?_
        have := CRs.cut o (n * e) hs
        rw [List.drop_drop] at this
        exact this
      · exact .undef _
    · rename_i hb
      exact .sl _ _ _ _ _ _ L' (by simp only [Ren.iced]; rw [if_neg hb]; exact h) hc
  | _, _, .slz b' o x l L' h => by
    simp only [fzv]
    split
    · simp; exact .fz0 _
    · rename_i hb
      exact .slz _ _ _ _ L' (by simp only [Ren.iced]; rw [if_neg hb]; exact h)
  | _, _, .nilf => .nilf
  | _, _, .fn f first cap first' cap' h1 h2 => .fn _ _ _ _ _ (VRs.iced hL hf hs h1) (VRs.iced hL hf hs h2)
  | _, _, .nili => .nili
  | _, _, .ifc t v v' h => .ifc _ _ _ (VR.iced hL hf hs h)
  | _, _, .agg l l' h => .agg _ _ (VRs.iced hL hf hs h)
  | _, _, .tup l l' h => .tup _ _ (VRs.iced hL hf hs h)
  | _, _, .nilm => .nilm
  | _, _, .map b' L' h h0 => by
    simp only [fzv]
    split
    · exact .undef _
    · rename_i hb
      exact .map _ L' (by simp only [Ren.iced]; rw [if_neg hb]; exact h) h0
  | _, _, .sym j => .sym j
  | _, _, .fz n off c l k a hn h h2 => .fz n off c l k a hn (hf _ _ h) (h2.mono hf)
  | _, _, .fz0 a => .fz0 a
  | _, _, .pf off base l k a h h2 => .pf off base l k a (hf _ _ h) (h2.mono hf)
  | _, _, .e0 a => .e0 a
  | _, _, .nz a c => .nz a c
  | _, _, .own0 b' a hb => by
    simp only [fzv]
    split
    · simp; exact .fz0 _
    · exact .own0 _ _ hb
  | _, _, .own b' n c L' h hn hc => by
    simp only [fzv]
    split
    · rename_i hb; subst hb
      obtain rfl := hL _ h
      split
      · rename_i h0
        subst h0
        exact .fz 0 L'.off c [] L'.blk arr (by omega) (by simp [Ren.iced]) (by simp; exact .nil)
      · exact .fz n L'.off c cs L'.blk arr hn (by simp [Ren.iced]) hs
    · rename_i hb
      exact .own _ _ _ L' (by simp only [Ren.iced]; rw [if_neg hb]; exact h) hn hc
theorem VRs.iced {ρ : Ren} {b e : Nat} {cs : List AV} {L : Loc} {arr : Array Value} (hL : ∀ L', ρ b = some L' → L' = L) (hf : ∀ k a, ρ.frz k = some a → (ρ.iced b L.blk arr).frz k = some a)
    (hs : CRs σ0 (ρ.iced b L.blk arr).frz cs ((arr.toList.drop L.off).take cs.length)) : ∀ {v : List AV} {x : List Value}, VRs σ0 ρ v x → VRs σ0 (ρ.iced b L.blk arr) (fzvs b e cs v) x
  | _, _, .nil => .nil
  | _, _, .cons v vs v' vs' h h2 => .cons _ _ _ _ (VR.iced hL hf hs h) (VRs.iced hL hf hs h2)
end
mutual
theorem VR.iced0 {ρ : Ren} {b e : Nat} {cs : List AV} (hL : ρ b = none) : ∀ {v : AV} {x : Value}, VR σ0 ρ v x → VR σ0 ρ (fzv b e cs v) x
  | _, _, .undef v => .undef v
  | _, _, .b x => .b x
  | _, _, .i k n => .i k n
  | _, _, .s x => .s x
  | _, _, .nilp => .nilp
  | _, _, .ptr b' o L' h => by
    simp only [fzv]
    split
    · rename_i hb; subst hb; rw [hL] at h; cases h
    · exact .ptr _ _ L' h
  | _, _, .nils => .nils
  | _, _, .sl b' o n cap c l L' h hc => by
    simp only [fzv]
    split
    · rename_i hb; subst hb; rw [hL] at h; cases h
    · exact .sl _ _ _ _ _ _ L' h hc
  | _, _, .slz b' o x l L' h => by
    simp only [fzv]
    split
    · simp; exact .fz0 _
    · exact .slz _ _ _ _ L' h
  | _, _, .nilf => .nilf
  | _, _, .fn f first cap first' cap' h1 h2 => .fn _ _ _ _ _ (VRs.iced0 hL h1) (VRs.iced0 hL h2)
  | _, _, .nili => .nili
  | _, _, .ifc t v v' h => .ifc _ _ _ (VR.iced0 hL h)
  | _, _, .agg l l' h => .agg _ _ (VRs.iced0 hL h)
  | _, _, .tup l l' h => .tup _ _ (VRs.iced0 hL h)
  | _, _, .nilm => .nilm
  | _, _, .map b' L' h h0 => by
    simp only [fzv]
    split
    · exact .undef _
    · exact .map _ L' h h0
  | _, _, .sym j => .sym j
  | _, _, .fz n off c l k a hn h h2 => .fz n off c l k a hn h h2
  | _, _, .fz0 a => .fz0 a
  | _, _, .pf off base l k a h h2 => .pf off base l k a h h2
  | _, _, .e0 a => .e0 a
  | _, _, .nz a c => .nz a c
  | _, _, .own0 b' a hb => by
    simp only [fzv]
    split
    · simp; exact .fz0 _
    · exact .own0 _ _ hb
  | _, _, .own b' n c L' h hn hc => by
    simp only [fzv]
    split
    · rename_i hb; subst hb; rw [hL] at h; cases h
    · exact .own _ _ _ L' h hn hc
theorem VRs.iced0 {ρ : Ren} {b e : Nat} {cs : List AV} (hL : ρ b = none) : ∀ {v : List AV} {x : List Value}, VRs σ0 ρ v x → VRs σ0 ρ (fzvs b e cs v) x
  | _, _, .nil => .nil
  | _, _, .cons v vs v' vs' h h2 => .cons _ _ _ _ (VR.iced0 hL h) (VRs.iced0 hL h2)
end
theorem Wk.freeze {n : Nat} {ts : List (Nat × AV)} {bl : List Blk} (b e e' : Nat) {a : Bool} {cs : List AV} (hb : bl[b]? = some (.cells e' true a cs)) (hc : clos cs = true) (hn : n ≤ b) (hm : ∀ es, Blk.map es ∈ bl → mapClo es) :
    Wk n (mkT ts) (mkH 0 bl) (mkT (ts.map fun p => (p.1, fzv b e cs p.2))) (mkH 0 ((bl.map (fzB b e cs)).set b .dead)) := by
  intro ρ B w tm ht r
  have hlt : b < bl.length := (List.getElem?_eq_some_iff.1 hb).1
  have hgb : (mkH 0 bl).tr.get b = some (.cells e' true a cs) := by rw [mkH_get]; exact hb
  have tget : ∀ (ts : List (Nat × AV)) (j : Nat), (mkT (ts.map fun p => (p.1, fzv b e cs p.2))).get j = ((mkT ts).get j).map (fzv b e cs) := by
    intro ts j
    induction ts with
    | nil => simp [mkT]
    | cons p l ih =>
      simp only [List.map_cons, mkT, Tr.get_set]
      split
      · rfl
      · exact ih
  have hget : ∀ b', b' ≠ b → (mkH 0 ((bl.map (fzB b e cs)).set b .dead)).tr.get b' = ((mkH 0 bl).tr.get b').map (fzB b e cs) := by
    intro b' hne
    rw [mkH_get, mkH_get, List.getElem?_set_ne (Ne.symm hne), List.getElem?_map]
  have hgd : (mkH 0 ((bl.map (fzB b e cs)).set b .dead)).tr.get b = some .dead := by
    rw [mkH_get, List.getElem?_set_self (by simpa using hlt)]
  -- a live block of the new heap comes from one of the old
  have live : ∀ b' x, (mkH 0 ((bl.map (fzB b e cs)).set b .dead)).tr.get b' = some x → x ≠ .dead → b' ≠ b ∧ ∃ y, (mkH 0 bl).tr.get b' = some y ∧ x = fzB b e cs y ∧ y ≠ .dead := by
    intro b' x hx hd
    have hne : b' ≠ b := by
      rintro rfl; rw [hgd] at hx; cases hx; exact hd rfl
    rw [hget b' hne] at hx
    cases hy : (mkH 0 bl).tr.get b' with
    | none => rw [hy] at hx; simp at hx
    | some y =>
      rw [hy] at hx
      simp at hx
      exact ⟨hne, y, rfl, hx.symm, by rintro rfl; subst hx; exact hd rfl⟩
  have hsz : (mkH 0 ((bl.map (fzB b e cs)).set b .dead)).sz = bl.length := by simp [mkH_sz]
  cases hρ : ρ b with
  | none =>
    refine ⟨ρ, fun j v hj => ?_, ⟨?_, ?_, ?_, ?_, ?_, ?_, ?_, r.base, ?_, ?_⟩, ⟨fun _ _ => rfl, by rw [hsz]; omega, rfl, fun b' hb' => by simp [mkH_fl] at hb', fun _ _ => rfl, Nat.le_refl _, ⟨rfl, rfl⟩, fun _ _ h => h, fun _ _ h => .inl h, fun _ _ h => h⟩⟩
    · rw [tget] at hj
      cases hv : (mkT ts).get j with
      | none => rw [hv] at hj; simp at hj
      | some v0 =>
        rw [hv] at hj; simp at hj; subst hj
        exact ⟨(ht j v0 hv).1, VR.iced0 hρ (ht j v0 hv).2⟩
    · intro b' L h1; rw [hsz]; exact r.dom b' L h1
    · intro b' L e1 wf af cs' h1 h2
      obtain ⟨h3, y, h4, h5, h6⟩ := live b' _ h2 (by simp)
      cases y with
      | cells k w0 a0 l =>
        simp only [fzB, Blk.cells.injEq] at h5
        obtain ⟨rfl, rfl, rfl, rfl⟩ := h5
        obtain ⟨q1, c, ty, fz, q2, q3, q4, q5, q6⟩ := r.cells b' L _ _ _ l h1 h4
        refine ⟨q1, c, ty, fz, q2, q3, by rw [fzvs_length]; exact q4, fun j v hv => ?_, q6⟩
        rw [fzvs_get] at hv
        cases hj : l[j]? with
        | none => rw [hj] at hv; simp at hv
        | some v0 =>
          rw [hj] at hv; simp at hv; subst hv
          obtain ⟨v', g1, g2⟩ := q5 j v0 hj
          exact ⟨v', g1, VR.iced0 hρ g2⟩
      | dead => simp [fzB] at h5
      | map es => simp [fzB] at h5
    · intro b' L es h1 h2
      obtain ⟨h3, y, h4, h5, h6⟩ := live b' _ h2 (by simp)
      cases y with
      | cells k w0 a0 l => simp [fzB] at h5
      | dead => simp [fzB] at h5
      | map es' => simp only [fzB, Blk.map.injEq] at h5; subst h5; exact r.maps b' L _ h1 h4
    · intro b1 L1 e1 af1 cs1 h1 h2 b2 L2 x h3 h4 h5 h6
      obtain ⟨g1, y, g2, g3, g4⟩ := live b1 _ h2 (by simp)
      obtain ⟨i1, y2, i2, i3, i4⟩ := live b2 _ h4 h5
      cases y with
      | cells k w0 a0 l =>
        simp only [fzB, Blk.cells.injEq] at g3
        obtain ⟨rfl, rfl, rfl, rfl⟩ := g3
        exact r.excl b1 L1 _ _ l h1 g2 b2 L2 y2 h3 i2 i4 h6
      | dead => simp [fzB] at g3
      | map es => simp [fzB] at g3
    · intro b1 L1 es h1 h2 b2 L2 x h3 h4 h5 h6
      obtain ⟨g1, y, g2, g3, g4⟩ := live b1 _ h2 (by simp)
      obtain ⟨i1, y2, i2, i3, i4⟩ := live b2 _ h4 h5
      cases y with
      | cells k w0 a0 l => simp [fzB] at g3
      | dead => simp [fzB] at g3
      | map es' => simp only [fzB, Blk.map.injEq] at g3; subst g3; exact r.exclm b1 L1 _ h1 g2 b2 L2 y2 h3 i2 i4 h6
    · intro b1 L1 e1 wf1 cs1 h1 h2 b2 L2 e2 wf2 af2 cs2 h3 h4 h6
      obtain ⟨g1, y, g2, g3, g4⟩ := live b1 _ h2 (by simp)
      obtain ⟨i1, y2, i2, i3, i4⟩ := live b2 _ h4 (by simp)
      cases y <;> simp only [fzB, Blk.cells.injEq, reduceCtorEq] at g3
      cases y2 <;> simp only [fzB, Blk.cells.injEq, reduceCtorEq] at i3
      obtain ⟨rfl, rfl, rfl, rfl⟩ := g3
      obtain ⟨rfl, rfl, rfl, rfl⟩ := i3
      rw [fzvs_length, fzvs_length]
      exact r.app b1 L1 _ _ _ h1 g2 b2 L2 _ _ _ _ h3 i2 h6
    · intro b' L h1 h2; exact r.flr b' L h1 (Nat.zero_le _)
    · intro k arr hk
      refine ⟨(r.frz k arr hk).1, fun b' L x h1 h2 h3 => ?_⟩
      obtain ⟨g1, y, g2, g3, g4⟩ := live b' _ h2 h3
      exact (r.frz k arr hk).2 b' L y h1 g2 g4
    · rw [hsz]; exact r.dn
  | some L =>
    obtain ⟨q1, c, ty, fz, q2, q3, q4, q5, q6⟩ := r.cells b L _ _ _ cs hρ hgb
    have hf : ∀ k a, ρ.frz k = some a → (ρ.iced b L.blk c).frz k = some a := by
      intro k a' hk
      simp only [Ren.iced]
      rw [if_neg (fun hh => (r.frz k a' hk).2 b L _ hρ hgb (by simp) hh.symm)]
      exact hk
    have hLs : ∀ L', ρ b = some L' → L' = L := by intro L' h; rw [hρ] at h; cases h; rfl
    have hcr : ∀ (l : List AV) (j : Nat), (∀ i v, l[i]? = some v → ∃ v', c.toList[j + i]? = some v' ∧ VR σ0 ρ v v') → clos l = true → CRs σ0 (ρ.iced b L.blk c).frz l ((c.toList.drop j).take l.length) := by
      intro l
      induction l with
      | nil => intro j _ _; simp; exact .nil
      | cons v l ih =>
        intro j hh hcl
        simp only [clos, Bool.and_eq_true] at hcl
        obtain ⟨v', g1, g2⟩ := hh 0 v rfl
        simp only [Nat.add_zero] at g1
        obtain ⟨hj, rfl⟩ := List.getElem?_eq_some_iff.1 g1
        rw [List.drop_eq_getElem_cons hj, List.length_cons, List.take_succ_cons]
        refine .cons _ _ _ _ ((g2.cr hcl.1).mono hf) (ih (j + 1) (fun i v hi => ?_) hcl.2)
        obtain ⟨v', k1, k2⟩ := hh (i + 1) v (by simpa using hi)
        exact ⟨v', by rw [show j + 1 + i = j + (i + 1) from by omega]; exact k1, k2⟩
    have hs : CRs σ0 (ρ.iced b L.blk c).frz cs ((c.toList.drop L.off).take cs.length) := hcr cs L.off (fun i v hi => by
      obtain ⟨v', g1, g2⟩ := q5 i v hi
      exact ⟨v', by simpa using g1, g2⟩) hc
    have old : ∀ b' L', (ρ.iced b L.blk c) b' = some L' → b' ≠ b ∧ ρ b' = some L' := by
      intro b' L' h
      by_cases hbb : b' = b
      · subst hbb; simp [Ren.iced] at h
      · refine ⟨hbb, ?_⟩
        simp only [Ren.iced] at h
        rw [if_neg hbb] at h; exact h
    refine ⟨ρ.iced b L.blk c, fun j v hj => ?_, ⟨?_, ?_, ?_, ?_, ?_, ?_, ?_, r.base, ?_, ?_⟩, ⟨fun b' hb' => by simp only [Ren.iced]; rw [if_neg (by omega)], by rw [hsz]; omega, rfl, fun b' hb' => by simp [mkH_fl] at hb', fun _ _ => rfl, Nat.le_refl _, ⟨rfl, rfl⟩, hf, fun k a' hk => ?_, fun _ _ h => h⟩⟩
    · rw [tget] at hj
      cases hv : (mkT ts).get j with
      | none => rw [hv] at hj; simp at hj
      | some v0 =>
        rw [hv] at hj; simp at hj; subst hj
        exact ⟨(ht j v0 hv).1, VR.iced hLs hf hs (ht j v0 hv).2⟩
    · intro b' L' h1; rw [hsz]; exact r.dom b' L' (old _ _ h1).2
    · intro b' L' e1 wf af cs' h1 h2
      obtain ⟨h3, y, h4, h5, h6⟩ := live b' _ h2 (by simp)
      cases y with
      | cells k w0 a0 l =>
        simp only [fzB, Blk.cells.injEq] at h5
        obtain ⟨rfl, rfl, rfl, rfl⟩ := h5
        obtain ⟨p1, c', ty', fz', p2, p3, p4, p5, p6⟩ := r.cells b' L' _ _ _ l (old _ _ h1).2 h4
        refine ⟨p1, c', ty', fz', p2, p3, by rw [fzvs_length]; exact p4, fun j v hv => ?_, p6⟩
        rw [fzvs_get] at hv
        cases hj : l[j]? with
        | none => rw [hj] at hv; simp at hv
        | some v0 =>
          rw [hj] at hv; simp at hv; subst hv
          obtain ⟨v', g1, g2⟩ := p5 j v0 hj
          exact ⟨v', g1, VR.iced hLs hf hs g2⟩
      | dead => simp [fzB] at h5
      | map es => simp [fzB] at h5
    · intro b' L' es h1 h2
      obtain ⟨h3, y, h4, h5, h6⟩ := live b' _ h2 (by simp)
      cases y with
      | cells k w0 a0 l => simp [fzB] at h5
      | dead => simp [fzB] at h5
      | map es' =>
        simp only [fzB, Blk.map.injEq] at h5; subst h5
        obtain ⟨p1, o, p2, p3⟩ := r.maps b' L' _ (old _ _ h1).2 h4
        refine ⟨p1, o, p2, ?_⟩
        have hcm : mapClo es := hm es (by rw [mkH_get] at h4; exact List.mem_of_getElem? h4)
        rcases p3 with ⟨p1, vs, clk, p2, p3, p4⟩ | p3
        · exact .inl ⟨p1, vs, clk, p2, p3, fun j e0 he => let ⟨v, a1, a2, a3⟩ := p4 j e0 he
            ⟨v, a1, CR.vr (ρ := ρ.iced b L.blk c) ((a2.cr (hcm e0 (List.mem_of_getElem? he)).1).mono hf), CR.vr (ρ := ρ.iced b L.blk c) ((a3.cr (hcm e0 (List.mem_of_getElem? he)).2).mono hf)⟩⟩
        · exact .inr p3
    · intro b1 L1 e1 af1 cs1 h1 h2 b2 L2 x h3 h4 h5 h6
      obtain ⟨g1, y, g2, g3, g4⟩ := live b1 _ h2 (by simp)
      obtain ⟨i1, y2, i2, i3, i4⟩ := live b2 _ h4 h5
      cases y <;> simp only [fzB, Blk.cells.injEq, reduceCtorEq] at g3
      obtain ⟨rfl, rfl, rfl, rfl⟩ := g3
      exact r.excl b1 L1 _ _ _ (old _ _ h1).2 g2 b2 L2 y2 (old _ _ h3).2 i2 i4 h6
    · intro b1 L1 es h1 h2 b2 L2 x h3 h4 h5 h6
      obtain ⟨g1, y, g2, g3, g4⟩ := live b1 _ h2 (by simp)
      obtain ⟨i1, y2, i2, i3, i4⟩ := live b2 _ h4 h5
      cases y <;> simp only [fzB, Blk.map.injEq, reduceCtorEq] at g3
      subst g3
      exact r.exclm b1 L1 _ (old _ _ h1).2 g2 b2 L2 y2 (old _ _ h3).2 i2 i4 h6
    · intro b1 L1 e1 wf1 cs1 h1 h2 b2 L2 e2 wf2 af2 cs2 h3 h4 h6
      obtain ⟨g1, y, g2, g3, g4⟩ := live b1 _ h2 (by simp)
      obtain ⟨i1, y2, i2, i3, i4⟩ := live b2 _ h4 (by simp)
      cases y <;> simp only [fzB, Blk.cells.injEq, reduceCtorEq] at g3
      cases y2 <;> simp only [fzB, Blk.cells.injEq, reduceCtorEq] at i3
      obtain ⟨rfl, rfl, rfl, rfl⟩ := g3
      obtain ⟨rfl, rfl, rfl, rfl⟩ := i3
      rw [fzvs_length, fzvs_length]
      exact r.app b1 L1 _ _ _ (old _ _ h1).2 g2 b2 L2 _ _ _ _ (old _ _ h3).2 i2 h6
    · intro b' L' h1 h2; exact r.flr b' L' (old _ _ h1).2 (Nat.zero_le _)
    · intro k arr hk
      by_cases hkk : k = L.blk
      · subst hkk
        simp [Ren.iced] at hk
        subst hk
        refine ⟨⟨ty, fz, q2⟩, fun b' L' x h1 h2 h3 h6 => ?_⟩
        obtain ⟨g1, y, g2, g3, g4⟩ := live b' _ h2 h3
        exact g1 (r.excl b L _ _ _ hρ hgb b' L' y (old _ _ h1).2 g2 g4 h6)
      · simp only [Ren.iced] at hk
        rw [if_neg hkk] at hk
        refine ⟨(r.frz k arr hk).1, fun b' L' x h1 h2 h3 => ?_⟩
        obtain ⟨g1, y, g2, g3, g4⟩ := live b' _ h2 h3
        exact (r.frz k arr hk).2 b' L' y (old _ _ h1).2 g2 g4
    · rw [hsz]; exact r.dn
    · simp only [Ren.iced] at hk
      split at hk
      · rename_i hkk; subst hkk
        exact .inr (r.flr b L hρ (Nat.zero_le _))
      · exact .inl hk

/-! ### rows of one's own, as rows that stay -/
theorem Own.pure {f : Nat} {vs : List AV} {v v' : AV} {bs : List Blk} (hcl : clos vs = true) (ho : Own P f vs v bs) (hf : Frz (pushs H0 (bs.map (shb 0))) (shv 0 v) v') : Pure P f vs v' :=
  Pure.of_SC hcl (ho H0 _ hf)
end Go.Kc
end
section
/- Rows of one's own opened to their capacity, and closed again; functions that the model itself answers. No condition. -/
namespace Go.Kc
variable {P : Program} {n : Nat} {t : Tr AV} {h : Hp}

theorem Wk.trans {t1 t2 : Tr AV} {h1 h2 : Hp} (a : Wk n t h t1 h1) (b : Wk n t1 h1 t2 h2) : Wk n t h t2 h2 := by
  intro ρ B w tm ht r
  obtain ⟨ρ1, g1, g2, g3⟩ := a ρ B w tm ht r
  obtain ⟨ρ2, k1, k2, k3⟩ := b ρ1 B w tm g1 g2
  exact ⟨ρ2, k1, k2, g3.trans k3⟩
/-- a slice of a row, the row from its beginning on, as a row of one's own -/
theorem Wk.close (j b x c e q : Nat) {l a : Bool} {cs : List AV} (ht : t.get j = some (.sl b 0 x c l)) (hb : h.tr.get b = some (.cells e true a cs)) (hc : c * e ≤ cs.length) (hx : x ≤ c) (hq : q ≤ cs.length) (hfl : h.fl ≤ b) (hbs : b < h.sz) (hn : n ≤ h.sz) :
    Wk n t h (t.set j (.own b x)) ⟨h.sz, h.fl, h.tr.set b (.cells e true true (cs.take q))⟩ := by
  intro ρ B w tm htr r
  have le : ρ.le ⟨ρ.loc, ρ.frz, h.sz⟩ := ⟨fun _ _ h => h, fun _ _ h => h, r.dn⟩
  have old : ∀ b' x, ((h.tr.set b (.cells e true true (cs.take q))).get b' = some x) → (b' = b ∧ x = .cells e true true (cs.take q)) ∨ (b' ≠ b ∧ h.tr.get b' = some x) := by
    intro b' x hx
    rw [Tr.get_set] at hx
    split at hx
    · rename_i h1; cases hx; exact .inl ⟨h1, rfl⟩
    · rename_i h1; exact .inr ⟨h1, hx⟩
  have olive : ∀ b' x, ((h.tr.set b (.cells e true true (cs.take q))).get b' = some x) → x ≠ .dead → ∃ y, h.tr.get b' = some y ∧ y ≠ .dead := by
    intro b' x hx hd
    rcases old b' x hx with ⟨rfl, rfl⟩ | ⟨_, g⟩
    · exact ⟨_, hb, by simp⟩
    · exact ⟨x, g, hd⟩
  refine ⟨⟨ρ.loc, ρ.frz, h.sz⟩, fun i v hv => ?_, ⟨r.dom, ?_, ?_, ?_, ?_, ?_, r.flr, r.base, ?_, Nat.le_refl _⟩, ⟨fun _ _ => rfl, hn, rfl, fun b' h1 h2 => ?_, fun _ _ => rfl, Nat.le_refl _, ⟨rfl, rfl⟩, fun _ _ h => h, fun _ _ h => .inl h, fun b' h1 h2 => Nat.lt_of_lt_of_le h1 hn⟩⟩
  · rw [Tr.get_set] at hv
    split at hv
    · rename_i hij; subst hij; cases hv
      obtain ⟨h1, h2⟩ := htr _ _ ht
      refine ⟨h1, ?_⟩
      generalize tm.getD i undef = gv at h2
      cases h2 with
      | sl _ _ _ _ c' _ L h3 h4 =>
        obtain ⟨q1, co, ty, fz, q2, q3, q4, q5, q6⟩ := r.cells b L _ _ _ cs h3 hb
        refine .own _ _ _ L h3 (by rcases h4 with h4 | h4 <;> omega) ?_
        rcases h4 with rfl | ⟨_, _, h4⟩
        · rw [q1]; omega
        · simpa using h4
      | slz => exact .own0 _ _ hbs
    · obtain ⟨h1, h2⟩ := htr _ _ hv
      exact ⟨h1, h2.mono le⟩
  · intro b' L e1 wf af cs' h1 h2
    rcases old b' _ h2 with ⟨rfl, g⟩ | ⟨_, g⟩
    · cases g
      obtain ⟨q1, co, ty, fz, q2, q3, q4, q5, q6⟩ := r.cells _ L _ _ _ cs h1 hb
      refine ⟨q1, co, ty, fz, q2, q3, by simp; omega, fun i v hv => ?_, fun _ => q6 (by simp)⟩
      obtain ⟨v', k1, k2⟩ := q5 i v (by
        rw [List.getElem?_take] at hv
        split at hv
        · exact hv
        · cases hv)
      exact ⟨v', k1, k2.mono le⟩
    · obtain ⟨q1, co, ty, fz, q2, q3, q4, q5, q6⟩ := r.cells _ L _ _ _ _ h1 g
      exact ⟨q1, co, ty, fz, q2, q3, q4, fun i v hv => let ⟨v', k1, k2⟩ := q5 i v hv; ⟨v', k1, k2.mono le⟩, q6⟩
  · intro b' L es h1 h2
    rcases old b' _ h2 with ⟨rfl, g⟩ | ⟨_, g⟩
    · cases g
    · obtain ⟨q1, o, q2, q3⟩ := r.maps b' L es h1 g
      exact ⟨q1, o, q2, q3.mono le⟩
  · intro b1 L1 e1 af1 cs1 h1 h2 b2 L2 y h3 h4 h5 h6
    obtain ⟨y2, i1, i2⟩ := olive b2 y h4 h5
    rcases old b1 _ h2 with ⟨rfl, g⟩ | ⟨_, g⟩
    · exact r.excl _ L1 _ _ cs h1 hb b2 L2 y2 h3 i1 i2 h6
    · exact r.excl _ L1 _ _ _ h1 g b2 L2 y2 h3 i1 i2 h6
  · intro b1 L1 es h1 h2 b2 L2 y h3 h4 h5 h6
    obtain ⟨y2, i1, i2⟩ := olive b2 y h4 h5
    rcases old b1 _ h2 with ⟨rfl, g⟩ | ⟨_, g⟩
    · cases g
    · exact r.exclm _ L1 _ h1 g b2 L2 y2 h3 i1 i2 h6
  · intro b1 L1 e1 wf1 cs1 h1 h2 b2 L2 e2 wf2 af2 cs2 h3 h4 h6
    rcases old b1 _ h2 with ⟨rfl, g⟩ | ⟨hne, g⟩ <;> rcases old b2 _ h4 with ⟨rfl, g'⟩ | ⟨hne', g'⟩
    · cases g; cases g'
      have : L1 = L2 := by rw [h1] at h3; cases h3; rfl
      subst this
      exact ⟨Nat.le_refl _, fun _ => rfl⟩
    · cases g
      exact absurd (r.excl _ L1 _ _ cs h1 hb b2 L2 _ h3 g' (by simp) h6) hne'
    · cases g'
      exact absurd (r.excl _ L2 _ _ cs h3 hb b1 L1 _ h1 g (by simp) h6.symm) hne
    · exact r.app b1 L1 _ _ _ h1 g b2 L2 _ _ _ _ h3 g' h6
  · intro k arr hk
    refine ⟨(r.frz k arr hk).1, fun b' L y h1 h2 h3 => ?_⟩
    obtain ⟨y2, i1, i2⟩ := olive b' y h2 h3
    exact (r.frz k arr hk).2 b' L y2 h1 i1 i2
  · show (h.tr.set b _).get b' = _
    rw [Tr.get_set, if_neg (by omega)]
/-- a row of one's own, opened to its capacity -/
theorem S.open {x : ICode} {Q : X → Tr AV → Hp → Prop} (j b m e : Nat) {a : Bool} {cs : List AV} (ht : t.get j = some (.own b m)) (hb : h.tr.get b = some (.cells e true a cs)) (hl : cs.length = m * e) (hfl : h.fl ≤ b) (hbs : b < h.sz)
    (h0 : m = 0 → S P n x Q (t.set j .e0) h) (h1 : ∀ c, m ≤ c → S P n x Q (t.set j (.sl b 0 m c false)) ⟨h.sz, h.fl, h.tr.set b (.cells e true false (cs ++ List.replicate ((c - m) * e) .undef))⟩) : S P n x Q t h := by
  intro nt code hc hn ro ρ B w ac htr hsz r
  obtain ⟨g1, g2⟩ := htr _ _ ht
  generalize hgv : ac.tmps.getD j undef = gv at g2
  cases g2 with
  | own0 _ ad hbn =>
    refine h0 rfl nt code hc hn ro ρ B w ac (fun i v hv => ?_) hsz r
    rw [Tr.get_set] at hv
    split at hv
    · rename_i hij; subst hij; cases hv
      exact ⟨g1, by rw [hgv]; exact .e0 _⟩
    · exact htr i v hv
  | own _ _ c L h3 h4 h5 =>
    obtain ⟨q1, co, ty, fz, q2, q3, q4, q5, q6⟩ := r.cells b L _ _ _ cs h3 hb
    have old : ∀ b' y, ((h.tr.set b (.cells e true false (cs ++ List.replicate ((c - m) * e) .undef))).get b' = some y) → (b' = b ∧ y = .cells e true false (cs ++ List.replicate ((c - m) * e) .undef)) ∨ (b' ≠ b ∧ h.tr.get b' = some y) := by
      intro b' y hx
      rw [Tr.get_set] at hx
      split at hx
      · rename_i h1; cases hx; exact .inl ⟨h1, rfl⟩
      · rename_i h1; exact .inr ⟨h1, hx⟩
    have olive : ∀ b' y, ((h.tr.set b (.cells e true false (cs ++ List.replicate ((c - m) * e) .undef))).get b' = some y) → y ≠ .dead → ∃ z, h.tr.get b' = some z ∧ z ≠ .dead := by
      intro b' y hx hd
      rcases old b' y hx with ⟨rfl, rfl⟩ | ⟨_, g⟩
      · exact ⟨_, hb, by simp⟩
      · exact ⟨y, g, hd⟩
    have hlen : (cs ++ List.replicate ((c - m) * e) AV.undef).length = c * e := by
      simp [hl]; rw [← Nat.add_mul]; congr 1; omega
    have r' : Rel σ0 ρ B ⟨h.sz, h.fl, h.tr.set b (.cells e true false (cs ++ List.replicate ((c - m) * e) .undef))⟩ w := by
      refine ⟨r.dom, ?_, ?_, ?_, ?_, ?_, r.flr, r.base, ?_, r.dn⟩
      · intro b' L' e1 wf af cs' k1 k2
        rcases old b' _ k2 with ⟨rfl, g⟩ | ⟨_, g⟩
        · cases g
          rw [h3] at k1; cases k1
          refine ⟨q1, co, ty, fz, q2, q3, by rw [hlen, ← q1]; exact h5, fun i v hv => ?_, fun _ => q6 (by simp)⟩
          by_cases hi : i < cs.length
          · rw [List.getElem?_append_left hi] at hv
            exact q5 i v hv
          · have hlt := (List.getElem?_eq_some_iff.1 hv).1
            rw [List.getElem?_append_right (by omega), List.getElem?_replicate] at hv
            split at hv
            · cases hv
              rw [hlen] at hlt
              have hlt2 : L.off + i < co.size := by rw [q3]; rw [q1] at h5; omega
              exact ⟨co[L.off + i], by simp [hlt2], .undef _⟩
            · cases hv
        · exact r.cells _ L' _ _ _ _ k1 g
      · intro b' L' es k1 k2
        rcases old b' _ k2 with ⟨rfl, g⟩ | ⟨_, g⟩
        · cases g
        · exact r.maps b' L' es k1 g
      · intro b1 L1 e1 af1 cs1 k1 k2 b2 L2 y k3 k4 k5 k6
        obtain ⟨y2, i1, i2⟩ := olive b2 y k4 k5
        rcases old b1 _ k2 with ⟨rfl, g⟩ | ⟨_, g⟩
        · exact r.excl _ L1 _ _ cs k1 hb b2 L2 y2 k3 i1 i2 k6
        · exact r.excl _ L1 _ _ _ k1 g b2 L2 y2 k3 i1 i2 k6
      · intro b1 L1 es k1 k2 b2 L2 y k3 k4 k5 k6
        obtain ⟨y2, i1, i2⟩ := olive b2 y k4 k5
        rcases old b1 _ k2 with ⟨rfl, g⟩ | ⟨_, g⟩
        · cases g
        · exact r.exclm _ L1 _ k1 g b2 L2 y2 k3 i1 i2 k6
      · intro b1 L1 e1 wf1 cs1 k1 k2 b2 L2 e2 wf2 af2 cs2 k3 k4 k6
        rcases old b1 _ k2 with ⟨rfl, g⟩ | ⟨hne, g⟩
        · cases g
        · rcases old b2 _ k4 with ⟨rfl, g'⟩ | ⟨hne', g'⟩
          · cases g'
            exact absurd (r.excl _ L2 _ _ cs k3 hb b1 L1 _ k1 g (by simp) k6.symm) hne
          · exact r.app b1 L1 _ _ _ k1 g b2 L2 _ _ _ _ k3 g' k6
      · intro k arr hk
        refine ⟨(r.frz k arr hk).1, fun b' L' y k1 k2 k3 => ?_⟩
        obtain ⟨y2, i1, i2⟩ := olive b' y k2 k3
        exact (r.frz k arr hk).2 b' L' y2 k1 i1 i2
    refine wpIn_mono (h1 c h4 nt code hc hn ro ρ B w ac (fun i v hv => ?_) hsz r') ?_
    · rw [Tr.get_set] at hv
      split at hv
      · rename_i hij; subst hij; cases hv
        refine ⟨g1, ?_⟩
        rw [hgv]
        exact .sl b 0 m c c false L h3 (.inl rfl)
      · exact htr i v hv
    · intro e2 a2 w2 hp
      have kk : Kep n ρ B h w ρ ⟨h.sz, h.fl, h.tr.set b (.cells e true false (cs ++ List.replicate ((c - m) * e) .undef))⟩ w := by
        refine ⟨fun _ _ => rfl, hn, rfl, fun b' k1 k2 => ?_, fun _ _ => rfl, Nat.le_refl _, ⟨rfl, rfl⟩, fun _ _ h => h, fun _ _ h => .inl h, fun _ _ h => h⟩
        show (h.tr.set b _).get b' = _
        rw [Tr.get_set, if_neg (by omega)]
      exact Post.weaken kk hp
end Go.Kc
end
section
/- Functions that the model itself answers: an index of a byte, how strings compare, whether rows overlap. Condition: the functions are these. -/
namespace Go.Kc
variable {P : Program} {f : Nat}

/-- the model answers the function by e -/
def isExt (P : Program) (f : Nat) (e : Array Value → Sem Value) : Prop := ∀ args w, (callFunc f args).run P w = ((e args).run P w).andThen fun v w' => .ok (.value v) w'
theorem isExt.of {fn : Func} {e : Array Value → Sem Value} (hf : P.funcs[f]? = some fn) (hname : (fn.name == "runtime.NumGoroutine") = false) (hb : fn.body.isNone = true) (hn : Extern.findNext fn = none) (he : Extern.find fn = some e) : isExt P f e :=
  fun args w => run_callFunc_extern hf hname hb hn he args w
/-- an answer that leaves the world as it is -/
theorem isExt.pure {e : Array Value → Sem Value} {vs : List AV} {v : AV} (h : isExt P f e) (hr : ∀ ρ (args : Array Value) w, VRs σ0 ρ vs args.toList → ∃ v', (e args).run P w = .ok v' w ∧ VR σ0 ρ v v') : Pure P f vs v := by
  intro hp k hk
  refine ⟨trivial, fun ρ B w args r ha => ?_⟩
  obtain ⟨v', h1, h2⟩ := hr ρ args w ha
  exact .inr ⟨v', w, by rw [h, h1]; rfl, v, v', hp, ρ, rfl, hk, h2, r, Kept.refl _ _ _ _⟩

/-! ### the place of a byte -/
def idxB (c : UInt8) : List UInt8 → Nat → Int
  | [], _ => -1
  | x :: xs, j => if x = c then (j : Int) else idxB c xs (j + 1)
theorem idxB_firstIdx (a : List UInt8) (c : UInt8) : firstIdx ⟨a.toArray⟩ c = idxB c a 0 := by
  have key : ∀ (l : List UInt8) (j : Nat), a.drop j = l → j ≤ a.length → (match (List.range' j l.length).find? (fun i => (⟨a.toArray⟩ : ByteArray)[i]! == c) with | some i => (i : Int) | none => -1) = idxB c l j := by
    intro l
    induction l with
    | nil => intro j _ _; simp [idxB]
    | cons x xs ih =>
      intro j hd hj
      have hlt : j < a.length := by
        have := congrArg List.length hd
        simp at this; omega
      have hx : a[j] = x := by
        have := List.drop_eq_getElem_cons hlt
        rw [hd] at this; exact (List.cons.inj this).1.symm
      have hget : (⟨a.toArray⟩ : ByteArray)[j]! = x := by
        have : j < (⟨a.toArray⟩ : ByteArray).size := by simpa [ByteArray.size] using hlt
        rw [getElem!_pos (⟨a.toArray⟩ : ByteArray) j this]
        show a.toArray[j] = x
        simpa using hx
      rw [List.length_cons, List.range'_succ, List.find?_cons, hget]
      by_cases he : x = c
      · subst he; simp [idxB]
      · have : (x == c) = false := by simpa using he
        rw [this, idxB, if_neg he]
        exact ih (j + 1) (by rw [← List.drop_drop, hd]; rfl) (by omega)
  have := key a 0 rfl (Nat.zero_le _)
  rw [← this]
  unfold firstIdx
  rw [List.range_eq_range']
  have : (⟨a.toArray⟩ : ByteArray).size = a.length := by simp [ByteArray.size]
  rw [this]
  split <;> rename_i h1 <;> split <;> rename_i h2 <;> simp_all
theorem indexByte_ext (h : isExt P f Extern.BytealgIndexByte.indexByte) (a : List UInt8) (c : UInt8) : Pure P f [.s a, .i .u8 (c.toNat : Int)] (.i .i64 (idxB c a 0)) := by
  refine h.pure ?_
  intro ρ args w ha
  generalize hl : args.toList = l at ha
  cases ha with
  | cons _ _ x xs hx hxs =>
    cases hxs with
    | cons _ _ y ys hy hys =>
      cases hys
      cases hx; cases hy
      obtain rfl : args = #[.string ⟨a.toArray⟩, .int .u8 (c.toNat : Int)] := by cases args; simp_all
      refine ⟨_, run_indexByte_string _ _ _, ?_⟩
      have : (c.toNat : Int).toNat.toUInt8 = c := by simp
      rw [this, idxB_firstIdx]
      exact .i _ _

/-! ### how strings compare -/
noncomputable def cmpB (a b : List UInt8) : Int := if a = b then 0 else if ltS a b = true then -1 else 1
theorem ltS_nil {y : List UInt8} : ltS [] y = !y.isEmpty := by cases y <;> rfl
theorem ltS_nil' {c : UInt8} {x : List UInt8} : ltS (c :: x) [] = false := rfl
theorem ltS_cons {c d : UInt8} {x y : List UInt8} : ltS (c :: x) (d :: y) = if c < d then true else if c = d then ltS x y else false := by
  rw [ltS_eq, ltS_eq]
  simp only [Op.bytesLess]
  by_cases h1 : c < d
  · simp [h1]
  · by_cases h2 : c = d
    · simp [h2]
    · simp [h1, h2]
theorem cmp_run (a b : List UInt8) : Extern.BytealgCompare.cmp ⟨a.toArray⟩ ⟨b.toArray⟩ = cmpB a b := by
  have hs : ∀ l : List UInt8, (⟨l.toArray⟩ : ByteArray).size = l.length := fun l => by simp [ByteArray.size]
  have hg : ∀ (l : List UInt8) (j : Nat) (hj : j < l.length), (⟨l.toArray⟩ : ByteArray)[j]! = l[j] := by
    intro l j hj
    have : j < (⟨l.toArray⟩ : ByteArray).size := by rw [hs]; exact hj
    rw [getElem!_pos (⟨l.toArray⟩ : ByteArray) j this]
    show l.toArray[j] = l[j]
    simp
  have key : ∀ (n : Nat) (x y : List UInt8) (j : Nat), a.drop j = x → b.drop j = y → j ≤ a.length → j ≤ b.length → min x.length y.length = n →
      (match (List.range' j n).find? (fun i => (⟨a.toArray⟩ : ByteArray)[i]! != (⟨b.toArray⟩ : ByteArray)[i]!) with
        | some i => if (⟨a.toArray⟩ : ByteArray)[i]! < (⟨b.toArray⟩ : ByteArray)[i]! then (-1 : Int) else 1
        | none => if a.length < b.length then -1 else if a.length > b.length then 1 else 0) = cmpB x y := by
    intro n
    induction n with
    | zero =>
      intro x y j hx hy ha hb hm
      have la : x.length = a.length - j := by rw [← hx]; simp
      have lb : y.length = b.length - j := by rw [← hy]; simp
      cases x with
      | nil =>
        cases y with
        | nil =>
          simp at la lb
          have : a.length = b.length := by omega
          simp [cmpB, this]
        | cons d ds =>
          simp at la lb
          have : a.length < b.length := by omega
          simp [cmpB, this, ltS_nil]
      | cons c cs =>
        cases y with
        | nil =>
          simp at la lb
          have h1 : ¬ a.length < b.length := by omega
          have h2 : b.length < a.length := by omega
          simp [cmpB, h1, h2, ltS_nil']
        | cons d ds => simp at hm
    | succ n ih =>
      intro x y j hx hy ha hb hm
      cases x with
      | nil => simp at hm
      | cons c cs =>
        cases y with
        | nil => simp at hm
        | cons d ds =>
          have la : j < a.length := by have := congrArg List.length hx; simp at this; omega
          have lb : j < b.length := by have := congrArg List.length hy; simp at this; omega
          have ec : a[j] = c := by have := List.drop_eq_getElem_cons la; rw [hx] at this; exact (List.cons.inj this).1.symm
          have ed : b[j] = d := by have := List.drop_eq_getElem_cons lb; rw [hy] at this; exact (List.cons.inj this).1.symm
          rw [List.range'_succ, List.find?_cons, hg a j la, hg b j lb, ec, ed]
          by_cases he : c = d
          · subst he
            simp only [bne_self_eq_false]
            refine (ih cs ds (j + 1) (by rw [← List.drop_drop, hx]; rfl) (by rw [← List.drop_drop, hy]; rfl) (by omega) (by omega) (by simp at hm; omega)).trans ?_
            simp [cmpB, ltS_cons]
          · have h1 : (c != d) = true := by simpa using he
            simp only [h1]
            rw [hg a j la, hg b j lb, ec, ed]
            by_cases hlt : c < d
            · simp [cmpB, ltS_cons, hlt, he]
            · simp [cmpB, ltS_cons, hlt, he]
  have := key (min a.length b.length) a b 0 rfl rfl (Nat.zero_le _) (Nat.zero_le _) rfl
  rw [← this]
  unfold Extern.BytealgCompare.cmp
  rw [List.range_eq_range', hs, hs]
  rfl
theorem cmpstring_ext (h : isExt P f Extern.BytealgCompare.compare) (a b : List UInt8) : Pure P f [.s a, .s b] (.i .i64 (cmpB a b)) := by
  refine h.pure ?_
  intro ρ args w ha
  generalize hl : args.toList = l at ha
  cases ha with
  | cons _ _ x xs hx hxs =>
    cases hxs with
    | cons _ _ y ys hy hys =>
      cases hys
      cases hx; cases hy
      obtain rfl : args = #[.string ⟨a.toArray⟩, .string ⟨b.toArray⟩] := by cases args; simp_all
      refine ⟨.int .i64 (cmpB a b), ?_, .i _ _⟩
      change Sem.run P (do
        let x ← Extern.Bytes.bytesOf (.string ⟨a.toArray⟩)
        let y ← Extern.Bytes.bytesOf (.string ⟨b.toArray⟩)
        pure (goInt (Extern.BytealgCompare.cmp x y))) w = _
      simp [Extern.Bytes.bytesOf, cmp_run, goInt]

/-! ### do rows overlap -/
def isOv (P : Program) (f : Nat) : Prop := ∃ tS tR e size, P.underlying tS = some (.slice e) ∧ (∀ w, (sizeOf e).run P w = .ok size w) ∧ isExt P f (Extern.SlicesOverlaps.overlaps #[tS, tS] #[tR])
theorem overlaps_sc (ho : isOv P f) {h : Hp} {b1 o1 n1 c1 b2 o2 n2 c2 e2 : Nat} {a1 a2 : Bool} {cs1 cs2 : List AV} (h1 : h.tr.get b1 = some (.cells 0 true a1 cs1)) (h2 : h.tr.get b2 = some (.cells e2 true a2 cs2)) (hne : b1 ≠ b2)
    (hc1 : c1 ≠ 0) (hc2 : c2 ≠ 0) (hl1 : o1 ≤ cs1.length) (hl2 : cs2 ≠ []) {k : AV → Hp → Prop} (hk : k (.b false) h) : SC P f [.sl b1 o1 n1 c1 false, .sl b2 o2 n2 c2 false] h k := by
  refine ⟨trivial, fun ρ B w args r ha => ?_⟩
  obtain ⟨tS, tR, e, size, ht, hz, hx⟩ := ho
  generalize hl : args.toList = l at ha
  cases ha with
  | cons _ _ x xs hx1 hxs =>
    cases hxs with
    | cons _ _ y ys hy hys =>
      cases hys
      obtain ⟨L1, c, off, g1, g2, g3⟩ := hx1.un_sl
      obtain ⟨L2, c', off', k1, k2, k3⟩ := hy.un_sl
      subst g2 k2
      obtain rfl : args = #[.slice (some ⟨L1.blk, off, none⟩) n1 c, .slice (some ⟨L2.blk, off', none⟩) n2 c'] := by cases args; simp_all
      obtain ⟨q1, co, ty, fz, q2, q3, q4, q5, q6⟩ := r.cells b1 L1 _ _ _ cs1 g1 h1
      obtain ⟨p1, co', ty', fz', p2, p3, p4, p5, p6⟩ := r.cells b2 L2 _ _ _ cs2 k1 h2
      have hblk : L1.blk ≠ L2.blk := fun hh => hne (r.excl b2 L2 _ _ cs2 k1 h2 b1 L1 _ g1 h1 (by simp) hh)
      have hoff : off = L1.off + o1 := by
        rcases g3 with ⟨rfl, _⟩ | ⟨_, g4, _⟩
        · rfl
        · exact absurd g4 hc1
      have hnf : ∀ j, j ≤ L1.size → ¬ (fz.1 ≤ j ∧ j < fz.2) := fun j hj => q6 (by simp) j (by rcases Nat.lt_or_eq_of_le hj with h | h; exact .inl h; exact .inr ⟨rfl, h⟩)
      have hrun := Lib.run_overlaps_apart (P := P) w tS tR e ht size hz ⟨L1.blk, off, none⟩ ⟨L2.blk, off', none⟩ n1 c n2 c' hblk ty ty' co.size co'.size (by simp [World.shape?, q2]) (by simp [World.shape?, p2])
        (by
          have : 0 < cs2.length := List.length_pos_iff.2 hl2
          omega)
        (by rw [frozen?_of q2]; simpa using hnf off (by omega)) (by
          rw [frozen?_of q2]; simpa using hnf co.size (by omega))
      exact .inr ⟨.bool false, w, by rw [hx, hrun]; rfl, .b false, .bool false, h, ρ, rfl, hk, .b _, r, Kept.refl _ _ _ _⟩
end Go.Kc
end
section
/- Calls that shrink a row lent. No condition. -/
namespace Go.Kc
variable {P : Program}
theorem UpdW.closed {h' : Hp} {e x c : Nat} {a l : Bool} {cs cs' : List AV} (hb : h'.tr.get 0 = some (.cells e true a cs)) (hsz : h'.sz = 1) (hc : c * e ≤ cs.length) (hx : x ≤ c) (hq : cs.take (x * e) = cs') (hcl : clos cs' = true) : UpdW 1 (.own 0 x) [.cells e true true cs'] (.sl 0 0 x c l) h' := by
  intro hfl
  have hxe : x * e ≤ cs.length := Nat.le_trans (Nat.mul_le_mul_right _ hx) hc
  refine Wk.trans (Wk.close (n := 1) (l := l) 0 0 x c e (x * e) (by simp [mkT, Tr.get_set]) hb hc hx hxe (by omega) (by omega) (by omega)) ?_
  refine Wk.mkn [(0, .own 0 x)] [.cells e true true cs'] [0] ?_ ?_ ?_ hfl (Nat.le_refl _) ?_
  · refine ⟨⟨.own 0 x, by simp [Tr.get_set], ?_⟩, trivial⟩
    exact .own 0 0 x rfl (Nat.zero_lt_one)
  · refine ⟨?_, trivial⟩
    refine BW.cells (by rw [Tr.get_set, if_pos rfl, hq]) (NVs.refl hcl)
  · simp [hsz]
  · intro b hb; obtain rfl : b = 0 := by omega
    rfl
theorem UpdW.closedI {h' : Hp} {e x c e1 : Nat} {a l w1 a1 : Bool} {cs cs' cs1 : List AV} (hb : h'.tr.get 0 = some (.cells e true a cs)) (hy : h'.tr.get 1 = some (.cells e1 w1 a1 cs1)) (hsz : 2 ≤ h'.sz) (hc : c * e ≤ cs.length) (hx : x ≤ c) (hq : cs.take (x * e) = cs') (hcl : clos cs' = true) (hcl1 : clos cs1 = true) :
    UpdW 2 (.own 2 x) [.dead, .cells e1 w1 a1 cs1, .cells e true true cs'] (.sl 0 0 x c l) h' := by
  intro hfl
  have hxe : x * e ≤ cs.length := Nat.le_trans (Nat.mul_le_mul_right _ hx) hc
  refine Wk.trans (Wk.close (n := 2) (l := l) 0 0 x c e (x * e) (by simp [mkT, Tr.get_set]) hb hc hx hxe (by omega) (by omega) hsz) ?_
  refine Wk.mkd [(0, .own 2 x)] [.dead, .cells e1 w1 a1 cs1, .cells e true true cs'] [0, 1, 0] ?_ ?_ ?_ hfl (by simp) ?_
  · refine ⟨⟨.own 0 x, by simp [Tr.get_set], ?_⟩, trivial⟩
    exact .own 0 2 x rfl (by simp)
  · refine ⟨.inr (.inl rfl), ?_, ?_, trivial⟩
    · exact BW.cells (by rw [Tr.get_set, if_neg (by decide)]; exact hy) (NVs.refl hcl1)
    · exact BW.cells (by rw [Tr.get_set, if_pos rfl, hq]) (NVs.refl hcl)
  · have : 0 < h'.sz := by omega
    have h1 : 1 < h'.sz := by omega
    simp [live, this, h1]
  · intro b hb
    have : b = 0 ∨ b = 1 := by omega
    rcases this with rfl | rfl <;> rfl
end Go.Kc
end
section
/- Pure calls to which rows of one's own are given for good. No condition. -/
namespace Go.Kc
variable {P : Program} {h : Hp}

/-- some blocks alone -/
noncomputable def trP : List (Nat × Blk) → Tr Blk
  | [] => .leaf
  | p :: l => (trP l).set p.1 p.2
theorem trP_get : ∀ {l : List (Nat × Blk)} {b : Nat} {x : Blk}, (trP l).get b = some x → (b, x) ∈ l
  | [], b, x, h => by simp [trP] at h
  | p :: l, b, x, h => by
    simp only [trP, Tr.get_set] at h
    split at h
    · cases h; subst_vars; simp
    · exact List.mem_cons_of_mem _ (trP_get h)
noncomputable def kill (h : Hp) : List (Nat × Blk) → Hp
  | [] => h
  | p :: l => kill (h.put p.1 .dead) l
theorem kill_sz : ∀ {l : List (Nat × Blk)} {h : Hp}, (kill h l).sz = h.sz
  | [], _ => rfl
  | _ :: l, h => (kill_sz (l := l)).trans rfl
theorem kill_fl : ∀ {l : List (Nat × Blk)} {h : Hp}, (kill h l).fl = h.fl
  | [], _ => rfl
  | _ :: l, h => (kill_fl (l := l)).trans rfl
theorem kill_get : ∀ {l : List (Nat × Blk)} {h : Hp} {b : Nat}, (kill h l).tr.get b = if b ∈ l.map Prod.fst then some .dead else h.tr.get b
  | [], _, _ => by simp [kill]
  | p :: l, h, b => by
    simp only [kill]
    rw [kill_get]
    by_cases h1 : b ∈ l.map Prod.fst
    · rw [if_pos h1, if_pos (by simp only [List.map_cons, List.mem_cons]; exact .inr h1)]
    · rw [if_neg h1]
      show (h.tr.set p.1 .dead).get b = _
      rw [Tr.get_set]
      by_cases h2 : b = p.1
      · rw [if_pos h2, if_pos (by simp only [List.map_cons, List.mem_cons]; exact .inl h2)]
      · rw [if_neg h2, if_neg (by simp only [List.map_cons, List.mem_cons, not_or]; exact ⟨h2, h1⟩)]
theorem kill_nil : kill h [] = h := rfl
theorem kill_cons {b : Nat} {x : Blk} {l : List (Nat × Blk)} : kill h ((b, x) :: l) = kill (h.put b .dead) l := rfl
/-- with fewer blocks -/
theorem Rel.sub {ρ : Ren} {B : Nat → Prop} {h h' : Hp} {w : World} (r : Rel σ0 ρ B h w) (hs : h'.sz = h.sz) (hf : h'.fl = h.fl) (hg : ∀ b x, h'.tr.get b = some x → x ≠ .dead → h.tr.get b = some x) : Rel σ0 ρ B h' w :=
  ⟨fun b L hb => by rw [hs]; exact r.dom b L hb, fun b L e wf af cs hb hx => r.cells b L e wf af cs hb (hg _ _ hx (by simp)), fun b L es hb hx => r.maps b L es hb (hg _ _ hx (by simp)),
   fun b L e af cs hb hx b' L' x hb' hx' hd => r.excl b L e af cs hb (hg _ _ hx (by simp)) b' L' x hb' (hg _ _ hx' hd) hd, fun b L es hb hx b' L' x hb' hx' hd => r.exclm b L es hb (hg _ _ hx (by simp)) b' L' x hb' (hg _ _ hx' hd) hd,
   fun b L e wf cs hb hx b' L' e' wf' af' cs' hb' hx' => r.app b L e wf cs hb (hg _ _ hx (by simp)) b' L' e' wf' af' cs' hb' (hg _ _ hx' (by simp)), fun b L hb hf' => r.flr b L hb (by rw [← hf]; exact hf'), r.base,
   fun k arr hk => ⟨(r.frz k arr hk).1, fun b L x hb hx hd => (r.frz k arr hk).2 b L x hb (hg _ _ hx hd) hd⟩, by rw [hs]; exact r.dn⟩
theorem Pure.give {f : Nat} {vs vs' : List AV} {v : AV} {k : AV → Hp → Prop} (DB : List (Nat × Blk)) (hg : ∀ p ∈ DB, h.tr.get p.1 = some p.2 ∧ h.fl ≤ p.1) (hp : Pure P f vs' v) (hv : clo v = true) (hf : Frzs ⟨h.sz, h.fl, trP DB⟩ vs vs') (hk : k v (kill h DB)) : SC P f vs h k := by
  refine ⟨trivial, fun ρ B w args r ha => ?_⟩
  have hp0 := hp H0 (fun v' h' => v' = v ∧ h' = H0) ⟨rfl, rfl⟩
  have r0 : Rel σ0 ρ B ⟨h.sz, h.fl, trP DB⟩ w := r.sub rfl rfl (fun b x hx _ => (hg _ (trP_get hx)).1)
  have hcr := hf.ok r0 ha
  have fnew : ∀ kk a, frzOf ρ ⟨h.sz, h.fl, trP DB⟩ w kk = some a → ρ.frz kk = some a ∨ ((∃ ty fz, w.heap[kk]? = some (.cells a ty fz)) ∧ ∃ b L e af cs, b ∈ DB.map Prod.fst ∧ ρ b = some L ∧ h.tr.get b = some (.cells e true af cs) ∧ L.blk = kk ∧ h.fl ≤ b) := by
    intro kk a hkk
    rcases frzOf_some hkk with h1 | ⟨h1, b, L, e, af, cs, h2, h3, h4⟩
    · exact .inl h1
    · have hm := trP_get h3
      exact .inr ⟨h1, b, L, e, af, cs, List.mem_map_of_mem (f := Prod.fst) hm, h2, (hg _ hm).1, h4, (hg _ hm).2⟩
  -- the rows given are frozen, their blocks dead
  have r1 : Rel σ0 ⟨ρ.loc, frzOf ρ ⟨h.sz, h.fl, trP DB⟩ w, ρ.n⟩ B (kill h DB) w := by
    have le : ρ.le ⟨ρ.loc, frzOf ρ ⟨h.sz, h.fl, trP DB⟩ w, ρ.n⟩ := ⟨fun _ _ h => h, fun _ _ h => frzOf_old h, Nat.le_refl _⟩
    have live : ∀ b x, (kill h DB).tr.get b = some x → x ≠ .dead → b ∉ DB.map Prod.fst ∧ h.tr.get b = some x := by
      intro b x hx hd
      rw [kill_get] at hx
      split at hx
      · cases hx; exact absurd rfl hd
      · exact ⟨by assumption, hx⟩
    have rs : Rel σ0 ρ B (kill h DB) w := r.sub kill_sz kill_fl (fun b x hx hd => (live b x hx hd).2)
    refine ⟨rs.dom, fun b L e wf af cs hb hx => ?_, fun b L es hb hx => ?_, rs.excl, rs.exclm, rs.app, rs.flr, rs.base, fun kk arr hkk => ?_, rs.dn⟩
    · obtain ⟨q1, c, ty, fz, q2, q3, q4, q5, q6⟩ := rs.cells b L e wf af cs hb hx
      exact ⟨q1, c, ty, fz, q2, q3, q4, fun j v hv => let ⟨v', k1, k2⟩ := q5 j v hv; ⟨v', k1, k2.mono le⟩, q6⟩
    · obtain ⟨q1, o, q2, q3⟩ := rs.maps b L es hb hx
      exact ⟨q1, o, q2, q3.mono le⟩
    · rcases fnew kk arr hkk with h1 | ⟨h1, b, L, e, af, cs, h2, h3, h4, h5, _⟩
      · exact rs.frz kk arr h1
      · refine ⟨h1, fun b' L' x hb' hx hd he => ?_⟩
        obtain ⟨g1, g2⟩ := live b' x hx hd
        have := r.excl b L e af cs h3 h4 b' L' x hb' g2 hd (by rw [he, h5])
        subst this
        exact g1 h2
  refine CallsX.mono (hp0.2 ⟨fun _ => none, frzOf ρ ⟨h.sz, h.fl, trP DB⟩ w, 0⟩ (low w.heap.size) w args
    ⟨(fun _ _ hb => by cases hb), (fun _ _ _ _ _ _ hb => by cases hb), (fun _ _ _ hb => by cases hb), (fun _ _ _ _ _ hb => by cases hb), (fun _ _ _ hb => by cases hb), (fun _ _ _ _ _ hb => by cases hb), (fun _ _ hb => by cases hb), (fun _ h => h),
      (fun k arr hk => ⟨(r1.frz k arr hk).1, fun _ _ _ hb => by cases hb⟩), Nat.le_refl _⟩ (CRs.vr (ρ := ⟨fun _ => none, frzOf ρ ⟨h.sz, h.fl, trP DB⟩ w, 0⟩) hcr)) ?_
  rintro e w' ⟨v0, v', h', ρ', rfl, ⟨rfl, rfl⟩, g2, g3, g4⟩
  have f1 : ∀ k a, frzOf ρ ⟨h.sz, h.fl, trP DB⟩ w k = some a → ρ'.frz k = some a := g4.frz
  have f2 : ∀ k a, ρ'.frz k = some a → frzOf ρ ⟨h.sz, h.fl, trP DB⟩ w k = some a ∨ w.heap.size ≤ k := fun k a hk => (g4.fnew k a hk).imp id Nat.not_lt.1
  have f3 : ∀ k a, ρ'.frz k = some a → ∃ ty fz, w'.heap[k]? = some (.cells a ty fz) := fun k a hk => (g3.frz k a hk).1
  have r2 := r1.frz' g4.pres g4.wle f1 f2 f3
  refine ⟨v0, v', kill h DB, ⟨ρ.loc, ρ'.frz, ρ.n⟩, rfl, hk, CR.vr (ρ := ⟨ρ.loc, ρ'.frz, ρ.n⟩) (g2.cr hv), r2, ?_⟩
  refine ⟨fun _ _ => rfl, by rw [kill_sz]; exact Nat.le_refl _, kill_fl, fun b hb _ => ?_, fun k hk => g4.pres k (r.base _ hk), g4.wle, g4.io, fun k a hk => f1 k a (frzOf_old hk), fun k a hk => ?_, Nat.le_refl _⟩
  · rw [kill_get, if_neg]
    intro hm
    obtain ⟨p, hp1, hp2⟩ := List.mem_map.1 hm
    have := (hg p hp1).2
    omega
  · rcases f2 k a hk with h1 | h1
    · rcases fnew k a h1 with h2 | ⟨_, b, L, _, _, _, _, h3, _, h5, h6⟩
      · exact .inl h2
      · right; rw [← h5]; exact r.flr b L h3 h6
    · exact .inr (not_base r.base h1)
/-- arguments that stand for others, whatever the heap -/
theorem Pure.coe {f : Nat} {vs vs' : List AV} {v : AV} (hp : Pure P f vs' v) (hf : ∀ h, Frzs h vs vs') : Pure P f vs v := by
  intro h k hk
  refine ⟨trivial, fun ρ B w args r ha => (hp h k hk).2 ρ B w args r ?_⟩
  have r0 : Rel σ0 ρ B ⟨h.sz, h.fl, .leaf⟩ w := r.sub rfl rfl (fun b x hx _ => by simp at hx)
  have hcr := (hf ⟨h.sz, h.fl, .leaf⟩).ok r0 ha
  refine CRs.vr (ρ := ρ) (hcr.mono fun kk a hkk => ?_)
  rcases frzOf_some hkk with h1 | ⟨_, b, L, e, af, cs, _, h3, _⟩
  · exact h1
  · simp at h3
end Go.Kc
end
section
/- The last step from the abstract machine to a row: what a run keeps of the world; the tree of the code; a law's call. No condition. -/
namespace Go.Kc
variable {P : Program} {env : Tr IFn} {ho : Hook}

/-- the code in a tree is the program's, at the places a * n + b -/
inductive OkT (P : Program) : Nat → Nat → Tr IFn → Prop where
  | leaf (a b : Nat) : OkT P a b .leaf
  | no (a b : Nat) {l r : Tr IFn} : OkT P (2 * a) (a + b) l → OkT P (2 * a) (2 * a + b) r → OkT P a b (.node none l r)
  | fn (a b : Nat) {i : IFn} {l r : Tr IFn} : chkFn P b i = true → OkT P (2 * a) (a + b) l → OkT P (2 * a) (2 * a + b) r → OkT P a b (.node (some i) l r)

theorem OkT.get {a b : Nat} {t : Tr IFn} (h : OkT P a b t) : ∀ n i, t.get n = some i → chkFn P (a * n + b) i = true := by
  induction h with
  | leaf => intro n i h; simp at h
  | no a b hl hr ihl ihr =>
    intro n i h
    cases n with
    | zero => rw [Tr.get_node] at h; cases h
    | succ m =>
      rcases Nat.mod_two_eq_zero_or_one m with h0 | h0
      · obtain ⟨j, rfl⟩ : ∃ j, m = 2 * j := ⟨m / 2, by omega⟩
        rw [Tr.get_node] at h
        simp only [h0, if_true, Nat.mul_div_cancel_left j (Nat.zero_lt_two)] at h
        have := ihl j i h
        rwa [show 2 * a * j + (a + b) = a * (2 * j + 1) + b from by rw [Nat.mul_add, Nat.mul_one, ← Nat.mul_assoc, Nat.mul_comm a 2]; omega] at this
      · obtain ⟨j, rfl⟩ : ∃ j, m = 2 * j + 1 := ⟨m / 2, by omega⟩
        rw [Tr.get_node] at h
        simp only [h0, Nat.one_ne_zero, if_false, show (2 * j + 1) / 2 = j from by omega] at h
        have := ihr j i h
        rwa [show 2 * a * j + (2 * a + b) = a * (2 * j + 1 + 1) + b from by rw [Nat.mul_add, Nat.mul_add, Nat.mul_one, ← Nat.mul_assoc, Nat.mul_comm a 2]; omega] at this
  | fn a b hc hl hr ihl ihr =>
    intro n i h
    cases n with
    | zero => rw [Tr.get_node] at h; cases h; simpa using hc
    | succ m =>
      rcases Nat.mod_two_eq_zero_or_one m with h0 | h0
      · obtain ⟨j, rfl⟩ : ∃ j, m = 2 * j := ⟨m / 2, by omega⟩
        rw [Tr.get_node] at h
        simp only [h0, if_true, Nat.mul_div_cancel_left j (Nat.zero_lt_two)] at h
        have := ihl j i h
        rwa [show 2 * a * j + (a + b) = a * (2 * j + 1) + b from by rw [Nat.mul_add, Nat.mul_one, ← Nat.mul_assoc, Nat.mul_comm a 2]; omega] at this
      · obtain ⟨j, rfl⟩ : ∃ j, m = 2 * j + 1 := ⟨m / 2, by omega⟩
        rw [Tr.get_node] at h
        simp only [h0, Nat.one_ne_zero, if_false, show (2 * j + 1) / 2 = j from by omega] at h
        have := ihr j i h
        rwa [show 2 * a * j + (2 * a + b) = a * (2 * j + 1 + 1) + b from by rw [Nat.mul_add, Nat.mul_add, Nat.mul_one, ← Nat.mul_assoc, Nat.mul_comm a 2]; omega] at this

theorem OkT.envOk {t : Tr IFn} (h : OkT P 1 0 t) : EnvOk P t := fun f i hg => by
  have := h.get f i hg
  rwa [Nat.one_mul] at this

/-- no old block differs -/
theorem Kept.same {ρ ρ' : Ren} {h h' : Hp} {w w' : World} (k : Kept ρ (low w.heap.size) h w ρ' h' w') (may : MemPlace → Prop) : w.keptBut w' may := by
  refine ⟨k.io.1, k.io.2, fun i hi => ?_⟩
  have e := k.pres i hi
  rw [e]
  cases w.heap[i]? with
  | none => rfl
  | some o => cases o <;> simp
/-- the rows of a world, all of them frozen -/
noncomputable def ice (w : World) : Ren := ⟨fun _ => none, fun k => match w.heap[k]? with | some (.cells arr _ _) => some arr | _ => none, 0⟩
theorem ice_get {w : World} {k : Nat} {arr : Array Value} : (ice w).frz k = some arr ↔ ∃ ty fz, w.heap[k]? = some (.cells arr ty fz) := by
  show (match w.heap[k]? with | some (.cells arr _ _) => some arr | _ => none) = some arr ↔ _
  cases w.heap[k]? with
  | none => simp
  | some o => cases o <;> simp
theorem Rel.ice (w : World) : Rel σ0 (ice w) (low w.heap.size) H0 w :=
  ⟨(fun _ _ hb => by cases hb), (fun _ _ _ _ _ _ hb => by cases hb), (fun _ _ _ hb => by cases hb), (fun _ _ _ _ _ hb => by cases hb), (fun _ _ _ hb => by cases hb), (fun _ _ _ _ _ hb => by cases hb), (fun _ _ hb => by cases hb), (fun _ h => h),
   (fun k arr hk => ⟨ice_get.1 hk, fun _ _ _ hb => by cases hb⟩), Nat.le_refl _⟩
/-- a law's call -/
theorem Pure.law {f : Nat} {vs : List AV} {args : Array Value} (hp : Pure P f vs (.b true)) (hc : coded P f) (w : World) (ha : VRs σ0 (ice w) vs args.toList) : Calls P f args w fun e w' => e = .returned (.bool true) ∧ ∀ may, w.keptBut w' may := by
  have h := (hp H0 (fun v _ => v = .b true) rfl).2 (ice w) (low w.heap.size) w args (Rel.ice w) ha
  rcases h with ⟨_, h⟩ | ⟨v, w', h, _⟩
  · refine h.mono fun e w' hh => ?_
    obtain ⟨v, v', h', ρ', rfl, rfl, hv, _, hk⟩ := hh
    cases hv
    exact ⟨rfl, fun may => hk.same may⟩
  · obtain ⟨fn, h1, h2, h3⟩ := hc
    rw [callFunc_run h1 h2 h3] at h
    cases h
theorem coded_of {f : Nat} {i : IFn} (hc : chkFn P f i = true) : coded P f := by
  unfold chkFn at hc
  split at hc <;> try (cases hc; done)
  rename_i fn hfn
  simp only [Bool.and_eq_true, bne_iff_ne] at hc
  obtain ⟨⟨hname, hbody⟩, hres⟩ := hc
  split at hbody <;> try (cases hbody; done)
  rename_i c hcb
  exact ⟨fn, hfn, hname, by rw [hcb]; rfl⟩
/-- a run's answer is true -/
def yes (v : AV) : Prop := match v with | .b true => True | _ => False
theorem Pure.runB (he : EnvOk P env) (hh : HookOk P ho) (m : Nat) {f : Nat} {vs : List AV} (hcl : clos vs = true) (hk : callE env ho (fv env ho m) f vs H0 (fun v _ => yes v) = True) : Pure P f vs (.b true) := by
  refine Pure.of_SC hcl ((SC.run he hh m (of_eq_true hk)).mono fun v h hv => ?_)
  unfold yes at hv
  split at hv
  · exact .b _
  · exact hv.elim

/-- a row's last step where nothing old has changed -/
theorem post_of_kept {H : Type} {enc : TypeId × Value → H} {f : Func} {s : ChangeSpec} {apart fresh handsOn : Bool} {W W' : World} {args : Array Value} {v : Value} {ds gs : List (DataW H)} {before pa pv : List MemPlace}
    (hW : DataW.Whole enc P f.params.toList s.vars apart W args.toList ds gs before)
    (hres : ∀ (b : Nat) (sp : Nat → Bool) (hd : Bool), DataW.TrodAll enc P W' b sp hd f.resultTypes.toList (v.resultList f.resultTypes.size) (s.fn H (ds ++ gs)).results [])
    (hargs : ∀ sp : Nat → Bool, DataW.TrodAll enc P W' 0 sp true f.params.toList args.toList (s.fn H (ds ++ gs)).args pa)
    (hvars : ∀ sp : Nat → Bool, DataW.TrodVars enc P W' sp s.vars (s.fn H (ds ++ gs)).vars pv)
    (hk : ∀ may, W.keptBut W' may) : s.post enc P f apart fresh handsOn false W args v W' :=
  ⟨ds, gs, before, [], pa, pv, hW, hres _ _ _, hargs _, hvars _, hk _, fun h => by cases h⟩
end Go.Kc
end
section
/- What functions of strings and names answer. Condition: the functions' texts are these. -/
namespace Go.Kc
variable {P : Program} {f : Nat}
def ir_internal_stringslite_HasPrefix : IFn := ⟨[.tmp 4],
  .seq (.reg false [⟨(some 4), .op (.mov (.c (.b false))), none⟩])
  (.seq (.reg false [⟨(some 5), .op (.mov (.t 0)), none⟩,
    ⟨(some 6), .op (.len true (.t 5)), none⟩,
    ⟨(some 7), .op (.mov (.t 1)), none⟩,
    ⟨(some 8), .op (.len true (.t 7)), none⟩,
    ⟨(some 9), .op (.bin .geq (.t 6) (.t 8)), none⟩,
    ⟨(some 10), .op (.mov (.t 9)), none⟩,
    ⟨(some 11), .op (.mov (.t 0)), (some (10, true))⟩,
    ⟨(some 12), .op (.mov (.t 1)), (some (10, true))⟩,
    ⟨(some 13), .op (.len true (.t 12)), (some (10, true))⟩,
    ⟨(some 14), .op (.slcStr (.t 11) none (some (.t 13))), (some (10, true))⟩,
    ⟨(some 15), .op (.mov (.t 1)), (some (10, true))⟩,
    ⟨(some 16), .op (.bin .eql (.t 14) (.t 15)), (some (10, true))⟩,
    ⟨(some 17), .op (.pick (.t 10) (.t 16) (.c (.b false))), none⟩,
    ⟨(some 4), .op (.mov (.t 17)), none⟩])
  (.ret))⟩
theorem hasPrefix_lite (hc : chkFn P f ir_internal_stringslite_HasPrefix = true) (s p : List UInt8) : Pure P f [.s s, .s p] (.b (p.isPrefixOf s)) := by
  refine Pure.mk hc (by simp [clos, clo]) ?_
  by_cases h : p.length ≤ s.length
  · have hi : (p.length : Int) ≤ s.length := by omega
    have e : (decide (List.take p.length s = p)) = p.isPrefixOf s := by
      rw [Bool.eq_iff_iff, decide_eq_true_iff, List.isPrefixOf_iff_prefix, List.prefix_iff_eq_take]
      exact eq_comm
    simp only [ir_internal_stringslite_HasPrefix, argsT, H0, mkT, mkH, trL, List.length_cons, List.length_nil, Nat.reduceAdd, Nat.zero_add]
    simp only [↓vA, ↓vE, ↓vO, ↓vB, ↓vF, ↓vM, ↓vR, ↓vX, cvF_pc, vP, shb, shv, shvs, she_nil, she_cons, vC, vQ, Nat.reduceEqDiff, ↓reduceIte, eq_self, Nat.reduceAdd, Nat.reduceMul, Nat.reduceSub, Nat.reduceLeDiff, Nat.reduceLT, defd, cellsOf, wr, packR, Int.reduceLE, Int.reduceLT, Int.reduceEq, Int.cast_ofNat_Int, Int.reduceToNat, hi, h, beq_self_eq_true, vZ, e]
  · have hi : ¬ (p.length : Int) ≤ s.length := by omega
    have e : p.isPrefixOf s = false := by
      rw [Bool.eq_false_iff]
      intro h2
      exact h (List.isPrefixOf_iff_prefix.1 h2).length_le
    simp only [ir_internal_stringslite_HasPrefix, argsT, H0, mkT, mkH, trL, List.length_cons, List.length_nil, Nat.reduceAdd, Nat.zero_add]
    simp only [↓vA, ↓vE, ↓vO, ↓vB, ↓vF, ↓vM, ↓vR, ↓vX, cvF_pc, vP, shb, shv, shvs, she_nil, she_cons, vC, vQ, Nat.reduceEqDiff, ↓reduceIte, eq_self, Nat.reduceAdd, Nat.reduceMul, Nat.reduceSub, Nat.reduceLeDiff, Nat.reduceLT, defd, cellsOf, wr, packR, Int.reduceLE, Int.reduceLT, Int.reduceEq, Int.cast_ofNat_Int, Int.reduceToNat, hi, h, vZ, e]
def ir_internal_stringslite_CutPrefix (f_internal_stringslite_HasPrefix : Nat) : IFn := ⟨[.tmp 4, .tmp 5],
  .seq (.reg false [⟨(some 4), .op (.mov (.c (.s []))), none⟩,
    ⟨(some 5), .op (.mov (.c (.b false))), none⟩])
  (.seq (.seq (.reg false [⟨(some 6), .op (.mov (.t 0)), none⟩,
    ⟨(some 7), .op (.mov (.t 1)), none⟩,
    ⟨(some 8), .callF f_internal_stringslite_HasPrefix [(.t 6), (.t 7)], none⟩,
    ⟨(some 9), .op (.un .not (.t 8)), none⟩])
  (.cond (.t 9) (.seq (.reg false [⟨(some 10), .op (.mov (.t 0)), none⟩,
    ⟨(some 4), .op (.mov (.t 10)), none⟩,
    ⟨(some 5), .op (.mov (.c (.b false))), none⟩])
  (.ret)) (.skip)))
  (.seq (.reg false [⟨(some 11), .op (.mov (.t 0)), none⟩,
    ⟨(some 12), .op (.mov (.t 1)), none⟩,
    ⟨(some 13), .op (.len true (.t 12)), none⟩,
    ⟨(some 14), .op (.slcStr (.t 11) (some (.t 13)) none), none⟩,
    ⟨(some 4), .op (.mov (.t 14)), none⟩,
    ⟨(some 5), .op (.mov (.c (.b true))), none⟩])
  (.ret)))⟩
/-- a string behind a prefix, and whether that is there -/
def cutPrefix (s p : List UInt8) : AV := if p.isPrefixOf s = true then .tup [.s (s.drop p.length), .b true] else .tup [.s s, .b false]
theorem cutPrefix_lite {g : Nat} (hc : chkFn P f (ir_internal_stringslite_CutPrefix g) = true) (hg : ∀ s p, Pure P g [.s s, .s p] (.b (p.isPrefixOf s))) (s p : List UInt8) : Pure P f [.s s, .s p] (cutPrefix s p) := by
  refine Pure.mk hc (by simp [clos, clo]) ?_
  unfold cutPrefix
  simp only [ir_internal_stringslite_CutPrefix, argsT, H0, mkT, mkH, trL, List.length_cons, List.length_nil, Nat.reduceAdd, Nat.zero_add]
  simp only [↓vA, ↓vE, ↓vO, ↓vB, ↓vF, ↓vM, ↓vR, ↓vX, cvF_pc, vP, shb, shv, shvs, she_nil, she_cons, vC, vQ, Nat.reduceEqDiff, ↓reduceIte, eq_self, Nat.reduceAdd, Nat.reduceMul, Nat.reduceSub, Nat.reduceLeDiff, Nat.reduceLT, defd, cellsOf, wr, packR, Int.reduceLE, Int.reduceLT, Int.reduceEq, Int.cast_ofNat_Int, Int.reduceToNat]
  refine (hg _ _).sc ?_
  cases h : p.isPrefixOf s with
  | false => simp only [↓vA, ↓vE, ↓vO, ↓vB, ↓vF, ↓vM, ↓vR, ↓vX, cvF_pc, vP, shb, shv, shvs, she_nil, she_cons, vC, vQ, Nat.reduceEqDiff, ↓reduceIte, eq_self, Nat.reduceAdd, Nat.reduceMul, Nat.reduceSub, Nat.reduceLeDiff, Nat.reduceLT, defd, cellsOf, wr, packR, Int.reduceLE, Int.reduceLT, Int.reduceEq, Int.cast_ofNat_Int, Int.reduceToNat, vZ]
  | true =>
    have hl : p.length ≤ s.length := (List.isPrefixOf_iff_prefix.1 h).length_le
    simp only [↓vA, ↓vE, ↓vO, ↓vB, ↓vF, ↓vM, ↓vR, ↓vX, cvF_pc, vP, shb, shv, shvs, she_nil, she_cons, vC, vQ, Nat.reduceEqDiff, ↓reduceIte, eq_self, Nat.reduceAdd, Nat.reduceMul, Nat.reduceSub, Nat.reduceLeDiff, Nat.reduceLT, defd, cellsOf, wr, packR, Int.reduceLE, Int.reduceLT, Int.reduceEq, Int.cast_ofNat_Int, Int.reduceToNat, vZ, hl, List.take_length]
def ir_strings_CutPrefix (f_internal_stringslite_CutPrefix : Nat) : IFn := ⟨[.tmp 4, .tmp 5],
  .seq (.reg false [⟨(some 4), .op (.mov (.c (.s []))), none⟩,
    ⟨(some 5), .op (.mov (.c (.b false))), none⟩])
  (.seq (.reg false [⟨(some 6), .op (.mov (.t 0)), none⟩,
    ⟨(some 7), .op (.mov (.t 1)), none⟩,
    ⟨(some 8), .callF f_internal_stringslite_CutPrefix [(.t 6), (.t 7)], none⟩,
    ⟨(some 9), .op (.ext (.t 8) 0), none⟩,
    ⟨(some 10), .op (.ext (.t 8) 1), none⟩,
    ⟨(some 4), .op (.mov (.t 9)), none⟩,
    ⟨(some 5), .op (.mov (.t 10)), none⟩])
  (.ret))⟩
theorem cutPrefix_strings {g : Nat} (hc : chkFn P f (ir_strings_CutPrefix g) = true) (hg : ∀ s p, Pure P g [.s s, .s p] (cutPrefix s p)) (s p : List UInt8) : Pure P f [.s s, .s p] (cutPrefix s p) := by
  refine Pure.mk hc (by simp [clos, clo]) ?_
  simp only [ir_strings_CutPrefix, argsT, H0, mkT, mkH, trL, List.length_cons, List.length_nil, Nat.reduceAdd, Nat.zero_add]
  simp only [↓vA, ↓vE, ↓vO, ↓vB, ↓vF, ↓vM, ↓vR, ↓vX, cvF_pc, vP, shb, shv, shvs, she_nil, she_cons, vC, vQ, Nat.reduceEqDiff, ↓reduceIte, eq_self, Nat.reduceAdd, Nat.reduceMul, Nat.reduceSub, Nat.reduceLeDiff, Nat.reduceLT, defd, cellsOf, wr, packR, Int.reduceLE, Int.reduceLT, Int.reduceEq, Int.cast_ofNat_Int, Int.reduceToNat]
  refine (hg _ _).sc ?_
  unfold cutPrefix
  cases h : p.isPrefixOf s with
  | false => simp only [↓vA, ↓vE, ↓vO, ↓vB, ↓vF, ↓vM, ↓vR, ↓vX, cvF_pc, vP, shb, shv, shvs, she_nil, she_cons, vC, vQ, Nat.reduceEqDiff, ↓reduceIte, eq_self, Nat.reduceAdd, Nat.reduceMul, Nat.reduceSub, Nat.reduceLeDiff, Nat.reduceLT, defd, cellsOf, wr, packR, Int.reduceLE, Int.reduceLT, Int.reduceEq, Int.cast_ofNat_Int, Int.reduceToNat, vZ]
  | true => simp only [↓vA, ↓vE, ↓vO, ↓vB, ↓vF, ↓vM, ↓vR, ↓vX, cvF_pc, vP, shb, shv, shvs, she_nil, she_cons, vC, vQ, Nat.reduceEqDiff, ↓reduceIte, eq_self, Nat.reduceAdd, Nat.reduceMul, Nat.reduceSub, Nat.reduceLeDiff, Nat.reduceLT, defd, cellsOf, wr, packR, Int.reduceLE, Int.reduceLT, Int.reduceEq, Int.cast_ofNat_Int, Int.reduceToNat, vZ]
def ir_values_Turned (f_strings_CutPrefix : Nat) : IFn := ⟨[.tmp 2, .tmp 3],
  .seq (.reg false [⟨(some 2), .op (.mov (.c (.s []))), none⟩,
    ⟨(some 3), .op (.mov (.c (.b false))), none⟩])
  (.seq (.reg false [⟨(some 4), .op (.mov (.t 0)), none⟩,
    ⟨(some 5), .callF f_strings_CutPrefix [(.t 4), (.c (.s [126]))], none⟩,
    ⟨(some 6), .op (.ext (.t 5) 0), none⟩,
    ⟨(some 7), .op (.ext (.t 5) 1), none⟩,
    ⟨(some 2), .op (.mov (.t 6)), none⟩,
    ⟨(some 3), .op (.mov (.t 7)), none⟩])
  (.ret))⟩
theorem turned_pure {g : Nat} (hc : chkFn P f (ir_values_Turned g) = true) (hg : ∀ s p, Pure P g [.s s, .s p] (cutPrefix s p)) (s : List UInt8) : Pure P f [.s s] (cutPrefix s [126]) := by
  refine Pure.mk hc (by simp [clos, clo]) ?_
  simp only [ir_values_Turned, argsT, H0, mkT, mkH, trL, List.length_cons, List.length_nil, Nat.reduceAdd, Nat.zero_add]
  simp only [↓vA, ↓vE, ↓vO, ↓vB, ↓vF, ↓vM, ↓vR, ↓vX, cvF_pc, vP, shb, shv, shvs, she_nil, she_cons, vC, vQ, Nat.reduceEqDiff, ↓reduceIte, eq_self, Nat.reduceAdd, Nat.reduceMul, Nat.reduceSub, Nat.reduceLeDiff, Nat.reduceLT, defd, cellsOf, wr, packR, Int.reduceLE, Int.reduceLT, Int.reduceEq, Int.cast_ofNat_Int, Int.reduceToNat]
  refine (hg _ _).sc ?_
  unfold cutPrefix
  cases h : List.isPrefixOf [126] s with
  | false => simp only [↓vA, ↓vE, ↓vO, ↓vB, ↓vF, ↓vM, ↓vR, ↓vX, cvF_pc, vP, shb, shv, shvs, she_nil, she_cons, vC, vQ, Nat.reduceEqDiff, ↓reduceIte, eq_self, Nat.reduceAdd, Nat.reduceMul, Nat.reduceSub, Nat.reduceLeDiff, Nat.reduceLT, defd, cellsOf, wr, packR, Int.reduceLE, Int.reduceLT, Int.reduceEq, Int.cast_ofNat_Int, Int.reduceToNat, vZ]
  | true => simp only [↓vA, ↓vE, ↓vO, ↓vB, ↓vF, ↓vM, ↓vR, ↓vX, cvF_pc, vP, shb, shv, shvs, she_nil, she_cons, vC, vQ, Nat.reduceEqDiff, ↓reduceIte, eq_self, Nat.reduceAdd, Nat.reduceMul, Nat.reduceSub, Nat.reduceLeDiff, Nat.reduceLT, defd, cellsOf, wr, packR, Int.reduceLE, Int.reduceLT, Int.reduceEq, Int.cast_ofNat_Int, Int.reduceToNat, vZ]
end Go.Kc
end
section
/- What searches in lists answer. Condition: the functions' texts are these. -/
namespace Go.Kc
variable {P : Program} {f : Nat}
def ir_slices_Index_string_string : IFn := ⟨[.tmp 4],
  .seq (.reg false [⟨(some 4), .op (.mov (.c (.i .i64 0))), none⟩])
  (.seq (.seq (.reg false [⟨(some 6), .op (.mov (.t 0)), none⟩,
    ⟨(some 7), .op (.len false (.t 6)), none⟩,
    ⟨(some 8), .op (.mov (.c (.i .i64 0))), none⟩])
  (.blk 0 (.loop (.seq (.reg false [⟨(some 9), .op (.bin .lss (.t 8) (.t 7)), none⟩])
  (.seq (.cond (.t 9) (.skip) (.exit 0))
  (.seq (.blk 1 (.seq (.reg false [⟨(some 10), .op (.mov (.t 8)), none⟩,
    ⟨(some 5), .op (.mov (.t 10)), none⟩])
  (.seq (.reg false [⟨(some 11), .op (.mov (.t 1)), none⟩,
    ⟨(some 12), .op (.mov (.t 0)), none⟩,
    ⟨(some 13), .op (.mov (.t 5)), none⟩,
    ⟨(some 14), .op (.iAddrS 1 (.t 12) (.t 13)), none⟩,
    ⟨(some 15), .op (.load1 (.t 14)), none⟩,
    ⟨(some 16), .op (.bin .eql (.t 11) (.t 15)), none⟩])
  (.cond (.t 16) (.seq (.reg false [⟨(some 17), .op (.mov (.t 5)), none⟩,
    ⟨(some 4), .op (.mov (.t 17)), none⟩])
  (.ret)) (.skip)))))
  (.reg false [⟨(some 18), .op (.bin .add (.t 8) (.c (.i .i64 1))), none⟩,
    ⟨(some 8), .op (.mov (.t 18)), none⟩])))))))
  (.seq (.reg false [⟨(some 4), .op (.mov (.c (.i .i64 (-1)))), none⟩])
  (.ret)))⟩
def idxF (s : List UInt8) : List (List UInt8) → Nat → Int
  | [], _ => -1
  | x :: xs, j => if s = x then (j : Int) else idxF s xs (j + 1)
theorem idxF_mem (s : List UInt8) : ∀ (xs : List (List UInt8)) (j : Nat), decide (0 ≤ idxF s xs j) = decide (s ∈ xs)
  | [], j => by simp [idxF]
  | x :: xs, j => by
    simp only [idxF, List.mem_cons]
    by_cases h : s = x
    · simp [h]
    · simp [h, idxF_mem s xs (j + 1)]
theorem index_string (hc : chkFn P f ir_slices_Index_string_string = true) (xs : List (List UInt8)) (s : List UInt8) (hl : xs.length ≤ roomB) : Pure P f [.fz xs.length (xs.map .s), .s s] (.i .i64 (idxF s xs 0)) := by
  refine Pure.mk hc (by simp [clos, clo]) ?_
  simp only [ir_slices_Index_string_string, argsT, H0, mkT, mkH, trL, List.length_cons, List.length_nil, Nat.reduceAdd, Nat.zero_add]
  simp only [↓vA, ↓vE, ↓vO, ↓vB, ↓vF, ↓vM, ↓vR, ↓vX, cvF_pc, vP, shb, shv, shvs, she_nil, she_cons, vC, vQ, Nat.reduceEqDiff, ↓reduceIte, eq_self, Nat.reduceAdd, Nat.reduceMul, Nat.reduceSub, Nat.reduceLeDiff, Nat.reduceLT, defd, cellsOf, wr, packR, Int.reduceLE, Int.reduceLT, Int.reduceEq, Int.cast_ofNat_Int, Int.reduceToNat]
  refine SL.loop (α := Nat) (fun j => [(0, .fz xs.length (xs.map .s)), (1, .s s), (7, .i .i64 xs.length), (8, .i .i64 j)]) (fun _ => []) (fun j => j ≤ xs.length ∧ idxF s xs 0 = idxF s (xs.drop j) j) (fun j => xs.length - j) 0 [] ?_ ?_ ?_ rfl ?_ ?_
  · simp [vW, bw_map, mapAt_map, mapClo_it, mapClo_nil, mapClo_cons, vP, vZ, Tr.get_set]
  · trivial
  · simp
  · simp
  rintro j ⟨hj, hI⟩ G ih
  simp only [argsT, H0, mkT, mkH, trL, List.length_cons, List.length_nil, Nat.reduceAdd, Nat.zero_add]
  by_cases hlt : j < xs.length
  · have hx : xs[j]? = some xs[j] := List.getElem?_eq_getElem hlt
    have hw : IntKind.wrap .i64 ((j : Int) + 1) = (j : Int) + 1 := wrap64 (by omega) (by have := hl; simp only [roomB] at this; omega)
    rw [List.drop_eq_getElem_cons hlt, idxF] at hI
    simp only [↓vA, ↓vE, ↓vO, ↓vB, ↓vF, ↓vM, ↓vR, ↓vX, cvF_pc, vP, shb, shv, shvs, she_nil, she_cons, vC, vQ, Nat.reduceEqDiff, ↓reduceIte, eq_self, Nat.reduceAdd, Nat.reduceMul, Nat.reduceSub, Nat.reduceLeDiff, Nat.reduceLT, defd, cellsOf, wr, packR, Int.reduceLE, Int.reduceLT, Int.reduceEq, Int.cast_ofNat_Int, Int.reduceToNat, hlt, Nat.mul_one, List.getElem?_map, hx, Option.map_some, hw]
    split
    · rename_i he
      simp only [he, vZ, if_true] at hI ⊢
      simp [hI]
    · rename_i he
      rw [if_neg he] at hI
      refine ih (j + 1) ⟨by omega, hI⟩ (by omega) _ _ (Wk.mk _ _ [] ?_ ?_ ?_ rfl)
      · simp [vW, bw_map, mapAt_map, mapClo_it, mapClo_nil, mapClo_cons, vP, vZ, Tr.get_set]
      · trivial
      · simp
  · simp only [↓vA, ↓vE, ↓vO, ↓vB, ↓vF, ↓vM, ↓vR, ↓vX, cvF_pc, vP, shb, shv, shvs, she_nil, she_cons, vC, vQ, Nat.reduceEqDiff, ↓reduceIte, eq_self, Nat.reduceAdd, Nat.reduceMul, Nat.reduceSub, Nat.reduceLeDiff, Nat.reduceLT, defd, cellsOf, wr, packR, Int.reduceLE, Int.reduceLT, Int.reduceEq, Int.cast_ofNat_Int, Int.reduceToNat, hlt, vZ]
    rw [List.drop_eq_nil_of_le (by omega)] at hI
    simp [hI, idxF]
def ir_slices_Contains_string_string (f_slices_Index_string_string : Nat) : IFn := ⟨[.tmp 4],
  .seq (.reg false [⟨(some 4), .op (.mov (.c (.b false))), none⟩])
  (.seq (.reg false [⟨(some 5), .op (.mov (.t 0)), none⟩,
    ⟨(some 6), .op (.mov (.t 1)), none⟩,
    ⟨(some 7), .callF f_slices_Index_string_string [(.t 5), (.t 6)], none⟩,
    ⟨(some 8), .op (.bin .geq (.t 7) (.c (.i .i64 0))), none⟩,
    ⟨(some 4), .op (.mov (.t 8)), none⟩])
  (.ret))⟩
theorem contains_string {g : Nat} (hc : chkFn P f (ir_slices_Contains_string_string g) = true) (hg : ∀ (xs : List (List UInt8)) (s : List UInt8), xs.length ≤ roomB → Pure P g [.fz xs.length (xs.map .s), .s s] (.i .i64 (idxF s xs 0))) (xs : List (List UInt8)) (s : List UInt8) (hl : xs.length ≤ roomB) : Pure P f [.fz xs.length (xs.map .s), .s s] (.b (decide (s ∈ xs))) := by
  refine Pure.mk hc (by simp [clos, clo]) ?_
  simp only [ir_slices_Contains_string_string, argsT, H0, mkT, mkH, trL, List.length_cons, List.length_nil, Nat.reduceAdd, Nat.zero_add]
  simp only [↓vA, ↓vE, ↓vO, ↓vB, ↓vF, ↓vM, ↓vR, ↓vX, cvF_pc, vP, shb, shv, shvs, she_nil, she_cons, vC, vQ, Nat.reduceEqDiff, ↓reduceIte, eq_self, Nat.reduceAdd, Nat.reduceMul, Nat.reduceSub, Nat.reduceLeDiff, Nat.reduceLT, defd, cellsOf, wr, packR, Int.reduceLE, Int.reduceLT, Int.reduceEq, Int.cast_ofNat_Int, Int.reduceToNat]
  refine (hg _ _ hl).sc ?_
  simp only [↓vA, ↓vE, ↓vO, ↓vB, ↓vF, ↓vM, ↓vR, ↓vX, cvF_pc, vP, shb, shv, shvs, she_nil, she_cons, vC, vQ, Nat.reduceEqDiff, ↓reduceIte, eq_self, Nat.reduceAdd, Nat.reduceMul, Nat.reduceSub, Nat.reduceLeDiff, Nat.reduceLT, defd, cellsOf, wr, packR, Int.reduceLE, Int.reduceLT, Int.reduceEq, Int.cast_ofNat_Int, Int.reduceToNat, vZ, idxF_mem]
def ir_values_says : IFn := ⟨[.cell 0 8 true],
  .seq (.reg false [⟨(some 0), .op (.alloc [.s [], .s [], .s [], .s [], .s [], .s [], .s [], .s []]), none⟩])
  (.seq (.reg false [⟨(some 1), .op (.build [.s [], .s [], .s [], .s []] [(0, 1, (.c (.s [110, 111]))), (1, 1, (.c (.s [102, 97, 108, 115, 101]))), (2, 1, (.c (.s [111, 102, 102]))), (3, 1, (.c (.s [48])))]), none⟩,
    ⟨(some 2), .op (.build [.s [], .s [], .s [], .s []] [(0, 1, (.c (.s [121, 101, 115]))), (1, 1, (.c (.s [116, 114, 117, 101]))), (2, 1, (.c (.s [111, 110]))), (3, 1, (.c (.s [49])))]), none⟩,
    ⟨(some 3), .op (.build [.s [], .s [], .s [], .s [], .s [], .s [], .s [], .s []] [(0, 4, (.t 1)), (4, 4, (.t 2))]), none⟩,
    ⟨none, .op (.store 8 (.t 0) (.t 3)), none⟩])
  (.ret))⟩
def noWords : List (List UInt8) := [[110, 111], [102, 97, 108, 115, 101], [111, 102, 102], [48]]
def yesWords : List (List UInt8) := [[121, 101, 115], [116, 114, 117, 101], [111, 110], [49]]
theorem says_pure (hc : chkFn P f ir_values_says = true) : Pure P f [] (.agg (noWords.map .s ++ yesWords.map .s)) := by
  refine Pure.mk hc rfl ?_
  simp only [ir_values_says, argsT, H0, mkT, mkH, trL, List.length_cons, List.length_nil, Nat.reduceAdd, Nat.zero_add]
  simp only [↓vA, ↓vE, ↓vO, ↓vB, ↓vF, ↓vM, ↓vR, ↓vX, cvF_pc, vP, shb, shv, shvs, she_nil, she_cons, vC, vQ, Nat.reduceEqDiff, ↓reduceIte, eq_self, Nat.reduceAdd, Nat.reduceMul, Nat.reduceSub, Nat.reduceLeDiff, Nat.reduceLT, defd, cellsOf, wr, packR, Int.reduceLE, Int.reduceLT, Int.reduceEq, Int.cast_ofNat_Int, Int.reduceToNat, noWords, yesWords, vZ]
def ir_values_Bool (f_values_says f_slices_Contains_string_string : Nat) : IFn := ⟨[.tmp 2, .tmp 3],
  .seq (.reg false [⟨(some 2), .op (.mov (.c (.b false))), none⟩,
    ⟨(some 3), .op (.mov (.c (.i .i64 0))), none⟩])
  (.seq (.seq (.reg false [⟨(some 6), .callF f_values_says [], none⟩,
    ⟨(some 7), .op (.mov (.c (.i .i64 0))), none⟩])
  (.blk 0 (.loop (.seq (.reg false [⟨(some 8), .op (.bin .lss (.t 7) (.c (.i .i64 2))), none⟩])
  (.seq (.cond (.t 8) (.skip) (.exit 0))
  (.seq (.blk 1 (.seq (.reg false [⟨(some 9), .op (.mov (.t 7)), none⟩,
    ⟨(some 10), .op (.idxA 2 4 true (.t 6) (.t 7)), none⟩,
    ⟨(some 5), .op (.alloc [.s [], .s [], .s [], .s []]), none⟩,
    ⟨(some 4), .op (.mov (.t 9)), none⟩,
    ⟨none, .op (.store 4 (.t 5) (.t 10)), none⟩])
  (.seq (.reg false [⟨(some 11), .op (.slcA 4 1 (.t 5) none none none), none⟩,
    ⟨(some 12), .op (.mov (.t 0)), none⟩,
    ⟨(some 13), .callF f_slices_Contains_string_string [(.t 11), (.t 12)], none⟩])
  (.cond (.t 13) (.seq (.reg false [⟨(some 14), .op (.mov (.t 4)), none⟩,
    ⟨(some 15), .op (.bin .eql (.t 14) (.c (.i .i64 1))), none⟩,
    ⟨(some 2), .op (.mov (.t 15)), none⟩,
    ⟨(some 3), .op (.mov (.c (.i .i64 0))), none⟩])
  (.ret)) (.skip)))))
  (.reg false [⟨(some 16), .op (.bin .add (.t 7) (.c (.i .i64 1))), none⟩,
    ⟨(some 7), .op (.mov (.t 16)), none⟩])))))))
  (.seq (.reg false [⟨(some 2), .op (.mov (.c (.b false))), none⟩,
    ⟨(some 3), .op (.mov (.c (.i .i64 150))), none⟩])
  (.ret)))⟩
/-- yes or no, and what is wrong -/
def boolE (s : List UInt8) : AV := if s ∈ noWords then .tup [.b false, .i .i64 0] else if s ∈ yesWords then .tup [.b true, .i .i64 0] else .tup [.b false, .i .i64 150]
theorem bool_pure {g1 g2 : Nat} (hc : chkFn P f (ir_values_Bool g1 g2) = true) (h1 : Pure P g1 [] (.agg (noWords.map .s ++ yesWords.map .s))) (h2 : ∀ (xs : List (List UInt8)) (s : List UInt8), xs.length ≤ roomB → Pure P g2 [.fz xs.length (xs.map .s), .s s] (.b (decide (s ∈ xs)))) (s : List UInt8) : Pure P f [.s s] (boolE s) := by
  refine Pure.mk hc (by simp [clos, clo]) ?_
  simp only [ir_values_Bool, argsT, H0, mkT, mkH, trL, List.length_cons, List.length_nil, Nat.reduceAdd, Nat.zero_add]
  simp only [↓vA, ↓vE, ↓vO, ↓vB, ↓vF, ↓vM, ↓vR, ↓vX, cvF_pc, vP, shb, shv, shvs, she_nil, she_cons, vC, vQ, Nat.reduceEqDiff, ↓reduceIte, eq_self, Nat.reduceAdd, Nat.reduceMul, Nat.reduceSub, Nat.reduceLeDiff, Nat.reduceLT, defd, cellsOf, wr, packR, Int.reduceLE, Int.reduceLT, Int.reduceEq, Int.cast_ofNat_Int, Int.reduceToNat]
  refine h1.sc ?_
  simp only [↓vA, ↓vE, ↓vO, ↓vB, ↓vF, ↓vM, ↓vR, ↓vX, cvF_pc, vP, shb, shv, shvs, she_nil, she_cons, vC, vQ, Nat.reduceEqDiff, ↓reduceIte, eq_self, Nat.reduceAdd, Nat.reduceMul, Nat.reduceSub, Nat.reduceLeDiff, Nat.reduceLT, defd, cellsOf, wr, packR, Int.reduceLE, Int.reduceLT, Int.reduceEq, Int.cast_ofNat_Int, Int.reduceToNat]
  refine SL_step ?_
  simp only [↓vA, ↓vE, ↓vO, ↓vB, ↓vF, ↓vM, ↓vR, ↓vX, cvF_pc, vP, shb, shv, shvs, she_nil, she_cons, vC, vQ, Nat.reduceEqDiff, ↓reduceIte, eq_self, Nat.reduceAdd, Nat.reduceMul, Nat.reduceSub, Nat.reduceLeDiff, Nat.reduceLT, defd, cellsOf, wr, packR, Int.reduceLE, Int.reduceLT, Int.reduceEq, Int.cast_ofNat_Int, Int.reduceToNat, Int.reduceLT, noWords, yesWords]
  refine (h2 noWords s (by decide)).lend (vs' := [.fz 4 (noWords.map .s), .s s]) ?_ rfl ?_
  · refine .cons _ _ _ _ (.cut 1 rfl (Nat.le_refl _) ?_) (.cons _ _ _ _ (.s _) .nil)
    simp [vW, bw_map, mapAt_map, mapClo_it, mapClo_nil, mapClo_cons, vP, vZ, Tr.get_set, noWords]
  unfold boolE
  by_cases hn : s ∈ noWords
  · simp only [↓vA, ↓vE, ↓vO, ↓vB, ↓vF, ↓vM, ↓vR, ↓vX, cvF_pc, vP, shb, shv, shvs, she_nil, she_cons, vC, vQ, Nat.reduceEqDiff, ↓reduceIte, eq_self, Nat.reduceAdd, Nat.reduceMul, Nat.reduceSub, Nat.reduceLeDiff, Nat.reduceLT, defd, cellsOf, wr, packR, Int.reduceLE, Int.reduceLT, Int.reduceEq, Int.cast_ofNat_Int, Int.reduceToNat, hn, Int.reduceEq, vZ]
  · simp only [↓vA, ↓vE, ↓vO, ↓vB, ↓vF, ↓vM, ↓vR, ↓vX, cvF_pc, vP, shb, shv, shvs, she_nil, she_cons, vC, vQ, Nat.reduceEqDiff, ↓reduceIte, eq_self, Nat.reduceAdd, Nat.reduceMul, Nat.reduceSub, Nat.reduceLeDiff, Nat.reduceLT, defd, cellsOf, wr, packR, Int.reduceLE, Int.reduceLT, Int.reduceEq, Int.cast_ofNat_Int, Int.reduceToNat, hn, Int.reduceAdd, wrap64 (show (-9223372036854775808 : Int) ≤ 1 by decide) (by decide)]
    refine SL_step ?_
    simp only [↓vA, ↓vE, ↓vO, ↓vB, ↓vF, ↓vM, ↓vR, ↓vX, cvF_pc, vP, shb, shv, shvs, she_nil, she_cons, vC, vQ, Nat.reduceEqDiff, ↓reduceIte, eq_self, Nat.reduceAdd, Nat.reduceMul, Nat.reduceSub, Nat.reduceLeDiff, Nat.reduceLT, defd, cellsOf, wr, packR, Int.reduceLE, Int.reduceLT, Int.reduceEq, Int.cast_ofNat_Int, Int.reduceToNat, Int.reduceLT, noWords, yesWords]
    refine (h2 yesWords s (by decide)).lend (vs' := [.fz 4 (yesWords.map .s), .s s]) ?_ rfl ?_
    · refine .cons _ _ _ _ (.cut 1 rfl (Nat.le_refl _) ?_) (.cons _ _ _ _ (.s _) .nil)
      simp [vW, bw_map, mapAt_map, mapClo_it, mapClo_nil, mapClo_cons, vP, vZ, Tr.get_set, yesWords]
    by_cases hy : s ∈ yesWords
    · simp only [↓vA, ↓vE, ↓vO, ↓vB, ↓vF, ↓vM, ↓vR, ↓vX, cvF_pc, vP, shb, shv, shvs, she_nil, she_cons, vC, vQ, Nat.reduceEqDiff, ↓reduceIte, eq_self, Nat.reduceAdd, Nat.reduceMul, Nat.reduceSub, Nat.reduceLeDiff, Nat.reduceLT, defd, cellsOf, wr, packR, Int.reduceLE, Int.reduceLT, Int.reduceEq, Int.cast_ofNat_Int, Int.reduceToNat, hn, hy, Int.reduceEq, vZ]
    · simp only [↓vA, ↓vE, ↓vO, ↓vB, ↓vF, ↓vM, ↓vR, ↓vX, cvF_pc, vP, shb, shv, shvs, she_nil, she_cons, vC, vQ, Nat.reduceEqDiff, ↓reduceIte, eq_self, Nat.reduceAdd, Nat.reduceMul, Nat.reduceSub, Nat.reduceLeDiff, Nat.reduceLT, defd, cellsOf, wr, packR, Int.reduceLE, Int.reduceLT, Int.reduceEq, Int.cast_ofNat_Int, Int.reduceToNat, hy, Int.reduceAdd, wrap64 (show (-9223372036854775808 : Int) ≤ 2 by decide) (by decide)]
      refine SL_step ?_
      simp only [↓vA, ↓vE, ↓vO, ↓vB, ↓vF, ↓vM, ↓vR, ↓vX, cvF_pc, vP, shb, shv, shvs, she_nil, she_cons, vC, vQ, Nat.reduceEqDiff, ↓reduceIte, eq_self, Nat.reduceAdd, Nat.reduceMul, Nat.reduceSub, Nat.reduceLeDiff, Nat.reduceLT, defd, cellsOf, wr, packR, Int.reduceLE, Int.reduceLT, Int.reduceEq, Int.cast_ofNat_Int, Int.reduceToNat, Int.reduceLT, hn, hy, vZ]
end Go.Kc
end
