/- What an abstract run comes to is one outcome. No condition. -/

import Derived.Test.YtbcpapkjdphfpaaCore2
set_option linter.unusedVariables false
namespace Go.Ab

def L1 {α : Type} (G : (α → Prop) → Prop) : Prop := ∀ k, G k → ∃ x, k x ∧ ∀ k', k' x → G k'
def L2 {α β : Type} (G : (α → β → Prop) → Prop) : Prop := ∀ k, G k → ∃ x y, k x y ∧ ∀ k', k' x y → G k'
def L3 {α β γ : Type} (G : (α → β → γ → Prop) → Prop) : Prop := ∀ k, G k → ∃ x y z, k x y z ∧ ∀ k', k' x y z → G k'
def L4 {α β γ δ : Type} (G : (α → β → γ → δ → Prop) → Prop) : Prop := ∀ k, G k → ∃ x y z u, k x y z u ∧ ∀ k', k' x y z u → G k'

section
variable {α β γ δ ε : Type}
theorem L1.ret (x : α) : L1 (fun k => k x) := fun _ h => ⟨x, h, fun _ h => h⟩
theorem L2.ret (x : α) (y : β) : L2 (fun k => k x y) := fun _ h => ⟨x, y, h, fun _ h => h⟩
theorem L3.ret (x : α) (y : β) (z : γ) : L3 (fun k => k x y z) := fun _ h => ⟨x, y, z, h, fun _ h => h⟩
theorem L1.no : L1 (fun (_ : α → Prop) => False) := fun _ h => h.elim
theorem L2.no : L2 (fun (_ : α → β → Prop) => False) := fun _ h => h.elim
theorem L3.no : L3 (fun (_ : α → β → γ → Prop) => False) := fun _ h => h.elim
theorem L4.no : L4 (fun (_ : α → β → γ → δ → Prop) => False) := fun _ h => h.elim
theorem L1.b1 {G : (α → Prop) → Prop} {F : α → (β → Prop) → Prop} (hG : L1 G) (hF : ∀ x, L1 (F x)) : L1 (fun k => G (fun x => F x k)) := fun _ h => by
  obtain ⟨x, h1, h2⟩ := hG _ h; obtain ⟨y, h3, h4⟩ := hF x _ h1; exact ⟨y, h3, fun k' hk' => h2 _ (h4 k' hk')⟩
theorem L1.b2 {G : (α → Prop) → Prop} {F : α → (β → γ → Prop) → Prop} (hG : L1 G) (hF : ∀ x, L2 (F x)) : L2 (fun k => G (fun x => F x k)) := fun _ h => by
  obtain ⟨x, h1, h2⟩ := hG _ h; obtain ⟨y, z, h3, h4⟩ := hF x _ h1; exact ⟨y, z, h3, fun k' hk' => h2 _ (h4 k' hk')⟩
theorem L1.b3 {G : (α → Prop) → Prop} {F : α → (β → γ → δ → Prop) → Prop} (hG : L1 G) (hF : ∀ x, L3 (F x)) : L3 (fun k => G (fun x => F x k)) := fun _ h => by
  obtain ⟨x, h1, h2⟩ := hG _ h; obtain ⟨y, z, u, h3, h4⟩ := hF x _ h1; exact ⟨y, z, u, h3, fun k' hk' => h2 _ (h4 k' hk')⟩
theorem L2.b1 {G : (α → β → Prop) → Prop} {F : α → β → (γ → Prop) → Prop} (hG : L2 G) (hF : ∀ x y, L1 (F x y)) : L1 (fun k => G (fun x y => F x y k)) := fun _ h => by
  obtain ⟨x, y, h1, h2⟩ := hG _ h; obtain ⟨z, h3, h4⟩ := hF x y _ h1; exact ⟨z, h3, fun k' hk' => h2 _ (h4 k' hk')⟩
theorem L2.b2 {G : (α → β → Prop) → Prop} {F : α → β → (γ → δ → Prop) → Prop} (hG : L2 G) (hF : ∀ x y, L2 (F x y)) : L2 (fun k => G (fun x y => F x y k)) := fun _ h => by
  obtain ⟨x, y, h1, h2⟩ := hG _ h; obtain ⟨z, u, h3, h4⟩ := hF x y _ h1; exact ⟨z, u, h3, fun k' hk' => h2 _ (h4 k' hk')⟩
theorem L3.b2 {G : (α → β → ε → Prop) → Prop} {F : α → β → ε → (γ → δ → Prop) → Prop} (hG : L3 G) (hF : ∀ x y e, L2 (F x y e)) : L2 (fun k => G (fun x y e => F x y e k)) := fun _ h => by
  obtain ⟨x, y, e, h1, h2⟩ := hG _ h; obtain ⟨z, u, h3, h4⟩ := hF x y e _ h1; exact ⟨z, u, h3, fun k' hk' => h2 _ (h4 k' hk')⟩
theorem L4.b1 {ζ : Type} {G : (α → β → γ → δ → Prop) → Prop} {F : α → β → γ → δ → (ζ → Prop) → Prop} (hG : L4 G) (hF : ∀ x y z u, L1 (F x y z u)) : L1 (fun k => G (fun x y z u => F x y z u k)) := fun _ h => by
  obtain ⟨x, y, z, u, h1, h2⟩ := hG _ h; obtain ⟨v, h3, h4⟩ := hF x y z u _ h1; exact ⟨v, h3, fun k' hk' => h2 _ (h4 k' hk')⟩
theorem L4.b2 {ζ η : Type} {G : (α → β → γ → δ → Prop) → Prop} {F : α → β → γ → δ → (ζ → η → Prop) → Prop} (hG : L4 G) (hF : ∀ x y z u, L2 (F x y z u)) : L2 (fun k => G (fun x y z u => F x y z u k)) := fun _ h => by
  obtain ⟨x, y, z, u, h1, h2⟩ := hG _ h; obtain ⟨v, v', h3, h4⟩ := hF x y z u _ h1; exact ⟨v, v', h3, fun k' hk' => h2 _ (h4 k' hk')⟩
theorem L1.wh (x : Bool) {F : (α → Prop) → Prop} (hF : L1 F) : L1 (fun k => whenK x (F k)) := by
  cases x
  · exact L1.no
  · exact hF
theorem L2.wh (x : Bool) {F : (α → β → Prop) → Prop} (hF : L2 F) : L2 (fun k => whenK x (F k)) := by
  cases x
  · exact L2.no
  · exact hF
theorem L3.wh {α β γ : Type} (x : Bool) {F : (α → β → γ → Prop) → Prop} (hF : L3 F) : L3 (fun k => whenK x (F k)) := by
  cases x
  · exact L3.no
  · exact hF
theorem L2.br (x : Bool) {F G : (α → β → Prop) → Prop} (hF : L2 F) (hG : L2 G) : L2 (fun k => Bool.rec (motive := fun _ => Prop) (F k) (G k) x) := by
  cases x
  · exact hF
  · exact hG
theorem L1.br (x : Bool) {F G : (α → Prop) → Prop} (hF : L1 F) (hG : L1 G) : L1 (fun k => Bool.rec (motive := fun _ => Prop) (F k) (G k) x) := by
  cases x
  · exact hF
  · exact hG
end

theorem forceN_l (n : Nat) : L1 (forceN n) := fun k h => ⟨n, by rwa [forceN_eq] at h, fun k' hk' => by rwa [forceN_eq]⟩
theorem forceI_l (n : Int) : L1 (forceI n) := fun k h => ⟨n, by rwa [forceI_eq] at h, fun k' hk' => by rwa [forceI_eq]⟩
theorem forceB_l (n : Bool) : L1 (forceB n) := fun k h => ⟨n, by rwa [forceB_eq] at h, fun k' hk' => by rwa [forceB_eq]⟩
theorem getK_l {α : Type} (t : Tr α) (n : Nat) : L1 (t.getK n) := fun k h => by
  obtain ⟨v, h1, h2⟩ := (Tr.getK_iff _ _ _).1 h; exact ⟨v, h2, fun k' hk' => (Tr.getK_iff _ _ _).2 ⟨v, h1, hk'⟩⟩
theorem setK_l {α : Type} (t : Tr α) (n : Nat) (x : α) : L1 (t.setK n x) := fun k h => ⟨_, (Tr.setK_iff _ _ _ _).1 h, fun k' hk' => (Tr.setK_iff _ _ _ _).2 hk'⟩
theorem nthK_l (l : List AV) (n : Nat) : L1 (nthK l n) := fun k h => by
  obtain ⟨v, h1, h2⟩ := (nthK_iff _ _ _).1 h; exact ⟨v, h2, fun k' hk' => (nthK_iff _ _ _).2 ⟨v, h1, hk'⟩⟩
theorem takeK_l (n : Nat) (l : List AV) : L1 (takeK n l) := fun k h => by
  obtain ⟨h1, h2⟩ := (takeK_iff _ _ _).1 h; exact ⟨_, h2, fun k' hk' => (takeK_iff _ _ _).2 ⟨h1, hk'⟩⟩
theorem dropK_l (n : Nat) (l : List AV) : L1 (dropK n l) := fun k h => by
  obtain ⟨h1, h2⟩ := (dropK_iff _ _ _).1 h; exact ⟨_, h2, fun k' hk' => (dropK_iff _ _ _).2 ⟨h1, hk'⟩⟩
theorem spliceK_l (vs : List AV) (n : Nat) (l : List AV) : L1 (spliceK vs n l) := fun k h => by
  obtain ⟨h1, h2⟩ := (spliceK_iff _ _ _ _).1 h; exact ⟨_, h2, fun k' hk' => (spliceK_iff _ _ _ _).2 ⟨h1, hk'⟩⟩
theorem catK_l (as bs : List AV) : L1 (catK as bs) := fun k h => ⟨_, (catK_iff _ _ _).1 h, fun k' hk' => (catK_iff _ _ _).2 hk'⟩
theorem lenK_l (l : List AV) : L1 (lenK l) := fun k h => ⟨_, (lenK_iff _ _).1 h, fun k' hk' => (lenK_iff _ _).2 hk'⟩
theorem repK_l (z : List AV) (n : Nat) : L1 (repK z n) := fun k h => ⟨_, (repK_iff _ _ _).1 h, fun k' hk' => (repK_iff _ _ _).2 hk'⟩
theorem cellsK_l (h : Hp) (b : Nat) : L4 (cellsK h b) := fun k hk => by
  obtain ⟨v, h1, h2⟩ := getK_l _ _ _ hk
  cases v with
  | cells e w a cs => exact ⟨e, w, a, cs, h1, fun k' hk' => h2 _ hk'⟩
  | dead => exact h1.elim
  | map => exact h1.elim
theorem newK_l (h : Hp) (x : Blk) : L2 (newK h x) := fun k hk => by
  cases h with
  | mk sz fl tr => 
    obtain ⟨t', h1, h2⟩ := setK_l tr sz x _ hk
    obtain ⟨m, h3, h4⟩ := forceN_l _ _ h1
    exact ⟨_, _, h3, fun k' hk' => h2 _ (h4 _ hk')⟩
theorem putK_l (h : Hp) (b : Nat) (x : Blk) : L1 (putK h b x) := by
  cases h with
  | mk sz fl tr => exact L1.br _ L1.no (L1.b1 (setK_l tr b x) fun t' => L1.ret _)
theorem ldK_l (h : Hp) (b off : Nat) : L1 (ldK h b off) := L4.b1 (cellsK_l h b) fun _ _ _ cs => nthK_l cs off
theorem ldsK_l (h : Hp) (b off n : Nat) : L1 (ldsK h b off n) := L4.b1 (cellsK_l h b) fun _ _ _ cs => L1.b1 (dropK_l off cs) fun l => takeK_l n l
theorem stK_l (h : Hp) (b off : Nat) (vs : List AV) : L1 (stK h b off vs) :=
  L4.b1 (cellsK_l h b) fun e w a cs => L1.br _ L1.no (L1.br _ L1.no (L1.b1 (spliceK_l vs off cs) fun cs' => putK_l h b _))
theorem evK_l (t : Tr AV) (x : O) : L1 (evK t x) := by
  cases x
  · exact getK_l _ _
  · exact L1.ret _
theorem evsK_l (t : Tr AV) : ∀ xs, L1 (evsK t xs)
  | [] => L1.ret _
  | x :: xs => by
    show L1 (fun k => evK t x (fun v => evsK t xs (fun vs => k (v :: vs))))
    exact L1.b1 (evK_l t x) fun v => L1.b1 (evsK_l t xs) fun vs => L1.ret _
theorem unB_l (v : AV) : L1 (unB v) := by cases v <;> first | exact L1.no | exact L1.ret _
theorem unI_l (v : AV) : L2 (unI v) := by cases v <;> first | exact L2.no | exact L2.ret _ _
theorem unN_l (v : AV) : L1 (unN v) := by
  cases v <;> try exact L1.no
  rename_i q n; cases n
  · exact L1.ret _
  · exact L1.no
theorem unP_l (v : AV) : L2 (unP v) := by cases v <;> first | exact L2.no | exact L2.ret _ _
theorem optK_l (t : Tr AV) (x : Option O) : L1 (optK t x) := by
  cases x
  · exact L1.ret _
  · rename_i x; show L1 (fun k => evK t x (fun v => k (some v)))
    exact L1.b1 (evK_l t _) fun v => L1.ret _
theorem orcK_l (r : Option AV) : L1 (orcK r) := by
  cases r
  · exact L1.no
  · exact L1.ret _
theorem bndK_l (x : Option AV) (d top : Nat) : L1 (bndK x d top) := by
  cases x
  · exact L1.ret _
  · rename_i v; show L1 (fun k => unN v (fun n => whenK (Nat.ble n top) (forceN n k)))
    exact L1.b1 (unN_l _) fun n => L1.wh _ (forceN_l n)
theorem bndsK_l (len cap : Nat) (lo hi mx : Option AV) : L3 (bndsK len cap lo hi mx) := by
  refine L1.b3 (bndK_l mx cap cap) fun m => ?_
  cases hi with
  | none =>
    cases mx with
    | none =>
      show L3 (fun k => whenK (Nat.ble len m) (bndK lo 0 len (fun l => k l len m)))
      exact L3.wh _ (L1.b3 (bndK_l lo 0 len) fun l => L3.ret _ _ _)
    | some _ => exact L3.no
  | some v =>
    refine L1.b3 (unN_l v) fun h => ?_
    show L3 (fun k => whenK (Nat.ble h m) (forceN h (fun h => bndK lo 0 h (fun l => k l h m))))
    exact L3.wh _ (L1.b3 (forceN_l h) fun h => L1.b3 (bndK_l lo 0 h) fun l => L3.ret _ _ _)
theorem srcK_l (h : Hp) (esz : Nat) (x : AV) : L2 (srcK h esz x) := by
  unfold srcK
  cases x <;> dsimp only <;> try exact L2.no
  · exact L2.wh _ (L1.b2 (forceN_l _) fun n => L2.ret _ _)
  · exact L2.ret _ _
  · exact L1.b2 (ldsK_l _ _ _ _) fun cs => L2.ret _ _
theorem toBytesK_l : ∀ cs, L1 (toBytesK cs)
  | [] => L1.ret _
  | v :: cs => by
    cases v <;> try exact L1.no
    rename_i q n
    cases q <;> try exact L1.no
    cases n
    · rename_i m
      show L1 (fun k => toBytesK cs (fun l => k (UInt8.ofNat m :: l)))
      exact L1.b1 (toBytesK_l cs) fun l => L1.ret _
    · exact L1.no
theorem fillK_l (t : Tr AV) : ∀ ps l, L1 (fillK t ps l)
  | [], l => L1.ret l
  | p :: ps, l => by
    show L1 (fun k => evK t p.2.2 (fun v => whenK (defd v) (forceN p.1 (fun off => lenK (cellsOf v) (fun n => whenK (Nat.beq n p.2.1) (spliceK (cellsOf v) off l (fun l' => fillK t ps l' k)))))))
    exact L1.b1 (evK_l t p.2.2) fun v => L1.wh _ (L1.b1 (forceN_l p.1) fun off => L1.b1 (lenK_l _) fun n => L1.wh _ (L1.b1 (spliceK_l _ _ _) fun l' => fillK_l t ps l'))
theorem intBinK_l (op : BinOp) (q : IntKind) (x y : Int) : L1 (intBinK op q x y) := by
  unfold intBinK
  cases op <;> dsimp only <;> first | exact L1.no | exact L1.b1 (forceI_l _) fun r => L1.ret _ | exact L1.b1 (forceB_l _) fun r => L1.b1 (forceB_l _) fun r => L1.ret _ | exact L1.b1 (forceB_l _) fun r => L1.ret _ | exact L1.br _ (L1.b1 (forceI_l _) fun r => L1.ret _) L1.no
theorem shiftK_l (op : BinOp) (q : IntKind) (x y : Int) : L1 (shiftK op q x y) := by
  cases y with
  | negSucc => exact L1.no
  | ofNat m =>
    unfold shiftK
    refine L1.b1 (forceN_l (min m q.bits)) fun n => ?_
    cases op <;> dsimp only <;> first | exact L1.no | exact L1.b1 (forceI_l _) fun r => L1.ret _
theorem strBinK_l (op : BinOp) (x y : List UInt8) : L1 (strBinK op x y) := by
  unfold strBinK
  cases op <;> dsimp only <;> first | exact L1.no | exact L1.br _ L1.no (L1.ret _) | exact L1.b1 (forceB_l _) fun r => L1.b1 (forceB_l _) fun r => L1.b1 (forceB_l _) fun r => L1.ret _ | exact L1.b1 (forceB_l _) fun r => L1.b1 (forceB_l _) fun r => L1.ret _ | exact L1.b1 (forceB_l _) fun r => L1.ret _
theorem cvK_l (orc : Orc) (q : IntKind) (x : AV) : L1 (cvK orc q x) := by
  unfold cvK
  cases x <;> dsimp only <;> try exact L1.no
  · exact L1.b1 (forceI_l _) fun r => L1.ret _
  · exact orcK_l _
theorem binK_l (orc : Orc) (op : BinOp) (x y : AV) : L1 (binK orc op x y) := by
  unfold binK
  cases x <;> dsimp only <;> try exact L1.no
  · cases y <;> dsimp only <;> try exact L1.no
    · cases op <;> dsimp only <;> first | exact shiftK_l _ _ _ _ | exact L1.wh _ (intBinK_l _ _ _ _)
    · exact orcK_l _
  · cases y <;> dsimp only <;> try exact L1.no
    · exact strBinK_l _ _ _
    · exact orcK_l _
  · exact orcK_l _
theorem isNilK_l (q : NK) (x : AV) : L1 (isNilK q x) := by unfold isNilK; cases q <;> cases x <;> dsimp only <;> first | exact L1.no | exact L1.ret _
theorem cellEqK_l (q : PK) (x y : AV) : L1 (cellEqK q x y) := by
  unfold cellEqK
  cases q <;> cases x <;> dsimp only <;> first | exact L1.no | (cases y <;> dsimp only <;> first | exact L1.no | exact L1.wh _ (forceB_l _) | exact forceB_l _)
theorem cellsEqK_l : ∀ qs xs ys, L1 (cellsEqK qs xs ys)
  | [], _, _ => L1.ret _
  | q :: qs, [], _ => L1.no
  | q :: qs, _ :: _, [] => L1.no
  | q :: qs, x :: xs, y :: ys => by
    show L1 (fun k => cellEqK q x y (fun e => Bool.rec (motive := fun _ => Prop) (k false) (cellsEqK qs xs ys k) e))
    exact L1.b1 (cellEqK_l q x y) fun e => L1.br e (L1.ret _) (cellsEqK_l qs xs ys)
theorem unopK_l (op : UnOp) (x : AV) : L1 (unopK op x) := by
  unfold unopK
  cases op <;> cases x <;> dsimp only <;> first | exact L1.no | exact L1.b1 (forceI_l _) fun r => L1.ret _ | exact L1.b1 (forceB_l _) fun r => L1.ret _
theorem appK_l (h : Hp) (esz bytes : Nat) (c : Bool) (s x : AV) : L2 (appK h esz bytes c s x) := by
  unfold appK
  refine L2.b2 (srcK_l h esz x) fun n new => ?_
  cases s <;> dsimp only <;> try exact L2.no
  · cases n
    · exact L2.ret _ _
    · exact L2.wh _ (L2.wh _ (L2.b2 (newK_l _ _) fun b h' => L2.ret _ _))
  · rename_i b o len cap loose
    refine L1.b2 (forceN_l _) fun need => L2.br _ (L2.wh _ (L2.wh _ (L2.br _ (L1.b2 (ldsK_l _ _ _ _) fun old => L1.b2 (catK_l _ _) fun cs => L2.b2 (newK_l _ _) fun b' h' => L2.ret _ _)
      (L4.b2 (cellsK_l _ _) fun e w a cs => L2.wh _ (L2.wh _ (L2.wh _ (L1.b2 (dropK_l _ _) fun old => L1.b2 (lenK_l _) fun m => L2.wh _ (L1.b2 (catK_l _ _) fun cs' =>
        L2.br _ (L1.b2 (putK_l _ _ _) fun h1 => L2.b2 (newK_l _ _) fun b' h' => L2.ret _ _) (L1.b2 (putK_l _ _ _) fun h1 => L2.b2 (newK_l _ _) fun b' h' => L2.ret _ _))))))))) ?_
    cases n
    · exact L2.ret _ _
    · exact L1.b2 (forceN_l _) fun at_ => L1.b2 (stK_l _ _ _ _) fun h' => L2.ret _ _
theorem copyK_l (h : Hp) (esz : Nat) (d s : AV) : L2 (copyK h esz d s) := by
  unfold copyK
  cases d <;> dsimp only <;> try exact L2.no
  · exact L2.b2 (srcK_l _ _ _) fun _ _ => L2.ret _ _
  · exact L2.b2 (srcK_l _ _ _) fun _ _ => L1.b2 (forceN_l _) fun m => L1.b2 (takeK_l _ _) fun cs => L1.b2 (stK_l _ _ _ _) fun h' => L2.ret _ _
theorem eszK_l (h : Hp) (b esz : Nat) (c : Bool) (v : AV) (h' : Hp) : L2 (fun k : AV → Hp → Prop => eszK h b esz c (k v h')) := by
  cases c
  · exact L2.ret _ _
  · exact L4.b2 (cellsK_l h b) fun e _ _ _ => L2.wh _ (L2.ret _ _)

theorem apartK_w (t : Tr AV) (b : Nat) (ps : List Nat) {G : (AV → Hp → Prop) → Prop} (hG : L2 G) : L2 (fun k => apartK t b ps (G k)) := by
  induction ps with
  | nil => exact hG
  | cons q ps ih =>
    show L2 (fun k => evK t (.t q) (fun y => unP y (fun b' _ => whenK (not (Nat.beq b' b)) (apartK t b ps (G k)))))
    exact L1.b2 (evK_l t (.t q)) fun y => L2.b2 (unP_l y) fun b' _ => L2.wh _ ih
theorem keyK_w (orc : Orc) (kd : Option IntKind) (i : AV) {G : (AV → Hp → Prop) → Prop} (hG : L2 G) : L2 (fun k => keyK orc kd i (G k)) := by
  unfold keyK
  cases i <;> dsimp only <;> try exact L2.no
  · cases kd <;> dsimp only
    · exact L2.no
    · exact L2.wh _ hG
  · cases kd <;> dsimp only
    · exact hG
    · exact L2.no
  · cases kd <;> dsimp only
    · exact L1.b2 (orcK_l _) fun _ => hG
    · exact L2.no
theorem keyEqK_l (orc : Orc) (x y : AV) : L1 (keyEqK orc x y) := by
  unfold keyEqK
  cases y <;> dsimp only <;> try exact L1.no
  · cases x <;> dsimp only <;> try exact L1.no
    exact L1.wh _ (forceB_l _)
  · cases x <;> dsimp only <;> try exact L1.no
    · exact forceB_l _
    · exact L1.b1 (orcK_l _) fun _ => L1.b1 (orcK_l _) fun v => unB_l v
theorem findK_l (orc : Orc) (i : AV) : ∀ es, L1 (findK orc i es)
  | [] => L1.ret _
  | e :: es => by
    show L1 (fun k => keyEqK orc i e.1 (fun r => Bool.rec (motive := fun _ => Prop) (findK orc i es k) (k (some e.2)) r))
    exact L1.b1 (keyEqK_l orc i e.1) fun r => L1.br r (findK_l orc i es) (L1.ret _)
theorem updK_l (orc : Orc) (i v : AV) : ∀ es, L1 (updK orc i v es)
  | [] => L1.ret _
  | e :: es => by
    show L1 (fun k => keyEqK orc i e.1 (fun r => Bool.rec (motive := fun _ => Prop) (updK orc i v es (fun l => k (e :: l))) (k ((i, v) :: es)) r))
    exact L1.b1 (keyEqK_l orc i e.1) fun r => L1.br r (L1.b1 (updK_l orc i v es) fun l => L1.ret _) (L1.ret _)
theorem isMapK_iff {es : List (AV × AV)} {p : Prop} : isMapK es p ↔ (∀ e, es.head? = some e → e.1 ≠ .undef) ∧ p := by
  unfold isMapK
  cases es with
  | nil => simp
  | cons e es =>
    obtain ⟨x, y⟩ := e
    cases x <;> simp
theorem mapK_l (h : Hp) (b : Nat) : L1 (mapK h b) := by
  unfold mapK
  refine fun k hk => ?_
  obtain ⟨x, h1, h2⟩ := (Tr.getK_iff _ _ _).1 hk
  cases x with
  | cells => exact h2.elim
  | dead => exact h2.elim
  | map es =>
    obtain ⟨h3, h4⟩ := isMapK_iff.1 h2
    exact ⟨es, h4, fun k' hk' => (Tr.getK_iff _ _ _).2 ⟨_, h1, isMapK_iff.2 ⟨h3, hk'⟩⟩⟩
theorem iterK_iff {h : Hp} {b : Nat} {k : List UInt8 → Nat → Prop} : iterK h b k ↔ ∃ a n, h.tr.get b = some (.map (iterE a n)) ∧ k a n := by
  unfold iterK
  rw [Tr.getK_iff]
  constructor
  · rintro ⟨x, h1, h2⟩
    cases x with
    | cells => exact h2.elim
    | dead => exact h2.elim
    | map es =>
      dsimp only at h2
      split at h2
      · exact ⟨_, _, h1, h2⟩
      · exact h2.elim
  · rintro ⟨a, n, h1, h2⟩
    exact ⟨_, h1, h2⟩
theorem iterK_l (h : Hp) (b : Nat) : L2 (iterK h b) := fun k hk => by
  obtain ⟨a, n, h1, h2⟩ := iterK_iff.1 hk
  exact ⟨a, n, h2, fun k' hk' => iterK_iff.2 ⟨a, n, h1, hk'⟩⟩
theorem ansM_l (ok : Bool) (zero : AV) (v : Option AV) : L1 (ansM ok zero v) := by
  unfold ansM
  cases v <;> cases ok <;> exact L1.ret _
theorem lenEK_iff (l : List (AV × AV)) (k : Nat → Prop) : lenEK l k ↔ k l.length := by
  have key : ∀ (l : List (AV × AV)) (n : Nat), (List.rec (motive := fun _ => Nat → (Nat → Prop) → Prop) (fun n k => k n) (fun _ _ ih n k => forceN (Nat.succ n) (fun m => ih m k)) l n k : Prop) ↔ k (l.length + n) := by
    intro l
    induction l with
    | nil => intro n; simp
    | cons x xs ih =>
      intro n
      have : xs.length + n.succ = xs.length + 1 + n := by omega
      simp only [List.length_cons]
      rw [← this, ← ih n.succ]
      exact Iff.of_eq (forceN_eq (Nat.succ n) _)
  exact key l 0
theorem lenEK_l (es : List (AV × AV)) : L1 (lenEK es) := fun k h => ⟨es.length, (lenEK_iff _ _).1 h, fun k' hk' => (lenEK_iff _ _).2 hk'⟩
theorem opK_l (orc : Orc) (o : IOp) (t : Tr AV) (h : Hp) : L2 (opK orc o t h) := by
  unfold opK
  cases o <;> dsimp only
  case mov x => exact L1.b2 (evK_l t x) fun v => L2.ret _ _
  case pick c x y => exact L1.b2 (evK_l t c) fun c => L1.b2 (unB_l c) fun c => L2.br _ (L1.b2 (evK_l t y) fun v => L2.ret _ _) (L1.b2 (evK_l t x) fun v => L2.ret _ _)
  case alloc z => exact L2.b2 (newK_l _ _) fun b h' => L2.ret _ _
  case box x => exact L1.b2 (evK_l t x) fun v => L2.wh _ (L2.b2 (newK_l _ _) fun b h' => L2.ret _ _)
  case build z ps => exact L1.b2 (fillK_l t ps z) fun cs => L2.ret _ _
  case buildS n z ps => exact L1.b2 (repK_l z n) fun cs => L1.b2 (fillK_l t ps cs) fun cs => L2.b2 (newK_l _ _) fun b h' => L2.ret _ _
  case load1 x => exact L1.b2 (evK_l t x) fun p => L2.b2 (unP_l p) fun b o => L1.b2 (ldK_l _ _ _) fun v => L2.ret _ _
  case loadN n x => exact L1.b2 (evK_l t x) fun p => L2.b2 (unP_l p) fun b o => L1.b2 (ldsK_l _ _ _ _) fun v => L2.ret _ _
  case store n x v => exact L1.b2 (evK_l t x) fun p => L2.b2 (unP_l p) fun b o => L1.b2 (evK_l t v) fun v => L2.wh _ (L1.b2 (lenK_l _) fun m => L2.wh _ (L1.b2 (stK_l _ _ _ _) fun h' => L2.ret _ _))
  case nilChk x => exact L1.b2 (evK_l t x) fun v => by cases v <;> dsimp only <;> first | exact L2.no | exact L2.ret _ _
  case bin op x y => exact L1.b2 (evK_l t x) fun x => L1.b2 (evK_l t y) fun y => L1.b2 (binK_l orc op x y) fun v => L2.ret _ _
  case eqB neg x y => exact L1.b2 (evK_l t x) fun x => L1.b2 (evK_l t y) fun y => L1.b2 (unB_l x) fun x => L1.b2 (unB_l y) fun y => L1.b2 (forceB_l _) fun r => L2.ret _ _
  case eqN neg q x => exact L1.b2 (evK_l t x) fun x => L1.b2 (isNilK_l q x) fun r => L1.b2 (forceB_l _) fun r => L2.ret _ _
  case eqA neg qs x y =>
    refine L1.b2 (evK_l t x) fun x => L1.b2 (evK_l t y) fun y => ?_
    cases x <;> dsimp only <;> try exact L2.no
    cases y <;> dsimp only <;> try exact L2.no
    exact L1.b2 (cellsEqK_l _ _ _) fun r => L1.b2 (forceB_l _) fun r => L2.ret _ _
  case un op x => exact L1.b2 (evK_l t x) fun x => L1.b2 (unopK_l op x) fun v => L2.ret _ _
  case cvInt q x => exact L1.b2 (evK_l t x) fun x => L1.b2 (cvK_l orc q x) fun r => L2.ret _ _
  case cvStr x => exact L1.b2 (evK_l t x) fun x => by cases x <;> dsimp only <;> first | exact L2.no | exact L2.ret _ _
  case s2b x => exact L1.b2 (evK_l t x) fun x => by cases x <;> dsimp only <;> first | exact L2.no | exact L1.b2 (forceN_l _) fun n => L2.b2 (newK_l _ _) fun b h' => L2.ret _ _
  case b2s x => exact L1.b2 (evK_l t x) fun x => by cases x <;> dsimp only <;> first | exact L2.no | exact L2.ret _ _ | exact L1.b2 (ldsK_l _ _ _ _) fun cs => L1.b2 (toBytesK_l cs) fun l => L2.ret _ _
  case fAddr off x => exact L1.b2 (evK_l t x) fun p => L2.b2 (unP_l p) fun b o => L1.b2 (forceN_l _) fun o' => L2.ret _ _
  case fld off n x =>
    refine L1.b2 (evK_l t x) fun x => ?_
    cases x <;> dsimp only <;> try exact L2.no
    cases n
    · exact L1.b2 (nthK_l _ _) fun v => L2.ret _ _
    · exact L1.b2 (dropK_l _ _) fun l => L1.b2 (takeK_l _ _) fun l => L2.ret _ _
  case iAddrA len esz x i => exact L1.b2 (evK_l t x) fun p => L2.b2 (unP_l p) fun b o => L1.b2 (evK_l t i) fun i => L1.b2 (unN_l i) fun i => L2.wh _ (L1.b2 (forceN_l _) fun o' => L2.ret _ _)
  case iAddrS esz x i =>
    refine L1.b2 (evK_l t x) fun x => ?_
    cases x <;> dsimp only <;> try exact L2.no
    exact L1.b2 (evK_l t i) fun i => L1.b2 (unN_l i) fun i => L2.wh _ (L1.b2 (forceN_l _) fun o' => L2.ret _ _)
  case idxA len esz agg x i =>
    refine L1.b2 (evK_l t x) fun x => ?_
    cases x <;> dsimp only <;> try exact L2.no
    exact L1.b2 (evK_l t i) fun i => L1.b2 (unN_l i) fun i => L2.wh _ (L1.b2 (forceN_l _) fun o => L2.br _ (L1.b2 (nthK_l _ _) fun v => L2.ret _ _) (L1.b2 (dropK_l _ _) fun l => L1.b2 (takeK_l _ _) fun l => L2.ret _ _))
  case idxS x i =>
    refine L1.b2 (evK_l t x) fun x => ?_
    cases x <;> dsimp only <;> try exact L2.no
    rename_i s
    refine L1.b2 (evK_l t i) fun i => L1.b2 (unN_l i) fun i => ?_
    cases s[i]?
    · exact L2.no
    · exact L2.ret _ _
  case slcS esz x lo hi mx =>
    refine L1.b2 (evK_l t x) fun x => L1.b2 (optK_l t lo) fun lo => L1.b2 (optK_l t hi) fun hi => L1.b2 (optK_l t mx) fun mx => ?_
    cases x <;> dsimp only <;> try exact L2.no
    · exact L3.b2 (bndsK_l _ _ _ _ _) fun _ _ _ => L2.ret _ _
    · exact L3.b2 (bndsK_l _ _ _ _ _) fun l h' m => L1.b2 (forceN_l _) fun o' => L1.b2 (forceN_l _) fun len' => L1.b2 (forceN_l _) fun cap' => eszK_l _ _ _ _ _ _
  case slcStr x lo hi =>
    refine L1.b2 (evK_l t x) fun x => L1.b2 (optK_l t lo) fun lo => L1.b2 (optK_l t hi) fun hi => ?_
    cases x <;> dsimp only <;> try exact L2.no
    exact L3.b2 (bndsK_l _ _ _ _ _) fun _ _ _ => L2.ret _ _
  case slcA len esz x lo hi mx =>
    exact L1.b2 (evK_l t x) fun p => L2.b2 (unP_l p) fun b o => L1.b2 (optK_l t lo) fun lo => L1.b2 (optK_l t hi) fun hi => L1.b2 (optK_l t mx) fun mx =>
      L3.b2 (bndsK_l _ _ _ _ _) fun l h' m => L1.b2 (forceN_l _) fun o' => L1.b2 (forceN_l _) fun len' => L1.b2 (forceN_l _) fun cap' => L2.ret _ _
  case ext x i =>
    refine L1.b2 (evK_l t x) fun x => ?_
    cases x <;> dsimp only <;> try exact L2.no
    exact L1.b2 (nthK_l _ _) fun v => L2.ret _ _
  case mkF f a c => exact L1.b2 (evsK_l t a) fun a => L1.b2 (evsK_l t c) fun c => L2.ret _ _
  case mkS esz bytes z len cap => exact L1.b2 (evK_l t len) fun len => L1.b2 (evK_l t cap) fun cap => L1.b2 (unN_l len) fun l => L1.b2 (unN_l cap) fun c => L2.wh _ (L2.wh _ (L2.wh _ (L1.b2 (repK_l z c) fun cs => L2.b2 (newK_l _ _) fun b h' => L2.ret _ _)))
  case len str x =>
    refine L1.b2 (evK_l t x) fun x => ?_
    cases x <;> dsimp only <;> try exact L2.no
    · exact L2.br _ L2.no (L1.b2 (forceN_l _) fun n => L2.ret _ _)
    · exact L2.br _ (L2.ret _ _) L2.no
    · exact L2.br _ (L2.ret _ _) L2.no
    · exact L2.br _ L2.no (L1.b2 (orcK_l _) fun v => L2.ret _ _)
  case app esz bytes c s x => exact L1.b2 (evK_l t s) fun s => L1.b2 (evK_l t x) fun x => appK_l _ _ _ _ _ _
  case copy esz d s => exact L1.b2 (evK_l t d) fun d => L1.b2 (evK_l t s) fun s => copyK_l _ _ _ _
  case max x y => exact L1.b2 (evK_l t x) fun x => L1.b2 (evK_l t y) fun y => L2.b2 (unI_l x) fun q n => L2.b2 (unI_l y) fun _ m => L2.br _ (L2.ret _ _) (L2.ret _ _)
  case clear z x =>
    refine L1.b2 (evK_l t x) fun x => ?_
    cases x <;> dsimp only <;> try exact L2.no
    · exact L2.ret _ _
    · rename_i b o n _ _
      cases n
      · exact L2.ret _ _
      · rename_i n
        show L2 (fun k => repK z (n + 1) (fun cs => stK h b o cs (fun h' => k (AV.tup []) h')))
        exact L1.b2 (repK_l z (n + 1)) fun cs => L1.b2 (stK_l _ _ _ _) fun h' => L2.ret _ _
  case mkM => exact L2.b2 (newK_l _ _) fun b h' => L2.ret _ _
  case lookM kd ok z x i =>
    refine L1.b2 (evK_l t x) fun x => L1.b2 (evK_l t i) fun i => keyK_w orc kd i ?_
    cases x <;> dsimp only <;> try exact L2.no
    · exact L1.b2 (ansM_l _ _ _) fun v => L2.ret _ _
    · exact L1.b2 (mapK_l _ _) fun es => L1.b2 (findK_l _ _ _) fun v => L1.b2 (ansM_l _ _ _) fun v => L2.ret _ _
  case updM kd x i v =>
    refine L1.b2 (evK_l t x) fun x => L1.b2 (evK_l t i) fun i => L1.b2 (evK_l t v) fun v => keyK_w orc kd i ?_
    cases x <;> dsimp only <;> try exact L2.no
    exact L1.b2 (mapK_l _ _) fun es => L1.b2 (updK_l _ _ _ _) fun es' => L1.b2 (putK_l _ _ _) fun h' => L2.ret _ _
  case lenM x =>
    refine L1.b2 (evK_l t x) fun x => ?_
    cases x <;> dsimp only <;> try exact L2.no
    · exact L2.ret _ _
    · exact L1.b2 (mapK_l _ _) fun es => L1.b2 (lenEK_l _) fun n => L2.ret _ _
  case min x y => exact L1.b2 (evK_l t x) fun x => L1.b2 (evK_l t y) fun y => L2.b2 (unI_l x) fun q n => L2.b2 (unI_l y) fun _ m => L2.br _ (L2.ret _ _) (L2.ret _ _)
  case rangeS x =>
    refine L1.b2 (evK_l t x) fun x => ?_
    cases x <;> dsimp only <;> try exact L2.no
    exact L2.b2 (newK_l _ _) fun b h' => L2.ret _ _
  case nextS x =>
    refine L1.b2 (evK_l t x) fun x => L2.b2 (unP_l x) fun b o => L2.wh _ (L2.b2 (iterK_l _ _) fun a n => ?_)
    cases a[n]? <;> dsimp only
    · exact L2.ret _ _
    · exact L2.br _ (L1.b2 (putK_l _ _ _) fun h' => L2.ret _ _) (L1.b2 (forceN_l _) fun m => L1.b2 (putK_l _ _ _) fun h' => L2.ret _ _)
  case storeD n x v ps => exact L1.b2 (evK_l t x) fun p => L2.b2 (unP_l p) fun b o => apartK_w _ _ _ (L1.b2 (evK_l t v) fun v => L2.wh _ (L1.b2 (lenK_l _) fun m => L2.wh _ (L1.b2 (stK_l _ _ _ _) fun h' => L2.ret _ _)))
  case appF esz bytes s x => exact L1.b2 (evK_l t s) fun s => L1.b2 (evK_l t x) fun x => appK_l _ _ _ _ _ _
  case no => exact L2.no

/-- a body's run has one outcome -/
def LB (ih : Body) : Prop := ∀ c Q t h, ih c Q t h → ∃ e t' h', Q e t' h' ∧ ∀ Q', Q' e t' h' → ih c Q' t h
theorem argsK_l : ∀ l n t, L1 (argsK l n t)
  | [], _, t => L1.ret t
  | v :: l, n, t => by
    show L1 (fun k => t.setK n v (fun t' => forceN (Nat.succ n) (fun n' => argsK l n' t' k)))
    exact L1.b1 (setK_l t n v) fun t' => L1.b1 (forceN_l _) fun n' => argsK_l l n' t'
theorem resK_l (t : Tr AV) (h : Hp) : ∀ rs, L1 (resK t h rs)
  | [] => L1.ret _
  | .tmp n :: rs => by
    show L1 (fun k => t.getK n (fun v => resK t h rs (fun vs => k (v :: vs))))
    exact L1.b1 (getK_l t n) fun v => L1.b1 (resK_l t h rs) fun vs => L1.ret _
  | .cell n size agg :: rs => by
    show L1 (fun k => t.getK n (fun p => unP p (fun b o => Bool.rec (motive := fun _ => Prop) (ldK h b o (fun v => resK t h rs (fun vs => k (v :: vs)))) (ldsK h b o size (fun cs => resK t h rs (fun vs => k (.agg cs :: vs)))) agg)))
    exact L1.b1 (getK_l t n) fun p => L2.b1 (unP_l p) fun b o => L1.br _ (L1.b1 (ldK_l _ _ _) fun v => L1.b1 (resK_l t h rs) fun vs => L1.ret _) (L1.b1 (ldsK_l _ _ _ _) fun cs => L1.b1 (resK_l t h rs) fun vs => L1.ret _)
theorem callK_l (env : Tr IFn) {ih : Body} (hi : LB ih) (f : Nat) (args : List AV) (h : Hp) : L2 (callK env ih f args h) := by
  refine L1.b2 (getK_l env f) fun fn => ?_
  cases fn with
  | mk res body =>
    refine L1.b2 (argsK_l args 0 .leaf) fun t0 => ?_
    intro k hk
    obtain ⟨e, t', h', h1, h2⟩ := hi _ _ _ _ hk
    cases e with
    | exit id => exact h1.elim
    | normal =>
      obtain ⟨vs, h3, h4⟩ := resK_l t' h' res _ h1
      exact ⟨_, _, h3, fun k' hk' => h2 _ (h4 _ hk')⟩
    | ret =>
      obtain ⟨vs, h3, h4⟩ := resK_l t' h' res _ h1
      exact ⟨_, _, h3, fun k' hk' => h2 _ (h4 _ hk')⟩
theorem raiseK_l {F : Hp → (AV → Hp → Prop) → Prop} (hF : ∀ h, L2 (F h)) (h : Hp) : L2 (raiseK F h) := by
  cases h with
  | mk sz fl tr =>
    intro k hk
    obtain ⟨v, h', h1, h2⟩ := hF ⟨sz, sz, tr⟩ _ hk
    cases h' with
    | mk sz' fl' tr' => exact ⟨v, ⟨sz', fl, tr'⟩, h1, fun k' hk' => h2 (fun v h' => Hp.rec (motive := fun _ => Prop) (fun sz' _ tr' => k' v ⟨sz', fl, tr'⟩) h') hk'⟩
theorem hookK_l (a : Option Ans) (h : Hp) {d : (AV → Hp → Prop) → Prop} (hd : L2 d) : L2 (fun k => hookK a h k (d k)) := by
  cases a with
  | none => exact hd
  | some a => cases a with
    | val v => exact L2.ret _ _
    | row e n cs => exact (L2.b2 (newK_l h (.cells e true true cs)) (fun b h' => L2.ret (AV.sl b 0 n n true) h') : L2 (fun k => newK h (.cells e true true cs) (fun b h' => k (AV.sl b 0 n n true) h')))
theorem ropK0_l (orc : Orc) (env : Tr IFn) {ih : Body} (hi : LB ih) (r : RK) (t : Tr AV) (h : Hp) : L2 (ropK0 orc env ih r t h) := by
  cases r with
  | op o => exact opK_l orc o t h
  | callF f args => exact L1.b2 (evsK_l t args) fun vs => hookK_l _ h (callK_l env hi f vs h)
  | callV x args =>
    refine L1.b2 (evK_l t x) fun g => L1.b2 (evsK_l t args) fun vs => ?_
    cases g <;> first | exact L2.no | exact callK_l env hi _ _ _
theorem ropK_l (orc : Orc) (env : Tr IFn) (draw : Bool) {ih : Body} (hi : LB ih) (r : RK) (t : Tr AV) (h : Hp) : L2 (ropK orc env draw ih r t h) :=
  L2.br _ (ropK0_l orc env hi r t h) (raiseK_l (fun h => ropK0_l orc env hi r t h) h)
theorem guardK_l (t : Tr AV) (g : Option (Nat × Bool)) : L1 (guardK t g) := by
  cases g with
  | none => exact L1.ret _
  | some g =>
    show L1 (fun k => t.getK g.1 (fun v => match v with
      | .b x => forceB (x == g.2) k
      | .tup _ => k false
      | _ => False))
    refine L1.b1 (getK_l t g.1) fun v => ?_
    cases v <;> dsimp only <;> first | exact L1.no | exact forceB_l _ | exact L1.ret _
theorem dstK_l (t : Tr AV) (d : Option Nat) (v : AV) : L1 (dstK t d v) := by
  cases d
  · exact L1.ret _
  · exact setK_l _ _ _
theorem regK_l (orc : Orc) (env : Tr IFn) (draw : Bool) {ih : Body} (hi : LB ih) : ∀ (ops : List ROp) (t : Tr AV) (h : Hp), L2 (fun Q => regK orc env draw ih ops Q t h)
  | [], t, h => L2.ret t h
  | ⟨dst, k, g⟩ :: ops, t, h => by
    refine L1.b2 (guardK_l t g) fun go => L2.br go (L1.b2 (dstK_l t dst _) fun t' => regK_l orc env draw hi ops t' h) (L2.b2 (ropK_l orc env draw hi k t h) fun v h' => L1.b2 (dstK_l t dst v) fun t' => regK_l orc env draw hi ops t' h')
theorem awp_l (orc : Orc) (env : Tr IFn) : ∀ n, LB (awp orc env n)
  | 0 => fun _ _ _ _ h => h.elim
  | n + 1 => fun c Q t h hk => by
    have ih := awp_l orc env n
    cases c with
    | no => exact hk.elim
    | skip => exact ⟨_, _, _, hk, fun _ h => h⟩
    | exit id => exact ⟨_, _, _, hk, fun _ h => h⟩
    | ret => exact ⟨_, _, _, hk, fun _ h => h⟩
    | reg draw ops =>
      obtain ⟨t', h', h1, h2⟩ := regK_l orc env draw ih ops t h _ hk
      exact ⟨_, _, _, h1, fun Q' hQ => h2 (fun t h => Q' .normal t h) hQ⟩
    | seq x y =>
      obtain ⟨e, t1, h1, g1, g2⟩ := ih _ _ _ _ hk
      cases e with
      | normal =>
        obtain ⟨e2, t2, h2, g3, g4⟩ := ih _ _ _ _ g1
        exact ⟨e2, t2, h2, g3, fun Q' hQ => g2 (fun e t h => X.rec (motive := fun _ => Prop) (awp orc env n y Q' t h) (fun id => Q' (.exit id) t h) (Q' .ret t h) e) (g4 _ hQ)⟩
      | exit id => exact ⟨_, t1, h1, g1, fun Q' hQ => g2 (fun e t h => X.rec (motive := fun _ => Prop) (awp orc env n y Q' t h) (fun id => Q' (.exit id) t h) (Q' .ret t h) e) hQ⟩
      | ret => exact ⟨_, t1, h1, g1, fun Q' hQ => g2 (fun e t h => X.rec (motive := fun _ => Prop) (awp orc env n y Q' t h) (fun id => Q' (.exit id) t h) (Q' .ret t h) e) hQ⟩
    | cond c x y =>
      obtain ⟨v, g1, g2⟩ := evK_l t c _ hk
      obtain ⟨b, g3, g4⟩ := unB_l v _ g1
      cases b with
      | true =>
        obtain ⟨e, t1, h1, g5, g6⟩ := ih _ _ _ _ g3
        exact ⟨e, t1, h1, g5, fun Q' hQ => g2 (fun v => unB v (fun b => Bool.rec (motive := fun _ => Prop) (awp orc env n y Q' t h) (awp orc env n x Q' t h) b)) (g4 (fun b => Bool.rec (motive := fun _ => Prop) (awp orc env n y Q' t h) (awp orc env n x Q' t h) b) (g6 _ hQ))⟩
      | false =>
        obtain ⟨e, t1, h1, g5, g6⟩ := ih _ _ _ _ g3
        exact ⟨e, t1, h1, g5, fun Q' hQ => g2 (fun v => unB v (fun b => Bool.rec (motive := fun _ => Prop) (awp orc env n y Q' t h) (awp orc env n x Q' t h) b)) (g4 (fun b => Bool.rec (motive := fun _ => Prop) (awp orc env n y Q' t h) (awp orc env n x Q' t h) b) (g6 _ hQ))⟩
    | blk id x =>
      obtain ⟨e, t1, h1, g1, g2⟩ := ih _ _ _ _ hk
      cases e with
      | normal => exact ⟨_, t1, h1, g1, fun Q' hQ => g2 (fun e t h => X.rec (motive := fun _ => Prop) (Q' .normal t h) (fun id' => Bool.rec (motive := fun _ => Prop) (Q' (.exit id') t h) (Q' .normal t h) (Nat.beq id' id)) (Q' .ret t h) e) hQ⟩
      | ret => exact ⟨_, t1, h1, g1, fun Q' hQ => g2 (fun e t h => X.rec (motive := fun _ => Prop) (Q' .normal t h) (fun id' => Bool.rec (motive := fun _ => Prop) (Q' (.exit id') t h) (Q' .normal t h) (Nat.beq id' id)) (Q' .ret t h) e) hQ⟩
      | exit id' =>
        have g1' : (Bool.rec (motive := fun _ => Prop) (Q (.exit id') t1 h1) (Q .normal t1 h1) (Nat.beq id' id) : Prop) := g1
        cases hb : Nat.beq id' id with
        | true =>
          rw [hb] at g1'
          refine ⟨_, t1, h1, g1', fun Q' hQ => g2 (fun e t h => X.rec (motive := fun _ => Prop) (Q' .normal t h) (fun id' => Bool.rec (motive := fun _ => Prop) (Q' (.exit id') t h) (Q' .normal t h) (Nat.beq id' id)) (Q' .ret t h) e) ?_⟩
          show (Bool.rec (motive := fun _ => Prop) (Q' (.exit id') t1 h1) (Q' .normal t1 h1) (Nat.beq id' id) : Prop)
          rw [hb]; exact hQ
        | false =>
          rw [hb] at g1'
          refine ⟨_, t1, h1, g1', fun Q' hQ => g2 (fun e t h => X.rec (motive := fun _ => Prop) (Q' .normal t h) (fun id' => Bool.rec (motive := fun _ => Prop) (Q' (.exit id') t h) (Q' .normal t h) (Nat.beq id' id)) (Q' .ret t h) e) ?_⟩
          show (Bool.rec (motive := fun _ => Prop) (Q' (.exit id') t1 h1) (Q' .normal t1 h1) (Nat.beq id' id) : Prop)
          rw [hb]; exact hQ
    | loop x =>
      obtain ⟨e, t1, h1, g1, g2⟩ := ih _ _ _ _ hk
      cases e with
      | normal =>
        obtain ⟨e2, t2, h2, g3, g4⟩ := ih _ _ _ _ g1
        exact ⟨e2, t2, h2, g3, fun Q' hQ => g2 (fun e t h => X.rec (motive := fun _ => Prop) (awp orc env n (.loop x) Q' t h) (fun id => Q' (.exit id) t h) (Q' .ret t h) e) (g4 _ hQ)⟩
      | exit id => exact ⟨_, t1, h1, g1, fun Q' hQ => g2 (fun e t h => X.rec (motive := fun _ => Prop) (awp orc env n (.loop x) Q' t h) (fun id => Q' (.exit id) t h) (Q' .ret t h) e) hQ⟩
      | ret => exact ⟨_, t1, h1, g1, fun Q' hQ => g2 (fun e t h => X.rec (motive := fun _ => Prop) (awp orc env n (.loop x) Q' t h) (fun id => Q' (.exit id) t h) (Q' .ret t h) e) hQ⟩
end Go.Ab
