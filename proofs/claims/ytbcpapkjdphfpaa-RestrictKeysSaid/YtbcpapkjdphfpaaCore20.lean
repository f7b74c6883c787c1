/- Regions that draw their order, third part: whatever order is drawn. No condition. -/
import Derived.Test.YtbcpapkjdphfpaaCore19
namespace Go.Ab
variable {σ : Nat → Value} {ρ ρ' : Ren} {P : Program} {orc : Orc} {env : Tr IFn}

def cut (ρ : Ren) (n : Nat) : Ren := fun b => if b < n then ρ b else none
theorem cut_some {ρ : Ren} {n b : Nat} {L : Loc} (h : cut ρ n b = some L) : b < n ∧ ρ b = some L := by
  unfold cut at h; split at h
  · exact ⟨by assumption, h⟩
  · cases h
theorem cut_lt {ρ : Ren} {n b : Nat} (h : b < n) : cut ρ n b = ρ b := by unfold cut; rw [if_pos h]

section
variable {rs : List ROp} {T : Nat → Tr AV} {H : Nat → Hp} {G : Nat → Bool} {V : Nat → AV}

def IsW (rs : List ROp) (i : Nat) : Prop := ∃ r, rs[i]? = some r ∧ wr r.k = true
def IsD (rs : List ROp) (i x : Nat) : Prop := ∃ r, rs[i]? = some r ∧ r.dst = some x

/-- so far has the region come: 'S' is done -/
structure Inv (σ : Nat → Value) (rs : List ROp) (T : Nat → Tr AV) (H : Nat → Hp) (nt : Nat) (ρ0 : Ren) (B : Nat) (w0 : World) (ds : List Deferred) (S : Nat → Prop) (a : Act) (w : World) (ρ : Ren) : Prop where
  lt : ∀ i, S i → i < rs.length
  dom : ∀ b L, ρ b = some L → b < (H 0).sz ∨ ∃ j, S j ∧ (∀ r, rs[j]? = some r → pureK r.k = false) ∧ (H j).sz ≤ b ∧ b < (H (j + 1)).sz
  rels : ∀ c, c ≤ rs.length → (∀ j, IsW rs j → (S j ↔ j < c)) → Rel σ (cut ρ (H c).sz) B (H c) w
  tmps : ∀ x j v, j ≤ rs.length → (∀ k, IsD rs k x → (S k ↔ k < j)) → (T j).get x = some v → x < a.tmps.size ∧ VR σ (cut ρ (H j).sz) v (a.tmps.getD x undef)
  ext : ∀ b, b < (H 0).sz → ρ b = ρ0 b
  pres : ∀ k, k < B → w.heap[k]? = w0.heap[k]?
  wle : w0.heap.size ≤ w.heap.size
  io : w.os = w0.os ∧ w.output = w0.output
  base : B ≤ w.heap.size
  size : nt ≤ a.tmps.size
  defers : a.defers = ds

theorem T_const {ih : Body} (hc : Canon orc env ih rs T H G V) {x i j : Nat} (hij : i ≤ j) (hj : j ≤ rs.length) (hn : ∀ k, i ≤ k → k < j → ¬ IsD rs k x) : (T j).get x = (T i).get x := by
  induction j with
  | zero => obtain rfl : i = 0 := by omega
            rfl
  | succ j ih' =>
    rcases Nat.lt_or_eq_of_le hij with h | rfl
    · rw [← ih' (by omega) (by omega) (fun k h1 h2 => hn k h1 (by omega))]
      have hr : rs[j]? = some rs[j] := List.getElem?_eq_getElem (by omega)
      rw [T_step hc hr, if_neg (fun hd => hn j (by omega) (by omega) ⟨_, hr, hd⟩)]
    · rfl

/-- behind an operation -/
theorem Inv.next {ih : Body} (hc : Canon orc env ih rs T H G V) (hf : ∀ j, j < rs.length → Fact rs H j) {nt : Nat} {ρ0 : Ren} {B : Nat} {w0 : World} {ds : List Deferred} {S : Nat → Prop} {a : Act} {w : World}
    (I : Inv σ rs T H nt ρ0 B w0 ds S a w ρ) {i : Nat} {r : ROp} (hr : rs[i]? = some r) (hS : ¬ S i) {d : Option Tmp} (hd : chkD nt d r.dst = true)
    (hD : ∀ x, r.dst = some x → ∀ k, IsD rs k x → k ≠ i → (S k ↔ k < i)) {v' : Value} {w' : World} (hv : VR σ (cut ρ' (H (i + 1)).sz) (V i) v')
    (hρ : ∀ b L, ρ b = some L → ρ' b = some L) (hρ0 : ∀ b, b < (H 0).sz → ρ' b = ρ b) (hdom : ∀ b L, ρ' b = some L → ρ b = some L ∨ ((∀ r, rs[i]? = some r → pureK r.k = false) ∧ (H i).sz ≤ b ∧ b < (H (i + 1)).sz))
    (hrels : ∀ c, c ≤ rs.length → (∀ j, IsW rs j → (S j ∨ j = i ↔ j < c)) → Rel σ (cut ρ' (H c).sz) B (H c) w') (hpres : ∀ k, k < B → w'.heap[k]? = w.heap[k]?) (hwle : w.heap.size ≤ w'.heap.size) (hio : w'.os = w.os ∧ w'.output = w.output) :
    Inv σ rs T H nt ρ0 B w0 ds (fun j => S j ∨ j = i) (a.put d v') w' ρ' := by
  have hi : i < rs.length := (List.getElem?_eq_some_iff.1 hr).1
  refine ⟨?_, ?_, hrels, ?_, ?_, ?_, Nat.le_trans I.wle hwle, ⟨hio.1.trans I.io.1, hio.2.trans I.io.2⟩, Nat.le_trans I.base hwle, by rw [put_size]; exact I.size, by rw [put_defers]; exact I.defers⟩
  · rintro j (h | rfl)
    · exact I.lt j h
    · exact hi
  · intro b L hb
    rcases hdom b L hb with h | ⟨h1, h2, h3⟩
    · rcases I.dom b L h with h | ⟨j, h1, h2⟩
      · exact .inl h
      · exact .inr ⟨j, .inl h1, h2⟩
    · exact .inr ⟨i, .inr rfl, h1, h2, h3⟩
  · intro x j v hj hk hg
    have hmono : ∀ {m n : Nat}, (H m).sz ≤ (H n).sz → ∀ b L, cut ρ (H m).sz b = some L → cut ρ' (H n).sz b = some L := by
      intro m n hmn b L hb
      obtain ⟨h1, h2⟩ := cut_some hb
      rw [cut_lt (by omega)]; exact hρ b L h2
    by_cases hx : r.dst = some x
    · have hij : i < j := (hk i ⟨r, hr, hx⟩).1 (.inr rfl)
      have hcon : (T j).get x = (T (i + 1)).get x := T_const hc hij hj (fun k h1 h2 hdk => by
        have h3 := (hk k hdk).2 h2
        rcases h3 with h3 | h3
        · have := (hD x hx k hdk (by omega)).1 h3; omega
        · omega)
      rw [hcon, T_step hc hr, if_pos hx] at hg
      cases hg
      cases d with
      | none => rw [hx] at hd; simp [chkD] at hd
      | some y =>
        rw [hx] at hd
        simp only [chkD, Bool.and_eq_true] at hd
        obtain ⟨h1, h2⟩ := hd
        obtain rfl := eq_of_beq h1
        have hlt : y < a.tmps.size := Nat.lt_of_lt_of_le (Nat.lt_of_succ_le (Nat.le_of_ble_eq_true h2)) I.size
        refine ⟨by simp [Act.put]; exact hlt, ?_⟩
        have e : (a.put (some y) v').tmps.getD y undef = v' := by simp [Act.put, Array.getD, hlt]
        rw [e]
        refine hv.mono (fun b L hb => ?_)
        obtain ⟨h3, h4⟩ := cut_some hb
        rw [cut_lt (Nat.lt_of_lt_of_le h3 (sz_le hf hij hj))]; exact h4
    · have hk' : ∀ k, IsD rs k x → (S k ↔ k < j) := by
        intro k hdk
        have hne : k ≠ i := by rintro rfl; obtain ⟨r', h1, h2⟩ := hdk; rw [hr] at h1; cases h1; exact hx h2
        have := hk k hdk
        constructor
        · intro h; exact this.1 (.inl h)
        · intro h; rcases this.2 h with h | h
          · exact h
          · exact absurd h hne
      obtain ⟨h1, h2⟩ := I.tmps x j v hj hk' hg
      refine ⟨by rw [put_size]; exact h1, ?_⟩
      have e : (a.put d v').tmps.getD x undef = a.tmps.getD x undef := by
        cases d with
        | none => rfl
        | some y =>
          have hne : y ≠ x := by
            rintro rfl
            cases hrd : r.dst with
            | none => rw [hrd] at hd; simp [chkD] at hd
            | some z =>
              rw [hrd] at hd
              simp only [chkD, Bool.and_eq_true] at hd
              exact hx (by rw [hrd, eq_of_beq hd.1])
          simp only [Act.put]
          rw [Array.getD_eq_getD_getElem?, Array.getD_eq_getD_getElem?, Array.getElem?_setIfInBounds, if_neg hne]
      rw [e]
      exact h2.mono (hmono (Nat.le_refl _))
  · intro b hb; exact (hρ0 b hb).trans (I.ext b hb)
  · intro k hk; exact (hpres k hk).trans (I.pres k hk)

/-- a value that names no block from n on -/
def Small (σ : Nat → Value) (v : AV) (n : Nat) : Prop := ∃ (ρ : Ren) (v' : Value), VR σ ρ v v' ∧ ∀ b L, ρ b = some L → b < n
mutual
theorem VR.small {ρ1 ρ2 : Ren} {n : Nat} (hn : ∀ b L, ρ1 b = some L → b < n) : ∀ {x : AV} {v1 v2 : Value}, VR σ ρ1 x v1 → VR σ ρ2 x v2 → VR σ (cut ρ2 n) x v2
  | _, _, _, .undef _, _ => .undef _
  | _, _, _, .b _, h2 => by cases h2; exact .b _
  | _, _, _, .i _ _, h2 => by cases h2; exact .i _ _
  | _, _, _, .s _, h2 => by cases h2; exact .s _
  | _, _, _, .nilp, h2 => by cases h2; exact .nilp
  | _, _, _, .ptr b o L h, h2 => by
    cases h2 with
    | ptr _ _ L2 h' => exact .ptr _ _ _ (by rw [cut_lt (hn b L h)]; exact h')
  | _, _, _, .nils, h2 => by cases h2; exact .nils
  | _, _, _, .sl b _ _ _ _ _ L h _, h2 => by
    cases h2 with
    | sl _ _ _ _ _ _ L2 h' hc => exact .sl _ _ _ _ _ _ _ (by rw [cut_lt (hn b L h)]; exact h') hc
    | slz _ _ _ _ L2 h' => exact .slz _ _ _ _ _ (by rw [cut_lt (hn b L h)]; exact h')
  | _, _, _, .slz b _ _ _ L h, h2 => by
    cases h2 with
    | sl _ _ _ _ _ _ L2 h' hc => exact .sl _ _ _ _ _ _ _ (by rw [cut_lt (hn b L h)]; exact h') hc
    | slz _ _ _ _ L2 h' => exact .slz _ _ _ _ _ (by rw [cut_lt (hn b L h)]; exact h')
  | _, _, _, .nilf, h2 => by cases h2; exact .nilf
  | _, _, _, .fn _ _ _ _ _ a1 a2, h2 => by
    cases h2 with
    | fn _ _ _ _ _ c1 c2 => exact .fn _ _ _ _ _ (VRs.small hn a1 c1) (VRs.small hn a2 c2)
  | _, _, _, .nili, h2 => by cases h2; exact .nili
  | _, _, _, .ifc _ _ _ a1, h2 => by
    cases h2 with
    | ifc _ _ _ c1 => exact .ifc _ _ _ (VR.small hn a1 c1)
  | _, _, _, .agg _ _ a1, h2 => by
    cases h2 with
    | agg _ _ c1 => exact .agg _ _ (VRs.small hn a1 c1)
  | _, _, _, .tup _ _ a1, h2 => by
    cases h2 with
    | tup _ _ c1 => exact .tup _ _ (VRs.small hn a1 c1)
  | _, _, _, .nilm, h2 => by cases h2; exact .nilm
  | _, _, _, .map b L h _, h2 => by
    cases h2 with
    | map _ L2 h' h0 => exact .map _ _ (by rw [cut_lt (hn b L h)]; exact h') h0
  | _, _, _, .sym _, h2 => by cases h2; exact .sym _
theorem VRs.small {ρ1 ρ2 : Ren} {n : Nat} (hn : ∀ b L, ρ1 b = some L → b < n) : ∀ {x : List AV} {v1 v2 : List Value}, VRs σ ρ1 x v1 → VRs σ ρ2 x v2 → VRs σ (cut ρ2 n) x v2
  | _, _, _, .nil, h2 => by cases h2; exact .nil
  | _, _, _, .cons _ _ _ _ a1 a2, h2 => by
    cases h2 with
    | cons _ _ _ _ c1 c2 => exact .cons _ _ _ _ (VR.small hn a1 c1) (VRs.small hn a2 c2)
end
theorem wr_np {k : RK} (h : wr k = true) : pureK k = false := by
  cases k <;> first | rfl | (rename_i o1; cases o1 <;> first | rfl | (simp [wr] at h))
theorem wr_plain (k : RK) : wr (plain k) = wr k := by
  cases k <;> try rfl
  rename_i o1; cases o1 <;> rfl
theorem pure_plain (k : RK) : pureK (plain k) = pureK k := by
  cases k <;> try rfl
  rename_i o1; cases o1 <;> rfl
theorem chk_plain {o : Op} {k : RK} (h : chkRK P o k = true) : chkRK P o (plain k) = true := by
  cases k with
  | callF => exact h
  | callV => exact h
  | op o1 =>
    cases o1 <;> try exact h
    rename_i n x v ps
    have h2 : chkOp P o (.storeD n x v ps) = true := by
      unfold chkRK at h
      split at h <;> simp_all
    have h3 : ∃ t y u, o = .store t y u ∧ (chkO y x && chkO u v && chkSize P t n) = true := by
      unfold chkOp at h2
      split at h2 <;> try (cases h2; done)
      all_goals first
        | (rename_i heq; cases heq; exact ⟨_, _, _, rfl, h2⟩)
        | (rename_i heq; cases heq; done)
        | (unfold chkBuiltin at h2; split at h2 <;> simp_all)
    obtain ⟨t, y, u, rfl, h4⟩ := h3
    exact h4
theorem rop_plain {ih : Body} {k : RK} {t : Tr AV} {h : Hp} {K : AV → Hp → Prop} (hk : ropK orc env true ih k t h K) : ropK orc env true ih (plain k) t h K := by
  cases k with
  | callF => exact hk
  | callV => exact hk
  | op o1 =>
    cases o1 <;> try exact hk
    exact storeD_store (orc := orc) hk
theorem excepts_out {a b : ROp} (h : excepts a b = true) : wr a.k = false ∧ wr b.k = true ∧ ∃ p d io, a.k = .op io ∧ a.dst = some d ∧ (io = .load1 (.t p) ∨ ∃ n, io = .loadN n (.t p)) ∧ ∃ n x v ps, b.k = .op (.storeD n x v ps) ∧ p ∈ ps := by
  unfold excepts at h
  split at h
  · rename_i n x v ps hb
    split at h
    · rename_i p ha
      simp only [Bool.and_eq_true, List.contains_iff_mem, Option.isSome_iff_exists] at h
      obtain ⟨h1, d, h2⟩ := h
      exact ⟨by rw [ha]; rfl, by rw [hb]; rfl, p, d, _, ha, h2, .inl rfl, n, x, v, ps, hb, h1⟩
    · rename_i m p ha
      simp only [Bool.and_eq_true, List.contains_iff_mem, Option.isSome_iff_exists] at h
      obtain ⟨h1, d, h2⟩ := h
      exact ⟨by rw [ha]; rfl, by rw [hb]; rfl, p, d, _, ha, h2, .inr ⟨m, rfl⟩, n, x, v, ps, hb, h1⟩
    · cases h
  · cases h
theorem load_facts {io : IOp} {p : Nat} (hio : io = .load1 (.t p) ∨ ∃ n, io = .loadN n (.t p)) {t : Tr AV} {h : Hp} {K : AV → Hp → Prop} (hk : opK orc io t h K) :
    ∃ b o x v, t.get p = some (.ptr b o) ∧ h.tr.get b = some x ∧ K v h ∧ ∀ h2 (K2 : AV → Hp → Prop), h2.tr.get b = some x → K2 v h2 → opK orc io t h2 K2 := by
  rcases hio with rfl | ⟨n, rfl⟩
  · have hk' : t.getK p (fun q => unP q (fun b o => cellsK h b (fun _ _ _ cs => nthK cs o (fun v => K v h)))) := hk
    obtain ⟨y, h1, h2⟩ := (Tr.getK_iff _ _ _).1 hk'
    cases y <;> try exact h2.elim
    rename_i b o
    obtain ⟨e, w, a, cs, h3, h4⟩ := (cellsK_iff h b _).1 h2
    obtain ⟨v, h5, h6⟩ := (nthK_iff _ _ _).1 h4
    refine ⟨b, o, _, v, h1, h3, h6, fun h2 K2 g1 g2 => ?_⟩
    show t.getK p (fun q => unP q (fun b o => cellsK h2 b (fun _ _ _ cs => nthK cs o (fun v => K2 v h2))))
    exact (Tr.getK_iff _ _ _).2 ⟨_, h1, (cellsK_iff h2 b _).2 ⟨e, w, a, cs, g1, (nthK_iff _ _ _).2 ⟨v, h5, g2⟩⟩⟩
  · have hk' : t.getK p (fun q => unP q (fun b o => cellsK h b (fun _ _ _ cs => dropK o cs (fun l => takeK n l (fun l => K (.agg l) h))))) := hk
    obtain ⟨y, h1, h2⟩ := (Tr.getK_iff _ _ _).1 hk'
    cases y <;> try exact h2.elim
    rename_i b o
    obtain ⟨e, w, a, cs, h3, h4⟩ := (cellsK_iff h b _).1 h2
    obtain ⟨h5, h6⟩ := (dropK_iff _ _ _).1 h4
    obtain ⟨h7, h8⟩ := (takeK_iff _ _ _).1 h6
    refine ⟨b, o, _, .agg ((cs.drop o).take n), h1, h3, h8, fun h2 K2 g1 g2 => ?_⟩
    show t.getK p (fun q => unP q (fun b o => cellsK h2 b (fun _ _ _ cs => dropK o cs (fun l => takeK n l (fun l => K2 (.agg l) h2)))))
    exact (Tr.getK_iff _ _ _).2 ⟨_, h1, (cellsK_iff h2 b _).2 ⟨e, w, a, cs, g1, (dropK_iff _ _ _).2 ⟨h5, (takeK_iff _ _ _).2 ⟨h7, g2⟩⟩⟩⟩
theorem storeD_facts {n : Nat} {x v : O} {ps : List Nat} {t : Tr AV} {h : Hp} {K : AV → Hp → Prop} (hk : opK orc (.storeD n x v ps) t h K) :
    ∃ b y u, (∀ q ∈ ps, ∃ b' o', t.get q = some (.ptr b' o') ∧ b' ≠ b) ∧ K u (h.put b y) := by
  obtain ⟨p, h1, hh⟩ := evK_l t x _ hk
  clear hh
  cases p <;> try exact h1.elim
  rename_i b o
  obtain ⟨h2, h3⟩ := apart_elim h1
  obtain ⟨u, h4, _⟩ := evK_l t v _ h2
  obtain ⟨_, h5⟩ := (whenK_iff _ _).1 h4
  have h6 := (lenK_iff _ _).1 h5
  obtain ⟨_, h7⟩ := (whenK_iff _ _).1 h6
  obtain ⟨e, w, a, cs, h8, h9⟩ := (cellsK_iff h b (fun e w a cs => Bool.rec (motive := fun _ => Prop) False (Bool.rec (motive := fun _ => Prop) False (spliceK (cellsOf u) o cs (fun cs' => putK h b (.cells e w a cs') (fun h' => K .undef h'))) (cellsOk (cellsOf u))) w)).1 h7
  cases w
  · exact h9.elim
  · have h10 : (Bool.rec (motive := fun _ => Prop) False (spliceK (cellsOf u) o cs (fun cs' => putK h b (.cells e true a cs') (fun h' => K .undef h'))) (cellsOk (cellsOf u)) : Prop) := h9
    cases hco : cellsOk (cellsOf u) with
    | false => rw [hco] at h10; exact h10.elim
    | true =>
      rw [hco] at h10
      obtain ⟨_, h11⟩ := (spliceK_iff _ _ _ _).1 h10
      obtain ⟨_, h12⟩ := (putK_iff _ _ _ _).1 h11
      exact ⟨b, _, _, h3, h12⟩
/-- the writers that are done are the first ones -/
theorem phases {S : Nat → Prop} (hWW : ∀ j1 j2, IsW rs j1 → IsW rs j2 → j1 < j2 → S j2 → S j1) : ∀ c, (∀ j, IsW rs j → S j → j < c) → ∃ c', c' ≤ c ∧ ∀ j, IsW rs j → (S j ↔ j < c')
  | 0, h => ⟨0, Nat.le_refl _, fun j hj => ⟨fun hs => h j hj hs, fun hs => absurd hs (Nat.not_lt_zero _)⟩⟩
  | c + 1, h => by
    by_cases hc : IsW rs c ∧ S c
    · refine ⟨c + 1, Nat.le_refl _, fun j hj => ⟨fun hs => h j hj hs, fun hs => ?_⟩⟩
      rcases Nat.lt_or_eq_of_le (Nat.lt_succ_iff.1 hs) with hlt | rfl
      · exact hWW j c hj hc.1 hlt hc.2
      · exact hc.2
    · obtain ⟨c', h1, h2⟩ := phases hWW c (fun j hj hs => by
        have := h j hj hs
        rcases Nat.lt_or_eq_of_le (Nat.lt_succ_iff.1 this) with hlt | rfl
        · exact hlt
        · exact absurd ⟨hj, hs⟩ hc)
      exact ⟨c', Nat.le_succ_of_le h1, h2⟩

/-- one operation that comes up -/
theorem Inv.step (horc : OrcOk P σ orc) (henv : EnvOk P env) {ih : Body} (hs : Sound P σ ih) {nt : Nat} {ops : Array Oper} (hrs : chkRs P ops nt ops.toList rs = true) (hc : Canon orc env ih rs T H G V) (hf : ∀ j, j < rs.length → Fact rs H j)
    {ρ0 : Ren} {B : Nat} {w0 : World} {ds : List Deferred} {S : Nat → Prop} {a : Act} {w : World} (I : Inv σ rs T H nt ρ0 B w0 ds S a w ρ) {i : Nat} {r : ROp} (hr : rs[i]? = some r) (hS : ¬ S i)
    (hD : ∀ x, x ∈ namesR r → ∀ k, IsD rs k x → k ≠ i → (S k ↔ k < i)) (hW : pureK r.k = false → ∀ k q, rs[k]? = some q → wr q.k = true → k ≠ i → ¬ (i < k ∧ excepts r q = true) → (S k ↔ k < i)) (hWx : wr r.k = true → ∀ k q, rs[k]? = some q → pureK q.k = false → k ≠ i → ¬ (k < i ∧ excepts q r = true) → (S k ↔ k < i))
    (hWW : ∀ j1 j2, IsW rs j1 → IsW rs j2 → j1 < j2 → S j2 → S j1) (hSt : ∀ j q p, rs[j]? = some q → i < j → excepts r q = true → ptrOf r.k = some p → ∀ k, i ≤ k → k < j → ¬ IsD rs k p) (hV : ∀ j q d, rs[j]? = some q → q.dst = some d → Small σ (V j) (H (j + 1)).sz)
    (K : Act → World → Prop) (Q : Exit → Act → World → Prop) (hK : ∀ a' w' ρ', Inv σ rs T H nt ρ0 B w0 ds (fun j => S j ∨ j = i) a' w' ρ' → K a' w') : wpOp P ops Q i K a w := by
  obtain ⟨hlen, hget⟩ := chkRs_get hrs
  have hi : i < rs.length := (List.getElem?_eq_some_iff.1 hr).1
  have ho : ops[i]? = some (ops[i]'(by simp at hlen; omega)) := Array.getElem?_eq_getElem (by simp at hlen; omega)
  generalize ops[i]'(by simp at hlen; omega) = o at ho
  have hchk := hget i o r (by simpa using ho) hr
  simp only [chkR, Bool.and_eq_true] at hchk
  obtain ⟨⟨hc1, hc2⟩, hc3⟩ := hchk
  obtain ⟨g1, g2, g3⟩ := hc.step i r hr
  -- the temporaries that it names
  have hself : ∀ x ∈ namesR r, ∀ k, IsD rs k x → (S k ↔ k < i) := by
    intro x hx k hk
    by_cases hki : k = i
    · subst hki; exact ⟨fun h => absurd h hS, fun h => absurd h (Nat.lt_irrefl _)⟩
    · exact hD x hx k hk hki
  have ht : TR σ (cut ρ (H i).sz) (only (T i) (namesR r)) a.tmps := by
    intro n v hv
    rw [only_get] at hv
    split at hv
    · exact I.tmps n i v (by omega) (hself n (by assumption)) hv
    · cases hv
  have hsame : Same (T i) (only (T i) (namesR r)) (namesR r) := fun n hn => by rw [only_get, if_pos hn]
  have hsk : Same (T i) (only (T i) (namesR r)) (namesK (plain r.k)) := hsame.sub fun n hn => by simp [namesR, hn]
  have hgo : G i = Region.wanted o (yielded ops a.tmps) := by
    have e := guardK_same (g := r.guard) (hsame.sub (fun n hn => by simp only [namesR, List.mem_append]; exact .inl (.inr hn)))
    rw [← e] at g1
    exact (guard_ok (ops := ops) (o := o) ht hc2 g1).symm
  have hDd : ∀ x, r.dst = some x → ∀ k, IsD rs k x → k ≠ i → (S k ↔ k < i) := fun x hx => hD x (by simp [namesR, hx])
  have hmonoc : ∀ {m n : Nat}, m ≤ n → n ≤ rs.length → ∀ b L, cut ρ (H m).sz b = some L → cut ρ (H n).sz b = some L := by
    intro m n hmn hn b L hb
    obtain ⟨h1, h2⟩ := cut_some hb
    rw [cut_lt (Nat.lt_of_lt_of_le h1 (sz_le hf hmn hn))]; exact h2
  -- which phases there are behind it, where it is no writer
  have phase : ∀ c, c ≤ rs.length → wr r.k = false → (∀ j, IsW rs j → (S j ∨ j = i ↔ j < c)) → ∀ j, IsW rs j → (S j ↔ j < c) := by
    intro c _ hwr h j hj
    have hne : j ≠ i := by rintro rfl; obtain ⟨q, h1, h2⟩ := hj; rw [hr] at h1; cases h1; rw [hwr] at h2; cases h2
    have := h j hj
    constructor
    · intro h'; exact this.1 (.inl h')
    · intro h'; rcases this.2 h' with h' | h'
      · exact h'
      · exact absurd h' hne
  -- a writer: every phase behind it holds what it left
  have writer : wr r.k = true → ∀ {ρ2 : Ren} {w2 : World}, Rel σ ρ2 B (H (i + 1)) w2 → (∀ b L, ρ2 b = some L → b < (H (i + 1)).sz) → ∀ c, c ≤ rs.length → (∀ j, IsW rs j → (S j ∨ j = i ↔ j < c)) → Rel σ ρ2 B (H c) w2 := by
    intro hwr ρ2 w2 r2 _ c hcl hph
    have hic : i + 1 ≤ c := (hph i ⟨r, hr, hwr⟩).1 (.inr rfl)
    refine r2.longer (sz_le hf hic hcl) (fl_eq hf hic hcl) (fun b hb => keep_eq hf hic hcl (fun k h1 h2 q hq => ?_) b hb)
    cases hwk : wr q.k with
    | false => rfl
    | true =>
      have hW' := hWx hwr k q hq (wr_np hwk) (by omega) (fun h => by have := (excepts_out h.2).1; rw [hwk] at this; cases this)
      rcases (hph k ⟨q, hq, hwk⟩).2 h2 with h3 | h3
      · have := hW'.1 h3; omega
      · omega
  unfold wpOp
  simp only [ho]
  rw [← hgo]
  rcases g3 with ⟨hG, g3⟩ | ⟨hG, g3, g4⟩
  · rw [hG]
    simp only [if_true]
    left
    have g3 := rop_plain g3
    rw [← ropK_same hsk] at g3
    have hc3 := chk_plain hc3
    cases hwr : wr r.k with
    | true =>
      -- a writer
      have hnp : pureK r.k = false := by
        cases hk : r.k <;> rw [hk] at hwr <;> first | rfl | skip
        rename_i o1; cases o1 <;> first | rfl | (simp [wr] at hwr)
      have g3' : ropK0 orc env ih (plain r.k) (only (T i) (namesR r)) (H i) (fun v h => v = V i ∧ h = H (i + 1)) := by
        rcases (brec_iff _ _ _).1 g3 with ⟨_, h⟩ | ⟨h, _⟩
        · exact h
        · simp [wr_plain, hwr] at h
      have hph : ∀ j, IsW rs j → (S j ↔ j < i) := by
        intro j hj
        by_cases hji : j = i
        · subst hji; exact ⟨fun h => absurd h hS, fun h => absurd h (Nat.lt_irrefl _)⟩
        · obtain ⟨q, hq, hwq⟩ := hj
          exact hW hnp j q hq hwq hji (fun h => by have := (excepts_out h.2).1; rw [hwr] at this; cases this)
      have ri := I.rels i (by omega) hph
      refine rop0_ok horc henv hs ri ht hc3 g3' _ _ ?_
      rintro v v' h' ρ1 w' ⟨rfl, rfl⟩ q1 q2 q3
      -- nothing behind it was done: so nothing else is mapped
      have hnone : ∀ b L, ρ b = some L → b < (H i).sz := by
        intro b L hb
        rcases I.dom b L hb with h | ⟨j, h1, h2, h3, h4⟩
        · exact Nat.lt_of_lt_of_le h (sz_le hf (Nat.zero_le _) (by omega))
        · have hjl := I.lt j h1
          have hq : rs[j]? = some rs[j] := List.getElem?_eq_getElem hjl
          have hji : j ≠ i := by rintro rfl; exact hS h1
          have : j < i := by
            by_cases hx : j < i ∧ excepts rs[j] r = true
            · exact hx.1
            · exact (hWx hwr j _ hq (h2 _ hq) hji hx).1 h1
          exact Nat.lt_of_lt_of_le h4 (sz_le hf this (by omega))
      have hρ1 : ∀ b L, ρ b = some L → ρ1 b = some L := by
        intro b L hb
        have hlt := hnone b L hb
        rw [q3.ext b hlt, cut_lt hlt]; exact hb
      have hcut : ∀ c, i + 1 ≤ c → c ≤ rs.length → cut ρ1 (H c).sz = ρ1 := by
        intro c h1 h2
        funext b
        cases hb : ρ1 b with
        | none => simp [cut, hb]
        | some L => rw [cut_lt (Nat.lt_of_lt_of_le (q2.dom b L hb) (sz_le hf h1 h2))]; exact hb
      refine hK _ w' ρ1 (Inv.next hc hf I hr hS hc1 hDd ?_ hρ1 ?_ ?_ ?_ q3.pres q3.wle q3.io)
      · rw [hcut (i + 1) (Nat.le_refl _) hi]; exact q1
      · intro b hb
        have hlt := Nat.lt_of_lt_of_le hb (sz_le hf (Nat.zero_le i) (by omega))
        rw [q3.ext b hlt, cut_lt hlt]
      · intro b L hb
        by_cases hlt : b < (H i).sz
        · left; rw [q3.ext b hlt, cut_lt hlt] at hb; exact hb
        · right; exact ⟨fun q hq => by rw [hr] at hq; cases hq; exact hnp, Nat.le_of_not_lt hlt, q2.dom b L hb⟩
      · intro c hcl hph'
        have hic : i + 1 ≤ c := (hph' i ⟨r, hr, hwr⟩).1 (.inr rfl)
        rw [hcut c hic hcl]
        exact writer hwr q2 q2.dom c hcl hph'
    | false =>
      have g3' : raiseK (ropK0 orc env ih (plain r.k) (only (T i) (namesR r))) (H i) (fun v h => v = V i ∧ h = H (i + 1)) := by
        rcases (brec_iff _ _ _).1 g3 with ⟨h, _⟩ | ⟨_, h⟩
        · simp [wr_plain, hwr] at h
        · exact h
      cases hpure : pureK r.k with
      | true =>
        -- nothing to do with memory
        obtain ⟨io, hio⟩ : ∃ io, plain r.k = .op io := by
          rw [← pure_plain] at hpure
          cases hk : plain r.k with
          | op io => exact ⟨io, rfl⟩
          | callF => rw [hk] at hpure; simp [pureK] at hpure
          | callV => rw [hk] at hpure; simp [pureK] at hpure
        have hpure : pureK (plain r.k) = true := by rw [pure_plain]; exact hpure
        rw [hio] at g3' hpure hc3
        obtain ⟨v, hv1, hv2, hv3⟩ : ∃ v, v = V i ∧ H i = H (i + 1) ∧ ∀ h2 (k2 : AV → Hp → Prop), k2 v h2 → opK orc io (only (T i) (namesR r)) h2 k2 := by
          cases hHi : H i with
          | mk sz fl tr =>
            rw [hHi] at g3'
            have g4 : opK orc io (only (T i) (namesR r)) ⟨sz, sz, tr⟩ (fun v h' => Hp.rec (motive := fun _ => Prop) (fun sz' _ tr' => v = V i ∧ (⟨sz', fl, tr'⟩ : Hp) = H (i + 1)) h') := g3'
            obtain ⟨v, h1, h2⟩ := pure_op hpure g4
            exact ⟨v, h1.1, h1.2, h2⟩
        subst hv1
        have rr0 : Rel σ (cut ρ (H i).sz) w.heap.size ⟨(H i).sz, (H i).sz, .leaf⟩ w := by
          refine ⟨fun b L hb => (cut_some hb).1, ?_, ?_, ?_, ?_, ?_, fun b L hb hh => absurd (cut_some hb).1 (Nat.not_lt_of_le hh), Nat.le_refl _⟩
          all_goals (intros; rename_i hh _; first | (simp at hh; done) | skip)
          all_goals simp_all
        refine rop0_ok (rk := .op io) (k := fun v' h' => v' = V i ∧ h' = ⟨(H i).sz, (H i).sz, .leaf⟩) horc henv hs rr0 ht hc3 (by unfold ropK0; exact hv3 _ _ ⟨rfl, rfl⟩) _ _ ?_
        rintro v v' h' ρ1 w' ⟨rfl, rfl⟩ q1 q2 q3
        have e1 : ∀ b L, ρ1 b = some L → cut ρ (H i).sz b = some L := by
          intro b L hb
          have hlt : b < (H i).sz := q2.dom b L hb
          rw [← q3.ext b hlt]; exact hb
        refine hK _ w' ρ (Inv.next hc hf I hr hS hc1 hDd ?_ (fun _ _ h => h) (fun _ _ => rfl) (fun _ _ h => .inl h) ?_ (fun k hk => q3.pres k (Nat.lt_of_lt_of_le hk I.base)) q3.wle q3.io)
        · rw [← hv2]; exact q1.mono e1
        · intro c hcl hph
          exact (I.rels c hcl (phase c hcl hwr hph)).world q3.pres q3.wle
      | false =>
        -- reads, calls, new memory
        by_cases hx : ∃ k q, rs[k]? = some q ∧ S k ∧ i < k ∧ excepts r q = true
        · -- a place is read that was not written by what is done already
          obtain ⟨k0, q0, hq0, hS0, hik0, hex0⟩ := hx
          obtain ⟨_, hw0, p, d, io, hio, hdst, hload, _⟩ := excepts_out hex0
          obtain ⟨c, hcl, hcph⟩ := phases hWW rs.length (fun j _ hs => I.lt j hs)
          have hic : i < c := by
            have := (hcph k0 ⟨q0, hq0, hw0⟩).1 hS0
            omega
          have hpn : p ∈ namesR r := by
            simp only [namesR, List.mem_append]
            right
            rw [hio]
            rcases hload with rfl | ⟨n, rfl⟩ <;> simp [plain, namesK, namesI, namesO]
          have hpl : plain r.k = .op io := by rw [hio]; rcases hload with rfl | ⟨n, rfl⟩ <;> rfl
          have hpt : ptrOf r.k = some p := by rw [hio]; rcases hload with rfl | ⟨n, rfl⟩ <;> rfl
          rw [hpl] at g3' hc3
          obtain ⟨b', o', x, hp, hb', hHe, hrun⟩ : ∃ b' o' x, (only (T i) (namesR r)).get p = some (.ptr b' o') ∧ (H i).tr.get b' = some x ∧ H i = H (i + 1) ∧ ∀ h2 (K2 : AV → Hp → Prop), h2.tr.get b' = some x → K2 (V i) h2 → opK orc io (only (T i) (namesR r)) h2 K2 := by
            cases hHi : H i with
            | mk sz fl tr =>
              rw [hHi] at g3'
              have g4 : opK orc io (only (T i) (namesR r)) ⟨sz, sz, tr⟩ (fun v h' => Hp.rec (motive := fun _ => Prop) (fun sz' _ tr' => v = V i ∧ (⟨sz', fl, tr'⟩ : Hp) = H (i + 1)) h') := g3'
              obtain ⟨b, o, x, v, h1, h2, h3, h4⟩ := load_facts hload g4
              obtain ⟨rfl, h6⟩ := h3
              exact ⟨b, o, x, h1, h2, h6, h4⟩
          have hTp : (T i).get p = some (.ptr b' o') := by rw [only_get, if_pos hpn] at hp; exact hp
          have hbl : b' < (H i).sz := by
            obtain ⟨_, hvr⟩ := ht p _ hp
            obtain ⟨L, h1, _⟩ := hvr.un_ptr
            exact (cut_some h1).1
          have hkeepD : ∀ j, i ≤ j → j ≤ c → (H j).tr.get b' = (H i).tr.get b' := by
            intro j
            induction j with
            | zero => intro h1 _; obtain rfl : i = 0 := by omega
                      rfl
            | succ j ihj =>
              intro h1 h2
              rcases Nat.lt_or_eq_of_le h1 with h1 | h1
              · have hij : i ≤ j := by omega
                rw [← ihj hij (by omega)]
                have hjl : j < rs.length := by omega
                have hq : rs[j]? = some rs[j] := List.getElem?_eq_getElem hjl
                generalize rs[j] = q at hq
                have hbj : b' < (H j).sz := Nat.lt_of_lt_of_le hbl (sz_le hf hij (by omega))
                cases hwq : wr q.k with
                | false => exact (hf j hjl).keep (fun q' hq' => by rw [hq] at hq'; cases hq'; exact hwq) b' hbj
                | true =>
                  have hSj : S j := (hcph j ⟨q, hq, hwq⟩).2 (by omega)
                  have hne : j ≠ i := by rintro rfl; exact hS hSj
                  have hex : excepts r q = true := by
                    cases he : excepts r q with
                    | true => rfl
                    | false =>
                      have := (hW hpure j q hq hwq hne (fun h => by rw [he] at h; cases h.2)).1 hSj
                      omega
                  obtain ⟨_, _, p2, d2, io2, hio2, _, hload2, n, xx, vv, ps, hqk, hps⟩ := excepts_out hex
                  have hpp : p2 = p := by
                    rw [hio] at hio2
                    cases hio2
                    rcases hload with rfl | ⟨m, rfl⟩ <;> rcases hload2 with h | ⟨m2, h⟩ <;> cases h <;> rfl
                  subst hpp
                  have hTj : (T j).get p2 = some (.ptr b' o') := by
                    rw [← hTp]
                    exact T_const hc hij (by omega) (fun k hk1 hk2 => hSt j q p2 hq (by omega) hex hpt k hk1 hk2)
                  obtain ⟨_, _, gj⟩ := hc.step j q hq
                  rcases gj with ⟨_, gj⟩ | ⟨_, _, gj⟩
                  · have gj' : opK orc (.storeD n xx vv ps) (T j) (H j) (fun v h => v = V j ∧ h = H (j + 1)) := by
                      rw [hqk] at gj
                      exact gj
                    obtain ⟨b, y, u, f1, f2, f3⟩ := storeD_facts gj'
                    obtain ⟨b2, o2, f4, f5⟩ := f1 p2 hps
                    rw [hTj] at f4
                    cases f4
                    rw [← f3]
                    simp only [Hp.put, Tr.get_set]
                    rw [if_neg f5]
                  · rw [gj]
              · rw [← h1]
          have ri := I.rels c hcl hcph
          have hHc : (H c).tr.get b' = some x := (hkeepD c (by omega) (Nat.le_refl _)).trans hb'
          have hraise : raiseK (ropK0 orc env ih (.op io) (only (T i) (namesR r))) (H c) (fun v h => v = V i ∧ h = H c) := by
            cases hHcc : H c with
            | mk sz fl tr =>
              rw [hHcc] at hHc
              exact hrun ⟨sz, sz, tr⟩ (fun v h' => Hp.rec (motive := fun _ => Prop) (fun sz' _ tr' => v = V i ∧ (⟨sz', fl, tr'⟩ : Hp) = ⟨sz, fl, tr⟩) h') hHc ⟨rfl, rfl⟩
          refine raise_ok horc henv hs ri (ht.mono (hmonoc (Nat.le_of_lt hic) hcl)) hc3 hraise _ _ ?_
          rintro v v' h' ρ1 w' ⟨rfl, rfl⟩ q1 q2 q3 q4 q5 q6
          have e1 : ∀ b L, ρ1 b = some L → ρ b = some L := by
            intro b L hb
            have hlt : b < (H c).sz := q2.dom b L hb
            rw [q3.ext b hlt] at hb
            exact (cut_some hb).2
          obtain ⟨ρs, vs, hsm1, hsm2⟩ := hV i r d hr hdst
          refine hK _ w' ρ (Inv.next hc hf I hr hS hc1 hDd (VR.small hsm2 hsm1 (q1.mono e1)) (fun _ _ h => h) (fun _ _ => rfl) (fun _ _ h => .inl h) ?_ (fun k hk => q5 k (Nat.lt_of_lt_of_le hk I.base)) q3.wle q3.io)
          intro c' hcl' hph'
          exact (I.rels c' hcl' (phase c' hcl' hwr hph')).world q5 q3.wle
        have hph : ∀ j, IsW rs j → (S j ↔ j < i) := by
          intro j hj
          by_cases hji : j = i
          · subst hji; obtain ⟨q, h1, h2⟩ := hj; rw [hr] at h1; cases h1; rw [hwr] at h2; cases h2
          · obtain ⟨q, hq, hwq⟩ := hj
            by_cases he : i < j ∧ excepts r q = true
            · exact ⟨fun h => absurd ⟨j, q, hq, h, he⟩ hx, fun h => by omega⟩
            · exact hW hpure j q hq hwq hji he
        have ri := I.rels i (by omega) hph
        refine raise_ok horc henv hs ri ht hc3 g3' _ _ ?_
        rintro v v' h' ρ1 w' ⟨rfl, rfl⟩ q1 q2 q3 q4 q5 q6
        -- the new map
        let ρn : Ren := fun b => if (H i).sz ≤ b ∧ b < (H (i + 1)).sz then ρ1 b else ρ b
        have hfree : ∀ b L, ρ b = some L → ¬ ((H i).sz ≤ b ∧ b < (H (i + 1)).sz) := by
          rintro b L hb ⟨h1, h2⟩
          rcases I.dom b L hb with h | ⟨j, h3, _, h4, h5⟩
          · have := sz_le hf (Nat.zero_le i) (by omega); omega
          · have hjl := I.lt j h3
            rcases Nat.lt_trichotomy j i with h | h | h
            · have := sz_le hf (i := j + 1) (j := i) h (by omega); omega
            · subst h; exact hS h3
            · have := sz_le hf (i := i + 1) (j := j) h (by omega); omega
        have hρn : ∀ b L, ρ b = some L → ρn b = some L := by
          intro b L hb; simp only [ρn]; rw [if_neg (hfree b L hb)]; exact hb
        have hρ1n : ∀ c, i + 1 ≤ c → c ≤ rs.length → ∀ b L, ρ1 b = some L → cut ρn (H c).sz b = some L := by
          intro c h1 h2 b L hb
          have hlt := q2.dom b L hb
          rw [cut_lt (Nat.lt_of_lt_of_le hlt (sz_le hf h1 h2))]
          simp only [ρn]
          by_cases h3 : (H i).sz ≤ b
          · rw [if_pos ⟨h3, hlt⟩]; exact hb
          · rw [if_neg (fun h => h3 h.1)]
            rw [q3.ext b (Nat.lt_of_not_le h3), cut_lt (Nat.lt_of_not_le h3)] at hb; exact hb
        refine hK _ w' ρn (Inv.next hc hf I hr hS hc1 hDd ?_ hρn ?_ ?_ ?_ q3.pres q3.wle q3.io)
        · exact q1.mono (hρ1n (i + 1) (Nat.le_refl _) hi)
        · intro b hb
          have := sz_le hf (Nat.zero_le i) (by omega)
          simp only [ρn]; rw [if_neg (fun h => by omega)]
        · intro b L hb
          simp only [ρn] at hb
          split at hb
          · rename_i h; exact .inr ⟨fun q hq => by rw [hr] at hq; cases hq; exact hpure, h⟩
          · exact .inl hb
        · intro c hcl hph'
          have hph0 := phase c hcl hwr hph'
          have rc := I.rels c hcl hph0
          by_cases hci : c ≤ i
          · have e : cut ρn (H c).sz = cut ρ (H c).sz := by
              funext b
              simp only [cut]
              split
              · have := sz_le hf hci (by omega)
                simp only [ρn]; rw [if_neg (fun h => by omega)]
              · rfl
            rw [e]
            exact rc.world q5 q3.wle
          · have hic : i + 1 ≤ c := by omega
            have hkeep : ∀ b, b < (H (i + 1)).sz → (H c).tr.get b = (H (i + 1)).tr.get b := fun b hb => keep_eq hf hic hcl (fun k h1 h2 q hq => by
              cases hwk : wr q.k with
              | false => rfl
              | true =>
                have h3 := (hph0 k ⟨q, hq, hwk⟩).2 h2
                have := (hph k ⟨q, hq, hwk⟩).1 h3
                omega) b hb
            refine Rel.join rc q2 q5 q3.wle (sz_le hf hic hcl) (fl_eq hf hic hcl) hkeep ?_ (hρ1n c hic hcl) ?_
            · intro b L hb
              obtain ⟨h1, h2⟩ := cut_some hb
              rw [cut_lt h1]; exact hρn b L h2
            · intro b L hb
              obtain ⟨h1, h2⟩ := cut_some hb
              simp only [ρn] at h2
              split at h2
              · rename_i h; exact .inr ⟨h2, q6 b L h2 h.1⟩
              · left; rw [cut_lt h1]; exact h2
  · -- it isn't wanted
    rw [hG]
    simp only [Bool.false_eq_true, if_false]
    refine hK _ w ρ (Inv.next hc hf I hr hS hc1 hDd ?_ (fun _ _ h => h) (fun _ _ => rfl) (fun _ _ h => .inl h) ?_ (fun _ _ => rfl) (Nat.le_refl _) ⟨rfl, rfl⟩)
    · rw [g3]; exact .tup [] #[] .nil
    · intro c hcl hph
      cases hwr : wr r.k with
      | false => exact I.rels c hcl (phase c hcl hwr hph)
      | true =>
        have hnp : pureK r.k = false := by
          cases hk : r.k <;> rw [hk] at hwr <;> first | rfl | skip
          rename_i o1; cases o1 <;> first | rfl | (simp [wr] at hwr)
        have hph0 : ∀ j, IsW rs j → (S j ↔ j < i) := by
          intro j hj
          by_cases hji : j = i
          · subst hji; exact ⟨fun h => absurd h hS, fun h => absurd h (Nat.lt_irrefl _)⟩
          · obtain ⟨q, hq, hwq⟩ := hj
            exact hW hnp j q hq hwq hji (fun h => by have := (excepts_out h.2).1; rw [hwr] at this; cases this)
        have ri := I.rels i (by omega) hph0
        have hic : i + 1 ≤ c := (hph i ⟨r, hr, hwr⟩).1 (.inr rfl)
        have e : cut ρ (H c).sz = cut ρ (H i).sz := by
          funext b
          cases hb : ρ b with
          | none => simp [cut, hb]
          | some L =>
            have hlt : b < (H i).sz := by
              rcases I.dom b L hb with h | ⟨j, h1, h2, h3, h4⟩
              · exact Nat.lt_of_lt_of_le h (sz_le hf (Nat.zero_le _) (by omega))
              · have hjl := I.lt j h1
                have hq : rs[j]? = some rs[j] := List.getElem?_eq_getElem hjl
                have hji : j ≠ i := by rintro rfl; exact hS h1
                have : j < i := by
                  by_cases hx : j < i ∧ excepts rs[j] r = true
                  · exact hx.1
                  · exact (hWx hwr j _ hq (h2 _ hq) hji hx).1 h1
                exact Nat.lt_of_lt_of_le h4 (sz_le hf this (by omega))
            rw [cut_lt hlt, cut_lt (Nat.lt_of_lt_of_le hlt (sz_le hf (by omega) hcl))]
        rw [e]
        have ri' : Rel σ (cut ρ (H i).sz) B (H (i + 1)) w := by rw [g4]; exact ri
        exact writer hwr ri' ri'.dom c hcl hph
end

theorem draw_ok (horc : OrcOk P σ orc) (henv : EnvOk P env) : DrawOk P σ orc env := by
  intro ih hi hs nt ops id rs Q K B t h w a ρ hrs hmix hdr hk ht hsz r hK
  obtain ⟨T, H, G, V, rfl, rfl, hc, hQ⟩ := canon_of hi rs t h hk
  obtain ⟨_, hf⟩ := canon_facts horc henv hs hrs hc ht hsz r rs.length (Nat.le_refl _)
  obtain ⟨hlen, hget⟩ := chkRs_get hrs
  have hlen' : ops.size = rs.length := by simpa using hlen
  simp only [chkDraw, Bool.and_eq_true] at hdr
  obtain ⟨⟨hd0, hd1⟩, hd2⟩ := hdr
  have hlt : ∀ (i : Nat) o, ops[i]? = some o → ∀ e ∈ o.after, Region.binds .any e = true → e.on < i := by
    intro i o ho e he hb
    have := (List.all_eq_true.1 hd1) (o, i) (by rw [List.mem_zipIdx_iff_getElem?]; simpa using ho)
    rw [Array.all_eq_true'] at this
    have h2 := this e he
    simp [hb] at h2
    simpa [Nat.blt] using h2
  let S : Array Bool → Nat → Prop := fun l i => l[i]? = some true
  have main : ∀ (fuel : Nat) (listed : Array Bool) (a' : Act) (w' : World) (ρ' : Ren), listed.size = ops.size → listed.toList.count false = fuel → (∀ (i : Nat) o, S listed i → ops[i]? = some o → ∀ e ∈ o.after, Region.binds .any e = true → S listed e.on) →
      Inv σ rs T H nt ρ B w a.defers (S listed) a' w' ρ' → wpAny P .any ops K fuel listed a' w' := by
    intro fuel
    have fin : ∀ (listed : Array Bool) (a' : Act) (w' : World) (ρ' : Ren), listed.size = ops.size → (∀ i, i < ops.size → S listed i) → Inv σ rs T H nt ρ B w a.defers (S listed) a' w' ρ' → K .normal a' w' := by
      intro listed a' w' ρ' hls hall I
      have hall' : ∀ i, i < rs.length → S listed i := fun i hi => hall i (by omega)
      have rn := I.rels rs.length (Nat.le_refl _) (fun j hj => by
        obtain ⟨q, h1, _⟩ := hj
        have := (List.getElem?_eq_some_iff.1 h1).1
        exact ⟨fun _ => this, fun _ => hall' j this⟩)
      refine hK a' w' _ _ (cut ρ' (H rs.length).sz) hQ (fun x v hv => I.tmps x rs.length v (Nat.le_refl _) (fun k hk => by
        obtain ⟨q, h1, _⟩ := hk
        have := (List.getElem?_eq_some_iff.1 h1).1
        exact ⟨fun _ => this, fun _ => hall' k this⟩) hv) I.size I.defers rn ?_
      exact ⟨fun b hb => by rw [cut_lt (Nat.lt_of_lt_of_le hb (sz_le hf (Nat.zero_le _) (Nat.le_refl _)))]; exact I.ext b hb, sz_le hf (Nat.zero_le _) (Nat.le_refl _), fl_eq hf (Nat.zero_le _) (Nat.le_refl _),
        fun b h1 h2 => floor_eq hf (Nat.le_refl _) b h1 h2, I.pres, I.wle, I.io⟩
    -- where nothing is ready all is done
    have done : ∀ (listed : Array Bool), listed.size = ops.size → Region.ready .any ops listed = [] → ∀ i, i < ops.size → S listed i := by
      intro listed hls hre i
      induction i using Nat.strongRecOn with
      | _ i ihi =>
        intro hi
        apply Classical.byContradiction
        intro hns
        have hmem : i ∈ Region.ready .any ops listed := by
          simp only [Region.ready, List.mem_filter, List.mem_range]
          have ho : ops[i]? = some ops[i] := Array.getElem?_eq_getElem hi
          have hli : listed[i]? = some false := by
            have h1 : listed[i]? = some (listed[i]'(by omega)) := Array.getElem?_eq_getElem (by omega)
            cases hb : listed[i]'(by omega) with
            | false => rw [h1, hb]
            | true => exact absurd (show S listed i from by show listed[i]? = some true; rw [h1, hb]) hns
          refine ⟨hi, ?_⟩
          rw [Array.getD_eq_getD_getElem?, hli, ho]
          simp only [Option.getD_some, Bool.not_false, Bool.true_and, Option.map_some, Array.all_eq_true']
          intro e he
          by_cases hb : Region.binds .any e = true
          · have hl := hlt i _ ho e he hb
            have : S listed e.on := ihi e.on hl (by omega)
            have h2 : listed[e.on]? = some true := this
            simp [Array.getD_eq_getD_getElem?, h2]
          · simp [hb]
        rw [hre] at hmem
        cases hmem
    induction fuel with
    | zero =>
      intro listed a' w' ρ' hls hcnt hcl I
      have hall : ∀ i, i < ops.size → S listed i := by
        intro i hi
        have h1 : listed[i]? = some (listed[i]'(by omega)) := Array.getElem?_eq_getElem (by omega)
        cases hb : listed[i]'(by omega) with
        | true => show listed[i]? = some true; rw [h1, hb]
        | false =>
          exfalso
          have : false ∈ listed.toList := by
            rw [← hb]; simp
          have := List.count_pos_iff.2 this
          omega
      refine ⟨?_, fin listed a' w' ρ' hls hall I⟩
      apply List.eq_nil_iff_forall_not_mem.2
      intro i hi
      simp only [Region.ready, List.mem_filter, List.mem_range] at hi
      have h2 : listed[i]? = some true := hall i hi.1
      have h3 := hi.2
      rw [Array.getD_eq_getD_getElem?, h2] at h3
      simp at h3
    | succ fuel ihf =>
      intro listed a' w' ρ' hls hcnt hcl I
      refine ⟨fun hre => fin listed a' w' ρ' hls (done listed hls hre) I, ?_⟩
      intro i hi
      simp only [Region.ready, List.mem_filter, List.mem_range, Bool.and_eq_true, Bool.not_eq_true'] at hi
      obtain ⟨hin, hnl, hafter⟩ := hi
      have ho : ops[i]? = some ops[i] := Array.getElem?_eq_getElem hin
      have hli : listed[i]? = some false := by
        have h1 : listed[i]? = some (listed[i]'(by omega)) := Array.getElem?_eq_getElem (by omega)
        rw [Array.getD_eq_getD_getElem?, h1] at hnl
        rw [h1]; simpa using hnl
      have hS : ¬ S listed i := by intro h; have h' : listed[i]? = some true := h; rw [hli] at h'; cases h'
      rw [ho] at hafter
      simp only [Option.map_some, Option.getD_some, Array.all_eq_true'] at hafter
      have hready : ∀ e ∈ ops[i].after, Region.binds .any e = true → S listed e.on := by
        intro e he hb
        have := hafter e he
        simp [hb] at this
        show listed[e.on]? = some true
        cases h : listed[e.on]? with
        | none => rw [h] at this; simp at this
        | some b => rw [h] at this; simp at this; rw [this]
      have hri : rs[i]? = some (rs[i]'(by omega)) := List.getElem?_eq_getElem (by omega)
      generalize rs[i]'(by omega) = rr at hri
      -- what must be before, is; what must be behind, isn't
      have hlow : ∀ k q, rs[k]? = some q → k < i → meets q rr = true → S listed k := by
        intro k q hq hki hm
        have hbit := pairs_get rs 0 hd2 rfl k i q rr hki (Nat.zero_le _) hq hri hm
        exact mask_done hlt hcl i _ ho hready k hbit
      have hhigh : ∀ k q, rs[k]? = some q → i < k → meets rr q = true → ¬ S listed k := by
        intro k q hq hik hm hSk
        have hkl := (List.getElem?_eq_some_iff.1 hq).1
        have hbit := pairs_get rs 0 hd2 rfl i k rr q hik (Nat.zero_le _) hri hq hm
        have hok : ops[k]? = some (ops[k]'(by omega)) := Array.getElem?_eq_getElem (by omega)
        exact hS (mask_done hlt hcl k _ hok (hcl k _ hSk hok) i hbit)
      have hcmp : ∀ k q, rs[k]? = some q → k ≠ i → (k < i → meets q rr = true) → (i < k → meets rr q = true) → (S listed k ↔ k < i) := by
        intro k q hq hki h1 h2
        rcases Nat.lt_or_gt_of_ne hki with h | h
        · exact ⟨fun _ => h, fun _ => hlow k q hq h (h1 h)⟩
        · exact ⟨fun hs => absurd hs (hhigh k q hq h (h2 h)), fun hs => by omega⟩
      have hback : ∀ j k q q', rs[j]? = some q → rs[k]? = some q' → k < j → meets q' q = true → S listed j → S listed k := by
        intro j k q q' hq hq' hkj hm hSj
        have hjl := (List.getElem?_eq_some_iff.1 hq).1
        have hbit := pairs_get rs 0 hd2 rfl k j q' q hkj (Nat.zero_le _) hq' hq hm
        have hok : ops[j]? = some (ops[j]'(by omega)) := Array.getElem?_eq_getElem (by omega)
        exact mask_done hlt hcl j _ hok (hcl j _ hSj hok) k hbit
      refine Inv.step horc henv hs hrs hc hf I hri hS ?_ ?_ ?_ ?_ ?_ ?_ _ _ ?_
      · rintro x hx k ⟨q, hq, hqd⟩ hki
        have hdn : dn q rr = true := by
          simp only [dn, hqd]
          simpa using hx
        exact hcmp k q hq hki (fun _ => by simp [meets, hdn]) (fun _ => by simp [meets, hdn])
      · intro hp k q hq hqw hki hne
        refine hcmp k q hq hki (fun _ => by simp [meets, hp, hqw]) (fun h => ?_)
        have : excepts rr q = false := by
          cases he : excepts rr q with
          | true => exact absurd ⟨h, he⟩ hne
          | false => rfl
        simp [meets, hp, hqw, this]
      · intro hw k q hq hp hki hne
        refine hcmp k q hq hki (fun h => ?_) (fun _ => by simp [meets, hp, hw])
        have : excepts q rr = false := by
          cases he : excepts q rr with
          | true => exact absurd ⟨h, he⟩ hne
          | false => rfl
        simp [meets, hp, hw, this]
      · rintro j1 j2 ⟨q1, hq1, hw1⟩ ⟨q2, hq2, hw2⟩ hj hs2
        exact hback j2 j1 q2 q1 hq2 hq1 hj (by simp [meets, hw1, wr_np hw2]) hs2
      · rintro j q p hq hij hex hpt k hik hkj ⟨u, hu, hud⟩
        have h1 := (List.all_eq_true.1 hd0) (q, j) (by rw [List.mem_zipIdx_iff_getElem?]; exact hq)
        have h2 := (List.all_eq_true.1 h1) (rr, i) (by rw [List.mem_zipIdx_iff_getElem?, List.getElem?_take_of_lt hij]; exact hri)
        simp only [hex, Bool.not_true, Bool.false_or] at h2
        have h3 := (List.all_eq_true.1 h2) u (List.mem_of_getElem? (i := k - i) (by
          rw [List.getElem?_drop, show i + (k - i) = k from by omega, List.getElem?_take_of_lt hkj]; exact hu))
        simp [hud, hpt] at h3
      · intro j q d hq hd
        have hjl := (List.getElem?_eq_some_iff.1 hq).1
        obtain ⟨⟨ρ3, a3, w3, ht3, _, r3⟩, _⟩ := canon_facts horc henv hs hrs hc ht hsz r (j + 1) (by omega)
        have hg : (T (j + 1)).get d = some (V j) := by rw [T_step hc hq, if_pos hd]
        exact ⟨ρ3, _, (ht3 d _ hg).2, fun b L hb => r3.dom b L hb⟩
      · intro a2 w2 ρ2 I2
        have hS2 : S (listed.setIfInBounds i true) = fun j => S listed j ∨ j = i := by
          funext j
          apply propext
          show (listed.setIfInBounds i true)[j]? = some true ↔ (listed[j]? = some true ∨ j = i)
          rw [Array.getElem?_setIfInBounds]
          by_cases hji : i = j
          · subst hji; simp; omega
          · rw [if_neg hji]
            constructor
            · exact .inl
            · rintro (h | h)
              · exact h
              · exact absurd h.symm hji
        refine ihf (listed.setIfInBounds i true) a2 w2 ρ2 (by simp; exact hls) ?_ ?_ (by rw [hS2]; exact I2)
        · rw [Array.toList_setIfInBounds]
          have hil : i < listed.toList.length := by simp; omega
          have hget0 : listed.toList[i] = false := by
            have : listed.toList[i]? = some false := by simpa using hli
            rw [List.getElem?_eq_getElem hil] at this
            simpa using this
          rw [List.count_set hil, hget0, hcnt]
          rfl
        · intro j o' hSj ho' e he hb
          rw [hS2] at hSj ⊢
          rcases hSj with hSj | rfl
          · exact .inl (hcl j o' hSj ho' e he hb)
          · rw [ho] at ho'; cases ho'; exact .inl (hready e he hb)
  -- the beginning
  refine wp_region_any hmix (main ops.size (Array.replicate ops.size false) a _ ρ (by simp) (by simp) ?_ ?_)
  · intro i o hS
    have h' : (Array.replicate ops.size false)[i]? = some true := hS
    simp [Array.getElem?_replicate] at h'
  · have hno : ∀ i, ¬ S (Array.replicate ops.size false) i := by
      intro i hS
      have h' : (Array.replicate ops.size false)[i]? = some true := hS
      simp [Array.getElem?_replicate] at h'
    have r' : Rel σ ρ B (H 0) { w with drawn := w.drawn + 1 } := r.heap rfl
    have hdom0 : ∀ c, c ≤ rs.length → cut ρ (H c).sz = ρ := by
      intro c hcl
      funext b
      cases hb : ρ b with
      | none => simp [cut, hb]
      | some L => rw [cut_lt (Nat.lt_of_lt_of_le (r.dom b L hb) (sz_le hf (Nat.zero_le _) hcl))]; exact hb
    refine ⟨fun i h => absurd h (hno i), fun b L hb => .inl (r.dom b L hb), ?_, ?_, fun _ _ => rfl, fun _ _ => rfl, Nat.le_refl _, ⟨rfl, rfl⟩, r.base, hsz, rfl⟩
    · intro c hcl hph
      rw [hdom0 c hcl]
      refine r'.longer (sz_le hf (Nat.zero_le _) hcl) (fl_eq hf (Nat.zero_le _) hcl) (fun b hb => keep_eq hf (Nat.zero_le _) hcl (fun k _ h2 q hq => ?_) b hb)
      cases hwk : wr q.k with
      | false => rfl
      | true => exact absurd ((hph k ⟨q, hq, hwk⟩).2 h2) (hno k)
    · intro x j v hj hph hg
      have e : (T j).get x = (T 0).get x := T_const hc (Nat.zero_le _) hj (fun k _ h2 hdk => absurd ((hph k hdk).2 h2) (hno k))
      rw [e] at hg
      rw [hdom0 j hj]
      exact ht x v hg

/-- THE SOUNDNESS of the abstract machine -/
theorem call_sound (horc : OrcOk P σ orc) (henv : EnvOk P env) (n : Nat) {f : Nat} {vs : List AV} {h : Hp} {k : AV → Hp → Prop} (hk : callK env (awp orc env n) f vs h k) {B : Nat} {w : World} (r : Rel σ ρ B h w) {args : Array Value} (ha : VRs σ ρ vs args.toList) :
    Calls P f args w fun e w' => ∃ v v' h' ρ', e = .returned v' ∧ k v h' ∧ VR σ ρ' v v' ∧ Rel σ ρ' B h' w' ∧ Kept ρ B h w ρ' h' w' :=
  (call_ok henv (sound horc henv (draw_ok horc henv) n) hk r ha).1
end Go.Ab
