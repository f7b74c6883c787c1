/- The laws RestrictKeys and RestrictFamilies answer true. Condition: sizes and numbers are as their types allow. -/
import Derived.Test.YtbcpapkjdphfpaaRun
import Derived.Test.YtbcpapkjdphfpaaOk
namespace Go.Proofs.Ytbcpapkjdphfpaa.Run
open Go.Ab

def Yes (f : Nat) (args : Array Value) : Prop := ∀ w : World, Calls Try.prog f args w fun e w' => e = .returned (.bool true) ∧ ∀ may, w.keptBut w' may
theorem bool0 : ∀ j, AtOk (fun _ => Value.bool false) j ((fun _ => At.bool) j) := fun _ => ⟨false, rfl⟩
theorem awakeOf {σ : Nat → Value} {orc : Orc} {n f : Nat} (horc : OrcOk Try.prog σ orc) (h : ansK orc Ir.env n f [] (.b true) True = True) : Ret Try.prog f #[] (.bool true) :=
  (knows_ans horc Ir.envOk (by simp [eqL]) (of_eq_true h)).1.ret (args := #[]) .nil (fun _ h => h.un_b)
theorem awakeR : Ret Try.prog 9 #[] (.bool true) := awakeOf (atOrc_ok bool0) awk
theorem yes1 {σ : Nat → Value} {orc : Orc} {n f : Nat} {vs : List AV} {args : Array Value} {q : Prop} (horc : OrcOk Try.prog σ orc) (ha : VRs σ (fun _ => none) vs args.toList) (h : yesK orc Ir.env n f vs q) : Yes f args ∧ q :=
  ⟨fun w => (yesK_run horc Ir.envOk h).1 ha w, (yesK_run horc Ir.envOk h).2⟩
def sg (name : ByteArray) (n : Int) (j : Nat) : Value := match j with | 0 => .string name | 1 => .int .i64 name.size | 2 => .int .u32 n | _ => .bool false
theorem sg_ok {name : ByteArray} {n : Int} {ne : List (List UInt8)} {lo hi : Int} (hr : 0 ≤ n ∧ n ≤ 4294967295) (hn : ∀ x ∈ ne, name ≠ ⟨x.toArray⟩) (h : lo ≤ name.size ∧ (name.size : Int) ≤ hi) : ∀ j, AtOk (sg name n) j (rAt ne lo hi j)
  | 0 => ⟨name, rfl, rfl, hn⟩
  | 1 => ⟨name.size, rfl, h.1, h.2, (by intro m hm; cases hm)⟩
  | 2 => ⟨n, rfl, hr.1, hr.2, (by intro m hm; cases hm)⟩
  | _ + 3 => ⟨false, rfl⟩
theorem tabA_ok {σ : Nat → Value} : ∀ e ∈ tabA, Knows Try.prog σ e.1 e.2.1 e.2.2 := by
  intro e he
  obtain rfl := List.mem_singleton.1 he
  exact awakeR.knows (fun _ _ ha => args0 ha) (fun _ => .b _)
theorem orcK_ok {name : ByteArray} {n : Int} {ne : List (List UInt8)} {lo hi : Int} (hr : 0 ≤ n ∧ n ≤ 4294967295) (hn : ∀ x ∈ ne, name ≠ ⟨x.toArray⟩) (h : lo ≤ name.size ∧ (name.size : Int) ≤ hi) : OrcOk Try.prog (sg name n) (orcK ne lo hi) :=
  (atOrc_ok (sg_ok hr hn h)).calls tabA_ok
theorem rem_ok {σ : Nat → Value} {q : IntKind} {n m r : Int} (hm : m ≠ 0) (h : n.tmod m = r) {ρ : Ren} : ∃ r', VR σ ρ (.i q r) r' ∧ ∀ (P : Program) t w, (binOp .rem t (.int q n) (.int q m)).run P w = .ok r' w :=
  ⟨_, .i _ _, fun P t w => by subst h; simp [binOp, Op.intDiv, hm]⟩
theorem e00 : (0 : Int) ≤ ByteArray.empty.size ∧ (ByteArray.empty.size : Int) ≤ 0 := by decide
theorem noNe {name : ByteArray} : ∀ x ∈ ([] : List (List UInt8)), name ≠ ⟨x.toArray⟩ := by intro x hx; cases hx
theorem orcF_ok {n k : Int} (hr : 0 ≤ n ∧ n ≤ 4294967295) (hk : n.tmod 8 = k) : OrcOk Try.prog (sg ByteArray.empty n) (orcF k) := by
  refine (orcK_ok hr noNe e00).bins ?_
  intro e he ρ x' y' hx hy
  obtain rfl := List.mem_singleton.1 he
  rw [hx.un_sym, hy.un_i]
  exact rem_ok (by decide) hk
theorem rem_mem {n : Int} (hr : 0 ≤ n ∧ n ≤ 4294967295) : n.tmod 8 ∈ rems := by
  rw [Int.tmod_eq_emod_of_nonneg hr.1]
  have h2 : 0 ≤ n % 8 := Int.emod_nonneg _ (by decide)
  have h3 : n % 8 < 8 := Int.emod_lt_of_pos _ (by decide)
  generalize n % 8 = y at h2 h3 ⊢
  simp only [rems, List.mem_cons, List.not_mem_nil, or_false]
  omega
theorem named (name : ByteArray) : (∃ x ∈ keys, name = ⟨x.toArray⟩) ∨ ∀ x ∈ keys, name ≠ ⟨x.toArray⟩ := by
  by_cases h : ∃ x ∈ keys, name = ⟨x.toArray⟩
  · exact .inl h
  · exact .inr fun x hx e => h ⟨x, hx, e⟩
theorem keyLaw {n : Nat} (hK : allK keys (fun x q => yesK (orcK [] 0 0) Ir.env n 3 [.s x] q) = True) (hU : yesK (orcK keys 0 200) Ir.env n 3 [.sym 0] True = True) (hL : yesK (orcK [] 201 9223372036854775807) Ir.env n 3 [.sym 0] True = True)
    (name : ByteArray) (hs : name.size ≤ maxLen) : Yes 3 #[.string name] := by
  have hs' : (name.size : Int) ≤ 9223372036854775807 := by unfold maxLen at hs; omega
  have h0 : 0 ≤ (0 : Int) ∧ (0 : Int) ≤ 4294967295 := by omega
  rcases named name with ⟨x, hx, rfl⟩ | hn
  · have h : ∀ x ∈ keys, Yes 3 #[.string ⟨x.toArray⟩] := allK_iff (fun x q hq => yes1 (orcK_ok (n := 0) h0 noNe e00) (.cons _ _ _ _ (.s _) .nil) hq) hK
    exact h x hx
  · by_cases hl : (name.size : Int) ≤ 200
    · exact (yes1 (orcK_ok (name := name) (n := 0) h0 hn ⟨Int.natCast_nonneg _, hl⟩) (.cons _ _ _ _ (.sym 0) .nil) (of_eq_true hU)).1
    · exact (yes1 (orcK_ok (name := name) (n := 0) h0 noNe ⟨by omega, hs'⟩) (.cons _ _ _ _ (.sym 0) .nil) (of_eq_true hL)).1
theorem famLaw {m : Nat} {b : Bool} (hN : allK rems (fun k q => yesK (orcF k) Ir.env m 6 [.sym 2, .b b] q) = True) (n : Int) (hr : 0 ≤ n ∧ n ≤ 4294967295) : Yes 6 #[.int .u32 n, .bool b] := by
  have h : ∀ k ∈ rems, n.tmod 8 = k → Yes 6 #[.int .u32 n, .bool b] := allK_iff (fun k q hq => ⟨fun hk => (yes1 (orcF_ok hr hk) (.cons _ _ _ _ (.sym 2) (.cons _ _ _ _ (.b _) .nil)) hq).1, (ansK_iff hq).2⟩) hN
  exact h _ (rem_mem hr) rfl
end Go.Proofs.Ytbcpapkjdphfpaa.Run
namespace Go.Proofs.Ytbcpapkjdphfpaa.restrictKeys
open Go.Ab
theorem walk (s0 : ByteArray) (w0 : s0.size ≤ maxLen) (w : World) : Calls Try.prog 3 #[.string s0] w fun e w' => e = .returned (.bool true) ∧ ∀ may, w.keptBut w' may := Run.keyLaw Run.keyK Run.keyU Run.keyL s0 w0 w
end Go.Proofs.Ytbcpapkjdphfpaa.restrictKeys
namespace Go.Proofs.Ytbcpapkjdphfpaa.restrictFamilies
open Go.Ab
theorem walk (a0 : Int) (w0 : (Lit.int .u32 a0).wf = true) (b1 : Bool) (w : World) : Calls Try.prog 6 #[.int .u32 a0, .bool b1] w fun e w' => e = .returned (.bool true) ∧ ∀ may, w.keptBut w' may := by
  have hr : 0 ≤ a0 ∧ a0 ≤ 4294967295 := by
    simp only [Lit.wf, Bool.and_eq_true, decide_eq_true_eq] at w0
    exact w0
  cases b1
  · exact Run.famLaw Run.famF a0 hr w
  · exact Run.famLaw Run.famT a0 hr w
end Go.Proofs.Ytbcpapkjdphfpaa.restrictFamilies
