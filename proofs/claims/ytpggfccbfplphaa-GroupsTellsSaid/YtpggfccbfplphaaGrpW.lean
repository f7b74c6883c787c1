/- The laws of groups answer true: for each name, for an unknown name, for each number. Condition: names and numbers are as their types allow. -/
import Derived.Test.YtpggfccbfplphaaGrpE
import Derived.Test.YtpggfccbfplphaaFact
namespace Go.Proofs.Ytpggfccbfplphaa.Grp
open Go.Ab Tab

/-- a call that answers true and keeps the world -/
def Yes (f : Nat) (args : Array Value) : Prop := ∀ w : World, Calls Try.prog f args w fun e w' => e = .returned (.bool true) ∧ ∀ may, w.keptBut w' may
def sgG (name : ByteArray) (w : Int) (j : Nat) : Value := match j with | 0 => .int .i64 w | 1 => .int .u64 (IntKind.wrap .u64 w) | 2 => .string name | 3 => .int .i64 name.size | _ => .bool false
theorem u64_range (w : Int) : 0 ≤ IntKind.wrap .u64 w ∧ IntKind.wrap .u64 w ≤ 18446744073709551615 := by
  simp only [IntKind.wrap, IntKind.bits, IntKind.signed]
  constructor <;> simp <;> omega
theorem sgG_ok {name : ByteArray} {w : Int} {ne : List (List UInt8)} {lo hi : Int} (hw : -9223372036854775808 ≤ w ∧ w ≤ 9223372036854775807) (hn : ∀ x ∈ ne, name ≠ ⟨x.toArray⟩) (h : lo ≤ name.size ∧ (name.size : Int) ≤ hi) :
    ∀ j, AtOk (sgG name w) j (gAt ne lo hi j)
  | 0 => ⟨w, rfl, hw.1, hw.2, (by intro m hm; cases hm)⟩
  | 1 => ⟨_, rfl, (u64_range w).1, (u64_range w).2, (by intro m hm; cases hm)⟩
  | 2 => ⟨name, rfl, rfl, hn⟩
  | 3 => ⟨name.size, rfl, h.1, h.2, (by intro m hm; cases hm)⟩
  | _ + 4 => ⟨false, rfl⟩
theorem awakeG : Ret Try.prog 25 #[] (.bool true) := awakeOf (atOrc_ok bool0) Grp.awk
theorem knw_knows {σ : Nat → Value} {x : List UInt8} (h : Both 15 16 #[.string ⟨x.toArray⟩] (.bool true)) : Knows Try.prog σ 15 [.s x] (.val (.b true)) :=
  h.1.knows (fun _ _ ha => args1 ha (fun _ h => h.un_s)) (fun _ => .b _)
theorem tabK_ok {σ : Nat → Value} : ∀ e ∈ tabK, Knows Try.prog σ e.1 e.2.1 e.2.2 := by
  intro e he
  rcases List.mem_cons.1 he with rfl | he
  · exact awakeG.knows (fun _ _ ha => args0 ha) (fun _ => .b _)
  · obtain ⟨x, hx, rfl⟩ := List.mem_map.1 he
    exact knw_knows (knwsK (atOrc_ok bool0) knwK x hx)
theorem orcG_ok {name : ByteArray} {w : Int} {ne : List (List UInt8)} {lo hi : Int} (hw : -9223372036854775808 ≤ w ∧ w ≤ 9223372036854775807) (hn : ∀ x ∈ ne, name ≠ ⟨x.toArray⟩) (h : lo ≤ name.size ∧ (name.size : Int) ≤ hi) :
    OrcOk Try.prog (sgG name w) (orcG ne lo hi) := (atOrc_ok (sgG_ok hw hn h)).calls tabK_ok
theorem rem_ok {σ : Nat → Value} {n m r : Int} (hm : m ≠ 0) (h : n.tmod m = r) {ρ : Ren} : ∃ r', VR σ ρ (.i .u64 r) r' ∧ ∀ (P : Program) t w, (binOp .rem t (.int .u64 n) (.int .u64 m)).run P w = .ok r' w :=
  ⟨_, .i _ _, fun P t w => by subst h; simp [binOp, Op.intDiv, hm]⟩
theorem orcR_ok {name : ByteArray} {w : Int} {ne : List (List UInt8)} {lo hi k : Int} (hk : (IntKind.wrap .u64 w).tmod 18 = k) (hw : -9223372036854775808 ≤ w ∧ w ≤ 9223372036854775807) (hn : ∀ x ∈ ne, name ≠ ⟨x.toArray⟩) (h : lo ≤ name.size ∧ (name.size : Int) ≤ hi) :
    OrcOk Try.prog (sgG name w) (orcR ne lo hi k) := by
  refine ((orcG_ok hw hn h).cvs ?_).bins ?_
  · intro e he
    obtain rfl := List.mem_singleton.1 he
    exact ⟨_, w, rfl, fun ρ => .sym 1⟩
  · intro e he ρ x' y' hx hy
    obtain rfl := List.mem_singleton.1 he
    rw [hx.un_sym, hy.un_i]
    exact rem_ok (by decide) hk
theorem rem_mem {w : Int} : (IntKind.wrap .u64 w).tmod 18 ∈ rems := by
  obtain ⟨h1, _⟩ := u64_range w
  generalize IntKind.wrap .u64 w = x at h1 ⊢
  rw [Int.tmod_eq_emod_of_nonneg h1]
  have h2 : 0 ≤ x % 18 := Int.emod_nonneg _ (by decide)
  have h3 : x % 18 < 18 := Int.emod_lt_of_pos _ (by decide)
  generalize x % 18 = y at h2 h3 ⊢
  simp only [rems, List.mem_cons, List.not_mem_nil, or_false]
  omega
theorem grouped (name : ByteArray) : (∃ x ∈ groups, name = ⟨x.toArray⟩) ∨ ∀ x ∈ groups, name ≠ ⟨x.toArray⟩ := by
  by_cases h : ∃ x ∈ groups, name = ⟨x.toArray⟩
  · exact .inl h
  · exact .inr fun x hx e => h ⟨x, hx, e⟩
theorem yes1 {σ : Nat → Value} {orc : Orc} {n f : Nat} {vs : List AV} {args : Array Value} {q : Prop} (horc : OrcOk Try.prog σ orc) (ha : VRs σ (fun _ => none) vs args.toList) (h : yesK orc Ir.env n f vs q) : Yes f args ∧ q :=
  ⟨fun w => (yesK_run horc Ir.envOk h).1 ha w, (yesK_run horc Ir.envOk h).2⟩
theorem e00 : (0 : Int) ≤ ByteArray.empty.size ∧ (ByteArray.empty.size : Int) ≤ 0 := by decide
theorem noNe {name : ByteArray} : ∀ x ∈ ([] : List (List UInt8)), name ≠ ⟨x.toArray⟩ := by intro x hx; cases hx
/-- of a law of one name: each name, an unknown one, one too long -/
theorem law1 {n f : Nat} (hK : allK groups (fun x q => yesK (orcG [] 0 0) Ir.env n f [.s x] q) = True) (hU : yesK (orcG groups 0 200) Ir.env n f [.sym 2] True = True) (hL : yesK (orcG [] 201 9223372036854775807) Ir.env n f [.sym 2] True = True)
    (name : ByteArray) (hs : name.size ≤ maxLen) : Yes f #[.string name] := by
  have hs' : (name.size : Int) ≤ 9223372036854775807 := by unfold maxLen at hs; omega
  have h0 : -9223372036854775808 ≤ (0 : Int) ∧ (0 : Int) ≤ 9223372036854775807 := by omega
  rcases grouped name with ⟨x, hx, rfl⟩ | hn
  · have h : ∀ x ∈ groups, Yes f #[.string ⟨x.toArray⟩] := allK_iff (fun x q hq => yes1 (orcG_ok (w := 0) h0 noNe e00) (.cons _ _ _ _ (.s _) .nil) hq) hK
    exact h x hx
  · by_cases hl : (name.size : Int) ≤ 200
    · exact (yes1 (orcG_ok (name := name) (w := 0) h0 hn ⟨Int.natCast_nonneg _, hl⟩) (.cons _ _ _ _ (.sym 2) .nil) (of_eq_true hU)).1
    · exact (yes1 (orcG_ok (name := name) (w := 0) h0 noNe ⟨by omega, hs'⟩) (.cons _ _ _ _ (.sym 2) .nil) (of_eq_true hL)).1
/-- of a law of one name and a number -/
theorem law2 {n f : Nat} (hK : allK groups (fun x q => yesK (orcG [] 0 0) Ir.env n f [.s x, .sym 0] q) = True) (hU0 : allK rems0 (fun k q => yesK (orcR groups 0 200 k) Ir.env n f [.sym 2, .sym 0] q) = True)
    (hU1 : allK rems1 (fun k q => yesK (orcR groups 0 200 k) Ir.env n f [.sym 2, .sym 0] q) = True) (hU2 : allK rems2 (fun k q => yesK (orcR groups 0 200 k) Ir.env n f [.sym 2, .sym 0] q) = True) (hL : yesK (orcG [] 201 9223372036854775807) Ir.env n f [.sym 2, .sym 0] True = True)
    (name : ByteArray) (hs : name.size ≤ maxLen) (a : Int) (ha : -9223372036854775808 ≤ a ∧ a ≤ 9223372036854775807) : Yes f #[.string name, .int .i64 a] := by
  have hs' : (name.size : Int) ≤ 9223372036854775807 := by unfold maxLen at hs; omega
  rcases grouped name with ⟨x, hx, rfl⟩ | hn
  · have h : ∀ x ∈ groups, Yes f #[.string ⟨x.toArray⟩, .int .i64 a] := allK_iff (fun x q hq => yes1 (orcG_ok (w := a) ha noNe e00) (.cons _ _ _ _ (.s _) (.cons _ _ _ _ (.sym 0) .nil)) hq) hK
    exact h x hx
  · by_cases hl : (name.size : Int) ≤ 200
    · have h : ∀ {l : List Int}, allK l (fun k q => yesK (orcR groups 0 200 k) Ir.env n f [.sym 2, .sym 0] q) = True → ∀ k ∈ l, (IntKind.wrap .u64 a).tmod 18 = k → Yes f #[.string name, .int .i64 a] := fun hU => allK_iff (fun k q hq =>
        ⟨fun hk => (yes1 (orcR_ok (name := name) hk ha hn ⟨Int.natCast_nonneg _, hl⟩) (.cons _ _ _ _ (.sym 2) (.cons _ _ _ _ (.sym 0) .nil)) hq).1, (ansK_iff hq).2⟩) hU
      have hm := rem_mem (w := a)
      simp only [rems, List.mem_cons, List.not_mem_nil, or_false] at hm
      by_cases h1 : (IntKind.wrap .u64 a).tmod 18 ∈ rems0
      · exact h hU0 _ h1 rfl
      · by_cases h2 : (IntKind.wrap .u64 a).tmod 18 ∈ rems1
        · exact h hU1 _ h2 rfl
        · refine h hU2 _ ?_ rfl
          simp only [rems0, rems1, rems2, List.mem_cons, List.not_mem_nil, or_false] at h1 h2 ⊢
          omega
    · exact (yes1 (orcG_ok (name := name) (w := a) ha noNe ⟨by omega, hs'⟩) (.cons _ _ _ _ (.sym 2) (.cons _ _ _ _ (.sym 0) .nil)) (of_eq_true hL)).1
/-- of a law of a number -/
theorem law3 {n f : Nat} (hN : allK rems (fun k q => yesK (orcR [] 0 0 k) Ir.env n f [.sym 0] q) = True) (a : Int) (ha : -9223372036854775808 ≤ a ∧ a ≤ 9223372036854775807) : Yes f #[.int .i64 a] := by
  have h : ∀ k ∈ rems, (IntKind.wrap .u64 a).tmod 18 = k → Yes f #[.int .i64 a] := allK_iff (fun k q hq =>
    ⟨fun hk => (yes1 (orcR_ok (name := ByteArray.empty) hk ha noNe e00) (.cons _ _ _ _ (.sym 0) .nil) hq).1, (ansK_iff hq).2⟩) hN
  exact h _ rem_mem rfl
theorem range {a : Int} (w0 : (Lit.int .i64 a).wf = true) : -9223372036854775808 ≤ a ∧ a ≤ 9223372036854775807 := by
  simp only [Lit.wf, Bool.and_eq_true, decide_eq_true_eq] at w0
  exact w0
end Go.Proofs.Ytpggfccbfplphaa.Grp
