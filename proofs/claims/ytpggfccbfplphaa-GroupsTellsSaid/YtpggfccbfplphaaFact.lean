/- What Number, Name and Known answer, in the program and in the document: the same, for every architecture, name and number. Condition: sizes and numbers are as their types allow. -/
import Derived.Test.YtpggfccbfplphaaNum0
import Derived.Test.YtpggfccbfplphaaNum1
import Derived.Test.YtpggfccbfplphaaNum2
import Derived.Test.YtpggfccbfplphaaNum3
import Derived.Test.YtpggfccbfplphaaNum4
import Derived.Test.YtpggfccbfplphaaNum5
import Derived.Test.YtpggfccbfplphaaNum6
import Derived.Test.YtpggfccbfplphaaOk
import Derived.Test.YtpggfccbfplphaaCore24
namespace Go.Proofs.Ytpggfccbfplphaa.Tab
open Go.Ab

/-- two functions answer the same -/
def Both (f g : Nat) (args : Array Value) (v : Value) : Prop := Ret Try.prog f args v ∧ Ret Try.prog g args v
theorem bool0 : ∀ j, AtOk (fun _ => Value.bool false) j ((fun _ => At.bool) j) := fun _ => ⟨false, rfl⟩
theorem eq1_i (k : IntKind) (n : Int) : eq1 (.i k n) (.i k n) = true := by simp [eq1, kindEq, eqI_eq]
theorem eq1_s (x : List UInt8) : eq1 (.s x) (.s x) = true := by simp [eq1, eqS_eq]
theorem eq1_y (j : Nat) : eq1 (.sym j) (.sym j) = true := by simp [eq1]

theorem both {σ : Nat → Value} {orc : Orc} {n f g : Nat} {vs : List AV} {r : AV} {args : Array Value} {v : Value} {q : Prop} (horc : OrcOk Try.prog σ orc) (hp : eqL vs vs = true) (ha : VRs σ (fun _ => none) vs args.toList) (hv : ∀ v', VR σ (fun _ => none) r v' → v' = v)
    (h : ansK orc Ir.env n f vs r (ansK orc Ir.env n g vs r q)) : Both f g args v ∧ q := by
  obtain ⟨h1, h2⟩ := knows_ans horc Ir.envOk hp h
  obtain ⟨h3, h4⟩ := knows_ans horc Ir.envOk hp h2
  exact ⟨⟨h1.ret ha hv, h3.ret ha hv⟩, h4⟩

theorem pair_v {σ : Nat → Value} {x e : Int} (v' : Value) (h : VR σ (fun _ => none) (.tup [.i .u32 x, .i .i64 e]) v') : v' = .tuple #[.int .u32 x, .int .i64 e] := h.tup2 (fun _ h => h.un_i) (fun _ h => h.un_i)

theorem numsK {n : Nat} {a : Int} {l : List (List UInt8 × Int × Int)} (h : allK l (fun x q => ansK (atOrc fun _ => .bool) Ir.env n 11 [.i .i64 a, .s x.1] (.tup [.i .u32 x.2.1, .i .i64 x.2.2]) (ansK (atOrc fun _ => .bool) Ir.env n 12 [.i .i64 a, .s x.1] (.tup [.i .u32 x.2.1, .i .i64 x.2.2]) q)) = True) :
    ∀ x ∈ l, Both 11 12 #[.int .i64 a, .string ⟨x.1.toArray⟩] (.tuple #[.int .u32 x.2.1, .int .i64 x.2.2]) :=
  allK_iff (fun x q hq => both (atOrc_ok bool0) (by simp [eqL, eq1_i, eq1_s]) (.cons _ _ _ _ (.i _ _) (.cons _ _ _ _ (.s _) .nil)) pair_v hq) h
theorem namsK {n : Nat} {orc : Orc} {a : Int} {l : List (Int × List UInt8)} (horc : OrcOk Try.prog (fun _ => .bool false) orc)
    (h : allK l (fun x q => ansK orc Ir.env n 17 [.i .i64 a, .i .u32 x.1] (.s x.2) (ansK orc Ir.env n 18 [.i .i64 a, .i .u32 x.1] (.s x.2) q)) = True) :
    ∀ x ∈ l, Both 17 18 #[.int .i64 a, .int .u32 x.1] (.string ⟨x.2.toArray⟩) :=
  allK_iff (fun x q hq => both horc (by simp [eqL, eq1_i]) (.cons _ _ _ _ (.i _ _) (.cons _ _ _ _ (.i _ _) .nil)) (fun _ h => h.un_s) hq) h

/-- an unknown name -/
def sgS (name : ByteArray) (j : Nat) : Value := match j with | 1 => .string name | 2 => .int .i64 name.size | _ => .bool false
theorem sgS_ok {name : ByteArray} (h : ∀ x ∈ names, name ≠ ⟨x.toArray⟩) (hs : (name.size : Int) ≤ 9223372036854775807) : ∀ j, AtOk (sgS name) j (strAt j)
  | 0 => ⟨false, rfl⟩
  | 1 => ⟨name, rfl, rfl, h⟩
  | 2 => ⟨name.size, rfl, Int.natCast_nonneg _, hs, (by intro m hm; cases hm)⟩
  | _ + 3 => ⟨false, rfl⟩
theorem numsU {n : Nat} {a : Int} (h : ansK (atOrc strAt) Ir.env n 11 [.i .i64 a, .sym 1] (.tup [.i .u32 0, .i .i64 90]) (ansK (atOrc strAt) Ir.env n 12 [.i .i64 a, .sym 1] (.tup [.i .u32 0, .i .i64 90]) True) = True) {name : ByteArray}
    (hn : ∀ x ∈ names, name ≠ ⟨x.toArray⟩) (hs : (name.size : Int) ≤ 9223372036854775807) : Both 11 12 #[.int .i64 a, .string name] (.tuple #[.int .u32 0, .int .i64 90]) :=
  (both (atOrc_ok (sgS_ok hn hs)) (by simp [eqL, eq1_i, eq1_y]) (.cons _ _ _ _ (.i _ _) (.cons _ _ _ _ (.sym 1) .nil)) pair_v (of_eq_true h)).1

/-- an architecture that there isn't, and an unknown name -/
def sgA (a : Int) (name : ByteArray) (nr : Int) (j : Nat) : Value := match j with | 0 => .int .i64 a | 1 => .string name | 2 => .int .i64 name.size | 3 => .int .u32 nr | _ => .bool false
theorem sgL_ok {a : Int} {name : ByteArray} {nr : Int} (ha : -9223372036854775808 ≤ a ∧ a < 0) (h : ∀ x ∈ names, name ≠ ⟨x.toArray⟩) (hs : (name.size : Int) ≤ 9223372036854775807) (hr : 0 ≤ nr ∧ nr ≤ 4294967295) : ∀ j, AtOk (sgA a name nr) j (lowAt j)
  | 0 => ⟨a, rfl, ha.1, (by omega), (by intro m hm; cases hm)⟩
  | 1 => ⟨name, rfl, rfl, h⟩
  | 2 => ⟨name.size, rfl, Int.natCast_nonneg _, hs, (by intro m hm; cases hm)⟩
  | 3 => ⟨nr, rfl, hr.1, hr.2, (by intro m hm; cases hm)⟩
  | _ + 4 => ⟨false, rfl⟩
theorem sgH_ok {a : Int} {name : ByteArray} {nr : Int} (ha : 6 ≤ a ∧ a ≤ 9223372036854775807) (h : ∀ x ∈ names, name ≠ ⟨x.toArray⟩) (hs : (name.size : Int) ≤ 9223372036854775807) (hr : 0 ≤ nr ∧ nr ≤ 4294967295) : ∀ j, AtOk (sgA a name nr) j (highAt j)
  | 0 => ⟨a, rfl, ha.1, ha.2, (by intro m hm; cases hm)⟩
  | 1 => ⟨name, rfl, rfl, h⟩
  | 2 => ⟨name.size, rfl, Int.natCast_nonneg _, hs, (by intro m hm; cases hm)⟩
  | 3 => ⟨nr, rfl, hr.1, hr.2, (by intro m hm; cases hm)⟩
  | _ + 4 => ⟨false, rfl⟩

theorem named (name : ByteArray) : (∃ x ∈ names, name = ⟨x.toArray⟩) ∨ ∀ x ∈ names, name ≠ ⟨x.toArray⟩ := by
  by_cases h : ∃ x ∈ names, name = ⟨x.toArray⟩
  · exact .inl h
  · exact .inr fun x hx e => h ⟨x, hx, e⟩
/-- Number's answer: the program's and the document's -/
def Num (a : Int) (name : ByteArray) : Prop := ∃ x e : Int, (0 ≤ x ∧ x ≤ 4294967295) ∧ (0 ≤ e ∧ e ≤ 90) ∧ Both 11 12 #[.int .i64 a, .string name] (.tuple #[.int .u32 x, .int .i64 e])
theorem numAt {n : Nat} {a : Int} {l : List (List UInt8 × Int × Int)} (hl : l.map (·.1) = names) (hb : l.all (fun t => decide (0 ≤ t.2.1) && (decide (t.2.1 ≤ 4294967295) && (decide (0 ≤ t.2.2) && decide (t.2.2 ≤ 90)))) = true)
    (hK : allK l (fun x q => ansK (atOrc fun _ => .bool) Ir.env n 11 [.i .i64 a, .s x.1] (.tup [.i .u32 x.2.1, .i .i64 x.2.2]) (ansK (atOrc fun _ => .bool) Ir.env n 12 [.i .i64 a, .s x.1] (.tup [.i .u32 x.2.1, .i .i64 x.2.2]) q)) = True)
    (hU : ansK (atOrc strAt) Ir.env n 11 [.i .i64 a, .sym 1] (.tup [.i .u32 0, .i .i64 90]) (ansK (atOrc strAt) Ir.env n 12 [.i .i64 a, .sym 1] (.tup [.i .u32 0, .i .i64 90]) True) = True)
    {name : ByteArray} (hs : (name.size : Int) ≤ 9223372036854775807) : Num a name := by
  rcases named name with ⟨x, hx, rfl⟩ | hn
  · rw [← hl] at hx
    obtain ⟨y, hy, rfl⟩ := List.mem_map.1 hx
    have h1 := List.all_eq_true.1 hb y hy
    simp only [Bool.and_eq_true, decide_eq_true_eq] at h1
    exact ⟨_, _, ⟨h1.1, h1.2.1⟩, h1.2.2, numsK hK y hy⟩
  · exact ⟨0, 90, ⟨by omega, by omega⟩, ⟨by omega, by omega⟩, numsU hU hn hs⟩
theorem empty_gen {l : List (List UInt8)} (h : l.all (fun x => !x.isEmpty) = true) : ∀ x ∈ l, ByteArray.empty ≠ ⟨x.toArray⟩ := by
  intro x hx e
  have h1 := List.all_eq_true.1 h x hx
  cases x with
  | nil => cases h1
  | cons y ys => have := congrArg ByteArray.size e; simp [ByteArray.size] at this
theorem empty_new : ∀ x ∈ names, ByteArray.empty ≠ ⟨x.toArray⟩ := empty_gen (by kernel_rfl)
theorem noneK {n : Nat} {orc : Orc} {a : Int} {l : List (List UInt8)} (horc : OrcOk Try.prog (sgA a ByteArray.empty 0) orc)
    (h : allK l (fun x q => ansK orc Ir.env n 11 [.sym 0, .s x] (.tup [.i .u32 0, .i .i64 90]) (ansK orc Ir.env n 12 [.sym 0, .s x] (.tup [.i .u32 0, .i .i64 90]) q)) = True) :
    ∀ x ∈ l, Both 11 12 #[.int .i64 a, .string ⟨x.toArray⟩] (.tuple #[.int .u32 0, .int .i64 90]) :=
  allK_iff (fun x q hq => both horc (by simp [eqL, eq1_s, eq1_y]) (.cons _ _ _ _ (.sym 0) (.cons _ _ _ _ (.s _) .nil)) pair_v hq) h
theorem noneU {n : Nat} {orc : Orc} {a : Int} {name : ByteArray} (horc : OrcOk Try.prog (sgA a name 0) orc)
    (h : ansK orc Ir.env n 11 [.sym 0, .sym 1] (.tup [.i .u32 0, .i .i64 90]) (ansK orc Ir.env n 12 [.sym 0, .sym 1] (.tup [.i .u32 0, .i .i64 90]) True) = True) :
    Both 11 12 #[.int .i64 a, .string name] (.tuple #[.int .u32 0, .int .i64 90]) :=
  (both horc (by simp [eqL, eq1_y]) (.cons _ _ _ _ (.sym 0) (.cons _ _ _ _ (.sym 1) .nil)) pair_v (of_eq_true h)).1
theorem numOut {orc : Orc} {n : Nat} {a : Int} (hat : ∀ name : ByteArray, (∀ x ∈ names, name ≠ ⟨x.toArray⟩) → (name.size : Int) ≤ 9223372036854775807 → OrcOk Try.prog (sgA a name 0) orc)
    (hK : ∀ x ∈ names, Both 11 12 #[.int .i64 a, .string ⟨x.toArray⟩] (.tuple #[.int .u32 0, .int .i64 90]))
    (hU : ansK orc Ir.env n 11 [.sym 0, .sym 1] (.tup [.i .u32 0, .i .i64 90]) (ansK orc Ir.env n 12 [.sym 0, .sym 1] (.tup [.i .u32 0, .i .i64 90]) True) = True)
    {name : ByteArray} (hs : (name.size : Int) ≤ 9223372036854775807) : Num a name := by
  refine ⟨0, 90, ⟨by omega, by omega⟩, ⟨by omega, by omega⟩, ?_⟩
  rcases named name with ⟨x, hx, rfl⟩ | hn
  · exact hK x hx
  · exact noneU (hat name hn hs) hU
theorem low_ok {a : Int} (ha : -9223372036854775808 ≤ a ∧ a < 0) (name : ByteArray) (h : ∀ x ∈ names, name ≠ ⟨x.toArray⟩) (hs : (name.size : Int) ≤ 9223372036854775807) : OrcOk Try.prog (sgA a name 0) (atOrc lowAt) := atOrc_ok (sgL_ok ha h hs ⟨by omega, by omega⟩)
theorem high_ok {a : Int} (ha : 6 ≤ a ∧ a ≤ 9223372036854775807) (name : ByteArray) (h : ∀ x ∈ names, name ≠ ⟨x.toArray⟩) (hs : (name.size : Int) ≤ 9223372036854775807) : OrcOk Try.prog (sgA a name 0) (atOrc highAt) := atOrc_ok (sgH_ok ha h hs ⟨by omega, by omega⟩)
theorem noneL {a : Int} (ha : -9223372036854775808 ≤ a ∧ a < 0) : ∀ x ∈ names, Both 11 12 #[.int .i64 a, .string ⟨x.toArray⟩] (.tuple #[.int .u32 0, .int .i64 90]) := noneK (low_ok ha _ empty_new (by decide)) numKL
theorem noneH {a : Int} (ha : 6 ≤ a ∧ a ≤ 9223372036854775807) : ∀ x ∈ names, Both 11 12 #[.int .i64 a, .string ⟨x.toArray⟩] (.tuple #[.int .u32 0, .int .i64 90]) := noneK (high_ok ha _ empty_new (by decide)) numKH

theorem numPair {a : Int} (ha : -9223372036854775808 ≤ a ∧ a ≤ 9223372036854775807) {name : ByteArray} (hs : (name.size : Int) ≤ 9223372036854775807) : Num a name := by
  by_cases h1 : a < 0
  · exact numOut (low_ok ⟨ha.1, h1⟩) (noneL ⟨ha.1, h1⟩) numUL hs
  · by_cases h2 : 6 ≤ a
    · exact numOut (high_ok ⟨h2, ha.2⟩) (noneH ⟨h2, ha.2⟩) numUH hs
    · have : a = 0 ∨ a = 1 ∨ a = 2 ∨ a = 3 ∨ a = 4 ∨ a = 5 := by omega
      rcases this with h | h | h | h | h | h <;> subst h
      · exact numAt (by kernel_rfl) (by kernel_rfl) numK0 numU0 hs
      · exact numAt (by kernel_rfl) (by kernel_rfl) numK1 numU1 hs
      · exact numAt (by kernel_rfl) (by kernel_rfl) numK2 numU2 hs
      · exact numAt (by kernel_rfl) (by kernel_rfl) numK3 numU3 hs
      · exact numAt (by kernel_rfl) (by kernel_rfl) numK4 numU4 hs
      · exact numAt (by kernel_rfl) (by kernel_rfl) numK5 numU5 hs

/-! ### Name -/
theorem num_knows {σ : Nat → Value} {a x e : Int} {s : List UInt8} (h : Both 11 12 #[.int .i64 a, .string ⟨s.toArray⟩] (.tuple #[.int .u32 x, .int .i64 e])) : Knows Try.prog σ 12 [.i .i64 a, .s s] (.val (.tup [.i .u32 x, .i .i64 e])) :=
  h.2.knows (fun _ _ ha => args2 ha (fun _ h => h.un_i) (fun _ h => h.un_s)) (fun _ => .tup _ _ (.cons _ _ _ _ (.i _ _) (.cons _ _ _ _ (.i _ _) .nil)))
theorem num_knowsA {σ : Nat → Value} {a x e : Int} (h0 : σ 0 = .int .i64 a) {s : List UInt8} (h : Both 11 12 #[.int .i64 a, .string ⟨s.toArray⟩] (.tuple #[.int .u32 x, .int .i64 e])) : Knows Try.prog σ 12 [.sym 0, .s s] (.val (.tup [.i .u32 x, .i .i64 e])) :=
  h.2.knows (fun _ _ ha => args2 ha (fun _ h => by rw [h.un_sym, h0]) (fun _ h => h.un_s)) (fun _ => .tup _ _ (.cons _ _ _ _ (.i _ _) (.cons _ _ _ _ (.i _ _) .nil)))
theorem tabOf_ok {σ : Nat → Value} {a : Int} {l : List (List UInt8 × Int × Int)} (h : ∀ x ∈ l, Both 11 12 #[.int .i64 a, .string ⟨x.1.toArray⟩] (.tuple #[.int .u32 x.2.1, .int .i64 x.2.2])) : ∀ e ∈ tabOf a l, Knows Try.prog σ e.1 e.2.1 e.2.2 := by
  intro e he
  obtain ⟨x, hx, rfl⟩ := List.mem_map.1 he
  exact num_knows (h x hx)
theorem tabNone_ok {σ : Nat → Value} {a : Int} (h0 : σ 0 = .int .i64 a) {l : List (List UInt8)} (h : ∀ x ∈ l, Both 11 12 #[.int .i64 a, .string ⟨x.toArray⟩] (.tuple #[.int .u32 0, .int .i64 90])) : ∀ e ∈ tabNone l, Knows Try.prog σ e.1 e.2.1 e.2.2 := by
  intro e he
  obtain ⟨x, hx, rfl⟩ := List.mem_map.1 he
  exact num_knowsA h0 (h x hx)
/-- a number -/
def sgN (nr : Int) (j : Nat) : Value := match j with | 0 => .int .u32 nr | _ => .bool false
theorem sgN_ok {nr : Int} {l : List Int} (h : nr ∉ l) (hr : 0 ≤ nr ∧ nr ≤ 4294967295) : ∀ j, AtOk (sgN nr) j (nrAt l j)
  | 0 => ⟨nr, rfl, hr.1, hr.2, fun _ hm e => h (e ▸ hm)⟩
  | _ + 1 => ⟨false, rfl⟩
def Nam (a nr : Int) : Prop := ∃ s : ByteArray, (s.size : Int) ≤ 9223372036854775807 ∧ Both 17 18 #[.int .i64 a, .int .u32 nr] (.string s)
theorem namAt {n m : Nat} {a : Int} {l : List (List UInt8 × Int × Int)} {k : List (Int × List UInt8)} (hK : allK l (fun x q => ansK (atOrc fun _ => .bool) Ir.env n 11 [.i .i64 a, .s x.1] (.tup [.i .u32 x.2.1, .i .i64 x.2.2]) (ansK (atOrc fun _ => .bool) Ir.env n 12 [.i .i64 a, .s x.1] (.tup [.i .u32 x.2.1, .i .i64 x.2.2]) q)) = True)
    (hb : k.all (fun t => decide (t.2.length ≤ 200)) = true)
    (hN : allK k (fun x q => ansK ((atOrc fun _ => .bool).calls (tabOf a l)) Ir.env m 17 [.i .i64 a, .i .u32 x.1] (.s x.2) (ansK ((atOrc fun _ => .bool).calls (tabOf a l)) Ir.env m 18 [.i .i64 a, .i .u32 x.1] (.s x.2) q)) = True)
    (hU : ansK ((atOrc (nrAt (k.map (·.1)))).calls (tabOf a l)) Ir.env m 17 [.i .i64 a, .sym 0] (.s []) (ansK ((atOrc (nrAt (k.map (·.1)))).calls (tabOf a l)) Ir.env m 18 [.i .i64 a, .sym 0] (.s []) True) = True)
    {nr : Int} (hr : 0 ≤ nr ∧ nr ≤ 4294967295) : Nam a nr := by
  by_cases h : nr ∈ k.map (·.1)
  · obtain ⟨x, hx, rfl⟩ := List.mem_map.1 h
    have h1 := List.all_eq_true.1 hb x hx
    simp only [decide_eq_true_eq] at h1
    refine ⟨_, ?_, namsK ((atOrc_ok bool0).calls (tabOf_ok (numsK hK))) hN x hx⟩
    show (x.2.toArray.size : Int) ≤ _
    rw [List.size_toArray]
    omega
  · exact ⟨⟨[].toArray⟩, by decide, (both ((atOrc_ok (sgN_ok h hr)).calls (tabOf_ok (numsK hK))) (by simp [eqL, eq1_i, eq1_y]) (.cons _ _ _ _ (.i _ _) (.cons _ _ _ _ (.sym 0) .nil)) (fun _ h => h.un_s) (of_eq_true hU)).1⟩
theorem namOut {n : Nat} {orc : Orc} {a : Int} {l : List (List UInt8)} (h : ∀ x ∈ l, Both 11 12 #[.int .i64 a, .string ⟨x.toArray⟩] (.tuple #[.int .u32 0, .int .i64 90])) {nr : Int} (horc : OrcOk Try.prog (sgA a ByteArray.empty nr) orc)
    (hU : ansK (orc.calls (tabNone l)) Ir.env n 17 [.sym 0, .sym 3] (.s []) (ansK (orc.calls (tabNone l)) Ir.env n 18 [.sym 0, .sym 3] (.s []) True) = True) : Nam a nr :=
  ⟨⟨[].toArray⟩, by decide, (both (horc.calls (tabNone_ok rfl h)) (by simp [eqL, eq1_y]) (.cons _ _ _ _ (.sym 0) (.cons _ _ _ _ (.sym 3) .nil)) (fun _ h => h.un_s) (of_eq_true hU)).1⟩
theorem namPair {a : Int} (ha : -9223372036854775808 ≤ a ∧ a ≤ 9223372036854775807) {nr : Int} (hr : 0 ≤ nr ∧ nr ≤ 4294967295) : Nam a nr := by
  by_cases h1 : a < 0
  · exact namOut (noneL ⟨ha.1, h1⟩) (atOrc_ok (sgL_ok ⟨ha.1, h1⟩ empty_new (by decide) hr)) namUL
  · by_cases h2 : 6 ≤ a
    · exact namOut (noneH ⟨h2, ha.2⟩) (atOrc_ok (sgH_ok ⟨h2, ha.2⟩ empty_new (by decide) hr)) namUH
    · have : a = 0 ∨ a = 1 ∨ a = 2 ∨ a = 3 ∨ a = 4 ∨ a = 5 := by omega
      rcases this with h | h | h | h | h | h <;> subst h
      · exact namAt numK0 (by kernel_rfl) namK0 namU0 hr
      · exact namAt numK1 (by kernel_rfl) namK1 namU1 hr
      · exact namAt numK2 (by kernel_rfl) namK2 namU2 hr
      · exact namAt numK3 (by kernel_rfl) namK3 namU3 hr
      · exact namAt numK4 (by kernel_rfl) namK4 namU4 hr
      · exact namAt numK5 (by kernel_rfl) namK5 namU5 hr

/-! ### Known -/
theorem knwsK {n : Nat} {orc : Orc} {l : List (List UInt8)} (horc : OrcOk Try.prog (fun _ => .bool false) orc)
    (h : allK l (fun x q => ansK orc Ir.env n 15 [.s x] (.b true) (ansK orc Ir.env n 16 [.s x] (.b true) q)) = True) :
    ∀ x ∈ l, Both 15 16 #[.string ⟨x.toArray⟩] (.bool true) :=
  allK_iff (fun x q hq => both horc (by simp [eqL, eq1_s]) (.cons _ _ _ _ (.s _) .nil) (fun _ h => h.un_b) hq) h
theorem knwsU {n : Nat} {orc : Orc} {name : ByteArray} (horc : OrcOk Try.prog (sgS name) orc)
    (h : ansK orc Ir.env n 15 [.sym 1] (.b false) (ansK orc Ir.env n 16 [.sym 1] (.b false) True) = True) : Both 15 16 #[.string name] (.bool false) :=
  (both horc (by simp [eqL, eq1_y]) (.cons _ _ _ _ (.sym 1) .nil) (fun _ h => h.un_b) (of_eq_true h)).1
theorem knwPair {name : ByteArray} (hs : (name.size : Int) ≤ 9223372036854775807) : ∃ b, Both 15 16 #[.string name] (.bool b) := by
  rcases named name with ⟨x, hx, rfl⟩ | hn
  · exact ⟨true, knwsK (atOrc_ok bool0) knwK x hx⟩
  · exact ⟨false, knwsU (atOrc_ok (sgS_ok hn hs)) knwU⟩
theorem awakeOf {σ : Nat → Value} {orc : Orc} {n f : Nat} (horc : OrcOk Try.prog σ orc) (h : ansK orc Ir.env n f [] (.b true) True = True) : Ret Try.prog f #[] (.bool true) :=
  (knows_ans horc Ir.envOk (by simp [eqL]) (of_eq_true h)).1.ret (args := #[]) .nil (fun _ h => h.un_b)
theorem awakeR : Ret Try.prog 19 #[] (.bool true) := awakeOf (atOrc_ok bool0) awk
end Go.Proofs.Ytpggfccbfplphaa.Tab
