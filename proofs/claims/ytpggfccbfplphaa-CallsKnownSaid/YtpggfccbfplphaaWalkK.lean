/- The law CallsKnown answers true. Condition: sizes and numbers are as their types allow. -/
import Derived.Test.YtpggfccbfplphaaRunK0
import Derived.Test.YtpggfccbfplphaaRunK1
import Derived.Test.YtpggfccbfplphaaRunK2
import Derived.Test.YtpggfccbfplphaaRunK3
import Derived.Test.YtpggfccbfplphaaRunK4
import Derived.Test.YtpggfccbfplphaaRunK5
import Derived.Test.YtpggfccbfplphaaRunK6
import Derived.Test.YtpggfccbfplphaaWalkA
namespace Go.Proofs.Ytpggfccbfplphaa.Tab
open Go.Ab

def sgK (a : Int) (name : ByteArray) (j : Nat) : Value := match j with | 0 => .int .i64 a | 1 => .string name | 2 => .int .i64 name.size | _ => .bool false
theorem sgK_ok {a : Int} {name : ByteArray} {ne : List (List UInt8)} {lo hi : Int} (ha : -9223372036854775808 ≤ a ∧ a ≤ 9223372036854775807) (hn : ∀ x ∈ ne, name ≠ ⟨x.toArray⟩) (h : lo ≤ name.size ∧ (name.size : Int) ≤ hi) : ∀ j, AtOk (sgK a name) j (hasAt ne lo hi j)
  | 0 => ⟨a, rfl, ha.1, ha.2, (by intro m hm; cases hm)⟩
  | 1 => ⟨name, rfl, rfl, hn⟩
  | 2 => ⟨name.size, rfl, h.1, h.2, (by intro m hm; cases hm)⟩
  | _ + 3 => ⟨false, rfl⟩
def YesK (name : ByteArray) (a : Int) : Prop := ∀ w : World, Calls Try.prog 6 #[.string name, .int .i64 a] w fun e w' => e = .returned (.bool true) ∧ ∀ may, w.keptBut w' may
theorem unk_in {σ : Nat → Value} {name : ByteArray} (h1 : σ 1 = .string name) (h : Both 15 16 #[.string name] (.bool false)) : Knows Try.prog σ 15 [.sym 1] (.val (.b false)) :=
  h.1.knows (fun _ _ ha => args1 ha (fun _ h => by rw [h.un_sym, h1])) (fun _ => .b _)
theorem nob_in {σ : Nat → Value} {name : ByteArray} {a : Int} (h1 : σ 1 = .string name) (h : Both 11 12 #[.int .i64 a, .string name] (.tuple #[.int .u32 0, .int .i64 90])) : Knows Try.prog σ 11 [.i .i64 a, .sym 1] (.val (.tup [.i .u32 0, .i .i64 90])) :=
  h.1.knows (fun _ _ ha => args2 ha (fun _ h => h.un_i) (fun _ h => by rw [h.un_sym, h1])) (fun _ => .tup _ _ (.cons _ _ _ _ (.i _ _) (.cons _ _ _ _ (.i _ _) .nil)))
theorem nobA_in {σ : Nat → Value} {name : ByteArray} {a : Int} (h0 : σ 0 = .int .i64 a) (h1 : σ 1 = .string name) (h : Both 11 12 #[.int .i64 a, .string name] (.tuple #[.int .u32 0, .int .i64 90])) : Knows Try.prog σ 11 [.sym 0, .sym 1] (.val (.tup [.i .u32 0, .i .i64 90])) :=
  h.1.knows (fun _ _ ha => args2 ha (fun _ h => by rw [h.un_sym, h0]) (fun _ h => by rw [h.un_sym, h1])) (fun _ => .tup _ _ (.cons _ _ _ _ (.i _ _) (.cons _ _ _ _ (.i _ _) .nil)))
theorem noA_in {σ : Nat → Value} {s : List UInt8} {a : Int} (h0 : σ 0 = .int .i64 a) (h : Both 11 12 #[.int .i64 a, .string ⟨s.toArray⟩] (.tuple #[.int .u32 0, .int .i64 90])) : Knows Try.prog σ 11 [.sym 0, .s s] (.val (.tup [.i .u32 0, .i .i64 90])) :=
  h.1.knows (fun _ _ ha => args2 ha (fun _ h => by rw [h.un_sym, h0]) (fun _ h => h.un_s)) (fun _ => .tup _ _ (.cons _ _ _ _ (.i _ _) (.cons _ _ _ _ (.i _ _) .nil)))
theorem allNil {σ : Nat → Value} {orc : Orc} {n : Nat} (horc : OrcOk Try.prog σ orc) {a : Int} (h0 : σ 0 = .int .i64 a) (h : ansK orc Ir.env n 20 [.sym 0] .nils True = True) : Ret Try.prog 20 #[.int .i64 a] (.slice none 0 0) :=
  (knows_ans horc Ir.envOk (by simp [eqL, eq1_y]) (of_eq_true h)).1.ret (args := #[.int .i64 a]) (.cons _ _ _ _ (h0 ▸ .sym 0) .nil) (fun _ h => by cases h; rfl)
theorem none_in {σ : Nat → Value} {a : Int} (h0 : σ 0 = .int .i64 a) (h : Ret Try.prog 20 #[.int .i64 a] (.slice none 0 0)) : Knows Try.prog σ 20 [.sym 0] (.val .nils) :=
  h.knows (fun _ _ ha => args1 ha (fun _ h => by rw [h.un_sym, h0])) (fun _ => .nils)
/-- on an architecture -/
theorem hasArch {n1 n3 n4 n5 : Nat} {a : Int} {l : List (List UInt8 × Int × Int)} {N : Nat} {c : List (Int × List UInt8)}
    (hNum : allK l (fun x q => ansK (atOrc fun _ => .bool) Ir.env n1 11 [.i .i64 a, .s x.1] (.tup [.i .u32 x.2.1, .i .i64 x.2.2]) (ansK (atOrc fun _ => .bool) Ir.env n1 12 [.i .i64 a, .s x.1] (.tup [.i .u32 x.2.1, .i .i64 x.2.2]) q)) = True)
    (hNu : ansK (atOrc strAt) Ir.env n1 11 [.i .i64 a, .sym 1] (.tup [.i .u32 0, .i .i64 90]) (ansK (atOrc strAt) Ir.env n1 12 [.i .i64 a, .sym 1] (.tup [.i .u32 0, .i .i64 90]) True) = True)
    (hr : (callK Ir.env (awp (atOrc fun _ => .bool) Ir.env n3) 13 [] hp0 (rowIs 1 40 rowN)) = True) (hA : (callK Ir.env (awp (atOrc fun _ => .bool) Ir.env n4) 20 [.i .i64 a] hp0 (rowIs 2 N (cells c))) = True)
    (hw : ∀ x ∈ names, Both 15 16 #[.string ⟨x.toArray⟩] (.bool true)) (hwU : ∀ name : ByteArray, (∀ x ∈ names, name ≠ ⟨x.toArray⟩) → (name.size : Int) ≤ 200 → Both 15 16 #[.string name] (.bool false))
    (hK : allK names (fun x q => yesK ((atOrc fun _ => .bool).calls (hasT a l N c)) Ir.env n5 6 [.s x, .i .i64 a] q) = True)
    (hU : yesK ((atOrc (hasAt names 0 200)).calls (hasU a N c)) Ir.env n5 6 [.sym 1, .i .i64 a] True = True)
    (name : ByteArray) (hs : (name.size : Int) ≤ 200) : YesK name a := by
  have hl := numsK hNum
  rcases named name with ⟨x, hx, rfl⟩ | hn
  · have ht : ∀ e ∈ hasT a l N c, Knows Try.prog (fun _ => Value.bool false) e.1 e.2.1 e.2.2 := by
      intro e he
      rcases List.mem_cons.1 he with rfl | he
      · exact fact_row (atOrc_ok bool0) Ir.envOk n4 (by simp [eqL, eq1_i]) hA
      · rcases List.mem_append.1 he with he | he
        · exact restT_ok (atOrc_ok bool0) hw hr e he
        · exact numT_ok hl e he
    have h : ∀ x ∈ names, YesK ⟨x.toArray⟩ a := allK_iff (fun x q hq => ⟨fun w => (yesK_run ((atOrc_ok bool0).calls ht) Ir.envOk hq).1 (.cons _ _ _ _ (.s _) (.cons _ _ _ _ (.i _ _) .nil)) w, (ansK_iff hq).2⟩) hK
    exact h x hx
  · have h0 : -9223372036854775808 ≤ (0 : Int) ∧ (0 : Int) ≤ 9223372036854775807 := by omega
    have ho : OrcOk Try.prog (sgK 0 name) (atOrc (hasAt names 0 200)) := atOrc_ok (sgK_ok h0 hn ⟨Int.natCast_nonneg _, hs⟩)
    have ht : ∀ e ∈ hasU a N c, Knows Try.prog (sgK 0 name) e.1 e.2.1 e.2.2 := by
      intro e he
      rcases List.mem_cons.1 he with rfl | he
      · exact fact_row (noAt_ok ho) Ir.envOk n4 (by simp [eqL, eq1_i]) hA
      · rcases List.mem_cons.1 he with rfl | he
        · exact unk_in rfl (hwU name hn hs)
        · rcases List.mem_cons.1 he with rfl | he
          · exact nob_in rfl (numsU hNu hn (by omega))
          · exact restT_ok ho hw hr e he
    exact fun w => (yesK_run (ho.calls ht) Ir.envOk (of_eq_true hU)).1 (.cons _ _ _ _ (.sym 1) (.cons _ _ _ _ (.i _ _) .nil)) w
/-- on none -/
theorem hasNone {n3 n5 : Nat} {a : Int} (ha : -9223372036854775808 ≤ a ∧ a ≤ 9223372036854775807) (hA : Ret Try.prog 20 #[.int .i64 a] (.slice none 0 0)) (hB : ∀ name : ByteArray, (name.size : Int) ≤ 200 → Both 11 12 #[.int .i64 a, .string name] (.tuple #[.int .u32 0, .int .i64 90]))
    (hl : ∀ x ∈ names, Both 11 12 #[.int .i64 a, .string ⟨x.toArray⟩] (.tuple #[.int .u32 0, .int .i64 90]))
    (hr : (callK Ir.env (awp (atOrc fun _ => .bool) Ir.env n3) 13 [] hp0 (rowIs 1 40 rowN)) = True)
    (hw : ∀ x ∈ names, Both 15 16 #[.string ⟨x.toArray⟩] (.bool true)) (hwU : ∀ name : ByteArray, (∀ x ∈ names, name ≠ ⟨x.toArray⟩) → (name.size : Int) ≤ 200 → Both 15 16 #[.string name] (.bool false))
    (hK : allK names (fun x q => yesK ((atOrc (hasAt [] 0 0)).calls outT) Ir.env n5 6 [.s x, .sym 0] q) = True)
    (hU : yesK ((atOrc (hasAt names 0 200)).calls outU) Ir.env n5 6 [.sym 1, .sym 0] True = True)
    (name : ByteArray) (hs : (name.size : Int) ≤ 200) : YesK name a := by
  rcases named name with ⟨x, hx, rfl⟩ | hn
  · have ho : OrcOk Try.prog (sgK a ByteArray.empty) (atOrc (hasAt [] 0 0)) := atOrc_ok (sgK_ok ha (by simp) (by decide))
    have ht : ∀ e ∈ outT, Knows Try.prog (sgK a ByteArray.empty) e.1 e.2.1 e.2.2 := by
      intro e he
      rcases List.mem_cons.1 he with rfl | he
      · exact none_in rfl hA
      · rcases List.mem_append.1 he with he | he
        · exact restT_ok ho hw hr e he
        · obtain ⟨y, hy, rfl⟩ := List.mem_map.1 he
          exact noA_in rfl (hl y hy)
    have h : ∀ x ∈ names, YesK ⟨x.toArray⟩ a := allK_iff (fun x q hq => ⟨fun w => (yesK_run (ho.calls ht) Ir.envOk hq).1 (.cons _ _ _ _ (.s _) (.cons _ _ _ _ (.sym 0) .nil)) w, (ansK_iff hq).2⟩) hK
    exact h x hx
  · have ho : OrcOk Try.prog (sgK a name) (atOrc (hasAt names 0 200)) := atOrc_ok (sgK_ok ha hn ⟨Int.natCast_nonneg _, hs⟩)
    have ht : ∀ e ∈ outU, Knows Try.prog (sgK a name) e.1 e.2.1 e.2.2 := by
      intro e he
      rcases List.mem_cons.1 he with rfl | he
      · exact none_in rfl hA
      · rcases List.mem_cons.1 he with rfl | he
        · exact unk_in rfl (hwU name hn hs)
        · rcases List.mem_cons.1 he with rfl | he
          · exact nobA_in rfl rfl (hB name hs)
          · exact restT_ok ho hw hr e he
    exact fun w => (yesK_run (ho.calls ht) Ir.envOk (of_eq_true hU)).1 (.cons _ _ _ _ (.sym 1) (.cons _ _ _ _ (.sym 0) .nil)) w
/-- too long -/
theorem hasLong {n : Nat} {a : Int} {name : ByteArray} (ha : -9223372036854775808 ≤ a ∧ a ≤ 9223372036854775807) (h1 : 201 ≤ (name.size : Int)) (h2 : (name.size : Int) ≤ 9223372036854775807)
    (h : yesK ((atOrc (hasAt [] 201 9223372036854775807)).calls [(19, [], .val (.b true))]) Ir.env n 6 [.sym 1, .sym 0] True = True) : YesK name a := by
  have ho : OrcOk Try.prog (sgK a name) (atOrc (hasAt [] 201 9223372036854775807)) := atOrc_ok (sgK_ok ha (by simp) ⟨h1, h2⟩)
  have ht : ∀ e ∈ ([(19, [], .val (.b true))] : List (Nat × List AV × Ans)), Knows Try.prog (sgK a name) e.1 e.2.1 e.2.2 := by
    intro e he
    obtain rfl := List.mem_singleton.1 he
    exact awakeR.knows (fun _ _ ha => args0 ha) (fun _ => .b _)
  exact fun w => (yesK_run (ho.calls ht) Ir.envOk (of_eq_true h)).1 (.cons _ _ _ _ (.sym 1) (.cons _ _ _ _ (.sym 0) .nil)) w
theorem unknown_all (name : ByteArray) (hn : ∀ x ∈ names, name ≠ ⟨x.toArray⟩) (hs : (name.size : Int) ≤ 200) : Both 15 16 #[.string name] (.bool false) := knwsU (atOrc_ok (sgS_ok hn (by omega))) knwU
theorem noneAny {n : Nat} {orc : Orc} {a : Int} (hat : ∀ name : ByteArray, (∀ x ∈ names, name ≠ ⟨x.toArray⟩) → (name.size : Int) ≤ 9223372036854775807 → OrcOk Try.prog (sgA a name 0) orc)
    (hK : ∀ x ∈ names, Both 11 12 #[.int .i64 a, .string ⟨x.toArray⟩] (.tuple #[.int .u32 0, .int .i64 90]))
    (hU : ansK orc Ir.env n 11 [.sym 0, .sym 1] (.tup [.i .u32 0, .i .i64 90]) (ansK orc Ir.env n 12 [.sym 0, .sym 1] (.tup [.i .u32 0, .i .i64 90]) True) = True)
    (name : ByteArray) (hs : (name.size : Int) ≤ 200) : Both 11 12 #[.int .i64 a, .string name] (.tuple #[.int .u32 0, .int .i64 90]) := by
  rcases named name with ⟨x, hx, rfl⟩ | hn
  · exact hK x hx
  · exact noneU (hat name hn (by omega)) hU
end Go.Proofs.Ytpggfccbfplphaa.Tab
namespace Go.Proofs.Ytpggfccbfplphaa.callsKnown
open Go.Ab Tab
theorem walk (s0 : ByteArray) (w0 : s0.size ≤ maxLen) (a1 : Int) (w1 : (Lit.int .i64 a1).wf = true) (w : World) :
    Calls Try.prog 6 #[.string s0, .int .i64 a1] w fun e w' => e = .returned (.bool true) ∧ ∀ may, w.keptBut w' may := by
  have hv : -9223372036854775808 ≤ a1 ∧ a1 ≤ 9223372036854775807 := by
    simp only [Lit.wf, Bool.and_eq_true, decide_eq_true_eq] at w1
    exact w1
  have hs : (s0.size : Int) ≤ 9223372036854775807 := by unfold maxLen at w0; omega
  by_cases hl : (s0.size : Int) ≤ 200
  · by_cases h1 : a1 < 0
    · exact hasNone hv (allNil (low_ok ⟨hv.1, h1⟩ _ empty_new (by decide)) rfl rowL) (noneAny (low_ok ⟨hv.1, h1⟩) (noneL ⟨hv.1, h1⟩) numUL) (noneL ⟨hv.1, h1⟩) rowNK known_all unknown_all outKn outU1 s0 hl w
    · by_cases h2 : 6 ≤ a1
      · exact hasNone hv (allNil (high_ok ⟨h2, hv.2⟩ _ empty_new (by decide)) rfl rowH) (noneAny (high_ok ⟨h2, hv.2⟩) (noneH ⟨h2, hv.2⟩) numUH) (noneH ⟨h2, hv.2⟩) rowNK known_all unknown_all outKn outU1 s0 hl w
      · have : a1 = 0 ∨ a1 = 1 ∨ a1 = 2 ∨ a1 = 3 ∨ a1 = 4 ∨ a1 = 5 := by omega
        rcases this with h | h | h | h | h | h <;> subst h
        · exact hasArch (a := 0) numK0 numU0 rowNK rowK0 known_all unknown_all hasK0 hasU0 s0 hl w
        · exact hasArch (a := 1) numK1 numU1 rowNK rowK1 known_all unknown_all hasK1 hasU1 s0 hl w
        · exact hasArch (a := 2) numK2 numU2 rowNK rowK2 known_all unknown_all hasK2 hasU2 s0 hl w
        · exact hasArch (a := 3) numK3 numU3 rowNK rowK3 known_all unknown_all hasK3 hasU3 s0 hl w
        · exact hasArch (a := 4) numK4 numU4 rowNK rowK4 known_all unknown_all hasK4 hasU4 s0 hl w
        · exact hasArch (a := 5) numK5 numU5 rowNK rowK5 known_all unknown_all hasK5 hasU5 s0 hl w
  · exact hasLong hv (by omega) hs hasL w
end Go.Proofs.Ytpggfccbfplphaa.callsKnown
