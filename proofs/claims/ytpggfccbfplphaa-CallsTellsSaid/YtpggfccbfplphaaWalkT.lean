/- The law CallsTells answers true. Condition: sizes and numbers are as their types allow. -/
import Derived.Test.YtpggfccbfplphaaRunT
import Derived.Test.YtpggfccbfplphaaFact
namespace Go.Proofs.Ytpggfccbfplphaa.callsTells
open Go.Ab Tab

theorem rI {a : Int} (w0 : (Lit.int .i64 a).wf = true) : -9223372036854775808 ≤ a ∧ a ≤ 9223372036854775807 := by
  simp only [Lit.wf, Bool.and_eq_true, decide_eq_true_eq] at w0
  exact w0
theorem rU {a : Int} (w0 : (Lit.int .u32 a).wf = true) : 0 ≤ a ∧ a ≤ 4294967295 := by
  simp only [Lit.wf, Bool.and_eq_true, decide_eq_true_eq] at w0
  exact w0
def sg (a nr x e : Int) (name s : ByteArray) (j : Nat) : Value := match j with
  | 0 => .int .i64 a | 1 => .string name | 2 => .int .i64 name.size | 3 => .int .u32 x | 4 => .int .i64 e | 5 => .int .u32 nr | 6 => .string s | 7 => .int .i64 s.size | _ => .bool false
theorem sg_ok {a nr x e lo hi : Int} {name s : ByteArray} (ha : -9223372036854775808 ≤ a ∧ a ≤ 9223372036854775807) (hr : 0 ≤ nr ∧ nr ≤ 4294967295) (hx : 0 ≤ x ∧ x ≤ 4294967295) (he : 0 ≤ e ∧ e ≤ 90) (hn : lo ≤ name.size ∧ (name.size : Int) ≤ hi) (hs : (s.size : Int) ≤ 9223372036854775807) :
    ∀ j, AtOk (sg a nr x e name s) j (telAt lo hi j)
  | 0 => ⟨a, rfl, ha.1, ha.2, (by intro m hm; cases hm)⟩
  | 1 => ⟨name, rfl, rfl, (by intro m hm; cases hm)⟩
  | 2 => ⟨name.size, rfl, hn.1, hn.2, (by intro m hm; cases hm)⟩
  | 3 => ⟨x, rfl, hx.1, hx.2, (by intro m hm; cases hm)⟩
  | 4 => ⟨e, rfl, he.1, he.2, (by intro m hm; cases hm)⟩
  | 5 => ⟨nr, rfl, hr.1, hr.2, (by intro m hm; cases hm)⟩
  | 6 => ⟨s, rfl, rfl, (by intro m hm; cases hm)⟩
  | 7 => ⟨s.size, rfl, Int.natCast_nonneg _, hs, (by intro m hm; cases hm)⟩
  | _ + 8 => ⟨false, rfl⟩
theorem tab_ok {a nr x e : Int} {name s : ByteArray} {b : Bool} (hN : Both 11 12 #[.int .i64 a, .string name] (.tuple #[.int .u32 x, .int .i64 e])) (hK : Both 15 16 #[.string name] (.bool b)) (hM : Both 17 18 #[.int .i64 a, .int .u32 nr] (.string s)) :
    ∀ t ∈ telTab b, Knows Try.prog (sg a nr x e name s) t.1 t.2.1 t.2.2 := by
  intro t ht
  simp only [telTab, List.mem_cons, List.not_mem_nil, or_false] at ht
  have tup : ∀ ρ, VR (sg a nr x e name s) ρ (.tup [.sym 3, .sym 4]) (.tuple #[.int .u32 x, .int .i64 e]) := fun ρ => .tup _ _ (.cons _ _ _ _ (.sym 3) (.cons _ _ _ _ (.sym 4) .nil))
  rcases ht with rfl | rfl | rfl | rfl | rfl | rfl | rfl
  · exact hN.1.knows (fun _ _ ha => args2 ha (fun _ h => h.un_sym) (fun _ h => h.un_sym)) tup
  · exact hN.2.knows (fun _ _ ha => args2 ha (fun _ h => h.un_sym) (fun _ h => h.un_sym)) tup
  · exact hK.1.knows (fun _ _ ha => args1 ha (fun _ h => h.un_sym)) (fun _ => .b _)
  · exact hK.2.knows (fun _ _ ha => args1 ha (fun _ h => h.un_sym)) (fun _ => .b _)
  · exact hM.1.knows (fun _ _ ha => args2 ha (fun _ h => h.un_sym) (fun _ h => h.un_sym)) (fun _ => .sym 6)
  · exact hM.2.knows (fun _ _ ha => args2 ha (fun _ h => h.un_sym) (fun _ h => h.un_sym)) (fun _ => .sym 6)
  · exact awakeR.knows (fun _ _ ha => args0 ha) (fun _ => .b _)
theorem run {n : Nat} {orc : Orc} {a nr x e : Int} {name s : ByteArray} (horc : OrcOk Try.prog (sg a nr x e name s) orc) (h : yesK orc Ir.env n 3 [.sym 0, .sym 1, .sym 5] True = True) (w : World) :
    Calls Try.prog 3 #[.int .i64 a, .string name, .int .u32 nr] w fun e w' => e = .returned (.bool true) ∧ ∀ may, w.keptBut w' may :=
  (yesK_run horc Ir.envOk (of_eq_true h)).1 (.cons _ _ _ _ (.sym 0) (.cons _ _ _ _ (.sym 1) (.cons _ _ _ _ (.sym 5) .nil))) w
theorem walk (a0 : Int) (w0 : (Lit.int .i64 a0).wf = true) (s1 : ByteArray) (w1 : s1.size ≤ maxLen) (a2 : Int) (w2 : (Lit.int .u32 a2).wf = true) (w : World) :
    Calls Try.prog 3 #[.int .i64 a0, .string s1, .int .u32 a2] w fun e w' => e = .returned (.bool true) ∧ ∀ may, w.keptBut w' may := by
  have hs : (s1.size : Int) ≤ 9223372036854775807 := by unfold maxLen at w1; omega
  obtain ⟨x, e, hx, he, hN⟩ := numPair (rI w0) hs
  obtain ⟨s, h6, hM⟩ := namPair (rI w0) (rU w2)
  obtain ⟨b, hK⟩ := knwPair hs
  by_cases hl : (s1.size : Int) ≤ 200
  · have ho := (atOrc_ok (P := Try.prog) (sg_ok (lo := 0) (rI w0) (rU w2) hx he ⟨Int.natCast_nonneg _, hl⟩ h6)).calls (tab_ok hN hK hM)
    cases b
    · exact run ho telF w
    · exact run ho telT w
  · exact run (atOrc_ok (sg_ok (rI w0) (rU w2) hx he ⟨by omega, hs⟩ h6)) telL w
end Go.Proofs.Ytpggfccbfplphaa.callsTells
