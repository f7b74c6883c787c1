/- Part 9 of the abstract machine and of the functions' walks. Conditions: with each theorem. -/
import Derived.Test.YtdmjpfekglajoaaK8
import Derived.KernelRfl
set_option linter.unusedSimpArgs false
set_option linter.unusedVariables false
set_option linter.unnecessarySimpa false
section
/- FoldKeeps, FoldTwice: what the laws answer. Condition: the functions' texts are these. -/
namespace Go.Kc
variable {P : Program} {f : Nat}
def cGreat16 (P : Program) (f : Nat) : Prop := ∀ l : GList, Pure P f [.agg (cList l)] (.b (great16 l))
theorem great16_len {l : GList} (h : great16 l = false) : l.calls.length ≤ 100 := by
  unfold great16 at h; have := of_decide_eq_false h; omega
def ir_vestibulelaw16_FoldKeeps (f_vestibulelaw16_Great f_fold_May f_vestibulelaw16_awake f_fold_Step f_values_Words f_values_Turned : Nat) : IFn := ⟨[.tmp 6],
  .seq (.reg false [⟨(some 3), .op (.box (.t 0)), none⟩,
    ⟨(some 6), .op (.mov (.c (.b false))), none⟩])
  (.seq (.seq (.reg false [⟨(some 12), .op (.loadN 2 (.t 3)), none⟩,
    ⟨(some 13), .callF f_vestibulelaw16_Great [(.t 12)], none⟩,
    ⟨(some 14), .op (.mov (.t 13)), none⟩,
    ⟨(some 15), .op (.mov (.t 1)), (some (14, false))⟩,
    ⟨(some 16), .op (.len true (.t 15)), (some (14, false))⟩,
    ⟨(some 17), .op (.bin .gtr (.t 16) (.c (.i .i64 1000))), (some (14, false))⟩,
    ⟨(some 18), .op (.pick (.t 14) (.c (.b true)) (.t 17)), none⟩,
    ⟨(some 19), .op (.mov (.t 18)), none⟩,
    ⟨(some 20), .op (.loadN 2 (.t 3)), (some (19, false))⟩,
    ⟨(some 21), .callF f_fold_May [(.t 20)], (some (19, false))⟩,
    ⟨(some 22), .op (.un .not (.t 21)), (some (19, false))⟩,
    ⟨(some 23), .op (.pick (.t 19) (.c (.b true)) (.t 22)), none⟩])
  (.cond (.t 23) (.seq (.reg false [⟨(some 24), .callF f_vestibulelaw16_awake [], none⟩,
    ⟨(some 6), .op (.mov (.t 24)), none⟩])
  (.ret)) (.skip)))
  (.seq (.reg false [⟨(some 26), .op (.loadN 2 (.t 3)), none⟩,
    ⟨(some 27), .op (.mov (.t 1)), none⟩,
    ⟨(some 28), .op (.mov (.t 2)), none⟩,
    ⟨(some 29), .callF f_fold_Step [(.t 26), (.t 27), (.t 28)], none⟩,
    ⟨(some 25), .op (.mov (.t 29)), none⟩,
    ⟨(some 30), .op (.ext (.t 25) 0), none⟩,
    ⟨(some 31), .op (.ext (.t 25) 1), none⟩,
    ⟨(some 7), .op (.alloc [.i .u8 0, .nils]), none⟩,
    ⟨none, .op (.store 2 (.t 7) (.t 30)), none⟩,
    ⟨(some 8), .op (.mov (.t 31)), none⟩])
  (.seq (.seq (.reg false [⟨(some 32), .op (.loadN 2 (.t 7)), none⟩,
    ⟨(some 33), .callF f_fold_May [(.t 32)], none⟩,
    ⟨(some 34), .op (.un .not (.t 33)), none⟩])
  (.cond (.t 34) (.seq (.reg false [⟨(some 6), .op (.mov (.c (.b false))), none⟩])
  (.ret)) (.skip)))
  (.seq (.seq (.reg false [⟨(some 35), .op (.mov (.t 1)), none⟩,
    ⟨(some 36), .callF f_values_Words [(.t 35)], none⟩,
    ⟨(some 37), .op (.len false (.t 36)), none⟩,
    ⟨(some 38), .op (.bin .eql (.t 37) (.c (.i .i64 0))), none⟩])
  (.cond (.t 38) (.seq (.reg false [⟨(some 39), .op (.fAddr 0 (.t 7)), none⟩,
    ⟨(some 40), .op (.load1 (.t 39)), none⟩,
    ⟨(some 41), .op (.bin .eql (.t 40) (.c (.i .u8 0))), none⟩,
    ⟨(some 42), .op (.mov (.t 41)), none⟩,
    ⟨(some 43), .op (.fAddr 1 (.t 7)), (some (42, true))⟩,
    ⟨(some 44), .op (.load1 (.t 43)), (some (42, true))⟩,
    ⟨(some 45), .op (.len false (.t 44)), (some (42, true))⟩,
    ⟨(some 46), .op (.bin .eql (.t 45) (.c (.i .i64 0))), (some (42, true))⟩,
    ⟨(some 47), .op (.pick (.t 42) (.t 46) (.c (.b false))), none⟩,
    ⟨(some 48), .op (.mov (.t 47)), none⟩,
    ⟨(some 49), .callF f_vestibulelaw16_awake [], (some (48, true))⟩,
    ⟨(some 50), .op (.pick (.t 48) (.t 49) (.c (.b false))), none⟩,
    ⟨(some 6), .op (.mov (.t 50)), none⟩])
  (.ret)) (.skip)))
  (.seq (.reg false [⟨(some 52), .op (.mov (.t 1)), none⟩,
    ⟨(some 53), .callF f_values_Turned [(.t 52)], none⟩,
    ⟨(some 51), .op (.mov (.t 53)), none⟩,
    ⟨(some 54), .op (.ext (.t 51) 0), none⟩,
    ⟨(some 55), .op (.ext (.t 51) 1), none⟩,
    ⟨(some 9), .op (.mov (.t 54)), none⟩,
    ⟨(some 10), .op (.mov (.t 55)), none⟩])
  (.seq (.reg false [⟨(some 56), .op (.fAddr 0 (.t 3)), none⟩,
    ⟨(some 57), .op (.load1 (.t 56)), none⟩,
    ⟨(some 11), .op (.mov (.t 57)), none⟩])
  (.seq (.seq (.reg false [⟨(some 58), .op (.mov (.t 11)), none⟩,
    ⟨(some 59), .op (.bin .eql (.t 58) (.c (.i .u8 0))), none⟩])
  (.cond (.t 59) (.seq (.reg false [⟨(some 11), .op (.mov (.c (.i .u8 1))), none⟩])
  (.seq (.reg false [⟨(some 60), .op (.mov (.t 10)), none⟩])
  (.cond (.t 60) (.reg false [⟨(some 11), .op (.mov (.c (.i .u8 2))), none⟩]) (.skip)))) (.skip)))
  (.seq (.reg false [⟨(some 61), .op (.fAddr 0 (.t 7)), none⟩,
    ⟨(some 62), .op (.load1 (.t 61)), none⟩,
    ⟨(some 63), .op (.mov (.t 11)), none⟩,
    ⟨(some 64), .op (.bin .eql (.t 62) (.t 63)), none⟩,
    ⟨(some 65), .op (.mov (.t 64)), none⟩,
    ⟨(some 66), .callF f_vestibulelaw16_awake [], (some (65, true))⟩,
    ⟨(some 67), .op (.pick (.t 65) (.t 66) (.c (.b false))), none⟩,
    ⟨(some 6), .op (.mov (.t 67)), none⟩])
  (.ret)))))))))⟩
theorem foldKeeps {g1 g2 g3 g4 g5 g6 : Nat} {E : List UInt8 → List (List UInt8) × Int} (hc : chkFn P f (ir_vestibulelaw16_FoldKeeps g1 g2 g3 g4 g5 g6) = true) (hE : ExpOk E) (h1 : cGreat16 P g1) (h2 : cMay P g2) (h3 : Pure P g3 [] (.b true)) (h4 : cStep E P g4) (h5 : cWords P g5) (h6 : cTurned P g6)
    (l : GList) (v : List UInt8) (fl : Bool) (hm0 : 0 ≤ l.mode) : Pure P f [.agg (cList l), .s v, .b fl] (.b true) := by
  refine Pure.mk hc rfl ?_
  simp only [ir_vestibulelaw16_FoldKeeps, cList, argsT, H0, mkT, mkH, trL, List.length_cons, List.length_nil, Nat.reduceAdd, Nat.zero_add]
  simp only [↓vA, ↓vE, ↓vO, ↓vB, ↓vF, ↓vM, ↓vR, ↓vX, cvF_pc, vP, shb, shv, shvs, she_nil, she_cons, vC, vQ, not_false_eq_true, Nat.reduceEqDiff, ↓reduceIte, eq_self, Nat.reduceAdd, Nat.reduceMul, Nat.reduceSub, Nat.reduceLeDiff, Nat.reduceLT, defd, cellsOf, wr, packR, Int.reduceLE, Int.reduceLT, Int.reduceEq, Int.cast_ofNat_Int, Int.reduceToNat]
  refine (h1 l).sc ?_
  cases hg : great16 l with
  | true =>
    simp only [↓vA, ↓vE, ↓vO, ↓vB, ↓vF, ↓vM, ↓vR, ↓vX, cvF_pc, vP, shb, shv, shvs, she_nil, she_cons, vC, vQ, not_false_eq_true, Nat.reduceEqDiff, ↓reduceIte, eq_self, Nat.reduceAdd, Nat.reduceMul, Nat.reduceSub, Nat.reduceLeDiff, Nat.reduceLT, defd, cellsOf, wr, packR, Int.reduceLE, Int.reduceLT, Int.reduceEq, Int.cast_ofNat_Int, Int.reduceToNat]
    refine h3.sc ?_
    simp only [↓vA, ↓vE, ↓vO, ↓vB, ↓vF, ↓vM, ↓vR, ↓vX, cvF_pc, vP, shb, shv, shvs, she_nil, she_cons, vC, vQ, not_false_eq_true, Nat.reduceEqDiff, ↓reduceIte, eq_self, Nat.reduceAdd, Nat.reduceMul, Nat.reduceSub, Nat.reduceLeDiff, Nat.reduceLT, defd, cellsOf, wr, packR, Int.reduceLE, Int.reduceLT, Int.reduceEq, Int.cast_ofNat_Int, Int.reduceToNat]
    simp [vZ]
  | false =>
    have hl := great16_len hg
    by_cases hv : (1000 : Int) < v.length
    · simp only [↓vA, ↓vE, ↓vO, ↓vB, ↓vF, ↓vM, ↓vR, ↓vX, cvF_pc, vP, shb, shv, shvs, she_nil, she_cons, vC, vQ, not_false_eq_true, Nat.reduceEqDiff, ↓reduceIte, eq_self, Nat.reduceAdd, Nat.reduceMul, Nat.reduceSub, Nat.reduceLeDiff, Nat.reduceLT, defd, cellsOf, wr, packR, Int.reduceLE, Int.reduceLT, Int.reduceEq, Int.cast_ofNat_Int, Int.reduceToNat, hv]
      refine h3.sc ?_
      simp only [↓vA, ↓vE, ↓vO, ↓vB, ↓vF, ↓vM, ↓vR, ↓vX, cvF_pc, vP, shb, shv, shvs, she_nil, she_cons, vC, vQ, not_false_eq_true, Nat.reduceEqDiff, ↓reduceIte, eq_self, Nat.reduceAdd, Nat.reduceMul, Nat.reduceSub, Nat.reduceLeDiff, Nat.reduceLT, defd, cellsOf, wr, packR, Int.reduceLE, Int.reduceLT, Int.reduceEq, Int.cast_ofNat_Int, Int.reduceToNat]
      simp [vZ]
    simp only [↓vA, ↓vE, ↓vO, ↓vB, ↓vF, ↓vM, ↓vR, ↓vX, cvF_pc, vP, shb, shv, shvs, she_nil, she_cons, vC, vQ, not_false_eq_true, Nat.reduceEqDiff, ↓reduceIte, eq_self, Nat.reduceAdd, Nat.reduceMul, Nat.reduceSub, Nat.reduceLeDiff, Nat.reduceLT, defd, cellsOf, wr, packR, Int.reduceLE, Int.reduceLT, Int.reduceEq, Int.cast_ofNat_Int, Int.reduceToNat, hv]
    refine (h2 l (by omega)).sc ?_
    cases hM : mayM l with
    | false =>
      simp only [↓vA, ↓vE, ↓vO, ↓vB, ↓vF, ↓vM, ↓vR, ↓vX, cvF_pc, vP, shb, shv, shvs, she_nil, she_cons, vC, vQ, not_false_eq_true, Nat.reduceEqDiff, ↓reduceIte, eq_self, Nat.reduceAdd, Nat.reduceMul, Nat.reduceSub, Nat.reduceLeDiff, Nat.reduceLT, defd, cellsOf, wr, packR, Int.reduceLE, Int.reduceLT, Int.reduceEq, Int.cast_ofNat_Int, Int.reduceToNat]
      refine h3.sc ?_
      simp only [↓vA, ↓vE, ↓vO, ↓vB, ↓vF, ↓vM, ↓vR, ↓vX, cvF_pc, vP, shb, shv, shvs, she_nil, she_cons, vC, vQ, not_false_eq_true, Nat.reduceEqDiff, ↓reduceIte, eq_self, Nat.reduceAdd, Nat.reduceMul, Nat.reduceSub, Nat.reduceLeDiff, Nat.reduceLT, defd, cellsOf, wr, packR, Int.reduceLE, Int.reduceLT, Int.reduceEq, Int.cast_ofNat_Int, Int.reduceToNat]
      simp [vZ]
    | true =>
      have k1 := stepM_may hE hM v fl
      have k2 := may_len k1
      simp only [↓vA, ↓vE, ↓vO, ↓vB, ↓vF, ↓vM, ↓vR, ↓vX, cvF_pc, vP, shb, shv, shvs, she_nil, she_cons, vC, vQ, not_false_eq_true, Nat.reduceEqDiff, ↓reduceIte, eq_self, Nat.reduceAdd, Nat.reduceMul, Nat.reduceSub, Nat.reduceLeDiff, Nat.reduceLT, defd, cellsOf, wr, packR, Int.reduceLE, Int.reduceLT, Int.reduceEq, Int.cast_ofNat_Int, Int.reduceToNat]
      refine (h4 l v fl (by omega) (by omega) hm0).sc ?_
      simp only [↓vA, ↓vE, ↓vO, ↓vB, ↓vF, ↓vM, ↓vR, ↓vX, cvF_pc, vP, shb, shv, shvs, she_nil, she_cons, vC, vQ, not_false_eq_true, Nat.reduceEqDiff, ↓reduceIte, eq_self, Nat.reduceAdd, Nat.reduceMul, Nat.reduceSub, Nat.reduceLeDiff, Nat.reduceLT, defd, cellsOf, wr, packR, Int.reduceLE, Int.reduceLT, Int.reduceEq, Int.cast_ofNat_Int, Int.reduceToNat, cList]
      refine (h2 _ (by omega)).sc ?_
      rw [k1]
      simp only [↓vA, ↓vE, ↓vO, ↓vB, ↓vF, ↓vM, ↓vR, ↓vX, cvF_pc, vP, shb, shv, shvs, she_nil, she_cons, vC, vQ, not_false_eq_true, Nat.reduceEqDiff, ↓reduceIte, eq_self, Nat.reduceAdd, Nat.reduceMul, Nat.reduceSub, Nat.reduceLeDiff, Nat.reduceLT, defd, cellsOf, wr, packR, Int.reduceLE, Int.reduceLT, Int.reduceEq, Int.cast_ofNat_Int, Int.reduceToNat]
      refine (h5 v (by omega)).sc ?_
      by_cases hw : words v = []
      · simp only [↓vA, ↓vE, ↓vO, ↓vB, ↓vF, ↓vM, ↓vR, ↓vX, cvF_pc, vP, shb, shv, shvs, she_nil, she_cons, vC, vQ, not_false_eq_true, Nat.reduceEqDiff, ↓reduceIte, eq_self, Nat.reduceAdd, Nat.reduceMul, Nat.reduceSub, Nat.reduceLeDiff, Nat.reduceLT, defd, cellsOf, wr, packR, Int.reduceLE, Int.reduceLT, Int.reduceEq, Int.cast_ofNat_Int, Int.reduceToNat, stepM_none hM fl hw, hw, List.length_nil]
        refine h3.sc ?_
        simp only [↓vA, ↓vE, ↓vO, ↓vB, ↓vF, ↓vM, ↓vR, ↓vX, cvF_pc, vP, shb, shv, shvs, she_nil, she_cons, vC, vQ, not_false_eq_true, Nat.reduceEqDiff, ↓reduceIte, eq_self, Nat.reduceAdd, Nat.reduceMul, Nat.reduceSub, Nat.reduceLeDiff, Nat.reduceLT, defd, cellsOf, wr, packR, Int.reduceLE, Int.reduceLT, Int.reduceEq, Int.cast_ofNat_Int, Int.reduceToNat]
        simp [vZ]
      · have hwn : ¬ ((words v).length : Int) = 0 := by have := List.length_pos_iff.2 hw; omega
        have k3 := stepM_mode (E := E) hM fl hw
        simp only [↓vA, ↓vE, ↓vO, ↓vB, ↓vF, ↓vM, ↓vR, ↓vX, cvF_pc, vP, shb, shv, shvs, she_nil, she_cons, vC, vQ, not_false_eq_true, Nat.reduceEqDiff, ↓reduceIte, eq_self, Nat.reduceAdd, Nat.reduceMul, Nat.reduceSub, Nat.reduceLeDiff, Nat.reduceLT, defd, cellsOf, wr, packR, Int.reduceLE, Int.reduceLT, Int.reduceEq, Int.cast_ofNat_Int, Int.reduceToNat, hwn]
        refine (h6 v).sc ?_
        rw [cut_turn]
        by_cases h0 : l.mode = 0
        · cases ht : (turnP v).2 with
          | true =>
            have e : modeM 0 (turnP v).2 = 2 := by rw [ht]; rfl
            simp only [↓vA, ↓vE, ↓vO, ↓vB, ↓vF, ↓vM, ↓vR, ↓vX, cvF_pc, vP, shb, shv, shvs, she_nil, she_cons, vC, vQ, not_false_eq_true, Nat.reduceEqDiff, ↓reduceIte, eq_self, Nat.reduceAdd, Nat.reduceMul, Nat.reduceSub, Nat.reduceLeDiff, Nat.reduceLT, defd, cellsOf, wr, packR, Int.reduceLE, Int.reduceLT, Int.reduceEq, Int.cast_ofNat_Int, Int.reduceToNat, h0, k3, e]
            refine h3.sc ?_
            simp only [↓vA, ↓vE, ↓vO, ↓vB, ↓vF, ↓vM, ↓vR, ↓vX, cvF_pc, vP, shb, shv, shvs, she_nil, she_cons, vC, vQ, not_false_eq_true, Nat.reduceEqDiff, ↓reduceIte, eq_self, Nat.reduceAdd, Nat.reduceMul, Nat.reduceSub, Nat.reduceLeDiff, Nat.reduceLT, defd, cellsOf, wr, packR, Int.reduceLE, Int.reduceLT, Int.reduceEq, Int.cast_ofNat_Int, Int.reduceToNat]
            simp [vZ]
          | false =>
            have e : modeM 0 (turnP v).2 = 1 := by rw [ht]; rfl
            simp only [↓vA, ↓vE, ↓vO, ↓vB, ↓vF, ↓vM, ↓vR, ↓vX, cvF_pc, vP, shb, shv, shvs, she_nil, she_cons, vC, vQ, not_false_eq_true, Nat.reduceEqDiff, ↓reduceIte, eq_self, Nat.reduceAdd, Nat.reduceMul, Nat.reduceSub, Nat.reduceLeDiff, Nat.reduceLT, defd, cellsOf, wr, packR, Int.reduceLE, Int.reduceLT, Int.reduceEq, Int.cast_ofNat_Int, Int.reduceToNat, h0, k3, e]
            refine h3.sc ?_
            simp only [↓vA, ↓vE, ↓vO, ↓vB, ↓vF, ↓vM, ↓vR, ↓vX, cvF_pc, vP, shb, shv, shvs, she_nil, she_cons, vC, vQ, not_false_eq_true, Nat.reduceEqDiff, ↓reduceIte, eq_self, Nat.reduceAdd, Nat.reduceMul, Nat.reduceSub, Nat.reduceLeDiff, Nat.reduceLT, defd, cellsOf, wr, packR, Int.reduceLE, Int.reduceLT, Int.reduceEq, Int.cast_ofNat_Int, Int.reduceToNat]
            simp [vZ]
        · have e : modeM l.mode (turnP v).2 = l.mode := if_neg h0
          simp only [↓vA, ↓vE, ↓vO, ↓vB, ↓vF, ↓vM, ↓vR, ↓vX, cvF_pc, vP, shb, shv, shvs, she_nil, she_cons, vC, vQ, not_false_eq_true, Nat.reduceEqDiff, ↓reduceIte, eq_self, Nat.reduceAdd, Nat.reduceMul, Nat.reduceSub, Nat.reduceLeDiff, Nat.reduceLT, defd, cellsOf, wr, packR, Int.reduceLE, Int.reduceLT, Int.reduceEq, Int.cast_ofNat_Int, Int.reduceToNat, h0, k3, e]
          refine h3.sc ?_
          simp only [↓vA, ↓vE, ↓vO, ↓vB, ↓vF, ↓vM, ↓vR, ↓vX, cvF_pc, vP, shb, shv, shvs, she_nil, she_cons, vC, vQ, not_false_eq_true, Nat.reduceEqDiff, ↓reduceIte, eq_self, Nat.reduceAdd, Nat.reduceMul, Nat.reduceSub, Nat.reduceLeDiff, Nat.reduceLT, defd, cellsOf, wr, packR, Int.reduceLE, Int.reduceLT, Int.reduceEq, Int.cast_ofNat_Int, Int.reduceToNat]
          simp [vZ]
def ir_vestibulelaw16_FoldTwice (f_vestibulelaw16_Great f_fold_May f_values_Words f_vestibulelaw16_awake f_fold_Step f_vestibulelaw13_SameNotes : Nat) : IFn := ⟨[.tmp 6],
  .seq (.reg false [⟨(some 3), .op (.box (.t 0)), none⟩,
    ⟨(some 6), .op (.mov (.c (.b false))), none⟩])
  (.seq (.seq (.reg false [⟨(some 12), .op (.loadN 2 (.t 3)), none⟩,
    ⟨(some 13), .callF f_vestibulelaw16_Great [(.t 12)], none⟩,
    ⟨(some 14), .op (.mov (.t 13)), none⟩,
    ⟨(some 15), .op (.mov (.t 1)), (some (14, false))⟩,
    ⟨(some 16), .op (.len true (.t 15)), (some (14, false))⟩,
    ⟨(some 17), .op (.bin .gtr (.t 16) (.c (.i .i64 1000))), (some (14, false))⟩,
    ⟨(some 18), .op (.pick (.t 14) (.c (.b true)) (.t 17)), none⟩,
    ⟨(some 19), .op (.mov (.t 18)), none⟩,
    ⟨(some 20), .op (.loadN 2 (.t 3)), (some (19, false))⟩,
    ⟨(some 21), .callF f_fold_May [(.t 20)], (some (19, false))⟩,
    ⟨(some 22), .op (.un .not (.t 21)), (some (19, false))⟩,
    ⟨(some 23), .op (.pick (.t 19) (.c (.b true)) (.t 22)), none⟩,
    ⟨(some 24), .op (.mov (.t 23)), none⟩,
    ⟨(some 25), .op (.mov (.t 1)), (some (24, false))⟩,
    ⟨(some 26), .callF f_values_Words [(.t 25)], (some (24, false))⟩,
    ⟨(some 27), .op (.len false (.t 26)), (some (24, false))⟩,
    ⟨(some 28), .op (.bin .eql (.t 27) (.c (.i .i64 0))), (some (24, false))⟩,
    ⟨(some 29), .op (.pick (.t 24) (.c (.b true)) (.t 28)), none⟩])
  (.cond (.t 29) (.seq (.reg false [⟨(some 30), .callF f_vestibulelaw16_awake [], none⟩,
    ⟨(some 6), .op (.mov (.t 30)), none⟩])
  (.ret)) (.skip)))
  (.seq (.reg false [⟨(some 32), .op (.loadN 2 (.t 3)), none⟩,
    ⟨(some 33), .op (.mov (.t 1)), none⟩,
    ⟨(some 34), .op (.mov (.t 2)), none⟩,
    ⟨(some 35), .callF f_fold_Step [(.t 32), (.t 33), (.t 34)], none⟩,
    ⟨(some 31), .op (.mov (.t 35)), none⟩,
    ⟨(some 36), .op (.ext (.t 31) 0), none⟩,
    ⟨(some 37), .op (.ext (.t 31) 1), none⟩,
    ⟨(some 7), .op (.alloc [.i .u8 0, .nils]), none⟩,
    ⟨none, .op (.store 2 (.t 7) (.t 36)), none⟩,
    ⟨(some 8), .op (.mov (.t 37)), none⟩])
  (.seq (.reg false [⟨(some 39), .op (.loadN 2 (.t 7)), none⟩,
    ⟨(some 40), .op (.mov (.t 1)), none⟩,
    ⟨(some 41), .op (.mov (.t 2)), none⟩,
    ⟨(some 42), .callF f_fold_Step [(.t 39), (.t 40), (.t 41)], none⟩,
    ⟨(some 38), .op (.mov (.t 42)), none⟩,
    ⟨(some 43), .op (.ext (.t 38) 0), none⟩,
    ⟨(some 44), .op (.ext (.t 38) 1), none⟩,
    ⟨(some 9), .op (.alloc [.i .u8 0, .nils]), none⟩,
    ⟨none, .op (.store 2 (.t 9) (.t 43)), none⟩,
    ⟨(some 10), .op (.mov (.t 44)), none⟩])
  (.seq (.seq (.reg false [⟨(some 45), .op (.fAddr 0 (.t 7)), none⟩,
    ⟨(some 46), .op (.load1 (.t 45)), none⟩,
    ⟨(some 47), .op (.fAddr 0 (.t 9)), none⟩,
    ⟨(some 48), .op (.load1 (.t 47)), none⟩,
    ⟨(some 49), .op (.bin .neq (.t 46) (.t 48)), none⟩,
    ⟨(some 50), .op (.mov (.t 49)), none⟩,
    ⟨(some 51), .op (.fAddr 1 (.t 7)), (some (50, false))⟩,
    ⟨(some 52), .op (.load1 (.t 51)), (some (50, false))⟩,
    ⟨(some 53), .op (.len false (.t 52)), (some (50, false))⟩,
    ⟨(some 54), .op (.fAddr 1 (.t 9)), (some (50, false))⟩,
    ⟨(some 55), .op (.load1 (.t 54)), (some (50, false))⟩,
    ⟨(some 56), .op (.len false (.t 55)), (some (50, false))⟩,
    ⟨(some 57), .op (.bin .neq (.t 53) (.t 56)), (some (50, false))⟩,
    ⟨(some 58), .op (.pick (.t 50) (.c (.b true)) (.t 57)), none⟩,
    ⟨(some 59), .op (.mov (.t 58)), none⟩,
    ⟨(some 60), .op (.mov (.t 8)), (some (59, false))⟩,
    ⟨(some 61), .op (.mov (.t 10)), (some (59, false))⟩,
    ⟨(some 62), .callF f_vestibulelaw13_SameNotes [(.t 60), (.t 61)], (some (59, false))⟩,
    ⟨(some 63), .op (.un .not (.t 62)), (some (59, false))⟩,
    ⟨(some 64), .op (.pick (.t 59) (.c (.b true)) (.t 63)), none⟩])
  (.cond (.t 64) (.seq (.reg false [⟨(some 6), .op (.mov (.c (.b false))), none⟩])
  (.ret)) (.skip)))
  (.seq (.seq (.reg false [⟨(some 11), .op (.mov (.c (.i .i64 0))), none⟩])
  (.blk 0 (.loop (.seq (.seq (.reg false [⟨(some 65), .op (.mov (.t 11)), none⟩,
    ⟨(some 66), .op (.fAddr 1 (.t 7)), none⟩,
    ⟨(some 67), .op (.load1 (.t 66)), none⟩,
    ⟨(some 68), .op (.len false (.t 67)), none⟩,
    ⟨(some 69), .op (.bin .lss (.t 65) (.t 68)), none⟩])
  (.cond (.t 69) (.skip) (.exit 0)))
  (.seq (.blk 1 (.seq (.reg true [⟨(some 72), .op (.fAddr 1 (.t 7)), none⟩,
    ⟨(some 73), .op (.load1 (.t 72)), none⟩,
    ⟨(some 74), .op (.mov (.t 11)), none⟩,
    ⟨(some 75), .op (.iAddrS 2 (.t 73) (.t 74)), none⟩,
    ⟨(some 76), .op (.loadN 2 (.t 75)), none⟩,
    ⟨(some 77), .op (.fAddr 1 (.t 9)), none⟩,
    ⟨(some 78), .op (.load1 (.t 77)), none⟩,
    ⟨(some 79), .op (.mov (.t 11)), none⟩,
    ⟨(some 80), .op (.iAddrS 2 (.t 78) (.t 79)), none⟩,
    ⟨(some 81), .op (.loadN 2 (.t 80)), none⟩,
    ⟨(some 82), .op (.eqA true [.s, .i] (.t 76) (.t 81)), none⟩])
  (.cond (.t 82) (.seq (.reg false [⟨(some 6), .op (.mov (.c (.b false))), none⟩])
  (.ret)) (.skip))))
  (.reg false [⟨(some 70), .op (.mov (.t 11)), none⟩,
    ⟨(some 71), .op (.bin .add (.t 70) (.c (.i .i64 1))), none⟩,
    ⟨(some 11), .op (.mov (.t 71)), none⟩]))))))
  (.seq (.reg false [⟨(some 83), .callF f_vestibulelaw16_awake [], none⟩,
    ⟨(some 6), .op (.mov (.t 83)), none⟩])
  (.ret)))))))⟩
def cSame13 (P : Program) (f : Nat) : Prop := ∀ l : List GNote, l.length ≤ 100000 → Pure P f [.fz l.length (rN l), .fz l.length (rN l)] (.b true)
theorem foldTwice {g1 g2 g3 g4 g5 g6 : Nat} {E : List UInt8 → List (List UInt8) × Int} (hc : chkFn P f (ir_vestibulelaw16_FoldTwice g1 g2 g3 g4 g5 g6) = true) (hE : ExpOk E) (h1 : cGreat16 P g1) (h2 : cMay P g2) (h3 : cWords P g3) (h4 : Pure P g4 [] (.b true)) (h5 : cStep E P g5) (h6 : cSame13 P g6)
    (l : GList) (v : List UInt8) (fl : Bool) (hm0 : 0 ≤ l.mode) : Pure P f [.agg (cList l), .s v, .b fl] (.b true) := by
  refine Pure.mk hc rfl ?_
  simp only [ir_vestibulelaw16_FoldTwice, cList, argsT, H0, mkT, mkH, trL, List.length_cons, List.length_nil, Nat.reduceAdd, Nat.zero_add]
  simp only [↓vA, ↓vE, ↓vO, ↓vB, ↓vF, ↓vM, ↓vR, ↓vX, cvF_pc, vP, shb, shv, shvs, she_nil, she_cons, vC, vQ, not_false_eq_true, Nat.reduceEqDiff, ↓reduceIte, eq_self, Nat.reduceAdd, Nat.reduceMul, Nat.reduceSub, Nat.reduceLeDiff, Nat.reduceLT, defd, cellsOf, wr, packR, Int.reduceLE, Int.reduceLT, Int.reduceEq, Int.cast_ofNat_Int, Int.reduceToNat]
  refine (h1 l).sc ?_
  cases hg : great16 l with
  | true =>
    simp only [↓vA, ↓vE, ↓vO, ↓vB, ↓vF, ↓vM, ↓vR, ↓vX, cvF_pc, vP, shb, shv, shvs, she_nil, she_cons, vC, vQ, not_false_eq_true, Nat.reduceEqDiff, ↓reduceIte, eq_self, Nat.reduceAdd, Nat.reduceMul, Nat.reduceSub, Nat.reduceLeDiff, Nat.reduceLT, defd, cellsOf, wr, packR, Int.reduceLE, Int.reduceLT, Int.reduceEq, Int.cast_ofNat_Int, Int.reduceToNat]
    refine h4.sc ?_
    simp only [↓vA, ↓vE, ↓vO, ↓vB, ↓vF, ↓vM, ↓vR, ↓vX, cvF_pc, vP, shb, shv, shvs, she_nil, she_cons, vC, vQ, not_false_eq_true, Nat.reduceEqDiff, ↓reduceIte, eq_self, Nat.reduceAdd, Nat.reduceMul, Nat.reduceSub, Nat.reduceLeDiff, Nat.reduceLT, defd, cellsOf, wr, packR, Int.reduceLE, Int.reduceLT, Int.reduceEq, Int.cast_ofNat_Int, Int.reduceToNat]
    simp [vZ]
  | false =>
    have hl := great16_len hg
    by_cases hv : (1000 : Int) < v.length
    · simp only [↓vA, ↓vE, ↓vO, ↓vB, ↓vF, ↓vM, ↓vR, ↓vX, cvF_pc, vP, shb, shv, shvs, she_nil, she_cons, vC, vQ, not_false_eq_true, Nat.reduceEqDiff, ↓reduceIte, eq_self, Nat.reduceAdd, Nat.reduceMul, Nat.reduceSub, Nat.reduceLeDiff, Nat.reduceLT, defd, cellsOf, wr, packR, Int.reduceLE, Int.reduceLT, Int.reduceEq, Int.cast_ofNat_Int, Int.reduceToNat, hv]
      refine h4.sc ?_
      simp only [↓vA, ↓vE, ↓vO, ↓vB, ↓vF, ↓vM, ↓vR, ↓vX, cvF_pc, vP, shb, shv, shvs, she_nil, she_cons, vC, vQ, not_false_eq_true, Nat.reduceEqDiff, ↓reduceIte, eq_self, Nat.reduceAdd, Nat.reduceMul, Nat.reduceSub, Nat.reduceLeDiff, Nat.reduceLT, defd, cellsOf, wr, packR, Int.reduceLE, Int.reduceLT, Int.reduceEq, Int.cast_ofNat_Int, Int.reduceToNat]
      simp [vZ]
    simp only [↓vA, ↓vE, ↓vO, ↓vB, ↓vF, ↓vM, ↓vR, ↓vX, cvF_pc, vP, shb, shv, shvs, she_nil, she_cons, vC, vQ, not_false_eq_true, Nat.reduceEqDiff, ↓reduceIte, eq_self, Nat.reduceAdd, Nat.reduceMul, Nat.reduceSub, Nat.reduceLeDiff, Nat.reduceLT, defd, cellsOf, wr, packR, Int.reduceLE, Int.reduceLT, Int.reduceEq, Int.cast_ofNat_Int, Int.reduceToNat, hv]
    refine (h2 l (by omega)).sc ?_
    cases hM : mayM l with
    | false =>
      simp only [↓vA, ↓vE, ↓vO, ↓vB, ↓vF, ↓vM, ↓vR, ↓vX, cvF_pc, vP, shb, shv, shvs, she_nil, she_cons, vC, vQ, not_false_eq_true, Nat.reduceEqDiff, ↓reduceIte, eq_self, Nat.reduceAdd, Nat.reduceMul, Nat.reduceSub, Nat.reduceLeDiff, Nat.reduceLT, defd, cellsOf, wr, packR, Int.reduceLE, Int.reduceLT, Int.reduceEq, Int.cast_ofNat_Int, Int.reduceToNat]
      refine h4.sc ?_
      simp only [↓vA, ↓vE, ↓vO, ↓vB, ↓vF, ↓vM, ↓vR, ↓vX, cvF_pc, vP, shb, shv, shvs, she_nil, she_cons, vC, vQ, not_false_eq_true, Nat.reduceEqDiff, ↓reduceIte, eq_self, Nat.reduceAdd, Nat.reduceMul, Nat.reduceSub, Nat.reduceLeDiff, Nat.reduceLT, defd, cellsOf, wr, packR, Int.reduceLE, Int.reduceLT, Int.reduceEq, Int.cast_ofNat_Int, Int.reduceToNat]
      simp [vZ]
    | true =>
      have k1 := stepM_may hE hM v fl
      have k2 := may_len k1
      simp only [↓vA, ↓vE, ↓vO, ↓vB, ↓vF, ↓vM, ↓vR, ↓vX, cvF_pc, vP, shb, shv, shvs, she_nil, she_cons, vC, vQ, not_false_eq_true, Nat.reduceEqDiff, ↓reduceIte, eq_self, Nat.reduceAdd, Nat.reduceMul, Nat.reduceSub, Nat.reduceLeDiff, Nat.reduceLT, defd, cellsOf, wr, packR, Int.reduceLE, Int.reduceLT, Int.reduceEq, Int.cast_ofNat_Int, Int.reduceToNat]
      refine (h3 v (by omega)).sc ?_
      by_cases hw : words v = []
      · simp only [↓vA, ↓vE, ↓vO, ↓vB, ↓vF, ↓vM, ↓vR, ↓vX, cvF_pc, vP, shb, shv, shvs, she_nil, she_cons, vC, vQ, not_false_eq_true, Nat.reduceEqDiff, ↓reduceIte, eq_self, Nat.reduceAdd, Nat.reduceMul, Nat.reduceSub, Nat.reduceLeDiff, Nat.reduceLT, defd, cellsOf, wr, packR, Int.reduceLE, Int.reduceLT, Int.reduceEq, Int.cast_ofNat_Int, Int.reduceToNat, hw, List.length_nil]
        refine h4.sc ?_
        simp only [↓vA, ↓vE, ↓vO, ↓vB, ↓vF, ↓vM, ↓vR, ↓vX, cvF_pc, vP, shb, shv, shvs, she_nil, she_cons, vC, vQ, not_false_eq_true, Nat.reduceEqDiff, ↓reduceIte, eq_self, Nat.reduceAdd, Nat.reduceMul, Nat.reduceSub, Nat.reduceLeDiff, Nat.reduceLT, defd, cellsOf, wr, packR, Int.reduceLE, Int.reduceLT, Int.reduceEq, Int.cast_ofNat_Int, Int.reduceToNat]
        simp [vZ]
      · have hwn : ¬ ((words v).length : Int) = 0 := by have := List.length_pos_iff.2 hw; omega
        have k3 := stepM_mode (E := E) hM fl hw
        have k4 := stepM_twice hE hM fl hw
        have k5 := stepM_len (E := E) l v fl
        have k6 : 0 ≤ (stepM E l v fl).1.mode := by rw [k3]; unfold modeM; split; (split <;> decide); exact hm0
        simp only [↓vA, ↓vE, ↓vO, ↓vB, ↓vF, ↓vM, ↓vR, ↓vX, cvF_pc, vP, shb, shv, shvs, she_nil, she_cons, vC, vQ, not_false_eq_true, Nat.reduceEqDiff, ↓reduceIte, eq_self, Nat.reduceAdd, Nat.reduceMul, Nat.reduceSub, Nat.reduceLeDiff, Nat.reduceLT, defd, cellsOf, wr, packR, Int.reduceLE, Int.reduceLT, Int.reduceEq, Int.cast_ofNat_Int, Int.reduceToNat, hwn]
        refine (h5 l v fl (by omega) (by omega) hm0).sc ?_
        simp only [↓vA, ↓vE, ↓vO, ↓vB, ↓vF, ↓vM, ↓vR, ↓vX, cvF_pc, vP, shb, shv, shvs, she_nil, she_cons, vC, vQ, not_false_eq_true, Nat.reduceEqDiff, ↓reduceIte, eq_self, Nat.reduceAdd, Nat.reduceMul, Nat.reduceSub, Nat.reduceLeDiff, Nat.reduceLT, defd, cellsOf, wr, packR, Int.reduceLE, Int.reduceLT, Int.reduceEq, Int.cast_ofNat_Int, Int.reduceToNat, cList]
        refine (h5 _ v fl (by omega) (by omega) k6).sc ?_
        rw [k4]
        generalize stepM E l v fl = R at k2 k5
        simp only [↓vA, ↓vE, ↓vO, ↓vB, ↓vF, ↓vM, ↓vR, ↓vX, cvF_pc, vP, shb, shv, shvs, she_nil, she_cons, vC, vQ, not_false_eq_true, Nat.reduceEqDiff, ↓reduceIte, eq_self, Nat.reduceAdd, Nat.reduceMul, Nat.reduceSub, Nat.reduceLeDiff, Nat.reduceLT, defd, cellsOf, wr, packR, Int.reduceLE, Int.reduceLT, Int.reduceEq, Int.cast_ofNat_Int, Int.reduceToNat, cList]
        refine (h6 R.2 (by omega)).sc ?_
        simp only [↓vA, ↓vE, ↓vO, ↓vB, ↓vF, ↓vM, ↓vR, ↓vX, cvF_pc, vP, shb, shv, shvs, she_nil, she_cons, vC, vQ, not_false_eq_true, Nat.reduceEqDiff, ↓reduceIte, eq_self, Nat.reduceAdd, Nat.reduceMul, Nat.reduceSub, Nat.reduceLeDiff, Nat.reduceLT, defd, cellsOf, wr, packR, Int.reduceLE, Int.reduceLT, Int.reduceEq, Int.cast_ofNat_Int, Int.reduceToNat]
        refine SL.loop (α := Nat) (fun j => [(7, .ptr 0 0), (9, .ptr 1 0), (11, .i .i64 j)]) (fun _ => [.cells 0 true false (cList R.1), .cells 0 true false (cList R.1)]) (fun _ => True) (fun j => R.1.calls.length - j) 0 [1, 2] ?_ ?_ ?_ rfl ?_ ?_
        · simp [vW, bw_map, mapAt_map, mapClo_it, mapClo_nil, mapClo_cons, vP, vZ, Tr.get_set]
        · simp [vW, bw_map, mapAt_map, mapClo_it, mapClo_nil, mapClo_cons, vP, vZ, Tr.get_set, cList, nvs_self, rC_clos]
        · simp
        · trivial
        rintro j - G ih
        simp only [argsT, H0, mkT, mkH, trL, List.length_cons, List.length_nil, Nat.reduceAdd, Nat.zero_add, cList]
        by_cases hlt : j < R.1.calls.length
        · have hx : R.1.calls[j]? = some R.1.calls[j] := List.getElem?_eq_getElem hlt
          have he := rC_elem hx
          have hb := rC_bound hlt
          have hw : IntKind.wrap .i64 ((j : Int) + 1) = ((j + 1 : Nat) : Int) := by rw [wrap64 (by omega) (by omega)]; omega
          simp only [↓vA, ↓vE, ↓vO, ↓vB, ↓vF, ↓vM, ↓vR, ↓vX, cvF_pc, vP, shb, shv, shvs, she_nil, she_cons, vC, vQ, not_false_eq_true, Nat.reduceEqDiff, ↓reduceIte, eq_self, Nat.reduceAdd, Nat.reduceMul, Nat.reduceSub, Nat.reduceLeDiff, Nat.reduceLT, defd, cellsOf, wr, packR, Int.reduceLE, Int.reduceLT, Int.reduceEq, Int.cast_ofNat_Int, Int.reduceToNat, hlt]
          refine VD_pc ?_
          simp (decide := true) only [↓vA, ↓vE, ↓vO, ↓vB, ↓vF, ↓vM, ↓vR, ↓vX, cvF_pc, vP, shb, shv, shvs, she_nil, she_cons, vC, vQ, not_false_eq_true, Nat.reduceEqDiff, ↓reduceIte, eq_self, Nat.reduceAdd, Nat.reduceMul, Nat.reduceSub, Nat.reduceLeDiff, Nat.reduceLT, defd, cellsOf, wr, packR, Int.reduceLE, Int.reduceLT, Int.reduceEq, Int.cast_ofNat_Int, Int.reduceToNat, hlt, hb, he, cCall, hw, beq_self_eq_true]
          refine ih (j + 1) trivial (by omega) _ _ (Wk.mk _ _ [0, 1] ?_ ?_ ?_ rfl)
          · simp [vW, bw_map, mapAt_map, mapClo_it, mapClo_nil, mapClo_cons, vP, vZ, Tr.get_set]
          · simp [vW, bw_map, mapAt_map, mapClo_it, mapClo_nil, mapClo_cons, vP, vZ, Tr.get_set, cList]
          · simp
        · simp only [↓vA, ↓vE, ↓vO, ↓vB, ↓vF, ↓vM, ↓vR, ↓vX, cvF_pc, vP, shb, shv, shvs, she_nil, she_cons, vC, vQ, not_false_eq_true, Nat.reduceEqDiff, ↓reduceIte, eq_self, Nat.reduceAdd, Nat.reduceMul, Nat.reduceSub, Nat.reduceLeDiff, Nat.reduceLT, defd, cellsOf, wr, packR, Int.reduceLE, Int.reduceLT, Int.reduceEq, Int.cast_ofNat_Int, Int.reduceToNat, hlt]
          refine h4.sc ?_
          simp only [↓vA, ↓vE, ↓vO, ↓vB, ↓vF, ↓vM, ↓vR, ↓vX, cvF_pc, vP, shb, shv, shvs, she_nil, she_cons, vC, vQ, not_false_eq_true, Nat.reduceEqDiff, ↓reduceIte, eq_self, Nat.reduceAdd, Nat.reduceMul, Nat.reduceSub, Nat.reduceLeDiff, Nat.reduceLT, defd, cellsOf, wr, packR, Int.reduceLE, Int.reduceLT, Int.reduceEq, Int.cast_ofNat_Int, Int.reduceToNat]
          simp [vZ]
end Go.Kc
end
section
/- FoldOne: what the law answers. Condition: the functions' texts are these. -/
namespace Go.Kc
variable {P : Program} {f : Nat}
theorem putM_len (l : GList) (s : List UInt8) (n : Int) : (putM l s n).calls.length ≤ l.calls.length + 1 := by
  unfold putM; split
  · dsimp only; unfold putL; split
    · simp
    · have := bsC_le l.calls (fun c => cmpB c.name s)
      simp; omega
  · omega
theorem takeM_len (l : GList) (s : List UInt8) : (takeM l s).calls.length ≤ l.calls.length := by
  unfold takeM; split
  · exact List.length_filter_le _ _
  · exact Nat.le_refl _
theorem putM_find {l : GList} (h : mayM l = true) (s : List UInt8) (n : Int) (t : List UInt8) : findC (putM l s n).calls t = if t = s then some ⟨s, n⟩ else findC l.calls t := by
  have e : putM l s n = ⟨l.mode, putL l.calls s n⟩ := if_pos h
  rw [e]; exact findC_put ((mayM_iff l).1 h).2.2 s n t
theorem takeM_find {l : GList} (h : mayM l = true) (s t : List UInt8) : findC (takeM l s).calls t = if t = s then none else findC l.calls t := by
  have e : takeM l s = ⟨l.mode, l.calls.filter fun c => !decide (c.name = s)⟩ := if_pos h
  rw [e]; exact findC_take _ _ _
/-- a value of one known call -/
theorem stepM_one {E : List UInt8 → List (List UInt8) × Int} {l : GList} (h : mayM l = true) (hm : l.mode ≠ 0) {v n : List UInt8} {t : Bool} (h1 : words v ≠ []) (h2 : turnP v = (n, t)) (h3 : words n = [n]) (h4 : readM n = (⟨n, 0, false⟩, 0)) (h5 : memM E n = ([n], 0)) :
    stepM E l v true = (stepO l (n, if l.mode - 1 = (if t = true then 1 else 0) then some 0 else none), []) := by
  have e : modeM l.mode t = l.mode := if_neg hm
  rw [stepM_eq h h1]
  simp only [h2, h3, List.flatMap_cons, List.flatMap_nil, List.append_nil, e, opsW, notesW, h4, h5]
  simp
def isOne (n : List UInt8) : Prop := n = [114, 101, 97, 100] ∨ n = [107, 105, 108, 108] ∨ n = [115, 111, 99, 107, 101, 116]
theorem one_words {n : List UInt8} (h : isOne n) : words n = [n] ∧ words (126 :: n) ≠ [] := by
  rw [words_wB, words_wB]
  rcases h with rfl | rfl | rfl <;> decide
theorem one_turn {n : List UInt8} (h : isOne n) : turnP n = (n, false) ∧ turnP (126 :: n) = (n, true) := by
  rcases h with rfl | rfl | rfl <;> decide
theorem one_read {n : List UInt8} (h : isOne n) : readM n = (⟨n, 0, false⟩, 0) := by
  have hc : cutM n = (n, [], false) := by rcases h with rfl | rfl | rfl <;> decide
  have hn : n ≠ [] := by rcases h with rfl | rfl | rfl <;> decide
  unfold readM; rw [hc, if_neg hn, if_pos rfl]
theorem one_mem (E : List UInt8 → List (List UInt8) × Int) {n : List UInt8} (h : isOne n) : memM E n = ([n], 0) := by
  have h1 : ¬ [64].isPrefixOf n = true := by rcases h with rfl | rfl | rfl <;> decide
  have h2 : knownM n = true := by rcases h with rfl | rfl | rfl <;> decide
  unfold memM; rw [if_neg h1, if_pos h2]
theorem one_step (E : List UInt8 → List (List UInt8) × Int) {l : GList} (h : mayM l = true) (hm : l.mode ≠ 0) {n : List UInt8} (hn : isOne n) (t : Bool) :
    stepM E l (if t = true then 126 :: n else n) true = (stepO l (n, if l.mode - 1 = (if t = true then 1 else 0) then some 0 else none), []) := by
  cases t with
  | true => exact stepM_one h hm (one_words hn).2 (one_turn hn).2 (one_words hn).1 (one_read hn) (one_mem E hn)
  | false => exact stepM_one h hm (by rw [if_neg (by decide), (one_words hn).1]; simp) (one_turn hn).1 (one_words hn).1 (one_read hn) (one_mem E hn)
def cFindL (P : Program) (f : Nat) : Prop := ∀ (l : GList) (s : List UInt8), l.calls.length ≤ 100000 → Pure P f [.agg (cList l), .s s] (.tup [.i .u32 (match findC l.calls s with | some c => c.act | none => 0), .b (findC l.calls s).isSome])
def ir_vestibulelaw16_FoldOne_c14 (f_vestibulelaw16_Great f_fold_May f_vestibulelaw16_awake f_fold_Put f_fold_Take f_fold_Find f_fold_Step : Nat) : ICode := .seq (.reg false [⟨(some 136), .op (.loadN 2 (.t 5)), none⟩,
    ⟨(some 137), .op (.mov (.t 25)), none⟩,
    ⟨(some 138), .callF f_fold_Step [(.t 136), (.t 137), (.c (.b true))], none⟩,
    ⟨(some 135), .op (.mov (.t 138)), none⟩,
    ⟨(some 139), .op (.ext (.t 135) 0), none⟩,
    ⟨(some 140), .op (.ext (.t 135) 1), none⟩,
    ⟨(some 26), .op (.alloc [.i .u8 0, .nils]), none⟩,
    ⟨none, .op (.store 2 (.t 26) (.t 139)), none⟩,
    ⟨(some 27), .op (.mov (.t 140)), none⟩])
  (.seq (.reg false [⟨(some 142), .op (.loadN 2 (.t 26)), none⟩,
    ⟨(some 143), .op (.mov (.t 24)), none⟩,
    ⟨(some 144), .callF f_fold_Find [(.t 142), (.t 143)], none⟩,
    ⟨(some 141), .op (.mov (.t 144)), none⟩,
    ⟨(some 145), .op (.ext (.t 141) 0), none⟩,
    ⟨(some 146), .op (.ext (.t 141) 1), none⟩,
    ⟨(some 28), .op (.mov (.t 145)), none⟩,
    ⟨(some 29), .op (.mov (.t 146)), none⟩])
  (.seq (.reg false [⟨(some 147), .op (.mov (.t 27)), none⟩,
    ⟨(some 148), .op (.len false (.t 147)), none⟩,
    ⟨(some 149), .op (.bin .eql (.t 148) (.c (.i .i64 0))), none⟩,
    ⟨(some 150), .op (.mov (.t 149)), none⟩,
    ⟨(some 151), .op (.mov (.t 29)), (some (150, true))⟩,
    ⟨(some 152), .op (.mov (.t 4)), (some (150, true))⟩,
    ⟨(some 153), .op (.fAddr 0 (.t 5)), (some (150, true))⟩,
    ⟨(some 154), .op (.load1 (.t 153)), (some (150, true))⟩,
    ⟨(some 155), .op (.bin .eql (.t 154) (.c (.i .u8 2))), (some (150, true))⟩,
    ⟨(some 156), .op (.eqB false (.t 152) (.t 155)), (some (150, true))⟩,
    ⟨(some 157), .op (.eqB false (.t 151) (.t 156)), (some (150, true))⟩,
    ⟨(some 158), .op (.pick (.t 150) (.t 157) (.c (.b false))), none⟩,
    ⟨(some 159), .op (.mov (.t 158)), none⟩,
    ⟨(some 160), .op (.mov (.t 28)), (some (159, true))⟩,
    ⟨(some 161), .op (.bin .eql (.t 160) (.c (.i .u32 0))), (some (159, true))⟩,
    ⟨(some 162), .op (.pick (.t 159) (.t 161) (.c (.b false))), none⟩,
    ⟨(some 163), .op (.mov (.t 162)), none⟩,
    ⟨(some 164), .callF f_vestibulelaw16_awake [], (some (163, true))⟩,
    ⟨(some 165), .op (.pick (.t 163) (.t 164) (.c (.b false))), none⟩,
    ⟨(some 10), .op (.mov (.t 165)), none⟩])
  (.ret)))
def ir_vestibulelaw16_FoldOne_c9 (f_vestibulelaw16_Great f_fold_May f_vestibulelaw16_awake f_fold_Put f_fold_Take f_fold_Find f_fold_Step : Nat) : ICode := .seq (.seq (.reg false [⟨(some 120), .op (.fAddr 0 (.t 5)), none⟩,
    ⟨(some 121), .op (.load1 (.t 120)), none⟩,
    ⟨(some 122), .op (.bin .eql (.t 121) (.c (.i .u8 0))), none⟩])
  (.cond (.t 122) (.seq (.reg false [⟨(some 123), .callF f_vestibulelaw16_awake [], none⟩,
    ⟨(some 10), .op (.mov (.t 123)), none⟩])
  (.ret)) (.skip)))
  (.seq (.reg false [⟨(some 124), .op (.buildS 3 [.s []] [(0, 1, (.c (.s [114, 101, 97, 100]))), (1, 1, (.c (.s [107, 105, 108, 108]))), (2, 1, (.c (.s [115, 111, 99, 107, 101, 116])))]), none⟩,
    ⟨(some 23), .op (.mov (.t 124)), none⟩])
  (.seq (.reg false [⟨(some 125), .op (.mov (.t 23)), none⟩,
    ⟨(some 126), .op (.mov (.t 1)), none⟩,
    ⟨(some 127), .op (.len true (.t 126)), none⟩,
    ⟨(some 128), .op (.bin .rem (.t 127) (.c (.i .i64 3))), none⟩,
    ⟨(some 129), .op (.iAddrS 1 (.t 125) (.t 128)), none⟩,
    ⟨(some 130), .op (.load1 (.t 129)), none⟩,
    ⟨(some 24), .op (.mov (.t 130)), none⟩])
  (.seq (.reg false [⟨(some 131), .op (.mov (.t 24)), none⟩,
    ⟨(some 25), .op (.mov (.t 131)), none⟩])
  (.seq (.seq (.reg false [⟨(some 132), .op (.mov (.t 4)), none⟩])
  (.cond (.t 132) (.reg false [⟨(some 133), .op (.mov (.t 24)), none⟩,
    ⟨(some 134), .op (.bin .add (.c (.s [126])) (.t 133)), none⟩,
    ⟨(some 25), .op (.mov (.t 134)), none⟩]) (.skip)))
  (.cut (ir_vestibulelaw16_FoldOne_c14 f_vestibulelaw16_Great f_fold_May f_vestibulelaw16_awake f_fold_Put f_fold_Take f_fold_Find f_fold_Step))))))
def ir_vestibulelaw16_FoldOne (f_vestibulelaw16_Great f_fold_May f_vestibulelaw16_awake f_fold_Put f_fold_Take f_fold_Find f_fold_Step : Nat) : IFn := ⟨[.tmp 10],
  .seq (.reg false [⟨(some 5), .op (.box (.t 0)), none⟩,
    ⟨(some 10), .op (.mov (.c (.b false))), none⟩])
  (.seq (.seq (.reg false [⟨(some 30), .op (.loadN 2 (.t 5)), none⟩,
    ⟨(some 31), .callF f_vestibulelaw16_Great [(.t 30)], none⟩,
    ⟨(some 32), .op (.mov (.t 31)), none⟩,
    ⟨(some 33), .op (.mov (.t 1)), (some (32, false))⟩,
    ⟨(some 34), .op (.len true (.t 33)), (some (32, false))⟩,
    ⟨(some 35), .op (.bin .gtr (.t 34) (.c (.i .i64 200))), (some (32, false))⟩,
    ⟨(some 36), .op (.pick (.t 32) (.c (.b true)) (.t 35)), none⟩,
    ⟨(some 37), .op (.mov (.t 36)), none⟩,
    ⟨(some 38), .op (.mov (.t 2)), (some (37, false))⟩,
    ⟨(some 39), .op (.len true (.t 38)), (some (37, false))⟩,
    ⟨(some 40), .op (.bin .gtr (.t 39) (.c (.i .i64 200))), (some (37, false))⟩,
    ⟨(some 41), .op (.pick (.t 37) (.c (.b true)) (.t 40)), none⟩,
    ⟨(some 42), .op (.mov (.t 41)), none⟩,
    ⟨(some 43), .op (.loadN 2 (.t 5)), (some (42, false))⟩,
    ⟨(some 44), .callF f_fold_May [(.t 43)], (some (42, false))⟩,
    ⟨(some 45), .op (.un .not (.t 44)), (some (42, false))⟩,
    ⟨(some 46), .op (.pick (.t 42) (.c (.b true)) (.t 45)), none⟩,
    ⟨(some 47), .op (.mov (.t 46)), none⟩,
    ⟨(some 48), .op (.mov (.t 1)), (some (47, false))⟩,
    ⟨(some 49), .op (.mov (.t 2)), (some (47, false))⟩,
    ⟨(some 50), .op (.bin .eql (.t 48) (.t 49)), (some (47, false))⟩,
    ⟨(some 51), .op (.pick (.t 47) (.c (.b true)) (.t 50)), none⟩])
  (.cond (.t 51) (.seq (.reg false [⟨(some 52), .callF f_vestibulelaw16_awake [], none⟩,
    ⟨(some 10), .op (.mov (.t 52)), none⟩])
  (.ret)) (.skip)))
  (.seq (.reg true [⟨(some 53), .op (.loadN 2 (.t 5)), none⟩,
    ⟨(some 54), .op (.mov (.t 1)), none⟩,
    ⟨(some 55), .op (.mov (.t 3)), none⟩,
    ⟨(some 56), .callF f_fold_Put [(.t 53), (.t 54), (.t 55)], none⟩,
    ⟨(some 57), .op (.loadN 2 (.t 5)), none⟩,
    ⟨(some 58), .op (.mov (.t 1)), none⟩,
    ⟨(some 59), .callF f_fold_Take [(.t 57), (.t 58)], none⟩,
    ⟨(some 11), .op (.alloc [.i .u8 0, .nils]), none⟩,
    ⟨(some 12), .op (.alloc [.i .u8 0, .nils]), none⟩,
    ⟨none, .op (.store 2 (.t 11) (.t 56)), none⟩,
    ⟨none, .op (.store 2 (.t 12) (.t 59)), none⟩])
  (.seq (.reg false [⟨(some 61), .op (.loadN 2 (.t 11)), none⟩,
    ⟨(some 62), .op (.mov (.t 1)), none⟩,
    ⟨(some 63), .callF f_fold_Find [(.t 61), (.t 62)], none⟩,
    ⟨(some 60), .op (.mov (.t 63)), none⟩,
    ⟨(some 64), .op (.ext (.t 60) 0), none⟩,
    ⟨(some 65), .op (.ext (.t 60) 1), none⟩,
    ⟨(some 13), .op (.mov (.t 64)), none⟩,
    ⟨(some 14), .op (.mov (.t 65)), none⟩])
  (.seq (.reg false [⟨(some 67), .op (.loadN 2 (.t 12)), none⟩,
    ⟨(some 68), .op (.mov (.t 1)), none⟩,
    ⟨(some 69), .callF f_fold_Find [(.t 67), (.t 68)], none⟩,
    ⟨(some 66), .op (.mov (.t 69)), none⟩,
    ⟨(some 70), .op (.ext (.t 66) 0), none⟩,
    ⟨(some 71), .op (.ext (.t 66) 1), none⟩,
    ⟨(some 15), .op (.mov (.t 70)), none⟩,
    ⟨(some 16), .op (.mov (.t 71)), none⟩])
  (.seq (.reg false [⟨(some 73), .op (.loadN 2 (.t 5)), none⟩,
    ⟨(some 74), .op (.mov (.t 2)), none⟩,
    ⟨(some 75), .callF f_fold_Find [(.t 73), (.t 74)], none⟩,
    ⟨(some 72), .op (.mov (.t 75)), none⟩,
    ⟨(some 76), .op (.ext (.t 72) 0), none⟩,
    ⟨(some 77), .op (.ext (.t 72) 1), none⟩,
    ⟨(some 17), .op (.mov (.t 76)), none⟩,
    ⟨(some 18), .op (.mov (.t 77)), none⟩])
  (.seq (.reg false [⟨(some 79), .op (.loadN 2 (.t 11)), none⟩,
    ⟨(some 80), .op (.mov (.t 2)), none⟩,
    ⟨(some 81), .callF f_fold_Find [(.t 79), (.t 80)], none⟩,
    ⟨(some 78), .op (.mov (.t 81)), none⟩,
    ⟨(some 82), .op (.ext (.t 78) 0), none⟩,
    ⟨(some 83), .op (.ext (.t 78) 1), none⟩,
    ⟨(some 19), .op (.mov (.t 82)), none⟩,
    ⟨(some 20), .op (.mov (.t 83)), none⟩])
  (.seq (.reg false [⟨(some 85), .op (.loadN 2 (.t 12)), none⟩,
    ⟨(some 86), .op (.mov (.t 2)), none⟩,
    ⟨(some 87), .callF f_fold_Find [(.t 85), (.t 86)], none⟩,
    ⟨(some 84), .op (.mov (.t 87)), none⟩,
    ⟨(some 88), .op (.ext (.t 84) 0), none⟩,
    ⟨(some 89), .op (.ext (.t 84) 1), none⟩,
    ⟨(some 21), .op (.mov (.t 88)), none⟩,
    ⟨(some 22), .op (.mov (.t 89)), none⟩])
  (.seq (.seq (.reg false [⟨(some 90), .op (.mov (.t 14)), none⟩,
    ⟨(some 91), .op (.un .not (.t 90)), none⟩,
    ⟨(some 92), .op (.mov (.t 91)), none⟩,
    ⟨(some 93), .op (.mov (.t 13)), (some (92, false))⟩,
    ⟨(some 94), .op (.mov (.t 3)), (some (92, false))⟩,
    ⟨(some 95), .op (.bin .neq (.t 93) (.t 94)), (some (92, false))⟩,
    ⟨(some 96), .op (.pick (.t 92) (.c (.b true)) (.t 95)), none⟩,
    ⟨(some 97), .op (.mov (.t 96)), none⟩,
    ⟨(some 98), .op (.mov (.t 16)), (some (97, false))⟩,
    ⟨(some 99), .op (.pick (.t 97) (.c (.b true)) (.t 98)), none⟩,
    ⟨(some 100), .op (.mov (.t 99)), none⟩,
    ⟨(some 101), .op (.mov (.t 17)), (some (100, false))⟩,
    ⟨(some 102), .op (.mov (.t 19)), (some (100, false))⟩,
    ⟨(some 103), .op (.bin .neq (.t 101) (.t 102)), (some (100, false))⟩,
    ⟨(some 104), .op (.pick (.t 100) (.c (.b true)) (.t 103)), none⟩,
    ⟨(some 105), .op (.mov (.t 104)), none⟩,
    ⟨(some 106), .op (.mov (.t 17)), (some (105, false))⟩,
    ⟨(some 107), .op (.mov (.t 21)), (some (105, false))⟩,
    ⟨(some 108), .op (.bin .neq (.t 106) (.t 107)), (some (105, false))⟩,
    ⟨(some 109), .op (.pick (.t 105) (.c (.b true)) (.t 108)), none⟩,
    ⟨(some 110), .op (.mov (.t 109)), none⟩,
    ⟨(some 111), .op (.mov (.t 18)), (some (110, false))⟩,
    ⟨(some 112), .op (.mov (.t 20)), (some (110, false))⟩,
    ⟨(some 113), .op (.eqB true (.t 111) (.t 112)), (some (110, false))⟩,
    ⟨(some 114), .op (.pick (.t 110) (.c (.b true)) (.t 113)), none⟩,
    ⟨(some 115), .op (.mov (.t 114)), none⟩,
    ⟨(some 116), .op (.mov (.t 18)), (some (115, false))⟩,
    ⟨(some 117), .op (.mov (.t 22)), (some (115, false))⟩,
    ⟨(some 118), .op (.eqB true (.t 116) (.t 117)), (some (115, false))⟩,
    ⟨(some 119), .op (.pick (.t 115) (.c (.b true)) (.t 118)), none⟩])
  (.cond (.t 119) (.seq (.reg false [⟨(some 10), .op (.mov (.c (.b false))), none⟩])
  (.ret)) (.skip)))
  (.cut (ir_vestibulelaw16_FoldOne_c9 f_vestibulelaw16_Great f_fold_May f_vestibulelaw16_awake f_fold_Put f_fold_Take f_fold_Find f_fold_Step))))))))))⟩
theorem one_tail {g1 g2 g3 g4 g5 g6 g7 : Nat} {E : List UInt8 → List (List UInt8) × Int} (h3 : Pure P g3 [] (.b true)) (h6 : cFindL P g6) (h7 : cStep E P g7) (l : GList) (hM : mayM l = true) (hm : l.mode ≠ 0) (hm0 : 0 ≤ l.mode) (n : List UInt8) (hn : isOne n) (t : Bool) :
    S P 0 (ir_vestibulelaw16_FoldOne_c14 g1 g2 g3 g4 g5 g6 g7) (endX [.tmp 10] fun v' h' => Frz h' v' (.b true)) (mkT [(4, .b t), (5, .ptr 0 0), (24, .s n), (25, .s (if t = true then 126 :: n else n))]) (mkH 0 [.cells 0 true false (cList l)]) := by
  have hml := may_len hM
  have hnl : (if t = true then 126 :: n else n).length ≤ 1000 := by cases t <;> rcases hn with rfl | rfl | rfl <;> decide
  have hmle := ((mayM_iff l).1 hM).1.1
  refine V_sound ?_
  simp only [ir_vestibulelaw16_FoldOne_c14, cList, argsT, H0, mkT, mkH, trL, List.length_cons, List.length_nil, Nat.reduceAdd, Nat.zero_add]
  simp only [↓vA, ↓vE, ↓vO, ↓vB, ↓vF, ↓vM, ↓vR, ↓vX, cvF_pc, vP, shb, shv, shvs, she_nil, she_cons, vC, vQ, not_false_eq_true, Nat.reduceEqDiff, ↓reduceIte, eq_self, Nat.reduceAdd, Nat.reduceMul, Nat.reduceSub, Nat.reduceLeDiff, Nat.reduceLT, defd, cellsOf, wr, packR, Int.reduceLE, Int.reduceLT, Int.reduceEq, Int.cast_ofNat_Int, Int.reduceToNat]
  refine (h7 l _ true (by omega) hnl hm0).sc ?_
  rw [one_step E hM hm hn t]
  have hlen : (stepO l (n, if l.mode - 1 = (if t = true then 1 else 0) then some 0 else none)).calls.length ≤ 100000 := by
    unfold stepO; split
    · have := putM_len l (n, if l.mode - 1 = (if t = true then 1 else 0) then some 0 else none).1 ‹_›; omega
    · have := takeM_len l (n, if l.mode - 1 = (if t = true then 1 else 0) then (some 0 : Option Int) else none).1; omega
  have hmode : l.mode = 1 ∨ l.mode = 2 := by omega
  have hfin : findC (stepO l (n, if l.mode - 1 = (if t = true then 1 else 0) then some 0 else none)).calls n = if l.mode - 1 = (if t = true then 1 else 0) then some ⟨n, 0⟩ else none := by
    by_cases hc : l.mode - 1 = (if t = true then 1 else 0)
    · rw [if_pos hc, if_pos hc]
      show findC (putM l n 0).calls n = _
      rw [putM_find hM, if_pos rfl]
    · rw [if_neg hc, if_neg hc]
      show findC (takeM l n).calls n = _
      rw [takeM_find hM, if_pos rfl]
  generalize stepO l (n, if l.mode - 1 = (if t = true then 1 else 0) then some 0 else none) = R at hlen hfin ⊢
  simp only [↓vA, ↓vE, ↓vO, ↓vB, ↓vF, ↓vM, ↓vR, ↓vX, cvF_pc, vP, shb, shv, shvs, she_nil, she_cons, vC, vQ, not_false_eq_true, Nat.reduceEqDiff, ↓reduceIte, eq_self, Nat.reduceAdd, Nat.reduceMul, Nat.reduceSub, Nat.reduceLeDiff, Nat.reduceLT, defd, cellsOf, wr, packR, Int.reduceLE, Int.reduceLT, Int.reduceEq, Int.cast_ofNat_Int, Int.reduceToNat, cList]
  refine (h6 R n hlen).sc ?_
  rw [hfin]
  rcases hmode with e | e <;> cases t <;> simp only [e] <;> simp (decide := true) only [↓vA, ↓vE, ↓vO, ↓vB, ↓vF, ↓vM, ↓vR, ↓vX, cvF_pc, vP, shb, shv, shvs, she_nil, she_cons, vC, vQ, not_false_eq_true, Nat.reduceEqDiff, ↓reduceIte, eq_self, Nat.reduceAdd, Nat.reduceMul, Nat.reduceSub, Nat.reduceLeDiff, Nat.reduceLT, defd, cellsOf, wr, packR, Int.reduceLE, Int.reduceLT, Int.reduceEq, Int.cast_ofNat_Int, Int.reduceToNat, e, List.length_nil]
  all_goals refine h3.sc ?_
  all_goals simp only [↓vA, ↓vE, ↓vO, ↓vB, ↓vF, ↓vM, ↓vR, ↓vX, cvF_pc, vP, shb, shv, shvs, she_nil, she_cons, vC, vQ, not_false_eq_true, Nat.reduceEqDiff, ↓reduceIte, eq_self, Nat.reduceAdd, Nat.reduceMul, Nat.reduceSub, Nat.reduceLeDiff, Nat.reduceLT, defd, cellsOf, wr, packR, Int.reduceLE, Int.reduceLT, Int.reduceEq, Int.cast_ofNat_Int, Int.reduceToNat]
  all_goals simp [vZ]
theorem one_mid {g1 g2 g3 g4 g5 g6 g7 : Nat} {E : List UInt8 → List (List UInt8) × Int} (h3 : Pure P g3 [] (.b true)) (h6 : cFindL P g6) (h7 : cStep E P g7) (l : GList) (hM : mayM l = true) (hm0 : 0 ≤ l.mode) (name : List UInt8) (t : Bool) :
    S P 0 (ir_vestibulelaw16_FoldOne_c9 g1 g2 g3 g4 g5 g6 g7) (endX [.tmp 10] fun v' h' => Frz h' v' (.b true)) (mkT [(1, .s name), (4, .b t), (5, .ptr 0 0)]) (mkH 0 [.cells 0 true false (cList l)]) := by
  refine V_sound ?_
  simp only [ir_vestibulelaw16_FoldOne_c9, cList, argsT, H0, mkT, mkH, trL, List.length_cons, List.length_nil, Nat.reduceAdd, Nat.zero_add]
  by_cases hm : l.mode = 0
  · simp only [↓vA, ↓vE, ↓vO, ↓vB, ↓vF, ↓vM, ↓vR, ↓vX, cvF_pc, vP, shb, shv, shvs, she_nil, she_cons, vC, vQ, not_false_eq_true, Nat.reduceEqDiff, ↓reduceIte, eq_self, Nat.reduceAdd, Nat.reduceMul, Nat.reduceSub, Nat.reduceLeDiff, Nat.reduceLT, defd, cellsOf, wr, packR, Int.reduceLE, Int.reduceLT, Int.reduceEq, Int.cast_ofNat_Int, Int.reduceToNat, hm]
    refine h3.sc ?_
    simp only [↓vA, ↓vE, ↓vO, ↓vB, ↓vF, ↓vM, ↓vR, ↓vX, cvF_pc, vP, shb, shv, shvs, she_nil, she_cons, vC, vQ, not_false_eq_true, Nat.reduceEqDiff, ↓reduceIte, eq_self, Nat.reduceAdd, Nat.reduceMul, Nat.reduceSub, Nat.reduceLeDiff, Nat.reduceLT, defd, cellsOf, wr, packR, Int.reduceLE, Int.reduceLT, Int.reduceEq, Int.cast_ofNat_Int, Int.reduceToNat]
    simp [vZ]
  · have h30 : (3 : Int) ≠ 0 := by decide
    have h3r : name.length % 3 < 3 := Nat.mod_lt _ (by decide)
    have hr : (name.length : Int).tmod 3 = ((name.length % 3 : Nat) : Int) := rfl
    have hcat : ∀ x : List UInt8, [126] ++ x = 126 :: x := fun x => rfl
    simp only [↓vA, ↓vE, ↓vO, ↓vB, ↓vF, ↓vM, ↓vR, ↓vX, cvF_pc, vP, shb, shv, shvs, she_nil, she_cons, vC, vQ, not_false_eq_true, Nat.reduceEqDiff, ↓reduceIte, eq_self, Nat.reduceAdd, Nat.reduceMul, Nat.reduceSub, Nat.reduceLeDiff, Nat.reduceLT, defd, cellsOf, wr, packR, Int.reduceLE, Int.reduceLT, Int.reduceEq, Int.cast_ofNat_Int, Int.reduceToNat, hm]
    simp only [bin_rem h30, hr]
    generalize name.length % 3 = k at h3r
    have hk : k = 0 ∨ k = 1 ∨ k = 2 := by omega
    rcases hk with rfl | rfl | rfl
    all_goals simp (decide := true) only [↓vA, ↓vE, ↓vO, ↓vB, ↓vF, ↓vM, ↓vR, ↓vX, cvF_pc, vP, shb, shv, shvs, she_nil, she_cons, vC, vQ, not_false_eq_true, Nat.reduceEqDiff, ↓reduceIte, eq_self, Nat.reduceAdd, Nat.reduceMul, Nat.reduceSub, Nat.reduceLeDiff, Nat.reduceLT, defd, cellsOf, wr, packR, Int.reduceLE, Int.reduceLT, Int.reduceEq, Int.cast_ofNat_Int, Int.reduceToNat, List.getElem?_cons_zero, List.getElem?_cons_succ]
    all_goals cases t
    all_goals simp (decide := true) only [↓vA, ↓vE, ↓vO, ↓vB, ↓vF, ↓vM, ↓vR, ↓vX, cvF_pc, vP, shb, shv, shvs, she_nil, she_cons, vC, vQ, not_false_eq_true, Nat.reduceEqDiff, ↓reduceIte, eq_self, Nat.reduceAdd, Nat.reduceMul, Nat.reduceSub, Nat.reduceLeDiff, Nat.reduceLT, defd, cellsOf, wr, packR, Int.reduceLE, Int.reduceLT, Int.reduceEq, Int.cast_ofNat_Int, Int.reduceToNat, hcat, List.length_cons, List.length_nil]
    · refine S.weak (Wk.mk _ _ [0] ?_ ?_ ?_ rfl) (one_tail h3 h6 h7 l hM hm hm0 [114, 101, 97, 100] (.inl rfl) false)
      · simp [vW, bw_map, mapAt_map, mapClo_it, mapClo_nil, mapClo_cons, vP, vZ, Tr.get_set]
      · simp [vW, bw_map, mapAt_map, mapClo_it, mapClo_nil, mapClo_cons, vP, vZ, Tr.get_set, cList]
      · simp
    · refine S.weak (Wk.mk _ _ [0] ?_ ?_ ?_ rfl) (one_tail h3 h6 h7 l hM hm hm0 [114, 101, 97, 100] (.inl rfl) true)
      · simp [vW, bw_map, mapAt_map, mapClo_it, mapClo_nil, mapClo_cons, vP, vZ, Tr.get_set]
      · simp [vW, bw_map, mapAt_map, mapClo_it, mapClo_nil, mapClo_cons, vP, vZ, Tr.get_set, cList]
      · simp
    · refine S.weak (Wk.mk _ _ [0] ?_ ?_ ?_ rfl) (one_tail h3 h6 h7 l hM hm hm0 [107, 105, 108, 108] (.inr (.inl rfl)) false)
      · simp [vW, bw_map, mapAt_map, mapClo_it, mapClo_nil, mapClo_cons, vP, vZ, Tr.get_set]
      · simp [vW, bw_map, mapAt_map, mapClo_it, mapClo_nil, mapClo_cons, vP, vZ, Tr.get_set, cList]
      · simp
    · refine S.weak (Wk.mk _ _ [0] ?_ ?_ ?_ rfl) (one_tail h3 h6 h7 l hM hm hm0 [107, 105, 108, 108] (.inr (.inl rfl)) true)
      · simp [vW, bw_map, mapAt_map, mapClo_it, mapClo_nil, mapClo_cons, vP, vZ, Tr.get_set]
      · simp [vW, bw_map, mapAt_map, mapClo_it, mapClo_nil, mapClo_cons, vP, vZ, Tr.get_set, cList]
      · simp
    · refine S.weak (Wk.mk _ _ [0] ?_ ?_ ?_ rfl) (one_tail h3 h6 h7 l hM hm hm0 [115, 111, 99, 107, 101, 116] (.inr (.inr rfl)) false)
      · simp [vW, bw_map, mapAt_map, mapClo_it, mapClo_nil, mapClo_cons, vP, vZ, Tr.get_set]
      · simp [vW, bw_map, mapAt_map, mapClo_it, mapClo_nil, mapClo_cons, vP, vZ, Tr.get_set, cList]
      · simp
    · refine S.weak (Wk.mk _ _ [0] ?_ ?_ ?_ rfl) (one_tail h3 h6 h7 l hM hm hm0 [115, 111, 99, 107, 101, 116] (.inr (.inr rfl)) true)
      · simp [vW, bw_map, mapAt_map, mapClo_it, mapClo_nil, mapClo_cons, vP, vZ, Tr.get_set]
      · simp [vW, bw_map, mapAt_map, mapClo_it, mapClo_nil, mapClo_cons, vP, vZ, Tr.get_set, cList]
      · simp
theorem foldOne {g1 g2 g3 g4 g5 g6 g7 : Nat} {E : List UInt8 → List (List UInt8) × Int} (hc : chkFn P f (ir_vestibulelaw16_FoldOne g1 g2 g3 g4 g5 g6 g7) = true) (h1 : cGreat16 P g1) (h2 : cMay P g2) (h3 : Pure P g3 [] (.b true)) (h4 : cPut P g4) (h5 : cTake P g5) (h6 : cFindL P g6) (h7 : cStep E P g7)
    (l : GList) (name other : List UInt8) (a : Int) (t : Bool) (hm0 : 0 ≤ l.mode) : Pure P f [.agg (cList l), .s name, .s other, .i .u32 a, .b t] (.b true) := by
  refine Pure.mk hc rfl ?_
  have aw : ∀ {t' : Tr AV} {h' : Hp}, True := trivial
  simp only [ir_vestibulelaw16_FoldOne, cList, argsT, H0, mkT, mkH, trL, List.length_cons, List.length_nil, Nat.reduceAdd, Nat.zero_add]
  simp only [↓vA, ↓vE, ↓vO, ↓vB, ↓vF, ↓vM, ↓vR, ↓vX, cvF_pc, vP, shb, shv, shvs, she_nil, she_cons, vC, vQ, not_false_eq_true, Nat.reduceEqDiff, ↓reduceIte, eq_self, Nat.reduceAdd, Nat.reduceMul, Nat.reduceSub, Nat.reduceLeDiff, Nat.reduceLT, defd, cellsOf, wr, packR, Int.reduceLE, Int.reduceLT, Int.reduceEq, Int.cast_ofNat_Int, Int.reduceToNat]
  refine (h1 l).sc ?_
  cases hg : great16 l with
  | true =>
    simp only [↓vA, ↓vE, ↓vO, ↓vB, ↓vF, ↓vM, ↓vR, ↓vX, cvF_pc, vP, shb, shv, shvs, she_nil, she_cons, vC, vQ, not_false_eq_true, Nat.reduceEqDiff, ↓reduceIte, eq_self, Nat.reduceAdd, Nat.reduceMul, Nat.reduceSub, Nat.reduceLeDiff, Nat.reduceLT, defd, cellsOf, wr, packR, Int.reduceLE, Int.reduceLT, Int.reduceEq, Int.cast_ofNat_Int, Int.reduceToNat]
    refine h3.sc ?_
    simp only [↓vA, ↓vE, ↓vO, ↓vB, ↓vF, ↓vM, ↓vR, ↓vX, cvF_pc, vP, shb, shv, shvs, she_nil, she_cons, vC, vQ, not_false_eq_true, Nat.reduceEqDiff, ↓reduceIte, eq_self, Nat.reduceAdd, Nat.reduceMul, Nat.reduceSub, Nat.reduceLeDiff, Nat.reduceLT, defd, cellsOf, wr, packR, Int.reduceLE, Int.reduceLT, Int.reduceEq, Int.cast_ofNat_Int, Int.reduceToNat]
    simp [vZ]
  | false =>
    have hl := great16_len hg
    by_cases hv : (200 : Int) < name.length
    · simp only [↓vA, ↓vE, ↓vO, ↓vB, ↓vF, ↓vM, ↓vR, ↓vX, cvF_pc, vP, shb, shv, shvs, she_nil, she_cons, vC, vQ, not_false_eq_true, Nat.reduceEqDiff, ↓reduceIte, eq_self, Nat.reduceAdd, Nat.reduceMul, Nat.reduceSub, Nat.reduceLeDiff, Nat.reduceLT, defd, cellsOf, wr, packR, Int.reduceLE, Int.reduceLT, Int.reduceEq, Int.cast_ofNat_Int, Int.reduceToNat, hv]
      refine h3.sc ?_
      simp only [↓vA, ↓vE, ↓vO, ↓vB, ↓vF, ↓vM, ↓vR, ↓vX, cvF_pc, vP, shb, shv, shvs, she_nil, she_cons, vC, vQ, not_false_eq_true, Nat.reduceEqDiff, ↓reduceIte, eq_self, Nat.reduceAdd, Nat.reduceMul, Nat.reduceSub, Nat.reduceLeDiff, Nat.reduceLT, defd, cellsOf, wr, packR, Int.reduceLE, Int.reduceLT, Int.reduceEq, Int.cast_ofNat_Int, Int.reduceToNat]
      simp [vZ]
    by_cases hv2 : (200 : Int) < other.length
    · simp only [↓vA, ↓vE, ↓vO, ↓vB, ↓vF, ↓vM, ↓vR, ↓vX, cvF_pc, vP, shb, shv, shvs, she_nil, she_cons, vC, vQ, not_false_eq_true, Nat.reduceEqDiff, ↓reduceIte, eq_self, Nat.reduceAdd, Nat.reduceMul, Nat.reduceSub, Nat.reduceLeDiff, Nat.reduceLT, defd, cellsOf, wr, packR, Int.reduceLE, Int.reduceLT, Int.reduceEq, Int.cast_ofNat_Int, Int.reduceToNat, hv, hv2]
      refine h3.sc ?_
      simp only [↓vA, ↓vE, ↓vO, ↓vB, ↓vF, ↓vM, ↓vR, ↓vX, cvF_pc, vP, shb, shv, shvs, she_nil, she_cons, vC, vQ, not_false_eq_true, Nat.reduceEqDiff, ↓reduceIte, eq_self, Nat.reduceAdd, Nat.reduceMul, Nat.reduceSub, Nat.reduceLeDiff, Nat.reduceLT, defd, cellsOf, wr, packR, Int.reduceLE, Int.reduceLT, Int.reduceEq, Int.cast_ofNat_Int, Int.reduceToNat]
      simp [vZ]
    simp only [↓vA, ↓vE, ↓vO, ↓vB, ↓vF, ↓vM, ↓vR, ↓vX, cvF_pc, vP, shb, shv, shvs, she_nil, she_cons, vC, vQ, not_false_eq_true, Nat.reduceEqDiff, ↓reduceIte, eq_self, Nat.reduceAdd, Nat.reduceMul, Nat.reduceSub, Nat.reduceLeDiff, Nat.reduceLT, defd, cellsOf, wr, packR, Int.reduceLE, Int.reduceLT, Int.reduceEq, Int.cast_ofNat_Int, Int.reduceToNat, hv, hv2]
    refine (h2 l (by omega)).sc ?_
    cases hM : mayM l with
    | false =>
      simp only [↓vA, ↓vE, ↓vO, ↓vB, ↓vF, ↓vM, ↓vR, ↓vX, cvF_pc, vP, shb, shv, shvs, she_nil, she_cons, vC, vQ, not_false_eq_true, Nat.reduceEqDiff, ↓reduceIte, eq_self, Nat.reduceAdd, Nat.reduceMul, Nat.reduceSub, Nat.reduceLeDiff, Nat.reduceLT, defd, cellsOf, wr, packR, Int.reduceLE, Int.reduceLT, Int.reduceEq, Int.cast_ofNat_Int, Int.reduceToNat]
      refine h3.sc ?_
      simp only [↓vA, ↓vE, ↓vO, ↓vB, ↓vF, ↓vM, ↓vR, ↓vX, cvF_pc, vP, shb, shv, shvs, she_nil, she_cons, vC, vQ, not_false_eq_true, Nat.reduceEqDiff, ↓reduceIte, eq_self, Nat.reduceAdd, Nat.reduceMul, Nat.reduceSub, Nat.reduceLeDiff, Nat.reduceLT, defd, cellsOf, wr, packR, Int.reduceLE, Int.reduceLT, Int.reduceEq, Int.cast_ofNat_Int, Int.reduceToNat]
      simp [vZ]
    | true =>
      by_cases hno : name = other
      · simp only [↓vA, ↓vE, ↓vO, ↓vB, ↓vF, ↓vM, ↓vR, ↓vX, cvF_pc, vP, shb, shv, shvs, she_nil, she_cons, vC, vQ, not_false_eq_true, Nat.reduceEqDiff, ↓reduceIte, eq_self, Nat.reduceAdd, Nat.reduceMul, Nat.reduceSub, Nat.reduceLeDiff, Nat.reduceLT, defd, cellsOf, wr, packR, Int.reduceLE, Int.reduceLT, Int.reduceEq, Int.cast_ofNat_Int, Int.reduceToNat, hno]
        refine h3.sc ?_
        simp only [↓vA, ↓vE, ↓vO, ↓vB, ↓vF, ↓vM, ↓vR, ↓vX, cvF_pc, vP, shb, shv, shvs, she_nil, she_cons, vC, vQ, not_false_eq_true, Nat.reduceEqDiff, ↓reduceIte, eq_self, Nat.reduceAdd, Nat.reduceMul, Nat.reduceSub, Nat.reduceLeDiff, Nat.reduceLT, defd, cellsOf, wr, packR, Int.reduceLE, Int.reduceLT, Int.reduceEq, Int.cast_ofNat_Int, Int.reduceToNat]
        simp [vZ]
      · have hno' : ¬ other = name := fun h => hno h.symm
        have p1 := putM_len l name a
        have p2 := takeM_len l name
        simp only [↓vA, ↓vE, ↓vO, ↓vB, ↓vF, ↓vM, ↓vR, ↓vX, cvF_pc, vP, shb, shv, shvs, she_nil, she_cons, vC, vQ, not_false_eq_true, Nat.reduceEqDiff, ↓reduceIte, eq_self, Nat.reduceAdd, Nat.reduceMul, Nat.reduceSub, Nat.reduceLeDiff, Nat.reduceLT, defd, cellsOf, wr, packR, Int.reduceLE, Int.reduceLT, Int.reduceEq, Int.cast_ofNat_Int, Int.reduceToNat, hno]
        refine VD_pc ?_
        simp only [↓vA, ↓vE, ↓vO, ↓vB, ↓vF, ↓vM, ↓vR, ↓vX, cvF_pc, vP, shb, shv, shvs, she_nil, she_cons, vC, vQ, not_false_eq_true, Nat.reduceEqDiff, ↓reduceIte, eq_self, Nat.reduceAdd, Nat.reduceMul, Nat.reduceSub, Nat.reduceLeDiff, Nat.reduceLT, defd, cellsOf, wr, packR, Int.reduceLE, Int.reduceLT, Int.reduceEq, Int.cast_ofNat_Int, Int.reduceToNat]
        refine (h4 l name a (by omega)).pc ?_
        simp only [↓vA, ↓vE, ↓vO, ↓vB, ↓vF, ↓vM, ↓vR, ↓vX, cvF_pc, vP, shb, shv, shvs, she_nil, she_cons, vC, vQ, not_false_eq_true, Nat.reduceEqDiff, ↓reduceIte, eq_self, Nat.reduceAdd, Nat.reduceMul, Nat.reduceSub, Nat.reduceLeDiff, Nat.reduceLT, defd, cellsOf, wr, packR, Int.reduceLE, Int.reduceLT, Int.reduceEq, Int.cast_ofNat_Int, Int.reduceToNat]
        refine (h5 l name (by omega)).pc ?_
        have f1 := putM_find hM name a name
        have f2 := putM_find hM name a other
        have f3 := takeM_find hM name name
        have f4 := takeM_find hM name other
        rw [if_pos rfl] at f1 f3
        rw [if_neg hno'] at f2 f4
        generalize putM l name a = A at p1 f1 f2 ⊢
        generalize takeM l name = B at p2 f3 f4 ⊢
        simp only [↓vA, ↓vE, ↓vO, ↓vB, ↓vF, ↓vM, ↓vR, ↓vX, cvF_pc, vP, shb, shv, shvs, she_nil, she_cons, vC, vQ, not_false_eq_true, Nat.reduceEqDiff, ↓reduceIte, eq_self, Nat.reduceAdd, Nat.reduceMul, Nat.reduceSub, Nat.reduceLeDiff, Nat.reduceLT, defd, cellsOf, wr, packR, Int.reduceLE, Int.reduceLT, Int.reduceEq, Int.cast_ofNat_Int, Int.reduceToNat, cList]
        refine (h6 A name (by omega)).sc ?_
        simp only [↓vA, ↓vE, ↓vO, ↓vB, ↓vF, ↓vM, ↓vR, ↓vX, cvF_pc, vP, shb, shv, shvs, she_nil, she_cons, vC, vQ, not_false_eq_true, Nat.reduceEqDiff, ↓reduceIte, eq_self, Nat.reduceAdd, Nat.reduceMul, Nat.reduceSub, Nat.reduceLeDiff, Nat.reduceLT, defd, cellsOf, wr, packR, Int.reduceLE, Int.reduceLT, Int.reduceEq, Int.cast_ofNat_Int, Int.reduceToNat]
        refine (h6 B name (by omega)).sc ?_
        simp only [↓vA, ↓vE, ↓vO, ↓vB, ↓vF, ↓vM, ↓vR, ↓vX, cvF_pc, vP, shb, shv, shvs, she_nil, she_cons, vC, vQ, not_false_eq_true, Nat.reduceEqDiff, ↓reduceIte, eq_self, Nat.reduceAdd, Nat.reduceMul, Nat.reduceSub, Nat.reduceLeDiff, Nat.reduceLT, defd, cellsOf, wr, packR, Int.reduceLE, Int.reduceLT, Int.reduceEq, Int.cast_ofNat_Int, Int.reduceToNat]
        refine (h6 l other (by omega)).sc ?_
        simp only [↓vA, ↓vE, ↓vO, ↓vB, ↓vF, ↓vM, ↓vR, ↓vX, cvF_pc, vP, shb, shv, shvs, she_nil, she_cons, vC, vQ, not_false_eq_true, Nat.reduceEqDiff, ↓reduceIte, eq_self, Nat.reduceAdd, Nat.reduceMul, Nat.reduceSub, Nat.reduceLeDiff, Nat.reduceLT, defd, cellsOf, wr, packR, Int.reduceLE, Int.reduceLT, Int.reduceEq, Int.cast_ofNat_Int, Int.reduceToNat]
        refine (h6 A other (by omega)).sc ?_
        simp only [↓vA, ↓vE, ↓vO, ↓vB, ↓vF, ↓vM, ↓vR, ↓vX, cvF_pc, vP, shb, shv, shvs, she_nil, she_cons, vC, vQ, not_false_eq_true, Nat.reduceEqDiff, ↓reduceIte, eq_self, Nat.reduceAdd, Nat.reduceMul, Nat.reduceSub, Nat.reduceLeDiff, Nat.reduceLT, defd, cellsOf, wr, packR, Int.reduceLE, Int.reduceLT, Int.reduceEq, Int.cast_ofNat_Int, Int.reduceToNat]
        refine (h6 B other (by omega)).sc ?_
        rw [f1, f2, f3, f4]
        generalize findC l.calls other = Z
        cases Z with
        | none =>
          simp (decide := true) only [↓vA, ↓vE, ↓vO, ↓vB, ↓vF, ↓vM, ↓vR, ↓vX, cvF_pc, vP, shb, shv, shvs, she_nil, she_cons, vC, vQ, not_false_eq_true, Nat.reduceEqDiff, ↓reduceIte, eq_self, Nat.reduceAdd, Nat.reduceMul, Nat.reduceSub, Nat.reduceLeDiff, Nat.reduceLT, defd, cellsOf, wr, packR, Int.reduceLE, Int.reduceLT, Int.reduceEq, Int.cast_ofNat_Int, Int.reduceToNat, Option.isSome_some, Option.isSome_none]
          refine S.weak (Wk.mk _ _ [0] ?_ ?_ ?_ rfl) (one_mid h3 h6 h7 l hM hm0 name t)
          · simp [vW, bw_map, mapAt_map, mapClo_it, mapClo_nil, mapClo_cons, vP, vZ, Tr.get_set]
          · simp [vW, bw_map, mapAt_map, mapClo_it, mapClo_nil, mapClo_cons, vP, vZ, Tr.get_set, cList]
          · simp
        | some z =>
          simp (decide := true) only [↓vA, ↓vE, ↓vO, ↓vB, ↓vF, ↓vM, ↓vR, ↓vX, cvF_pc, vP, shb, shv, shvs, she_nil, she_cons, vC, vQ, not_false_eq_true, Nat.reduceEqDiff, ↓reduceIte, eq_self, Nat.reduceAdd, Nat.reduceMul, Nat.reduceSub, Nat.reduceLeDiff, Nat.reduceLT, defd, cellsOf, wr, packR, Int.reduceLE, Int.reduceLT, Int.reduceEq, Int.cast_ofNat_Int, Int.reduceToNat, Option.isSome_some, Option.isSome_none]
          refine S.weak (Wk.mk _ _ [0] ?_ ?_ ?_ rfl) (one_mid h3 h6 h7 l hM hm0 name t)
          · simp [vW, bw_map, mapAt_map, mapClo_it, mapClo_nil, mapClo_cons, vP, vZ, Tr.get_set]
          · simp [vW, bw_map, mapAt_map, mapClo_it, mapClo_nil, mapClo_cons, vP, vZ, Tr.get_set, cList]
          · simp
end Go.Kc
end
section
/- What values come to, as the kernel can count it. No condition. -/
namespace Go.Kc
noncomputable def stepF (l : GList) (o : List UInt8 × Option Int) : GList := match o.2 with
  | some a => ⟨l.mode, l.calls.filter (fun c => ltS c.name o.1) ++ ⟨o.1, a⟩ :: l.calls.filter (fun c => ltS o.1 c.name)⟩
  | none => ⟨l.mode, l.calls.filter fun c => !eqS c.name o.1⟩
theorem eqS_dec (a b : List UInt8) : eqS a b = decide (a = b) := by
  rw [eqS_eq, Bool.eq_iff_iff]; simp
theorem stepF_eq {l : GList} (h : mayM l = true) (o : List UInt8 × Option Int) : stepO l o = stepF l o := by
  obtain ⟨n, a⟩ := o
  cases a with
  | some a =>
    have e : stepO l (n, some a) = ⟨l.mode, putL l.calls n a⟩ := if_pos h
    rw [e, putL_eq ((mayM_iff l).1 h).2.2]; rfl
  | none =>
    have e : stepO l (n, none) = ⟨l.mode, l.calls.filter fun c => !decide (c.name = n)⟩ := if_pos h
    rw [e]
    simp only [stepF, eqS_dec]
theorem foldF_eq : ∀ {os : List (List UInt8 × Option Int)} {l : GList}, mayM l = true → l.mode ≠ 0 → (∀ o ∈ os, okO o) → os.foldl stepO l = os.foldl stepF l
  | [], _, _, _, _ => rfl
  | o :: os, l, h, hm, ho => by
    obtain ⟨h1, h2, _⟩ := stepO_may h hm (ho o List.mem_cons_self)
    rw [List.foldl_cons, List.foldl_cons, foldF_eq h1 (by rw [h2]; exact hm) (fun x hx => ho x (List.mem_cons_of_mem _ hx)), stepF_eq h]
variable (E : List UInt8 → List (List UInt8) × Int)
noncomputable def stepC (l : GList) (v : List UInt8) (fl : Bool) : GList × List GNote :=
  if (wB v []).isEmpty = true then (⟨0, []⟩, []) else
    (((wB (turnP v).1 []).flatMap (opsW E fl (turnP v).2 (modeM l.mode (turnP v).2))).foldl stepF ⟨modeM l.mode (turnP v).2, l.calls⟩, (wB (turnP v).1 []).flatMap (notesW E fl (turnP v).2))
theorem stepC_eq {E : List UInt8 → List (List UInt8) × Int} (hE : ExpOk E) {l : GList} (h : mayM l = true) (v : List UInt8) (fl : Bool) : stepM E l v fl = stepC E l v fl := by
  unfold stepC
  by_cases hw : words v = []
  · rw [stepM_none h fl hw]
    rw [words_wB] at hw
    rw [if_pos (by simp [hw])]
  · rw [stepM_eq h hw]
    rw [if_neg (by rw [← words_wB]; simpa using hw), ← words_wB, foldF_eq (may_mode h _) (modeM_pos _ _)]
    intro o ho
    obtain ⟨w, _, hw⟩ := List.mem_flatMap.1 ho
    exact opsW_ok hE _ _ _ w o hw
noncomputable def foldSC (fl : Bool) (s : GList × List GNote) (v : List UInt8) : GList × List GNote := ((stepC E s.1 v fl).1, s.2 ++ (stepC E s.1 v fl).2)
noncomputable def foldS (fl : Bool) (s : GList × List GNote) (v : List UInt8) : GList × List GNote := ((stepM E s.1 v fl).1, s.2 ++ (stepM E s.1 v fl).2)
noncomputable def foldM (l : List (List UInt8)) (fl : Bool) : GList × List GNote := l.foldl (foldS E fl) (⟨0, []⟩, [])
noncomputable def foldC (l : List (List UInt8)) (fl : Bool) : GList × List GNote := l.foldl (foldSC E fl) (⟨0, []⟩, [])
theorem foldSC_eq {E : List UInt8 → List (List UInt8) × Int} (hE : ExpOk E) (fl : Bool) : ∀ (l : List (List UInt8)) (s : GList × List GNote), mayM s.1 = true → l.foldl (foldS E fl) s = l.foldl (foldSC E fl) s
  | [], _, _ => rfl
  | v :: l, s, h => by
    have e : foldS E fl s v = foldSC E fl s v := by unfold foldS foldSC; rw [stepC_eq hE h]
    rw [List.foldl_cons, List.foldl_cons, foldSC_eq hE fl l (foldS E fl s v) (stepM_may hE h v fl), e]
theorem foldC_eq {E : List UInt8 → List (List UInt8) × Int} (hE : ExpOk E) (l : List (List UInt8)) (fl : Bool) : foldM E l fl = foldC E l fl := foldSC_eq hE fl l _ rfl
end Go.Kc
end
section
/- What fold.Fold answers; the law's comes. Condition: the functions' texts are these. -/
namespace Go.Kc
variable {P : Program} {f : Nat}
theorem foldS_ok {E : List UInt8 → List (List UInt8) × Int} (hE : ExpOk E) (fl : Bool) : ∀ (l : List (List UInt8)) (s : GList × List GNote), mayM s.1 = true → 0 ≤ s.1.mode → (∀ v ∈ l, v.length ≤ 1000) →
    mayM (l.foldl (foldS E fl) s).1 = true ∧ 0 ≤ (l.foldl (foldS E fl) s).1.mode ∧ (l.foldl (foldS E fl) s).2.length ≤ s.2.length + 1000 * l.length
  | [], s, h, h0, _ => ⟨h, h0, by simp⟩
  | v :: l, s, h, h0, hv => by
    have h1 := stepM_may hE h v fl
    have h2 : 0 ≤ (stepM E s.1 v fl).1.mode := by
      by_cases hw : words v = []
      · rw [stepM_none h fl hw]; decide
      · rw [stepM_mode h fl hw]; unfold modeM; split; (split <;> decide); exact h0
    have h3 := stepM_len (E := E) s.1 v fl
    have h4 := hv v List.mem_cons_self
    obtain ⟨k1, k2, k3⟩ := foldS_ok hE fl l (foldS E fl s v) h1 h2 (fun x hx => hv x (List.mem_cons_of_mem _ hx))
    refine ⟨k1, k2, ?_⟩
    have e : (foldS E fl s v).2.length = s.2.length + (stepM E s.1 v fl).2.length := by simp [foldS]
    rw [e] at k3
    simp only [List.foldl_cons, List.length_cons]; omega
def cFold (E : List UInt8 → List (List UInt8) × Int) (P : Program) (f : Nat) : Prop := ∀ (l : List (List UInt8)) (fl : Bool), l.length ≤ 100 → (∀ v ∈ l, v.length ≤ 1000) →
  Pure P f [.fz l.length (rS l), .b fl] (.tup [.agg (cList (foldM E l fl).1), .fz (foldM E l fl).2.length (rN (foldM E l fl).2)])
def ir_fold_Fold (f_fold_Step : Nat) : IFn := ⟨[.cell 4 2 true, .tmp 5],
  .seq (.reg false [⟨(some 4), .op (.alloc [.i .u8 0, .nils]), none⟩,
    ⟨(some 5), .op (.mov (.c (.nils))), none⟩])
  (.seq (.reg false [⟨(some 6), .op (.alloc [.i .u8 0, .nils]), none⟩])
  (.seq (.reg false [⟨(some 7), .op (.mov (.c (.nils))), none⟩])
  (.seq (.seq (.reg false [⟨(some 12), .op (.mov (.t 0)), none⟩,
    ⟨(some 13), .op (.len false (.t 12)), none⟩,
    ⟨(some 14), .op (.mov (.c (.i .i64 0))), none⟩])
  (.blk 0 (.loop (.seq (.reg false [⟨(some 15), .op (.bin .lss (.t 14) (.t 13)), none⟩])
  (.seq (.cond (.t 15) (.skip) (.exit 0))
  (.seq (.blk 1 (.seq (.reg false [⟨(some 16), .op (.iAddrS 1 (.t 12) (.t 14)), none⟩,
    ⟨(some 17), .op (.load1 (.t 16)), none⟩,
    ⟨(some 9), .op (.mov (.t 17)), none⟩])
  (.seq (.reg false [⟨(some 19), .op (.loadN 2 (.t 6)), none⟩,
    ⟨(some 20), .op (.mov (.t 9)), none⟩,
    ⟨(some 21), .op (.mov (.t 1)), none⟩,
    ⟨(some 22), .callF f_fold_Step [(.t 19), (.t 20), (.t 21)], none⟩,
    ⟨(some 18), .op (.mov (.t 22)), none⟩,
    ⟨(some 23), .op (.ext (.t 18) 0), none⟩,
    ⟨(some 24), .op (.ext (.t 18) 1), none⟩,
    ⟨(some 10), .op (.alloc [.i .u8 0, .nils]), none⟩,
    ⟨none, .op (.store 2 (.t 10) (.t 23)), none⟩,
    ⟨(some 11), .op (.mov (.t 24)), none⟩])
  (.reg true [⟨(some 25), .op (.loadN 2 (.t 10)), none⟩,
    ⟨(some 26), .op (.mov (.t 7)), none⟩,
    ⟨(some 27), .op (.mov (.t 11)), none⟩,
    ⟨(some 28), .op (.appD 4 48 (.t 26) (.t 27) [10]), none⟩,
    ⟨none, .op (.store 2 (.t 6) (.t 25)), none⟩,
    ⟨(some 7), .op (.mov (.t 28)), none⟩]))))
  (.reg false [⟨(some 29), .op (.bin .add (.t 14) (.c (.i .i64 1))), none⟩,
    ⟨(some 14), .op (.mov (.t 29)), none⟩])))))))
  (.seq (.reg false [⟨(some 30), .op (.loadN 2 (.t 6)), none⟩,
    ⟨(some 31), .op (.mov (.t 7)), none⟩,
    ⟨none, .op (.store 2 (.t 4) (.t 30)), none⟩,
    ⟨(some 5), .op (.mov (.t 31)), none⟩])
  (.ret)))))⟩
theorem fold_pure {g1 : Nat} {E : List UInt8 → List (List UInt8) × Int} (hc : chkFn P f (ir_fold_Fold g1) = true) (hE : ExpOk E) (h1 : cStep E P g1) : cFold E P f := by
  intro l fl hl hv
  refine Pure.mk hc (by simp [clos, clo, rS_clos]) ?_
  simp only [ir_fold_Fold, argsT, H0, mkT, mkH, trL, List.length_cons, List.length_nil, Nat.reduceAdd, Nat.zero_add]
  simp only [↓vA, ↓vE, ↓vO, ↓vB, ↓vF, ↓vM, ↓vR, ↓vX, cvF_pc, vP, shb, shv, shvs, she_nil, she_cons, vC, vQ, not_false_eq_true, Nat.reduceEqDiff, ↓reduceIte, eq_self, Nat.reduceAdd, Nat.reduceMul, Nat.reduceSub, Nat.reduceLeDiff, Nat.reduceLT, defd, cellsOf, wr, packR, Int.reduceLE, Int.reduceLT, Int.reduceEq, Int.cast_ofNat_Int, Int.reduceToNat]
  refine SL.loop (α := Nat) (fun j => [(1, .b fl), (4, .ptr 0 0), (6, .ptr 1 0), (7, .own 2 ((l.take j).foldl (foldS E fl) (⟨0, []⟩, [])).2.length), (12, .fz l.length (rS l)), (13, .i .i64 l.length), (14, .i .i64 j)])
    (fun j => [.cells 0 true false [.i .u8 0, .nils], .cells 0 true false (cList ((l.take j).foldl (foldS E fl) (⟨0, []⟩, [])).1), .cells 4 true true (rN ((l.take j).foldl (foldS E fl) (⟨0, []⟩, [])).2)])
    (fun j => j ≤ l.length) (fun j => l.length - j) 0 [0, 1, 2] ?_ ?_ ?_ rfl ?_ ?_
  · simp [vW, bw_map, mapAt_map, mapClo_it, mapClo_nil, mapClo_cons, vP, vZ, Tr.get_set, rS_clos]
  · simp [vW, bw_map, mapAt_map, mapClo_it, mapClo_nil, mapClo_cons, vP, vZ, Tr.get_set, cList, nvs_self, rN_nil, rC_nil]
  · simp
  · exact Nat.zero_le _
  rintro j hj G ih
  obtain ⟨k1, k2, k3⟩ := foldS_ok hE fl (l.take j) (⟨0, []⟩, []) rfl (Int.le_refl 0) (fun v hx => hv v (List.mem_of_mem_take hx))
  have k4 := may_len k1
  simp only [List.length_take, List.length_nil, Nat.zero_add] at k3
  generalize hr : (l.take j).foldl (foldS E fl) (⟨0, []⟩, []) = r at k1 k2 k3 k4 ih ⊢
  simp only [argsT, H0, mkT, mkH, trL, List.length_cons, List.length_nil, Nat.reduceAdd, Nat.zero_add, cList]
  by_cases hlt : j < l.length
  · have hx : (rS l)[j]? = some (.s l[j]) := by rw [rS_get, List.getElem?_eq_getElem hlt]; rfl
    have hwj : IntKind.wrap .i64 ((j : Int) + 1) = ((j + 1 : Nat) : Int) := by rw [wrap64 (by omega) (by omega)]; omega
    have hnext : (l.take (j + 1)).foldl (foldS E fl) (⟨0, []⟩, []) = foldS E fl r l[j] := by
      rw [List.take_add_one, List.getElem?_eq_getElem hlt, List.foldl_append, hr]; rfl
    have ih2 := ih (j + 1)
    rw [hnext] at ih2
    have hvj := hv l[j] (List.getElem_mem hlt)
    generalize l[j] = v at hx hnext hvj ih2
    have k5 := stepM_len (E := E) r.1 v fl
    simp only [↓vA, ↓vE, ↓vO, ↓vB, ↓vF, ↓vM, ↓vR, ↓vX, cvF_pc, vP, shb, shv, shvs, she_nil, she_cons, vC, vQ, not_false_eq_true, Nat.reduceEqDiff, ↓reduceIte, eq_self, Nat.reduceAdd, Nat.reduceMul, Nat.reduceSub, Nat.reduceLeDiff, Nat.reduceLT, defd, cellsOf, wr, packR, Int.reduceLE, Int.reduceLT, Int.reduceEq, Int.cast_ofNat_Int, Int.reduceToNat, hlt, hx, Nat.mul_one]
    refine (h1 r.1 v fl (by omega) hvj k2).sc ?_
    simp only [foldS] at ih2
    generalize stepM E r.1 v fl = R at k5 ih2 ⊢
    have hr1 : r.2.length + R.2.length ≤ roomB := by simp only [roomB]; omega
    have hr2 : (r.2.length + R.2.length) * 48 ≤ roomB := by simp only [roomB]; omega
    simp only [↓vA, ↓vE, ↓vO, ↓vB, ↓vF, ↓vM, ↓vR, ↓vX, cvF_pc, vP, shb, shv, shvs, she_nil, she_cons, vC, vQ, not_false_eq_true, Nat.reduceEqDiff, ↓reduceIte, eq_self, Nat.reduceAdd, Nat.reduceMul, Nat.reduceSub, Nat.reduceLeDiff, Nat.reduceLT, defd, cellsOf, wr, packR, Int.reduceLE, Int.reduceLT, Int.reduceEq, Int.cast_ofNat_Int, Int.reduceToNat, cList]
    refine VD_pc ?_
    simp (decide := true) only [↓vA, ↓vE, ↓vO, ↓vB, ↓vF, ↓vM, ↓vR, ↓vX, cvF_pc, vP, shb, shv, shvs, she_nil, she_cons, vC, vQ, not_false_eq_true, Nat.reduceEqDiff, ↓reduceIte, eq_self, Nat.reduceAdd, Nat.reduceMul, Nat.reduceSub, Nat.reduceLeDiff, Nat.reduceLT, defd, cellsOf, wr, packR, Int.reduceLE, Int.reduceLT, Int.reduceEq, Int.cast_ofNat_Int, Int.reduceToNat, hr1, hr2, rN_len, rN_take, List.take_length, rN_app, rN_ok, hwj]
    refine ih2 (by omega) (by omega) _ _ (Wk.mk _ _ [0, 1, 4] ?_ ?_ ?_ rfl)
    · simp [vW, bw_map, mapAt_map, mapClo_it, mapClo_nil, mapClo_cons, vP, vZ, Tr.get_set, rS_clos]
    · simp [vW, bw_map, mapAt_map, mapClo_it, mapClo_nil, mapClo_cons, vP, vZ, Tr.get_set, cList, nvs_self, rN_clos, rC_clos]
    · simp
  · have hjl : l.take j = l := List.take_of_length_le (by omega)
    rw [hjl] at hr
    have hR : foldM E l fl = r := hr
    rw [hR]
    simp only [↓vA, ↓vE, ↓vO, ↓vB, ↓vF, ↓vM, ↓vR, ↓vX, cvF_pc, vP, shb, shv, shvs, she_nil, she_cons, vC, vQ, not_false_eq_true, Nat.reduceEqDiff, ↓reduceIte, eq_self, Nat.reduceAdd, Nat.reduceMul, Nat.reduceSub, Nat.reduceLeDiff, Nat.reduceLT, defd, cellsOf, wr, packR, Int.reduceLE, Int.reduceLT, Int.reduceEq, Int.cast_ofNat_Int, Int.reduceToNat, hlt]
    simp [vZ, vP, Tr.get_set, cList, frzs_self rC_clos, frzs_self rN_clos]
    intro h0; rw [h0]; rfl
def cCallP (P : Program) (f : Nat) : Prop := ∀ (s : List UInt8) (a : Int), Pure P f [.s s, .i .u32 a] (.agg [.s s, .i .u32 a])
def ir_vestibulelaw16_call : IFn := ⟨[.cell 4 2 true],
  .seq (.reg false [⟨(some 4), .op (.alloc [.s [], .i .u32 0]), none⟩])
  (.seq (.reg false [⟨(some 5), .op (.mov (.t 0)), none⟩,
    ⟨(some 6), .op (.mov (.t 1)), none⟩,
    ⟨(some 7), .op (.build [.s [], .i .u32 0] [(0, 1, (.t 5)), (1, 1, (.t 6))]), none⟩,
    ⟨none, .op (.store 2 (.t 4) (.t 7)), none⟩])
  (.ret))⟩
theorem call_pure (hc : chkFn P f ir_vestibulelaw16_call = true) : cCallP P f := by
  intro s a
  refine Pure.mk hc rfl ?_
  simp only [ir_vestibulelaw16_call, argsT, H0, mkT, mkH, trL, List.length_cons, List.length_nil, Nat.reduceAdd, Nat.zero_add]
  simp only [↓vA, ↓vE, ↓vO, ↓vB, ↓vF, ↓vM, ↓vR, ↓vX, cvF_pc, vP, shb, shv, shvs, she_nil, she_cons, vC, vQ, not_false_eq_true, Nat.reduceEqDiff, ↓reduceIte, eq_self, Nat.reduceAdd, Nat.reduceMul, Nat.reduceSub, Nat.reduceLeDiff, Nat.reduceLT, defd, cellsOf, wr, packR, Int.reduceLE, Int.reduceLT, Int.reduceEq, Int.cast_ofNat_Int, Int.reduceToNat]
  simp [vZ]
def ir_vestibulelaw16_comes (f_fold_Fold : Nat) : IFn := ⟨[.tmp 6],
  .seq (.reg false [⟨(some 6), .op (.mov (.c (.b false))), none⟩])
  (.seq (.reg false [⟨(some 11), .op (.mov (.t 1)), none⟩,
    ⟨(some 12), .callF f_fold_Fold [(.t 11), (.c (.b true))], none⟩,
    ⟨(some 10), .op (.mov (.t 12)), none⟩,
    ⟨(some 13), .op (.ext (.t 10) 0), none⟩,
    ⟨(some 14), .op (.ext (.t 10) 1), none⟩,
    ⟨(some 7), .op (.alloc [.i .u8 0, .nils]), none⟩,
    ⟨none, .op (.store 2 (.t 7) (.t 13)), none⟩,
    ⟨(some 8), .op (.mov (.t 14)), none⟩])
  (.seq (.seq (.reg false [⟨(some 15), .op (.fAddr 0 (.t 7)), none⟩,
    ⟨(some 16), .op (.load1 (.t 15)), none⟩,
    ⟨(some 17), .op (.mov (.t 0)), none⟩,
    ⟨(some 18), .op (.bin .neq (.t 16) (.t 17)), none⟩,
    ⟨(some 19), .op (.mov (.t 18)), none⟩,
    ⟨(some 20), .op (.fAddr 1 (.t 7)), (some (19, false))⟩,
    ⟨(some 21), .op (.load1 (.t 20)), (some (19, false))⟩,
    ⟨(some 22), .op (.len false (.t 21)), (some (19, false))⟩,
    ⟨(some 23), .op (.mov (.t 2)), (some (19, false))⟩,
    ⟨(some 24), .op (.len false (.t 23)), (some (19, false))⟩,
    ⟨(some 25), .op (.bin .neq (.t 22) (.t 24)), (some (19, false))⟩,
    ⟨(some 26), .op (.pick (.t 19) (.c (.b true)) (.t 25)), none⟩])
  (.cond (.t 26) (.seq (.reg false [⟨(some 6), .op (.mov (.c (.b false))), none⟩])
  (.ret)) (.skip)))
  (.seq (.seq (.reg false [⟨(some 9), .op (.mov (.c (.i .i64 0))), none⟩])
  (.blk 0 (.loop (.seq (.seq (.reg false [⟨(some 27), .op (.mov (.t 9)), none⟩,
    ⟨(some 28), .op (.mov (.t 2)), none⟩,
    ⟨(some 29), .op (.len false (.t 28)), none⟩,
    ⟨(some 30), .op (.bin .lss (.t 27) (.t 29)), none⟩])
  (.cond (.t 30) (.skip) (.exit 0)))
  (.seq (.blk 1 (.seq (.reg true [⟨(some 33), .op (.fAddr 1 (.t 7)), none⟩,
    ⟨(some 34), .op (.load1 (.t 33)), none⟩,
    ⟨(some 35), .op (.mov (.t 9)), none⟩,
    ⟨(some 36), .op (.iAddrS 2 (.t 34) (.t 35)), none⟩,
    ⟨(some 37), .op (.loadN 2 (.t 36)), none⟩,
    ⟨(some 38), .op (.mov (.t 2)), none⟩,
    ⟨(some 39), .op (.mov (.t 9)), none⟩,
    ⟨(some 40), .op (.iAddrS 2 (.t 38) (.t 39)), none⟩,
    ⟨(some 41), .op (.loadN 2 (.t 40)), none⟩,
    ⟨(some 42), .op (.eqA true [.s, .i] (.t 37) (.t 41)), none⟩])
  (.cond (.t 42) (.seq (.reg false [⟨(some 6), .op (.mov (.c (.b false))), none⟩])
  (.ret)) (.skip))))
  (.reg false [⟨(some 31), .op (.mov (.t 9)), none⟩,
    ⟨(some 32), .op (.bin .add (.t 31) (.c (.i .i64 1))), none⟩,
    ⟨(some 9), .op (.mov (.t 32)), none⟩]))))))
  (.seq (.reg false [⟨(some 6), .op (.mov (.c (.b true))), none⟩])
  (.ret)))))⟩
def cComes (E : List UInt8 → List (List UInt8) × Int) (P : Program) (f : Nat) : Prop := ∀ (mode : Int) (l : List (List UInt8)) (want : List GCall), l.length ≤ 100 → (∀ v ∈ l, v.length ≤ 1000) → (foldM E l true).1 = ⟨mode, want⟩ →
  Pure P f [.i .u8 mode, .fz l.length (rS l), .fz want.length (rC want)] (.b true)
theorem comes_pure {g1 : Nat} {E : List UInt8 → List (List UInt8) × Int} (hc : chkFn P f (ir_vestibulelaw16_comes g1) = true) (hE : ExpOk E) (h1 : cFold E P g1) : cComes E P f := by
  intro mode l want hl hv hw
  have hlen : want.length ≤ 40 := by
    have := may_len (foldS_ok hE true l (⟨0, []⟩, []) rfl (Int.le_refl 0) hv).1
    rw [show (l.foldl (foldS E true) (⟨0, []⟩, [])).1 = ⟨mode, want⟩ from hw] at this
    exact this
  refine Pure.mk hc (by simp [clos, clo, rS_clos, rC_clos]) ?_
  simp only [ir_vestibulelaw16_comes, argsT, H0, mkT, mkH, trL, List.length_cons, List.length_nil, Nat.reduceAdd, Nat.zero_add]
  simp only [↓vA, ↓vE, ↓vO, ↓vB, ↓vF, ↓vM, ↓vR, ↓vX, cvF_pc, vP, shb, shv, shvs, she_nil, she_cons, vC, vQ, not_false_eq_true, Nat.reduceEqDiff, ↓reduceIte, eq_self, Nat.reduceAdd, Nat.reduceMul, Nat.reduceSub, Nat.reduceLeDiff, Nat.reduceLT, defd, cellsOf, wr, packR, Int.reduceLE, Int.reduceLT, Int.reduceEq, Int.cast_ofNat_Int, Int.reduceToNat]
  refine (h1 l true hl hv).sc ?_
  rw [hw]
  simp only [↓vA, ↓vE, ↓vO, ↓vB, ↓vF, ↓vM, ↓vR, ↓vX, cvF_pc, vP, shb, shv, shvs, she_nil, she_cons, vC, vQ, not_false_eq_true, Nat.reduceEqDiff, ↓reduceIte, eq_self, Nat.reduceAdd, Nat.reduceMul, Nat.reduceSub, Nat.reduceLeDiff, Nat.reduceLT, defd, cellsOf, wr, packR, Int.reduceLE, Int.reduceLT, Int.reduceEq, Int.cast_ofNat_Int, Int.reduceToNat, cList]
  refine SL.loop (α := Nat) (fun j => [(2, .fz want.length (rC want)), (7, .ptr 0 0), (9, .i .i64 j)]) (fun _ => [.cells 0 true false [.i .u8 mode, .fz want.length (rC want)]]) (fun _ => True) (fun j => want.length - j) 0 [0] ?_ ?_ ?_ rfl ?_ ?_
  · simp [vW, bw_map, mapAt_map, mapClo_it, mapClo_nil, mapClo_cons, vP, vZ, Tr.get_set, rC_clos]
  · simp [vW, bw_map, mapAt_map, mapClo_it, mapClo_nil, mapClo_cons, vP, vZ, Tr.get_set, nvs_self, rC_clos]
  · simp
  · trivial
  rintro j - G ih
  simp only [argsT, H0, mkT, mkH, trL, List.length_cons, List.length_nil, Nat.reduceAdd, Nat.zero_add]
  by_cases hlt : j < want.length
  · have hx : want[j]? = some want[j] := List.getElem?_eq_getElem hlt
    have he := rC_elem hx
    have hb := rC_bound hlt
    have hw : IntKind.wrap .i64 ((j : Int) + 1) = ((j + 1 : Nat) : Int) := by rw [wrap64 (by omega) (by omega)]; omega
    simp only [↓vA, ↓vE, ↓vO, ↓vB, ↓vF, ↓vM, ↓vR, ↓vX, cvF_pc, vP, shb, shv, shvs, she_nil, she_cons, vC, vQ, not_false_eq_true, Nat.reduceEqDiff, ↓reduceIte, eq_self, Nat.reduceAdd, Nat.reduceMul, Nat.reduceSub, Nat.reduceLeDiff, Nat.reduceLT, defd, cellsOf, wr, packR, Int.reduceLE, Int.reduceLT, Int.reduceEq, Int.cast_ofNat_Int, Int.reduceToNat, hlt]
    refine VD_pc ?_
    simp (decide := true) only [↓vA, ↓vE, ↓vO, ↓vB, ↓vF, ↓vM, ↓vR, ↓vX, cvF_pc, vP, shb, shv, shvs, she_nil, she_cons, vC, vQ, not_false_eq_true, Nat.reduceEqDiff, ↓reduceIte, eq_self, Nat.reduceAdd, Nat.reduceMul, Nat.reduceSub, Nat.reduceLeDiff, Nat.reduceLT, defd, cellsOf, wr, packR, Int.reduceLE, Int.reduceLT, Int.reduceEq, Int.cast_ofNat_Int, Int.reduceToNat, hlt, hb, he, cCall, hw, beq_self_eq_true]
    refine ih (j + 1) trivial (by omega) _ _ (Wk.mk _ _ [0] ?_ ?_ ?_ rfl)
    · simp [vW, bw_map, mapAt_map, mapClo_it, mapClo_nil, mapClo_cons, vP, vZ, Tr.get_set, rC_clos]
    · simp [vW, bw_map, mapAt_map, mapClo_it, mapClo_nil, mapClo_cons, vP, vZ, Tr.get_set, nvs_self, rC_clos]
    · simp
  · simp only [↓vA, ↓vE, ↓vO, ↓vB, ↓vF, ↓vM, ↓vR, ↓vX, cvF_pc, vP, shb, shv, shvs, she_nil, she_cons, vC, vQ, not_false_eq_true, Nat.reduceEqDiff, ↓reduceIte, eq_self, Nat.reduceAdd, Nat.reduceMul, Nat.reduceSub, Nat.reduceLeDiff, Nat.reduceLT, defd, cellsOf, wr, packR, Int.reduceLE, Int.reduceLT, Int.reduceEq, Int.cast_ofNat_Int, Int.reduceToNat, hlt]
    simp [vZ]
end Go.Kc
end
section
/- Layer 16's rows. Condition: the functions' texts are these. -/
namespace Go.Kc
variable {P : Program} {f : Nat}
def aw1 : List (List UInt8) := [[114, 101, 97, 100, 32, 119, 114, 105, 116, 101], [126, 119, 114, 105, 116, 101]]
def want1 : List GCall := [⟨[114, 101, 97, 100], 0⟩]
theorem aw1_c : (foldC expG aw1 true).1 = ⟨1, want1⟩ := by kernel_rfl
theorem aw1_m : (foldM expG aw1 true).1 = ⟨1, want1⟩ := by rw [foldC_eq expG_ok]; exact aw1_c
def aw2 : List (List UInt8) := [[126, 64, 99, 108, 111, 99, 107, 58, 69, 80, 69, 82, 77, 32, 112, 116, 114, 97, 99, 101], [115, 101, 116, 116, 105, 109, 101, 111, 102, 100, 97, 121]]
def want2 : List GCall := [⟨[99, 108, 111, 99, 107, 95, 115, 101, 116, 116, 105, 109, 101], 327681⟩, ⟨[112, 116, 114, 97, 99, 101], 0⟩]
theorem aw2_c : (foldC expG aw2 true).1 = ⟨2, want2⟩ := by kernel_rfl
theorem aw2_m : (foldM expG aw2 true).1 = ⟨2, want2⟩ := by rw [foldC_eq expG_ok]; exact aw2_c
def aw3 : List (List UInt8) := [[114, 101, 97, 100], [126, 114, 101, 97, 100, 58, 107, 105, 108, 108]]
def want3 : List GCall := [⟨[114, 101, 97, 100], 2147483648⟩]
theorem aw3_c : (foldC expG aw3 true).1 = ⟨1, want3⟩ := by kernel_rfl
theorem aw3_m : (foldM expG aw3 true).1 = ⟨1, want3⟩ := by rw [foldC_eq expG_ok]; exact aw3_c
def aw4 : List (List UInt8) := [[114, 101, 97, 100], [], [126, 114, 101, 97, 100]]
def want4 : List GCall := [⟨[114, 101, 97, 100], 0⟩]
theorem aw4_c : (foldC expG aw4 true).1 = ⟨2, want4⟩ := by kernel_rfl
theorem aw4_m : (foldM expG aw4 true).1 = ⟨2, want4⟩ := by rw [foldC_eq expG_ok]; exact aw4_c
def aw5 : List (List UInt8) := [[110, 111, 116, 104, 105, 110, 103, 32, 64, 110, 111, 110, 101, 32, 114, 101, 97, 100, 58, 53, 32, 64, 110, 101, 115, 116]]
def nts5 : List GNote := [⟨[], 0, 90, [110, 111, 116, 104, 105, 110, 103]⟩, ⟨[], 0, 110, [64, 110, 111, 110, 101]⟩, ⟨[], 0, 161, [114, 101, 97, 100, 58, 53]⟩, ⟨[], 0, 111, [64, 110, 101, 115, 116]⟩]
theorem aw5_c : foldC expG aw5 true = (⟨1, want1⟩, nts5) := by kernel_rfl
theorem aw5_m : foldM expG aw5 true = (⟨1, want1⟩, nts5) := by rw [foldC_eq expG_ok]; exact aw5_c
def ir_vestibulelaw16_awake (f_vestibulelaw16_call f_vestibulelaw16_comes f_fold_Fold f_fold_Warns : Nat) : IFn := ⟨[.tmp 0],
  .seq (.reg false [⟨(some 0), .op (.mov (.c (.b false))), none⟩])
  (.seq (.seq (.reg false [⟨(some 3), .op (.buildS 2 [.s []] [(0, 1, (.c (.s [114, 101, 97, 100, 32, 119, 114, 105, 116, 101]))), (1, 1, (.c (.s [126, 119, 114, 105, 116, 101])))]), none⟩,
    ⟨(some 4), .callF f_vestibulelaw16_call [(.c (.s [114, 101, 97, 100])), (.c (.i .u32 0))], none⟩,
    ⟨(some 5), .op (.buildS 1 [.s [], .i .u32 0] [(0, 2, (.t 4))]), none⟩,
    ⟨(some 6), .callF f_vestibulelaw16_comes [(.c (.i .u8 1)), (.t 3), (.t 5)], none⟩,
    ⟨(some 7), .op (.un .not (.t 6)), none⟩,
    ⟨(some 8), .op (.mov (.t 7)), none⟩,
    ⟨(some 9), .op (.buildS 2 [.s []] [(0, 1, (.c (.s [126, 64, 99, 108, 111, 99, 107, 58, 69, 80, 69, 82, 77, 32, 112, 116, 114, 97, 99, 101]))), (1, 1, (.c (.s [115, 101, 116, 116, 105, 109, 101, 111, 102, 100, 97, 121])))]), (some (8, false))⟩,
    ⟨(some 10), .callF f_vestibulelaw16_call [(.c (.s [99, 108, 111, 99, 107, 95, 115, 101, 116, 116, 105, 109, 101])), (.c (.i .u32 327681))], (some (8, false))⟩,
    ⟨(some 11), .callF f_vestibulelaw16_call [(.c (.s [112, 116, 114, 97, 99, 101])), (.c (.i .u32 0))], (some (8, false))⟩,
    ⟨(some 12), .op (.buildS 2 [.s [], .i .u32 0] [(0, 2, (.t 10)), (2, 2, (.t 11))]), (some (8, false))⟩,
    ⟨(some 13), .callF f_vestibulelaw16_comes [(.c (.i .u8 2)), (.t 9), (.t 12)], (some (8, false))⟩,
    ⟨(some 14), .op (.un .not (.t 13)), (some (8, false))⟩,
    ⟨(some 15), .op (.pick (.t 8) (.c (.b true)) (.t 14)), none⟩,
    ⟨(some 16), .op (.mov (.t 15)), none⟩,
    ⟨(some 17), .op (.buildS 2 [.s []] [(0, 1, (.c (.s [114, 101, 97, 100]))), (1, 1, (.c (.s [126, 114, 101, 97, 100, 58, 107, 105, 108, 108])))]), (some (16, false))⟩,
    ⟨(some 18), .callF f_vestibulelaw16_call [(.c (.s [114, 101, 97, 100])), (.c (.i .u32 2147483648))], (some (16, false))⟩,
    ⟨(some 19), .op (.buildS 1 [.s [], .i .u32 0] [(0, 2, (.t 18))]), (some (16, false))⟩,
    ⟨(some 20), .callF f_vestibulelaw16_comes [(.c (.i .u8 1)), (.t 17), (.t 19)], (some (16, false))⟩,
    ⟨(some 21), .op (.un .not (.t 20)), (some (16, false))⟩,
    ⟨(some 22), .op (.pick (.t 16) (.c (.b true)) (.t 21)), none⟩,
    ⟨(some 23), .op (.mov (.t 22)), none⟩,
    ⟨(some 24), .op (.buildS 3 [.s []] [(0, 1, (.c (.s [114, 101, 97, 100]))), (1, 1, (.c (.s []))), (2, 1, (.c (.s [126, 114, 101, 97, 100])))]), (some (23, false))⟩,
    ⟨(some 25), .callF f_vestibulelaw16_call [(.c (.s [114, 101, 97, 100])), (.c (.i .u32 0))], (some (23, false))⟩,
    ⟨(some 26), .op (.buildS 1 [.s [], .i .u32 0] [(0, 2, (.t 25))]), (some (23, false))⟩,
    ⟨(some 27), .callF f_vestibulelaw16_comes [(.c (.i .u8 2)), (.t 24), (.t 26)], (some (23, false))⟩,
    ⟨(some 28), .op (.un .not (.t 27)), (some (23, false))⟩,
    ⟨(some 29), .op (.pick (.t 23) (.c (.b true)) (.t 28)), none⟩])
  (.cond (.t 29) (.seq (.reg false [⟨(some 0), .op (.mov (.c (.b false))), none⟩])
  (.ret)) (.skip)))
  (.seq (.reg false [⟨(some 31), .op (.buildS 1 [.s []] [(0, 1, (.c (.s [110, 111, 116, 104, 105, 110, 103, 32, 64, 110, 111, 110, 101, 32, 114, 101, 97, 100, 58, 53, 32, 64, 110, 101, 115, 116])))]), none⟩,
    ⟨(some 32), .callF f_fold_Fold [(.t 31), (.c (.b true))], none⟩,
    ⟨(some 30), .op (.mov (.t 32)), none⟩,
    ⟨(some 33), .op (.ext (.t 30) 0), none⟩,
    ⟨(some 34), .op (.ext (.t 30) 1), none⟩,
    ⟨(some 1), .op (.alloc [.i .u8 0, .nils]), none⟩,
    ⟨none, .op (.store 2 (.t 1) (.t 33)), none⟩,
    ⟨(some 2), .op (.mov (.t 34)), none⟩])
  (.seq (.reg false [⟨(some 35), .op (.fAddr 0 (.t 1)), none⟩,
    ⟨(some 36), .op (.load1 (.t 35)), none⟩,
    ⟨(some 37), .op (.bin .eql (.t 36) (.c (.i .u8 1))), none⟩,
    ⟨(some 38), .op (.mov (.t 37)), none⟩,
    ⟨(some 39), .op (.fAddr 1 (.t 1)), (some (38, true))⟩,
    ⟨(some 40), .op (.load1 (.t 39)), (some (38, true))⟩,
    ⟨(some 41), .op (.len false (.t 40)), (some (38, true))⟩,
    ⟨(some 42), .op (.bin .eql (.t 41) (.c (.i .i64 1))), (some (38, true))⟩,
    ⟨(some 43), .op (.pick (.t 38) (.t 42) (.c (.b false))), none⟩,
    ⟨(some 44), .op (.mov (.t 43)), none⟩,
    ⟨(some 45), .op (.mov (.t 2)), (some (44, true))⟩,
    ⟨(some 46), .op (.len false (.t 45)), (some (44, true))⟩,
    ⟨(some 47), .op (.bin .eql (.t 46) (.c (.i .i64 4))), (some (44, true))⟩,
    ⟨(some 48), .op (.pick (.t 44) (.t 47) (.c (.b false))), none⟩,
    ⟨(some 49), .op (.mov (.t 48)), none⟩,
    ⟨(some 50), .op (.mov (.t 2)), (some (49, true))⟩,
    ⟨(some 51), .op (.iAddrS 4 (.t 50) (.c (.i .i64 0))), (some (49, true))⟩,
    ⟨(some 52), .op (.fAddr 2 (.t 51)), (some (49, true))⟩,
    ⟨(some 53), .op (.load1 (.t 52)), (some (49, true))⟩,
    ⟨(some 54), .op (.bin .eql (.t 53) (.c (.i .i64 90))), (some (49, true))⟩,
    ⟨(some 55), .op (.pick (.t 49) (.t 54) (.c (.b false))), none⟩,
    ⟨(some 56), .op (.mov (.t 55)), none⟩,
    ⟨(some 57), .op (.mov (.t 2)), (some (56, true))⟩,
    ⟨(some 58), .op (.iAddrS 4 (.t 57) (.c (.i .i64 1))), (some (56, true))⟩,
    ⟨(some 59), .op (.fAddr 2 (.t 58)), (some (56, true))⟩,
    ⟨(some 60), .op (.load1 (.t 59)), (some (56, true))⟩,
    ⟨(some 61), .op (.bin .eql (.t 60) (.c (.i .i64 110))), (some (56, true))⟩,
    ⟨(some 62), .op (.pick (.t 56) (.t 61) (.c (.b false))), none⟩,
    ⟨(some 63), .op (.mov (.t 62)), none⟩,
    ⟨(some 64), .op (.mov (.t 2)), (some (63, true))⟩,
    ⟨(some 65), .op (.iAddrS 4 (.t 64) (.c (.i .i64 2))), (some (63, true))⟩,
    ⟨(some 66), .op (.fAddr 2 (.t 65)), (some (63, true))⟩,
    ⟨(some 67), .op (.load1 (.t 66)), (some (63, true))⟩,
    ⟨(some 68), .op (.bin .eql (.t 67) (.c (.i .i64 161))), (some (63, true))⟩,
    ⟨(some 69), .op (.pick (.t 63) (.t 68) (.c (.b false))), none⟩,
    ⟨(some 70), .op (.mov (.t 69)), none⟩,
    ⟨(some 71), .op (.mov (.t 2)), (some (70, true))⟩,
    ⟨(some 72), .op (.iAddrS 4 (.t 71) (.c (.i .i64 3))), (some (70, true))⟩,
    ⟨(some 73), .op (.fAddr 2 (.t 72)), (some (70, true))⟩,
    ⟨(some 74), .op (.load1 (.t 73)), (some (70, true))⟩,
    ⟨(some 75), .op (.bin .eql (.t 74) (.c (.i .i64 111))), (some (70, true))⟩,
    ⟨(some 76), .op (.pick (.t 70) (.t 75) (.c (.b false))), none⟩,
    ⟨(some 77), .op (.mov (.t 76)), none⟩,
    ⟨(some 78), .op (.mov (.t 2)), (some (77, true))⟩,
    ⟨(some 79), .op (.iAddrS 4 (.t 78) (.c (.i .i64 2))), (some (77, true))⟩,
    ⟨(some 80), .op (.fAddr 3 (.t 79)), (some (77, true))⟩,
    ⟨(some 81), .op (.load1 (.t 80)), (some (77, true))⟩,
    ⟨(some 82), .op (.bin .eql (.t 81) (.c (.s [114, 101, 97, 100, 58, 53]))), (some (77, true))⟩,
    ⟨(some 83), .op (.pick (.t 77) (.t 82) (.c (.b false))), none⟩,
    ⟨(some 84), .op (.mov (.t 83)), none⟩,
    ⟨(some 85), .op (.mov (.t 2)), (some (84, true))⟩,
    ⟨(some 86), .op (.iAddrS 4 (.t 85) (.c (.i .i64 2))), (some (84, true))⟩,
    ⟨(some 87), .op (.fAddr 2 (.t 86)), (some (84, true))⟩,
    ⟨(some 88), .op (.load1 (.t 87)), (some (84, true))⟩,
    ⟨(some 89), .callF f_fold_Warns [(.t 88)], (some (84, true))⟩,
    ⟨(some 90), .op (.pick (.t 84) (.t 89) (.c (.b false))), none⟩,
    ⟨(some 91), .op (.mov (.t 90)), none⟩,
    ⟨(some 92), .op (.mov (.t 2)), (some (91, true))⟩,
    ⟨(some 93), .op (.iAddrS 4 (.t 92) (.c (.i .i64 3))), (some (91, true))⟩,
    ⟨(some 94), .op (.fAddr 2 (.t 93)), (some (91, true))⟩,
    ⟨(some 95), .op (.load1 (.t 94)), (some (91, true))⟩,
    ⟨(some 96), .callF f_fold_Warns [(.t 95)], (some (91, true))⟩,
    ⟨(some 97), .op (.un .not (.t 96)), (some (91, true))⟩,
    ⟨(some 98), .op (.pick (.t 91) (.t 97) (.c (.b false))), none⟩,
    ⟨(some 0), .op (.mov (.t 98)), none⟩])
  (.ret))))⟩
set_option maxRecDepth 8000 in
theorem awake16 {g1 g2 g3 g4 : Nat} (hc : chkFn P f (ir_vestibulelaw16_awake g1 g2 g3 g4) = true) (h1 : cCallP P g1) (h2 : cComes expG P g2) (h3 : cFold expG P g3) (h4 : Pure P g4 [.i .i64 161] (.b true)) (h5 : Pure P g4 [.i .i64 111] (.b false)) : Pure P f [] (.b true) := by
  refine Pure.mk hc rfl ?_
  simp only [ir_vestibulelaw16_awake, argsT, H0, mkT, mkH, trL, List.length_cons, List.length_nil, Nat.reduceAdd, Nat.zero_add]
  simp only [↓vA, ↓vE, ↓vO, ↓vB, ↓vF, ↓vM, ↓vR, ↓vX, cvF_pc, vP, shb, shv, shvs, she_nil, she_cons, vC, vQ, not_false_eq_true, Nat.reduceEqDiff, ↓reduceIte, eq_self, Nat.reduceAdd, Nat.reduceMul, Nat.reduceSub, Nat.reduceLeDiff, Nat.reduceLT, defd, cellsOf, wr, packR, Int.reduceLE, Int.reduceLT, Int.reduceEq, Int.cast_ofNat_Int, Int.reduceToNat]
  refine (h1 [114, 101, 97, 100] 0).sc ?_
  simp only [↓vA, ↓vE, ↓vO, ↓vB, ↓vF, ↓vM, ↓vR, ↓vX, cvF_pc, vP, shb, shv, shvs, she_nil, she_cons, vC, vQ, not_false_eq_true, Nat.reduceEqDiff, ↓reduceIte, eq_self, Nat.reduceAdd, Nat.reduceMul, Nat.reduceSub, Nat.reduceLeDiff, Nat.reduceLT, defd, cellsOf, wr, packR, Int.reduceLE, Int.reduceLT, Int.reduceEq, Int.cast_ofNat_Int, Int.reduceToNat]
  refine (h2 1 aw1 want1 (by decide) (by decide) aw1_m).lend (vs' := [.i .u8 1, .fz 2 (rS aw1), .fz 1 (rC want1)]) ?_ rfl ?_
  · refine .cons _ _ _ _ (.i _ _) (.cons _ _ _ _ (.cut 1 rfl (Nat.le_refl _) ?_) (.cons _ _ _ _ (.cut 2 rfl (Nat.le_refl _) ?_) .nil))
    · simp [vW, bw_map, mapAt_map, mapClo_it, mapClo_nil, mapClo_cons, vP, vZ, Tr.get_set, aw1, rS]
    · simp [vW, bw_map, mapAt_map, mapClo_it, mapClo_nil, mapClo_cons, vP, vZ, Tr.get_set, want1, rC, cCall]
  simp only [↓vA, ↓vE, ↓vO, ↓vB, ↓vF, ↓vM, ↓vR, ↓vX, cvF_pc, vP, shb, shv, shvs, she_nil, she_cons, vC, vQ, not_false_eq_true, Nat.reduceEqDiff, ↓reduceIte, eq_self, Nat.reduceAdd, Nat.reduceMul, Nat.reduceSub, Nat.reduceLeDiff, Nat.reduceLT, defd, cellsOf, wr, packR, Int.reduceLE, Int.reduceLT, Int.reduceEq, Int.cast_ofNat_Int, Int.reduceToNat]
  refine (h1 [99, 108, 111, 99, 107, 95, 115, 101, 116, 116, 105, 109, 101] 327681).sc ?_
  simp only [↓vA, ↓vE, ↓vO, ↓vB, ↓vF, ↓vM, ↓vR, ↓vX, cvF_pc, vP, shb, shv, shvs, she_nil, she_cons, vC, vQ, not_false_eq_true, Nat.reduceEqDiff, ↓reduceIte, eq_self, Nat.reduceAdd, Nat.reduceMul, Nat.reduceSub, Nat.reduceLeDiff, Nat.reduceLT, defd, cellsOf, wr, packR, Int.reduceLE, Int.reduceLT, Int.reduceEq, Int.cast_ofNat_Int, Int.reduceToNat]
  refine (h1 [112, 116, 114, 97, 99, 101] 0).sc ?_
  simp only [↓vA, ↓vE, ↓vO, ↓vB, ↓vF, ↓vM, ↓vR, ↓vX, cvF_pc, vP, shb, shv, shvs, she_nil, she_cons, vC, vQ, not_false_eq_true, Nat.reduceEqDiff, ↓reduceIte, eq_self, Nat.reduceAdd, Nat.reduceMul, Nat.reduceSub, Nat.reduceLeDiff, Nat.reduceLT, defd, cellsOf, wr, packR, Int.reduceLE, Int.reduceLT, Int.reduceEq, Int.cast_ofNat_Int, Int.reduceToNat]
  refine (h2 2 aw2 want2 (by decide) (by decide) aw2_m).lend (vs' := [.i .u8 2, .fz 2 (rS aw2), .fz 2 (rC want2)]) ?_ rfl ?_
  · refine .cons _ _ _ _ (.i _ _) (.cons _ _ _ _ (.cut 1 rfl (Nat.le_refl _) ?_) (.cons _ _ _ _ (.cut 2 rfl (Nat.le_refl _) ?_) .nil))
    · simp [vW, bw_map, mapAt_map, mapClo_it, mapClo_nil, mapClo_cons, vP, vZ, Tr.get_set, aw2, rS]
    · simp [vW, bw_map, mapAt_map, mapClo_it, mapClo_nil, mapClo_cons, vP, vZ, Tr.get_set, want2, rC, cCall]
  simp only [↓vA, ↓vE, ↓vO, ↓vB, ↓vF, ↓vM, ↓vR, ↓vX, cvF_pc, vP, shb, shv, shvs, she_nil, she_cons, vC, vQ, not_false_eq_true, Nat.reduceEqDiff, ↓reduceIte, eq_self, Nat.reduceAdd, Nat.reduceMul, Nat.reduceSub, Nat.reduceLeDiff, Nat.reduceLT, defd, cellsOf, wr, packR, Int.reduceLE, Int.reduceLT, Int.reduceEq, Int.cast_ofNat_Int, Int.reduceToNat]
  refine (h1 [114, 101, 97, 100] 2147483648).sc ?_
  simp only [↓vA, ↓vE, ↓vO, ↓vB, ↓vF, ↓vM, ↓vR, ↓vX, cvF_pc, vP, shb, shv, shvs, she_nil, she_cons, vC, vQ, not_false_eq_true, Nat.reduceEqDiff, ↓reduceIte, eq_self, Nat.reduceAdd, Nat.reduceMul, Nat.reduceSub, Nat.reduceLeDiff, Nat.reduceLT, defd, cellsOf, wr, packR, Int.reduceLE, Int.reduceLT, Int.reduceEq, Int.cast_ofNat_Int, Int.reduceToNat]
  refine (h2 1 aw3 want3 (by decide) (by decide) aw3_m).lend (vs' := [.i .u8 1, .fz 2 (rS aw3), .fz 1 (rC want3)]) ?_ rfl ?_
  · refine .cons _ _ _ _ (.i _ _) (.cons _ _ _ _ (.cut 1 rfl (Nat.le_refl _) ?_) (.cons _ _ _ _ (.cut 2 rfl (Nat.le_refl _) ?_) .nil))
    · simp [vW, bw_map, mapAt_map, mapClo_it, mapClo_nil, mapClo_cons, vP, vZ, Tr.get_set, aw3, rS]
    · simp [vW, bw_map, mapAt_map, mapClo_it, mapClo_nil, mapClo_cons, vP, vZ, Tr.get_set, want3, rC, cCall]
  simp only [↓vA, ↓vE, ↓vO, ↓vB, ↓vF, ↓vM, ↓vR, ↓vX, cvF_pc, vP, shb, shv, shvs, she_nil, she_cons, vC, vQ, not_false_eq_true, Nat.reduceEqDiff, ↓reduceIte, eq_self, Nat.reduceAdd, Nat.reduceMul, Nat.reduceSub, Nat.reduceLeDiff, Nat.reduceLT, defd, cellsOf, wr, packR, Int.reduceLE, Int.reduceLT, Int.reduceEq, Int.cast_ofNat_Int, Int.reduceToNat]
  refine (h1 [114, 101, 97, 100] 0).sc ?_
  simp only [↓vA, ↓vE, ↓vO, ↓vB, ↓vF, ↓vM, ↓vR, ↓vX, cvF_pc, vP, shb, shv, shvs, she_nil, she_cons, vC, vQ, not_false_eq_true, Nat.reduceEqDiff, ↓reduceIte, eq_self, Nat.reduceAdd, Nat.reduceMul, Nat.reduceSub, Nat.reduceLeDiff, Nat.reduceLT, defd, cellsOf, wr, packR, Int.reduceLE, Int.reduceLT, Int.reduceEq, Int.cast_ofNat_Int, Int.reduceToNat]
  refine (h2 2 aw4 want4 (by decide) (by decide) aw4_m).lend (vs' := [.i .u8 2, .fz 3 (rS aw4), .fz 1 (rC want4)]) ?_ rfl ?_
  · refine .cons _ _ _ _ (.i _ _) (.cons _ _ _ _ (.cut 1 rfl (Nat.le_refl _) ?_) (.cons _ _ _ _ (.cut 2 rfl (Nat.le_refl _) ?_) .nil))
    · simp [vW, bw_map, mapAt_map, mapClo_it, mapClo_nil, mapClo_cons, vP, vZ, Tr.get_set, aw4, rS]
    · simp [vW, bw_map, mapAt_map, mapClo_it, mapClo_nil, mapClo_cons, vP, vZ, Tr.get_set, want4, rC, cCall]
  simp only [↓vA, ↓vE, ↓vO, ↓vB, ↓vF, ↓vM, ↓vR, ↓vX, cvF_pc, vP, shb, shv, shvs, she_nil, she_cons, vC, vQ, not_false_eq_true, Nat.reduceEqDiff, ↓reduceIte, eq_self, Nat.reduceAdd, Nat.reduceMul, Nat.reduceSub, Nat.reduceLeDiff, Nat.reduceLT, defd, cellsOf, wr, packR, Int.reduceLE, Int.reduceLT, Int.reduceEq, Int.cast_ofNat_Int, Int.reduceToNat]
  refine (h3 aw5 true (by decide) (by decide)).give [(8, .cells 0 true false (rS aw5))] (by simp [Tr.get_set, aw5, rS]) rfl ?_ ?_
  · refine .cons _ _ _ _ (.cut 1 rfl (Nat.le_refl _) ?_) (.cons _ _ _ _ (.b _) .nil)
    simp [vW, bw_map, mapAt_map, mapClo_it, mapClo_nil, mapClo_cons, vP, vZ, Tr.get_set, trP, aw5, rS]
  rw [aw5_m]
  simp only [kill_cons, kill_nil, hput_mk]
  simp (decide := true) only [↓vA, ↓vE, ↓vO, ↓vB, ↓vF, ↓vM, ↓vR, ↓vX, cvF_pc, vP, shb, shv, shvs, she_nil, she_cons, vC, vQ, not_false_eq_true, Nat.reduceEqDiff, ↓reduceIte, eq_self, Nat.reduceAdd, Nat.reduceMul, Nat.reduceSub, Nat.reduceLeDiff, Nat.reduceLT, defd, cellsOf, wr, packR, Int.reduceLE, Int.reduceLT, Int.reduceEq, Int.cast_ofNat_Int, Int.reduceToNat, cList, nts5, want1, rN, rC, cNote, cCall, List.flatMap_cons, List.flatMap_nil, List.cons_append, List.nil_append, List.length_cons, List.length_nil, List.getElem?_cons_zero, List.getElem?_cons_succ, List.take_succ_cons, List.take_zero]
  refine h4.sc ?_
  simp only [↓vA, ↓vE, ↓vO, ↓vB, ↓vF, ↓vM, ↓vR, ↓vX, cvF_pc, vP, shb, shv, shvs, she_nil, she_cons, vC, vQ, not_false_eq_true, Nat.reduceEqDiff, ↓reduceIte, eq_self, Nat.reduceAdd, Nat.reduceMul, Nat.reduceSub, Nat.reduceLeDiff, Nat.reduceLT, defd, cellsOf, wr, packR, Int.reduceLE, Int.reduceLT, Int.reduceEq, Int.cast_ofNat_Int, Int.reduceToNat]
  refine h5.sc ?_
  simp only [↓vA, ↓vE, ↓vO, ↓vB, ↓vF, ↓vM, ↓vR, ↓vX, cvF_pc, vP, shb, shv, shvs, she_nil, she_cons, vC, vQ, not_false_eq_true, Nat.reduceEqDiff, ↓reduceIte, eq_self, Nat.reduceAdd, Nat.reduceMul, Nat.reduceSub, Nat.reduceLeDiff, Nat.reduceLT, defd, cellsOf, wr, packR, Int.reduceLE, Int.reduceLT, Int.reduceEq, Int.cast_ofNat_Int, Int.reduceToNat]
  simp [vZ]
end Go.Kc
end
