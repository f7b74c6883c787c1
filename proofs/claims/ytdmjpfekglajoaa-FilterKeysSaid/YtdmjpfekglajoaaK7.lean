/- Part 7 of the abstract machine and of the functions' walks. Conditions: with each theorem. -/
import Derived.Test.YtdmjpfekglajoaaK6
set_option linter.unusedSimpArgs false
set_option linter.unusedVariables false
set_option linter.unnecessarySimpa false
section
/- What slices.Insert makes of a row of one's own. Condition: the functions' texts are these. -/
namespace Go.Kc
variable {P : Program} {f : Nat}
def cInsert (m by' : Nat) (P : Program) (f : Nat) : Prop := ∀ (n i : Nat) (R E : List AV), R.length = n * m → E.length = m → clos R = true → clos E = true → cellsOk R = true → cellsOk E = true → i ≤ n → n + 1 ≤ roomB → (n + 1) * by' ≤ roomB →
  Upd P f [.own 0 n, .i .i64 i, .sl 1 0 1 1 false] [.cells m true true R, .cells 0 true false E] (.own 2 (n + 1)) [.dead, .cells 0 true false E, .cells m true true (R.take (i * m) ++ (E ++ R.drop (i * m)))]
def ir_slices_Insert_int_int (f_slices_overlaps_int f_slices_rotateRight_int : Nat) : IFn := ⟨[.tmp 6],
  .seq (.reg false [⟨(some 6), .op (.mov (.c (.nils))), none⟩])
  (.seq (.reg false [⟨(some 10), .op (.mov (.t 0)), none⟩,
    ⟨(some 11), .op (.mov (.t 1)), none⟩,
    ⟨(some 12), .op (.slcS 1 (.t 10) (some (.t 11)) none none), none⟩])
  (.seq (.reg false [⟨(some 13), .op (.mov (.t 2)), none⟩,
    ⟨(some 14), .op (.len false (.t 13)), none⟩,
    ⟨(some 7), .op (.mov (.t 14)), none⟩])
  (.seq (.seq (.reg false [⟨(some 15), .op (.mov (.t 7)), none⟩,
    ⟨(some 16), .op (.bin .eql (.t 15) (.c (.i .i64 0))), none⟩])
  (.cond (.t 16) (.seq (.reg false [⟨(some 17), .op (.mov (.t 0)), none⟩,
    ⟨(some 6), .op (.mov (.t 17)), none⟩])
  (.ret)) (.skip)))
  (.seq (.reg false [⟨(some 18), .op (.mov (.t 0)), none⟩,
    ⟨(some 19), .op (.len false (.t 18)), none⟩,
    ⟨(some 8), .op (.mov (.t 19)), none⟩])
  (.seq (.seq (.reg false [⟨(some 20), .op (.mov (.t 1)), none⟩,
    ⟨(some 21), .op (.mov (.t 8)), none⟩,
    ⟨(some 22), .op (.bin .eql (.t 20) (.t 21)), none⟩])
  (.cond (.t 22) (.seq (.reg false [⟨(some 23), .op (.mov (.t 0)), none⟩,
    ⟨(some 24), .op (.mov (.t 2)), none⟩,
    ⟨(some 25), .op (.app 1 8 true (.t 23) (.t 24)), none⟩,
    ⟨(some 6), .op (.mov (.t 25)), none⟩])
  (.ret)) (.skip)))
  (.seq (.seq (.reg false [⟨(some 26), .op (.mov (.t 8)), none⟩,
    ⟨(some 27), .op (.mov (.t 7)), none⟩,
    ⟨(some 28), .op (.bin .add (.t 26) (.t 27)), none⟩,
    ⟨(some 29), .op (.mov (.t 0)), none⟩,
    ⟨(some 30), .op (.cap (.t 29)), none⟩,
    ⟨(some 31), .op (.bin .gtr (.t 28) (.t 30)), none⟩])
  (.cond (.t 31) (.seq (.reg false [⟨(some 32), .op (.mov (.t 0)), none⟩,
    ⟨(some 33), .op (.mov (.t 1)), none⟩,
    ⟨(some 34), .op (.slcS 1 (.t 32) none (some (.t 33)) none), none⟩,
    ⟨(some 35), .op (.mov (.t 8)), none⟩,
    ⟨(some 36), .op (.mov (.t 7)), none⟩,
    ⟨(some 37), .op (.bin .add (.t 35) (.t 36)), none⟩,
    ⟨(some 38), .op (.mov (.t 1)), none⟩,
    ⟨(some 39), .op (.bin .sub (.t 37) (.t 38)), none⟩,
    ⟨(some 40), .op (.appZ 1 8 [.i .i64 0] (.t 34) (.t 39)), none⟩,
    ⟨(some 9), .op (.mov (.t 40)), none⟩])
  (.seq (.reg false [⟨(some 41), .op (.mov (.t 9)), none⟩,
    ⟨(some 42), .op (.mov (.t 1)), none⟩,
    ⟨(some 43), .op (.slcS 1 (.t 41) (some (.t 42)) none none), none⟩,
    ⟨(some 44), .op (.mov (.t 2)), none⟩,
    ⟨(some 45), .op (.copy 1 (.t 43) (.t 44)), none⟩])
  (.seq (.reg true [⟨(some 46), .op (.mov (.t 9)), none⟩,
    ⟨(some 47), .op (.mov (.t 1)), none⟩,
    ⟨(some 48), .op (.mov (.t 7)), none⟩,
    ⟨(some 49), .op (.bin .add (.t 47) (.t 48)), none⟩,
    ⟨(some 50), .op (.slcS 1 (.t 46) (some (.t 49)) none none), none⟩,
    ⟨(some 51), .op (.mov (.t 0)), none⟩,
    ⟨(some 52), .op (.mov (.t 1)), none⟩,
    ⟨(some 53), .op (.slcS 1 (.t 51) (some (.t 52)) none none), none⟩,
    ⟨(some 54), .op (.copy 1 (.t 50) (.t 53)), none⟩])
  (.seq (.reg false [⟨(some 55), .op (.mov (.t 9)), none⟩,
    ⟨(some 6), .op (.mov (.t 55)), none⟩])
  (.ret))))) (.skip)))
  (.seq (.reg false [⟨(some 56), .op (.mov (.t 0)), none⟩,
    ⟨(some 57), .op (.mov (.t 8)), none⟩,
    ⟨(some 58), .op (.mov (.t 7)), none⟩,
    ⟨(some 59), .op (.bin .add (.t 57) (.t 58)), none⟩,
    ⟨(some 60), .op (.slcS 1 (.t 56) none (some (.t 59)) none), none⟩,
    ⟨(some 0), .op (.mov (.t 60)), none⟩])
  (.seq (.seq (.reg false [⟨(some 61), .op (.mov (.t 2)), none⟩,
    ⟨(some 62), .op (.mov (.t 0)), none⟩,
    ⟨(some 63), .op (.mov (.t 1)), none⟩,
    ⟨(some 64), .op (.mov (.t 7)), none⟩,
    ⟨(some 65), .op (.bin .add (.t 63) (.t 64)), none⟩,
    ⟨(some 66), .op (.slcS 1 (.t 62) (some (.t 65)) none none), none⟩,
    ⟨(some 67), .callF f_slices_overlaps_int [(.t 61), (.t 66)], none⟩,
    ⟨(some 68), .op (.un .not (.t 67)), none⟩])
  (.cond (.t 68) (.seq (.reg true [⟨(some 69), .op (.mov (.t 0)), none⟩,
    ⟨(some 70), .op (.mov (.t 1)), none⟩,
    ⟨(some 71), .op (.mov (.t 7)), none⟩,
    ⟨(some 72), .op (.bin .add (.t 70) (.t 71)), none⟩,
    ⟨(some 73), .op (.slcS 1 (.t 69) (some (.t 72)) none none), none⟩,
    ⟨(some 74), .op (.mov (.t 0)), none⟩,
    ⟨(some 75), .op (.mov (.t 1)), none⟩,
    ⟨(some 76), .op (.slcS 1 (.t 74) (some (.t 75)) none none), none⟩,
    ⟨(some 77), .op (.copy 1 (.t 73) (.t 76)), none⟩])
  (.seq (.reg false [⟨(some 78), .op (.mov (.t 0)), none⟩,
    ⟨(some 79), .op (.mov (.t 1)), none⟩,
    ⟨(some 80), .op (.slcS 1 (.t 78) (some (.t 79)) none none), none⟩,
    ⟨(some 81), .op (.mov (.t 2)), none⟩,
    ⟨(some 82), .op (.copy 1 (.t 80) (.t 81)), none⟩])
  (.seq (.reg false [⟨(some 83), .op (.mov (.t 0)), none⟩,
    ⟨(some 6), .op (.mov (.t 83)), none⟩])
  (.ret)))) (.skip)))
  (.seq (.reg false [⟨(some 84), .op (.mov (.t 0)), none⟩,
    ⟨(some 85), .op (.mov (.t 8)), none⟩,
    ⟨(some 86), .op (.slcS 1 (.t 84) (some (.t 85)) none none), none⟩,
    ⟨(some 87), .op (.mov (.t 2)), none⟩,
    ⟨(some 88), .op (.copy 1 (.t 86) (.t 87)), none⟩])
  (.seq (.reg false [⟨(some 89), .op (.mov (.t 0)), none⟩,
    ⟨(some 90), .op (.mov (.t 1)), none⟩,
    ⟨(some 91), .op (.slcS 1 (.t 89) (some (.t 90)) none none), none⟩,
    ⟨(some 92), .op (.mov (.t 7)), none⟩,
    ⟨(some 93), .callF f_slices_rotateRight_int [(.t 91), (.t 92)], none⟩])
  (.seq (.reg false [⟨(some 94), .op (.mov (.t 0)), none⟩,
    ⟨(some 6), .op (.mov (.t 94)), none⟩])
  (.ret))))))))))))⟩
theorem insert_int {g1 g2 : Nat} (hc : chkFn P f (ir_slices_Insert_int_int g1 g2) = true) (h1 : isOv P g1) : cInsert 1 8 P f := by
  intro n i R E hR hE hcR hcE hoR hoE hi hr hr2
  have hl2 := hr; simp only [roomB] at hl2
  refine Upd.mkS hc (by simp [bnds, bnd]) (by simp) ?_
  refine S.open (a := true) 0 0 n 1 (cs := R) (by simp [argsT, Tr.get_set]) (by rw [mkH_get]; rfl) hR (Nat.le_refl _) (by simp [mkH_sz]) ?_ ?_
  · intro h0
    subst h0
    obtain rfl : R = [] := List.eq_nil_of_length_eq_zero (by omega)
    obtain rfl : i = 0 := by omega
    refine V_sound ?_
    simp only [ir_slices_Insert_int_int, argsT, H0, mkT, mkH, trL, List.length_cons, List.length_nil, Nat.reduceAdd, Nat.zero_add]
    have hr2' : 1 * 8 ≤ roomB := by simpa using hr2
    have hr' : 1 ≤ roomB := by simpa using hr
    have ht : E.take 1 = E := List.take_of_length_le (by omega)
    simp only [↓vA, ↓vE, ↓vO, ↓vB, ↓vF, ↓vM, ↓vR, ↓vX, cvF_pc, vP, shb, shv, shvs, she_nil, she_cons, vC, vQ, Nat.reduceEqDiff, ↓reduceIte, eq_self, Nat.reduceAdd, Nat.reduceMul, Nat.reduceSub, Nat.reduceLeDiff, Nat.reduceLT, defd, cellsOf, wr, packR, Int.reduceLE, Int.reduceLT, Int.reduceEq, Int.cast_ofNat_Int, Int.reduceToNat, hr', hr2', hE, ht]
    refine UpdZ.w (fun _ => ⟨[0, 1, 2], ?_⟩) (by simp)
    simp [vW, bw_map, mapAt_map, mapClo_it, mapClo_nil, mapClo_cons, vP, vZ, Tr.get_set, nvs_self, hcE]
    decide
  · intro c hcl
    refine V_sound ?_
    simp only [ir_slices_Insert_int_int, argsT, H0, mkT, mkH, trL, List.length_cons, List.length_nil, Nat.reduceAdd, Nat.zero_add]
    obtain ⟨U, hU⟩ : ∃ U, U = List.replicate ((c - n) * 1) AV.undef := ⟨_, rfl⟩
    have hUl : U.length = (c - n) * 1 := by rw [hU]; simp
    rw [← hU]
    have hci : (i : Int) ≤ c := by omega
    have hw1 : IntKind.wrap .i64 ((n : Int) + 1) = (n : Int) + 1 := wrap64 (by omega) (by omega)
    have hcells : (R ++ U).length = c * 1 := by simp [hR, hUl]; omega
    have htE : E.take 1 = E := List.take_of_length_le (by omega)
    by_cases hil : i = n
    · subst hil
      by_cases hcap : i + 1 ≤ c
      · have g1 : i * 1 + 1 ≤ c * 1 := by omega
        have e1 : (R ++ U).take (i * 1) = R := List.take_left' hR
        simp only [↓vA, ↓vE, ↓vO, ↓vB, ↓vF, ↓vM, ↓vR, ↓vX, cvF_pc, vP, shb, shv, shvs, she_nil, she_cons, vC, vQ, Nat.reduceEqDiff, ↓reduceIte, eq_self, Nat.reduceAdd, Nat.reduceMul, Nat.reduceSub, Nat.reduceLeDiff, Nat.reduceLT, defd, cellsOf, wr, packR, Int.reduceLE, Int.reduceLT, Int.reduceEq, Int.cast_ofNat_Int, Int.reduceToNat, hcl, hw1, hcap, hcells, hE, htE, hoE, g1, e1]
        refine UpdW.closedI (a := false) (cs := R ++ (E ++ (R ++ U).drop (i * 1 + 1))) (by simp [Tr.get_set]) (by simp [Tr.get_set]) (by simp) ?_ hcap ?_ ?_ hcE
        · simp [hR, hE, hUl]; try omega
        · rw [← List.append_assoc, List.take_left' (by simp [hR, hE]; try omega), List.take_of_length_le (Nat.le_of_eq hR), List.drop_of_length_le (Nat.le_of_eq hR)]; simp
        · rw [List.take_of_length_le (Nat.le_of_eq hR), List.drop_of_length_le (Nat.le_of_eq hR)]; simp [clos_append, hcR, hcE]
      · have g1 : i * 1 ≤ c * 1 := by omega
        have e1 : (R ++ U).take (i * 1) = R := List.take_left' hR
        simp only [↓vA, ↓vE, ↓vO, ↓vB, ↓vF, ↓vM, ↓vR, ↓vX, cvF_pc, vP, shb, shv, shvs, she_nil, she_cons, vC, vQ, Nat.reduceEqDiff, ↓reduceIte, eq_self, Nat.reduceAdd, Nat.reduceMul, Nat.reduceSub, Nat.reduceLeDiff, Nat.reduceLT, defd, cellsOf, wr, packR, Int.reduceLE, Int.reduceLT, Int.reduceEq, Int.cast_ofNat_Int, Int.reduceToNat, hcl, hw1, hcap, hcells, hr, hr2, hE, htE, g1, e1]
        refine UpdZ.w (fun _ => ⟨[0, 1, 2], ?_⟩) (by simp)
        rw [List.take_of_length_le (Nat.le_of_eq hR), List.drop_of_length_le (Nat.le_of_eq hR), List.append_nil]
        have : clos (R ++ E) = true := by simp [clos_append, hcR, hcE]
        simp [vW, bw_map, mapAt_map, mapClo_it, mapClo_nil, mapClo_cons, vP, vZ, Tr.get_set, nvs_self, hcE, this]
        decide
    · have hilt : i < n := by omega
      have hi' : ¬ (i : Int) = n := by omega
      have hci2 : ¬ c = i := by omega
      simp only [↓vA, ↓vE, ↓vO, ↓vB, ↓vF, ↓vM, ↓vR, ↓vX, cvF_pc, vP, shb, shv, shvs, she_nil, she_cons, vC, vQ, Nat.reduceEqDiff, ↓reduceIte, eq_self, Nat.reduceAdd, Nat.reduceMul, Nat.reduceSub, Nat.reduceLeDiff, Nat.reduceLT, defd, cellsOf, wr, packR, Int.reduceLE, Int.reduceLT, Int.reduceEq, Int.cast_ofNat_Int, Int.reduceToNat, hci, hcl, hi, hw1, hi', hci2]
      have ha : IntKind.wrap .i64 ((i : Int) + 1) = (i : Int) + 1 := wrap64 (by omega) (by omega)
      have t1 : ((n : Int) + 1).toNat = n + 1 := by omega
      have t2 : ((i : Int) + 1).toNat = i + 1 := by omega
      have p1 : (0 : Int) ≤ (n : Int) + 1 := by omega
      have p2 : (0 : Int) ≤ (i : Int) + 1 := by omega
      have c0 : ¬ c = 0 := by omega
      have i1 : i + 1 ≤ n + 1 := by omega
      have c1 : ¬ c = i + 1 ∨ c = i + 1 := by omega
      by_cases hcap : n + 1 ≤ c
      · have hcap' : ¬ (c : Int) < (n : Int) + 1 := by omega
        have c2 : ¬ c = i + 1 := by omega
        simp only [↓vA, ↓vE, ↓vO, ↓vB, ↓vF, ↓vM, ↓vR, ↓vX, cvF_pc, vP, shb, shv, shvs, she_nil, she_cons, vC, vQ, Nat.reduceEqDiff, ↓reduceIte, eq_self, Nat.reduceAdd, Nat.reduceMul, Nat.reduceSub, Nat.reduceLeDiff, Nat.reduceLT, defd, cellsOf, wr, packR, Int.reduceLE, Int.reduceLT, Int.reduceEq, Int.cast_ofNat_Int, Int.reduceToNat, hcap, hcap', hcells, t1, p1, c0, ha, t2, p2, i1, c2]
        refine overlaps_sc h1 (a1 := false) (a2 := false) (cs1 := E) (cs2 := R ++ U) (e2 := 1) (by simp [Tr.get_set]) (by simp [Tr.get_set]) (by decide) (by omega) (by omega) (Nat.zero_le _) (by intro hh; rw [hh] at hcells; simp at hcells; omega) ?_
        simp only [↓vA, ↓vE, ↓vO, ↓vB, ↓vF, ↓vM, ↓vR, ↓vX, cvF_pc, vP, shb, shv, shvs, she_nil, she_cons, vC, vQ, Nat.reduceEqDiff, ↓reduceIte, eq_self, Nat.reduceAdd, Nat.reduceMul, Nat.reduceSub, Nat.reduceLeDiff, Nat.reduceLT, defd, cellsOf, wr, packR, Int.reduceLE, Int.reduceLT, Int.reduceEq, Int.cast_ofNat_Int, Int.reduceToNat]
        refine VD_pc ?_
        have i2 : i ≤ n + 1 := by omega
        have m1 : min (n + 1 - i) (n + 1 - (i + 1)) = n - i := by omega
        have m2 : min 1 (n + 1 - i) = 1 := by omega
        have b1 : i * 1 + (n + 1 - i) * 1 ≤ c * 1 := by omega
        have b2 : (n - i) * 1 ≤ (n + 1 - i) * 1 := by omega
        have b3 : (i + 1) * 1 + (n - i) * 1 ≤ c * 1 := by omega
        have l1 : (((R ++ U).drop (i * 1)).take ((n + 1 - i) * 1)).length = (n + 1 - i) * 1 := by simp only [List.length_take, List.length_drop, hcells]; omega
        have e2 : ((((R ++ U).drop (i * 1)).take ((n + 1 - i) * 1)).take ((n - i) * 1)) = R.drop (i * 1) := by
          rw [List.take_take, Nat.min_eq_left b2, List.drop_append_of_le_length (by omega), List.take_left' (by simp; omega)]
        have l2 : (R.drop (i * 1)).length = (n - i) * 1 := by simp; omega
        have o2 : cellsOk (R.drop (i * 1)) = true := by
          have h := hoR
          rw [← List.take_append_drop (i * 1) R, cells_append, Bool.and_eq_true] at h
          exact h.2
        obtain ⟨L1, hL1⟩ : ∃ L1, L1 = (R ++ U).take ((i + 1) * 1) ++ (R.drop (i * 1) ++ (R ++ U).drop ((i + 1) * 1 + (n - i) * 1)) := ⟨_, rfl⟩
        have l3 : L1.length = c * 1 := by rw [hL1]; simp only [List.length_append, List.length_take, List.length_drop, hcells, l2]; simp only [List.length_append] at hcells; omega
        have b4 : i * 1 + 1 ≤ c * 1 := by omega
        simp only [↓vA, ↓vE, ↓vO, ↓vB, ↓vF, ↓vM, ↓vR, ↓vX, cvF_pc, vP, shb, shv, shvs, she_nil, she_cons, vC, vQ, Nat.reduceEqDiff, ↓reduceIte, eq_self, Nat.reduceAdd, Nat.reduceMul, Nat.reduceSub, Nat.reduceLeDiff, Nat.reduceLT, defd, cellsOf, wr, packR, Int.reduceLE, Int.reduceLT, Int.reduceEq, Int.cast_ofNat_Int, Int.reduceToNat, ha, t2, p2, i1, c2, c0, hci2, hi, hcap, i2, m1, m2, hcells, b1, l1, b2, e2, l2, b3, o2, ← hL1, l3, b4, hE, htE, hoE]
        have k1 : L1.take (i * 1) = R.take (i * 1) := by
          rw [hL1, List.take_append_of_le_length (by simp only [List.length_take, hcells]; omega), List.take_take, Nat.min_eq_left (by omega), List.take_append_of_le_length (by omega)]
        have k2 : L1.drop (i * 1 + 1) = R.drop (i * 1) ++ (R ++ U).drop ((i + 1) * 1 + (n - i) * 1) := by
          rw [hL1, List.drop_left' (by simp only [List.length_take, hcells]; omega)]
        refine UpdW.closedI (a := false) (cs := L1.take (i * 1) ++ (E ++ L1.drop (i * 1 + 1))) (by simp [Tr.get_set]) (by simp [Tr.get_set]) (by simp) ?_ hcap ?_ ?_ hcE
        · simp only [List.length_append, List.length_take, List.length_drop, l3, hE]; omega
        · rw [k1, k2, ← List.append_assoc, ← List.append_assoc, List.take_left' (by simp only [List.length_append, List.length_take, hE, l2]; omega), List.append_assoc]
        · have h := hcR
          rw [← List.take_append_drop (i * 1) R, clos_append, Bool.and_eq_true] at h
          simp only [clos_append, h.1, h.2, hcE, Bool.and_self]
      · have hcap' : (c : Int) < (n : Int) + 1 := by omega
        have s1 : IntKind.wrap .i64 ((n : Int) + 1 - i) = (n : Int) + 1 - i := wrap64 (by omega) (by omega)
        have s2 : ((n : Int) + 1 - i).toNat = n + 1 - i := by omega
        have s3 : (0 : Int) ≤ (n : Int) + 1 - i := by omega
        have s4 : i + (n + 1 - i) = n + 1 := by omega
        have s5 : c < n + 1 := by omega
        have s6 : i * 1 ≤ c * 1 := by omega
        have e1 : (R ++ U).take (i * 1) = R.take (i * 1) := by rw [List.take_append_of_le_length (by omega)]
        have n1 : ¬ n + 1 = 0 := by omega
        have i2 : i ≤ n + 1 := by omega
        have hic : i ≤ c := by omega
        have m2 : min 1 (n + 1 - i) = 1 := by omega
        have m1 : min (n - i) (n + 1 - (i + 1)) = n - i := by omega
        have zl : ((List.replicate (n + 1 - i) ([.i .i64 0] : List AV)).flatten).length = (n + 1 - i) * 1 := by simp [List.length_flatten]
        obtain ⟨L1, hL1⟩ : ∃ L1, L1 = R.take (i * 1) ++ (List.replicate (n + 1 - i) ([.i .i64 0] : List AV)).flatten := ⟨_, rfl⟩
        have l1 : L1.length = (n + 1) * 1 := by rw [hL1]; simp only [List.length_append, List.length_take, zl]; omega
        have b4 : i * 1 + 1 ≤ (n + 1) * 1 := by omega
        have e2 : ((R ++ U).drop (i * 1)).take ((n - i) * 1) = R.drop (i * 1) := by
          rw [List.drop_append_of_le_length (by omega), List.take_left' (by simp; omega)]
        have b5 : i * 1 + (n - i) * 1 ≤ c * 1 := by omega
        have l2 : (R.drop (i * 1)).length = (n - i) * 1 := by simp; omega
        have e3 : (R.drop (i * 1)).take ((n - i) * 1) = R.drop (i * 1) := List.take_of_length_le (Nat.le_of_eq l2)
        have b6 : (i + 1) * 1 + (n - i) * 1 ≤ (n + 1) * 1 := by omega
        have o2 : cellsOk (R.drop (i * 1)) = true := by
          have h := hoR
          rw [← List.take_append_drop (i * 1) R, cells_append, Bool.and_eq_true] at h
          exact h.2
        obtain ⟨L2, hL2⟩ : ∃ L2, L2 = L1.take (i * 1) ++ (E ++ L1.drop (i * 1 + 1)) := ⟨_, rfl⟩
        have l4 : L2.length = (n + 1) * 1 := by rw [hL2]; simp only [List.length_append, List.length_take, List.length_drop, l1, hE]; omega
        simp only [↓vA, ↓vE, ↓vO, ↓vB, ↓vF, ↓vM, ↓vR, ↓vX, cvF_pc, vP, shb, shv, shvs, she_nil, she_cons, vC, vQ, Nat.reduceEqDiff, ↓reduceIte, eq_self, Nat.reduceAdd, Nat.reduceMul, Nat.reduceSub, Nat.reduceLeDiff, Nat.reduceLT, defd, cellsOf, wr, packR, Int.reduceLE, Int.reduceLT, Int.reduceEq, Int.cast_ofNat_Int, Int.reduceToNat, hw1, hcap', hcells, c0, hci, hci2, hic, s1, s2, s3, s4, s5, hr, hr2, s6, e1, n1, i2, m2, hE, htE, hoE, ← hL1, l1, b4, ← hL2]
        refine VD_pc ?_
        simp only [↓vA, ↓vE, ↓vO, ↓vB, ↓vF, ↓vM, ↓vR, ↓vX, cvF_pc, vP, shb, shv, shvs, she_nil, she_cons, vC, vQ, Nat.reduceEqDiff, ↓reduceIte, eq_self, Nat.reduceAdd, Nat.reduceMul, Nat.reduceSub, Nat.reduceLeDiff, Nat.reduceLT, defd, cellsOf, wr, packR, Int.reduceLE, Int.reduceLT, Int.reduceEq, Int.cast_ofNat_Int, Int.reduceToNat, ha, t2, p2, i1, c0, hci2, hi, hcl, i2, m1, n1, hcells, e2, b5, l2, e3, b6, l4, o2]
        have k1 : L1.take (i * 1) = R.take (i * 1) := by
          rw [hL1, List.take_left' (by simp; omega)]
        have k3 : L2.take ((i + 1) * 1) ++ (R.drop (i * 1) ++ L2.drop ((i + 1) * 1 + (n - i) * 1)) = R.take (i * 1) ++ (E ++ R.drop (i * 1)) := by
          rw [show L2.drop ((i + 1) * 1 + (n - i) * 1) = [] from List.drop_of_length_le (by rw [l4]; omega), List.append_nil, hL2, k1, ← List.append_assoc, List.take_left' (by simp only [List.length_append, List.length_take, hE]; omega), List.append_assoc]
        have hcl2 : clos (R.take (i * 1) ++ (E ++ R.drop (i * 1))) = true := by
          have h := hcR
          rw [← List.take_append_drop (i * 1) R, clos_append, Bool.and_eq_true] at h
          simp only [clos_append, h.1, h.2, hcE, Bool.and_self]
        simp only [k3]
        generalize R.take (i * 1) ++ (E ++ R.drop (i * 1)) = RR at hcl2 ⊢
        refine UpdZ.w (fun _ => ⟨[0, 1, 2], ?_⟩) (by simp)
        simp [vW, bw_map, mapAt_map, mapClo_it, mapClo_nil, mapClo_cons, vP, vZ, Tr.get_set, nvs_self, hcE, hcl2]
        decide
def ir_slices_Insert_uint32_uint32 (f_slices_overlaps_uint32 f_slices_rotateRight_uint32 : Nat) : IFn := ⟨[.tmp 6],
  .seq (.reg false [⟨(some 6), .op (.mov (.c (.nils))), none⟩])
  (.seq (.reg false [⟨(some 10), .op (.mov (.t 0)), none⟩,
    ⟨(some 11), .op (.mov (.t 1)), none⟩,
    ⟨(some 12), .op (.slcS 1 (.t 10) (some (.t 11)) none none), none⟩])
  (.seq (.reg false [⟨(some 13), .op (.mov (.t 2)), none⟩,
    ⟨(some 14), .op (.len false (.t 13)), none⟩,
    ⟨(some 7), .op (.mov (.t 14)), none⟩])
  (.seq (.seq (.reg false [⟨(some 15), .op (.mov (.t 7)), none⟩,
    ⟨(some 16), .op (.bin .eql (.t 15) (.c (.i .i64 0))), none⟩])
  (.cond (.t 16) (.seq (.reg false [⟨(some 17), .op (.mov (.t 0)), none⟩,
    ⟨(some 6), .op (.mov (.t 17)), none⟩])
  (.ret)) (.skip)))
  (.seq (.reg false [⟨(some 18), .op (.mov (.t 0)), none⟩,
    ⟨(some 19), .op (.len false (.t 18)), none⟩,
    ⟨(some 8), .op (.mov (.t 19)), none⟩])
  (.seq (.seq (.reg false [⟨(some 20), .op (.mov (.t 1)), none⟩,
    ⟨(some 21), .op (.mov (.t 8)), none⟩,
    ⟨(some 22), .op (.bin .eql (.t 20) (.t 21)), none⟩])
  (.cond (.t 22) (.seq (.reg false [⟨(some 23), .op (.mov (.t 0)), none⟩,
    ⟨(some 24), .op (.mov (.t 2)), none⟩,
    ⟨(some 25), .op (.app 1 4 true (.t 23) (.t 24)), none⟩,
    ⟨(some 6), .op (.mov (.t 25)), none⟩])
  (.ret)) (.skip)))
  (.seq (.seq (.reg false [⟨(some 26), .op (.mov (.t 8)), none⟩,
    ⟨(some 27), .op (.mov (.t 7)), none⟩,
    ⟨(some 28), .op (.bin .add (.t 26) (.t 27)), none⟩,
    ⟨(some 29), .op (.mov (.t 0)), none⟩,
    ⟨(some 30), .op (.cap (.t 29)), none⟩,
    ⟨(some 31), .op (.bin .gtr (.t 28) (.t 30)), none⟩])
  (.cond (.t 31) (.seq (.reg false [⟨(some 32), .op (.mov (.t 0)), none⟩,
    ⟨(some 33), .op (.mov (.t 1)), none⟩,
    ⟨(some 34), .op (.slcS 1 (.t 32) none (some (.t 33)) none), none⟩,
    ⟨(some 35), .op (.mov (.t 8)), none⟩,
    ⟨(some 36), .op (.mov (.t 7)), none⟩,
    ⟨(some 37), .op (.bin .add (.t 35) (.t 36)), none⟩,
    ⟨(some 38), .op (.mov (.t 1)), none⟩,
    ⟨(some 39), .op (.bin .sub (.t 37) (.t 38)), none⟩,
    ⟨(some 40), .op (.appZ 1 4 [.i .u32 0] (.t 34) (.t 39)), none⟩,
    ⟨(some 9), .op (.mov (.t 40)), none⟩])
  (.seq (.reg false [⟨(some 41), .op (.mov (.t 9)), none⟩,
    ⟨(some 42), .op (.mov (.t 1)), none⟩,
    ⟨(some 43), .op (.slcS 1 (.t 41) (some (.t 42)) none none), none⟩,
    ⟨(some 44), .op (.mov (.t 2)), none⟩,
    ⟨(some 45), .op (.copy 1 (.t 43) (.t 44)), none⟩])
  (.seq (.reg true [⟨(some 46), .op (.mov (.t 9)), none⟩,
    ⟨(some 47), .op (.mov (.t 1)), none⟩,
    ⟨(some 48), .op (.mov (.t 7)), none⟩,
    ⟨(some 49), .op (.bin .add (.t 47) (.t 48)), none⟩,
    ⟨(some 50), .op (.slcS 1 (.t 46) (some (.t 49)) none none), none⟩,
    ⟨(some 51), .op (.mov (.t 0)), none⟩,
    ⟨(some 52), .op (.mov (.t 1)), none⟩,
    ⟨(some 53), .op (.slcS 1 (.t 51) (some (.t 52)) none none), none⟩,
    ⟨(some 54), .op (.copy 1 (.t 50) (.t 53)), none⟩])
  (.seq (.reg false [⟨(some 55), .op (.mov (.t 9)), none⟩,
    ⟨(some 6), .op (.mov (.t 55)), none⟩])
  (.ret))))) (.skip)))
  (.seq (.reg false [⟨(some 56), .op (.mov (.t 0)), none⟩,
    ⟨(some 57), .op (.mov (.t 8)), none⟩,
    ⟨(some 58), .op (.mov (.t 7)), none⟩,
    ⟨(some 59), .op (.bin .add (.t 57) (.t 58)), none⟩,
    ⟨(some 60), .op (.slcS 1 (.t 56) none (some (.t 59)) none), none⟩,
    ⟨(some 0), .op (.mov (.t 60)), none⟩])
  (.seq (.seq (.reg false [⟨(some 61), .op (.mov (.t 2)), none⟩,
    ⟨(some 62), .op (.mov (.t 0)), none⟩,
    ⟨(some 63), .op (.mov (.t 1)), none⟩,
    ⟨(some 64), .op (.mov (.t 7)), none⟩,
    ⟨(some 65), .op (.bin .add (.t 63) (.t 64)), none⟩,
    ⟨(some 66), .op (.slcS 1 (.t 62) (some (.t 65)) none none), none⟩,
    ⟨(some 67), .callF f_slices_overlaps_uint32 [(.t 61), (.t 66)], none⟩,
    ⟨(some 68), .op (.un .not (.t 67)), none⟩])
  (.cond (.t 68) (.seq (.reg true [⟨(some 69), .op (.mov (.t 0)), none⟩,
    ⟨(some 70), .op (.mov (.t 1)), none⟩,
    ⟨(some 71), .op (.mov (.t 7)), none⟩,
    ⟨(some 72), .op (.bin .add (.t 70) (.t 71)), none⟩,
    ⟨(some 73), .op (.slcS 1 (.t 69) (some (.t 72)) none none), none⟩,
    ⟨(some 74), .op (.mov (.t 0)), none⟩,
    ⟨(some 75), .op (.mov (.t 1)), none⟩,
    ⟨(some 76), .op (.slcS 1 (.t 74) (some (.t 75)) none none), none⟩,
    ⟨(some 77), .op (.copy 1 (.t 73) (.t 76)), none⟩])
  (.seq (.reg false [⟨(some 78), .op (.mov (.t 0)), none⟩,
    ⟨(some 79), .op (.mov (.t 1)), none⟩,
    ⟨(some 80), .op (.slcS 1 (.t 78) (some (.t 79)) none none), none⟩,
    ⟨(some 81), .op (.mov (.t 2)), none⟩,
    ⟨(some 82), .op (.copy 1 (.t 80) (.t 81)), none⟩])
  (.seq (.reg false [⟨(some 83), .op (.mov (.t 0)), none⟩,
    ⟨(some 6), .op (.mov (.t 83)), none⟩])
  (.ret)))) (.skip)))
  (.seq (.reg false [⟨(some 84), .op (.mov (.t 0)), none⟩,
    ⟨(some 85), .op (.mov (.t 8)), none⟩,
    ⟨(some 86), .op (.slcS 1 (.t 84) (some (.t 85)) none none), none⟩,
    ⟨(some 87), .op (.mov (.t 2)), none⟩,
    ⟨(some 88), .op (.copy 1 (.t 86) (.t 87)), none⟩])
  (.seq (.reg false [⟨(some 89), .op (.mov (.t 0)), none⟩,
    ⟨(some 90), .op (.mov (.t 1)), none⟩,
    ⟨(some 91), .op (.slcS 1 (.t 89) (some (.t 90)) none none), none⟩,
    ⟨(some 92), .op (.mov (.t 7)), none⟩,
    ⟨(some 93), .callF f_slices_rotateRight_uint32 [(.t 91), (.t 92)], none⟩])
  (.seq (.reg false [⟨(some 94), .op (.mov (.t 0)), none⟩,
    ⟨(some 6), .op (.mov (.t 94)), none⟩])
  (.ret))))))))))))⟩
theorem insert_u32 {g1 g2 : Nat} (hc : chkFn P f (ir_slices_Insert_uint32_uint32 g1 g2) = true) (h1 : isOv P g1) : cInsert 1 4 P f := by
  intro n i R E hR hE hcR hcE hoR hoE hi hr hr2
  have hl2 := hr; simp only [roomB] at hl2
  refine Upd.mkS hc (by simp [bnds, bnd]) (by simp) ?_
  refine S.open (a := true) 0 0 n 1 (cs := R) (by simp [argsT, Tr.get_set]) (by rw [mkH_get]; rfl) hR (Nat.le_refl _) (by simp [mkH_sz]) ?_ ?_
  · intro h0
    subst h0
    obtain rfl : R = [] := List.eq_nil_of_length_eq_zero (by omega)
    obtain rfl : i = 0 := by omega
    refine V_sound ?_
    simp only [ir_slices_Insert_uint32_uint32, argsT, H0, mkT, mkH, trL, List.length_cons, List.length_nil, Nat.reduceAdd, Nat.zero_add]
    have hr2' : 1 * 4 ≤ roomB := by simpa using hr2
    have hr' : 1 ≤ roomB := by simpa using hr
    have ht : E.take 1 = E := List.take_of_length_le (by omega)
    simp only [↓vA, ↓vE, ↓vO, ↓vB, ↓vF, ↓vM, ↓vR, ↓vX, cvF_pc, vP, shb, shv, shvs, she_nil, she_cons, vC, vQ, Nat.reduceEqDiff, ↓reduceIte, eq_self, Nat.reduceAdd, Nat.reduceMul, Nat.reduceSub, Nat.reduceLeDiff, Nat.reduceLT, defd, cellsOf, wr, packR, Int.reduceLE, Int.reduceLT, Int.reduceEq, Int.cast_ofNat_Int, Int.reduceToNat, hr', hr2', hE, ht]
    refine UpdZ.w (fun _ => ⟨[0, 1, 2], ?_⟩) (by simp)
    simp [vW, bw_map, mapAt_map, mapClo_it, mapClo_nil, mapClo_cons, vP, vZ, Tr.get_set, nvs_self, hcE]
    decide
  · intro c hcl
    refine V_sound ?_
    simp only [ir_slices_Insert_uint32_uint32, argsT, H0, mkT, mkH, trL, List.length_cons, List.length_nil, Nat.reduceAdd, Nat.zero_add]
    obtain ⟨U, hU⟩ : ∃ U, U = List.replicate ((c - n) * 1) AV.undef := ⟨_, rfl⟩
    have hUl : U.length = (c - n) * 1 := by rw [hU]; simp
    rw [← hU]
    have hci : (i : Int) ≤ c := by omega
    have hw1 : IntKind.wrap .i64 ((n : Int) + 1) = (n : Int) + 1 := wrap64 (by omega) (by omega)
    have hcells : (R ++ U).length = c * 1 := by simp [hR, hUl]; omega
    have htE : E.take 1 = E := List.take_of_length_le (by omega)
    by_cases hil : i = n
    · subst hil
      by_cases hcap : i + 1 ≤ c
      · have g1 : i * 1 + 1 ≤ c * 1 := by omega
        have e1 : (R ++ U).take (i * 1) = R := List.take_left' hR
        simp only [↓vA, ↓vE, ↓vO, ↓vB, ↓vF, ↓vM, ↓vR, ↓vX, cvF_pc, vP, shb, shv, shvs, she_nil, she_cons, vC, vQ, Nat.reduceEqDiff, ↓reduceIte, eq_self, Nat.reduceAdd, Nat.reduceMul, Nat.reduceSub, Nat.reduceLeDiff, Nat.reduceLT, defd, cellsOf, wr, packR, Int.reduceLE, Int.reduceLT, Int.reduceEq, Int.cast_ofNat_Int, Int.reduceToNat, hcl, hw1, hcap, hcells, hE, htE, hoE, g1, e1]
        refine UpdW.closedI (a := false) (cs := R ++ (E ++ (R ++ U).drop (i * 1 + 1))) (by simp [Tr.get_set]) (by simp [Tr.get_set]) (by simp) ?_ hcap ?_ ?_ hcE
        · simp [hR, hE, hUl]; try omega
        · rw [← List.append_assoc, List.take_left' (by simp [hR, hE]; try omega), List.take_of_length_le (Nat.le_of_eq hR), List.drop_of_length_le (Nat.le_of_eq hR)]; simp
        · rw [List.take_of_length_le (Nat.le_of_eq hR), List.drop_of_length_le (Nat.le_of_eq hR)]; simp [clos_append, hcR, hcE]
      · have g1 : i * 1 ≤ c * 1 := by omega
        have e1 : (R ++ U).take (i * 1) = R := List.take_left' hR
        simp only [↓vA, ↓vE, ↓vO, ↓vB, ↓vF, ↓vM, ↓vR, ↓vX, cvF_pc, vP, shb, shv, shvs, she_nil, she_cons, vC, vQ, Nat.reduceEqDiff, ↓reduceIte, eq_self, Nat.reduceAdd, Nat.reduceMul, Nat.reduceSub, Nat.reduceLeDiff, Nat.reduceLT, defd, cellsOf, wr, packR, Int.reduceLE, Int.reduceLT, Int.reduceEq, Int.cast_ofNat_Int, Int.reduceToNat, hcl, hw1, hcap, hcells, hr, hr2, hE, htE, g1, e1]
        refine UpdZ.w (fun _ => ⟨[0, 1, 2], ?_⟩) (by simp)
        rw [List.take_of_length_le (Nat.le_of_eq hR), List.drop_of_length_le (Nat.le_of_eq hR), List.append_nil]
        have : clos (R ++ E) = true := by simp [clos_append, hcR, hcE]
        simp [vW, bw_map, mapAt_map, mapClo_it, mapClo_nil, mapClo_cons, vP, vZ, Tr.get_set, nvs_self, hcE, this]
        decide
    · have hilt : i < n := by omega
      have hi' : ¬ (i : Int) = n := by omega
      have hci2 : ¬ c = i := by omega
      simp only [↓vA, ↓vE, ↓vO, ↓vB, ↓vF, ↓vM, ↓vR, ↓vX, cvF_pc, vP, shb, shv, shvs, she_nil, she_cons, vC, vQ, Nat.reduceEqDiff, ↓reduceIte, eq_self, Nat.reduceAdd, Nat.reduceMul, Nat.reduceSub, Nat.reduceLeDiff, Nat.reduceLT, defd, cellsOf, wr, packR, Int.reduceLE, Int.reduceLT, Int.reduceEq, Int.cast_ofNat_Int, Int.reduceToNat, hci, hcl, hi, hw1, hi', hci2]
      have ha : IntKind.wrap .i64 ((i : Int) + 1) = (i : Int) + 1 := wrap64 (by omega) (by omega)
      have t1 : ((n : Int) + 1).toNat = n + 1 := by omega
      have t2 : ((i : Int) + 1).toNat = i + 1 := by omega
      have p1 : (0 : Int) ≤ (n : Int) + 1 := by omega
      have p2 : (0 : Int) ≤ (i : Int) + 1 := by omega
      have c0 : ¬ c = 0 := by omega
      have i1 : i + 1 ≤ n + 1 := by omega
      have c1 : ¬ c = i + 1 ∨ c = i + 1 := by omega
      by_cases hcap : n + 1 ≤ c
      · have hcap' : ¬ (c : Int) < (n : Int) + 1 := by omega
        have c2 : ¬ c = i + 1 := by omega
        simp only [↓vA, ↓vE, ↓vO, ↓vB, ↓vF, ↓vM, ↓vR, ↓vX, cvF_pc, vP, shb, shv, shvs, she_nil, she_cons, vC, vQ, Nat.reduceEqDiff, ↓reduceIte, eq_self, Nat.reduceAdd, Nat.reduceMul, Nat.reduceSub, Nat.reduceLeDiff, Nat.reduceLT, defd, cellsOf, wr, packR, Int.reduceLE, Int.reduceLT, Int.reduceEq, Int.cast_ofNat_Int, Int.reduceToNat, hcap, hcap', hcells, t1, p1, c0, ha, t2, p2, i1, c2]
        refine overlaps_sc h1 (a1 := false) (a2 := false) (cs1 := E) (cs2 := R ++ U) (e2 := 1) (by simp [Tr.get_set]) (by simp [Tr.get_set]) (by decide) (by omega) (by omega) (Nat.zero_le _) (by intro hh; rw [hh] at hcells; simp at hcells; omega) ?_
        simp only [↓vA, ↓vE, ↓vO, ↓vB, ↓vF, ↓vM, ↓vR, ↓vX, cvF_pc, vP, shb, shv, shvs, she_nil, she_cons, vC, vQ, Nat.reduceEqDiff, ↓reduceIte, eq_self, Nat.reduceAdd, Nat.reduceMul, Nat.reduceSub, Nat.reduceLeDiff, Nat.reduceLT, defd, cellsOf, wr, packR, Int.reduceLE, Int.reduceLT, Int.reduceEq, Int.cast_ofNat_Int, Int.reduceToNat]
        refine VD_pc ?_
        have i2 : i ≤ n + 1 := by omega
        have m1 : min (n + 1 - i) (n + 1 - (i + 1)) = n - i := by omega
        have m2 : min 1 (n + 1 - i) = 1 := by omega
        have b1 : i * 1 + (n + 1 - i) * 1 ≤ c * 1 := by omega
        have b2 : (n - i) * 1 ≤ (n + 1 - i) * 1 := by omega
        have b3 : (i + 1) * 1 + (n - i) * 1 ≤ c * 1 := by omega
        have l1 : (((R ++ U).drop (i * 1)).take ((n + 1 - i) * 1)).length = (n + 1 - i) * 1 := by simp only [List.length_take, List.length_drop, hcells]; omega
        have e2 : ((((R ++ U).drop (i * 1)).take ((n + 1 - i) * 1)).take ((n - i) * 1)) = R.drop (i * 1) := by
          rw [List.take_take, Nat.min_eq_left b2, List.drop_append_of_le_length (by omega), List.take_left' (by simp; omega)]
        have l2 : (R.drop (i * 1)).length = (n - i) * 1 := by simp; omega
        have o2 : cellsOk (R.drop (i * 1)) = true := by
          have h := hoR
          rw [← List.take_append_drop (i * 1) R, cells_append, Bool.and_eq_true] at h
          exact h.2
        obtain ⟨L1, hL1⟩ : ∃ L1, L1 = (R ++ U).take ((i + 1) * 1) ++ (R.drop (i * 1) ++ (R ++ U).drop ((i + 1) * 1 + (n - i) * 1)) := ⟨_, rfl⟩
        have l3 : L1.length = c * 1 := by rw [hL1]; simp only [List.length_append, List.length_take, List.length_drop, hcells, l2]; simp only [List.length_append] at hcells; omega
        have b4 : i * 1 + 1 ≤ c * 1 := by omega
        simp only [↓vA, ↓vE, ↓vO, ↓vB, ↓vF, ↓vM, ↓vR, ↓vX, cvF_pc, vP, shb, shv, shvs, she_nil, she_cons, vC, vQ, Nat.reduceEqDiff, ↓reduceIte, eq_self, Nat.reduceAdd, Nat.reduceMul, Nat.reduceSub, Nat.reduceLeDiff, Nat.reduceLT, defd, cellsOf, wr, packR, Int.reduceLE, Int.reduceLT, Int.reduceEq, Int.cast_ofNat_Int, Int.reduceToNat, ha, t2, p2, i1, c2, c0, hci2, hi, hcap, i2, m1, m2, hcells, b1, l1, b2, e2, l2, b3, o2, ← hL1, l3, b4, hE, htE, hoE]
        have k1 : L1.take (i * 1) = R.take (i * 1) := by
          rw [hL1, List.take_append_of_le_length (by simp only [List.length_take, hcells]; omega), List.take_take, Nat.min_eq_left (by omega), List.take_append_of_le_length (by omega)]
        have k2 : L1.drop (i * 1 + 1) = R.drop (i * 1) ++ (R ++ U).drop ((i + 1) * 1 + (n - i) * 1) := by
          rw [hL1, List.drop_left' (by simp only [List.length_take, hcells]; omega)]
        refine UpdW.closedI (a := false) (cs := L1.take (i * 1) ++ (E ++ L1.drop (i * 1 + 1))) (by simp [Tr.get_set]) (by simp [Tr.get_set]) (by simp) ?_ hcap ?_ ?_ hcE
        · simp only [List.length_append, List.length_take, List.length_drop, l3, hE]; omega
        · rw [k1, k2, ← List.append_assoc, ← List.append_assoc, List.take_left' (by simp only [List.length_append, List.length_take, hE, l2]; omega), List.append_assoc]
        · have h := hcR
          rw [← List.take_append_drop (i * 1) R, clos_append, Bool.and_eq_true] at h
          simp only [clos_append, h.1, h.2, hcE, Bool.and_self]
      · have hcap' : (c : Int) < (n : Int) + 1 := by omega
        have s1 : IntKind.wrap .i64 ((n : Int) + 1 - i) = (n : Int) + 1 - i := wrap64 (by omega) (by omega)
        have s2 : ((n : Int) + 1 - i).toNat = n + 1 - i := by omega
        have s3 : (0 : Int) ≤ (n : Int) + 1 - i := by omega
        have s4 : i + (n + 1 - i) = n + 1 := by omega
        have s5 : c < n + 1 := by omega
        have s6 : i * 1 ≤ c * 1 := by omega
        have e1 : (R ++ U).take (i * 1) = R.take (i * 1) := by rw [List.take_append_of_le_length (by omega)]
        have n1 : ¬ n + 1 = 0 := by omega
        have i2 : i ≤ n + 1 := by omega
        have hic : i ≤ c := by omega
        have m2 : min 1 (n + 1 - i) = 1 := by omega
        have m1 : min (n - i) (n + 1 - (i + 1)) = n - i := by omega
        have zl : ((List.replicate (n + 1 - i) ([.i .u32 0] : List AV)).flatten).length = (n + 1 - i) * 1 := by simp [List.length_flatten]
        obtain ⟨L1, hL1⟩ : ∃ L1, L1 = R.take (i * 1) ++ (List.replicate (n + 1 - i) ([.i .u32 0] : List AV)).flatten := ⟨_, rfl⟩
        have l1 : L1.length = (n + 1) * 1 := by rw [hL1]; simp only [List.length_append, List.length_take, zl]; omega
        have b4 : i * 1 + 1 ≤ (n + 1) * 1 := by omega
        have e2 : ((R ++ U).drop (i * 1)).take ((n - i) * 1) = R.drop (i * 1) := by
          rw [List.drop_append_of_le_length (by omega), List.take_left' (by simp; omega)]
        have b5 : i * 1 + (n - i) * 1 ≤ c * 1 := by omega
        have l2 : (R.drop (i * 1)).length = (n - i) * 1 := by simp; omega
        have e3 : (R.drop (i * 1)).take ((n - i) * 1) = R.drop (i * 1) := List.take_of_length_le (Nat.le_of_eq l2)
        have b6 : (i + 1) * 1 + (n - i) * 1 ≤ (n + 1) * 1 := by omega
        have o2 : cellsOk (R.drop (i * 1)) = true := by
          have h := hoR
          rw [← List.take_append_drop (i * 1) R, cells_append, Bool.and_eq_true] at h
          exact h.2
        obtain ⟨L2, hL2⟩ : ∃ L2, L2 = L1.take (i * 1) ++ (E ++ L1.drop (i * 1 + 1)) := ⟨_, rfl⟩
        have l4 : L2.length = (n + 1) * 1 := by rw [hL2]; simp only [List.length_append, List.length_take, List.length_drop, l1, hE]; omega
        simp only [↓vA, ↓vE, ↓vO, ↓vB, ↓vF, ↓vM, ↓vR, ↓vX, cvF_pc, vP, shb, shv, shvs, she_nil, she_cons, vC, vQ, Nat.reduceEqDiff, ↓reduceIte, eq_self, Nat.reduceAdd, Nat.reduceMul, Nat.reduceSub, Nat.reduceLeDiff, Nat.reduceLT, defd, cellsOf, wr, packR, Int.reduceLE, Int.reduceLT, Int.reduceEq, Int.cast_ofNat_Int, Int.reduceToNat, hw1, hcap', hcells, c0, hci, hci2, hic, s1, s2, s3, s4, s5, hr, hr2, s6, e1, n1, i2, m2, hE, htE, hoE, ← hL1, l1, b4, ← hL2]
        refine VD_pc ?_
        simp only [↓vA, ↓vE, ↓vO, ↓vB, ↓vF, ↓vM, ↓vR, ↓vX, cvF_pc, vP, shb, shv, shvs, she_nil, she_cons, vC, vQ, Nat.reduceEqDiff, ↓reduceIte, eq_self, Nat.reduceAdd, Nat.reduceMul, Nat.reduceSub, Nat.reduceLeDiff, Nat.reduceLT, defd, cellsOf, wr, packR, Int.reduceLE, Int.reduceLT, Int.reduceEq, Int.cast_ofNat_Int, Int.reduceToNat, ha, t2, p2, i1, c0, hci2, hi, hcl, i2, m1, n1, hcells, e2, b5, l2, e3, b6, l4, o2]
        have k1 : L1.take (i * 1) = R.take (i * 1) := by
          rw [hL1, List.take_left' (by simp; omega)]
        have k3 : L2.take ((i + 1) * 1) ++ (R.drop (i * 1) ++ L2.drop ((i + 1) * 1 + (n - i) * 1)) = R.take (i * 1) ++ (E ++ R.drop (i * 1)) := by
          rw [show L2.drop ((i + 1) * 1 + (n - i) * 1) = [] from List.drop_of_length_le (by rw [l4]; omega), List.append_nil, hL2, k1, ← List.append_assoc, List.take_left' (by simp only [List.length_append, List.length_take, hE]; omega), List.append_assoc]
        have hcl2 : clos (R.take (i * 1) ++ (E ++ R.drop (i * 1))) = true := by
          have h := hcR
          rw [← List.take_append_drop (i * 1) R, clos_append, Bool.and_eq_true] at h
          simp only [clos_append, h.1, h.2, hcE, Bool.and_self]
        simp only [k3]
        generalize R.take (i * 1) ++ (E ++ R.drop (i * 1)) = RR at hcl2 ⊢
        refine UpdZ.w (fun _ => ⟨[0, 1, 2], ?_⟩) (by simp)
        simp [vW, bw_map, mapAt_map, mapClo_it, mapClo_nil, mapClo_cons, vP, vZ, Tr.get_set, nvs_self, hcE, hcl2]
        decide
def ir_slices_Insert_api_Call_api_Call (f_slices_overlaps_api_Call f_slices_rotateRight_api_Call : Nat) : IFn := ⟨[.tmp 6],
  .seq (.reg false [⟨(some 6), .op (.mov (.c (.nils))), none⟩])
  (.seq (.reg false [⟨(some 10), .op (.mov (.t 0)), none⟩,
    ⟨(some 11), .op (.mov (.t 1)), none⟩,
    ⟨(some 12), .op (.slcS 2 (.t 10) (some (.t 11)) none none), none⟩])
  (.seq (.reg false [⟨(some 13), .op (.mov (.t 2)), none⟩,
    ⟨(some 14), .op (.len false (.t 13)), none⟩,
    ⟨(some 7), .op (.mov (.t 14)), none⟩])
  (.seq (.seq (.reg false [⟨(some 15), .op (.mov (.t 7)), none⟩,
    ⟨(some 16), .op (.bin .eql (.t 15) (.c (.i .i64 0))), none⟩])
  (.cond (.t 16) (.seq (.reg false [⟨(some 17), .op (.mov (.t 0)), none⟩,
    ⟨(some 6), .op (.mov (.t 17)), none⟩])
  (.ret)) (.skip)))
  (.seq (.reg false [⟨(some 18), .op (.mov (.t 0)), none⟩,
    ⟨(some 19), .op (.len false (.t 18)), none⟩,
    ⟨(some 8), .op (.mov (.t 19)), none⟩])
  (.seq (.seq (.reg false [⟨(some 20), .op (.mov (.t 1)), none⟩,
    ⟨(some 21), .op (.mov (.t 8)), none⟩,
    ⟨(some 22), .op (.bin .eql (.t 20) (.t 21)), none⟩])
  (.cond (.t 22) (.seq (.reg false [⟨(some 23), .op (.mov (.t 0)), none⟩,
    ⟨(some 24), .op (.mov (.t 2)), none⟩,
    ⟨(some 25), .op (.app 2 24 true (.t 23) (.t 24)), none⟩,
    ⟨(some 6), .op (.mov (.t 25)), none⟩])
  (.ret)) (.skip)))
  (.seq (.seq (.reg false [⟨(some 26), .op (.mov (.t 8)), none⟩,
    ⟨(some 27), .op (.mov (.t 7)), none⟩,
    ⟨(some 28), .op (.bin .add (.t 26) (.t 27)), none⟩,
    ⟨(some 29), .op (.mov (.t 0)), none⟩,
    ⟨(some 30), .op (.cap (.t 29)), none⟩,
    ⟨(some 31), .op (.bin .gtr (.t 28) (.t 30)), none⟩])
  (.cond (.t 31) (.seq (.reg false [⟨(some 32), .op (.mov (.t 0)), none⟩,
    ⟨(some 33), .op (.mov (.t 1)), none⟩,
    ⟨(some 34), .op (.slcS 2 (.t 32) none (some (.t 33)) none), none⟩,
    ⟨(some 35), .op (.mov (.t 8)), none⟩,
    ⟨(some 36), .op (.mov (.t 7)), none⟩,
    ⟨(some 37), .op (.bin .add (.t 35) (.t 36)), none⟩,
    ⟨(some 38), .op (.mov (.t 1)), none⟩,
    ⟨(some 39), .op (.bin .sub (.t 37) (.t 38)), none⟩,
    ⟨(some 40), .op (.appZ 2 24 [.s [], .i .u32 0] (.t 34) (.t 39)), none⟩,
    ⟨(some 9), .op (.mov (.t 40)), none⟩])
  (.seq (.reg false [⟨(some 41), .op (.mov (.t 9)), none⟩,
    ⟨(some 42), .op (.mov (.t 1)), none⟩,
    ⟨(some 43), .op (.slcS 2 (.t 41) (some (.t 42)) none none), none⟩,
    ⟨(some 44), .op (.mov (.t 2)), none⟩,
    ⟨(some 45), .op (.copy 2 (.t 43) (.t 44)), none⟩])
  (.seq (.reg true [⟨(some 46), .op (.mov (.t 9)), none⟩,
    ⟨(some 47), .op (.mov (.t 1)), none⟩,
    ⟨(some 48), .op (.mov (.t 7)), none⟩,
    ⟨(some 49), .op (.bin .add (.t 47) (.t 48)), none⟩,
    ⟨(some 50), .op (.slcS 2 (.t 46) (some (.t 49)) none none), none⟩,
    ⟨(some 51), .op (.mov (.t 0)), none⟩,
    ⟨(some 52), .op (.mov (.t 1)), none⟩,
    ⟨(some 53), .op (.slcS 2 (.t 51) (some (.t 52)) none none), none⟩,
    ⟨(some 54), .op (.copy 2 (.t 50) (.t 53)), none⟩])
  (.seq (.reg false [⟨(some 55), .op (.mov (.t 9)), none⟩,
    ⟨(some 6), .op (.mov (.t 55)), none⟩])
  (.ret))))) (.skip)))
  (.seq (.reg false [⟨(some 56), .op (.mov (.t 0)), none⟩,
    ⟨(some 57), .op (.mov (.t 8)), none⟩,
    ⟨(some 58), .op (.mov (.t 7)), none⟩,
    ⟨(some 59), .op (.bin .add (.t 57) (.t 58)), none⟩,
    ⟨(some 60), .op (.slcS 2 (.t 56) none (some (.t 59)) none), none⟩,
    ⟨(some 0), .op (.mov (.t 60)), none⟩])
  (.seq (.seq (.reg false [⟨(some 61), .op (.mov (.t 2)), none⟩,
    ⟨(some 62), .op (.mov (.t 0)), none⟩,
    ⟨(some 63), .op (.mov (.t 1)), none⟩,
    ⟨(some 64), .op (.mov (.t 7)), none⟩,
    ⟨(some 65), .op (.bin .add (.t 63) (.t 64)), none⟩,
    ⟨(some 66), .op (.slcS 2 (.t 62) (some (.t 65)) none none), none⟩,
    ⟨(some 67), .callF f_slices_overlaps_api_Call [(.t 61), (.t 66)], none⟩,
    ⟨(some 68), .op (.un .not (.t 67)), none⟩])
  (.cond (.t 68) (.seq (.reg true [⟨(some 69), .op (.mov (.t 0)), none⟩,
    ⟨(some 70), .op (.mov (.t 1)), none⟩,
    ⟨(some 71), .op (.mov (.t 7)), none⟩,
    ⟨(some 72), .op (.bin .add (.t 70) (.t 71)), none⟩,
    ⟨(some 73), .op (.slcS 2 (.t 69) (some (.t 72)) none none), none⟩,
    ⟨(some 74), .op (.mov (.t 0)), none⟩,
    ⟨(some 75), .op (.mov (.t 1)), none⟩,
    ⟨(some 76), .op (.slcS 2 (.t 74) (some (.t 75)) none none), none⟩,
    ⟨(some 77), .op (.copy 2 (.t 73) (.t 76)), none⟩])
  (.seq (.reg false [⟨(some 78), .op (.mov (.t 0)), none⟩,
    ⟨(some 79), .op (.mov (.t 1)), none⟩,
    ⟨(some 80), .op (.slcS 2 (.t 78) (some (.t 79)) none none), none⟩,
    ⟨(some 81), .op (.mov (.t 2)), none⟩,
    ⟨(some 82), .op (.copy 2 (.t 80) (.t 81)), none⟩])
  (.seq (.reg false [⟨(some 83), .op (.mov (.t 0)), none⟩,
    ⟨(some 6), .op (.mov (.t 83)), none⟩])
  (.ret)))) (.skip)))
  (.seq (.reg false [⟨(some 84), .op (.mov (.t 0)), none⟩,
    ⟨(some 85), .op (.mov (.t 8)), none⟩,
    ⟨(some 86), .op (.slcS 2 (.t 84) (some (.t 85)) none none), none⟩,
    ⟨(some 87), .op (.mov (.t 2)), none⟩,
    ⟨(some 88), .op (.copy 2 (.t 86) (.t 87)), none⟩])
  (.seq (.reg false [⟨(some 89), .op (.mov (.t 0)), none⟩,
    ⟨(some 90), .op (.mov (.t 1)), none⟩,
    ⟨(some 91), .op (.slcS 2 (.t 89) (some (.t 90)) none none), none⟩,
    ⟨(some 92), .op (.mov (.t 7)), none⟩,
    ⟨(some 93), .callF f_slices_rotateRight_api_Call [(.t 91), (.t 92)], none⟩])
  (.seq (.reg false [⟨(some 94), .op (.mov (.t 0)), none⟩,
    ⟨(some 6), .op (.mov (.t 94)), none⟩])
  (.ret))))))))))))⟩
theorem insert_call {g1 g2 : Nat} (hc : chkFn P f (ir_slices_Insert_api_Call_api_Call g1 g2) = true) (h1 : isOv P g1) : cInsert 2 24 P f := by
  intro n i R E hR hE hcR hcE hoR hoE hi hr hr2
  have hl2 := hr; simp only [roomB] at hl2
  refine Upd.mkS hc (by simp [bnds, bnd]) (by simp) ?_
  refine S.open (a := true) 0 0 n 2 (cs := R) (by simp [argsT, Tr.get_set]) (by rw [mkH_get]; rfl) hR (Nat.le_refl _) (by simp [mkH_sz]) ?_ ?_
  · intro h0
    subst h0
    obtain rfl : R = [] := List.eq_nil_of_length_eq_zero (by omega)
    obtain rfl : i = 0 := by omega
    refine V_sound ?_
    simp only [ir_slices_Insert_api_Call_api_Call, argsT, H0, mkT, mkH, trL, List.length_cons, List.length_nil, Nat.reduceAdd, Nat.zero_add]
    have hr2' : 1 * 24 ≤ roomB := by simpa using hr2
    have hr' : 1 ≤ roomB := by simpa using hr
    have ht : E.take 2 = E := List.take_of_length_le (by omega)
    simp only [↓vA, ↓vE, ↓vO, ↓vB, ↓vF, ↓vM, ↓vR, ↓vX, cvF_pc, vP, shb, shv, shvs, she_nil, she_cons, vC, vQ, Nat.reduceEqDiff, ↓reduceIte, eq_self, Nat.reduceAdd, Nat.reduceMul, Nat.reduceSub, Nat.reduceLeDiff, Nat.reduceLT, defd, cellsOf, wr, packR, Int.reduceLE, Int.reduceLT, Int.reduceEq, Int.cast_ofNat_Int, Int.reduceToNat, hr', hr2', hE, ht]
    refine UpdZ.w (fun _ => ⟨[0, 1, 2], ?_⟩) (by simp)
    simp [vW, bw_map, mapAt_map, mapClo_it, mapClo_nil, mapClo_cons, vP, vZ, Tr.get_set, nvs_self, hcE]
    decide
  · intro c hcl
    refine V_sound ?_
    simp only [ir_slices_Insert_api_Call_api_Call, argsT, H0, mkT, mkH, trL, List.length_cons, List.length_nil, Nat.reduceAdd, Nat.zero_add]
    obtain ⟨U, hU⟩ : ∃ U, U = List.replicate ((c - n) * 2) AV.undef := ⟨_, rfl⟩
    have hUl : U.length = (c - n) * 2 := by rw [hU]; simp
    rw [← hU]
    have hci : (i : Int) ≤ c := by omega
    have hw1 : IntKind.wrap .i64 ((n : Int) + 1) = (n : Int) + 1 := wrap64 (by omega) (by omega)
    have hcells : (R ++ U).length = c * 2 := by simp [hR, hUl]; omega
    have htE : E.take 2 = E := List.take_of_length_le (by omega)
    by_cases hil : i = n
    · subst hil
      by_cases hcap : i + 1 ≤ c
      · have g1 : i * 2 + 2 ≤ c * 2 := by omega
        have e1 : (R ++ U).take (i * 2) = R := List.take_left' hR
        simp only [↓vA, ↓vE, ↓vO, ↓vB, ↓vF, ↓vM, ↓vR, ↓vX, cvF_pc, vP, shb, shv, shvs, she_nil, she_cons, vC, vQ, Nat.reduceEqDiff, ↓reduceIte, eq_self, Nat.reduceAdd, Nat.reduceMul, Nat.reduceSub, Nat.reduceLeDiff, Nat.reduceLT, defd, cellsOf, wr, packR, Int.reduceLE, Int.reduceLT, Int.reduceEq, Int.cast_ofNat_Int, Int.reduceToNat, hcl, hw1, hcap, hcells, hE, htE, hoE, g1, e1]
        refine UpdW.closedI (a := false) (cs := R ++ (E ++ (R ++ U).drop (i * 2 + 2))) (by simp [Tr.get_set]) (by simp [Tr.get_set]) (by simp) ?_ hcap ?_ ?_ hcE
        · simp [hR, hE, hUl]; try omega
        · rw [← List.append_assoc, List.take_left' (by simp [hR, hE]; try omega), List.take_of_length_le (Nat.le_of_eq hR), List.drop_of_length_le (Nat.le_of_eq hR)]; simp
        · rw [List.take_of_length_le (Nat.le_of_eq hR), List.drop_of_length_le (Nat.le_of_eq hR)]; simp [clos_append, hcR, hcE]
      · have g1 : i * 2 ≤ c * 2 := by omega
        have e1 : (R ++ U).take (i * 2) = R := List.take_left' hR
        simp only [↓vA, ↓vE, ↓vO, ↓vB, ↓vF, ↓vM, ↓vR, ↓vX, cvF_pc, vP, shb, shv, shvs, she_nil, she_cons, vC, vQ, Nat.reduceEqDiff, ↓reduceIte, eq_self, Nat.reduceAdd, Nat.reduceMul, Nat.reduceSub, Nat.reduceLeDiff, Nat.reduceLT, defd, cellsOf, wr, packR, Int.reduceLE, Int.reduceLT, Int.reduceEq, Int.cast_ofNat_Int, Int.reduceToNat, hcl, hw1, hcap, hcells, hr, hr2, hE, htE, g1, e1]
        refine UpdZ.w (fun _ => ⟨[0, 1, 2], ?_⟩) (by simp)
        rw [List.take_of_length_le (Nat.le_of_eq hR), List.drop_of_length_le (Nat.le_of_eq hR), List.append_nil]
        have : clos (R ++ E) = true := by simp [clos_append, hcR, hcE]
        simp [vW, bw_map, mapAt_map, mapClo_it, mapClo_nil, mapClo_cons, vP, vZ, Tr.get_set, nvs_self, hcE, this]
        decide
    · have hilt : i < n := by omega
      have hi' : ¬ (i : Int) = n := by omega
      have hci2 : ¬ c = i := by omega
      simp only [↓vA, ↓vE, ↓vO, ↓vB, ↓vF, ↓vM, ↓vR, ↓vX, cvF_pc, vP, shb, shv, shvs, she_nil, she_cons, vC, vQ, Nat.reduceEqDiff, ↓reduceIte, eq_self, Nat.reduceAdd, Nat.reduceMul, Nat.reduceSub, Nat.reduceLeDiff, Nat.reduceLT, defd, cellsOf, wr, packR, Int.reduceLE, Int.reduceLT, Int.reduceEq, Int.cast_ofNat_Int, Int.reduceToNat, hci, hcl, hi, hw1, hi', hci2]
      have ha : IntKind.wrap .i64 ((i : Int) + 1) = (i : Int) + 1 := wrap64 (by omega) (by omega)
      have t1 : ((n : Int) + 1).toNat = n + 1 := by omega
      have t2 : ((i : Int) + 1).toNat = i + 1 := by omega
      have p1 : (0 : Int) ≤ (n : Int) + 1 := by omega
      have p2 : (0 : Int) ≤ (i : Int) + 1 := by omega
      have c0 : ¬ c = 0 := by omega
      have i1 : i + 1 ≤ n + 1 := by omega
      have c1 : ¬ c = i + 1 ∨ c = i + 1 := by omega
      by_cases hcap : n + 1 ≤ c
      · have hcap' : ¬ (c : Int) < (n : Int) + 1 := by omega
        have c2 : ¬ c = i + 1 := by omega
        simp only [↓vA, ↓vE, ↓vO, ↓vB, ↓vF, ↓vM, ↓vR, ↓vX, cvF_pc, vP, shb, shv, shvs, she_nil, she_cons, vC, vQ, Nat.reduceEqDiff, ↓reduceIte, eq_self, Nat.reduceAdd, Nat.reduceMul, Nat.reduceSub, Nat.reduceLeDiff, Nat.reduceLT, defd, cellsOf, wr, packR, Int.reduceLE, Int.reduceLT, Int.reduceEq, Int.cast_ofNat_Int, Int.reduceToNat, hcap, hcap', hcells, t1, p1, c0, ha, t2, p2, i1, c2]
        refine overlaps_sc h1 (a1 := false) (a2 := false) (cs1 := E) (cs2 := R ++ U) (e2 := 2) (by simp [Tr.get_set]) (by simp [Tr.get_set]) (by decide) (by omega) (by omega) (Nat.zero_le _) (by intro hh; rw [hh] at hcells; simp at hcells; omega) ?_
        simp only [↓vA, ↓vE, ↓vO, ↓vB, ↓vF, ↓vM, ↓vR, ↓vX, cvF_pc, vP, shb, shv, shvs, she_nil, she_cons, vC, vQ, Nat.reduceEqDiff, ↓reduceIte, eq_self, Nat.reduceAdd, Nat.reduceMul, Nat.reduceSub, Nat.reduceLeDiff, Nat.reduceLT, defd, cellsOf, wr, packR, Int.reduceLE, Int.reduceLT, Int.reduceEq, Int.cast_ofNat_Int, Int.reduceToNat]
        refine VD_pc ?_
        have i2 : i ≤ n + 1 := by omega
        have m1 : min (n + 1 - i) (n + 1 - (i + 1)) = n - i := by omega
        have m2 : min 1 (n + 1 - i) = 1 := by omega
        have b1 : i * 2 + (n + 1 - i) * 2 ≤ c * 2 := by omega
        have b2 : (n - i) * 2 ≤ (n + 1 - i) * 2 := by omega
        have b3 : (i + 1) * 2 + (n - i) * 2 ≤ c * 2 := by omega
        have l1 : (((R ++ U).drop (i * 2)).take ((n + 1 - i) * 2)).length = (n + 1 - i) * 2 := by simp only [List.length_take, List.length_drop, hcells]; omega
        have e2 : ((((R ++ U).drop (i * 2)).take ((n + 1 - i) * 2)).take ((n - i) * 2)) = R.drop (i * 2) := by
          rw [List.take_take, Nat.min_eq_left b2, List.drop_append_of_le_length (by omega), List.take_left' (by simp; omega)]
        have l2 : (R.drop (i * 2)).length = (n - i) * 2 := by simp; omega
        have o2 : cellsOk (R.drop (i * 2)) = true := by
          have h := hoR
          rw [← List.take_append_drop (i * 2) R, cells_append, Bool.and_eq_true] at h
          exact h.2
        obtain ⟨L1, hL1⟩ : ∃ L1, L1 = (R ++ U).take ((i + 1) * 2) ++ (R.drop (i * 2) ++ (R ++ U).drop ((i + 1) * 2 + (n - i) * 2)) := ⟨_, rfl⟩
        have l3 : L1.length = c * 2 := by rw [hL1]; simp only [List.length_append, List.length_take, List.length_drop, hcells, l2]; simp only [List.length_append] at hcells; omega
        have b4 : i * 2 + 2 ≤ c * 2 := by omega
        simp only [↓vA, ↓vE, ↓vO, ↓vB, ↓vF, ↓vM, ↓vR, ↓vX, cvF_pc, vP, shb, shv, shvs, she_nil, she_cons, vC, vQ, Nat.reduceEqDiff, ↓reduceIte, eq_self, Nat.reduceAdd, Nat.reduceMul, Nat.reduceSub, Nat.reduceLeDiff, Nat.reduceLT, defd, cellsOf, wr, packR, Int.reduceLE, Int.reduceLT, Int.reduceEq, Int.cast_ofNat_Int, Int.reduceToNat, ha, t2, p2, i1, c2, c0, hci2, hi, hcap, i2, m1, m2, hcells, b1, l1, b2, e2, l2, b3, o2, ← hL1, l3, b4, hE, htE, hoE]
        have k1 : L1.take (i * 2) = R.take (i * 2) := by
          rw [hL1, List.take_append_of_le_length (by simp only [List.length_take, hcells]; omega), List.take_take, Nat.min_eq_left (by omega), List.take_append_of_le_length (by omega)]
        have k2 : L1.drop (i * 2 + 2) = R.drop (i * 2) ++ (R ++ U).drop ((i + 1) * 2 + (n - i) * 2) := by
          rw [hL1, List.drop_left' (by simp only [List.length_take, hcells]; omega)]
        refine UpdW.closedI (a := false) (cs := L1.take (i * 2) ++ (E ++ L1.drop (i * 2 + 2))) (by simp [Tr.get_set]) (by simp [Tr.get_set]) (by simp) ?_ hcap ?_ ?_ hcE
        · simp only [List.length_append, List.length_take, List.length_drop, l3, hE]; omega
        · rw [k1, k2, ← List.append_assoc, ← List.append_assoc, List.take_left' (by simp only [List.length_append, List.length_take, hE, l2]; omega), List.append_assoc]
        · have h := hcR
          rw [← List.take_append_drop (i * 2) R, clos_append, Bool.and_eq_true] at h
          simp only [clos_append, h.1, h.2, hcE, Bool.and_self]
      · have hcap' : (c : Int) < (n : Int) + 1 := by omega
        have s1 : IntKind.wrap .i64 ((n : Int) + 1 - i) = (n : Int) + 1 - i := wrap64 (by omega) (by omega)
        have s2 : ((n : Int) + 1 - i).toNat = n + 1 - i := by omega
        have s3 : (0 : Int) ≤ (n : Int) + 1 - i := by omega
        have s4 : i + (n + 1 - i) = n + 1 := by omega
        have s5 : c < n + 1 := by omega
        have s6 : i * 2 ≤ c * 2 := by omega
        have e1 : (R ++ U).take (i * 2) = R.take (i * 2) := by rw [List.take_append_of_le_length (by omega)]
        have n1 : ¬ n + 1 = 0 := by omega
        have i2 : i ≤ n + 1 := by omega
        have hic : i ≤ c := by omega
        have m2 : min 1 (n + 1 - i) = 1 := by omega
        have m1 : min (n - i) (n + 1 - (i + 1)) = n - i := by omega
        have zl : ((List.replicate (n + 1 - i) ([.s [], .i .u32 0] : List AV)).flatten).length = (n + 1 - i) * 2 := by simp [List.length_flatten]
        obtain ⟨L1, hL1⟩ : ∃ L1, L1 = R.take (i * 2) ++ (List.replicate (n + 1 - i) ([.s [], .i .u32 0] : List AV)).flatten := ⟨_, rfl⟩
        have l1 : L1.length = (n + 1) * 2 := by rw [hL1]; simp only [List.length_append, List.length_take, zl]; omega
        have b4 : i * 2 + 2 ≤ (n + 1) * 2 := by omega
        have e2 : ((R ++ U).drop (i * 2)).take ((n - i) * 2) = R.drop (i * 2) := by
          rw [List.drop_append_of_le_length (by omega), List.take_left' (by simp; omega)]
        have b5 : i * 2 + (n - i) * 2 ≤ c * 2 := by omega
        have l2 : (R.drop (i * 2)).length = (n - i) * 2 := by simp; omega
        have e3 : (R.drop (i * 2)).take ((n - i) * 2) = R.drop (i * 2) := List.take_of_length_le (Nat.le_of_eq l2)
        have b6 : (i + 1) * 2 + (n - i) * 2 ≤ (n + 1) * 2 := by omega
        have o2 : cellsOk (R.drop (i * 2)) = true := by
          have h := hoR
          rw [← List.take_append_drop (i * 2) R, cells_append, Bool.and_eq_true] at h
          exact h.2
        obtain ⟨L2, hL2⟩ : ∃ L2, L2 = L1.take (i * 2) ++ (E ++ L1.drop (i * 2 + 2)) := ⟨_, rfl⟩
        have l4 : L2.length = (n + 1) * 2 := by rw [hL2]; simp only [List.length_append, List.length_take, List.length_drop, l1, hE]; omega
        simp only [↓vA, ↓vE, ↓vO, ↓vB, ↓vF, ↓vM, ↓vR, ↓vX, cvF_pc, vP, shb, shv, shvs, she_nil, she_cons, vC, vQ, Nat.reduceEqDiff, ↓reduceIte, eq_self, Nat.reduceAdd, Nat.reduceMul, Nat.reduceSub, Nat.reduceLeDiff, Nat.reduceLT, defd, cellsOf, wr, packR, Int.reduceLE, Int.reduceLT, Int.reduceEq, Int.cast_ofNat_Int, Int.reduceToNat, hw1, hcap', hcells, c0, hci, hci2, hic, s1, s2, s3, s4, s5, hr, hr2, s6, e1, n1, i2, m2, hE, htE, hoE, ← hL1, l1, b4, ← hL2]
        refine VD_pc ?_
        simp only [↓vA, ↓vE, ↓vO, ↓vB, ↓vF, ↓vM, ↓vR, ↓vX, cvF_pc, vP, shb, shv, shvs, she_nil, she_cons, vC, vQ, Nat.reduceEqDiff, ↓reduceIte, eq_self, Nat.reduceAdd, Nat.reduceMul, Nat.reduceSub, Nat.reduceLeDiff, Nat.reduceLT, defd, cellsOf, wr, packR, Int.reduceLE, Int.reduceLT, Int.reduceEq, Int.cast_ofNat_Int, Int.reduceToNat, ha, t2, p2, i1, c0, hci2, hi, hcl, i2, m1, n1, hcells, e2, b5, l2, e3, b6, l4, o2]
        have k1 : L1.take (i * 2) = R.take (i * 2) := by
          rw [hL1, List.take_left' (by simp; omega)]
        have k3 : L2.take ((i + 1) * 2) ++ (R.drop (i * 2) ++ L2.drop ((i + 1) * 2 + (n - i) * 2)) = R.take (i * 2) ++ (E ++ R.drop (i * 2)) := by
          rw [show L2.drop ((i + 1) * 2 + (n - i) * 2) = [] from List.drop_of_length_le (by rw [l4]; omega), List.append_nil, hL2, k1, ← List.append_assoc, List.take_left' (by simp only [List.length_append, List.length_take, hE]; omega), List.append_assoc]
        have hcl2 : clos (R.take (i * 2) ++ (E ++ R.drop (i * 2))) = true := by
          have h := hcR
          rw [← List.take_append_drop (i * 2) R, clos_append, Bool.and_eq_true] at h
          simp only [clos_append, h.1, h.2, hcE, Bool.and_self]
        simp only [k3]
        generalize R.take (i * 2) ++ (E ++ R.drop (i * 2)) = RR at hcl2 ⊢
        refine UpdZ.w (fun _ => ⟨[0, 1, 2], ?_⟩) (by simp)
        simp [vW, bw_map, mapAt_map, mapClo_it, mapClo_nil, mapClo_cons, vP, vZ, Tr.get_set, nvs_self, hcE, hcl2]
        decide
end Go.Kc
end
section
/- What binary searches answer; a list with a number more or less. Condition: the functions' texts are these. -/
namespace Go.Kc
variable {P : Program} {f : Nat}
theorem half64 {a b : Nat} (ha : a ≤ b) (hb : b ≤ 70368744177664) : IntKind.wrap .i64 (shrI .u64 (IntKind.wrap .u64 (IntKind.wrap .i64 ((a : Int) + b))) 1) = ((a + b) / 2 : Nat) := by
  rw [wrap64 (x := (a : Int) + b) (by omega) (by omega), wrapu64 (by omega) (by omega)]
  have : shrI .u64 ((a : Int) + b) 1 = ((a + b) / 2 : Nat) := by
    show Int.fdiv ((a : Int) + b) (2 ^ min (1 : Int).toNat 64) = _
    rw [show min (1 : Int).toNat 64 = 1 from rfl, Int.pow_one, Int.fdiv_eq_ediv_of_nonneg _ (by decide)]
    omega
  rw [this, wrap64 (by omega) (by omega)]
/-- where the search ends -/
def bsN (p : Nat → Bool) (i j : Nat) : Nat :=
  if h : i < j then (if p ((i + j) / 2) = true then bsN p ((i + j) / 2 + 1) j else bsN p i ((i + j) / 2)) else i
termination_by j - i
theorem bsN_le (p : Nat → Bool) : ∀ (m i j : Nat), j - i = m → i ≤ j → i ≤ bsN p i j ∧ bsN p i j ≤ j := by
  intro m
  induction m using Nat.strongRecOn with
  | ind m ih =>
    intro i j hm hij
    rw [bsN]
    split
    · split
      · have := ih (j - ((i + j) / 2 + 1)) (by omega) ((i + j) / 2 + 1) j rfl (by omega); omega
      · have := ih ((i + j) / 2 - i) (by omega) i ((i + j) / 2) rfl (by omega); omega
    · omega
/-- the search in a row where what is asked holds first, and then no more -/
theorem bsN_mono (p : Nat → Bool) (hp : ∀ a b, a ≤ b → p b = true → p a = true) : ∀ (m i j : Nat), j - i = m → i ≤ j → (∀ a, a < i → p a = true) → (∀ a, j ≤ a → p a = false) → (∀ a, a < bsN p i j → p a = true) ∧ (∀ a, bsN p i j ≤ a → p a = false) := by
  intro m
  induction m using Nat.strongRecOn with
  | ind m ih =>
    intro i j hm hij h1 h2
    rw [bsN]
    split
    · split
      · rename_i hh
        exact ih (j - ((i + j) / 2 + 1)) (by omega) _ _ rfl (by omega) (fun a ha => hp a _ (by omega) hh) h2
      · rename_i hh
        refine ih ((i + j) / 2 - i) (by omega) _ _ rfl (by omega) h1 (fun a ha => ?_)
        cases hpa : p a with
        | false => rfl
        | true => exact absurd (hp _ a ha hpa) hh
    · exact ⟨h1, fun a ha => h2 a (by omega)⟩
def bsI (l : List Int) (x : Int) : Nat := bsN (fun k => decide (l.getD k 0 < x)) 0 l.length
theorem bsI_le (l : List Int) (x : Int) : bsI l x ≤ l.length := (bsN_le _ _ 0 l.length rfl (Nat.zero_le _)).2
def ir_cmp_isNaN_int : IFn := ⟨[.tmp 2],
  .seq (.reg false [⟨(some 2), .op (.mov (.c (.b false))), none⟩])
  (.seq (.reg false [⟨(some 3), .op (.mov (.t 0)), none⟩,
    ⟨(some 4), .op (.mov (.t 0)), none⟩,
    ⟨(some 5), .op (.bin .neq (.t 3) (.t 4)), none⟩,
    ⟨(some 2), .op (.mov (.t 5)), none⟩])
  (.ret))⟩
theorem cisNaN_int (hc : chkFn P f ir_cmp_isNaN_int = true) (x : Int) : Pure P f [.i .i64 x] (.b false) := by
  refine Pure.mk hc (by simp [clos, clo]) ?_
  simp only [ir_cmp_isNaN_int, argsT, H0, mkT, mkH, trL, List.length_cons, List.length_nil, Nat.reduceAdd, Nat.zero_add]
  simp only [↓vA, ↓vE, ↓vO, ↓vB, ↓vF, ↓vM, ↓vR, ↓vX, cvF_pc, vP, shb, shv, shvs, she_nil, she_cons, vC, vQ, Nat.reduceEqDiff, ↓reduceIte, eq_self, Nat.reduceAdd, Nat.reduceMul, Nat.reduceSub, Nat.reduceLeDiff, Nat.reduceLT, defd, cellsOf, wr, packR, Int.reduceLE, Int.reduceLT, Int.reduceEq, Int.cast_ofNat_Int, Int.reduceToNat, vZ]
def ir_slices_isNaN_int : IFn := ⟨[.tmp 2],
  .seq (.reg false [⟨(some 2), .op (.mov (.c (.b false))), none⟩])
  (.seq (.reg false [⟨(some 3), .op (.mov (.t 0)), none⟩,
    ⟨(some 4), .op (.mov (.t 0)), none⟩,
    ⟨(some 5), .op (.bin .neq (.t 3) (.t 4)), none⟩,
    ⟨(some 2), .op (.mov (.t 5)), none⟩])
  (.ret))⟩
theorem sisNaN_int (hc : chkFn P f ir_slices_isNaN_int = true) (x : Int) : Pure P f [.i .i64 x] (.b false) := by
  refine Pure.mk hc (by simp [clos, clo]) ?_
  simp only [ir_slices_isNaN_int, argsT, H0, mkT, mkH, trL, List.length_cons, List.length_nil, Nat.reduceAdd, Nat.zero_add]
  simp only [↓vA, ↓vE, ↓vO, ↓vB, ↓vF, ↓vM, ↓vR, ↓vX, cvF_pc, vP, shb, shv, shvs, she_nil, she_cons, vC, vQ, Nat.reduceEqDiff, ↓reduceIte, eq_self, Nat.reduceAdd, Nat.reduceMul, Nat.reduceSub, Nat.reduceLeDiff, Nat.reduceLT, defd, cellsOf, wr, packR, Int.reduceLE, Int.reduceLT, Int.reduceEq, Int.cast_ofNat_Int, Int.reduceToNat, vZ]
def ir_cmp_Less_int (f_cmp_isNaN_int : Nat) : IFn := ⟨[.tmp 4],
  .seq (.reg false [⟨(some 4), .op (.mov (.c (.b false))), none⟩])
  (.seq (.reg false [⟨(some 5), .op (.mov (.t 0)), none⟩,
    ⟨(some 6), .callF f_cmp_isNaN_int [(.t 5)], none⟩,
    ⟨(some 7), .op (.mov (.t 6)), none⟩,
    ⟨(some 8), .op (.mov (.t 1)), (some (7, true))⟩,
    ⟨(some 9), .callF f_cmp_isNaN_int [(.t 8)], (some (7, true))⟩,
    ⟨(some 10), .op (.un .not (.t 9)), (some (7, true))⟩,
    ⟨(some 11), .op (.pick (.t 7) (.t 10) (.c (.b false))), none⟩,
    ⟨(some 12), .op (.mov (.t 11)), none⟩,
    ⟨(some 13), .op (.mov (.t 0)), (some (12, false))⟩,
    ⟨(some 14), .op (.mov (.t 1)), (some (12, false))⟩,
    ⟨(some 15), .op (.bin .lss (.t 13) (.t 14)), (some (12, false))⟩,
    ⟨(some 16), .op (.pick (.t 12) (.c (.b true)) (.t 15)), none⟩,
    ⟨(some 4), .op (.mov (.t 16)), none⟩])
  (.ret))⟩
theorem less_int {g : Nat} (hc : chkFn P f (ir_cmp_Less_int g) = true) (hg : ∀ x, Pure P g [.i .i64 x] (.b false)) (x y : Int) : Pure P f [.i .i64 x, .i .i64 y] (.b (decide (x < y))) := by
  refine Pure.mk hc (by simp [clos, clo]) ?_
  simp only [ir_cmp_Less_int, argsT, H0, mkT, mkH, trL, List.length_cons, List.length_nil, Nat.reduceAdd, Nat.zero_add]
  simp only [↓vA, ↓vE, ↓vO, ↓vB, ↓vF, ↓vM, ↓vR, ↓vX, cvF_pc, vP, shb, shv, shvs, she_nil, she_cons, vC, vQ, Nat.reduceEqDiff, ↓reduceIte, eq_self, Nat.reduceAdd, Nat.reduceMul, Nat.reduceSub, Nat.reduceLeDiff, Nat.reduceLT, defd, cellsOf, wr, packR, Int.reduceLE, Int.reduceLT, Int.reduceEq, Int.cast_ofNat_Int, Int.reduceToNat]
  refine (hg x).sc ?_
  simp only [↓vA, ↓vE, ↓vO, ↓vB, ↓vF, ↓vM, ↓vR, ↓vX, cvF_pc, vP, shb, shv, shvs, she_nil, she_cons, vC, vQ, Nat.reduceEqDiff, ↓reduceIte, eq_self, Nat.reduceAdd, Nat.reduceMul, Nat.reduceSub, Nat.reduceLeDiff, Nat.reduceLT, defd, cellsOf, wr, packR, Int.reduceLE, Int.reduceLT, Int.reduceEq, Int.cast_ofNat_Int, Int.reduceToNat, vZ]
def ir_slices_BinarySearch_int_int (f_cmp_Less_int f_slices_isNaN_int : Nat) : IFn := ⟨[.tmp 4, .tmp 5],
  .seq (.reg false [⟨(some 4), .op (.mov (.c (.i .i64 0))), none⟩,
    ⟨(some 5), .op (.mov (.c (.b false))), none⟩])
  (.seq (.reg false [⟨(some 10), .op (.mov (.t 0)), none⟩,
    ⟨(some 11), .op (.len false (.t 10)), none⟩,
    ⟨(some 6), .op (.mov (.t 11)), none⟩])
  (.seq (.reg false [⟨(some 12), .op (.mov (.t 6)), none⟩,
    ⟨(some 7), .op (.mov (.c (.i .i64 0))), none⟩,
    ⟨(some 8), .op (.mov (.t 12)), none⟩])
  (.seq (.blk 0 (.loop (.seq (.seq (.reg false [⟨(some 13), .op (.mov (.t 7)), none⟩,
    ⟨(some 14), .op (.mov (.t 8)), none⟩,
    ⟨(some 15), .op (.bin .lss (.t 13) (.t 14)), none⟩])
  (.cond (.t 15) (.skip) (.exit 0)))
  (.blk 1 (.seq (.reg false [⟨(some 16), .op (.mov (.t 7)), none⟩,
    ⟨(some 17), .op (.mov (.t 8)), none⟩,
    ⟨(some 18), .op (.bin .add (.t 16) (.t 17)), none⟩,
    ⟨(some 19), .op (.cvInt .u64 (.t 18)), none⟩,
    ⟨(some 20), .op (.bin .shr (.t 19) (.c (.i .u64 1))), none⟩,
    ⟨(some 21), .op (.cvInt .i64 (.t 20)), none⟩,
    ⟨(some 9), .op (.mov (.t 21)), none⟩])
  (.seq (.reg false [⟨(some 22), .op (.mov (.t 0)), none⟩,
    ⟨(some 23), .op (.mov (.t 9)), none⟩,
    ⟨(some 24), .op (.iAddrS 1 (.t 22) (.t 23)), none⟩,
    ⟨(some 25), .op (.load1 (.t 24)), none⟩,
    ⟨(some 26), .op (.mov (.t 1)), none⟩,
    ⟨(some 27), .callF f_cmp_Less_int [(.t 25), (.t 26)], none⟩])
  (.cond (.t 27) (.reg false [⟨(some 28), .op (.mov (.t 9)), none⟩,
    ⟨(some 29), .op (.bin .add (.t 28) (.c (.i .i64 1))), none⟩,
    ⟨(some 7), .op (.mov (.t 29)), none⟩]) (.reg false [⟨(some 30), .op (.mov (.t 9)), none⟩,
    ⟨(some 8), .op (.mov (.t 30)), none⟩]))))))))
  (.seq (.reg false [⟨(some 31), .op (.mov (.t 7)), none⟩,
    ⟨(some 32), .op (.mov (.t 7)), none⟩,
    ⟨(some 33), .op (.mov (.t 6)), none⟩,
    ⟨(some 34), .op (.bin .lss (.t 32) (.t 33)), none⟩,
    ⟨(some 35), .op (.mov (.t 34)), none⟩,
    ⟨(some 36), .op (.mov (.t 0)), (some (35, true))⟩,
    ⟨(some 37), .op (.mov (.t 7)), (some (35, true))⟩,
    ⟨(some 38), .op (.iAddrS 1 (.t 36) (.t 37)), (some (35, true))⟩,
    ⟨(some 39), .op (.load1 (.t 38)), (some (35, true))⟩,
    ⟨(some 40), .op (.mov (.t 1)), (some (35, true))⟩,
    ⟨(some 41), .op (.bin .eql (.t 39) (.t 40)), (some (35, true))⟩,
    ⟨(some 42), .op (.mov (.t 41)), (some (35, true))⟩,
    ⟨(some 43), .op (.mov (.t 0)), (some (42, false))⟩,
    ⟨(some 44), .op (.mov (.t 7)), (some (42, false))⟩,
    ⟨(some 45), .op (.iAddrS 1 (.t 43) (.t 44)), (some (42, false))⟩,
    ⟨(some 46), .op (.load1 (.t 45)), (some (42, false))⟩,
    ⟨(some 47), .callF f_slices_isNaN_int [(.t 46)], (some (42, false))⟩,
    ⟨(some 48), .op (.mov (.t 47)), (some (42, false))⟩,
    ⟨(some 49), .op (.mov (.t 1)), (some (48, true))⟩,
    ⟨(some 50), .callF f_slices_isNaN_int [(.t 49)], (some (48, true))⟩,
    ⟨(some 51), .op (.pick (.t 48) (.t 50) (.c (.b false))), (some (42, false))⟩,
    ⟨(some 52), .op (.pick (.t 42) (.c (.b true)) (.t 51)), (some (35, true))⟩,
    ⟨(some 53), .op (.pick (.t 35) (.t 52) (.c (.b false))), none⟩,
    ⟨(some 4), .op (.mov (.t 31)), none⟩,
    ⟨(some 5), .op (.mov (.t 53)), none⟩])
  (.ret)))))⟩
def cBs_int (P : Program) (f : Nat) : Prop := ∀ (l : List Int) (x : Int), l.length ≤ roomB → Pure P f [.fz l.length (rI .i64 l), .i .i64 x] (.tup [.i .i64 (bsI l x : Int), .b (decide (l[bsI l x]? = some x))])
theorem bs_int {g1 g2 : Nat} (hc : chkFn P f (ir_slices_BinarySearch_int_int g1 g2) = true) (h1 : ∀ x y, Pure P g1 [.i .i64 x, .i .i64 y] (.b (decide (x < y)))) (h2 : ∀ x, Pure P g2 [.i .i64 x] (.b false)) : cBs_int P f := by
  intro l x hl
  have hl2 := hl; simp only [roomB] at hl2
  refine Pure.mk hc (by simp [clos, clo]) ?_
  simp only [ir_slices_BinarySearch_int_int, argsT, H0, mkT, mkH, trL, List.length_cons, List.length_nil, Nat.reduceAdd, Nat.zero_add]
  simp only [↓vA, ↓vE, ↓vO, ↓vB, ↓vF, ↓vM, ↓vR, ↓vX, cvF_pc, vP, shb, shv, shvs, she_nil, she_cons, vC, vQ, Nat.reduceEqDiff, ↓reduceIte, eq_self, Nat.reduceAdd, Nat.reduceMul, Nat.reduceSub, Nat.reduceLeDiff, Nat.reduceLT, defd, cellsOf, wr, packR, Int.reduceLE, Int.reduceLT, Int.reduceEq, Int.cast_ofNat_Int, Int.reduceToNat]
  refine SL.loop (α := Nat × Nat) (fun s => [(0, .fz l.length (rI .i64 l)), (1, .i .i64 x), (6, .i .i64 l.length), (7, .i .i64 s.1), (8, .i .i64 s.2)]) (fun _ => []) (fun s => s.1 ≤ s.2 ∧ s.2 ≤ l.length ∧ bsI l x = bsN (fun k => decide (l.getD k 0 < x)) s.1 s.2) (fun s => s.2 - s.1) (0, l.length) [] ?_ ?_ ?_ rfl ?_ ?_
  · simp [vW, bw_map, mapAt_map, mapClo_it, mapClo_nil, mapClo_cons, vP, vZ, Tr.get_set]
  · trivial
  · simp
  · exact ⟨Nat.zero_le _, Nat.le_refl _, rfl⟩
  rintro ⟨i, j⟩ ⟨hij, hj, hI⟩ G ih
  dsimp only at hij hj hI ih ⊢
  simp only [argsT, H0, mkT, mkH, trL, List.length_cons, List.length_nil, Nat.reduceAdd, Nat.zero_add]
  by_cases hlt : i < j
  · have hh := half64 hij (by omega)
    have hm : (i + j) / 2 < l.length := by omega
    have hx : l[(i + j) / 2]? = some l[(i + j) / 2] := List.getElem?_eq_getElem hm
    have hd : l.getD ((i + j) / 2) 0 = l[(i + j) / 2] := by rw [List.getD_eq_getElem?_getD, hx]; rfl
    rw [bsN, dif_pos hlt, hd] at hI
    simp only [↓vA, ↓vE, ↓vO, ↓vB, ↓vF, ↓vM, ↓vR, ↓vX, cvF_pc, vP, shb, shv, shvs, she_nil, she_cons, vC, vQ, Nat.reduceEqDiff, ↓reduceIte, eq_self, Nat.reduceAdd, Nat.reduceMul, Nat.reduceSub, Nat.reduceLeDiff, Nat.reduceLT, defd, cellsOf, wr, packR, Int.reduceLE, Int.reduceLT, Int.reduceEq, Int.cast_ofNat_Int, Int.reduceToNat, hlt, hh, hm, Nat.mul_one, rI_get, hx, Option.map_some]
    refine (h1 _ _).sc ?_
    by_cases hc2 : l[(i + j) / 2] < x
    · have hw : IntKind.wrap .i64 ((((i + j) / 2 : Nat) : Int) + 1) = (((i + j) / 2 + 1 : Nat) : Int) := by rw [wrap64 (by omega) (by omega)]; omega
      simp only [hc2, decide_true, if_true] at hI
      simp only [↓vA, ↓vE, ↓vO, ↓vB, ↓vF, ↓vM, ↓vR, ↓vX, cvF_pc, vP, shb, shv, shvs, she_nil, she_cons, vC, vQ, Nat.reduceEqDiff, ↓reduceIte, eq_self, Nat.reduceAdd, Nat.reduceMul, Nat.reduceSub, Nat.reduceLeDiff, Nat.reduceLT, defd, cellsOf, wr, packR, Int.reduceLE, Int.reduceLT, Int.reduceEq, Int.cast_ofNat_Int, Int.reduceToNat, hc2, hw]
      refine ih ((i + j) / 2 + 1, j) ⟨by dsimp only; omega, hj, hI⟩ (by dsimp only; omega) _ _ (Wk.mk _ _ [] ?_ ?_ ?_ rfl)
      · simp [vW, bw_map, mapAt_map, mapClo_it, mapClo_nil, mapClo_cons, vP, vZ, Tr.get_set]
      · trivial
      · simp
    · simp only [hc2, decide_false, Bool.false_eq_true, if_false] at hI
      simp only [↓vA, ↓vE, ↓vO, ↓vB, ↓vF, ↓vM, ↓vR, ↓vX, cvF_pc, vP, shb, shv, shvs, she_nil, she_cons, vC, vQ, Nat.reduceEqDiff, ↓reduceIte, eq_self, Nat.reduceAdd, Nat.reduceMul, Nat.reduceSub, Nat.reduceLeDiff, Nat.reduceLT, defd, cellsOf, wr, packR, Int.reduceLE, Int.reduceLT, Int.reduceEq, Int.cast_ofNat_Int, Int.reduceToNat, hc2]
      refine ih (i, (i + j) / 2) ⟨by dsimp only; omega, by dsimp only; omega, hI⟩ (by dsimp only; omega) _ _ (Wk.mk _ _ [] ?_ ?_ ?_ rfl)
      · simp [vW, bw_map, mapAt_map, mapClo_it, mapClo_nil, mapClo_cons, vP, vZ, Tr.get_set]
      · trivial
      · simp
  · have e : bsI l x = i := by rw [hI, bsN, dif_neg hlt]
    by_cases hil : i < l.length
    · have hx : l[i]? = some l[i] := List.getElem?_eq_getElem hil
      by_cases he : l[i] = x
      · simp only [↓vA, ↓vE, ↓vO, ↓vB, ↓vF, ↓vM, ↓vR, ↓vX, cvF_pc, vP, shb, shv, shvs, she_nil, she_cons, vC, vQ, Nat.reduceEqDiff, ↓reduceIte, eq_self, Nat.reduceAdd, Nat.reduceMul, Nat.reduceSub, Nat.reduceLeDiff, Nat.reduceLT, defd, cellsOf, wr, packR, Int.reduceLE, Int.reduceLT, Int.reduceEq, Int.cast_ofNat_Int, Int.reduceToNat, hlt, hil, Nat.mul_one, rI_get, hx, Option.map_some, he, vZ, e]
      · simp only [↓vA, ↓vE, ↓vO, ↓vB, ↓vF, ↓vM, ↓vR, ↓vX, cvF_pc, vP, shb, shv, shvs, she_nil, she_cons, vC, vQ, Nat.reduceEqDiff, ↓reduceIte, eq_self, Nat.reduceAdd, Nat.reduceMul, Nat.reduceSub, Nat.reduceLeDiff, Nat.reduceLT, defd, cellsOf, wr, packR, Int.reduceLE, Int.reduceLT, Int.reduceEq, Int.cast_ofNat_Int, Int.reduceToNat, hlt, hil, Nat.mul_one, rI_get, hx, Option.map_some, he]
        refine (h2 _).sc ?_
        simp only [↓vA, ↓vE, ↓vO, ↓vB, ↓vF, ↓vM, ↓vR, ↓vX, cvF_pc, vP, shb, shv, shvs, she_nil, she_cons, vC, vQ, Nat.reduceEqDiff, ↓reduceIte, eq_self, Nat.reduceAdd, Nat.reduceMul, Nat.reduceSub, Nat.reduceLeDiff, Nat.reduceLT, defd, cellsOf, wr, packR, Int.reduceLE, Int.reduceLT, Int.reduceEq, Int.cast_ofNat_Int, Int.reduceToNat, vZ, e, hx, Option.some.injEq, he]
    · have hx : l[i]? = none := List.getElem?_eq_none (by omega)
      simp only [↓vA, ↓vE, ↓vO, ↓vB, ↓vF, ↓vM, ↓vR, ↓vX, cvF_pc, vP, shb, shv, shvs, she_nil, she_cons, vC, vQ, Nat.reduceEqDiff, ↓reduceIte, eq_self, Nat.reduceAdd, Nat.reduceMul, Nat.reduceSub, Nat.reduceLeDiff, Nat.reduceLT, defd, cellsOf, wr, packR, Int.reduceLE, Int.reduceLT, Int.reduceEq, Int.cast_ofNat_Int, Int.reduceToNat, hlt, hil, vZ, e, hx, reduceCtorEq]
def ir_restrict_with_int_1 : IFn := ⟨[.tmp 3],
  .seq (.reg false [⟨(some 3), .op (.mov (.c (.b false))), none⟩])
  (.seq (.reg false [⟨(some 4), .op (.mov (.t 0)), none⟩,
    ⟨(some 5), .op (.load1 (.t 1)), none⟩,
    ⟨(some 6), .op (.bin .eql (.t 4) (.t 5)), none⟩,
    ⟨(some 3), .op (.mov (.t 6)), none⟩])
  (.ret))⟩
theorem withEq_int (hc : chkFn P f ir_restrict_with_int_1 = true) (x y : Int) : Pure P f [.i .i64 x, .pf [.i .i64 y] 0] (.b (decide (x = y))) := by
  refine Pure.mk hc (by simp [clos, clo]) ?_
  simp only [ir_restrict_with_int_1, argsT, H0, mkT, mkH, trL, List.length_cons, List.length_nil, Nat.reduceAdd, Nat.zero_add]
  simp only [↓vA, ↓vE, ↓vO, ↓vB, ↓vF, ↓vM, ↓vR, ↓vX, cvF_pc, vP, shb, shv, shvs, she_nil, she_cons, vC, vQ, Nat.reduceEqDiff, ↓reduceIte, eq_self, Nat.reduceAdd, Nat.reduceMul, Nat.reduceSub, Nat.reduceLeDiff, Nat.reduceLT, defd, cellsOf, wr, packR, Int.reduceLE, Int.reduceLT, Int.reduceEq, Int.cast_ofNat_Int, Int.reduceToNat, vZ]
def ir_cmp_isNaN_uint32 : IFn := ⟨[.tmp 2],
  .seq (.reg false [⟨(some 2), .op (.mov (.c (.b false))), none⟩])
  (.seq (.reg false [⟨(some 3), .op (.mov (.t 0)), none⟩,
    ⟨(some 4), .op (.mov (.t 0)), none⟩,
    ⟨(some 5), .op (.bin .neq (.t 3) (.t 4)), none⟩,
    ⟨(some 2), .op (.mov (.t 5)), none⟩])
  (.ret))⟩
theorem cisNaN_u32 (hc : chkFn P f ir_cmp_isNaN_uint32 = true) (x : Int) : Pure P f [.i .u32 x] (.b false) := by
  refine Pure.mk hc (by simp [clos, clo]) ?_
  simp only [ir_cmp_isNaN_uint32, argsT, H0, mkT, mkH, trL, List.length_cons, List.length_nil, Nat.reduceAdd, Nat.zero_add]
  simp only [↓vA, ↓vE, ↓vO, ↓vB, ↓vF, ↓vM, ↓vR, ↓vX, cvF_pc, vP, shb, shv, shvs, she_nil, she_cons, vC, vQ, Nat.reduceEqDiff, ↓reduceIte, eq_self, Nat.reduceAdd, Nat.reduceMul, Nat.reduceSub, Nat.reduceLeDiff, Nat.reduceLT, defd, cellsOf, wr, packR, Int.reduceLE, Int.reduceLT, Int.reduceEq, Int.cast_ofNat_Int, Int.reduceToNat, vZ]
def ir_slices_isNaN_uint32 : IFn := ⟨[.tmp 2],
  .seq (.reg false [⟨(some 2), .op (.mov (.c (.b false))), none⟩])
  (.seq (.reg false [⟨(some 3), .op (.mov (.t 0)), none⟩,
    ⟨(some 4), .op (.mov (.t 0)), none⟩,
    ⟨(some 5), .op (.bin .neq (.t 3) (.t 4)), none⟩,
    ⟨(some 2), .op (.mov (.t 5)), none⟩])
  (.ret))⟩
theorem sisNaN_u32 (hc : chkFn P f ir_slices_isNaN_uint32 = true) (x : Int) : Pure P f [.i .u32 x] (.b false) := by
  refine Pure.mk hc (by simp [clos, clo]) ?_
  simp only [ir_slices_isNaN_uint32, argsT, H0, mkT, mkH, trL, List.length_cons, List.length_nil, Nat.reduceAdd, Nat.zero_add]
  simp only [↓vA, ↓vE, ↓vO, ↓vB, ↓vF, ↓vM, ↓vR, ↓vX, cvF_pc, vP, shb, shv, shvs, she_nil, she_cons, vC, vQ, Nat.reduceEqDiff, ↓reduceIte, eq_self, Nat.reduceAdd, Nat.reduceMul, Nat.reduceSub, Nat.reduceLeDiff, Nat.reduceLT, defd, cellsOf, wr, packR, Int.reduceLE, Int.reduceLT, Int.reduceEq, Int.cast_ofNat_Int, Int.reduceToNat, vZ]
def ir_cmp_Less_uint32 (f_cmp_isNaN_uint32 : Nat) : IFn := ⟨[.tmp 4],
  .seq (.reg false [⟨(some 4), .op (.mov (.c (.b false))), none⟩])
  (.seq (.reg false [⟨(some 5), .op (.mov (.t 0)), none⟩,
    ⟨(some 6), .callF f_cmp_isNaN_uint32 [(.t 5)], none⟩,
    ⟨(some 7), .op (.mov (.t 6)), none⟩,
    ⟨(some 8), .op (.mov (.t 1)), (some (7, true))⟩,
    ⟨(some 9), .callF f_cmp_isNaN_uint32 [(.t 8)], (some (7, true))⟩,
    ⟨(some 10), .op (.un .not (.t 9)), (some (7, true))⟩,
    ⟨(some 11), .op (.pick (.t 7) (.t 10) (.c (.b false))), none⟩,
    ⟨(some 12), .op (.mov (.t 11)), none⟩,
    ⟨(some 13), .op (.mov (.t 0)), (some (12, false))⟩,
    ⟨(some 14), .op (.mov (.t 1)), (some (12, false))⟩,
    ⟨(some 15), .op (.bin .lss (.t 13) (.t 14)), (some (12, false))⟩,
    ⟨(some 16), .op (.pick (.t 12) (.c (.b true)) (.t 15)), none⟩,
    ⟨(some 4), .op (.mov (.t 16)), none⟩])
  (.ret))⟩
theorem less_u32 {g : Nat} (hc : chkFn P f (ir_cmp_Less_uint32 g) = true) (hg : ∀ x, Pure P g [.i .u32 x] (.b false)) (x y : Int) : Pure P f [.i .u32 x, .i .u32 y] (.b (decide (x < y))) := by
  refine Pure.mk hc (by simp [clos, clo]) ?_
  simp only [ir_cmp_Less_uint32, argsT, H0, mkT, mkH, trL, List.length_cons, List.length_nil, Nat.reduceAdd, Nat.zero_add]
  simp only [↓vA, ↓vE, ↓vO, ↓vB, ↓vF, ↓vM, ↓vR, ↓vX, cvF_pc, vP, shb, shv, shvs, she_nil, she_cons, vC, vQ, Nat.reduceEqDiff, ↓reduceIte, eq_self, Nat.reduceAdd, Nat.reduceMul, Nat.reduceSub, Nat.reduceLeDiff, Nat.reduceLT, defd, cellsOf, wr, packR, Int.reduceLE, Int.reduceLT, Int.reduceEq, Int.cast_ofNat_Int, Int.reduceToNat]
  refine (hg x).sc ?_
  simp only [↓vA, ↓vE, ↓vO, ↓vB, ↓vF, ↓vM, ↓vR, ↓vX, cvF_pc, vP, shb, shv, shvs, she_nil, she_cons, vC, vQ, Nat.reduceEqDiff, ↓reduceIte, eq_self, Nat.reduceAdd, Nat.reduceMul, Nat.reduceSub, Nat.reduceLeDiff, Nat.reduceLT, defd, cellsOf, wr, packR, Int.reduceLE, Int.reduceLT, Int.reduceEq, Int.cast_ofNat_Int, Int.reduceToNat, vZ]
def ir_slices_BinarySearch_uint32_uint32 (f_cmp_Less_uint32 f_slices_isNaN_uint32 : Nat) : IFn := ⟨[.tmp 4, .tmp 5],
  .seq (.reg false [⟨(some 4), .op (.mov (.c (.i .i64 0))), none⟩,
    ⟨(some 5), .op (.mov (.c (.b false))), none⟩])
  (.seq (.reg false [⟨(some 10), .op (.mov (.t 0)), none⟩,
    ⟨(some 11), .op (.len false (.t 10)), none⟩,
    ⟨(some 6), .op (.mov (.t 11)), none⟩])
  (.seq (.reg false [⟨(some 12), .op (.mov (.t 6)), none⟩,
    ⟨(some 7), .op (.mov (.c (.i .i64 0))), none⟩,
    ⟨(some 8), .op (.mov (.t 12)), none⟩])
  (.seq (.blk 0 (.loop (.seq (.seq (.reg false [⟨(some 13), .op (.mov (.t 7)), none⟩,
    ⟨(some 14), .op (.mov (.t 8)), none⟩,
    ⟨(some 15), .op (.bin .lss (.t 13) (.t 14)), none⟩])
  (.cond (.t 15) (.skip) (.exit 0)))
  (.blk 1 (.seq (.reg false [⟨(some 16), .op (.mov (.t 7)), none⟩,
    ⟨(some 17), .op (.mov (.t 8)), none⟩,
    ⟨(some 18), .op (.bin .add (.t 16) (.t 17)), none⟩,
    ⟨(some 19), .op (.cvInt .u64 (.t 18)), none⟩,
    ⟨(some 20), .op (.bin .shr (.t 19) (.c (.i .u64 1))), none⟩,
    ⟨(some 21), .op (.cvInt .i64 (.t 20)), none⟩,
    ⟨(some 9), .op (.mov (.t 21)), none⟩])
  (.seq (.reg false [⟨(some 22), .op (.mov (.t 0)), none⟩,
    ⟨(some 23), .op (.mov (.t 9)), none⟩,
    ⟨(some 24), .op (.iAddrS 1 (.t 22) (.t 23)), none⟩,
    ⟨(some 25), .op (.load1 (.t 24)), none⟩,
    ⟨(some 26), .op (.mov (.t 1)), none⟩,
    ⟨(some 27), .callF f_cmp_Less_uint32 [(.t 25), (.t 26)], none⟩])
  (.cond (.t 27) (.reg false [⟨(some 28), .op (.mov (.t 9)), none⟩,
    ⟨(some 29), .op (.bin .add (.t 28) (.c (.i .i64 1))), none⟩,
    ⟨(some 7), .op (.mov (.t 29)), none⟩]) (.reg false [⟨(some 30), .op (.mov (.t 9)), none⟩,
    ⟨(some 8), .op (.mov (.t 30)), none⟩]))))))))
  (.seq (.reg false [⟨(some 31), .op (.mov (.t 7)), none⟩,
    ⟨(some 32), .op (.mov (.t 7)), none⟩,
    ⟨(some 33), .op (.mov (.t 6)), none⟩,
    ⟨(some 34), .op (.bin .lss (.t 32) (.t 33)), none⟩,
    ⟨(some 35), .op (.mov (.t 34)), none⟩,
    ⟨(some 36), .op (.mov (.t 0)), (some (35, true))⟩,
    ⟨(some 37), .op (.mov (.t 7)), (some (35, true))⟩,
    ⟨(some 38), .op (.iAddrS 1 (.t 36) (.t 37)), (some (35, true))⟩,
    ⟨(some 39), .op (.load1 (.t 38)), (some (35, true))⟩,
    ⟨(some 40), .op (.mov (.t 1)), (some (35, true))⟩,
    ⟨(some 41), .op (.bin .eql (.t 39) (.t 40)), (some (35, true))⟩,
    ⟨(some 42), .op (.mov (.t 41)), (some (35, true))⟩,
    ⟨(some 43), .op (.mov (.t 0)), (some (42, false))⟩,
    ⟨(some 44), .op (.mov (.t 7)), (some (42, false))⟩,
    ⟨(some 45), .op (.iAddrS 1 (.t 43) (.t 44)), (some (42, false))⟩,
    ⟨(some 46), .op (.load1 (.t 45)), (some (42, false))⟩,
    ⟨(some 47), .callF f_slices_isNaN_uint32 [(.t 46)], (some (42, false))⟩,
    ⟨(some 48), .op (.mov (.t 47)), (some (42, false))⟩,
    ⟨(some 49), .op (.mov (.t 1)), (some (48, true))⟩,
    ⟨(some 50), .callF f_slices_isNaN_uint32 [(.t 49)], (some (48, true))⟩,
    ⟨(some 51), .op (.pick (.t 48) (.t 50) (.c (.b false))), (some (42, false))⟩,
    ⟨(some 52), .op (.pick (.t 42) (.c (.b true)) (.t 51)), (some (35, true))⟩,
    ⟨(some 53), .op (.pick (.t 35) (.t 52) (.c (.b false))), none⟩,
    ⟨(some 4), .op (.mov (.t 31)), none⟩,
    ⟨(some 5), .op (.mov (.t 53)), none⟩])
  (.ret)))))⟩
def cBs_u32 (P : Program) (f : Nat) : Prop := ∀ (l : List Int) (x : Int), l.length ≤ roomB → Pure P f [.fz l.length (rI .u32 l), .i .u32 x] (.tup [.i .i64 (bsI l x : Int), .b (decide (l[bsI l x]? = some x))])
theorem bs_u32 {g1 g2 : Nat} (hc : chkFn P f (ir_slices_BinarySearch_uint32_uint32 g1 g2) = true) (h1 : ∀ x y, Pure P g1 [.i .u32 x, .i .u32 y] (.b (decide (x < y)))) (h2 : ∀ x, Pure P g2 [.i .u32 x] (.b false)) : cBs_u32 P f := by
  intro l x hl
  have hl2 := hl; simp only [roomB] at hl2
  refine Pure.mk hc (by simp [clos, clo]) ?_
  simp only [ir_slices_BinarySearch_uint32_uint32, argsT, H0, mkT, mkH, trL, List.length_cons, List.length_nil, Nat.reduceAdd, Nat.zero_add]
  simp only [↓vA, ↓vE, ↓vO, ↓vB, ↓vF, ↓vM, ↓vR, ↓vX, cvF_pc, vP, shb, shv, shvs, she_nil, she_cons, vC, vQ, Nat.reduceEqDiff, ↓reduceIte, eq_self, Nat.reduceAdd, Nat.reduceMul, Nat.reduceSub, Nat.reduceLeDiff, Nat.reduceLT, defd, cellsOf, wr, packR, Int.reduceLE, Int.reduceLT, Int.reduceEq, Int.cast_ofNat_Int, Int.reduceToNat]
  refine SL.loop (α := Nat × Nat) (fun s => [(0, .fz l.length (rI .u32 l)), (1, .i .u32 x), (6, .i .i64 l.length), (7, .i .i64 s.1), (8, .i .i64 s.2)]) (fun _ => []) (fun s => s.1 ≤ s.2 ∧ s.2 ≤ l.length ∧ bsI l x = bsN (fun k => decide (l.getD k 0 < x)) s.1 s.2) (fun s => s.2 - s.1) (0, l.length) [] ?_ ?_ ?_ rfl ?_ ?_
  · simp [vW, bw_map, mapAt_map, mapClo_it, mapClo_nil, mapClo_cons, vP, vZ, Tr.get_set]
  · trivial
  · simp
  · exact ⟨Nat.zero_le _, Nat.le_refl _, rfl⟩
  rintro ⟨i, j⟩ ⟨hij, hj, hI⟩ G ih
  dsimp only at hij hj hI ih ⊢
  simp only [argsT, H0, mkT, mkH, trL, List.length_cons, List.length_nil, Nat.reduceAdd, Nat.zero_add]
  by_cases hlt : i < j
  · have hh := half64 hij (by omega)
    have hm : (i + j) / 2 < l.length := by omega
    have hx : l[(i + j) / 2]? = some l[(i + j) / 2] := List.getElem?_eq_getElem hm
    have hd : l.getD ((i + j) / 2) 0 = l[(i + j) / 2] := by rw [List.getD_eq_getElem?_getD, hx]; rfl
    rw [bsN, dif_pos hlt, hd] at hI
    simp only [↓vA, ↓vE, ↓vO, ↓vB, ↓vF, ↓vM, ↓vR, ↓vX, cvF_pc, vP, shb, shv, shvs, she_nil, she_cons, vC, vQ, Nat.reduceEqDiff, ↓reduceIte, eq_self, Nat.reduceAdd, Nat.reduceMul, Nat.reduceSub, Nat.reduceLeDiff, Nat.reduceLT, defd, cellsOf, wr, packR, Int.reduceLE, Int.reduceLT, Int.reduceEq, Int.cast_ofNat_Int, Int.reduceToNat, hlt, hh, hm, Nat.mul_one, rI_get, hx, Option.map_some]
    refine (h1 _ _).sc ?_
    by_cases hc2 : l[(i + j) / 2] < x
    · have hw : IntKind.wrap .i64 ((((i + j) / 2 : Nat) : Int) + 1) = (((i + j) / 2 + 1 : Nat) : Int) := by rw [wrap64 (by omega) (by omega)]; omega
      simp only [hc2, decide_true, if_true] at hI
      simp only [↓vA, ↓vE, ↓vO, ↓vB, ↓vF, ↓vM, ↓vR, ↓vX, cvF_pc, vP, shb, shv, shvs, she_nil, she_cons, vC, vQ, Nat.reduceEqDiff, ↓reduceIte, eq_self, Nat.reduceAdd, Nat.reduceMul, Nat.reduceSub, Nat.reduceLeDiff, Nat.reduceLT, defd, cellsOf, wr, packR, Int.reduceLE, Int.reduceLT, Int.reduceEq, Int.cast_ofNat_Int, Int.reduceToNat, hc2, hw]
      refine ih ((i + j) / 2 + 1, j) ⟨by dsimp only; omega, hj, hI⟩ (by dsimp only; omega) _ _ (Wk.mk _ _ [] ?_ ?_ ?_ rfl)
      · simp [vW, bw_map, mapAt_map, mapClo_it, mapClo_nil, mapClo_cons, vP, vZ, Tr.get_set]
      · trivial
      · simp
    · simp only [hc2, decide_false, Bool.false_eq_true, if_false] at hI
      simp only [↓vA, ↓vE, ↓vO, ↓vB, ↓vF, ↓vM, ↓vR, ↓vX, cvF_pc, vP, shb, shv, shvs, she_nil, she_cons, vC, vQ, Nat.reduceEqDiff, ↓reduceIte, eq_self, Nat.reduceAdd, Nat.reduceMul, Nat.reduceSub, Nat.reduceLeDiff, Nat.reduceLT, defd, cellsOf, wr, packR, Int.reduceLE, Int.reduceLT, Int.reduceEq, Int.cast_ofNat_Int, Int.reduceToNat, hc2]
      refine ih (i, (i + j) / 2) ⟨by dsimp only; omega, by dsimp only; omega, hI⟩ (by dsimp only; omega) _ _ (Wk.mk _ _ [] ?_ ?_ ?_ rfl)
      · simp [vW, bw_map, mapAt_map, mapClo_it, mapClo_nil, mapClo_cons, vP, vZ, Tr.get_set]
      · trivial
      · simp
  · have e : bsI l x = i := by rw [hI, bsN, dif_neg hlt]
    by_cases hil : i < l.length
    · have hx : l[i]? = some l[i] := List.getElem?_eq_getElem hil
      by_cases he : l[i] = x
      · simp only [↓vA, ↓vE, ↓vO, ↓vB, ↓vF, ↓vM, ↓vR, ↓vX, cvF_pc, vP, shb, shv, shvs, she_nil, she_cons, vC, vQ, Nat.reduceEqDiff, ↓reduceIte, eq_self, Nat.reduceAdd, Nat.reduceMul, Nat.reduceSub, Nat.reduceLeDiff, Nat.reduceLT, defd, cellsOf, wr, packR, Int.reduceLE, Int.reduceLT, Int.reduceEq, Int.cast_ofNat_Int, Int.reduceToNat, hlt, hil, Nat.mul_one, rI_get, hx, Option.map_some, he, vZ, e]
      · simp only [↓vA, ↓vE, ↓vO, ↓vB, ↓vF, ↓vM, ↓vR, ↓vX, cvF_pc, vP, shb, shv, shvs, she_nil, she_cons, vC, vQ, Nat.reduceEqDiff, ↓reduceIte, eq_self, Nat.reduceAdd, Nat.reduceMul, Nat.reduceSub, Nat.reduceLeDiff, Nat.reduceLT, defd, cellsOf, wr, packR, Int.reduceLE, Int.reduceLT, Int.reduceEq, Int.cast_ofNat_Int, Int.reduceToNat, hlt, hil, Nat.mul_one, rI_get, hx, Option.map_some, he]
        refine (h2 _).sc ?_
        simp only [↓vA, ↓vE, ↓vO, ↓vB, ↓vF, ↓vM, ↓vR, ↓vX, cvF_pc, vP, shb, shv, shvs, she_nil, she_cons, vC, vQ, Nat.reduceEqDiff, ↓reduceIte, eq_self, Nat.reduceAdd, Nat.reduceMul, Nat.reduceSub, Nat.reduceLeDiff, Nat.reduceLT, defd, cellsOf, wr, packR, Int.reduceLE, Int.reduceLT, Int.reduceEq, Int.cast_ofNat_Int, Int.reduceToNat, vZ, e, hx, Option.some.injEq, he]
    · have hx : l[i]? = none := List.getElem?_eq_none (by omega)
      simp only [↓vA, ↓vE, ↓vO, ↓vB, ↓vF, ↓vM, ↓vR, ↓vX, cvF_pc, vP, shb, shv, shvs, she_nil, she_cons, vC, vQ, Nat.reduceEqDiff, ↓reduceIte, eq_self, Nat.reduceAdd, Nat.reduceMul, Nat.reduceSub, Nat.reduceLeDiff, Nat.reduceLT, defd, cellsOf, wr, packR, Int.reduceLE, Int.reduceLT, Int.reduceEq, Int.cast_ofNat_Int, Int.reduceToNat, hlt, hil, vZ, e, hx, reduceCtorEq]
def ir_restrict_with_uint32_1 : IFn := ⟨[.tmp 3],
  .seq (.reg false [⟨(some 3), .op (.mov (.c (.b false))), none⟩])
  (.seq (.reg false [⟨(some 4), .op (.mov (.t 0)), none⟩,
    ⟨(some 5), .op (.load1 (.t 1)), none⟩,
    ⟨(some 6), .op (.bin .eql (.t 4) (.t 5)), none⟩,
    ⟨(some 3), .op (.mov (.t 6)), none⟩])
  (.ret))⟩
theorem withEq_u32 (hc : chkFn P f ir_restrict_with_uint32_1 = true) (x y : Int) : Pure P f [.i .u32 x, .pf [.i .u32 y] 0] (.b (decide (x = y))) := by
  refine Pure.mk hc (by simp [clos, clo]) ?_
  simp only [ir_restrict_with_uint32_1, argsT, H0, mkT, mkH, trL, List.length_cons, List.length_nil, Nat.reduceAdd, Nat.zero_add]
  simp only [↓vA, ↓vE, ↓vO, ↓vB, ↓vF, ↓vM, ↓vR, ↓vX, cvF_pc, vP, shb, shv, shvs, she_nil, she_cons, vC, vQ, Nat.reduceEqDiff, ↓reduceIte, eq_self, Nat.reduceAdd, Nat.reduceMul, Nat.reduceSub, Nat.reduceLeDiff, Nat.reduceLT, defd, cellsOf, wr, packR, Int.reduceLE, Int.reduceLT, Int.reduceEq, Int.cast_ofNat_Int, Int.reduceToNat, vZ]
/-- a list that rises with a number more, or one less -/
def withL (l : List Int) (n : Int) (is : Bool) : List Int :=
  let m := l.filter (fun x => !decide (x = n))
  if is = true then m.take (bsI m n) ++ n :: m.drop (bsI m n) else m
end Go.Kc
end
section
/- A list with a number more or less, as the program makes it. Condition: the functions' texts are these. -/
namespace Go.Kc
variable {P : Program} {f : Nat}
theorem withL_len (l : List Int) (n : Int) (is : Bool) : (withL l n is).length ≤ l.length + 1 := by
  have h := List.length_filter_le (fun x => !decide (x = n)) l
  unfold withL
  dsimp only
  split
  · simp; omega
  · omega
def ir_restrict_with_int_c1 (f_slices_Clone_int_int f_restrict_with_int_1 f_slices_DeleteFunc_int_int f_slices_BinarySearch_int_int f_slices_Insert_int_int : Nat) : ICode := .seq (.reg false [⟨(some 9), .op (.mov (.t 0)), none⟩,
    ⟨(some 10), .callF f_slices_Clone_int_int [(.t 9)], none⟩,
    ⟨(some 11), .op (.mkF f_restrict_with_int_1 [] [(.t 4)]), none⟩,
    ⟨(some 12), .callF f_slices_DeleteFunc_int_int [(.t 10), (.t 11)], none⟩,
    ⟨(some 0), .op (.mov (.t 12)), none⟩])
  (.seq (.seq (.reg false [⟨(some 13), .op (.mov (.t 2)), none⟩,
    ⟨(some 14), .op (.un .not (.t 13)), none⟩])
  (.cond (.t 14) (.seq (.reg false [⟨(some 15), .op (.mov (.t 0)), none⟩,
    ⟨(some 6), .op (.mov (.t 15)), none⟩])
  (.ret)) (.skip)))
  (.seq (.reg false [⟨(some 17), .op (.mov (.t 0)), none⟩,
    ⟨(some 18), .op (.load1 (.t 4)), none⟩,
    ⟨(some 19), .callF f_slices_BinarySearch_int_int [(.t 17), (.t 18)], none⟩,
    ⟨(some 16), .op (.mov (.t 19)), none⟩,
    ⟨(some 20), .op (.ext (.t 16) 0), none⟩,
    ⟨(some 21), .op (.ext (.t 16) 1), none⟩,
    ⟨(some 7), .op (.mov (.t 20)), none⟩,
    ⟨(some 8), .op (.mov (.t 21)), none⟩])
  (.seq (.reg false [⟨(some 22), .op (.mov (.t 0)), none⟩,
    ⟨(some 23), .op (.mov (.t 7)), none⟩,
    ⟨(some 24), .op (.load1 (.t 4)), none⟩,
    ⟨(some 25), .op (.buildS 1 [.i .i64 0] [(0, 1, (.t 24))]), none⟩,
    ⟨(some 26), .callF f_slices_Insert_int_int [(.t 22), (.t 23), (.t 25)], none⟩,
    ⟨(some 6), .op (.mov (.t 26)), none⟩])
  (.ret))))
def ir_restrict_with_int (f_slices_Clone_int_int f_restrict_with_int_1 f_slices_DeleteFunc_int_int f_slices_BinarySearch_int_int f_slices_Insert_int_int : Nat) : IFn := ⟨[.tmp 6],
  .seq (.reg false [⟨(some 4), .op (.box (.t 1)), none⟩,
    ⟨(some 6), .op (.mov (.c (.nils))), none⟩])
  (.cut (ir_restrict_with_int_c1 f_slices_Clone_int_int f_restrict_with_int_1 f_slices_DeleteFunc_int_int f_slices_BinarySearch_int_int f_slices_Insert_int_int))⟩
theorem with_int {g1 g2 g3 g4 g5 : Nat} (hc : chkFn P f (ir_restrict_with_int g1 g2 g3 g4 g5) = true) (h1 : cClone P g1 1 8) (h2 : ∀ x y, Pure P g2 [.i .i64 x, .pf [.i .i64 y] 0] (.b (decide (x = y)))) (h3 : cDelete_int P g3) (h4 : cBs_int P g4) (h5 : cInsert 1 8 P g5)
    (l : List Int) (n : Int) (is : Bool) (hl : l.length + 1 ≤ roomB) (hl8 : (l.length + 1) * 8 ≤ roomB) : Pure P f [.fz l.length (rI .i64 l), .i .i64 n, .b is] (.fz (withL l n is).length (rI .i64 (withL l n is))) := by
  refine Pure.mk hc (by simp [clos, clo]) ?_
  simp only [ir_restrict_with_int, argsT, H0, mkT, mkH, trL, List.length_cons, List.length_nil, Nat.reduceAdd, Nat.zero_add]
  simp only [↓vA, ↓vE, ↓vO, ↓vB, ↓vF, ↓vM, ↓vR, ↓vX, cvF_pc, vP, shb, shv, shvs, she_nil, she_cons, vC, vQ, Nat.reduceEqDiff, ↓reduceIte, eq_self, Nat.reduceAdd, Nat.reduceMul, Nat.reduceSub, Nat.reduceLeDiff, Nat.reduceLT, defd, cellsOf, wr, packR, Int.reduceLE, Int.reduceLT, Int.reduceEq, Int.cast_ofNat_Int, Int.reduceToNat]
  refine S.weak (Wk.mk [(0, .fz l.length (rI .i64 l)), (1, .i .i64 n), (2, .b is), (4, .ptr 0 0)] [.cells 0 true false [.i .i64 n]] [0] ?_ ?_ ?_ rfl) ?_
  · simp [vW, bw_map, mapAt_map, mapClo_it, mapClo_nil, mapClo_cons, vP, vZ, Tr.get_set]
  · simp [vW, bw_map, mapAt_map, mapClo_it, mapClo_nil, mapClo_cons, vP, vZ, Tr.get_set]
  · simp
  refine S.weak (Wk.freeze 0 0 0 rfl rfl (Nat.le_refl _) (by simp)) ?_
  refine V_sound ?_
  simp only [ir_restrict_with_int_c1, argsT, H0, mkT, mkH, trL, List.length_cons, List.length_nil, Nat.reduceAdd, Nat.zero_add, fzv, fzvs, fzB, List.map_cons, List.map_nil, List.set_cons_zero, if_true]
  simp only [↓vA, ↓vE, ↓vO, ↓vB, ↓vF, ↓vM, ↓vR, ↓vX, cvF_pc, vP, shb, shv, shvs, she_nil, she_cons, vC, vQ, Nat.reduceEqDiff, ↓reduceIte, eq_self, Nat.reduceAdd, Nat.reduceMul, Nat.reduceSub, Nat.reduceLeDiff, Nat.reduceLT, defd, cellsOf, wr, packR, Int.reduceLE, Int.reduceLT, Int.reduceEq, Int.cast_ofNat_Int, Int.reduceToNat]
  refine (h1 l.length (rI .i64 l) (by rw [rI_len]; omega) rI_clos rI_ok (by omega) (by omega)).sc ?_
  simp only [↓vA, ↓vE, ↓vO, ↓vB, ↓vF, ↓vM, ↓vR, ↓vX, cvF_pc, vP, shb, shv, shvs, she_nil, she_cons, vC, vQ, Nat.reduceEqDiff, ↓reduceIte, eq_self, Nat.reduceAdd, Nat.reduceMul, Nat.reduceSub, Nat.reduceLeDiff, Nat.reduceLT, defd, cellsOf, wr, packR, Int.reduceLE, Int.reduceLT, Int.reduceEq, Int.cast_ofNat_Int, Int.reduceToNat, shvs_clo (rI_clos (k := .i64) (l := l))]
  refine (h3 (fun x => decide (x = n)) g2 [] [.pf [.i .i64 n] 0] l rfl rfl (by omega) (fun x _ => h2 x n)).sc (vs := [.own 0 l.length, .fn g2 [] [.pf [.i .i64 n] 0]]) [1] (Lent.of (by decide) ?_) ?_
  · simp [lent_cons, lent_nil, pushs_cons, pushs_nil, push_mk, shb, shv, shvs, bnds, bnd, rnvs, rnv, gAt, vW, bw_map, mapAt_map, mapClo_it, mapClo_nil, mapClo_cons, vP, vZ, Tr.get_set, bnds_clo rI_clos, rnvs_clo rI_clos, shvs_clo (rI_clos (k := .i64) (l := l))]
  have hfl := List.length_filter_le (fun x => !decide (x = n)) l
  simp only [backH, List.cons_append, List.nil_append, List.length_cons, List.length_nil, Nat.zero_add, Nat.reduceAdd, List.take_succ_cons, List.take_zero, List.drop_succ_cons, List.drop_zero, List.map_cons, List.map_nil, rnb, rnvs, rnv, gAt, Nat.reduceLT, ↓reduceIte, List.getD_cons_zero, List.getD_cons_succ, Nat.reduceSub, puts_cons, puts_nil, pushs_cons, pushs_nil, hput_mk, push_mk, rnvs_clo rI_clos]
  cases is with
  | false =>
    simp only [↓vA, ↓vE, ↓vO, ↓vB, ↓vF, ↓vM, ↓vR, ↓vX, cvF_pc, vP, shb, shv, shvs, she_nil, she_cons, vC, vQ, Nat.reduceEqDiff, ↓reduceIte, eq_self, Nat.reduceAdd, Nat.reduceMul, Nat.reduceSub, Nat.reduceLeDiff, Nat.reduceLT, defd, cellsOf, wr, packR, Int.reduceLE, Int.reduceLT, Int.reduceEq, Int.cast_ofNat_Int, Int.reduceToNat]
    simp [vZ, vP, Tr.get_set, withL, frzs_self rI_clos]
    intro h0
    rw [List.filter_eq_nil_iff.2 (by simpa using h0)]
    rfl
  | true =>
    simp only [↓vA, ↓vE, ↓vO, ↓vB, ↓vF, ↓vM, ↓vR, ↓vX, cvF_pc, vP, shb, shv, shvs, she_nil, she_cons, vC, vQ, Nat.reduceEqDiff, ↓reduceIte, eq_self, Nat.reduceAdd, Nat.reduceMul, Nat.reduceSub, Nat.reduceLeDiff, Nat.reduceLT, defd, cellsOf, wr, packR, Int.reduceLE, Int.reduceLT, Int.reduceEq, Int.cast_ofNat_Int, Int.reduceToNat]
    obtain ⟨m, hm⟩ : ∃ m, m = l.filter (fun x => !decide (x = n)) := ⟨_, rfl⟩
    simp only [← hm] at hfl ⊢
    refine (h4 m n (by omega)).lend (vs' := [.fz m.length (rI .i64 m), .i .i64 n]) ?_ rfl ?_
    · simp [vZ, vP, Tr.get_set, frzs_self rI_clos]
      intro h0; rw [h0]; rfl
    have hb := bsI_le m n
    simp only [↓vA, ↓vE, ↓vO, ↓vB, ↓vF, ↓vM, ↓vR, ↓vX, cvF_pc, vP, shb, shv, shvs, she_nil, she_cons, vC, vQ, Nat.reduceEqDiff, ↓reduceIte, eq_self, Nat.reduceAdd, Nat.reduceMul, Nat.reduceSub, Nat.reduceLeDiff, Nat.reduceLT, defd, cellsOf, wr, packR, Int.reduceLE, Int.reduceLT, Int.reduceEq, Int.cast_ofNat_Int, Int.reduceToNat]
    refine (h5 m.length (bsI m n) (rI .i64 m) [.i .i64 n] (by rw [rI_len]; omega) rfl rI_clos rfl rI_ok rfl hb (by omega) (by omega)).sc (vs := [.own 0 m.length, .i .i64 (bsI m n : Int), .sl 1 0 1 1 false]) [1, 2] (Lent.of (by decide) ?_) ?_
    · simp [lent_cons, lent_nil, pushs_cons, pushs_nil, push_mk, shb, shv, shvs, bnds, bnd, rnvs, rnv, gAt, vW, bw_map, mapAt_map, mapClo_it, mapClo_nil, mapClo_cons, vP, vZ, Tr.get_set, bnds_clo rI_clos, rnvs_clo rI_clos]
    have hT : rI .i64 (withL l n true) = (rI .i64 m).take (bsI m n * 1) ++ ([.i .i64 n] ++ (rI .i64 m).drop (bsI m n * 1)) := by
      rw [← rI_one, rI_take, rI_drop, rI_app, rI_app]
      simp [withL, ← hm]
    have hL : (withL l n true).length = m.length + 1 := by
      simp [withL, ← hm]; omega
    simp only [← hT]
    simp only [backH, List.cons_append, List.nil_append, List.length_cons, List.length_nil, Nat.zero_add, Nat.reduceAdd, List.take_succ_cons, List.take_zero, List.drop_succ_cons, List.drop_zero, List.map_cons, List.map_nil, rnb, rnvs, rnv, gAt, Nat.reduceLT, ↓reduceIte, List.getD_cons_zero, List.getD_cons_succ, Nat.reduceSub, puts_cons, puts_nil, pushs_cons, pushs_nil, hput_mk, push_mk, rnvs_clo rI_clos]
    simp only [↓vA, ↓vE, ↓vO, ↓vB, ↓vF, ↓vM, ↓vR, ↓vX, cvF_pc, vP, shb, shv, shvs, she_nil, she_cons, vC, vQ, Nat.reduceEqDiff, ↓reduceIte, eq_self, Nat.reduceAdd, Nat.reduceMul, Nat.reduceSub, Nat.reduceLeDiff, Nat.reduceLT, defd, cellsOf, wr, packR, Int.reduceLE, Int.reduceLT, Int.reduceEq, Int.cast_ofNat_Int, Int.reduceToNat]
    simp [vZ, vP, Tr.get_set, frzs_self rI_clos, hL]
def ir_restrict_with_uint32_c1 (f_slices_Clone_uint32_uint32 f_restrict_with_uint32_1 f_slices_DeleteFunc_uint32_uint32 f_slices_BinarySearch_uint32_uint32 f_slices_Insert_uint32_uint32 : Nat) : ICode := .seq (.reg false [⟨(some 9), .op (.mov (.t 0)), none⟩,
    ⟨(some 10), .callF f_slices_Clone_uint32_uint32 [(.t 9)], none⟩,
    ⟨(some 11), .op (.mkF f_restrict_with_uint32_1 [] [(.t 4)]), none⟩,
    ⟨(some 12), .callF f_slices_DeleteFunc_uint32_uint32 [(.t 10), (.t 11)], none⟩,
    ⟨(some 0), .op (.mov (.t 12)), none⟩])
  (.seq (.seq (.reg false [⟨(some 13), .op (.mov (.t 2)), none⟩,
    ⟨(some 14), .op (.un .not (.t 13)), none⟩])
  (.cond (.t 14) (.seq (.reg false [⟨(some 15), .op (.mov (.t 0)), none⟩,
    ⟨(some 6), .op (.mov (.t 15)), none⟩])
  (.ret)) (.skip)))
  (.seq (.reg false [⟨(some 17), .op (.mov (.t 0)), none⟩,
    ⟨(some 18), .op (.load1 (.t 4)), none⟩,
    ⟨(some 19), .callF f_slices_BinarySearch_uint32_uint32 [(.t 17), (.t 18)], none⟩,
    ⟨(some 16), .op (.mov (.t 19)), none⟩,
    ⟨(some 20), .op (.ext (.t 16) 0), none⟩,
    ⟨(some 21), .op (.ext (.t 16) 1), none⟩,
    ⟨(some 7), .op (.mov (.t 20)), none⟩,
    ⟨(some 8), .op (.mov (.t 21)), none⟩])
  (.seq (.reg false [⟨(some 22), .op (.mov (.t 0)), none⟩,
    ⟨(some 23), .op (.mov (.t 7)), none⟩,
    ⟨(some 24), .op (.load1 (.t 4)), none⟩,
    ⟨(some 25), .op (.buildS 1 [.i .u32 0] [(0, 1, (.t 24))]), none⟩,
    ⟨(some 26), .callF f_slices_Insert_uint32_uint32 [(.t 22), (.t 23), (.t 25)], none⟩,
    ⟨(some 6), .op (.mov (.t 26)), none⟩])
  (.ret))))
def ir_restrict_with_uint32 (f_slices_Clone_uint32_uint32 f_restrict_with_uint32_1 f_slices_DeleteFunc_uint32_uint32 f_slices_BinarySearch_uint32_uint32 f_slices_Insert_uint32_uint32 : Nat) : IFn := ⟨[.tmp 6],
  .seq (.reg false [⟨(some 4), .op (.box (.t 1)), none⟩,
    ⟨(some 6), .op (.mov (.c (.nils))), none⟩])
  (.cut (ir_restrict_with_uint32_c1 f_slices_Clone_uint32_uint32 f_restrict_with_uint32_1 f_slices_DeleteFunc_uint32_uint32 f_slices_BinarySearch_uint32_uint32 f_slices_Insert_uint32_uint32))⟩
theorem with_u32 {g1 g2 g3 g4 g5 : Nat} (hc : chkFn P f (ir_restrict_with_uint32 g1 g2 g3 g4 g5) = true) (h1 : cClone P g1 1 4) (h2 : ∀ x y, Pure P g2 [.i .u32 x, .pf [.i .u32 y] 0] (.b (decide (x = y)))) (h3 : cDelete_u32 P g3) (h4 : cBs_u32 P g4) (h5 : cInsert 1 4 P g5)
    (l : List Int) (n : Int) (is : Bool) (hl : l.length + 1 ≤ roomB) (hl8 : (l.length + 1) * 8 ≤ roomB) : Pure P f [.fz l.length (rI .u32 l), .i .u32 n, .b is] (.fz (withL l n is).length (rI .u32 (withL l n is))) := by
  refine Pure.mk hc (by simp [clos, clo]) ?_
  simp only [ir_restrict_with_uint32, argsT, H0, mkT, mkH, trL, List.length_cons, List.length_nil, Nat.reduceAdd, Nat.zero_add]
  simp only [↓vA, ↓vE, ↓vO, ↓vB, ↓vF, ↓vM, ↓vR, ↓vX, cvF_pc, vP, shb, shv, shvs, she_nil, she_cons, vC, vQ, Nat.reduceEqDiff, ↓reduceIte, eq_self, Nat.reduceAdd, Nat.reduceMul, Nat.reduceSub, Nat.reduceLeDiff, Nat.reduceLT, defd, cellsOf, wr, packR, Int.reduceLE, Int.reduceLT, Int.reduceEq, Int.cast_ofNat_Int, Int.reduceToNat]
  refine S.weak (Wk.mk [(0, .fz l.length (rI .u32 l)), (1, .i .u32 n), (2, .b is), (4, .ptr 0 0)] [.cells 0 true false [.i .u32 n]] [0] ?_ ?_ ?_ rfl) ?_
  · simp [vW, bw_map, mapAt_map, mapClo_it, mapClo_nil, mapClo_cons, vP, vZ, Tr.get_set]
  · simp [vW, bw_map, mapAt_map, mapClo_it, mapClo_nil, mapClo_cons, vP, vZ, Tr.get_set]
  · simp
  refine S.weak (Wk.freeze 0 0 0 rfl rfl (Nat.le_refl _) (by simp)) ?_
  refine V_sound ?_
  simp only [ir_restrict_with_uint32_c1, argsT, H0, mkT, mkH, trL, List.length_cons, List.length_nil, Nat.reduceAdd, Nat.zero_add, fzv, fzvs, fzB, List.map_cons, List.map_nil, List.set_cons_zero, if_true]
  simp only [↓vA, ↓vE, ↓vO, ↓vB, ↓vF, ↓vM, ↓vR, ↓vX, cvF_pc, vP, shb, shv, shvs, she_nil, she_cons, vC, vQ, Nat.reduceEqDiff, ↓reduceIte, eq_self, Nat.reduceAdd, Nat.reduceMul, Nat.reduceSub, Nat.reduceLeDiff, Nat.reduceLT, defd, cellsOf, wr, packR, Int.reduceLE, Int.reduceLT, Int.reduceEq, Int.cast_ofNat_Int, Int.reduceToNat]
  refine (h1 l.length (rI .u32 l) (by rw [rI_len]; omega) rI_clos rI_ok (by omega) (by omega)).sc ?_
  simp only [↓vA, ↓vE, ↓vO, ↓vB, ↓vF, ↓vM, ↓vR, ↓vX, cvF_pc, vP, shb, shv, shvs, she_nil, she_cons, vC, vQ, Nat.reduceEqDiff, ↓reduceIte, eq_self, Nat.reduceAdd, Nat.reduceMul, Nat.reduceSub, Nat.reduceLeDiff, Nat.reduceLT, defd, cellsOf, wr, packR, Int.reduceLE, Int.reduceLT, Int.reduceEq, Int.cast_ofNat_Int, Int.reduceToNat, shvs_clo (rI_clos (k := .u32) (l := l))]
  refine (h3 (fun x => decide (x = n)) g2 [] [.pf [.i .u32 n] 0] l rfl rfl (by omega) (fun x _ => h2 x n)).sc (vs := [.own 0 l.length, .fn g2 [] [.pf [.i .u32 n] 0]]) [1] (Lent.of (by decide) ?_) ?_
  · simp [lent_cons, lent_nil, pushs_cons, pushs_nil, push_mk, shb, shv, shvs, bnds, bnd, rnvs, rnv, gAt, vW, bw_map, mapAt_map, mapClo_it, mapClo_nil, mapClo_cons, vP, vZ, Tr.get_set, bnds_clo rI_clos, rnvs_clo rI_clos, shvs_clo (rI_clos (k := .u32) (l := l))]
  have hfl := List.length_filter_le (fun x => !decide (x = n)) l
  simp only [backH, List.cons_append, List.nil_append, List.length_cons, List.length_nil, Nat.zero_add, Nat.reduceAdd, List.take_succ_cons, List.take_zero, List.drop_succ_cons, List.drop_zero, List.map_cons, List.map_nil, rnb, rnvs, rnv, gAt, Nat.reduceLT, ↓reduceIte, List.getD_cons_zero, List.getD_cons_succ, Nat.reduceSub, puts_cons, puts_nil, pushs_cons, pushs_nil, hput_mk, push_mk, rnvs_clo rI_clos]
  cases is with
  | false =>
    simp only [↓vA, ↓vE, ↓vO, ↓vB, ↓vF, ↓vM, ↓vR, ↓vX, cvF_pc, vP, shb, shv, shvs, she_nil, she_cons, vC, vQ, Nat.reduceEqDiff, ↓reduceIte, eq_self, Nat.reduceAdd, Nat.reduceMul, Nat.reduceSub, Nat.reduceLeDiff, Nat.reduceLT, defd, cellsOf, wr, packR, Int.reduceLE, Int.reduceLT, Int.reduceEq, Int.cast_ofNat_Int, Int.reduceToNat]
    simp [vZ, vP, Tr.get_set, withL, frzs_self rI_clos]
    intro h0
    rw [List.filter_eq_nil_iff.2 (by simpa using h0)]
    rfl
  | true =>
    simp only [↓vA, ↓vE, ↓vO, ↓vB, ↓vF, ↓vM, ↓vR, ↓vX, cvF_pc, vP, shb, shv, shvs, she_nil, she_cons, vC, vQ, Nat.reduceEqDiff, ↓reduceIte, eq_self, Nat.reduceAdd, Nat.reduceMul, Nat.reduceSub, Nat.reduceLeDiff, Nat.reduceLT, defd, cellsOf, wr, packR, Int.reduceLE, Int.reduceLT, Int.reduceEq, Int.cast_ofNat_Int, Int.reduceToNat]
    obtain ⟨m, hm⟩ : ∃ m, m = l.filter (fun x => !decide (x = n)) := ⟨_, rfl⟩
    simp only [← hm] at hfl ⊢
    refine (h4 m n (by omega)).lend (vs' := [.fz m.length (rI .u32 m), .i .u32 n]) ?_ rfl ?_
    · simp [vZ, vP, Tr.get_set, frzs_self rI_clos]
      intro h0; rw [h0]; rfl
    have hb := bsI_le m n
    simp only [↓vA, ↓vE, ↓vO, ↓vB, ↓vF, ↓vM, ↓vR, ↓vX, cvF_pc, vP, shb, shv, shvs, she_nil, she_cons, vC, vQ, Nat.reduceEqDiff, ↓reduceIte, eq_self, Nat.reduceAdd, Nat.reduceMul, Nat.reduceSub, Nat.reduceLeDiff, Nat.reduceLT, defd, cellsOf, wr, packR, Int.reduceLE, Int.reduceLT, Int.reduceEq, Int.cast_ofNat_Int, Int.reduceToNat]
    refine (h5 m.length (bsI m n) (rI .u32 m) [.i .u32 n] (by rw [rI_len]; omega) rfl rI_clos rfl rI_ok rfl hb (by omega) (by omega)).sc (vs := [.own 0 m.length, .i .i64 (bsI m n : Int), .sl 1 0 1 1 false]) [1, 2] (Lent.of (by decide) ?_) ?_
    · simp [lent_cons, lent_nil, pushs_cons, pushs_nil, push_mk, shb, shv, shvs, bnds, bnd, rnvs, rnv, gAt, vW, bw_map, mapAt_map, mapClo_it, mapClo_nil, mapClo_cons, vP, vZ, Tr.get_set, bnds_clo rI_clos, rnvs_clo rI_clos]
    have hT : rI .u32 (withL l n true) = (rI .u32 m).take (bsI m n * 1) ++ ([.i .u32 n] ++ (rI .u32 m).drop (bsI m n * 1)) := by
      rw [← rI_one, rI_take, rI_drop, rI_app, rI_app]
      simp [withL, ← hm]
    have hL : (withL l n true).length = m.length + 1 := by
      simp [withL, ← hm]; omega
    simp only [← hT]
    simp only [backH, List.cons_append, List.nil_append, List.length_cons, List.length_nil, Nat.zero_add, Nat.reduceAdd, List.take_succ_cons, List.take_zero, List.drop_succ_cons, List.drop_zero, List.map_cons, List.map_nil, rnb, rnvs, rnv, gAt, Nat.reduceLT, ↓reduceIte, List.getD_cons_zero, List.getD_cons_succ, Nat.reduceSub, puts_cons, puts_nil, pushs_cons, pushs_nil, hput_mk, push_mk, rnvs_clo rI_clos]
    simp only [↓vA, ↓vE, ↓vO, ↓vB, ↓vF, ↓vM, ↓vR, ↓vX, cvF_pc, vP, shb, shv, shvs, she_nil, she_cons, vC, vQ, Nat.reduceEqDiff, ↓reduceIte, eq_self, Nat.reduceAdd, Nat.reduceMul, Nat.reduceSub, Nat.reduceLeDiff, Nat.reduceLT, defd, cellsOf, wr, packR, Int.reduceLE, Int.reduceLT, Int.reduceEq, Int.cast_ofNat_Int, Int.reduceToNat]
    simp [vZ, vP, Tr.get_set, frzs_self rI_clos, hL]
end Go.Kc
end
section
/- What arch.Parse answers. Condition: the functions' texts are these. -/
namespace Go.Kc
variable {P : Program} {f : Nat}
def tab_arch : List (List UInt8 × Int) := [([120, 56, 54, 45, 54, 52], 3221225534), ([120, 56, 54], 1073741827), ([120, 51, 50], 3221225534), ([97, 114, 109], 1073741864), ([97, 114, 109, 54, 52], 3221225655), ([114, 105, 115, 99, 118, 54, 52], 3221225715)]
def ir_arch_table : IFn := ⟨[.cell 0 12 true],
  .seq (.reg false [⟨(some 0), .op (.alloc [.s [], .i .u32 0, .s [], .i .u32 0, .s [], .i .u32 0, .s [], .i .u32 0, .s [], .i .u32 0, .s [], .i .u32 0]), none⟩])
  (.seq (.reg false [⟨(some 1), .op (.build [.s [], .i .u32 0] [(0, 1, (.c (.s [120, 56, 54, 45, 54, 52]))), (1, 1, (.c (.i .u32 3221225534)))]), none⟩,
    ⟨(some 2), .op (.build [.s [], .i .u32 0] [(0, 1, (.c (.s [120, 56, 54]))), (1, 1, (.c (.i .u32 1073741827)))]), none⟩,
    ⟨(some 3), .op (.build [.s [], .i .u32 0] [(0, 1, (.c (.s [120, 51, 50]))), (1, 1, (.c (.i .u32 3221225534)))]), none⟩,
    ⟨(some 4), .op (.build [.s [], .i .u32 0] [(0, 1, (.c (.s [97, 114, 109]))), (1, 1, (.c (.i .u32 1073741864)))]), none⟩,
    ⟨(some 5), .op (.build [.s [], .i .u32 0] [(0, 1, (.c (.s [97, 114, 109, 54, 52]))), (1, 1, (.c (.i .u32 3221225655)))]), none⟩,
    ⟨(some 6), .op (.build [.s [], .i .u32 0] [(0, 1, (.c (.s [114, 105, 115, 99, 118, 54, 52]))), (1, 1, (.c (.i .u32 3221225715)))]), none⟩,
    ⟨(some 7), .op (.build [.s [], .i .u32 0, .s [], .i .u32 0, .s [], .i .u32 0, .s [], .i .u32 0, .s [], .i .u32 0, .s [], .i .u32 0] [(0, 2, (.t 1)), (2, 2, (.t 2)), (4, 2, (.t 3)), (6, 2, (.t 4)), (8, 2, (.t 5)), (10, 2, (.t 6))]), none⟩,
    ⟨none, .op (.store 12 (.t 0) (.t 7)), none⟩])
  (.ret))⟩
theorem arch_table (hc : chkFn P f ir_arch_table = true) : Pure P f [] (.agg (tab_arch.flatMap (rowN .u32))) := by
  refine Pure.mk hc rfl ?_
  simp only [ir_arch_table, argsT, H0, mkT, mkH, trL, List.length_cons, List.length_nil, Nat.reduceAdd, Nat.zero_add]
  simp only [↓vA, ↓vE, ↓vO, ↓vB, ↓vF, ↓vM, ↓vR, ↓vX, cvF_pc, vP, shb, shv, shvs, she_nil, she_cons, vC, vQ, Nat.reduceEqDiff, ↓reduceIte, eq_self, Nat.reduceAdd, Nat.reduceMul, Nat.reduceSub, Nat.reduceLeDiff, Nat.reduceLT, defd, cellsOf, wr, packR, Int.reduceLE, Int.reduceLT, Int.reduceEq, Int.cast_ofNat_Int, Int.reduceToNat, tab_arch, rowN, List.flatMap_cons, List.flatMap_nil, vZ]
def ir_arch_find (f_arch_table f_slices_IndexFunc_arch_arch_arch_arch : Nat) : IFn := ⟨[.tmp 2],
  .seq (.reg false [⟨(some 2), .op (.mov (.c (.i .i64 0))), none⟩])
  (.seq (.reg false [⟨(some 4), .callF f_arch_table [], none⟩,
    ⟨(some 3), .op (.alloc [.s [], .i .u32 0, .s [], .i .u32 0, .s [], .i .u32 0, .s [], .i .u32 0, .s [], .i .u32 0, .s [], .i .u32 0]), none⟩,
    ⟨none, .op (.store 12 (.t 3) (.t 4)), none⟩])
  (.seq (.reg false [⟨(some 5), .op (.slcA 6 2 (.t 3) none none none), none⟩,
    ⟨(some 6), .op (.mov (.t 0)), none⟩,
    ⟨(some 7), .callF f_slices_IndexFunc_arch_arch_arch_arch [(.t 5), (.t 6)], none⟩,
    ⟨(some 2), .op (.mov (.t 7)), none⟩])
  (.ret)))⟩
def cArchFind (P : Program) (f : Nat) : Prop := ∀ (p : List UInt8 × Int → Bool) (g : Nat) (a c : List AV), clos a = true → clos c = true → (∀ x ∈ tab_arch, Pure P g (a ++ ([.agg (rowN .u32 x)] ++ c)) (.b (p x))) → Pure P f [.fn g a c] (.i .i64 (idxP p tab_arch 0))
theorem arch_find {g1 g2 : Nat} (hc : chkFn P f (ir_arch_find g1 g2) = true) (h1 : Pure P g1 [] (.agg (tab_arch.flatMap (rowN .u32)))) (h2 : cIdxPN 2 P g2) : cArchFind P f := by
  intro p g a c ha hcc hp
  refine Pure.mk hc (by simp [clos, clo, ha, hcc]) ?_
  simp only [ir_arch_find, argsT, H0, mkT, mkH, trL, List.length_cons, List.length_nil, Nat.reduceAdd, Nat.zero_add]
  simp only [↓vA, ↓vE, ↓vO, ↓vB, ↓vF, ↓vM, ↓vR, ↓vX, cvF_pc, vP, shb, shv, shvs, she_nil, she_cons, vC, vQ, Nat.reduceEqDiff, ↓reduceIte, eq_self, Nat.reduceAdd, Nat.reduceMul, Nat.reduceSub, Nat.reduceLeDiff, Nat.reduceLT, defd, cellsOf, wr, packR, Int.reduceLE, Int.reduceLT, Int.reduceEq, Int.cast_ofNat_Int, Int.reduceToNat]
  refine h1.sc ?_
  simp only [↓vA, ↓vE, ↓vO, ↓vB, ↓vF, ↓vM, ↓vR, ↓vX, cvF_pc, vP, shb, shv, shvs, she_nil, she_cons, vC, vQ, Nat.reduceEqDiff, ↓reduceIte, eq_self, Nat.reduceAdd, Nat.reduceMul, Nat.reduceSub, Nat.reduceLeDiff, Nat.reduceLT, defd, cellsOf, wr, packR, Int.reduceLE, Int.reduceLT, Int.reduceEq, Int.cast_ofNat_Int, Int.reduceToNat, tab_arch, rowN, List.flatMap_cons, List.flatMap_nil]
  refine (h2 (rowN .u32) p g a c tab_arch rowN_len ha hcc (by decide) hp).lend (vs' := [.fz 6 (tab_arch.flatMap (rowN .u32)), .fn g a c]) ?_ rfl ?_
  · refine .cons _ _ _ _ (.cut 2 rfl (Nat.le_refl _) ?_) (.cons _ _ _ _ (.fn _ _ _ _ _ (Frzs.self ha) (Frzs.self hcc)) .nil)
    simp [vW, bw_map, mapAt_map, mapClo_it, mapClo_nil, mapClo_cons, vP, vZ, Tr.get_set, tab_arch, rowN]
  simp only [↓vA, ↓vE, ↓vO, ↓vB, ↓vF, ↓vM, ↓vR, ↓vX, cvF_pc, vP, shb, shv, shvs, she_nil, she_cons, vC, vQ, Nat.reduceEqDiff, ↓reduceIte, eq_self, Nat.reduceAdd, Nat.reduceMul, Nat.reduceSub, Nat.reduceLeDiff, Nat.reduceLT, defd, cellsOf, wr, packR, Int.reduceLE, Int.reduceLT, Int.reduceEq, Int.cast_ofNat_Int, Int.reduceToNat, vZ, tab_arch]
def ir_arch_Parse_1 : IFn := ⟨[.tmp 3],
  .seq (.reg false [⟨(some 2), .op (.box (.t 0)), none⟩,
    ⟨(some 3), .op (.mov (.c (.b false))), none⟩])
  (.seq (.reg false [⟨(some 4), .op (.fAddr 0 (.t 2)), none⟩,
    ⟨(some 5), .op (.load1 (.t 4)), none⟩,
    ⟨(some 6), .op (.load1 (.t 1)), none⟩,
    ⟨(some 7), .op (.bin .eql (.t 5) (.t 6)), none⟩,
    ⟨(some 3), .op (.mov (.t 7)), none⟩])
  (.ret))⟩
theorem archParse_1 (hc : chkFn P f ir_arch_Parse_1 = true) (s : List UInt8) (x : List UInt8 × Int) : Pure P f [.agg (rowN .u32 x), .pf [.s s] 0] (.b (decide (x.1 = s))) := by
  refine Pure.mk hc (by simp [clos, clo, rowN]) ?_
  simp only [ir_arch_Parse_1, rowN, argsT, H0, mkT, mkH, trL, List.length_cons, List.length_nil, Nat.reduceAdd, Nat.zero_add]
  simp only [↓vA, ↓vE, ↓vO, ↓vB, ↓vF, ↓vM, ↓vR, ↓vX, cvF_pc, vP, shb, shv, shvs, she_nil, she_cons, vC, vQ, Nat.reduceEqDiff, ↓reduceIte, eq_self, Nat.reduceAdd, Nat.reduceMul, Nat.reduceSub, Nat.reduceLeDiff, Nat.reduceLT, defd, cellsOf, wr, packR, Int.reduceLE, Int.reduceLT, Int.reduceEq, Int.cast_ofNat_Int, Int.reduceToNat, vZ]
/-- an architecture's number, and what is wrong -/
def archM (s : List UInt8) : Int × Int := if s = [110, 97, 116, 105, 118, 101] then (0, 0) else if idxP (fun x => decide (x.1 = s)) tab_arch 0 < 0 then (0, 80) else (idxP (fun x => decide (x.1 = s)) tab_arch 0, 0)
def ir_arch_Parse (f_arch_Parse_1 f_arch_find : Nat) : IFn := ⟨[.tmp 2, .tmp 3],
  .seq (.reg false [⟨(some 1), .op (.box (.t 0)), none⟩,
    ⟨(some 2), .op (.mov (.c (.i .i64 0))), none⟩,
    ⟨(some 3), .op (.mov (.c (.i .i64 0))), none⟩])
  (.seq (.seq (.reg false [⟨(some 5), .op (.load1 (.t 1)), none⟩,
    ⟨(some 6), .op (.bin .eql (.t 5) (.c (.s [110, 97, 116, 105, 118, 101]))), none⟩])
  (.cond (.t 6) (.seq (.reg false [⟨(some 2), .op (.mov (.c (.i .i64 0))), none⟩,
    ⟨(some 3), .op (.mov (.c (.i .i64 0))), none⟩])
  (.ret)) (.skip)))
  (.seq (.reg false [⟨(some 7), .op (.mkF f_arch_Parse_1 [] [(.t 1)]), none⟩,
    ⟨(some 8), .callF f_arch_find [(.t 7)], none⟩,
    ⟨(some 4), .op (.mov (.t 8)), none⟩])
  (.seq (.seq (.reg false [⟨(some 9), .op (.mov (.t 4)), none⟩,
    ⟨(some 10), .op (.bin .lss (.t 9) (.c (.i .i64 0))), none⟩])
  (.cond (.t 10) (.seq (.reg false [⟨(some 2), .op (.mov (.c (.i .i64 0))), none⟩,
    ⟨(some 3), .op (.mov (.c (.i .i64 80))), none⟩])
  (.ret)) (.skip)))
  (.seq (.reg false [⟨(some 11), .op (.mov (.t 4)), none⟩,
    ⟨(some 2), .op (.mov (.t 11)), none⟩,
    ⟨(some 3), .op (.mov (.c (.i .i64 0))), none⟩])
  (.ret)))))⟩
theorem archParse {g1 g2 : Nat} (hc : chkFn P f (ir_arch_Parse g1 g2) = true) (h1 : ∀ s x, Pure P g1 [.agg (rowN .u32 x), .pf [.s s] 0] (.b (decide (x.1 = s)))) (h2 : cArchFind P g2) (s : List UInt8) : Pure P f [.s s] (.tup [.i .i64 (archM s).1, .i .i64 (archM s).2]) := by
  refine Pure.mk hc (by simp [clos, clo]) ?_
  simp only [ir_arch_Parse, argsT, H0, mkT, mkH, trL, List.length_cons, List.length_nil, Nat.reduceAdd, Nat.zero_add]
  by_cases h : s = [110, 97, 116, 105, 118, 101]
  · simp only [↓vA, ↓vE, ↓vO, ↓vB, ↓vF, ↓vM, ↓vR, ↓vX, cvF_pc, vP, shb, shv, shvs, she_nil, she_cons, vC, vQ, Nat.reduceEqDiff, ↓reduceIte, eq_self, Nat.reduceAdd, Nat.reduceMul, Nat.reduceSub, Nat.reduceLeDiff, Nat.reduceLT, defd, cellsOf, wr, packR, Int.reduceLE, Int.reduceLT, Int.reduceEq, Int.cast_ofNat_Int, Int.reduceToNat, h, vZ, archM]
  · simp only [↓vA, ↓vE, ↓vO, ↓vB, ↓vF, ↓vM, ↓vR, ↓vX, cvF_pc, vP, shb, shv, shvs, she_nil, she_cons, vC, vQ, Nat.reduceEqDiff, ↓reduceIte, eq_self, Nat.reduceAdd, Nat.reduceMul, Nat.reduceSub, Nat.reduceLeDiff, Nat.reduceLT, defd, cellsOf, wr, packR, Int.reduceLE, Int.reduceLT, Int.reduceEq, Int.cast_ofNat_Int, Int.reduceToNat, h]
    refine (h2 (fun x => decide (x.1 = s)) g1 [] [.pf [.s s] 0] rfl rfl (fun x _ => h1 s x)).lend (vs' := [.fn g1 [] [.pf [.s s] 0]]) ?_ rfl ?_
    · simp [vZ, vP, Tr.get_set]
    by_cases hi : idxP (fun x => decide (x.1 = s)) tab_arch 0 < 0
    · simp only [↓vA, ↓vE, ↓vO, ↓vB, ↓vF, ↓vM, ↓vR, ↓vX, cvF_pc, vP, shb, shv, shvs, she_nil, she_cons, vC, vQ, Nat.reduceEqDiff, ↓reduceIte, eq_self, Nat.reduceAdd, Nat.reduceMul, Nat.reduceSub, Nat.reduceLeDiff, Nat.reduceLT, defd, cellsOf, wr, packR, Int.reduceLE, Int.reduceLT, Int.reduceEq, Int.cast_ofNat_Int, Int.reduceToNat, hi, vZ, archM, h]
    · simp only [↓vA, ↓vE, ↓vO, ↓vB, ↓vF, ↓vM, ↓vR, ↓vX, cvF_pc, vP, shb, shv, shvs, she_nil, she_cons, vC, vQ, Nat.reduceEqDiff, ↓reduceIte, eq_self, Nat.reduceAdd, Nat.reduceMul, Nat.reduceSub, Nat.reduceLeDiff, Nat.reduceLT, defd, cellsOf, wr, packR, Int.reduceLE, Int.reduceLT, Int.reduceEq, Int.cast_ofNat_Int, Int.reduceToNat, hi, vZ, archM, h]
end Go.Kc
end
section
/- Calls, lists, policies, assignments, notes: the program's structs as Lean's. No condition. -/
namespace Go.Kc
structure GCall where
  name : List UInt8
  act : Int
def cCall (c : GCall) : List AV := [.s c.name, .i .u32 c.act]
structure GNote where
  file : List UInt8
  line : Int
  err : Int
  text : List UInt8
def cNote (n : GNote) : List AV := [.s n.file, .i .i64 n.line, .i .i64 n.err, .s n.text]
structure Asg where
  file : List UInt8
  line : Int
  sec : List UInt8
  key : List UInt8
  val : List UInt8
def cAsg (a : Asg) : List AV := [.s a.file, .i .i64 a.line, .s a.sec, .s a.key, .s a.val]
theorem cCall_len (c : GCall) : (cCall c).length = 2 := rfl
theorem cNote_len (c : GNote) : (cNote c).length = 4 := rfl
/-- a row of calls -/
def rC (l : List GCall) : List AV := l.flatMap cCall
section
variable {l m : List GCall} {j : Nat}
theorem rC_len : (rC l).length = l.length * 2 := flat_length cCall_len l
theorem rC_clos : clos (rC l) = true := clos_flat fun _ => rfl
theorem rC_ok : cellsOk (rC l) = true := cells_flat fun _ => rfl
theorem rC_take : (rC l).take (j * 2) = rC (l.take j) := flat_take cCall_len l j
theorem rC_drop : (rC l).drop (j * 2) = rC (l.drop j) := flat_drop cCall_len l j
theorem rC_elem {c : GCall} (h : l[j]? = some c) : ((rC l).drop (j * 2)).take 2 = cCall c := flat_elem cCall_len h
theorem rC_get {c : GCall} (h : l[j]? = some c) {i : Nat} (hi : i < 2) : (rC l)[j * 2 + i]? = (cCall c)[i]? := flat_get cCall_len h hi
theorem rC_app : rC l ++ rC m = rC (l ++ m) := by simp [rC]
theorem rC_nil : rC [] = [] := rfl
theorem rC_cons {c : GCall} : rC (c :: l) = .s c.name :: .i .u32 c.act :: rC l := rfl
theorem rC_one {c : GCall} : rC [c] = [.s c.name, .i .u32 c.act] := rfl
theorem rC_bound (h : j < l.length) : j * 2 + 2 ≤ (rC l).length := by rw [rC_len]; omega
end
/-- a row of notes -/
def rN (l : List GNote) : List AV := l.flatMap cNote
section
variable {l m : List GNote} {j : Nat}
theorem rN_len : (rN l).length = l.length * 4 := flat_length cNote_len l
theorem rN_clos : clos (rN l) = true := clos_flat fun _ => rfl
theorem rN_ok : cellsOk (rN l) = true := cells_flat fun _ => rfl
theorem rN_take : (rN l).take (j * 4) = rN (l.take j) := flat_take cNote_len l j
theorem rN_drop : (rN l).drop (j * 4) = rN (l.drop j) := flat_drop cNote_len l j
theorem rN_elem {c : GNote} (h : l[j]? = some c) : ((rN l).drop (j * 4)).take 4 = cNote c := flat_elem cNote_len h
theorem rN_get {c : GNote} (h : l[j]? = some c) {i : Nat} (hi : i < 4) : (rN l)[j * 4 + i]? = (cNote c)[i]? := flat_get cNote_len h hi
theorem rN_app : rN l ++ rN m = rN (l ++ m) := by simp [rN]
theorem rN_nil : rN [] = [] := rfl
theorem rN_one {n : GNote} : rN [n] = [.s n.file, .i .i64 n.line, .i .i64 n.err, .s n.text] := rfl
theorem rN_bound (h : j < l.length) : j * 4 + 4 ≤ (rN l).length := by rw [rN_len]; omega
end
structure GList where
  mode : Int
  calls : List GCall
def cList (l : GList) : List AV := [.i .u8 l.mode, .fz l.calls.length (rC l.calls)]
structure Pol where
  arches : List Int
  filter : GList
  deny : Int
  log : GList
  fams : List Int
  fmode : Int
  spaces : Int
  we : Bool
  pe : Bool
  rt : Bool
  np : Bool
def cPol (p : Pol) : List AV := [.fz p.arches.length (rI .i64 p.arches), .i .u8 p.filter.mode, .fz p.filter.calls.length (rC p.filter.calls), .i .u32 p.deny, .i .u8 p.log.mode, .fz p.log.calls.length (rC p.log.calls),
  .fz p.fams.length (rI .u32 p.fams), .i .u8 p.fmode, .i .u64 p.spaces, .b p.we, .b p.pe, .b p.rt, .b p.np]
theorem cPol_clos (p : Pol) : clos (cPol p) = true := rfl
def pol0 : Pol := ⟨[], ⟨0, []⟩, 0, ⟨0, []⟩, [], 0, 0, false, false, false, false⟩
/-- a note of an assignment -/
def noteOf (a : Asg) (p : Int × List UInt8) : GNote := ⟨a.file, a.line, p.1, p.2.take 60⟩
end Go.Kc
end
section
/- What the setter's methods do: notes, yes and no. Condition: the functions' texts are these. -/
namespace Go.Kc
variable {P : Program} {f : Nat}
def setC (p : Pol) (a : Asg) (nb n : Nat) : List AV := [.fz p.arches.length (rI .i64 p.arches), .i .u8 p.filter.mode, .fz p.filter.calls.length (rC p.filter.calls), .i .u32 p.deny, .i .u8 p.log.mode, .fz p.log.calls.length (rC p.log.calls),
  .fz p.fams.length (rI .u32 p.fams), .i .u8 p.fmode, .i .u64 p.spaces, .b p.we, .b p.pe, .b p.rt, .b p.np, .own nb n, .s a.file, .i .i64 a.line, .s a.sec, .s a.key, .s a.val]
/-- the setter's blocks: it, and its notes; behind new notes these lie elsewhere -/
def setB (p : Pol) (a : Asg) (ns new : List GNote) : List Blk :=
  if new = [] then [.cells 0 true false (setC p a 1 ns.length), .cells 4 true true (rN ns)] else [.cells 0 true false (setC p a 2 (ns ++ new).length), .dead, .cells 4 true true (rN (ns ++ new))]
def ir_restrict_setter_note : IFn := ⟨[],
  .reg true [⟨(some 6), .op (.mov (.t 0)), none⟩,
    ⟨(some 7), .op (.mov (.t 0)), none⟩,
    ⟨(some 8), .op (.nilChk (.t 7)), none⟩,
    ⟨(some 9), .op (.fAddr 13 (.t 8)), none⟩,
    ⟨(some 10), .op (.load1 (.t 9)), none⟩,
    ⟨(some 11), .op (.mov (.t 0)), none⟩,
    ⟨(some 12), .op (.nilChk (.t 11)), none⟩,
    ⟨(some 13), .op (.fAddr 14 (.t 12)), none⟩,
    ⟨(some 14), .op (.fAddr 0 (.t 13)), none⟩,
    ⟨(some 15), .op (.load1 (.t 14)), none⟩,
    ⟨(some 16), .op (.mov (.t 0)), none⟩,
    ⟨(some 17), .op (.nilChk (.t 16)), none⟩,
    ⟨(some 18), .op (.fAddr 14 (.t 17)), none⟩,
    ⟨(some 19), .op (.fAddr 1 (.t 18)), none⟩,
    ⟨(some 20), .op (.load1 (.t 19)), none⟩,
    ⟨(some 21), .op (.mov (.t 1)), none⟩,
    ⟨(some 22), .op (.mov (.t 2)), none⟩,
    ⟨(some 23), .op (.mov (.t 2)), none⟩,
    ⟨(some 24), .op (.len true (.t 23)), none⟩,
    ⟨(some 25), .op (.min (.t 24) (.c (.i .i64 60))), none⟩,
    ⟨(some 26), .op (.slcStr (.t 22) none (some (.t 25))), none⟩,
    ⟨(some 27), .op (.build [.s [], .i .i64 0, .i .i64 0, .s []] [(0, 1, (.t 15)), (1, 1, (.t 20)), (2, 1, (.t 21)), (3, 1, (.t 26))]), none⟩,
    ⟨(some 28), .op (.buildS 1 [.s [], .i .i64 0, .i .i64 0, .s []] [(0, 4, (.t 27))]), none⟩,
    ⟨(some 29), .op (.app 4 48 true (.t 10) (.t 28)), none⟩,
    ⟨(some 30), .op (.nilChk (.t 6)), none⟩,
    ⟨(some 31), .op (.fAddr 13 (.t 30)), none⟩,
    ⟨none, .op (.store 1 (.t 31) (.t 29)), none⟩]⟩
def cNoteU (P : Program) (f : Nat) : Prop := ∀ (p : Pol) (a : Asg) (ns : List GNote) (e : Int) (text : List UInt8), (ns.length + 1) * 48 ≤ roomB →
  Upd P f [.ptr 0 0, .i .i64 e, .s text] [.cells 0 true false (setC p a 1 ns.length), .cells 4 true true (rN ns)] (.tup []) [.cells 0 true false (setC p a 2 (ns ++ [noteOf a (e, text)]).length), .dead, .cells 4 true true (rN (ns ++ [noteOf a (e, text)]))]
theorem note_upd (hc : chkFn P f ir_restrict_setter_note = true) : cNoteU P f := by
  intro p a ns e text hr
  refine Upd.mk hc (by simp [bnds, bnd]) (by simp) ?_
  simp only [ir_restrict_setter_note, setC, argsT, H0, mkT, mkH, trL, List.length_cons, List.length_nil, Nat.reduceAdd, Nat.zero_add]
  simp only [↓vA, ↓vE, ↓vO, ↓vB, ↓vF, ↓vM, ↓vR, ↓vX, cvF_pc, vP, shb, shv, shvs, she_nil, she_cons, vC, vQ, Nat.reduceEqDiff, ↓reduceIte, eq_self, Nat.reduceAdd, Nat.reduceMul, Nat.reduceSub, Nat.reduceLeDiff, Nat.reduceLT, defd, cellsOf, wr, packR, Int.reduceLE, Int.reduceLT, Int.reduceEq, Int.cast_ofNat_Int, Int.reduceToNat]
  refine VD_pc ?_
  have hr1 : ns.length + 1 ≤ roomB := by omega
  have fin : ∀ tt, tt = text.take 60 → rN ns ++ [AV.s a.file, .i .i64 a.line, .i .i64 e, .s tt] = rN (ns ++ [noteOf a (e, text)]) := by
    intro tt ht; subst ht; rw [← rN_app]; rfl
  by_cases h60 : (60 : Int) < text.length
  · have h1 : 60 ≤ text.length := by omega
    simp only [↓vA, ↓vE, ↓vO, ↓vB, ↓vF, ↓vM, ↓vR, ↓vX, cvF_pc, vP, shb, shv, shvs, she_nil, she_cons, vC, vQ, Nat.reduceEqDiff, ↓reduceIte, eq_self, Nat.reduceAdd, Nat.reduceMul, Nat.reduceSub, Nat.reduceLeDiff, Nat.reduceLT, defd, cellsOf, wr, packR, Int.reduceLE, Int.reduceLT, Int.reduceEq, Int.cast_ofNat_Int, Int.reduceToNat, h60, h1, hr1, hr, rN_len, fin _ rfl]
    intro _
    refine ⟨[0, 1, 3], ?_⟩
    simp [vW, bw_map, mapAt_map, mapClo_it, mapClo_nil, mapClo_cons, vP, vZ, Tr.get_set, nvs_self, rN_clos]
    decide
  · have h1 : text.take 60 = text := List.take_of_length_le (by omega)
    simp only [↓vA, ↓vE, ↓vO, ↓vB, ↓vF, ↓vM, ↓vR, ↓vX, cvF_pc, vP, shb, shv, shvs, she_nil, she_cons, vC, vQ, Nat.reduceEqDiff, ↓reduceIte, eq_self, Nat.reduceAdd, Nat.reduceMul, Nat.reduceSub, Nat.reduceLeDiff, Nat.reduceLT, defd, cellsOf, wr, packR, Int.reduceLE, Int.reduceLT, Int.reduceEq, Int.cast_ofNat_Int, Int.reduceToNat, h60, hr1, hr, rN_len, List.take_length, fin _ h1.symm]
    intro _
    refine ⟨[0, 1, 3], ?_⟩
    simp [vW, bw_map, mapAt_map, mapClo_it, mapClo_nil, mapClo_cons, vP, vZ, Tr.get_set, nvs_self, rN_clos]
    decide
/-- what a value says: yes or no, or what is wrong -/
noncomputable def saysM (v : List UInt8) : Option Bool × List (Int × List UInt8) :=
  if v = [] then (some false, []) else if v ∈ noWords then (some false, []) else if v ∈ yesWords then (some true, []) else (none, [(150, v)])
def ir_restrict_setter_says (f_values_Bool f_restrict_setter_note : Nat) : IFn := ⟨[],
  .seq (.seq (.reg false [⟨(some 8), .op (.mov (.t 1)), none⟩,
    ⟨(some 9), .op (.bin .eql (.t 8) (.c (.s []))), none⟩])
  (.cond (.t 9) (.seq (.reg false [⟨(some 10), .op (.mov (.t 2)), none⟩,
    ⟨(some 11), .op (.nilChk (.t 10)), none⟩,
    ⟨none, .op (.store 1 (.t 11) (.c (.b false))), none⟩])
  (.ret)) (.skip)))
  (.seq (.reg false [⟨(some 13), .op (.mov (.t 1)), none⟩,
    ⟨(some 14), .callF f_values_Bool [(.t 13)], none⟩,
    ⟨(some 12), .op (.mov (.t 14)), none⟩,
    ⟨(some 15), .op (.ext (.t 12) 0), none⟩,
    ⟨(some 16), .op (.ext (.t 12) 1), none⟩,
    ⟨(some 6), .op (.mov (.t 15)), none⟩,
    ⟨(some 7), .op (.mov (.t 16)), none⟩])
  (.seq (.seq (.reg false [⟨(some 17), .op (.mov (.t 7)), none⟩,
    ⟨(some 18), .op (.bin .neq (.t 17) (.c (.i .i64 0))), none⟩])
  (.cond (.t 18) (.seq (.reg false [⟨(some 19), .op (.mov (.t 0)), none⟩,
    ⟨(some 20), .op (.mov (.t 7)), none⟩,
    ⟨(some 21), .op (.mov (.t 1)), none⟩,
    ⟨(some 22), .callF f_restrict_setter_note [(.t 19), (.t 20), (.t 21)], none⟩])
  (.ret)) (.skip)))
  (.reg false [⟨(some 23), .op (.mov (.t 2)), none⟩,
    ⟨(some 24), .op (.mov (.t 6)), none⟩,
    ⟨(some 25), .op (.nilChk (.t 23)), none⟩,
    ⟨none, .op (.store 1 (.t 25) (.t 24)), none⟩])))⟩
def cBool (P : Program) (g : Nat) : Prop := ∀ s, Pure P g [.s s] (boolE s)
def cSays9 (P : Program) (f : Nat) : Prop := ∀ (p : Pol) (a : Asg) (ns : List GNote) (v : List UInt8), (ns.length + 1) * 48 ≤ roomB →
  Upd P f [.ptr 0 0, .s v, .ptr 0 9] [.cells 0 true false (setC p a 1 ns.length), .cells 4 true true (rN ns)] (.tup []) (setB { p with we := (saysM v).1.getD p.we } a ns ((saysM v).2.map (noteOf a)))
theorem says_9 {g1 g2 : Nat} (hc : chkFn P f (ir_restrict_setter_says g1 g2) = true) (h1 : cBool P g1) (h2 : cNoteU P g2) : cSays9 P f := by
  intro p a ns v hr
  refine Upd.mk hc (by simp [bnds, bnd]) (by unfold setB; split <;> simp) ?_
  simp only [ir_restrict_setter_says, setC, argsT, H0, mkT, mkH, trL, List.length_cons, List.length_nil, Nat.reduceAdd, Nat.zero_add]
  by_cases hv : v = []
  · simp only [↓vA, ↓vE, ↓vO, ↓vB, ↓vF, ↓vM, ↓vR, ↓vX, cvF_pc, vP, shb, shv, shvs, she_nil, she_cons, vC, vQ, Nat.reduceEqDiff, ↓reduceIte, eq_self, Nat.reduceAdd, Nat.reduceMul, Nat.reduceSub, Nat.reduceLeDiff, Nat.reduceLT, defd, cellsOf, wr, packR, Int.reduceLE, Int.reduceLT, Int.reduceEq, Int.cast_ofNat_Int, Int.reduceToNat, hv]
    intro _
    refine ⟨[0, 1], ?_⟩
    simp [vW, bw_map, mapAt_map, mapClo_it, mapClo_nil, mapClo_cons, vP, vZ, Tr.get_set, nvs_self, rN_clos, setB, setC, saysM]
    decide
  · simp only [↓vA, ↓vE, ↓vO, ↓vB, ↓vF, ↓vM, ↓vR, ↓vX, cvF_pc, vP, shb, shv, shvs, she_nil, she_cons, vC, vQ, Nat.reduceEqDiff, ↓reduceIte, eq_self, Nat.reduceAdd, Nat.reduceMul, Nat.reduceSub, Nat.reduceLeDiff, Nat.reduceLT, defd, cellsOf, wr, packR, Int.reduceLE, Int.reduceLT, Int.reduceEq, Int.cast_ofNat_Int, Int.reduceToNat, hv]
    refine (h1 v).sc ?_
    unfold boolE
    by_cases hno : v ∈ noWords
    · simp only [↓vA, ↓vE, ↓vO, ↓vB, ↓vF, ↓vM, ↓vR, ↓vX, cvF_pc, vP, shb, shv, shvs, she_nil, she_cons, vC, vQ, Nat.reduceEqDiff, ↓reduceIte, eq_self, Nat.reduceAdd, Nat.reduceMul, Nat.reduceSub, Nat.reduceLeDiff, Nat.reduceLT, defd, cellsOf, wr, packR, Int.reduceLE, Int.reduceLT, Int.reduceEq, Int.cast_ofNat_Int, Int.reduceToNat, hno]
      intro _
      refine ⟨[0, 1], ?_⟩
      simp [vW, bw_map, mapAt_map, mapClo_it, mapClo_nil, mapClo_cons, vP, vZ, Tr.get_set, nvs_self, rN_clos, setB, setC, saysM, hv, hno]
      decide
    · by_cases hy : v ∈ yesWords
      · simp only [↓vA, ↓vE, ↓vO, ↓vB, ↓vF, ↓vM, ↓vR, ↓vX, cvF_pc, vP, shb, shv, shvs, she_nil, she_cons, vC, vQ, Nat.reduceEqDiff, ↓reduceIte, eq_self, Nat.reduceAdd, Nat.reduceMul, Nat.reduceSub, Nat.reduceLeDiff, Nat.reduceLT, defd, cellsOf, wr, packR, Int.reduceLE, Int.reduceLT, Int.reduceEq, Int.cast_ofNat_Int, Int.reduceToNat, hno, hy]
        intro _
        refine ⟨[0, 1], ?_⟩
        simp [vW, bw_map, mapAt_map, mapClo_it, mapClo_nil, mapClo_cons, vP, vZ, Tr.get_set, nvs_self, rN_clos, setB, setC, saysM, hv, hno, hy]
        decide
      · simp only [↓vA, ↓vE, ↓vO, ↓vB, ↓vF, ↓vM, ↓vR, ↓vX, cvF_pc, vP, shb, shv, shvs, she_nil, she_cons, vC, vQ, Nat.reduceEqDiff, ↓reduceIte, eq_self, Nat.reduceAdd, Nat.reduceMul, Nat.reduceSub, Nat.reduceLeDiff, Nat.reduceLT, defd, cellsOf, wr, packR, Int.reduceLE, Int.reduceLT, Int.reduceEq, Int.cast_ofNat_Int, Int.reduceToNat, hno, hy]
        refine (h2 p a ns 150 v hr).sc (vs := [.ptr 0 0, .i .i64 150, .s v]) [0, 1] (Lent.of (by decide) ?_) ?_
        · simp [lent_cons, lent_nil, pushs_cons, pushs_nil, push_mk, shb, shv, shvs, bnds, bnd, rnvs, rnv, gAt, vW, bw_map, mapAt_map, mapClo_it, mapClo_nil, mapClo_cons, vP, vZ, Tr.get_set, setC, bnds_clo rN_clos, rnvs_clo rN_clos, bnd_clo, clo, rnv_clo]
        · simp only [backH, List.cons_append, List.nil_append, List.length_cons, List.length_nil, Nat.zero_add, Nat.reduceAdd, List.take_succ_cons, List.take_zero, List.drop_succ_cons, List.drop_zero, List.map_cons, List.map_nil, rnb, rnvs, rnv, gAt, Nat.reduceLT, ↓reduceIte, List.getD_cons_zero, List.getD_cons_succ, Nat.reduceSub, puts_cons, puts_nil, pushs_cons, pushs_nil, hput_mk, push_mk, setC, rnvs_clo rN_clos, rnv_clo, clo]
          simp only [↓vA, ↓vE, ↓vO, ↓vB, ↓vF, ↓vM, ↓vR, ↓vX, cvF_pc, vP, shb, shv, shvs, she_nil, she_cons, vC, vQ, Nat.reduceEqDiff, ↓reduceIte, eq_self, Nat.reduceAdd, Nat.reduceMul, Nat.reduceSub, Nat.reduceLeDiff, Nat.reduceLT, defd, cellsOf, wr, packR, Int.reduceLE, Int.reduceLT, Int.reduceEq, Int.cast_ofNat_Int, Int.reduceToNat]
          intro _
          refine ⟨[0, 1, 2], ?_⟩
          simp [vW, bw_map, mapAt_map, mapClo_it, mapClo_nil, mapClo_cons, vP, vZ, Tr.get_set, nvs_self, rN_clos, setB, setC, saysM, hv, hno, hy]
          decide
def cSays10 (P : Program) (f : Nat) : Prop := ∀ (p : Pol) (a : Asg) (ns : List GNote) (v : List UInt8), (ns.length + 1) * 48 ≤ roomB →
  Upd P f [.ptr 0 0, .s v, .ptr 0 10] [.cells 0 true false (setC p a 1 ns.length), .cells 4 true true (rN ns)] (.tup []) (setB { p with pe := (saysM v).1.getD p.pe } a ns ((saysM v).2.map (noteOf a)))
theorem says_10 {g1 g2 : Nat} (hc : chkFn P f (ir_restrict_setter_says g1 g2) = true) (h1 : cBool P g1) (h2 : cNoteU P g2) : cSays10 P f := by
  intro p a ns v hr
  refine Upd.mk hc (by simp [bnds, bnd]) (by unfold setB; split <;> simp) ?_
  simp only [ir_restrict_setter_says, setC, argsT, H0, mkT, mkH, trL, List.length_cons, List.length_nil, Nat.reduceAdd, Nat.zero_add]
  by_cases hv : v = []
  · simp only [↓vA, ↓vE, ↓vO, ↓vB, ↓vF, ↓vM, ↓vR, ↓vX, cvF_pc, vP, shb, shv, shvs, she_nil, she_cons, vC, vQ, Nat.reduceEqDiff, ↓reduceIte, eq_self, Nat.reduceAdd, Nat.reduceMul, Nat.reduceSub, Nat.reduceLeDiff, Nat.reduceLT, defd, cellsOf, wr, packR, Int.reduceLE, Int.reduceLT, Int.reduceEq, Int.cast_ofNat_Int, Int.reduceToNat, hv]
    intro _
    refine ⟨[0, 1], ?_⟩
    simp [vW, bw_map, mapAt_map, mapClo_it, mapClo_nil, mapClo_cons, vP, vZ, Tr.get_set, nvs_self, rN_clos, setB, setC, saysM]
    decide
  · simp only [↓vA, ↓vE, ↓vO, ↓vB, ↓vF, ↓vM, ↓vR, ↓vX, cvF_pc, vP, shb, shv, shvs, she_nil, she_cons, vC, vQ, Nat.reduceEqDiff, ↓reduceIte, eq_self, Nat.reduceAdd, Nat.reduceMul, Nat.reduceSub, Nat.reduceLeDiff, Nat.reduceLT, defd, cellsOf, wr, packR, Int.reduceLE, Int.reduceLT, Int.reduceEq, Int.cast_ofNat_Int, Int.reduceToNat, hv]
    refine (h1 v).sc ?_
    unfold boolE
    by_cases hno : v ∈ noWords
    · simp only [↓vA, ↓vE, ↓vO, ↓vB, ↓vF, ↓vM, ↓vR, ↓vX, cvF_pc, vP, shb, shv, shvs, she_nil, she_cons, vC, vQ, Nat.reduceEqDiff, ↓reduceIte, eq_self, Nat.reduceAdd, Nat.reduceMul, Nat.reduceSub, Nat.reduceLeDiff, Nat.reduceLT, defd, cellsOf, wr, packR, Int.reduceLE, Int.reduceLT, Int.reduceEq, Int.cast_ofNat_Int, Int.reduceToNat, hno]
      intro _
      refine ⟨[0, 1], ?_⟩
      simp [vW, bw_map, mapAt_map, mapClo_it, mapClo_nil, mapClo_cons, vP, vZ, Tr.get_set, nvs_self, rN_clos, setB, setC, saysM, hv, hno]
      decide
    · by_cases hy : v ∈ yesWords
      · simp only [↓vA, ↓vE, ↓vO, ↓vB, ↓vF, ↓vM, ↓vR, ↓vX, cvF_pc, vP, shb, shv, shvs, she_nil, she_cons, vC, vQ, Nat.reduceEqDiff, ↓reduceIte, eq_self, Nat.reduceAdd, Nat.reduceMul, Nat.reduceSub, Nat.reduceLeDiff, Nat.reduceLT, defd, cellsOf, wr, packR, Int.reduceLE, Int.reduceLT, Int.reduceEq, Int.cast_ofNat_Int, Int.reduceToNat, hno, hy]
        intro _
        refine ⟨[0, 1], ?_⟩
        simp [vW, bw_map, mapAt_map, mapClo_it, mapClo_nil, mapClo_cons, vP, vZ, Tr.get_set, nvs_self, rN_clos, setB, setC, saysM, hv, hno, hy]
        decide
      · simp only [↓vA, ↓vE, ↓vO, ↓vB, ↓vF, ↓vM, ↓vR, ↓vX, cvF_pc, vP, shb, shv, shvs, she_nil, she_cons, vC, vQ, Nat.reduceEqDiff, ↓reduceIte, eq_self, Nat.reduceAdd, Nat.reduceMul, Nat.reduceSub, Nat.reduceLeDiff, Nat.reduceLT, defd, cellsOf, wr, packR, Int.reduceLE, Int.reduceLT, Int.reduceEq, Int.cast_ofNat_Int, Int.reduceToNat, hno, hy]
        refine (h2 p a ns 150 v hr).sc (vs := [.ptr 0 0, .i .i64 150, .s v]) [0, 1] (Lent.of (by decide) ?_) ?_
        · simp [lent_cons, lent_nil, pushs_cons, pushs_nil, push_mk, shb, shv, shvs, bnds, bnd, rnvs, rnv, gAt, vW, bw_map, mapAt_map, mapClo_it, mapClo_nil, mapClo_cons, vP, vZ, Tr.get_set, setC, bnds_clo rN_clos, rnvs_clo rN_clos, bnd_clo, clo, rnv_clo]
        · simp only [backH, List.cons_append, List.nil_append, List.length_cons, List.length_nil, Nat.zero_add, Nat.reduceAdd, List.take_succ_cons, List.take_zero, List.drop_succ_cons, List.drop_zero, List.map_cons, List.map_nil, rnb, rnvs, rnv, gAt, Nat.reduceLT, ↓reduceIte, List.getD_cons_zero, List.getD_cons_succ, Nat.reduceSub, puts_cons, puts_nil, pushs_cons, pushs_nil, hput_mk, push_mk, setC, rnvs_clo rN_clos, rnv_clo, clo]
          simp only [↓vA, ↓vE, ↓vO, ↓vB, ↓vF, ↓vM, ↓vR, ↓vX, cvF_pc, vP, shb, shv, shvs, she_nil, she_cons, vC, vQ, Nat.reduceEqDiff, ↓reduceIte, eq_self, Nat.reduceAdd, Nat.reduceMul, Nat.reduceSub, Nat.reduceLeDiff, Nat.reduceLT, defd, cellsOf, wr, packR, Int.reduceLE, Int.reduceLT, Int.reduceEq, Int.cast_ofNat_Int, Int.reduceToNat]
          intro _
          refine ⟨[0, 1, 2], ?_⟩
          simp [vW, bw_map, mapAt_map, mapClo_it, mapClo_nil, mapClo_cons, vP, vZ, Tr.get_set, nvs_self, rN_clos, setB, setC, saysM, hv, hno, hy]
          decide
def cSays11 (P : Program) (f : Nat) : Prop := ∀ (p : Pol) (a : Asg) (ns : List GNote) (v : List UInt8), (ns.length + 1) * 48 ≤ roomB →
  Upd P f [.ptr 0 0, .s v, .ptr 0 11] [.cells 0 true false (setC p a 1 ns.length), .cells 4 true true (rN ns)] (.tup []) (setB { p with rt := (saysM v).1.getD p.rt } a ns ((saysM v).2.map (noteOf a)))
theorem says_11 {g1 g2 : Nat} (hc : chkFn P f (ir_restrict_setter_says g1 g2) = true) (h1 : cBool P g1) (h2 : cNoteU P g2) : cSays11 P f := by
  intro p a ns v hr
  refine Upd.mk hc (by simp [bnds, bnd]) (by unfold setB; split <;> simp) ?_
  simp only [ir_restrict_setter_says, setC, argsT, H0, mkT, mkH, trL, List.length_cons, List.length_nil, Nat.reduceAdd, Nat.zero_add]
  by_cases hv : v = []
  · simp only [↓vA, ↓vE, ↓vO, ↓vB, ↓vF, ↓vM, ↓vR, ↓vX, cvF_pc, vP, shb, shv, shvs, she_nil, she_cons, vC, vQ, Nat.reduceEqDiff, ↓reduceIte, eq_self, Nat.reduceAdd, Nat.reduceMul, Nat.reduceSub, Nat.reduceLeDiff, Nat.reduceLT, defd, cellsOf, wr, packR, Int.reduceLE, Int.reduceLT, Int.reduceEq, Int.cast_ofNat_Int, Int.reduceToNat, hv]
    intro _
    refine ⟨[0, 1], ?_⟩
    simp [vW, bw_map, mapAt_map, mapClo_it, mapClo_nil, mapClo_cons, vP, vZ, Tr.get_set, nvs_self, rN_clos, setB, setC, saysM]
    decide
  · simp only [↓vA, ↓vE, ↓vO, ↓vB, ↓vF, ↓vM, ↓vR, ↓vX, cvF_pc, vP, shb, shv, shvs, she_nil, she_cons, vC, vQ, Nat.reduceEqDiff, ↓reduceIte, eq_self, Nat.reduceAdd, Nat.reduceMul, Nat.reduceSub, Nat.reduceLeDiff, Nat.reduceLT, defd, cellsOf, wr, packR, Int.reduceLE, Int.reduceLT, Int.reduceEq, Int.cast_ofNat_Int, Int.reduceToNat, hv]
    refine (h1 v).sc ?_
    unfold boolE
    by_cases hno : v ∈ noWords
    · simp only [↓vA, ↓vE, ↓vO, ↓vB, ↓vF, ↓vM, ↓vR, ↓vX, cvF_pc, vP, shb, shv, shvs, she_nil, she_cons, vC, vQ, Nat.reduceEqDiff, ↓reduceIte, eq_self, Nat.reduceAdd, Nat.reduceMul, Nat.reduceSub, Nat.reduceLeDiff, Nat.reduceLT, defd, cellsOf, wr, packR, Int.reduceLE, Int.reduceLT, Int.reduceEq, Int.cast_ofNat_Int, Int.reduceToNat, hno]
      intro _
      refine ⟨[0, 1], ?_⟩
      simp [vW, bw_map, mapAt_map, mapClo_it, mapClo_nil, mapClo_cons, vP, vZ, Tr.get_set, nvs_self, rN_clos, setB, setC, saysM, hv, hno]
      decide
    · by_cases hy : v ∈ yesWords
      · simp only [↓vA, ↓vE, ↓vO, ↓vB, ↓vF, ↓vM, ↓vR, ↓vX, cvF_pc, vP, shb, shv, shvs, she_nil, she_cons, vC, vQ, Nat.reduceEqDiff, ↓reduceIte, eq_self, Nat.reduceAdd, Nat.reduceMul, Nat.reduceSub, Nat.reduceLeDiff, Nat.reduceLT, defd, cellsOf, wr, packR, Int.reduceLE, Int.reduceLT, Int.reduceEq, Int.cast_ofNat_Int, Int.reduceToNat, hno, hy]
        intro _
        refine ⟨[0, 1], ?_⟩
        simp [vW, bw_map, mapAt_map, mapClo_it, mapClo_nil, mapClo_cons, vP, vZ, Tr.get_set, nvs_self, rN_clos, setB, setC, saysM, hv, hno, hy]
        decide
      · simp only [↓vA, ↓vE, ↓vO, ↓vB, ↓vF, ↓vM, ↓vR, ↓vX, cvF_pc, vP, shb, shv, shvs, she_nil, she_cons, vC, vQ, Nat.reduceEqDiff, ↓reduceIte, eq_self, Nat.reduceAdd, Nat.reduceMul, Nat.reduceSub, Nat.reduceLeDiff, Nat.reduceLT, defd, cellsOf, wr, packR, Int.reduceLE, Int.reduceLT, Int.reduceEq, Int.cast_ofNat_Int, Int.reduceToNat, hno, hy]
        refine (h2 p a ns 150 v hr).sc (vs := [.ptr 0 0, .i .i64 150, .s v]) [0, 1] (Lent.of (by decide) ?_) ?_
        · simp [lent_cons, lent_nil, pushs_cons, pushs_nil, push_mk, shb, shv, shvs, bnds, bnd, rnvs, rnv, gAt, vW, bw_map, mapAt_map, mapClo_it, mapClo_nil, mapClo_cons, vP, vZ, Tr.get_set, setC, bnds_clo rN_clos, rnvs_clo rN_clos, bnd_clo, clo, rnv_clo]
        · simp only [backH, List.cons_append, List.nil_append, List.length_cons, List.length_nil, Nat.zero_add, Nat.reduceAdd, List.take_succ_cons, List.take_zero, List.drop_succ_cons, List.drop_zero, List.map_cons, List.map_nil, rnb, rnvs, rnv, gAt, Nat.reduceLT, ↓reduceIte, List.getD_cons_zero, List.getD_cons_succ, Nat.reduceSub, puts_cons, puts_nil, pushs_cons, pushs_nil, hput_mk, push_mk, setC, rnvs_clo rN_clos, rnv_clo, clo]
          simp only [↓vA, ↓vE, ↓vO, ↓vB, ↓vF, ↓vM, ↓vR, ↓vX, cvF_pc, vP, shb, shv, shvs, she_nil, she_cons, vC, vQ, Nat.reduceEqDiff, ↓reduceIte, eq_self, Nat.reduceAdd, Nat.reduceMul, Nat.reduceSub, Nat.reduceLeDiff, Nat.reduceLT, defd, cellsOf, wr, packR, Int.reduceLE, Int.reduceLT, Int.reduceEq, Int.cast_ofNat_Int, Int.reduceToNat]
          intro _
          refine ⟨[0, 1, 2], ?_⟩
          simp [vW, bw_map, mapAt_map, mapClo_it, mapClo_nil, mapClo_cons, vP, vZ, Tr.get_set, nvs_self, rN_clos, setB, setC, saysM, hv, hno, hy]
          decide
def cSays12 (P : Program) (f : Nat) : Prop := ∀ (p : Pol) (a : Asg) (ns : List GNote) (v : List UInt8), (ns.length + 1) * 48 ≤ roomB →
  Upd P f [.ptr 0 0, .s v, .ptr 0 12] [.cells 0 true false (setC p a 1 ns.length), .cells 4 true true (rN ns)] (.tup []) (setB { p with np := (saysM v).1.getD p.np } a ns ((saysM v).2.map (noteOf a)))
theorem says_12 {g1 g2 : Nat} (hc : chkFn P f (ir_restrict_setter_says g1 g2) = true) (h1 : cBool P g1) (h2 : cNoteU P g2) : cSays12 P f := by
  intro p a ns v hr
  refine Upd.mk hc (by simp [bnds, bnd]) (by unfold setB; split <;> simp) ?_
  simp only [ir_restrict_setter_says, setC, argsT, H0, mkT, mkH, trL, List.length_cons, List.length_nil, Nat.reduceAdd, Nat.zero_add]
  by_cases hv : v = []
  · simp only [↓vA, ↓vE, ↓vO, ↓vB, ↓vF, ↓vM, ↓vR, ↓vX, cvF_pc, vP, shb, shv, shvs, she_nil, she_cons, vC, vQ, Nat.reduceEqDiff, ↓reduceIte, eq_self, Nat.reduceAdd, Nat.reduceMul, Nat.reduceSub, Nat.reduceLeDiff, Nat.reduceLT, defd, cellsOf, wr, packR, Int.reduceLE, Int.reduceLT, Int.reduceEq, Int.cast_ofNat_Int, Int.reduceToNat, hv]
    intro _
    refine ⟨[0, 1], ?_⟩
    simp [vW, bw_map, mapAt_map, mapClo_it, mapClo_nil, mapClo_cons, vP, vZ, Tr.get_set, nvs_self, rN_clos, setB, setC, saysM]
    decide
  · simp only [↓vA, ↓vE, ↓vO, ↓vB, ↓vF, ↓vM, ↓vR, ↓vX, cvF_pc, vP, shb, shv, shvs, she_nil, she_cons, vC, vQ, Nat.reduceEqDiff, ↓reduceIte, eq_self, Nat.reduceAdd, Nat.reduceMul, Nat.reduceSub, Nat.reduceLeDiff, Nat.reduceLT, defd, cellsOf, wr, packR, Int.reduceLE, Int.reduceLT, Int.reduceEq, Int.cast_ofNat_Int, Int.reduceToNat, hv]
    refine (h1 v).sc ?_
    unfold boolE
    by_cases hno : v ∈ noWords
    · simp only [↓vA, ↓vE, ↓vO, ↓vB, ↓vF, ↓vM, ↓vR, ↓vX, cvF_pc, vP, shb, shv, shvs, she_nil, she_cons, vC, vQ, Nat.reduceEqDiff, ↓reduceIte, eq_self, Nat.reduceAdd, Nat.reduceMul, Nat.reduceSub, Nat.reduceLeDiff, Nat.reduceLT, defd, cellsOf, wr, packR, Int.reduceLE, Int.reduceLT, Int.reduceEq, Int.cast_ofNat_Int, Int.reduceToNat, hno]
      intro _
      refine ⟨[0, 1], ?_⟩
      simp [vW, bw_map, mapAt_map, mapClo_it, mapClo_nil, mapClo_cons, vP, vZ, Tr.get_set, nvs_self, rN_clos, setB, setC, saysM, hv, hno]
      decide
    · by_cases hy : v ∈ yesWords
      · simp only [↓vA, ↓vE, ↓vO, ↓vB, ↓vF, ↓vM, ↓vR, ↓vX, cvF_pc, vP, shb, shv, shvs, she_nil, she_cons, vC, vQ, Nat.reduceEqDiff, ↓reduceIte, eq_self, Nat.reduceAdd, Nat.reduceMul, Nat.reduceSub, Nat.reduceLeDiff, Nat.reduceLT, defd, cellsOf, wr, packR, Int.reduceLE, Int.reduceLT, Int.reduceEq, Int.cast_ofNat_Int, Int.reduceToNat, hno, hy]
        intro _
        refine ⟨[0, 1], ?_⟩
        simp [vW, bw_map, mapAt_map, mapClo_it, mapClo_nil, mapClo_cons, vP, vZ, Tr.get_set, nvs_self, rN_clos, setB, setC, saysM, hv, hno, hy]
        decide
      · simp only [↓vA, ↓vE, ↓vO, ↓vB, ↓vF, ↓vM, ↓vR, ↓vX, cvF_pc, vP, shb, shv, shvs, she_nil, she_cons, vC, vQ, Nat.reduceEqDiff, ↓reduceIte, eq_self, Nat.reduceAdd, Nat.reduceMul, Nat.reduceSub, Nat.reduceLeDiff, Nat.reduceLT, defd, cellsOf, wr, packR, Int.reduceLE, Int.reduceLT, Int.reduceEq, Int.cast_ofNat_Int, Int.reduceToNat, hno, hy]
        refine (h2 p a ns 150 v hr).sc (vs := [.ptr 0 0, .i .i64 150, .s v]) [0, 1] (Lent.of (by decide) ?_) ?_
        · simp [lent_cons, lent_nil, pushs_cons, pushs_nil, push_mk, shb, shv, shvs, bnds, bnd, rnvs, rnv, gAt, vW, bw_map, mapAt_map, mapClo_it, mapClo_nil, mapClo_cons, vP, vZ, Tr.get_set, setC, bnds_clo rN_clos, rnvs_clo rN_clos, bnd_clo, clo, rnv_clo]
        · simp only [backH, List.cons_append, List.nil_append, List.length_cons, List.length_nil, Nat.zero_add, Nat.reduceAdd, List.take_succ_cons, List.take_zero, List.drop_succ_cons, List.drop_zero, List.map_cons, List.map_nil, rnb, rnvs, rnv, gAt, Nat.reduceLT, ↓reduceIte, List.getD_cons_zero, List.getD_cons_succ, Nat.reduceSub, puts_cons, puts_nil, pushs_cons, pushs_nil, hput_mk, push_mk, setC, rnvs_clo rN_clos, rnv_clo, clo]
          simp only [↓vA, ↓vE, ↓vO, ↓vB, ↓vF, ↓vM, ↓vR, ↓vX, cvF_pc, vP, shb, shv, shvs, she_nil, she_cons, vC, vQ, Nat.reduceEqDiff, ↓reduceIte, eq_self, Nat.reduceAdd, Nat.reduceMul, Nat.reduceSub, Nat.reduceLeDiff, Nat.reduceLT, defd, cellsOf, wr, packR, Int.reduceLE, Int.reduceLT, Int.reduceEq, Int.cast_ofNat_Int, Int.reduceToNat]
          intro _
          refine ⟨[0, 1, 2], ?_⟩
          simp [vW, bw_map, mapAt_map, mapClo_it, mapClo_nil, mapClo_cons, vP, vZ, Tr.get_set, nvs_self, rN_clos, setB, setC, saysM, hv, hno, hy]
          decide
end Go.Kc
end
