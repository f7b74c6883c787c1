/- Part 9 of the abstract machine and of the functions' walks. Conditions: with each theorem. -/
import Derived.Test.YtdmjpfekglajoaaK8
set_option linter.unusedSimpArgs false
set_option linter.unusedVariables false
set_option linter.unnecessarySimpa false
section
/- What fold.Step answers. Condition: the functions' texts are these. -/
namespace Go.Kc
variable {P : Program} {f : Nat}
def ir_fold_Step_c111 (f_fold_copied f_fold_May f_values_Words f_values_Turned f_fold_Step_1 f_values_Read f_fold_members f_fold_ins f_fold_Put f_fold_Take : Nat) : ICode := .reg false [⟨(some 111), .op (.bin .add (.t 48) (.c (.i .i64 1))), none⟩,
    ⟨(some 48), .op (.mov (.t 111)), none⟩]
def ir_fold_Step_c95 (f_fold_copied f_fold_May f_values_Words f_values_Turned f_fold_Step_1 f_values_Read f_fold_members f_fold_ins f_fold_Put f_fold_Take : Nat) : ICode := .seq (.reg false [⟨(some 95), .op (.mov (.t 17)), none⟩,
    ⟨(some 96), .op (.len false (.t 95)), none⟩,
    ⟨(some 97), .op (.mov (.c (.i .i64 0))), none⟩])
  (.blk 3 (.loop (.seq (.reg false [⟨(some 98), .op (.bin .lss (.t 97) (.t 96)), none⟩])
  (.seq (.cond (.t 98) (.skip) (.exit 3))
  (.seq (.blk 4 (.seq (.reg false [⟨(some 99), .op (.iAddrS 1 (.t 95) (.t 97)), none⟩,
    ⟨(some 100), .op (.load1 (.t 99)), none⟩,
    ⟨(some 20), .op (.mov (.t 100)), none⟩])
  (.seq (.reg false [⟨(some 101), .op (.mov (.t 18)), none⟩])
  (.cond (.t 101) (.reg false [⟨(some 102), .op (.loadN 2 (.t 3)), none⟩,
    ⟨(some 103), .op (.mov (.t 20)), none⟩,
    ⟨(some 104), .op (.fAddr 1 (.t 15)), none⟩,
    ⟨(some 105), .op (.load1 (.t 104)), none⟩,
    ⟨(some 106), .callF f_fold_Put [(.t 102), (.t 103), (.t 105)], none⟩,
    ⟨none, .op (.store 2 (.t 3) (.t 106)), none⟩]) (.reg false [⟨(some 107), .op (.loadN 2 (.t 3)), none⟩,
    ⟨(some 108), .op (.mov (.t 20)), none⟩,
    ⟨(some 109), .callF f_fold_Take [(.t 107), (.t 108)], none⟩,
    ⟨none, .op (.store 2 (.t 3) (.t 109)), none⟩])))))
  (.reg false [⟨(some 110), .op (.bin .add (.t 97) (.c (.i .i64 1))), none⟩,
    ⟨(some 97), .op (.mov (.t 110)), none⟩]))))))
def ir_fold_Step_c9 (f_fold_copied f_fold_May f_values_Words f_values_Turned f_fold_Step_1 f_values_Read f_fold_members f_fold_ins f_fold_Put f_fold_Take : Nat) : ICode := .seq (.seq (.reg false [⟨(some 45), .op (.mov (.t 8)), none⟩,
    ⟨(some 46), .callF f_values_Words [(.t 45)], none⟩,
    ⟨(some 47), .op (.len false (.t 46)), none⟩,
    ⟨(some 48), .op (.mov (.c (.i .i64 0))), none⟩])
  (.blk 0 (.loop (.seq (.reg false [⟨(some 49), .op (.bin .lss (.t 48) (.t 47)), none⟩])
  (.seq (.cond (.t 49) (.skip) (.exit 0))
  (.seq (.blk 1 (.seq (.reg false [⟨(some 50), .op (.iAddrS 1 (.t 46) (.t 48)), none⟩,
    ⟨(some 51), .op (.load1 (.t 50)), none⟩,
    ⟨(some 13), .op (.alloc [.s []]), none⟩,
    ⟨none, .op (.store 1 (.t 13) (.t 51)), none⟩])
  (.seq (.reg false [⟨(some 52), .op (.mkF f_fold_Step_1 [] [(.t 11), (.t 13)]), none⟩,
    ⟨(some 14), .op (.mov (.t 52)), none⟩])
  (.seq (.reg false [⟨(some 54), .op (.load1 (.t 13)), none⟩,
    ⟨(some 55), .callF f_values_Read [(.t 54)], none⟩,
    ⟨(some 53), .op (.mov (.t 55)), none⟩,
    ⟨(some 56), .op (.ext (.t 53) 0), none⟩,
    ⟨(some 57), .op (.ext (.t 53) 1), none⟩,
    ⟨(some 15), .op (.alloc [.s [], .i .u32 0, .b false]), none⟩,
    ⟨none, .op (.store 3 (.t 15) (.t 56)), none⟩,
    ⟨(some 16), .op (.mov (.t 57)), none⟩])
  (.seq (.seq (.reg false [⟨(some 58), .op (.mov (.t 16)), none⟩,
    ⟨(some 59), .op (.bin .neq (.t 58) (.c (.i .i64 0))), none⟩])
  (.cond (.t 59) (.seq (.reg false [⟨(some 60), .op (.mov (.t 14)), none⟩,
    ⟨(some 61), .op (.mov (.t 16)), none⟩,
    ⟨(some 62), .callV (.t 60) [(.t 61)], none⟩])
  (.exit 1)) (.skip)))
  (.seq (.reg false [⟨(some 64), .op (.fAddr 0 (.t 15)), none⟩,
    ⟨(some 65), .op (.load1 (.t 64)), none⟩,
    ⟨(some 66), .callF f_fold_members [(.t 65)], none⟩,
    ⟨(some 63), .op (.mov (.t 66)), none⟩,
    ⟨(some 67), .op (.ext (.t 63) 0), none⟩,
    ⟨(some 68), .op (.ext (.t 63) 1), none⟩,
    ⟨(some 17), .op (.mov (.t 67)), none⟩,
    ⟨(some 16), .op (.mov (.t 68)), none⟩])
  (.seq (.seq (.reg false [⟨(some 69), .op (.mov (.t 16)), none⟩,
    ⟨(some 70), .op (.bin .neq (.t 69) (.c (.i .i64 0))), none⟩])
  (.cond (.t 70) (.seq (.reg false [⟨(some 71), .op (.mov (.t 14)), none⟩,
    ⟨(some 72), .op (.mov (.t 16)), none⟩,
    ⟨(some 73), .callV (.t 71) [(.t 72)], none⟩])
  (.exit 1)) (.skip)))
  (.seq (.reg true [⟨(some 74), .callF f_fold_ins [], none⟩,
    ⟨(some 75), .op (.fAddr 0 (.t 3)), none⟩,
    ⟨(some 76), .op (.load1 (.t 75)), none⟩,
    ⟨(some 77), .op (.bin .sub (.t 76) (.c (.i .u8 1))), none⟩,
    ⟨(some 78), .op (.idxA 2 2 true (.t 74) (.t 77)), none⟩,
    ⟨(some 79), .op (.mov (.t 10)), none⟩,
    ⟨(some 80), .op (.idxA 2 1 false (.t 78) (.t 79)), none⟩,
    ⟨(some 18), .op (.mov (.t 80)), none⟩])
  (.seq (.blk 2 (.seq (.reg false [⟨(some 82), .op (.fAddr 2 (.t 15)), none⟩,
    ⟨(some 83), .op (.load1 (.t 82)), none⟩,
    ⟨(some 84), .op (.un .not (.t 83)), none⟩,
    ⟨(some 81), .op (.mov (.t 84)), none⟩])
  (.cond (.t 81) (.skip) (.seq (.reg false [⟨(some 86), .op (.mov (.t 2)), none⟩,
    ⟨(some 87), .op (.un .not (.t 86)), none⟩,
    ⟨(some 88), .op (.mov (.t 87)), none⟩,
    ⟨(some 89), .op (.mov (.t 9)), (some (88, false))⟩,
    ⟨(some 90), .op (.un .not (.t 89)), (some (88, false))⟩,
    ⟨(some 91), .op (.pick (.t 88) (.c (.b true)) (.t 90)), none⟩,
    ⟨(some 85), .op (.mov (.t 91)), none⟩])
  (.cond (.t 85) (.seq (.reg false [⟨(some 92), .op (.mov (.t 14)), none⟩,
    ⟨(some 93), .callV (.t 92) [(.c (.i .i64 161))], none⟩])
  (.reg false [⟨(some 94), .op (.fAddr 1 (.t 15)), none⟩,
    ⟨none, .op (.store 1 (.t 94) (.c (.i .u32 0))), none⟩])) (.reg false [⟨(some 18), .op (.mov (.c (.b true))), none⟩]))))))
  (.cut (ir_fold_Step_c95 f_fold_copied f_fold_May f_values_Words f_values_Turned f_fold_Step_1 f_values_Read f_fold_members f_fold_ins f_fold_Put f_fold_Take)))))))))))
  (.cut (ir_fold_Step_c111 f_fold_copied f_fold_May f_values_Words f_values_Turned f_fold_Step_1 f_values_Read f_fold_members f_fold_ins f_fold_Put f_fold_Take))))))))
  (.seq (.reg true [⟨(some 112), .op (.loadN 2 (.t 3)), none⟩,
    ⟨(some 113), .op (.load1 (.t 11)), none⟩,
    ⟨none, .op (.storeD 2 (.t 6) (.t 112) [11]), none⟩,
    ⟨(some 7), .op (.mov (.t 113)), none⟩])
  (.ret))
def ir_fold_Step (f_fold_copied f_fold_May f_values_Words f_values_Turned f_fold_Step_1 f_values_Read f_fold_members f_fold_ins f_fold_Put f_fold_Take : Nat) : IFn := ⟨[.cell 6 2 true, .tmp 7],
  .seq (.reg false [⟨(some 3), .op (.box (.t 0)), none⟩,
    ⟨(some 6), .op (.alloc [.i .u8 0, .nils]), none⟩,
    ⟨(some 7), .op (.mov (.c (.nils))), none⟩])
  (.seq (.reg false [⟨(some 21), .op (.loadN 2 (.t 3)), none⟩,
    ⟨(some 22), .callF f_fold_copied [(.t 21)], none⟩,
    ⟨none, .op (.store 2 (.t 3) (.t 22)), none⟩])
  (.seq (.seq (.reg false [⟨(some 23), .op (.loadN 2 (.t 3)), none⟩,
    ⟨(some 24), .callF f_fold_May [(.t 23)], none⟩,
    ⟨(some 25), .op (.un .not (.t 24)), none⟩])
  (.cond (.t 25) (.seq (.reg false [⟨(some 26), .op (.loadN 2 (.t 3)), none⟩,
    ⟨none, .op (.store 2 (.t 6) (.t 26)), none⟩,
    ⟨(some 7), .op (.mov (.c (.nils))), none⟩])
  (.ret)) (.skip)))
  (.seq (.seq (.reg false [⟨(some 27), .op (.mov (.t 1)), none⟩,
    ⟨(some 28), .callF f_values_Words [(.t 27)], none⟩,
    ⟨(some 29), .op (.len false (.t 28)), none⟩,
    ⟨(some 30), .op (.bin .eql (.t 29) (.c (.i .i64 0))), none⟩])
  (.cond (.t 30) (.seq (.reg false [⟨(some 31), .op (.build [.i .u8 0, .nils] []), none⟩,
    ⟨none, .op (.store 2 (.t 6) (.t 31)), none⟩,
    ⟨(some 7), .op (.mov (.c (.nils))), none⟩])
  (.ret)) (.skip)))
  (.seq (.reg false [⟨(some 33), .op (.mov (.t 1)), none⟩,
    ⟨(some 34), .callF f_values_Turned [(.t 33)], none⟩,
    ⟨(some 32), .op (.mov (.t 34)), none⟩,
    ⟨(some 35), .op (.ext (.t 32) 0), none⟩,
    ⟨(some 36), .op (.ext (.t 32) 1), none⟩,
    ⟨(some 8), .op (.mov (.t 35)), none⟩,
    ⟨(some 9), .op (.mov (.t 36)), none⟩])
  (.seq (.reg false [⟨(some 10), .op (.mov (.c (.i .i64 0))), none⟩])
  (.seq (.seq (.reg false [⟨(some 37), .op (.mov (.t 9)), none⟩])
  (.cond (.t 37) (.reg false [⟨(some 10), .op (.mov (.c (.i .i64 1))), none⟩]) (.skip)))
  (.seq (.seq (.reg false [⟨(some 38), .op (.fAddr 0 (.t 3)), none⟩,
    ⟨(some 39), .op (.load1 (.t 38)), none⟩,
    ⟨(some 40), .op (.bin .eql (.t 39) (.c (.i .u8 0))), none⟩])
  (.cond (.t 40) (.reg false [⟨(some 41), .op (.mov (.t 10)), none⟩,
    ⟨(some 42), .op (.cvInt .u8 (.t 41)), none⟩,
    ⟨(some 43), .op (.bin .add (.c (.i .u8 1)) (.t 42)), none⟩,
    ⟨(some 44), .op (.fAddr 0 (.t 3)), none⟩,
    ⟨none, .op (.store 1 (.t 44) (.t 43)), none⟩]) (.skip)))
  (.seq (.reg false [⟨(some 11), .op (.alloc [.nils]), none⟩])
  (.cut (ir_fold_Step_c9 f_fold_copied f_fold_May f_values_Words f_values_Turned f_fold_Step_1 f_values_Read f_fold_members f_fold_ins f_fold_Put f_fold_Take))))))))))⟩
def cPut (P : Program) (f : Nat) : Prop := ∀ (l : GList) (s : List UInt8) (n : Int), l.calls.length ≤ 100000 → Pure P f [.agg (cList l), .s s, .i .u32 n] (.agg (cList (putM l s n)))
def cTake (P : Program) (f : Nat) : Prop := ∀ (l : GList) (s : List UInt8), l.calls.length ≤ 100000 → Pure P f [.agg (cList l), .s s] (.agg (cList (takeM l s)))
theorem step_in {g1 g2 g3 g4 g5 g6 g7 g8 g9 g10 : Nat} (h1 : cPut P g9) (h2 : cTake P g10) (fl t ins : Bool) (way : Int) (W N : List (List UInt8)) (j : Nat) (l : GList) (wd : Word) (w : List UInt8) (ns : List GNote) (hW : W.length ≤ 1000) (hN : N.length ≤ 1000)
    (hl : mayM l = true) (hm : l.mode ≠ 0) (hk : ∀ n ∈ N, knownM n = true) (ha : actM wd.act = true) (Q : X → Tr AV → Hp → Prop)
    (hQ : ∀ t' h', Wk 0 t' h' (mkT [(2, .b fl), (3, .ptr 0 0), (6, .ptr 1 0), (9, .b t), (10, .i .i64 way), (11, .ptr 2 0), (46, .fz W.length (rS W)), (47, .i .i64 W.length), (48, .i .i64 j)])
      (mkH 0 [.cells 0 true false (cList (N.foldl (stepN ins wd.act) l)), .cells 0 true false [.i .u8 0, .nils], .cells 0 true false [.own 3 ns.length], .cells 4 true true (rN ns)]) → Q .normal t' h') :
    S P 0 (ir_fold_Step_c95 g1 g2 g3 g4 g5 g6 g7 g8 g9 g10) Q
      (mkT [(2, .b fl), (3, .ptr 0 0), (6, .ptr 1 0), (9, .b t), (10, .i .i64 way), (11, .ptr 2 0), (46, .fz W.length (rS W)), (47, .i .i64 W.length), (48, .i .i64 j), (15, .ptr 4 0), (17, .fz N.length (rS N)), (18, .b ins)])
      (mkH 0 [.cells 0 true false (cList l), .cells 0 true false [.i .u8 0, .nils], .cells 0 true false [.own 3 ns.length], .cells 4 true true (rN ns), .cells 0 true false (cWord wd)]) := by
  refine V_sound ?_
  simp only [ir_fold_Step_c95, cList, argsT, H0, mkT, mkH, trL, List.length_cons, List.length_nil, Nat.reduceAdd, Nat.zero_add]
  simp only [↓vA, ↓vE, ↓vO, ↓vB, ↓vF, ↓vM, ↓vR, ↓vX, cvF_pc, vP, shb, shv, shvs, she_nil, she_cons, vC, vQ, Nat.reduceEqDiff, ↓reduceIte, eq_self, Nat.reduceAdd, Nat.reduceMul, Nat.reduceSub, Nat.reduceLeDiff, Nat.reduceLT, defd, cellsOf, wr, packR, Int.reduceLE, Int.reduceLT, Int.reduceEq, Int.cast_ofNat_Int, Int.reduceToNat]
  refine SL.loop (α := Nat) (fun k => [(2, .b fl), (3, .ptr 0 0), (6, .ptr 1 0), (9, .b t), (10, .i .i64 way), (11, .ptr 2 0), (46, .fz W.length (rS W)), (47, .i .i64 W.length), (48, .i .i64 j), (15, .ptr 4 0), (18, .b ins), (95, .fz N.length (rS N)), (96, .i .i64 N.length), (97, .i .i64 k)])
    (fun k => [.cells 0 true false (cList ((N.take k).foldl (stepN ins wd.act) l)), .cells 0 true false [.i .u8 0, .nils], .cells 0 true false [.own 3 ns.length], .cells 4 true true (rN ns), .cells 0 true false (cWord wd)])
    (fun k => k ≤ N.length) (fun k => N.length - k) 0 [0, 1, 2, 3, 4] ?_ ?_ ?_ rfl ?_ ?_
  · simp [vW, bw_map, mapAt_map, mapClo_it, mapClo_nil, mapClo_cons, vP, vZ, Tr.get_set]
  · simp [vW, bw_map, mapAt_map, mapClo_it, mapClo_nil, mapClo_cons, vP, vZ, Tr.get_set, cList, nvs_self, rN_clos, rC_clos, cWord]
  · simp
  · exact Nat.zero_le _
  rintro k hk1 G ih
  have hmay := foldN_may (ins := ins) ha hl hm (fun n hn => hk n (List.mem_of_mem_take (i := k) hn))
  have hlen := may_len hmay
  generalize hr : (N.take k).foldl (stepN ins wd.act) l = r at hmay hlen ih ⊢
  simp only [argsT, H0, mkT, mkH, trL, List.length_cons, List.length_nil, Nat.reduceAdd, Nat.zero_add]
  by_cases hlt : k < N.length
  · have hx : (rS N)[k]? = some (.s N[k]) := by rw [rS_get, List.getElem?_eq_getElem hlt]; rfl
    have hw : IntKind.wrap .i64 ((k : Int) + 1) = ((k + 1 : Nat) : Int) := by rw [wrap64 (by omega) (by omega)]; omega
    have hnext : (N.take (k + 1)).foldl (stepN ins wd.act) l = stepN ins wd.act r N[k] := by
      rw [List.take_add_one, List.getElem?_eq_getElem hlt, List.foldl_append, hr]; rfl
    have ih2 := ih (k + 1)
    rw [hnext] at ih2
    simp only [cList, cWord]
    cases ins with
    | true =>
      simp only [↓vA, ↓vE, ↓vO, ↓vB, ↓vF, ↓vM, ↓vR, ↓vX, cvF_pc, vP, shb, shv, shvs, she_nil, she_cons, vC, vQ, Nat.reduceEqDiff, ↓reduceIte, eq_self, Nat.reduceAdd, Nat.reduceMul, Nat.reduceSub, Nat.reduceLeDiff, Nat.reduceLT, defd, cellsOf, wr, packR, Int.reduceLE, Int.reduceLT, Int.reduceEq, Int.cast_ofNat_Int, Int.reduceToNat, hlt, hx, Nat.mul_one]
      refine (h1 r N[k] wd.act (by omega)).sc ?_
      simp only [↓vA, ↓vE, ↓vO, ↓vB, ↓vF, ↓vM, ↓vR, ↓vX, cvF_pc, vP, shb, shv, shvs, she_nil, she_cons, vC, vQ, Nat.reduceEqDiff, ↓reduceIte, eq_self, Nat.reduceAdd, Nat.reduceMul, Nat.reduceSub, Nat.reduceLeDiff, Nat.reduceLT, defd, cellsOf, wr, packR, Int.reduceLE, Int.reduceLT, Int.reduceEq, Int.cast_ofNat_Int, Int.reduceToNat, hw, cList]
      refine ih2 (by omega) (by omega) _ _ (Wk.mk _ _ [0, 1, 2, 3, 4] ?_ ?_ ?_ rfl)
      · simp [vW, bw_map, mapAt_map, mapClo_it, mapClo_nil, mapClo_cons, vP, vZ, Tr.get_set]
      · simp [vW, bw_map, mapAt_map, mapClo_it, mapClo_nil, mapClo_cons, vP, vZ, Tr.get_set, cList, nvs_self, rN_clos, rC_clos, cWord, stepN]
      · simp
    | false =>
      simp only [↓vA, ↓vE, ↓vO, ↓vB, ↓vF, ↓vM, ↓vR, ↓vX, cvF_pc, vP, shb, shv, shvs, she_nil, she_cons, vC, vQ, Nat.reduceEqDiff, ↓reduceIte, eq_self, Nat.reduceAdd, Nat.reduceMul, Nat.reduceSub, Nat.reduceLeDiff, Nat.reduceLT, defd, cellsOf, wr, packR, Int.reduceLE, Int.reduceLT, Int.reduceEq, Int.cast_ofNat_Int, Int.reduceToNat, hlt, hx, Nat.mul_one]
      refine (h2 r N[k] (by omega)).sc ?_
      simp only [↓vA, ↓vE, ↓vO, ↓vB, ↓vF, ↓vM, ↓vR, ↓vX, cvF_pc, vP, shb, shv, shvs, she_nil, she_cons, vC, vQ, Nat.reduceEqDiff, ↓reduceIte, eq_self, Nat.reduceAdd, Nat.reduceMul, Nat.reduceSub, Nat.reduceLeDiff, Nat.reduceLT, defd, cellsOf, wr, packR, Int.reduceLE, Int.reduceLT, Int.reduceEq, Int.cast_ofNat_Int, Int.reduceToNat, hw, cList]
      refine ih2 (by omega) (by omega) _ _ (Wk.mk _ _ [0, 1, 2, 3, 4] ?_ ?_ ?_ rfl)
      · simp [vW, bw_map, mapAt_map, mapClo_it, mapClo_nil, mapClo_cons, vP, vZ, Tr.get_set]
      · simp [vW, bw_map, mapAt_map, mapClo_it, mapClo_nil, mapClo_cons, vP, vZ, Tr.get_set, cList, nvs_self, rN_clos, rC_clos, cWord, stepN]
      · simp
  · have hkl : N.take k = N := List.take_of_length_le (by omega)
    rw [hkl] at hr
    rw [hr] at hQ
    simp only [↓vA, ↓vE, ↓vO, ↓vB, ↓vF, ↓vM, ↓vR, ↓vX, cvF_pc, vP, shb, shv, shvs, she_nil, she_cons, vC, vQ, Nat.reduceEqDiff, ↓reduceIte, eq_self, Nat.reduceAdd, Nat.reduceMul, Nat.reduceSub, Nat.reduceLeDiff, Nat.reduceLT, defd, cellsOf, wr, packR, Int.reduceLE, Int.reduceLT, Int.reduceEq, Int.cast_ofNat_Int, Int.reduceToNat, hlt]
    refine hQ _ _ (Wk.mk _ _ [0, 1, 2, 3] ?_ ?_ ?_ rfl)
    · simp [vW, bw_map, mapAt_map, mapClo_it, mapClo_nil, mapClo_cons, vP, vZ, Tr.get_set]
    · simp [vW, bw_map, mapAt_map, mapClo_it, mapClo_nil, mapClo_cons, vP, vZ, Tr.get_set, cList, nvs_self, rN_clos, rC_clos]
    · simp
def cStep1 (P : Program) (f : Nat) : Prop := ∀ (ns : List GNote) (e : Int) (w : List UInt8), (ns.length + 1) * 48 ≤ roomB →
    Upd P f [.i .i64 e, .ptr 0 0, .ptr 1 0] [.cells 0 true false [.own 2 ns.length], .cells 0 true false [.s w], .cells 4 true true (rN ns)] (.tup []) [.cells 0 true false [.own 3 (ns ++ [noteW e w]).length], .cells 0 true false [.s w], .dead, .cells 4 true true (rN (ns ++ [noteW e w]))]
def cRead (P : Program) (f : Nat) : Prop := ∀ a : List UInt8, a.length ≤ 1000000 → Pure P f [.s a] (.tup [.agg (cWord (readM a).1), .i .i64 (readM a).2])
def cIns (P : Program) (f : Nat) : Prop := Pure P f [] (.agg [.b true, .b false, .b false, .b true])
def wayI (t : Bool) : Int := if t = true then 1 else 0
theorem step_up {g1 g2 g3 g4 g5 g6 g7 g8 g9 g10 : Nat} (fl t : Bool) (way : Int) (W : List (List UInt8)) (j : Nat) (hj : j < 100000) (l : GList) (ns : List GNote) (Q : X → Tr AV → Hp → Prop)
    (hQ : ∀ t' h', Wk 0 t' h' (mkT [(2, .b fl), (3, .ptr 0 0), (6, .ptr 1 0), (9, .b t), (10, .i .i64 way), (11, .ptr 2 0), (46, .fz W.length (rS W)), (47, .i .i64 W.length), (48, .i .i64 (j + 1 : Nat))])
      (mkH 0 [.cells 0 true false (cList l), .cells 0 true false [.i .u8 0, .nils], .cells 0 true false [.own 3 ns.length], .cells 4 true true (rN ns)]) → Q .normal t' h') :
    S P 0 (ir_fold_Step_c111 g1 g2 g3 g4 g5 g6 g7 g8 g9 g10) Q
      (mkT [(2, .b fl), (3, .ptr 0 0), (6, .ptr 1 0), (9, .b t), (10, .i .i64 way), (11, .ptr 2 0), (46, .fz W.length (rS W)), (47, .i .i64 W.length), (48, .i .i64 j)])
      (mkH 0 [.cells 0 true false (cList l), .cells 0 true false [.i .u8 0, .nils], .cells 0 true false [.own 3 ns.length], .cells 4 true true (rN ns)]) := by
  have hw : IntKind.wrap .i64 ((j : Int) + 1) = ((j + 1 : Nat) : Int) := by rw [wrap64 (by omega) (by omega)]; omega
  refine V_sound ?_
  simp only [ir_fold_Step_c111, cList, argsT, H0, mkT, mkH, trL, List.length_cons, List.length_nil, Nat.reduceAdd, Nat.zero_add]
  simp only [↓vA, ↓vE, ↓vO, ↓vB, ↓vF, ↓vM, ↓vR, ↓vX, cvF_pc, vP, shb, shv, shvs, she_nil, she_cons, vC, vQ, Nat.reduceEqDiff, ↓reduceIte, eq_self, Nat.reduceAdd, Nat.reduceMul, Nat.reduceSub, Nat.reduceLeDiff, Nat.reduceLT, defd, cellsOf, wr, packR, Int.reduceLE, Int.reduceLT, Int.reduceEq, Int.cast_ofNat_Int, Int.reduceToNat, hw]
  refine hQ _ _ (Wk.mk _ _ [0, 1, 2, 3] ?_ ?_ ?_ rfl)
  · simp [vW, bw_map, mapAt_map, mapClo_it, mapClo_nil, mapClo_cons, vP, vZ, Tr.get_set]
  · simp [vW, bw_map, mapAt_map, mapClo_it, mapClo_nil, mapClo_cons, vP, vZ, Tr.get_set, cList, nvs_self, rN_clos, rC_clos]
  · simp
set_option maxHeartbeats 2000000 in
theorem step_c9 {g1 g2 g3 g4 g5 g6 g7 g8 g9 g10 : Nat} {E : List UInt8 → List (List UInt8) × Int} (hE : ExpOk E) (h3 : cWords P g3) (h5 : cStep1 P g5) (h6 : cRead P g6) (h7 : cExp (memM E) P g7) (h8 : cIns P g8) (h9 : cPut P g9) (h10 : cTake P g10)
    (fl t : Bool) (v : List UInt8) (hv : v.length ≤ 1000) (l : GList) (hl : mayM l = true) (hm : l.mode = 1 ∨ l.mode = 2) :
    S P 0 (ir_fold_Step_c9 g1 g2 g3 g4 g5 g6 g7 g8 g9 g10) (endX [.cell 6 2 true, .tmp 7] (OwnZ (.tup [.agg (cList ((words v).foldl (stepW E fl t) (l, [])).1), .own 0 ((words v).foldl (stepW E fl t) (l, [])).2.length]) [.cells 4 true true (rN ((words v).foldl (stepW E fl t) (l, [])).2)]))
      (mkT [(2, .b fl), (3, .ptr 0 0), (6, .ptr 1 0), (8, .s v), (9, .b t), (10, .i .i64 (wayI t)), (11, .ptr 2 0)])
      (mkH 0 [.cells 0 true false (cList l), .cells 0 true false [.i .u8 0, .nils], .cells 0 true false [.own 3 0], .cells 4 true true []]) := by
  have hwl := words_len v
  refine V_sound ?_
  simp only [ir_fold_Step_c9, cList, argsT, H0, mkT, mkH, trL, List.length_cons, List.length_nil, Nat.reduceAdd, Nat.zero_add]
  simp only [↓vA, ↓vE, ↓vO, ↓vB, ↓vF, ↓vM, ↓vR, ↓vX, cvF_pc, vP, shb, shv, shvs, she_nil, she_cons, vC, vQ, Nat.reduceEqDiff, ↓reduceIte, eq_self, Nat.reduceAdd, Nat.reduceMul, Nat.reduceSub, Nat.reduceLeDiff, Nat.reduceLT, defd, cellsOf, wr, packR, Int.reduceLE, Int.reduceLT, Int.reduceEq, Int.cast_ofNat_Int, Int.reduceToNat]
  refine (h3 v (by omega)).sc ?_
  simp only [↓vA, ↓vE, ↓vO, ↓vB, ↓vF, ↓vM, ↓vR, ↓vX, cvF_pc, vP, shb, shv, shvs, she_nil, she_cons, vC, vQ, Nat.reduceEqDiff, ↓reduceIte, eq_self, Nat.reduceAdd, Nat.reduceMul, Nat.reduceSub, Nat.reduceLeDiff, Nat.reduceLT, defd, cellsOf, wr, packR, Int.reduceLE, Int.reduceLT, Int.reduceEq, Int.cast_ofNat_Int, Int.reduceToNat]
  refine SL.loop (α := Nat) (fun j => [(2, .b fl), (3, .ptr 0 0), (6, .ptr 1 0), (9, .b t), (10, .i .i64 (wayI t)), (11, .ptr 2 0), (46, .fz (words v).length (rS (words v))), (47, .i .i64 (words v).length), (48, .i .i64 j)])
    (fun j => [.cells 0 true false (cList (((words v).take j).foldl (stepW E fl t) (l, [])).1), .cells 0 true false [.i .u8 0, .nils], .cells 0 true false [.own 3 (((words v).take j).foldl (stepW E fl t) (l, [])).2.length], .cells 4 true true (rN (((words v).take j).foldl (stepW E fl t) (l, [])).2)])
    (fun j => j ≤ (words v).length) (fun j => (words v).length - j) 0 [0, 1, 2, 3] ?_ ?_ ?_ rfl ?_ ?_
  · simp [vW, bw_map, mapAt_map, mapClo_it, mapClo_nil, mapClo_cons, vP, vZ, Tr.get_set, rS]
  · simp [vW, bw_map, mapAt_map, mapClo_it, mapClo_nil, mapClo_cons, vP, vZ, Tr.get_set, cList, nvs_self, rN_clos, rC_clos, rN_nil]
  · simp
  · exact Nat.zero_le _
  rintro j hj G ih
  obtain ⟨k1, k2, k3⟩ := stepWs_may hE fl t ((words v).take j) (l, []) hl (by dsimp only; omega)
  have k4 := may_len k1
  dsimp only at k2
  simp only [List.length_take, List.length_nil, Nat.zero_add] at k3
  generalize hr : ((words v).take j).foldl (stepW E fl t) (l, []) = r at k1 k2 k3 k4 ih ⊢
  simp only [argsT, H0, mkT, mkH, trL, List.length_cons, List.length_nil, Nat.reduceAdd, Nat.zero_add]
  by_cases hlt : j < (words v).length
  · have hx : (rS (words v))[j]? = some (.s (words v)[j]) := by rw [rS_get, List.getElem?_eq_getElem hlt]; rfl
    have hwj : IntKind.wrap .i64 ((j : Int) + 1) = ((j + 1 : Nat) : Int) := by rw [wrap64 (by omega) (by omega)]; omega
    have hnext : ((words v).take (j + 1)).foldl (stepW E fl t) (l, []) = stepW E fl t r (words v)[j] := by
      rw [List.take_add_one, List.getElem?_eq_getElem hlt, List.foldl_append, hr]; rfl
    have ih2 := ih (j + 1)
    rw [hnext] at ih2
    have hwd := words_word (List.getElem_mem hlt)
    generalize (words v)[j] = w at hx hnext hwd ih2
    simp only [cList]
    simp only [↓vA, ↓vE, ↓vO, ↓vB, ↓vF, ↓vM, ↓vR, ↓vX, cvF_pc, vP, shb, shv, shvs, she_nil, she_cons, vC, vQ, Nat.reduceEqDiff, ↓reduceIte, eq_self, Nat.reduceAdd, Nat.reduceMul, Nat.reduceSub, Nat.reduceLeDiff, Nat.reduceLT, defd, cellsOf, wr, packR, Int.reduceLE, Int.reduceLT, Int.reduceEq, Int.cast_ofNat_Int, Int.reduceToNat, hlt, hx, Nat.mul_one]
    refine (h6 w (by omega)).sc ?_
    simp only [↓vA, ↓vE, ↓vO, ↓vB, ↓vF, ↓vM, ↓vR, ↓vX, cvF_pc, vP, shb, shv, shvs, she_nil, she_cons, vC, vQ, Nat.reduceEqDiff, ↓reduceIte, eq_self, Nat.reduceAdd, Nat.reduceMul, Nat.reduceSub, Nat.reduceLeDiff, Nat.reduceLT, defd, cellsOf, wr, packR, Int.reduceLE, Int.reduceLT, Int.reduceEq, Int.cast_ofNat_Int, Int.reduceToNat, cWord]
    by_cases e1 : (readM w).2 = 0
    · simp only [↓vA, ↓vE, ↓vO, ↓vB, ↓vF, ↓vM, ↓vR, ↓vX, cvF_pc, vP, shb, shv, shvs, she_nil, she_cons, vC, vQ, Nat.reduceEqDiff, ↓reduceIte, eq_self, Nat.reduceAdd, Nat.reduceMul, Nat.reduceSub, Nat.reduceLeDiff, Nat.reduceLT, defd, cellsOf, wr, packR, Int.reduceLE, Int.reduceLT, Int.reduceEq, Int.cast_ofNat_Int, Int.reduceToNat, e1]
      refine (h7 (readM w).1.name).sc ?_
      by_cases e2 : (memM E (readM w).1.name).2 = 0
      · have hk := memM_ok hE (readM w).1.name
        simp only [↓vA, ↓vE, ↓vO, ↓vB, ↓vF, ↓vM, ↓vR, ↓vX, cvF_pc, vP, shb, shv, shvs, she_nil, she_cons, vC, vQ, Nat.reduceEqDiff, ↓reduceIte, eq_self, Nat.reduceAdd, Nat.reduceMul, Nat.reduceSub, Nat.reduceLeDiff, Nat.reduceLT, defd, cellsOf, wr, packR, Int.reduceLE, Int.reduceLT, Int.reduceEq, Int.cast_ofNat_Int, Int.reduceToNat, e2]
        refine VD_pc ?_
        simp only [↓vA, ↓vE, ↓vO, ↓vB, ↓vF, ↓vM, ↓vR, ↓vX, cvF_pc, vP, shb, shv, shvs, she_nil, she_cons, vC, vQ, Nat.reduceEqDiff, ↓reduceIte, eq_self, Nat.reduceAdd, Nat.reduceMul, Nat.reduceSub, Nat.reduceLeDiff, Nat.reduceLT, defd, cellsOf, wr, packR, Int.reduceLE, Int.reduceLT, Int.reduceEq, Int.cast_ofNat_Int, Int.reduceToNat]
        refine h8.pc ?_
        have hu1 : IntKind.wrap .u8 (1 - 1) = 0 := by decide
        have hu2 : IntKind.wrap .u8 (2 - 1) = 1 := by decide
        have hmode : r.1.mode = 1 ∨ r.1.mode = 2 := by rw [k2]; exact hm
        cases t with
        | true =>
          have hway : wayI true = 1 := rfl
          rcases hmode with hm1 | hm1
          · have hin : decide (r.1.mode - 1 = if true = true then 1 else 0) = false := by rw [hm1]; rfl
            simp only [↓vA, ↓vE, ↓vO, ↓vB, ↓vF, ↓vM, ↓vR, ↓vX, cvF_pc, vP, shb, shv, shvs, she_nil, she_cons, vC, vQ, Nat.reduceEqDiff, ↓reduceIte, eq_self, Nat.reduceAdd, Nat.reduceMul, Nat.reduceSub, Nat.reduceLeDiff, Nat.reduceLT, defd, cellsOf, wr, packR, Int.reduceLE, Int.reduceLT, Int.reduceEq, Int.cast_ofNat_Int, Int.reduceToNat, hm1, hway, hu1, hu2, List.drop_succ_cons, List.drop_zero, List.take_succ_cons, List.take_zero, List.getElem?_cons_zero, List.getElem?_cons_succ]
            cases hh : (readM w).1.has with
            | false =>
              have hs : stepW E fl true r w = ((memM E (readM w).1.name).1.foldl (stepN false (readM w).1.act) r.1, r.2) := by
                unfold stepW; rw [if_neg (by simp [e1]), if_neg (by simp [e2]), if_pos hh, hin]
              rw [hs] at ih2
              simp only [↓vA, ↓vE, ↓vO, ↓vB, ↓vF, ↓vM, ↓vR, ↓vX, cvF_pc, vP, shb, shv, shvs, she_nil, she_cons, vC, vQ, Nat.reduceEqDiff, ↓reduceIte, eq_self, Nat.reduceAdd, Nat.reduceMul, Nat.reduceSub, Nat.reduceLeDiff, Nat.reduceLT, defd, cellsOf, wr, packR, Int.reduceLE, Int.reduceLT, Int.reduceEq, Int.cast_ofNat_Int, Int.reduceToNat]
              refine S.weak (Wk.mk _ _ [0, 1, 2, 3, 5] ?_ ?_ ?_ rfl) (step_in h9 h10 fl true false (wayI true) (words v) (memM E (readM w).1.name).1 j r.1 (readM w).1 w r.2 (by omega) (by omega) k1 (by omega) hk.1 (readM_act w) _ ?_)
              · simp [vW, bw_map, mapAt_map, mapClo_it, mapClo_nil, mapClo_cons, vP, vZ, Tr.get_set, hh, hm1]
              · simp [vW, bw_map, mapAt_map, mapClo_it, mapClo_nil, mapClo_cons, vP, vZ, Tr.get_set, cList, nvs_self, rN_clos, rC_clos, cWord, hh, hm1]
              · simp
              · intro t' h' hw
                simp only [↓vA, ↓vE, ↓vO, ↓vB, ↓vF, ↓vM, ↓vR, ↓vX, cvF_pc, vP, shb, shv, shvs, she_nil, she_cons, vC, vQ, Nat.reduceEqDiff, ↓reduceIte, eq_self, Nat.reduceAdd, Nat.reduceMul, Nat.reduceSub, Nat.reduceLeDiff, Nat.reduceLT, defd, cellsOf, wr, packR, Int.reduceLE, Int.reduceLT, Int.reduceEq, Int.cast_ofNat_Int, Int.reduceToNat]
                exact S.weak hw (step_up fl true (wayI true) (words v) j (by omega) _ _ _ (fun t'' h'' hw' => ih2 (by omega) (by omega) t'' h'' hw'))
            | true =>
              cases fl with
              | false =>
                have hs : stepW E false true r w = ((memM E (readM w).1.name).1.foldl (stepN false 0) r.1, r.2 ++ [noteW 161 w]) := by
                  unfold stepW; rw [if_neg (by simp [e1]), if_neg (by simp [e2]), if_neg (by simp [hh]), if_pos (by decide), hin]
                rw [hs] at ih2
                simp only [↓vA, ↓vE, ↓vO, ↓vB, ↓vF, ↓vM, ↓vR, ↓vX, cvF_pc, vP, shb, shv, shvs, she_nil, she_cons, vC, vQ, Nat.reduceEqDiff, ↓reduceIte, eq_self, Nat.reduceAdd, Nat.reduceMul, Nat.reduceSub, Nat.reduceLeDiff, Nat.reduceLT, defd, cellsOf, wr, packR, Int.reduceLE, Int.reduceLT, Int.reduceEq, Int.cast_ofNat_Int, Int.reduceToNat]
                refine (h5 r.2 161 w (by simp only [roomB]; omega)).sc (vs := [.i .i64 161, .ptr 0 0, .ptr 1 0]) [2, 4, 3] (Lent.of (by decide) ?_) ?_
                · simp [lent_cons, lent_nil, pushs_cons, pushs_nil, push_mk, shb, shv, shvs, bnds, bnd, rnvs, rnv, gAt, vW, bw_map, mapAt_map, mapClo_it, mapClo_nil, mapClo_cons, vP, vZ, Tr.get_set, bnds_clo rN_clos, rnvs_clo rN_clos, bnd_clo, clo, rnv_clo]
                simp only [backH, List.cons_append, List.nil_append, List.length_cons, List.length_nil, Nat.zero_add, Nat.reduceAdd, List.take_succ_cons, List.take_zero, List.drop_succ_cons, List.drop_zero, List.map_cons, List.map_nil, rnb, rnvs, rnv, gAt, Nat.reduceLT, ↓reduceIte, List.getD_cons_zero, List.getD_cons_succ, Nat.reduceSub, puts_cons, puts_nil, pushs_cons, pushs_nil, hput_mk, push_mk, rnvs_clo rN_clos, rnv_clo, clo]
                simp only [↓vA, ↓vE, ↓vO, ↓vB, ↓vF, ↓vM, ↓vR, ↓vX, cvF_pc, vP, shb, shv, shvs, she_nil, she_cons, vC, vQ, Nat.reduceEqDiff, ↓reduceIte, eq_self, Nat.reduceAdd, Nat.reduceMul, Nat.reduceSub, Nat.reduceLeDiff, Nat.reduceLT, defd, cellsOf, wr, packR, Int.reduceLE, Int.reduceLT, Int.reduceEq, Int.cast_ofNat_Int, Int.reduceToNat]
                refine S.weak (Wk.mk _ _ [0, 1, 2, 6, 5] ?_ ?_ ?_ rfl) (step_in h9 h10 false true false (wayI true) (words v) (memM E (readM w).1.name).1 j r.1 ⟨(readM w).1.name, 0, (readM w).1.has⟩ w (r.2 ++ [noteW 161 w]) (by omega) (by omega) k1 (by omega) hk.1 rfl _ ?_)
                · simp [vW, bw_map, mapAt_map, mapClo_it, mapClo_nil, mapClo_cons, vP, vZ, Tr.get_set, hh, hm1]
                · simp [vW, bw_map, mapAt_map, mapClo_it, mapClo_nil, mapClo_cons, vP, vZ, Tr.get_set, cList, nvs_self, rN_clos, rC_clos, cWord, hh, hm1]
                · simp
                · intro t' h' hw
                  simp only [↓vA, ↓vE, ↓vO, ↓vB, ↓vF, ↓vM, ↓vR, ↓vX, cvF_pc, vP, shb, shv, shvs, she_nil, she_cons, vC, vQ, Nat.reduceEqDiff, ↓reduceIte, eq_self, Nat.reduceAdd, Nat.reduceMul, Nat.reduceSub, Nat.reduceLeDiff, Nat.reduceLT, defd, cellsOf, wr, packR, Int.reduceLE, Int.reduceLT, Int.reduceEq, Int.cast_ofNat_Int, Int.reduceToNat]
                  exact S.weak hw (step_up false true (wayI true) (words v) j (by omega) _ _ _ (fun t'' h'' hw' => ih2 (by omega) (by omega) t'' h'' hw'))
              | true =>
                have hs : stepW E true true r w = ((memM E (readM w).1.name).1.foldl (stepN true (readM w).1.act) r.1, r.2) := by
                  unfold stepW; rw [if_neg (by simp [e1]), if_neg (by simp [e2]), if_neg (by simp [hh]), if_neg (by decide)]
                rw [hs] at ih2
                simp only [↓vA, ↓vE, ↓vO, ↓vB, ↓vF, ↓vM, ↓vR, ↓vX, cvF_pc, vP, shb, shv, shvs, she_nil, she_cons, vC, vQ, Nat.reduceEqDiff, ↓reduceIte, eq_self, Nat.reduceAdd, Nat.reduceMul, Nat.reduceSub, Nat.reduceLeDiff, Nat.reduceLT, defd, cellsOf, wr, packR, Int.reduceLE, Int.reduceLT, Int.reduceEq, Int.cast_ofNat_Int, Int.reduceToNat]
                refine S.weak (Wk.mk _ _ [0, 1, 2, 3, 5] ?_ ?_ ?_ rfl) (step_in h9 h10 true true true (wayI true) (words v) (memM E (readM w).1.name).1 j r.1 (readM w).1 w r.2 (by omega) (by omega) k1 (by omega) hk.1 (readM_act w) _ ?_)
                · simp [vW, bw_map, mapAt_map, mapClo_it, mapClo_nil, mapClo_cons, vP, vZ, Tr.get_set, hh, hm1]
                · simp [vW, bw_map, mapAt_map, mapClo_it, mapClo_nil, mapClo_cons, vP, vZ, Tr.get_set, cList, nvs_self, rN_clos, rC_clos, cWord, hh, hm1]
                · simp
                · intro t' h' hw
                  simp only [↓vA, ↓vE, ↓vO, ↓vB, ↓vF, ↓vM, ↓vR, ↓vX, cvF_pc, vP, shb, shv, shvs, she_nil, she_cons, vC, vQ, Nat.reduceEqDiff, ↓reduceIte, eq_self, Nat.reduceAdd, Nat.reduceMul, Nat.reduceSub, Nat.reduceLeDiff, Nat.reduceLT, defd, cellsOf, wr, packR, Int.reduceLE, Int.reduceLT, Int.reduceEq, Int.cast_ofNat_Int, Int.reduceToNat]
                  exact S.weak hw (step_up true true (wayI true) (words v) j (by omega) _ _ _ (fun t'' h'' hw' => ih2 (by omega) (by omega) t'' h'' hw'))
          · have hin : decide (r.1.mode - 1 = if true = true then 1 else 0) = true := by rw [hm1]; rfl
            simp only [↓vA, ↓vE, ↓vO, ↓vB, ↓vF, ↓vM, ↓vR, ↓vX, cvF_pc, vP, shb, shv, shvs, she_nil, she_cons, vC, vQ, Nat.reduceEqDiff, ↓reduceIte, eq_self, Nat.reduceAdd, Nat.reduceMul, Nat.reduceSub, Nat.reduceLeDiff, Nat.reduceLT, defd, cellsOf, wr, packR, Int.reduceLE, Int.reduceLT, Int.reduceEq, Int.cast_ofNat_Int, Int.reduceToNat, hm1, hway, hu1, hu2, List.drop_succ_cons, List.drop_zero, List.take_succ_cons, List.take_zero, List.getElem?_cons_zero, List.getElem?_cons_succ]
            cases hh : (readM w).1.has with
            | false =>
              have hs : stepW E fl true r w = ((memM E (readM w).1.name).1.foldl (stepN true (readM w).1.act) r.1, r.2) := by
                unfold stepW; rw [if_neg (by simp [e1]), if_neg (by simp [e2]), if_pos hh, hin]
              rw [hs] at ih2
              simp only [↓vA, ↓vE, ↓vO, ↓vB, ↓vF, ↓vM, ↓vR, ↓vX, cvF_pc, vP, shb, shv, shvs, she_nil, she_cons, vC, vQ, Nat.reduceEqDiff, ↓reduceIte, eq_self, Nat.reduceAdd, Nat.reduceMul, Nat.reduceSub, Nat.reduceLeDiff, Nat.reduceLT, defd, cellsOf, wr, packR, Int.reduceLE, Int.reduceLT, Int.reduceEq, Int.cast_ofNat_Int, Int.reduceToNat]
              refine S.weak (Wk.mk _ _ [0, 1, 2, 3, 5] ?_ ?_ ?_ rfl) (step_in h9 h10 fl true true (wayI true) (words v) (memM E (readM w).1.name).1 j r.1 (readM w).1 w r.2 (by omega) (by omega) k1 (by omega) hk.1 (readM_act w) _ ?_)
              · simp [vW, bw_map, mapAt_map, mapClo_it, mapClo_nil, mapClo_cons, vP, vZ, Tr.get_set, hh, hm1]
              · simp [vW, bw_map, mapAt_map, mapClo_it, mapClo_nil, mapClo_cons, vP, vZ, Tr.get_set, cList, nvs_self, rN_clos, rC_clos, cWord, hh, hm1]
              · simp
              · intro t' h' hw
                simp only [↓vA, ↓vE, ↓vO, ↓vB, ↓vF, ↓vM, ↓vR, ↓vX, cvF_pc, vP, shb, shv, shvs, she_nil, she_cons, vC, vQ, Nat.reduceEqDiff, ↓reduceIte, eq_self, Nat.reduceAdd, Nat.reduceMul, Nat.reduceSub, Nat.reduceLeDiff, Nat.reduceLT, defd, cellsOf, wr, packR, Int.reduceLE, Int.reduceLT, Int.reduceEq, Int.cast_ofNat_Int, Int.reduceToNat]
                exact S.weak hw (step_up fl true (wayI true) (words v) j (by omega) _ _ _ (fun t'' h'' hw' => ih2 (by omega) (by omega) t'' h'' hw'))
            | true =>
              cases fl with
              | false =>
                have hs : stepW E false true r w = ((memM E (readM w).1.name).1.foldl (stepN true 0) r.1, r.2 ++ [noteW 161 w]) := by
                  unfold stepW; rw [if_neg (by simp [e1]), if_neg (by simp [e2]), if_neg (by simp [hh]), if_pos (by decide), hin]
                rw [hs] at ih2
                simp only [↓vA, ↓vE, ↓vO, ↓vB, ↓vF, ↓vM, ↓vR, ↓vX, cvF_pc, vP, shb, shv, shvs, she_nil, she_cons, vC, vQ, Nat.reduceEqDiff, ↓reduceIte, eq_self, Nat.reduceAdd, Nat.reduceMul, Nat.reduceSub, Nat.reduceLeDiff, Nat.reduceLT, defd, cellsOf, wr, packR, Int.reduceLE, Int.reduceLT, Int.reduceEq, Int.cast_ofNat_Int, Int.reduceToNat]
                refine (h5 r.2 161 w (by simp only [roomB]; omega)).sc (vs := [.i .i64 161, .ptr 0 0, .ptr 1 0]) [2, 4, 3] (Lent.of (by decide) ?_) ?_
                · simp [lent_cons, lent_nil, pushs_cons, pushs_nil, push_mk, shb, shv, shvs, bnds, bnd, rnvs, rnv, gAt, vW, bw_map, mapAt_map, mapClo_it, mapClo_nil, mapClo_cons, vP, vZ, Tr.get_set, bnds_clo rN_clos, rnvs_clo rN_clos, bnd_clo, clo, rnv_clo]
                simp only [backH, List.cons_append, List.nil_append, List.length_cons, List.length_nil, Nat.zero_add, Nat.reduceAdd, List.take_succ_cons, List.take_zero, List.drop_succ_cons, List.drop_zero, List.map_cons, List.map_nil, rnb, rnvs, rnv, gAt, Nat.reduceLT, ↓reduceIte, List.getD_cons_zero, List.getD_cons_succ, Nat.reduceSub, puts_cons, puts_nil, pushs_cons, pushs_nil, hput_mk, push_mk, rnvs_clo rN_clos, rnv_clo, clo]
                simp only [↓vA, ↓vE, ↓vO, ↓vB, ↓vF, ↓vM, ↓vR, ↓vX, cvF_pc, vP, shb, shv, shvs, she_nil, she_cons, vC, vQ, Nat.reduceEqDiff, ↓reduceIte, eq_self, Nat.reduceAdd, Nat.reduceMul, Nat.reduceSub, Nat.reduceLeDiff, Nat.reduceLT, defd, cellsOf, wr, packR, Int.reduceLE, Int.reduceLT, Int.reduceEq, Int.cast_ofNat_Int, Int.reduceToNat]
                refine S.weak (Wk.mk _ _ [0, 1, 2, 6, 5] ?_ ?_ ?_ rfl) (step_in h9 h10 false true true (wayI true) (words v) (memM E (readM w).1.name).1 j r.1 ⟨(readM w).1.name, 0, (readM w).1.has⟩ w (r.2 ++ [noteW 161 w]) (by omega) (by omega) k1 (by omega) hk.1 rfl _ ?_)
                · simp [vW, bw_map, mapAt_map, mapClo_it, mapClo_nil, mapClo_cons, vP, vZ, Tr.get_set, hh, hm1]
                · simp [vW, bw_map, mapAt_map, mapClo_it, mapClo_nil, mapClo_cons, vP, vZ, Tr.get_set, cList, nvs_self, rN_clos, rC_clos, cWord, hh, hm1]
                · simp
                · intro t' h' hw
                  simp only [↓vA, ↓vE, ↓vO, ↓vB, ↓vF, ↓vM, ↓vR, ↓vX, cvF_pc, vP, shb, shv, shvs, she_nil, she_cons, vC, vQ, Nat.reduceEqDiff, ↓reduceIte, eq_self, Nat.reduceAdd, Nat.reduceMul, Nat.reduceSub, Nat.reduceLeDiff, Nat.reduceLT, defd, cellsOf, wr, packR, Int.reduceLE, Int.reduceLT, Int.reduceEq, Int.cast_ofNat_Int, Int.reduceToNat]
                  exact S.weak hw (step_up false true (wayI true) (words v) j (by omega) _ _ _ (fun t'' h'' hw' => ih2 (by omega) (by omega) t'' h'' hw'))
              | true =>
                have hs : stepW E true true r w = ((memM E (readM w).1.name).1.foldl (stepN true (readM w).1.act) r.1, r.2) := by
                  unfold stepW; rw [if_neg (by simp [e1]), if_neg (by simp [e2]), if_neg (by simp [hh]), if_neg (by decide)]
                rw [hs] at ih2
                simp only [↓vA, ↓vE, ↓vO, ↓vB, ↓vF, ↓vM, ↓vR, ↓vX, cvF_pc, vP, shb, shv, shvs, she_nil, she_cons, vC, vQ, Nat.reduceEqDiff, ↓reduceIte, eq_self, Nat.reduceAdd, Nat.reduceMul, Nat.reduceSub, Nat.reduceLeDiff, Nat.reduceLT, defd, cellsOf, wr, packR, Int.reduceLE, Int.reduceLT, Int.reduceEq, Int.cast_ofNat_Int, Int.reduceToNat]
                refine S.weak (Wk.mk _ _ [0, 1, 2, 3, 5] ?_ ?_ ?_ rfl) (step_in h9 h10 true true true (wayI true) (words v) (memM E (readM w).1.name).1 j r.1 (readM w).1 w r.2 (by omega) (by omega) k1 (by omega) hk.1 (readM_act w) _ ?_)
                · simp [vW, bw_map, mapAt_map, mapClo_it, mapClo_nil, mapClo_cons, vP, vZ, Tr.get_set, hh, hm1]
                · simp [vW, bw_map, mapAt_map, mapClo_it, mapClo_nil, mapClo_cons, vP, vZ, Tr.get_set, cList, nvs_self, rN_clos, rC_clos, cWord, hh, hm1]
                · simp
                · intro t' h' hw
                  simp only [↓vA, ↓vE, ↓vO, ↓vB, ↓vF, ↓vM, ↓vR, ↓vX, cvF_pc, vP, shb, shv, shvs, she_nil, she_cons, vC, vQ, Nat.reduceEqDiff, ↓reduceIte, eq_self, Nat.reduceAdd, Nat.reduceMul, Nat.reduceSub, Nat.reduceLeDiff, Nat.reduceLT, defd, cellsOf, wr, packR, Int.reduceLE, Int.reduceLT, Int.reduceEq, Int.cast_ofNat_Int, Int.reduceToNat]
                  exact S.weak hw (step_up true true (wayI true) (words v) j (by omega) _ _ _ (fun t'' h'' hw' => ih2 (by omega) (by omega) t'' h'' hw'))
        | false =>
          have hway : wayI false = 0 := rfl
          rcases hmode with hm1 | hm1
          · have hin : decide (r.1.mode - 1 = if false = true then 1 else 0) = true := by rw [hm1]; rfl
            simp only [↓vA, ↓vE, ↓vO, ↓vB, ↓vF, ↓vM, ↓vR, ↓vX, cvF_pc, vP, shb, shv, shvs, she_nil, she_cons, vC, vQ, Nat.reduceEqDiff, ↓reduceIte, eq_self, Nat.reduceAdd, Nat.reduceMul, Nat.reduceSub, Nat.reduceLeDiff, Nat.reduceLT, defd, cellsOf, wr, packR, Int.reduceLE, Int.reduceLT, Int.reduceEq, Int.cast_ofNat_Int, Int.reduceToNat, hm1, hway, hu1, hu2, List.drop_succ_cons, List.drop_zero, List.take_succ_cons, List.take_zero, List.getElem?_cons_zero, List.getElem?_cons_succ]
            cases hh : (readM w).1.has with
            | false =>
              have hs : stepW E fl false r w = ((memM E (readM w).1.name).1.foldl (stepN true (readM w).1.act) r.1, r.2) := by
                unfold stepW; rw [if_neg (by simp [e1]), if_neg (by simp [e2]), if_pos hh, hin]
              rw [hs] at ih2
              simp only [↓vA, ↓vE, ↓vO, ↓vB, ↓vF, ↓vM, ↓vR, ↓vX, cvF_pc, vP, shb, shv, shvs, she_nil, she_cons, vC, vQ, Nat.reduceEqDiff, ↓reduceIte, eq_self, Nat.reduceAdd, Nat.reduceMul, Nat.reduceSub, Nat.reduceLeDiff, Nat.reduceLT, defd, cellsOf, wr, packR, Int.reduceLE, Int.reduceLT, Int.reduceEq, Int.cast_ofNat_Int, Int.reduceToNat]
              refine S.weak (Wk.mk _ _ [0, 1, 2, 3, 5] ?_ ?_ ?_ rfl) (step_in h9 h10 fl false true (wayI false) (words v) (memM E (readM w).1.name).1 j r.1 (readM w).1 w r.2 (by omega) (by omega) k1 (by omega) hk.1 (readM_act w) _ ?_)
              · simp [vW, bw_map, mapAt_map, mapClo_it, mapClo_nil, mapClo_cons, vP, vZ, Tr.get_set, hh, hm1]
              · simp [vW, bw_map, mapAt_map, mapClo_it, mapClo_nil, mapClo_cons, vP, vZ, Tr.get_set, cList, nvs_self, rN_clos, rC_clos, cWord, hh, hm1]
              · simp
              · intro t' h' hw
                simp only [↓vA, ↓vE, ↓vO, ↓vB, ↓vF, ↓vM, ↓vR, ↓vX, cvF_pc, vP, shb, shv, shvs, she_nil, she_cons, vC, vQ, Nat.reduceEqDiff, ↓reduceIte, eq_self, Nat.reduceAdd, Nat.reduceMul, Nat.reduceSub, Nat.reduceLeDiff, Nat.reduceLT, defd, cellsOf, wr, packR, Int.reduceLE, Int.reduceLT, Int.reduceEq, Int.cast_ofNat_Int, Int.reduceToNat]
                exact S.weak hw (step_up fl false (wayI false) (words v) j (by omega) _ _ _ (fun t'' h'' hw' => ih2 (by omega) (by omega) t'' h'' hw'))
            | true =>
              cases fl with
              | false =>
                have hs : stepW E false false r w = ((memM E (readM w).1.name).1.foldl (stepN true 0) r.1, r.2 ++ [noteW 161 w]) := by
                  unfold stepW; rw [if_neg (by simp [e1]), if_neg (by simp [e2]), if_neg (by simp [hh]), if_pos (by decide), hin]
                rw [hs] at ih2
                simp only [↓vA, ↓vE, ↓vO, ↓vB, ↓vF, ↓vM, ↓vR, ↓vX, cvF_pc, vP, shb, shv, shvs, she_nil, she_cons, vC, vQ, Nat.reduceEqDiff, ↓reduceIte, eq_self, Nat.reduceAdd, Nat.reduceMul, Nat.reduceSub, Nat.reduceLeDiff, Nat.reduceLT, defd, cellsOf, wr, packR, Int.reduceLE, Int.reduceLT, Int.reduceEq, Int.cast_ofNat_Int, Int.reduceToNat]
                refine (h5 r.2 161 w (by simp only [roomB]; omega)).sc (vs := [.i .i64 161, .ptr 0 0, .ptr 1 0]) [2, 4, 3] (Lent.of (by decide) ?_) ?_
                · simp [lent_cons, lent_nil, pushs_cons, pushs_nil, push_mk, shb, shv, shvs, bnds, bnd, rnvs, rnv, gAt, vW, bw_map, mapAt_map, mapClo_it, mapClo_nil, mapClo_cons, vP, vZ, Tr.get_set, bnds_clo rN_clos, rnvs_clo rN_clos, bnd_clo, clo, rnv_clo]
                simp only [backH, List.cons_append, List.nil_append, List.length_cons, List.length_nil, Nat.zero_add, Nat.reduceAdd, List.take_succ_cons, List.take_zero, List.drop_succ_cons, List.drop_zero, List.map_cons, List.map_nil, rnb, rnvs, rnv, gAt, Nat.reduceLT, ↓reduceIte, List.getD_cons_zero, List.getD_cons_succ, Nat.reduceSub, puts_cons, puts_nil, pushs_cons, pushs_nil, hput_mk, push_mk, rnvs_clo rN_clos, rnv_clo, clo]
                simp only [↓vA, ↓vE, ↓vO, ↓vB, ↓vF, ↓vM, ↓vR, ↓vX, cvF_pc, vP, shb, shv, shvs, she_nil, she_cons, vC, vQ, Nat.reduceEqDiff, ↓reduceIte, eq_self, Nat.reduceAdd, Nat.reduceMul, Nat.reduceSub, Nat.reduceLeDiff, Nat.reduceLT, defd, cellsOf, wr, packR, Int.reduceLE, Int.reduceLT, Int.reduceEq, Int.cast_ofNat_Int, Int.reduceToNat]
                refine S.weak (Wk.mk _ _ [0, 1, 2, 6, 5] ?_ ?_ ?_ rfl) (step_in h9 h10 false false true (wayI false) (words v) (memM E (readM w).1.name).1 j r.1 ⟨(readM w).1.name, 0, (readM w).1.has⟩ w (r.2 ++ [noteW 161 w]) (by omega) (by omega) k1 (by omega) hk.1 rfl _ ?_)
                · simp [vW, bw_map, mapAt_map, mapClo_it, mapClo_nil, mapClo_cons, vP, vZ, Tr.get_set, hh, hm1]
                · simp [vW, bw_map, mapAt_map, mapClo_it, mapClo_nil, mapClo_cons, vP, vZ, Tr.get_set, cList, nvs_self, rN_clos, rC_clos, cWord, hh, hm1]
                · simp
                · intro t' h' hw
                  simp only [↓vA, ↓vE, ↓vO, ↓vB, ↓vF, ↓vM, ↓vR, ↓vX, cvF_pc, vP, shb, shv, shvs, she_nil, she_cons, vC, vQ, Nat.reduceEqDiff, ↓reduceIte, eq_self, Nat.reduceAdd, Nat.reduceMul, Nat.reduceSub, Nat.reduceLeDiff, Nat.reduceLT, defd, cellsOf, wr, packR, Int.reduceLE, Int.reduceLT, Int.reduceEq, Int.cast_ofNat_Int, Int.reduceToNat]
                  exact S.weak hw (step_up false false (wayI false) (words v) j (by omega) _ _ _ (fun t'' h'' hw' => ih2 (by omega) (by omega) t'' h'' hw'))
              | true =>
                have hs : stepW E true false r w = ((memM E (readM w).1.name).1.foldl (stepN true 0) r.1, r.2 ++ [noteW 161 w]) := by
                  unfold stepW; rw [if_neg (by simp [e1]), if_neg (by simp [e2]), if_neg (by simp [hh]), if_pos (by decide), hin]
                rw [hs] at ih2
                simp only [↓vA, ↓vE, ↓vO, ↓vB, ↓vF, ↓vM, ↓vR, ↓vX, cvF_pc, vP, shb, shv, shvs, she_nil, she_cons, vC, vQ, Nat.reduceEqDiff, ↓reduceIte, eq_self, Nat.reduceAdd, Nat.reduceMul, Nat.reduceSub, Nat.reduceLeDiff, Nat.reduceLT, defd, cellsOf, wr, packR, Int.reduceLE, Int.reduceLT, Int.reduceEq, Int.cast_ofNat_Int, Int.reduceToNat]
                refine (h5 r.2 161 w (by simp only [roomB]; omega)).sc (vs := [.i .i64 161, .ptr 0 0, .ptr 1 0]) [2, 4, 3] (Lent.of (by decide) ?_) ?_
                · simp [lent_cons, lent_nil, pushs_cons, pushs_nil, push_mk, shb, shv, shvs, bnds, bnd, rnvs, rnv, gAt, vW, bw_map, mapAt_map, mapClo_it, mapClo_nil, mapClo_cons, vP, vZ, Tr.get_set, bnds_clo rN_clos, rnvs_clo rN_clos, bnd_clo, clo, rnv_clo]
                simp only [backH, List.cons_append, List.nil_append, List.length_cons, List.length_nil, Nat.zero_add, Nat.reduceAdd, List.take_succ_cons, List.take_zero, List.drop_succ_cons, List.drop_zero, List.map_cons, List.map_nil, rnb, rnvs, rnv, gAt, Nat.reduceLT, ↓reduceIte, List.getD_cons_zero, List.getD_cons_succ, Nat.reduceSub, puts_cons, puts_nil, pushs_cons, pushs_nil, hput_mk, push_mk, rnvs_clo rN_clos, rnv_clo, clo]
                simp only [↓vA, ↓vE, ↓vO, ↓vB, ↓vF, ↓vM, ↓vR, ↓vX, cvF_pc, vP, shb, shv, shvs, she_nil, she_cons, vC, vQ, Nat.reduceEqDiff, ↓reduceIte, eq_self, Nat.reduceAdd, Nat.reduceMul, Nat.reduceSub, Nat.reduceLeDiff, Nat.reduceLT, defd, cellsOf, wr, packR, Int.reduceLE, Int.reduceLT, Int.reduceEq, Int.cast_ofNat_Int, Int.reduceToNat]
                refine S.weak (Wk.mk _ _ [0, 1, 2, 6, 5] ?_ ?_ ?_ rfl) (step_in h9 h10 true false true (wayI false) (words v) (memM E (readM w).1.name).1 j r.1 ⟨(readM w).1.name, 0, (readM w).1.has⟩ w (r.2 ++ [noteW 161 w]) (by omega) (by omega) k1 (by omega) hk.1 rfl _ ?_)
                · simp [vW, bw_map, mapAt_map, mapClo_it, mapClo_nil, mapClo_cons, vP, vZ, Tr.get_set, hh, hm1]
                · simp [vW, bw_map, mapAt_map, mapClo_it, mapClo_nil, mapClo_cons, vP, vZ, Tr.get_set, cList, nvs_self, rN_clos, rC_clos, cWord, hh, hm1]
                · simp
                · intro t' h' hw
                  simp only [↓vA, ↓vE, ↓vO, ↓vB, ↓vF, ↓vM, ↓vR, ↓vX, cvF_pc, vP, shb, shv, shvs, she_nil, she_cons, vC, vQ, Nat.reduceEqDiff, ↓reduceIte, eq_self, Nat.reduceAdd, Nat.reduceMul, Nat.reduceSub, Nat.reduceLeDiff, Nat.reduceLT, defd, cellsOf, wr, packR, Int.reduceLE, Int.reduceLT, Int.reduceEq, Int.cast_ofNat_Int, Int.reduceToNat]
                  exact S.weak hw (step_up true false (wayI false) (words v) j (by omega) _ _ _ (fun t'' h'' hw' => ih2 (by omega) (by omega) t'' h'' hw'))
          · have hin : decide (r.1.mode - 1 = if false = true then 1 else 0) = false := by rw [hm1]; rfl
            simp only [↓vA, ↓vE, ↓vO, ↓vB, ↓vF, ↓vM, ↓vR, ↓vX, cvF_pc, vP, shb, shv, shvs, she_nil, she_cons, vC, vQ, Nat.reduceEqDiff, ↓reduceIte, eq_self, Nat.reduceAdd, Nat.reduceMul, Nat.reduceSub, Nat.reduceLeDiff, Nat.reduceLT, defd, cellsOf, wr, packR, Int.reduceLE, Int.reduceLT, Int.reduceEq, Int.cast_ofNat_Int, Int.reduceToNat, hm1, hway, hu1, hu2, List.drop_succ_cons, List.drop_zero, List.take_succ_cons, List.take_zero, List.getElem?_cons_zero, List.getElem?_cons_succ]
            cases hh : (readM w).1.has with
            | false =>
              have hs : stepW E fl false r w = ((memM E (readM w).1.name).1.foldl (stepN false (readM w).1.act) r.1, r.2) := by
                unfold stepW; rw [if_neg (by simp [e1]), if_neg (by simp [e2]), if_pos hh, hin]
              rw [hs] at ih2
              simp only [↓vA, ↓vE, ↓vO, ↓vB, ↓vF, ↓vM, ↓vR, ↓vX, cvF_pc, vP, shb, shv, shvs, she_nil, she_cons, vC, vQ, Nat.reduceEqDiff, ↓reduceIte, eq_self, Nat.reduceAdd, Nat.reduceMul, Nat.reduceSub, Nat.reduceLeDiff, Nat.reduceLT, defd, cellsOf, wr, packR, Int.reduceLE, Int.reduceLT, Int.reduceEq, Int.cast_ofNat_Int, Int.reduceToNat]
              refine S.weak (Wk.mk _ _ [0, 1, 2, 3, 5] ?_ ?_ ?_ rfl) (step_in h9 h10 fl false false (wayI false) (words v) (memM E (readM w).1.name).1 j r.1 (readM w).1 w r.2 (by omega) (by omega) k1 (by omega) hk.1 (readM_act w) _ ?_)
              · simp [vW, bw_map, mapAt_map, mapClo_it, mapClo_nil, mapClo_cons, vP, vZ, Tr.get_set, hh, hm1]
              · simp [vW, bw_map, mapAt_map, mapClo_it, mapClo_nil, mapClo_cons, vP, vZ, Tr.get_set, cList, nvs_self, rN_clos, rC_clos, cWord, hh, hm1]
              · simp
              · intro t' h' hw
                simp only [↓vA, ↓vE, ↓vO, ↓vB, ↓vF, ↓vM, ↓vR, ↓vX, cvF_pc, vP, shb, shv, shvs, she_nil, she_cons, vC, vQ, Nat.reduceEqDiff, ↓reduceIte, eq_self, Nat.reduceAdd, Nat.reduceMul, Nat.reduceSub, Nat.reduceLeDiff, Nat.reduceLT, defd, cellsOf, wr, packR, Int.reduceLE, Int.reduceLT, Int.reduceEq, Int.cast_ofNat_Int, Int.reduceToNat]
                exact S.weak hw (step_up fl false (wayI false) (words v) j (by omega) _ _ _ (fun t'' h'' hw' => ih2 (by omega) (by omega) t'' h'' hw'))
            | true =>
              cases fl with
              | false =>
                have hs : stepW E false false r w = ((memM E (readM w).1.name).1.foldl (stepN false 0) r.1, r.2 ++ [noteW 161 w]) := by
                  unfold stepW; rw [if_neg (by simp [e1]), if_neg (by simp [e2]), if_neg (by simp [hh]), if_pos (by decide), hin]
                rw [hs] at ih2
                simp only [↓vA, ↓vE, ↓vO, ↓vB, ↓vF, ↓vM, ↓vR, ↓vX, cvF_pc, vP, shb, shv, shvs, she_nil, she_cons, vC, vQ, Nat.reduceEqDiff, ↓reduceIte, eq_self, Nat.reduceAdd, Nat.reduceMul, Nat.reduceSub, Nat.reduceLeDiff, Nat.reduceLT, defd, cellsOf, wr, packR, Int.reduceLE, Int.reduceLT, Int.reduceEq, Int.cast_ofNat_Int, Int.reduceToNat]
                refine (h5 r.2 161 w (by simp only [roomB]; omega)).sc (vs := [.i .i64 161, .ptr 0 0, .ptr 1 0]) [2, 4, 3] (Lent.of (by decide) ?_) ?_
                · simp [lent_cons, lent_nil, pushs_cons, pushs_nil, push_mk, shb, shv, shvs, bnds, bnd, rnvs, rnv, gAt, vW, bw_map, mapAt_map, mapClo_it, mapClo_nil, mapClo_cons, vP, vZ, Tr.get_set, bnds_clo rN_clos, rnvs_clo rN_clos, bnd_clo, clo, rnv_clo]
                simp only [backH, List.cons_append, List.nil_append, List.length_cons, List.length_nil, Nat.zero_add, Nat.reduceAdd, List.take_succ_cons, List.take_zero, List.drop_succ_cons, List.drop_zero, List.map_cons, List.map_nil, rnb, rnvs, rnv, gAt, Nat.reduceLT, ↓reduceIte, List.getD_cons_zero, List.getD_cons_succ, Nat.reduceSub, puts_cons, puts_nil, pushs_cons, pushs_nil, hput_mk, push_mk, rnvs_clo rN_clos, rnv_clo, clo]
                simp only [↓vA, ↓vE, ↓vO, ↓vB, ↓vF, ↓vM, ↓vR, ↓vX, cvF_pc, vP, shb, shv, shvs, she_nil, she_cons, vC, vQ, Nat.reduceEqDiff, ↓reduceIte, eq_self, Nat.reduceAdd, Nat.reduceMul, Nat.reduceSub, Nat.reduceLeDiff, Nat.reduceLT, defd, cellsOf, wr, packR, Int.reduceLE, Int.reduceLT, Int.reduceEq, Int.cast_ofNat_Int, Int.reduceToNat]
                refine S.weak (Wk.mk _ _ [0, 1, 2, 6, 5] ?_ ?_ ?_ rfl) (step_in h9 h10 false false false (wayI false) (words v) (memM E (readM w).1.name).1 j r.1 ⟨(readM w).1.name, 0, (readM w).1.has⟩ w (r.2 ++ [noteW 161 w]) (by omega) (by omega) k1 (by omega) hk.1 rfl _ ?_)
                · simp [vW, bw_map, mapAt_map, mapClo_it, mapClo_nil, mapClo_cons, vP, vZ, Tr.get_set, hh, hm1]
                · simp [vW, bw_map, mapAt_map, mapClo_it, mapClo_nil, mapClo_cons, vP, vZ, Tr.get_set, cList, nvs_self, rN_clos, rC_clos, cWord, hh, hm1]
                · simp
                · intro t' h' hw
                  simp only [↓vA, ↓vE, ↓vO, ↓vB, ↓vF, ↓vM, ↓vR, ↓vX, cvF_pc, vP, shb, shv, shvs, she_nil, she_cons, vC, vQ, Nat.reduceEqDiff, ↓reduceIte, eq_self, Nat.reduceAdd, Nat.reduceMul, Nat.reduceSub, Nat.reduceLeDiff, Nat.reduceLT, defd, cellsOf, wr, packR, Int.reduceLE, Int.reduceLT, Int.reduceEq, Int.cast_ofNat_Int, Int.reduceToNat]
                  exact S.weak hw (step_up false false (wayI false) (words v) j (by omega) _ _ _ (fun t'' h'' hw' => ih2 (by omega) (by omega) t'' h'' hw'))
              | true =>
                have hs : stepW E true false r w = ((memM E (readM w).1.name).1.foldl (stepN false 0) r.1, r.2 ++ [noteW 161 w]) := by
                  unfold stepW; rw [if_neg (by simp [e1]), if_neg (by simp [e2]), if_neg (by simp [hh]), if_pos (by decide), hin]
                rw [hs] at ih2
                simp only [↓vA, ↓vE, ↓vO, ↓vB, ↓vF, ↓vM, ↓vR, ↓vX, cvF_pc, vP, shb, shv, shvs, she_nil, she_cons, vC, vQ, Nat.reduceEqDiff, ↓reduceIte, eq_self, Nat.reduceAdd, Nat.reduceMul, Nat.reduceSub, Nat.reduceLeDiff, Nat.reduceLT, defd, cellsOf, wr, packR, Int.reduceLE, Int.reduceLT, Int.reduceEq, Int.cast_ofNat_Int, Int.reduceToNat]
                refine (h5 r.2 161 w (by simp only [roomB]; omega)).sc (vs := [.i .i64 161, .ptr 0 0, .ptr 1 0]) [2, 4, 3] (Lent.of (by decide) ?_) ?_
                · simp [lent_cons, lent_nil, pushs_cons, pushs_nil, push_mk, shb, shv, shvs, bnds, bnd, rnvs, rnv, gAt, vW, bw_map, mapAt_map, mapClo_it, mapClo_nil, mapClo_cons, vP, vZ, Tr.get_set, bnds_clo rN_clos, rnvs_clo rN_clos, bnd_clo, clo, rnv_clo]
                simp only [backH, List.cons_append, List.nil_append, List.length_cons, List.length_nil, Nat.zero_add, Nat.reduceAdd, List.take_succ_cons, List.take_zero, List.drop_succ_cons, List.drop_zero, List.map_cons, List.map_nil, rnb, rnvs, rnv, gAt, Nat.reduceLT, ↓reduceIte, List.getD_cons_zero, List.getD_cons_succ, Nat.reduceSub, puts_cons, puts_nil, pushs_cons, pushs_nil, hput_mk, push_mk, rnvs_clo rN_clos, rnv_clo, clo]
                simp only [↓vA, ↓vE, ↓vO, ↓vB, ↓vF, ↓vM, ↓vR, ↓vX, cvF_pc, vP, shb, shv, shvs, she_nil, she_cons, vC, vQ, Nat.reduceEqDiff, ↓reduceIte, eq_self, Nat.reduceAdd, Nat.reduceMul, Nat.reduceSub, Nat.reduceLeDiff, Nat.reduceLT, defd, cellsOf, wr, packR, Int.reduceLE, Int.reduceLT, Int.reduceEq, Int.cast_ofNat_Int, Int.reduceToNat]
                refine S.weak (Wk.mk _ _ [0, 1, 2, 6, 5] ?_ ?_ ?_ rfl) (step_in h9 h10 true false false (wayI false) (words v) (memM E (readM w).1.name).1 j r.1 ⟨(readM w).1.name, 0, (readM w).1.has⟩ w (r.2 ++ [noteW 161 w]) (by omega) (by omega) k1 (by omega) hk.1 rfl _ ?_)
                · simp [vW, bw_map, mapAt_map, mapClo_it, mapClo_nil, mapClo_cons, vP, vZ, Tr.get_set, hh, hm1]
                · simp [vW, bw_map, mapAt_map, mapClo_it, mapClo_nil, mapClo_cons, vP, vZ, Tr.get_set, cList, nvs_self, rN_clos, rC_clos, cWord, hh, hm1]
                · simp
                · intro t' h' hw
                  simp only [↓vA, ↓vE, ↓vO, ↓vB, ↓vF, ↓vM, ↓vR, ↓vX, cvF_pc, vP, shb, shv, shvs, she_nil, she_cons, vC, vQ, Nat.reduceEqDiff, ↓reduceIte, eq_self, Nat.reduceAdd, Nat.reduceMul, Nat.reduceSub, Nat.reduceLeDiff, Nat.reduceLT, defd, cellsOf, wr, packR, Int.reduceLE, Int.reduceLT, Int.reduceEq, Int.cast_ofNat_Int, Int.reduceToNat]
                  exact S.weak hw (step_up true false (wayI false) (words v) j (by omega) _ _ _ (fun t'' h'' hw' => ih2 (by omega) (by omega) t'' h'' hw'))
      · have hs : stepW E fl t r w = (r.1, r.2 ++ [noteW (memM E (readM w).1.name).2 w]) := by unfold stepW; rw [if_neg (by simp [e1]), if_pos e2]
        rw [hs] at ih2
        simp only [↓vA, ↓vE, ↓vO, ↓vB, ↓vF, ↓vM, ↓vR, ↓vX, cvF_pc, vP, shb, shv, shvs, she_nil, she_cons, vC, vQ, Nat.reduceEqDiff, ↓reduceIte, eq_self, Nat.reduceAdd, Nat.reduceMul, Nat.reduceSub, Nat.reduceLeDiff, Nat.reduceLT, defd, cellsOf, wr, packR, Int.reduceLE, Int.reduceLT, Int.reduceEq, Int.cast_ofNat_Int, Int.reduceToNat, e2]
        refine (h5 r.2 (memM E (readM w).1.name).2 w (by simp only [roomB]; omega)).sc (vs := [.i .i64 (memM E (readM w).1.name).2, .ptr 0 0, .ptr 1 0]) [2, 4, 3] (Lent.of (by decide) ?_) ?_
        · simp [lent_cons, lent_nil, pushs_cons, pushs_nil, push_mk, shb, shv, shvs, bnds, bnd, rnvs, rnv, gAt, vW, bw_map, mapAt_map, mapClo_it, mapClo_nil, mapClo_cons, vP, vZ, Tr.get_set, bnds_clo rN_clos, rnvs_clo rN_clos, bnd_clo, clo, rnv_clo]
        simp only [backH, List.cons_append, List.nil_append, List.length_cons, List.length_nil, Nat.zero_add, Nat.reduceAdd, List.take_succ_cons, List.take_zero, List.drop_succ_cons, List.drop_zero, List.map_cons, List.map_nil, rnb, rnvs, rnv, gAt, Nat.reduceLT, ↓reduceIte, List.getD_cons_zero, List.getD_cons_succ, Nat.reduceSub, puts_cons, puts_nil, pushs_cons, pushs_nil, hput_mk, push_mk, rnvs_clo rN_clos, rnv_clo, clo]
        simp only [↓vA, ↓vE, ↓vO, ↓vB, ↓vF, ↓vM, ↓vR, ↓vX, cvF_pc, vP, shb, shv, shvs, she_nil, she_cons, vC, vQ, Nat.reduceEqDiff, ↓reduceIte, eq_self, Nat.reduceAdd, Nat.reduceMul, Nat.reduceSub, Nat.reduceLeDiff, Nat.reduceLT, defd, cellsOf, wr, packR, Int.reduceLE, Int.reduceLT, Int.reduceEq, Int.cast_ofNat_Int, Int.reduceToNat]
        refine S.weak (Wk.mk _ _ [0, 1, 2, 6] ?_ ?_ ?_ rfl) (step_up fl t (wayI t) (words v) j (by omega) r.1 (r.2 ++ [noteW (memM E (readM w).1.name).2 w]) _ (fun t' h' hw => ih2 (by omega) (by omega) t' h' hw))
        · simp [vW, bw_map, mapAt_map, mapClo_it, mapClo_nil, mapClo_cons, vP, vZ, Tr.get_set]
        · simp [vW, bw_map, mapAt_map, mapClo_it, mapClo_nil, mapClo_cons, vP, vZ, Tr.get_set, cList, nvs_self, rN_clos, rC_clos]
        · simp
    · have hs : stepW E fl t r w = (r.1, r.2 ++ [noteW (readM w).2 w]) := by unfold stepW; rw [if_pos e1]
      rw [hs] at ih2
      simp only [↓vA, ↓vE, ↓vO, ↓vB, ↓vF, ↓vM, ↓vR, ↓vX, cvF_pc, vP, shb, shv, shvs, she_nil, she_cons, vC, vQ, Nat.reduceEqDiff, ↓reduceIte, eq_self, Nat.reduceAdd, Nat.reduceMul, Nat.reduceSub, Nat.reduceLeDiff, Nat.reduceLT, defd, cellsOf, wr, packR, Int.reduceLE, Int.reduceLT, Int.reduceEq, Int.cast_ofNat_Int, Int.reduceToNat, e1]
      refine (h5 r.2 (readM w).2 w (by simp only [roomB]; omega)).sc (vs := [.i .i64 (readM w).2, .ptr 0 0, .ptr 1 0]) [2, 4, 3] (Lent.of (by decide) ?_) ?_
      · simp [lent_cons, lent_nil, pushs_cons, pushs_nil, push_mk, shb, shv, shvs, bnds, bnd, rnvs, rnv, gAt, vW, bw_map, mapAt_map, mapClo_it, mapClo_nil, mapClo_cons, vP, vZ, Tr.get_set, bnds_clo rN_clos, rnvs_clo rN_clos, bnd_clo, clo, rnv_clo]
      simp only [backH, List.cons_append, List.nil_append, List.length_cons, List.length_nil, Nat.zero_add, Nat.reduceAdd, List.take_succ_cons, List.take_zero, List.drop_succ_cons, List.drop_zero, List.map_cons, List.map_nil, rnb, rnvs, rnv, gAt, Nat.reduceLT, ↓reduceIte, List.getD_cons_zero, List.getD_cons_succ, Nat.reduceSub, puts_cons, puts_nil, pushs_cons, pushs_nil, hput_mk, push_mk, rnvs_clo rN_clos, rnv_clo, clo]
      simp only [↓vA, ↓vE, ↓vO, ↓vB, ↓vF, ↓vM, ↓vR, ↓vX, cvF_pc, vP, shb, shv, shvs, she_nil, she_cons, vC, vQ, Nat.reduceEqDiff, ↓reduceIte, eq_self, Nat.reduceAdd, Nat.reduceMul, Nat.reduceSub, Nat.reduceLeDiff, Nat.reduceLT, defd, cellsOf, wr, packR, Int.reduceLE, Int.reduceLT, Int.reduceEq, Int.cast_ofNat_Int, Int.reduceToNat]
      refine S.weak (Wk.mk _ _ [0, 1, 2, 6] ?_ ?_ ?_ rfl) (step_up fl t (wayI t) (words v) j (by omega) r.1 (r.2 ++ [noteW (readM w).2 w]) _ (fun t' h' hw => ih2 (by omega) (by omega) t' h' hw))
      · simp [vW, bw_map, mapAt_map, mapClo_it, mapClo_nil, mapClo_cons, vP, vZ, Tr.get_set]
      · simp [vW, bw_map, mapAt_map, mapClo_it, mapClo_nil, mapClo_cons, vP, vZ, Tr.get_set, cList, nvs_self, rN_clos, rC_clos]
      · simp
  · have hjl : (words v).take j = words v := List.take_of_length_le (by omega)
    rw [hjl] at hr
    rw [hr]
    simp only [cList]
    simp only [↓vA, ↓vE, ↓vO, ↓vB, ↓vF, ↓vM, ↓vR, ↓vX, cvF_pc, vP, shb, shv, shvs, she_nil, she_cons, vC, vQ, Nat.reduceEqDiff, ↓reduceIte, eq_self, Nat.reduceAdd, Nat.reduceMul, Nat.reduceSub, Nat.reduceLeDiff, Nat.reduceLT, defd, cellsOf, wr, packR, Int.reduceLE, Int.reduceLT, Int.reduceEq, Int.cast_ofNat_Int, Int.reduceToNat, hlt]
    refine VD_pc ?_
    simp only [↓vA, ↓vE, ↓vO, ↓vB, ↓vF, ↓vM, ↓vR, ↓vX, cvF_pc, vP, shb, shv, shvs, she_nil, she_cons, vC, vQ, Nat.reduceEqDiff, ↓reduceIte, eq_self, Nat.reduceAdd, Nat.reduceMul, Nat.reduceSub, Nat.reduceLeDiff, Nat.reduceLT, defd, cellsOf, wr, packR, Int.reduceLE, Int.reduceLT, Int.reduceEq, Int.cast_ofNat_Int, Int.reduceToNat, not_false_eq_true]
    intro _
    refine ⟨[3], ?_⟩
    simp [vW, bw_map, mapAt_map, mapClo_it, mapClo_nil, mapClo_cons, vP, vZ, Tr.get_set, cList, nvs_self, rN_clos, rC_clos]
end Go.Kc
end
section
/- What fold.Step answers, whole. Condition: the functions' texts are these. -/
namespace Go.Kc
variable {P : Program} {f : Nat}
def cCopP (P : Program) (f : Nat) : Prop := ∀ l : GList, l.calls.length ≤ 100000 → Pure P f [.agg (cList l)] (.agg (cList l))
theorem cCop_pure (h : cCop P f) : cCopP P f := by
  intro l hl
  refine (h l hl).pure rfl ?_
  simp only [H0, pushs_cons, pushs_nil, push_mk, shb, shv, shvs, she_nil, she_cons, List.map_cons, List.map_nil, up_mk, down_mk, Nat.reduceAdd, Nat.zero_add]
  simp [vZ, vP, Tr.get_set, cList, frzs_self rC_clos, shvs_clo rC_clos]
  intro h0; rw [h0]; rfl
def cStepO (E : List UInt8 → List (List UInt8) × Int) (P : Program) (f : Nat) : Prop := ∀ (l : GList) (v : List UInt8) (fl : Bool), l.calls.length ≤ 100000 → v.length ≤ 1000 → 0 ≤ l.mode →
  Own P f [.agg (cList l), .s v, .b fl] (.tup [.agg (cList (stepM E l v fl).1), .own 0 (stepM E l v fl).2.length]) [.cells 4 true true (rN (stepM E l v fl).2)]
def cStep (E : List UInt8 → List (List UInt8) × Int) (P : Program) (f : Nat) : Prop := ∀ (l : GList) (v : List UInt8) (fl : Bool), l.calls.length ≤ 100000 → v.length ≤ 1000 → 0 ≤ l.mode →
  Pure P f [.agg (cList l), .s v, .b fl] (.tup [.agg (cList (stepM E l v fl).1), .fz (stepM E l v fl).2.length (rN (stepM E l v fl).2)])
theorem step_own {g1 g2 g3 g4 g5 g6 g7 g8 g9 g10 : Nat} {E : List UInt8 → List (List UInt8) × Int} (hc : chkFn P f (ir_fold_Step g1 g2 g3 g4 g5 g6 g7 g8 g9 g10) = true) (hE : ExpOk E) (h1 : cCopP P g1) (h2 : cMay P g2) (h3 : cWords P g3) (h4 : cTurned P g4) (h5 : cStep1 P g5) (h6 : cRead P g6) (h7 : cExp (memM E) P g7) (h8 : cIns P g8) (h9 : cPut P g9) (h10 : cTake P g10) : cStepO E P f := by
  intro l v fl hl hv hm0
  have htl := turnP_len v
  refine Own.mk hc rfl ?_
  simp only [ir_fold_Step, cList, argsT, H0, mkT, mkH, trL, List.length_cons, List.length_nil, Nat.reduceAdd, Nat.zero_add]
  simp only [↓vA, ↓vE, ↓vO, ↓vB, ↓vF, ↓vM, ↓vR, ↓vX, cvF_pc, vP, shb, shv, shvs, she_nil, she_cons, vC, vQ, Nat.reduceEqDiff, ↓reduceIte, eq_self, Nat.reduceAdd, Nat.reduceMul, Nat.reduceSub, Nat.reduceLeDiff, Nat.reduceLT, defd, cellsOf, wr, packR, Int.reduceLE, Int.reduceLT, Int.reduceEq, Int.cast_ofNat_Int, Int.reduceToNat]
  refine (h1 l hl).sc ?_
  simp only [↓vA, ↓vE, ↓vO, ↓vB, ↓vF, ↓vM, ↓vR, ↓vX, cvF_pc, vP, shb, shv, shvs, she_nil, she_cons, vC, vQ, Nat.reduceEqDiff, ↓reduceIte, eq_self, Nat.reduceAdd, Nat.reduceMul, Nat.reduceSub, Nat.reduceLeDiff, Nat.reduceLT, defd, cellsOf, wr, packR, Int.reduceLE, Int.reduceLT, Int.reduceEq, Int.cast_ofNat_Int, Int.reduceToNat, cList]
  refine (h2 l hl).sc ?_
  cases hM : mayM l with
  | false =>
    have hs : stepM E l v fl = (l, []) := if_pos hM
    rw [hs]
    simp only [↓vA, ↓vE, ↓vO, ↓vB, ↓vF, ↓vM, ↓vR, ↓vX, cvF_pc, vP, shb, shv, shvs, she_nil, she_cons, vC, vQ, Nat.reduceEqDiff, ↓reduceIte, eq_self, Nat.reduceAdd, Nat.reduceMul, Nat.reduceSub, Nat.reduceLeDiff, Nat.reduceLT, defd, cellsOf, wr, packR, Int.reduceLE, Int.reduceLT, Int.reduceEq, Int.cast_ofNat_Int, Int.reduceToNat]
    intro _
    refine ⟨[2], ?_⟩
    simp [vW, bw_map, mapAt_map, mapClo_it, mapClo_nil, mapClo_cons, vP, vZ, Tr.get_set, cList, nvs_self, rC_clos, rN]
  | true =>
    have hmm := ((mayM_iff l).1 hM).1
    simp only [↓vA, ↓vE, ↓vO, ↓vB, ↓vF, ↓vM, ↓vR, ↓vX, cvF_pc, vP, shb, shv, shvs, she_nil, she_cons, vC, vQ, Nat.reduceEqDiff, ↓reduceIte, eq_self, Nat.reduceAdd, Nat.reduceMul, Nat.reduceSub, Nat.reduceLeDiff, Nat.reduceLT, defd, cellsOf, wr, packR, Int.reduceLE, Int.reduceLT, Int.reduceEq, Int.cast_ofNat_Int, Int.reduceToNat]
    refine (h3 v (by omega)).sc ?_
    by_cases hw : words v = []
    · have hs : stepM E l v fl = (⟨0, []⟩, []) := by unfold stepM; rw [if_neg (by simp [hM]), if_pos hw]
      rw [hs]
      simp only [↓vA, ↓vE, ↓vO, ↓vB, ↓vF, ↓vM, ↓vR, ↓vX, cvF_pc, vP, shb, shv, shvs, she_nil, she_cons, vC, vQ, Nat.reduceEqDiff, ↓reduceIte, eq_self, Nat.reduceAdd, Nat.reduceMul, Nat.reduceSub, Nat.reduceLeDiff, Nat.reduceLT, defd, cellsOf, wr, packR, Int.reduceLE, Int.reduceLT, Int.reduceEq, Int.cast_ofNat_Int, Int.reduceToNat, hw, List.length_nil]
      intro _
      refine ⟨[2], ?_⟩
      simp [vW, bw_map, mapAt_map, mapClo_it, mapClo_nil, mapClo_cons, vP, vZ, Tr.get_set, cList, nvs_self, rC, rN]
    · have hwn : ¬ ((words v).length : Int) = 0 := by have := List.length_pos_iff.2 hw; omega
      have hs : stepM E l v fl = (words (turnP v).1).foldl (stepW E fl (turnP v).2) (⟨if l.mode = 0 then (if (turnP v).2 = true then 2 else 1) else l.mode, l.calls⟩, []) := by
        unfold stepM; rw [if_neg (by simp [hM]), if_neg hw]
      rw [hs]
      simp only [↓vA, ↓vE, ↓vO, ↓vB, ↓vF, ↓vM, ↓vR, ↓vX, cvF_pc, vP, shb, shv, shvs, she_nil, she_cons, vC, vQ, Nat.reduceEqDiff, ↓reduceIte, eq_self, Nat.reduceAdd, Nat.reduceMul, Nat.reduceSub, Nat.reduceLeDiff, Nat.reduceLT, defd, cellsOf, wr, packR, Int.reduceLE, Int.reduceLT, Int.reduceEq, Int.cast_ofNat_Int, Int.reduceToNat, hwn]
      refine (h4 v).sc ?_
      rw [cut_turn]
      have key : ∀ (m : Int), m = (if l.mode = 0 then (if (turnP v).2 = true then 2 else 1) else l.mode) → mayM ⟨m, l.calls⟩ = true ∧ (m = 1 ∨ m = 2) := by
        intro m hm
        have h12 : m = 1 ∨ m = 2 := by
          rw [hm]; split
          · split <;> simp
          · have := hmm.1; omega
        obtain ⟨_, a1, a2⟩ := (mayM_iff l).1 hM
        exact ⟨(mayM_iff _).2 ⟨⟨by dsimp only; omega, .inl (by dsimp only; omega)⟩, a1, a2⟩, h12⟩
      cases ht : (turnP v).2 with
      | true =>
        by_cases h0 : l.mode = 0
        · have hu : IntKind.wrap .u8 (1 + 1) = 2 := by decide
          have hu1 : IntKind.wrap .u8 1 = 1 := by decide
          obtain ⟨k1, k2⟩ := key 2 (by rw [h0, ht]; rfl)
          rw [show (if l.mode = 0 then (if true = true then (2 : Int) else 1) else l.mode) = 2 from by rw [h0]; rfl]
          simp only [↓vA, ↓vE, ↓vO, ↓vB, ↓vF, ↓vM, ↓vR, ↓vX, cvF_pc, vP, shb, shv, shvs, she_nil, she_cons, vC, vQ, Nat.reduceEqDiff, ↓reduceIte, eq_self, Nat.reduceAdd, Nat.reduceMul, Nat.reduceSub, Nat.reduceLeDiff, Nat.reduceLT, defd, cellsOf, wr, packR, Int.reduceLE, Int.reduceLT, Int.reduceEq, Int.cast_ofNat_Int, Int.reduceToNat, h0, hu, hu1]
          refine S.weak (Wk.mk _ _ [0, 1, 2, 3] ?_ ?_ ?_ rfl) (step_c9 hE h3 h5 h6 h7 h8 h9 h10 fl true (turnP v).1 (by omega) ⟨2, l.calls⟩ k1 k2)
          · simp [vW, bw_map, mapAt_map, mapClo_it, mapClo_nil, mapClo_cons, vP, vZ, Tr.get_set, wayI]
          · simp [vW, bw_map, mapAt_map, mapClo_it, mapClo_nil, mapClo_cons, vP, vZ, Tr.get_set, cList, nvs_self, rC_clos]
          · simp
        · obtain ⟨k1, k2⟩ := key l.mode (by rw [if_neg h0])
          rw [show (if l.mode = 0 then (if true = true then (2 : Int) else 1) else l.mode) = l.mode from if_neg h0]
          simp only [↓vA, ↓vE, ↓vO, ↓vB, ↓vF, ↓vM, ↓vR, ↓vX, cvF_pc, vP, shb, shv, shvs, she_nil, she_cons, vC, vQ, Nat.reduceEqDiff, ↓reduceIte, eq_self, Nat.reduceAdd, Nat.reduceMul, Nat.reduceSub, Nat.reduceLeDiff, Nat.reduceLT, defd, cellsOf, wr, packR, Int.reduceLE, Int.reduceLT, Int.reduceEq, Int.cast_ofNat_Int, Int.reduceToNat, h0]
          refine S.weak (Wk.mk _ _ [0, 1, 2, 3] ?_ ?_ ?_ rfl) (step_c9 hE h3 h5 h6 h7 h8 h9 h10 fl true (turnP v).1 (by omega) ⟨l.mode, l.calls⟩ k1 k2)
          · simp [vW, bw_map, mapAt_map, mapClo_it, mapClo_nil, mapClo_cons, vP, vZ, Tr.get_set, wayI]
          · simp [vW, bw_map, mapAt_map, mapClo_it, mapClo_nil, mapClo_cons, vP, vZ, Tr.get_set, cList, nvs_self, rC_clos]
          · simp
      | false =>
        by_cases h0 : l.mode = 0
        · have hu : IntKind.wrap .u8 (1 + 0) = 1 := by decide
          have hu1 : IntKind.wrap .u8 0 = 0 := by decide
          obtain ⟨k1, k2⟩ := key 1 (by rw [h0, ht]; rfl)
          rw [show (if l.mode = 0 then (if false = true then (2 : Int) else 1) else l.mode) = 1 from by rw [h0]; rfl]
          simp only [↓vA, ↓vE, ↓vO, ↓vB, ↓vF, ↓vM, ↓vR, ↓vX, cvF_pc, vP, shb, shv, shvs, she_nil, she_cons, vC, vQ, Nat.reduceEqDiff, ↓reduceIte, eq_self, Nat.reduceAdd, Nat.reduceMul, Nat.reduceSub, Nat.reduceLeDiff, Nat.reduceLT, defd, cellsOf, wr, packR, Int.reduceLE, Int.reduceLT, Int.reduceEq, Int.cast_ofNat_Int, Int.reduceToNat, h0, hu, hu1]
          refine S.weak (Wk.mk _ _ [0, 1, 2, 3] ?_ ?_ ?_ rfl) (step_c9 hE h3 h5 h6 h7 h8 h9 h10 fl false (turnP v).1 (by omega) ⟨1, l.calls⟩ k1 k2)
          · simp [vW, bw_map, mapAt_map, mapClo_it, mapClo_nil, mapClo_cons, vP, vZ, Tr.get_set, wayI]
          · simp [vW, bw_map, mapAt_map, mapClo_it, mapClo_nil, mapClo_cons, vP, vZ, Tr.get_set, cList, nvs_self, rC_clos]
          · simp
        · obtain ⟨k1, k2⟩ := key l.mode (by rw [if_neg h0])
          rw [show (if l.mode = 0 then (if false = true then (2 : Int) else 1) else l.mode) = l.mode from if_neg h0]
          simp only [↓vA, ↓vE, ↓vO, ↓vB, ↓vF, ↓vM, ↓vR, ↓vX, cvF_pc, vP, shb, shv, shvs, she_nil, she_cons, vC, vQ, Nat.reduceEqDiff, ↓reduceIte, eq_self, Nat.reduceAdd, Nat.reduceMul, Nat.reduceSub, Nat.reduceLeDiff, Nat.reduceLT, defd, cellsOf, wr, packR, Int.reduceLE, Int.reduceLT, Int.reduceEq, Int.cast_ofNat_Int, Int.reduceToNat, h0]
          refine S.weak (Wk.mk _ _ [0, 1, 2, 3] ?_ ?_ ?_ rfl) (step_c9 hE h3 h5 h6 h7 h8 h9 h10 fl false (turnP v).1 (by omega) ⟨l.mode, l.calls⟩ k1 k2)
          · simp [vW, bw_map, mapAt_map, mapClo_it, mapClo_nil, mapClo_cons, vP, vZ, Tr.get_set, wayI]
          · simp [vW, bw_map, mapAt_map, mapClo_it, mapClo_nil, mapClo_cons, vP, vZ, Tr.get_set, cList, nvs_self, rC_clos]
          · simp
theorem cStep_pure {E : List UInt8 → List (List UInt8) × Int} (h : cStepO E P f) : cStep E P f := by
  intro l v fl hl hv hm
  refine (h l v fl hl hv hm).pure rfl ?_
  simp only [H0, pushs_cons, pushs_nil, push_mk, shb, shv, shvs, she_nil, she_cons, List.map_cons, List.map_nil, up_mk, down_mk, Nat.reduceAdd, Nat.zero_add]
  simp [vZ, vP, Tr.get_set, cList, frzs_self rC_clos, frzs_self rN_clos, shvs_clo rC_clos, shvs_clo rN_clos, shvs, shv]
  intro h0; rw [h0]; rfl
end Go.Kc
end
section
/- What filter.Set answers: its functions. Condition: the functions' texts are these. -/
namespace Go.Kc
variable {P : Program} {f : Nat}
def place (a : Asg) (n : GNote) : GNote := ⟨a.file, a.line, n.err, n.text⟩
theorem rN_split {l : List GNote} {i : Nat} {c : GNote} (h : l[i]? = some c) : rN l = rN (l.take i) ++ ([.s c.file, .i .i64 c.line, .i .i64 c.err, .s c.text] ++ rN (l.drop (i + 1))) := by
  obtain ⟨hi, rfl⟩ := List.getElem?_eq_some_iff.1 h
  have : l = l.take i ++ ([l[i]] ++ l.drop (i + 1)) := by
    rw [List.singleton_append, ← List.drop_eq_getElem_cons hi, List.take_append_drop]
  conv => lhs; rw [this]
  rw [← rN_app, ← rN_app]; rfl
theorem rN_set {l : List GNote} {i : Nat} {c d : GNote} (h : l[i]? = some c) : rN (l.set i d) = rN (l.take i) ++ ([.s d.file, .i .i64 d.line, .i .i64 d.err, .s d.text] ++ rN (l.drop (i + 1))) := by
  obtain ⟨hi, _⟩ := List.getElem?_eq_some_iff.1 h
  rw [List.set_eq_take_append_cons_drop, if_pos hi, ← rN_app]; rfl
theorem rN_set0 {l : List GNote} {i : Nat} {c : GNote} (h : l[i]? = some c) (s : List UInt8) : (rN l).take (i * 4) ++ (.s s :: (rN l).drop (i * 4 + 1)) = rN (l.set i ⟨s, c.line, c.err, c.text⟩) := by
  have hi : i ≤ l.length := Nat.le_of_lt (List.getElem?_eq_some_iff.1 h).1
  have hl : (rN (l.take i)).length = i * 4 := by rw [rN_len, List.length_take]; omega
  rw [rN_set h, rN_split h, List.take_left' hl, ← List.drop_drop, List.drop_left' hl]; rfl
theorem rN_set1 {l : List GNote} {i : Nat} {c : GNote} (h : l[i]? = some c) (n : Int) : (rN l).take (i * 4 + 1) ++ (.i .i64 n :: (rN l).drop (i * 4 + 2)) = rN (l.set i ⟨c.file, n, c.err, c.text⟩) := by
  have hi : i ≤ l.length := Nat.le_of_lt (List.getElem?_eq_some_iff.1 h).1
  have hl : (rN (l.take i)).length = i * 4 := by rw [rN_len, List.length_take]; omega
  rw [rN_set h, rN_split h, ← hl, List.take_length_add_append, List.drop_length_add_append, List.append_assoc]; rfl
def ir_filter_keys_1 : IFn := ⟨[.tmp 2],
  .seq (.reg false [⟨(some 2), .op (.mov (.c (.nilp))), none⟩])
  (.seq (.reg false [⟨(some 3), .op (.mov (.t 0)), none⟩,
    ⟨(some 4), .op (.nilChk (.t 3)), none⟩,
    ⟨(some 5), .op (.fAddr 1 (.t 4)), none⟩,
    ⟨(some 2), .op (.mov (.t 5)), none⟩])
  (.ret))⟩
theorem fkeys1 (hc : chkFn P f ir_filter_keys_1 = true) (p : Pol) : Upd P f [.ptr 0 0] [.cells 0 true false (cPol p)] (.ptr 0 1) [.cells 0 true false (cPol p)] := by
  refine Upd.mk hc (by simp [bnds, bnd]) (by simp) ?_
  simp only [ir_filter_keys_1, cPol, argsT, H0, mkT, mkH, trL, List.length_cons, List.length_nil, Nat.reduceAdd, Nat.zero_add]
  simp only [↓vA, ↓vE, ↓vO, ↓vB, ↓vF, ↓vM, ↓vR, ↓vX, cvF_pc, vP, shb, shv, shvs, she_nil, she_cons, vC, vQ, not_false_eq_true, Nat.reduceEqDiff, ↓reduceIte, eq_self, Nat.reduceAdd, Nat.reduceMul, Nat.reduceSub, Nat.reduceLeDiff, Nat.reduceLT, defd, cellsOf, wr, packR, Int.reduceLE, Int.reduceLT, Int.reduceEq, Int.cast_ofNat_Int, Int.reduceToNat]
  intro _
  refine ⟨[0], ?_⟩
  simp [vW, bw_map, mapAt_map, mapClo_it, mapClo_nil, mapClo_cons, vP, vZ, Tr.get_set]
  try decide
def ir_filter_keys_2 : IFn := ⟨[.tmp 2],
  .seq (.reg false [⟨(some 2), .op (.mov (.c (.nilp))), none⟩])
  (.seq (.reg false [⟨(some 3), .op (.mov (.t 0)), none⟩,
    ⟨(some 4), .op (.nilChk (.t 3)), none⟩,
    ⟨(some 5), .op (.fAddr 4 (.t 4)), none⟩,
    ⟨(some 2), .op (.mov (.t 5)), none⟩])
  (.ret))⟩
theorem fkeys2 (hc : chkFn P f ir_filter_keys_2 = true) (p : Pol) : Upd P f [.ptr 0 0] [.cells 0 true false (cPol p)] (.ptr 0 4) [.cells 0 true false (cPol p)] := by
  refine Upd.mk hc (by simp [bnds, bnd]) (by simp) ?_
  simp only [ir_filter_keys_2, cPol, argsT, H0, mkT, mkH, trL, List.length_cons, List.length_nil, Nat.reduceAdd, Nat.zero_add]
  simp only [↓vA, ↓vE, ↓vO, ↓vB, ↓vF, ↓vM, ↓vR, ↓vX, cvF_pc, vP, shb, shv, shvs, she_nil, she_cons, vC, vQ, not_false_eq_true, Nat.reduceEqDiff, ↓reduceIte, eq_self, Nat.reduceAdd, Nat.reduceMul, Nat.reduceSub, Nat.reduceLeDiff, Nat.reduceLT, defd, cellsOf, wr, packR, Int.reduceLE, Int.reduceLT, Int.reduceEq, Int.cast_ofNat_Int, Int.reduceToNat]
  intro _
  refine ⟨[0], ?_⟩
  simp [vW, bw_map, mapAt_map, mapClo_it, mapClo_nil, mapClo_cons, vP, vZ, Tr.get_set]
  try decide
end Go.Kc
end
section
/- What the keys of filter do to a policy. Condition: the functions' texts are these. -/
namespace Go.Kc
variable {P : Program} {f : Nat}
def ir_filter_list_1 (f_fold_Step : Nat) : IFn := ⟨[.tmp 6],
  .seq (.reg false [⟨(some 6), .op (.mov (.c (.nils))), none⟩])
  (.seq (.reg false [⟨(some 10), .op (.load1 (.t 2)), none⟩,
    ⟨(some 11), .op (.mov (.t 0)), none⟩,
    ⟨(some 12), .callV (.t 10) [(.t 11)], none⟩,
    ⟨(some 7), .op (.mov (.t 12)), none⟩])
  (.seq (.reg true [⟨(some 14), .op (.mov (.t 7)), none⟩,
    ⟨(some 15), .op (.nilChk (.t 14)), none⟩,
    ⟨(some 16), .op (.loadN 2 (.t 15)), none⟩,
    ⟨(some 17), .op (.mov (.t 1)), none⟩,
    ⟨(some 18), .op (.load1 (.t 3)), none⟩,
    ⟨(some 19), .callF f_fold_Step [(.t 16), (.t 17), (.t 18)], none⟩,
    ⟨(some 13), .op (.mov (.t 19)), none⟩,
    ⟨(some 20), .op (.ext (.t 13) 0), none⟩,
    ⟨(some 21), .op (.ext (.t 13) 1), none⟩,
    ⟨(some 8), .op (.alloc [.i .u8 0, .nils]), none⟩,
    ⟨none, .op (.store 2 (.t 8) (.t 20)), none⟩,
    ⟨(some 9), .op (.mov (.t 21)), none⟩])
  (.seq (.reg false [⟨(some 22), .op (.mov (.t 7)), none⟩,
    ⟨(some 23), .op (.loadN 2 (.t 8)), none⟩,
    ⟨(some 24), .op (.nilChk (.t 22)), none⟩,
    ⟨none, .op (.store 2 (.t 24) (.t 23)), none⟩])
  (.seq (.reg false [⟨(some 25), .op (.mov (.t 9)), none⟩,
    ⟨(some 6), .op (.mov (.t 25)), none⟩])
  (.ret)))))⟩
theorem flist_1 {g1 g2 : Nat} {E : List UInt8 → List (List UInt8) × Int} (hc : chkFn P f (ir_filter_list_1 g2) = true) (h1 : ∀ p, Upd P g1 [.ptr 0 0] [.cells 0 true false (cPol p)] (.ptr 0 1) [.cells 0 true false (cPol p)]) (h2 : cStepO E P g2) (p : Pol) (v : List UInt8) (fl : Bool)
    (hl : p.filter.calls.length ≤ 100000) (hv : v.length ≤ 1000) (hm : 0 ≤ p.filter.mode) :
    Upd P f [.ptr 0 0, .s v, .pf [.fn g1 [] []] 0, .pf [.b fl] 0] [.cells 0 true false (cPol p)] (.own 1 (stepM E p.filter v fl).2.length) [.cells 0 true false (cPol { p with filter := (stepM E p.filter v fl).1 }), .cells 4 true true (rN (stepM E p.filter v fl).2)] := by
  refine Upd.mk hc (by simp [bnds, bnd, bnd_clo, clo, clos]) (by simp) ?_
  simp only [ir_filter_list_1, cPol, argsT, H0, mkT, mkH, trL, List.length_cons, List.length_nil, Nat.reduceAdd, Nat.zero_add]
  simp only [↓vA, ↓vE, ↓vO, ↓vB, ↓vF, ↓vM, ↓vR, ↓vX, cvF_pc, vP, shb, shv, shvs, she_nil, she_cons, vC, vQ, not_false_eq_true, Nat.reduceEqDiff, ↓reduceIte, eq_self, Nat.reduceAdd, Nat.reduceMul, Nat.reduceSub, Nat.reduceLeDiff, Nat.reduceLT, defd, cellsOf, wr, packR, Int.reduceLE, Int.reduceLT, Int.reduceEq, Int.cast_ofNat_Int, Int.reduceToNat]
  refine (h1 p).sc (vs := [.ptr 0 0]) [0] (Lent.of (by decide) ?_) ?_
  · simp [lent_cons, lent_nil, pushs_cons, pushs_nil, push_mk, shb, shv, shvs, bnds, bnd, rnvs, rnv, gAt, vW, bw_map, mapAt_map, mapClo_it, mapClo_nil, mapClo_cons, vP, vZ, Tr.get_set, cPol, bnd_clo, clo, rnv_clo]
  simp only [backH, List.cons_append, List.nil_append, List.length_cons, List.length_nil, Nat.zero_add, Nat.reduceAdd, List.take_succ_cons, List.take_zero, List.drop_succ_cons, List.drop_zero, List.map_cons, List.map_nil, rnb, rnvs, rnv, gAt, Nat.reduceLT, ↓reduceIte, List.getD_cons_zero, List.getD_cons_succ, Nat.reduceSub, puts_cons, puts_nil, pushs_cons, pushs_nil, hput_mk, push_mk, cPol, rnv_clo, clo]
  simp only [↓vA, ↓vE, ↓vO, ↓vB, ↓vF, ↓vM, ↓vR, ↓vX, cvF_pc, vP, shb, shv, shvs, she_nil, she_cons, vC, vQ, not_false_eq_true, Nat.reduceEqDiff, ↓reduceIte, eq_self, Nat.reduceAdd, Nat.reduceMul, Nat.reduceSub, Nat.reduceLeDiff, Nat.reduceLT, defd, cellsOf, wr, packR, Int.reduceLE, Int.reduceLT, Int.reduceEq, Int.cast_ofNat_Int, Int.reduceToNat]
  refine VD_pc ?_
  simp only [↓vA, ↓vE, ↓vO, ↓vB, ↓vF, ↓vM, ↓vR, ↓vX, cvF_pc, vP, shb, shv, shvs, she_nil, she_cons, vC, vQ, not_false_eq_true, Nat.reduceEqDiff, ↓reduceIte, eq_self, Nat.reduceAdd, Nat.reduceMul, Nat.reduceSub, Nat.reduceLeDiff, Nat.reduceLT, defd, cellsOf, wr, packR, Int.reduceLE, Int.reduceLT, Int.reduceEq, Int.cast_ofNat_Int, Int.reduceToNat]
  refine (h2 p.filter v fl hl hv hm).pc ?_
  simp only [pushs_cons, pushs_nil, push_mk, shb, shv, shvs, she_nil, she_cons, List.map_cons, List.map_nil, up_mk, down_mk, Nat.reduceAdd, Nat.zero_add, cList]
  simp only [↓vA, ↓vE, ↓vO, ↓vB, ↓vF, ↓vM, ↓vR, ↓vX, cvF_pc, vP, shb, shv, shvs, she_nil, she_cons, vC, vQ, not_false_eq_true, Nat.reduceEqDiff, ↓reduceIte, eq_self, Nat.reduceAdd, Nat.reduceMul, Nat.reduceSub, Nat.reduceLeDiff, Nat.reduceLT, defd, cellsOf, wr, packR, Int.reduceLE, Int.reduceLT, Int.reduceEq, Int.cast_ofNat_Int, Int.reduceToNat]
  intro _
  refine ⟨[0, 1], ?_⟩
  simp [vW, bw_map, mapAt_map, mapClo_it, mapClo_nil, mapClo_cons, vP, vZ, Tr.get_set, cPol, nvs_self, rN_clos, rC_clos, rI_clos, shvs_clo rN_clos]
  try decide
theorem flist_2 {g1 g2 : Nat} {E : List UInt8 → List (List UInt8) × Int} (hc : chkFn P f (ir_filter_list_1 g2) = true) (h1 : ∀ p, Upd P g1 [.ptr 0 0] [.cells 0 true false (cPol p)] (.ptr 0 4) [.cells 0 true false (cPol p)]) (h2 : cStepO E P g2) (p : Pol) (v : List UInt8) (fl : Bool)
    (hl : p.log.calls.length ≤ 100000) (hv : v.length ≤ 1000) (hm : 0 ≤ p.log.mode) :
    Upd P f [.ptr 0 0, .s v, .pf [.fn g1 [] []] 0, .pf [.b fl] 0] [.cells 0 true false (cPol p)] (.own 1 (stepM E p.log v fl).2.length) [.cells 0 true false (cPol { p with log := (stepM E p.log v fl).1 }), .cells 4 true true (rN (stepM E p.log v fl).2)] := by
  refine Upd.mk hc (by simp [bnds, bnd, bnd_clo, clo, clos]) (by simp) ?_
  simp only [ir_filter_list_1, cPol, argsT, H0, mkT, mkH, trL, List.length_cons, List.length_nil, Nat.reduceAdd, Nat.zero_add]
  simp only [↓vA, ↓vE, ↓vO, ↓vB, ↓vF, ↓vM, ↓vR, ↓vX, cvF_pc, vP, shb, shv, shvs, she_nil, she_cons, vC, vQ, not_false_eq_true, Nat.reduceEqDiff, ↓reduceIte, eq_self, Nat.reduceAdd, Nat.reduceMul, Nat.reduceSub, Nat.reduceLeDiff, Nat.reduceLT, defd, cellsOf, wr, packR, Int.reduceLE, Int.reduceLT, Int.reduceEq, Int.cast_ofNat_Int, Int.reduceToNat]
  refine (h1 p).sc (vs := [.ptr 0 0]) [0] (Lent.of (by decide) ?_) ?_
  · simp [lent_cons, lent_nil, pushs_cons, pushs_nil, push_mk, shb, shv, shvs, bnds, bnd, rnvs, rnv, gAt, vW, bw_map, mapAt_map, mapClo_it, mapClo_nil, mapClo_cons, vP, vZ, Tr.get_set, cPol, bnd_clo, clo, rnv_clo]
  simp only [backH, List.cons_append, List.nil_append, List.length_cons, List.length_nil, Nat.zero_add, Nat.reduceAdd, List.take_succ_cons, List.take_zero, List.drop_succ_cons, List.drop_zero, List.map_cons, List.map_nil, rnb, rnvs, rnv, gAt, Nat.reduceLT, ↓reduceIte, List.getD_cons_zero, List.getD_cons_succ, Nat.reduceSub, puts_cons, puts_nil, pushs_cons, pushs_nil, hput_mk, push_mk, cPol, rnv_clo, clo]
  simp only [↓vA, ↓vE, ↓vO, ↓vB, ↓vF, ↓vM, ↓vR, ↓vX, cvF_pc, vP, shb, shv, shvs, she_nil, she_cons, vC, vQ, not_false_eq_true, Nat.reduceEqDiff, ↓reduceIte, eq_self, Nat.reduceAdd, Nat.reduceMul, Nat.reduceSub, Nat.reduceLeDiff, Nat.reduceLT, defd, cellsOf, wr, packR, Int.reduceLE, Int.reduceLT, Int.reduceEq, Int.cast_ofNat_Int, Int.reduceToNat]
  refine VD_pc ?_
  simp only [↓vA, ↓vE, ↓vO, ↓vB, ↓vF, ↓vM, ↓vR, ↓vX, cvF_pc, vP, shb, shv, shvs, she_nil, she_cons, vC, vQ, not_false_eq_true, Nat.reduceEqDiff, ↓reduceIte, eq_self, Nat.reduceAdd, Nat.reduceMul, Nat.reduceSub, Nat.reduceLeDiff, Nat.reduceLT, defd, cellsOf, wr, packR, Int.reduceLE, Int.reduceLT, Int.reduceEq, Int.cast_ofNat_Int, Int.reduceToNat]
  refine (h2 p.log v fl hl hv hm).pc ?_
  simp only [pushs_cons, pushs_nil, push_mk, shb, shv, shvs, she_nil, she_cons, List.map_cons, List.map_nil, up_mk, down_mk, Nat.reduceAdd, Nat.zero_add, cList]
  simp only [↓vA, ↓vE, ↓vO, ↓vB, ↓vF, ↓vM, ↓vR, ↓vX, cvF_pc, vP, shb, shv, shvs, she_nil, she_cons, vC, vQ, not_false_eq_true, Nat.reduceEqDiff, ↓reduceIte, eq_self, Nat.reduceAdd, Nat.reduceMul, Nat.reduceSub, Nat.reduceLeDiff, Nat.reduceLT, defd, cellsOf, wr, packR, Int.reduceLE, Int.reduceLT, Int.reduceEq, Int.cast_ofNat_Int, Int.reduceToNat]
  intro _
  refine ⟨[0, 1], ?_⟩
  simp [vW, bw_map, mapAt_map, mapClo_it, mapClo_nil, mapClo_cons, vP, vZ, Tr.get_set, cPol, nvs_self, rN_clos, rC_clos, rI_clos, shvs_clo rN_clos]
  try decide
def ir_filter_keys_3 (f_filter_Errno : Nat) : IFn := ⟨[.tmp 4],
  .seq (.reg false [⟨(some 4), .op (.mov (.c (.nils))), none⟩])
  (.seq (.reg false [⟨(some 8), .op (.mov (.t 1)), none⟩,
    ⟨(some 9), .callF f_filter_Errno [(.t 8)], none⟩,
    ⟨(some 7), .op (.mov (.t 9)), none⟩,
    ⟨(some 10), .op (.ext (.t 7) 0), none⟩,
    ⟨(some 11), .op (.ext (.t 7) 1), none⟩,
    ⟨(some 5), .op (.mov (.t 10)), none⟩,
    ⟨(some 6), .op (.mov (.t 11)), none⟩])
  (.seq (.seq (.reg false [⟨(some 12), .op (.mov (.t 6)), none⟩,
    ⟨(some 13), .op (.bin .neq (.t 12) (.c (.i .i64 0))), none⟩])
  (.cond (.t 13) (.seq (.reg false [⟨(some 14), .op (.mov (.t 6)), none⟩,
    ⟨(some 15), .op (.mov (.t 1)), none⟩,
    ⟨(some 16), .op (.mov (.t 1)), none⟩,
    ⟨(some 17), .op (.len true (.t 16)), none⟩,
    ⟨(some 18), .op (.min (.t 17) (.c (.i .i64 60))), none⟩,
    ⟨(some 19), .op (.slcStr (.t 15) none (some (.t 18))), none⟩,
    ⟨(some 20), .op (.build [.s [], .i .i64 0, .i .i64 0, .s []] [(2, 1, (.t 14)), (3, 1, (.t 19))]), none⟩,
    ⟨(some 21), .op (.buildS 1 [.s [], .i .i64 0, .i .i64 0, .s []] [(0, 4, (.t 20))]), none⟩,
    ⟨(some 4), .op (.mov (.t 21)), none⟩])
  (.ret)) (.skip)))
  (.seq (.reg false [⟨(some 22), .op (.mov (.t 0)), none⟩,
    ⟨(some 23), .op (.mov (.t 5)), none⟩,
    ⟨(some 24), .op (.nilChk (.t 22)), none⟩,
    ⟨(some 25), .op (.fAddr 3 (.t 24)), none⟩,
    ⟨none, .op (.store 1 (.t 25) (.t 23)), none⟩])
  (.seq (.reg false [⟨(some 4), .op (.mov (.c (.nils))), none⟩])
  (.ret)))))⟩
theorem fkeys3_ok {g1 : Nat} (hc : chkFn P f (ir_filter_keys_3 g1) = true) (h1 : cErrF P g1) (p : Pol) (v : List UInt8) (hv : v.length ≤ 1000) (he : (errF v).2 = 0) :
    Upd P f [.ptr 0 0, .s v] [.cells 0 true false (cPol p)] (.own 1 0) [.cells 0 true false (cPol { p with deny := (errF v).1 }), .cells 4 true true []] := by
  refine Upd.mk hc (by simp [bnds, bnd]) (by simp) ?_
  simp only [ir_filter_keys_3, cPol, argsT, H0, mkT, mkH, trL, List.length_cons, List.length_nil, Nat.reduceAdd, Nat.zero_add]
  simp only [↓vA, ↓vE, ↓vO, ↓vB, ↓vF, ↓vM, ↓vR, ↓vX, cvF_pc, vP, shb, shv, shvs, she_nil, she_cons, vC, vQ, not_false_eq_true, Nat.reduceEqDiff, ↓reduceIte, eq_self, Nat.reduceAdd, Nat.reduceMul, Nat.reduceSub, Nat.reduceLeDiff, Nat.reduceLT, defd, cellsOf, wr, packR, Int.reduceLE, Int.reduceLT, Int.reduceEq, Int.cast_ofNat_Int, Int.reduceToNat]
  refine (h1 v (by omega)).sc ?_
  simp only [↓vA, ↓vE, ↓vO, ↓vB, ↓vF, ↓vM, ↓vR, ↓vX, cvF_pc, vP, shb, shv, shvs, she_nil, she_cons, vC, vQ, not_false_eq_true, Nat.reduceEqDiff, ↓reduceIte, eq_self, Nat.reduceAdd, Nat.reduceMul, Nat.reduceSub, Nat.reduceLeDiff, Nat.reduceLT, defd, cellsOf, wr, packR, Int.reduceLE, Int.reduceLT, Int.reduceEq, Int.cast_ofNat_Int, Int.reduceToNat, he]
  intro _
  refine ⟨[0, 1], ?_⟩
  simp [vW, bw_map, mapAt_map, mapClo_it, mapClo_nil, mapClo_cons, vP, vZ, Tr.get_set, cPol, nvs_self, rN_clos, rC_clos, rI_clos]
  try decide
theorem fkeys3_no {g1 : Nat} (hc : chkFn P f (ir_filter_keys_3 g1) = true) (h1 : cErrF P g1) (p : Pol) (v : List UInt8) (hv : v.length ≤ 1000) (he : ¬ (errF v).2 = 0) :
    Upd P f [.ptr 0 0, .s v] [.cells 0 true false (cPol p)] (.sl 1 0 1 1 false) [.cells 0 true false (cPol p), .cells 0 true false (rN [noteW (errF v).2 v])] := by
  refine Upd.mk hc (by simp [bnds, bnd]) (by simp) ?_
  simp only [ir_filter_keys_3, cPol, argsT, H0, mkT, mkH, trL, List.length_cons, List.length_nil, Nat.reduceAdd, Nat.zero_add]
  simp only [↓vA, ↓vE, ↓vO, ↓vB, ↓vF, ↓vM, ↓vR, ↓vX, cvF_pc, vP, shb, shv, shvs, she_nil, she_cons, vC, vQ, not_false_eq_true, Nat.reduceEqDiff, ↓reduceIte, eq_self, Nat.reduceAdd, Nat.reduceMul, Nat.reduceSub, Nat.reduceLeDiff, Nat.reduceLT, defd, cellsOf, wr, packR, Int.reduceLE, Int.reduceLT, Int.reduceEq, Int.cast_ofNat_Int, Int.reduceToNat]
  refine (h1 v (by omega)).sc ?_
  simp only [↓vA, ↓vE, ↓vO, ↓vB, ↓vF, ↓vM, ↓vR, ↓vX, cvF_pc, vP, shb, shv, shvs, she_nil, she_cons, vC, vQ, not_false_eq_true, Nat.reduceEqDiff, ↓reduceIte, eq_self, Nat.reduceAdd, Nat.reduceMul, Nat.reduceSub, Nat.reduceLeDiff, Nat.reduceLT, defd, cellsOf, wr, packR, Int.reduceLE, Int.reduceLT, Int.reduceEq, Int.cast_ofNat_Int, Int.reduceToNat, he]
  by_cases h60 : (60 : Int) < v.length
  · have h1 : 60 ≤ v.length := by omega
    simp only [↓vA, ↓vE, ↓vO, ↓vB, ↓vF, ↓vM, ↓vR, ↓vX, cvF_pc, vP, shb, shv, shvs, she_nil, she_cons, vC, vQ, not_false_eq_true, Nat.reduceEqDiff, ↓reduceIte, eq_self, Nat.reduceAdd, Nat.reduceMul, Nat.reduceSub, Nat.reduceLeDiff, Nat.reduceLT, defd, cellsOf, wr, packR, Int.reduceLE, Int.reduceLT, Int.reduceEq, Int.cast_ofNat_Int, Int.reduceToNat, h60, h1, List.drop_zero]
    intro _
    refine ⟨[0, 1], ?_⟩
    simp [vW, bw_map, mapAt_map, mapClo_it, mapClo_nil, mapClo_cons, vP, vZ, Tr.get_set, nvs_self, rN, cNote, noteW, rI_clos, rC_clos, cPol]
    try decide
  · have h1 : v.take 60 = v := List.take_of_length_le (by omega)
    simp only [↓vA, ↓vE, ↓vO, ↓vB, ↓vF, ↓vM, ↓vR, ↓vX, cvF_pc, vP, shb, shv, shvs, she_nil, she_cons, vC, vQ, not_false_eq_true, Nat.reduceEqDiff, ↓reduceIte, eq_self, Nat.reduceAdd, Nat.reduceMul, Nat.reduceSub, Nat.reduceLeDiff, Nat.reduceLT, defd, cellsOf, wr, packR, Int.reduceLE, Int.reduceLT, Int.reduceEq, Int.cast_ofNat_Int, Int.reduceToNat, h60, List.take_length, List.drop_zero]
    intro _
    refine ⟨[0, 1], ?_⟩
    simp [vW, bw_map, mapAt_map, mapClo_it, mapClo_nil, mapClo_cons, vP, vZ, Tr.get_set, nvs_self, rN, cNote, noteW, rI_clos, rC_clos, cPol, h1]
    try decide
end Go.Kc
end
section
/- What filter.Set answers. Condition: the functions' texts are these. -/
namespace Go.Kc
variable {P : Program} {f : Nat}
def zPolC : List AV := [.nils, .i .u8 0, .nils, .i .u32 0, .i .u8 0, .nils, .nils, .i .u8 0, .i .u64 0, .b false, .b false, .b false, .b false]
theorem placed_get {a : Asg} {ns : List GNote} {j : Nat} (h : j < ns.length) : ((ns.take j).map (place a) ++ ns.drop j)[j]? = some ns[j] := by
  rw [List.getElem?_append_right (by simp; omega)]
  simp [Nat.min_eq_left (Nat.le_of_lt h), h]
theorem placed_set {a : Asg} {ns : List GNote} {j : Nat} (h : j < ns.length) (d : GNote) (hd : d = place a ns[j]) : ((ns.take j).map (place a) ++ ns.drop j).set j d = (ns.take (j + 1)).map (place a) ++ ns.drop (j + 1) := by
  have hl : ((ns.take j).map (place a)).length = j := by simp; omega
  rw [List.set_append, if_neg (by omega), hl, Nat.sub_self, List.drop_eq_getElem_cons h, List.set_cons_zero, List.take_add_one, List.getElem?_eq_getElem h, hd, List.map_append, List.append_assoc]
  rfl
def ir_filter_Set_c5 (f_filter_copied f_filter_keys : Nat) : ICode := .seq (.seq (.reg false [⟨(some 26), .op (.mov (.t 8)), none⟩,
    ⟨(some 27), .op (.len false (.t 26)), none⟩,
    ⟨(some 28), .op (.mov (.c (.i .i64 0))), none⟩])
  (.blk 0 (.loop (.seq (.reg false [⟨(some 29), .op (.bin .lss (.t 28) (.t 27)), none⟩])
  (.seq (.cond (.t 29) (.skip) (.exit 0))
  (.seq (.blk 1 (.seq (.reg false [⟨(some 30), .op (.mov (.t 28)), none⟩,
    ⟨(some 9), .op (.mov (.t 30)), none⟩])
  (.reg true [⟨(some 31), .op (.mov (.t 8)), none⟩,
    ⟨(some 32), .op (.mov (.t 9)), none⟩,
    ⟨(some 33), .op (.mov (.t 8)), none⟩,
    ⟨(some 34), .op (.mov (.t 9)), none⟩,
    ⟨(some 35), .op (.fAddr 0 (.t 3)), none⟩,
    ⟨(some 36), .op (.load1 (.t 35)), none⟩,
    ⟨(some 37), .op (.fAddr 1 (.t 3)), none⟩,
    ⟨(some 38), .op (.load1 (.t 37)), none⟩,
    ⟨(some 39), .op (.iAddrS 4 (.t 31) (.t 32)), none⟩,
    ⟨(some 40), .op (.fAddr 0 (.t 39)), none⟩,
    ⟨none, .op (.storeD 1 (.t 40) (.t 36) [37]), none⟩,
    ⟨(some 41), .op (.iAddrS 4 (.t 33) (.t 34)), none⟩,
    ⟨(some 42), .op (.fAddr 1 (.t 41)), none⟩,
    ⟨none, .op (.store 1 (.t 42) (.t 38)), none⟩])))
  (.reg false [⟨(some 43), .op (.bin .add (.t 28) (.c (.i .i64 1))), none⟩,
    ⟨(some 28), .op (.mov (.t 43)), none⟩])))))))
  (.seq (.reg false [⟨(some 44), .op (.loadN 13 (.t 2)), none⟩,
    ⟨(some 45), .op (.mov (.t 8)), none⟩,
    ⟨none, .op (.store 13 (.t 4) (.t 44)), none⟩,
    ⟨(some 5), .op (.mov (.t 45)), none⟩])
  (.ret))
def ir_filter_Set_c4 (f_filter_copied f_filter_keys : Nat) : ICode := .seq (.reg false [⟨(some 22), .op (.mov (.t 6)), none⟩,
    ⟨(some 23), .op (.fAddr 4 (.t 3)), none⟩,
    ⟨(some 24), .op (.load1 (.t 23)), none⟩,
    ⟨(some 25), .callV (.t 22) [(.t 2), (.t 24)], none⟩,
    ⟨(some 8), .op (.mov (.t 25)), none⟩])
  (.cut (ir_filter_Set_c5 f_filter_copied f_filter_keys))
def ir_filter_Set (f_filter_copied f_filter_keys : Nat) : IFn := ⟨[.cell 4 13 true, .tmp 5],
  .seq (.reg false [⟨(some 2), .op (.box (.t 0)), none⟩,
    ⟨(some 3), .op (.box (.t 1)), none⟩,
    ⟨(some 4), .op (.alloc [.nils, .i .u8 0, .nils, .i .u32 0, .i .u8 0, .nils, .nils, .i .u8 0, .i .u64 0, .b false, .b false, .b false, .b false]), none⟩,
    ⟨(some 5), .op (.mov (.c (.nils))), none⟩])
  (.seq (.reg false [⟨(some 10), .op (.loadN 13 (.t 2)), none⟩,
    ⟨(some 11), .callF f_filter_copied [(.t 10)], none⟩,
    ⟨none, .op (.store 13 (.t 2) (.t 11)), none⟩])
  (.seq (.reg true [⟨(some 13), .callF f_filter_keys [], none⟩,
    ⟨(some 14), .op (.fAddr 3 (.t 3)), none⟩,
    ⟨(some 15), .op (.load1 (.t 14)), none⟩,
    ⟨(some 16), .op (.lookM none true (.nilf) (.t 13) (.t 15)), none⟩,
    ⟨(some 12), .op (.mov (.t 16)), none⟩,
    ⟨(some 17), .op (.ext (.t 12) 0), none⟩,
    ⟨(some 18), .op (.ext (.t 12) 1), none⟩,
    ⟨(some 6), .op (.mov (.t 17)), none⟩,
    ⟨(some 7), .op (.mov (.t 18)), none⟩])
  (.seq (.seq (.reg false [⟨(some 19), .op (.mov (.t 7)), none⟩,
    ⟨(some 20), .op (.un .not (.t 19)), none⟩])
  (.cond (.t 20) (.seq (.reg false [⟨(some 21), .op (.loadN 13 (.t 2)), none⟩,
    ⟨none, .op (.store 13 (.t 4) (.t 21)), none⟩,
    ⟨(some 5), .op (.mov (.c (.nils))), none⟩])
  (.ret)) (.skip)))
  (.cut (ir_filter_Set_c4 f_filter_copied f_filter_keys)))))⟩
theorem fset_tail (g1 g2 : Nat) (q : Pol) (a : Asg) (ns : List GNote) (hn : ns.length ≤ 100000) :
    S P 0 (ir_filter_Set_c5 g1 g2) (endX [.cell 4 13 true, .tmp 5] (fun v' h' => Frz h' v' (.tup [.agg (cPol q), .fz ns.length (rN (ns.map (place a)))])))
      (mkT [(2, .ptr 0 0), (3, .ptr 1 0), (4, .ptr 2 0), (8, .own 3 ns.length)]) (mkH 0 [.cells 0 true false (cPol q), .cells 0 true false (cAsg a), .cells 0 true false zPolC, .cells 4 true true (rN ns)]) := by
  refine V_sound ?_
  simp only [ir_filter_Set_c5, cPol, cAsg, zPolC, argsT, H0, mkT, mkH, trL, List.length_cons, List.length_nil, Nat.reduceAdd, Nat.zero_add]
  simp only [↓vA, ↓vE, ↓vO, ↓vB, ↓vF, ↓vM, ↓vR, ↓vX, cvF_pc, vP, shb, shv, shvs, she_nil, she_cons, vC, vQ, not_false_eq_true, Nat.reduceEqDiff, ↓reduceIte, eq_self, Nat.reduceAdd, Nat.reduceMul, Nat.reduceSub, Nat.reduceLeDiff, Nat.reduceLT, defd, cellsOf, wr, packR, Int.reduceLE, Int.reduceLT, Int.reduceEq, Int.cast_ofNat_Int, Int.reduceToNat]
  refine SL.loop (α := Nat) (fun j => [(2, .ptr 0 0), (3, .ptr 1 0), (4, .ptr 2 0), (8, .own 3 ns.length), (27, .i .i64 ns.length), (28, .i .i64 j)])
    (fun j => [.cells 0 true false (cPol q), .cells 0 true false (cAsg a), .cells 0 true false zPolC, .cells 4 true true (rN ((ns.take j).map (place a) ++ ns.drop j))]) (fun j => j ≤ ns.length) (fun j => ns.length - j) 0 [0, 1, 2, 3] ?_ ?_ ?_ rfl ?_ ?_
  · simp [vW, bw_map, mapAt_map, mapClo_it, mapClo_nil, mapClo_cons, vP, vZ, Tr.get_set]
  · simp [vW, bw_map, mapAt_map, mapClo_it, mapClo_nil, mapClo_cons, vP, vZ, Tr.get_set, cPol, cAsg, zPolC, nvs_self, rN_clos]
    try decide
  · simp
  · exact Nat.zero_le _
  rintro j hj G ih
  simp only [cPol, cAsg, zPolC, argsT, H0, mkT, mkH, trL, List.length_cons, List.length_nil, Nat.reduceAdd, Nat.zero_add]
  by_cases hlt : j < ns.length
  · have hw : IntKind.wrap .i64 ((j : Int) + 1) = ((j + 1 : Nat) : Int) := by rw [wrap64 (by omega) (by omega)]; omega
    have hx := placed_get (a := a) hlt
    have hset := placed_set (a := a) hlt (place a ns[j]) rfl
    have ih2 := ih (j + 1)
    rw [← hset] at ih2
    generalize hL : (ns.take j).map (place a) ++ ns.drop j = L at hx ih2
    have hLl : L.length = ns.length := by rw [← hL]; simp; omega
    have e0 := rN_set0 hx a.file
    have hx1 : (L.set j ⟨a.file, ns[j].line, ns[j].err, ns[j].text⟩)[j]? = some ⟨a.file, ns[j].line, ns[j].err, ns[j].text⟩ := by rw [List.getElem?_set]; simp; omega
    have e1 := rN_set1 hx1 a.line
    rw [List.set_set] at e1
    have hlen : (rN L).length = ns.length * 4 := by rw [rN_len, hLl]
    have hlen1 : (rN (L.set j ⟨a.file, ns[j].line, ns[j].err, ns[j].text⟩)).length = ns.length * 4 := by rw [rN_len, List.length_set, hLl]
    have hb0 : j * 4 + 1 ≤ ns.length * 4 := by omega
    have hb1 : j * 4 + 2 ≤ ns.length * 4 := by omega
    simp only [↓vA, ↓vE, ↓vO, ↓vB, ↓vF, ↓vM, ↓vR, ↓vX, cvF_pc, vP, shb, shv, shvs, she_nil, she_cons, vC, vQ, not_false_eq_true, Nat.reduceEqDiff, ↓reduceIte, eq_self, Nat.reduceAdd, Nat.reduceMul, Nat.reduceSub, Nat.reduceLeDiff, Nat.reduceLT, defd, cellsOf, wr, packR, Int.reduceLE, Int.reduceLT, Int.reduceEq, Int.cast_ofNat_Int, Int.reduceToNat, hlt]
    refine VD_pc ?_
    simp (decide := true) only [↓vA, ↓vE, ↓vO, ↓vB, ↓vF, ↓vM, ↓vR, ↓vX, cvF_pc, vP, shb, shv, shvs, she_nil, she_cons, vC, vQ, not_false_eq_true, Nat.reduceEqDiff, ↓reduceIte, eq_self, Nat.reduceAdd, Nat.reduceMul, Nat.reduceSub, Nat.reduceLeDiff, Nat.reduceLT, defd, cellsOf, wr, packR, Int.reduceLE, Int.reduceLT, Int.reduceEq, Int.cast_ofNat_Int, Int.reduceToNat, hlt, hlen, hlen1, hb0, hb1, e0, e1, hw]
    refine ih2 (by omega) (by omega) _ _ (Wk.mk _ _ [0, 1, 2, 3] ?_ ?_ ?_ rfl)
    · simp [vW, bw_map, mapAt_map, mapClo_it, mapClo_nil, mapClo_cons, vP, vZ, Tr.get_set]
    · simp [vW, bw_map, mapAt_map, mapClo_it, mapClo_nil, mapClo_cons, vP, vZ, Tr.get_set, cPol, cAsg, zPolC, nvs_self, rN_clos, place]
      try decide
    · simp
  · have hjl : ns.take j = ns := List.take_of_length_le (by omega)
    have hdl : ns.drop j = [] := List.drop_of_length_le (by omega)
    rw [hjl, hdl, List.append_nil]
    simp (decide := true) only [↓vA, ↓vE, ↓vO, ↓vB, ↓vF, ↓vM, ↓vR, ↓vX, cvF_pc, vP, shb, shv, shvs, she_nil, she_cons, vC, vQ, not_false_eq_true, Nat.reduceEqDiff, ↓reduceIte, eq_self, Nat.reduceAdd, Nat.reduceMul, Nat.reduceSub, Nat.reduceLeDiff, Nat.reduceLT, defd, cellsOf, wr, packR, Int.reduceLE, Int.reduceLT, Int.reduceEq, Int.cast_ofNat_Int, Int.reduceToNat, hlt]
    simp [vZ, vP, Tr.get_set, cPol, rI_clos, frzs_self, rN_clos, rC_clos]
    intro h0; rw [h0]; rfl
theorem fset_one (g1 g2 : Nat) (q : Pol) (a : Asg) (n : GNote) :
    S P 0 (ir_filter_Set_c5 g1 g2) (endX [.cell 4 13 true, .tmp 5] (fun v' h' => Frz h' v' (.tup [.agg (cPol q), .fz 1 (rN [place a n])])))
      (mkT [(2, .ptr 0 0), (3, .ptr 1 0), (4, .ptr 2 0), (8, .sl 3 0 1 1 false)]) (mkH 0 [.cells 0 true false (cPol q), .cells 0 true false (cAsg a), .cells 0 true false zPolC, .cells 0 true false (rN [n])]) := by
  have hw : IntKind.wrap .i64 (0 + 1) = 1 := by decide
  refine V_sound ?_
  simp only [ir_filter_Set_c5, cPol, cAsg, zPolC, rN_one, argsT, H0, mkT, mkH, trL, List.length_cons, List.length_nil, Nat.reduceAdd, Nat.zero_add]
  simp only [↓vA, ↓vE, ↓vO, ↓vB, ↓vF, ↓vM, ↓vR, ↓vX, cvF_pc, vP, shb, shv, shvs, she_nil, she_cons, vC, vQ, not_false_eq_true, Nat.reduceEqDiff, ↓reduceIte, eq_self, Nat.reduceAdd, Nat.reduceMul, Nat.reduceSub, Nat.reduceLeDiff, Nat.reduceLT, defd, cellsOf, wr, packR, Int.reduceLE, Int.reduceLT, Int.reduceEq, Int.cast_ofNat_Int, Int.reduceToNat]
  refine SL_step ?_
  simp (decide := true) only [↓vA, ↓vE, ↓vO, ↓vB, ↓vF, ↓vM, ↓vR, ↓vX, cvF_pc, vP, shb, shv, shvs, she_nil, she_cons, vC, vQ, not_false_eq_true, Nat.reduceEqDiff, ↓reduceIte, eq_self, Nat.reduceAdd, Nat.reduceMul, Nat.reduceSub, Nat.reduceLeDiff, Nat.reduceLT, defd, cellsOf, wr, packR, Int.reduceLE, Int.reduceLT, Int.reduceEq, Int.cast_ofNat_Int, Int.reduceToNat]
  refine VD_pc ?_
  simp (decide := true) only [↓vA, ↓vE, ↓vO, ↓vB, ↓vF, ↓vM, ↓vR, ↓vX, cvF_pc, vP, shb, shv, shvs, she_nil, she_cons, vC, vQ, not_false_eq_true, Nat.reduceEqDiff, ↓reduceIte, eq_self, Nat.reduceAdd, Nat.reduceMul, Nat.reduceSub, Nat.reduceLeDiff, Nat.reduceLT, defd, cellsOf, wr, packR, Int.reduceLE, Int.reduceLT, Int.reduceEq, Int.cast_ofNat_Int, Int.reduceToNat, hw]
  refine SL_step ?_
  simp (decide := true) only [↓vA, ↓vE, ↓vO, ↓vB, ↓vF, ↓vM, ↓vR, ↓vX, cvF_pc, vP, shb, shv, shvs, she_nil, she_cons, vC, vQ, not_false_eq_true, Nat.reduceEqDiff, ↓reduceIte, eq_self, Nat.reduceAdd, Nat.reduceMul, Nat.reduceSub, Nat.reduceLeDiff, Nat.reduceLT, defd, cellsOf, wr, packR, Int.reduceLE, Int.reduceLT, Int.reduceEq, Int.cast_ofNat_Int, Int.reduceToNat]
  simp [vZ, vP, Tr.get_set, cPol, rI_clos, frzs_self, rN_one, rC_clos, place]
  exact Frz.cut 4 rfl (Nat.le_refl _) (by simp [vP, Tr.get_set, vZ])
/-- what an assignment makes of a policy -/
noncomputable def setF (E : List UInt8 → List (List UInt8) × Int) (p : Pol) (k v : List UInt8) : Pol × List GNote :=
  if k = kFilter then ({ p with filter := (stepM E p.filter v true).1 }, (stepM E p.filter v true).2)
  else if k = kLog then ({ p with log := (stepM E p.log v false).1 }, (stepM E p.log v false).2)
  else if k = kErr then (if (errF v).2 = 0 then ({ p with deny := (errF v).1 }, []) else (p, [noteW (errF v).2 v]))
  else (p, [])
def cSetF (E : List UInt8 → List (List UInt8) × Int) (P : Program) (f : Nat) : Prop := ∀ (p : Pol) (a : Asg), PolOk p → 0 ≤ p.filter.mode ∧ 0 ≤ p.log.mode → a.val.length ≤ 1000 →
  Pure P f [.agg (cPol p), .agg (cAsg a)] (.tup [.agg (cPol (setF E p a.key a.val).1), .fz (setF E p a.key a.val).2.length (rN ((setF E p a.key a.val).2.map (place a)))])
theorem setF_pure {g1 g2 l m1 m2 m3 e s0 : Nat} {E : List UInt8 → List (List UInt8) × Int} (hc : chkFn P f (ir_filter_Set g1 g2) = true) (h1 : cCopied P g1) (h2 : Own P g2 [] (.map 0) [.map (keysF l m1 m2 m3)])
    (hl : chkFn P l (ir_filter_list_1 s0) = true) (hs : cStepO E P s0) (hm1 : chkFn P m1 ir_filter_keys_1 = true) (hm2 : chkFn P m2 ir_filter_keys_2 = true) (hm3 : chkFn P m3 (ir_filter_keys_3 e) = true) (he : cErrF P e) : cSetF E P f := by
  intro p a hp hm hv
  have hpc := hp.c
  have hpl := hp.l
  refine Pure.mk hc rfl ?_
  generalize hT : AV.tup [.agg (cPol (setF E p a.key a.val).1), .fz (setF E p a.key a.val).2.length (rN ((setF E p a.key a.val).2.map (place a)))] = tgt
  simp only [ir_filter_Set, cPol, cAsg, argsT, H0, mkT, mkH, trL, List.length_cons, List.length_nil, Nat.reduceAdd, Nat.zero_add]
  simp only [↓vA, ↓vE, ↓vO, ↓vB, ↓vF, ↓vM, ↓vR, ↓vX, cvF_pc, vP, shb, shv, shvs, she_nil, she_cons, vC, vQ, not_false_eq_true, Nat.reduceEqDiff, ↓reduceIte, eq_self, Nat.reduceAdd, Nat.reduceMul, Nat.reduceSub, Nat.reduceLeDiff, Nat.reduceLT, defd, cellsOf, wr, packR, Int.reduceLE, Int.reduceLT, Int.reduceEq, Int.cast_ofNat_Int, Int.reduceToNat]
  refine (h1 p hp).sc ?_
  simp (decide := true) only [↓vA, ↓vE, ↓vO, ↓vB, ↓vF, ↓vM, ↓vR, ↓vX, cvF_pc, vP, shb, shv, shvs, she_nil, she_cons, vC, vQ, not_false_eq_true, Nat.reduceEqDiff, ↓reduceIte, eq_self, Nat.reduceAdd, Nat.reduceMul, Nat.reduceSub, Nat.reduceLeDiff, Nat.reduceLT, defd, cellsOf, wr, packR, Int.reduceLE, Int.reduceLT, Int.reduceEq, Int.cast_ofNat_Int, Int.reduceToNat, cPol]
  refine VD_pc ?_
  simp only [↓vA, ↓vE, ↓vO, ↓vB, ↓vF, ↓vM, ↓vR, ↓vX, cvF_pc, vP, shb, shv, shvs, she_nil, she_cons, vC, vQ, not_false_eq_true, Nat.reduceEqDiff, ↓reduceIte, eq_self, Nat.reduceAdd, Nat.reduceMul, Nat.reduceSub, Nat.reduceLeDiff, Nat.reduceLT, defd, cellsOf, wr, packR, Int.reduceLE, Int.reduceLT, Int.reduceEq, Int.cast_ofNat_Int, Int.reduceToNat]
  refine h2.pc ?_
  simp only [pushs_cons, pushs_nil, push_mk, shb, shv, shvs, she_nil, she_cons, List.map_cons, List.map_nil, up_mk, down_mk, Nat.reduceAdd, Nat.zero_add, keysF]
  simp only [↓vA, ↓vE, ↓vO, ↓vB, ↓vF, ↓vM, ↓vR, ↓vX, cvF_pc, vP, shb, shv, shvs, she_nil, she_cons, vC, vQ, not_false_eq_true, Nat.reduceEqDiff, ↓reduceIte, eq_self, Nat.reduceAdd, Nat.reduceMul, Nat.reduceSub, Nat.reduceLeDiff, Nat.reduceLT, defd, cellsOf, wr, packR, Int.reduceLE, Int.reduceLT, Int.reduceEq, Int.cast_ofNat_Int, Int.reduceToNat]
  subst hT
  by_cases n0 : a.key = kFilter
  · have hM : setF E p a.key a.val = ({ p with filter := (stepM E p.filter a.val true).1 }, (stepM E p.filter a.val true).2) := by unfold setF; rw [if_pos n0]
    rw [hM]
    have hlen := stepM_len (E := E) p.filter a.val true
    simp only [↓vA, ↓vE, ↓vO, ↓vB, ↓vF, ↓vM, ↓vR, ↓vX, cvF_pc, vP, shb, shv, shvs, she_nil, she_cons, vC, vQ, not_false_eq_true, Nat.reduceEqDiff, ↓reduceIte, eq_self, Nat.reduceAdd, Nat.reduceMul, Nat.reduceSub, Nat.reduceLeDiff, Nat.reduceLT, defd, cellsOf, wr, packR, Int.reduceLE, Int.reduceLT, Int.reduceEq, Int.cast_ofNat_Int, Int.reduceToNat, n0, if_true]
    refine S.weak (Wk.mk [(2, .ptr 0 0), (3, .ptr 1 0), (4, .ptr 2 0), (6, .fn l [] [.pf [.fn m1 [] []] 0, .pf [.b true] 0])] [.cells 0 true false (cPol p), .cells 0 true false (cAsg a), .cells 0 true false zPolC] [0, 1, 2] ?_ ?_ ?_ rfl) (V_sound ?_)
    · simp [vW, bw_map, mapAt_map, mapClo_it, mapClo_nil, mapClo_cons, vP, vZ, Tr.get_set, clo, clos]
    · simp [vW, bw_map, mapAt_map, mapClo_it, mapClo_nil, mapClo_cons, vP, vZ, Tr.get_set, cPol, cAsg, zPolC, nvs_self]
      try decide
    · simp
    simp only [ir_filter_Set_c4, cAsg, zPolC, argsT, H0, mkT, mkH, trL, List.length_cons, List.length_nil, Nat.reduceAdd, Nat.zero_add]
    simp only [↓vA, ↓vE, ↓vO, ↓vB, ↓vF, ↓vM, ↓vR, ↓vX, cvF_pc, vP, shb, shv, shvs, she_nil, she_cons, vC, vQ, not_false_eq_true, Nat.reduceEqDiff, ↓reduceIte, eq_self, Nat.reduceAdd, Nat.reduceMul, Nat.reduceSub, Nat.reduceLeDiff, Nat.reduceLT, defd, cellsOf, wr, packR, Int.reduceLE, Int.reduceLT, Int.reduceEq, Int.cast_ofNat_Int, Int.reduceToNat]
    refine (flist_1 hl (fkeys1 hm1) hs p a.val true (by omega) hv hm.1).sc (vs := [.ptr 0 0, .s a.val, .pf [.fn m1 [] []] 0, .pf [.b true] 0]) [0] (Lent.of (by decide) ?_) ?_
    · simp [lent_cons, lent_nil, pushs_cons, pushs_nil, push_mk, shb, shv, shvs, bnds, bnd, rnvs, rnv, gAt, vW, bw_map, mapAt_map, mapClo_it, mapClo_nil, mapClo_cons, vP, vZ, Tr.get_set, cPol, bnd_clo, clo, clos, rnv_clo]
    simp only [backH, List.cons_append, List.nil_append, List.length_cons, List.length_nil, Nat.zero_add, Nat.reduceAdd, List.take_succ_cons, List.take_zero, List.drop_succ_cons, List.drop_zero, List.map_cons, List.map_nil, rnb, rnvs, rnv, gAt, Nat.reduceLT, ↓reduceIte, List.getD_cons_zero, List.getD_cons_succ, Nat.reduceSub, puts_cons, puts_nil, pushs_cons, pushs_nil, hput_mk, push_mk, rnvs_clo rN_clos, rnvs_clo (cPol_clos _), rnv_clo, clo]
    simp only [↓vA, ↓vE, ↓vO, ↓vB, ↓vF, ↓vM, ↓vR, ↓vX, cvF_pc, vP, shb, shv, shvs, she_nil, she_cons, vC, vQ, not_false_eq_true, Nat.reduceEqDiff, ↓reduceIte, eq_self, Nat.reduceAdd, Nat.reduceMul, Nat.reduceSub, Nat.reduceLeDiff, Nat.reduceLT, defd, cellsOf, wr, packR, Int.reduceLE, Int.reduceLT, Int.reduceEq, Int.cast_ofNat_Int, Int.reduceToNat]
    refine S.weak (Wk.mk _ _ [0, 1, 2, 3] ?_ ?_ ?_ rfl) (fset_tail g1 g2 { p with filter := (stepM E p.filter a.val true).1 } a (stepM E p.filter a.val true).2 (by omega))
    · simp [vW, bw_map, mapAt_map, mapClo_it, mapClo_nil, mapClo_cons, vP, vZ, Tr.get_set]
    · simp [vW, bw_map, mapAt_map, mapClo_it, mapClo_nil, mapClo_cons, vP, vZ, Tr.get_set, cPol, cAsg, zPolC, nvs_self, rN_clos]
      try decide
    · simp
  by_cases n1 : a.key = kLog
  · have hM : setF E p a.key a.val = ({ p with log := (stepM E p.log a.val false).1 }, (stepM E p.log a.val false).2) := by unfold setF; rw [if_neg n0, if_pos n1]
    rw [hM]
    have hlen := stepM_len (E := E) p.log a.val false
    simp only [↓vA, ↓vE, ↓vO, ↓vB, ↓vF, ↓vM, ↓vR, ↓vX, cvF_pc, vP, shb, shv, shvs, she_nil, she_cons, vC, vQ, not_false_eq_true, Nat.reduceEqDiff, ↓reduceIte, eq_self, Nat.reduceAdd, Nat.reduceMul, Nat.reduceSub, Nat.reduceLeDiff, Nat.reduceLT, defd, cellsOf, wr, packR, Int.reduceLE, Int.reduceLT, Int.reduceEq, Int.cast_ofNat_Int, Int.reduceToNat, n0, n1, if_true]
    refine S.weak (Wk.mk [(2, .ptr 0 0), (3, .ptr 1 0), (4, .ptr 2 0), (6, .fn l [] [.pf [.fn m2 [] []] 0, .pf [.b false] 0])] [.cells 0 true false (cPol p), .cells 0 true false (cAsg a), .cells 0 true false zPolC] [0, 1, 2] ?_ ?_ ?_ rfl) (V_sound ?_)
    · simp [vW, bw_map, mapAt_map, mapClo_it, mapClo_nil, mapClo_cons, vP, vZ, Tr.get_set, clo, clos]
    · simp [vW, bw_map, mapAt_map, mapClo_it, mapClo_nil, mapClo_cons, vP, vZ, Tr.get_set, cPol, cAsg, zPolC, nvs_self]
      try decide
    · simp
    simp only [ir_filter_Set_c4, cAsg, zPolC, argsT, H0, mkT, mkH, trL, List.length_cons, List.length_nil, Nat.reduceAdd, Nat.zero_add]
    simp only [↓vA, ↓vE, ↓vO, ↓vB, ↓vF, ↓vM, ↓vR, ↓vX, cvF_pc, vP, shb, shv, shvs, she_nil, she_cons, vC, vQ, not_false_eq_true, Nat.reduceEqDiff, ↓reduceIte, eq_self, Nat.reduceAdd, Nat.reduceMul, Nat.reduceSub, Nat.reduceLeDiff, Nat.reduceLT, defd, cellsOf, wr, packR, Int.reduceLE, Int.reduceLT, Int.reduceEq, Int.cast_ofNat_Int, Int.reduceToNat]
    refine (flist_2 hl (fkeys2 hm2) hs p a.val false (by omega) hv hm.2).sc (vs := [.ptr 0 0, .s a.val, .pf [.fn m2 [] []] 0, .pf [.b false] 0]) [0] (Lent.of (by decide) ?_) ?_
    · simp [lent_cons, lent_nil, pushs_cons, pushs_nil, push_mk, shb, shv, shvs, bnds, bnd, rnvs, rnv, gAt, vW, bw_map, mapAt_map, mapClo_it, mapClo_nil, mapClo_cons, vP, vZ, Tr.get_set, cPol, bnd_clo, clo, clos, rnv_clo]
    simp only [backH, List.cons_append, List.nil_append, List.length_cons, List.length_nil, Nat.zero_add, Nat.reduceAdd, List.take_succ_cons, List.take_zero, List.drop_succ_cons, List.drop_zero, List.map_cons, List.map_nil, rnb, rnvs, rnv, gAt, Nat.reduceLT, ↓reduceIte, List.getD_cons_zero, List.getD_cons_succ, Nat.reduceSub, puts_cons, puts_nil, pushs_cons, pushs_nil, hput_mk, push_mk, rnvs_clo rN_clos, rnvs_clo (cPol_clos _), rnv_clo, clo]
    simp only [↓vA, ↓vE, ↓vO, ↓vB, ↓vF, ↓vM, ↓vR, ↓vX, cvF_pc, vP, shb, shv, shvs, she_nil, she_cons, vC, vQ, not_false_eq_true, Nat.reduceEqDiff, ↓reduceIte, eq_self, Nat.reduceAdd, Nat.reduceMul, Nat.reduceSub, Nat.reduceLeDiff, Nat.reduceLT, defd, cellsOf, wr, packR, Int.reduceLE, Int.reduceLT, Int.reduceEq, Int.cast_ofNat_Int, Int.reduceToNat]
    refine S.weak (Wk.mk _ _ [0, 1, 2, 3] ?_ ?_ ?_ rfl) (fset_tail g1 g2 { p with log := (stepM E p.log a.val false).1 } a (stepM E p.log a.val false).2 (by omega))
    · simp [vW, bw_map, mapAt_map, mapClo_it, mapClo_nil, mapClo_cons, vP, vZ, Tr.get_set]
    · simp [vW, bw_map, mapAt_map, mapClo_it, mapClo_nil, mapClo_cons, vP, vZ, Tr.get_set, cPol, cAsg, zPolC, nvs_self, rN_clos]
      try decide
    · simp
  by_cases n2 : a.key = kErr
  · simp only [↓vA, ↓vE, ↓vO, ↓vB, ↓vF, ↓vM, ↓vR, ↓vX, cvF_pc, vP, shb, shv, shvs, she_nil, she_cons, vC, vQ, not_false_eq_true, Nat.reduceEqDiff, ↓reduceIte, eq_self, Nat.reduceAdd, Nat.reduceMul, Nat.reduceSub, Nat.reduceLeDiff, Nat.reduceLT, defd, cellsOf, wr, packR, Int.reduceLE, Int.reduceLT, Int.reduceEq, Int.cast_ofNat_Int, Int.reduceToNat, n0, n1, n2, if_true]
    refine S.weak (Wk.mk [(2, .ptr 0 0), (3, .ptr 1 0), (4, .ptr 2 0), (6, .fn m3 [] [])] [.cells 0 true false (cPol p), .cells 0 true false (cAsg a), .cells 0 true false zPolC] [0, 1, 2] ?_ ?_ ?_ rfl) (V_sound ?_)
    · simp [vW, bw_map, mapAt_map, mapClo_it, mapClo_nil, mapClo_cons, vP, vZ, Tr.get_set, clo, clos]
    · simp [vW, bw_map, mapAt_map, mapClo_it, mapClo_nil, mapClo_cons, vP, vZ, Tr.get_set, cPol, cAsg, zPolC, nvs_self]
      try decide
    · simp
    simp only [ir_filter_Set_c4, cAsg, zPolC, argsT, H0, mkT, mkH, trL, List.length_cons, List.length_nil, Nat.reduceAdd, Nat.zero_add]
    simp only [↓vA, ↓vE, ↓vO, ↓vB, ↓vF, ↓vM, ↓vR, ↓vX, cvF_pc, vP, shb, shv, shvs, she_nil, she_cons, vC, vQ, not_false_eq_true, Nat.reduceEqDiff, ↓reduceIte, eq_self, Nat.reduceAdd, Nat.reduceMul, Nat.reduceSub, Nat.reduceLeDiff, Nat.reduceLT, defd, cellsOf, wr, packR, Int.reduceLE, Int.reduceLT, Int.reduceEq, Int.cast_ofNat_Int, Int.reduceToNat]
    by_cases hz : (errF a.val).2 = 0
    · have hM : setF E p a.key a.val = ({ p with deny := (errF a.val).1 }, []) := by unfold setF; rw [if_neg n0, if_neg n1, if_pos n2, if_pos hz]
      rw [hM]
      refine (fkeys3_ok hm3 he p a.val hv hz).sc (vs := [.ptr 0 0, .s a.val]) [0] (Lent.of (by decide) ?_) ?_
      · simp [lent_cons, lent_nil, pushs_cons, pushs_nil, push_mk, shb, shv, shvs, bnds, bnd, rnvs, rnv, gAt, vW, bw_map, mapAt_map, mapClo_it, mapClo_nil, mapClo_cons, vP, vZ, Tr.get_set, cPol, bnd_clo, clo, clos, rnv_clo]
      simp only [backH, List.cons_append, List.nil_append, List.length_cons, List.length_nil, Nat.zero_add, Nat.reduceAdd, List.take_succ_cons, List.take_zero, List.drop_succ_cons, List.drop_zero, List.map_cons, List.map_nil, rnb, rnvs, rnv, gAt, Nat.reduceLT, ↓reduceIte, List.getD_cons_zero, List.getD_cons_succ, Nat.reduceSub, puts_cons, puts_nil, pushs_cons, pushs_nil, hput_mk, push_mk, rnvs_clo (cPol_clos _), rnv_clo, clo]
      simp only [↓vA, ↓vE, ↓vO, ↓vB, ↓vF, ↓vM, ↓vR, ↓vX, cvF_pc, vP, shb, shv, shvs, she_nil, she_cons, vC, vQ, not_false_eq_true, Nat.reduceEqDiff, ↓reduceIte, eq_self, Nat.reduceAdd, Nat.reduceMul, Nat.reduceSub, Nat.reduceLeDiff, Nat.reduceLT, defd, cellsOf, wr, packR, Int.reduceLE, Int.reduceLT, Int.reduceEq, Int.cast_ofNat_Int, Int.reduceToNat]
      refine S.weak (Wk.mk _ _ [0, 1, 2, 3] ?_ ?_ ?_ rfl) (fset_tail g1 g2 { p with deny := (errF a.val).1 } a [] (by simp))
      · simp [vW, bw_map, mapAt_map, mapClo_it, mapClo_nil, mapClo_cons, vP, vZ, Tr.get_set]
      · simp [vW, bw_map, mapAt_map, mapClo_it, mapClo_nil, mapClo_cons, vP, vZ, Tr.get_set, cPol, cAsg, zPolC, nvs_self, rN_nil]
        try decide
      · simp
    · have hM : setF E p a.key a.val = (p, [noteW (errF a.val).2 a.val]) := by unfold setF; rw [if_neg n0, if_neg n1, if_pos n2, if_neg hz]
      rw [hM]
      refine (fkeys3_no hm3 he p a.val hv hz).sc (vs := [.ptr 0 0, .s a.val]) [0] (Lent.of (by decide) ?_) ?_
      · simp [lent_cons, lent_nil, pushs_cons, pushs_nil, push_mk, shb, shv, shvs, bnds, bnd, rnvs, rnv, gAt, vW, bw_map, mapAt_map, mapClo_it, mapClo_nil, mapClo_cons, vP, vZ, Tr.get_set, cPol, bnd_clo, clo, clos, rnv_clo]
      simp only [backH, List.cons_append, List.nil_append, List.length_cons, List.length_nil, Nat.zero_add, Nat.reduceAdd, List.take_succ_cons, List.take_zero, List.drop_succ_cons, List.drop_zero, List.map_cons, List.map_nil, rnb, rnvs, rnv, gAt, Nat.reduceLT, ↓reduceIte, List.getD_cons_zero, List.getD_cons_succ, Nat.reduceSub, puts_cons, puts_nil, pushs_cons, pushs_nil, hput_mk, push_mk, rnvs_clo rN_clos, rnvs_clo (cPol_clos _), rnv_clo, clo]
      simp only [↓vA, ↓vE, ↓vO, ↓vB, ↓vF, ↓vM, ↓vR, ↓vX, cvF_pc, vP, shb, shv, shvs, she_nil, she_cons, vC, vQ, not_false_eq_true, Nat.reduceEqDiff, ↓reduceIte, eq_self, Nat.reduceAdd, Nat.reduceMul, Nat.reduceSub, Nat.reduceLeDiff, Nat.reduceLT, defd, cellsOf, wr, packR, Int.reduceLE, Int.reduceLT, Int.reduceEq, Int.cast_ofNat_Int, Int.reduceToNat]
      refine S.weak (Wk.mk _ _ [0, 1, 2, 3] ?_ ?_ ?_ rfl) (fset_one g1 g2 p a (noteW (errF a.val).2 a.val))
      · simp [vW, bw_map, mapAt_map, mapClo_it, mapClo_nil, mapClo_cons, vP, vZ, Tr.get_set]
      · simp [vW, bw_map, mapAt_map, mapClo_it, mapClo_nil, mapClo_cons, vP, vZ, Tr.get_set, cPol, cAsg, zPolC, nvs_self, rN_clos]
        try decide
      · simp
  · have hM : setF E p a.key a.val = (p, []) := by unfold setF; rw [if_neg n0, if_neg n1, if_neg n2]
    rw [hM]
    simp only [↓vA, ↓vE, ↓vO, ↓vB, ↓vF, ↓vM, ↓vR, ↓vX, cvF_pc, vP, shb, shv, shvs, she_nil, she_cons, vC, vQ, not_false_eq_true, Nat.reduceEqDiff, ↓reduceIte, eq_self, Nat.reduceAdd, Nat.reduceMul, Nat.reduceSub, Nat.reduceLeDiff, Nat.reduceLT, defd, cellsOf, wr, packR, Int.reduceLE, Int.reduceLT, Int.reduceEq, Int.cast_ofNat_Int, Int.reduceToNat, n0, n1, n2, if_false]
    simp [vZ, vP, Tr.get_set, cPol, rI_clos, frzs_self, rN, rC_clos]
end Go.Kc
end
section
/- FilterOwn: what the law answers. Condition: the functions' texts are these. -/
namespace Go.Kc
variable {P : Program} {f : Nat}
def oF (p : Pol) (F L : GList) (D : Int) : Pol := { p with filter := F, log := L, deny := D }
def ir_vestibulelaw17_FilterOwn_c4 (f_vestibulelaw17_Great f_vestibulelaw17_awake f_vestibulelaw17_Copied f_filter_Set f_vestibulelaw17_sameLists f_filter_Key : Nat) : ICode := .seq (.seq (.reg false [⟨(some 68), .op (.fAddr 0 (.t 2)), none⟩,
    ⟨(some 69), .op (.load1 (.t 68)), none⟩,
    ⟨(some 70), .op (.len false (.t 69)), none⟩,
    ⟨(some 71), .op (.fAddr 0 (.t 5)), none⟩,
    ⟨(some 72), .op (.load1 (.t 71)), none⟩,
    ⟨(some 73), .op (.len false (.t 72)), none⟩,
    ⟨(some 74), .op (.bin .neq (.t 70) (.t 73)), none⟩,
    ⟨(some 75), .op (.mov (.t 74)), none⟩,
    ⟨(some 76), .op (.fAddr 6 (.t 2)), (some (75, false))⟩,
    ⟨(some 77), .op (.load1 (.t 76)), (some (75, false))⟩,
    ⟨(some 78), .op (.len false (.t 77)), (some (75, false))⟩,
    ⟨(some 79), .op (.fAddr 6 (.t 5)), (some (75, false))⟩,
    ⟨(some 80), .op (.load1 (.t 79)), (some (75, false))⟩,
    ⟨(some 81), .op (.len false (.t 80)), (some (75, false))⟩,
    ⟨(some 82), .op (.bin .neq (.t 78) (.t 81)), (some (75, false))⟩,
    ⟨(some 83), .op (.pick (.t 75) (.c (.b true)) (.t 82)), none⟩,
    ⟨(some 84), .op (.mov (.t 83)), none⟩,
    ⟨(some 85), .op (.fAddr 7 (.t 2)), (some (84, false))⟩,
    ⟨(some 86), .op (.load1 (.t 85)), (some (84, false))⟩,
    ⟨(some 87), .op (.fAddr 7 (.t 5)), (some (84, false))⟩,
    ⟨(some 88), .op (.load1 (.t 87)), (some (84, false))⟩,
    ⟨(some 89), .op (.bin .neq (.t 86) (.t 88)), (some (84, false))⟩,
    ⟨(some 90), .op (.pick (.t 84) (.c (.b true)) (.t 89)), none⟩,
    ⟨(some 91), .op (.mov (.t 90)), none⟩,
    ⟨(some 92), .op (.fAddr 8 (.t 2)), (some (91, false))⟩,
    ⟨(some 93), .op (.load1 (.t 92)), (some (91, false))⟩,
    ⟨(some 94), .op (.fAddr 8 (.t 5)), (some (91, false))⟩,
    ⟨(some 95), .op (.load1 (.t 94)), (some (91, false))⟩,
    ⟨(some 96), .op (.bin .neq (.t 93) (.t 95)), (some (91, false))⟩,
    ⟨(some 97), .op (.pick (.t 91) (.c (.b true)) (.t 96)), none⟩,
    ⟨(some 98), .op (.mov (.t 97)), none⟩,
    ⟨(some 99), .op (.fAddr 9 (.t 2)), (some (98, false))⟩,
    ⟨(some 100), .op (.load1 (.t 99)), (some (98, false))⟩,
    ⟨(some 101), .op (.fAddr 9 (.t 5)), (some (98, false))⟩,
    ⟨(some 102), .op (.load1 (.t 101)), (some (98, false))⟩,
    ⟨(some 103), .op (.eqB true (.t 100) (.t 102)), (some (98, false))⟩,
    ⟨(some 104), .op (.pick (.t 98) (.c (.b true)) (.t 103)), none⟩,
    ⟨(some 105), .op (.mov (.t 104)), none⟩,
    ⟨(some 106), .op (.fAddr 10 (.t 2)), (some (105, false))⟩,
    ⟨(some 107), .op (.load1 (.t 106)), (some (105, false))⟩,
    ⟨(some 108), .op (.fAddr 10 (.t 5)), (some (105, false))⟩,
    ⟨(some 109), .op (.load1 (.t 108)), (some (105, false))⟩,
    ⟨(some 110), .op (.eqB true (.t 107) (.t 109)), (some (105, false))⟩,
    ⟨(some 111), .op (.pick (.t 105) (.c (.b true)) (.t 110)), none⟩,
    ⟨(some 112), .op (.mov (.t 111)), none⟩,
    ⟨(some 113), .op (.fAddr 11 (.t 2)), (some (112, false))⟩,
    ⟨(some 114), .op (.load1 (.t 113)), (some (112, false))⟩,
    ⟨(some 115), .op (.fAddr 11 (.t 5)), (some (112, false))⟩,
    ⟨(some 116), .op (.load1 (.t 115)), (some (112, false))⟩,
    ⟨(some 117), .op (.eqB true (.t 114) (.t 116)), (some (112, false))⟩,
    ⟨(some 118), .op (.pick (.t 112) (.c (.b true)) (.t 117)), none⟩,
    ⟨(some 119), .op (.mov (.t 118)), none⟩,
    ⟨(some 120), .op (.fAddr 12 (.t 2)), (some (119, false))⟩,
    ⟨(some 121), .op (.load1 (.t 120)), (some (119, false))⟩,
    ⟨(some 122), .op (.fAddr 12 (.t 5)), (some (119, false))⟩,
    ⟨(some 123), .op (.load1 (.t 122)), (some (119, false))⟩,
    ⟨(some 124), .op (.eqB true (.t 121) (.t 123)), (some (119, false))⟩,
    ⟨(some 125), .op (.pick (.t 119) (.c (.b true)) (.t 124)), none⟩])
  (.cond (.t 125) (.seq (.reg false [⟨(some 4), .op (.mov (.c (.b false))), none⟩])
  (.ret)) (.skip)))
  (.seq (.seq (.reg false [⟨(some 7), .op (.mov (.c (.i .i64 0))), none⟩])
  (.blk 0 (.loop (.seq (.seq (.reg false [⟨(some 126), .op (.mov (.t 7)), none⟩,
    ⟨(some 127), .op (.fAddr 0 (.t 2)), none⟩,
    ⟨(some 128), .op (.load1 (.t 127)), none⟩,
    ⟨(some 129), .op (.len false (.t 128)), none⟩,
    ⟨(some 130), .op (.bin .lss (.t 126) (.t 129)), none⟩])
  (.cond (.t 130) (.skip) (.exit 0)))
  (.seq (.blk 1 (.seq (.reg true [⟨(some 133), .op (.fAddr 0 (.t 2)), none⟩,
    ⟨(some 134), .op (.load1 (.t 133)), none⟩,
    ⟨(some 135), .op (.mov (.t 7)), none⟩,
    ⟨(some 136), .op (.iAddrS 1 (.t 134) (.t 135)), none⟩,
    ⟨(some 137), .op (.load1 (.t 136)), none⟩,
    ⟨(some 138), .op (.fAddr 0 (.t 5)), none⟩,
    ⟨(some 139), .op (.load1 (.t 138)), none⟩,
    ⟨(some 140), .op (.mov (.t 7)), none⟩,
    ⟨(some 141), .op (.iAddrS 1 (.t 139) (.t 140)), none⟩,
    ⟨(some 142), .op (.load1 (.t 141)), none⟩,
    ⟨(some 143), .op (.bin .neq (.t 137) (.t 142)), none⟩])
  (.cond (.t 143) (.seq (.reg false [⟨(some 4), .op (.mov (.c (.b false))), none⟩])
  (.ret)) (.skip))))
  (.reg false [⟨(some 131), .op (.mov (.t 7)), none⟩,
    ⟨(some 132), .op (.bin .add (.t 131) (.c (.i .i64 1))), none⟩,
    ⟨(some 7), .op (.mov (.t 132)), none⟩]))))))
  (.seq (.seq (.reg false [⟨(some 8), .op (.mov (.c (.i .i64 0))), none⟩])
  (.blk 2 (.loop (.seq (.seq (.reg false [⟨(some 144), .op (.mov (.t 8)), none⟩,
    ⟨(some 145), .op (.fAddr 6 (.t 2)), none⟩,
    ⟨(some 146), .op (.load1 (.t 145)), none⟩,
    ⟨(some 147), .op (.len false (.t 146)), none⟩,
    ⟨(some 148), .op (.bin .lss (.t 144) (.t 147)), none⟩])
  (.cond (.t 148) (.skip) (.exit 2)))
  (.seq (.blk 3 (.seq (.reg true [⟨(some 151), .op (.fAddr 6 (.t 2)), none⟩,
    ⟨(some 152), .op (.load1 (.t 151)), none⟩,
    ⟨(some 153), .op (.mov (.t 8)), none⟩,
    ⟨(some 154), .op (.iAddrS 1 (.t 152) (.t 153)), none⟩,
    ⟨(some 155), .op (.load1 (.t 154)), none⟩,
    ⟨(some 156), .op (.fAddr 6 (.t 5)), none⟩,
    ⟨(some 157), .op (.load1 (.t 156)), none⟩,
    ⟨(some 158), .op (.mov (.t 8)), none⟩,
    ⟨(some 159), .op (.iAddrS 1 (.t 157) (.t 158)), none⟩,
    ⟨(some 160), .op (.load1 (.t 159)), none⟩,
    ⟨(some 161), .op (.bin .neq (.t 155) (.t 160)), none⟩])
  (.cond (.t 161) (.seq (.reg false [⟨(some 4), .op (.mov (.c (.b false))), none⟩])
  (.ret)) (.skip))))
  (.reg false [⟨(some 149), .op (.mov (.t 8)), none⟩,
    ⟨(some 150), .op (.bin .add (.t 149) (.c (.i .i64 1))), none⟩,
    ⟨(some 8), .op (.mov (.t 150)), none⟩]))))))
  (.seq (.seq (.reg false [⟨(some 9), .op (.mov (.c (.i .i64 0))), none⟩])
  (.blk 4 (.loop (.seq (.seq (.reg false [⟨(some 162), .op (.mov (.t 9)), none⟩,
    ⟨(some 163), .op (.mov (.t 6)), none⟩,
    ⟨(some 164), .op (.len false (.t 163)), none⟩,
    ⟨(some 165), .op (.bin .lss (.t 162) (.t 164)), none⟩])
  (.cond (.t 165) (.skip) (.exit 4)))
  (.seq (.blk 5 (.seq (.reg true [⟨(some 168), .op (.mov (.t 6)), none⟩,
    ⟨(some 169), .op (.mov (.t 9)), none⟩,
    ⟨(some 170), .op (.iAddrS 4 (.t 168) (.t 169)), none⟩,
    ⟨(some 171), .op (.fAddr 0 (.t 170)), none⟩,
    ⟨(some 172), .op (.load1 (.t 171)), none⟩,
    ⟨(some 173), .op (.fAddr 0 (.t 3)), none⟩,
    ⟨(some 174), .op (.load1 (.t 173)), none⟩,
    ⟨(some 175), .op (.bin .neq (.t 172) (.t 174)), none⟩,
    ⟨(some 176), .op (.mov (.t 175)), none⟩,
    ⟨(some 177), .op (.mov (.t 6)), (some (176, false))⟩,
    ⟨(some 178), .op (.mov (.t 9)), (some (176, false))⟩,
    ⟨(some 179), .op (.iAddrS 4 (.t 177) (.t 178)), (some (176, false))⟩,
    ⟨(some 180), .op (.fAddr 1 (.t 179)), (some (176, false))⟩,
    ⟨(some 181), .op (.load1 (.t 180)), (some (176, false))⟩,
    ⟨(some 182), .op (.fAddr 1 (.t 3)), (some (176, false))⟩,
    ⟨(some 183), .op (.load1 (.t 182)), (some (176, false))⟩,
    ⟨(some 184), .op (.bin .neq (.t 181) (.t 183)), (some (176, false))⟩,
    ⟨(some 185), .op (.pick (.t 176) (.c (.b true)) (.t 184)), none⟩])
  (.cond (.t 185) (.seq (.reg false [⟨(some 4), .op (.mov (.c (.b false))), none⟩])
  (.ret)) (.skip))))
  (.reg false [⟨(some 166), .op (.mov (.t 9)), none⟩,
    ⟨(some 167), .op (.bin .add (.t 166) (.c (.i .i64 1))), none⟩,
    ⟨(some 9), .op (.mov (.t 167)), none⟩]))))))
  (.seq (.reg false [⟨(some 186), .callF f_vestibulelaw17_awake [], none⟩,
    ⟨(some 4), .op (.mov (.t 186)), none⟩])
  (.ret)))))
def ir_vestibulelaw17_FilterOwn_c3 (f_vestibulelaw17_Great f_vestibulelaw17_awake f_vestibulelaw17_Copied f_filter_Set f_vestibulelaw17_sameLists f_filter_Key : Nat) : ICode := .seq (.seq (.reg false [⟨(some 21), .op (.fAddr 3 (.t 3)), none⟩,
    ⟨(some 22), .op (.load1 (.t 21)), none⟩,
    ⟨(some 23), .op (.bin .neq (.t 22) (.c (.s [83, 121, 115, 116, 101, 109, 67, 97, 108, 108, 70, 105, 108, 116, 101, 114]))), none⟩,
    ⟨(some 24), .op (.mov (.t 23)), none⟩,
    ⟨(some 25), .op (.fAddr 1 (.t 2)), (some (24, true))⟩,
    ⟨(some 26), .op (.loadN 2 (.t 25)), (some (24, true))⟩,
    ⟨(some 27), .op (.fAddr 1 (.t 5)), (some (24, true))⟩,
    ⟨(some 28), .op (.loadN 2 (.t 27)), (some (24, true))⟩,
    ⟨(some 29), .callF f_vestibulelaw17_sameLists [(.t 26), (.t 28)], (some (24, true))⟩,
    ⟨(some 30), .op (.un .not (.t 29)), (some (24, true))⟩,
    ⟨(some 31), .op (.pick (.t 24) (.t 30) (.c (.b false))), none⟩,
    ⟨(some 32), .op (.mov (.t 31)), none⟩,
    ⟨(some 33), .op (.fAddr 3 (.t 3)), (some (32, false))⟩,
    ⟨(some 34), .op (.load1 (.t 33)), (some (32, false))⟩,
    ⟨(some 35), .op (.bin .neq (.t 34) (.c (.s [83, 121, 115, 116, 101, 109, 67, 97, 108, 108, 76, 111, 103]))), (some (32, false))⟩,
    ⟨(some 36), .op (.mov (.t 35)), (some (32, false))⟩,
    ⟨(some 37), .op (.fAddr 4 (.t 2)), (some (36, true))⟩,
    ⟨(some 38), .op (.loadN 2 (.t 37)), (some (36, true))⟩,
    ⟨(some 39), .op (.fAddr 4 (.t 5)), (some (36, true))⟩,
    ⟨(some 40), .op (.loadN 2 (.t 39)), (some (36, true))⟩,
    ⟨(some 41), .callF f_vestibulelaw17_sameLists [(.t 38), (.t 40)], (some (36, true))⟩,
    ⟨(some 42), .op (.un .not (.t 41)), (some (36, true))⟩,
    ⟨(some 43), .op (.pick (.t 36) (.t 42) (.c (.b false))), (some (32, false))⟩,
    ⟨(some 44), .op (.pick (.t 32) (.c (.b true)) (.t 43)), none⟩,
    ⟨(some 45), .op (.mov (.t 44)), none⟩,
    ⟨(some 46), .op (.fAddr 3 (.t 3)), (some (45, false))⟩,
    ⟨(some 47), .op (.load1 (.t 46)), (some (45, false))⟩,
    ⟨(some 48), .op (.bin .neq (.t 47) (.c (.s [83, 121, 115, 116, 101, 109, 67, 97, 108, 108, 69, 114, 114, 111, 114, 78, 117, 109, 98, 101, 114]))), (some (45, false))⟩,
    ⟨(some 49), .op (.mov (.t 48)), (some (45, false))⟩,
    ⟨(some 50), .op (.fAddr 3 (.t 2)), (some (49, true))⟩,
    ⟨(some 51), .op (.load1 (.t 50)), (some (49, true))⟩,
    ⟨(some 52), .op (.fAddr 3 (.t 5)), (some (49, true))⟩,
    ⟨(some 53), .op (.load1 (.t 52)), (some (49, true))⟩,
    ⟨(some 54), .op (.bin .neq (.t 51) (.t 53)), (some (49, true))⟩,
    ⟨(some 55), .op (.pick (.t 49) (.t 54) (.c (.b false))), (some (45, false))⟩,
    ⟨(some 56), .op (.pick (.t 45) (.c (.b true)) (.t 55)), none⟩,
    ⟨(some 57), .op (.mov (.t 56)), none⟩,
    ⟨(some 58), .op (.fAddr 3 (.t 3)), (some (57, false))⟩,
    ⟨(some 59), .op (.load1 (.t 58)), (some (57, false))⟩,
    ⟨(some 60), .callF f_filter_Key [(.t 59)], (some (57, false))⟩,
    ⟨(some 61), .op (.un .not (.t 60)), (some (57, false))⟩,
    ⟨(some 62), .op (.mov (.t 61)), (some (57, false))⟩,
    ⟨(some 63), .op (.mov (.t 6)), (some (62, true))⟩,
    ⟨(some 64), .op (.len false (.t 63)), (some (62, true))⟩,
    ⟨(some 65), .op (.bin .gtr (.t 64) (.c (.i .i64 0))), (some (62, true))⟩,
    ⟨(some 66), .op (.pick (.t 62) (.t 65) (.c (.b false))), (some (57, false))⟩,
    ⟨(some 67), .op (.pick (.t 57) (.c (.b true)) (.t 66)), none⟩])
  (.cond (.t 67) (.seq (.reg false [⟨(some 4), .op (.mov (.c (.b false))), none⟩])
  (.ret)) (.skip)))
  (.cut (ir_vestibulelaw17_FilterOwn_c4 f_vestibulelaw17_Great f_vestibulelaw17_awake f_vestibulelaw17_Copied f_filter_Set f_vestibulelaw17_sameLists f_filter_Key))
def ir_vestibulelaw17_FilterOwn (f_vestibulelaw17_Great f_vestibulelaw17_awake f_vestibulelaw17_Copied f_filter_Set f_vestibulelaw17_sameLists f_filter_Key : Nat) : IFn := ⟨[.tmp 4],
  .seq (.reg false [⟨(some 2), .op (.box (.t 0)), none⟩,
    ⟨(some 3), .op (.box (.t 1)), none⟩,
    ⟨(some 4), .op (.mov (.c (.b false))), none⟩])
  (.seq (.seq (.reg false [⟨(some 10), .op (.loadN 13 (.t 2)), none⟩,
    ⟨(some 11), .op (.loadN 5 (.t 3)), none⟩,
    ⟨(some 12), .callF f_vestibulelaw17_Great [(.t 10), (.t 11)], none⟩])
  (.cond (.t 12) (.seq (.reg false [⟨(some 13), .callF f_vestibulelaw17_awake [], none⟩,
    ⟨(some 4), .op (.mov (.t 13)), none⟩])
  (.ret)) (.skip)))
  (.seq (.reg true [⟨(some 15), .op (.loadN 13 (.t 2)), none⟩,
    ⟨(some 16), .callF f_vestibulelaw17_Copied [(.t 15)], none⟩,
    ⟨(some 17), .op (.loadN 5 (.t 3)), none⟩,
    ⟨(some 18), .callF f_filter_Set [(.t 16), (.t 17)], none⟩,
    ⟨(some 14), .op (.mov (.t 18)), none⟩,
    ⟨(some 19), .op (.ext (.t 14) 0), none⟩,
    ⟨(some 20), .op (.ext (.t 14) 1), none⟩,
    ⟨(some 5), .op (.alloc [.nils, .i .u8 0, .nils, .i .u32 0, .i .u8 0, .nils, .nils, .i .u8 0, .i .u64 0, .b false, .b false, .b false, .b false]), none⟩,
    ⟨none, .op (.store 13 (.t 5) (.t 19)), none⟩,
    ⟨(some 6), .op (.mov (.t 20)), none⟩])
  (.cut (ir_vestibulelaw17_FilterOwn_c3 f_vestibulelaw17_Great f_vestibulelaw17_awake f_vestibulelaw17_Copied f_filter_Set f_vestibulelaw17_sameLists f_filter_Key))))⟩
set_option maxRecDepth 8000 in
theorem fown_c4 {g1 g2 g3 g4 g5 g6 : Nat} (h2 : Pure P g2 [] (.b true)) (p : Pol) (hpa : p.arches.length ≤ 1000) (hpf : p.fams.length ≤ 1000) (a : Asg) (F L : GList) (D : Int) (ns : List GNote) (hn : ns.length ≤ 10000) :
    S P 0 (ir_vestibulelaw17_FilterOwn_c4 g1 g2 g3 g4 g5 g6) (endX [.tmp 4] fun v' h' => Frz h' v' (.b true))
      (mkT [(2, .ptr 0 0), (3, .ptr 1 0), (5, .ptr 2 0), (6, .fz ns.length (rN (ns.map (place a))))]) (mkH 0 [.cells 0 true false (cPol p), .cells 0 true false (cAsg a), .cells 0 true false (cPol (oF p F L D))]) := by
  have hcl : clos (rN (ns.map (place a))) = true := rN_clos
  refine V_sound ?_
  simp only [ir_vestibulelaw17_FilterOwn_c4, cPol, cAsg, oF, argsT, H0, mkT, mkH, trL, List.length_cons, List.length_nil, Nat.reduceAdd, Nat.zero_add]
  simp (decide := true) only [↓vA, ↓vE, ↓vO, ↓vB, ↓vF, ↓vM, ↓vR, ↓vX, cvF_pc, vP, shb, shv, shvs, she_nil, she_cons, vC, vQ, not_false_eq_true, Nat.reduceEqDiff, ↓reduceIte, eq_self, Nat.reduceAdd, Nat.reduceMul, Nat.reduceSub, Nat.reduceLeDiff, Nat.reduceLT, defd, cellsOf, wr, packR, Int.reduceLE, Int.reduceLT, Int.reduceEq, Int.cast_ofNat_Int, Int.reduceToNat, beq_self_eq_true]
  refine SL.loop (α := Nat) (fun j => [(2, .ptr 0 0), (3, .ptr 1 0), (5, .ptr 2 0), (6, .fz ns.length (rN (ns.map (place a)))), (7, .i .i64 j)])
    (fun _ => [.cells 0 true false (cPol p), .cells 0 true false (cAsg a), .cells 0 true false (cPol (oF p F L D))]) (fun j => j ≤ p.arches.length) (fun j => p.arches.length - j) 0 [0, 1, 2] ?_ ?_ ?_ rfl ?_ ?_
  · simp [vW, bw_map, mapAt_map, mapClo_it, mapClo_nil, mapClo_cons, vP, vZ, Tr.get_set, hcl]
  · simp [vW, bw_map, mapAt_map, mapClo_it, mapClo_nil, mapClo_cons, vP, vZ, Tr.get_set, cPol, cAsg, oF]
  · simp
  · exact Nat.zero_le _
  rintro j0 hj0 G0 ih0
  simp only [argsT, H0, mkT, mkH, trL, List.length_cons, List.length_nil, Nat.reduceAdd, Nat.zero_add, cPol, cAsg, oF]
  by_cases hlt0 : j0 < p.arches.length
  · have hx : p.arches[j0]? = some p.arches[j0] := List.getElem?_eq_getElem hlt0
    have hw : IntKind.wrap .i64 ((j0 : Int) + 1) = ((j0 + 1 : Nat) : Int) := by rw [wrap64 (by omega) (by omega)]; omega
    simp only [↓vA, ↓vE, ↓vO, ↓vB, ↓vF, ↓vM, ↓vR, ↓vX, cvF_pc, vP, shb, shv, shvs, she_nil, she_cons, vC, vQ, not_false_eq_true, Nat.reduceEqDiff, ↓reduceIte, eq_self, Nat.reduceAdd, Nat.reduceMul, Nat.reduceSub, Nat.reduceLeDiff, Nat.reduceLT, defd, cellsOf, wr, packR, Int.reduceLE, Int.reduceLT, Int.reduceEq, Int.cast_ofNat_Int, Int.reduceToNat, hlt0]
    refine VD_pc ?_
    simp (decide := true) only [↓vA, ↓vE, ↓vO, ↓vB, ↓vF, ↓vM, ↓vR, ↓vX, cvF_pc, vP, shb, shv, shvs, she_nil, she_cons, vC, vQ, not_false_eq_true, Nat.reduceEqDiff, ↓reduceIte, eq_self, Nat.reduceAdd, Nat.reduceMul, Nat.reduceSub, Nat.reduceLeDiff, Nat.reduceLT, defd, cellsOf, wr, packR, Int.reduceLE, Int.reduceLT, Int.reduceEq, Int.cast_ofNat_Int, Int.reduceToNat, hlt0, hw, Nat.mul_one, rI_get, hx, Option.map_some, beq_self_eq_true]
    refine ih0 (j0 + 1) (by omega) (by omega) _ _ (Wk.mk _ _ [0, 1, 2] ?_ ?_ ?_ rfl)
    · simp [vW, bw_map, mapAt_map, mapClo_it, mapClo_nil, mapClo_cons, vP, vZ, Tr.get_set, hcl]
    · simp [vW, bw_map, mapAt_map, mapClo_it, mapClo_nil, mapClo_cons, vP, vZ, Tr.get_set, cPol, cAsg, oF]
    · simp
  simp only [↓vA, ↓vE, ↓vO, ↓vB, ↓vF, ↓vM, ↓vR, ↓vX, cvF_pc, vP, shb, shv, shvs, she_nil, she_cons, vC, vQ, not_false_eq_true, Nat.reduceEqDiff, ↓reduceIte, eq_self, Nat.reduceAdd, Nat.reduceMul, Nat.reduceSub, Nat.reduceLeDiff, Nat.reduceLT, defd, cellsOf, wr, packR, Int.reduceLE, Int.reduceLT, Int.reduceEq, Int.cast_ofNat_Int, Int.reduceToNat, hlt0]
  refine SL.loop (α := Nat) (fun j => [(2, .ptr 0 0), (3, .ptr 1 0), (5, .ptr 2 0), (6, .fz ns.length (rN (ns.map (place a)))), (8, .i .i64 j)])
    (fun _ => [.cells 0 true false (cPol p), .cells 0 true false (cAsg a), .cells 0 true false (cPol (oF p F L D))]) (fun j => j ≤ p.fams.length) (fun j => p.fams.length - j) 0 [0, 1, 2] ?_ ?_ ?_ rfl ?_ ?_
  · simp [vW, bw_map, mapAt_map, mapClo_it, mapClo_nil, mapClo_cons, vP, vZ, Tr.get_set, hcl]
  · simp [vW, bw_map, mapAt_map, mapClo_it, mapClo_nil, mapClo_cons, vP, vZ, Tr.get_set, cPol, cAsg, oF]
  · simp
  · exact Nat.zero_le _
  clear ih0
  rintro j1 hj1 G1 ih1
  simp only [argsT, H0, mkT, mkH, trL, List.length_cons, List.length_nil, Nat.reduceAdd, Nat.zero_add, cPol, cAsg, oF]
  by_cases hlt1 : j1 < p.fams.length
  · have hx : p.fams[j1]? = some p.fams[j1] := List.getElem?_eq_getElem hlt1
    have hw : IntKind.wrap .i64 ((j1 : Int) + 1) = ((j1 + 1 : Nat) : Int) := by rw [wrap64 (by omega) (by omega)]; omega
    simp only [↓vA, ↓vE, ↓vO, ↓vB, ↓vF, ↓vM, ↓vR, ↓vX, cvF_pc, vP, shb, shv, shvs, she_nil, she_cons, vC, vQ, not_false_eq_true, Nat.reduceEqDiff, ↓reduceIte, eq_self, Nat.reduceAdd, Nat.reduceMul, Nat.reduceSub, Nat.reduceLeDiff, Nat.reduceLT, defd, cellsOf, wr, packR, Int.reduceLE, Int.reduceLT, Int.reduceEq, Int.cast_ofNat_Int, Int.reduceToNat, hlt1]
    refine VD_pc ?_
    simp (decide := true) only [↓vA, ↓vE, ↓vO, ↓vB, ↓vF, ↓vM, ↓vR, ↓vX, cvF_pc, vP, shb, shv, shvs, she_nil, she_cons, vC, vQ, not_false_eq_true, Nat.reduceEqDiff, ↓reduceIte, eq_self, Nat.reduceAdd, Nat.reduceMul, Nat.reduceSub, Nat.reduceLeDiff, Nat.reduceLT, defd, cellsOf, wr, packR, Int.reduceLE, Int.reduceLT, Int.reduceEq, Int.cast_ofNat_Int, Int.reduceToNat, hlt1, hw, Nat.mul_one, rI_get, hx, Option.map_some, beq_self_eq_true]
    refine ih1 (j1 + 1) (by omega) (by omega) _ _ (Wk.mk _ _ [0, 1, 2] ?_ ?_ ?_ rfl)
    · simp [vW, bw_map, mapAt_map, mapClo_it, mapClo_nil, mapClo_cons, vP, vZ, Tr.get_set, hcl]
    · simp [vW, bw_map, mapAt_map, mapClo_it, mapClo_nil, mapClo_cons, vP, vZ, Tr.get_set, cPol, cAsg, oF]
    · simp
  simp only [↓vA, ↓vE, ↓vO, ↓vB, ↓vF, ↓vM, ↓vR, ↓vX, cvF_pc, vP, shb, shv, shvs, she_nil, she_cons, vC, vQ, not_false_eq_true, Nat.reduceEqDiff, ↓reduceIte, eq_self, Nat.reduceAdd, Nat.reduceMul, Nat.reduceSub, Nat.reduceLeDiff, Nat.reduceLT, defd, cellsOf, wr, packR, Int.reduceLE, Int.reduceLT, Int.reduceEq, Int.cast_ofNat_Int, Int.reduceToNat, hlt1]
  refine SL.loop (α := Nat) (fun j => [(2, .ptr 0 0), (3, .ptr 1 0), (5, .ptr 2 0), (6, .fz ns.length (rN (ns.map (place a)))), (9, .i .i64 j)])
    (fun _ => [.cells 0 true false (cPol p), .cells 0 true false (cAsg a), .cells 0 true false (cPol (oF p F L D))]) (fun j => j ≤ ns.length) (fun j => ns.length - j) 0 [0, 1, 2] ?_ ?_ ?_ rfl ?_ ?_
  · simp [vW, bw_map, mapAt_map, mapClo_it, mapClo_nil, mapClo_cons, vP, vZ, Tr.get_set, hcl]
  · simp [vW, bw_map, mapAt_map, mapClo_it, mapClo_nil, mapClo_cons, vP, vZ, Tr.get_set, cPol, cAsg, oF]
  · simp
  · exact Nat.zero_le _
  clear ih1
  rintro j2 hj2 G2 ih2
  simp only [argsT, H0, mkT, mkH, trL, List.length_cons, List.length_nil, Nat.reduceAdd, Nat.zero_add, cPol, cAsg, oF]
  by_cases hlt2 : j2 < ns.length
  · have hx : (ns.map (place a))[j2]? = some (place a ns[j2]) := by rw [List.getElem?_map, List.getElem?_eq_getElem hlt2]; rfl
    have hw : IntKind.wrap .i64 ((j2 : Int) + 1) = ((j2 + 1 : Nat) : Int) := by rw [wrap64 (by omega) (by omega)]; omega
    have g0 : (rN (ns.map (place a)))[j2 * 4]? = some (.s a.file) := rN_get hx (i := 0) (by decide)
    have g1 : (rN (ns.map (place a)))[j2 * 4 + 1]? = some (.i .i64 a.line) := rN_get hx (i := 1) (by decide)
    simp only [↓vA, ↓vE, ↓vO, ↓vB, ↓vF, ↓vM, ↓vR, ↓vX, cvF_pc, vP, shb, shv, shvs, she_nil, she_cons, vC, vQ, not_false_eq_true, Nat.reduceEqDiff, ↓reduceIte, eq_self, Nat.reduceAdd, Nat.reduceMul, Nat.reduceSub, Nat.reduceLeDiff, Nat.reduceLT, defd, cellsOf, wr, packR, Int.reduceLE, Int.reduceLT, Int.reduceEq, Int.cast_ofNat_Int, Int.reduceToNat, hlt2]
    refine VD_pc ?_
    simp (decide := true) only [↓vA, ↓vE, ↓vO, ↓vB, ↓vF, ↓vM, ↓vR, ↓vX, cvF_pc, vP, shb, shv, shvs, she_nil, she_cons, vC, vQ, not_false_eq_true, Nat.reduceEqDiff, ↓reduceIte, eq_self, Nat.reduceAdd, Nat.reduceMul, Nat.reduceSub, Nat.reduceLeDiff, Nat.reduceLT, defd, cellsOf, wr, packR, Int.reduceLE, Int.reduceLT, Int.reduceEq, Int.cast_ofNat_Int, Int.reduceToNat, hlt2, hw, g0, g1, beq_self_eq_true]
    refine ih2 (j2 + 1) (by omega) (by omega) _ _ (Wk.mk _ _ [0, 1, 2] ?_ ?_ ?_ rfl)
    · simp [vW, bw_map, mapAt_map, mapClo_it, mapClo_nil, mapClo_cons, vP, vZ, Tr.get_set, hcl]
    · simp [vW, bw_map, mapAt_map, mapClo_it, mapClo_nil, mapClo_cons, vP, vZ, Tr.get_set, cPol, cAsg, oF]
    · simp
  simp only [↓vA, ↓vE, ↓vO, ↓vB, ↓vF, ↓vM, ↓vR, ↓vX, cvF_pc, vP, shb, shv, shvs, she_nil, she_cons, vC, vQ, not_false_eq_true, Nat.reduceEqDiff, ↓reduceIte, eq_self, Nat.reduceAdd, Nat.reduceMul, Nat.reduceSub, Nat.reduceLeDiff, Nat.reduceLT, defd, cellsOf, wr, packR, Int.reduceLE, Int.reduceLT, Int.reduceEq, Int.cast_ofNat_Int, Int.reduceToNat, hlt2]
  refine h2.sc ?_
  simp only [↓vA, ↓vE, ↓vO, ↓vB, ↓vF, ↓vM, ↓vR, ↓vX, cvF_pc, vP, shb, shv, shvs, she_nil, she_cons, vC, vQ, not_false_eq_true, Nat.reduceEqDiff, ↓reduceIte, eq_self, Nat.reduceAdd, Nat.reduceMul, Nat.reduceSub, Nat.reduceLeDiff, Nat.reduceLT, defd, cellsOf, wr, packR, Int.reduceLE, Int.reduceLT, Int.reduceEq, Int.cast_ofNat_Int, Int.reduceToNat]
  simp [vZ]
theorem setF_len (E : List UInt8 → List (List UInt8) × Int) (p : Pol) (k v : List UInt8) : (setF E p k v).2.length ≤ v.length + 1 := by
  have h1 := stepM_len (E := E) p.filter v true
  have h2 := stepM_len (E := E) p.log v false
  unfold setF
  repeat' split
  all_goals simp
  all_goals omega
def cSameL (P : Program) (f : Nat) : Prop := ∀ l : GList, l.calls.length ≤ 100000 → Pure P f [.agg (cList l), .agg (cList l)] (.b true)
set_option maxRecDepth 8000 in
theorem fown_c3 {g1 g2 g3 g4 g5 g6 : Nat} (h2 : Pure P g2 [] (.b true)) (h5 : cSameL P g5) (h6 : ∀ k, Pure P g6 [.s k] (.b (keyF k))) (p : Pol) (hp : PolOk p) (a : Asg) (F L : GList) (D : Int) (ns : List GNote) (hn : ns.length ≤ 10000)
    (eF : a.key ≠ kFilter → F = p.filter) (eL : a.key ≠ kLog → L = p.log) (eD : a.key ≠ kErr → D = p.deny) (eN : keyF a.key = false → ns = []) :
    S P 0 (ir_vestibulelaw17_FilterOwn_c3 g1 g2 g3 g4 g5 g6) (endX [.tmp 4] fun v' h' => Frz h' v' (.b true))
      (mkT [(2, .ptr 0 0), (3, .ptr 1 0), (5, .ptr 2 0), (6, .fz ns.length (rN (ns.map (place a))))]) (mkH 0 [.cells 0 true false (cPol p), .cells 0 true false (cAsg a), .cells 0 true false (cPol (oF p F L D))]) := by
  refine V_sound ?_
  simp only [ir_vestibulelaw17_FilterOwn_c3, cPol, cAsg, oF, argsT, H0, mkT, mkH, trL, List.length_cons, List.length_nil, Nat.reduceAdd, Nat.zero_add]
  by_cases n0 : a.key = kFilter
  · have e2 := eL (by rw [n0]; decide)
    have e3 := eD (by rw [n0]; decide)
    subst e2 e3
    have hK : keyF kFilter = true := by decide
    simp only [kFilter] at hK
    simp (decide := true) only [↓vA, ↓vE, ↓vO, ↓vB, ↓vF, ↓vM, ↓vR, ↓vX, cvF_pc, vP, shb, shv, shvs, she_nil, she_cons, vC, vQ, not_false_eq_true, Nat.reduceEqDiff, ↓reduceIte, eq_self, Nat.reduceAdd, Nat.reduceMul, Nat.reduceSub, Nat.reduceLeDiff, Nat.reduceLT, defd, cellsOf, wr, packR, Int.reduceLE, Int.reduceLT, Int.reduceEq, Int.cast_ofNat_Int, Int.reduceToNat, n0, kFilter]
    refine (h5 p.log (by have := hp.l; omega)).sc ?_
    simp (decide := true) only [↓vA, ↓vE, ↓vO, ↓vB, ↓vF, ↓vM, ↓vR, ↓vX, cvF_pc, vP, shb, shv, shvs, she_nil, she_cons, vC, vQ, not_false_eq_true, Nat.reduceEqDiff, ↓reduceIte, eq_self, Nat.reduceAdd, Nat.reduceMul, Nat.reduceSub, Nat.reduceLeDiff, Nat.reduceLT, defd, cellsOf, wr, packR, Int.reduceLE, Int.reduceLT, Int.reduceEq, Int.cast_ofNat_Int, Int.reduceToNat, n0, kFilter]
    refine (h6 _).sc ?_
    simp (decide := true) only [↓vA, ↓vE, ↓vO, ↓vB, ↓vF, ↓vM, ↓vR, ↓vX, cvF_pc, vP, shb, shv, shvs, she_nil, she_cons, vC, vQ, not_false_eq_true, Nat.reduceEqDiff, ↓reduceIte, eq_self, Nat.reduceAdd, Nat.reduceMul, Nat.reduceSub, Nat.reduceLeDiff, Nat.reduceLT, defd, cellsOf, wr, packR, Int.reduceLE, Int.reduceLT, Int.reduceEq, Int.cast_ofNat_Int, Int.reduceToNat, n0, kFilter, hK]
    refine S.weak (Wk.mk _ _ [0, 1, 2] ?_ ?_ ?_ rfl) (fown_c4 h2 p hp.a hp.f a F p.log p.deny ns hn)
    · simp [vW, bw_map, mapAt_map, mapClo_it, mapClo_nil, mapClo_cons, vP, vZ, Tr.get_set, rN_clos]
    · simp [vW, bw_map, mapAt_map, mapClo_it, mapClo_nil, mapClo_cons, vP, vZ, Tr.get_set, oF, cPol, cAsg]
    · simp
  by_cases n1 : a.key = kLog
  · have e1 := eF (by rw [n1]; decide)
    have e3 := eD (by rw [n1]; decide)
    subst e1 e3
    have hK : keyF kLog = true := by decide
    simp only [kLog] at hK
    simp (decide := true) only [↓vA, ↓vE, ↓vO, ↓vB, ↓vF, ↓vM, ↓vR, ↓vX, cvF_pc, vP, shb, shv, shvs, she_nil, she_cons, vC, vQ, not_false_eq_true, Nat.reduceEqDiff, ↓reduceIte, eq_self, Nat.reduceAdd, Nat.reduceMul, Nat.reduceSub, Nat.reduceLeDiff, Nat.reduceLT, defd, cellsOf, wr, packR, Int.reduceLE, Int.reduceLT, Int.reduceEq, Int.cast_ofNat_Int, Int.reduceToNat, n1, kLog]
    refine (h5 p.filter (by have := hp.c; omega)).sc ?_
    simp (decide := true) only [↓vA, ↓vE, ↓vO, ↓vB, ↓vF, ↓vM, ↓vR, ↓vX, cvF_pc, vP, shb, shv, shvs, she_nil, she_cons, vC, vQ, not_false_eq_true, Nat.reduceEqDiff, ↓reduceIte, eq_self, Nat.reduceAdd, Nat.reduceMul, Nat.reduceSub, Nat.reduceLeDiff, Nat.reduceLT, defd, cellsOf, wr, packR, Int.reduceLE, Int.reduceLT, Int.reduceEq, Int.cast_ofNat_Int, Int.reduceToNat, n1, kLog]
    refine (h6 _).sc ?_
    simp (decide := true) only [↓vA, ↓vE, ↓vO, ↓vB, ↓vF, ↓vM, ↓vR, ↓vX, cvF_pc, vP, shb, shv, shvs, she_nil, she_cons, vC, vQ, not_false_eq_true, Nat.reduceEqDiff, ↓reduceIte, eq_self, Nat.reduceAdd, Nat.reduceMul, Nat.reduceSub, Nat.reduceLeDiff, Nat.reduceLT, defd, cellsOf, wr, packR, Int.reduceLE, Int.reduceLT, Int.reduceEq, Int.cast_ofNat_Int, Int.reduceToNat, n1, kLog, hK]
    refine S.weak (Wk.mk _ _ [0, 1, 2] ?_ ?_ ?_ rfl) (fown_c4 h2 p hp.a hp.f a p.filter L p.deny ns hn)
    · simp [vW, bw_map, mapAt_map, mapClo_it, mapClo_nil, mapClo_cons, vP, vZ, Tr.get_set, rN_clos]
    · simp [vW, bw_map, mapAt_map, mapClo_it, mapClo_nil, mapClo_cons, vP, vZ, Tr.get_set, oF, cPol, cAsg]
    · simp
  by_cases n2 : a.key = kErr
  · have e1 := eF (by rw [n2]; decide)
    have e2 := eL (by rw [n2]; decide)
    subst e1 e2
    have hK : keyF kErr = true := by decide
    simp only [kErr] at hK
    simp (decide := true) only [↓vA, ↓vE, ↓vO, ↓vB, ↓vF, ↓vM, ↓vR, ↓vX, cvF_pc, vP, shb, shv, shvs, she_nil, she_cons, vC, vQ, not_false_eq_true, Nat.reduceEqDiff, ↓reduceIte, eq_self, Nat.reduceAdd, Nat.reduceMul, Nat.reduceSub, Nat.reduceLeDiff, Nat.reduceLT, defd, cellsOf, wr, packR, Int.reduceLE, Int.reduceLT, Int.reduceEq, Int.cast_ofNat_Int, Int.reduceToNat, n2, kErr]
    refine (h5 p.filter (by have := hp.c; omega)).sc ?_
    simp (decide := true) only [↓vA, ↓vE, ↓vO, ↓vB, ↓vF, ↓vM, ↓vR, ↓vX, cvF_pc, vP, shb, shv, shvs, she_nil, she_cons, vC, vQ, not_false_eq_true, Nat.reduceEqDiff, ↓reduceIte, eq_self, Nat.reduceAdd, Nat.reduceMul, Nat.reduceSub, Nat.reduceLeDiff, Nat.reduceLT, defd, cellsOf, wr, packR, Int.reduceLE, Int.reduceLT, Int.reduceEq, Int.cast_ofNat_Int, Int.reduceToNat, n2, kErr]
    refine (h5 p.log (by have := hp.l; omega)).sc ?_
    simp (decide := true) only [↓vA, ↓vE, ↓vO, ↓vB, ↓vF, ↓vM, ↓vR, ↓vX, cvF_pc, vP, shb, shv, shvs, she_nil, she_cons, vC, vQ, not_false_eq_true, Nat.reduceEqDiff, ↓reduceIte, eq_self, Nat.reduceAdd, Nat.reduceMul, Nat.reduceSub, Nat.reduceLeDiff, Nat.reduceLT, defd, cellsOf, wr, packR, Int.reduceLE, Int.reduceLT, Int.reduceEq, Int.cast_ofNat_Int, Int.reduceToNat, n2, kErr]
    refine (h6 _).sc ?_
    simp (decide := true) only [↓vA, ↓vE, ↓vO, ↓vB, ↓vF, ↓vM, ↓vR, ↓vX, cvF_pc, vP, shb, shv, shvs, she_nil, she_cons, vC, vQ, not_false_eq_true, Nat.reduceEqDiff, ↓reduceIte, eq_self, Nat.reduceAdd, Nat.reduceMul, Nat.reduceSub, Nat.reduceLeDiff, Nat.reduceLT, defd, cellsOf, wr, packR, Int.reduceLE, Int.reduceLT, Int.reduceEq, Int.cast_ofNat_Int, Int.reduceToNat, n2, kErr, hK]
    refine S.weak (Wk.mk _ _ [0, 1, 2] ?_ ?_ ?_ rfl) (fown_c4 h2 p hp.a hp.f a p.filter p.log D ns hn)
    · simp [vW, bw_map, mapAt_map, mapClo_it, mapClo_nil, mapClo_cons, vP, vZ, Tr.get_set, rN_clos]
    · simp [vW, bw_map, mapAt_map, mapClo_it, mapClo_nil, mapClo_cons, vP, vZ, Tr.get_set, oF, cPol, cAsg]
    · simp
  have e1 := eF n0
  have e2 := eL n1
  have e3 := eD n2
  subst e1 e2 e3
  have hK : keyF a.key = false := by simp [keyF, n0, n1, n2]
  have e4 := eN hK
  subst e4
  have n0' : ¬ a.key = [83, 121, 115, 116, 101, 109, 67, 97, 108, 108, 70, 105, 108, 116, 101, 114] := n0
  have n1' : ¬ a.key = [83, 121, 115, 116, 101, 109, 67, 97, 108, 108, 76, 111, 103] := n1
  have n2' : ¬ a.key = [83, 121, 115, 116, 101, 109, 67, 97, 108, 108, 69, 114, 114, 111, 114, 78, 117, 109, 98, 101, 114] := n2
  simp (decide := true) only [↓vA, ↓vE, ↓vO, ↓vB, ↓vF, ↓vM, ↓vR, ↓vX, cvF_pc, vP, shb, shv, shvs, she_nil, she_cons, vC, vQ, not_false_eq_true, Nat.reduceEqDiff, ↓reduceIte, eq_self, Nat.reduceAdd, Nat.reduceMul, Nat.reduceSub, Nat.reduceLeDiff, Nat.reduceLT, defd, cellsOf, wr, packR, Int.reduceLE, Int.reduceLT, Int.reduceEq, Int.cast_ofNat_Int, Int.reduceToNat, n0', n1', n2']
  refine (h5 p.filter (by have := hp.c; omega)).sc ?_
  simp (decide := true) only [↓vA, ↓vE, ↓vO, ↓vB, ↓vF, ↓vM, ↓vR, ↓vX, cvF_pc, vP, shb, shv, shvs, she_nil, she_cons, vC, vQ, not_false_eq_true, Nat.reduceEqDiff, ↓reduceIte, eq_self, Nat.reduceAdd, Nat.reduceMul, Nat.reduceSub, Nat.reduceLeDiff, Nat.reduceLT, defd, cellsOf, wr, packR, Int.reduceLE, Int.reduceLT, Int.reduceEq, Int.cast_ofNat_Int, Int.reduceToNat, n0', n1', n2']
  refine (h5 p.log (by have := hp.l; omega)).sc ?_
  simp (decide := true) only [↓vA, ↓vE, ↓vO, ↓vB, ↓vF, ↓vM, ↓vR, ↓vX, cvF_pc, vP, shb, shv, shvs, she_nil, she_cons, vC, vQ, not_false_eq_true, Nat.reduceEqDiff, ↓reduceIte, eq_self, Nat.reduceAdd, Nat.reduceMul, Nat.reduceSub, Nat.reduceLeDiff, Nat.reduceLT, defd, cellsOf, wr, packR, Int.reduceLE, Int.reduceLT, Int.reduceEq, Int.cast_ofNat_Int, Int.reduceToNat, n0', n1', n2']
  refine (h6 a.key).sc ?_
  simp (decide := true) only [↓vA, ↓vE, ↓vO, ↓vB, ↓vF, ↓vM, ↓vR, ↓vX, cvF_pc, vP, shb, shv, shvs, she_nil, she_cons, vC, vQ, not_false_eq_true, Nat.reduceEqDiff, ↓reduceIte, eq_self, Nat.reduceAdd, Nat.reduceMul, Nat.reduceSub, Nat.reduceLeDiff, Nat.reduceLT, defd, cellsOf, wr, packR, Int.reduceLE, Int.reduceLT, Int.reduceEq, Int.cast_ofNat_Int, Int.reduceToNat, hK, List.length_nil]
  refine S.weak (Wk.mk _ _ [0, 1, 2] ?_ ?_ ?_ rfl) (fown_c4 h2 p hp.a hp.f a p.filter p.log p.deny [] (by simp))
  · simp [vW, bw_map, mapAt_map, mapClo_it, mapClo_nil, mapClo_cons, vP, vZ, Tr.get_set, rN_clos]
  · simp [vW, bw_map, mapAt_map, mapClo_it, mapClo_nil, mapClo_cons, vP, vZ, Tr.get_set, oF, cPol, cAsg]
  · simp
set_option maxRecDepth 8000 in
theorem filterOwn {g1 g2 g3 g4 g5 g6 : Nat} {E : List UInt8 → List (List UInt8) × Int} (hc : chkFn P f (ir_vestibulelaw17_FilterOwn g1 g2 g3 g4 g5 g6) = true) (h1 : ∀ p a, Pure P g1 [.agg (cPol p), .agg (cAsg a)] (.b (great17 p a))) (h2 : Pure P g2 [] (.b true)) (h3 : cCopied P g3) (h4 : cSetF E P g4) (h5 : cSameL P g5) (h6 : ∀ k, Pure P g6 [.s k] (.b (keyF k)))
    (p : Pol) (a : Asg) (hm : 0 ≤ p.filter.mode ∧ 0 ≤ p.log.mode) : Pure P f [.agg (cPol p), .agg (cAsg a)] (.b true) := by
  refine Pure.mk hc rfl ?_
  simp only [ir_vestibulelaw17_FilterOwn, cPol, cAsg, argsT, H0, mkT, mkH, trL, List.length_cons, List.length_nil, Nat.reduceAdd, Nat.zero_add]
  simp only [↓vA, ↓vE, ↓vO, ↓vB, ↓vF, ↓vM, ↓vR, ↓vX, cvF_pc, vP, shb, shv, shvs, she_nil, she_cons, vC, vQ, not_false_eq_true, Nat.reduceEqDiff, ↓reduceIte, eq_self, Nat.reduceAdd, Nat.reduceMul, Nat.reduceSub, Nat.reduceLeDiff, Nat.reduceLT, defd, cellsOf, wr, packR, Int.reduceLE, Int.reduceLT, Int.reduceEq, Int.cast_ofNat_Int, Int.reduceToNat]
  refine (h1 p a).sc ?_
  cases hg : great17 p a with
  | true =>
    simp only [↓vA, ↓vE, ↓vO, ↓vB, ↓vF, ↓vM, ↓vR, ↓vX, cvF_pc, vP, shb, shv, shvs, she_nil, she_cons, vC, vQ, not_false_eq_true, Nat.reduceEqDiff, ↓reduceIte, eq_self, Nat.reduceAdd, Nat.reduceMul, Nat.reduceSub, Nat.reduceLeDiff, Nat.reduceLT, defd, cellsOf, wr, packR, Int.reduceLE, Int.reduceLT, Int.reduceEq, Int.cast_ofNat_Int, Int.reduceToNat]
    refine h2.sc ?_
    simp only [↓vA, ↓vE, ↓vO, ↓vB, ↓vF, ↓vM, ↓vR, ↓vX, cvF_pc, vP, shb, shv, shvs, she_nil, she_cons, vC, vQ, not_false_eq_true, Nat.reduceEqDiff, ↓reduceIte, eq_self, Nat.reduceAdd, Nat.reduceMul, Nat.reduceSub, Nat.reduceLeDiff, Nat.reduceLT, defd, cellsOf, wr, packR, Int.reduceLE, Int.reduceLT, Int.reduceEq, Int.cast_ofNat_Int, Int.reduceToNat]
    simp [vZ]
  | false =>
    simp only [great17, great16, Bool.or_eq_false_iff, decide_eq_false_iff_not] at hg
    obtain ⟨⟨⟨⟨⟨⟨q1, q2⟩, q3⟩, q4⟩, q5⟩, q6⟩, q7⟩ := hg
    have hp : PolOk p := ⟨by omega, by omega, by omega, by omega⟩
    have hns := setF_len E p a.key a.val
    simp only [↓vA, ↓vE, ↓vO, ↓vB, ↓vF, ↓vM, ↓vR, ↓vX, cvF_pc, vP, shb, shv, shvs, she_nil, she_cons, vC, vQ, not_false_eq_true, Nat.reduceEqDiff, ↓reduceIte, eq_self, Nat.reduceAdd, Nat.reduceMul, Nat.reduceSub, Nat.reduceLeDiff, Nat.reduceLT, defd, cellsOf, wr, packR, Int.reduceLE, Int.reduceLT, Int.reduceEq, Int.cast_ofNat_Int, Int.reduceToNat]
    refine VD_pc ?_
    simp only [↓vA, ↓vE, ↓vO, ↓vB, ↓vF, ↓vM, ↓vR, ↓vX, cvF_pc, vP, shb, shv, shvs, she_nil, she_cons, vC, vQ, not_false_eq_true, Nat.reduceEqDiff, ↓reduceIte, eq_self, Nat.reduceAdd, Nat.reduceMul, Nat.reduceSub, Nat.reduceLeDiff, Nat.reduceLT, defd, cellsOf, wr, packR, Int.reduceLE, Int.reduceLT, Int.reduceEq, Int.cast_ofNat_Int, Int.reduceToNat]
    refine (h3 p hp).pc ?_
    simp only [↓vA, ↓vE, ↓vO, ↓vB, ↓vF, ↓vM, ↓vR, ↓vX, cvF_pc, vP, shb, shv, shvs, she_nil, she_cons, vC, vQ, not_false_eq_true, Nat.reduceEqDiff, ↓reduceIte, eq_self, Nat.reduceAdd, Nat.reduceMul, Nat.reduceSub, Nat.reduceLeDiff, Nat.reduceLT, defd, cellsOf, wr, packR, Int.reduceLE, Int.reduceLT, Int.reduceEq, Int.cast_ofNat_Int, Int.reduceToNat]
    refine (h4 p a hp hm (by omega)).pc ?_
    simp only [↓vA, ↓vE, ↓vO, ↓vB, ↓vF, ↓vM, ↓vR, ↓vX, cvF_pc, vP, shb, shv, shvs, she_nil, she_cons, vC, vQ, not_false_eq_true, Nat.reduceEqDiff, ↓reduceIte, eq_self, Nat.reduceAdd, Nat.reduceMul, Nat.reduceSub, Nat.reduceLeDiff, Nat.reduceLT, defd, cellsOf, wr, packR, Int.reduceLE, Int.reduceLT, Int.reduceEq, Int.cast_ofNat_Int, Int.reduceToNat]
    obtain ⟨F, L, D, e0, eF, eL, eD, eN⟩ : ∃ F L D, (setF E p a.key a.val).1 = oF p F L D ∧ (a.key ≠ kFilter → F = p.filter) ∧ (a.key ≠ kLog → L = p.log) ∧ (a.key ≠ kErr → D = p.deny) ∧ (keyF a.key = false → (setF E p a.key a.val).2 = []) := by
      by_cases n0 : a.key = kFilter
      · have hM : setF E p a.key a.val = (oF p (stepM E p.filter a.val true).1 p.log p.deny, (stepM E p.filter a.val true).2) := by unfold setF; rw [if_pos n0]; rfl
        exact ⟨_, _, _, by rw [hM], fun h => absurd n0 h, fun _ => rfl, fun _ => rfl, fun h => by simp [keyF, n0] at h⟩
      by_cases n1 : a.key = kLog
      · have hM : setF E p a.key a.val = (oF p p.filter (stepM E p.log a.val false).1 p.deny, (stepM E p.log a.val false).2) := by unfold setF; rw [if_neg n0, if_pos n1]; rfl
        exact ⟨_, _, _, by rw [hM], fun _ => rfl, fun h => absurd n1 h, fun _ => rfl, fun h => by simp [keyF, n1] at h⟩
      by_cases n2 : a.key = kErr
      · by_cases hz : (errF a.val).2 = 0
        · have hM : setF E p a.key a.val = (oF p p.filter p.log (errF a.val).1, []) := by unfold setF; rw [if_neg n0, if_neg n1, if_pos n2, if_pos hz]; rfl
          exact ⟨_, _, _, by rw [hM], fun _ => rfl, fun _ => rfl, fun h => absurd n2 h, fun h => by simp [keyF, n2] at h⟩
        · have hM : setF E p a.key a.val = (oF p p.filter p.log p.deny, [noteW (errF a.val).2 a.val]) := by unfold setF; rw [if_neg n0, if_neg n1, if_pos n2, if_neg hz]; rfl
          exact ⟨_, _, _, by rw [hM], fun _ => rfl, fun _ => rfl, fun h => absurd n2 h, fun h => by simp [keyF, n2] at h⟩
      · have hM : setF E p a.key a.val = (oF p p.filter p.log p.deny, []) := by unfold setF; rw [if_neg n0, if_neg n1, if_neg n2]; rfl
        exact ⟨_, _, _, by rw [hM], fun _ => rfl, fun _ => rfl, fun _ => rfl, fun _ => by rw [hM]⟩
    rw [e0]
    generalize (setF E p a.key a.val).2 = ns at hns eN ⊢
    simp (decide := true) only [↓vA, ↓vE, ↓vO, ↓vB, ↓vF, ↓vM, ↓vR, ↓vX, cvF_pc, vP, shb, shv, shvs, she_nil, she_cons, vC, vQ, not_false_eq_true, Nat.reduceEqDiff, ↓reduceIte, eq_self, Nat.reduceAdd, Nat.reduceMul, Nat.reduceSub, Nat.reduceLeDiff, Nat.reduceLT, defd, cellsOf, wr, packR, Int.reduceLE, Int.reduceLT, Int.reduceEq, Int.cast_ofNat_Int, Int.reduceToNat, cPol]
    refine S.weak (Wk.mk _ _ [0, 1, 2] ?_ ?_ ?_ rfl) (fown_c3 h2 h5 h6 p hp a F L D ns (by omega) eF eL eD eN)
    · simp [vW, bw_map, mapAt_map, mapClo_it, mapClo_nil, mapClo_cons, vP, vZ, Tr.get_set, rN_clos]
    · simp [vW, bw_map, mapAt_map, mapClo_it, mapClo_nil, mapClo_cons, vP, vZ, Tr.get_set, oF, cPol, cAsg]
    · simp
end Go.Kc
end
