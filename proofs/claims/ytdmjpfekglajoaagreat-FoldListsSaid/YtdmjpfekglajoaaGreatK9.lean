/- Part 9 of the abstract machine and of the functions' walks. Conditions: with each theorem. -/
import Derived.Test.YtdmjpfekglajoaaGreatK8
import Derived.KernelRfl
set_option linter.unusedSimpArgs false
set_option linter.unusedVariables false
set_option linter.unnecessarySimpa false
section
/- What fold.Fold answers; the law's comes. Condition: the functions' texts are these. -/
namespace Go.Kc
variable {P : Program} {f : Nat}
theorem foldS_ok {E : List UInt8 → List (List UInt8) × Int} (hE : ExpOk E) (fl : Bool) : ∀ (l : List (List UInt8)) (s : GList × List GNote), mayM s.1 = true → 0 ≤ s.1.mode → (∀ v ∈ l, v.length ≤ 1000) →
    mayM (l.foldl (foldS E fl) s).1 = true ∧ 0 ≤ (l.foldl (foldS E fl) s).1.mode ∧ (l.foldl (foldS E fl) s).2.length ≤ s.2.length + 1000 * l.length
  | [], s, h, h0, _ => ⟨h, h0, by simp⟩
  | v :: l, s, h, h0, hv => by
    have h1 := stepM_may hE h v fl
    have h2 : 0 ≤ (stepM E s.1 v fl).1.mode := by
      by_cases hw : words v = []
      · rw [stepM_none h fl hw]; decide
      · rw [stepM_mode h fl hw]; unfold modeM; split; (split <;> decide); exact h0
    have h3 := stepM_len (E := E) s.1 v fl
    have h4 := hv v List.mem_cons_self
    obtain ⟨k1, k2, k3⟩ := foldS_ok hE fl l (foldS E fl s v) h1 h2 (fun x hx => hv x (List.mem_cons_of_mem _ hx))
    refine ⟨k1, k2, ?_⟩
    have e : (foldS E fl s v).2.length = s.2.length + (stepM E s.1 v fl).2.length := by simp [foldS]
    rw [e] at k3
    simp only [List.foldl_cons, List.length_cons]; omega
def cFold (E : List UInt8 → List (List UInt8) × Int) (P : Program) (f : Nat) : Prop := ∀ (l : List (List UInt8)) (fl : Bool), l.length ≤ 100 → (∀ v ∈ l, v.length ≤ 1000) →
  Pure P f [.fz l.length (rS l), .b fl] (.tup [.agg (cList (foldM E l fl).1), .fz (foldM E l fl).2.length (rN (foldM E l fl).2)])
def ir_fold_Fold (f_fold_Step : Nat) : IFn := ⟨[.cell 4 2 true, .tmp 5],
  .seq (.reg false [⟨(some 4), .op (.alloc [.i .u8 0, .nils]), none⟩,
    ⟨(some 5), .op (.mov (.c (.nils))), none⟩])
  (.seq (.reg false [⟨(some 6), .op (.alloc [.i .u8 0, .nils]), none⟩])
  (.seq (.reg false [⟨(some 7), .op (.mov (.c (.nils))), none⟩])
  (.seq (.seq (.reg false [⟨(some 12), .op (.mov (.t 0)), none⟩,
    ⟨(some 13), .op (.len false (.t 12)), none⟩,
    ⟨(some 14), .op (.mov (.c (.i .i64 0))), none⟩])
  (.blk 0 (.loop (.seq (.reg false [⟨(some 15), .op (.bin .lss (.t 14) (.t 13)), none⟩])
  (.seq (.cond (.t 15) (.skip) (.exit 0))
  (.seq (.blk 1 (.seq (.reg false [⟨(some 16), .op (.iAddrS 1 (.t 12) (.t 14)), none⟩,
    ⟨(some 17), .op (.load1 (.t 16)), none⟩,
    ⟨(some 9), .op (.mov (.t 17)), none⟩])
  (.seq (.reg false [⟨(some 19), .op (.loadN 2 (.t 6)), none⟩,
    ⟨(some 20), .op (.mov (.t 9)), none⟩,
    ⟨(some 21), .op (.mov (.t 1)), none⟩,
    ⟨(some 22), .callF f_fold_Step [(.t 19), (.t 20), (.t 21)], none⟩,
    ⟨(some 18), .op (.mov (.t 22)), none⟩,
    ⟨(some 23), .op (.ext (.t 18) 0), none⟩,
    ⟨(some 24), .op (.ext (.t 18) 1), none⟩,
    ⟨(some 10), .op (.alloc [.i .u8 0, .nils]), none⟩,
    ⟨none, .op (.store 2 (.t 10) (.t 23)), none⟩,
    ⟨(some 11), .op (.mov (.t 24)), none⟩])
  (.reg true [⟨(some 25), .op (.loadN 2 (.t 10)), none⟩,
    ⟨(some 26), .op (.mov (.t 7)), none⟩,
    ⟨(some 27), .op (.mov (.t 11)), none⟩,
    ⟨(some 28), .op (.appD 4 48 (.t 26) (.t 27) [10]), none⟩,
    ⟨none, .op (.store 2 (.t 6) (.t 25)), none⟩,
    ⟨(some 7), .op (.mov (.t 28)), none⟩]))))
  (.reg false [⟨(some 29), .op (.bin .add (.t 14) (.c (.i .i64 1))), none⟩,
    ⟨(some 14), .op (.mov (.t 29)), none⟩])))))))
  (.seq (.reg false [⟨(some 30), .op (.loadN 2 (.t 6)), none⟩,
    ⟨(some 31), .op (.mov (.t 7)), none⟩,
    ⟨none, .op (.store 2 (.t 4) (.t 30)), none⟩,
    ⟨(some 5), .op (.mov (.t 31)), none⟩])
  (.ret)))))⟩
theorem fold_pure {g1 : Nat} {E : List UInt8 → List (List UInt8) × Int} (hc : chkFn P f (ir_fold_Fold g1) = true) (hE : ExpOk E) (h1 : cStep E P g1) : cFold E P f := by
  intro l fl hl hv
  refine Pure.mk hc (by simp [clos, clo, rS_clos]) ?_
  simp only [ir_fold_Fold, argsT, H0, mkT, mkH, trL, List.length_cons, List.length_nil, Nat.reduceAdd, Nat.zero_add]
  simp only [↓vS, cvF_pc, vP, shb, shv, shvs, she_nil, she_cons, vC, vQ, not_false_eq_true, Nat.reduceEqDiff, ↓reduceIte, eq_self, Nat.reduceAdd, Nat.reduceMul, Nat.reduceSub, Nat.reduceLeDiff, Nat.reduceLT, defd, cellsOf, wr, packR, Int.reduceLE, Int.reduceLT, Int.reduceEq, Int.cast_ofNat_Int, Int.reduceToNat]
  refine SL.loop (α := Nat) (fun j => [(1, .b fl), (4, .ptr 0 0), (6, .ptr 1 0), (7, .own 2 ((l.take j).foldl (foldS E fl) (⟨0, []⟩, [])).2.length), (12, .fz l.length (rS l)), (13, .i .i64 l.length), (14, .i .i64 j)])
    (fun j => [.cells 0 true false [.i .u8 0, .nils], .cells 0 true false (cList ((l.take j).foldl (foldS E fl) (⟨0, []⟩, [])).1), .cells 4 true true (rN ((l.take j).foldl (foldS E fl) (⟨0, []⟩, [])).2)])
    (fun j => j ≤ l.length) (fun j => l.length - j) 0 [0, 1, 2] ?_ ?_ ?_ rfl ?_ ?_
  · simp [vW, bw_map, mapAt_map, mapClo_it, mapClo_nil, mapClo_cons, vP, vZ, Tr.get_set, rS_clos]
  · simp [vW, bw_map, mapAt_map, mapClo_it, mapClo_nil, mapClo_cons, vP, vZ, Tr.get_set, cList, nvs_self, rN_nil, rC_nil]
  · simp
  · exact Nat.zero_le _
  rintro j hj G ih
  obtain ⟨k1, k2, k3⟩ := foldS_ok hE fl (l.take j) (⟨0, []⟩, []) rfl (Int.le_refl 0) (fun v hx => hv v (List.mem_of_mem_take hx))
  have k4 := may_len k1
  simp only [List.length_take, List.length_nil, Nat.zero_add] at k3
  generalize hr : (l.take j).foldl (foldS E fl) (⟨0, []⟩, []) = r at k1 k2 k3 k4 ih ⊢
  simp only [argsT, H0, mkT, mkH, trL, List.length_cons, List.length_nil, Nat.reduceAdd, Nat.zero_add, cList]
  by_cases hlt : j < l.length
  · have hx : (rS l)[j]? = some (.s l[j]) := by rw [rS_get, List.getElem?_eq_getElem hlt]; rfl
    have hwj : IntKind.wrap .i64 ((j : Int) + 1) = ((j + 1 : Nat) : Int) := by rw [wrap64 (by omega) (by omega)]; omega
    have hnext : (l.take (j + 1)).foldl (foldS E fl) (⟨0, []⟩, []) = foldS E fl r l[j] := by
      rw [List.take_add_one, List.getElem?_eq_getElem hlt, List.foldl_append, hr]; rfl
    have ih2 := ih (j + 1)
    rw [hnext] at ih2
    have hvj := hv l[j] (List.getElem_mem hlt)
    generalize l[j] = v at hx hnext hvj ih2
    have k5 := stepM_len (E := E) r.1 v fl
    simp only [↓vS, cvF_pc, vP, shb, shv, shvs, she_nil, she_cons, vC, vQ, not_false_eq_true, Nat.reduceEqDiff, ↓reduceIte, eq_self, Nat.reduceAdd, Nat.reduceMul, Nat.reduceSub, Nat.reduceLeDiff, Nat.reduceLT, defd, cellsOf, wr, packR, Int.reduceLE, Int.reduceLT, Int.reduceEq, Int.cast_ofNat_Int, Int.reduceToNat, hlt, hx, Nat.mul_one]
    refine (h1 r.1 v fl (by omega) hvj k2).sc ?_
    simp only [foldS] at ih2
    generalize stepM E r.1 v fl = R at k5 ih2 ⊢
    have hr1 : r.2.length + R.2.length ≤ roomB := by simp only [roomB]; omega
    have hr2 : (r.2.length + R.2.length) * 48 ≤ roomB := by simp only [roomB]; omega
    simp only [↓vS, cvF_pc, vP, shb, shv, shvs, she_nil, she_cons, vC, vQ, not_false_eq_true, Nat.reduceEqDiff, ↓reduceIte, eq_self, Nat.reduceAdd, Nat.reduceMul, Nat.reduceSub, Nat.reduceLeDiff, Nat.reduceLT, defd, cellsOf, wr, packR, Int.reduceLE, Int.reduceLT, Int.reduceEq, Int.cast_ofNat_Int, Int.reduceToNat, cList]
    refine VD_pc ?_
    simp (decide := true) only [↓vS, cvF_pc, vP, shb, shv, shvs, she_nil, she_cons, vC, vQ, not_false_eq_true, Nat.reduceEqDiff, ↓reduceIte, eq_self, Nat.reduceAdd, Nat.reduceMul, Nat.reduceSub, Nat.reduceLeDiff, Nat.reduceLT, defd, cellsOf, wr, packR, Int.reduceLE, Int.reduceLT, Int.reduceEq, Int.cast_ofNat_Int, Int.reduceToNat, hr1, hr2, rN_len, rN_take, List.take_length, rN_app, rN_ok, hwj]
    refine ih2 (by omega) (by omega) _ _ (Wk.mk _ _ [0, 1, 4] ?_ ?_ ?_ rfl)
    · simp [vW, bw_map, mapAt_map, mapClo_it, mapClo_nil, mapClo_cons, vP, vZ, Tr.get_set, rS_clos]
    · simp [vW, bw_map, mapAt_map, mapClo_it, mapClo_nil, mapClo_cons, vP, vZ, Tr.get_set, cList, nvs_self, rN_clos, rC_clos]
    · simp
  · have hjl : l.take j = l := List.take_of_length_le (by omega)
    rw [hjl] at hr
    have hR : foldM E l fl = r := hr
    rw [hR]
    simp only [↓vS, cvF_pc, vP, shb, shv, shvs, she_nil, she_cons, vC, vQ, not_false_eq_true, Nat.reduceEqDiff, ↓reduceIte, eq_self, Nat.reduceAdd, Nat.reduceMul, Nat.reduceSub, Nat.reduceLeDiff, Nat.reduceLT, defd, cellsOf, wr, packR, Int.reduceLE, Int.reduceLT, Int.reduceEq, Int.cast_ofNat_Int, Int.reduceToNat, hlt]
    simp [vZ, vP, Tr.get_set, cList, frzs_self rC_clos, frzs_self rN_clos]
    intro h0; rw [h0]; rfl
def cCallP (P : Program) (f : Nat) : Prop := ∀ (s : List UInt8) (a : Int), Pure P f [.s s, .i .u32 a] (.agg [.s s, .i .u32 a])
def ir_vestibulelaw16_call : IFn := ⟨[.cell 4 2 true],
  .seq (.reg false [⟨(some 4), .op (.alloc [.s [], .i .u32 0]), none⟩])
  (.seq (.reg false [⟨(some 5), .op (.mov (.t 0)), none⟩,
    ⟨(some 6), .op (.mov (.t 1)), none⟩,
    ⟨(some 7), .op (.build [.s [], .i .u32 0] [(0, 1, (.t 5)), (1, 1, (.t 6))]), none⟩,
    ⟨none, .op (.store 2 (.t 4) (.t 7)), none⟩])
  (.ret))⟩
theorem call_pure (hc : chkFn P f ir_vestibulelaw16_call = true) : cCallP P f := by
  intro s a
  refine Pure.mk hc rfl ?_
  simp only [ir_vestibulelaw16_call, argsT, H0, mkT, mkH, trL, List.length_cons, List.length_nil, Nat.reduceAdd, Nat.zero_add]
  simp only [↓vS, cvF_pc, vP, shb, shv, shvs, she_nil, she_cons, vC, vQ, not_false_eq_true, Nat.reduceEqDiff, ↓reduceIte, eq_self, Nat.reduceAdd, Nat.reduceMul, Nat.reduceSub, Nat.reduceLeDiff, Nat.reduceLT, defd, cellsOf, wr, packR, Int.reduceLE, Int.reduceLT, Int.reduceEq, Int.cast_ofNat_Int, Int.reduceToNat]
  simp [vZ]
def ir_vestibulelaw16_comes (f_fold_Fold : Nat) : IFn := ⟨[.tmp 6],
  .seq (.reg false [⟨(some 6), .op (.mov (.c (.b false))), none⟩])
  (.seq (.reg false [⟨(some 11), .op (.mov (.t 1)), none⟩,
    ⟨(some 12), .callF f_fold_Fold [(.t 11), (.c (.b true))], none⟩,
    ⟨(some 10), .op (.mov (.t 12)), none⟩,
    ⟨(some 13), .op (.ext (.t 10) 0), none⟩,
    ⟨(some 14), .op (.ext (.t 10) 1), none⟩,
    ⟨(some 7), .op (.alloc [.i .u8 0, .nils]), none⟩,
    ⟨none, .op (.store 2 (.t 7) (.t 13)), none⟩,
    ⟨(some 8), .op (.mov (.t 14)), none⟩])
  (.seq (.seq (.reg false [⟨(some 15), .op (.fAddr 0 (.t 7)), none⟩,
    ⟨(some 16), .op (.load1 (.t 15)), none⟩,
    ⟨(some 17), .op (.mov (.t 0)), none⟩,
    ⟨(some 18), .op (.bin .neq (.t 16) (.t 17)), none⟩,
    ⟨(some 19), .op (.mov (.t 18)), none⟩,
    ⟨(some 20), .op (.fAddr 1 (.t 7)), (some (19, false))⟩,
    ⟨(some 21), .op (.load1 (.t 20)), (some (19, false))⟩,
    ⟨(some 22), .op (.len false (.t 21)), (some (19, false))⟩,
    ⟨(some 23), .op (.mov (.t 2)), (some (19, false))⟩,
    ⟨(some 24), .op (.len false (.t 23)), (some (19, false))⟩,
    ⟨(some 25), .op (.bin .neq (.t 22) (.t 24)), (some (19, false))⟩,
    ⟨(some 26), .op (.pick (.t 19) (.c (.b true)) (.t 25)), none⟩])
  (.cond (.t 26) (.seq (.reg false [⟨(some 6), .op (.mov (.c (.b false))), none⟩])
  (.ret)) (.skip)))
  (.seq (.seq (.reg false [⟨(some 9), .op (.mov (.c (.i .i64 0))), none⟩])
  (.blk 0 (.loop (.seq (.seq (.reg false [⟨(some 27), .op (.mov (.t 9)), none⟩,
    ⟨(some 28), .op (.mov (.t 2)), none⟩,
    ⟨(some 29), .op (.len false (.t 28)), none⟩,
    ⟨(some 30), .op (.bin .lss (.t 27) (.t 29)), none⟩])
  (.cond (.t 30) (.skip) (.exit 0)))
  (.seq (.blk 1 (.seq (.reg true [⟨(some 33), .op (.fAddr 1 (.t 7)), none⟩,
    ⟨(some 34), .op (.load1 (.t 33)), none⟩,
    ⟨(some 35), .op (.mov (.t 9)), none⟩,
    ⟨(some 36), .op (.iAddrS 2 (.t 34) (.t 35)), none⟩,
    ⟨(some 37), .op (.loadN 2 (.t 36)), none⟩,
    ⟨(some 38), .op (.mov (.t 2)), none⟩,
    ⟨(some 39), .op (.mov (.t 9)), none⟩,
    ⟨(some 40), .op (.iAddrS 2 (.t 38) (.t 39)), none⟩,
    ⟨(some 41), .op (.loadN 2 (.t 40)), none⟩,
    ⟨(some 42), .op (.eqA true [.s, .i] (.t 37) (.t 41)), none⟩])
  (.cond (.t 42) (.seq (.reg false [⟨(some 6), .op (.mov (.c (.b false))), none⟩])
  (.ret)) (.skip))))
  (.reg false [⟨(some 31), .op (.mov (.t 9)), none⟩,
    ⟨(some 32), .op (.bin .add (.t 31) (.c (.i .i64 1))), none⟩,
    ⟨(some 9), .op (.mov (.t 32)), none⟩]))))))
  (.seq (.reg false [⟨(some 6), .op (.mov (.c (.b true))), none⟩])
  (.ret)))))⟩
def cComes (E : List UInt8 → List (List UInt8) × Int) (P : Program) (f : Nat) : Prop := ∀ (mode : Int) (l : List (List UInt8)) (want : List GCall), l.length ≤ 100 → (∀ v ∈ l, v.length ≤ 1000) → (foldM E l true).1 = ⟨mode, want⟩ →
  Pure P f [.i .u8 mode, .fz l.length (rS l), .fz want.length (rC want)] (.b true)
theorem comes_pure {g1 : Nat} {E : List UInt8 → List (List UInt8) × Int} (hc : chkFn P f (ir_vestibulelaw16_comes g1) = true) (hE : ExpOk E) (h1 : cFold E P g1) : cComes E P f := by
  intro mode l want hl hv hw
  have hlen : want.length ≤ 40 := by
    have := may_len (foldS_ok hE true l (⟨0, []⟩, []) rfl (Int.le_refl 0) hv).1
    rw [show (l.foldl (foldS E true) (⟨0, []⟩, [])).1 = ⟨mode, want⟩ from hw] at this
    exact this
  refine Pure.mk hc (by simp [clos, clo, rS_clos, rC_clos]) ?_
  simp only [ir_vestibulelaw16_comes, argsT, H0, mkT, mkH, trL, List.length_cons, List.length_nil, Nat.reduceAdd, Nat.zero_add]
  simp only [↓vS, cvF_pc, vP, shb, shv, shvs, she_nil, she_cons, vC, vQ, not_false_eq_true, Nat.reduceEqDiff, ↓reduceIte, eq_self, Nat.reduceAdd, Nat.reduceMul, Nat.reduceSub, Nat.reduceLeDiff, Nat.reduceLT, defd, cellsOf, wr, packR, Int.reduceLE, Int.reduceLT, Int.reduceEq, Int.cast_ofNat_Int, Int.reduceToNat]
  refine (h1 l true hl hv).sc ?_
  rw [hw]
  simp only [↓vS, cvF_pc, vP, shb, shv, shvs, she_nil, she_cons, vC, vQ, not_false_eq_true, Nat.reduceEqDiff, ↓reduceIte, eq_self, Nat.reduceAdd, Nat.reduceMul, Nat.reduceSub, Nat.reduceLeDiff, Nat.reduceLT, defd, cellsOf, wr, packR, Int.reduceLE, Int.reduceLT, Int.reduceEq, Int.cast_ofNat_Int, Int.reduceToNat, cList]
  refine SL.loop (α := Nat) (fun j => [(2, .fz want.length (rC want)), (7, .ptr 0 0), (9, .i .i64 j)]) (fun _ => [.cells 0 true false [.i .u8 mode, .fz want.length (rC want)]]) (fun _ => True) (fun j => want.length - j) 0 [0] ?_ ?_ ?_ rfl ?_ ?_
  · simp [vW, bw_map, mapAt_map, mapClo_it, mapClo_nil, mapClo_cons, vP, vZ, Tr.get_set, rC_clos]
  · simp [vW, bw_map, mapAt_map, mapClo_it, mapClo_nil, mapClo_cons, vP, vZ, Tr.get_set, nvs_self, rC_clos]
  · simp
  · trivial
  rintro j - G ih
  simp only [argsT, H0, mkT, mkH, trL, List.length_cons, List.length_nil, Nat.reduceAdd, Nat.zero_add]
  by_cases hlt : j < want.length
  · have hx : want[j]? = some want[j] := List.getElem?_eq_getElem hlt
    have he := rC_elem hx
    have hb := rC_bound hlt
    have hw : IntKind.wrap .i64 ((j : Int) + 1) = ((j + 1 : Nat) : Int) := by rw [wrap64 (by omega) (by omega)]; omega
    simp only [↓vS, cvF_pc, vP, shb, shv, shvs, she_nil, she_cons, vC, vQ, not_false_eq_true, Nat.reduceEqDiff, ↓reduceIte, eq_self, Nat.reduceAdd, Nat.reduceMul, Nat.reduceSub, Nat.reduceLeDiff, Nat.reduceLT, defd, cellsOf, wr, packR, Int.reduceLE, Int.reduceLT, Int.reduceEq, Int.cast_ofNat_Int, Int.reduceToNat, hlt]
    refine VD_pc ?_
    simp (decide := true) only [↓vS, cvF_pc, vP, shb, shv, shvs, she_nil, she_cons, vC, vQ, not_false_eq_true, Nat.reduceEqDiff, ↓reduceIte, eq_self, Nat.reduceAdd, Nat.reduceMul, Nat.reduceSub, Nat.reduceLeDiff, Nat.reduceLT, defd, cellsOf, wr, packR, Int.reduceLE, Int.reduceLT, Int.reduceEq, Int.cast_ofNat_Int, Int.reduceToNat, hlt, hb, he, cCall, hw, beq_self_eq_true]
    refine ih (j + 1) trivial (by omega) _ _ (Wk.mk _ _ [0] ?_ ?_ ?_ rfl)
    · simp [vW, bw_map, mapAt_map, mapClo_it, mapClo_nil, mapClo_cons, vP, vZ, Tr.get_set, rC_clos]
    · simp [vW, bw_map, mapAt_map, mapClo_it, mapClo_nil, mapClo_cons, vP, vZ, Tr.get_set, nvs_self, rC_clos]
    · simp
  · simp only [↓vS, cvF_pc, vP, shb, shv, shvs, she_nil, she_cons, vC, vQ, not_false_eq_true, Nat.reduceEqDiff, ↓reduceIte, eq_self, Nat.reduceAdd, Nat.reduceMul, Nat.reduceSub, Nat.reduceLeDiff, Nat.reduceLT, defd, cellsOf, wr, packR, Int.reduceLE, Int.reduceLT, Int.reduceEq, Int.cast_ofNat_Int, Int.reduceToNat, hlt]
    simp [vZ]
end Go.Kc
end
section
/- Layer 16's rows. Condition: the functions' texts are these. -/
namespace Go.Kc
variable {P : Program} {f : Nat}
def aw1 : List (List UInt8) := [[114, 101, 97, 100, 32, 119, 114, 105, 116, 101], [126, 119, 114, 105, 116, 101]]
def want1 : List GCall := [⟨[114, 101, 97, 100], 0⟩]
theorem aw1_c : (foldC expG aw1 true).1 = ⟨1, want1⟩ := by kernel_rfl
theorem aw1_m : (foldM expG aw1 true).1 = ⟨1, want1⟩ := by rw [foldC_eq expG_ok]; exact aw1_c
def aw2 : List (List UInt8) := [[126, 64, 99, 108, 111, 99, 107, 58, 69, 80, 69, 82, 77, 32, 112, 116, 114, 97, 99, 101], [115, 101, 116, 116, 105, 109, 101, 111, 102, 100, 97, 121]]
def want2 : List GCall := [⟨[99, 108, 111, 99, 107, 95, 115, 101, 116, 116, 105, 109, 101], 327681⟩, ⟨[112, 116, 114, 97, 99, 101], 0⟩]
theorem aw2_c : (foldC expG aw2 true).1 = ⟨2, want2⟩ := by kernel_rfl
theorem aw2_m : (foldM expG aw2 true).1 = ⟨2, want2⟩ := by rw [foldC_eq expG_ok]; exact aw2_c
def aw3 : List (List UInt8) := [[114, 101, 97, 100], [126, 114, 101, 97, 100, 58, 107, 105, 108, 108]]
def want3 : List GCall := [⟨[114, 101, 97, 100], 2147483648⟩]
theorem aw3_c : (foldC expG aw3 true).1 = ⟨1, want3⟩ := by kernel_rfl
theorem aw3_m : (foldM expG aw3 true).1 = ⟨1, want3⟩ := by rw [foldC_eq expG_ok]; exact aw3_c
def aw4 : List (List UInt8) := [[114, 101, 97, 100], [], [126, 114, 101, 97, 100]]
def want4 : List GCall := [⟨[114, 101, 97, 100], 0⟩]
theorem aw4_c : (foldC expG aw4 true).1 = ⟨2, want4⟩ := by kernel_rfl
theorem aw4_m : (foldM expG aw4 true).1 = ⟨2, want4⟩ := by rw [foldC_eq expG_ok]; exact aw4_c
def aw5 : List (List UInt8) := [[110, 111, 116, 104, 105, 110, 103, 32, 64, 110, 111, 110, 101, 32, 114, 101, 97, 100, 58, 53, 32, 64, 110, 101, 115, 116]]
def nts5 : List GNote := [⟨[], 0, 90, [110, 111, 116, 104, 105, 110, 103]⟩, ⟨[], 0, 110, [64, 110, 111, 110, 101]⟩, ⟨[], 0, 161, [114, 101, 97, 100, 58, 53]⟩, ⟨[], 0, 111, [64, 110, 101, 115, 116]⟩]
theorem aw5_c : foldC expG aw5 true = (⟨1, want1⟩, nts5) := by kernel_rfl
theorem aw5_m : foldM expG aw5 true = (⟨1, want1⟩, nts5) := by rw [foldC_eq expG_ok]; exact aw5_c
def ir_vestibulelaw16_awake (f_vestibulelaw16_call f_vestibulelaw16_comes f_fold_Fold f_fold_Warns : Nat) : IFn := ⟨[.tmp 0],
  .seq (.reg false [⟨(some 0), .op (.mov (.c (.b false))), none⟩])
  (.seq (.seq (.reg false [⟨(some 3), .op (.buildS 2 [.s []] [(0, 1, (.c (.s [114, 101, 97, 100, 32, 119, 114, 105, 116, 101]))), (1, 1, (.c (.s [126, 119, 114, 105, 116, 101])))]), none⟩,
    ⟨(some 4), .callF f_vestibulelaw16_call [(.c (.s [114, 101, 97, 100])), (.c (.i .u32 0))], none⟩,
    ⟨(some 5), .op (.buildS 1 [.s [], .i .u32 0] [(0, 2, (.t 4))]), none⟩,
    ⟨(some 6), .callF f_vestibulelaw16_comes [(.c (.i .u8 1)), (.t 3), (.t 5)], none⟩,
    ⟨(some 7), .op (.un .not (.t 6)), none⟩,
    ⟨(some 8), .op (.mov (.t 7)), none⟩,
    ⟨(some 9), .op (.buildS 2 [.s []] [(0, 1, (.c (.s [126, 64, 99, 108, 111, 99, 107, 58, 69, 80, 69, 82, 77, 32, 112, 116, 114, 97, 99, 101]))), (1, 1, (.c (.s [115, 101, 116, 116, 105, 109, 101, 111, 102, 100, 97, 121])))]), (some (8, false))⟩,
    ⟨(some 10), .callF f_vestibulelaw16_call [(.c (.s [99, 108, 111, 99, 107, 95, 115, 101, 116, 116, 105, 109, 101])), (.c (.i .u32 327681))], (some (8, false))⟩,
    ⟨(some 11), .callF f_vestibulelaw16_call [(.c (.s [112, 116, 114, 97, 99, 101])), (.c (.i .u32 0))], (some (8, false))⟩,
    ⟨(some 12), .op (.buildS 2 [.s [], .i .u32 0] [(0, 2, (.t 10)), (2, 2, (.t 11))]), (some (8, false))⟩,
    ⟨(some 13), .callF f_vestibulelaw16_comes [(.c (.i .u8 2)), (.t 9), (.t 12)], (some (8, false))⟩,
    ⟨(some 14), .op (.un .not (.t 13)), (some (8, false))⟩,
    ⟨(some 15), .op (.pick (.t 8) (.c (.b true)) (.t 14)), none⟩,
    ⟨(some 16), .op (.mov (.t 15)), none⟩,
    ⟨(some 17), .op (.buildS 2 [.s []] [(0, 1, (.c (.s [114, 101, 97, 100]))), (1, 1, (.c (.s [126, 114, 101, 97, 100, 58, 107, 105, 108, 108])))]), (some (16, false))⟩,
    ⟨(some 18), .callF f_vestibulelaw16_call [(.c (.s [114, 101, 97, 100])), (.c (.i .u32 2147483648))], (some (16, false))⟩,
    ⟨(some 19), .op (.buildS 1 [.s [], .i .u32 0] [(0, 2, (.t 18))]), (some (16, false))⟩,
    ⟨(some 20), .callF f_vestibulelaw16_comes [(.c (.i .u8 1)), (.t 17), (.t 19)], (some (16, false))⟩,
    ⟨(some 21), .op (.un .not (.t 20)), (some (16, false))⟩,
    ⟨(some 22), .op (.pick (.t 16) (.c (.b true)) (.t 21)), none⟩,
    ⟨(some 23), .op (.mov (.t 22)), none⟩,
    ⟨(some 24), .op (.buildS 3 [.s []] [(0, 1, (.c (.s [114, 101, 97, 100]))), (1, 1, (.c (.s []))), (2, 1, (.c (.s [126, 114, 101, 97, 100])))]), (some (23, false))⟩,
    ⟨(some 25), .callF f_vestibulelaw16_call [(.c (.s [114, 101, 97, 100])), (.c (.i .u32 0))], (some (23, false))⟩,
    ⟨(some 26), .op (.buildS 1 [.s [], .i .u32 0] [(0, 2, (.t 25))]), (some (23, false))⟩,
    ⟨(some 27), .callF f_vestibulelaw16_comes [(.c (.i .u8 2)), (.t 24), (.t 26)], (some (23, false))⟩,
    ⟨(some 28), .op (.un .not (.t 27)), (some (23, false))⟩,
    ⟨(some 29), .op (.pick (.t 23) (.c (.b true)) (.t 28)), none⟩])
  (.cond (.t 29) (.seq (.reg false [⟨(some 0), .op (.mov (.c (.b false))), none⟩])
  (.ret)) (.skip)))
  (.seq (.reg false [⟨(some 31), .op (.buildS 1 [.s []] [(0, 1, (.c (.s [110, 111, 116, 104, 105, 110, 103, 32, 64, 110, 111, 110, 101, 32, 114, 101, 97, 100, 58, 53, 32, 64, 110, 101, 115, 116])))]), none⟩,
    ⟨(some 32), .callF f_fold_Fold [(.t 31), (.c (.b true))], none⟩,
    ⟨(some 30), .op (.mov (.t 32)), none⟩,
    ⟨(some 33), .op (.ext (.t 30) 0), none⟩,
    ⟨(some 34), .op (.ext (.t 30) 1), none⟩,
    ⟨(some 1), .op (.alloc [.i .u8 0, .nils]), none⟩,
    ⟨none, .op (.store 2 (.t 1) (.t 33)), none⟩,
    ⟨(some 2), .op (.mov (.t 34)), none⟩])
  (.seq (.reg false [⟨(some 35), .op (.fAddr 0 (.t 1)), none⟩,
    ⟨(some 36), .op (.load1 (.t 35)), none⟩,
    ⟨(some 37), .op (.bin .eql (.t 36) (.c (.i .u8 1))), none⟩,
    ⟨(some 38), .op (.mov (.t 37)), none⟩,
    ⟨(some 39), .op (.fAddr 1 (.t 1)), (some (38, true))⟩,
    ⟨(some 40), .op (.load1 (.t 39)), (some (38, true))⟩,
    ⟨(some 41), .op (.len false (.t 40)), (some (38, true))⟩,
    ⟨(some 42), .op (.bin .eql (.t 41) (.c (.i .i64 1))), (some (38, true))⟩,
    ⟨(some 43), .op (.pick (.t 38) (.t 42) (.c (.b false))), none⟩,
    ⟨(some 44), .op (.mov (.t 43)), none⟩,
    ⟨(some 45), .op (.mov (.t 2)), (some (44, true))⟩,
    ⟨(some 46), .op (.len false (.t 45)), (some (44, true))⟩,
    ⟨(some 47), .op (.bin .eql (.t 46) (.c (.i .i64 4))), (some (44, true))⟩,
    ⟨(some 48), .op (.pick (.t 44) (.t 47) (.c (.b false))), none⟩,
    ⟨(some 49), .op (.mov (.t 48)), none⟩,
    ⟨(some 50), .op (.mov (.t 2)), (some (49, true))⟩,
    ⟨(some 51), .op (.iAddrS 4 (.t 50) (.c (.i .i64 0))), (some (49, true))⟩,
    ⟨(some 52), .op (.fAddr 2 (.t 51)), (some (49, true))⟩,
    ⟨(some 53), .op (.load1 (.t 52)), (some (49, true))⟩,
    ⟨(some 54), .op (.bin .eql (.t 53) (.c (.i .i64 90))), (some (49, true))⟩,
    ⟨(some 55), .op (.pick (.t 49) (.t 54) (.c (.b false))), none⟩,
    ⟨(some 56), .op (.mov (.t 55)), none⟩,
    ⟨(some 57), .op (.mov (.t 2)), (some (56, true))⟩,
    ⟨(some 58), .op (.iAddrS 4 (.t 57) (.c (.i .i64 1))), (some (56, true))⟩,
    ⟨(some 59), .op (.fAddr 2 (.t 58)), (some (56, true))⟩,
    ⟨(some 60), .op (.load1 (.t 59)), (some (56, true))⟩,
    ⟨(some 61), .op (.bin .eql (.t 60) (.c (.i .i64 110))), (some (56, true))⟩,
    ⟨(some 62), .op (.pick (.t 56) (.t 61) (.c (.b false))), none⟩,
    ⟨(some 63), .op (.mov (.t 62)), none⟩,
    ⟨(some 64), .op (.mov (.t 2)), (some (63, true))⟩,
    ⟨(some 65), .op (.iAddrS 4 (.t 64) (.c (.i .i64 2))), (some (63, true))⟩,
    ⟨(some 66), .op (.fAddr 2 (.t 65)), (some (63, true))⟩,
    ⟨(some 67), .op (.load1 (.t 66)), (some (63, true))⟩,
    ⟨(some 68), .op (.bin .eql (.t 67) (.c (.i .i64 161))), (some (63, true))⟩,
    ⟨(some 69), .op (.pick (.t 63) (.t 68) (.c (.b false))), none⟩,
    ⟨(some 70), .op (.mov (.t 69)), none⟩,
    ⟨(some 71), .op (.mov (.t 2)), (some (70, true))⟩,
    ⟨(some 72), .op (.iAddrS 4 (.t 71) (.c (.i .i64 3))), (some (70, true))⟩,
    ⟨(some 73), .op (.fAddr 2 (.t 72)), (some (70, true))⟩,
    ⟨(some 74), .op (.load1 (.t 73)), (some (70, true))⟩,
    ⟨(some 75), .op (.bin .eql (.t 74) (.c (.i .i64 111))), (some (70, true))⟩,
    ⟨(some 76), .op (.pick (.t 70) (.t 75) (.c (.b false))), none⟩,
    ⟨(some 77), .op (.mov (.t 76)), none⟩,
    ⟨(some 78), .op (.mov (.t 2)), (some (77, true))⟩,
    ⟨(some 79), .op (.iAddrS 4 (.t 78) (.c (.i .i64 2))), (some (77, true))⟩,
    ⟨(some 80), .op (.fAddr 3 (.t 79)), (some (77, true))⟩,
    ⟨(some 81), .op (.load1 (.t 80)), (some (77, true))⟩,
    ⟨(some 82), .op (.bin .eql (.t 81) (.c (.s [114, 101, 97, 100, 58, 53]))), (some (77, true))⟩,
    ⟨(some 83), .op (.pick (.t 77) (.t 82) (.c (.b false))), none⟩,
    ⟨(some 84), .op (.mov (.t 83)), none⟩,
    ⟨(some 85), .op (.mov (.t 2)), (some (84, true))⟩,
    ⟨(some 86), .op (.iAddrS 4 (.t 85) (.c (.i .i64 2))), (some (84, true))⟩,
    ⟨(some 87), .op (.fAddr 2 (.t 86)), (some (84, true))⟩,
    ⟨(some 88), .op (.load1 (.t 87)), (some (84, true))⟩,
    ⟨(some 89), .callF f_fold_Warns [(.t 88)], (some (84, true))⟩,
    ⟨(some 90), .op (.pick (.t 84) (.t 89) (.c (.b false))), none⟩,
    ⟨(some 91), .op (.mov (.t 90)), none⟩,
    ⟨(some 92), .op (.mov (.t 2)), (some (91, true))⟩,
    ⟨(some 93), .op (.iAddrS 4 (.t 92) (.c (.i .i64 3))), (some (91, true))⟩,
    ⟨(some 94), .op (.fAddr 2 (.t 93)), (some (91, true))⟩,
    ⟨(some 95), .op (.load1 (.t 94)), (some (91, true))⟩,
    ⟨(some 96), .callF f_fold_Warns [(.t 95)], (some (91, true))⟩,
    ⟨(some 97), .op (.un .not (.t 96)), (some (91, true))⟩,
    ⟨(some 98), .op (.pick (.t 91) (.t 97) (.c (.b false))), none⟩,
    ⟨(some 0), .op (.mov (.t 98)), none⟩])
  (.ret))))⟩
set_option maxRecDepth 8000 in
theorem awake16 {g1 g2 g3 g4 : Nat} (hc : chkFn P f (ir_vestibulelaw16_awake g1 g2 g3 g4) = true) (h1 : cCallP P g1) (h2 : cComes expG P g2) (h3 : cFold expG P g3) (h4 : Pure P g4 [.i .i64 161] (.b true)) (h5 : Pure P g4 [.i .i64 111] (.b false)) : Pure P f [] (.b true) := by
  refine Pure.mk hc rfl ?_
  simp only [ir_vestibulelaw16_awake, argsT, H0, mkT, mkH, trL, List.length_cons, List.length_nil, Nat.reduceAdd, Nat.zero_add]
  simp only [↓vS, cvF_pc, vP, shb, shv, shvs, she_nil, she_cons, vC, vQ, not_false_eq_true, Nat.reduceEqDiff, ↓reduceIte, eq_self, Nat.reduceAdd, Nat.reduceMul, Nat.reduceSub, Nat.reduceLeDiff, Nat.reduceLT, defd, cellsOf, wr, packR, Int.reduceLE, Int.reduceLT, Int.reduceEq, Int.cast_ofNat_Int, Int.reduceToNat]
  refine (h1 [114, 101, 97, 100] 0).sc ?_
  simp only [↓vS, cvF_pc, vP, shb, shv, shvs, she_nil, she_cons, vC, vQ, not_false_eq_true, Nat.reduceEqDiff, ↓reduceIte, eq_self, Nat.reduceAdd, Nat.reduceMul, Nat.reduceSub, Nat.reduceLeDiff, Nat.reduceLT, defd, cellsOf, wr, packR, Int.reduceLE, Int.reduceLT, Int.reduceEq, Int.cast_ofNat_Int, Int.reduceToNat]
  refine (h2 1 aw1 want1 (by decide) (by decide) aw1_m).lend (vs' := [.i .u8 1, .fz 2 (rS aw1), .fz 1 (rC want1)]) ?_ rfl ?_
  · refine .cons _ _ _ _ (.i _ _) (.cons _ _ _ _ (.cut 1 rfl (Nat.le_refl _) ?_) (.cons _ _ _ _ (.cut 2 rfl (Nat.le_refl _) ?_) .nil))
    · simp [vW, bw_map, mapAt_map, mapClo_it, mapClo_nil, mapClo_cons, vP, vZ, Tr.get_set, aw1, rS]
    · simp [vW, bw_map, mapAt_map, mapClo_it, mapClo_nil, mapClo_cons, vP, vZ, Tr.get_set, want1, rC, cCall]
  simp only [↓vS, cvF_pc, vP, shb, shv, shvs, she_nil, she_cons, vC, vQ, not_false_eq_true, Nat.reduceEqDiff, ↓reduceIte, eq_self, Nat.reduceAdd, Nat.reduceMul, Nat.reduceSub, Nat.reduceLeDiff, Nat.reduceLT, defd, cellsOf, wr, packR, Int.reduceLE, Int.reduceLT, Int.reduceEq, Int.cast_ofNat_Int, Int.reduceToNat]
  refine (h1 [99, 108, 111, 99, 107, 95, 115, 101, 116, 116, 105, 109, 101] 327681).sc ?_
  simp only [↓vS, cvF_pc, vP, shb, shv, shvs, she_nil, she_cons, vC, vQ, not_false_eq_true, Nat.reduceEqDiff, ↓reduceIte, eq_self, Nat.reduceAdd, Nat.reduceMul, Nat.reduceSub, Nat.reduceLeDiff, Nat.reduceLT, defd, cellsOf, wr, packR, Int.reduceLE, Int.reduceLT, Int.reduceEq, Int.cast_ofNat_Int, Int.reduceToNat]
  refine (h1 [112, 116, 114, 97, 99, 101] 0).sc ?_
  simp only [↓vS, cvF_pc, vP, shb, shv, shvs, she_nil, she_cons, vC, vQ, not_false_eq_true, Nat.reduceEqDiff, ↓reduceIte, eq_self, Nat.reduceAdd, Nat.reduceMul, Nat.reduceSub, Nat.reduceLeDiff, Nat.reduceLT, defd, cellsOf, wr, packR, Int.reduceLE, Int.reduceLT, Int.reduceEq, Int.cast_ofNat_Int, Int.reduceToNat]
  refine (h2 2 aw2 want2 (by decide) (by decide) aw2_m).lend (vs' := [.i .u8 2, .fz 2 (rS aw2), .fz 2 (rC want2)]) ?_ rfl ?_
  · refine .cons _ _ _ _ (.i _ _) (.cons _ _ _ _ (.cut 1 rfl (Nat.le_refl _) ?_) (.cons _ _ _ _ (.cut 2 rfl (Nat.le_refl _) ?_) .nil))
    · simp [vW, bw_map, mapAt_map, mapClo_it, mapClo_nil, mapClo_cons, vP, vZ, Tr.get_set, aw2, rS]
    · simp [vW, bw_map, mapAt_map, mapClo_it, mapClo_nil, mapClo_cons, vP, vZ, Tr.get_set, want2, rC, cCall]
  simp only [↓vS, cvF_pc, vP, shb, shv, shvs, she_nil, she_cons, vC, vQ, not_false_eq_true, Nat.reduceEqDiff, ↓reduceIte, eq_self, Nat.reduceAdd, Nat.reduceMul, Nat.reduceSub, Nat.reduceLeDiff, Nat.reduceLT, defd, cellsOf, wr, packR, Int.reduceLE, Int.reduceLT, Int.reduceEq, Int.cast_ofNat_Int, Int.reduceToNat]
  refine (h1 [114, 101, 97, 100] 2147483648).sc ?_
  simp only [↓vS, cvF_pc, vP, shb, shv, shvs, she_nil, she_cons, vC, vQ, not_false_eq_true, Nat.reduceEqDiff, ↓reduceIte, eq_self, Nat.reduceAdd, Nat.reduceMul, Nat.reduceSub, Nat.reduceLeDiff, Nat.reduceLT, defd, cellsOf, wr, packR, Int.reduceLE, Int.reduceLT, Int.reduceEq, Int.cast_ofNat_Int, Int.reduceToNat]
  refine (h2 1 aw3 want3 (by decide) (by decide) aw3_m).lend (vs' := [.i .u8 1, .fz 2 (rS aw3), .fz 1 (rC want3)]) ?_ rfl ?_
  · refine .cons _ _ _ _ (.i _ _) (.cons _ _ _ _ (.cut 1 rfl (Nat.le_refl _) ?_) (.cons _ _ _ _ (.cut 2 rfl (Nat.le_refl _) ?_) .nil))
    · simp [vW, bw_map, mapAt_map, mapClo_it, mapClo_nil, mapClo_cons, vP, vZ, Tr.get_set, aw3, rS]
    · simp [vW, bw_map, mapAt_map, mapClo_it, mapClo_nil, mapClo_cons, vP, vZ, Tr.get_set, want3, rC, cCall]
  simp only [↓vS, cvF_pc, vP, shb, shv, shvs, she_nil, she_cons, vC, vQ, not_false_eq_true, Nat.reduceEqDiff, ↓reduceIte, eq_self, Nat.reduceAdd, Nat.reduceMul, Nat.reduceSub, Nat.reduceLeDiff, Nat.reduceLT, defd, cellsOf, wr, packR, Int.reduceLE, Int.reduceLT, Int.reduceEq, Int.cast_ofNat_Int, Int.reduceToNat]
  refine (h1 [114, 101, 97, 100] 0).sc ?_
  simp only [↓vS, cvF_pc, vP, shb, shv, shvs, she_nil, she_cons, vC, vQ, not_false_eq_true, Nat.reduceEqDiff, ↓reduceIte, eq_self, Nat.reduceAdd, Nat.reduceMul, Nat.reduceSub, Nat.reduceLeDiff, Nat.reduceLT, defd, cellsOf, wr, packR, Int.reduceLE, Int.reduceLT, Int.reduceEq, Int.cast_ofNat_Int, Int.reduceToNat]
  refine (h2 2 aw4 want4 (by decide) (by decide) aw4_m).lend (vs' := [.i .u8 2, .fz 3 (rS aw4), .fz 1 (rC want4)]) ?_ rfl ?_
  · refine .cons _ _ _ _ (.i _ _) (.cons _ _ _ _ (.cut 1 rfl (Nat.le_refl _) ?_) (.cons _ _ _ _ (.cut 2 rfl (Nat.le_refl _) ?_) .nil))
    · simp [vW, bw_map, mapAt_map, mapClo_it, mapClo_nil, mapClo_cons, vP, vZ, Tr.get_set, aw4, rS]
    · simp [vW, bw_map, mapAt_map, mapClo_it, mapClo_nil, mapClo_cons, vP, vZ, Tr.get_set, want4, rC, cCall]
  simp only [↓vS, cvF_pc, vP, shb, shv, shvs, she_nil, she_cons, vC, vQ, not_false_eq_true, Nat.reduceEqDiff, ↓reduceIte, eq_self, Nat.reduceAdd, Nat.reduceMul, Nat.reduceSub, Nat.reduceLeDiff, Nat.reduceLT, defd, cellsOf, wr, packR, Int.reduceLE, Int.reduceLT, Int.reduceEq, Int.cast_ofNat_Int, Int.reduceToNat]
  refine (h3 aw5 true (by decide) (by decide)).give [(8, .cells 0 true false (rS aw5))] (by simp [Tr.get_set, aw5, rS]) rfl ?_ ?_
  · refine .cons _ _ _ _ (.cut 1 rfl (Nat.le_refl _) ?_) (.cons _ _ _ _ (.b _) .nil)
    simp [vW, bw_map, mapAt_map, mapClo_it, mapClo_nil, mapClo_cons, vP, vZ, Tr.get_set, trP, aw5, rS]
  rw [aw5_m]
  simp only [kill_cons, kill_nil, hput_mk]
  simp (decide := true) only [↓vS, cvF_pc, vP, shb, shv, shvs, she_nil, she_cons, vC, vQ, not_false_eq_true, Nat.reduceEqDiff, ↓reduceIte, eq_self, Nat.reduceAdd, Nat.reduceMul, Nat.reduceSub, Nat.reduceLeDiff, Nat.reduceLT, defd, cellsOf, wr, packR, Int.reduceLE, Int.reduceLT, Int.reduceEq, Int.cast_ofNat_Int, Int.reduceToNat, cList, nts5, want1, rN, rC, cNote, cCall, List.flatMap_cons, List.flatMap_nil, List.cons_append, List.nil_append, List.length_cons, List.length_nil, List.getElem?_cons_zero, List.getElem?_cons_succ, List.take_succ_cons, List.take_zero]
  refine h4.sc ?_
  simp only [↓vS, cvF_pc, vP, shb, shv, shvs, she_nil, she_cons, vC, vQ, not_false_eq_true, Nat.reduceEqDiff, ↓reduceIte, eq_self, Nat.reduceAdd, Nat.reduceMul, Nat.reduceSub, Nat.reduceLeDiff, Nat.reduceLT, defd, cellsOf, wr, packR, Int.reduceLE, Int.reduceLT, Int.reduceEq, Int.cast_ofNat_Int, Int.reduceToNat]
  refine h5.sc ?_
  simp only [↓vS, cvF_pc, vP, shb, shv, shvs, she_nil, she_cons, vC, vQ, not_false_eq_true, Nat.reduceEqDiff, ↓reduceIte, eq_self, Nat.reduceAdd, Nat.reduceMul, Nat.reduceSub, Nat.reduceLeDiff, Nat.reduceLT, defd, cellsOf, wr, packR, Int.reduceLE, Int.reduceLT, Int.reduceEq, Int.cast_ofNat_Int, Int.reduceToNat]
  simp [vZ]
end Go.Kc
end
section
/- What the document's reading of values answers. Condition: the functions' texts are these. -/
namespace Go.Kc
variable {P : Program} {f : Nat}
end Go.Kc
end
section
/- What the document says of lists. Condition: the functions' texts are these. -/
namespace Go.Kc
variable {P : Program} {f : Nat}
def tab9 : List (List UInt8 × List Int) := [([98, 105, 110, 100], [49, 361, 1073741873, 282, 200, 200]), ([98, 112, 102], [321, 357, 1073742145, 386, 280, 280]), ([98, 114, 107], [12, 45, 1073741836, 45, 214, 214]), ([99, 108, 111, 99, 107, 95, 115, 101, 116, 116, 105, 109, 101], [227, 264, 1073742051, 262, 112, 112]), ([99, 108, 111, 110, 101], [56, 120, 1073741880, 120, 220, 220]), ([99, 108, 111, 110, 101, 51], [435, 435, -1, 435, 435, 435]), ([99, 108, 111, 115, 101], [3, 6, 1073741827, 6, 57, 57]), ([99, 111, 110, 110, 101, 99, 116], [42, 362, 1073741866, 283, 203, 203]), ([100, 101, 108, 101, 116, 101, 95, 109, 111, 100, 117, 108, 101], [176, 129, 1073742000, 129, 106, 106]), ([101, 120, 101, 99, 118, 101], [59, 11, 1073742344, 11, 221, 221]), ([101, 120, 105, 116], [60, 1, 1073741884, 1, 93, 93]), ([102, 105, 110, 105, 116, 95, 109, 111, 100, 117, 108, 101], [313, 350, 1073742137, 379, 273, 273]), ([102, 111, 114, 107], [57, 2, 1073741881, 2, -1, -1]), ([103, 101, 116, 117, 105, 100], [102, 24, 1073741926, 24, 174, 174]), ([105, 110, 105, 116, 95, 109, 111, 100, 117, 108, 101], [175, 128, -1, 128, 105, 105]), ([105, 111, 99, 116, 108], [16, 54, 1073742338, 54, 29, 29]), ([107, 105, 108, 108], [62, 37, 1073741886, 37, 129, 129]), ([108, 105, 115, 116, 101, 110], [50, 363, 1073741874, 284, 201, 201]), ([109, 109, 97, 112], [9, 90, 1073741833, -1, 222, 222]), ([109, 111, 117, 110, 116], [165, 21, 1073741989, 21, 40, 40]), ([109, 112, 114, 111, 116, 101, 99, 116], [10, 125, 1073741834, 125, 226, 226]), ([109, 117, 110, 109, 97, 112], [11, 91, 1073741835, 91, 215, 215]), ([111, 112, 101, 110], [2, 5, 1073741826, 5, -1, -1]), ([111, 112, 101, 110, 97, 116], [257, 295, 1073742081, 322, 56, 56]), ([112, 101, 114, 115, 111, 110, 97, 108, 105, 116, 121], [135, 136, 1073741959, 136, 92, 92]), ([112, 107, 101, 121, 95, 109, 112, 114, 111, 116, 101, 99, 116], [329, 380, 1073742153, 394, 288, -1]), ([112, 116, 114, 97, 99, 101], [101, 26, 1073742345, 26, 117, 117]), ([114, 101, 97, 100], [0, 3, 1073741824, 3, 63, 63]), ([114, 101, 98, 111, 111, 116], [169, 88, 1073741993, 88, 142, 142]), ([115, 99, 104, 101, 100, 95, 115, 101, 116, 97, 116, 116, 114], [314, 351, 1073742138, 380, 274, 274]), ([115, 99, 104, 101, 100, 95, 115, 101, 116, 115, 99, 104, 101, 100, 117, 108, 101, 114], [144, 156, 1073741968, 156, 119, 119]), ([115, 101, 99, 99, 111, 109, 112], [317, 354, 1073742141, 383, 277, 277]), ([115, 101, 116, 110, 115], [308, 346, 1073742132, 375, 268, 268]), ([115, 101, 116, 116, 105, 109, 101, 111, 102, 100, 97, 121], [164, 79, 1073741988, 79, 170, 170]), ([115, 101, 116, 117, 105, 100], [105, 23, 1073741929, 23, 146, 146]), ([115, 104, 109, 97, 116], [30, 397, -1, 305, 196, 196]), ([115, 111, 99, 107, 101, 116], [41, 359, 1073741865, 281, 198, 198]), ([117, 109, 111, 117, 110, 116, 50], [166, 52, 1073741990, 52, 39, 39]), ([117, 110, 115, 104, 97, 114, 101], [272, 310, 1073742096, 337, 97, 97]), ([119, 114, 105, 116, 101], [1, 4, 1073741825, 4, 64, 64])]
def row9 (x : List UInt8 × List Int) : List AV := [.s x.1, .fz 6 (rI .i64 x.2)]
theorem row9_len (x : List UInt8 × List Int) : (row9 x).length = 2 := rfl
theorem tab9_names : tab9.map (·.1) = tab_calls.map (·.1) := rfl
def cTab9 (P : Program) (f : Nat) : Prop := Pure P f [] (.fz 40 (tab9.flatMap row9))
theorem knownM_iff (s : List UInt8) : knownM s = true ↔ s ∈ tab9.map (·.1) := by
  rw [tab9_names]
  constructor
  · exact knownM_mem
  · intro h
    obtain ⟨x, hx, rfl⟩ := List.mem_map.1 h
    unfold knownM
    rw [List.find?_isSome]
    exact ⟨x, hx, by simp⟩
def ir_vestibuleref09_Known (f_vestibuleref09_Table : Nat) : IFn := ⟨[.tmp 2],
  .seq (.reg false [⟨(some 2), .op (.mov (.c (.b false))), none⟩])
  (.seq (.reg false [⟨(some 5), .callF f_vestibuleref09_Table [], none⟩,
    ⟨(some 3), .op (.mov (.t 5)), none⟩])
  (.seq (.seq (.reg false [⟨(some 4), .op (.mov (.c (.i .i64 0))), none⟩])
  (.blk 0 (.loop (.seq (.seq (.reg false [⟨(some 6), .op (.mov (.t 4)), none⟩,
    ⟨(some 7), .op (.mov (.t 3)), none⟩,
    ⟨(some 8), .op (.len false (.t 7)), none⟩,
    ⟨(some 9), .op (.bin .lss (.t 6) (.t 8)), none⟩])
  (.cond (.t 9) (.skip) (.exit 0)))
  (.seq (.blk 1 (.seq (.reg false [⟨(some 12), .op (.mov (.t 3)), none⟩,
    ⟨(some 13), .op (.mov (.t 4)), none⟩,
    ⟨(some 14), .op (.iAddrS 2 (.t 12) (.t 13)), none⟩,
    ⟨(some 15), .op (.fAddr 0 (.t 14)), none⟩,
    ⟨(some 16), .op (.load1 (.t 15)), none⟩,
    ⟨(some 17), .op (.mov (.t 0)), none⟩,
    ⟨(some 18), .op (.bin .eql (.t 16) (.t 17)), none⟩])
  (.cond (.t 18) (.seq (.reg false [⟨(some 2), .op (.mov (.c (.b true))), none⟩])
  (.ret)) (.skip))))
  (.reg false [⟨(some 10), .op (.mov (.t 4)), none⟩,
    ⟨(some 11), .op (.bin .add (.t 10) (.c (.i .i64 1))), none⟩,
    ⟨(some 4), .op (.mov (.t 11)), none⟩]))))))
  (.seq (.reg false [⟨(some 2), .op (.mov (.c (.b false))), none⟩])
  (.ret))))⟩
theorem known9 {g1 : Nat} (hc : chkFn P f (ir_vestibuleref09_Known g1) = true) (h1 : cTab9 P g1) (s : List UInt8) : Pure P f [.s s] (.b (knownM s)) := by
  refine Pure.mk hc rfl ?_
  simp only [ir_vestibuleref09_Known, argsT, H0, mkT, mkH, trL, List.length_cons, List.length_nil, Nat.reduceAdd, Nat.zero_add]
  simp only [↓vS, cvF_pc, vP, shb, shv, shvs, she_nil, she_cons, vC, vQ, not_false_eq_true, Nat.reduceEqDiff, ↓reduceIte, eq_self, Nat.reduceAdd, Nat.reduceMul, Nat.reduceSub, Nat.reduceLeDiff, Nat.reduceLT, defd, cellsOf, wr, packR, Int.reduceLE, Int.reduceLT, Int.reduceEq, Int.cast_ofNat_Int, Int.reduceToNat]
  refine h1.sc ?_
  have h40 : tab9.length = 40 := by decide
  have hlen : (tab9.flatMap row9).length = 80 := by rw [flat_length row9_len, h40]
  have hcl : clos (tab9.flatMap row9) = true := clos_flat fun _ => rfl
  have hget : ∀ j r, tab9[j]? = some r → (tab9.flatMap row9)[j * 2]? = some (.s r.1) := fun j r h => flat_get (m := 2) row9_len h (i := 0) (by decide)
  generalize hT : tab9.flatMap row9 = T at hlen hcl hget
  simp only [↓vS, cvF_pc, vP, shb, shv, shvs, she_nil, she_cons, vC, vQ, not_false_eq_true, Nat.reduceEqDiff, ↓reduceIte, eq_self, Nat.reduceAdd, Nat.reduceMul, Nat.reduceSub, Nat.reduceLeDiff, Nat.reduceLT, defd, cellsOf, wr, packR, Int.reduceLE, Int.reduceLT, Int.reduceEq, Int.cast_ofNat_Int, Int.reduceToNat]
  refine SL.loop (α := Nat) (fun j => [(0, .s s), (3, .fz 40 T), (4, .i .i64 j)]) (fun _ => []) (fun j => j ≤ 40 ∧ ∀ r ∈ tab9.take j, r.1 ≠ s) (fun j => 40 - j) 0 [] ?_ ?_ ?_ rfl ?_ ?_
  · simp [vW, bw_map, mapAt_map, mapClo_it, mapClo_nil, mapClo_cons, vP, vZ, Tr.get_set, hcl]
  · trivial
  · simp
  · exact ⟨Nat.zero_le _, fun r hr => by cases hr⟩
  rintro j ⟨hj, hI⟩ G ih
  simp only [argsT, H0, mkT, mkH, trL, List.length_cons, List.length_nil, Nat.reduceAdd, Nat.zero_add]
  by_cases hlt : j < 40
  · have hx : tab9[j]? = some (tab9[j]'(by omega)) := List.getElem?_eq_getElem (by omega)
    have hw : IntKind.wrap .i64 ((j : Int) + 1) = ((j + 1 : Nat) : Int) := by rw [wrap64 (by omega) (by omega)]; omega
    have hlt' : (j : Int) < 40 := by omega
    have ht : tab9.take (j + 1) = tab9.take j ++ [tab9[j]'(by omega)] := by rw [List.take_add_one, hx]; rfl
    have hmem : (tab9[j]'(by omega)) ∈ tab9 := List.getElem_mem _
    have g0 := hget j _ hx
    generalize (tab9[j]'(by omega)) = r at hx ht hmem g0
    by_cases he : r.1 = s
    · have hk : knownM s = true := (knownM_iff s).2 (List.mem_map.2 ⟨r, hmem, he⟩)
      simp only [↓vS, cvF_pc, vP, shb, shv, shvs, she_nil, she_cons, vC, vQ, not_false_eq_true, Nat.reduceEqDiff, ↓reduceIte, eq_self, Nat.reduceAdd, Nat.reduceMul, Nat.reduceSub, Nat.reduceLeDiff, Nat.reduceLT, defd, cellsOf, wr, packR, Int.reduceLE, Int.reduceLT, Int.reduceEq, Int.cast_ofNat_Int, Int.reduceToNat, hlt, hlt', g0, he]
      simp [vZ, hk]
    · simp only [↓vS, cvF_pc, vP, shb, shv, shvs, she_nil, she_cons, vC, vQ, not_false_eq_true, Nat.reduceEqDiff, ↓reduceIte, eq_self, Nat.reduceAdd, Nat.reduceMul, Nat.reduceSub, Nat.reduceLeDiff, Nat.reduceLT, defd, cellsOf, wr, packR, Int.reduceLE, Int.reduceLT, Int.reduceEq, Int.cast_ofNat_Int, Int.reduceToNat, hlt, hlt', g0, he, hw]
      refine ih (j + 1) ⟨by omega, ?_⟩ (by omega) _ _ (Wk.mk _ _ [] ?_ ?_ ?_ rfl)
      · intro q hq
        rw [ht] at hq
        rcases List.mem_append.1 hq with h | h
        · exact hI q h
        · rw [List.mem_singleton.1 h]; exact he
      · simp [vW, bw_map, mapAt_map, mapClo_it, mapClo_nil, mapClo_cons, vP, vZ, Tr.get_set, hcl]
      · trivial
      · simp
  · have hlt' : ¬ (j : Int) < 40 := by omega
    have hk : knownM s = false := by
      rw [Bool.eq_false_iff]
      intro h
      obtain ⟨r, hr, he⟩ := List.mem_map.1 ((knownM_iff s).1 h)
      exact hI r (by rw [List.take_of_length_le (by omega)]; exact hr) he
    simp only [↓vS, cvF_pc, vP, shb, shv, shvs, she_nil, she_cons, vC, vQ, not_false_eq_true, Nat.reduceEqDiff, ↓reduceIte, eq_self, Nat.reduceAdd, Nat.reduceMul, Nat.reduceSub, Nat.reduceLeDiff, Nat.reduceLT, defd, cellsOf, wr, packR, Int.reduceLE, Int.reduceLT, Int.reduceEq, Int.cast_ofNat_Int, Int.reduceToNat, hlt']
    simp [vZ, hk]
def Rng (l : List GCall) : Prop := ∀ c ∈ l, 0 ≤ c.act ∧ c.act ≤ 4294967295
def cMayR (P : Program) (f : Nat) : Prop := ∀ l : GList, l.calls.length ≤ 100000 → Rng l.calls → Pure P f [.agg (cList l)] (.b (mayM l))
theorem tdiv_facts {a : Int} (h : 0 ≤ a) : a = 65536 * a.tdiv 65536 + a.tmod 65536 ∧ 0 ≤ a.tmod 65536 ∧ a.tmod 65536 < 65536 := by
  rw [Int.tdiv_eq_ediv_of_nonneg h, Int.tmod_eq_emod_of_nonneg h]; omega
theorem tdiv_rng {a : Int} (h0 : 0 ≤ a) (h1 : a ≤ 4294967295) : 0 ≤ a.tdiv 65536 ∧ a.tdiv 65536 < 4294967296 := by
  have := tdiv_facts h0; omega
theorem actM_tdiv {a : Int} (h0 : 0 ≤ a) (h1 : a ≤ 4294967295) : actM a = (decide (a = 0) || decide (a = 2147483648) || (decide (a.tdiv 65536 = 5) && decide (a.tmod 65536 ≤ 4095))) := by
  have := tdiv_facts h0
  unfold actM
  rw [Bool.eq_iff_iff]
  simp only [Bool.or_eq_true, Bool.and_eq_true, decide_eq_true_eq]
  omega
def ir_vestibuleref16_May_c2 (f_vestibuleref09_Known : Nat) : ICode := .seq (.seq (.reg false [⟨(some 3), .op (.mov (.c (.i .i64 0))), none⟩])
  (.blk 0 (.loop (.seq (.seq (.reg false [⟨(some 19), .op (.mov (.t 3)), none⟩,
    ⟨(some 20), .op (.fAddr 1 (.t 1)), none⟩,
    ⟨(some 21), .op (.load1 (.t 20)), none⟩,
    ⟨(some 22), .op (.len false (.t 21)), none⟩,
    ⟨(some 23), .op (.bin .lss (.t 19) (.t 22)), none⟩])
  (.cond (.t 23) (.skip) (.exit 0)))
  (.seq (.blk 1 (.seq (.reg false [⟨(some 26), .op (.fAddr 1 (.t 1)), none⟩,
    ⟨(some 27), .op (.load1 (.t 26)), none⟩,
    ⟨(some 28), .op (.mov (.t 3)), none⟩,
    ⟨(some 29), .op (.iAddrS 2 (.t 27) (.t 28)), none⟩,
    ⟨(some 30), .op (.fAddr 1 (.t 29)), none⟩,
    ⟨(some 31), .op (.load1 (.t 30)), none⟩,
    ⟨(some 4), .op (.mov (.t 31)), none⟩])
  (.seq (.seq (.reg true [⟨(some 32), .op (.fAddr 1 (.t 1)), none⟩,
    ⟨(some 33), .op (.load1 (.t 32)), none⟩,
    ⟨(some 34), .op (.mov (.t 3)), none⟩,
    ⟨(some 35), .op (.iAddrS 2 (.t 33) (.t 34)), none⟩,
    ⟨(some 36), .op (.fAddr 0 (.t 35)), none⟩,
    ⟨(some 37), .op (.load1 (.t 36)), none⟩,
    ⟨(some 38), .callF f_vestibuleref09_Known [(.t 37)], none⟩,
    ⟨(some 39), .op (.un .not (.t 38)), none⟩,
    ⟨(some 40), .op (.mov (.t 39)), none⟩,
    ⟨(some 41), .op (.mov (.t 3)), (some (40, false))⟩,
    ⟨(some 42), .op (.bin .gtr (.t 41) (.c (.i .i64 0))), (some (40, false))⟩,
    ⟨(some 43), .op (.mov (.t 42)), (some (40, false))⟩,
    ⟨(some 44), .op (.fAddr 1 (.t 1)), (some (43, true))⟩,
    ⟨(some 45), .op (.load1 (.t 44)), (some (43, true))⟩,
    ⟨(some 46), .op (.mov (.t 3)), (some (43, true))⟩,
    ⟨(some 47), .op (.bin .sub (.t 46) (.c (.i .i64 1))), (some (43, true))⟩,
    ⟨(some 48), .op (.iAddrS 2 (.t 45) (.t 47)), (some (43, true))⟩,
    ⟨(some 49), .op (.fAddr 0 (.t 48)), (some (43, true))⟩,
    ⟨(some 50), .op (.load1 (.t 49)), (some (43, true))⟩,
    ⟨(some 51), .op (.fAddr 1 (.t 1)), (some (43, true))⟩,
    ⟨(some 52), .op (.load1 (.t 51)), (some (43, true))⟩,
    ⟨(some 53), .op (.mov (.t 3)), (some (43, true))⟩,
    ⟨(some 54), .op (.iAddrS 2 (.t 52) (.t 53)), (some (43, true))⟩,
    ⟨(some 55), .op (.fAddr 0 (.t 54)), (some (43, true))⟩,
    ⟨(some 56), .op (.load1 (.t 55)), (some (43, true))⟩,
    ⟨(some 57), .op (.bin .geq (.t 50) (.t 56)), (some (43, true))⟩,
    ⟨(some 58), .op (.pick (.t 43) (.t 57) (.c (.b false))), (some (40, false))⟩,
    ⟨(some 59), .op (.pick (.t 40) (.c (.b true)) (.t 58)), none⟩])
  (.cond (.t 59) (.seq (.reg false [⟨(some 2), .op (.mov (.c (.b false))), none⟩])
  (.ret)) (.skip)))
  (.seq (.reg false [⟨(some 60), .op (.mov (.t 4)), none⟩,
    ⟨(some 61), .op (.bin .neq (.t 60) (.c (.i .u32 0))), none⟩,
    ⟨(some 62), .op (.mov (.t 61)), none⟩,
    ⟨(some 63), .op (.mov (.t 4)), (some (62, true))⟩,
    ⟨(some 64), .op (.bin .neq (.t 63) (.c (.i .u32 2147483648))), (some (62, true))⟩,
    ⟨(some 65), .op (.pick (.t 62) (.t 64) (.c (.b false))), none⟩,
    ⟨(some 66), .op (.mov (.t 65)), none⟩,
    ⟨(some 67), .op (.mov (.t 4)), (some (66, true))⟩,
    ⟨(some 68), .op (.bin .quo (.t 67) (.c (.i .u32 65536))), (some (66, true))⟩,
    ⟨(some 69), .op (.bin .neq (.t 68) (.c (.i .u32 5))), (some (66, true))⟩,
    ⟨(some 70), .op (.mov (.t 69)), (some (66, true))⟩,
    ⟨(some 71), .op (.mov (.t 4)), (some (70, false))⟩,
    ⟨(some 72), .op (.bin .rem (.t 71) (.c (.i .u32 65536))), (some (70, false))⟩,
    ⟨(some 73), .op (.bin .gtr (.t 72) (.c (.i .u32 4095))), (some (70, false))⟩,
    ⟨(some 74), .op (.pick (.t 70) (.c (.b true)) (.t 73)), (some (66, true))⟩,
    ⟨(some 75), .op (.pick (.t 66) (.t 74) (.c (.b false))), none⟩])
  (.cond (.t 75) (.seq (.reg false [⟨(some 2), .op (.mov (.c (.b false))), none⟩])
  (.ret)) (.skip))))))
  (.reg false [⟨(some 24), .op (.mov (.t 3)), none⟩,
    ⟨(some 25), .op (.bin .add (.t 24) (.c (.i .i64 1))), none⟩,
    ⟨(some 3), .op (.mov (.t 25)), none⟩]))))))
  (.seq (.reg false [⟨(some 2), .op (.mov (.c (.b true))), none⟩])
  (.ret))
def ir_vestibuleref16_May (f_vestibuleref09_Known : Nat) : IFn := ⟨[.tmp 2],
  .seq (.reg false [⟨(some 1), .op (.box (.t 0)), none⟩,
    ⟨(some 2), .op (.mov (.c (.b false))), none⟩])
  (.seq (.seq (.reg false [⟨(some 5), .op (.fAddr 0 (.t 1)), none⟩,
    ⟨(some 6), .op (.load1 (.t 5)), none⟩,
    ⟨(some 7), .op (.bin .gtr (.t 6) (.c (.i .u8 2))), none⟩,
    ⟨(some 8), .op (.mov (.t 7)), none⟩,
    ⟨(some 9), .op (.fAddr 0 (.t 1)), (some (8, false))⟩,
    ⟨(some 10), .op (.load1 (.t 9)), (some (8, false))⟩,
    ⟨(some 11), .op (.bin .eql (.t 10) (.c (.i .u8 0))), (some (8, false))⟩,
    ⟨(some 12), .op (.mov (.t 11)), (some (8, false))⟩,
    ⟨(some 13), .op (.fAddr 1 (.t 1)), (some (12, true))⟩,
    ⟨(some 14), .op (.load1 (.t 13)), (some (12, true))⟩,
    ⟨(some 15), .op (.len false (.t 14)), (some (12, true))⟩,
    ⟨(some 16), .op (.bin .gtr (.t 15) (.c (.i .i64 0))), (some (12, true))⟩,
    ⟨(some 17), .op (.pick (.t 12) (.t 16) (.c (.b false))), (some (8, false))⟩,
    ⟨(some 18), .op (.pick (.t 8) (.c (.b true)) (.t 17)), none⟩])
  (.cond (.t 18) (.seq (.reg false [⟨(some 2), .op (.mov (.c (.b false))), none⟩])
  (.ret)) (.skip)))
  (.cut (ir_vestibuleref16_May_c2 f_vestibuleref09_Known)))⟩
set_option maxRecDepth 8000 in
theorem may16_c2 {g1 : Nat} (h1 : ∀ s, Pure P g1 [.s s] (.b (knownM s))) (l : GList) (hl : l.calls.length ≤ 100000) (hR : Rng l.calls) {t' : Tr AV} {h' : Hp} (hw : Wk 0 t' h' (mkT [(1, .ptr 0 0), (2, .b false)]) (mkH 0 [.cells 0 true false (cList l)])) :
    S P 0 (ir_vestibuleref16_May_c2 g1) (endX [.tmp 2] fun v' h' => Frz h' v' (.b (upFrom none l.calls))) t' h' := by
  refine S.weak hw (V_sound ?_)
  simp only [ir_vestibuleref16_May_c2, cList, argsT, H0, mkT, mkH, trL, List.length_cons, List.length_nil, Nat.reduceAdd, Nat.zero_add]
  simp only [↓vS, cvF_pc, vP, shb, shv, shvs, she_nil, she_cons, vC, vQ, not_false_eq_true, Nat.reduceEqDiff, ↓reduceIte, eq_self, Nat.reduceAdd, Nat.reduceMul, Nat.reduceSub, Nat.reduceLeDiff, Nat.reduceLT, defd, cellsOf, wr, packR, Int.reduceLE, Int.reduceLT, Int.reduceEq, Int.cast_ofNat_Int, Int.reduceToNat]
  refine SL.loop (α := Nat) (fun j => [(1, .ptr 0 0), (2, .b false), (3, .i .i64 j)]) (fun _ => [.cells 0 true false (cList l)])
    (fun j => j ≤ l.calls.length ∧ upFrom none l.calls = upFrom (if j = 0 then none else l.calls[j - 1]?) (l.calls.drop j)) (fun j => l.calls.length - j) 0 [0] ?_ ?_ ?_ rfl ?_ ?_
  · simp [vW, bw_map, mapAt_map, mapClo_it, mapClo_nil, mapClo_cons, vP, vZ, Tr.get_set, rC_clos]
  · simp [vW, bw_map, mapAt_map, mapClo_it, mapClo_nil, mapClo_cons, vP, vZ, Tr.get_set, cList]
  · simp
  · exact ⟨Nat.zero_le _, rfl⟩
  rintro j ⟨hj, hI⟩ G ih
  simp only [argsT, H0, mkT, mkH, trL, List.length_cons, List.length_nil, Nat.reduceAdd, Nat.zero_add, cList]
  by_cases hlt : j < l.calls.length
  · have hx : l.calls[j]? = some l.calls[j] := List.getElem?_eq_getElem hlt
    have g0 : (rC l.calls)[j * 2]? = some (.s l.calls[j].name) := rC_get hx (i := 0) (by decide)
    have g1 : (rC l.calls)[j * 2 + 1]? = some (.i .u32 l.calls[j].act) := rC_get hx (i := 1) (by decide)
    have hw : IntKind.wrap .i64 ((j : Int) + 1) = ((j + 1 : Nat) : Int) := by rw [wrap64 (by omega) (by omega)]; omega
    rw [List.drop_eq_getElem_cons hlt, upFrom] at hI
    obtain ⟨r0, r1⟩ := hR l.calls[j] (List.getElem_mem hlt)
    generalize hc0 : l.calls[j] = c at hI hx g0 g1 r0 r1
    simp only [↓vS, cvF_pc, vP, shb, shv, shvs, she_nil, she_cons, vC, vQ, not_false_eq_true, Nat.reduceEqDiff, ↓reduceIte, eq_self, Nat.reduceAdd, Nat.reduceMul, Nat.reduceSub, Nat.reduceLeDiff, Nat.reduceLT, defd, cellsOf, wr, packR, Int.reduceLE, Int.reduceLT, Int.reduceEq, Int.cast_ofNat_Int, Int.reduceToNat, hlt, g1]
    refine VD_pc ?_
    simp only [↓vS, cvF_pc, vP, shb, shv, shvs, she_nil, she_cons, vC, vQ, not_false_eq_true, Nat.reduceEqDiff, ↓reduceIte, eq_self, Nat.reduceAdd, Nat.reduceMul, Nat.reduceSub, Nat.reduceLeDiff, Nat.reduceLT, defd, cellsOf, wr, packR, Int.reduceLE, Int.reduceLT, Int.reduceEq, Int.cast_ofNat_Int, Int.reduceToNat, hlt, g0]
    refine (h1 c.name).pc ?_
    cases hk : knownM c.name with
    | false =>
      have hw : upFrom none l.calls = false := by rw [hI]; simp [okC, hk]
      simp only [↓vS, cvF_pc, vP, shb, shv, shvs, she_nil, she_cons, vC, vQ, not_false_eq_true, Nat.reduceEqDiff, ↓reduceIte, eq_self, Nat.reduceAdd, Nat.reduceMul, Nat.reduceSub, Nat.reduceLeDiff, Nat.reduceLT, defd, cellsOf, wr, packR, Int.reduceLE, Int.reduceLT, Int.reduceEq, Int.cast_ofNat_Int, Int.reduceToNat]
      simp [vZ, hw]
    | true =>
      by_cases h0 : j = 0
      · subst h0
        have hn : ¬ (0 : Int) < ((0 : Nat) : Int) := by decide
        have hw : IntKind.wrap .i64 (((0 : Nat) : Int) + 1) = ((1 : Nat) : Int) := by decide
        have hw' : IntKind.wrap .i64 (0 + 1) = ((1 : Nat) : Int) := by decide
        have h65 : (65536 : Int) ≠ 0 := by decide
        by_cases e0 : c.act = 0
        · have hok : okC c = true := by simp [okC, hk, actM, e0]
          simp only [↓vS, cvF_pc, vP, shb, shv, shvs, she_nil, she_cons, vC, vQ, not_false_eq_true, Nat.reduceEqDiff, ↓reduceIte, eq_self, Nat.reduceAdd, Nat.reduceMul, Nat.reduceSub, Nat.reduceLeDiff, Nat.reduceLT, defd, cellsOf, wr, packR, Int.reduceLE, Int.reduceLT, Int.reduceEq, Int.cast_ofNat_Int, Int.reduceToNat, hn, e0, hw]
          refine ih 1 ⟨by omega, ?_⟩ (by omega) _ _ (Wk.mk _ _ [0] ?_ ?_ ?_ rfl)
          · rw [hI, hok]; simp [hx]
          · simp [vW, bw_map, mapAt_map, mapClo_it, mapClo_nil, mapClo_cons, vP, vZ, Tr.get_set, rC_clos]
            exact wrap64 (by decide) (by decide)
          · simp [vW, bw_map, mapAt_map, mapClo_it, mapClo_nil, mapClo_cons, vP, vZ, Tr.get_set, cList]
          · simp
        by_cases e1 : c.act = 2147483648
        · have hok : okC c = true := by simp [okC, hk, actM, e1]
          simp only [↓vS, cvF_pc, vP, shb, shv, shvs, she_nil, she_cons, vC, vQ, not_false_eq_true, Nat.reduceEqDiff, ↓reduceIte, eq_self, Nat.reduceAdd, Nat.reduceMul, Nat.reduceSub, Nat.reduceLeDiff, Nat.reduceLT, defd, cellsOf, wr, packR, Int.reduceLE, Int.reduceLT, Int.reduceEq, Int.cast_ofNat_Int, Int.reduceToNat, hn, e0, e1, hw]
          refine ih 1 ⟨by omega, ?_⟩ (by omega) _ _ (Wk.mk _ _ [0] ?_ ?_ ?_ rfl)
          · rw [hI, hok]; simp [hx]
          · simp [vW, bw_map, mapAt_map, mapClo_it, mapClo_nil, mapClo_cons, vP, vZ, Tr.get_set, rC_clos]
            exact wrap64 (by decide) (by decide)
          · simp [vW, bw_map, mapAt_map, mapClo_it, mapClo_nil, mapClo_cons, vP, vZ, Tr.get_set, cList]
          · simp
        by_cases e2 : c.act.tdiv 65536 = 5
        · have hwq : IntKind.wrap .u32 (c.act.tdiv 65536) = 5 := by rw [e2]; decide
          by_cases e3 : 4095 < c.act.tmod 65536
          · have e3' : ¬ c.act.tmod 65536 ≤ 4095 := by omega
            have hwf : upFrom none l.calls = false := by rw [hI]; simp [okC, actM_tdiv r0 r1, e0, e1, e2, e3']
            simp only [↓vS, cvF_pc, vP, shb, shv, shvs, she_nil, she_cons, vC, vQ, not_false_eq_true, Nat.reduceEqDiff, ↓reduceIte, eq_self, Nat.reduceAdd, Nat.reduceMul, Nat.reduceSub, Nat.reduceLeDiff, Nat.reduceLT, defd, cellsOf, wr, packR, Int.reduceLE, Int.reduceLT, Int.reduceEq, Int.cast_ofNat_Int, Int.reduceToNat, hn, e0, e1, ↓bin_quo h65, ↓bin_rem h65, hwq, e3]
            simp [vZ, hwf]
          · have hok : okC c = true := by simp [okC, hk, actM_tdiv r0 r1, e0, e1, e2, e3]; omega
            simp only [↓vS, cvF_pc, vP, shb, shv, shvs, she_nil, she_cons, vC, vQ, not_false_eq_true, Nat.reduceEqDiff, ↓reduceIte, eq_self, Nat.reduceAdd, Nat.reduceMul, Nat.reduceSub, Nat.reduceLeDiff, Nat.reduceLT, defd, cellsOf, wr, packR, Int.reduceLE, Int.reduceLT, Int.reduceEq, Int.cast_ofNat_Int, Int.reduceToNat, hn, e0, e1, ↓bin_quo h65, ↓bin_rem h65, hwq, e3, hw]
            refine ih 1 ⟨by omega, ?_⟩ (by omega) _ _ (Wk.mk _ _ [0] ?_ ?_ ?_ rfl)
            · rw [hI, hok]; simp [hx]
            · simp [vW, bw_map, mapAt_map, mapClo_it, mapClo_nil, mapClo_cons, vP, vZ, Tr.get_set, rC_clos]
              exact wrap64 (by decide) (by decide)
            · simp [vW, bw_map, mapAt_map, mapClo_it, mapClo_nil, mapClo_cons, vP, vZ, Tr.get_set, cList]
            · simp
        · have hwq : ¬ IntKind.wrap .u32 (c.act.tdiv 65536) = 5 := by rw [wrapu32 (tdiv_rng r0 r1).1 (by have := (tdiv_rng r0 r1).2; omega)]; exact e2
          have hwf : upFrom none l.calls = false := by rw [hI]; simp [okC, actM_tdiv r0 r1, e0, e1, e2]
          simp only [↓vS, cvF_pc, vP, shb, shv, shvs, she_nil, she_cons, vC, vQ, not_false_eq_true, Nat.reduceEqDiff, ↓reduceIte, eq_self, Nat.reduceAdd, Nat.reduceMul, Nat.reduceSub, Nat.reduceLeDiff, Nat.reduceLT, defd, cellsOf, wr, packR, Int.reduceLE, Int.reduceLT, Int.reduceEq, Int.cast_ofNat_Int, Int.reduceToNat, hn, e0, e1, ↓bin_quo h65, hwq]
          simp [vZ, hwf]
      · have hp : (0 : Int) < (j : Int) := by omega
        have hpl : j - 1 < l.calls.length := by omega
        have hy : l.calls[j - 1]? = some l.calls[j - 1] := List.getElem?_eq_getElem hpl
        have hw2 : IntKind.wrap .i64 ((j : Int) - 1) = ((j - 1 : Nat) : Int) := by rw [wrap64 (by omega) (by omega)]; omega
        have g2 : (rC l.calls)[(j - 1) * 2]? = some (.s l.calls[j - 1].name) := rC_get hy (i := 0) (by decide)
        rw [if_neg h0, hy] at hI
        cases hlt2 : ltS l.calls[j - 1].name c.name with
        | false =>
          have hwf : upFrom none l.calls = false := by rw [hI]; simp [hlt2]
          simp only [↓vS, cvF_pc, vP, shb, shv, shvs, she_nil, she_cons, vC, vQ, not_false_eq_true, Nat.reduceEqDiff, ↓reduceIte, eq_self, Nat.reduceAdd, Nat.reduceMul, Nat.reduceSub, Nat.reduceLeDiff, Nat.reduceLT, defd, cellsOf, wr, packR, Int.reduceLE, Int.reduceLT, Int.reduceEq, Int.cast_ofNat_Int, Int.reduceToNat, hp, hw2, hpl, hlt, g0, g2, hlt2]
          simp [vZ, hwf]
        | true =>
          have h65 : (65536 : Int) ≠ 0 := by decide
          by_cases e0 : c.act = 0
          · have hok : okC c = true := by simp [okC, hk, actM, e0]
            simp only [↓vS, cvF_pc, vP, shb, shv, shvs, she_nil, she_cons, vC, vQ, not_false_eq_true, Nat.reduceEqDiff, ↓reduceIte, eq_self, Nat.reduceAdd, Nat.reduceMul, Nat.reduceSub, Nat.reduceLeDiff, Nat.reduceLT, defd, cellsOf, wr, packR, Int.reduceLE, Int.reduceLT, Int.reduceEq, Int.cast_ofNat_Int, Int.reduceToNat, hp, hw2, hpl, hlt, g0, g2, hlt2, e0, hw]
            refine ih (j + 1) ⟨by omega, ?_⟩ (by omega) _ _ (Wk.mk _ _ [0] ?_ ?_ ?_ rfl)
            · rw [hI, hok]; simp [hlt2, hx]
            · simp [vW, bw_map, mapAt_map, mapClo_it, mapClo_nil, mapClo_cons, vP, vZ, Tr.get_set, rC_clos]
            · simp [vW, bw_map, mapAt_map, mapClo_it, mapClo_nil, mapClo_cons, vP, vZ, Tr.get_set, cList]
            · simp
          by_cases e1 : c.act = 2147483648
          · have hok : okC c = true := by simp [okC, hk, actM, e1]
            simp only [↓vS, cvF_pc, vP, shb, shv, shvs, she_nil, she_cons, vC, vQ, not_false_eq_true, Nat.reduceEqDiff, ↓reduceIte, eq_self, Nat.reduceAdd, Nat.reduceMul, Nat.reduceSub, Nat.reduceLeDiff, Nat.reduceLT, defd, cellsOf, wr, packR, Int.reduceLE, Int.reduceLT, Int.reduceEq, Int.cast_ofNat_Int, Int.reduceToNat, hp, hw2, hpl, hlt, g0, g2, hlt2, e0, e1, hw]
            refine ih (j + 1) ⟨by omega, ?_⟩ (by omega) _ _ (Wk.mk _ _ [0] ?_ ?_ ?_ rfl)
            · rw [hI, hok]; simp [hlt2, hx]
            · simp [vW, bw_map, mapAt_map, mapClo_it, mapClo_nil, mapClo_cons, vP, vZ, Tr.get_set, rC_clos]
            · simp [vW, bw_map, mapAt_map, mapClo_it, mapClo_nil, mapClo_cons, vP, vZ, Tr.get_set, cList]
            · simp
          by_cases e2 : c.act.tdiv 65536 = 5
          · have hwq : IntKind.wrap .u32 (c.act.tdiv 65536) = 5 := by rw [e2]; decide
            by_cases e3 : 4095 < c.act.tmod 65536
            · have e3' : ¬ c.act.tmod 65536 ≤ 4095 := by omega
              have hwf : upFrom none l.calls = false := by rw [hI]; simp [okC, actM_tdiv r0 r1, e0, e1, e2, e3']
              simp only [↓vS, cvF_pc, vP, shb, shv, shvs, she_nil, she_cons, vC, vQ, not_false_eq_true, Nat.reduceEqDiff, ↓reduceIte, eq_self, Nat.reduceAdd, Nat.reduceMul, Nat.reduceSub, Nat.reduceLeDiff, Nat.reduceLT, defd, cellsOf, wr, packR, Int.reduceLE, Int.reduceLT, Int.reduceEq, Int.cast_ofNat_Int, Int.reduceToNat, hp, hw2, hpl, hlt, g0, g2, hlt2, e0, e1, ↓bin_quo h65, ↓bin_rem h65, hwq, e3]
              simp [vZ, hwf]
            · have hok : okC c = true := by simp [okC, hk, actM_tdiv r0 r1, e0, e1, e2, e3]; omega
              simp only [↓vS, cvF_pc, vP, shb, shv, shvs, she_nil, she_cons, vC, vQ, not_false_eq_true, Nat.reduceEqDiff, ↓reduceIte, eq_self, Nat.reduceAdd, Nat.reduceMul, Nat.reduceSub, Nat.reduceLeDiff, Nat.reduceLT, defd, cellsOf, wr, packR, Int.reduceLE, Int.reduceLT, Int.reduceEq, Int.cast_ofNat_Int, Int.reduceToNat, hp, hw2, hpl, hlt, g0, g2, hlt2, e0, e1, ↓bin_quo h65, ↓bin_rem h65, hwq, e3, hw]
              refine ih (j + 1) ⟨by omega, ?_⟩ (by omega) _ _ (Wk.mk _ _ [0] ?_ ?_ ?_ rfl)
              · rw [hI, hok]; simp [hlt2, hx]
              · simp [vW, bw_map, mapAt_map, mapClo_it, mapClo_nil, mapClo_cons, vP, vZ, Tr.get_set, rC_clos]
              · simp [vW, bw_map, mapAt_map, mapClo_it, mapClo_nil, mapClo_cons, vP, vZ, Tr.get_set, cList]
              · simp
          · have hwq : ¬ IntKind.wrap .u32 (c.act.tdiv 65536) = 5 := by rw [wrapu32 (tdiv_rng r0 r1).1 (by have := (tdiv_rng r0 r1).2; omega)]; exact e2
            have hwf : upFrom none l.calls = false := by rw [hI]; simp [okC, actM_tdiv r0 r1, e0, e1, e2]
            simp only [↓vS, cvF_pc, vP, shb, shv, shvs, she_nil, she_cons, vC, vQ, not_false_eq_true, Nat.reduceEqDiff, ↓reduceIte, eq_self, Nat.reduceAdd, Nat.reduceMul, Nat.reduceSub, Nat.reduceLeDiff, Nat.reduceLT, defd, cellsOf, wr, packR, Int.reduceLE, Int.reduceLT, Int.reduceEq, Int.cast_ofNat_Int, Int.reduceToNat, hp, hw2, hpl, hlt, g0, g2, hlt2, e0, e1, ↓bin_quo h65, hwq]
            simp [vZ, hwf]
  · rw [List.drop_of_length_le (by omega), upFrom] at hI
    simp only [↓vS, cvF_pc, vP, shb, shv, shvs, she_nil, she_cons, vC, vQ, not_false_eq_true, Nat.reduceEqDiff, ↓reduceIte, eq_self, Nat.reduceAdd, Nat.reduceMul, Nat.reduceSub, Nat.reduceLeDiff, Nat.reduceLT, defd, cellsOf, wr, packR, Int.reduceLE, Int.reduceLT, Int.reduceEq, Int.cast_ofNat_Int, Int.reduceToNat, hlt]
    simp [vZ, hI]
theorem may16 {g1 : Nat} (hc : chkFn P f (ir_vestibuleref16_May g1) = true) (h1 : ∀ s, Pure P g1 [.s s] (.b (knownM s))) : cMayR P f := by
  intro l hl hR
  refine Pure.mk hc rfl ?_
  simp only [ir_vestibuleref16_May, cList, argsT, H0, mkT, mkH, trL, List.length_cons, List.length_nil, Nat.reduceAdd, Nat.zero_add]
  by_cases m1 : 2 < l.mode
  · have hw : mayM l = false := by simp [mayM]; omega
    simp only [↓vS, cvF_pc, vP, shb, shv, shvs, she_nil, she_cons, vC, vQ, not_false_eq_true, Nat.reduceEqDiff, ↓reduceIte, eq_self, Nat.reduceAdd, Nat.reduceMul, Nat.reduceSub, Nat.reduceLeDiff, Nat.reduceLT, defd, cellsOf, wr, packR, Int.reduceLE, Int.reduceLT, Int.reduceEq, Int.cast_ofNat_Int, Int.reduceToNat, m1]
    simp [vZ, hw]
  have tail : (l.mode ≠ 0 ∨ l.calls = []) → mayM l = upFrom none l.calls := fun h => by
    have : (decide (l.mode ≤ 2) && (decide (l.mode ≠ 0) || decide (l.calls = []))) = true := by
      simp only [Bool.and_eq_true, Bool.or_eq_true, decide_eq_true_eq]; exact ⟨by omega, h⟩
    unfold mayM; rw [this]; rfl
  by_cases m2 : l.mode = 0
  · by_cases m3 : (0 : Int) < l.calls.length
    · have hne : l.calls ≠ [] := by intro h; rw [h] at m3; simp at m3
      have hw : mayM l = false := by simp [mayM, m2, hne]
      simp only [↓vS, cvF_pc, vP, shb, shv, shvs, she_nil, she_cons, vC, vQ, not_false_eq_true, Nat.reduceEqDiff, ↓reduceIte, eq_self, Nat.reduceAdd, Nat.reduceMul, Nat.reduceSub, Nat.reduceLeDiff, Nat.reduceLT, defd, cellsOf, wr, packR, Int.reduceLE, Int.reduceLT, Int.reduceEq, Int.cast_ofNat_Int, Int.reduceToNat, m1, m2, m3]
      simp [vZ, hw]
    · have hz : l.calls = [] := List.eq_nil_of_length_eq_zero (by omega)
      rw [tail (.inr hz)]
      simp only [↓vS, cvF_pc, vP, shb, shv, shvs, she_nil, she_cons, vC, vQ, not_false_eq_true, Nat.reduceEqDiff, ↓reduceIte, eq_self, Nat.reduceAdd, Nat.reduceMul, Nat.reduceSub, Nat.reduceLeDiff, Nat.reduceLT, defd, cellsOf, wr, packR, Int.reduceLE, Int.reduceLT, Int.reduceEq, Int.cast_ofNat_Int, Int.reduceToNat, m1, m2, m3]
      refine may16_c2 h1 l hl hR (Wk.mk _ _ [0] ?_ ?_ ?_ rfl)
      · simp [vW, bw_map, mapAt_map, mapClo_it, mapClo_nil, mapClo_cons, vP, vZ, Tr.get_set]
      · simp [vW, bw_map, mapAt_map, mapClo_it, mapClo_nil, mapClo_cons, vP, vZ, Tr.get_set, cList, m2]
      · simp
  · rw [tail (.inl m2)]
    simp only [↓vS, cvF_pc, vP, shb, shv, shvs, she_nil, she_cons, vC, vQ, not_false_eq_true, Nat.reduceEqDiff, ↓reduceIte, eq_self, Nat.reduceAdd, Nat.reduceMul, Nat.reduceSub, Nat.reduceLeDiff, Nat.reduceLT, defd, cellsOf, wr, packR, Int.reduceLE, Int.reduceLT, Int.reduceEq, Int.cast_ofNat_Int, Int.reduceToNat, m1, m2]
    refine may16_c2 h1 l hl hR (Wk.mk _ _ [0] ?_ ?_ ?_ rfl)
    · simp [vW, bw_map, mapAt_map, mapClo_it, mapClo_nil, mapClo_cons, vP, vZ, Tr.get_set]
    · simp [vW, bw_map, mapAt_map, mapClo_it, mapClo_nil, mapClo_cons, vP, vZ, Tr.get_set, cList]
    · simp
end Go.Kc
end
section
/- What the document makes of lists: Find, take, Take, Put, Same. Condition: the functions' texts are these. -/
namespace Go.Kc
variable {P : Program} {f : Nat}
def ir_vestibuleref16_Find : IFn := ⟨[.tmp 4, .tmp 5],
  .seq (.reg false [⟨(some 2), .op (.box (.t 0)), none⟩,
    ⟨(some 4), .op (.mov (.c (.i .u32 0))), none⟩,
    ⟨(some 5), .op (.mov (.c (.b false))), none⟩])
  (.seq (.seq (.reg false [⟨(some 6), .op (.mov (.c (.i .i64 0))), none⟩])
  (.blk 0 (.loop (.seq (.seq (.reg false [⟨(some 7), .op (.mov (.t 6)), none⟩,
    ⟨(some 8), .op (.fAddr 1 (.t 2)), none⟩,
    ⟨(some 9), .op (.load1 (.t 8)), none⟩,
    ⟨(some 10), .op (.len false (.t 9)), none⟩,
    ⟨(some 11), .op (.bin .lss (.t 7) (.t 10)), none⟩])
  (.cond (.t 11) (.skip) (.exit 0)))
  (.seq (.blk 1 (.seq (.reg false [⟨(some 14), .op (.fAddr 1 (.t 2)), none⟩,
    ⟨(some 15), .op (.load1 (.t 14)), none⟩,
    ⟨(some 16), .op (.mov (.t 6)), none⟩,
    ⟨(some 17), .op (.iAddrS 2 (.t 15) (.t 16)), none⟩,
    ⟨(some 18), .op (.fAddr 0 (.t 17)), none⟩,
    ⟨(some 19), .op (.load1 (.t 18)), none⟩,
    ⟨(some 20), .op (.mov (.t 1)), none⟩,
    ⟨(some 21), .op (.bin .eql (.t 19) (.t 20)), none⟩])
  (.cond (.t 21) (.seq (.reg false [⟨(some 22), .op (.fAddr 1 (.t 2)), none⟩,
    ⟨(some 23), .op (.load1 (.t 22)), none⟩,
    ⟨(some 24), .op (.mov (.t 6)), none⟩,
    ⟨(some 25), .op (.iAddrS 2 (.t 23) (.t 24)), none⟩,
    ⟨(some 26), .op (.fAddr 1 (.t 25)), none⟩,
    ⟨(some 27), .op (.load1 (.t 26)), none⟩,
    ⟨(some 4), .op (.mov (.t 27)), none⟩,
    ⟨(some 5), .op (.mov (.c (.b true))), none⟩])
  (.ret)) (.skip))))
  (.reg false [⟨(some 12), .op (.mov (.t 6)), none⟩,
    ⟨(some 13), .op (.bin .add (.t 12) (.c (.i .i64 1))), none⟩,
    ⟨(some 6), .op (.mov (.t 13)), none⟩]))))))
  (.seq (.reg false [⟨(some 4), .op (.mov (.c (.i .u32 0))), none⟩,
    ⟨(some 5), .op (.mov (.c (.b false))), none⟩])
  (.ret)))⟩
theorem find16 (hc : chkFn P f ir_vestibuleref16_Find = true) : cFindL P f := by
  intro l s hl
  refine Pure.mk hc rfl ?_
  simp only [ir_vestibuleref16_Find, cList, argsT, H0, mkT, mkH, trL, List.length_cons, List.length_nil, Nat.reduceAdd, Nat.zero_add]
  simp only [↓vS, cvF_pc, vP, shb, shv, shvs, she_nil, she_cons, vC, vQ, not_false_eq_true, Nat.reduceEqDiff, ↓reduceIte, eq_self, Nat.reduceAdd, Nat.reduceMul, Nat.reduceSub, Nat.reduceLeDiff, Nat.reduceLT, defd, cellsOf, wr, packR, Int.reduceLE, Int.reduceLT, Int.reduceEq, Int.cast_ofNat_Int, Int.reduceToNat]
  refine SL.loop (α := Nat) (fun j => [(1, .s s), (2, .ptr 0 0), (4, .i .u32 0), (5, .b false), (6, .i .i64 j)]) (fun _ => [.cells 0 true false (cList l)]) (fun j => j ≤ l.calls.length ∧ findC l.calls s = findC (l.calls.drop j) s) (fun j => l.calls.length - j) 0 [0] ?_ ?_ ?_ rfl ?_ ?_
  · simp [vW, bw_map, mapAt_map, mapClo_it, mapClo_nil, mapClo_cons, vP, vZ, Tr.get_set]
  · simp [vW, bw_map, mapAt_map, mapClo_it, mapClo_nil, mapClo_cons, vP, vZ, Tr.get_set, cList]
  · simp
  · exact ⟨Nat.zero_le _, rfl⟩
  rintro j ⟨hj, hI⟩ G ih
  simp only [argsT, H0, mkT, mkH, trL, List.length_cons, List.length_nil, Nat.reduceAdd, Nat.zero_add, cList]
  by_cases hlt : j < l.calls.length
  · have hx : l.calls[j]? = some l.calls[j] := List.getElem?_eq_getElem hlt
    have g0 : (rC l.calls)[j * 2]? = some (.s l.calls[j].name) := rC_get hx (i := 0) (by decide)
    have g1 : (rC l.calls)[j * 2 + 1]? = some (.i .u32 l.calls[j].act) := rC_get hx (i := 1) (by decide)
    have hw : IntKind.wrap .i64 ((j : Int) + 1) = ((j + 1 : Nat) : Int) := by rw [wrap64 (by omega) (by omega)]; omega
    rw [List.drop_eq_getElem_cons hlt] at hI
    generalize l.calls[j] = c at hx g0 g1 hI
    by_cases he : c.name = s
    · have hf : findC l.calls s = some c := by rw [hI, ← he, findC_head]
      simp only [↓vS, cvF_pc, vP, shb, shv, shvs, she_nil, she_cons, vC, vQ, not_false_eq_true, Nat.reduceEqDiff, ↓reduceIte, eq_self, Nat.reduceAdd, Nat.reduceMul, Nat.reduceSub, Nat.reduceLeDiff, Nat.reduceLT, defd, cellsOf, wr, packR, Int.reduceLE, Int.reduceLT, Int.reduceEq, Int.cast_ofNat_Int, Int.reduceToNat, hlt, g0, g1, he]
      simp [vZ, hf]
    · have hf : findC l.calls s = findC (l.calls.drop (j + 1)) s := by rw [hI, findC_tail (Ne.symm he)]
      simp only [↓vS, cvF_pc, vP, shb, shv, shvs, she_nil, she_cons, vC, vQ, not_false_eq_true, Nat.reduceEqDiff, ↓reduceIte, eq_self, Nat.reduceAdd, Nat.reduceMul, Nat.reduceSub, Nat.reduceLeDiff, Nat.reduceLT, defd, cellsOf, wr, packR, Int.reduceLE, Int.reduceLT, Int.reduceEq, Int.cast_ofNat_Int, Int.reduceToNat, hlt, g0, he, hw]
      refine ih (j + 1) ⟨by omega, hf⟩ (by omega) _ _ (Wk.mk _ _ [0] ?_ ?_ ?_ rfl)
      · simp [vW, bw_map, mapAt_map, mapClo_it, mapClo_nil, mapClo_cons, vP, vZ, Tr.get_set]
      · simp [vW, bw_map, mapAt_map, mapClo_it, mapClo_nil, mapClo_cons, vP, vZ, Tr.get_set, cList]
      · simp
  · have hf : findC l.calls s = none := by rw [hI, List.drop_of_length_le (by omega)]; rfl
    simp only [↓vS, cvF_pc, vP, shb, shv, shvs, she_nil, she_cons, vC, vQ, not_false_eq_true, Nat.reduceEqDiff, ↓reduceIte, eq_self, Nat.reduceAdd, Nat.reduceMul, Nat.reduceSub, Nat.reduceLeDiff, Nat.reduceLT, defd, cellsOf, wr, packR, Int.reduceLE, Int.reduceLT, Int.reduceEq, Int.cast_ofNat_Int, Int.reduceToNat, hlt]
    simp [vZ, hf]
def ir_vestibuleref16_Same : IFn := ⟨[.tmp 4],
  .seq (.reg false [⟨(some 2), .op (.box (.t 0)), none⟩,
    ⟨(some 3), .op (.box (.t 1)), none⟩,
    ⟨(some 4), .op (.mov (.c (.b false))), none⟩])
  (.seq (.seq (.reg false [⟨(some 6), .op (.fAddr 0 (.t 2)), none⟩,
    ⟨(some 7), .op (.load1 (.t 6)), none⟩,
    ⟨(some 8), .op (.fAddr 0 (.t 3)), none⟩,
    ⟨(some 9), .op (.load1 (.t 8)), none⟩,
    ⟨(some 10), .op (.bin .neq (.t 7) (.t 9)), none⟩,
    ⟨(some 11), .op (.mov (.t 10)), none⟩,
    ⟨(some 12), .op (.fAddr 1 (.t 2)), (some (11, false))⟩,
    ⟨(some 13), .op (.load1 (.t 12)), (some (11, false))⟩,
    ⟨(some 14), .op (.len false (.t 13)), (some (11, false))⟩,
    ⟨(some 15), .op (.fAddr 1 (.t 3)), (some (11, false))⟩,
    ⟨(some 16), .op (.load1 (.t 15)), (some (11, false))⟩,
    ⟨(some 17), .op (.len false (.t 16)), (some (11, false))⟩,
    ⟨(some 18), .op (.bin .neq (.t 14) (.t 17)), (some (11, false))⟩,
    ⟨(some 19), .op (.pick (.t 11) (.c (.b true)) (.t 18)), none⟩])
  (.cond (.t 19) (.seq (.reg false [⟨(some 4), .op (.mov (.c (.b false))), none⟩])
  (.ret)) (.skip)))
  (.seq (.seq (.reg false [⟨(some 5), .op (.mov (.c (.i .i64 0))), none⟩])
  (.blk 0 (.loop (.seq (.seq (.reg false [⟨(some 20), .op (.mov (.t 5)), none⟩,
    ⟨(some 21), .op (.fAddr 1 (.t 2)), none⟩,
    ⟨(some 22), .op (.load1 (.t 21)), none⟩,
    ⟨(some 23), .op (.len false (.t 22)), none⟩,
    ⟨(some 24), .op (.bin .lss (.t 20) (.t 23)), none⟩])
  (.cond (.t 24) (.skip) (.exit 0)))
  (.seq (.blk 1 (.seq (.reg true [⟨(some 27), .op (.fAddr 1 (.t 2)), none⟩,
    ⟨(some 28), .op (.load1 (.t 27)), none⟩,
    ⟨(some 29), .op (.mov (.t 5)), none⟩,
    ⟨(some 30), .op (.iAddrS 2 (.t 28) (.t 29)), none⟩,
    ⟨(some 31), .op (.loadN 2 (.t 30)), none⟩,
    ⟨(some 32), .op (.fAddr 1 (.t 3)), none⟩,
    ⟨(some 33), .op (.load1 (.t 32)), none⟩,
    ⟨(some 34), .op (.mov (.t 5)), none⟩,
    ⟨(some 35), .op (.iAddrS 2 (.t 33) (.t 34)), none⟩,
    ⟨(some 36), .op (.loadN 2 (.t 35)), none⟩,
    ⟨(some 37), .op (.eqA true [.s, .i] (.t 31) (.t 36)), none⟩])
  (.cond (.t 37) (.seq (.reg false [⟨(some 4), .op (.mov (.c (.b false))), none⟩])
  (.ret)) (.skip))))
  (.reg false [⟨(some 25), .op (.mov (.t 5)), none⟩,
    ⟨(some 26), .op (.bin .add (.t 25) (.c (.i .i64 1))), none⟩,
    ⟨(some 5), .op (.mov (.t 26)), none⟩]))))))
  (.seq (.reg false [⟨(some 4), .op (.mov (.c (.b true))), none⟩])
  (.ret))))⟩
theorem same16 (hc : chkFn P f ir_vestibuleref16_Same = true) (l : GList) (hl : l.calls.length ≤ 100000) : Pure P f [.agg (cList l), .agg (cList l)] (.b true) := by
  refine Pure.mk hc rfl ?_
  simp only [ir_vestibuleref16_Same, cList, argsT, H0, mkT, mkH, trL, List.length_cons, List.length_nil, Nat.reduceAdd, Nat.zero_add]
  simp only [↓vS, cvF_pc, vP, shb, shv, shvs, she_nil, she_cons, vC, vQ, not_false_eq_true, Nat.reduceEqDiff, ↓reduceIte, eq_self, Nat.reduceAdd, Nat.reduceMul, Nat.reduceSub, Nat.reduceLeDiff, Nat.reduceLT, defd, cellsOf, wr, packR, Int.reduceLE, Int.reduceLT, Int.reduceEq, Int.cast_ofNat_Int, Int.reduceToNat]
  refine SL.loop (α := Nat) (fun j => [(2, .ptr 0 0), (3, .ptr 1 0), (4, .b false), (5, .i .i64 j)]) (fun _ => [.cells 0 true false (cList l), .cells 0 true false (cList l)]) (fun _ => True) (fun j => l.calls.length - j) 0 [0, 1] ?_ ?_ ?_ rfl ?_ ?_
  · simp [vW, bw_map, mapAt_map, mapClo_it, mapClo_nil, mapClo_cons, vP, vZ, Tr.get_set]
  · simp [vW, bw_map, mapAt_map, mapClo_it, mapClo_nil, mapClo_cons, vP, vZ, Tr.get_set, cList]
  · simp
  · trivial
  rintro j - G ih
  simp only [argsT, H0, mkT, mkH, trL, List.length_cons, List.length_nil, Nat.reduceAdd, Nat.zero_add, cList]
  by_cases hlt : j < l.calls.length
  · have hx : l.calls[j]? = some l.calls[j] := List.getElem?_eq_getElem hlt
    have he := rC_elem hx
    have hb := rC_bound hlt
    have hw : IntKind.wrap .i64 ((j : Int) + 1) = ((j + 1 : Nat) : Int) := by rw [wrap64 (by omega) (by omega)]; omega
    simp only [↓vS, cvF_pc, vP, shb, shv, shvs, she_nil, she_cons, vC, vQ, not_false_eq_true, Nat.reduceEqDiff, ↓reduceIte, eq_self, Nat.reduceAdd, Nat.reduceMul, Nat.reduceSub, Nat.reduceLeDiff, Nat.reduceLT, defd, cellsOf, wr, packR, Int.reduceLE, Int.reduceLT, Int.reduceEq, Int.cast_ofNat_Int, Int.reduceToNat, hlt]
    refine VD_pc ?_
    simp (decide := true) only [↓vS, cvF_pc, vP, shb, shv, shvs, she_nil, she_cons, vC, vQ, not_false_eq_true, Nat.reduceEqDiff, ↓reduceIte, eq_self, Nat.reduceAdd, Nat.reduceMul, Nat.reduceSub, Nat.reduceLeDiff, Nat.reduceLT, defd, cellsOf, wr, packR, Int.reduceLE, Int.reduceLT, Int.reduceEq, Int.cast_ofNat_Int, Int.reduceToNat, hlt, hb, he, cCall, hw, beq_self_eq_true]
    refine ih (j + 1) trivial (by omega) _ _ (Wk.mk _ _ [0, 1] ?_ ?_ ?_ rfl)
    · simp [vW, bw_map, mapAt_map, mapClo_it, mapClo_nil, mapClo_cons, vP, vZ, Tr.get_set]
    · simp [vW, bw_map, mapAt_map, mapClo_it, mapClo_nil, mapClo_cons, vP, vZ, Tr.get_set, cList]
    · simp
  · simp only [↓vS, cvF_pc, vP, shb, shv, shvs, she_nil, she_cons, vC, vQ, not_false_eq_true, Nat.reduceEqDiff, ↓reduceIte, eq_self, Nat.reduceAdd, Nat.reduceMul, Nat.reduceSub, Nat.reduceLeDiff, Nat.reduceLT, defd, cellsOf, wr, packR, Int.reduceLE, Int.reduceLT, Int.reduceEq, Int.cast_ofNat_Int, Int.reduceToNat, hlt, vZ]
def ir_vestibuleref16_take : IFn := ⟨[.cell 4 2 true],
  .seq (.reg false [⟨(some 2), .op (.box (.t 0)), none⟩,
    ⟨(some 4), .op (.alloc [.i .u8 0, .nils]), none⟩])
  (.seq (.reg false [⟨(some 7), .op (.fAddr 0 (.t 2)), none⟩,
    ⟨(some 8), .op (.load1 (.t 7)), none⟩,
    ⟨(some 9), .op (.build [.i .u8 0, .nils] [(0, 1, (.t 8))]), none⟩,
    ⟨(some 5), .op (.alloc [.i .u8 0, .nils]), none⟩,
    ⟨none, .op (.store 2 (.t 5) (.t 9)), none⟩])
  (.seq (.seq (.reg false [⟨(some 6), .op (.mov (.c (.i .i64 0))), none⟩])
  (.blk 0 (.loop (.seq (.seq (.reg false [⟨(some 10), .op (.mov (.t 6)), none⟩,
    ⟨(some 11), .op (.fAddr 1 (.t 2)), none⟩,
    ⟨(some 12), .op (.load1 (.t 11)), none⟩,
    ⟨(some 13), .op (.len false (.t 12)), none⟩,
    ⟨(some 14), .op (.bin .lss (.t 10) (.t 13)), none⟩])
  (.cond (.t 14) (.skip) (.exit 0)))
  (.seq (.blk 1 (.seq (.reg false [⟨(some 17), .op (.fAddr 1 (.t 2)), none⟩,
    ⟨(some 18), .op (.load1 (.t 17)), none⟩,
    ⟨(some 19), .op (.mov (.t 6)), none⟩,
    ⟨(some 20), .op (.iAddrS 2 (.t 18) (.t 19)), none⟩,
    ⟨(some 21), .op (.fAddr 0 (.t 20)), none⟩,
    ⟨(some 22), .op (.load1 (.t 21)), none⟩,
    ⟨(some 23), .op (.mov (.t 1)), none⟩,
    ⟨(some 24), .op (.bin .neq (.t 22) (.t 23)), none⟩])
  (.cond (.t 24) (.reg true [⟨(some 25), .op (.fAddr 1 (.t 5)), none⟩,
    ⟨(some 26), .op (.load1 (.t 25)), none⟩,
    ⟨(some 27), .op (.fAddr 1 (.t 2)), none⟩,
    ⟨(some 28), .op (.load1 (.t 27)), none⟩,
    ⟨(some 29), .op (.mov (.t 6)), none⟩,
    ⟨(some 30), .op (.iAddrS 2 (.t 28) (.t 29)), none⟩,
    ⟨(some 31), .op (.loadN 2 (.t 30)), none⟩,
    ⟨(some 32), .op (.buildS 1 [.s [], .i .u32 0] [(0, 2, (.t 31))]), none⟩,
    ⟨(some 33), .op (.app 2 24 true (.t 26) (.t 32)), none⟩,
    ⟨(some 34), .op (.fAddr 1 (.t 5)), none⟩,
    ⟨none, .op (.store 1 (.t 34) (.t 33)), none⟩]) (.skip))))
  (.reg false [⟨(some 15), .op (.mov (.t 6)), none⟩,
    ⟨(some 16), .op (.bin .add (.t 15) (.c (.i .i64 1))), none⟩,
    ⟨(some 6), .op (.mov (.t 16)), none⟩]))))))
  (.seq (.reg false [⟨(some 35), .op (.loadN 2 (.t 5)), none⟩,
    ⟨none, .op (.store 2 (.t 4) (.t 35)), none⟩])
  (.ret))))⟩
def wo (l : List GCall) (s : List UInt8) : List GCall := l.filter fun c => !decide (c.name = s)
theorem wo_next {l : List GCall} {s : List UInt8} {j : Nat} {c : GCall} (h : l[j]? = some c) : wo (l.take (j + 1)) s = wo (l.take j) s ++ (if c.name = s then [] else [c]) := by
  unfold wo
  rw [List.take_add_one, h, List.filter_append]
  by_cases hc : c.name = s <;> simp [hc]
def cTake0 (P : Program) (f : Nat) : Prop := ∀ (l : GList) (s : List UInt8), l.calls.length ≤ 100000 → Own P f [.agg (cList l), .s s] (.agg [.i .u8 l.mode, .own 0 (wo l.calls s).length]) [.cells 2 true true (rC (wo l.calls s))]
theorem take0 (hc : chkFn P f ir_vestibuleref16_take = true) : cTake0 P f := by
  intro l s hl
  refine Own.mk hc rfl ?_
  simp only [ir_vestibuleref16_take, cList, argsT, H0, mkT, mkH, trL, List.length_cons, List.length_nil, Nat.reduceAdd, Nat.zero_add]
  simp only [↓vS, cvF_pc, vP, shb, shv, shvs, she_nil, she_cons, vC, vQ, not_false_eq_true, Nat.reduceEqDiff, ↓reduceIte, eq_self, Nat.reduceAdd, Nat.reduceMul, Nat.reduceSub, Nat.reduceLeDiff, Nat.reduceLT, defd, cellsOf, wr, packR, Int.reduceLE, Int.reduceLT, Int.reduceEq, Int.cast_ofNat_Int, Int.reduceToNat]
  refine SL.loop (α := Nat) (fun j => [(1, .s s), (2, .ptr 0 0), (4, .ptr 1 0), (5, .ptr 2 0), (6, .i .i64 j)]) (fun j => [.cells 0 true false (cList l), .cells 0 true false [.i .u8 0, .nils], .cells 0 true false [.i .u8 l.mode, .own 3 (wo (l.calls.take j) s).length], .cells 2 true true (rC (wo (l.calls.take j) s))])
    (fun j => j ≤ l.calls.length) (fun j => l.calls.length - j) 0 [0, 1, 2, 3] ?_ ?_ ?_ rfl ?_ ?_
  · simp [vW, bw_map, mapAt_map, mapClo_it, mapClo_nil, mapClo_cons, vP, vZ, Tr.get_set]
  · simp [vW, bw_map, mapAt_map, mapClo_it, mapClo_nil, mapClo_cons, vP, vZ, Tr.get_set, cList, wo, rC_nil]
  · simp
  · exact Nat.zero_le _
  rintro j hj G ih
  have hlen : (wo (l.calls.take j) s).length ≤ l.calls.length := by
    have := List.length_filter_le (fun c : GCall => !decide (c.name = s)) (l.calls.take j)
    rw [List.length_take] at this; unfold wo; omega
  simp only [argsT, H0, mkT, mkH, trL, List.length_cons, List.length_nil, Nat.reduceAdd, Nat.zero_add, cList]
  by_cases hlt : j < l.calls.length
  · have hx : l.calls[j]? = some l.calls[j] := List.getElem?_eq_getElem hlt
    have he := rC_elem hx
    have hb := rC_bound hlt
    have g0 : (rC l.calls)[j * 2]? = some (.s l.calls[j].name) := rC_get hx (i := 0) (by decide)
    have hw : IntKind.wrap .i64 ((j : Int) + 1) = ((j + 1 : Nat) : Int) := by rw [wrap64 (by omega) (by omega)]; omega
    have hnx := wo_next (s := s) hx
    have ih2 := ih (j + 1)
    rw [hnx] at ih2
    generalize l.calls[j] = c at hx he g0 hnx ih2
    generalize wo (l.calls.take j) s = A at hlen hnx ih2
    by_cases hc : c.name = s
    · rw [if_pos hc, List.append_nil] at ih2
      simp only [↓vS, cvF_pc, vP, shb, shv, shvs, she_nil, she_cons, vC, vQ, not_false_eq_true, Nat.reduceEqDiff, ↓reduceIte, eq_self, Nat.reduceAdd, Nat.reduceMul, Nat.reduceSub, Nat.reduceLeDiff, Nat.reduceLT, defd, cellsOf, wr, packR, Int.reduceLE, Int.reduceLT, Int.reduceEq, Int.cast_ofNat_Int, Int.reduceToNat, hlt, g0, hc, hw]
      refine ih2 (by omega) (by omega) _ _ (Wk.mk _ _ [0, 1, 2, 3] ?_ ?_ ?_ rfl)
      · simp [vW, bw_map, mapAt_map, mapClo_it, mapClo_nil, mapClo_cons, vP, vZ, Tr.get_set]
      · simp [vW, bw_map, mapAt_map, mapClo_it, mapClo_nil, mapClo_cons, vP, vZ, Tr.get_set, cList, nvs_self, rC_clos]
      · simp
    · rw [if_neg hc] at ih2
      have hb2 : j * 2 + 2 ≤ l.calls.length * 2 := by omega
      have hr1 : A.length + 1 ≤ roomB := by simp only [roomB]; omega
      have hr2 : (A.length + 1) * 24 ≤ roomB := by simp only [roomB]; omega
      have hap : rC A ++ [AV.s c.name, .i .u32 c.act] = rC (A ++ [c]) := by rw [← rC_app]; rfl
      simp only [↓vS, cvF_pc, vP, shb, shv, shvs, she_nil, she_cons, vC, vQ, not_false_eq_true, Nat.reduceEqDiff, ↓reduceIte, eq_self, Nat.reduceAdd, Nat.reduceMul, Nat.reduceSub, Nat.reduceLeDiff, Nat.reduceLT, defd, cellsOf, wr, packR, Int.reduceLE, Int.reduceLT, Int.reduceEq, Int.cast_ofNat_Int, Int.reduceToNat, hlt, g0, hc]
      refine VD_pc ?_
      simp (decide := true) only [↓vS, cvF_pc, vP, shb, shv, shvs, she_nil, she_cons, vC, vQ, not_false_eq_true, Nat.reduceEqDiff, ↓reduceIte, eq_self, Nat.reduceAdd, Nat.reduceMul, Nat.reduceSub, Nat.reduceLeDiff, Nat.reduceLT, defd, cellsOf, wr, packR, Int.reduceLE, Int.reduceLT, Int.reduceEq, Int.cast_ofNat_Int, Int.reduceToNat, hlt, hb2, he, cCall, hr1, hr2, rC_len, hap, hw]
      refine ih2 (by omega) (by omega) _ _ (Wk.mk _ _ [0, 1, 2, 5] ?_ ?_ ?_ rfl)
      · simp [vW, bw_map, mapAt_map, mapClo_it, mapClo_nil, mapClo_cons, vP, vZ, Tr.get_set]
      · simp [vW, bw_map, mapAt_map, mapClo_it, mapClo_nil, mapClo_cons, vP, vZ, Tr.get_set, cList, nvs_self, rC_clos]
      · simp
  · have hjl : l.calls.take j = l.calls := List.take_of_length_le (by omega)
    rw [hjl]
    simp only [↓vS, cvF_pc, vP, shb, shv, shvs, she_nil, she_cons, vC, vQ, not_false_eq_true, Nat.reduceEqDiff, ↓reduceIte, eq_self, Nat.reduceAdd, Nat.reduceMul, Nat.reduceSub, Nat.reduceLeDiff, Nat.reduceLT, defd, cellsOf, wr, packR, Int.reduceLE, Int.reduceLT, Int.reduceEq, Int.cast_ofNat_Int, Int.reduceToNat, hlt]
    intro _
    refine ⟨[3], ?_⟩
    simp [vW, bw_map, mapAt_map, mapClo_it, mapClo_nil, mapClo_cons, vP, vZ, Tr.get_set, nvs_self, rC_clos]
def cTakeR (P : Program) (f : Nat) : Prop := ∀ (l : GList) (s : List UInt8), l.calls.length ≤ 100000 → Rng l.calls → Pure P f [.agg (cList l), .s s] (.agg (cList (takeM l s)))
def cPutR (P : Program) (f : Nat) : Prop := ∀ (l : GList) (s : List UInt8) (n : Int), l.calls.length ≤ 100000 → Rng l.calls → Pure P f [.agg (cList l), .s s, .i .u32 n] (.agg (cList (putM l s n)))
theorem take0_pure (h : cTake0 P f) (l : GList) (s : List UInt8) (hl : l.calls.length ≤ 100000) : Pure P f [.agg (cList l), .s s] (.agg (cList ⟨l.mode, wo l.calls s⟩)) := by
  refine (h l s hl).pure rfl ?_
  simp only [H0, pushs_cons, pushs_nil, push_mk, shb, shv, shvs, she_nil, she_cons, List.map_cons, List.map_nil, up_mk, down_mk, Nat.reduceAdd, Nat.zero_add]
  simp [vZ, vP, Tr.get_set, cList, frzs_self rC_clos, shvs_clo rC_clos, shvs, shv]
  intro h0; rw [h0]; rfl
def ir_vestibuleref16_Take (f_vestibuleref16_May f_vestibuleref16_take : Nat) : IFn := ⟨[.cell 4 2 true],
  .seq (.reg false [⟨(some 2), .op (.box (.t 0)), none⟩,
    ⟨(some 4), .op (.alloc [.i .u8 0, .nils]), none⟩])
  (.seq (.seq (.reg false [⟨(some 5), .op (.loadN 2 (.t 2)), none⟩,
    ⟨(some 6), .callF f_vestibuleref16_May [(.t 5)], none⟩,
    ⟨(some 7), .op (.un .not (.t 6)), none⟩])
  (.cond (.t 7) (.seq (.reg false [⟨(some 8), .op (.loadN 2 (.t 2)), none⟩,
    ⟨none, .op (.store 2 (.t 4) (.t 8)), none⟩])
  (.ret)) (.skip)))
  (.seq (.reg false [⟨(some 9), .op (.loadN 2 (.t 2)), none⟩,
    ⟨(some 10), .op (.mov (.t 1)), none⟩,
    ⟨(some 11), .callF f_vestibuleref16_take [(.t 9), (.t 10)], none⟩,
    ⟨none, .op (.store 2 (.t 4) (.t 11)), none⟩])
  (.ret)))⟩
theorem take16 {g1 g2 : Nat} (hc : chkFn P f (ir_vestibuleref16_Take g1 g2) = true) (h1 : cMayR P g1) (h2 : cTake0 P g2) : cTakeR P f := by
  intro l s hl hR
  refine Pure.mk hc rfl ?_
  simp only [ir_vestibuleref16_Take, cList, argsT, H0, mkT, mkH, trL, List.length_cons, List.length_nil, Nat.reduceAdd, Nat.zero_add]
  simp only [↓vS, cvF_pc, vP, shb, shv, shvs, she_nil, she_cons, vC, vQ, not_false_eq_true, Nat.reduceEqDiff, ↓reduceIte, eq_self, Nat.reduceAdd, Nat.reduceMul, Nat.reduceSub, Nat.reduceLeDiff, Nat.reduceLT, defd, cellsOf, wr, packR, Int.reduceLE, Int.reduceLT, Int.reduceEq, Int.cast_ofNat_Int, Int.reduceToNat]
  refine (h1 l hl hR).sc ?_
  cases hM : mayM l with
  | false =>
    have hw : takeM l s = l := by unfold takeM; rw [hM]; rfl
    rw [hw]
    simp only [↓vS, cvF_pc, vP, shb, shv, shvs, she_nil, she_cons, vC, vQ, not_false_eq_true, Nat.reduceEqDiff, ↓reduceIte, eq_self, Nat.reduceAdd, Nat.reduceMul, Nat.reduceSub, Nat.reduceLeDiff, Nat.reduceLT, defd, cellsOf, wr, packR, Int.reduceLE, Int.reduceLT, Int.reduceEq, Int.cast_ofNat_Int, Int.reduceToNat]
    simp [vZ, vP, Tr.get_set, cList, frzs_self rC_clos]
  | true =>
    have hw : takeM l s = ⟨l.mode, wo l.calls s⟩ := by unfold takeM; rw [hM]; rfl
    rw [hw]
    simp only [↓vS, cvF_pc, vP, shb, shv, shvs, she_nil, she_cons, vC, vQ, not_false_eq_true, Nat.reduceEqDiff, ↓reduceIte, eq_self, Nat.reduceAdd, Nat.reduceMul, Nat.reduceSub, Nat.reduceLeDiff, Nat.reduceLT, defd, cellsOf, wr, packR, Int.reduceLE, Int.reduceLT, Int.reduceEq, Int.cast_ofNat_Int, Int.reduceToNat]
    refine (take0_pure h2 l s hl).sc ?_
    simp only [↓vS, cvF_pc, vP, shb, shv, shvs, she_nil, she_cons, vC, vQ, not_false_eq_true, Nat.reduceEqDiff, ↓reduceIte, eq_self, Nat.reduceAdd, Nat.reduceMul, Nat.reduceSub, Nat.reduceLeDiff, Nat.reduceLT, defd, cellsOf, wr, packR, Int.reduceLE, Int.reduceLT, Int.reduceEq, Int.cast_ofNat_Int, Int.reduceToNat, cList]
    simp [vZ, vP, Tr.get_set, cList, frzs_self rC_clos]
def ir_vestibuleref16_Put_c4 (f_vestibuleref16_May f_vestibuleref16_take : Nat) : ICode := .seq (.seq (.reg false [⟨(some 24), .op (.fAddr 1 (.t 7)), none⟩,
    ⟨(some 25), .op (.load1 (.t 24)), none⟩,
    ⟨(some 26), .op (.len false (.t 25)), none⟩,
    ⟨(some 27), .op (.bin .sub (.t 26) (.c (.i .i64 1))), none⟩,
    ⟨(some 8), .op (.mov (.t 27)), none⟩])
  (.blk 0 (.loop (.seq (.seq (.reg true [⟨(some 28), .op (.mov (.t 8)), none⟩,
    ⟨(some 29), .op (.bin .gtr (.t 28) (.c (.i .i64 0))), none⟩,
    ⟨(some 30), .op (.mov (.t 29)), none⟩,
    ⟨(some 31), .op (.fAddr 1 (.t 7)), (some (30, true))⟩,
    ⟨(some 32), .op (.load1 (.t 31)), (some (30, true))⟩,
    ⟨(some 33), .op (.mov (.t 8)), (some (30, true))⟩,
    ⟨(some 34), .op (.iAddrS 2 (.t 32) (.t 33)), (some (30, true))⟩,
    ⟨(some 35), .op (.fAddr 0 (.t 34)), (some (30, true))⟩,
    ⟨(some 36), .op (.load1 (.t 35)), (some (30, true))⟩,
    ⟨(some 37), .op (.fAddr 1 (.t 7)), (some (30, true))⟩,
    ⟨(some 38), .op (.load1 (.t 37)), (some (30, true))⟩,
    ⟨(some 39), .op (.mov (.t 8)), (some (30, true))⟩,
    ⟨(some 40), .op (.bin .sub (.t 39) (.c (.i .i64 1))), (some (30, true))⟩,
    ⟨(some 41), .op (.iAddrS 2 (.t 38) (.t 40)), (some (30, true))⟩,
    ⟨(some 42), .op (.fAddr 0 (.t 41)), (some (30, true))⟩,
    ⟨(some 43), .op (.load1 (.t 42)), (some (30, true))⟩,
    ⟨(some 44), .op (.bin .lss (.t 36) (.t 43)), (some (30, true))⟩,
    ⟨(some 45), .op (.pick (.t 30) (.t 44) (.c (.b false))), none⟩])
  (.cond (.t 45) (.skip) (.exit 0)))
  (.seq (.blk 1 (.reg true [⟨(some 48), .op (.fAddr 1 (.t 7)), none⟩,
    ⟨(some 49), .op (.load1 (.t 48)), none⟩,
    ⟨(some 50), .op (.mov (.t 8)), none⟩,
    ⟨(some 51), .op (.fAddr 1 (.t 7)), none⟩,
    ⟨(some 52), .op (.load1 (.t 51)), none⟩,
    ⟨(some 53), .op (.mov (.t 8)), none⟩,
    ⟨(some 54), .op (.bin .sub (.t 53) (.c (.i .i64 1))), none⟩,
    ⟨(some 55), .op (.fAddr 1 (.t 7)), none⟩,
    ⟨(some 56), .op (.load1 (.t 55)), none⟩,
    ⟨(some 57), .op (.mov (.t 8)), none⟩,
    ⟨(some 58), .op (.bin .sub (.t 57) (.c (.i .i64 1))), none⟩,
    ⟨(some 59), .op (.iAddrS 2 (.t 56) (.t 58)), none⟩,
    ⟨(some 60), .op (.loadN 2 (.t 59)), none⟩,
    ⟨(some 61), .op (.fAddr 1 (.t 7)), none⟩,
    ⟨(some 62), .op (.load1 (.t 61)), none⟩,
    ⟨(some 63), .op (.mov (.t 8)), none⟩,
    ⟨(some 64), .op (.iAddrS 2 (.t 62) (.t 63)), none⟩,
    ⟨(some 65), .op (.loadN 2 (.t 64)), none⟩,
    ⟨(some 66), .op (.iAddrS 2 (.t 49) (.t 50)), none⟩,
    ⟨none, .op (.storeD 2 (.t 66) (.t 60) [51]), none⟩,
    ⟨(some 67), .op (.iAddrS 2 (.t 52) (.t 54)), none⟩,
    ⟨none, .op (.store 2 (.t 67) (.t 65)), none⟩]))
  (.reg false [⟨(some 46), .op (.mov (.t 8)), none⟩,
    ⟨(some 47), .op (.bin .sub (.t 46) (.c (.i .i64 1))), none⟩,
    ⟨(some 8), .op (.mov (.t 47)), none⟩]))))))
  (.seq (.reg false [⟨(some 68), .op (.loadN 2 (.t 7)), none⟩,
    ⟨none, .op (.store 2 (.t 6) (.t 68)), none⟩])
  (.ret))
def ir_vestibuleref16_Put (f_vestibuleref16_May f_vestibuleref16_take : Nat) : IFn := ⟨[.cell 6 2 true],
  .seq (.reg false [⟨(some 3), .op (.box (.t 0)), none⟩,
    ⟨(some 6), .op (.alloc [.i .u8 0, .nils]), none⟩])
  (.seq (.seq (.reg false [⟨(some 9), .op (.loadN 2 (.t 3)), none⟩,
    ⟨(some 10), .callF f_vestibuleref16_May [(.t 9)], none⟩,
    ⟨(some 11), .op (.un .not (.t 10)), none⟩])
  (.cond (.t 11) (.seq (.reg false [⟨(some 12), .op (.loadN 2 (.t 3)), none⟩,
    ⟨none, .op (.store 2 (.t 6) (.t 12)), none⟩])
  (.ret)) (.skip)))
  (.seq (.reg false [⟨(some 13), .op (.loadN 2 (.t 3)), none⟩,
    ⟨(some 14), .op (.mov (.t 1)), none⟩,
    ⟨(some 15), .callF f_vestibuleref16_take [(.t 13), (.t 14)], none⟩,
    ⟨(some 7), .op (.alloc [.i .u8 0, .nils]), none⟩,
    ⟨none, .op (.store 2 (.t 7) (.t 15)), none⟩])
  (.seq (.reg false [⟨(some 16), .op (.fAddr 1 (.t 7)), none⟩,
    ⟨(some 17), .op (.load1 (.t 16)), none⟩,
    ⟨(some 18), .op (.mov (.t 1)), none⟩,
    ⟨(some 19), .op (.mov (.t 2)), none⟩,
    ⟨(some 20), .op (.build [.s [], .i .u32 0] [(0, 1, (.t 18)), (1, 1, (.t 19))]), none⟩,
    ⟨(some 21), .op (.buildS 1 [.s [], .i .u32 0] [(0, 2, (.t 20))]), none⟩,
    ⟨(some 22), .op (.app 2 24 true (.t 17) (.t 21)), none⟩,
    ⟨(some 23), .op (.fAddr 1 (.t 7)), none⟩,
    ⟨none, .op (.store 1 (.t 23) (.t 22)), none⟩])
  (.cut (ir_vestibuleref16_Put_c4 f_vestibuleref16_May f_vestibuleref16_take)))))⟩
theorem putM_sort {l : GList} (hM : mayM l = true) (s : List UInt8) (n : Int) {k : Nat} (h1 : ∀ c ∈ (wo l.calls s).take k, ltS c.name s = true) (h2 : ∀ c ∈ (wo l.calls s).drop k, ltS c.name s = false) :
    putM l s n = ⟨l.mode, (wo l.calls s).take k ++ ⟨s, n⟩ :: (wo l.calls s).drop k⟩ := by
  have hu := ((mayM_iff l).1 hM).2.2
  have e : putM l s n = ⟨l.mode, putL l.calls s n⟩ := if_pos hM
  obtain ⟨f1, f2⟩ := filter_cut (fun c => ltS c.name s) (wo l.calls s) k h1 h2
  have e1 : l.calls.filter (fun c => ltS c.name s) = (wo l.calls s).take k := by
    rw [← f1]; unfold wo; rw [List.filter_filter]
    refine List.filter_congr fun c _ => ?_
    cases h : ltS c.name s with
    | false => simp
    | true => simp [ltS_ne h]
  have e2 : l.calls.filter (fun c => ltS s c.name) = (wo l.calls s).drop k := by
    rw [← f2]; unfold wo; rw [List.filter_filter]
    refine List.filter_congr fun c _ => ?_
    rcases ltS_tri c.name s with h | h | h
    · rw [h, ltS_asymm h]; simp
    · rw [h, ltS_irr]; simp
    · rw [h, ltS_asymm h]; simp [(ltS_ne h).symm]
  rw [e, putL_eq hu, e1, e2]
theorem rC_set {L : List GCall} {j : Nat} (h : j < L.length) (c : GCall) : (rC L).take (j * 2) ++ (AV.s c.name :: AV.i .u32 c.act :: (rC L).drop (j * 2 + 2)) = rC (L.set j c) := by
  have e : j * 2 + 2 = (j + 1) * 2 := by omega
  rw [e, rC_take, rC_drop, List.set_eq_take_append_cons_drop, if_pos h, ← rC_app, rC_cons]
theorem swap_lists {α : Type} (d c : α) (B : List α) : ∀ A : List α, ((A ++ d :: c :: B).set (A.length + 1) d).set A.length c = A ++ c :: d :: B
  | [] => rfl
  | a :: A => by
    have := swap_lists d c B A
    simp only [List.cons_append, List.length_cons, List.set_cons_succ, this]
theorem put_tail (g1 g2 : Nat) (l : GList) (hM : mayM l = true) (s : List UInt8) (n : Int) :
    S P 0 (ir_vestibuleref16_Put_c4 g1 g2) (endX [.cell 6 2 true] fun v' h' => Frz h' v' (.agg (cList (putM l s n)))) (mkT [(6, .ptr 0 0), (7, .ptr 1 0)])
      (mkH 0 [.cells 0 true false [.i .u8 0, .nils], .cells 0 true false [.i .u8 l.mode, .own 2 (wo l.calls s ++ [(⟨s, n⟩ : GCall)]).length], .cells 2 true true (rC (wo l.calls s ++ [(⟨s, n⟩ : GCall)]))]) := by
  have hlen : (wo l.calls s).length ≤ 40 := Nat.le_trans (List.length_filter_le _ _) (may_len hM)
  have hup : Up (wo l.calls s) := up_filter ((mayM_iff l).1 hM).2.2 _
  have hne : ∀ c ∈ wo l.calls s, c.name ≠ s := by
    intro c hc; have := (List.mem_filter.1 hc).2; simpa using this
  have fin := fun {k : Nat} => putM_sort hM s n (k := k)
  generalize wo l.calls s = R at hlen hup hne fin
  have hRl : (R ++ [(⟨s, n⟩ : GCall)]).length = R.length + 1 := by simp
  refine V_sound ?_
  simp only [ir_vestibuleref16_Put_c4, hRl, argsT, H0, mkT, mkH, trL, List.length_cons, List.length_nil, Nat.reduceAdd, Nat.zero_add]
  have hw0 : IntKind.wrap .i64 (((R.length + 1 : Nat) : Int) - 1) = (R.length : Int) := by rw [wrap64 (by omega) (by omega)]; omega
  have hw0' : IntKind.wrap .i64 (R.length : Int) = (R.length : Int) := wrap64 (by omega) (by omega)
  simp only [↓vS, cvF_pc, vP, shb, shv, shvs, she_nil, she_cons, vC, vQ, not_false_eq_true, Nat.reduceEqDiff, ↓reduceIte, eq_self, Nat.reduceAdd, Nat.reduceMul, Nat.reduceSub, Nat.reduceLeDiff, Nat.reduceLT, defd, cellsOf, wr, packR, Int.reduceLE, Int.reduceLT, Int.reduceEq, Int.cast_ofNat_Int, Int.reduceToNat, hw0]
  refine SL.loop (α := Nat) (fun k => [(6, .ptr 0 0), (7, .ptr 1 0), (8, .i .i64 k)]) (fun k => [.cells 0 true false [.i .u8 0, .nils], .cells 0 true false [.i .u8 l.mode, .own 2 (R.length + 1)], .cells 2 true true (rC (R.take k ++ ⟨s, n⟩ :: R.drop k))])
    (fun k => k ≤ R.length ∧ ∀ c ∈ R.drop k, ltS s c.name = true) (fun k => k) R.length [0, 1, 2] ?_ ?_ ?_ rfl ?_ ?_
  · simp [vW, bw_map, mapAt_map, mapClo_it, mapClo_nil, mapClo_cons, vP, vZ, Tr.get_set, hw0']
  · simp [vW, bw_map, mapAt_map, mapClo_it, mapClo_nil, mapClo_cons, vP, vZ, Tr.get_set, nvs_self, rC_clos]
  · simp
  · exact ⟨Nat.le_refl _, fun c hc => by rw [List.drop_of_length_le (Nat.le_refl _)] at hc; cases hc⟩
  rintro k ⟨hk, hI⟩ G ih
  have h2 : ∀ c ∈ R.drop k, ltS c.name s = false := fun c hc => ltS_asymm (hI c hc)
  have hLl : (R.take k ++ (⟨s, n⟩ : GCall) :: R.drop k).length = R.length + 1 := by simp; omega
  have stop : (∀ c ∈ R.take k, ltS c.name s = true) → putM l s n = ⟨l.mode, R.take k ++ ⟨s, n⟩ :: R.drop k⟩ := fun h1 => fin h1 h2
  simp only [argsT, H0, mkT, mkH, trL, List.length_cons, List.length_nil, Nat.reduceAdd, Nat.zero_add]
  cases k with
  | zero =>
    have hf := stop (fun c hc => by cases hc)
    have hn : ¬ (0 : Int) < ((0 : Nat) : Int) := by decide
    rw [hf]
    generalize (R.take 0 ++ (⟨s, n⟩ : GCall) :: R.drop 0) = L at hLl
    simp only [↓vS, cvF_pc, vP, shb, shv, shvs, she_nil, she_cons, vC, vQ, not_false_eq_true, Nat.reduceEqDiff, ↓reduceIte, eq_self, Nat.reduceAdd, Nat.reduceMul, Nat.reduceSub, Nat.reduceLeDiff, Nat.reduceLT, defd, cellsOf, wr, packR, Int.reduceLE, Int.reduceLT, Int.reduceEq, Int.cast_ofNat_Int, Int.reduceToNat]
    refine VD_pc ?_
    simp only [↓vS, cvF_pc, vP, shb, shv, shvs, she_nil, she_cons, vC, vQ, not_false_eq_true, Nat.reduceEqDiff, ↓reduceIte, eq_self, Nat.reduceAdd, Nat.reduceMul, Nat.reduceSub, Nat.reduceLeDiff, Nat.reduceLT, defd, cellsOf, wr, packR, Int.reduceLE, Int.reduceLT, Int.reduceEq, Int.cast_ofNat_Int, Int.reduceToNat, hn]
    simp [vZ, vP, Tr.get_set, cList, frzs_self rC_clos, hLl]
  | succ k =>
    have hkl : k < R.length := by omega
    have hp : (0 : Int) < ((k + 1 : Nat) : Int) := by omega
    have hw1 : IntKind.wrap .i64 (((k + 1 : Nat) : Int) - 1) = (k : Int) := by rw [wrap64 (by omega) (by omega)]; omega
    have hd : R[k]? = some R[k] := List.getElem?_eq_getElem hkl
    have htk : R.take (k + 1) = R.take k ++ [R[k]] := by rw [List.take_add_one, hd]; rfl
    have hdr : R.drop k = R[k] :: R.drop (k + 1) := List.drop_eq_getElem_cons hkl
    have hLe : R.take (k + 1) ++ (⟨s, n⟩ : GCall) :: R.drop (k + 1) = R.take k ++ R[k] :: ⟨s, n⟩ :: R.drop (k + 1) := by rw [htk, List.append_assoc]; rfl
    have hAl : (R.take k).length = k := by simp; omega
    have hswap := swap_lists R[k] ⟨s, n⟩ (R.drop (k + 1)) (R.take k)
    rw [hAl, ← hLe] at hswap
    have hx1 : (R.take (k + 1) ++ (⟨s, n⟩ : GCall) :: R.drop (k + 1))[k + 1]? = some ⟨s, n⟩ := by
      rw [hLe, List.getElem?_append_right (by omega), hAl, Nat.add_sub_cancel_left]; rfl
    have hx0 : (R.take (k + 1) ++ (⟨s, n⟩ : GCall) :: R.drop (k + 1))[k]? = some R[k] := by
      rw [hLe, List.getElem?_append_right (by omega), hAl]; simp
    have hdm : R[k] ∈ R := List.getElem_mem _
    have hI2 : ltS s R[k].name = true → ∀ c ∈ R.drop k, ltS s c.name = true := by
      intro h c hc
      rw [hdr] at hc
      rcases List.mem_cons.1 hc with rfl | hc
      · exact h
      · exact hI c hc
    have hstop2 : ltS s R[k].name = false → ∀ c ∈ R.take (k + 1), ltS c.name s = true := by
      intro h c hc
      have hk1 : ltS R[k].name s = true := by
        rcases ltS_tri R[k].name s with h1 | h1 | h1
        · exact h1
        · exact absurd h1 (hne _ hdm)
        · rw [h1] at h; cases h
      rw [htk] at hc
      rcases List.mem_append.1 hc with hc | hc
      · have hu2 : Up (R.take k ++ [R[k]]) := by rw [← htk]; exact List.Pairwise.sublist (List.take_sublist _ _) hup
        exact ltS_trans ((List.pairwise_append.1 hu2).2.2 c hc R[k] (by simp)) hk1
      · rw [List.mem_singleton.1 hc]; exact hk1
    have g1 : (rC (R.take (k + 1) ++ (⟨s, n⟩ : GCall) :: R.drop (k + 1)))[(k + 1) * 2]? = some (.s s) := rC_get hx1 (i := 0) (by decide)
    have g0 : (rC (R.take (k + 1) ++ (⟨s, n⟩ : GCall) :: R.drop (k + 1)))[k * 2]? = some (.s R[k].name) := rC_get hx0 (i := 0) (by decide)
    have e1 := rC_elem hx1
    have e0 := rC_elem hx0
    have s1 := rC_set (L := R.take (k + 1) ++ (⟨s, n⟩ : GCall) :: R.drop (k + 1)) (j := k + 1) (by omega) R[k]
    have s0 := rC_set (L := (R.take (k + 1) ++ (⟨s, n⟩ : GCall) :: R.drop (k + 1)).set (k + 1) R[k]) (j := k) (by rw [List.length_set]; omega) ⟨s, n⟩
    rw [hswap] at s0
    have hll1 : (rC ((R.take (k + 1) ++ (⟨s, n⟩ : GCall) :: R.drop (k + 1)).set (k + 1) R[k])).length = (R.length + 1) * 2 := by rw [rC_len, List.length_set, hLl]
    cases hlt : ltS s R[k].name with
    | false =>
      have hf := stop (hstop2 hlt)
      rw [hf]
      generalize (R.take (k + 1) ++ (⟨s, n⟩ : GCall) :: R.drop (k + 1)) = L at hLl g1 g0
      have b1 : k + 1 < R.length + 1 := by omega
      have b0 : k < R.length + 1 := by omega
      simp only [↓vS, cvF_pc, vP, shb, shv, shvs, she_nil, she_cons, vC, vQ, not_false_eq_true, Nat.reduceEqDiff, ↓reduceIte, eq_self, Nat.reduceAdd, Nat.reduceMul, Nat.reduceSub, Nat.reduceLeDiff, Nat.reduceLT, defd, cellsOf, wr, packR, Int.reduceLE, Int.reduceLT, Int.reduceEq, Int.cast_ofNat_Int, Int.reduceToNat]
      refine VD_pc ?_
      simp only [↓vS, cvF_pc, vP, shb, shv, shvs, she_nil, she_cons, vC, vQ, not_false_eq_true, Nat.reduceEqDiff, ↓reduceIte, eq_self, Nat.reduceAdd, Nat.reduceMul, Nat.reduceSub, Nat.reduceLeDiff, Nat.reduceLT, defd, cellsOf, wr, packR, Int.reduceLE, Int.reduceLT, Int.reduceEq, Int.cast_ofNat_Int, Int.reduceToNat, hp, hw1, b1, b0, g1, g0, hlt]
      simp [vZ, vP, Tr.get_set, cList, frzs_self rC_clos, hLl]
    | true =>
      have ih2 := ih k ⟨by omega, hI2 hlt⟩ (by omega)
      rw [hdr] at ih2
      generalize (R.take (k + 1) ++ (⟨s, n⟩ : GCall) :: R.drop (k + 1)) = L at hLl g1 g0 e1 e0 s1 s0 hll1
      have hll : (rC L).length = (R.length + 1) * 2 := by rw [rC_len, hLl]
      have b1 : k + 1 < R.length + 1 := by omega
      have b0 : k < R.length + 1 := by omega
      have c1 : (k + 1) * 2 + 2 ≤ (R.length + 1) * 2 := by omega
      have c0 : k * 2 + 2 ≤ (R.length + 1) * 2 := by omega
      simp only [↓vS, cvF_pc, vP, shb, shv, shvs, she_nil, she_cons, vC, vQ, not_false_eq_true, Nat.reduceEqDiff, ↓reduceIte, eq_self, Nat.reduceAdd, Nat.reduceMul, Nat.reduceSub, Nat.reduceLeDiff, Nat.reduceLT, defd, cellsOf, wr, packR, Int.reduceLE, Int.reduceLT, Int.reduceEq, Int.cast_ofNat_Int, Int.reduceToNat]
      refine VD_pc ?_
      simp only [↓vS, cvF_pc, vP, shb, shv, shvs, she_nil, she_cons, vC, vQ, not_false_eq_true, Nat.reduceEqDiff, ↓reduceIte, eq_self, Nat.reduceAdd, Nat.reduceMul, Nat.reduceSub, Nat.reduceLeDiff, Nat.reduceLT, defd, cellsOf, wr, packR, Int.reduceLE, Int.reduceLT, Int.reduceEq, Int.cast_ofNat_Int, Int.reduceToNat, hp, hw1, b1, b0, g1, g0, hlt]
      refine VD_pc ?_
      simp (decide := true) only [↓vS, cvF_pc, vP, shb, shv, shvs, she_nil, she_cons, vC, vQ, not_false_eq_true, Nat.reduceEqDiff, ↓reduceIte, eq_self, Nat.reduceAdd, Nat.reduceMul, Nat.reduceSub, Nat.reduceLeDiff, Nat.reduceLT, defd, cellsOf, wr, packR, Int.reduceLE, Int.reduceLT, Int.reduceEq, Int.cast_ofNat_Int, Int.reduceToNat, hp, hw1, b1, b0, hll, hll1, c1, c0, e1, e0, cCall, s1, s0]
      refine ih2 _ _ (Wk.mk _ _ [0, 1, 2] ?_ ?_ ?_ rfl)
      · simp [vW, bw_map, mapAt_map, mapClo_it, mapClo_nil, mapClo_cons, vP, vZ, Tr.get_set]
      · simp [vW, bw_map, mapAt_map, mapClo_it, mapClo_nil, mapClo_cons, vP, vZ, Tr.get_set, nvs_self, rC_clos]
      · simp
theorem put16 {g1 g2 : Nat} (hc : chkFn P f (ir_vestibuleref16_Put g1 g2) = true) (h1 : cMayR P g1) (h2 : cTake0 P g2) : cPutR P f := by
  intro l s n hl hR
  refine Pure.mk hc rfl ?_
  simp only [ir_vestibuleref16_Put, cList, argsT, H0, mkT, mkH, trL, List.length_cons, List.length_nil, Nat.reduceAdd, Nat.zero_add]
  simp only [↓vS, cvF_pc, vP, shb, shv, shvs, she_nil, she_cons, vC, vQ, not_false_eq_true, Nat.reduceEqDiff, ↓reduceIte, eq_self, Nat.reduceAdd, Nat.reduceMul, Nat.reduceSub, Nat.reduceLeDiff, Nat.reduceLT, defd, cellsOf, wr, packR, Int.reduceLE, Int.reduceLT, Int.reduceEq, Int.cast_ofNat_Int, Int.reduceToNat]
  refine (h1 l hl hR).sc ?_
  cases hM : mayM l with
  | false =>
    have hw : putM l s n = l := by unfold putM; rw [hM]; rfl
    rw [hw]
    simp only [↓vS, cvF_pc, vP, shb, shv, shvs, she_nil, she_cons, vC, vQ, not_false_eq_true, Nat.reduceEqDiff, ↓reduceIte, eq_self, Nat.reduceAdd, Nat.reduceMul, Nat.reduceSub, Nat.reduceLeDiff, Nat.reduceLT, defd, cellsOf, wr, packR, Int.reduceLE, Int.reduceLT, Int.reduceEq, Int.cast_ofNat_Int, Int.reduceToNat]
    simp [vZ, vP, Tr.get_set, cList, frzs_self rC_clos]
  | true =>
    have hlen : (wo l.calls s).length ≤ 40 := Nat.le_trans (List.length_filter_le _ _) (may_len hM)
    have hr1 : (wo l.calls s).length + 1 ≤ roomB := by simp only [roomB]; omega
    have hr2 : ((wo l.calls s).length + 1) * 24 ≤ roomB := by simp only [roomB]; omega
    have hap : rC (wo l.calls s) ++ [AV.s s, .i .u32 n] = rC (wo l.calls s ++ [⟨s, n⟩]) := by rw [← rC_app]; rfl
    simp only [↓vS, cvF_pc, vP, shb, shv, shvs, she_nil, she_cons, vC, vQ, not_false_eq_true, Nat.reduceEqDiff, ↓reduceIte, eq_self, Nat.reduceAdd, Nat.reduceMul, Nat.reduceSub, Nat.reduceLeDiff, Nat.reduceLT, defd, cellsOf, wr, packR, Int.reduceLE, Int.reduceLT, Int.reduceEq, Int.cast_ofNat_Int, Int.reduceToNat]
    refine (h2 l s hl).sc ?_
    simp only [pushs_cons, pushs_nil, push_mk, shb, shv, shvs, she_nil, she_cons, List.map_cons, List.map_nil, up_mk, down_mk, Nat.reduceAdd, Nat.zero_add, shvs_clo rC_clos]
    simp (decide := true) only [↓vS, cvF_pc, vP, shb, shv, shvs, she_nil, she_cons, vC, vQ, not_false_eq_true, Nat.reduceEqDiff, ↓reduceIte, eq_self, Nat.reduceAdd, Nat.reduceMul, Nat.reduceSub, Nat.reduceLeDiff, Nat.reduceLT, defd, cellsOf, wr, packR, Int.reduceLE, Int.reduceLT, Int.reduceEq, Int.cast_ofNat_Int, Int.reduceToNat, hr1, hr2, rC_len, hap]
    refine S.weak (Wk.mk _ _ [1, 3, 5] ?_ ?_ ?_ rfl) (put_tail g1 g2 l hM s n)
    · simp [vW, bw_map, mapAt_map, mapClo_it, mapClo_nil, mapClo_cons, vP, vZ, Tr.get_set]
    · simp [vW, bw_map, mapAt_map, mapClo_it, mapClo_nil, mapClo_cons, vP, vZ, Tr.get_set, nvs_self, rC_clos]
    · simp
end Go.Kc
end
section
/- What fold.Put and fold.Take answer, in rows of one's own. Condition: the functions' texts are these. -/
namespace Go.Kc
variable {P : Program} {f : Nat}
theorem rC_flatO : ∀ {l : List GCall}, flatOs (rC l) = true
  | [] => rfl
  | c :: l => by rw [rC_cons]; simp [flatOs, flatO, rC_flatO (l := l)]
theorem take_own {g1 g2 g3 g4 : Nat} (hc : chkFn P f (ir_fold_Take g1 g2 g3 g4) = true) (h1 : cCop P g1) (h2 : cMay P g2) (h3 : ∀ s c, Pure P g3 [.agg (cCall c), .pf [.s s] 0] (.b (decide (c.name = s)))) (h4 : cDelete_call P g4) (l : GList) (s : List UInt8) (hl : l.calls.length ≤ 100000) :
    OwnL P f [.agg (cList l), .s s] (.agg [.i .u8 (takeM l s).mode, .own 0 (takeM l s).calls.length]) [.cells 2 true true (rC (takeM l s).calls)] := by
  refine OwnL.mk hc rfl (by simp [flatB, rC_flatO]) ?_
  simp only [ir_fold_Take, cList, argsT, H0, mkT, mkH, trL, List.length_cons, List.length_nil, Nat.reduceAdd, Nat.zero_add]
  simp only [↓vS, cvF_pc, vP, shb, shv, shvs, she_nil, she_cons, vC, vQ, not_false_eq_true, Nat.reduceEqDiff, ↓reduceIte, eq_self, Nat.reduceAdd, Nat.reduceMul, Nat.reduceSub, Nat.reduceLeDiff, Nat.reduceLT, defd, cellsOf, wr, packR, Int.reduceLE, Int.reduceLT, Int.reduceEq, Int.cast_ofNat_Int, Int.reduceToNat]
  refine (h1 l hl).sc ?_
  simp only [pushs_cons, pushs_nil, push_mk, shb, shv, shvs, she_nil, she_cons, List.map_cons, List.map_nil, up_mk, down_mk, Nat.reduceAdd, Nat.zero_add]
  simp only [↓vS, cvF_pc, vP, shb, shv, shvs, she_nil, she_cons, vC, vQ, not_false_eq_true, Nat.reduceEqDiff, ↓reduceIte, eq_self, Nat.reduceAdd, Nat.reduceMul, Nat.reduceSub, Nat.reduceLeDiff, Nat.reduceLT, defd, cellsOf, wr, packR, Int.reduceLE, Int.reduceLT, Int.reduceEq, Int.cast_ofNat_Int, Int.reduceToNat]
  refine S.weak (Wk.mk [(2, .ptr 0 0), (3, .ptr 1 0), (4, .ptr 2 0)] [.cells 0 true false [.i .u8 l.mode, .own 3 l.calls.length], .cells 0 true false [.s s], .cells 0 true false [.i .u8 0, .nils], .cells 2 true true (rC l.calls)] [0, 1, 2, 3] ?_ ?_ ?_ rfl) ?_
  · simp [vW, bw_map, mapAt_map, mapClo_it, mapClo_nil, mapClo_cons, vP, vZ, Tr.get_set]
  · simp [vW, bw_map, mapAt_map, mapClo_it, mapClo_nil, mapClo_cons, vP, vZ, Tr.get_set, nvs_self, rC_clos, shvs_clo rC_clos]
    try decide
  · simp [vW, bw_map, mapAt_map, mapClo_it, mapClo_nil, mapClo_cons, vP, vZ, Tr.get_set]
  refine S.weak (Wk.freeze 1 0 0 rfl rfl (Nat.zero_le _) (by simp)) ?_
  refine V_sound ?_
  simp only [ir_fold_Take_c2, argsT, H0, mkT, mkH, trL, List.length_cons, List.length_nil, Nat.reduceAdd, Nat.zero_add, fzv, fzvs, fzB, List.map_cons, List.map_nil, List.set_cons_zero, List.set_cons_succ, if_true, fzvs_clo rC_clos]
  simp only [↓vS, cvF_pc, vP, shb, shv, shvs, she_nil, she_cons, vC, vQ, not_false_eq_true, Nat.reduceEqDiff, ↓reduceIte, eq_self, Nat.reduceAdd, Nat.reduceMul, Nat.reduceSub, Nat.reduceLeDiff, Nat.reduceLT, defd, cellsOf, wr, packR, Int.reduceLE, Int.reduceLT, Int.reduceEq, Int.cast_ofNat_Int, Int.reduceToNat]
  refine (h2 l hl).lend (vs' := [.agg (cList l)]) ?_ rfl ?_
  · simp [vZ, vP, Tr.get_set, cList, frzs_self rC_clos]
    intro h0; rw [h0]; rfl
  cases hM : mayM l with
  | false =>
    have hw : takeM l s = l := by unfold takeM; rw [hM]; rfl
    simp only [↓vS, cvF_pc, vP, shb, shv, shvs, she_nil, she_cons, vC, vQ, not_false_eq_true, Nat.reduceEqDiff, ↓reduceIte, eq_self, Nat.reduceAdd, Nat.reduceMul, Nat.reduceSub, Nat.reduceLeDiff, Nat.reduceLT, defd, cellsOf, wr, packR, Int.reduceLE, Int.reduceLT, Int.reduceEq, Int.cast_ofNat_Int, Int.reduceToNat]
    rw [hw]
    intro _
    refine ⟨[3], ?_⟩
    simp [vW, bw_map, mapAt_map, mapClo_it, mapClo_nil, mapClo_cons, vP, vZ, Tr.get_set, nvs_self, rC_clos]
  | true =>
    have hw : takeM l s = ⟨l.mode, l.calls.filter fun c => !decide (c.name = s)⟩ := by unfold takeM; rw [hM]; rfl
    simp only [↓vS, cvF_pc, vP, shb, shv, shvs, she_nil, she_cons, vC, vQ, not_false_eq_true, Nat.reduceEqDiff, ↓reduceIte, eq_self, Nat.reduceAdd, Nat.reduceMul, Nat.reduceSub, Nat.reduceLeDiff, Nat.reduceLT, defd, cellsOf, wr, packR, Int.reduceLE, Int.reduceLT, Int.reduceEq, Int.cast_ofNat_Int, Int.reduceToNat]
    refine (h4 (fun c => decide (c.name = s)) g3 [] [.pf [.s s] 0] l.calls rfl rfl (by simp only [roomB]; omega) (fun c _ => h3 s c)).sc (vs := [.own 0 l.calls.length, .fn g3 [] [.pf [.s s] 0]]) [3] (Lent.of (by decide) ?_) ?_
    · simp [lent_cons, lent_nil, pushs_cons, pushs_nil, push_mk, shb, shv, shvs, bnds, bnd, rnvs, rnv, gAt, vW, bw_map, mapAt_map, mapClo_it, mapClo_nil, mapClo_cons, vP, vZ, Tr.get_set, bnds_clo rC_clos, rnvs_clo rC_clos, shvs_clo rC_clos]
    simp only [backH, List.cons_append, List.nil_append, List.length_cons, List.length_nil, Nat.zero_add, Nat.reduceAdd, List.take_succ_cons, List.take_zero, List.drop_succ_cons, List.drop_zero, List.map_cons, List.map_nil, rnb, rnvs, rnv, gAt, Nat.reduceLT, ↓reduceIte, List.getD_cons_zero, List.getD_cons_succ, Nat.reduceSub, puts_cons, puts_nil, pushs_cons, pushs_nil, hput_mk, push_mk, rnvs_clo rC_clos]
    simp only [↓vS, cvF_pc, vP, shb, shv, shvs, she_nil, she_cons, vC, vQ, not_false_eq_true, Nat.reduceEqDiff, ↓reduceIte, eq_self, Nat.reduceAdd, Nat.reduceMul, Nat.reduceSub, Nat.reduceLeDiff, Nat.reduceLT, defd, cellsOf, wr, packR, Int.reduceLE, Int.reduceLT, Int.reduceEq, Int.cast_ofNat_Int, Int.reduceToNat]
    rw [hw]
    intro _
    refine ⟨[3], ?_⟩
    simp [vW, bw_map, mapAt_map, mapClo_it, mapClo_nil, mapClo_cons, vP, vZ, Tr.get_set, nvs_self, rC_clos]
theorem put_own {g1 g2 g3 g4 g5 : Nat} (hc : chkFn P f (ir_fold_Put g1 g2 g3 g4 g5) = true) (h1 : cCop P g1) (h2 : cMay P g2) (h3 : cBsF P g3) (h4 : ∀ (c : GCall) (s : List UInt8), Pure P g4 [.agg (cCall c), .s s] (.i .i64 (cmpB c.name s))) (h5 : cInsert 2 24 P g5) (l : GList) (s : List UInt8) (n : Int) (hl : l.calls.length ≤ 100000) :
    OwnL P f [.agg (cList l), .s s, .i .u32 n] (.agg [.i .u8 (putM l s n).mode, .own 0 (putM l s n).calls.length]) [.cells 2 true true (rC (putM l s n).calls)] := by
  refine OwnL.mk hc rfl (by simp [flatB, rC_flatO]) ?_
  simp only [ir_fold_Put, cList, argsT, H0, mkT, mkH, trL, List.length_cons, List.length_nil, Nat.reduceAdd, Nat.zero_add]
  simp only [↓vS, cvF_pc, vP, shb, shv, shvs, she_nil, she_cons, vC, vQ, not_false_eq_true, Nat.reduceEqDiff, ↓reduceIte, eq_self, Nat.reduceAdd, Nat.reduceMul, Nat.reduceSub, Nat.reduceLeDiff, Nat.reduceLT, defd, cellsOf, wr, packR, Int.reduceLE, Int.reduceLT, Int.reduceEq, Int.cast_ofNat_Int, Int.reduceToNat]
  refine (h1 l hl).sc ?_
  simp only [pushs_cons, pushs_nil, push_mk, shb, shv, shvs, she_nil, she_cons, List.map_cons, List.map_nil, up_mk, down_mk, Nat.reduceAdd, Nat.zero_add]
  simp only [↓vS, cvF_pc, vP, shb, shv, shvs, she_nil, she_cons, vC, vQ, not_false_eq_true, Nat.reduceEqDiff, ↓reduceIte, eq_self, Nat.reduceAdd, Nat.reduceMul, Nat.reduceSub, Nat.reduceLeDiff, Nat.reduceLT, defd, cellsOf, wr, packR, Int.reduceLE, Int.reduceLT, Int.reduceEq, Int.cast_ofNat_Int, Int.reduceToNat]
  refine S.weak (Wk.mk [(1, .s s), (2, .i .u32 n), (3, .ptr 0 0), (6, .ptr 1 0)] [.cells 0 true false [.i .u8 l.mode, .own 2 l.calls.length], .cells 0 true false [.i .u8 0, .nils], .cells 2 true true (rC l.calls)] [0, 1, 2] ?_ ?_ ?_ rfl) (V_sound ?_)
  · simp [vW, bw_map, mapAt_map, mapClo_it, mapClo_nil, mapClo_cons, vP, vZ, Tr.get_set]
  · simp [vW, bw_map, mapAt_map, mapClo_it, mapClo_nil, mapClo_cons, vP, vZ, Tr.get_set, nvs_self, rC_clos, shvs_clo rC_clos]
    try decide
  · simp [vW, bw_map, mapAt_map, mapClo_it, mapClo_nil, mapClo_cons, vP, vZ, Tr.get_set]
  simp only [ir_fold_Put_c2, argsT, H0, mkT, mkH, trL, List.length_cons, List.length_nil, Nat.reduceAdd, Nat.zero_add]
  simp only [↓vS, cvF_pc, vP, shb, shv, shvs, she_nil, she_cons, vC, vQ, not_false_eq_true, Nat.reduceEqDiff, ↓reduceIte, eq_self, Nat.reduceAdd, Nat.reduceMul, Nat.reduceSub, Nat.reduceLeDiff, Nat.reduceLT, defd, cellsOf, wr, packR, Int.reduceLE, Int.reduceLT, Int.reduceEq, Int.cast_ofNat_Int, Int.reduceToNat]
  refine (h2 l hl).lend (vs' := [.agg (cList l)]) ?_ rfl ?_
  · simp [vZ, vP, Tr.get_set, cList, frzs_self rC_clos]
    intro h0; rw [h0]; rfl
  cases hM : mayM l with
  | false =>
    have hw : putM l s n = l := by unfold putM; rw [hM]; rfl
    simp only [↓vS, cvF_pc, vP, shb, shv, shvs, she_nil, she_cons, vC, vQ, not_false_eq_true, Nat.reduceEqDiff, ↓reduceIte, eq_self, Nat.reduceAdd, Nat.reduceMul, Nat.reduceSub, Nat.reduceLeDiff, Nat.reduceLT, defd, cellsOf, wr, packR, Int.reduceLE, Int.reduceLT, Int.reduceEq, Int.cast_ofNat_Int, Int.reduceToNat]
    rw [hw]
    intro _
    refine ⟨[2], ?_⟩
    simp [vW, bw_map, mapAt_map, mapClo_it, mapClo_nil, mapClo_cons, vP, vZ, Tr.get_set, nvs_self, rC_clos]
  | true =>
    have hw : putM l s n = ⟨l.mode, putL l.calls s n⟩ := by unfold putM; rw [hM]; rfl
    have hb := bsC_le l.calls (fun c => cmpB c.name s)
    simp only [↓vS, cvF_pc, vP, shb, shv, shvs, she_nil, she_cons, vC, vQ, not_false_eq_true, Nat.reduceEqDiff, ↓reduceIte, eq_self, Nat.reduceAdd, Nat.reduceMul, Nat.reduceSub, Nat.reduceLeDiff, Nat.reduceLT, defd, cellsOf, wr, packR, Int.reduceLE, Int.reduceLT, Int.reduceEq, Int.cast_ofNat_Int, Int.reduceToNat]
    refine (h3 l.calls s g4 (fun c => cmpB c.name s) (by simp only [roomB]; omega) (fun c _ => h4 c s)).lend (vs' := [.fz l.calls.length (rC l.calls), .s s, .fn g4 [] []]) ?_ rfl ?_
    · simp [vZ, vP, Tr.get_set, frzs_self rC_clos]
      intro h0; rw [h0]; rfl
    rw [hw]
    cases hfd : (l.calls[bsC l.calls (fun c => cmpB c.name s)]?).elim false (fun c => decide (cmpB c.name s = 0)) with
    | true =>
      have hp : putL l.calls s n = l.calls.set (bsC l.calls (fun c => cmpB c.name s)) ⟨s, n⟩ := if_pos hfd
      have hlt : bsC l.calls (fun c => cmpB c.name s) < l.calls.length := by
        rcases Nat.lt_or_ge (bsC l.calls (fun c => cmpB c.name s)) l.calls.length with h | h
        · exact h
        · rw [List.getElem?_eq_none h] at hfd; cases hfd
      have hbd := rC_bound hlt
      have hset : rC (l.calls.set (bsC l.calls (fun c => cmpB c.name s)) ⟨s, n⟩) = (rC l.calls).take (bsC l.calls (fun c => cmpB c.name s) * 2) ++ (AV.s s :: AV.i .u32 n :: (rC l.calls).drop (bsC l.calls (fun c => cmpB c.name s) * 2 + 2)) := by
        have e2 : bsC l.calls (fun c => cmpB c.name s) * 2 + 2 = (bsC l.calls (fun c => cmpB c.name s) + 1) * 2 := by omega
        rw [e2, rC_take, rC_drop, List.set_eq_take_append_cons_drop, if_pos hlt, ← rC_app, rC_cons] <;> rfl
      simp only [↓vS, cvF_pc, vP, shb, shv, shvs, she_nil, she_cons, vC, vQ, not_false_eq_true, Nat.reduceEqDiff, ↓reduceIte, eq_self, Nat.reduceAdd, Nat.reduceMul, Nat.reduceSub, Nat.reduceLeDiff, Nat.reduceLT, defd, cellsOf, wr, packR, Int.reduceLE, Int.reduceLT, Int.reduceEq, Int.cast_ofNat_Int, Int.reduceToNat, hlt, hbd]
      rw [hp]
      simp only [← hset]
      intro _
      refine ⟨[2], ?_⟩
      simp [vW, bw_map, mapAt_map, mapClo_it, mapClo_nil, mapClo_cons, vP, vZ, Tr.get_set, nvs_self, rC_clos]
    | false =>
      have hp : putL l.calls s n = l.calls.take (bsC l.calls (fun c => cmpB c.name s)) ++ ⟨s, n⟩ :: l.calls.drop (bsC l.calls (fun c => cmpB c.name s)) := if_neg (by rw [hfd]; decide)
      simp only [↓vS, cvF_pc, vP, shb, shv, shvs, she_nil, she_cons, vC, vQ, not_false_eq_true, Nat.reduceEqDiff, ↓reduceIte, eq_self, Nat.reduceAdd, Nat.reduceMul, Nat.reduceSub, Nat.reduceLeDiff, Nat.reduceLT, defd, cellsOf, wr, packR, Int.reduceLE, Int.reduceLT, Int.reduceEq, Int.cast_ofNat_Int, Int.reduceToNat]
      refine (h5 l.calls.length (bsC l.calls (fun c => cmpB c.name s)) (rC l.calls) [.s s, .i .u32 n] (by rw [rC_len]) rfl rC_clos rfl rC_ok rfl hb (by simp only [roomB]; omega) (by simp only [roomB]; omega)).sc (vs := [.own 0 l.calls.length, .i .i64 (bsC l.calls (fun c => cmpB c.name s) : Int), .sl 1 0 1 1 false]) [2, 4] (Lent.of (by decide) ?_) ?_
      · simp [lent_cons, lent_nil, pushs_cons, pushs_nil, push_mk, shb, shv, shvs, bnds, bnd, rnvs, rnv, gAt, vW, bw_map, mapAt_map, mapClo_it, mapClo_nil, mapClo_cons, vP, vZ, Tr.get_set, bnds_clo rC_clos, rnvs_clo rC_clos]
      have hT : rC (putL l.calls s n) = (rC l.calls).take (bsC l.calls (fun c => cmpB c.name s) * 2) ++ ([.s s, .i .u32 n] ++ (rC l.calls).drop (bsC l.calls (fun c => cmpB c.name s) * 2)) := by
        rw [hp, ← rC_app, rC_cons, rC_take, rC_drop]; rfl
      have hL : (putL l.calls s n).length = l.calls.length + 1 := by
        rw [hp]; simp; omega
      simp only [← hT]
      simp only [backH, List.cons_append, List.nil_append, List.length_cons, List.length_nil, Nat.zero_add, Nat.reduceAdd, List.take_succ_cons, List.take_zero, List.drop_succ_cons, List.drop_zero, List.map_cons, List.map_nil, rnb, rnvs, rnv, gAt, Nat.reduceLT, ↓reduceIte, List.getD_cons_zero, List.getD_cons_succ, Nat.reduceSub, puts_cons, puts_nil, pushs_cons, pushs_nil, hput_mk, push_mk, rnvs_clo rC_clos]
      simp only [↓vS, cvF_pc, vP, shb, shv, shvs, she_nil, she_cons, vC, vQ, not_false_eq_true, Nat.reduceEqDiff, ↓reduceIte, eq_self, Nat.reduceAdd, Nat.reduceMul, Nat.reduceSub, Nat.reduceLeDiff, Nat.reduceLT, defd, cellsOf, wr, packR, Int.reduceLE, Int.reduceLT, Int.reduceEq, Int.cast_ofNat_Int, Int.reduceToNat]
      intro _
      refine ⟨[5], ?_⟩
      simp [vW, bw_map, mapAt_map, mapClo_it, mapClo_nil, mapClo_cons, vP, vZ, Tr.get_set, nvs_self, rC_clos, hL]
end Go.Kc
end
section
/- FoldLists: what the law answers. Condition: the functions' texts are these. -/
namespace Go.Kc
variable {P : Program} {f : Nat}
def cPutO (P : Program) (f : Nat) : Prop := ∀ (l : GList) (s : List UInt8) (n : Int), l.calls.length ≤ 100000 → OwnL P f [.agg (cList l), .s s, .i .u32 n] (.agg [.i .u8 (putM l s n).mode, .own 0 (putM l s n).calls.length]) [.cells 2 true true (rC (putM l s n).calls)]
def cTakeO (P : Program) (f : Nat) : Prop := ∀ (l : GList) (s : List UInt8), l.calls.length ≤ 100000 → OwnL P f [.agg (cList l), .s s] (.agg [.i .u8 (takeM l s).mode, .own 0 (takeM l s).calls.length]) [.cells 2 true true (rC (takeM l s).calls)]
def warnM (e : Int) : Bool := decide (e = 90) || decide (e = 100) || decide (e = 110) || decide (e = 161)
def ir_slices_Index_api_Errno_api_Errno : IFn := ⟨[.tmp 4],
  .seq (.reg false [⟨(some 4), .op (.mov (.c (.i .i64 0))), none⟩])
  (.seq (.seq (.reg false [⟨(some 6), .op (.mov (.t 0)), none⟩,
    ⟨(some 7), .op (.len false (.t 6)), none⟩,
    ⟨(some 8), .op (.mov (.c (.i .i64 0))), none⟩])
  (.blk 0 (.loop (.seq (.reg false [⟨(some 9), .op (.bin .lss (.t 8) (.t 7)), none⟩])
  (.seq (.cond (.t 9) (.skip) (.exit 0))
  (.seq (.blk 1 (.seq (.reg false [⟨(some 10), .op (.mov (.t 8)), none⟩,
    ⟨(some 5), .op (.mov (.t 10)), none⟩])
  (.seq (.reg false [⟨(some 11), .op (.mov (.t 1)), none⟩,
    ⟨(some 12), .op (.mov (.t 0)), none⟩,
    ⟨(some 13), .op (.mov (.t 5)), none⟩,
    ⟨(some 14), .op (.iAddrS 1 (.t 12) (.t 13)), none⟩,
    ⟨(some 15), .op (.load1 (.t 14)), none⟩,
    ⟨(some 16), .op (.bin .eql (.t 11) (.t 15)), none⟩])
  (.cond (.t 16) (.seq (.reg false [⟨(some 17), .op (.mov (.t 5)), none⟩,
    ⟨(some 4), .op (.mov (.t 17)), none⟩])
  (.ret)) (.skip)))))
  (.reg false [⟨(some 18), .op (.bin .add (.t 8) (.c (.i .i64 1))), none⟩,
    ⟨(some 8), .op (.mov (.t 18)), none⟩])))))))
  (.seq (.reg false [⟨(some 4), .op (.mov (.c (.i .i64 (-1)))), none⟩])
  (.ret)))⟩
def idxI (x : Int) : List Int → Nat → Int
  | [], _ => -1
  | y :: ys, j => if x = y then (j : Int) else idxI x ys (j + 1)
theorem index_err (hc : chkFn P f ir_slices_Index_api_Errno_api_Errno = true) (xs : List Int) (x : Int) (hl : xs.length ≤ roomB) : Pure P f [.fz xs.length (rI .i64 xs), .i .i64 x] (.i .i64 (idxI x xs 0)) := by
  refine Pure.mk hc (by simp [clos, clo, rI_clos]) ?_
  simp only [ir_slices_Index_api_Errno_api_Errno, argsT, H0, mkT, mkH, trL, List.length_cons, List.length_nil, Nat.reduceAdd, Nat.zero_add]
  simp only [↓vS, cvF_pc, vP, shb, shv, shvs, she_nil, she_cons, vC, vQ, not_false_eq_true, Nat.reduceEqDiff, ↓reduceIte, eq_self, Nat.reduceAdd, Nat.reduceMul, Nat.reduceSub, Nat.reduceLeDiff, Nat.reduceLT, defd, cellsOf, wr, packR, Int.reduceLE, Int.reduceLT, Int.reduceEq, Int.cast_ofNat_Int, Int.reduceToNat]
  refine SL.loop (α := Nat) (fun j => [(0, .fz xs.length (rI .i64 xs)), (1, .i .i64 x), (7, .i .i64 xs.length), (8, .i .i64 j)]) (fun _ => []) (fun j => j ≤ xs.length ∧ idxI x xs 0 = idxI x (xs.drop j) j) (fun j => xs.length - j) 0 [] ?_ ?_ ?_ rfl ?_ ?_
  · simp [vW, bw_map, mapAt_map, mapClo_it, mapClo_nil, mapClo_cons, vP, vZ, Tr.get_set, rI_clos]
  · trivial
  · simp
  · simp
  rintro j ⟨hj, hI⟩ G ih
  simp only [argsT, H0, mkT, mkH, trL, List.length_cons, List.length_nil, Nat.reduceAdd, Nat.zero_add]
  by_cases hlt : j < xs.length
  · have hx : xs[j]? = some xs[j] := List.getElem?_eq_getElem hlt
    have hw : IntKind.wrap .i64 ((j : Int) + 1) = (j : Int) + 1 := wrap64 (by omega) (by have := hl; simp only [roomB] at this; omega)
    rw [List.drop_eq_getElem_cons hlt, idxI] at hI
    simp only [↓vS, cvF_pc, vP, shb, shv, shvs, she_nil, she_cons, vC, vQ, not_false_eq_true, Nat.reduceEqDiff, ↓reduceIte, eq_self, Nat.reduceAdd, Nat.reduceMul, Nat.reduceSub, Nat.reduceLeDiff, Nat.reduceLT, defd, cellsOf, wr, packR, Int.reduceLE, Int.reduceLT, Int.reduceEq, Int.cast_ofNat_Int, Int.reduceToNat, hlt, Nat.mul_one, rI_get, hx, Option.map_some, hw]
    split
    · rename_i he
      simp only [he, vZ, if_true] at hI ⊢
      simp [hI]
    · rename_i he
      rw [if_neg he] at hI
      refine ih (j + 1) ⟨by omega, hI⟩ (by omega) _ _ (Wk.mk _ _ [] ?_ ?_ ?_ rfl)
      · simp [vW, bw_map, mapAt_map, mapClo_it, mapClo_nil, mapClo_cons, vP, vZ, Tr.get_set, rI_clos]
      · trivial
      · simp
  · simp only [↓vS, cvF_pc, vP, shb, shv, shvs, she_nil, she_cons, vC, vQ, not_false_eq_true, Nat.reduceEqDiff, ↓reduceIte, eq_self, Nat.reduceAdd, Nat.reduceMul, Nat.reduceSub, Nat.reduceLeDiff, Nat.reduceLT, defd, cellsOf, wr, packR, Int.reduceLE, Int.reduceLT, Int.reduceEq, Int.cast_ofNat_Int, Int.reduceToNat, hlt, vZ]
    rw [List.drop_eq_nil_of_le (by omega)] at hI
    simp [hI, idxI]
def ir_slices_Contains_api_Errno_api_Errno (f_slices_Index_api_Errno_api_Errno : Nat) : IFn := ⟨[.tmp 4],
  .seq (.reg false [⟨(some 4), .op (.mov (.c (.b false))), none⟩])
  (.seq (.reg false [⟨(some 5), .op (.mov (.t 0)), none⟩,
    ⟨(some 6), .op (.mov (.t 1)), none⟩,
    ⟨(some 7), .callF f_slices_Index_api_Errno_api_Errno [(.t 5), (.t 6)], none⟩,
    ⟨(some 8), .op (.bin .geq (.t 7) (.c (.i .i64 0))), none⟩,
    ⟨(some 4), .op (.mov (.t 8)), none⟩])
  (.ret))⟩
theorem contains_err {g : Nat} (hc : chkFn P f (ir_slices_Contains_api_Errno_api_Errno g) = true) (hg : ∀ (xs : List Int) (x : Int), xs.length ≤ roomB → Pure P g [.fz xs.length (rI .i64 xs), .i .i64 x] (.i .i64 (idxI x xs 0))) (x : Int) : Pure P f [.fz 4 (rI .i64 [90, 110, 100, 161]), .i .i64 x] (.b (warnM x)) := by
  refine Pure.mk hc (by simp [clos, clo, rI_clos]) ?_
  simp only [ir_slices_Contains_api_Errno_api_Errno, argsT, H0, mkT, mkH, trL, List.length_cons, List.length_nil, Nat.reduceAdd, Nat.zero_add]
  simp only [↓vS, cvF_pc, vP, shb, shv, shvs, she_nil, she_cons, vC, vQ, not_false_eq_true, Nat.reduceEqDiff, ↓reduceIte, eq_self, Nat.reduceAdd, Nat.reduceMul, Nat.reduceSub, Nat.reduceLeDiff, Nat.reduceLT, defd, cellsOf, wr, packR, Int.reduceLE, Int.reduceLT, Int.reduceEq, Int.cast_ofNat_Int, Int.reduceToNat]
  refine (hg [90, 110, 100, 161] x (by decide)).sc ?_
  have hw : decide (0 ≤ idxI x [90, 110, 100, 161] 0) = warnM x := by
    simp only [idxI, warnM]
    by_cases h1 : x = 90
    · simp [h1]
    by_cases h2 : x = 110
    · simp [h2]
    by_cases h3 : x = 100
    · simp [h3]
    by_cases h4 : x = 161
    · simp [h4]
    · simp [h1, h2, h3, h4]
  simp only [↓vS, cvF_pc, vP, shb, shv, shvs, she_nil, she_cons, vC, vQ, not_false_eq_true, Nat.reduceEqDiff, ↓reduceIte, eq_self, Nat.reduceAdd, Nat.reduceMul, Nat.reduceSub, Nat.reduceLeDiff, Nat.reduceLT, defd, cellsOf, wr, packR, Int.reduceLE, Int.reduceLT, Int.reduceEq, Int.cast_ofNat_Int, Int.reduceToNat]
  simp [vZ, ← hw]
def ir_fold_Warns (f_slices_Contains_api_Errno_api_Errno : Nat) : IFn := ⟨[.tmp 2],
  .seq (.reg false [⟨(some 2), .op (.mov (.c (.b false))), none⟩])
  (.seq (.reg false [⟨(some 3), .op (.buildS 4 [.i .i64 0] [(0, 1, (.c (.i .i64 90))), (1, 1, (.c (.i .i64 110))), (2, 1, (.c (.i .i64 100))), (3, 1, (.c (.i .i64 161)))]), none⟩,
    ⟨(some 4), .op (.mov (.t 0)), none⟩,
    ⟨(some 5), .callF f_slices_Contains_api_Errno_api_Errno [(.t 3), (.t 4)], none⟩,
    ⟨(some 2), .op (.mov (.t 5)), none⟩])
  (.ret))⟩
theorem warns_pure {g : Nat} (hc : chkFn P f (ir_fold_Warns g) = true) (hg : ∀ x, Pure P g [.fz 4 (rI .i64 [90, 110, 100, 161]), .i .i64 x] (.b (warnM x))) (x : Int) : Pure P f [.i .i64 x] (.b (warnM x)) := by
  refine Pure.mk hc rfl ?_
  simp only [ir_fold_Warns, argsT, H0, mkT, mkH, trL, List.length_cons, List.length_nil, Nat.reduceAdd, Nat.zero_add]
  simp only [↓vS, cvF_pc, vP, shb, shv, shvs, she_nil, she_cons, vC, vQ, not_false_eq_true, Nat.reduceEqDiff, ↓reduceIte, eq_self, Nat.reduceAdd, Nat.reduceMul, Nat.reduceSub, Nat.reduceLeDiff, Nat.reduceLT, defd, cellsOf, wr, packR, Int.reduceLE, Int.reduceLT, Int.reduceEq, Int.cast_ofNat_Int, Int.reduceToNat]
  refine (hg x).lend (vs' := [.fz 4 (rI .i64 [90, 110, 100, 161]), .i .i64 x]) ?_ rfl ?_
  · refine .cons _ _ _ _ (.cut 1 rfl (Nat.le_refl _) ?_) (.cons _ _ _ _ (.i _ _) .nil)
    simp [vW, bw_map, mapAt_map, mapClo_it, mapClo_nil, mapClo_cons, vP, vZ, Tr.get_set, rI]
  simp only [↓vS, cvF_pc, vP, shb, shv, shvs, she_nil, she_cons, vC, vQ, not_false_eq_true, Nat.reduceEqDiff, ↓reduceIte, eq_self, Nat.reduceAdd, Nat.reduceMul, Nat.reduceSub, Nat.reduceLeDiff, Nat.reduceLT, defd, cellsOf, wr, packR, Int.reduceLE, Int.reduceLT, Int.reduceEq, Int.cast_ofNat_Int, Int.reduceToNat]
  simp [vZ]
def ir_vestibuleref16_Warns : IFn := ⟨[.tmp 2],
  .seq (.reg false [⟨(some 2), .op (.mov (.c (.b false))), none⟩])
  (.seq (.reg false [⟨(some 3), .op (.mov (.t 0)), none⟩,
    ⟨(some 4), .op (.bin .eql (.t 3) (.c (.i .i64 90))), none⟩,
    ⟨(some 5), .op (.mov (.t 4)), none⟩,
    ⟨(some 6), .op (.mov (.t 0)), (some (5, false))⟩,
    ⟨(some 7), .op (.bin .eql (.t 6) (.c (.i .i64 100))), (some (5, false))⟩,
    ⟨(some 8), .op (.pick (.t 5) (.c (.b true)) (.t 7)), none⟩,
    ⟨(some 9), .op (.mov (.t 8)), none⟩,
    ⟨(some 10), .op (.mov (.t 0)), (some (9, false))⟩,
    ⟨(some 11), .op (.bin .eql (.t 10) (.c (.i .i64 110))), (some (9, false))⟩,
    ⟨(some 12), .op (.pick (.t 9) (.c (.b true)) (.t 11)), none⟩,
    ⟨(some 13), .op (.mov (.t 12)), none⟩,
    ⟨(some 14), .op (.mov (.t 0)), (some (13, false))⟩,
    ⟨(some 15), .op (.bin .eql (.t 14) (.c (.i .i64 161))), (some (13, false))⟩,
    ⟨(some 16), .op (.pick (.t 13) (.c (.b true)) (.t 15)), none⟩,
    ⟨(some 2), .op (.mov (.t 16)), none⟩])
  (.ret))⟩
theorem warns16 (hc : chkFn P f ir_vestibuleref16_Warns = true) (x : Int) : Pure P f [.i .i64 x] (.b (warnM x)) := by
  refine Pure.mk hc rfl ?_
  simp only [ir_vestibuleref16_Warns, argsT, H0, mkT, mkH, trL, List.length_cons, List.length_nil, Nat.reduceAdd, Nat.zero_add]
  by_cases h1 : x = 90
  · simp only [↓vS, cvF_pc, vP, shb, shv, shvs, she_nil, she_cons, vC, vQ, not_false_eq_true, Nat.reduceEqDiff, ↓reduceIte, eq_self, Nat.reduceAdd, Nat.reduceMul, Nat.reduceSub, Nat.reduceLeDiff, Nat.reduceLT, defd, cellsOf, wr, packR, Int.reduceLE, Int.reduceLT, Int.reduceEq, Int.cast_ofNat_Int, Int.reduceToNat, h1]
    simp [vZ, warnM]
  by_cases h2 : x = 100
  · simp only [↓vS, cvF_pc, vP, shb, shv, shvs, she_nil, she_cons, vC, vQ, not_false_eq_true, Nat.reduceEqDiff, ↓reduceIte, eq_self, Nat.reduceAdd, Nat.reduceMul, Nat.reduceSub, Nat.reduceLeDiff, Nat.reduceLT, defd, cellsOf, wr, packR, Int.reduceLE, Int.reduceLT, Int.reduceEq, Int.cast_ofNat_Int, Int.reduceToNat, h1, h2]
    simp [vZ, warnM]
  by_cases h3 : x = 110
  · simp only [↓vS, cvF_pc, vP, shb, shv, shvs, she_nil, she_cons, vC, vQ, not_false_eq_true, Nat.reduceEqDiff, ↓reduceIte, eq_self, Nat.reduceAdd, Nat.reduceMul, Nat.reduceSub, Nat.reduceLeDiff, Nat.reduceLT, defd, cellsOf, wr, packR, Int.reduceLE, Int.reduceLT, Int.reduceEq, Int.cast_ofNat_Int, Int.reduceToNat, h1, h2, h3]
    simp [vZ, warnM]
  by_cases h4 : x = 161
  · simp only [↓vS, cvF_pc, vP, shb, shv, shvs, she_nil, she_cons, vC, vQ, not_false_eq_true, Nat.reduceEqDiff, ↓reduceIte, eq_self, Nat.reduceAdd, Nat.reduceMul, Nat.reduceSub, Nat.reduceLeDiff, Nat.reduceLT, defd, cellsOf, wr, packR, Int.reduceLE, Int.reduceLT, Int.reduceEq, Int.cast_ofNat_Int, Int.reduceToNat, h1, h2, h3, h4]
    simp [vZ, warnM]
  · simp only [↓vS, cvF_pc, vP, shb, shv, shvs, she_nil, she_cons, vC, vQ, not_false_eq_true, Nat.reduceEqDiff, ↓reduceIte, eq_self, Nat.reduceAdd, Nat.reduceMul, Nat.reduceSub, Nat.reduceLeDiff, Nat.reduceLT, defd, cellsOf, wr, packR, Int.reduceLE, Int.reduceLT, Int.reduceEq, Int.cast_ofNat_Int, Int.reduceToNat, h1, h2, h3, h4]
    simp [vZ, warnM, h1, h2, h3, h4]
def ir_vestibulelaw16_spoil : IFn := ⟨[],
  .seq (.reg false [⟨(some 1), .op (.box (.t 0)), none⟩])
  (.seq (.reg false [⟨(some 2), .op (.mov (.c (.i .i64 0))), none⟩])
  (.blk 0 (.loop (.seq (.seq (.reg false [⟨(some 3), .op (.mov (.t 2)), none⟩,
    ⟨(some 4), .op (.fAddr 1 (.t 1)), none⟩,
    ⟨(some 5), .op (.load1 (.t 4)), none⟩,
    ⟨(some 6), .op (.len false (.t 5)), none⟩,
    ⟨(some 7), .op (.bin .lss (.t 3) (.t 6)), none⟩])
  (.cond (.t 7) (.skip) (.exit 0)))
  (.seq (.blk 1 (.reg false [⟨(some 10), .op (.fAddr 1 (.t 1)), none⟩,
    ⟨(some 11), .op (.load1 (.t 10)), none⟩,
    ⟨(some 12), .op (.mov (.t 2)), none⟩,
    ⟨(some 13), .op (.iAddrS 2 (.t 11) (.t 12)), none⟩,
    ⟨(some 14), .op (.fAddr 0 (.t 13)), none⟩,
    ⟨none, .op (.store 1 (.t 14) (.c (.s [103, 111, 110, 101]))), none⟩]))
  (.reg false [⟨(some 8), .op (.mov (.t 2)), none⟩,
    ⟨(some 9), .op (.bin .add (.t 8) (.c (.i .i64 1))), none⟩,
    ⟨(some 2), .op (.mov (.t 9)), none⟩]))))))⟩
def gone (c : GCall) : GCall := ⟨[103, 111, 110, 101], c.act⟩
theorem rC_set0 {L : List GCall} {j : Nat} {c : GCall} (h : L[j]? = some c) (s : List UInt8) : (rC L).take (j * 2) ++ (AV.s s :: (rC L).drop (j * 2 + 1)) = rC (L.set j ⟨s, c.act⟩) := by
  obtain ⟨hj, hc⟩ := List.getElem?_eq_some_iff.1 h
  have e1 : L = L.take j ++ c :: L.drop (j + 1) := by rw [← hc, ← List.drop_eq_getElem_cons hj, List.take_append_drop]
  have hl : (rC (L.take j)).length = j * 2 := by rw [rC_len, List.length_take]; omega
  have e2 : rC L = rC (L.take j) ++ (AV.s c.name :: AV.i .u32 c.act :: rC (L.drop (j + 1))) := by conv => lhs; rw [e1, ← rC_app, rC_cons]
  rw [List.set_eq_take_append_cons_drop, if_pos hj, ← rC_app, rC_cons, e2, List.take_left' hl, ← List.drop_drop, List.drop_left' hl]
  rfl
def cSpoil (P : Program) (f : Nat) : Prop := ∀ (m : Int) (L : List GCall), L.length ≤ 100000 → Upd P f [.agg [.i .u8 m, .own 0 L.length]] [.cells 2 true true (rC L)] (.tup []) [.cells 2 true true (rC (L.map gone))]
theorem spoil_upd (hc : chkFn P f ir_vestibulelaw16_spoil = true) : cSpoil P f := by
  intro m L hL
  refine Upd.mk hc (by simp [bnds, bnd]) (by simp) ?_
  simp only [ir_vestibulelaw16_spoil, argsT, H0, mkT, mkH, trL, List.length_cons, List.length_nil, Nat.reduceAdd, Nat.zero_add]
  simp only [↓vS, cvF_pc, vP, shb, shv, shvs, she_nil, she_cons, vC, vQ, not_false_eq_true, Nat.reduceEqDiff, ↓reduceIte, eq_self, Nat.reduceAdd, Nat.reduceMul, Nat.reduceSub, Nat.reduceLeDiff, Nat.reduceLT, defd, cellsOf, wr, packR, Int.reduceLE, Int.reduceLT, Int.reduceEq, Int.cast_ofNat_Int, Int.reduceToNat]
  refine SL.loopn (α := Nat) (fun j => [(1, .ptr 1 0), (2, .i .i64 j)]) (fun j => [.cells 2 true true (rC ((L.take j).map gone ++ L.drop j)), .cells 0 true false [.i .u8 m, .own 0 L.length]]) (fun j => j ≤ L.length) (fun j => L.length - j) 0 [0, 1] ?_ ?_ ?_ rfl (by simp) ?_ ?_ ?_
  · simp [vW, bw_map, mapAt_map, mapClo_it, mapClo_nil, mapClo_cons, vP, vZ, Tr.get_set]
  · simp [vW, bw_map, mapAt_map, mapClo_it, mapClo_nil, mapClo_cons, vP, vZ, Tr.get_set, nvs_self, rC_clos]
  · simp [vW, bw_map, mapAt_map, mapClo_it, mapClo_nil, mapClo_cons, vP, vZ, Tr.get_set]
  · intro b hb; obtain rfl : b = 0 := by simpa using hb
    simp [rl_0]
  · exact Nat.zero_le _
  rintro j hj G ih
  simp only [argsT, H0, mkT, mkH, trL, List.length_cons, List.length_nil, Nat.reduceAdd, Nat.zero_add]
  by_cases hlt : j < L.length
  · have hw : IntKind.wrap .i64 ((j : Int) + 1) = ((j + 1 : Nat) : Int) := by rw [wrap64 (by omega) (by omega)]; omega
    have hal : ((L.take j).map gone).length = j := by simp; omega
    have hx : ((L.take j).map gone ++ L.drop j)[j]? = some L[j] := by
      rw [List.getElem?_append_right (by omega), hal]; simp [hlt]
    have hs := rC_set0 hx [103, 111, 110, 101]
    have hset : ((L.take j).map gone ++ L.drop j).set j ⟨[103, 111, 110, 101], L[j].act⟩ = (L.take (j + 1)).map gone ++ L.drop (j + 1) := by
      rw [List.set_append, if_neg (by omega), hal, Nat.sub_self, List.drop_eq_getElem_cons hlt, List.set_cons_zero, List.take_add_one, List.getElem?_eq_getElem hlt, List.map_append, List.append_assoc]
      rfl
    rw [hset] at hs
    have hll : (rC ((L.take j).map gone ++ L.drop j)).length = L.length * 2 := by rw [rC_len]; simp; omega
    have hb : j * 2 + 1 ≤ L.length * 2 := by omega
    simp (decide := true) only [↓vS, cvF_pc, vP, shb, shv, shvs, she_nil, she_cons, vC, vQ, not_false_eq_true, Nat.reduceEqDiff, ↓reduceIte, eq_self, Nat.reduceAdd, Nat.reduceMul, Nat.reduceSub, Nat.reduceLeDiff, Nat.reduceLT, defd, cellsOf, wr, packR, Int.reduceLE, Int.reduceLT, Int.reduceEq, Int.cast_ofNat_Int, Int.reduceToNat, hlt, hll, hb, hs, hw]
    refine ih (j + 1) (by omega) (by omega) _ _ (Wk.mkn _ _ [0, 1] ?_ ?_ ?_ rfl (by simp) ?_)
    · simp [vW, bw_map, mapAt_map, mapClo_it, mapClo_nil, mapClo_cons, vP, vZ, Tr.get_set]
    · simp [vW, bw_map, mapAt_map, mapClo_it, mapClo_nil, mapClo_cons, vP, vZ, Tr.get_set, nvs_self, rC_clos]
    · simp [vW, bw_map, mapAt_map, mapClo_it, mapClo_nil, mapClo_cons, vP, vZ, Tr.get_set]
    · intro b hb; obtain rfl : b = 0 := by simpa using hb
      simp [rl_0]
  · have hjl : L.take j = L := List.take_of_length_le (by omega)
    have hdl : L.drop j = [] := List.drop_of_length_le (by omega)
    rw [hjl, hdl, List.append_nil]
    simp only [↓vS, cvF_pc, vP, shb, shv, shvs, she_nil, she_cons, vC, vQ, not_false_eq_true, Nat.reduceEqDiff, ↓reduceIte, eq_self, Nat.reduceAdd, Nat.reduceMul, Nat.reduceSub, Nat.reduceLeDiff, Nat.reduceLT, defd, cellsOf, wr, packR, Int.reduceLE, Int.reduceLT, Int.reduceEq, Int.cast_ofNat_Int, Int.reduceToNat, hlt]
    intro _
    refine ⟨[0], ?_⟩
    simp [vW, bw_map, mapAt_map, mapClo_it, mapClo_nil, mapClo_cons, vP, vZ, Tr.get_set, nvs_self, rC_clos]
def ir_vestibulelaw16_FoldLists_c6 (f_vestibulelaw16_Great f_vestibulelaw16_Copied f_fold_Find f_vestibuleref16_Find f_fold_Put f_fold_Take f_fold_May f_vestibuleref16_May f_fold_Warns f_vestibuleref16_Warns f_vestibuleref16_Put f_vestibuleref16_Same f_vestibuleref16_Take f_vestibulelaw16_spoil f_vestibulelaw16_awake : Nat) : ICode := .seq (.seq (.reg true [⟨(some 44), .op (.loadN 2 (.t 9)), none⟩,
    ⟨(some 45), .callF f_fold_May [(.t 44)], none⟩,
    ⟨(some 46), .op (.loadN 2 (.t 4)), none⟩,
    ⟨(some 47), .callF f_vestibuleref16_May [(.t 46)], none⟩,
    ⟨(some 48), .op (.eqB true (.t 45) (.t 47)), none⟩,
    ⟨(some 49), .op (.mov (.t 48)), none⟩,
    ⟨(some 50), .op (.mov (.t 10)), (some (49, false))⟩,
    ⟨(some 51), .op (.mov (.t 12)), (some (49, false))⟩,
    ⟨(some 52), .op (.bin .neq (.t 50) (.t 51)), (some (49, false))⟩,
    ⟨(some 53), .op (.pick (.t 49) (.c (.b true)) (.t 52)), none⟩,
    ⟨(some 54), .op (.mov (.t 53)), none⟩,
    ⟨(some 55), .op (.mov (.t 11)), (some (54, false))⟩,
    ⟨(some 56), .op (.mov (.t 13)), (some (54, false))⟩,
    ⟨(some 57), .op (.eqB true (.t 55) (.t 56)), (some (54, false))⟩,
    ⟨(some 58), .op (.pick (.t 54) (.c (.b true)) (.t 57)), none⟩,
    ⟨(some 59), .op (.mov (.t 58)), none⟩,
    ⟨(some 60), .op (.mov (.t 3)), (some (59, false))⟩,
    ⟨(some 61), .callF f_fold_Warns [(.t 60)], (some (59, false))⟩,
    ⟨(some 62), .op (.mov (.t 3)), (some (59, false))⟩,
    ⟨(some 63), .callF f_vestibuleref16_Warns [(.t 62)], (some (59, false))⟩,
    ⟨(some 64), .op (.eqB true (.t 61) (.t 63)), (some (59, false))⟩,
    ⟨(some 65), .op (.pick (.t 59) (.c (.b true)) (.t 64)), none⟩,
    ⟨(some 66), .op (.mov (.t 65)), none⟩,
    ⟨(some 67), .op (.loadN 2 (.t 14)), (some (66, false))⟩,
    ⟨(some 68), .op (.loadN 2 (.t 4)), (some (66, false))⟩,
    ⟨(some 69), .op (.mov (.t 1)), (some (66, false))⟩,
    ⟨(some 70), .op (.mov (.t 2)), (some (66, false))⟩,
    ⟨(some 71), .callF f_vestibuleref16_Put [(.t 68), (.t 69), (.t 70)], (some (66, false))⟩,
    ⟨(some 72), .callF f_vestibuleref16_Same [(.t 67), (.t 71)], (some (66, false))⟩,
    ⟨(some 73), .op (.un .not (.t 72)), (some (66, false))⟩,
    ⟨(some 74), .op (.pick (.t 66) (.c (.b true)) (.t 73)), none⟩,
    ⟨(some 75), .op (.mov (.t 74)), none⟩,
    ⟨(some 76), .op (.loadN 2 (.t 15)), (some (75, false))⟩,
    ⟨(some 77), .op (.loadN 2 (.t 4)), (some (75, false))⟩,
    ⟨(some 78), .op (.mov (.t 1)), (some (75, false))⟩,
    ⟨(some 79), .callF f_vestibuleref16_Take [(.t 77), (.t 78)], (some (75, false))⟩,
    ⟨(some 80), .callF f_vestibuleref16_Same [(.t 76), (.t 79)], (some (75, false))⟩,
    ⟨(some 81), .op (.un .not (.t 80)), (some (75, false))⟩,
    ⟨(some 82), .op (.pick (.t 75) (.c (.b true)) (.t 81)), none⟩])
  (.cond (.t 82) (.seq (.reg false [⟨(some 8), .op (.mov (.c (.b false))), none⟩])
  (.ret)) (.skip)))
  (.seq (.reg false [⟨(some 83), .op (.loadN 2 (.t 14)), none⟩,
    ⟨(some 84), .callF f_vestibulelaw16_spoil [(.t 83)], none⟩])
  (.seq (.reg false [⟨(some 85), .op (.loadN 2 (.t 15)), none⟩,
    ⟨(some 86), .callF f_vestibulelaw16_spoil [(.t 85)], none⟩])
  (.seq (.reg false [⟨(some 87), .op (.loadN 2 (.t 9)), none⟩,
    ⟨(some 88), .op (.loadN 2 (.t 4)), none⟩,
    ⟨(some 89), .callF f_vestibuleref16_Same [(.t 87), (.t 88)], none⟩,
    ⟨(some 90), .op (.mov (.t 89)), none⟩,
    ⟨(some 91), .callF f_vestibulelaw16_awake [], (some (90, true))⟩,
    ⟨(some 92), .op (.pick (.t 90) (.t 91) (.c (.b false))), none⟩,
    ⟨(some 8), .op (.mov (.t 92)), none⟩])
  (.ret))))
def ir_vestibulelaw16_FoldLists (f_vestibulelaw16_Great f_vestibulelaw16_Copied f_fold_Find f_vestibuleref16_Find f_fold_Put f_fold_Take f_fold_May f_vestibuleref16_May f_fold_Warns f_vestibuleref16_Warns f_vestibuleref16_Put f_vestibuleref16_Same f_vestibuleref16_Take f_vestibulelaw16_spoil f_vestibulelaw16_awake : Nat) : IFn := ⟨[.tmp 8],
  .seq (.reg false [⟨(some 4), .op (.box (.t 0)), none⟩,
    ⟨(some 8), .op (.mov (.c (.b false))), none⟩])
  (.seq (.seq (.reg false [⟨(some 16), .op (.loadN 2 (.t 4)), none⟩,
    ⟨(some 17), .callF f_vestibulelaw16_Great [(.t 16)], none⟩,
    ⟨(some 18), .op (.mov (.t 17)), none⟩,
    ⟨(some 19), .op (.mov (.t 1)), (some (18, false))⟩,
    ⟨(some 20), .op (.len true (.t 19)), (some (18, false))⟩,
    ⟨(some 21), .op (.bin .gtr (.t 20) (.c (.i .i64 200))), (some (18, false))⟩,
    ⟨(some 22), .op (.pick (.t 18) (.c (.b true)) (.t 21)), none⟩])
  (.cond (.t 22) (.seq (.reg false [⟨(some 8), .op (.mov (.c (.b true))), none⟩])
  (.ret)) (.skip)))
  (.seq (.reg false [⟨(some 23), .op (.loadN 2 (.t 4)), none⟩,
    ⟨(some 24), .callF f_vestibulelaw16_Copied [(.t 23)], none⟩,
    ⟨(some 9), .op (.alloc [.i .u8 0, .nils]), none⟩,
    ⟨none, .op (.store 2 (.t 9) (.t 24)), none⟩])
  (.seq (.reg false [⟨(some 26), .op (.loadN 2 (.t 9)), none⟩,
    ⟨(some 27), .op (.mov (.t 1)), none⟩,
    ⟨(some 28), .callF f_fold_Find [(.t 26), (.t 27)], none⟩,
    ⟨(some 25), .op (.mov (.t 28)), none⟩,
    ⟨(some 29), .op (.ext (.t 25) 0), none⟩,
    ⟨(some 30), .op (.ext (.t 25) 1), none⟩,
    ⟨(some 10), .op (.mov (.t 29)), none⟩,
    ⟨(some 11), .op (.mov (.t 30)), none⟩])
  (.seq (.reg false [⟨(some 32), .op (.loadN 2 (.t 4)), none⟩,
    ⟨(some 33), .op (.mov (.t 1)), none⟩,
    ⟨(some 34), .callF f_vestibuleref16_Find [(.t 32), (.t 33)], none⟩,
    ⟨(some 31), .op (.mov (.t 34)), none⟩,
    ⟨(some 35), .op (.ext (.t 31) 0), none⟩,
    ⟨(some 36), .op (.ext (.t 31) 1), none⟩,
    ⟨(some 12), .op (.mov (.t 35)), none⟩,
    ⟨(some 13), .op (.mov (.t 36)), none⟩])
  (.seq (.reg true [⟨(some 37), .op (.loadN 2 (.t 9)), none⟩,
    ⟨(some 38), .op (.mov (.t 1)), none⟩,
    ⟨(some 39), .op (.mov (.t 2)), none⟩,
    ⟨(some 40), .callF f_fold_Put [(.t 37), (.t 38), (.t 39)], none⟩,
    ⟨(some 41), .op (.loadN 2 (.t 9)), none⟩,
    ⟨(some 42), .op (.mov (.t 1)), none⟩,
    ⟨(some 43), .callF f_fold_Take [(.t 41), (.t 42)], none⟩,
    ⟨(some 14), .op (.alloc [.i .u8 0, .nils]), none⟩,
    ⟨(some 15), .op (.alloc [.i .u8 0, .nils]), none⟩,
    ⟨none, .op (.store 2 (.t 14) (.t 40)), none⟩,
    ⟨none, .op (.store 2 (.t 15) (.t 43)), none⟩])
  (.cut (ir_vestibulelaw16_FoldLists_c6 f_vestibulelaw16_Great f_vestibulelaw16_Copied f_fold_Find f_vestibuleref16_Find f_fold_Put f_fold_Take f_fold_May f_vestibuleref16_May f_fold_Warns f_vestibuleref16_Warns f_vestibuleref16_Put f_vestibuleref16_Same f_vestibuleref16_Take f_vestibulelaw16_spoil f_vestibulelaw16_awake)))))))⟩
theorem lists_c6 {g1 g2 g3 g4 g5 g6 g7 g8 g9 g10 g11 g12 g13 g14 g15 : Nat} (h7 : cMay P g7) (h8 : cMayR P g8) (h9 : ∀ x, Pure P g9 [.i .i64 x] (.b (warnM x))) (h10 : ∀ x, Pure P g10 [.i .i64 x] (.b (warnM x))) (h11 : cPutR P g11) (h12 : ∀ l : GList, l.calls.length ≤ 100000 → Pure P g12 [.agg (cList l), .agg (cList l)] (.b true)) (h13 : cTakeR P g13) (h14 : cSpoil P g14) (h15 : Pure P g15 [] (.b true))
    (l : GList) (hl : l.calls.length ≤ 1000) (hR : Rng l.calls) (name : List UInt8) (a e : Int) (x : Int) (b : Bool) :
    S P 0 (ir_vestibulelaw16_FoldLists_c6 g1 g2 g3 g4 g5 g6 g7 g8 g9 g10 g11 g12 g13 g14 g15) (endX [.tmp 8] fun v' h' => Frz h' v' (.b true))
      (mkT [(1, .s name), (2, .i .u32 a), (3, .i .i64 e), (4, .ptr 0 0), (9, .ptr 1 0), (10, .i .u32 x), (11, .b b), (12, .i .u32 x), (13, .b b), (14, .ptr 2 0), (15, .ptr 3 0)])
      (mkH 0 [.cells 0 true false (cList l), .cells 0 true false (cList l), .cells 0 true false [.i .u8 (putM l name a).mode, .own 4 (putM l name a).calls.length], .cells 0 true false [.i .u8 (takeM l name).mode, .own 5 (takeM l name).calls.length], .cells 2 true true (rC (putM l name a).calls), .cells 2 true true (rC (takeM l name).calls)]) := by
  have p1 := putM_len l name a
  have p2 := takeM_len l name
  refine V_sound ?_
  simp only [ir_vestibulelaw16_FoldLists_c6, cList, argsT, H0, mkT, mkH, trL, List.length_cons, List.length_nil, Nat.reduceAdd, Nat.zero_add]
  simp only [↓vS, cvF_pc, vP, shb, shv, shvs, she_nil, she_cons, vC, vQ, not_false_eq_true, Nat.reduceEqDiff, ↓reduceIte, eq_self, Nat.reduceAdd, Nat.reduceMul, Nat.reduceSub, Nat.reduceLeDiff, Nat.reduceLT, defd, cellsOf, wr, packR, Int.reduceLE, Int.reduceLT, Int.reduceEq, Int.cast_ofNat_Int, Int.reduceToNat]
  refine VD_pc ?_
  simp only [↓vS, cvF_pc, vP, shb, shv, shvs, she_nil, she_cons, vC, vQ, not_false_eq_true, Nat.reduceEqDiff, ↓reduceIte, eq_self, Nat.reduceAdd, Nat.reduceMul, Nat.reduceSub, Nat.reduceLeDiff, Nat.reduceLT, defd, cellsOf, wr, packR, Int.reduceLE, Int.reduceLT, Int.reduceEq, Int.cast_ofNat_Int, Int.reduceToNat]
  refine (h7 l (by omega)).pc ?_
  simp only [↓vS, cvF_pc, vP, shb, shv, shvs, she_nil, she_cons, vC, vQ, not_false_eq_true, Nat.reduceEqDiff, ↓reduceIte, eq_self, Nat.reduceAdd, Nat.reduceMul, Nat.reduceSub, Nat.reduceLeDiff, Nat.reduceLT, defd, cellsOf, wr, packR, Int.reduceLE, Int.reduceLT, Int.reduceEq, Int.cast_ofNat_Int, Int.reduceToNat]
  refine (h8 l (by omega) hR).pc ?_
  simp only [↓vS, cvF_pc, vP, shb, shv, shvs, she_nil, she_cons, vC, vQ, not_false_eq_true, Nat.reduceEqDiff, ↓reduceIte, eq_self, Nat.reduceAdd, Nat.reduceMul, Nat.reduceSub, Nat.reduceLeDiff, Nat.reduceLT, defd, cellsOf, wr, packR, Int.reduceLE, Int.reduceLT, Int.reduceEq, Int.cast_ofNat_Int, Int.reduceToNat, beq_self_eq_true]
  refine (h9 e).pc ?_
  simp only [↓vS, cvF_pc, vP, shb, shv, shvs, she_nil, she_cons, vC, vQ, not_false_eq_true, Nat.reduceEqDiff, ↓reduceIte, eq_self, Nat.reduceAdd, Nat.reduceMul, Nat.reduceSub, Nat.reduceLeDiff, Nat.reduceLT, defd, cellsOf, wr, packR, Int.reduceLE, Int.reduceLT, Int.reduceEq, Int.cast_ofNat_Int, Int.reduceToNat]
  refine (h10 e).pc ?_
  simp only [↓vS, cvF_pc, vP, shb, shv, shvs, she_nil, she_cons, vC, vQ, not_false_eq_true, Nat.reduceEqDiff, ↓reduceIte, eq_self, Nat.reduceAdd, Nat.reduceMul, Nat.reduceSub, Nat.reduceLeDiff, Nat.reduceLT, defd, cellsOf, wr, packR, Int.reduceLE, Int.reduceLT, Int.reduceEq, Int.cast_ofNat_Int, Int.reduceToNat, beq_self_eq_true]
  refine (h11 l name a (by omega) hR).pc ?_
  generalize putM l name a = A at p1
  generalize hT : takeM l name = T at p2
  simp only [↓vS, cvF_pc, vP, shb, shv, shvs, she_nil, she_cons, vC, vQ, not_false_eq_true, Nat.reduceEqDiff, ↓reduceIte, eq_self, Nat.reduceAdd, Nat.reduceMul, Nat.reduceSub, Nat.reduceLeDiff, Nat.reduceLT, defd, cellsOf, wr, packR, Int.reduceLE, Int.reduceLT, Int.reduceEq, Int.cast_ofNat_Int, Int.reduceToNat]
  refine (h12 A (by omega)).lendp (vs' := [.agg (cList A), .agg (cList A)]) ?_ rfl ?_
  · simp [vZ, vP, Tr.get_set, cList, frzs_self rC_clos]
    intro h0; rw [h0]; rfl
  simp only [↓vS, cvF_pc, vP, shb, shv, shvs, she_nil, she_cons, vC, vQ, not_false_eq_true, Nat.reduceEqDiff, ↓reduceIte, eq_self, Nat.reduceAdd, Nat.reduceMul, Nat.reduceSub, Nat.reduceLeDiff, Nat.reduceLT, defd, cellsOf, wr, packR, Int.reduceLE, Int.reduceLT, Int.reduceEq, Int.cast_ofNat_Int, Int.reduceToNat]
  refine (h13 l name (by omega) hR).pc ?_
  rw [hT]
  simp only [↓vS, cvF_pc, vP, shb, shv, shvs, she_nil, she_cons, vC, vQ, not_false_eq_true, Nat.reduceEqDiff, ↓reduceIte, eq_self, Nat.reduceAdd, Nat.reduceMul, Nat.reduceSub, Nat.reduceLeDiff, Nat.reduceLT, defd, cellsOf, wr, packR, Int.reduceLE, Int.reduceLT, Int.reduceEq, Int.cast_ofNat_Int, Int.reduceToNat]
  refine (h12 T (by omega)).lendp (vs' := [.agg (cList T), .agg (cList T)]) ?_ rfl ?_
  · simp [vZ, vP, Tr.get_set, cList, frzs_self rC_clos]
    intro h0; rw [h0]; rfl
  simp only [↓vS, cvF_pc, vP, shb, shv, shvs, she_nil, she_cons, vC, vQ, not_false_eq_true, Nat.reduceEqDiff, ↓reduceIte, eq_self, Nat.reduceAdd, Nat.reduceMul, Nat.reduceSub, Nat.reduceLeDiff, Nat.reduceLT, defd, cellsOf, wr, packR, Int.reduceLE, Int.reduceLT, Int.reduceEq, Int.cast_ofNat_Int, Int.reduceToNat]
  refine (h14 A.mode A.calls (by omega)).sc (vs := [.agg [.i .u8 A.mode, .own 0 A.calls.length]]) [4] (Lent.of (by decide) ?_) ?_
  · simp [lent_cons, lent_nil, pushs_cons, pushs_nil, push_mk, shb, shv, shvs, bnds, bnd, rnvs, rnv, gAt, vW, bw_map, mapAt_map, mapClo_it, mapClo_nil, mapClo_cons, vP, vZ, Tr.get_set, bnds_clo rC_clos, rnvs_clo rC_clos, bnd_clo, clo, rnv_clo]
  simp only [backH, List.cons_append, List.nil_append, List.length_cons, List.length_nil, Nat.zero_add, Nat.reduceAdd, List.take_succ_cons, List.take_zero, List.drop_succ_cons, List.drop_zero, List.map_cons, List.map_nil, rnb, rnvs, rnv, gAt, Nat.reduceLT, ↓reduceIte, List.getD_cons_zero, List.getD_cons_succ, Nat.reduceSub, puts_cons, puts_nil, pushs_cons, pushs_nil, hput_mk, push_mk, rnvs_clo rC_clos, rnv_clo, clo]
  simp only [↓vS, cvF_pc, vP, shb, shv, shvs, she_nil, she_cons, vC, vQ, not_false_eq_true, Nat.reduceEqDiff, ↓reduceIte, eq_self, Nat.reduceAdd, Nat.reduceMul, Nat.reduceSub, Nat.reduceLeDiff, Nat.reduceLT, defd, cellsOf, wr, packR, Int.reduceLE, Int.reduceLT, Int.reduceEq, Int.cast_ofNat_Int, Int.reduceToNat]
  refine (h14 T.mode T.calls (by omega)).sc (vs := [.agg [.i .u8 T.mode, .own 0 T.calls.length]]) [5] (Lent.of (by decide) ?_) ?_
  · simp [lent_cons, lent_nil, pushs_cons, pushs_nil, push_mk, shb, shv, shvs, bnds, bnd, rnvs, rnv, gAt, vW, bw_map, mapAt_map, mapClo_it, mapClo_nil, mapClo_cons, vP, vZ, Tr.get_set, bnds_clo rC_clos, rnvs_clo rC_clos, bnd_clo, clo, rnv_clo]
  simp only [backH, List.cons_append, List.nil_append, List.length_cons, List.length_nil, Nat.zero_add, Nat.reduceAdd, List.take_succ_cons, List.take_zero, List.drop_succ_cons, List.drop_zero, List.map_cons, List.map_nil, rnb, rnvs, rnv, gAt, Nat.reduceLT, ↓reduceIte, List.getD_cons_zero, List.getD_cons_succ, Nat.reduceSub, puts_cons, puts_nil, pushs_cons, pushs_nil, hput_mk, push_mk, rnvs_clo rC_clos, rnv_clo, clo]
  simp only [↓vS, cvF_pc, vP, shb, shv, shvs, she_nil, she_cons, vC, vQ, not_false_eq_true, Nat.reduceEqDiff, ↓reduceIte, eq_self, Nat.reduceAdd, Nat.reduceMul, Nat.reduceSub, Nat.reduceLeDiff, Nat.reduceLT, defd, cellsOf, wr, packR, Int.reduceLE, Int.reduceLT, Int.reduceEq, Int.cast_ofNat_Int, Int.reduceToNat]
  refine (h12 l (by omega)).sc ?_
  simp only [↓vS, cvF_pc, vP, shb, shv, shvs, she_nil, she_cons, vC, vQ, not_false_eq_true, Nat.reduceEqDiff, ↓reduceIte, eq_self, Nat.reduceAdd, Nat.reduceMul, Nat.reduceSub, Nat.reduceLeDiff, Nat.reduceLT, defd, cellsOf, wr, packR, Int.reduceLE, Int.reduceLT, Int.reduceEq, Int.cast_ofNat_Int, Int.reduceToNat]
  refine h15.sc ?_
  simp only [↓vS, cvF_pc, vP, shb, shv, shvs, she_nil, she_cons, vC, vQ, not_false_eq_true, Nat.reduceEqDiff, ↓reduceIte, eq_self, Nat.reduceAdd, Nat.reduceMul, Nat.reduceSub, Nat.reduceLeDiff, Nat.reduceLT, defd, cellsOf, wr, packR, Int.reduceLE, Int.reduceLT, Int.reduceEq, Int.cast_ofNat_Int, Int.reduceToNat]
  simp [vZ]
theorem foldLists {g1 g2 g3 g4 g5 g6 g7 g8 g9 g10 g11 g12 g13 g14 g15 : Nat} (hc : chkFn P f (ir_vestibulelaw16_FoldLists g1 g2 g3 g4 g5 g6 g7 g8 g9 g10 g11 g12 g13 g14 g15) = true) (h1 : cGreat16 P g1) (h2 : ∀ l : GList, l.calls.length ≤ 1000 → Pure P g2 [.agg (cList l)] (.agg (cList l))) (h3 : cFindL P g3) (h4 : cFindL P g4) (h5 : cPutO P g5) (h6 : cTakeO P g6)
    (h7 : cMay P g7) (h8 : cMayR P g8) (h9 : ∀ x, Pure P g9 [.i .i64 x] (.b (warnM x))) (h10 : ∀ x, Pure P g10 [.i .i64 x] (.b (warnM x))) (h11 : cPutR P g11) (h12 : ∀ l : GList, l.calls.length ≤ 100000 → Pure P g12 [.agg (cList l), .agg (cList l)] (.b true)) (h13 : cTakeR P g13) (h14 : cSpoil P g14) (h15 : Pure P g15 [] (.b true))
    (l : GList) (name : List UInt8) (a e : Int) (hm : 0 ≤ l.mode ∧ Rng l.calls) : Pure P f [.agg (cList l), .s name, .i .u32 a, .i .i64 e] (.b true) := by
  refine Pure.mk hc rfl ?_
  simp only [ir_vestibulelaw16_FoldLists, cList, argsT, H0, mkT, mkH, trL, List.length_cons, List.length_nil, Nat.reduceAdd, Nat.zero_add]
  simp only [↓vS, cvF_pc, vP, shb, shv, shvs, she_nil, she_cons, vC, vQ, not_false_eq_true, Nat.reduceEqDiff, ↓reduceIte, eq_self, Nat.reduceAdd, Nat.reduceMul, Nat.reduceSub, Nat.reduceLeDiff, Nat.reduceLT, defd, cellsOf, wr, packR, Int.reduceLE, Int.reduceLT, Int.reduceEq, Int.cast_ofNat_Int, Int.reduceToNat]
  refine (h1 l).sc ?_
  cases hg : great16 l with
  | true =>
    simp only [↓vS, cvF_pc, vP, shb, shv, shvs, she_nil, she_cons, vC, vQ, not_false_eq_true, Nat.reduceEqDiff, ↓reduceIte, eq_self, Nat.reduceAdd, Nat.reduceMul, Nat.reduceSub, Nat.reduceLeDiff, Nat.reduceLT, defd, cellsOf, wr, packR, Int.reduceLE, Int.reduceLT, Int.reduceEq, Int.cast_ofNat_Int, Int.reduceToNat]
    simp [vZ]
  | false =>
    have hl := great16_len hg
    by_cases hv : (200 : Int) < name.length
    · simp only [↓vS, cvF_pc, vP, shb, shv, shvs, she_nil, she_cons, vC, vQ, not_false_eq_true, Nat.reduceEqDiff, ↓reduceIte, eq_self, Nat.reduceAdd, Nat.reduceMul, Nat.reduceSub, Nat.reduceLeDiff, Nat.reduceLT, defd, cellsOf, wr, packR, Int.reduceLE, Int.reduceLT, Int.reduceEq, Int.cast_ofNat_Int, Int.reduceToNat, hv]
      simp [vZ]
    simp only [↓vS, cvF_pc, vP, shb, shv, shvs, she_nil, she_cons, vC, vQ, not_false_eq_true, Nat.reduceEqDiff, ↓reduceIte, eq_self, Nat.reduceAdd, Nat.reduceMul, Nat.reduceSub, Nat.reduceLeDiff, Nat.reduceLT, defd, cellsOf, wr, packR, Int.reduceLE, Int.reduceLT, Int.reduceEq, Int.cast_ofNat_Int, Int.reduceToNat, hv]
    refine (h2 l (by omega)).sc ?_
    simp only [↓vS, cvF_pc, vP, shb, shv, shvs, she_nil, she_cons, vC, vQ, not_false_eq_true, Nat.reduceEqDiff, ↓reduceIte, eq_self, Nat.reduceAdd, Nat.reduceMul, Nat.reduceSub, Nat.reduceLeDiff, Nat.reduceLT, defd, cellsOf, wr, packR, Int.reduceLE, Int.reduceLT, Int.reduceEq, Int.cast_ofNat_Int, Int.reduceToNat, cList]
    refine (h3 l name (by omega)).sc ?_
    simp only [↓vS, cvF_pc, vP, shb, shv, shvs, she_nil, she_cons, vC, vQ, not_false_eq_true, Nat.reduceEqDiff, ↓reduceIte, eq_self, Nat.reduceAdd, Nat.reduceMul, Nat.reduceSub, Nat.reduceLeDiff, Nat.reduceLT, defd, cellsOf, wr, packR, Int.reduceLE, Int.reduceLT, Int.reduceEq, Int.cast_ofNat_Int, Int.reduceToNat]
    refine (h4 l name (by omega)).sc ?_
    simp only [↓vS, cvF_pc, vP, shb, shv, shvs, she_nil, she_cons, vC, vQ, not_false_eq_true, Nat.reduceEqDiff, ↓reduceIte, eq_self, Nat.reduceAdd, Nat.reduceMul, Nat.reduceSub, Nat.reduceLeDiff, Nat.reduceLT, defd, cellsOf, wr, packR, Int.reduceLE, Int.reduceLT, Int.reduceEq, Int.cast_ofNat_Int, Int.reduceToNat]
    refine VD_pc ?_
    simp only [↓vS, cvF_pc, vP, shb, shv, shvs, she_nil, she_cons, vC, vQ, not_false_eq_true, Nat.reduceEqDiff, ↓reduceIte, eq_self, Nat.reduceAdd, Nat.reduceMul, Nat.reduceSub, Nat.reduceLeDiff, Nat.reduceLT, defd, cellsOf, wr, packR, Int.reduceLE, Int.reduceLT, Int.reduceEq, Int.cast_ofNat_Int, Int.reduceToNat]
    refine ((h5 l name a (by omega)).own rfl).pc ?_
    simp only [pushs_cons, pushs_nil, push_mk, shb, shv, shvs, she_nil, she_cons, List.map_cons, List.map_nil, up_mk, down_mk, Nat.reduceAdd, Nat.zero_add, shvs_clo rC_clos]
    simp only [↓vS, cvF_pc, vP, shb, shv, shvs, she_nil, she_cons, vC, vQ, not_false_eq_true, Nat.reduceEqDiff, ↓reduceIte, eq_self, Nat.reduceAdd, Nat.reduceMul, Nat.reduceSub, Nat.reduceLeDiff, Nat.reduceLT, defd, cellsOf, wr, packR, Int.reduceLE, Int.reduceLT, Int.reduceEq, Int.cast_ofNat_Int, Int.reduceToNat]
    refine ((h6 l name (by omega)).own rfl).pc ?_
    simp only [pushs_cons, pushs_nil, push_mk, shb, shv, shvs, she_nil, she_cons, List.map_cons, List.map_nil, up_mk, down_mk, Nat.reduceAdd, Nat.zero_add, shvs_clo rC_clos]
    simp only [↓vS, cvF_pc, vP, shb, shv, shvs, she_nil, she_cons, vC, vQ, not_false_eq_true, Nat.reduceEqDiff, ↓reduceIte, eq_self, Nat.reduceAdd, Nat.reduceMul, Nat.reduceSub, Nat.reduceLeDiff, Nat.reduceLT, defd, cellsOf, wr, packR, Int.reduceLE, Int.reduceLT, Int.reduceEq, Int.cast_ofNat_Int, Int.reduceToNat]
    refine S.weak (Wk.mk _ _ [0, 1, 4, 5, 2, 3] ?_ ?_ ?_ rfl) (lists_c6 h7 h8 h9 h10 h11 h12 h13 h14 h15 l (by omega) hm.2 name a e (match findC l.calls name with | some c => c.act | none => 0) (findC l.calls name).isSome)
    · simp [vW, bw_map, mapAt_map, mapClo_it, mapClo_nil, mapClo_cons, vP, vZ, Tr.get_set]
      cases findC l.calls name <;> rfl
    · simp [vW, bw_map, mapAt_map, mapClo_it, mapClo_nil, mapClo_cons, vP, vZ, Tr.get_set, cList, nvs_self, rC_clos]
    · simp
end Go.Kc
end
