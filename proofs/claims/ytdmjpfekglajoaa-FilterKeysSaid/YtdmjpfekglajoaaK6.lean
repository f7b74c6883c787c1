/- Part 6 of the abstract machine and of the functions' walks. Conditions: with each theorem. -/
import Derived.Test.YtdmjpfekglajoaaK5
set_option linter.unusedSimpArgs false
set_option linter.unusedVariables false
set_option linter.unnecessarySimpa false
section
/- What names of errors, families and namespaces answer. Condition: the functions' texts are these. -/
namespace Go.Kc
variable {P : Program} {f : Nat}
/-- a table of numbers with their names -/
def rowN (q : IntKind) (p : List UInt8 × Int) : List AV := [.s p.1, .i q p.2]
theorem rowN_len {q : IntKind} (p : List UInt8 × Int) : (rowN q p).length = 2 := rfl
theorem rowN_clos {q : IntKind} (p : List UInt8 × Int) : clos (rowN q p) = true := rfl
def findN (q : IntKind) (s : List UInt8) (no : Int) : List (List UInt8 × Int) → AV
  | [] => .tup [.i q 0, .i .i64 no]
  | p :: l => if p.1 = s then .tup [.i q p.2, .i .i64 0] else findN q s no l
def cFind (P : Program) (g : Nat) (q : IntKind) : Prop := ∀ (l : List (List UInt8 × Int)) (s : List UInt8) (no : Int), l.length ≤ roomB → Pure P g [.fz l.length (l.flatMap (rowN q)), .s s, .i .i64 no] (findN q s no l)
def ir_names_find_uint64 : IFn := ⟨[.tmp 6, .tmp 7],
  .seq (.reg false [⟨(some 6), .op (.mov (.c (.i .u64 0))), none⟩,
    ⟨(some 7), .op (.mov (.c (.i .i64 0))), none⟩])
  (.seq (.seq (.reg false [⟨(some 11), .op (.mov (.t 0)), none⟩,
    ⟨(some 12), .op (.len false (.t 11)), none⟩,
    ⟨(some 13), .op (.mov (.c (.i .i64 0))), none⟩])
  (.blk 0 (.loop (.seq (.reg false [⟨(some 14), .op (.bin .lss (.t 13) (.t 12)), none⟩])
  (.seq (.cond (.t 14) (.skip) (.exit 0))
  (.seq (.blk 1 (.seq (.reg false [⟨(some 15), .op (.iAddrS 2 (.t 11) (.t 13)), none⟩,
    ⟨(some 16), .op (.loadN 2 (.t 15)), none⟩,
    ⟨(some 9), .op (.alloc [.s [], .i .u64 0]), none⟩,
    ⟨none, .op (.store 2 (.t 9) (.t 16)), none⟩])
  (.seq (.reg false [⟨(some 17), .op (.fAddr 0 (.t 9)), none⟩,
    ⟨(some 18), .op (.load1 (.t 17)), none⟩,
    ⟨(some 19), .op (.mov (.t 1)), none⟩,
    ⟨(some 20), .op (.bin .eql (.t 18) (.t 19)), none⟩])
  (.cond (.t 20) (.seq (.reg false [⟨(some 21), .op (.fAddr 1 (.t 9)), none⟩,
    ⟨(some 22), .op (.load1 (.t 21)), none⟩,
    ⟨(some 6), .op (.mov (.t 22)), none⟩,
    ⟨(some 7), .op (.mov (.c (.i .i64 0))), none⟩])
  (.ret)) (.skip)))))
  (.reg false [⟨(some 23), .op (.bin .add (.t 13) (.c (.i .i64 1))), none⟩,
    ⟨(some 13), .op (.mov (.t 23)), none⟩])))))))
  (.seq (.reg false [⟨(some 10), .op (.mov (.c (.i .u64 0))), none⟩])
  (.seq (.reg false [⟨(some 24), .op (.mov (.t 10)), none⟩,
    ⟨(some 25), .op (.mov (.t 2)), none⟩,
    ⟨(some 6), .op (.mov (.t 24)), none⟩,
    ⟨(some 7), .op (.mov (.t 25)), none⟩])
  (.ret))))⟩
theorem find_u64 (hc : chkFn P f ir_names_find_uint64 = true) : cFind P f .u64 := by
  intro l s no hl
  refine Pure.mk hc (by simp [clos, clo]) ?_
  simp only [ir_names_find_uint64, argsT, H0, mkT, mkH, trL, List.length_cons, List.length_nil, Nat.reduceAdd, Nat.zero_add]
  simp only [↓vA, ↓vE, ↓vO, ↓vB, ↓vF, ↓vM, ↓vR, ↓vX, cvF_pc, vP, shb, shv, shvs, she_nil, she_cons, vC, vQ, Nat.reduceEqDiff, ↓reduceIte, eq_self, Nat.reduceAdd, Nat.reduceMul, Nat.reduceSub, Nat.reduceLeDiff, Nat.reduceLT, defd, cellsOf, wr, packR, Int.reduceLE, Int.reduceLT, Int.reduceEq, Int.cast_ofNat_Int, Int.reduceToNat]
  refine SL.loop (α := Nat) (fun j => [(1, .s s), (2, .i .i64 no), (11, .fz l.length (l.flatMap (rowN .u64))), (12, .i .i64 l.length), (13, .i .i64 j)]) (fun _ => []) (fun j => j ≤ l.length ∧ findN .u64 s no l = findN .u64 s no (l.drop j)) (fun j => l.length - j) 0 [] ?_ ?_ ?_ rfl ?_ ?_
  · simp [vW, bw_map, mapAt_map, mapClo_it, mapClo_nil, mapClo_cons, vP, vZ, Tr.get_set]
  · trivial
  · simp
  · simp
  rintro j ⟨hj, hI⟩ G ih
  simp only [argsT, H0, mkT, mkH, trL, List.length_cons, List.length_nil, Nat.reduceAdd, Nat.zero_add]
  by_cases hlt : j < l.length
  · have hx : l[j]? = some l[j] := List.getElem?_eq_getElem hlt
    have hw : IntKind.wrap .i64 ((j : Int) + 1) = (j : Int) + 1 := wrap64 (by omega) (by have := hl; simp only [roomB] at this; omega)
    have he := flat_elem (f := rowN .u64) (m := 2) rowN_len hx
    have hb : j * 2 + 2 ≤ (l.flatMap (rowN .u64)).length := by rw [flat_length (m := 2) rowN_len]; omega
    rw [List.drop_eq_getElem_cons hlt, findN] at hI
    simp only [↓vA, ↓vE, ↓vO, ↓vB, ↓vF, ↓vM, ↓vR, ↓vX, cvF_pc, vP, shb, shv, shvs, she_nil, she_cons, vC, vQ, Nat.reduceEqDiff, ↓reduceIte, eq_self, Nat.reduceAdd, Nat.reduceMul, Nat.reduceSub, Nat.reduceLeDiff, Nat.reduceLT, defd, cellsOf, wr, packR, Int.reduceLE, Int.reduceLT, Int.reduceEq, Int.cast_ofNat_Int, Int.reduceToNat, hlt, hb, he, rowN, hw]
    split
    · rename_i hs
      rw [hI, if_pos hs]
      simp only [vZ, and_self, true_and]
    · rename_i hs
      rw [if_neg hs] at hI
      refine ih (j + 1) ⟨by omega, hI⟩ (by omega) _ _ (Wk.mk _ _ [] ?_ ?_ ?_ rfl)
      · simp [vW, bw_map, mapAt_map, mapClo_it, mapClo_nil, mapClo_cons, vP, vZ, Tr.get_set]
      · trivial
      · simp
  · simp only [↓vA, ↓vE, ↓vO, ↓vB, ↓vF, ↓vM, ↓vR, ↓vX, cvF_pc, vP, shb, shv, shvs, she_nil, she_cons, vC, vQ, Nat.reduceEqDiff, ↓reduceIte, eq_self, Nat.reduceAdd, Nat.reduceMul, Nat.reduceSub, Nat.reduceLeDiff, Nat.reduceLT, defd, cellsOf, wr, packR, Int.reduceLE, Int.reduceLT, Int.reduceEq, Int.cast_ofNat_Int, Int.reduceToNat, hlt, vZ]
    rw [List.drop_eq_nil_of_le (by omega), findN] at hI
    rw [hI]
    simp only [vZ, and_self, true_and]
def ir_names_find_uint32 : IFn := ⟨[.tmp 6, .tmp 7],
  .seq (.reg false [⟨(some 6), .op (.mov (.c (.i .u32 0))), none⟩,
    ⟨(some 7), .op (.mov (.c (.i .i64 0))), none⟩])
  (.seq (.seq (.reg false [⟨(some 11), .op (.mov (.t 0)), none⟩,
    ⟨(some 12), .op (.len false (.t 11)), none⟩,
    ⟨(some 13), .op (.mov (.c (.i .i64 0))), none⟩])
  (.blk 0 (.loop (.seq (.reg false [⟨(some 14), .op (.bin .lss (.t 13) (.t 12)), none⟩])
  (.seq (.cond (.t 14) (.skip) (.exit 0))
  (.seq (.blk 1 (.seq (.reg false [⟨(some 15), .op (.iAddrS 2 (.t 11) (.t 13)), none⟩,
    ⟨(some 16), .op (.loadN 2 (.t 15)), none⟩,
    ⟨(some 9), .op (.alloc [.s [], .i .u32 0]), none⟩,
    ⟨none, .op (.store 2 (.t 9) (.t 16)), none⟩])
  (.seq (.reg false [⟨(some 17), .op (.fAddr 0 (.t 9)), none⟩,
    ⟨(some 18), .op (.load1 (.t 17)), none⟩,
    ⟨(some 19), .op (.mov (.t 1)), none⟩,
    ⟨(some 20), .op (.bin .eql (.t 18) (.t 19)), none⟩])
  (.cond (.t 20) (.seq (.reg false [⟨(some 21), .op (.fAddr 1 (.t 9)), none⟩,
    ⟨(some 22), .op (.load1 (.t 21)), none⟩,
    ⟨(some 6), .op (.mov (.t 22)), none⟩,
    ⟨(some 7), .op (.mov (.c (.i .i64 0))), none⟩])
  (.ret)) (.skip)))))
  (.reg false [⟨(some 23), .op (.bin .add (.t 13) (.c (.i .i64 1))), none⟩,
    ⟨(some 13), .op (.mov (.t 23)), none⟩])))))))
  (.seq (.reg false [⟨(some 10), .op (.mov (.c (.i .u32 0))), none⟩])
  (.seq (.reg false [⟨(some 24), .op (.mov (.t 10)), none⟩,
    ⟨(some 25), .op (.mov (.t 2)), none⟩,
    ⟨(some 6), .op (.mov (.t 24)), none⟩,
    ⟨(some 7), .op (.mov (.t 25)), none⟩])
  (.ret))))⟩
theorem find_u32 (hc : chkFn P f ir_names_find_uint32 = true) : cFind P f .u32 := by
  intro l s no hl
  refine Pure.mk hc (by simp [clos, clo]) ?_
  simp only [ir_names_find_uint32, argsT, H0, mkT, mkH, trL, List.length_cons, List.length_nil, Nat.reduceAdd, Nat.zero_add]
  simp only [↓vA, ↓vE, ↓vO, ↓vB, ↓vF, ↓vM, ↓vR, ↓vX, cvF_pc, vP, shb, shv, shvs, she_nil, she_cons, vC, vQ, Nat.reduceEqDiff, ↓reduceIte, eq_self, Nat.reduceAdd, Nat.reduceMul, Nat.reduceSub, Nat.reduceLeDiff, Nat.reduceLT, defd, cellsOf, wr, packR, Int.reduceLE, Int.reduceLT, Int.reduceEq, Int.cast_ofNat_Int, Int.reduceToNat]
  refine SL.loop (α := Nat) (fun j => [(1, .s s), (2, .i .i64 no), (11, .fz l.length (l.flatMap (rowN .u32))), (12, .i .i64 l.length), (13, .i .i64 j)]) (fun _ => []) (fun j => j ≤ l.length ∧ findN .u32 s no l = findN .u32 s no (l.drop j)) (fun j => l.length - j) 0 [] ?_ ?_ ?_ rfl ?_ ?_
  · simp [vW, bw_map, mapAt_map, mapClo_it, mapClo_nil, mapClo_cons, vP, vZ, Tr.get_set]
  · trivial
  · simp
  · simp
  rintro j ⟨hj, hI⟩ G ih
  simp only [argsT, H0, mkT, mkH, trL, List.length_cons, List.length_nil, Nat.reduceAdd, Nat.zero_add]
  by_cases hlt : j < l.length
  · have hx : l[j]? = some l[j] := List.getElem?_eq_getElem hlt
    have hw : IntKind.wrap .i64 ((j : Int) + 1) = (j : Int) + 1 := wrap64 (by omega) (by have := hl; simp only [roomB] at this; omega)
    have he := flat_elem (f := rowN .u32) (m := 2) rowN_len hx
    have hb : j * 2 + 2 ≤ (l.flatMap (rowN .u32)).length := by rw [flat_length (m := 2) rowN_len]; omega
    rw [List.drop_eq_getElem_cons hlt, findN] at hI
    simp only [↓vA, ↓vE, ↓vO, ↓vB, ↓vF, ↓vM, ↓vR, ↓vX, cvF_pc, vP, shb, shv, shvs, she_nil, she_cons, vC, vQ, Nat.reduceEqDiff, ↓reduceIte, eq_self, Nat.reduceAdd, Nat.reduceMul, Nat.reduceSub, Nat.reduceLeDiff, Nat.reduceLT, defd, cellsOf, wr, packR, Int.reduceLE, Int.reduceLT, Int.reduceEq, Int.cast_ofNat_Int, Int.reduceToNat, hlt, hb, he, rowN, hw]
    split
    · rename_i hs
      rw [hI, if_pos hs]
      simp only [vZ, and_self, true_and]
    · rename_i hs
      rw [if_neg hs] at hI
      refine ih (j + 1) ⟨by omega, hI⟩ (by omega) _ _ (Wk.mk _ _ [] ?_ ?_ ?_ rfl)
      · simp [vW, bw_map, mapAt_map, mapClo_it, mapClo_nil, mapClo_cons, vP, vZ, Tr.get_set]
      · trivial
      · simp
  · simp only [↓vA, ↓vE, ↓vO, ↓vB, ↓vF, ↓vM, ↓vR, ↓vX, cvF_pc, vP, shb, shv, shvs, she_nil, she_cons, vC, vQ, Nat.reduceEqDiff, ↓reduceIte, eq_self, Nat.reduceAdd, Nat.reduceMul, Nat.reduceSub, Nat.reduceLeDiff, Nat.reduceLT, defd, cellsOf, wr, packR, Int.reduceLE, Int.reduceLT, Int.reduceEq, Int.cast_ofNat_Int, Int.reduceToNat, hlt, vZ]
    rw [List.drop_eq_nil_of_le (by omega), findN] at hI
    rw [hI]
    simp only [vZ, and_self, true_and]
def ir_names_spaces : IFn := ⟨[.cell 0 16 true],
  .seq (.reg false [⟨(some 0), .op (.alloc [.s [], .i .u64 0, .s [], .i .u64 0, .s [], .i .u64 0, .s [], .i .u64 0, .s [], .i .u64 0, .s [], .i .u64 0, .s [], .i .u64 0, .s [], .i .u64 0]), none⟩])
  (.seq (.reg false [⟨(some 1), .op (.build [.s [], .i .u64 0] [(0, 1, (.c (.s [116, 105, 109, 101]))), (1, 1, (.c (.i .u64 128)))]), none⟩,
    ⟨(some 2), .op (.build [.s [], .i .u64 0] [(0, 1, (.c (.s [109, 110, 116]))), (1, 1, (.c (.i .u64 131072)))]), none⟩,
    ⟨(some 3), .op (.build [.s [], .i .u64 0] [(0, 1, (.c (.s [99, 103, 114, 111, 117, 112]))), (1, 1, (.c (.i .u64 33554432)))]), none⟩,
    ⟨(some 4), .op (.build [.s [], .i .u64 0] [(0, 1, (.c (.s [117, 116, 115]))), (1, 1, (.c (.i .u64 67108864)))]), none⟩,
    ⟨(some 5), .op (.build [.s [], .i .u64 0] [(0, 1, (.c (.s [105, 112, 99]))), (1, 1, (.c (.i .u64 134217728)))]), none⟩,
    ⟨(some 6), .op (.build [.s [], .i .u64 0] [(0, 1, (.c (.s [117, 115, 101, 114]))), (1, 1, (.c (.i .u64 268435456)))]), none⟩,
    ⟨(some 7), .op (.build [.s [], .i .u64 0] [(0, 1, (.c (.s [112, 105, 100]))), (1, 1, (.c (.i .u64 536870912)))]), none⟩,
    ⟨(some 8), .op (.build [.s [], .i .u64 0] [(0, 1, (.c (.s [110, 101, 116]))), (1, 1, (.c (.i .u64 1073741824)))]), none⟩,
    ⟨(some 9), .op (.build [.s [], .i .u64 0, .s [], .i .u64 0, .s [], .i .u64 0, .s [], .i .u64 0, .s [], .i .u64 0, .s [], .i .u64 0, .s [], .i .u64 0, .s [], .i .u64 0] [(0, 2, (.t 1)), (2, 2, (.t 2)), (4, 2, (.t 3)), (6, 2, (.t 4)), (8, 2, (.t 5)), (10, 2, (.t 6)), (12, 2, (.t 7)), (14, 2, (.t 8))]), none⟩,
    ⟨none, .op (.store 16 (.t 0) (.t 9)), none⟩])
  (.ret))⟩
def tab_spaces : List (List UInt8 × Int) := [([116, 105, 109, 101], 128), ([109, 110, 116], 131072), ([99, 103, 114, 111, 117, 112], 33554432), ([117, 116, 115], 67108864), ([105, 112, 99], 134217728), ([117, 115, 101, 114], 268435456), ([112, 105, 100], 536870912), ([110, 101, 116], 1073741824)]
theorem spaces_pure (hc : chkFn P f ir_names_spaces = true) : Pure P f [] (.agg (tab_spaces.flatMap (rowN .u64))) := by
  refine Pure.mk hc rfl ?_
  simp only [ir_names_spaces, argsT, H0, mkT, mkH, trL, List.length_cons, List.length_nil, Nat.reduceAdd, Nat.zero_add]
  simp only [↓vA, ↓vE, ↓vO, ↓vB, ↓vF, ↓vM, ↓vR, ↓vX, cvF_pc, vP, shb, shv, shvs, she_nil, she_cons, vC, vQ, Nat.reduceEqDiff, ↓reduceIte, eq_self, Nat.reduceAdd, Nat.reduceMul, Nat.reduceSub, Nat.reduceLeDiff, Nat.reduceLT, defd, cellsOf, wr, packR, Int.reduceLE, Int.reduceLT, Int.reduceEq, Int.cast_ofNat_Int, Int.reduceToNat, tab_spaces, rowN, List.flatMap_cons, List.flatMap_nil, vZ]
def ir_names_families : IFn := ⟨[.cell 0 16 true],
  .seq (.reg false [⟨(some 0), .op (.alloc [.s [], .i .u32 0, .s [], .i .u32 0, .s [], .i .u32 0, .s [], .i .u32 0, .s [], .i .u32 0, .s [], .i .u32 0, .s [], .i .u32 0, .s [], .i .u32 0]), none⟩])
  (.seq (.reg false [⟨(some 1), .op (.build [.s [], .i .u32 0] [(0, 1, (.c (.s [65, 70, 95, 85, 78, 73, 88]))), (1, 1, (.c (.i .u32 1)))]), none⟩,
    ⟨(some 2), .op (.build [.s [], .i .u32 0] [(0, 1, (.c (.s [65, 70, 95, 73, 78, 69, 84]))), (1, 1, (.c (.i .u32 2)))]), none⟩,
    ⟨(some 3), .op (.build [.s [], .i .u32 0] [(0, 1, (.c (.s [65, 70, 95, 73, 78, 69, 84, 54]))), (1, 1, (.c (.i .u32 10)))]), none⟩,
    ⟨(some 4), .op (.build [.s [], .i .u32 0] [(0, 1, (.c (.s [65, 70, 95, 78, 69, 84, 76, 73, 78, 75]))), (1, 1, (.c (.i .u32 16)))]), none⟩,
    ⟨(some 5), .op (.build [.s [], .i .u32 0] [(0, 1, (.c (.s [65, 70, 95, 80, 65, 67, 75, 69, 84]))), (1, 1, (.c (.i .u32 17)))]), none⟩,
    ⟨(some 6), .op (.build [.s [], .i .u32 0] [(0, 1, (.c (.s [65, 70, 95, 66, 76, 85, 69, 84, 79, 79, 84, 72]))), (1, 1, (.c (.i .u32 31)))]), none⟩,
    ⟨(some 7), .op (.build [.s [], .i .u32 0] [(0, 1, (.c (.s [65, 70, 95, 65, 76, 71]))), (1, 1, (.c (.i .u32 38)))]), none⟩,
    ⟨(some 8), .op (.build [.s [], .i .u32 0] [(0, 1, (.c (.s [65, 70, 95, 86, 83, 79, 67, 75]))), (1, 1, (.c (.i .u32 40)))]), none⟩,
    ⟨(some 9), .op (.build [.s [], .i .u32 0, .s [], .i .u32 0, .s [], .i .u32 0, .s [], .i .u32 0, .s [], .i .u32 0, .s [], .i .u32 0, .s [], .i .u32 0, .s [], .i .u32 0] [(0, 2, (.t 1)), (2, 2, (.t 2)), (4, 2, (.t 3)), (6, 2, (.t 4)), (8, 2, (.t 5)), (10, 2, (.t 6)), (12, 2, (.t 7)), (14, 2, (.t 8))]), none⟩,
    ⟨none, .op (.store 16 (.t 0) (.t 9)), none⟩])
  (.ret))⟩
def tab_families : List (List UInt8 × Int) := [([65, 70, 95, 85, 78, 73, 88], 1), ([65, 70, 95, 73, 78, 69, 84], 2), ([65, 70, 95, 73, 78, 69, 84, 54], 10), ([65, 70, 95, 78, 69, 84, 76, 73, 78, 75], 16), ([65, 70, 95, 80, 65, 67, 75, 69, 84], 17), ([65, 70, 95, 66, 76, 85, 69, 84, 79, 79, 84, 72], 31), ([65, 70, 95, 65, 76, 71], 38), ([65, 70, 95, 86, 83, 79, 67, 75], 40)]
theorem families_pure (hc : chkFn P f ir_names_families = true) : Pure P f [] (.agg (tab_families.flatMap (rowN .u32))) := by
  refine Pure.mk hc rfl ?_
  simp only [ir_names_families, argsT, H0, mkT, mkH, trL, List.length_cons, List.length_nil, Nat.reduceAdd, Nat.zero_add]
  simp only [↓vA, ↓vE, ↓vO, ↓vB, ↓vF, ↓vM, ↓vR, ↓vX, cvF_pc, vP, shb, shv, shvs, she_nil, she_cons, vC, vQ, Nat.reduceEqDiff, ↓reduceIte, eq_self, Nat.reduceAdd, Nat.reduceMul, Nat.reduceSub, Nat.reduceLeDiff, Nat.reduceLT, defd, cellsOf, wr, packR, Int.reduceLE, Int.reduceLT, Int.reduceEq, Int.cast_ofNat_Int, Int.reduceToNat, tab_families, rowN, List.flatMap_cons, List.flatMap_nil, vZ]
def ir_names_errnos : IFn := ⟨[.cell 0 30 true],
  .seq (.reg false [⟨(some 0), .op (.alloc [.s [], .i .u32 0, .s [], .i .u32 0, .s [], .i .u32 0, .s [], .i .u32 0, .s [], .i .u32 0, .s [], .i .u32 0, .s [], .i .u32 0, .s [], .i .u32 0, .s [], .i .u32 0, .s [], .i .u32 0, .s [], .i .u32 0, .s [], .i .u32 0, .s [], .i .u32 0, .s [], .i .u32 0, .s [], .i .u32 0]), none⟩])
  (.seq (.reg false [⟨(some 1), .op (.build [.s [], .i .u32 0] [(0, 1, (.c (.s [69, 80, 69, 82, 77]))), (1, 1, (.c (.i .u32 1)))]), none⟩,
    ⟨(some 2), .op (.build [.s [], .i .u32 0] [(0, 1, (.c (.s [69, 78, 79, 69, 78, 84]))), (1, 1, (.c (.i .u32 2)))]), none⟩,
    ⟨(some 3), .op (.build [.s [], .i .u32 0] [(0, 1, (.c (.s [69, 73, 79]))), (1, 1, (.c (.i .u32 5)))]), none⟩,
    ⟨(some 4), .op (.build [.s [], .i .u32 0] [(0, 1, (.c (.s [69, 66, 65, 68, 70]))), (1, 1, (.c (.i .u32 9)))]), none⟩,
    ⟨(some 5), .op (.build [.s [], .i .u32 0] [(0, 1, (.c (.s [69, 65, 71, 65, 73, 78]))), (1, 1, (.c (.i .u32 11)))]), none⟩,
    ⟨(some 6), .op (.build [.s [], .i .u32 0] [(0, 1, (.c (.s [69, 78, 79, 77, 69, 77]))), (1, 1, (.c (.i .u32 12)))]), none⟩,
    ⟨(some 7), .op (.build [.s [], .i .u32 0] [(0, 1, (.c (.s [69, 65, 67, 67, 69, 83]))), (1, 1, (.c (.i .u32 13)))]), none⟩,
    ⟨(some 8), .op (.build [.s [], .i .u32 0] [(0, 1, (.c (.s [69, 70, 65, 85, 76, 84]))), (1, 1, (.c (.i .u32 14)))]), none⟩,
    ⟨(some 9), .op (.build [.s [], .i .u32 0] [(0, 1, (.c (.s [69, 66, 85, 83, 89]))), (1, 1, (.c (.i .u32 16)))]), none⟩,
    ⟨(some 10), .op (.build [.s [], .i .u32 0] [(0, 1, (.c (.s [69, 78, 79, 68, 69, 86]))), (1, 1, (.c (.i .u32 19)))]), none⟩,
    ⟨(some 11), .op (.build [.s [], .i .u32 0] [(0, 1, (.c (.s [69, 73, 78, 86, 65, 76]))), (1, 1, (.c (.i .u32 22)))]), none⟩,
    ⟨(some 12), .op (.build [.s [], .i .u32 0] [(0, 1, (.c (.s [69, 78, 79, 83, 89, 83]))), (1, 1, (.c (.i .u32 38)))]), none⟩,
    ⟨(some 13), .op (.build [.s [], .i .u32 0] [(0, 1, (.c (.s [69, 79, 80, 78, 79, 84, 83, 85, 80, 80]))), (1, 1, (.c (.i .u32 95)))]), none⟩,
    ⟨(some 14), .op (.build [.s [], .i .u32 0] [(0, 1, (.c (.s [69, 65, 70, 78, 79, 83, 85, 80, 80, 79, 82, 84]))), (1, 1, (.c (.i .u32 97)))]), none⟩,
    ⟨(some 15), .op (.build [.s [], .i .u32 0] [(0, 1, (.c (.s [69, 84, 73, 77, 69, 68, 79, 85, 84]))), (1, 1, (.c (.i .u32 110)))]), none⟩,
    ⟨(some 16), .op (.build [.s [], .i .u32 0, .s [], .i .u32 0, .s [], .i .u32 0, .s [], .i .u32 0, .s [], .i .u32 0, .s [], .i .u32 0, .s [], .i .u32 0, .s [], .i .u32 0, .s [], .i .u32 0, .s [], .i .u32 0, .s [], .i .u32 0, .s [], .i .u32 0, .s [], .i .u32 0, .s [], .i .u32 0, .s [], .i .u32 0] [(0, 2, (.t 1)), (2, 2, (.t 2)), (4, 2, (.t 3)), (6, 2, (.t 4)), (8, 2, (.t 5)), (10, 2, (.t 6)), (12, 2, (.t 7)), (14, 2, (.t 8)), (16, 2, (.t 9)), (18, 2, (.t 10)), (20, 2, (.t 11)), (22, 2, (.t 12)), (24, 2, (.t 13)), (26, 2, (.t 14)), (28, 2, (.t 15))]), none⟩,
    ⟨none, .op (.store 30 (.t 0) (.t 16)), none⟩])
  (.ret))⟩
def tab_errnos : List (List UInt8 × Int) := [([69, 80, 69, 82, 77], 1), ([69, 78, 79, 69, 78, 84], 2), ([69, 73, 79], 5), ([69, 66, 65, 68, 70], 9), ([69, 65, 71, 65, 73, 78], 11), ([69, 78, 79, 77, 69, 77], 12), ([69, 65, 67, 67, 69, 83], 13), ([69, 70, 65, 85, 76, 84], 14), ([69, 66, 85, 83, 89], 16), ([69, 78, 79, 68, 69, 86], 19), ([69, 73, 78, 86, 65, 76], 22), ([69, 78, 79, 83, 89, 83], 38), ([69, 79, 80, 78, 79, 84, 83, 85, 80, 80], 95), ([69, 65, 70, 78, 79, 83, 85, 80, 80, 79, 82, 84], 97), ([69, 84, 73, 77, 69, 68, 79, 85, 84], 110)]
set_option maxRecDepth 4000 in
theorem errnos_pure (hc : chkFn P f ir_names_errnos = true) : Pure P f [] (.agg (tab_errnos.flatMap (rowN .u32))) := by
  refine Pure.mk hc rfl ?_
  simp only [ir_names_errnos, argsT, H0, mkT, mkH, trL, List.length_cons, List.length_nil, Nat.reduceAdd, Nat.zero_add]
  simp only [↓vA, ↓vE, ↓vO, ↓vB, ↓vF, ↓vM, ↓vR, ↓vX, cvF_pc, vP, shb, shv, shvs, she_nil, she_cons, vC, vQ, Nat.reduceEqDiff, ↓reduceIte, eq_self, Nat.reduceAdd, Nat.reduceMul, Nat.reduceSub, Nat.reduceLeDiff, Nat.reduceLT, defd, cellsOf, wr, packR, Int.reduceLE, Int.reduceLT, Int.reduceEq, Int.cast_ofNat_Int, Int.reduceToNat, tab_errnos, rowN, List.flatMap_cons, List.flatMap_nil, vZ]
theorem findN_flat {q : IntKind} {s : List UInt8} {no : Int} : ∀ l, flat (findN q s no l) = true
  | [] => rfl
  | p :: l => by
    simp only [findN]
    split
    · rfl
    · exact findN_flat l
theorem findN_tup (q : IntKind) (s : List UInt8) (no : Int) : ∀ l, ∃ a b, findN q s no l = .tup [.i q a, .i .i64 b]
  | [] => ⟨_, _, rfl⟩
  | p :: l => by
    simp only [findN]
    split
    · exact ⟨_, _, rfl⟩
    · exact findN_tup q s no l
def ir_names_Space (f_names_spaces f_names_find_uint64 : Nat) : IFn := ⟨[.tmp 2, .tmp 3],
  .seq (.reg false [⟨(some 2), .op (.mov (.c (.i .u64 0))), none⟩,
    ⟨(some 3), .op (.mov (.c (.i .i64 0))), none⟩])
  (.seq (.reg false [⟨(some 5), .callF f_names_spaces [], none⟩,
    ⟨(some 4), .op (.alloc [.s [], .i .u64 0, .s [], .i .u64 0, .s [], .i .u64 0, .s [], .i .u64 0, .s [], .i .u64 0, .s [], .i .u64 0, .s [], .i .u64 0, .s [], .i .u64 0]), none⟩,
    ⟨none, .op (.store 16 (.t 4) (.t 5)), none⟩])
  (.seq (.reg false [⟨(some 6), .op (.slcA 8 2 (.t 4) none none none), none⟩,
    ⟨(some 7), .op (.mov (.t 0)), none⟩,
    ⟨(some 8), .callF f_names_find_uint64 [(.t 6), (.t 7), (.c (.i .i64 181))], none⟩,
    ⟨(some 9), .op (.ext (.t 8) 0), none⟩,
    ⟨(some 10), .op (.ext (.t 8) 1), none⟩,
    ⟨(some 2), .op (.mov (.t 9)), none⟩,
    ⟨(some 3), .op (.mov (.t 10)), none⟩])
  (.ret)))⟩
theorem space_name {g1 g2 : Nat} (hc : chkFn P f (ir_names_Space g1 g2) = true) (h1 : Pure P g1 [] (.agg (tab_spaces.flatMap (rowN .u64)))) (h2 : cFind P g2 .u64) (s : List UInt8) : Pure P f [.s s] (findN .u64 s 181 tab_spaces) := by
  refine Pure.mk hc (by simp [clos, clo]) ?_
  simp only [ir_names_Space, argsT, H0, mkT, mkH, trL, List.length_cons, List.length_nil, Nat.reduceAdd, Nat.zero_add]
  simp only [↓vA, ↓vE, ↓vO, ↓vB, ↓vF, ↓vM, ↓vR, ↓vX, cvF_pc, vP, shb, shv, shvs, she_nil, she_cons, vC, vQ, Nat.reduceEqDiff, ↓reduceIte, eq_self, Nat.reduceAdd, Nat.reduceMul, Nat.reduceSub, Nat.reduceLeDiff, Nat.reduceLT, defd, cellsOf, wr, packR, Int.reduceLE, Int.reduceLT, Int.reduceEq, Int.cast_ofNat_Int, Int.reduceToNat]
  refine h1.sc ?_
  simp only [↓vA, ↓vE, ↓vO, ↓vB, ↓vF, ↓vM, ↓vR, ↓vX, cvF_pc, vP, shb, shv, shvs, she_nil, she_cons, vC, vQ, Nat.reduceEqDiff, ↓reduceIte, eq_self, Nat.reduceAdd, Nat.reduceMul, Nat.reduceSub, Nat.reduceLeDiff, Nat.reduceLT, defd, cellsOf, wr, packR, Int.reduceLE, Int.reduceLT, Int.reduceEq, Int.cast_ofNat_Int, Int.reduceToNat, tab_spaces, rowN, List.flatMap_cons, List.flatMap_nil]
  refine (h2 tab_spaces s 181 (by decide)).lend (vs' := [.fz 8 (tab_spaces.flatMap (rowN .u64)), .s s, .i .i64 181]) ?_ (findN_flat _) ?_
  · refine .cons _ _ _ _ (.cut 2 rfl (Nat.le_refl _) ?_) (.cons _ _ _ _ (.s _) (.cons _ _ _ _ (.i _ _) .nil))
    simp [vW, bw_map, mapAt_map, mapClo_it, mapClo_nil, mapClo_cons, vP, vZ, Tr.get_set, tab_spaces, rowN]
  rcases findN_tup .u64 s 181 tab_spaces with ⟨a, b, he⟩
  rw [he]
  simp only [↓vA, ↓vE, ↓vO, ↓vB, ↓vF, ↓vM, ↓vR, ↓vX, cvF_pc, vP, shb, shv, shvs, she_nil, she_cons, vC, vQ, Nat.reduceEqDiff, ↓reduceIte, eq_self, Nat.reduceAdd, Nat.reduceMul, Nat.reduceSub, Nat.reduceLeDiff, Nat.reduceLT, defd, cellsOf, wr, packR, Int.reduceLE, Int.reduceLT, Int.reduceEq, Int.cast_ofNat_Int, Int.reduceToNat, vZ, and_self]
def ir_names_Family (f_names_families f_names_find_uint32 : Nat) : IFn := ⟨[.tmp 2, .tmp 3],
  .seq (.reg false [⟨(some 2), .op (.mov (.c (.i .u32 0))), none⟩,
    ⟨(some 3), .op (.mov (.c (.i .i64 0))), none⟩])
  (.seq (.reg false [⟨(some 5), .callF f_names_families [], none⟩,
    ⟨(some 4), .op (.alloc [.s [], .i .u32 0, .s [], .i .u32 0, .s [], .i .u32 0, .s [], .i .u32 0, .s [], .i .u32 0, .s [], .i .u32 0, .s [], .i .u32 0, .s [], .i .u32 0]), none⟩,
    ⟨none, .op (.store 16 (.t 4) (.t 5)), none⟩])
  (.seq (.reg false [⟨(some 6), .op (.slcA 8 2 (.t 4) none none none), none⟩,
    ⟨(some 7), .op (.mov (.t 0)), none⟩,
    ⟨(some 8), .callF f_names_find_uint32 [(.t 6), (.t 7), (.c (.i .i64 180))], none⟩,
    ⟨(some 9), .op (.ext (.t 8) 0), none⟩,
    ⟨(some 10), .op (.ext (.t 8) 1), none⟩,
    ⟨(some 2), .op (.mov (.t 9)), none⟩,
    ⟨(some 3), .op (.mov (.t 10)), none⟩])
  (.ret)))⟩
theorem family_name {g1 g2 : Nat} (hc : chkFn P f (ir_names_Family g1 g2) = true) (h1 : Pure P g1 [] (.agg (tab_families.flatMap (rowN .u32)))) (h2 : cFind P g2 .u32) (s : List UInt8) : Pure P f [.s s] (findN .u32 s 180 tab_families) := by
  refine Pure.mk hc (by simp [clos, clo]) ?_
  simp only [ir_names_Family, argsT, H0, mkT, mkH, trL, List.length_cons, List.length_nil, Nat.reduceAdd, Nat.zero_add]
  simp only [↓vA, ↓vE, ↓vO, ↓vB, ↓vF, ↓vM, ↓vR, ↓vX, cvF_pc, vP, shb, shv, shvs, she_nil, she_cons, vC, vQ, Nat.reduceEqDiff, ↓reduceIte, eq_self, Nat.reduceAdd, Nat.reduceMul, Nat.reduceSub, Nat.reduceLeDiff, Nat.reduceLT, defd, cellsOf, wr, packR, Int.reduceLE, Int.reduceLT, Int.reduceEq, Int.cast_ofNat_Int, Int.reduceToNat]
  refine h1.sc ?_
  simp only [↓vA, ↓vE, ↓vO, ↓vB, ↓vF, ↓vM, ↓vR, ↓vX, cvF_pc, vP, shb, shv, shvs, she_nil, she_cons, vC, vQ, Nat.reduceEqDiff, ↓reduceIte, eq_self, Nat.reduceAdd, Nat.reduceMul, Nat.reduceSub, Nat.reduceLeDiff, Nat.reduceLT, defd, cellsOf, wr, packR, Int.reduceLE, Int.reduceLT, Int.reduceEq, Int.cast_ofNat_Int, Int.reduceToNat, tab_families, rowN, List.flatMap_cons, List.flatMap_nil]
  refine (h2 tab_families s 180 (by decide)).lend (vs' := [.fz 8 (tab_families.flatMap (rowN .u32)), .s s, .i .i64 180]) ?_ (findN_flat _) ?_
  · refine .cons _ _ _ _ (.cut 2 rfl (Nat.le_refl _) ?_) (.cons _ _ _ _ (.s _) (.cons _ _ _ _ (.i _ _) .nil))
    simp [vW, bw_map, mapAt_map, mapClo_it, mapClo_nil, mapClo_cons, vP, vZ, Tr.get_set, tab_families, rowN]
  rcases findN_tup .u32 s 180 tab_families with ⟨a, b, he⟩
  rw [he]
  simp only [↓vA, ↓vE, ↓vO, ↓vB, ↓vF, ↓vM, ↓vR, ↓vX, cvF_pc, vP, shb, shv, shvs, she_nil, she_cons, vC, vQ, Nat.reduceEqDiff, ↓reduceIte, eq_self, Nat.reduceAdd, Nat.reduceMul, Nat.reduceSub, Nat.reduceLeDiff, Nat.reduceLT, defd, cellsOf, wr, packR, Int.reduceLE, Int.reduceLT, Int.reduceEq, Int.cast_ofNat_Int, Int.reduceToNat, vZ, and_self]
def ir_names_Spaces (f_names_spaces : Nat) : IFn := ⟨[.tmp 0],
  .seq (.reg false [⟨(some 0), .op (.mov (.c (.i .u64 0))), none⟩])
  (.seq (.reg false [⟨(some 1), .op (.mov (.c (.i .u64 0))), none⟩])
  (.seq (.seq (.reg false [⟨(some 4), .callF f_names_spaces [], none⟩,
    ⟨(some 5), .op (.mov (.c (.i .i64 0))), none⟩])
  (.blk 0 (.loop (.seq (.reg false [⟨(some 6), .op (.bin .lss (.t 5) (.c (.i .i64 8))), none⟩])
  (.seq (.cond (.t 6) (.skip) (.exit 0))
  (.seq (.blk 1 (.seq (.reg false [⟨(some 7), .op (.idxA 8 2 true (.t 4) (.t 5)), none⟩,
    ⟨(some 3), .op (.alloc [.s [], .i .u64 0]), none⟩,
    ⟨none, .op (.store 2 (.t 3) (.t 7)), none⟩])
  (.reg false [⟨(some 8), .op (.mov (.t 1)), none⟩,
    ⟨(some 9), .op (.fAddr 1 (.t 3)), none⟩,
    ⟨(some 10), .op (.load1 (.t 9)), none⟩,
    ⟨(some 11), .op (.bin .or (.t 8) (.t 10)), none⟩,
    ⟨(some 1), .op (.mov (.t 11)), none⟩])))
  (.reg false [⟨(some 12), .op (.bin .add (.t 5) (.c (.i .i64 1))), none⟩,
    ⟨(some 5), .op (.mov (.t 12)), none⟩])))))))
  (.seq (.reg false [⟨(some 13), .op (.mov (.t 1)), none⟩,
    ⟨(some 0), .op (.mov (.t 13)), none⟩])
  (.ret))))⟩
theorem spaces_all {g1 : Nat} (hc : chkFn P f (ir_names_Spaces g1) = true) (h1 : Pure P g1 [] (.agg (tab_spaces.flatMap (rowN .u64)))) : Pure P f [] (.i .u64 2114060416) := by
  refine Pure.mk hc rfl ?_
  simp only [ir_names_Spaces, argsT, H0, mkT, mkH, trL, List.length_cons, List.length_nil, Nat.reduceAdd, Nat.zero_add]
  simp only [↓vA, ↓vE, ↓vO, ↓vB, ↓vF, ↓vM, ↓vR, ↓vX, cvF_pc, vP, shb, shv, shvs, she_nil, she_cons, vC, vQ, Nat.reduceEqDiff, ↓reduceIte, eq_self, Nat.reduceAdd, Nat.reduceMul, Nat.reduceSub, Nat.reduceLeDiff, Nat.reduceLT, defd, cellsOf, wr, packR, Int.reduceLE, Int.reduceLT, Int.reduceEq, Int.cast_ofNat_Int, Int.reduceToNat]
  refine h1.sc ?_
  simp only [↓vA, ↓vE, ↓vO, ↓vB, ↓vF, ↓vM, ↓vR, ↓vX, cvF_pc, vP, shb, shv, shvs, she_nil, she_cons, vC, vQ, Nat.reduceEqDiff, ↓reduceIte, eq_self, Nat.reduceAdd, Nat.reduceMul, Nat.reduceSub, Nat.reduceLeDiff, Nat.reduceLT, defd, cellsOf, wr, packR, Int.reduceLE, Int.reduceLT, Int.reduceEq, Int.cast_ofNat_Int, Int.reduceToNat]
  iterate 8
    refine SL_step ?_
    simp only [↓vA, ↓vE, ↓vO, ↓vB, ↓vF, ↓vM, ↓vR, ↓vX, cvF_pc, vP, shb, shv, shvs, she_nil, she_cons, vC, vQ, Nat.reduceEqDiff, ↓reduceIte, eq_self, Nat.reduceAdd, Nat.reduceMul, Nat.reduceSub, Nat.reduceLeDiff, Nat.reduceLT, defd, cellsOf, wr, packR, Int.reduceLE, Int.reduceLT, Int.reduceEq, Int.cast_ofNat_Int, Int.reduceToNat, tab_spaces, rowN, List.flatMap_cons, List.flatMap_nil, Int.reduceLT, Int.reduceAdd, Int.reduceNeg, wrap64, (by decide : orI .u64 0 128 = 128), (by decide : orI .u64 128 131072 = 131200), (by decide : orI .u64 131200 33554432 = 33685632), (by decide : orI .u64 33685632 67108864 = 100794496), (by decide : orI .u64 100794496 134217728 = 235012224), (by decide : orI .u64 235012224 268435456 = 503447680), (by decide : orI .u64 503447680 536870912 = 1040318592), (by decide : orI .u64 1040318592 1073741824 = 2114060416)]
  refine SL_step ?_
  simp only [↓vA, ↓vE, ↓vO, ↓vB, ↓vF, ↓vM, ↓vR, ↓vX, cvF_pc, vP, shb, shv, shvs, she_nil, she_cons, vC, vQ, Nat.reduceEqDiff, ↓reduceIte, eq_self, Nat.reduceAdd, Nat.reduceMul, Nat.reduceSub, Nat.reduceLeDiff, Nat.reduceLT, defd, cellsOf, wr, packR, Int.reduceLE, Int.reduceLT, Int.reduceEq, Int.cast_ofNat_Int, Int.reduceToNat, Int.reduceLT, vZ, and_self]
end Go.Kc
end
section
/- What slices.Clone answers: a row of one's own. Condition: the functions' texts are these. -/
namespace Go.Kc
variable {P : Program} {f : Nat}
def cClone (P : Program) (g esz bytes : Nat) : Prop := ∀ (n : Nat) (rows : List AV), rows.length = n * esz → clos rows = true → cellsOk rows = true → n ≤ roomB → n * bytes ≤ roomB → Own P g [.fz n rows] (.own 0 n) [.cells esz true true rows]
def ir_slices_Clone_int_int : IFn := ⟨[.tmp 2],
  .seq (.reg false [⟨(some 2), .op (.mov (.c (.nils))), none⟩])
  (.seq (.seq (.reg false [⟨(some 3), .op (.mov (.t 0)), none⟩,
    ⟨(some 4), .op (.eqN false .slice (.t 3)), none⟩])
  (.cond (.t 4) (.seq (.reg false [⟨(some 2), .op (.mov (.c (.nils))), none⟩])
  (.ret)) (.skip)))
  (.seq (.reg false [⟨(some 5), .op (.buildS 0 [.i .i64 0] []), none⟩,
    ⟨(some 6), .op (.mov (.t 0)), none⟩,
    ⟨(some 7), .op (.app 1 8 true (.t 5) (.t 6)), none⟩,
    ⟨(some 2), .op (.mov (.t 7)), none⟩])
  (.ret)))⟩
theorem clone_int (hc : chkFn P f ir_slices_Clone_int_int = true) : cClone P f 1 8 := by
  intro n rows hlen hcl hok hr1 hr2
  refine Own.of_SC (by simp [clos, clo]) ?_
  cases n with
  | zero =>
    obtain rfl : rows = [] := by cases rows with | nil => rfl | cons => simp at hlen
    refine SC.nil0 (SC.mk hc (V_sound ?_)) (SC.mk hc (V_sound ?_))
    · simp only [ir_slices_Clone_int_int, argsT, H0, mkT, mkH, trL, List.length_cons, List.length_nil, Nat.reduceAdd, Nat.zero_add]
      simp only [↓vA, ↓vE, ↓vO, ↓vB, ↓vF, ↓vM, ↓vR, ↓vX, cvF_pc, vP, shb, shv, shvs, she_nil, she_cons, vC, vQ, Nat.reduceEqDiff, ↓reduceIte, eq_self, Nat.reduceAdd, Nat.reduceMul, Nat.reduceSub, Nat.reduceLeDiff, Nat.reduceLT, defd, cellsOf, wr, packR, Int.reduceLE, Int.reduceLT, Int.reduceEq, Int.cast_ofNat_Int, Int.reduceToNat]
      intro _
      refine ⟨[1], ?_⟩
      simp [vW, bw_map, mapAt_map, mapClo_it, mapClo_nil, mapClo_cons, vP, vZ, Tr.get_set]
    · simp only [ir_slices_Clone_int_int, argsT, H0, mkT, mkH, trL, List.length_cons, List.length_nil, Nat.reduceAdd, Nat.zero_add]
      simp only [↓vA, ↓vE, ↓vO, ↓vB, ↓vF, ↓vM, ↓vR, ↓vX, cvF_pc, vP, shb, shv, shvs, she_nil, she_cons, vC, vQ, Nat.reduceEqDiff, ↓reduceIte, eq_self, Nat.reduceAdd, Nat.reduceMul, Nat.reduceSub, Nat.reduceLeDiff, Nat.reduceLT, defd, cellsOf, wr, packR, Int.reduceLE, Int.reduceLT, Int.reduceEq, Int.cast_ofNat_Int, Int.reduceToNat, if_true]
      intro _
      refine ⟨[1], ?_⟩
      simp [vW, bw_map, mapAt_map, mapClo_it, mapClo_nil, mapClo_cons, vP, vZ, Tr.get_set]
  | succ n =>
    refine SC.mk hc (V_sound ?_)
    simp only [ir_slices_Clone_int_int, argsT, H0, mkT, mkH, trL, List.length_cons, List.length_nil, Nat.reduceAdd, Nat.zero_add]
    have h1 : 1 ≤ n + 1 := by omega
    have h2 : (n + 1) ≤ rows.length := by omega
    have h3 : rows.take ((n + 1)) = rows := List.take_of_length_le (by omega)
    have h4 : ¬ (n + 1 ≤ 0) := by omega
    simp only [↓vA, ↓vE, ↓vO, ↓vB, ↓vF, ↓vM, ↓vR, ↓vX, cvF_pc, vP, shb, shv, shvs, she_nil, she_cons, vC, vQ, Nat.reduceEqDiff, ↓reduceIte, eq_self, Nat.reduceAdd, Nat.reduceMul, Nat.reduceSub, Nat.reduceLeDiff, Nat.reduceLT, defd, cellsOf, wr, packR, Int.reduceLE, Int.reduceLT, Int.reduceEq, Int.cast_ofNat_Int, Int.reduceToNat, h1, h2, h3, h4, hr1, hr2, hok, Nat.mul_one, Nat.zero_mul]
    intro _
    refine ⟨[1], ?_⟩
    simp [vW, bw_map, mapAt_map, mapClo_it, mapClo_nil, mapClo_cons, vP, vZ, Tr.get_set, nvs_self, hcl]
def ir_slices_Clone_uint32_uint32 : IFn := ⟨[.tmp 2],
  .seq (.reg false [⟨(some 2), .op (.mov (.c (.nils))), none⟩])
  (.seq (.seq (.reg false [⟨(some 3), .op (.mov (.t 0)), none⟩,
    ⟨(some 4), .op (.eqN false .slice (.t 3)), none⟩])
  (.cond (.t 4) (.seq (.reg false [⟨(some 2), .op (.mov (.c (.nils))), none⟩])
  (.ret)) (.skip)))
  (.seq (.reg false [⟨(some 5), .op (.buildS 0 [.i .u32 0] []), none⟩,
    ⟨(some 6), .op (.mov (.t 0)), none⟩,
    ⟨(some 7), .op (.app 1 4 true (.t 5) (.t 6)), none⟩,
    ⟨(some 2), .op (.mov (.t 7)), none⟩])
  (.ret)))⟩
theorem clone_u32 (hc : chkFn P f ir_slices_Clone_uint32_uint32 = true) : cClone P f 1 4 := by
  intro n rows hlen hcl hok hr1 hr2
  refine Own.of_SC (by simp [clos, clo]) ?_
  cases n with
  | zero =>
    obtain rfl : rows = [] := by cases rows with | nil => rfl | cons => simp at hlen
    refine SC.nil0 (SC.mk hc (V_sound ?_)) (SC.mk hc (V_sound ?_))
    · simp only [ir_slices_Clone_uint32_uint32, argsT, H0, mkT, mkH, trL, List.length_cons, List.length_nil, Nat.reduceAdd, Nat.zero_add]
      simp only [↓vA, ↓vE, ↓vO, ↓vB, ↓vF, ↓vM, ↓vR, ↓vX, cvF_pc, vP, shb, shv, shvs, she_nil, she_cons, vC, vQ, Nat.reduceEqDiff, ↓reduceIte, eq_self, Nat.reduceAdd, Nat.reduceMul, Nat.reduceSub, Nat.reduceLeDiff, Nat.reduceLT, defd, cellsOf, wr, packR, Int.reduceLE, Int.reduceLT, Int.reduceEq, Int.cast_ofNat_Int, Int.reduceToNat]
      intro _
      refine ⟨[1], ?_⟩
      simp [vW, bw_map, mapAt_map, mapClo_it, mapClo_nil, mapClo_cons, vP, vZ, Tr.get_set]
    · simp only [ir_slices_Clone_uint32_uint32, argsT, H0, mkT, mkH, trL, List.length_cons, List.length_nil, Nat.reduceAdd, Nat.zero_add]
      simp only [↓vA, ↓vE, ↓vO, ↓vB, ↓vF, ↓vM, ↓vR, ↓vX, cvF_pc, vP, shb, shv, shvs, she_nil, she_cons, vC, vQ, Nat.reduceEqDiff, ↓reduceIte, eq_self, Nat.reduceAdd, Nat.reduceMul, Nat.reduceSub, Nat.reduceLeDiff, Nat.reduceLT, defd, cellsOf, wr, packR, Int.reduceLE, Int.reduceLT, Int.reduceEq, Int.cast_ofNat_Int, Int.reduceToNat, if_true]
      intro _
      refine ⟨[1], ?_⟩
      simp [vW, bw_map, mapAt_map, mapClo_it, mapClo_nil, mapClo_cons, vP, vZ, Tr.get_set]
  | succ n =>
    refine SC.mk hc (V_sound ?_)
    simp only [ir_slices_Clone_uint32_uint32, argsT, H0, mkT, mkH, trL, List.length_cons, List.length_nil, Nat.reduceAdd, Nat.zero_add]
    have h1 : 1 ≤ n + 1 := by omega
    have h2 : (n + 1) ≤ rows.length := by omega
    have h3 : rows.take ((n + 1)) = rows := List.take_of_length_le (by omega)
    have h4 : ¬ (n + 1 ≤ 0) := by omega
    simp only [↓vA, ↓vE, ↓vO, ↓vB, ↓vF, ↓vM, ↓vR, ↓vX, cvF_pc, vP, shb, shv, shvs, she_nil, she_cons, vC, vQ, Nat.reduceEqDiff, ↓reduceIte, eq_self, Nat.reduceAdd, Nat.reduceMul, Nat.reduceSub, Nat.reduceLeDiff, Nat.reduceLT, defd, cellsOf, wr, packR, Int.reduceLE, Int.reduceLT, Int.reduceEq, Int.cast_ofNat_Int, Int.reduceToNat, h1, h2, h3, h4, hr1, hr2, hok, Nat.mul_one, Nat.zero_mul]
    intro _
    refine ⟨[1], ?_⟩
    simp [vW, bw_map, mapAt_map, mapClo_it, mapClo_nil, mapClo_cons, vP, vZ, Tr.get_set, nvs_self, hcl]
def ir_slices_Clone_api_Call_api_Call : IFn := ⟨[.tmp 2],
  .seq (.reg false [⟨(some 2), .op (.mov (.c (.nils))), none⟩])
  (.seq (.seq (.reg false [⟨(some 3), .op (.mov (.t 0)), none⟩,
    ⟨(some 4), .op (.eqN false .slice (.t 3)), none⟩])
  (.cond (.t 4) (.seq (.reg false [⟨(some 2), .op (.mov (.c (.nils))), none⟩])
  (.ret)) (.skip)))
  (.seq (.reg false [⟨(some 5), .op (.buildS 0 [.s [], .i .u32 0] []), none⟩,
    ⟨(some 6), .op (.mov (.t 0)), none⟩,
    ⟨(some 7), .op (.app 2 24 true (.t 5) (.t 6)), none⟩,
    ⟨(some 2), .op (.mov (.t 7)), none⟩])
  (.ret)))⟩
theorem clone_call (hc : chkFn P f ir_slices_Clone_api_Call_api_Call = true) : cClone P f 2 24 := by
  intro n rows hlen hcl hok hr1 hr2
  refine Own.of_SC (by simp [clos, clo]) ?_
  cases n with
  | zero =>
    obtain rfl : rows = [] := by cases rows with | nil => rfl | cons => simp at hlen
    refine SC.nil0 (SC.mk hc (V_sound ?_)) (SC.mk hc (V_sound ?_))
    · simp only [ir_slices_Clone_api_Call_api_Call, argsT, H0, mkT, mkH, trL, List.length_cons, List.length_nil, Nat.reduceAdd, Nat.zero_add]
      simp only [↓vA, ↓vE, ↓vO, ↓vB, ↓vF, ↓vM, ↓vR, ↓vX, cvF_pc, vP, shb, shv, shvs, she_nil, she_cons, vC, vQ, Nat.reduceEqDiff, ↓reduceIte, eq_self, Nat.reduceAdd, Nat.reduceMul, Nat.reduceSub, Nat.reduceLeDiff, Nat.reduceLT, defd, cellsOf, wr, packR, Int.reduceLE, Int.reduceLT, Int.reduceEq, Int.cast_ofNat_Int, Int.reduceToNat]
      intro _
      refine ⟨[1], ?_⟩
      simp [vW, bw_map, mapAt_map, mapClo_it, mapClo_nil, mapClo_cons, vP, vZ, Tr.get_set]
    · simp only [ir_slices_Clone_api_Call_api_Call, argsT, H0, mkT, mkH, trL, List.length_cons, List.length_nil, Nat.reduceAdd, Nat.zero_add]
      simp only [↓vA, ↓vE, ↓vO, ↓vB, ↓vF, ↓vM, ↓vR, ↓vX, cvF_pc, vP, shb, shv, shvs, she_nil, she_cons, vC, vQ, Nat.reduceEqDiff, ↓reduceIte, eq_self, Nat.reduceAdd, Nat.reduceMul, Nat.reduceSub, Nat.reduceLeDiff, Nat.reduceLT, defd, cellsOf, wr, packR, Int.reduceLE, Int.reduceLT, Int.reduceEq, Int.cast_ofNat_Int, Int.reduceToNat, if_true]
      intro _
      refine ⟨[1], ?_⟩
      simp [vW, bw_map, mapAt_map, mapClo_it, mapClo_nil, mapClo_cons, vP, vZ, Tr.get_set]
  | succ n =>
    refine SC.mk hc (V_sound ?_)
    simp only [ir_slices_Clone_api_Call_api_Call, argsT, H0, mkT, mkH, trL, List.length_cons, List.length_nil, Nat.reduceAdd, Nat.zero_add]
    have h1 : 1 ≤ n + 1 := by omega
    have h2 : (n + 1) * 2 ≤ rows.length := by omega
    have h3 : rows.take ((n + 1) * 2) = rows := List.take_of_length_le (by omega)
    have h4 : ¬ (n + 1 ≤ 0) := by omega
    simp only [↓vA, ↓vE, ↓vO, ↓vB, ↓vF, ↓vM, ↓vR, ↓vX, cvF_pc, vP, shb, shv, shvs, she_nil, she_cons, vC, vQ, Nat.reduceEqDiff, ↓reduceIte, eq_self, Nat.reduceAdd, Nat.reduceMul, Nat.reduceSub, Nat.reduceLeDiff, Nat.reduceLT, defd, cellsOf, wr, packR, Int.reduceLE, Int.reduceLT, Int.reduceEq, Int.cast_ofNat_Int, Int.reduceToNat, h1, h2, h3, h4, hr1, hr2, hok, Nat.mul_one, Nat.zero_mul]
    intro _
    refine ⟨[1], ?_⟩
    simp [vW, bw_map, mapAt_map, mapClo_it, mapClo_nil, mapClo_cons, vP, vZ, Tr.get_set, nvs_self, hcl]
end Go.Kc
end
section
/- What strings.FieldsFunc answers, of any string and any predicate. Condition: the string is not too great; the functions' texts are these. -/
namespace Go.Kc
variable {P : Program} {f : Nat}
/-- the spans of fields: the program's own way -/
def stepSt (b : Bool) (st : Option Nat) (i : Nat) : Option Nat := if b = true then none else (match st with | some s => some s | none => some i)
def stepAcc (b : Bool) (st : Option Nat) (i : Nat) (acc : List (Nat × Nat)) : List (Nat × Nat) := if b = true then (match st with | some s => acc ++ [(s, i)] | none => acc) else acc
def scan (p : Int → Bool) (l : List UInt8) (i : Nat) (st : Option Nat) (acc : List (Nat × Nat)) : List (Nat × Nat) × Option Nat :=
  if i < l.length then scan p l (i + (runeAt l i).2) (stepSt (p (runeAt l i).1) st i) (stepAcc (p (runeAt l i).1) st i acc) else (acc, st)
termination_by l.length - i
decreasing_by have := rune_w l i; omega
def spans (p : Int → Bool) (l : List UInt8) : List (Nat × Nat) := match scan p l 0 none [] with
  | (acc, some s) => acc ++ [(s, l.length)]
  | (acc, none) => acc
def fieldOf (l : List UInt8) (q : Nat × Nat) : List UInt8 := (l.take q.2).drop q.1
def fields (p : Int → Bool) (l : List UInt8) : List (List UInt8) := (spans p l).map (fieldOf l)
def stOk (l : List UInt8) (st : Option Nat) (z : Int) (i : Nat) : Prop := match st with | some s => z = (s : Int) ∧ s ≤ i ∧ s < l.length | none => z < 0
def spanE (q : Nat × Nat) : List AV := [.i .i64 (q.1 : Int), .i .i64 (q.2 : Int)]
theorem spanE_len (q : Nat × Nat) : (spanE q).length = 2 := rfl
def spanC (acc : List (Nat × Nat)) : List AV := acc.flatMap spanE
theorem spanC_len (acc : List (Nat × Nat)) : (spanC acc).length = acc.length * 2 := flat_length spanE_len acc
theorem spanC_app (acc : List (Nat × Nat)) (x y : Nat) : spanC (acc ++ [(x, y)]) = spanC acc ++ [.i .i64 (x : Int), .i .i64 (y : Int)] := by simp [spanC, spanE]
def zeros (n : Nat) : List AV := List.replicate n (.i .i64 0)
theorem zeros_len (n : Nat) : (zeros n).length = n := by simp [zeros]
theorem zeros_clos (n : Nat) : clos (zeros n) = true := clos_rep rfl
theorem zeros_drop (n m : Nat) : (zeros n).drop m = zeros (n - m) := by simp [zeros]
theorem spanC_clos (acc : List (Nat × Nat)) : clos (spanC acc) = true := clos_flat (fun _ => rfl)
theorem spanC_cells (acc : List (Nat × Nat)) : cellsOk (spanC acc) = true := cells_flat (fun _ => rfl)
/-- the row of spans: in its first place, or grown -/
def rowV (acc : List (Nat × Nat)) : AV := if acc.length ≤ 32 then .sl 0 0 acc.length 32 false else .own 0 acc.length
def rowB (acc : List (Nat × Nat)) : Blk := if acc.length ≤ 32 then .cells 0 true false (spanC acc ++ zeros (64 - acc.length * 2)) else .cells 2 true true (spanC acc)
structure St where
  i : Nat
  st : Option Nat
  acc : List (Nat × Nat)
  z : Int
def stT (l : List UInt8) (g : Nat) (a : St) : List (Nat × AV) := [(0, .s l), (1, .fn g [] []), (5, rowV a.acc), (6, .i .i64 a.z), (14, .ptr 1 0)]
def stB (l : List UInt8) (a : St) : List Blk := [rowB a.acc, .map (iterE l a.i)]
structure StI (p : Int → Bool) (l : List UInt8) (a : St) : Prop where
  z : stOk l a.st a.z a.i
  lo : -1000001 ≤ a.z
  n : a.acc.length ≤ a.i
  m : a.acc.length ≤ l.length
  sp : ∀ q ∈ a.acc, q.1 ≤ q.2 ∧ q.2 ≤ l.length
  eq : scan p l a.i a.st a.acc = scan p l 0 none []
def cPred (P : Program) (g : Nat) (p : Int → Bool) : Prop := ∀ c : Int, Pure P g [.i .i32 c] (.b (p c))
def ir_strings_FieldsFunc_c5 : ICode := .seq (.reg false [⟨(some 44), .op (.mov (.t 5)), none⟩,
    ⟨(some 45), .op (.len false (.t 44)), none⟩,
    ⟨(some 46), .op (.mkS 1 16 [.s []] (.t 45) (.t 45)), none⟩,
    ⟨(some 9), .op (.mov (.t 46)), none⟩])
  (.seq (.seq (.reg false [⟨(some 47), .op (.mov (.t 5)), none⟩,
    ⟨(some 48), .op (.len false (.t 47)), none⟩,
    ⟨(some 49), .op (.mov (.c (.i .i64 0))), none⟩])
  (.blk 2 (.loop (.seq (.reg false [⟨(some 50), .op (.bin .lss (.t 49) (.t 48)), none⟩])
  (.seq (.cond (.t 50) (.skip) (.exit 2))
  (.seq (.blk 3 (.seq (.reg false [⟨(some 51), .op (.mov (.t 49)), none⟩,
    ⟨(some 52), .op (.iAddrS 2 (.t 47) (.t 49)), none⟩,
    ⟨(some 53), .op (.loadN 2 (.t 52)), none⟩,
    ⟨(some 11), .op (.alloc [.i .i64 0, .i .i64 0]), none⟩,
    ⟨(some 10), .op (.mov (.t 51)), none⟩,
    ⟨none, .op (.store 2 (.t 11) (.t 53)), none⟩])
  (.reg false [⟨(some 54), .op (.mov (.t 9)), none⟩,
    ⟨(some 55), .op (.mov (.t 10)), none⟩,
    ⟨(some 56), .op (.mov (.t 0)), none⟩,
    ⟨(some 57), .op (.fAddr 0 (.t 11)), none⟩,
    ⟨(some 58), .op (.load1 (.t 57)), none⟩,
    ⟨(some 59), .op (.fAddr 1 (.t 11)), none⟩,
    ⟨(some 60), .op (.load1 (.t 59)), none⟩,
    ⟨(some 61), .op (.slcStr (.t 56) (some (.t 58)) (some (.t 60))), none⟩,
    ⟨(some 62), .op (.iAddrS 1 (.t 54) (.t 55)), none⟩,
    ⟨none, .op (.store 1 (.t 62) (.t 61)), none⟩])))
  (.reg false [⟨(some 63), .op (.bin .add (.t 49) (.c (.i .i64 1))), none⟩,
    ⟨(some 49), .op (.mov (.t 63)), none⟩])))))))
  (.seq (.reg false [⟨(some 64), .op (.mov (.t 9)), none⟩,
    ⟨(some 4), .op (.mov (.t 64)), none⟩])
  (.ret)))
def ir_strings_FieldsFunc_c4 : ICode := .seq (.seq (.reg false [⟨(some 35), .op (.mov (.t 6)), none⟩,
    ⟨(some 36), .op (.bin .geq (.t 35) (.c (.i .i64 0))), none⟩])
  (.cond (.t 36) (.reg false [⟨(some 37), .op (.mov (.t 5)), none⟩,
    ⟨(some 38), .op (.mov (.t 6)), none⟩,
    ⟨(some 39), .op (.mov (.t 0)), none⟩,
    ⟨(some 40), .op (.len true (.t 39)), none⟩,
    ⟨(some 41), .op (.build [.i .i64 0, .i .i64 0] [(0, 1, (.t 38)), (1, 1, (.t 40))]), none⟩,
    ⟨(some 42), .op (.buildS 1 [.i .i64 0, .i .i64 0] [(0, 2, (.t 41))]), none⟩,
    ⟨(some 43), .op (.app 2 16 true (.t 37) (.t 42)), none⟩,
    ⟨(some 5), .op (.mov (.t 43)), none⟩]) (.skip)))
  (.cut (ir_strings_FieldsFunc_c5))
def ir_strings_FieldsFunc : IFn := ⟨[.tmp 4],
  .seq (.reg false [⟨(some 4), .op (.mov (.c (.nils))), none⟩])
  (.seq (.reg false [⟨(some 12), .op (.mkS 2 16 [.i .i64 0, .i .i64 0] (.c (.i .i64 0)) (.c (.i .i64 32))), none⟩,
    ⟨(some 5), .op (.mov (.t 12)), none⟩])
  (.seq (.reg false [⟨(some 6), .op (.mov (.c (.i .i64 (-1)))), none⟩])
  (.seq (.seq (.reg false [⟨(some 13), .op (.mov (.t 0)), none⟩,
    ⟨(some 14), .op (.rangeS (.t 13)), none⟩])
  (.blk 0 (.loop (.seq (.reg false [⟨(some 15), .op (.nextS (.t 14)), none⟩,
    ⟨(some 16), .op (.ext (.t 15) 0), none⟩])
  (.seq (.cond (.t 16) (.skip) (.exit 0))
  (.blk 1 (.seq (.reg false [⟨(some 17), .op (.ext (.t 15) 1), none⟩,
    ⟨(some 18), .op (.ext (.t 15) 2), none⟩,
    ⟨(some 7), .op (.mov (.t 17)), none⟩,
    ⟨(some 8), .op (.mov (.t 18)), none⟩])
  (.seq (.reg false [⟨(some 19), .op (.mov (.t 1)), none⟩,
    ⟨(some 20), .op (.mov (.t 8)), none⟩,
    ⟨(some 21), .callV (.t 19) [(.t 20)], none⟩])
  (.cond (.t 21) (.seq (.reg false [⟨(some 22), .op (.mov (.t 6)), none⟩,
    ⟨(some 23), .op (.bin .geq (.t 22) (.c (.i .i64 0))), none⟩])
  (.cond (.t 23) (.seq (.reg false [⟨(some 24), .op (.mov (.t 5)), none⟩,
    ⟨(some 25), .op (.mov (.t 6)), none⟩,
    ⟨(some 26), .op (.mov (.t 7)), none⟩,
    ⟨(some 27), .op (.build [.i .i64 0, .i .i64 0] [(0, 1, (.t 25)), (1, 1, (.t 26))]), none⟩,
    ⟨(some 28), .op (.buildS 1 [.i .i64 0, .i .i64 0] [(0, 2, (.t 27))]), none⟩,
    ⟨(some 29), .op (.app 2 16 true (.t 24) (.t 28)), none⟩,
    ⟨(some 5), .op (.mov (.t 29)), none⟩])
  (.reg false [⟨(some 30), .op (.mov (.t 6)), none⟩,
    ⟨(some 31), .op (.un .xor (.t 30)), none⟩,
    ⟨(some 6), .op (.mov (.t 31)), none⟩])) (.skip))) (.seq (.reg false [⟨(some 32), .op (.mov (.t 6)), none⟩,
    ⟨(some 33), .op (.bin .lss (.t 32) (.c (.i .i64 0))), none⟩])
  (.cond (.t 33) (.reg false [⟨(some 34), .op (.mov (.t 7)), none⟩,
    ⟨(some 6), .op (.mov (.t 34)), none⟩]) (.skip))))))))))))
  (.cut (ir_strings_FieldsFunc_c4)))))⟩
theorem span_elem {sp : List (Nat × Nat)} {j : Nat} {q : Nat × Nat} (hq : sp[j]? = some q) (z : List AV) : ((spanC sp ++ z).drop (j * 2)).take 2 = spanE q := by
  obtain ⟨hj, _⟩ := List.getElem?_eq_some_iff.1 hq
  rw [List.drop_append_of_le_length (by rw [spanC_len]; omega), List.take_append_of_le_length (by rw [List.length_drop, spanC_len]; omega)]
  exact flat_elem spanE_len hq
/-- the strings of the first j spans, and room for the rest -/
def strC (l : List UInt8) (sp : List (Nat × Nat)) (j : Nat) : List AV := (sp.take j).map (fun q => .s (fieldOf l q)) ++ List.replicate (sp.length - j) (.s [])
theorem strC_len {l : List UInt8} {sp : List (Nat × Nat)} {j : Nat} (hj : j ≤ sp.length) : (strC l sp j).length = sp.length := by
  simp [strC]; omega
theorem strC_clos {l : List UInt8} {sp : List (Nat × Nat)} {j : Nat} : clos (strC l sp j) = true := by
  rw [strC, clos_append, clos_map (fun _ => rfl), clos_rep rfl]; rfl
theorem strC_put {l : List UInt8} {sp : List (Nat × Nat)} {j : Nat} {q : Nat × Nat} (hq : sp[j]? = some q) : (strC l sp j).take j ++ .s (fieldOf l q) :: (strC l sp j).drop (j + 1) = strC l sp (j + 1) := by
  obtain ⟨hj, _⟩ := List.getElem?_eq_some_iff.1 hq
  have h1 : ((sp.take j).map fun q => AV.s (fieldOf l q)).length = j := by simp; omega
  obtain ⟨m, hm⟩ : ∃ m, sp.length - j = m + 1 := ⟨sp.length - j - 1, by omega⟩
  have h2 : sp.length - (j + 1) = m := by omega
  unfold strC
  rw [List.take_left' h1, List.take_add_one, hq, List.drop_append, h1, List.drop_eq_nil_of_le (by omega), hm, h2]
  simp [List.replicate_succ]
theorem strC_end {l : List UInt8} {sp : List (Nat × Nat)} : strC l sp sp.length = (sp.map (fieldOf l)).map .s := by
  simp [strC, List.map_map, Function.comp_def]
theorem tail5 (l : List UInt8) (sp : List (Nat × Nat)) (hn : sp.length ≤ 1000001) (hsp : ∀ q ∈ sp, q.1 ≤ q.2 ∧ q.2 ≤ l.length) : S P 0 ir_strings_FieldsFunc_c5 (endX [.tmp 4] (fun v' h' => Frz h' v' (.fz sp.length ((sp.map (fieldOf l)).map .s)))) (mkT [(0, .s l), (5, rowV sp)]) (mkH 0 [rowB sp]) := by
  refine V_sound ?_
  simp only [ir_strings_FieldsFunc_c5, argsT, H0, mkT, mkH, trL, List.length_cons, List.length_nil, Nat.reduceAdd, Nat.zero_add]
  have e1 : sp.length ≤ roomB := by unfold roomB; omega
  have e2 : 16 * sp.length ≤ roomB := by unfold roomB; omega
  by_cases h32 : sp.length ≤ 32
  all_goals
    simp only [↓vA, ↓vE, ↓vO, ↓vB, ↓vF, ↓vM, ↓vR, ↓vX, cvF_pc, vP, shb, shv, shvs, she_nil, she_cons, vC, vQ, Nat.reduceEqDiff, ↓reduceIte, eq_self, Nat.reduceAdd, Nat.reduceMul, Nat.reduceSub, Nat.reduceLeDiff, Nat.reduceLT, defd, cellsOf, wr, packR, Int.reduceLE, Int.reduceLT, Int.reduceEq, Int.cast_ofNat_Int, Int.reduceToNat, rowV, rowB, h32, e1, e2, rep_one]
    refine SL.loop (α := Nat) (fun j => [(0, .s l), (9, .sl 1 0 sp.length sp.length false), (47, rowV sp), (48, .i .i64 sp.length), (49, .i .i64 j)]) (fun j => [rowB sp, .cells 0 true false (strC l sp j)]) (fun j => j ≤ sp.length) (fun j => sp.length - j) 0 [0, 1] ?_ ?_ ?_ rfl ?_ ?_
    · simp [vW, bw_map, mapAt_map, mapClo_it, mapClo_nil, mapClo_cons, vP, vZ, Tr.get_set, rowV, h32]
    · simp [vW, bw_map, mapAt_map, mapClo_it, mapClo_nil, mapClo_cons, vP, vZ, Tr.get_set, rowB, h32, nvs_self, spanC_clos, zeros_clos, clos_append, clos_rep (v := AV.s []) rfl, strC]
    · simp
    · simp
    intro j hj G ih
    simp only [argsT, H0, mkT, mkH, trL, List.length_cons, List.length_nil, Nat.reduceAdd, Nat.zero_add]
    by_cases hlt : j < sp.length
    · obtain ⟨q, hq⟩ : ∃ q, sp[j]? = some q := ⟨_, List.getElem?_eq_getElem hlt⟩
      obtain ⟨hq1, hq2⟩ := hsp q (List.mem_of_getElem? hq)
      have he := span_elem hq (zeros (64 - sp.length * 2))
      have he' := span_elem hq []
      rw [List.append_nil] at he'
      have hl1 : j * 2 + 2 ≤ (spanC sp ++ zeros (64 - sp.length * 2)).length := by rw [List.length_append, spanC_len]; omega
      have hl2 : j * 2 + 2 ≤ (spanC sp).length := by rw [spanC_len]; omega
      have hl3 : j + 1 ≤ (strC l sp j).length := by rw [strC_len hj]; omega
      have hw : IntKind.wrap .i64 ((j : Int) + 1) = (j : Int) + 1 := wrap64 (by omega) (by omega)
      have hput := strC_put (l := l) hq
      simp only [fieldOf] at hput
      simp only [↓vA, ↓vE, ↓vO, ↓vB, ↓vF, ↓vM, ↓vR, ↓vX, cvF_pc, vP, shb, shv, shvs, she_nil, she_cons, vC, vQ, Nat.reduceEqDiff, ↓reduceIte, eq_self, Nat.reduceAdd, Nat.reduceMul, Nat.reduceSub, Nat.reduceLeDiff, Nat.reduceLT, defd, cellsOf, wr, packR, Int.reduceLE, Int.reduceLT, Int.reduceEq, Int.cast_ofNat_Int, Int.reduceToNat, hlt, rowV, rowB, h32, hl1, hl2, hl3, he, he', spanE, hq1, hq2, Nat.mul_one, hput, hw]
      refine ih (j + 1) hlt (by omega) _ _ (Wk.mk _ _ [0, 1] ?_ ?_ ?_ rfl)
      · simp [vW, bw_map, mapAt_map, mapClo_it, mapClo_nil, mapClo_cons, vP, vZ, Tr.get_set, rowV, h32]
      · simp [vW, bw_map, mapAt_map, mapClo_it, mapClo_nil, mapClo_cons, vP, vZ, Tr.get_set, rowB, h32, nvs_self, spanC_clos, zeros_clos, clos_append, strC_clos]
      · simp
    · have hje : j = sp.length := by omega
      subst hje
      simp only [↓vA, ↓vE, ↓vO, ↓vB, ↓vF, ↓vM, ↓vR, ↓vX, cvF_pc, vP, shb, shv, shvs, she_nil, she_cons, vC, vQ, Nat.reduceEqDiff, ↓reduceIte, eq_self, Nat.reduceAdd, Nat.reduceMul, Nat.reduceSub, Nat.reduceLeDiff, Nat.reduceLT, defd, cellsOf, wr, packR, Int.reduceLE, Int.reduceLT, Int.reduceEq, Int.cast_ofNat_Int, Int.reduceToNat, hlt]
      refine Frz.cut 1 rfl (Nat.le_refl _) ?_
      have h1 : (strC l sp sp.length).take sp.length = (sp.map (fieldOf l)).map .s := by rw [strC_end, List.take_of_length_le (by simp)]
      simp [vW, bw_map, mapAt_map, mapClo_it, mapClo_nil, mapClo_cons, vP, vZ, Tr.get_set, strC_len, h1, frzs_self, clos_map, clo]
theorem row_put {acc : List (Nat × Nat)} (h31 : acc.length + 1 ≤ 32) (x y : Nat) : (spanC acc ++ zeros (64 - acc.length * 2)).take (acc.length * 2) ++ AV.i .i64 (x : Int) :: AV.i .i64 (y : Int) :: (spanC acc ++ zeros (64 - acc.length * 2)).drop (acc.length * 2 + 2) = spanC (acc ++ [(x, y)]) ++ zeros (64 - (acc.length + 1) * 2) := by
  rw [List.take_left' (spanC_len acc), List.drop_append, spanC_len, List.drop_eq_nil_of_le (by rw [spanC_len]; omega), zeros_drop, spanC_app]
  rw [show 64 - acc.length * 2 - (acc.length * 2 + 2 - acc.length * 2) = 64 - (acc.length + 1) * 2 from by omega]
  simp
theorem row_take (acc : List (Nat × Nat)) (z : List AV) : (spanC acc ++ z).take (acc.length * 2) = spanC acc := List.take_left' (spanC_len acc)
theorem row_len {acc : List (Nat × Nat)} (h32 : acc.length ≤ 32) : (spanC acc ++ zeros (64 - acc.length * 2)).length = 64 := by rw [List.length_append, spanC_len, zeros_len]; omega
/-- the spans, the last one with them -/
def endSp (l : List UInt8) (st : Option Nat) (acc : List (Nat × Nat)) : List (Nat × Nat) := match st with | some s => acc ++ [(s, l.length)] | none => acc
theorem mid4 (l : List UInt8) (hl : l.length ≤ 1000000) (st : Option Nat) (acc : List (Nat × Nat)) (z : Int) (i : Nat) (hz : stOk l st z i) (hn : acc.length ≤ 1000000) (hsp : ∀ q ∈ acc, q.1 ≤ q.2 ∧ q.2 ≤ l.length) :
    S P 0 ir_strings_FieldsFunc_c4 (endX [.tmp 4] (fun v' h' => Frz h' v' (.fz (endSp l st acc).length (((endSp l st acc).map (fieldOf l)).map .s)))) (mkT [(0, .s l), (5, rowV acc), (6, .i .i64 z)]) (mkH 0 [rowB acc]) := by
  refine V_sound ?_
  simp only [ir_strings_FieldsFunc_c4, argsT, H0, mkT, mkH, trL, List.length_cons, List.length_nil, Nat.reduceAdd, Nat.zero_add]
  cases st with
  | none =>
    have hz1 : ¬ 0 ≤ z := by have : z < 0 := hz; omega
    simp only [↓vA, ↓vE, ↓vO, ↓vB, ↓vF, ↓vM, ↓vR, ↓vX, cvF_pc, vP, shb, shv, shvs, she_nil, she_cons, vC, vQ, Nat.reduceEqDiff, ↓reduceIte, eq_self, Nat.reduceAdd, Nat.reduceMul, Nat.reduceSub, Nat.reduceLeDiff, Nat.reduceLT, defd, cellsOf, wr, packR, Int.reduceLE, Int.reduceLT, Int.reduceEq, Int.cast_ofNat_Int, Int.reduceToNat, hz1]
    refine S.weak (Wk.mk _ _ [0] ?_ ?_ ?_ rfl) (tail5 l acc (by omega) hsp)
    · simp [vW, bw_map, mapAt_map, mapClo_it, mapClo_nil, mapClo_cons, vP, vZ, Tr.get_set, rowV]
      split <;> simp [vW, bw_map, mapAt_map, mapClo_it, mapClo_nil, mapClo_cons, vP, vZ, Tr.get_set]
    · simp [vW, bw_map, mapAt_map, mapClo_it, mapClo_nil, mapClo_cons, vP, vZ, Tr.get_set, rowB]
      split <;> simp [vW, bw_map, mapAt_map, mapClo_it, mapClo_nil, mapClo_cons, vP, vZ, Tr.get_set, nvs_self, spanC_clos, zeros_clos, clos_append]
    · simp
  | some s =>
    obtain ⟨rfl, hs1, hs2⟩ := hz
    have hz1 : (0 : Int) ≤ s := by omega
    have hsp' : ∀ q ∈ acc ++ [(s, l.length)], q.1 ≤ q.2 ∧ q.2 ≤ l.length := by
      intro q hq
      rcases List.mem_append.1 hq with hq | hq
      · exact hsp q hq
      · simp at hq; subst hq; exact ⟨by dsimp only; omega, Nat.le_refl _⟩
    have ht := tail5 (P := P) l (acc ++ [(s, l.length)]) (by simp; omega) hsp'
    have r1 : acc.length + 1 ≤ roomB := by unfold roomB; omega
    have r2 : (acc.length + 1) * 16 ≤ roomB := by unfold roomB; omega
    by_cases h32 : acc.length ≤ 32
    · by_cases h31 : acc.length + 1 ≤ 32
      · have hb : acc.length * 2 + 2 ≤ 64 := by omega
        simp only [↓vA, ↓vE, ↓vO, ↓vB, ↓vF, ↓vM, ↓vR, ↓vX, cvF_pc, vP, shb, shv, shvs, she_nil, she_cons, vC, vQ, Nat.reduceEqDiff, ↓reduceIte, eq_self, Nat.reduceAdd, Nat.reduceMul, Nat.reduceSub, Nat.reduceLeDiff, Nat.reduceLT, defd, cellsOf, wr, packR, Int.reduceLE, Int.reduceLT, Int.reduceEq, Int.cast_ofNat_Int, Int.reduceToNat, hz1, rowV, rowB, h32, h31, row_len h32, hb, row_put h31]
        refine S.weak (Wk.mk _ _ [0] ?_ ?_ ?_ rfl) ht
        · simp [vW, bw_map, mapAt_map, mapClo_it, mapClo_nil, mapClo_cons, vP, vZ, Tr.get_set, rowV, h31]
        · simp [vW, bw_map, mapAt_map, mapClo_it, mapClo_nil, mapClo_cons, vP, vZ, Tr.get_set, rowB, h31, nvs_self, spanC_clos, zeros_clos, clos_append]
        · simp
      · have hb : acc.length * 2 ≤ 64 := by omega
        simp only [↓vA, ↓vE, ↓vO, ↓vB, ↓vF, ↓vM, ↓vR, ↓vX, cvF_pc, vP, shb, shv, shvs, she_nil, she_cons, vC, vQ, Nat.reduceEqDiff, ↓reduceIte, eq_self, Nat.reduceAdd, Nat.reduceMul, Nat.reduceSub, Nat.reduceLeDiff, Nat.reduceLT, defd, cellsOf, wr, packR, Int.reduceLE, Int.reduceLT, Int.reduceEq, Int.cast_ofNat_Int, Int.reduceToNat, hz1, rowV, rowB, h32, h31, row_len h32, hb, row_take, r1, r2]
        refine S.weak (Wk.mk _ _ [2] ?_ ?_ ?_ rfl) ht
        · simp [vW, bw_map, mapAt_map, mapClo_it, mapClo_nil, mapClo_cons, vP, vZ, Tr.get_set, rowV, h31]
        · simp [vW, bw_map, mapAt_map, mapClo_it, mapClo_nil, mapClo_cons, vP, vZ, Tr.get_set, rowB, h31, nvs_self, spanC_clos, spanC_app, clos_append, clos, clo]
        · simp
    · have h31 : ¬ acc.length + 1 ≤ 32 := by omega
      simp only [↓vA, ↓vE, ↓vO, ↓vB, ↓vF, ↓vM, ↓vR, ↓vX, cvF_pc, vP, shb, shv, shvs, she_nil, she_cons, vC, vQ, Nat.reduceEqDiff, ↓reduceIte, eq_self, Nat.reduceAdd, Nat.reduceMul, Nat.reduceSub, Nat.reduceLeDiff, Nat.reduceLT, defd, cellsOf, wr, packR, Int.reduceLE, Int.reduceLT, Int.reduceEq, Int.cast_ofNat_Int, Int.reduceToNat, hz1, rowV, rowB, h32, spanC_len, r1, r2]
      refine S.weak (Wk.mk _ _ [2] ?_ ?_ ?_ rfl) ht
      · simp [vW, bw_map, mapAt_map, mapClo_it, mapClo_nil, mapClo_cons, vP, vZ, Tr.get_set, rowV, h31]
      · simp [vW, bw_map, mapAt_map, mapClo_it, mapClo_nil, mapClo_cons, vP, vZ, Tr.get_set, rowB, h31, nvs_self, spanC_clos, spanC_app, clos_append, clos, clo]
      · simp
theorem fields_pure (hc : chkFn P f ir_strings_FieldsFunc = true) {g : Nat} {p : Int → Bool} (hg : cPred P g p) (l : List UInt8) (hl : l.length ≤ 1000000) : Pure P f [.s l, .fn g [] []] (.fz (fields p l).length ((fields p l).map .s)) := by
  refine Pure.mk hc (by simp [clos, clo]) ?_
  simp only [ir_strings_FieldsFunc, argsT, H0, mkT, mkH, trL, List.length_cons, List.length_nil, Nat.reduceAdd, Nat.zero_add]
  simp only [↓vA, ↓vE, ↓vO, ↓vB, ↓vF, ↓vM, ↓vR, ↓vX, cvF_pc, vP, shb, shv, shvs, she_nil, she_cons, vC, vQ, Nat.reduceEqDiff, ↓reduceIte, eq_self, Nat.reduceAdd, Nat.reduceMul, Nat.reduceSub, Nat.reduceLeDiff, Nat.reduceLT, defd, cellsOf, wr, packR, Int.reduceLE, Int.reduceLT, Int.reduceEq, Int.cast_ofNat_Int, Int.reduceToNat, roomB]
  refine SL.loop (α := St) (stT l g) (stB l) (StI p l) (fun a => l.length - a.i) ⟨0, none, [], -1⟩ [0, 1] ?_ ?_ ?_ rfl ?_ ?_
  · simp [vW, bw_map, mapAt_map, mapClo_it, mapClo_nil, mapClo_cons, vP, vZ, Tr.get_set, stT, stB, rowV]
  · simp [vW, bw_map, mapAt_map, mapClo_it, mapClo_nil, mapClo_cons, vP, vZ, Tr.get_set, stB, rowB, spanC, zeros]
  · simp
  · exact ⟨by simp [stOk], by decide, by simp, by simp, by simp, rfl⟩
  rintro ⟨i, st, acc, z⟩ ⟨hz, hlo, hn, hm, hsp, heq⟩ G ih
  dsimp only at hz hlo hn hm hsp heq ih ⊢
  simp only [stT, stB, argsT, H0, mkT, mkH, trL, List.length_cons, List.length_nil, Nat.reduceAdd, Nat.zero_add]
  by_cases hi : i < l.length
  · simp only [↓vA, ↓vE, ↓vO, ↓vB, ↓vF, ↓vM, ↓vR, ↓vX, cvF_pc, vP, shb, shv, shvs, she_nil, she_cons, vC, vQ, Nat.reduceEqDiff, ↓reduceIte, eq_self, Nat.reduceAdd, Nat.reduceMul, Nat.reduceSub, Nat.reduceLeDiff, Nat.reduceLT, defd, cellsOf, wr, packR, Int.reduceLE, Int.reduceLT, Int.reduceEq, Int.cast_ofNat_Int, Int.reduceToNat, hi]
    refine (hg _).sc ?_
    have hw := rune_w l i
    have hs : scan p l i st acc = scan p l (i + (runeAt l i).2) (stepSt (p (runeAt l i).1) st i) (stepAcc (p (runeAt l i).1) st i acc) := by rw [scan, if_pos hi]
    rw [hs] at heq
    clear hs
    generalize runeAt l i = rn at *
    obtain ⟨r, w⟩ := rn
    dsimp only at heq hw ⊢
    have keep : ∀ (st' : Option Nat) (z' : Int) (t' : Tr AV), stOk l st' z' (i + w) → -1000001 ≤ z' → scan p l (i + w) st' acc = scan p l 0 none [] → t'.get 0 = some (.s l) → t'.get 1 = some (.fn g [] []) → t'.get 5 = some (rowV acc) → t'.get 6 = some (.i .i64 z') → t'.get 14 = some (.ptr 1 0) →
        G t' ⟨2, 0, ((Tr.leaf.set 0 (rowB acc)).set 1 (.map (iterE l i))).set 1 (.map (iterE l (i + w)))⟩ := by
      intro st' z' t' h1 h2 h3 g0 g1 g5 g6 g14
      refine ih ⟨i + w, st', acc, z'⟩ ⟨h1, h2, by dsimp only; omega, hm, hsp, h3⟩ (by dsimp only; omega) _ _ (Wk.mk _ _ [0, 1] ?_ ?_ ?_ rfl)
      · simp [vW, bw_map, mapAt_map, mapClo_it, mapClo_nil, mapClo_cons, vP, vZ, Tr.get_set, stT, stB, g0, g1, g5, g6, g14, rowV]
        split <;> simp [vW, bw_map, mapAt_map, mapClo_it, mapClo_nil, mapClo_cons, vP, vZ, Tr.get_set]
      · simp [vW, bw_map, mapAt_map, mapClo_it, mapClo_nil, mapClo_cons, vP, vZ, Tr.get_set, stB, rowB]
        split <;> simp [vW, bw_map, mapAt_map, mapClo_it, mapClo_nil, mapClo_cons, vP, vZ, Tr.get_set, nvs_self, spanC_clos, zeros_clos, clos_append]
      · simp
    cases hpc : p (r : Int) with
    | false =>
      rw [hpc] at heq
      cases st with
      | some s =>
        obtain ⟨rfl, hs1, hs2⟩ := hz
        have hz1 : ¬ ((s : Int) < 0) := by omega
        simp only [↓vA, ↓vE, ↓vO, ↓vB, ↓vF, ↓vM, ↓vR, ↓vX, cvF_pc, vP, shb, shv, shvs, she_nil, she_cons, vC, vQ, Nat.reduceEqDiff, ↓reduceIte, eq_self, Nat.reduceAdd, Nat.reduceMul, Nat.reduceSub, Nat.reduceLeDiff, Nat.reduceLT, defd, cellsOf, wr, packR, Int.reduceLE, Int.reduceLT, Int.reduceEq, Int.cast_ofNat_Int, Int.reduceToNat, hz1]
        exact keep (some s) s _ ⟨rfl, by omega, hs2⟩ hlo (by simpa [stepSt, stepAcc] using heq) (by simp [Tr.get_set]) (by simp [Tr.get_set]) (by simp [Tr.get_set]) (by simp [Tr.get_set]) (by simp [Tr.get_set])
      | none =>
        have hz1 : z < 0 := hz
        simp only [↓vA, ↓vE, ↓vO, ↓vB, ↓vF, ↓vM, ↓vR, ↓vX, cvF_pc, vP, shb, shv, shvs, she_nil, she_cons, vC, vQ, Nat.reduceEqDiff, ↓reduceIte, eq_self, Nat.reduceAdd, Nat.reduceMul, Nat.reduceSub, Nat.reduceLeDiff, Nat.reduceLT, defd, cellsOf, wr, packR, Int.reduceLE, Int.reduceLT, Int.reduceEq, Int.cast_ofNat_Int, Int.reduceToNat, hz1]
        exact keep (some i) i _ ⟨rfl, by omega, hi⟩ (by omega) (by simpa [stepSt, stepAcc] using heq) (by simp [Tr.get_set]) (by simp [Tr.get_set]) (by simp [Tr.get_set]) (by simp [Tr.get_set]) (by simp [Tr.get_set])
    | true =>
      rw [hpc] at heq
      cases st with
      | none =>
        have hz1 : ¬ 0 ≤ z := by have : z < 0 := hz; omega
        simp only [↓vA, ↓vE, ↓vO, ↓vB, ↓vF, ↓vM, ↓vR, ↓vX, cvF_pc, vP, shb, shv, shvs, she_nil, she_cons, vC, vQ, Nat.reduceEqDiff, ↓reduceIte, eq_self, Nat.reduceAdd, Nat.reduceMul, Nat.reduceSub, Nat.reduceLeDiff, Nat.reduceLT, defd, cellsOf, wr, packR, Int.reduceLE, Int.reduceLT, Int.reduceEq, Int.cast_ofNat_Int, Int.reduceToNat, hz1]
        exact keep none z _ hz hlo (by simpa [stepSt, stepAcc] using heq) (by simp [Tr.get_set]) (by simp [Tr.get_set]) (by simp [Tr.get_set]) (by simp [Tr.get_set]) (by simp [Tr.get_set])
      | some s =>
        obtain ⟨rfl, hs1, hs2⟩ := hz
        have hz1 : (0 : Int) ≤ s := by omega
        have hx : ∀ k : AV → Prop, unopK .xor (.i .i64 (s : Int)) k ↔ evA (.i .i64 (-1 - (s : Int))) k := fun k => un_xor (by omega)
        have hsp' : ∀ q ∈ acc ++ [(s, i)], q.1 ≤ q.2 ∧ q.2 ≤ l.length := by
          intro q hq
          rcases List.mem_append.1 hq with hq | hq
          · exact hsp q hq
          · simp at hq; subst hq; exact ⟨hs1, Nat.le_of_lt hi⟩
        have hI : StI p l ⟨i + w, none, acc ++ [(s, i)], -1 - (s : Int)⟩ := ⟨by simp only [stOk]; omega, by dsimp only; omega, by simp; omega, by simp; omega, hsp', by simpa [stepSt, stepAcc] using heq⟩
        have r1 : acc.length + 1 ≤ roomB := by unfold roomB; omega
        have r2 : (acc.length + 1) * 16 ≤ roomB := by unfold roomB; omega
        by_cases h32 : acc.length ≤ 32
        · by_cases h31 : acc.length + 1 ≤ 32
          · have hb : acc.length * 2 + 2 ≤ 64 := by omega
            simp only [↓vA, ↓vE, ↓vO, ↓vB, ↓vF, ↓vM, ↓vR, ↓vX, cvF_pc, vP, shb, shv, shvs, she_nil, she_cons, vC, vQ, Nat.reduceEqDiff, ↓reduceIte, eq_self, Nat.reduceAdd, Nat.reduceMul, Nat.reduceSub, Nat.reduceLeDiff, Nat.reduceLT, defd, cellsOf, wr, packR, Int.reduceLE, Int.reduceLT, Int.reduceEq, Int.cast_ofNat_Int, Int.reduceToNat, hz1, rowV, rowB, h32, h31, row_len h32, hb, row_put h31, hx]
            refine ih _ hI (by dsimp only; omega) _ _ (Wk.mk _ _ [0, 1] ?_ ?_ ?_ rfl)
            · simp [vW, bw_map, mapAt_map, mapClo_it, mapClo_nil, mapClo_cons, vP, vZ, Tr.get_set, stT, stB, rowV, h31]
            · simp [vW, bw_map, mapAt_map, mapClo_it, mapClo_nil, mapClo_cons, vP, vZ, Tr.get_set, stB, rowB, h31, nvs_self, spanC_clos, zeros_clos, clos_append]
            · simp
          · have hb : acc.length * 2 ≤ 64 := by omega
            simp only [↓vA, ↓vE, ↓vO, ↓vB, ↓vF, ↓vM, ↓vR, ↓vX, cvF_pc, vP, shb, shv, shvs, she_nil, she_cons, vC, vQ, Nat.reduceEqDiff, ↓reduceIte, eq_self, Nat.reduceAdd, Nat.reduceMul, Nat.reduceSub, Nat.reduceLeDiff, Nat.reduceLT, defd, cellsOf, wr, packR, Int.reduceLE, Int.reduceLT, Int.reduceEq, Int.cast_ofNat_Int, Int.reduceToNat, hz1, rowV, rowB, h32, h31, row_len h32, hb, row_take, r1, r2, hx]
            refine ih _ hI (by dsimp only; omega) _ _ (Wk.mk _ _ [3, 1] ?_ ?_ ?_ rfl)
            · simp [vW, bw_map, mapAt_map, mapClo_it, mapClo_nil, mapClo_cons, vP, vZ, Tr.get_set, stT, stB, rowV, h31]
            · simp [vW, bw_map, mapAt_map, mapClo_it, mapClo_nil, mapClo_cons, vP, vZ, Tr.get_set, stB, rowB, h31, nvs_self, spanC_clos, spanC_app, clos_append, clos, clo]
            · simp
        · have h31 : ¬ acc.length + 1 ≤ 32 := by omega
          simp only [↓vA, ↓vE, ↓vO, ↓vB, ↓vF, ↓vM, ↓vR, ↓vX, cvF_pc, vP, shb, shv, shvs, she_nil, she_cons, vC, vQ, Nat.reduceEqDiff, ↓reduceIte, eq_self, Nat.reduceAdd, Nat.reduceMul, Nat.reduceSub, Nat.reduceLeDiff, Nat.reduceLT, defd, cellsOf, wr, packR, Int.reduceLE, Int.reduceLT, Int.reduceEq, Int.cast_ofNat_Int, Int.reduceToNat, hz1, rowV, rowB, h32, spanC_len, r1, r2, hx]
          refine ih _ hI (by dsimp only; omega) _ _ (Wk.mk _ _ [3, 1] ?_ ?_ ?_ rfl)
          · simp [vW, bw_map, mapAt_map, mapClo_it, mapClo_nil, mapClo_cons, vP, vZ, Tr.get_set, stT, stB, rowV, h31]
          · simp [vW, bw_map, mapAt_map, mapClo_it, mapClo_nil, mapClo_cons, vP, vZ, Tr.get_set, stB, rowB, h31, nvs_self, spanC_clos, spanC_app, clos_append, clos, clo]
          · simp
  · simp only [↓vA, ↓vE, ↓vO, ↓vB, ↓vF, ↓vM, ↓vR, ↓vX, cvF_pc, vP, shb, shv, shvs, she_nil, she_cons, vC, vQ, Nat.reduceEqDiff, ↓reduceIte, eq_self, Nat.reduceAdd, Nat.reduceMul, Nat.reduceSub, Nat.reduceLeDiff, Nat.reduceLT, defd, cellsOf, wr, packR, Int.reduceLE, Int.reduceLT, Int.reduceEq, Int.cast_ofNat_Int, Int.reduceToNat, hi]
    have hs : scan p l i st acc = (acc, st) := by rw [scan, if_neg hi]
    have he : fields p l = (endSp l st acc).map (fieldOf l) := by
      unfold fields spans
      rw [← heq, hs]
      cases st <;> rfl
    rw [he, List.length_map]
    refine S.weak (Wk.mk _ _ [0] ?_ ?_ ?_ rfl) (mid4 l hl st acc z i hz (by omega) hsp)
    · simp [vW, bw_map, mapAt_map, mapClo_it, mapClo_nil, mapClo_cons, vP, vZ, Tr.get_set, rowV]
      split <;> simp [vW, bw_map, mapAt_map, mapClo_it, mapClo_nil, mapClo_cons, vP, vZ, Tr.get_set]
    · simp [vW, bw_map, mapAt_map, mapClo_it, mapClo_nil, mapClo_cons, vP, vZ, Tr.get_set, rowB]
      split <;> simp [vW, bw_map, mapAt_map, mapClo_it, mapClo_nil, mapClo_cons, vP, vZ, Tr.get_set, nvs_self, spanC_clos, zeros_clos, clos_append]
    · simp
end Go.Kc
end
section
/- What values.Words answers. Condition: the functions' texts are these. -/
namespace Go.Kc
variable {P : Program} {f : Nat}
/-- a space, a tab, a return -/
def spc (c : Int) : Bool := decide (c = 32) || decide (c = 9) || decide (c = 13)
def ir_values_Words_1 : IFn := ⟨[.tmp 2],
  .seq (.reg false [⟨(some 2), .op (.mov (.c (.b false))), none⟩])
  (.seq (.reg false [⟨(some 3), .op (.mov (.t 0)), none⟩,
    ⟨(some 4), .op (.bin .eql (.t 3) (.c (.i .i32 32))), none⟩,
    ⟨(some 5), .op (.mov (.t 4)), none⟩,
    ⟨(some 6), .op (.mov (.t 0)), (some (5, false))⟩,
    ⟨(some 7), .op (.bin .eql (.t 6) (.c (.i .i32 9))), (some (5, false))⟩,
    ⟨(some 8), .op (.pick (.t 5) (.c (.b true)) (.t 7)), none⟩,
    ⟨(some 9), .op (.mov (.t 8)), none⟩,
    ⟨(some 10), .op (.mov (.t 0)), (some (9, false))⟩,
    ⟨(some 11), .op (.bin .eql (.t 10) (.c (.i .i32 13))), (some (9, false))⟩,
    ⟨(some 12), .op (.pick (.t 9) (.c (.b true)) (.t 11)), none⟩,
    ⟨(some 2), .op (.mov (.t 12)), none⟩])
  (.ret))⟩
theorem words_pred (hc : chkFn P f ir_values_Words_1 = true) : cPred P f spc := by
  intro c
  refine Pure.mk hc (by simp [clos, clo]) ?_
  simp only [ir_values_Words_1, argsT, H0, mkT, mkH, trL, List.length_cons, List.length_nil, Nat.reduceAdd, Nat.zero_add]
  by_cases h1 : c = 32
  · simp only [↓vA, ↓vE, ↓vO, ↓vB, ↓vF, ↓vM, ↓vR, ↓vX, cvF_pc, vP, shb, shv, shvs, she_nil, she_cons, vC, vQ, Nat.reduceEqDiff, ↓reduceIte, eq_self, Nat.reduceAdd, Nat.reduceMul, Nat.reduceSub, Nat.reduceLeDiff, Nat.reduceLT, defd, cellsOf, wr, packR, Int.reduceLE, Int.reduceLT, Int.reduceEq, Int.cast_ofNat_Int, Int.reduceToNat, h1, spc, vZ, Bool.true_or]
  · by_cases h2 : c = 9
    · simp only [↓vA, ↓vE, ↓vO, ↓vB, ↓vF, ↓vM, ↓vR, ↓vX, cvF_pc, vP, shb, shv, shvs, she_nil, she_cons, vC, vQ, Nat.reduceEqDiff, ↓reduceIte, eq_self, Nat.reduceAdd, Nat.reduceMul, Nat.reduceSub, Nat.reduceLeDiff, Nat.reduceLT, defd, cellsOf, wr, packR, Int.reduceLE, Int.reduceLT, Int.reduceEq, Int.cast_ofNat_Int, Int.reduceToNat, h2, spc, vZ, Bool.true_or, Bool.or_true, Int.reduceEq]
    · by_cases h3 : c = 13
      · simp only [↓vA, ↓vE, ↓vO, ↓vB, ↓vF, ↓vM, ↓vR, ↓vX, cvF_pc, vP, shb, shv, shvs, she_nil, she_cons, vC, vQ, Nat.reduceEqDiff, ↓reduceIte, eq_self, Nat.reduceAdd, Nat.reduceMul, Nat.reduceSub, Nat.reduceLeDiff, Nat.reduceLT, defd, cellsOf, wr, packR, Int.reduceLE, Int.reduceLT, Int.reduceEq, Int.cast_ofNat_Int, Int.reduceToNat, h3, spc, vZ, Bool.or_true, Int.reduceEq]
      · simp only [↓vA, ↓vE, ↓vO, ↓vB, ↓vF, ↓vM, ↓vR, ↓vX, cvF_pc, vP, shb, shv, shvs, she_nil, she_cons, vC, vQ, Nat.reduceEqDiff, ↓reduceIte, eq_self, Nat.reduceAdd, Nat.reduceMul, Nat.reduceSub, Nat.reduceLeDiff, Nat.reduceLT, defd, cellsOf, wr, packR, Int.reduceLE, Int.reduceLT, Int.reduceEq, Int.cast_ofNat_Int, Int.reduceToNat, h1, h2, h3, spc, vZ, Bool.or_self]
def ir_values_Words (f_strings_FieldsFunc f_values_Words_1 : Nat) : IFn := ⟨[.tmp 2],
  .seq (.reg false [⟨(some 2), .op (.mov (.c (.nils))), none⟩])
  (.seq (.reg false [⟨(some 3), .op (.mov (.t 0)), none⟩,
    ⟨(some 4), .callF f_strings_FieldsFunc [(.t 3), (.c (.fn f_values_Words_1 [] []))], none⟩,
    ⟨(some 2), .op (.mov (.t 4)), none⟩])
  (.ret))⟩
def words (l : List UInt8) : List (List UInt8) := fields spc l
def cWords (P : Program) (g : Nat) : Prop := ∀ l : List UInt8, l.length ≤ 1000000 → Pure P g [.s l] (.fz (words l).length ((words l).map .s))
theorem words_pure {g1 g2 : Nat} (hc : chkFn P f (ir_values_Words g1 g2) = true) (h1 : ∀ l : List UInt8, l.length ≤ 1000000 → Pure P g1 [.s l, .fn g2 [] []] (.fz (fields spc l).length ((fields spc l).map .s))) : cWords P f := by
  intro l hl
  refine Pure.mk hc (by simp [clos, clo]) ?_
  simp only [ir_values_Words, argsT, H0, mkT, mkH, trL, List.length_cons, List.length_nil, Nat.reduceAdd, Nat.zero_add]
  simp only [↓vA, ↓vE, ↓vO, ↓vB, ↓vF, ↓vM, ↓vR, ↓vX, cvF_pc, vP, shb, shv, shvs, she_nil, she_cons, vC, vQ, Nat.reduceEqDiff, ↓reduceIte, eq_self, Nat.reduceAdd, Nat.reduceMul, Nat.reduceSub, Nat.reduceLeDiff, Nat.reduceLT, defd, cellsOf, wr, packR, Int.reduceLE, Int.reduceLT, Int.reduceEq, Int.cast_ofNat_Int, Int.reduceToNat]
  refine (h1 l hl).sc ?_
  simp only [↓vA, ↓vE, ↓vO, ↓vB, ↓vF, ↓vM, ↓vR, ↓vX, cvF_pc, vP, shb, shv, shvs, she_nil, she_cons, vC, vQ, Nat.reduceEqDiff, ↓reduceIte, eq_self, Nat.reduceAdd, Nat.reduceMul, Nat.reduceSub, Nat.reduceLeDiff, Nat.reduceLT, defd, cellsOf, wr, packR, Int.reduceLE, Int.reduceLT, Int.reduceEq, Int.cast_ofNat_Int, Int.reduceToNat, vZ, words, and_self]
end Go.Kc
end
section
/- Words, byte by byte. No condition. -/
namespace Go.Kc
/-- a space, a tab, a return -/
def isSp (c : UInt8) : Bool := decide (c = 32) || decide (c = 9) || decide (c = 13)
theorem isSp_spc (c : UInt8) : isSp c = spc (c.toNat : Int) := by
  have h1 : (c = 32) ↔ (c.toNat : Int) = 32 := by rw [← UInt8.toNat_inj]; simp; omega
  have h2 : (c = 9) ↔ (c.toNat : Int) = 9 := by rw [← UInt8.toNat_inj]; simp; omega
  have h3 : (c = 13) ↔ (c.toNat : Int) = 13 := by rw [← UInt8.toNat_inj]; simp; omega
  unfold isSp spc
  simp only [h1, h2, h3]
theorem spc_big {n : Nat} (h : 128 ≤ n) : spc (n : Int) = false := by
  unfold spc
  have h1 : ¬ (n : Int) = 32 := by omega
  have h2 : ¬ (n : Int) = 9 := by omega
  have h3 : ¬ (n : Int) = 13 := by omega
  simp [h1, h2, h3]
theorem isSp_big {c : UInt8} (h : 128 ≤ c.toNat) : isSp c = false := by rw [isSp_spc]; exact spc_big h
/-- a rune of more than a byte: none of its bytes is one of these, nor is it -/
theorem rune_big {l : List UInt8} {i : Nat} (hi : i < l.length) (hb : ¬ l[i].toNat < 128) : 128 ≤ (runeAt l i).1 ∧ i + (runeAt l i).2 ≤ l.length ∧ ∀ k, i ≤ k → k < i + (runeAt l i).2 → ∀ c, l[k]? = some c → isSp c = false := by
  have hget : ∀ k (hk : k < l.length), ((⟨l.toArray⟩ : ByteArray).get! k) = l[k] := by
    intro k hk
    show l.toArray[k]! = l[k]
    simp [hk]
  have hs : (⟨l.toArray⟩ : ByteArray).size = l.length := by simp [ByteArray.size]
  have big : ∀ k, k < l.length → ((⟨l.toArray⟩ : ByteArray).get! k).toNat / 64 = 2 → ∀ c, l[k]? = some c → isSp c = false := by
    intro k hk h c hc
    rw [hget k hk] at h
    obtain ⟨_, rfl⟩ := List.getElem?_eq_some_iff.1 hc
    exact isSp_big (by omega)
  have b0 : ∀ c, l[i]? = some c → isSp c = false := by
    intro c hc
    obtain ⟨_, rfl⟩ := List.getElem?_eq_some_iff.1 hc
    exact isSp_big (by omega)
  have one : ∀ k, i ≤ k → k < i + 1 → ∀ c, l[k]? = some c → isSp c = false := by
    intro k h1 h2 c hc
    obtain rfl : k = i := by omega
    exact b0 c hc
  unfold runeAt Utf8.decode
  dsimp only
  simp only [Nat.add_zero, hget i hi, hs, Bool.and_eq_true, decide_eq_true_eq, beq_iff_eq]
  rw [if_neg hb]
  split
  · rename_i h
    split
    · rename_i hc
      refine ⟨hc, by omega, fun k h1 h2 c hcc => ?_⟩
      rcases Nat.lt_or_eq_of_le h1 with h3 | h3
      · obtain rfl : k = i + 1 := by omega
        exact big _ h.2.1 h.2.2 c hcc
      · subst h3; exact b0 c hcc
    · exact ⟨by simp [Utf8.runeError], by omega, one⟩
  · split
    · rename_i h
      split
      · rename_i hc
        refine ⟨by have := hc.1; omega, by omega, fun k h1 h2 c hcc => ?_⟩
        have h3 : k = i ∨ k = i + 1 ∨ k = i + 2 := by omega
        rcases h3 with rfl | rfl | rfl
        · exact b0 c hcc
        · exact big _ h.1.2.1 h.1.2.2 c hcc
        · exact big _ h.2.1 h.2.2 c hcc
      · exact ⟨by simp [Utf8.runeError], by omega, one⟩
    · split
      · rename_i h
        split
        · rename_i hc
          refine ⟨by have := hc.1; omega, by omega, fun k h1 h2 c hcc => ?_⟩
          have h3 : k = i ∨ k = i + 1 ∨ k = i + 2 ∨ k = i + 3 := by omega
          rcases h3 with rfl | rfl | rfl | rfl
          · exact b0 c hcc
          · exact big _ h.1.1.2.1 h.1.1.2.2 c hcc
          · exact big _ h.1.2.1 h.1.2.2 c hcc
          · exact big _ h.2.1 h.2.2 c hcc
        · exact ⟨by simp [Utf8.runeError], by omega, one⟩
      · exact ⟨by simp [Utf8.runeError], by omega, one⟩
/-- words, with what has been read of the one that is being read -/
def wB : List UInt8 → List UInt8 → List (List UInt8)
  | [], cur => if cur = [] then [] else [cur]
  | c :: cs, cur => if isSp c = true then (if cur = [] then wB cs [] else cur :: wB cs []) else wB cs (cur ++ [c])
theorem wB_skip (cs : List UInt8) : ∀ (ds cur : List UInt8), (∀ c ∈ ds, isSp c = false) → wB (ds ++ cs) cur = wB cs (cur ++ ds)
  | [], cur, _ => by simp
  | d :: ds, cur, h => by
    have h1 := h d (by simp)
    simp only [List.cons_append, wB, h1, Bool.false_eq_true, if_false]
    rw [wB_skip cs ds _ (fun c hc => h c (by simp [hc]))]
    simp
theorem take_drop_eq {l : List UInt8} {s i j : Nat} (h1 : s ≤ i) (h2 : i ≤ j) (h3 : j ≤ l.length) : (l.take j).drop s = (l.take i).drop s ++ (l.take j).drop i := by
  have e : l.take j = l.take i ++ (l.take j).drop i := by
    have := List.take_append_drop i (l.take j)
    rw [List.take_take, Nat.min_eq_left h2] at this
    exact this.symm
  conv => lhs; rw [e]
  rw [List.drop_append_of_le_length (by simp; omega)]
def curOf (l : List UInt8) (st : Option Nat) (i : Nat) : List UInt8 := match st with | some s => (l.take i).drop s | none => []
theorem scan_wB (l : List UInt8) : ∀ (m i : Nat) (st : Option Nat) (acc : List (Nat × Nat)), l.length - i = m → i ≤ l.length → (∀ s, st = some s → s < i) →
    (match scan spc l i st acc with | (acc, some s) => acc ++ [(s, l.length)] | (acc, none) => acc).map (fieldOf l) = acc.map (fieldOf l) ++ wB (l.drop i) (curOf l st i) := by
  intro m
  induction m using Nat.strongRecOn with
  | ind m ih =>
    intro i st acc hm hi hst
    by_cases hlt : i < l.length
    · have hd : l.drop i = l[i] :: l.drop (i + 1) := List.drop_eq_getElem_cons hlt
      by_cases hb : l[i].toNat < 128
      · have hr : runeAt l i = (l[i].toNat, 1) := decode_ascii (List.getElem?_eq_getElem hlt) hb
        have hsp : isSp l[i] = spc (l[i].toNat : Int) := isSp_spc _
        rw [scan, if_pos hlt, hr]
        dsimp only
        rw [ih (l.length - (i + 1)) (by omega) (i + 1) _ _ rfl (by omega) ?_, hd, wB, hsp]
        · cases hc : spc (l[i].toNat : Int) with
          | true =>
            cases st with
            | none => simp [stepAcc, stepSt, curOf]
            | some s =>
              have h1 := hst s rfl
              have h2 : (l.take i).drop s ≠ [] := by
                intro hh
                have := congrArg List.length hh
                simp at this; omega
              simp [stepAcc, stepSt, curOf, h2, fieldOf]
          | false =>
            cases st with
            | none =>
              simp only [stepAcc, stepSt, curOf, Bool.false_eq_true, if_false, List.nil_append]
              congr 2
              rw [List.take_add_one, List.getElem?_eq_getElem hlt, List.drop_left' (by simp; omega)]; rfl
            | some s =>
              have h1 := hst s rfl
              simp only [stepAcc, stepSt, curOf, Bool.false_eq_true, if_false]
              congr 2
              rw [List.take_add_one, List.getElem?_eq_getElem hlt, List.drop_append_of_le_length (by simp; omega)]; rfl
        · intro s hs
          cases hc : spc (l[i].toNat : Int) with
          | true => rw [hc] at hs; simp [stepSt] at hs
          | false =>
            rw [hc] at hs
            cases st with
            | none => simp [stepSt] at hs; omega
            | some s' => simp [stepSt] at hs; have := hst s' rfl; omega
      · obtain ⟨h1, h2, h3⟩ := rune_big hlt hb
        have hw := rune_w l i
        have hc : spc ((runeAt l i).1 : Int) = false := spc_big h1
        generalize hwd : (runeAt l i).2 = w at h2 h3 hw
        rw [scan, if_pos hlt, hc, hwd, ih (l.length - (i + w)) (by omega) (i + w) _ _ rfl h2 ?_]
        · simp only [stepAcc, Bool.false_eq_true, if_false]
          congr 1
          have e : l.drop i = (l.take (i + w)).drop i ++ l.drop (i + w) := by
            have := List.take_append_drop (i + w) l
            conv => lhs; rw [← this]
            rw [List.drop_append_of_le_length (by simp; omega)]
          rw [e, wB_skip]
          · congr 1
            cases st with
            | none => simp [stepSt, curOf]
            | some s =>
              have h1 := hst s rfl
              simp only [stepSt, curOf, Bool.false_eq_true, if_false]
              exact take_drop_eq (by omega) (by omega) h2
          · intro c hcc
            obtain ⟨k, hk, rfl⟩ := List.getElem_of_mem hcc
            simp at hk
            refine h3 (i + k) (by omega) (by omega) _ ?_
            simp only [List.getElem_drop, List.getElem_take]
            exact List.getElem?_eq_getElem (by omega)
        · intro s hs
          cases st with
          | none => simp [stepSt] at hs; omega
          | some s' => simp [stepSt] at hs; have := hst s' rfl; omega
    · have hil : i = l.length := by omega
      rw [scan, if_neg hlt, List.drop_of_length_le (by omega)]
      cases st with
      | none => simp [wB, curOf]
      | some s =>
        have h1 := hst s rfl
        have h2 : (l.take i).drop s ≠ [] := by
          intro hh
          have := congrArg List.length hh
          simp [List.length_drop, List.length_take] at this; omega
        simp only [wB, curOf, if_neg h2]
        subst hil
        simp [fieldOf, h1]
theorem words_wB (l : List UInt8) : words l = wB l [] := by
  have := scan_wB l l.length 0 none [] rfl (Nat.zero_le _) (by simp)
  simp only [List.map_nil, List.nil_append, List.drop_zero, curOf] at this
  exact this
theorem wB_len : ∀ (l cur : List UInt8), (wB l cur).length ≤ l.length + (if cur = [] then 0 else 1)
  | [], cur => by simp only [wB]; split <;> simp
  | c :: cs, cur => by
    have h1 := wB_len cs []
    have h2 := wB_len cs (cur ++ [c])
    simp only [wB]
    simp at h1 h2
    split
    · split
      · simp; omega
      · simp; omega
    · split <;> simp <;> omega
theorem words_len (l : List UInt8) : (words l).length ≤ l.length := by
  rw [words_wB]; simpa using wB_len l []
end Go.Kc
end
section
/- Rows of numbers, of strings. No condition. -/
namespace Go.Kc
/-- a row of numbers -/
def rI (k : IntKind) (l : List Int) : List AV := l.map (.i k)
section
variable {k : IntKind} {l m : List Int} {j : Nat}
theorem rI_len : (rI k l).length = l.length := by simp [rI]
theorem rI_clos : clos (rI k l) = true := clos_map fun _ => rfl
theorem rI_ok : cellsOk (rI k l) = true := cells_map fun _ => rfl
theorem rI_get : (rI k l)[j]? = (l[j]?).map (.i k) := by simp [rI]
theorem rI_take : (rI k l).take j = rI k (l.take j) := by simp [rI]
theorem rI_drop : (rI k l).drop j = rI k (l.drop j) := by simp [rI]
theorem rI_app : rI k l ++ rI k m = rI k (l ++ m) := by simp [rI]
theorem rI_nil : rI k [] = [] := rfl
theorem rI_one {x : Int} : rI k [x] = [.i k x] := rfl
theorem rI_cons {x : Int} : rI k (x :: l) = .i k x :: rI k l := rfl
theorem rI_rep {n : Nat} : List.replicate n (.i k 0) = rI k (List.replicate n 0) := by simp [rI]
end
/-- a row of strings -/
def rS (l : List (List UInt8)) : List AV := l.map .s
section
variable {l m : List (List UInt8)} {j : Nat}
theorem rS_len : (rS l).length = l.length := by simp [rS]
theorem rS_clos : clos (rS l) = true := clos_map fun _ => rfl
theorem rS_ok : cellsOk (rS l) = true := cells_map fun _ => rfl
theorem rS_get : (rS l)[j]? = (l[j]?).map .s := by simp [rS]
theorem rS_take : (rS l).take j = rS (l.take j) := by simp [rS]
theorem rS_drop : (rS l).drop j = rS (l.drop j) := by simp [rS]
theorem rS_app : rS l ++ rS m = rS (l ++ m) := by simp [rS]
theorem rS_nil : rS [] = [] := rfl
theorem rS_one {x : List UInt8} : rS [x] = [.s x] := rfl
theorem rS_cons {x : List UInt8} : rS (x :: l) = .s x :: rS l := rfl
end
end Go.Kc
end
section
/- What searches by a function answer. Condition: the functions' texts are these. -/
namespace Go.Kc
variable {P : Program} {f : Nat}
/-- the place of the first of which something holds -/
def idxP {α : Type} (p : α → Bool) : List α → Nat → Int
  | [], _ => -1
  | x :: xs, j => if p x = true then (j : Int) else idxP p xs (j + 1)
theorem idxP_find {α : Type} (p : α → Bool) : ∀ (l : List α) (j : Nat), (idxP p l j = -1 ∧ l.find? p = none) ∨ ∃ i x, idxP p l j = ((j + i : Nat) : Int) ∧ l[i]? = some x ∧ p x = true ∧ l.find? p = some x ∧ ∀ k y, k < i → l[k]? = some y → p y = false
  | [], j => .inl ⟨rfl, rfl⟩
  | x :: xs, j => by
    by_cases h : p x = true
    · refine .inr ⟨0, x, by simp [idxP, h], rfl, h, by simp [h], fun k y hk => by omega⟩
    · rcases idxP_find p xs (j + 1) with ⟨h1, h2⟩ | ⟨i, y, h1, h2, h3, h4, h5⟩
      · exact .inl ⟨by simp [idxP, h, h1], by simp [h, h2]⟩
      · refine .inr ⟨i + 1, y, ?_, by simpa using h2, h3, by simp [h, h4], ?_⟩
        · rw [idxP, if_neg h, h1]; omega
        · intro k z hk hz
          cases k with
          | zero => simp at hz; subst hz; simpa using h
          | succ k => exact h5 k z (by omega) (by simpa using hz)
def cIdxP1 (P : Program) (f : Nat) : Prop := ∀ {α : Type} (enc : α → AV) (p : α → Bool) (g : Nat) (a c : List AV) (l : List α), clos a = true → clos c = true → l.length ≤ roomB →
  (∀ x ∈ l, Pure P g (a ++ ([enc x] ++ c)) (.b (p x))) → Pure P f [.fz l.length (l.map enc), .fn g a c] (.i .i64 (idxP p l 0))
def cIdxPN (m : Nat) (P : Program) (f : Nat) : Prop := ∀ {α : Type} (enc : α → List AV) (p : α → Bool) (g : Nat) (a c : List AV) (l : List α), (∀ x, (enc x).length = m) → clos a = true → clos c = true → l.length ≤ roomB →
  (∀ x ∈ l, Pure P g (a ++ ([.agg (enc x)] ++ c)) (.b (p x))) → Pure P f [.fz l.length (l.flatMap enc), .fn g a c] (.i .i64 (idxP p l 0))
def ir_slices_IndexFunc_int_int : IFn := ⟨[.tmp 4],
  .seq (.reg false [⟨(some 4), .op (.mov (.c (.i .i64 0))), none⟩])
  (.seq (.seq (.reg false [⟨(some 6), .op (.mov (.t 0)), none⟩,
    ⟨(some 7), .op (.len false (.t 6)), none⟩,
    ⟨(some 8), .op (.mov (.c (.i .i64 0))), none⟩])
  (.blk 0 (.loop (.seq (.reg false [⟨(some 9), .op (.bin .lss (.t 8) (.t 7)), none⟩])
  (.seq (.cond (.t 9) (.skip) (.exit 0))
  (.seq (.blk 1 (.seq (.reg false [⟨(some 10), .op (.mov (.t 8)), none⟩,
    ⟨(some 5), .op (.mov (.t 10)), none⟩])
  (.seq (.reg false [⟨(some 11), .op (.mov (.t 1)), none⟩,
    ⟨(some 12), .op (.mov (.t 0)), none⟩,
    ⟨(some 13), .op (.mov (.t 5)), none⟩,
    ⟨(some 14), .op (.iAddrS 1 (.t 12) (.t 13)), none⟩,
    ⟨(some 15), .op (.load1 (.t 14)), none⟩,
    ⟨(some 16), .callV (.t 11) [(.t 15)], none⟩])
  (.cond (.t 16) (.seq (.reg false [⟨(some 17), .op (.mov (.t 5)), none⟩,
    ⟨(some 4), .op (.mov (.t 17)), none⟩])
  (.ret)) (.skip)))))
  (.reg false [⟨(some 18), .op (.bin .add (.t 8) (.c (.i .i64 1))), none⟩,
    ⟨(some 8), .op (.mov (.t 18)), none⟩])))))))
  (.seq (.reg false [⟨(some 4), .op (.mov (.c (.i .i64 (-1)))), none⟩])
  (.ret)))⟩
theorem indexFunc_int (hc : chkFn P f ir_slices_IndexFunc_int_int = true) : cIdxP1 P f := by
  intro α enc p g a c l ha hc' hl hp
  refine Pure.mk hc (by simp [clos, clo, ha, hc']) ?_
  simp only [ir_slices_IndexFunc_int_int, argsT, H0, mkT, mkH, trL, List.length_cons, List.length_nil, Nat.reduceAdd, Nat.zero_add]
  simp only [↓vA, ↓vE, ↓vO, ↓vB, ↓vF, ↓vM, ↓vR, ↓vX, cvF_pc, vP, shb, shv, shvs, she_nil, she_cons, vC, vQ, Nat.reduceEqDiff, ↓reduceIte, eq_self, Nat.reduceAdd, Nat.reduceMul, Nat.reduceSub, Nat.reduceLeDiff, Nat.reduceLT, defd, cellsOf, wr, packR, Int.reduceLE, Int.reduceLT, Int.reduceEq, Int.cast_ofNat_Int, Int.reduceToNat]
  refine SL.loop (α := Nat) (fun j => [(0, .fz l.length (l.map enc)), (1, .fn g a c), (7, .i .i64 l.length), (8, .i .i64 j)]) (fun _ => []) (fun j => j ≤ l.length ∧ idxP p l 0 = idxP p (l.drop j) j) (fun j => l.length - j) 0 [] ?_ ?_ ?_ rfl ?_ ?_
  · simp [vW, bw_map, mapAt_map, mapClo_it, mapClo_nil, mapClo_cons, vP, vZ, Tr.get_set, nvs_self, ha, hc']
  · trivial
  · simp
  · simp
  rintro j ⟨hj, hI⟩ G ih
  simp only [argsT, H0, mkT, mkH, trL, List.length_cons, List.length_nil, Nat.reduceAdd, Nat.zero_add]
  by_cases hlt : j < l.length
  · have hx : l[j]? = some l[j] := List.getElem?_eq_getElem hlt
    have hw : IntKind.wrap .i64 ((j : Int) + 1) = (j : Int) + 1 := wrap64 (by omega) (by have := hl; simp only [roomB] at this; omega)
    rw [List.drop_eq_getElem_cons hlt, idxP] at hI
    simp only [↓vA, ↓vE, ↓vO, ↓vB, ↓vF, ↓vM, ↓vR, ↓vX, cvF_pc, vP, shb, shv, shvs, she_nil, she_cons, vC, vQ, Nat.reduceEqDiff, ↓reduceIte, eq_self, Nat.reduceAdd, Nat.reduceMul, Nat.reduceSub, Nat.reduceLeDiff, Nat.reduceLT, defd, cellsOf, wr, packR, Int.reduceLE, Int.reduceLT, Int.reduceEq, Int.cast_ofNat_Int, Int.reduceToNat, hlt, Nat.mul_one, List.getElem?_map, hx, Option.map_some, hw]
    refine (hp l[j] (List.getElem_mem hlt)).sc ?_
    by_cases hpx : p l[j] = true
    · rw [if_pos hpx] at hI
      simp only [↓vA, ↓vE, ↓vO, ↓vB, ↓vF, ↓vM, ↓vR, ↓vX, cvF_pc, vP, shb, shv, shvs, she_nil, she_cons, vC, vQ, Nat.reduceEqDiff, ↓reduceIte, eq_self, Nat.reduceAdd, Nat.reduceMul, Nat.reduceSub, Nat.reduceLeDiff, Nat.reduceLT, defd, cellsOf, wr, packR, Int.reduceLE, Int.reduceLT, Int.reduceEq, Int.cast_ofNat_Int, Int.reduceToNat, hpx, vZ, hI]
    · rw [if_neg hpx] at hI
      simp only [↓vA, ↓vE, ↓vO, ↓vB, ↓vF, ↓vM, ↓vR, ↓vX, cvF_pc, vP, shb, shv, shvs, she_nil, she_cons, vC, vQ, Nat.reduceEqDiff, ↓reduceIte, eq_self, Nat.reduceAdd, Nat.reduceMul, Nat.reduceSub, Nat.reduceLeDiff, Nat.reduceLT, defd, cellsOf, wr, packR, Int.reduceLE, Int.reduceLT, Int.reduceEq, Int.cast_ofNat_Int, Int.reduceToNat, hpx, hw]
      refine ih (j + 1) ⟨by omega, hI⟩ (by omega) _ _ (Wk.mk _ _ [] ?_ ?_ ?_ rfl)
      · simp [vW, bw_map, mapAt_map, mapClo_it, mapClo_nil, mapClo_cons, vP, vZ, Tr.get_set, nvs_self, ha, hc']
      · trivial
      · simp
  · simp only [↓vA, ↓vE, ↓vO, ↓vB, ↓vF, ↓vM, ↓vR, ↓vX, cvF_pc, vP, shb, shv, shvs, she_nil, she_cons, vC, vQ, Nat.reduceEqDiff, ↓reduceIte, eq_self, Nat.reduceAdd, Nat.reduceMul, Nat.reduceSub, Nat.reduceLeDiff, Nat.reduceLT, defd, cellsOf, wr, packR, Int.reduceLE, Int.reduceLT, Int.reduceEq, Int.cast_ofNat_Int, Int.reduceToNat, hlt]
    rw [List.drop_eq_nil_of_le (by omega)] at hI
    simp [hI, idxP, vZ]
def ir_slices_IndexFunc_uint32_uint32 : IFn := ⟨[.tmp 4],
  .seq (.reg false [⟨(some 4), .op (.mov (.c (.i .i64 0))), none⟩])
  (.seq (.seq (.reg false [⟨(some 6), .op (.mov (.t 0)), none⟩,
    ⟨(some 7), .op (.len false (.t 6)), none⟩,
    ⟨(some 8), .op (.mov (.c (.i .i64 0))), none⟩])
  (.blk 0 (.loop (.seq (.reg false [⟨(some 9), .op (.bin .lss (.t 8) (.t 7)), none⟩])
  (.seq (.cond (.t 9) (.skip) (.exit 0))
  (.seq (.blk 1 (.seq (.reg false [⟨(some 10), .op (.mov (.t 8)), none⟩,
    ⟨(some 5), .op (.mov (.t 10)), none⟩])
  (.seq (.reg false [⟨(some 11), .op (.mov (.t 1)), none⟩,
    ⟨(some 12), .op (.mov (.t 0)), none⟩,
    ⟨(some 13), .op (.mov (.t 5)), none⟩,
    ⟨(some 14), .op (.iAddrS 1 (.t 12) (.t 13)), none⟩,
    ⟨(some 15), .op (.load1 (.t 14)), none⟩,
    ⟨(some 16), .callV (.t 11) [(.t 15)], none⟩])
  (.cond (.t 16) (.seq (.reg false [⟨(some 17), .op (.mov (.t 5)), none⟩,
    ⟨(some 4), .op (.mov (.t 17)), none⟩])
  (.ret)) (.skip)))))
  (.reg false [⟨(some 18), .op (.bin .add (.t 8) (.c (.i .i64 1))), none⟩,
    ⟨(some 8), .op (.mov (.t 18)), none⟩])))))))
  (.seq (.reg false [⟨(some 4), .op (.mov (.c (.i .i64 (-1)))), none⟩])
  (.ret)))⟩
theorem indexFunc_u32 (hc : chkFn P f ir_slices_IndexFunc_uint32_uint32 = true) : cIdxP1 P f := by
  intro α enc p g a c l ha hc' hl hp
  refine Pure.mk hc (by simp [clos, clo, ha, hc']) ?_
  simp only [ir_slices_IndexFunc_uint32_uint32, argsT, H0, mkT, mkH, trL, List.length_cons, List.length_nil, Nat.reduceAdd, Nat.zero_add]
  simp only [↓vA, ↓vE, ↓vO, ↓vB, ↓vF, ↓vM, ↓vR, ↓vX, cvF_pc, vP, shb, shv, shvs, she_nil, she_cons, vC, vQ, Nat.reduceEqDiff, ↓reduceIte, eq_self, Nat.reduceAdd, Nat.reduceMul, Nat.reduceSub, Nat.reduceLeDiff, Nat.reduceLT, defd, cellsOf, wr, packR, Int.reduceLE, Int.reduceLT, Int.reduceEq, Int.cast_ofNat_Int, Int.reduceToNat]
  refine SL.loop (α := Nat) (fun j => [(0, .fz l.length (l.map enc)), (1, .fn g a c), (7, .i .i64 l.length), (8, .i .i64 j)]) (fun _ => []) (fun j => j ≤ l.length ∧ idxP p l 0 = idxP p (l.drop j) j) (fun j => l.length - j) 0 [] ?_ ?_ ?_ rfl ?_ ?_
  · simp [vW, bw_map, mapAt_map, mapClo_it, mapClo_nil, mapClo_cons, vP, vZ, Tr.get_set, nvs_self, ha, hc']
  · trivial
  · simp
  · simp
  rintro j ⟨hj, hI⟩ G ih
  simp only [argsT, H0, mkT, mkH, trL, List.length_cons, List.length_nil, Nat.reduceAdd, Nat.zero_add]
  by_cases hlt : j < l.length
  · have hx : l[j]? = some l[j] := List.getElem?_eq_getElem hlt
    have hw : IntKind.wrap .i64 ((j : Int) + 1) = (j : Int) + 1 := wrap64 (by omega) (by have := hl; simp only [roomB] at this; omega)
    rw [List.drop_eq_getElem_cons hlt, idxP] at hI
    simp only [↓vA, ↓vE, ↓vO, ↓vB, ↓vF, ↓vM, ↓vR, ↓vX, cvF_pc, vP, shb, shv, shvs, she_nil, she_cons, vC, vQ, Nat.reduceEqDiff, ↓reduceIte, eq_self, Nat.reduceAdd, Nat.reduceMul, Nat.reduceSub, Nat.reduceLeDiff, Nat.reduceLT, defd, cellsOf, wr, packR, Int.reduceLE, Int.reduceLT, Int.reduceEq, Int.cast_ofNat_Int, Int.reduceToNat, hlt, Nat.mul_one, List.getElem?_map, hx, Option.map_some, hw]
    refine (hp l[j] (List.getElem_mem hlt)).sc ?_
    by_cases hpx : p l[j] = true
    · rw [if_pos hpx] at hI
      simp only [↓vA, ↓vE, ↓vO, ↓vB, ↓vF, ↓vM, ↓vR, ↓vX, cvF_pc, vP, shb, shv, shvs, she_nil, she_cons, vC, vQ, Nat.reduceEqDiff, ↓reduceIte, eq_self, Nat.reduceAdd, Nat.reduceMul, Nat.reduceSub, Nat.reduceLeDiff, Nat.reduceLT, defd, cellsOf, wr, packR, Int.reduceLE, Int.reduceLT, Int.reduceEq, Int.cast_ofNat_Int, Int.reduceToNat, hpx, vZ, hI]
    · rw [if_neg hpx] at hI
      simp only [↓vA, ↓vE, ↓vO, ↓vB, ↓vF, ↓vM, ↓vR, ↓vX, cvF_pc, vP, shb, shv, shvs, she_nil, she_cons, vC, vQ, Nat.reduceEqDiff, ↓reduceIte, eq_self, Nat.reduceAdd, Nat.reduceMul, Nat.reduceSub, Nat.reduceLeDiff, Nat.reduceLT, defd, cellsOf, wr, packR, Int.reduceLE, Int.reduceLT, Int.reduceEq, Int.cast_ofNat_Int, Int.reduceToNat, hpx, hw]
      refine ih (j + 1) ⟨by omega, hI⟩ (by omega) _ _ (Wk.mk _ _ [] ?_ ?_ ?_ rfl)
      · simp [vW, bw_map, mapAt_map, mapClo_it, mapClo_nil, mapClo_cons, vP, vZ, Tr.get_set, nvs_self, ha, hc']
      · trivial
      · simp
  · simp only [↓vA, ↓vE, ↓vO, ↓vB, ↓vF, ↓vM, ↓vR, ↓vX, cvF_pc, vP, shb, shv, shvs, she_nil, she_cons, vC, vQ, Nat.reduceEqDiff, ↓reduceIte, eq_self, Nat.reduceAdd, Nat.reduceMul, Nat.reduceSub, Nat.reduceLeDiff, Nat.reduceLT, defd, cellsOf, wr, packR, Int.reduceLE, Int.reduceLT, Int.reduceEq, Int.cast_ofNat_Int, Int.reduceToNat, hlt]
    rw [List.drop_eq_nil_of_le (by omega)] at hI
    simp [hI, idxP, vZ]
def ir_slices_IndexFunc_arch_arch_arch_arch : IFn := ⟨[.tmp 4],
  .seq (.reg false [⟨(some 4), .op (.mov (.c (.i .i64 0))), none⟩])
  (.seq (.seq (.reg false [⟨(some 6), .op (.mov (.t 0)), none⟩,
    ⟨(some 7), .op (.len false (.t 6)), none⟩,
    ⟨(some 8), .op (.mov (.c (.i .i64 0))), none⟩])
  (.blk 0 (.loop (.seq (.reg false [⟨(some 9), .op (.bin .lss (.t 8) (.t 7)), none⟩])
  (.seq (.cond (.t 9) (.skip) (.exit 0))
  (.seq (.blk 1 (.seq (.reg false [⟨(some 10), .op (.mov (.t 8)), none⟩,
    ⟨(some 5), .op (.mov (.t 10)), none⟩])
  (.seq (.reg false [⟨(some 11), .op (.mov (.t 1)), none⟩,
    ⟨(some 12), .op (.mov (.t 0)), none⟩,
    ⟨(some 13), .op (.mov (.t 5)), none⟩,
    ⟨(some 14), .op (.iAddrS 2 (.t 12) (.t 13)), none⟩,
    ⟨(some 15), .op (.loadN 2 (.t 14)), none⟩,
    ⟨(some 16), .callV (.t 11) [(.t 15)], none⟩])
  (.cond (.t 16) (.seq (.reg false [⟨(some 17), .op (.mov (.t 5)), none⟩,
    ⟨(some 4), .op (.mov (.t 17)), none⟩])
  (.ret)) (.skip)))))
  (.reg false [⟨(some 18), .op (.bin .add (.t 8) (.c (.i .i64 1))), none⟩,
    ⟨(some 8), .op (.mov (.t 18)), none⟩])))))))
  (.seq (.reg false [⟨(some 4), .op (.mov (.c (.i .i64 (-1)))), none⟩])
  (.ret)))⟩
theorem indexFunc_arch (hc : chkFn P f ir_slices_IndexFunc_arch_arch_arch_arch = true) : cIdxPN 2 P f := by
  intro α enc p g a c l hlen ha hc' hl hp
  refine Pure.mk hc (by simp [clos, clo, ha, hc']) ?_
  simp only [ir_slices_IndexFunc_arch_arch_arch_arch, argsT, H0, mkT, mkH, trL, List.length_cons, List.length_nil, Nat.reduceAdd, Nat.zero_add]
  simp only [↓vA, ↓vE, ↓vO, ↓vB, ↓vF, ↓vM, ↓vR, ↓vX, cvF_pc, vP, shb, shv, shvs, she_nil, she_cons, vC, vQ, Nat.reduceEqDiff, ↓reduceIte, eq_self, Nat.reduceAdd, Nat.reduceMul, Nat.reduceSub, Nat.reduceLeDiff, Nat.reduceLT, defd, cellsOf, wr, packR, Int.reduceLE, Int.reduceLT, Int.reduceEq, Int.cast_ofNat_Int, Int.reduceToNat]
  refine SL.loop (α := Nat) (fun j => [(0, .fz l.length (l.flatMap enc)), (1, .fn g a c), (7, .i .i64 l.length), (8, .i .i64 j)]) (fun _ => []) (fun j => j ≤ l.length ∧ idxP p l 0 = idxP p (l.drop j) j) (fun j => l.length - j) 0 [] ?_ ?_ ?_ rfl ?_ ?_
  · simp [vW, bw_map, mapAt_map, mapClo_it, mapClo_nil, mapClo_cons, vP, vZ, Tr.get_set, nvs_self, ha, hc']
  · trivial
  · simp
  · simp
  rintro j ⟨hj, hI⟩ G ih
  simp only [argsT, H0, mkT, mkH, trL, List.length_cons, List.length_nil, Nat.reduceAdd, Nat.zero_add]
  by_cases hlt : j < l.length
  · have hx : l[j]? = some l[j] := List.getElem?_eq_getElem hlt
    have hw : IntKind.wrap .i64 ((j : Int) + 1) = (j : Int) + 1 := wrap64 (by omega) (by have := hl; simp only [roomB] at this; omega)
    have he := flat_elem hlen hx
    have hb : j * 2 + 2 ≤ (l.flatMap enc).length := by rw [flat_length hlen]; omega
    rw [List.drop_eq_getElem_cons hlt, idxP] at hI
    simp only [↓vA, ↓vE, ↓vO, ↓vB, ↓vF, ↓vM, ↓vR, ↓vX, cvF_pc, vP, shb, shv, shvs, she_nil, she_cons, vC, vQ, Nat.reduceEqDiff, ↓reduceIte, eq_self, Nat.reduceAdd, Nat.reduceMul, Nat.reduceSub, Nat.reduceLeDiff, Nat.reduceLT, defd, cellsOf, wr, packR, Int.reduceLE, Int.reduceLT, Int.reduceEq, Int.cast_ofNat_Int, Int.reduceToNat, hlt, hb, he, hw]
    refine (hp l[j] (List.getElem_mem hlt)).sc ?_
    by_cases hpx : p l[j] = true
    · rw [if_pos hpx] at hI
      simp only [↓vA, ↓vE, ↓vO, ↓vB, ↓vF, ↓vM, ↓vR, ↓vX, cvF_pc, vP, shb, shv, shvs, she_nil, she_cons, vC, vQ, Nat.reduceEqDiff, ↓reduceIte, eq_self, Nat.reduceAdd, Nat.reduceMul, Nat.reduceSub, Nat.reduceLeDiff, Nat.reduceLT, defd, cellsOf, wr, packR, Int.reduceLE, Int.reduceLT, Int.reduceEq, Int.cast_ofNat_Int, Int.reduceToNat, hpx, vZ, hI]
    · rw [if_neg hpx] at hI
      simp only [↓vA, ↓vE, ↓vO, ↓vB, ↓vF, ↓vM, ↓vR, ↓vX, cvF_pc, vP, shb, shv, shvs, she_nil, she_cons, vC, vQ, Nat.reduceEqDiff, ↓reduceIte, eq_self, Nat.reduceAdd, Nat.reduceMul, Nat.reduceSub, Nat.reduceLeDiff, Nat.reduceLT, defd, cellsOf, wr, packR, Int.reduceLE, Int.reduceLT, Int.reduceEq, Int.cast_ofNat_Int, Int.reduceToNat, hpx, hw]
      refine ih (j + 1) ⟨by omega, hI⟩ (by omega) _ _ (Wk.mk _ _ [] ?_ ?_ ?_ rfl)
      · simp [vW, bw_map, mapAt_map, mapClo_it, mapClo_nil, mapClo_cons, vP, vZ, Tr.get_set, nvs_self, ha, hc']
      · trivial
      · simp
  · simp only [↓vA, ↓vE, ↓vO, ↓vB, ↓vF, ↓vM, ↓vR, ↓vX, cvF_pc, vP, shb, shv, shvs, she_nil, she_cons, vC, vQ, Nat.reduceEqDiff, ↓reduceIte, eq_self, Nat.reduceAdd, Nat.reduceMul, Nat.reduceSub, Nat.reduceLeDiff, Nat.reduceLT, defd, cellsOf, wr, packR, Int.reduceLE, Int.reduceLT, Int.reduceEq, Int.cast_ofNat_Int, Int.reduceToNat, hlt]
    rw [List.drop_eq_nil_of_le (by omega)] at hI
    simp [hI, idxP, vZ]
def ir_slices_IndexFunc_calls_call_calls_call : IFn := ⟨[.tmp 4],
  .seq (.reg false [⟨(some 4), .op (.mov (.c (.i .i64 0))), none⟩])
  (.seq (.seq (.reg false [⟨(some 6), .op (.mov (.t 0)), none⟩,
    ⟨(some 7), .op (.len false (.t 6)), none⟩,
    ⟨(some 8), .op (.mov (.c (.i .i64 0))), none⟩])
  (.blk 0 (.loop (.seq (.reg false [⟨(some 9), .op (.bin .lss (.t 8) (.t 7)), none⟩])
  (.seq (.cond (.t 9) (.skip) (.exit 0))
  (.seq (.blk 1 (.seq (.reg false [⟨(some 10), .op (.mov (.t 8)), none⟩,
    ⟨(some 5), .op (.mov (.t 10)), none⟩])
  (.seq (.reg false [⟨(some 11), .op (.mov (.t 1)), none⟩,
    ⟨(some 12), .op (.mov (.t 0)), none⟩,
    ⟨(some 13), .op (.mov (.t 5)), none⟩,
    ⟨(some 14), .op (.iAddrS 7 (.t 12) (.t 13)), none⟩,
    ⟨(some 15), .op (.loadN 7 (.t 14)), none⟩,
    ⟨(some 16), .callV (.t 11) [(.t 15)], none⟩])
  (.cond (.t 16) (.seq (.reg false [⟨(some 17), .op (.mov (.t 5)), none⟩,
    ⟨(some 4), .op (.mov (.t 17)), none⟩])
  (.ret)) (.skip)))))
  (.reg false [⟨(some 18), .op (.bin .add (.t 8) (.c (.i .i64 1))), none⟩,
    ⟨(some 8), .op (.mov (.t 18)), none⟩])))))))
  (.seq (.reg false [⟨(some 4), .op (.mov (.c (.i .i64 (-1)))), none⟩])
  (.ret)))⟩
theorem indexFunc_call (hc : chkFn P f ir_slices_IndexFunc_calls_call_calls_call = true) : cIdxPN 7 P f := by
  intro α enc p g a c l hlen ha hc' hl hp
  refine Pure.mk hc (by simp [clos, clo, ha, hc']) ?_
  simp only [ir_slices_IndexFunc_calls_call_calls_call, argsT, H0, mkT, mkH, trL, List.length_cons, List.length_nil, Nat.reduceAdd, Nat.zero_add]
  simp only [↓vA, ↓vE, ↓vO, ↓vB, ↓vF, ↓vM, ↓vR, ↓vX, cvF_pc, vP, shb, shv, shvs, she_nil, she_cons, vC, vQ, Nat.reduceEqDiff, ↓reduceIte, eq_self, Nat.reduceAdd, Nat.reduceMul, Nat.reduceSub, Nat.reduceLeDiff, Nat.reduceLT, defd, cellsOf, wr, packR, Int.reduceLE, Int.reduceLT, Int.reduceEq, Int.cast_ofNat_Int, Int.reduceToNat]
  refine SL.loop (α := Nat) (fun j => [(0, .fz l.length (l.flatMap enc)), (1, .fn g a c), (7, .i .i64 l.length), (8, .i .i64 j)]) (fun _ => []) (fun j => j ≤ l.length ∧ idxP p l 0 = idxP p (l.drop j) j) (fun j => l.length - j) 0 [] ?_ ?_ ?_ rfl ?_ ?_
  · simp [vW, bw_map, mapAt_map, mapClo_it, mapClo_nil, mapClo_cons, vP, vZ, Tr.get_set, nvs_self, ha, hc']
  · trivial
  · simp
  · simp
  rintro j ⟨hj, hI⟩ G ih
  simp only [argsT, H0, mkT, mkH, trL, List.length_cons, List.length_nil, Nat.reduceAdd, Nat.zero_add]
  by_cases hlt : j < l.length
  · have hx : l[j]? = some l[j] := List.getElem?_eq_getElem hlt
    have hw : IntKind.wrap .i64 ((j : Int) + 1) = (j : Int) + 1 := wrap64 (by omega) (by have := hl; simp only [roomB] at this; omega)
    have he := flat_elem hlen hx
    have hb : j * 7 + 7 ≤ (l.flatMap enc).length := by rw [flat_length hlen]; omega
    rw [List.drop_eq_getElem_cons hlt, idxP] at hI
    simp only [↓vA, ↓vE, ↓vO, ↓vB, ↓vF, ↓vM, ↓vR, ↓vX, cvF_pc, vP, shb, shv, shvs, she_nil, she_cons, vC, vQ, Nat.reduceEqDiff, ↓reduceIte, eq_self, Nat.reduceAdd, Nat.reduceMul, Nat.reduceSub, Nat.reduceLeDiff, Nat.reduceLT, defd, cellsOf, wr, packR, Int.reduceLE, Int.reduceLT, Int.reduceEq, Int.cast_ofNat_Int, Int.reduceToNat, hlt, hb, he, hw]
    refine (hp l[j] (List.getElem_mem hlt)).sc ?_
    by_cases hpx : p l[j] = true
    · rw [if_pos hpx] at hI
      simp only [↓vA, ↓vE, ↓vO, ↓vB, ↓vF, ↓vM, ↓vR, ↓vX, cvF_pc, vP, shb, shv, shvs, she_nil, she_cons, vC, vQ, Nat.reduceEqDiff, ↓reduceIte, eq_self, Nat.reduceAdd, Nat.reduceMul, Nat.reduceSub, Nat.reduceLeDiff, Nat.reduceLT, defd, cellsOf, wr, packR, Int.reduceLE, Int.reduceLT, Int.reduceEq, Int.cast_ofNat_Int, Int.reduceToNat, hpx, vZ, hI]
    · rw [if_neg hpx] at hI
      simp only [↓vA, ↓vE, ↓vO, ↓vB, ↓vF, ↓vM, ↓vR, ↓vX, cvF_pc, vP, shb, shv, shvs, she_nil, she_cons, vC, vQ, Nat.reduceEqDiff, ↓reduceIte, eq_self, Nat.reduceAdd, Nat.reduceMul, Nat.reduceSub, Nat.reduceLeDiff, Nat.reduceLT, defd, cellsOf, wr, packR, Int.reduceLE, Int.reduceLT, Int.reduceEq, Int.cast_ofNat_Int, Int.reduceToNat, hpx, hw]
      refine ih (j + 1) ⟨by omega, hI⟩ (by omega) _ _ (Wk.mk _ _ [] ?_ ?_ ?_ rfl)
      · simp [vW, bw_map, mapAt_map, mapClo_it, mapClo_nil, mapClo_cons, vP, vZ, Tr.get_set, nvs_self, ha, hc']
      · trivial
      · simp
  · simp only [↓vA, ↓vE, ↓vO, ↓vB, ↓vF, ↓vM, ↓vR, ↓vX, cvF_pc, vP, shb, shv, shvs, she_nil, she_cons, vC, vQ, Nat.reduceEqDiff, ↓reduceIte, eq_self, Nat.reduceAdd, Nat.reduceMul, Nat.reduceSub, Nat.reduceLeDiff, Nat.reduceLT, defd, cellsOf, wr, packR, Int.reduceLE, Int.reduceLT, Int.reduceEq, Int.cast_ofNat_Int, Int.reduceToNat, hlt]
    rw [List.drop_eq_nil_of_le (by omega)] at hI
    simp [hI, idxP, vZ]
def ir_slices_IndexFunc_api_Call_api_Call : IFn := ⟨[.tmp 4],
  .seq (.reg false [⟨(some 4), .op (.mov (.c (.i .i64 0))), none⟩])
  (.seq (.seq (.reg false [⟨(some 6), .op (.mov (.t 0)), none⟩,
    ⟨(some 7), .op (.len false (.t 6)), none⟩,
    ⟨(some 8), .op (.mov (.c (.i .i64 0))), none⟩])
  (.blk 0 (.loop (.seq (.reg false [⟨(some 9), .op (.bin .lss (.t 8) (.t 7)), none⟩])
  (.seq (.cond (.t 9) (.skip) (.exit 0))
  (.seq (.blk 1 (.seq (.reg false [⟨(some 10), .op (.mov (.t 8)), none⟩,
    ⟨(some 5), .op (.mov (.t 10)), none⟩])
  (.seq (.reg false [⟨(some 11), .op (.mov (.t 1)), none⟩,
    ⟨(some 12), .op (.mov (.t 0)), none⟩,
    ⟨(some 13), .op (.mov (.t 5)), none⟩,
    ⟨(some 14), .op (.iAddrS 2 (.t 12) (.t 13)), none⟩,
    ⟨(some 15), .op (.loadN 2 (.t 14)), none⟩,
    ⟨(some 16), .callV (.t 11) [(.t 15)], none⟩])
  (.cond (.t 16) (.seq (.reg false [⟨(some 17), .op (.mov (.t 5)), none⟩,
    ⟨(some 4), .op (.mov (.t 17)), none⟩])
  (.ret)) (.skip)))))
  (.reg false [⟨(some 18), .op (.bin .add (.t 8) (.c (.i .i64 1))), none⟩,
    ⟨(some 8), .op (.mov (.t 18)), none⟩])))))))
  (.seq (.reg false [⟨(some 4), .op (.mov (.c (.i .i64 (-1)))), none⟩])
  (.ret)))⟩
theorem indexFunc_apiCall (hc : chkFn P f ir_slices_IndexFunc_api_Call_api_Call = true) : cIdxPN 2 P f := by
  intro α enc p g a c l hlen ha hc' hl hp
  refine Pure.mk hc (by simp [clos, clo, ha, hc']) ?_
  simp only [ir_slices_IndexFunc_api_Call_api_Call, argsT, H0, mkT, mkH, trL, List.length_cons, List.length_nil, Nat.reduceAdd, Nat.zero_add]
  simp only [↓vA, ↓vE, ↓vO, ↓vB, ↓vF, ↓vM, ↓vR, ↓vX, cvF_pc, vP, shb, shv, shvs, she_nil, she_cons, vC, vQ, Nat.reduceEqDiff, ↓reduceIte, eq_self, Nat.reduceAdd, Nat.reduceMul, Nat.reduceSub, Nat.reduceLeDiff, Nat.reduceLT, defd, cellsOf, wr, packR, Int.reduceLE, Int.reduceLT, Int.reduceEq, Int.cast_ofNat_Int, Int.reduceToNat]
  refine SL.loop (α := Nat) (fun j => [(0, .fz l.length (l.flatMap enc)), (1, .fn g a c), (7, .i .i64 l.length), (8, .i .i64 j)]) (fun _ => []) (fun j => j ≤ l.length ∧ idxP p l 0 = idxP p (l.drop j) j) (fun j => l.length - j) 0 [] ?_ ?_ ?_ rfl ?_ ?_
  · simp [vW, bw_map, mapAt_map, mapClo_it, mapClo_nil, mapClo_cons, vP, vZ, Tr.get_set, nvs_self, ha, hc']
  · trivial
  · simp
  · simp
  rintro j ⟨hj, hI⟩ G ih
  simp only [argsT, H0, mkT, mkH, trL, List.length_cons, List.length_nil, Nat.reduceAdd, Nat.zero_add]
  by_cases hlt : j < l.length
  · have hx : l[j]? = some l[j] := List.getElem?_eq_getElem hlt
    have hw : IntKind.wrap .i64 ((j : Int) + 1) = (j : Int) + 1 := wrap64 (by omega) (by have := hl; simp only [roomB] at this; omega)
    have he := flat_elem hlen hx
    have hb : j * 2 + 2 ≤ (l.flatMap enc).length := by rw [flat_length hlen]; omega
    rw [List.drop_eq_getElem_cons hlt, idxP] at hI
    simp only [↓vA, ↓vE, ↓vO, ↓vB, ↓vF, ↓vM, ↓vR, ↓vX, cvF_pc, vP, shb, shv, shvs, she_nil, she_cons, vC, vQ, Nat.reduceEqDiff, ↓reduceIte, eq_self, Nat.reduceAdd, Nat.reduceMul, Nat.reduceSub, Nat.reduceLeDiff, Nat.reduceLT, defd, cellsOf, wr, packR, Int.reduceLE, Int.reduceLT, Int.reduceEq, Int.cast_ofNat_Int, Int.reduceToNat, hlt, hb, he, hw]
    refine (hp l[j] (List.getElem_mem hlt)).sc ?_
    by_cases hpx : p l[j] = true
    · rw [if_pos hpx] at hI
      simp only [↓vA, ↓vE, ↓vO, ↓vB, ↓vF, ↓vM, ↓vR, ↓vX, cvF_pc, vP, shb, shv, shvs, she_nil, she_cons, vC, vQ, Nat.reduceEqDiff, ↓reduceIte, eq_self, Nat.reduceAdd, Nat.reduceMul, Nat.reduceSub, Nat.reduceLeDiff, Nat.reduceLT, defd, cellsOf, wr, packR, Int.reduceLE, Int.reduceLT, Int.reduceEq, Int.cast_ofNat_Int, Int.reduceToNat, hpx, vZ, hI]
    · rw [if_neg hpx] at hI
      simp only [↓vA, ↓vE, ↓vO, ↓vB, ↓vF, ↓vM, ↓vR, ↓vX, cvF_pc, vP, shb, shv, shvs, she_nil, she_cons, vC, vQ, Nat.reduceEqDiff, ↓reduceIte, eq_self, Nat.reduceAdd, Nat.reduceMul, Nat.reduceSub, Nat.reduceLeDiff, Nat.reduceLT, defd, cellsOf, wr, packR, Int.reduceLE, Int.reduceLT, Int.reduceEq, Int.cast_ofNat_Int, Int.reduceToNat, hpx, hw]
      refine ih (j + 1) ⟨by omega, hI⟩ (by omega) _ _ (Wk.mk _ _ [] ?_ ?_ ?_ rfl)
      · simp [vW, bw_map, mapAt_map, mapClo_it, mapClo_nil, mapClo_cons, vP, vZ, Tr.get_set, nvs_self, ha, hc']
      · trivial
      · simp
  · simp only [↓vA, ↓vE, ↓vO, ↓vB, ↓vF, ↓vM, ↓vR, ↓vX, cvF_pc, vP, shb, shv, shvs, she_nil, she_cons, vC, vQ, Nat.reduceEqDiff, ↓reduceIte, eq_self, Nat.reduceAdd, Nat.reduceMul, Nat.reduceSub, Nat.reduceLeDiff, Nat.reduceLT, defd, cellsOf, wr, packR, Int.reduceLE, Int.reduceLT, Int.reduceEq, Int.cast_ofNat_Int, Int.reduceToNat, hlt]
    rw [List.drop_eq_nil_of_le (by omega)] at hI
    simp [hI, idxP, vZ]
end Go.Kc
end
section
/- What slices.DeleteFunc makes of a row of one's own. Condition: the functions' texts are these. -/
namespace Go.Kc
variable {P : Program} {f : Nat}
theorem idxP_none {α : Type} {p : α → Bool} {l : List α} (h : idxP p l 0 = -1) : l.filter (fun x => !p x) = l := by
  rcases idxP_find p l 0 with ⟨_, h2⟩ | ⟨i, x, h1, _⟩
  · rw [List.filter_eq_self]
    intro x hx
    have := List.find?_eq_none.1 h2 x hx
    simpa using this
  · rw [h1] at h; omega
def ir_slices_DeleteFunc_int_int (f_slices_IndexFunc_int_int : Nat) : IFn := ⟨[.tmp 4],
  .seq (.reg false [⟨(some 4), .op (.mov (.c (.nils))), none⟩])
  (.seq (.reg false [⟨(some 8), .op (.mov (.t 0)), none⟩,
    ⟨(some 9), .op (.mov (.t 1)), none⟩,
    ⟨(some 10), .callF f_slices_IndexFunc_int_int [(.t 8), (.t 9)], none⟩,
    ⟨(some 5), .op (.mov (.t 10)), none⟩])
  (.seq (.seq (.reg false [⟨(some 11), .op (.mov (.t 5)), none⟩,
    ⟨(some 12), .op (.bin .eql (.t 11) (.c (.i .i64 (-1)))), none⟩])
  (.cond (.t 12) (.seq (.reg false [⟨(some 13), .op (.mov (.t 0)), none⟩,
    ⟨(some 4), .op (.mov (.t 13)), none⟩])
  (.ret)) (.skip)))
  (.seq (.seq (.reg false [⟨(some 14), .op (.mov (.t 5)), none⟩,
    ⟨(some 15), .op (.bin .add (.t 14) (.c (.i .i64 1))), none⟩,
    ⟨(some 6), .op (.mov (.t 15)), none⟩])
  (.blk 0 (.loop (.seq (.seq (.reg false [⟨(some 16), .op (.mov (.t 6)), none⟩,
    ⟨(some 17), .op (.mov (.t 0)), none⟩,
    ⟨(some 18), .op (.len false (.t 17)), none⟩,
    ⟨(some 19), .op (.bin .lss (.t 16) (.t 18)), none⟩])
  (.cond (.t 19) (.skip) (.exit 0)))
  (.seq (.blk 1 (.seq (.reg false [⟨(some 22), .op (.mov (.t 0)), none⟩,
    ⟨(some 23), .op (.mov (.t 6)), none⟩,
    ⟨(some 24), .op (.iAddrS 1 (.t 22) (.t 23)), none⟩,
    ⟨(some 25), .op (.load1 (.t 24)), none⟩,
    ⟨(some 7), .op (.mov (.t 25)), none⟩])
  (.seq (.reg false [⟨(some 26), .op (.mov (.t 1)), none⟩,
    ⟨(some 27), .op (.mov (.t 7)), none⟩,
    ⟨(some 28), .callV (.t 26) [(.t 27)], none⟩,
    ⟨(some 29), .op (.un .not (.t 28)), none⟩])
  (.cond (.t 29) (.seq (.reg false [⟨(some 30), .op (.mov (.t 0)), none⟩,
    ⟨(some 31), .op (.mov (.t 5)), none⟩,
    ⟨(some 32), .op (.mov (.t 7)), none⟩,
    ⟨(some 33), .op (.iAddrS 1 (.t 30) (.t 31)), none⟩,
    ⟨none, .op (.store 1 (.t 33) (.t 32)), none⟩])
  (.reg false [⟨(some 34), .op (.mov (.t 5)), none⟩,
    ⟨(some 35), .op (.bin .add (.t 34) (.c (.i .i64 1))), none⟩,
    ⟨(some 5), .op (.mov (.t 35)), none⟩])) (.skip)))))
  (.reg false [⟨(some 20), .op (.mov (.t 6)), none⟩,
    ⟨(some 21), .op (.bin .add (.t 20) (.c (.i .i64 1))), none⟩,
    ⟨(some 6), .op (.mov (.t 21)), none⟩]))))))
  (.seq (.reg false [⟨(some 36), .op (.mov (.t 0)), none⟩,
    ⟨(some 37), .op (.mov (.t 5)), none⟩,
    ⟨(some 38), .op (.slcS 1 (.t 36) (some (.t 37)) none none), none⟩,
    ⟨none, .op (.clear [.i .i64 0] (.t 38)), none⟩])
  (.seq (.reg false [⟨(some 39), .op (.mov (.t 0)), none⟩,
    ⟨(some 40), .op (.mov (.t 5)), none⟩,
    ⟨(some 41), .op (.slcS 1 (.t 39) none (some (.t 40)) none), none⟩,
    ⟨(some 4), .op (.mov (.t 41)), none⟩])
  (.ret))))))⟩
def cDelete_int (P : Program) (f : Nat) : Prop := ∀ (p : Int → Bool) (g : Nat) (a c : List AV) (l : List Int), clos a = true → clos c = true → l.length ≤ roomB → (∀ x ∈ l, Pure P g (a ++ ([.i .i64 x] ++ c)) (.b (p x))) →
  Upd P f [.own 0 l.length, .fn g a c] [.cells 1 true true (rI .i64 l)] (.own 0 (l.filter fun x => !p x).length) [.cells 1 true true (rI .i64 (l.filter fun x => !p x))]
theorem deleteFunc_int {g1 : Nat} (hc : chkFn P f (ir_slices_DeleteFunc_int_int g1) = true) (h1 : cIdxP1 P g1) : cDelete_int P f := by
  intro p g a c l ha hcc hl hp
  have hl2 := hl; simp only [roomB] at hl2
  refine Upd.mkS hc (by simp [bnds, bnd, bnds_clo ha, bnds_clo hcc]) (Nat.le_refl _) (V_sound ?_)
  simp only [ir_slices_DeleteFunc_int_int, argsT, H0, mkT, mkH, trL, List.length_cons, List.length_nil, Nat.reduceAdd, Nat.zero_add]
  simp only [↓vA, ↓vE, ↓vO, ↓vB, ↓vF, ↓vM, ↓vR, ↓vX, cvF_pc, vP, shb, shv, shvs, she_nil, she_cons, vC, vQ, Nat.reduceEqDiff, ↓reduceIte, eq_self, Nat.reduceAdd, Nat.reduceMul, Nat.reduceSub, Nat.reduceLeDiff, Nat.reduceLT, defd, cellsOf, wr, packR, Int.reduceLE, Int.reduceLT, Int.reduceEq, Int.cast_ofNat_Int, Int.reduceToNat]
  refine (h1 (.i .i64) p g a c l ha hcc hl hp).lend (vs' := [.fz l.length (rI .i64 l), .fn g a c]) ?_ rfl ?_
  · simp [vZ, vP, Tr.get_set, frzs_self ha, frzs_self hcc, frzs_self rI_clos]
    intro h0; rw [h0]; rfl
  rcases idxP_find p l 0 with ⟨hi, _⟩ | ⟨i, x, hi, hx, hpx, _, hb⟩
  · simp only [↓vA, ↓vE, ↓vO, ↓vB, ↓vF, ↓vM, ↓vR, ↓vX, cvF_pc, vP, shb, shv, shvs, she_nil, she_cons, vC, vQ, Nat.reduceEqDiff, ↓reduceIte, eq_self, Nat.reduceAdd, Nat.reduceMul, Nat.reduceSub, Nat.reduceLeDiff, Nat.reduceLT, defd, cellsOf, wr, packR, Int.reduceLE, Int.reduceLT, Int.reduceEq, Int.cast_ofNat_Int, Int.reduceToNat, hi, Int.reduceNeg]
    refine UpdZ.w (fun _ => ⟨[0], ?_⟩) (Nat.le_refl _)
    rw [idxP_none hi]
    simp [vW, bw_map, mapAt_map, mapClo_it, mapClo_nil, mapClo_cons, vP, vZ, Tr.get_set, nvs_self, rI_clos]
  · have hne : ¬ ((i : Nat) : Int) = -1 := by omega
    have hil : i < l.length := (List.getElem?_eq_some_iff.1 hx).1
    have hw : IntKind.wrap .i64 ((i : Int) + 1) = (i : Int) + 1 := wrap64 (by omega) (by omega)
    rw [Nat.zero_add] at hi
    simp only [↓vA, ↓vE, ↓vO, ↓vB, ↓vF, ↓vM, ↓vR, ↓vX, cvF_pc, vP, shb, shv, shvs, she_nil, she_cons, vC, vQ, Nat.reduceEqDiff, ↓reduceIte, eq_self, Nat.reduceAdd, Nat.reduceMul, Nat.reduceSub, Nat.reduceLeDiff, Nat.reduceLT, defd, cellsOf, wr, packR, Int.reduceLE, Int.reduceLT, Int.reduceEq, Int.cast_ofNat_Int, Int.reduceToNat, hi, hne, hw]
    have htk : (l.take i).filter (fun x => !p x) = l.take i := by
      rw [List.filter_eq_self]
      intro y hy
      obtain ⟨k, hk, rfl⟩ := List.getElem_of_mem hy
      simp at hk
      rw [List.getElem_take]
      simp [hb k _ (by omega) (List.getElem?_eq_getElem (by omega))]
    have htk1 : (l.take (i + 1)).filter (fun x => !p x) = l.take i := by
      rw [List.take_add_one, hx, List.filter_append, htk]; simp [hpx]
    refine SL.loopn (α := Nat × List Int) (fun s => [(0, .own 0 l.length), (1, .fn g a c), (5, .i .i64 (((l.take s.1).filter fun x => !p x).length : Int)), (6, .i .i64 (s.1 : Int))])
      (fun s => [.cells 1 true true (rI .i64 (((l.take s.1).filter fun x => !p x) ++ (s.2 ++ l.drop s.1)))]) (fun s => s.1 ≤ l.length ∧ ((l.take s.1).filter fun x => !p x).length + s.2.length = s.1) (fun s => l.length - s.1) (i + 1, [x]) [0] ?_ ?_ ?_ rfl (Nat.le_refl _) ?_ ?_ ?_
    · simp [vW, bw_map, mapAt_map, mapClo_it, mapClo_nil, mapClo_cons, vP, vZ, Tr.get_set, nvs_self, ha, hcc, htk1]; omega
    · have : (l.take i ++ ([x] ++ l.drop (i + 1))) = l := by
        have h2 := List.take_append_drop i l
        rw [List.drop_eq_getElem_cons hil] at h2
        obtain ⟨_, rfl⟩ := List.getElem?_eq_some_iff.1 hx
        simpa using h2
      dsimp only
      rw [htk1, this]
      simp [vW, bw_map, mapAt_map, mapClo_it, mapClo_nil, mapClo_cons, vP, vZ, Tr.get_set, nvs_self, rI_clos]
    · simp [vW, bw_map, mapAt_map, mapClo_it, mapClo_nil, mapClo_cons, vP, vZ, Tr.get_set]
    · intro b hb; obtain rfl : b = 0 := by simpa using hb
      simp [rl_0]
    · refine ⟨by omega, ?_⟩
      dsimp only
      rw [htk1]; simp; omega
    rintro ⟨j, mid⟩ ⟨hj, hm⟩ G ih
    dsimp only at hj hm ih ⊢
    simp only [argsT, H0, mkT, mkH, trL, List.length_cons, List.length_nil, Nat.reduceAdd, Nat.zero_add]
    generalize hF : (l.take j).filter (fun x => !p x) = F at hm ih ⊢
    by_cases hlt : j < l.length
    · have hxj : l[j]? = some l[j] := List.getElem?_eq_getElem hlt
      have hwj : IntKind.wrap .i64 ((j : Int) + 1) = (j : Int) + 1 := wrap64 (by omega) (by omega)
      have hwi : IntKind.wrap .i64 ((F.length : Int) + 1) = (F.length : Int) + 1 := wrap64 (by omega) (by omega)
      have hget : (rI .i64 (F ++ (mid ++ l.drop j)))[j]? = some (.i .i64 l[j]) := by
        rw [rI_get, ← List.append_assoc, List.getElem?_append_right (by simp; omega), List.getElem?_drop]
        simp [hm, hxj]
      have htj : (l.take (j + 1)).filter (fun x => !p x) = F ++ (if p l[j] = true then [] else [l[j]]) := by
        rw [List.take_add_one, hxj, List.filter_append, hF]
        cases hpj : p l[j] <;> simp [hpj]
      simp only [↓vA, ↓vE, ↓vO, ↓vB, ↓vF, ↓vM, ↓vR, ↓vX, cvF_pc, vP, shb, shv, shvs, she_nil, she_cons, vC, vQ, Nat.reduceEqDiff, ↓reduceIte, eq_self, Nat.reduceAdd, Nat.reduceMul, Nat.reduceSub, Nat.reduceLeDiff, Nat.reduceLT, defd, cellsOf, wr, packR, Int.reduceLE, Int.reduceLT, Int.reduceEq, Int.cast_ofNat_Int, Int.reduceToNat, hlt, hget, Nat.mul_one]
      refine (hp l[j] (List.getElem_mem hlt)).sc ?_
      by_cases hpj : p l[j] = true
      · simp only [↓vA, ↓vE, ↓vO, ↓vB, ↓vF, ↓vM, ↓vR, ↓vX, cvF_pc, vP, shb, shv, shvs, she_nil, she_cons, vC, vQ, Nat.reduceEqDiff, ↓reduceIte, eq_self, Nat.reduceAdd, Nat.reduceMul, Nat.reduceSub, Nat.reduceLeDiff, Nat.reduceLT, defd, cellsOf, wr, packR, Int.reduceLE, Int.reduceLT, Int.reduceEq, Int.cast_ofNat_Int, Int.reduceToNat, hpj, hwj]
        rw [hpj] at htj
        refine ih (j + 1, mid ++ [l[j]]) ⟨by omega, by rw [htj]; simp; omega⟩ (by dsimp only; omega) _ _ (Wk.mkn _ _ [0] ?_ ?_ ?_ rfl (Nat.le_refl _) ?_)
        · simp [vW, bw_map, mapAt_map, mapClo_it, mapClo_nil, mapClo_cons, vP, vZ, Tr.get_set, nvs_self, ha, hcc, htj]
        · have e : (F ++ (mid ++ l.drop j)) = (((l.take (j + 1)).filter fun x => !p x) ++ ((mid ++ [l[j]]) ++ l.drop (j + 1))) := by
            rw [htj, List.drop_eq_getElem_cons hlt]; simp
          dsimp only
          rw [← e]
          simp [vW, bw_map, mapAt_map, mapClo_it, mapClo_nil, mapClo_cons, vP, vZ, Tr.get_set, nvs_self, rI_clos]
        · simp [vW, bw_map, mapAt_map, mapClo_it, mapClo_nil, mapClo_cons, vP, vZ, Tr.get_set]
        · intro b hb; obtain rfl : b = 0 := by simpa using hb
          simp [rl_0]
      · have hFl : F.length < l.length := by omega
        have hlen : F.length + 1 ≤ (rI .i64 (F ++ (mid ++ l.drop j))).length := by rw [rI_len]; simp; omega
        have hFn : (F.length : Int) < l.length := by omega
        simp only [↓vA, ↓vE, ↓vO, ↓vB, ↓vF, ↓vM, ↓vR, ↓vX, cvF_pc, vP, shb, shv, shvs, she_nil, she_cons, vC, vQ, Nat.reduceEqDiff, ↓reduceIte, eq_self, Nat.reduceAdd, Nat.reduceMul, Nat.reduceSub, Nat.reduceLeDiff, Nat.reduceLT, defd, cellsOf, wr, packR, Int.reduceLE, Int.reduceLT, Int.reduceEq, Int.cast_ofNat_Int, Int.reduceToNat, hpj, hwj, hwi, hFl, hlen, Nat.mul_one]
        rw [if_neg hpj] at htj
        have hset : rI .i64 ((F ++ (mid ++ l.drop j)).take F.length) ++ (AV.i .i64 l[j] :: rI .i64 ((F ++ (mid ++ l.drop j)).drop (F.length + 1))) = rI .i64 (((l.take (j + 1)).filter fun x => !p x) ++ ((mid ++ [l[j]]).tail ++ l.drop (j + 1))) := by
          rw [htj, ← rI_cons, rI_app, List.take_left' rfl, ← List.drop_drop, List.drop_left' rfl, List.drop_eq_getElem_cons hlt]
          cases mid <;> simp
        simp only [rI_take, rI_drop, hset]
        refine ih (j + 1, (mid ++ [l[j]]).tail) ⟨by omega, by rw [htj]; simp; omega⟩ (by dsimp only; omega) _ _ (Wk.mkn _ _ [0] ?_ ?_ ?_ rfl (Nat.le_refl _) ?_)
        · simp [vW, bw_map, mapAt_map, mapClo_it, mapClo_nil, mapClo_cons, vP, vZ, Tr.get_set, nvs_self, ha, hcc, htj]
        · simp [vW, bw_map, mapAt_map, mapClo_it, mapClo_nil, mapClo_cons, vP, vZ, Tr.get_set, nvs_self, rI_clos]
        · simp [vW, bw_map, mapAt_map, mapClo_it, mapClo_nil, mapClo_cons, vP, vZ, Tr.get_set]
        · intro b hb; obtain rfl : b = 0 := by simpa using hb
          simp [rl_0]
    · obtain rfl : j = l.length := by omega
      have hl0 : ¬ l.length = 0 := by omega
      have hFl : F.length ≤ l.length := by omega
      have hrl : (rI .i64 (F ++ (mid ++ l.drop l.length))).length = l.length := by rw [rI_len]; simp; omega
      have hz : ¬ l.length - F.length = 0 := by
        intro hz
        have : F.length = l.length := by omega
        rw [← hF, List.take_length] at this
        have h2 := List.length_filter_eq_length_iff.1 this x (List.mem_of_getElem? hx)
        simp [hpx] at h2
      have hsum : F.length + (l.length - F.length) = l.length := by omega
      simp only [↓vA, ↓vE, ↓vO, ↓vB, ↓vF, ↓vM, ↓vR, ↓vX, cvF_pc, vP, shb, shv, shvs, she_nil, she_cons, vC, vQ, Nat.reduceEqDiff, ↓reduceIte, eq_self, Nat.reduceAdd, Nat.reduceMul, Nat.reduceSub, Nat.reduceLeDiff, Nat.reduceLT, defd, cellsOf, wr, packR, Int.reduceLE, Int.reduceLT, Int.reduceEq, Int.cast_ofNat_Int, Int.reduceToNat, hlt, hl0, hFl, Nat.mul_one, hz, rep_one, rI_rep, rI_ok, rI_len, List.length_replicate, hrl, hsum, rI_take, rI_drop, rI_app, Int.ofNat_le]
      rw [List.take_length] at hF
      subst hF
      refine UpdW.closed (by simp [Tr.get_set]; exact ⟨rfl, rfl⟩) rfl ?_ hFl ?_ rI_clos
      · rw [rI_len]; simp; omega
      · rw [Nat.mul_one, rI_take, List.take_left' (by simp)]
def ir_slices_DeleteFunc_uint32_uint32 (f_slices_IndexFunc_uint32_uint32 : Nat) : IFn := ⟨[.tmp 4],
  .seq (.reg false [⟨(some 4), .op (.mov (.c (.nils))), none⟩])
  (.seq (.reg false [⟨(some 8), .op (.mov (.t 0)), none⟩,
    ⟨(some 9), .op (.mov (.t 1)), none⟩,
    ⟨(some 10), .callF f_slices_IndexFunc_uint32_uint32 [(.t 8), (.t 9)], none⟩,
    ⟨(some 5), .op (.mov (.t 10)), none⟩])
  (.seq (.seq (.reg false [⟨(some 11), .op (.mov (.t 5)), none⟩,
    ⟨(some 12), .op (.bin .eql (.t 11) (.c (.i .i64 (-1)))), none⟩])
  (.cond (.t 12) (.seq (.reg false [⟨(some 13), .op (.mov (.t 0)), none⟩,
    ⟨(some 4), .op (.mov (.t 13)), none⟩])
  (.ret)) (.skip)))
  (.seq (.seq (.reg false [⟨(some 14), .op (.mov (.t 5)), none⟩,
    ⟨(some 15), .op (.bin .add (.t 14) (.c (.i .i64 1))), none⟩,
    ⟨(some 6), .op (.mov (.t 15)), none⟩])
  (.blk 0 (.loop (.seq (.seq (.reg false [⟨(some 16), .op (.mov (.t 6)), none⟩,
    ⟨(some 17), .op (.mov (.t 0)), none⟩,
    ⟨(some 18), .op (.len false (.t 17)), none⟩,
    ⟨(some 19), .op (.bin .lss (.t 16) (.t 18)), none⟩])
  (.cond (.t 19) (.skip) (.exit 0)))
  (.seq (.blk 1 (.seq (.reg false [⟨(some 22), .op (.mov (.t 0)), none⟩,
    ⟨(some 23), .op (.mov (.t 6)), none⟩,
    ⟨(some 24), .op (.iAddrS 1 (.t 22) (.t 23)), none⟩,
    ⟨(some 25), .op (.load1 (.t 24)), none⟩,
    ⟨(some 7), .op (.mov (.t 25)), none⟩])
  (.seq (.reg false [⟨(some 26), .op (.mov (.t 1)), none⟩,
    ⟨(some 27), .op (.mov (.t 7)), none⟩,
    ⟨(some 28), .callV (.t 26) [(.t 27)], none⟩,
    ⟨(some 29), .op (.un .not (.t 28)), none⟩])
  (.cond (.t 29) (.seq (.reg false [⟨(some 30), .op (.mov (.t 0)), none⟩,
    ⟨(some 31), .op (.mov (.t 5)), none⟩,
    ⟨(some 32), .op (.mov (.t 7)), none⟩,
    ⟨(some 33), .op (.iAddrS 1 (.t 30) (.t 31)), none⟩,
    ⟨none, .op (.store 1 (.t 33) (.t 32)), none⟩])
  (.reg false [⟨(some 34), .op (.mov (.t 5)), none⟩,
    ⟨(some 35), .op (.bin .add (.t 34) (.c (.i .i64 1))), none⟩,
    ⟨(some 5), .op (.mov (.t 35)), none⟩])) (.skip)))))
  (.reg false [⟨(some 20), .op (.mov (.t 6)), none⟩,
    ⟨(some 21), .op (.bin .add (.t 20) (.c (.i .i64 1))), none⟩,
    ⟨(some 6), .op (.mov (.t 21)), none⟩]))))))
  (.seq (.reg false [⟨(some 36), .op (.mov (.t 0)), none⟩,
    ⟨(some 37), .op (.mov (.t 5)), none⟩,
    ⟨(some 38), .op (.slcS 1 (.t 36) (some (.t 37)) none none), none⟩,
    ⟨none, .op (.clear [.i .u32 0] (.t 38)), none⟩])
  (.seq (.reg false [⟨(some 39), .op (.mov (.t 0)), none⟩,
    ⟨(some 40), .op (.mov (.t 5)), none⟩,
    ⟨(some 41), .op (.slcS 1 (.t 39) none (some (.t 40)) none), none⟩,
    ⟨(some 4), .op (.mov (.t 41)), none⟩])
  (.ret))))))⟩
def cDelete_u32 (P : Program) (f : Nat) : Prop := ∀ (p : Int → Bool) (g : Nat) (a c : List AV) (l : List Int), clos a = true → clos c = true → l.length ≤ roomB → (∀ x ∈ l, Pure P g (a ++ ([.i .u32 x] ++ c)) (.b (p x))) →
  Upd P f [.own 0 l.length, .fn g a c] [.cells 1 true true (rI .u32 l)] (.own 0 (l.filter fun x => !p x).length) [.cells 1 true true (rI .u32 (l.filter fun x => !p x))]
theorem deleteFunc_u32 {g1 : Nat} (hc : chkFn P f (ir_slices_DeleteFunc_uint32_uint32 g1) = true) (h1 : cIdxP1 P g1) : cDelete_u32 P f := by
  intro p g a c l ha hcc hl hp
  have hl2 := hl; simp only [roomB] at hl2
  refine Upd.mkS hc (by simp [bnds, bnd, bnds_clo ha, bnds_clo hcc]) (Nat.le_refl _) (V_sound ?_)
  simp only [ir_slices_DeleteFunc_uint32_uint32, argsT, H0, mkT, mkH, trL, List.length_cons, List.length_nil, Nat.reduceAdd, Nat.zero_add]
  simp only [↓vA, ↓vE, ↓vO, ↓vB, ↓vF, ↓vM, ↓vR, ↓vX, cvF_pc, vP, shb, shv, shvs, she_nil, she_cons, vC, vQ, Nat.reduceEqDiff, ↓reduceIte, eq_self, Nat.reduceAdd, Nat.reduceMul, Nat.reduceSub, Nat.reduceLeDiff, Nat.reduceLT, defd, cellsOf, wr, packR, Int.reduceLE, Int.reduceLT, Int.reduceEq, Int.cast_ofNat_Int, Int.reduceToNat]
  refine (h1 (.i .u32) p g a c l ha hcc hl hp).lend (vs' := [.fz l.length (rI .u32 l), .fn g a c]) ?_ rfl ?_
  · simp [vZ, vP, Tr.get_set, frzs_self ha, frzs_self hcc, frzs_self rI_clos]
    intro h0; rw [h0]; rfl
  rcases idxP_find p l 0 with ⟨hi, _⟩ | ⟨i, x, hi, hx, hpx, _, hb⟩
  · simp only [↓vA, ↓vE, ↓vO, ↓vB, ↓vF, ↓vM, ↓vR, ↓vX, cvF_pc, vP, shb, shv, shvs, she_nil, she_cons, vC, vQ, Nat.reduceEqDiff, ↓reduceIte, eq_self, Nat.reduceAdd, Nat.reduceMul, Nat.reduceSub, Nat.reduceLeDiff, Nat.reduceLT, defd, cellsOf, wr, packR, Int.reduceLE, Int.reduceLT, Int.reduceEq, Int.cast_ofNat_Int, Int.reduceToNat, hi, Int.reduceNeg]
    refine UpdZ.w (fun _ => ⟨[0], ?_⟩) (Nat.le_refl _)
    rw [idxP_none hi]
    simp [vW, bw_map, mapAt_map, mapClo_it, mapClo_nil, mapClo_cons, vP, vZ, Tr.get_set, nvs_self, rI_clos]
  · have hne : ¬ ((i : Nat) : Int) = -1 := by omega
    have hil : i < l.length := (List.getElem?_eq_some_iff.1 hx).1
    have hw : IntKind.wrap .i64 ((i : Int) + 1) = (i : Int) + 1 := wrap64 (by omega) (by omega)
    rw [Nat.zero_add] at hi
    simp only [↓vA, ↓vE, ↓vO, ↓vB, ↓vF, ↓vM, ↓vR, ↓vX, cvF_pc, vP, shb, shv, shvs, she_nil, she_cons, vC, vQ, Nat.reduceEqDiff, ↓reduceIte, eq_self, Nat.reduceAdd, Nat.reduceMul, Nat.reduceSub, Nat.reduceLeDiff, Nat.reduceLT, defd, cellsOf, wr, packR, Int.reduceLE, Int.reduceLT, Int.reduceEq, Int.cast_ofNat_Int, Int.reduceToNat, hi, hne, hw]
    have htk : (l.take i).filter (fun x => !p x) = l.take i := by
      rw [List.filter_eq_self]
      intro y hy
      obtain ⟨k, hk, rfl⟩ := List.getElem_of_mem hy
      simp at hk
      rw [List.getElem_take]
      simp [hb k _ (by omega) (List.getElem?_eq_getElem (by omega))]
    have htk1 : (l.take (i + 1)).filter (fun x => !p x) = l.take i := by
      rw [List.take_add_one, hx, List.filter_append, htk]; simp [hpx]
    refine SL.loopn (α := Nat × List Int) (fun s => [(0, .own 0 l.length), (1, .fn g a c), (5, .i .i64 (((l.take s.1).filter fun x => !p x).length : Int)), (6, .i .i64 (s.1 : Int))])
      (fun s => [.cells 1 true true (rI .u32 (((l.take s.1).filter fun x => !p x) ++ (s.2 ++ l.drop s.1)))]) (fun s => s.1 ≤ l.length ∧ ((l.take s.1).filter fun x => !p x).length + s.2.length = s.1) (fun s => l.length - s.1) (i + 1, [x]) [0] ?_ ?_ ?_ rfl (Nat.le_refl _) ?_ ?_ ?_
    · simp [vW, bw_map, mapAt_map, mapClo_it, mapClo_nil, mapClo_cons, vP, vZ, Tr.get_set, nvs_self, ha, hcc, htk1]; omega
    · have : (l.take i ++ ([x] ++ l.drop (i + 1))) = l := by
        have h2 := List.take_append_drop i l
        rw [List.drop_eq_getElem_cons hil] at h2
        obtain ⟨_, rfl⟩ := List.getElem?_eq_some_iff.1 hx
        simpa using h2
      dsimp only
      rw [htk1, this]
      simp [vW, bw_map, mapAt_map, mapClo_it, mapClo_nil, mapClo_cons, vP, vZ, Tr.get_set, nvs_self, rI_clos]
    · simp [vW, bw_map, mapAt_map, mapClo_it, mapClo_nil, mapClo_cons, vP, vZ, Tr.get_set]
    · intro b hb; obtain rfl : b = 0 := by simpa using hb
      simp [rl_0]
    · refine ⟨by omega, ?_⟩
      dsimp only
      rw [htk1]; simp; omega
    rintro ⟨j, mid⟩ ⟨hj, hm⟩ G ih
    dsimp only at hj hm ih ⊢
    simp only [argsT, H0, mkT, mkH, trL, List.length_cons, List.length_nil, Nat.reduceAdd, Nat.zero_add]
    generalize hF : (l.take j).filter (fun x => !p x) = F at hm ih ⊢
    by_cases hlt : j < l.length
    · have hxj : l[j]? = some l[j] := List.getElem?_eq_getElem hlt
      have hwj : IntKind.wrap .i64 ((j : Int) + 1) = (j : Int) + 1 := wrap64 (by omega) (by omega)
      have hwi : IntKind.wrap .i64 ((F.length : Int) + 1) = (F.length : Int) + 1 := wrap64 (by omega) (by omega)
      have hget : (rI .u32 (F ++ (mid ++ l.drop j)))[j]? = some (.i .u32 l[j]) := by
        rw [rI_get, ← List.append_assoc, List.getElem?_append_right (by simp; omega), List.getElem?_drop]
        simp [hm, hxj]
      have htj : (l.take (j + 1)).filter (fun x => !p x) = F ++ (if p l[j] = true then [] else [l[j]]) := by
        rw [List.take_add_one, hxj, List.filter_append, hF]
        cases hpj : p l[j] <;> simp [hpj]
      simp only [↓vA, ↓vE, ↓vO, ↓vB, ↓vF, ↓vM, ↓vR, ↓vX, cvF_pc, vP, shb, shv, shvs, she_nil, she_cons, vC, vQ, Nat.reduceEqDiff, ↓reduceIte, eq_self, Nat.reduceAdd, Nat.reduceMul, Nat.reduceSub, Nat.reduceLeDiff, Nat.reduceLT, defd, cellsOf, wr, packR, Int.reduceLE, Int.reduceLT, Int.reduceEq, Int.cast_ofNat_Int, Int.reduceToNat, hlt, hget, Nat.mul_one]
      refine (hp l[j] (List.getElem_mem hlt)).sc ?_
      by_cases hpj : p l[j] = true
      · simp only [↓vA, ↓vE, ↓vO, ↓vB, ↓vF, ↓vM, ↓vR, ↓vX, cvF_pc, vP, shb, shv, shvs, she_nil, she_cons, vC, vQ, Nat.reduceEqDiff, ↓reduceIte, eq_self, Nat.reduceAdd, Nat.reduceMul, Nat.reduceSub, Nat.reduceLeDiff, Nat.reduceLT, defd, cellsOf, wr, packR, Int.reduceLE, Int.reduceLT, Int.reduceEq, Int.cast_ofNat_Int, Int.reduceToNat, hpj, hwj]
        rw [hpj] at htj
        refine ih (j + 1, mid ++ [l[j]]) ⟨by omega, by rw [htj]; simp; omega⟩ (by dsimp only; omega) _ _ (Wk.mkn _ _ [0] ?_ ?_ ?_ rfl (Nat.le_refl _) ?_)
        · simp [vW, bw_map, mapAt_map, mapClo_it, mapClo_nil, mapClo_cons, vP, vZ, Tr.get_set, nvs_self, ha, hcc, htj]
        · have e : (F ++ (mid ++ l.drop j)) = (((l.take (j + 1)).filter fun x => !p x) ++ ((mid ++ [l[j]]) ++ l.drop (j + 1))) := by
            rw [htj, List.drop_eq_getElem_cons hlt]; simp
          dsimp only
          rw [← e]
          simp [vW, bw_map, mapAt_map, mapClo_it, mapClo_nil, mapClo_cons, vP, vZ, Tr.get_set, nvs_self, rI_clos]
        · simp [vW, bw_map, mapAt_map, mapClo_it, mapClo_nil, mapClo_cons, vP, vZ, Tr.get_set]
        · intro b hb; obtain rfl : b = 0 := by simpa using hb
          simp [rl_0]
      · have hFl : F.length < l.length := by omega
        have hlen : F.length + 1 ≤ (rI .u32 (F ++ (mid ++ l.drop j))).length := by rw [rI_len]; simp; omega
        have hFn : (F.length : Int) < l.length := by omega
        simp only [↓vA, ↓vE, ↓vO, ↓vB, ↓vF, ↓vM, ↓vR, ↓vX, cvF_pc, vP, shb, shv, shvs, she_nil, she_cons, vC, vQ, Nat.reduceEqDiff, ↓reduceIte, eq_self, Nat.reduceAdd, Nat.reduceMul, Nat.reduceSub, Nat.reduceLeDiff, Nat.reduceLT, defd, cellsOf, wr, packR, Int.reduceLE, Int.reduceLT, Int.reduceEq, Int.cast_ofNat_Int, Int.reduceToNat, hpj, hwj, hwi, hFl, hlen, Nat.mul_one]
        rw [if_neg hpj] at htj
        have hset : rI .u32 ((F ++ (mid ++ l.drop j)).take F.length) ++ (AV.i .u32 l[j] :: rI .u32 ((F ++ (mid ++ l.drop j)).drop (F.length + 1))) = rI .u32 (((l.take (j + 1)).filter fun x => !p x) ++ ((mid ++ [l[j]]).tail ++ l.drop (j + 1))) := by
          rw [htj, ← rI_cons, rI_app, List.take_left' rfl, ← List.drop_drop, List.drop_left' rfl, List.drop_eq_getElem_cons hlt]
          cases mid <;> simp
        simp only [rI_take, rI_drop, hset]
        refine ih (j + 1, (mid ++ [l[j]]).tail) ⟨by omega, by rw [htj]; simp; omega⟩ (by dsimp only; omega) _ _ (Wk.mkn _ _ [0] ?_ ?_ ?_ rfl (Nat.le_refl _) ?_)
        · simp [vW, bw_map, mapAt_map, mapClo_it, mapClo_nil, mapClo_cons, vP, vZ, Tr.get_set, nvs_self, ha, hcc, htj]
        · simp [vW, bw_map, mapAt_map, mapClo_it, mapClo_nil, mapClo_cons, vP, vZ, Tr.get_set, nvs_self, rI_clos]
        · simp [vW, bw_map, mapAt_map, mapClo_it, mapClo_nil, mapClo_cons, vP, vZ, Tr.get_set]
        · intro b hb; obtain rfl : b = 0 := by simpa using hb
          simp [rl_0]
    · obtain rfl : j = l.length := by omega
      have hl0 : ¬ l.length = 0 := by omega
      have hFl : F.length ≤ l.length := by omega
      have hrl : (rI .u32 (F ++ (mid ++ l.drop l.length))).length = l.length := by rw [rI_len]; simp; omega
      have hz : ¬ l.length - F.length = 0 := by
        intro hz
        have : F.length = l.length := by omega
        rw [← hF, List.take_length] at this
        have h2 := List.length_filter_eq_length_iff.1 this x (List.mem_of_getElem? hx)
        simp [hpx] at h2
      have hsum : F.length + (l.length - F.length) = l.length := by omega
      simp only [↓vA, ↓vE, ↓vO, ↓vB, ↓vF, ↓vM, ↓vR, ↓vX, cvF_pc, vP, shb, shv, shvs, she_nil, she_cons, vC, vQ, Nat.reduceEqDiff, ↓reduceIte, eq_self, Nat.reduceAdd, Nat.reduceMul, Nat.reduceSub, Nat.reduceLeDiff, Nat.reduceLT, defd, cellsOf, wr, packR, Int.reduceLE, Int.reduceLT, Int.reduceEq, Int.cast_ofNat_Int, Int.reduceToNat, hlt, hl0, hFl, Nat.mul_one, hz, rep_one, rI_rep, rI_ok, rI_len, List.length_replicate, hrl, hsum, rI_take, rI_drop, rI_app, Int.ofNat_le]
      rw [List.take_length] at hF
      subst hF
      refine UpdW.closed (by simp [Tr.get_set]; exact ⟨rfl, rfl⟩) rfl ?_ hFl ?_ rI_clos
      · rw [rI_len]; simp; omega
      · rw [Nat.mul_one, rI_take, List.take_left' (by simp)]
end Go.Kc
end
