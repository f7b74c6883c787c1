/- Part 9 of the abstract machine and of the functions' walks. Conditions: with each theorem. -/
import Derived.Test.YtdmjpfekglajoaaK8
set_option linter.unusedSimpArgs false
set_option linter.unusedVariables false
set_option linter.unnecessarySimpa false
section
/- The law RestrictSpaces: the program's way. Condition: the functions' texts are these. -/
namespace Go.Kc
variable {P : Program} {f : Nat}
/-! ### the plain law -/
theorem wrapu_nat (x : BitVec 64) : IntKind.wrap .u64 (x.toNat : Int) = (x.toNat : Int) := wrapu64 (by omega) (by have := x.isLt; omega)
theorem ofInt_nat (x : BitVec 64) : BitVec.ofInt 64 (x.toNat : Int) = x := by simp
theorem orI_bv (x y : BitVec 64) : orI .u64 (x.toNat : Int) (y.toNat : Int) = ((x ||| y).toNat : Int) := by
  show IntKind.wrap .u64 ((BitVec.ofInt 64 (x.toNat : Int) ||| BitVec.ofInt 64 (y.toNat : Int)).toNat : Int) = _
  rw [ofInt_nat, ofInt_nat, wrapu_nat]
theorem andI_bv (x y : BitVec 64) : andI .u64 (x.toNat : Int) (y.toNat : Int) = ((x &&& y).toNat : Int) := by
  show IntKind.wrap .u64 ((BitVec.ofInt 64 (x.toNat : Int) &&& BitVec.ofInt 64 (y.toNat : Int)).toNat : Int) = _
  rw [ofInt_nat, ofInt_nat, wrapu_nat]
theorem clrI_bv (x y : BitVec 64) : clrI .u64 (x.toNat : Int) (y.toNat : Int) = ((x &&& ~~~ y).toNat : Int) := by
  show IntKind.wrap .u64 ((BitVec.ofInt 64 (x.toNat : Int) &&& ~~~ (BitVec.ofInt 64 (y.toNat : Int))).toNat : Int) = _
  rw [ofInt_nat, ofInt_nat, wrapu_nat]
def allBv : BitVec 64 := 2114060416#64
theorem all_bv : allSpaces = (allBv.toNat : Int) := rfl
def inAll (n : Int) : Prop := ∃ x : BitVec 64, n = (x.toNat : Int) ∧ x &&& allBv = x
theorem inAll_or {n m : Int} (h : inAll n) (h' : inAll m) : inAll (orI .u64 n m) := by
  obtain ⟨x, rfl, h1⟩ := h
  obtain ⟨y, rfl, h2⟩ := h'
  refine ⟨x ||| y, orI_bv x y, ?_⟩
  ext i hi
  have e1 := congrArg (fun z : BitVec 64 => z[i]) h1
  have e2 := congrArg (fun z : BitVec 64 => z[i]) h2
  simp only [BitVec.getElem_and, BitVec.getElem_or] at e1 e2 ⊢
  revert e1 e2
  cases x[i] <;> cases y[i] <;> cases allBv[i] <;> simp
theorem spM_in (w : List UInt8) : inAll (spM w).1 := by
  have key : ∀ l : List (List UInt8 × Int), (∀ p ∈ l, inAll p.2) → inAll (findP w 181 l).1 := by
    intro l
    induction l with
    | nil => intro _; exact ⟨0#64, rfl, by decide⟩
    | cons p l ih =>
      intro h
      simp only [findP]
      split
      · exact h p (by simp)
      · exact ih fun q hq => h q (by simp [hq])
  refine key tab_spaces ?_
  intro p hp
  simp only [tab_spaces, List.mem_cons, List.not_mem_nil, or_false] at hp
  rcases hp with rfl | rfl | rfl | rfl | rfl | rfl | rfl | rfl
  · exact ⟨128#64, rfl, by decide⟩
  · exact ⟨131072#64, rfl, by decide⟩
  · exact ⟨33554432#64, rfl, by decide⟩
  · exact ⟨67108864#64, rfl, by decide⟩
  · exact ⟨134217728#64, rfl, by decide⟩
  · exact ⟨268435456#64, rfl, by decide⟩
  · exact ⟨536870912#64, rfl, by decide⟩
  · exact ⟨1073741824#64, rfl, by decide⟩
theorem spFold_in (ws : List (List UInt8)) : ∀ s : Int × List (Int × List UInt8), inAll s.1 → inAll (ws.foldl spStep s).1 := by
  induction ws with
  | nil => intro s h; exact h
  | cons w ws ih => intro s h; exact ih _ (inAll_or h (spM_in w))
theorem sp_or {n : Int} (h : inAll n) : orI .u64 (clrI .u64 allSpaces n) n = allSpaces ∧ andI .u64 (clrI .u64 allSpaces n) n = 0 := by
  obtain ⟨x, rfl, h1⟩ := h
  rw [all_bv, clrI_bv, orI_bv, andI_bv]
  have e1 : (allBv &&& ~~~ x) ||| x = allBv := by
    ext i hi
    have e1 := congrArg (fun z : BitVec 64 => z[i]) h1
    simp only [BitVec.getElem_and, BitVec.getElem_or, BitVec.getElem_not] at e1 ⊢
    revert e1
    cases x[i] <;> cases allBv[i] <;> simp
  have e2 : (allBv &&& ~~~ x) &&& x = 0#64 := by
    ext i hi
    simp only [BitVec.getElem_and, BitVec.getElem_not, BitVec.getElem_zero]
    cases x[i] <;> cases allBv[i] <;> simp
  rw [e1, e2]
  exact ⟨rfl, rfl⟩
theorem wB_ne (l cur : List UInt8) (h : cur ≠ []) : wB l cur ≠ [] := by
  induction l generalizing cur with
  | nil => simp [wB, h]
  | cons c l ih =>
    simp only [wB]
    split
    · simp [h]
    · exact ih _ (by simp)
theorem words_turned (v : List UInt8) : words (126 :: v) ≠ [] := by
  rw [words_wB]
  show (if isSp 126 = true then _ else wB v [126]) ≠ []
  rw [if_neg (by decide)]
  exact wB_ne v _ (by simp)
theorem turned_no (v : List UInt8) : (126 :: v) ∉ noWords ∧ (126 :: v) ∉ yesWords := by
  constructor <;> simp [noWords, yesWords]
theorem turnP_turned (v : List UInt8) : turnP (126 :: v) = (v, true) := by
  unfold turnP; simp
/-- what the law speaks of -/
theorem spaces_law (v : List UInt8) (hw : words v ≠ []) (hn : v ∉ noWords) (hy : v ∉ yesWords) (ht : (turnP v).2 = false) :
    ((setM pol0 kSp v).2.length = (setM pol0 kSp (126 :: v)).2.length) ∧
    (((setM pol0 kSp v).2 ≠ [] → (setM pol0 kSp v).1.spaces = 0 ∧ (setM pol0 kSp (126 :: v)).1.spaces = 0) ∧
     ((setM pol0 kSp v).2 = [] → orI .u64 (setM pol0 kSp v).1.spaces (setM pol0 kSp (126 :: v)).1.spaces = allSpaces ∧ andI .u64 (setM pol0 kSp v).1.spaces (setM pol0 kSp (126 :: v)).1.spaces = 0)) := by
  have htv : turnP v = (v, false) := by
    unfold turnP at ht ⊢
    split
    · rename_i h; rw [if_pos h] at ht; cases ht
    · rfl
  have e1 : setM pol0 kSp v = (spEnd pol0 false ((words v).foldl spStep (0, [])), ((words v).foldl spStep (0, [])).2) := by
    unfold setM
    rw [if_neg (by decide), if_neg (by decide), if_pos rfl]
    unfold m_namespaces
    rw [if_neg hw, if_neg hn, if_neg hy, htv]
  have e2 : setM pol0 kSp (126 :: v) = (spEnd pol0 true ((words v).foldl spStep (0, [])), ((words v).foldl spStep (0, [])).2) := by
    unfold setM
    rw [if_neg (by decide), if_neg (by decide), if_pos rfl]
    unfold m_namespaces
    rw [if_neg (words_turned v), if_neg (turned_no v).1, if_neg (turned_no v).2, turnP_turned]
  rw [e1, e2]
  have hin := spFold_in (words v) (0, []) ⟨0#64, rfl, by decide⟩
  generalize (words v).foldl spStep (0, []) = r at hin ⊢
  dsimp only
  refine ⟨rfl, fun h => ?_, fun h => ?_⟩
  · simp [spEnd, h, pol0]
  · have := sp_or hin
    simpa [spEnd, h] using this
/-! ### the walk -/
def ir_vestibulelaw18_spaces (f_vestibulelaw18_after : Nat) : IFn := ⟨[.tmp 2],
  .seq (.reg false [⟨(some 2), .op (.mov (.c (.i .u64 0))), none⟩])
  (.seq (.reg false [⟨(some 6), .op (.mov (.t 0)), none⟩,
    ⟨(some 7), .op (.buildS 1 [.s []] [(0, 1, (.t 6))]), none⟩,
    ⟨(some 8), .callF f_vestibulelaw18_after [(.c (.s [82, 101, 115, 116, 114, 105, 99, 116, 78, 97, 109, 101, 115, 112, 97, 99, 101, 115])), (.t 7)], none⟩,
    ⟨(some 5), .op (.mov (.t 8)), none⟩,
    ⟨(some 9), .op (.ext (.t 5) 0), none⟩,
    ⟨(some 10), .op (.ext (.t 5) 1), none⟩,
    ⟨(some 3), .op (.alloc [.nils, .i .u8 0, .nils, .i .u32 0, .i .u8 0, .nils, .nils, .i .u8 0, .i .u64 0, .b false, .b false, .b false, .b false]), none⟩,
    ⟨none, .op (.store 13 (.t 3) (.t 9)), none⟩,
    ⟨(some 4), .op (.mov (.t 10)), none⟩])
  (.seq (.reg false [⟨(some 11), .op (.fAddr 8 (.t 3)), none⟩,
    ⟨(some 12), .op (.load1 (.t 11)), none⟩,
    ⟨(some 2), .op (.mov (.t 12)), none⟩])
  (.ret)))⟩
theorem spaces1 {g : Nat} (hc : chkFn P f (ir_vestibulelaw18_spaces g) = true) (h1 : cAfter1 P g) (v : List UInt8) (hv : v.length ≤ 1000) : Pure P f [.s v] (.i .u64 (setM pol0 kSp v).1.spaces) := by
  refine Pure.mk hc rfl ?_
  simp only [ir_vestibulelaw18_spaces, argsT, H0, mkT, mkH, trL, List.length_cons, List.length_nil, Nat.reduceAdd, Nat.zero_add]
  simp only [↓vA, ↓vE, ↓vO, ↓vB, ↓vF, ↓vM, ↓vR, ↓vX, cvF_pc, vP, shb, shv, shvs, she_nil, she_cons, vC, vQ, Nat.reduceEqDiff, ↓reduceIte, eq_self, Nat.reduceAdd, Nat.reduceMul, Nat.reduceSub, Nat.reduceLeDiff, Nat.reduceLT, defd, cellsOf, wr, packR, Int.reduceLE, Int.reduceLT, Int.reduceEq, Int.cast_ofNat_Int, Int.reduceToNat]
  refine (h1 kSp v hv).give [(0, .cells 0 true false [.s v])] (by simp [Tr.get_set]) rfl ?_ ?_
  · simp [trP, vZ, vP, Tr.get_set, kSp]
    exact Frz.cut 1 rfl (Nat.le_refl _) (by simp [vP, Tr.get_set, vZ])
  simp only [kill_cons, kill_nil, hput_mk]
  simp (decide := true) only [↓vA, ↓vE, ↓vO, ↓vB, ↓vF, ↓vM, ↓vR, ↓vX, cvF_pc, vP, shb, shv, shvs, she_nil, she_cons, vC, vQ, Nat.reduceEqDiff, ↓reduceIte, eq_self, Nat.reduceAdd, Nat.reduceMul, Nat.reduceSub, Nat.reduceLeDiff, Nat.reduceLT, defd, cellsOf, wr, packR, Int.reduceLE, Int.reduceLT, Int.reduceEq, Int.cast_ofNat_Int, Int.reduceToNat, cPol]
  simp [vZ]
def ir_vestibulelaw18_RestrictSpaces (f_values_Words f_vestibulelaw18_awake f_values_Bool f_values_Turned f_vestibulelaw18_after f_names_Spaces f_vestibulelaw18_spaces : Nat) : IFn := ⟨[.tmp 2],
  .seq (.reg false [⟨(some 2), .op (.mov (.c (.b false))), none⟩])
  (.seq (.seq (.reg false [⟨(some 11), .op (.mov (.t 0)), none⟩,
    ⟨(some 12), .op (.len true (.t 11)), none⟩,
    ⟨(some 13), .op (.bin .gtr (.t 12) (.c (.i .i64 300))), none⟩,
    ⟨(some 14), .op (.mov (.t 13)), none⟩,
    ⟨(some 15), .op (.mov (.t 0)), (some (14, false))⟩,
    ⟨(some 16), .callF f_values_Words [(.t 15)], (some (14, false))⟩,
    ⟨(some 17), .op (.len false (.t 16)), (some (14, false))⟩,
    ⟨(some 18), .op (.bin .eql (.t 17) (.c (.i .i64 0))), (some (14, false))⟩,
    ⟨(some 19), .op (.pick (.t 14) (.c (.b true)) (.t 18)), none⟩])
  (.cond (.t 19) (.seq (.reg false [⟨(some 20), .callF f_vestibulelaw18_awake [], none⟩,
    ⟨(some 2), .op (.mov (.t 20)), none⟩])
  (.ret)) (.skip)))
  (.seq (.reg false [⟨(some 22), .op (.mov (.t 0)), none⟩,
    ⟨(some 23), .callF f_values_Bool [(.t 22)], none⟩,
    ⟨(some 21), .op (.mov (.t 23)), none⟩,
    ⟨(some 24), .op (.ext (.t 21) 0), none⟩,
    ⟨(some 25), .op (.ext (.t 21) 1), none⟩,
    ⟨(some 3), .op (.mov (.t 24)), none⟩,
    ⟨(some 4), .op (.mov (.t 25)), none⟩])
  (.seq (.reg false [⟨(some 27), .op (.mov (.t 0)), none⟩,
    ⟨(some 28), .callF f_values_Turned [(.t 27)], none⟩,
    ⟨(some 26), .op (.mov (.t 28)), none⟩,
    ⟨(some 29), .op (.ext (.t 26) 0), none⟩,
    ⟨(some 30), .op (.ext (.t 26) 1), none⟩,
    ⟨(some 5), .op (.mov (.t 29)), none⟩,
    ⟨(some 6), .op (.mov (.t 30)), none⟩])
  (.seq (.reg false [⟨(some 32), .op (.mov (.t 0)), none⟩,
    ⟨(some 33), .op (.buildS 1 [.s []] [(0, 1, (.t 32))]), none⟩,
    ⟨(some 34), .callF f_vestibulelaw18_after [(.c (.s [82, 101, 115, 116, 114, 105, 99, 116, 78, 97, 109, 101, 115, 112, 97, 99, 101, 115])), (.t 33)], none⟩,
    ⟨(some 31), .op (.mov (.t 34)), none⟩,
    ⟨(some 35), .op (.ext (.t 31) 0), none⟩,
    ⟨(some 36), .op (.ext (.t 31) 1), none⟩,
    ⟨(some 7), .op (.alloc [.nils, .i .u8 0, .nils, .i .u32 0, .i .u8 0, .nils, .nils, .i .u8 0, .i .u64 0, .b false, .b false, .b false, .b false]), none⟩,
    ⟨none, .op (.store 13 (.t 7) (.t 35)), none⟩,
    ⟨(some 8), .op (.mov (.t 36)), none⟩])
  (.seq (.reg false [⟨(some 38), .op (.mov (.t 0)), none⟩,
    ⟨(some 39), .op (.bin .add (.c (.s [126])) (.t 38)), none⟩,
    ⟨(some 40), .op (.buildS 1 [.s []] [(0, 1, (.t 39))]), none⟩,
    ⟨(some 41), .callF f_vestibulelaw18_after [(.c (.s [82, 101, 115, 116, 114, 105, 99, 116, 78, 97, 109, 101, 115, 112, 97, 99, 101, 115])), (.t 40)], none⟩,
    ⟨(some 37), .op (.mov (.t 41)), none⟩,
    ⟨(some 42), .op (.ext (.t 37) 0), none⟩,
    ⟨(some 43), .op (.ext (.t 37) 1), none⟩,
    ⟨(some 9), .op (.alloc [.nils, .i .u8 0, .nils, .i .u32 0, .i .u8 0, .nils, .nils, .i .u8 0, .i .u64 0, .b false, .b false, .b false, .b false]), none⟩,
    ⟨none, .op (.store 13 (.t 9) (.t 42)), none⟩,
    ⟨(some 10), .op (.mov (.t 43)), none⟩])
  (.seq (.seq (.reg false [⟨(some 44), .op (.mov (.t 4)), none⟩,
    ⟨(some 45), .op (.bin .eql (.t 44) (.c (.i .i64 0))), none⟩,
    ⟨(some 46), .op (.mov (.t 45)), none⟩,
    ⟨(some 47), .op (.mov (.t 6)), (some (46, false))⟩,
    ⟨(some 48), .op (.pick (.t 46) (.c (.b true)) (.t 47)), none⟩])
  (.cond (.t 48) (.seq (.reg false [⟨(some 49), .callF f_vestibulelaw18_awake [], none⟩,
    ⟨(some 2), .op (.mov (.t 49)), none⟩])
  (.ret)) (.skip)))
  (.seq (.seq (.reg false [⟨(some 50), .op (.mov (.t 8)), none⟩,
    ⟨(some 51), .op (.mov (.t 10)), none⟩,
    ⟨(some 52), .op (.bin .neq (.t 50) (.t 51)), none⟩])
  (.cond (.t 52) (.seq (.reg false [⟨(some 2), .op (.mov (.c (.b false))), none⟩])
  (.ret)) (.skip)))
  (.seq (.seq (.reg false [⟨(some 53), .op (.mov (.t 8)), none⟩,
    ⟨(some 54), .op (.bin .gtr (.t 53) (.c (.i .i64 0))), none⟩])
  (.cond (.t 54) (.seq (.reg false [⟨(some 55), .op (.fAddr 8 (.t 7)), none⟩,
    ⟨(some 56), .op (.load1 (.t 55)), none⟩,
    ⟨(some 57), .op (.bin .eql (.t 56) (.c (.i .u64 0))), none⟩,
    ⟨(some 58), .op (.mov (.t 57)), none⟩,
    ⟨(some 59), .op (.fAddr 8 (.t 9)), (some (58, true))⟩,
    ⟨(some 60), .op (.load1 (.t 59)), (some (58, true))⟩,
    ⟨(some 61), .op (.bin .eql (.t 60) (.c (.i .u64 0))), (some (58, true))⟩,
    ⟨(some 62), .op (.pick (.t 58) (.t 61) (.c (.b false))), none⟩,
    ⟨(some 63), .op (.mov (.t 62)), none⟩,
    ⟨(some 64), .callF f_vestibulelaw18_awake [], (some (63, true))⟩,
    ⟨(some 65), .op (.pick (.t 63) (.t 64) (.c (.b false))), none⟩,
    ⟨(some 2), .op (.mov (.t 65)), none⟩])
  (.ret)) (.skip)))
  (.seq (.reg true [⟨(some 66), .op (.fAddr 8 (.t 7)), none⟩,
    ⟨(some 67), .op (.load1 (.t 66)), none⟩,
    ⟨(some 68), .op (.fAddr 8 (.t 9)), none⟩,
    ⟨(some 69), .op (.load1 (.t 68)), none⟩,
    ⟨(some 70), .op (.bin .or (.t 67) (.t 69)), none⟩,
    ⟨(some 71), .callF f_names_Spaces [], none⟩,
    ⟨(some 72), .op (.bin .eql (.t 70) (.t 71)), none⟩,
    ⟨(some 73), .op (.mov (.t 72)), none⟩,
    ⟨(some 74), .op (.fAddr 8 (.t 7)), (some (73, true))⟩,
    ⟨(some 75), .op (.load1 (.t 74)), (some (73, true))⟩,
    ⟨(some 76), .op (.fAddr 8 (.t 9)), (some (73, true))⟩,
    ⟨(some 77), .op (.load1 (.t 76)), (some (73, true))⟩,
    ⟨(some 78), .op (.bin .and (.t 75) (.t 77)), (some (73, true))⟩,
    ⟨(some 79), .op (.bin .eql (.t 78) (.c (.i .u64 0))), (some (73, true))⟩,
    ⟨(some 80), .op (.pick (.t 73) (.t 79) (.c (.b false))), none⟩,
    ⟨(some 81), .op (.mov (.t 80)), none⟩,
    ⟨(some 82), .callF f_vestibulelaw18_spaces [(.c (.s [121, 101, 115]))], (some (81, true))⟩,
    ⟨(some 83), .callF f_names_Spaces [], (some (81, true))⟩,
    ⟨(some 84), .op (.bin .eql (.t 82) (.t 83)), (some (81, true))⟩,
    ⟨(some 85), .op (.pick (.t 81) (.t 84) (.c (.b false))), none⟩,
    ⟨(some 86), .op (.mov (.t 85)), none⟩,
    ⟨(some 87), .callF f_vestibulelaw18_awake [], (some (86, true))⟩,
    ⟨(some 88), .op (.pick (.t 86) (.t 87) (.c (.b false))), none⟩,
    ⟨(some 2), .op (.mov (.t 88)), none⟩])
  (.ret))))))))))⟩
theorem restrictSpaces {g1 g2 g3 g4 g5 g6 g7 : Nat} (hc : chkFn P f (ir_vestibulelaw18_RestrictSpaces g1 g2 g3 g4 g5 g6 g7) = true) (h1 : cWords P g1) (h2 : Pure P g2 [] (.b true)) (h3 : cBool P g3) (h4 : cTurned P g4) (h5 : cAfter1 P g5) (h6 : Pure P g6 [] (.i .u64 2114060416)) (h7 : ∀ v : List UInt8, v.length ≤ 1000 → Pure P g7 [.s v] (.i .u64 (setM pol0 kSp v).1.spaces)) (v : List UInt8) : Pure P f [.s v] (.b true) := by
  refine Pure.mk hc rfl ?_
  simp only [ir_vestibulelaw18_RestrictSpaces, argsT, H0, mkT, mkH, trL, List.length_cons, List.length_nil, Nat.reduceAdd, Nat.zero_add]
  by_cases hlen : 300 < v.length
  · have hl' : (300 : Int) < v.length := by omega
    simp only [↓vA, ↓vE, ↓vO, ↓vB, ↓vF, ↓vM, ↓vR, ↓vX, cvF_pc, vP, shb, shv, shvs, she_nil, she_cons, vC, vQ, Nat.reduceEqDiff, ↓reduceIte, eq_self, Nat.reduceAdd, Nat.reduceMul, Nat.reduceSub, Nat.reduceLeDiff, Nat.reduceLT, defd, cellsOf, wr, packR, Int.reduceLE, Int.reduceLT, Int.reduceEq, Int.cast_ofNat_Int, Int.reduceToNat, hl']
    refine h2.sc ?_
    simp only [↓vA, ↓vE, ↓vO, ↓vB, ↓vF, ↓vM, ↓vR, ↓vX, cvF_pc, vP, shb, shv, shvs, she_nil, she_cons, vC, vQ, Nat.reduceEqDiff, ↓reduceIte, eq_self, Nat.reduceAdd, Nat.reduceMul, Nat.reduceSub, Nat.reduceLeDiff, Nat.reduceLT, defd, cellsOf, wr, packR, Int.reduceLE, Int.reduceLT, Int.reduceEq, Int.cast_ofNat_Int, Int.reduceToNat, vZ]
  · have hl' : ¬ (300 : Int) < v.length := by omega
    simp only [↓vA, ↓vE, ↓vO, ↓vB, ↓vF, ↓vM, ↓vR, ↓vX, cvF_pc, vP, shb, shv, shvs, she_nil, she_cons, vC, vQ, Nat.reduceEqDiff, ↓reduceIte, eq_self, Nat.reduceAdd, Nat.reduceMul, Nat.reduceSub, Nat.reduceLeDiff, Nat.reduceLT, defd, cellsOf, wr, packR, Int.reduceLE, Int.reduceLT, Int.reduceEq, Int.cast_ofNat_Int, Int.reduceToNat, hl']
    refine (h1 v (by omega)).sc ?_
    by_cases hw : words v = []
    · simp only [↓vA, ↓vE, ↓vO, ↓vB, ↓vF, ↓vM, ↓vR, ↓vX, cvF_pc, vP, shb, shv, shvs, she_nil, she_cons, vC, vQ, Nat.reduceEqDiff, ↓reduceIte, eq_self, Nat.reduceAdd, Nat.reduceMul, Nat.reduceSub, Nat.reduceLeDiff, Nat.reduceLT, defd, cellsOf, wr, packR, Int.reduceLE, Int.reduceLT, Int.reduceEq, Int.cast_ofNat_Int, Int.reduceToNat, hw]
      refine h2.sc ?_
      simp only [↓vA, ↓vE, ↓vO, ↓vB, ↓vF, ↓vM, ↓vR, ↓vX, cvF_pc, vP, shb, shv, shvs, she_nil, she_cons, vC, vQ, Nat.reduceEqDiff, ↓reduceIte, eq_self, Nat.reduceAdd, Nat.reduceMul, Nat.reduceSub, Nat.reduceLeDiff, Nat.reduceLT, defd, cellsOf, wr, packR, Int.reduceLE, Int.reduceLT, Int.reduceEq, Int.cast_ofNat_Int, Int.reduceToNat, vZ]
    · have hwn : ¬ ((words v).length : Int) = 0 := by
        intro hh; exact hw (List.eq_nil_of_length_eq_zero (by omega))
      simp only [↓vA, ↓vE, ↓vO, ↓vB, ↓vF, ↓vM, ↓vR, ↓vX, cvF_pc, vP, shb, shv, shvs, she_nil, she_cons, vC, vQ, Nat.reduceEqDiff, ↓reduceIte, eq_self, Nat.reduceAdd, Nat.reduceMul, Nat.reduceSub, Nat.reduceLeDiff, Nat.reduceLT, defd, cellsOf, wr, packR, Int.reduceLE, Int.reduceLT, Int.reduceEq, Int.cast_ofNat_Int, Int.reduceToNat, hwn]
      refine (h3 v).sc ?_
      have hb : ∃ x y, boolE v = .tup [.b x, .i .i64 y] ∧ (y = 0 ↔ (v ∈ noWords ∨ v ∈ yesWords)) := by
        unfold boolE
        by_cases hno : v ∈ noWords
        · exact ⟨false, 0, by rw [if_pos hno], by simp [hno]⟩
        · by_cases hy : v ∈ yesWords
          · exact ⟨true, 0, by rw [if_neg hno, if_pos hy], by simp [hy]⟩
          · exact ⟨false, 150, by rw [if_neg hno, if_neg hy], by simp [hno, hy]⟩
      obtain ⟨bx, by', hbe, hby⟩ := hb
      rw [hbe]
      simp only [↓vA, ↓vE, ↓vO, ↓vB, ↓vF, ↓vM, ↓vR, ↓vX, cvF_pc, vP, shb, shv, shvs, she_nil, she_cons, vC, vQ, Nat.reduceEqDiff, ↓reduceIte, eq_self, Nat.reduceAdd, Nat.reduceMul, Nat.reduceSub, Nat.reduceLeDiff, Nat.reduceLT, defd, cellsOf, wr, packR, Int.reduceLE, Int.reduceLT, Int.reduceEq, Int.cast_ofNat_Int, Int.reduceToNat]
      refine (h4 v).sc ?_
      rw [cut_turn]
      simp only [↓vA, ↓vE, ↓vO, ↓vB, ↓vF, ↓vM, ↓vR, ↓vX, cvF_pc, vP, shb, shv, shvs, she_nil, she_cons, vC, vQ, Nat.reduceEqDiff, ↓reduceIte, eq_self, Nat.reduceAdd, Nat.reduceMul, Nat.reduceSub, Nat.reduceLeDiff, Nat.reduceLT, defd, cellsOf, wr, packR, Int.reduceLE, Int.reduceLT, Int.reduceEq, Int.cast_ofNat_Int, Int.reduceToNat]
      refine (h5 kSp v (by omega)).give [(0, .cells 0 true false [.s v])] (by simp [Tr.get_set]) rfl ?_ ?_
      · simp [trP, vZ, vP, Tr.get_set, kSp]
        exact Frz.cut 1 rfl (Nat.le_refl _) (by simp [vP, Tr.get_set, vZ])
      simp only [kill_cons, kill_nil, hput_mk]
      have hl2 : 1 + v.length ≤ 9223372036854775807 := by omega
      simp (decide := true) only [↓vA, ↓vE, ↓vO, ↓vB, ↓vF, ↓vM, ↓vR, ↓vX, cvF_pc, vP, shb, shv, shvs, she_nil, she_cons, vC, vQ, Nat.reduceEqDiff, ↓reduceIte, eq_self, Nat.reduceAdd, Nat.reduceMul, Nat.reduceSub, Nat.reduceLeDiff, Nat.reduceLT, defd, cellsOf, wr, packR, Int.reduceLE, Int.reduceLT, Int.reduceEq, Int.cast_ofNat_Int, Int.reduceToNat, cPol, hl2]
      refine (h5 kSp (126 :: v) (by simp; omega)).give [(2, .cells 0 true false [.s (126 :: v)])] (by simp [Tr.get_set]) rfl ?_ ?_
      · simp [trP, vZ, vP, Tr.get_set, kSp]
        exact Frz.cut 1 rfl (Nat.le_refl _) (by simp [vP, Tr.get_set, vZ])
      simp only [kill_cons, kill_nil, hput_mk]
      have hL := setM_notes pol0 kSp v
      simp (decide := true) only [↓vA, ↓vE, ↓vO, ↓vB, ↓vF, ↓vM, ↓vR, ↓vX, cvF_pc, vP, shb, shv, shvs, she_nil, she_cons, vC, vQ, Nat.reduceEqDiff, ↓reduceIte, eq_self, Nat.reduceAdd, Nat.reduceMul, Nat.reduceSub, Nat.reduceLeDiff, Nat.reduceLT, defd, cellsOf, wr, packR, Int.reduceLE, Int.reduceLT, Int.reduceEq, Int.cast_ofNat_Int, Int.reduceToNat, cPol]
      by_cases he : by' = 0
      · simp only [↓vA, ↓vE, ↓vO, ↓vB, ↓vF, ↓vM, ↓vR, ↓vX, cvF_pc, vP, shb, shv, shvs, she_nil, she_cons, vC, vQ, Nat.reduceEqDiff, ↓reduceIte, eq_self, Nat.reduceAdd, Nat.reduceMul, Nat.reduceSub, Nat.reduceLeDiff, Nat.reduceLT, defd, cellsOf, wr, packR, Int.reduceLE, Int.reduceLT, Int.reduceEq, Int.cast_ofNat_Int, Int.reduceToNat, he]
        refine h2.sc ?_
        simp only [↓vA, ↓vE, ↓vO, ↓vB, ↓vF, ↓vM, ↓vR, ↓vX, cvF_pc, vP, shb, shv, shvs, she_nil, she_cons, vC, vQ, Nat.reduceEqDiff, ↓reduceIte, eq_self, Nat.reduceAdd, Nat.reduceMul, Nat.reduceSub, Nat.reduceLeDiff, Nat.reduceLT, defd, cellsOf, wr, packR, Int.reduceLE, Int.reduceLT, Int.reduceEq, Int.cast_ofNat_Int, Int.reduceToNat, vZ]
      · have hnn := mt hby.2 he
        simp only [not_or] at hnn
        cases ht : (turnP v).2 with
        | true =>
          simp only [↓vA, ↓vE, ↓vO, ↓vB, ↓vF, ↓vM, ↓vR, ↓vX, cvF_pc, vP, shb, shv, shvs, she_nil, she_cons, vC, vQ, Nat.reduceEqDiff, ↓reduceIte, eq_self, Nat.reduceAdd, Nat.reduceMul, Nat.reduceSub, Nat.reduceLeDiff, Nat.reduceLT, defd, cellsOf, wr, packR, Int.reduceLE, Int.reduceLT, Int.reduceEq, Int.cast_ofNat_Int, Int.reduceToNat, he]
          refine h2.sc ?_
          simp only [↓vA, ↓vE, ↓vO, ↓vB, ↓vF, ↓vM, ↓vR, ↓vX, cvF_pc, vP, shb, shv, shvs, she_nil, she_cons, vC, vQ, Nat.reduceEqDiff, ↓reduceIte, eq_self, Nat.reduceAdd, Nat.reduceMul, Nat.reduceSub, Nat.reduceLeDiff, Nat.reduceLT, defd, cellsOf, wr, packR, Int.reduceLE, Int.reduceLT, Int.reduceEq, Int.cast_ofNat_Int, Int.reduceToNat, vZ]
        | false =>
          obtain ⟨l1, l2, l3⟩ := spaces_law v hw hnn.1 hnn.2 ht
          rw [← l1]
          simp only [↓vA, ↓vE, ↓vO, ↓vB, ↓vF, ↓vM, ↓vR, ↓vX, cvF_pc, vP, shb, shv, shvs, she_nil, she_cons, vC, vQ, Nat.reduceEqDiff, ↓reduceIte, eq_self, Nat.reduceAdd, Nat.reduceMul, Nat.reduceSub, Nat.reduceLeDiff, Nat.reduceLT, defd, cellsOf, wr, packR, Int.reduceLE, Int.reduceLT, Int.reduceEq, Int.cast_ofNat_Int, Int.reduceToNat, he]
          by_cases hn : (setM pol0 kSp v).2 = []
          · obtain ⟨q1, q2⟩ := l3 hn
            simp only [↓vA, ↓vE, ↓vO, ↓vB, ↓vF, ↓vM, ↓vR, ↓vX, cvF_pc, vP, shb, shv, shvs, she_nil, she_cons, vC, vQ, Nat.reduceEqDiff, ↓reduceIte, eq_self, Nat.reduceAdd, Nat.reduceMul, Nat.reduceSub, Nat.reduceLeDiff, Nat.reduceLT, defd, cellsOf, wr, packR, Int.reduceLE, Int.reduceLT, Int.reduceEq, Int.cast_ofNat_Int, Int.reduceToNat, hn]
            refine VD_pc ?_
            simp only [↓vA, ↓vE, ↓vO, ↓vB, ↓vF, ↓vM, ↓vR, ↓vX, cvF_pc, vP, shb, shv, shvs, she_nil, she_cons, vC, vQ, Nat.reduceEqDiff, ↓reduceIte, eq_self, Nat.reduceAdd, Nat.reduceMul, Nat.reduceSub, Nat.reduceLeDiff, Nat.reduceLT, defd, cellsOf, wr, packR, Int.reduceLE, Int.reduceLT, Int.reduceEq, Int.cast_ofNat_Int, Int.reduceToNat]
            refine h6.pc ?_
            simp only [↓vA, ↓vE, ↓vO, ↓vB, ↓vF, ↓vM, ↓vR, ↓vX, cvF_pc, vP, shb, shv, shvs, she_nil, she_cons, vC, vQ, Nat.reduceEqDiff, ↓reduceIte, eq_self, Nat.reduceAdd, Nat.reduceMul, Nat.reduceSub, Nat.reduceLeDiff, Nat.reduceLT, defd, cellsOf, wr, packR, Int.reduceLE, Int.reduceLT, Int.reduceEq, Int.cast_ofNat_Int, Int.reduceToNat, q1, allSpaces, q2]
            refine (h7 [121, 101, 115] (by decide)).pc ?_
            simp only [↓vA, ↓vE, ↓vO, ↓vB, ↓vF, ↓vM, ↓vR, ↓vX, cvF_pc, vP, shb, shv, shvs, she_nil, she_cons, vC, vQ, Nat.reduceEqDiff, ↓reduceIte, eq_self, Nat.reduceAdd, Nat.reduceMul, Nat.reduceSub, Nat.reduceLeDiff, Nat.reduceLT, defd, cellsOf, wr, packR, Int.reduceLE, Int.reduceLT, Int.reduceEq, Int.cast_ofNat_Int, Int.reduceToNat]
            refine h6.pc ?_
            have e3 : (setM pol0 kSp [121, 101, 115]).1.spaces = 2114060416 := by
              unfold setM
              rw [if_neg (by decide), if_neg (by decide), if_pos rfl]
              unfold m_namespaces
              rw [if_neg (by rw [words_wB]; decide), if_neg (by decide), if_pos (by decide)]
              rfl
            simp only [↓vA, ↓vE, ↓vO, ↓vB, ↓vF, ↓vM, ↓vR, ↓vX, cvF_pc, vP, shb, shv, shvs, she_nil, she_cons, vC, vQ, Nat.reduceEqDiff, ↓reduceIte, eq_self, Nat.reduceAdd, Nat.reduceMul, Nat.reduceSub, Nat.reduceLeDiff, Nat.reduceLT, defd, cellsOf, wr, packR, Int.reduceLE, Int.reduceLT, Int.reduceEq, Int.cast_ofNat_Int, Int.reduceToNat, e3]
            refine h2.pc ?_
            simp only [↓vA, ↓vE, ↓vO, ↓vB, ↓vF, ↓vM, ↓vR, ↓vX, cvF_pc, vP, shb, shv, shvs, she_nil, she_cons, vC, vQ, Nat.reduceEqDiff, ↓reduceIte, eq_self, Nat.reduceAdd, Nat.reduceMul, Nat.reduceSub, Nat.reduceLeDiff, Nat.reduceLT, defd, cellsOf, wr, packR, Int.reduceLE, Int.reduceLT, Int.reduceEq, Int.cast_ofNat_Int, Int.reduceToNat, vZ]
          · have hpos : (0 : Int) < ((setM pol0 kSp v).2.length : Int) := by
              have := List.length_pos_iff.2 hn; omega
            obtain ⟨q1, q2⟩ := l2 hn
            simp only [↓vA, ↓vE, ↓vO, ↓vB, ↓vF, ↓vM, ↓vR, ↓vX, cvF_pc, vP, shb, shv, shvs, she_nil, she_cons, vC, vQ, Nat.reduceEqDiff, ↓reduceIte, eq_self, Nat.reduceAdd, Nat.reduceMul, Nat.reduceSub, Nat.reduceLeDiff, Nat.reduceLT, defd, cellsOf, wr, packR, Int.reduceLE, Int.reduceLT, Int.reduceEq, Int.cast_ofNat_Int, Int.reduceToNat, hpos, q1, q2]
            refine h2.sc ?_
            simp only [↓vA, ↓vE, ↓vO, ↓vB, ↓vF, ↓vM, ↓vR, ↓vX, cvF_pc, vP, shb, shv, shvs, she_nil, she_cons, vC, vQ, Nat.reduceEqDiff, ↓reduceIte, eq_self, Nat.reduceAdd, Nat.reduceMul, Nat.reduceSub, Nat.reduceLeDiff, Nat.reduceLT, defd, cellsOf, wr, packR, Int.reduceLE, Int.reduceLT, Int.reduceEq, Int.cast_ofNat_Int, Int.reduceToNat, vZ]
            rw [if_pos q2]; trivial
end Go.Kc
end
