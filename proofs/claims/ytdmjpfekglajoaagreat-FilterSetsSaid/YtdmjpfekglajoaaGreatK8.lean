/- Part 8 of the abstract machine and of the functions' walks. Conditions: with each theorem. -/
import Derived.Test.YtdmjpfekglajoaaGreatK7
import Derived.KernelRfl
set_option linter.unusedSimpArgs false
set_option linter.unusedVariables false
set_option linter.unnecessarySimpa false
section
/- What a list's lines are read by: fold.ins, values.Read. Condition: the functions' texts are these. -/
namespace Go.Kc
variable {P:Program} {f:Nat}
def yL:IFn:=⟨[.cell 0 4 true],
  .seq (.reg false [⟨(some 0),.op (.alloc [.b false,.b false,.b false,.b false]),none⟩])
  (.seq (.reg false [⟨(some 1),.op (.build [.b false,.b false] [(0,1,(.c (.b true))),(1,1,(.c (.b false)))]),none⟩,
    ⟨(some 2),.op (.build [.b false,.b false] [(0,1,(.c (.b false))),(1,1,(.c (.b true)))]),none⟩,
    ⟨(some 3),.op (.build [.b false,.b false,.b false,.b false] [(0,2,(.t 1)),(2,2,(.t 2))]),none⟩,
    ⟨none,.op (.store 4 (.t 0) (.t 3)),none⟩])
  (.ret))⟩
theorem qiW (hc:qh P f yL = true):qg P f [] (.agg [.b true,.b false,.b false,.b true]):=by
  refine qg.mk hc rfl ?_
  simp only [yL,qm,H0,mkT,mkH,trL,vI,simprocAttr]
  simp only [↓vS,vT,shb,shv,qb,qc,cellsOf,wr,qa,simprocAttr,vZ]
def zC (f_internal_bytealg_IndexByteString:Nat):IFn:=⟨[.tmp 4],
  .seq (.reg false [⟨(some 4),.op (.mov (.c (.i .i64 0))),none⟩])
  (.seq (.reg false [⟨(some 5),.op (.mov (.t 0)),none⟩,
    ⟨(some 6),.op (.mov (.t 1)),none⟩,
    ⟨(some 7),.callF f_internal_bytealg_IndexByteString [(.t 5),(.t 6)],none⟩,
    ⟨(some 4),.op (.mov (.t 7)),none⟩])
  (.ret))⟩
theorem qc9 {g:Nat} (hc:qh P f (zC g) = true) (hg:∀ (a:List UInt8) (c:UInt8),qg P g [.s a,.i .u8 (c.toNat:Int)] (.i .i64 (wb c a 0))) (a:List UInt8) (c:UInt8):qg P f [.s a,.i .u8 (c.toNat:Int)] (.i .i64 (wb c a 0)):=by
  refine qg.mk hc rfl ?_
  simp only [zC,qm,H0,mkT,mkH,trL,vI,simprocAttr]
  simp only [↓vS,vT,shb,shv,qb,qc,cellsOf,wr,qa,simprocAttr]
  refine (hg a c).sc ?_
  simp only [↓vS,vT,shb,shv,qb,qc,cellsOf,wr,qa,simprocAttr,vZ]
theorem wN (c:UInt8):∀ (a:List UInt8) (j:Nat),wb c a j = -1 ∨ ∃ i:Nat,wb c a j = ((j + i:Nat):Int) ∧ i < a.length
  | [],j=>.inl rfl
  | x :: xs,j=>by
    unfold wb
    split
    · exact .inr ⟨0,rfl,by simp⟩
    · rcases wN c xs (j + 1) with h | ⟨i,h,hi⟩
      · exact .inl h
      · exact .inr ⟨i + 1,by rw [h]; omega,by simp; omega⟩
def zP (f_internal_stringslite_IndexByte f_internal_bytealg_IndexString f_internal_bytealg_Cutover f_internal_bytealg_IndexRabinKarp_string:Nat):IFn:=⟨[.tmp 4],
  .seq (.reg false [⟨(some 4),.op (.mov (.c (.i .i64 0))),none⟩])
  (.seq (.reg false [⟨(some 14),.op (.mov (.t 1)),none⟩,
    ⟨(some 15),.op (.len true (.t 14)),none⟩,
    ⟨(some 5),.op (.mov (.t 15)),none⟩])
  (.seq (.blk 0 (.seq (.reg false [⟨(some 17),.op (.mov (.t 5)),none⟩,
    ⟨(some 18),.op (.bin .eql (.t 17) (.c (.i .i64 0))),none⟩,
    ⟨(some 19),.op (.mov (.t 18)),none⟩,
    ⟨(some 20),.op (.mov (.t 1)),(some (19,false))⟩,
    ⟨(some 21),.op (.mov (.t 0)),(some (19,false))⟩,
    ⟨(some 22),.op (.bin .eql (.t 20) (.t 21)),(some (19,false))⟩,
    ⟨(some 23),.op (.pick (.t 19) (.c (.b true)) (.t 22)),none⟩,
    ⟨(some 16),.op (.mov (.t 23)),none⟩])
  (.cond (.t 16) (.seq (.reg false [⟨(some 4),.op (.mov (.c (.i .i64 0))),none⟩])
  (.ret)) (.seq (.reg false [⟨(some 25),.op (.mov (.t 5)),none⟩,
    ⟨(some 26),.op (.bin .eql (.t 25) (.c (.i .i64 1))),none⟩,
    ⟨(some 24),.op (.mov (.t 26)),none⟩])
  (.cond (.t 24) (.seq (.reg false [⟨(some 27),.op (.mov (.t 0)),none⟩,
    ⟨(some 28),.op (.mov (.t 1)),none⟩,
    ⟨(some 29),.op (.idxS (.t 28) (.c (.i .i64 0))),none⟩,
    ⟨(some 30),.callF f_internal_stringslite_IndexByte [(.t 27),(.t 29)],none⟩,
    ⟨(some 4),.op (.mov (.t 30)),none⟩])
  (.ret)) (.seq (.reg false [⟨(some 32),.op (.mov (.t 5)),none⟩,
    ⟨(some 33),.op (.mov (.t 0)),none⟩,
    ⟨(some 34),.op (.len true (.t 33)),none⟩,
    ⟨(some 35),.op (.bin .geq (.t 32) (.t 34)),none⟩,
    ⟨(some 31),.op (.mov (.t 35)),none⟩])
  (.cond (.t 31) (.seq (.reg false [⟨(some 4),.op (.mov (.c (.i .i64 (-1)))),none⟩])
  (.ret)) (.seq (.reg false [⟨(some 37),.op (.mov (.t 5)),none⟩,
    ⟨(some 38),.op (.no),none⟩,
    ⟨(some 39),.op (.bin .leq (.t 37) (.t 38)),none⟩,
    ⟨(some 40),.op (.mov (.t 39)),none⟩,
    ⟨(some 41),.op (.mov (.t 0)),(some (40,true))⟩,
    ⟨(some 42),.op (.len true (.t 41)),(some (40,true))⟩,
    ⟨(some 43),.op (.bin .leq (.t 42) (.c (.i .i64 64))),(some (40,true))⟩,
    ⟨(some 44),.op (.pick (.t 40) (.t 43) (.c (.b false))),none⟩,
    ⟨(some 36),.op (.mov (.t 44)),none⟩])
  (.cond (.t 36) (.seq (.reg false [⟨(some 45),.op (.mov (.t 0)),none⟩,
    ⟨(some 46),.op (.mov (.t 1)),none⟩,
    ⟨(some 47),.callF f_internal_bytealg_IndexString [(.t 45),(.t 46)],none⟩,
    ⟨(some 4),.op (.mov (.t 47)),none⟩])
  (.ret)) (.skip))))))))))
  (.seq (.reg false [⟨(some 48),.op (.mov (.t 1)),none⟩,
    ⟨(some 49),.op (.idxS (.t 48) (.c (.i .i64 0))),none⟩,
    ⟨(some 6),.op (.mov (.t 49)),none⟩])
  (.seq (.reg false [⟨(some 50),.op (.mov (.t 1)),none⟩,
    ⟨(some 51),.op (.idxS (.t 50) (.c (.i .i64 1))),none⟩,
    ⟨(some 7),.op (.mov (.t 51)),none⟩])
  (.seq (.reg false [⟨(some 8),.op (.mov (.c (.i .i64 0))),none⟩])
  (.seq (.reg false [⟨(some 52),.op (.mov (.t 0)),none⟩,
    ⟨(some 53),.op (.len true (.t 52)),none⟩,
    ⟨(some 54),.op (.mov (.t 5)),none⟩,
    ⟨(some 55),.op (.bin .sub (.t 53) (.t 54)),none⟩,
    ⟨(some 56),.op (.bin .add (.t 55) (.c (.i .i64 1))),none⟩,
    ⟨(some 9),.op (.mov (.t 56)),none⟩])
  (.seq (.reg false [⟨(some 10),.op (.mov (.c (.i .i64 0))),none⟩])
  (.seq (.blk 1 (.loop (.seq (.seq (.reg false [⟨(some 57),.op (.mov (.t 8)),none⟩,
    ⟨(some 58),.op (.mov (.t 9)),none⟩,
    ⟨(some 59),.op (.bin .lss (.t 57) (.t 58)),none⟩])
  (.cond (.t 59) (.skip) (.exit 1)))
  (.blk 2 (.seq (.seq (.reg false [⟨(some 60),.op (.mov (.t 0)),none⟩,
    ⟨(some 61),.op (.mov (.t 8)),none⟩,
    ⟨(some 62),.op (.idxS (.t 60) (.t 61)),none⟩,
    ⟨(some 63),.op (.mov (.t 6)),none⟩,
    ⟨(some 64),.op (.bin .neq (.t 62) (.t 63)),none⟩])
  (.cond (.t 64) (.seq (.reg false [⟨(some 65),.op (.mov (.t 0)),none⟩,
    ⟨(some 66),.op (.mov (.t 8)),none⟩,
    ⟨(some 67),.op (.bin .add (.t 66) (.c (.i .i64 1))),none⟩,
    ⟨(some 68),.op (.mov (.t 9)),none⟩,
    ⟨(some 69),.op (.slcStr (.t 65) (some (.t 67)) (some (.t 68))),none⟩,
    ⟨(some 70),.op (.mov (.t 6)),none⟩,
    ⟨(some 71),.callF f_internal_stringslite_IndexByte [(.t 69),(.t 70)],none⟩,
    ⟨(some 11),.op (.mov (.t 71)),none⟩])
  (.seq (.seq (.reg false [⟨(some 72),.op (.mov (.t 11)),none⟩,
    ⟨(some 73),.op (.bin .lss (.t 72) (.c (.i .i64 0))),none⟩])
  (.cond (.t 73) (.seq (.reg false [⟨(some 4),.op (.mov (.c (.i .i64 (-1)))),none⟩])
  (.ret)) (.skip)))
  (.reg false [⟨(some 74),.op (.mov (.t 8)),none⟩,
    ⟨(some 75),.op (.mov (.t 11)),none⟩,
    ⟨(some 76),.op (.bin .add (.t 75) (.c (.i .i64 1))),none⟩,
    ⟨(some 77),.op (.bin .add (.t 74) (.t 76)),none⟩,
    ⟨(some 8),.op (.mov (.t 77)),none⟩]))) (.skip)))
  (.seq (.seq (.reg false [⟨(some 78),.op (.mov (.t 0)),none⟩,
    ⟨(some 79),.op (.mov (.t 8)),none⟩,
    ⟨(some 80),.op (.bin .add (.t 79) (.c (.i .i64 1))),none⟩,
    ⟨(some 81),.op (.idxS (.t 78) (.t 80)),none⟩,
    ⟨(some 82),.op (.mov (.t 7)),none⟩,
    ⟨(some 83),.op (.bin .eql (.t 81) (.t 82)),none⟩,
    ⟨(some 84),.op (.mov (.t 83)),none⟩,
    ⟨(some 85),.op (.mov (.t 0)),(some (84,true))⟩,
    ⟨(some 86),.op (.mov (.t 8)),(some (84,true))⟩,
    ⟨(some 87),.op (.mov (.t 8)),(some (84,true))⟩,
    ⟨(some 88),.op (.mov (.t 5)),(some (84,true))⟩,
    ⟨(some 89),.op (.bin .add (.t 87) (.t 88)),(some (84,true))⟩,
    ⟨(some 90),.op (.slcStr (.t 85) (some (.t 86)) (some (.t 89))),(some (84,true))⟩,
    ⟨(some 91),.op (.mov (.t 1)),(some (84,true))⟩,
    ⟨(some 92),.op (.bin .eql (.t 90) (.t 91)),(some (84,true))⟩,
    ⟨(some 93),.op (.pick (.t 84) (.t 92) (.c (.b false))),none⟩])
  (.cond (.t 93) (.seq (.reg false [⟨(some 94),.op (.mov (.t 8)),none⟩,
    ⟨(some 4),.op (.mov (.t 94)),none⟩])
  (.ret)) (.skip)))
  (.seq (.reg false [⟨(some 95),.op (.mov (.t 8)),none⟩,
    ⟨(some 96),.op (.bin .add (.t 95) (.c (.i .i64 1))),none⟩,
    ⟨(some 8),.op (.mov (.t 96)),none⟩])
  (.seq (.reg false [⟨(some 97),.op (.mov (.t 10)),none⟩,
    ⟨(some 98),.op (.bin .add (.t 97) (.c (.i .i64 1))),none⟩,
    ⟨(some 10),.op (.mov (.t 98)),none⟩])
  (.seq (.reg false [⟨(some 99),.op (.mov (.t 5)),none⟩,
    ⟨(some 100),.op (.no),none⟩,
    ⟨(some 101),.op (.bin .leq (.t 99) (.t 100)),none⟩,
    ⟨(some 102),.op (.mov (.t 101)),none⟩,
    ⟨(some 103),.op (.mov (.t 10)),(some (102,true))⟩,
    ⟨(some 104),.op (.mov (.t 8)),(some (102,true))⟩,
    ⟨(some 105),.callF f_internal_bytealg_Cutover [(.t 104)],(some (102,true))⟩,
    ⟨(some 106),.op (.bin .gtr (.t 103) (.t 105)),(some (102,true))⟩,
    ⟨(some 107),.op (.pick (.t 102) (.t 106) (.c (.b false))),none⟩])
  (.cond (.t 107) (.seq (.reg false [⟨(some 108),.op (.mov (.t 0)),none⟩,
    ⟨(some 109),.op (.mov (.t 8)),none⟩,
    ⟨(some 110),.op (.slcStr (.t 108) (some (.t 109)) none),none⟩,
    ⟨(some 111),.op (.mov (.t 1)),none⟩,
    ⟨(some 112),.callF f_internal_bytealg_IndexString [(.t 110),(.t 111)],none⟩,
    ⟨(some 12),.op (.mov (.t 112)),none⟩])
  (.seq (.seq (.reg false [⟨(some 113),.op (.mov (.t 12)),none⟩,
    ⟨(some 114),.op (.bin .geq (.t 113) (.c (.i .i64 0))),none⟩])
  (.cond (.t 114) (.seq (.reg false [⟨(some 115),.op (.mov (.t 12)),none⟩,
    ⟨(some 116),.op (.mov (.t 8)),none⟩,
    ⟨(some 117),.op (.bin .add (.t 115) (.t 116)),none⟩,
    ⟨(some 4),.op (.mov (.t 117)),none⟩])
  (.ret)) (.skip)))
  (.seq (.reg false [⟨(some 4),.op (.mov (.c (.i .i64 (-1)))),none⟩])
  (.ret)))) (.seq (.reg false [⟨(some 118),.op (.mov (.t 5)),none⟩,
    ⟨(some 119),.op (.no),none⟩,
    ⟨(some 120),.op (.bin .gtr (.t 118) (.t 119)),none⟩,
    ⟨(some 121),.op (.mov (.t 120)),none⟩,
    ⟨(some 122),.op (.mov (.t 10)),(some (121,true))⟩,
    ⟨(some 123),.op (.mov (.t 8)),(some (121,true))⟩,
    ⟨(some 124),.op (.bin .shr (.t 123) (.c (.i .u64 4))),(some (121,true))⟩,
    ⟨(some 125),.op (.bin .add (.c (.i .i64 4)) (.t 124)),(some (121,true))⟩,
    ⟨(some 126),.op (.bin .geq (.t 122) (.t 125)),(some (121,true))⟩,
    ⟨(some 127),.op (.pick (.t 121) (.t 126) (.c (.b false))),none⟩,
    ⟨(some 128),.op (.mov (.t 127)),none⟩,
    ⟨(some 129),.op (.mov (.t 8)),(some (128,true))⟩,
    ⟨(some 130),.op (.mov (.t 9)),(some (128,true))⟩,
    ⟨(some 131),.op (.bin .lss (.t 129) (.t 130)),(some (128,true))⟩,
    ⟨(some 132),.op (.pick (.t 128) (.t 131) (.c (.b false))),none⟩])
  (.cond (.t 132) (.seq (.reg false [⟨(some 133),.op (.mov (.t 0)),none⟩,
    ⟨(some 134),.op (.mov (.t 8)),none⟩,
    ⟨(some 135),.op (.slcStr (.t 133) (some (.t 134)) none),none⟩,
    ⟨(some 136),.op (.mov (.t 1)),none⟩,
    ⟨(some 137),.callF f_internal_bytealg_IndexRabinKarp_string [(.t 135),(.t 136)],none⟩,
    ⟨(some 13),.op (.mov (.t 137)),none⟩])
  (.seq (.seq (.reg false [⟨(some 138),.op (.mov (.t 13)),none⟩,
    ⟨(some 139),.op (.bin .lss (.t 138) (.c (.i .i64 0))),none⟩])
  (.cond (.t 139) (.seq (.reg false [⟨(some 4),.op (.mov (.c (.i .i64 (-1)))),none⟩])
  (.ret)) (.skip)))
  (.seq (.reg false [⟨(some 140),.op (.mov (.t 8)),none⟩,
    ⟨(some 141),.op (.mov (.t 13)),none⟩,
    ⟨(some 142),.op (.bin .add (.t 140) (.t 141)),none⟩,
    ⟨(some 4),.op (.mov (.t 142)),none⟩])
  (.ret)))) (.skip)))))))))))))
  (.seq (.reg false [⟨(some 4),.op (.mov (.c (.i .i64 (-1)))),none⟩])
  (.ret))))))))))⟩
theorem qlK {g1 g2 g3 g4:Nat} (hc:qh P f (zP g1 g2 g3 g4) = true) (hg:∀ (a:List UInt8) (c:UInt8),qg P g1 [.s a,.i .u8 (c.toNat:Int)] (.i .i64 (wb c a 0))) (a:List UInt8):qg P f [.s a,.s [58]] (.i .i64 (wb 58 a 0)):=by
  refine qg.mk hc rfl ?_
  simp only [zP,qm,H0,mkT,mkH,trL,vI,simprocAttr]
  by_cases h:[58] = a
  · have h':([58] = a) = True:=eq_true h
    have hw:wb 58 a 0 = 0:=by rw [← h]; rfl
    simp only [↓vS,vT,shb,shv,qb,qc,cellsOf,wr,qa,simprocAttr,h']
    simp [vZ,hw]
  · simp only [↓vS,vT,shb,shv,qb,qc,cellsOf,wr,qa,simprocAttr,h]
    refine (hg a 58).sc ?_
    simp only [↓vS,vT,shb,shv,qb,qc,cellsOf,wr,qa,simprocAttr]
    simp [vZ]
def z0 (a:List UInt8):List UInt8 × List UInt8 × Bool:=if 0 ≤ wb 58 a 0 then (a.take (wb 58 a 0).toNat,a.drop ((wb 58 a 0).toNat + 1),true) else (a,[],false)
def z1 (f_internal_stringslite_Index:Nat):IFn:=⟨[.tmp 4,.tmp 5,.tmp 6],
  .seq (.reg false [⟨(some 4),.op (.mov (.c (.s []))),none⟩,
    ⟨(some 5),.op (.mov (.c (.s []))),none⟩,
    ⟨(some 6),.op (.mov (.c (.b false))),none⟩])
  (.seq (.seq (.reg false [⟨(some 8),.op (.mov (.t 0)),none⟩,
    ⟨(some 9),.op (.mov (.t 1)),none⟩,
    ⟨(some 10),.callF f_internal_stringslite_Index [(.t 8),(.t 9)],none⟩,
    ⟨(some 7),.op (.mov (.t 10)),none⟩])
  (.seq (.reg false [⟨(some 11),.op (.mov (.t 7)),none⟩,
    ⟨(some 12),.op (.bin .geq (.t 11) (.c (.i .i64 0))),none⟩])
  (.cond (.t 12) (.seq (.reg true [⟨(some 13),.op (.mov (.t 0)),none⟩,
    ⟨(some 14),.op (.mov (.t 7)),none⟩,
    ⟨(some 15),.op (.slcStr (.t 13) none (some (.t 14))),none⟩,
    ⟨(some 16),.op (.mov (.t 0)),none⟩,
    ⟨(some 17),.op (.mov (.t 7)),none⟩,
    ⟨(some 18),.op (.mov (.t 1)),none⟩,
    ⟨(some 19),.op (.len true (.t 18)),none⟩,
    ⟨(some 20),.op (.bin .add (.t 17) (.t 19)),none⟩,
    ⟨(some 21),.op (.slcStr (.t 16) (some (.t 20)) none),none⟩,
    ⟨(some 4),.op (.mov (.t 15)),none⟩,
    ⟨(some 5),.op (.mov (.t 21)),none⟩,
    ⟨(some 6),.op (.mov (.c (.b true))),none⟩])
  (.ret)) (.skip))))
  (.seq (.reg false [⟨(some 22),.op (.mov (.t 0)),none⟩,
    ⟨(some 4),.op (.mov (.t 22)),none⟩,
    ⟨(some 5),.op (.mov (.c (.s []))),none⟩,
    ⟨(some 6),.op (.mov (.c (.b false))),none⟩])
  (.ret)))⟩
theorem qoR {g1:Nat} (hc:qh P f (z1 g1) = true) (hg:∀ a,qg P g1 [.s a,.s [58]] (.i .i64 (wb 58 a 0))) (a:List UInt8) (ha:a.length ≤ 1000000):qg P f [.s a,.s [58]] (.tup [.s (z0 a).1,.s (z0 a).2.1,.b (z0 a).2.2]):=by
  refine qg.mk hc rfl ?_
  simp only [z1,qm,H0,mkT,mkH,trL,vI,simprocAttr]
  simp only [↓vS,vT,shb,shv,qb,qc,cellsOf,wr,qa,simprocAttr]
  refine (hg a).sc ?_
  rcases wN 58 a 0 with h | ⟨i,h,hi⟩
  · have hw:z0 a = (a,[],false):=by unfold z0; rw [h]; rfl
    rw [h,hw]
    simp only [↓vS,vT,shb,shv,qb,qc,cellsOf,wr,qa,simprocAttr]
    simp [vZ]
  · rw [Nat.zero_add] at h
    have h0:(0:Int) ≤ (i:Int):=by omega
    have hw:z0 a = (a.take i,a.drop (i + 1),true):=by unfold z0; rw [h,if_pos h0]; rfl
    have e1:IntKind.wrap .i64 ((i:Int) + 1) = ((i + 1:Nat):Int):=by rw [qE (by omega) (by omega)]; omega
    have h1:i ≤ a.length:=by omega
    have h2:i + 1 ≤ a.length:=by omega
    have h3:(i:Int) ≤ a.length:=by omega
    rw [h,hw]
    simp only [↓vS,vT,shb,shv,qb,qc,cellsOf,wr,qa,simprocAttr,h0]
    refine zU ?_
    simp only [↓vS,vT,shb,shv,qb,qc,cellsOf,wr,qa,simprocAttr,h1,h2,h3,e1]
    simp [vZ]
def vU (f_internal_stringslite_Cut:Nat):IFn:=⟨[.tmp 4,.tmp 5,.tmp 6],
  .seq (.reg false [⟨(some 4),.op (.mov (.c (.s []))),none⟩,
    ⟨(some 5),.op (.mov (.c (.s []))),none⟩,
    ⟨(some 6),.op (.mov (.c (.b false))),none⟩])
  (.seq (.reg false [⟨(some 7),.op (.mov (.t 0)),none⟩,
    ⟨(some 8),.op (.mov (.t 1)),none⟩,
    ⟨(some 9),.callF f_internal_stringslite_Cut [(.t 7),(.t 8)],none⟩,
    ⟨(some 10),.op (.ext (.t 9) 0),none⟩,
    ⟨(some 11),.op (.ext (.t 9) 1),none⟩,
    ⟨(some 12),.op (.ext (.t 9) 2),none⟩,
    ⟨(some 4),.op (.mov (.t 10)),none⟩,
    ⟨(some 5),.op (.mov (.t 11)),none⟩,
    ⟨(some 6),.op (.mov (.t 12)),none⟩])
  (.ret))⟩
theorem qre {g1:Nat} (hc:qh P f (vU g1) = true) (hg:∀ a:List UInt8,a.length ≤ 1000000 → qg P g1 [.s a,.s [58]] (.tup [.s (z0 a).1,.s (z0 a).2.1,.b (z0 a).2.2])) (a:List UInt8) (ha:a.length ≤ 1000000):qg P f [.s a,.s [58]] (.tup [.s (z0 a).1,.s (z0 a).2.1,.b (z0 a).2.2]):=by
  refine qg.mk hc rfl ?_
  simp only [vU,qm,H0,mkT,mkH,trL,vI,simprocAttr]
  simp only [↓vS,vT,shb,shv,qb,qc,cellsOf,wr,qa,simprocAttr]
  refine (hg a ha).sc ?_
  simp only [↓vS,vT,shb,shv,qb,qc,cellsOf,wr,qa,simprocAttr]
  simp [vZ]
structure Word where
  name:List UInt8
  act:Int
  has:Bool
def qK (w:Word):List AV:=[.s w.name,.i .u32 w.act,.b w.has]
noncomputable def ql (a:List UInt8):Word × Int :=
  if (z0 a).1 = [] then (⟨[],0,false⟩,161)
  else if (z0 a).2.2 = false then (⟨(z0 a).1,0,false⟩,0)
  else if (z0 a).2.1 = kX then (⟨(z0 a).1,2147483648,true⟩,0)
  else if (qD (z0 a).2.1).2 = 0 then (⟨(z0 a).1,327680 + (qD (z0 a).2.1).1,true⟩,0)
  else (⟨[],0,false⟩,(qD (z0 a).2.1).2)
theorem qkF (a:List UInt8):(z0 a).2.1.length ≤ a.length:=by
  unfold z0; split <;> simp
def v4 (f_strings_Cut f_names_Errno:Nat):IFn:=⟨[.cell 2 3 true,.tmp 3],
  .seq (.reg false [⟨(some 2),.op (.alloc [.s [],.i .u32 0,.b false]),none⟩,
    ⟨(some 3),.op (.mov (.c (.i .i64 0))),none⟩])
  (.seq (.reg false [⟨(some 11),.op (.mov (.t 0)),none⟩,
    ⟨(some 12),.callF f_strings_Cut [(.t 11),(.c (.s [58]))],none⟩,
    ⟨(some 10),.op (.mov (.t 12)),none⟩,
    ⟨(some 13),.op (.ext (.t 10) 0),none⟩,
    ⟨(some 14),.op (.ext (.t 10) 1),none⟩,
    ⟨(some 15),.op (.ext (.t 10) 2),none⟩,
    ⟨(some 4),.op (.mov (.t 13)),none⟩,
    ⟨(some 5),.op (.mov (.t 14)),none⟩,
    ⟨(some 6),.op (.mov (.t 15)),none⟩])
  (.seq (.seq (.reg false [⟨(some 16),.op (.mov (.t 4)),none⟩,
    ⟨(some 17),.op (.bin .eql (.t 16) (.c (.s []))),none⟩])
  (.cond (.t 17) (.seq (.reg false [⟨(some 18),.op (.build [.s [],.i .u32 0,.b false] []),none⟩,
    ⟨none,.op (.store 3 (.t 2) (.t 18)),none⟩,
    ⟨(some 3),.op (.mov (.c (.i .i64 161))),none⟩])
  (.ret)) (.skip)))
  (.seq (.reg false [⟨(some 19),.op (.mov (.t 4)),none⟩,
    ⟨(some 20),.op (.mov (.t 6)),none⟩,
    ⟨(some 21),.op (.build [.s [],.i .u32 0,.b false] [(0,1,(.t 19)),(2,1,(.t 20))]),none⟩,
    ⟨(some 7),.op (.alloc [.s [],.i .u32 0,.b false]),none⟩,
    ⟨none,.op (.store 3 (.t 7) (.t 21)),none⟩])
  (.seq (.blk 0 (.seq (.reg false [⟨(some 35),.op (.mov (.t 6)),none⟩,
    ⟨(some 36),.op (.un .not (.t 35)),none⟩,
    ⟨(some 34),.op (.mov (.t 36)),none⟩])
  (.cond (.t 34) (.skip) (.seq (.reg false [⟨(some 38),.op (.mov (.t 5)),none⟩,
    ⟨(some 39),.op (.bin .eql (.t 38) (.c (.s [107,105,108,108]))),none⟩,
    ⟨(some 37),.op (.mov (.t 39)),none⟩])
  (.cond (.t 37) (.reg false [⟨(some 40),.op (.fAddr 1 (.t 7)),none⟩,
    ⟨none,.op (.store 1 (.t 40) (.c (.i .u32 2147483648))),none⟩]) (.seq (.reg false [⟨(some 23),.op (.mov (.t 5)),none⟩,
    ⟨(some 24),.callF f_names_Errno [(.t 23)],none⟩,
    ⟨(some 22),.op (.mov (.t 24)),none⟩,
    ⟨(some 25),.op (.ext (.t 22) 0),none⟩,
    ⟨(some 26),.op (.ext (.t 22) 1),none⟩,
    ⟨(some 8),.op (.mov (.t 25)),none⟩,
    ⟨(some 9),.op (.mov (.t 26)),none⟩])
  (.seq (.seq (.reg false [⟨(some 27),.op (.mov (.t 9)),none⟩,
    ⟨(some 28),.op (.bin .neq (.t 27) (.c (.i .i64 0))),none⟩])
  (.cond (.t 28) (.seq (.reg false [⟨(some 29),.op (.build [.s [],.i .u32 0,.b false] []),none⟩,
    ⟨(some 30),.op (.mov (.t 9)),none⟩,
    ⟨none,.op (.store 3 (.t 2) (.t 29)),none⟩,
    ⟨(some 3),.op (.mov (.t 30)),none⟩])
  (.ret)) (.skip)))
  (.reg false [⟨(some 31),.op (.mov (.t 8)),none⟩,
    ⟨(some 32),.op (.bin .or (.c (.i .u32 327680)) (.t 31)),none⟩,
    ⟨(some 33),.op (.fAddr 1 (.t 7)),none⟩,
    ⟨none,.op (.store 1 (.t 33) (.t 32)),none⟩]))))))))
  (.seq (.reg false [⟨(some 41),.op (.loadN 3 (.t 7)),none⟩,
    ⟨none,.op (.store 3 (.t 2) (.t 41)),none⟩,
    ⟨(some 3),.op (.mov (.c (.i .i64 0))),none⟩])
  (.ret))))))⟩
theorem qht {g1 g2:Nat} (hc:qh P f (v4 g1 g2) = true) (h1:∀ a:List UInt8,a.length ≤ 1000000 → qg P g1 [.s a,.s [58]] (.tup [.s (z0 a).1,.s (z0 a).2.1,.b (z0 a).2.2]))
    (h2:∀ s:List UInt8,s.length ≤ 1000000 → qg P g2 [.s s] (.tup [.i .u32 (qD s).1,.i .i64 (qD s).2])) (a:List UInt8) (ha:a.length ≤ 1000000):qg P f [.s a] (.tup [.agg (qK (ql a).1),.i .i64 (ql a).2]):=by
  refine qg.mk hc rfl ?_
  simp only [v4,qm,H0,mkT,mkH,trL,vI,simprocAttr]
  simp only [↓vS,vT,shb,shv,qb,qc,cellsOf,wr,qa,simprocAttr]
  refine (h1 a ha).sc ?_
  by_cases e1:(z0 a).1 = []
  · have hw:ql a = (⟨[],0,false⟩,161):=if_pos e1
    rw [hw]
    simp only [↓vS,vT,shb,shv,qb,qc,cellsOf,wr,qa,simprocAttr,e1,qK]
    simp [vZ]
  cases e2:(z0 a).2.2 with
  | false =>
    have hw:ql a = (⟨(z0 a).1,0,false⟩,0):=by unfold ql; rw [if_neg e1,if_pos e2]
    rw [hw]
    simp only [↓vS,vT,shb,shv,qb,qc,cellsOf,wr,qa,simprocAttr,e1,qK]
    simp [vZ]
  | true =>
    by_cases e3:(z0 a).2.1 = kX
    · have hw:ql a = (⟨(z0 a).1,2147483648,true⟩,0):=by unfold ql; rw [if_neg e1,if_neg (by rw [e2]; decide),if_pos e3]
      rw [hw]
      simp only [kX] at e3
      have e3':((z0 a).2.1 = [107,105,108,108]) = True:=eq_true e3
      simp only [↓vS,vT,shb,shv,qb,qc,cellsOf,wr,qa,simprocAttr,e1,e3',qK]
      simp [vZ]
    · have e3':¬ (z0 a).2.1 = [107,105,108,108]:=e3
      simp only [↓vS,vT,shb,shv,qb,qc,cellsOf,wr,qa,simprocAttr,e1,e3',qK]
      refine (h2 _ (by have:=qkF a; omega)).sc ?_
      obtain ⟨q0,q1,q2⟩:=vx (z0 a).2.1
      by_cases e4:(qD (z0 a).2.1).2 = 0
      · have hw:ql a = (⟨(z0 a).1,327680 + (qD (z0 a).2.1).1,true⟩,0):=by unfold ql; rw [if_neg e1,if_neg (by rw [e2]; decide),if_neg e3,if_pos e4]
        rw [hw]
        have hwr:=vo (x:=327680 + (qD (z0 a).2.1).1) (by omega) (by omega)
        simp only [↓vS,vT,shb,shv,qb,qc,cellsOf,wr,qa,simprocAttr,e4,qcW,hwr]
        simp [vZ,vP,Tr.get_set,qK]
      · have hw:ql a = (⟨[],0,false⟩,(qD (z0 a).2.1).2):=by unfold ql; rw [if_neg e1,if_neg (by rw [e2]; decide),if_neg e3,if_neg e4]
        rw [hw]
        simp only [↓vS,vT,shb,shv,qb,qc,cellsOf,wr,qa,simprocAttr,e4]
        simp [vZ,vP,Tr.get_set,qK]
end Go.Kc
end
section
/- Lists and notes are the same as themselves. Condition: the functions' texts are these. -/
namespace Go.Kc
variable {P:Program} {f:Nat}
def jc:IFn:=⟨[.tmp 4],
  .seq (.reg false [⟨(some 4),.op (.mov (.c (.b false))),none⟩])
  (.seq (.seq (.reg false [⟨(some 6),.op (.mov (.t 0)),none⟩,
    ⟨(some 7),.op (.len false (.t 6)),none⟩,
    ⟨(some 8),.op (.mov (.t 1)),none⟩,
    ⟨(some 9),.op (.len false (.t 8)),none⟩,
    ⟨(some 10),.op (.bin .neq (.t 7) (.t 9)),none⟩])
  (.cond (.t 10) (.seq (.reg false [⟨(some 4),.op (.mov (.c (.b false))),none⟩])
  (.ret)) (.skip)))
  (.seq (.seq (.reg false [⟨(some 5),.op (.mov (.c (.i .i64 0))),none⟩])
  (.blk 0 (.loop (.seq (.seq (.reg false [⟨(some 11),.op (.mov (.t 5)),none⟩,
    ⟨(some 12),.op (.mov (.t 0)),none⟩,
    ⟨(some 13),.op (.len false (.t 12)),none⟩,
    ⟨(some 14),.op (.bin .lss (.t 11) (.t 13)),none⟩])
  (.cond (.t 14) (.skip) (.exit 0)))
  (.seq (.blk 1 (.seq (.reg true [⟨(some 17),.op (.mov (.t 0)),none⟩,
    ⟨(some 18),.op (.mov (.t 5)),none⟩,
    ⟨(some 19),.op (.iAddrS 4 (.t 17) (.t 18)),none⟩,
    ⟨(some 20),.op (.loadN 4 (.t 19)),none⟩,
    ⟨(some 21),.op (.mov (.t 1)),none⟩,
    ⟨(some 22),.op (.mov (.t 5)),none⟩,
    ⟨(some 23),.op (.iAddrS 4 (.t 21) (.t 22)),none⟩,
    ⟨(some 24),.op (.loadN 4 (.t 23)),none⟩,
    ⟨(some 25),.op (.eqA true [.s,.i,.i,.s] (.t 20) (.t 24)),none⟩])
  (.cond (.t 25) (.seq (.reg false [⟨(some 4),.op (.mov (.c (.b false))),none⟩])
  (.ret)) (.skip))))
  (.reg false [⟨(some 15),.op (.mov (.t 5)),none⟩,
    ⟨(some 16),.op (.bin .add (.t 15) (.c (.i .i64 1))),none⟩,
    ⟨(some 5),.op (.mov (.t 16)),none⟩]))))))
  (.seq (.reg false [⟨(some 4),.op (.mov (.c (.b true))),none⟩])
  (.ret))))⟩
theorem qcj (hc:qh P f jc = true) (l:List GNote) (hl:l.length ≤ 100000):qg P f [.fz l.length (rN l),.fz l.length (rN l)] (.b true):=by
  refine qg.mk hc (by simp [qC,clo,qj]) ?_
  simp only [jc,qm,H0,mkT,mkH,trL,vI,simprocAttr]
  simp only [↓vS,vT,shb,shv,qb,qc,cellsOf,wr,qa,simprocAttr]
  refine SL.loop (α:=Nat) (fun j=>[(0,.fz l.length (rN l)),(1,.fz l.length (rN l)),(4,.b false),(5,.i .i64 j)]) (fun _=>[]) (fun _=>True) (fun j=>l.length - j) 0 [] ?_ ?_ ?_ rfl ?_ ?_
  · simp [vw,qj]
  · trivial
  · simp
  · trivial
  rintro j - G ih
  simp only [qm,H0,mkT,mkH,trL,vI,simprocAttr]
  by_cases hlt:j < l.length
  · have hx:l[j]? = some l[j]:=List.getElem?_eq_getElem hlt
    have he:=qmx hx
    have hb:=qjZ hlt
    have hw:IntKind.wrap .i64 ((j:Int) + 1) = ((j + 1:Nat):Int):=by rw [qE (by omega) (by omega)]; omega
    simp only [↓vS,vT,shb,shv,qb,qc,cellsOf,wr,qa,simprocAttr,hlt]
    refine zU ?_
    simp (decide:=true) only [↓vS,vT,shb,shv,qb,qc,cellsOf,wr,qa,simprocAttr,hlt,hb,he,qaY,hw,beq_self_eq_true]
    refine ih (j + 1) trivial (by omega) _ _ (Wk.mk _ _ [] ?_ ?_ ?_ rfl)
    · simp [vw,qj]
    · trivial
    · simp
  · simp only [↓vS,vT,shb,shv,qb,qc,cellsOf,wr,qa,simprocAttr,hlt,vZ]
end Go.Kc
end
section
/- What a word of a list stands for: fold.members, of what groups.Expand answers. Condition: the functions' texts are these. -/
namespace Go.Kc
variable {P:Program} {f:Nat}
def qbS (E:List UInt8 → List (List UInt8) × Int) (P:Program) (f:Nat):Prop:=∀ s:List UInt8,qg P f [.s s] (.tup [.fz (E s).1.length (rS (E s).1),.i .i64 (E s).2])
def zB (E:List UInt8 → List (List UInt8) × Int) (s:List UInt8):List (List UInt8) × Int:=if [64].isPrefixOf s = true then E s else if zn s = true then ([s],0) else ([],90)
def jf (f_internal_stringslite_HasPrefix:Nat):IFn:=⟨[.tmp 4],
  .seq (.reg false [⟨(some 4),.op (.mov (.c (.b false))),none⟩])
  (.seq (.reg false [⟨(some 5),.op (.mov (.t 0)),none⟩,
    ⟨(some 6),.op (.mov (.t 1)),none⟩,
    ⟨(some 7),.callF f_internal_stringslite_HasPrefix [(.t 5),(.t 6)],none⟩,
    ⟨(some 4),.op (.mov (.t 7)),none⟩])
  (.ret))⟩
theorem qa1 {g:Nat} (hc:qh P f (jf g) = true) (hg:∀ s p:List UInt8,qg P g [.s s,.s p] (.b (p.isPrefixOf s))) (s p:List UInt8):qg P f [.s s,.s p] (.b (p.isPrefixOf s)):=by
  refine qg.mk hc rfl ?_
  simp only [jf,qm,H0,mkT,mkH,trL,vI,simprocAttr]
  simp only [↓vS,vT,shb,shv,qb,qc,cellsOf,wr,qa,simprocAttr]
  refine (hg s p).sc ?_
  simp only [↓vS,vT,shb,shv,qb,qc,cellsOf,wr,qa,simprocAttr,vZ]
def ve (f_strings_HasPrefix f_groups_Expand f_calls_Known:Nat):IFn:=⟨[.tmp 2,.tmp 3],
  .seq (.reg false [⟨(some 2),.op (.mov (.c (.nils))),none⟩,
    ⟨(some 3),.op (.mov (.c (.i .i64 0))),none⟩])
  (.seq (.blk 0 (.seq (.reg false [⟨(some 5),.op (.mov (.t 0)),none⟩,
    ⟨(some 6),.callF f_strings_HasPrefix [(.t 5),(.c (.s [64]))],none⟩,
    ⟨(some 4),.op (.mov (.t 6)),none⟩])
  (.cond (.t 4) (.seq (.reg false [⟨(some 7),.op (.mov (.t 0)),none⟩,
    ⟨(some 8),.callF f_groups_Expand [(.t 7)],none⟩,
    ⟨(some 9),.op (.ext (.t 8) 0),none⟩,
    ⟨(some 10),.op (.ext (.t 8) 1),none⟩,
    ⟨(some 2),.op (.mov (.t 9)),none⟩,
    ⟨(some 3),.op (.mov (.t 10)),none⟩])
  (.ret)) (.seq (.reg false [⟨(some 12),.op (.mov (.t 0)),none⟩,
    ⟨(some 13),.callF f_calls_Known [(.t 12)],none⟩,
    ⟨(some 11),.op (.mov (.t 13)),none⟩])
  (.cond (.t 11) (.seq (.reg false [⟨(some 14),.op (.mov (.t 0)),none⟩,
    ⟨(some 15),.op (.buildS 1 [.s []] [(0,1,(.t 14))]),none⟩,
    ⟨(some 2),.op (.mov (.t 15)),none⟩,
    ⟨(some 3),.op (.mov (.c (.i .i64 0))),none⟩])
  (.ret)) (.skip))))))
  (.seq (.reg false [⟨(some 2),.op (.mov (.c (.nils))),none⟩,
    ⟨(some 3),.op (.mov (.c (.i .i64 90))),none⟩])
  (.ret)))⟩
theorem qeb {g1 g2 g3:Nat} (hc:qh P f (ve g1 g2 g3) = true) (E:List UInt8 → List (List UInt8) × Int) (h1:∀ s p:List UInt8,qg P g1 [.s s,.s p] (.b (p.isPrefixOf s))) (h2:qbS E P g2) (h3:∀ s,qg P g3 [.s s] (.b (zn s))):qbS (zB E) P f:=by
  intro s
  refine qg.mk hc rfl ?_
  simp only [ve,qm,H0,mkT,mkH,trL,vI,simprocAttr]
  simp only [↓vS,vT,shb,shv,qb,qc,cellsOf,wr,qa,simprocAttr]
  refine (h1 s [64]).sc ?_
  cases e1:[64].isPrefixOf s with
  | true =>
    have hw:zB E s = E s:=if_pos e1
    rw [hw]
    simp only [↓vS,vT,shb,shv,qb,qc,cellsOf,wr,qa,simprocAttr]
    refine (h2 s).sc ?_
    simp only [↓vS,vT,shb,shv,qb,qc,cellsOf,wr,qa,simprocAttr]
    simp [vZ]
  | false =>
    simp only [↓vS,vT,shb,shv,qb,qc,cellsOf,wr,qa,simprocAttr]
    refine (h3 s).sc ?_
    cases e2:zn s with
    | true =>
      have hw:zB E s = ([s],0):=by unfold zB; rw [if_neg (by rw [e1]; decide),if_pos e2]
      rw [hw]
      simp only [↓vS,vT,shb,shv,qb,qc,cellsOf,wr,qa,simprocAttr]
      simp [vZ,vP,Tr.get_set,rS]
      exact Frz.cut 1 rfl (Nat.le_refl _) (by simp [vP,Tr.get_set,vZ])
    | false =>
      have hw:zB E s = ([],90):=by unfold zB; rw [if_neg (by rw [e1]; decide),if_neg (by rw [e2]; decide)]
      rw [hw]
      simp only [↓vS,vT,shb,shv,qb,qc,cellsOf,wr,qa,simprocAttr]
      simp [vZ,rS]
end Go.Kc
end
section
/- A note of a word: what fold.Step's closure does. Condition: the function's text is this. -/
namespace Go.Kc
variable {P:Program} {f:Nat}
def v9:IFn:=⟨[],
  .reg true [⟨(some 4),.op (.load1 (.t 1)),none⟩,
    ⟨(some 5),.op (.mov (.t 0)),none⟩,
    ⟨(some 6),.op (.load1 (.t 2)),none⟩,
    ⟨(some 7),.op (.load1 (.t 2)),none⟩,
    ⟨(some 8),.op (.len true (.t 7)),none⟩,
    ⟨(some 9),.op (.min (.t 8) (.c (.i .i64 60))),none⟩,
    ⟨(some 10),.op (.slcStr (.t 6) none (some (.t 9))),none⟩,
    ⟨(some 11),.op (.build [.s [],.i .i64 0,.i .i64 0,.s []] [(2,1,(.t 5)),(3,1,(.t 10))]),none⟩,
    ⟨(some 12),.op (.buildS 1 [.s [],.i .i64 0,.i .i64 0,.s []] [(0,4,(.t 11))]),none⟩,
    ⟨(some 13),.op (.app 4 48 true (.t 4) (.t 12)),none⟩,
    ⟨none,.op (.store 1 (.t 1) (.t 13)),none⟩]⟩
def zk (e:Int) (w:List UInt8):GNote:=⟨[],0,e,w.take 60⟩
theorem qh3 (hc:qh P f v9 = true) (ns:List GNote) (e:Int) (w:List UInt8) (hr:(ns.length + 1) * 48 ≤ qi) :
    Upd P f [.i .i64 e,.ptr 0 0,.ptr 1 0] [.cells 0 true false [.own 2 ns.length],.cells 0 true false [.s w],.cells 4 true true (rN ns)] (.tup []) [.cells 0 true false [.own 3 (ns ++ [zk e w]).length],.cells 0 true false [.s w],.dead,.cells 4 true true (rN (ns ++ [zk e w]))]:=by
  refine Upd.mk hc (by simp [zZ,bnd]) (by simp) ?_
  simp only [v9,qm,H0,mkT,mkH,trL,vI,simprocAttr]
  simp only [↓vS,vT,shb,shv,qb,qc,cellsOf,wr,qa,simprocAttr]
  refine zU ?_
  have hr1:ns.length + 1 ≤ qi:=by omega
  have fin:∀ tt,tt = w.take 60 → rN ns ++ [AV.s [],.i .i64 0,.i .i64 e,.s tt] = rN (ns ++ [zk e w]):=by
    intro tt ht; subst ht; rw [← qaw]; rfl
  by_cases h60:(60:Int) < w.length
  · have h1:60 ≤ w.length:=by omega
    simp only [↓vS,vT,shb,shv,qb,qc,cellsOf,wr,qa,simprocAttr,h60,h1,hr1,hr,kh,fin _ rfl]
    intro _
    refine ⟨[0,1,2,4],?_⟩
    simp [vw,qe,qj]
    try decide
  · have h1:w.take 60 = w:=List.take_of_length_le (by omega)
    simp only [↓vS,vT,shb,shv,qb,qc,cellsOf,wr,qa,simprocAttr,h60,hr1,hr,kh,List.take_length,fin _ h1.symm]
    intro _
    refine ⟨[0,1,2,4],?_⟩
    simp [vw,qe,qj]
    try decide
end Go.Kc
end
section
/- What fold.Step makes of a list, in plain words. No condition. -/
namespace Go.Kc
variable (E:List UInt8 → List (List UInt8) × Int)
noncomputable def zh (ins:Bool) (act:Int) (l:GList) (n:List UInt8):GList:=if ins = true then wZ l n act else jF l n
noncomputable def qH (fl t:Bool) (s:GList × List GNote) (w:List UInt8):GList × List GNote :=
  if (ql w).2 ≠ 0 then (s.1,s.2 ++ [zk (ql w).2 w])
  else if (zB E (ql w).1.name).2 ≠ 0 then (s.1,s.2 ++ [zk (zB E (ql w).1.name).2 w])
  else if (ql w).1.has = false then ((zB E (ql w).1.name).1.foldl (zh (decide (s.1.mode - 1 = if t = true then 1 else 0)) (ql w).1.act) s.1,s.2)
  else if fl = false ∨ t = false then ((zB E (ql w).1.name).1.foldl (zh (decide (s.1.mode - 1 = if t = true then 1 else 0)) 0) s.1,s.2 ++ [zk 161 w])
  else ((zB E (ql w).1.name).1.foldl (zh true (ql w).1.act) s.1,s.2)
noncomputable def qR (l:GList) (v:List UInt8) (fl:Bool):GList × List GNote :=
  if zA l = false then (l,[])
  else if qt v = [] then (⟨0,[]⟩,[])
  else (qt (zj v).1).foldl (qH E fl (zj v).2) (⟨if l.mode = 0 then (if (zj v).2 = true then 2 else 1) else l.mode,l.calls⟩,[])
theorem qbv (l:GList) (s:List UInt8) (n:Int):(wZ l s n).mode = l.mode:=by unfold wZ; split <;> rfl
theorem qam (l:GList) (s:List UInt8):(jF l s).mode = l.mode:=by unfold jF; split <;> rfl
theorem qc5 (ins:Bool) (act:Int) (l:GList) (n:List UInt8):(zh ins act l n).mode = l.mode:=by
  unfold zh; split
  · exact qbv _ _ _
  · exact qam _ _
theorem yh (ins:Bool) (act:Int) (ns:List (List UInt8)):∀ l:GList,(ns.foldl (zh ins act) l).mode = l.mode:=by
  induction ns with
  | nil=>intro l; rfl
  | cons n ns ih=>intro l; rw [List.foldl_cons,ih,qc5]
end Go.Kc
end
section
/- The order of names; lists that rise; what Put and Take make of these. No condition. -/
namespace Go.Kc
theorem yB:∀ a:List UInt8,ltS a a = false
  | []=>rfl
  | c :: x=>by rw [ko,if_neg (UInt8.lt_irrefl c),if_pos rfl]; exact yB x
theorem wQ:∀ {a b c:List UInt8},ltS a b = true → ltS b c = true → ltS a c = true
  | _,[],[],_,h2=>by simp [qgk] at h2
  | _,_ :: _,[],_,h2=>by simp [qcu] at h2
  | [],_,_ :: _,_,_=>rfl
  | _ :: _,[],_ :: _,h1,_=>by simp [qcu] at h1
  | a :: x,b :: y,c :: z,h1,h2=>by
    rw [ko] at h1 h2 ⊢
    simp only [UInt8.lt_iff_toNat_lt,← UInt8.toNat_inj] at h1 h2 ⊢
    by_cases e1:a.toNat < b.toNat
    · by_cases e2:b.toNat < c.toNat
      · rw [if_pos (by omega)]
      · rw [if_neg e2] at h2
        split at h2
        · rw [if_pos (by omega)]
        · cases h2
    · rw [if_neg e1] at h1
      split at h1
      · rename_i e3
        by_cases e2:b.toNat < c.toNat
        · rw [if_pos (by omega)]
        · rw [if_neg e2] at h2
          split at h2
          · rw [if_neg (by omega),if_pos (by omega)]; exact wQ h1 h2
          · cases h2
      · cases h1
theorem qaX:∀ a b:List UInt8,ltS a b = true ∨ a = b ∨ ltS b a = true
  | [],[]=>.inr (.inl rfl)
  | [],_ :: _=>.inl rfl
  | _ :: _,[]=>.inr (.inr rfl)
  | a :: x,b :: y=>by
    rw [ko,ko]
    simp only [UInt8.lt_iff_toNat_lt,← UInt8.toNat_inj]
    rcases Nat.lt_trichotomy a.toNat b.toNat with h | h | h
    · left; rw [if_pos h]
    · obtain rfl:=UInt8.toNat_inj.1 h
      simp only [Nat.lt_irrefl,if_false,if_true]
      rcases qaX x y with h | h | h
      · exact .inl h
      · exact .inr (.inl (by rw [h]))
      · exact .inr (.inr h)
    · right; right; rw [if_pos h]
theorem vG {a b:List UInt8} (h:ltS a b = true):ltS b a = false:=by
  cases h2:ltS b a with
  | false=>rfl
  | true=>have:=wQ h h2; rw [yB] at this; cases this
theorem qaq {a b:List UInt8} (h:ltS a b = true):a ≠ b:=by
  intro e; rw [e,yB] at h; cases h
theorem qkd {a b:List UInt8}:(zz a b < 0) ↔ ltS a b = true:=by
  unfold zz
  split
  · rename_i h; rw [h,yB]; simp
  · split
    · rename_i h; simp [h]
    · rename_i h; simp [h]
theorem qdz {a b:List UInt8}:(zz a b = 0) ↔ a = b:=by
  unfold zz
  split
  · rename_i h; simp [h]
  · rename_i h; split <;> simp [h]
def Up (l:List GCall):Prop:=l.Pairwise fun a b=>ltS a.name b.name = true
theorem qc7:∀ (o:Option GCall) (l:List GCall),zQ o l = true ↔ ((∀ c ∈ l,okC c = true) ∧ Up l ∧ ∀ b,o = some b → ∀ c ∈ l,ltS b.name c.name = true)
  | o,[]=>by simp [zQ,Up]
  | o,c :: l=>by
    have ih:=qc7 (some c) l
    simp only [zQ,Bool.and_eq_true,ih,Up,List.pairwise_cons,List.mem_cons,forall_eq_or_imp]
    constructor
    · rintro ⟨⟨h1,h2⟩,h3,h4,h5⟩
      refine ⟨⟨h1,h3⟩,⟨h5 c rfl,h4⟩,?_⟩
      rintro b rfl
      exact ⟨h2,fun d hd=>wQ h2 (h5 c rfl d hd)⟩
    · rintro ⟨⟨h1,h3⟩,⟨h5,h4⟩,h6⟩
      refine ⟨⟨h1,?_⟩,h3,h4,?_⟩
      · cases o with
        | none=>rfl
        | some b=>exact (h6 b rfl).1
      · rintro b hb; cases hb; exact h5
theorem z8 (l:GList):zA l = true ↔ (l.mode ≤ 2 ∧ (l.mode ≠ 0 ∨ l.calls = [])) ∧ (∀ c ∈ l.calls,okC c = true) ∧ Up l.calls:=by
  unfold zA
  rw [Bool.and_eq_true,Bool.and_eq_true,Bool.or_eq_true,decide_eq_true_eq,decide_eq_true_eq,decide_eq_true_eq,qc7]
  simp
theorem qcr {α:Type} (p:α → Bool) (l:List α) (n:Nat) (h1:∀ x ∈ l.take n,p x = true) (h2:∀ x ∈ l.drop n,p x = false):l.filter p = l.take n ∧ l.filter (fun x=>!p x) = l.drop n:=by
  have e:l = l.take n ++ l.drop n:=(List.take_append_drop n l).symm
  constructor
  · conv=>lhs; rw [e,List.filter_append]
    rw [List.filter_eq_self.2 h1,List.filter_eq_nil_iff.2 (fun x hx=>by rw [h2 x hx]; decide),List.append_nil]
  · conv=>lhs; rw [e,List.filter_append]
    rw [List.filter_eq_nil_iff.2 (fun x hx=>by rw [h1 x hx]; decide),List.filter_eq_self.2 (fun x hx=>by rw [h2 x hx]; rfl),List.nil_append]
theorem qlE {l:List GCall} (hu:Up l) (s:List UInt8):(∀ c ∈ l.take (bsC l fun c=>zz c.name s),ltS c.name s = true) ∧ ∀ c ∈ l.drop (bsC l fun c=>zz c.name s),ltS c.name s = false:=by
  have hq:∀ k c,l[k]? = some c → bsQ l (fun c=>zz c.name s) k = ltS c.name s:=by
    intro k c hc
    unfold bsQ; rw [hc]
    show decide (zz c.name s < 0) = _
    rw [Bool.eq_iff_iff,decide_eq_true_iff,qkd]
  have h:=qkm (bsQ l fun c=>zz c.name s) (fun a b hab hb=>by
    rcases Nat.lt_or_ge b l.length with hbl | hbl
    · have hx:l[b]? = some l[b]:=List.getElem?_eq_getElem hbl
      have hy:l[a]? = some l[a]:=List.getElem?_eq_getElem (by omega)
      rw [hq b _ hx] at hb
      rw [hq a _ hy]
      rcases Nat.lt_or_eq_of_le hab with h | h
      · exact wQ (List.pairwise_iff_getElem.1 hu a b (by omega) hbl h) hb
      · subst h; exact hb
    · unfold bsQ at hb; rw [List.getElem?_eq_none hbl] at hb; cases hb) _ 0 l.length rfl (Nat.zero_le _) (fun a ha=>by omega) (fun a ha=>by unfold bsQ; rw [List.getElem?_eq_none ha]; rfl)
  constructor
  · intro c hc
    obtain ⟨k,hk,rfl⟩:=List.getElem_of_mem hc
    rw [List.length_take] at hk
    have hk:=Nat.lt_min.1 hk
    have:=h.1 k hk.1
    rw [hq k l[k] (List.getElem?_eq_getElem hk.2)] at this
    rw [List.getElem_take]; exact this
  · intro c hc
    obtain ⟨k,hk,rfl⟩:=List.getElem_of_mem hc
    rw [List.length_drop] at hk
    have:=h.2 (bsC l (fun c=>zz c.name s) + k) (by show bsC l _ ≤ _; omega)
    rw [hq _ l[bsC l (fun c=>zz c.name s) + k] (List.getElem?_eq_getElem (by omega))] at this
    rw [List.getElem_drop]; exact this
theorem qb7 {l:List GCall} (hu:Up l) (s:List UInt8) (n:Int):qaS l s n = l.filter (fun c=>ltS c.name s) ++ ⟨s,n⟩ :: l.filter (fun c=>ltS s c.name):=by
  obtain ⟨h1,h2⟩:=qlE hu s
  obtain ⟨e1,e2⟩:=qcr (fun c=>ltS c.name s) l _ h1 h2
  have hcut:l = l.take (bsC l fun c=>zz c.name s) ++ l.drop (bsC l fun c=>zz c.name s):=(List.take_append_drop _ l).symm
  have hA:(l.take (bsC l fun c=>zz c.name s)).filter (fun c=>ltS s c.name) = []:=by
    rw [List.filter_eq_nil_iff]
    intro c hc; rw [vG (h1 c hc)]; decide
  have hud:Up (l.drop (bsC l fun c=>zz c.name s)):=List.Pairwise.sublist (List.drop_sublist _ _) hu
  have e3:l.filter (fun c=>ltS s c.name) = (l.drop (bsC l fun c=>zz c.name s)).filter (fun c=>ltS s c.name):=by
    conv=>lhs; rw [hcut,List.filter_append,hA,List.nil_append]
  rw [e1,e3]
  unfold qaS
  generalize hN:bsC l (fun c=>zz c.name s) = N at *
  by_cases hlt:N < l.length
  · have hx:l[N]? = some l[N]:=List.getElem?_eq_getElem hlt
    rw [List.drop_eq_getElem_cons hlt] at hud h2 ⊢
    have hud':=List.pairwise_cons.1 hud
    rw [hx]
    show (if decide (zz l[N].name s = 0) = true then _ else _) = _
    by_cases he:zz l[N].name s = 0
    · rw [if_pos (decide_eq_true he),List.set_eq_take_append_cons_drop,if_pos hlt]
      have he2:=qdz.1 he
      rw [List.filter_cons,he2,yB,if_neg (by decide),List.filter_eq_self.2]
      intro c hc; rw [← he2]; exact hud'.1 c hc
    · rw [if_neg (by simpa using he)]
      have hne:¬ l[N].name = s:=fun h=>he (qdz.2 h)
      have hs:ltS s l[N].name = true:=by
        rcases qaX s l[N].name with h | h | h
        · exact h
        · exact absurd h.symm hne
        · rw [h2 _ List.mem_cons_self] at h; cases h
      rw [List.filter_eq_self.2]
      intro c hc
      rcases List.mem_cons.1 hc with rfl | hc
      · exact hs
      · exact wQ hs (hud'.1 c hc)
  · rw [List.getElem?_eq_none (by omega),List.drop_eq_nil_of_le (by omega)]
    rfl
theorem yD (l:List GCall) (p:List UInt8 → Bool) (t:List UInt8):wE (l.filter fun c=>p c.name) t = if p t = true then wE l t else none:=by
  unfold wE
  rw [List.find?_filter]
  cases h:p t with
  | true =>
    rw [if_pos rfl]
    congr 1; funext c
    by_cases e:c.name = t
    · simp [e,h]
    · simp [e]
  | false =>
    rw [if_neg (by decide),List.find?_eq_none]
    intro c _
    by_cases e:c.name = t
    · simp [e,h]
    · simp [e]
theorem qfZ (l:List GCall) (s t:List UInt8):wE (l.filter fun c=>!decide (c.name = s)) t = if t = s then none else wE l t:=by
  rw [yD l (fun n=>!decide (n = s)) t]
  by_cases h:t = s <;> simp [h]
theorem qie (l m:List GCall) (t:List UInt8):wE (l ++ m) t = (wE l t).or (wE m t):=by
  unfold wE; rw [List.find?_append]
theorem qhV {l:List GCall} (hu:Up l) (s:List UInt8) (n:Int) (t:List UInt8):wE (qaS l s n) t = if t = s then some ⟨s,n⟩ else wE l t:=by
  rw [qb7 hu,qie,yD l (fun x=>ltS x s)]
  have e:wE (⟨s,n⟩ :: l.filter fun c=>ltS s c.name) t = if s = t then some ⟨s,n⟩ else wE (l.filter fun c=>ltS s c.name) t:=by
    unfold wE; rw [List.find?_cons]
    by_cases h:s = t <;> simp [h]
  rw [e,yD l (fun x=>ltS s x)]
  rcases qaX t s with h | h | h
  · rw [h,vG h,if_pos rfl,if_neg (Ne.symm (qaq h)),if_neg (by decide),if_neg (qaq h),Option.or_none]
  · rw [h,yB,if_neg (by decide),if_pos rfl,if_pos rfl]; rfl
  · rw [h,vG h,if_neg (by decide),if_neg (qaq h),if_pos rfl,if_neg (Ne.symm (qaq h))]; rfl
theorem Qw {l:List GCall} (hu:Up l) (p:GCall → Bool):Up (l.filter p):=List.Pairwise.sublist List.filter_sublist hu
theorem qpt {l:List GCall} (hu:Up l) (s:List UInt8) (n:Int):Up (qaS l s n):=by
  rw [qb7 hu]
  refine List.pairwise_append.2 ⟨Qw hu _,List.pairwise_cons.2 ⟨fun c hc=>(List.mem_filter.1 hc).2,Qw hu _⟩,?_⟩
  intro a ha b hb
  have h1:ltS a.name s = true:=(List.mem_filter.1 ha).2
  rcases List.mem_cons.1 hb with rfl | hb
  · exact h1
  · exact wQ h1 (List.mem_filter.1 hb).2
theorem qmB {l:List GCall} (hu:Up l) {s:List UInt8} {n:Int} {c:GCall} (h:c ∈ qaS l s n):c = ⟨s,n⟩ ∨ c ∈ l:=by
  rw [qb7 hu] at h
  rcases List.mem_append.1 h with h | h
  · exact .inr (List.mem_filter.1 h).1
  · rcases List.mem_cons.1 h with h | h
    · exact .inl h
    · exact .inr (List.mem_filter.1 h).1
end Go.Kc
end
section
/- What fold.Step makes of a list that may be: it may be again. No condition. -/
namespace Go.Kc
theorem qce:∀ (l cur:List UInt8) (w:List UInt8),w ∈ wB l cur → w.length ≤ l.length + cur.length
  | [],cur,w,h=>by
    unfold wB at h
    split at h
    · cases h
    · obtain rfl:=List.mem_singleton.1 h; simp
  | c :: cs,cur,w,h=>by
    unfold wB at h
    split at h
    · split at h
      · have:=qce cs [] w h; simp at this ⊢; omega
      · rcases List.mem_cons.1 h with rfl | h
        · simp
        · have:=qce cs [] w h; simp at this ⊢; omega
    · have:=qce cs _ w h; simp at this ⊢; omega
theorem qck {l w:List UInt8} (h:w ∈ qt l):w.length ≤ l.length:=by
  rw [qct] at h; simpa using qce l [] w h
theorem qdr {α:Type} [DecidableEq α]:∀ {l t:List α},l.Nodup → (∀ x ∈ l,x ∈ t) → l.length ≤ t.length
  | [],_,_,_=>Nat.zero_le _
  | x :: l,t,hn,hs=>by
    have hn':=List.nodup_cons.1 hn
    have hx:=hs x List.mem_cons_self
    have h1:=qdr (t:=t.erase x) hn'.2 (fun y hy=>(List.mem_erase_of_ne (fun (e:y = x)=>hn'.1 (by rw [← e]; exact hy))).2 (hs y (List.mem_cons_of_mem _ hy)))
    have h2:=List.length_erase_of_mem hx
    have h3:0 < t.length:=List.length_pos_of_mem hx
    simp only [List.length_cons]; omega
theorem qcR {s:List UInt8} (h:zn s = true):s ∈ zr.map (·.1):=by
  unfold zn at h
  obtain ⟨x,hx⟩:=Option.isSome_iff_exists.1 h
  have h1:=List.mem_of_find?_eq_some hx
  have h2:=List.find?_some hx
  exact List.mem_map.2 ⟨x,h1,of_decide_eq_true h2⟩
theorem yn {l:GList} (h:zA l = true):l.calls.length ≤ 40:=by
  obtain ⟨_,h1,h2⟩:=(z8 l).1 h
  have:=qdr (l:=l.calls.map (·.name)) (t:=zr.map (·.1)) (List.pairwise_map.2 (List.Pairwise.imp (R:=fun a b:GCall=>ltS a.name b.name = true) (fun hab=>qaq hab) h2)) (by
    intro x hx
    obtain ⟨c,hc,rfl⟩:=List.mem_map.1 hx
    have:=h1 c hc
    simp only [okC,Bool.and_eq_true] at this
    exact qcR this.1)
  have e:(zr.map (·.1)).length = 40:=by rw [List.length_map]; rfl
  rw [List.length_map] at this
  omega
theorem qgn {l:GList} (h:zA l = true) (hm:l.mode ≠ 0) {n:List UInt8} {a:Int} (hk:zn n = true) (ha:wK a = true):zA (wZ l n a) = true:=by
  obtain ⟨h0,h1,h2⟩:=(z8 l).1 h
  have e:wZ l n a = ⟨l.mode,qaS l.calls n a⟩:=if_pos h
  rw [e,z8]
  refine ⟨⟨h0.1,.inl hm⟩,?_,qpt h2 _ _⟩
  intro c hc
  rcases qmB h2 hc with rfl | hc
  · simp [okC,hk,ha]
  · exact h1 c hc
theorem qex {l:GList} (h:zA l = true) (n:List UInt8):zA (jF l n) = true:=by
  obtain ⟨h0,h1,h2⟩:=(z8 l).1 h
  have e:jF l n = ⟨l.mode,l.calls.filter fun c=>!decide (c.name = n)⟩:=if_pos h
  rw [e,z8]
  refine ⟨⟨h0.1,h0.2.imp id (fun hh=>by rw [hh]; rfl)⟩,fun c hc=>h1 c (List.mem_filter.1 hc).1,Qw h2 _⟩
theorem qhU {l:GList} (h:zA l = true) (hm:l.mode ≠ 0) {ins:Bool} {a:Int} {n:List UInt8} (hk:zn n = true) (ha:wK a = true):zA (zh ins a l n) = true:=by
  unfold zh; split
  · exact qgn h hm hk ha
  · exact qex h n
theorem vH {ins:Bool} {a:Int} (ha:wK a = true):∀ {ns:List (List UInt8)} {l:GList},zA l = true → l.mode ≠ 0 → (∀ n ∈ ns,zn n = true) → zA (ns.foldl (zh ins a) l) = true
  | [],_,h,_,_=>h
  | n :: ns,l,h,hm,hk=>by
    rw [List.foldl_cons]
    exact vH ha (qhU h hm (hk n List.mem_cons_self) ha) (by rw [qc5]; exact hm) (fun x hx=>hk x (List.mem_cons_of_mem _ hx))
theorem z2 (w:List UInt8):wK (ql w).1.act = true:=by
  have h:=vx (z0 w).2.1
  unfold ql
  repeat' split
  all_goals (simp [wK]; try omega)
def ki (E:List UInt8 → List (List UInt8) × Int):Prop:=∀ s,(∀ n ∈ (E s).1,zn n = true) ∧ (E s).1.length ≤ 100
theorem qb1 {E:List UInt8 → List (List UInt8) × Int} (hE:ki E):ki (zB E):=by
  intro s
  unfold zB
  split
  · exact hE s
  · split
    · rename_i h; simp [h]
    · simp
theorem qha {E:List UInt8 → List (List UInt8) × Int} (hE:ki E) (fl t:Bool) {s:GList × List GNote} (h:zA s.1 = true) (hm:s.1.mode ≠ 0) (w:List UInt8) :
    zA (qH E fl t s w).1 = true ∧ (qH E fl t s w).1.mode = s.1.mode ∧ (qH E fl t s w).2.length ≤ s.2.length + 1:=by
  have hk:=(qb1 hE (ql w).1.name).1
  unfold qH
  split
  · exact ⟨h,rfl,by simp⟩
  split
  · exact ⟨h,rfl,by simp⟩
  split
  · exact ⟨vH (z2 w) h hm hk,yh _ _ _ _,by simp⟩
  split
  · exact ⟨vH (by rfl) h hm hk,yh _ _ _ _,by simp⟩
  · exact ⟨vH (z2 w) h hm hk,yh _ _ _ _,by simp⟩
theorem qai {E:List UInt8 → List (List UInt8) × Int} (hE:ki E) (fl t:Bool):∀ (ws:List (List UInt8)) (s:GList × List GNote),zA s.1 = true → s.1.mode ≠ 0 →
    zA (ws.foldl (qH E fl t) s).1 = true ∧ (ws.foldl (qH E fl t) s).1.mode = s.1.mode ∧ (ws.foldl (qH E fl t) s).2.length ≤ s.2.length + ws.length
  | [],s,h,_=>⟨h,rfl,Nat.le_refl _⟩
  | w :: ws,s,h,hm=>by
    obtain ⟨h1,h2,h3⟩:=qha hE fl t h hm w
    obtain ⟨h4,h5,h6⟩:=qai hE fl t ws (qH E fl t s w) h1 (by rw [h2]; exact hm)
    rw [List.foldl_cons]
    exact ⟨h4,by rw [h5,h2],by simp only [List.length_cons]; omega⟩
end Go.Kc
end
section
/- The table of groups; what groups.Expand answers of a name that is none of them. Condition: the functions' texts are these. -/
namespace Go.Kc
variable {P:Program} {f:Nat}
def qL:List (List UInt8 × List (List UInt8)):=[([64,98,97,115,105,99,45,105,111],[[114,101,97,100],[119,114,105,116,101],[99,108,111,115,101]]),([64,99,108,111,99,107],[[99,108,111,99,107,95,115,101,116,116,105,109,101],[115,101,116,116,105,109,101,111,102,100,97,121]]),([64,100,101,98,117,103],[[112,116,114,97,99,101],[112,101,114,115,111,110,97,108,105,116,121]]),([64,102,105,108,101],[[64,98,97,115,105,99,45,105,111],[111,112,101,110],[111,112,101,110,97,116],[105,111,99,116,108]]),([64,109,101,109,111,114,121],[[98,114,107],[109,109,97,112],[109,112,114,111,116,101,99,116],[109,117,110,109,97,112],[112,107,101,121,95,109,112,114,111,116,101,99,116],[115,104,109,97,116]]),([64,109,111,100,117,108,101],[[100,101,108,101,116,101,95,109,111,100,117,108,101],[102,105,110,105,116,95,109,111,100,117,108,101],[105,110,105,116,95,109,111,100,117,108,101]]),([64,109,111,117,110,116],[[109,111,117,110,116],[117,109,111,117,110,116,50]]),([64,110,101,115,116],[[64,110,101,115,116,45,50],[107,105,108,108]]),([64,110,101,115,116,45,50],[[64,110,101,115,116,45,51],[103,101,116,117,105,100]]),([64,110,101,115,116,45,51],[[64,110,101,115,116,45,52],[115,101,116,117,105,100]]),([64,110,101,115,116,45,52],[[64,110,101,115,116,45,53],[101,120,105,116]]),([64,110,101,115,116,45,53],[[114,101,97,100]]),([64,110,101,116,119,111,114,107],[[98,105,110,100],[99,111,110,110,101,99,116],[108,105,115,116,101,110],[115,111,99,107,101,116]]),([64,112,114,105,118,105,108,101,103,101,100],[[64,99,108,111,99,107],[64,109,111,100,117,108,101],[64,109,111,117,110,116],[64,114,101,98,111,111,116],[98,112,102],[115,101,116,117,105,100]]),([64,112,114,111,99,101,115,115],[[99,108,111,110,101],[99,108,111,110,101,51],[101,120,101,99,118,101],[101,120,105,116],[102,111,114,107],[107,105,108,108],[115,101,116,110,115],[117,110,115,104,97,114,101]]),([64,114,101,98,111,111,116],[[114,101,98,111,111,116]]),([64,114,101,115,111,117,114,99,101,115],[[115,99,104,101,100,95,115,101,116,97,116,116,114],[115,99,104,101,100,95,115,101,116,115,99,104,101,100,117,108,101,114]]),([64,115,121,115,116,101,109],[[64,102,105,108,101],[64,109,101,109,111,114,121],[64,110,101,116,119,111,114,107],[64,112,114,111,99,101,115,115],[103,101,116,117,105,100]])]
def xZ:List (List UInt8 × List (List UInt8) × Int):=[([64,98,97,115,105,99,45,105,111],[[99,108,111,115,101],[114,101,97,100],[119,114,105,116,101]],0),([64,99,108,111,99,107],[[99,108,111,99,107,95,115,101,116,116,105,109,101],[115,101,116,116,105,109,101,111,102,100,97,121]],0),([64,100,101,98,117,103],[[112,101,114,115,111,110,97,108,105,116,121],[112,116,114,97,99,101]],0),([64,102,105,108,101],[[99,108,111,115,101],[105,111,99,116,108],[111,112,101,110],[111,112,101,110,97,116],[114,101,97,100],[119,114,105,116,101]],0),([64,109,101,109,111,114,121],[[98,114,107],[109,109,97,112],[109,112,114,111,116,101,99,116],[109,117,110,109,97,112],[112,107,101,121,95,109,112,114,111,116,101,99,116],[115,104,109,97,116]],0),([64,109,111,100,117,108,101],[[100,101,108,101,116,101,95,109,111,100,117,108,101],[102,105,110,105,116,95,109,111,100,117,108,101],[105,110,105,116,95,109,111,100,117,108,101]],0),([64,109,111,117,110,116],[[109,111,117,110,116],[117,109,111,117,110,116,50]],0),([64,110,101,115,116],[],111),([64,110,101,115,116,45,50],[[101,120,105,116],[103,101,116,117,105,100],[114,101,97,100],[115,101,116,117,105,100]],0),([64,110,101,115,116,45,51],[[101,120,105,116],[114,101,97,100],[115,101,116,117,105,100]],0),([64,110,101,115,116,45,52],[[101,120,105,116],[114,101,97,100]],0),([64,110,101,115,116,45,53],[[114,101,97,100]],0),([64,110,101,116,119,111,114,107],[[98,105,110,100],[99,111,110,110,101,99,116],[108,105,115,116,101,110],[115,111,99,107,101,116]],0),([64,112,114,105,118,105,108,101,103,101,100],[[98,112,102],[99,108,111,99,107,95,115,101,116,116,105,109,101],[100,101,108,101,116,101,95,109,111,100,117,108,101],[102,105,110,105,116,95,109,111,100,117,108,101],[105,110,105,116,95,109,111,100,117,108,101],[109,111,117,110,116],[114,101,98,111,111,116],[115,101,116,116,105,109,101,111,102,100,97,121],[115,101,116,117,105,100],[117,109,111,117,110,116,50]],0),([64,112,114,111,99,101,115,115],[[99,108,111,110,101],[99,108,111,110,101,51],[101,120,101,99,118,101],[101,120,105,116],[102,111,114,107],[107,105,108,108],[115,101,116,110,115],[117,110,115,104,97,114,101]],0),([64,114,101,98,111,111,116],[[114,101,98,111,111,116]],0),([64,114,101,115,111,117,114,99,101,115],[[115,99,104,101,100,95,115,101,116,97,116,116,114],[115,99,104,101,100,95,115,101,116,115,99,104,101,100,117,108,101,114]],0),([64,115,121,115,116,101,109],[[98,105,110,100],[98,114,107],[99,108,111,110,101],[99,108,111,110,101,51],[99,108,111,115,101],[99,111,110,110,101,99,116],[101,120,101,99,118,101],[101,120,105,116],[102,111,114,107],[103,101,116,117,105,100],[105,111,99,116,108],[107,105,108,108],[108,105,115,116,101,110],[109,109,97,112],[109,112,114,111,116,101,99,116],[109,117,110,109,97,112],[111,112,101,110],[111,112,101,110,97,116],[112,107,101,121,95,109,112,114,111,116,101,99,116],[114,101,97,100],[115,101,116,110,115],[115,104,109,97,116],[115,111,99,107,101,116],[117,110,115,104,97,114,101],[119,114,105,116,101]],0)]
def qa9 (s:List UInt8):List (List UInt8) × Int:=match xZ.find? (fun r=>decide (r.1 = s)) with | some r=>r.2 | none=>([],110)
theorem qdH:xZ.map (·.1) = qL.map (·.1):=rfl
theorem qeg:ki qa9:=by
  intro s
  unfold qa9
  cases hf:xZ.find? (fun r=>decide (r.1 = s)) with
  | none=>simp
  | some r =>
    have hr:=List.mem_of_find?_eq_some hf
    have h1:xZ.all (fun r=>r.2.1.all zn && decide (r.2.1.length ≤ 100)) = true:=by decide +kernel
    have h2:=List.all_eq_true.1 h1 r hr
    simp only [Bool.and_eq_true,decide_eq_true_eq,List.all_eq_true] at h2
    exact h2
def yK (g:List UInt8 × List (List UInt8)):List AV:=[.s g.1,.fz g.2.length (rS g.2)]
theorem qeK (g:List UInt8 × List (List UInt8)):(yK g).length = 2:=rfl
def qb6 (P:Program) (f:Nat):Prop:=qg P f [] (.fz 18 (qL.flatMap yK))

def xX (f_groups_table:Nat):IFn:=⟨[.tmp 2],
  .seq (.reg false [⟨(some 2),.op (.mov (.c (.nils))),none⟩])
  (.seq (.seq (.reg false [⟨(some 5),.callF f_groups_table [],none⟩,
    ⟨(some 6),.op (.len false (.t 5)),none⟩,
    ⟨(some 7),.op (.mov (.c (.i .i64 0))),none⟩])
  (.blk 0 (.loop (.seq (.reg false [⟨(some 8),.op (.bin .lss (.t 7) (.t 6)),none⟩])
  (.seq (.cond (.t 8) (.skip) (.exit 0))
  (.seq (.blk 1 (.seq (.reg false [⟨(some 9),.op (.iAddrS 2 (.t 5) (.t 7)),none⟩,
    ⟨(some 10),.op (.loadN 2 (.t 9)),none⟩,
    ⟨(some 4),.op (.alloc [.s [],.nils]),none⟩,
    ⟨none,.op (.store 2 (.t 4) (.t 10)),none⟩])
  (.seq (.reg false [⟨(some 11),.op (.fAddr 0 (.t 4)),none⟩,
    ⟨(some 12),.op (.load1 (.t 11)),none⟩,
    ⟨(some 13),.op (.mov (.t 0)),none⟩,
    ⟨(some 14),.op (.bin .eql (.t 12) (.t 13)),none⟩])
  (.cond (.t 14) (.seq (.reg false [⟨(some 15),.op (.fAddr 1 (.t 4)),none⟩,
    ⟨(some 16),.op (.load1 (.t 15)),none⟩,
    ⟨(some 2),.op (.mov (.t 16)),none⟩])
  (.ret)) (.skip)))))
  (.reg false [⟨(some 17),.op (.bin .add (.t 7) (.c (.i .i64 1))),none⟩,
    ⟨(some 7),.op (.mov (.t 17)),none⟩])))))))
  (.seq (.reg false [⟨(some 2),.op (.mov (.c (.nils))),none⟩])
  (.ret)))⟩
theorem qdU {g1:Nat} (hc:qh P f (xX g1) = true) (h1:qb6 P g1) (s:List UInt8) (hs:∀ r ∈ qL,r.1 ≠ s):qg P f [.s s] .nils:=by
  refine qg.mk hc rfl ?_
  simp only [xX,qm,H0,mkT,mkH,trL,vI,simprocAttr]
  simp only [↓vS,vT,shb,shv,qb,qc,cellsOf,wr,qa,simprocAttr]
  refine h1.sc ?_
  have hlen:(qL.flatMap yK).length = 36:=by decide
  have hcl:qC (qL.flatMap yK) = true:=vy fun _=>rfl
  have h18:qL.length = 18:=by decide
  have hget:∀ j (h:j < 18),∃ r ∈ qL,((qL.flatMap yK).drop (j * 2)).take 2 = yK r:=by
    intro j h
    have hx:qL[j]? = some (qL[j]'(by omega)):=List.getElem?_eq_getElem (by omega)
    exact ⟨_,List.getElem_mem _,jR (f:=yK) (m:=2) qeK hx⟩
  generalize hT:qL.flatMap yK = T at hlen hcl hget
  simp only [↓vS,vT,shb,shv,qb,qc,cellsOf,wr,qa,simprocAttr]
  refine SL.loop (α:=Nat) (fun j=>[(0,.s s),(2,.nils),(5,.fz 18 T),(6,.i .i64 18),(7,.i .i64 j)]) (fun _=>[]) (fun j=>j ≤ 18) (fun j=>18 - j) 0 [] ?_ ?_ ?_ rfl ?_ ?_
  · simp [vw,hcl]
  · trivial
  · simp
  · exact Nat.zero_le _
  rintro j hj G ih
  simp only [qm,H0,mkT,mkH,trL,vI,simprocAttr]
  by_cases hlt:j < 18
  · have hw:IntKind.wrap .i64 ((j:Int) + 1) = ((j + 1:Nat):Int):=by rw [qE (by omega) (by omega)]; omega
    have hlt':(j:Int) < 18:=by omega
    have hb:j * 2 + 2 ≤ 36:=by omega
    obtain ⟨r,hr,he⟩:=hget j hlt
    have hne:¬ r.1 = s:=hs r hr
    simp only [↓vS,vT,shb,shv,qb,qc,cellsOf,wr,qa,simprocAttr,hlt,hlt',hb,he,hlen,yK]
    simp only [↓vS,vT,shb,shv,qb,qc,cellsOf,wr,qa,simprocAttr,hne,hw]
    refine ih (j + 1) (by omega) (by omega) _ _ (Wk.mk _ _ [] ?_ ?_ ?_ rfl)
    · simp [vw,hcl]
    · trivial
    · simp
  · have hlt':¬ (j:Int) < 18:=by omega
    simp only [↓vS,vT,shb,shv,qb,qc,cellsOf,wr,qa,simprocAttr,hlt']
    simp [vZ]
def jJ (f_groups_Members:Nat):IFn:=⟨[.tmp 2],
  .seq (.reg false [⟨(some 2),.op (.mov (.c (.b false))),none⟩])
  (.seq (.reg false [⟨(some 3),.op (.mov (.t 0)),none⟩,
    ⟨(some 4),.callF f_groups_Members [(.t 3)],none⟩,
    ⟨(some 5),.op (.eqN true .slice (.t 4)),none⟩,
    ⟨(some 2),.op (.mov (.t 5)),none⟩])
  (.ret))⟩
theorem qez {g1:Nat} (hc:qh P f (jJ g1) = true) (s:List UInt8) (h1:qg P g1 [.s s] .nils):qg P f [.s s] (.b false):=by
  refine qg.mk hc rfl ?_
  simp only [jJ,qm,H0,mkT,mkH,trL,vI,simprocAttr]
  simp only [↓vS,vT,shb,shv,qb,qc,cellsOf,wr,qa,simprocAttr]
  refine h1.sc ?_
  simp only [↓vS,vT,shb,shv,qb,qc,cellsOf,wr,qa,simprocAttr]
  simp [vZ]
def jt (f_groups_Known f_groups_Deep f_groups_Expand_1 f_slices_Sort_string_string f_slices_Compact_string_string:Nat):IFn:=⟨[.tmp 2,.tmp 3],
  .seq (.reg false [⟨(some 2),.op (.mov (.c (.nils))),none⟩,
    ⟨(some 3),.op (.mov (.c (.i .i64 0))),none⟩])
  (.seq (.blk 0 (.seq (.reg false [⟨(some 7),.op (.mov (.t 0)),none⟩,
    ⟨(some 8),.callF f_groups_Known [(.t 7)],none⟩,
    ⟨(some 9),.op (.un .not (.t 8)),none⟩,
    ⟨(some 6),.op (.mov (.t 9)),none⟩])
  (.cond (.t 6) (.seq (.reg false [⟨(some 2),.op (.mov (.c (.nils))),none⟩,
    ⟨(some 3),.op (.mov (.c (.i .i64 110))),none⟩])
  (.ret)) (.seq (.reg false [⟨(some 11),.op (.mov (.t 0)),none⟩,
    ⟨(some 12),.callF f_groups_Deep [(.t 11)],none⟩,
    ⟨(some 13),.op (.bin .gtr (.t 12) (.c (.i .i64 4))),none⟩,
    ⟨(some 10),.op (.mov (.t 13)),none⟩])
  (.cond (.t 10) (.seq (.reg false [⟨(some 2),.op (.mov (.c (.nils))),none⟩,
    ⟨(some 3),.op (.mov (.c (.i .i64 111))),none⟩])
  (.ret)) (.skip))))))
  (.seq (.reg false [⟨(some 4),.op (.alloc [.nils]),none⟩])
  (.seq (.reg false [⟨(some 5),.op (.alloc [.nilf]),none⟩])
  (.seq (.reg false [⟨(some 14),.op (.mkF f_groups_Expand_1 [] [(.t 5),(.t 4)]),none⟩,
    ⟨none,.op (.store 1 (.t 5) (.t 14)),none⟩])
  (.seq (.reg false [⟨(some 15),.op (.load1 (.t 5)),none⟩,
    ⟨(some 16),.op (.mov (.t 0)),none⟩,
    ⟨(some 17),.callV (.t 15) [(.t 16)],none⟩])
  (.seq (.reg false [⟨(some 18),.op (.load1 (.t 4)),none⟩,
    ⟨(some 19),.callF f_slices_Sort_string_string [(.t 18)],none⟩])
  (.seq (.reg false [⟨(some 20),.op (.load1 (.t 4)),none⟩,
    ⟨(some 21),.callF f_slices_Compact_string_string [(.t 20)],none⟩,
    ⟨(some 2),.op (.mov (.t 21)),none⟩,
    ⟨(some 3),.op (.mov (.c (.i .i64 0))),none⟩])
  (.ret))))))))⟩
theorem qey {g1 g2 g3 g4 g5:Nat} (hc:qh P f (jt g1 g2 g3 g4 g5) = true) (s:List UInt8) (h1:qg P g1 [.s s] (.b false)):qg P f [.s s] (.tup [.fz 0 [],.i .i64 110]):=by
  refine qg.mk hc rfl ?_
  simp only [jt,qm,H0,mkT,mkH,trL,vI,simprocAttr]
  simp only [↓vS,vT,shb,shv,qb,qc,cellsOf,wr,qa,simprocAttr]
  refine h1.sc ?_
  simp only [↓vS,vT,shb,shv,qb,qc,cellsOf,wr,qa,simprocAttr]
  simp [vZ]
theorem qgf {g1 g2 g3 g4 g5 k1 k2:Nat} (hc:qh P f (jt g1 g2 g3 g4 g5) = true) (hk:qh P g1 (jJ k1) = true) (hm:qh P k1 (xX k2) = true) (ht:qb6 P k2)
    (hrun:∀ r ∈ xZ,qg P f [.s r.1] (.tup [.fz r.2.1.length (rS r.2.1),.i .i64 r.2.2])):qbS qa9 P f:=by
  intro s
  unfold qa9
  cases hf:xZ.find? (fun r=>decide (r.1 = s)) with
  | none =>
    refine qey hc s (qez hk s (qdU hm ht s ?_))
    intro r hr he
    have h1:r.1 ∈ xZ.map (·.1):=by rw [qdH]; exact List.mem_map.2 ⟨r,hr,rfl⟩
    obtain ⟨x,hx,hxe⟩:=List.mem_map.1 h1
    have:=List.find?_eq_none.1 hf x hx
    simp [hxe,he] at this
  | some r =>
    have hr:=List.mem_of_find?_eq_some hf
    have he:=List.find?_some hf
    have he':r.1 = s:=of_decide_eq_true he
    rw [← he']
    exact hrun r hr
end Go.Kc
end
section
/- A list's value as a row of puts and takes; twice is as once. No condition. -/
namespace Go.Kc
variable (E:List UInt8 → List (List UInt8) × Int)
noncomputable def kZ (l:GList) (o:List UInt8 × Option Int):GList:=match o.2 with | some a=>wZ l o.1 a | none=>jF l o.1
noncomputable def qhx (fl t:Bool) (mode:Int) (w:List UInt8):List (List UInt8 × Option Int) :=
  if (ql w).2 ≠ 0 then [] else if (zB E (ql w).1.name).2 ≠ 0 then []
  else (zB E (ql w).1.name).1.map fun n=>(n,if (ql w).1.has = true ∧ fl = true ∧ t = true then some (ql w).1.act else if mode - 1 = (if t = true then 1 else 0) then some 0 else none)
noncomputable def qau (fl t:Bool) (w:List UInt8):List GNote :=
  if (ql w).2 ≠ 0 then [zk (ql w).2 w] else if (zB E (ql w).1.name).2 ≠ 0 then [zk (zB E (ql w).1.name).2 w]
  else if (ql w).1.has = true ∧ (fl = false ∨ t = false) then [zk 161 w] else []
theorem qfN (w:List UInt8) (h:(ql w).1.has = false):(ql w).1.act = 0:=by
  unfold ql at h ⊢
  split at h
  · rename_i h1; rw [if_pos h1]
  · rename_i h1
    rw [if_neg h1]
    split at h
    · rename_i h2; rw [if_pos h2]
    · rename_i h2
      rw [if_neg h2]
      split at h
      · cases h
      · rename_i h3
        rw [if_neg h3]
        split at h
        · cases h
        · rename_i h4; rw [if_neg h4]
theorem Qq (ins:Bool) (a:Int):∀ (ns:List (List UInt8)) (l:GList),ns.foldl (zh ins a) l = (ns.map fun n=>(n,if ins = true then some a else none)).foldl kZ l
  | [],_=>rfl
  | n :: ns,l=>by
    rw [List.foldl_cons,List.map_cons,List.foldl_cons,Qq ins a ns]
    congr 1
    cases ins <;> rfl
theorem qgV (fl t:Bool) (s:GList × List GNote) (w:List UInt8):qH E fl t s w = ((qhx E fl t s.1.mode w).foldl kZ s.1,s.2 ++ qau E fl t w):=by
  unfold qH qhx qau
  by_cases h1:(ql w).2 ≠ 0
  · simp only [if_pos h1,List.foldl_nil]
  simp only [if_neg h1]
  by_cases h2:(zB E (ql w).1.name).2 ≠ 0
  · simp only [if_pos h2,List.foldl_nil]
  simp only [if_neg h2]
  cases h3:(ql w).1.has with
  | false =>
    have ha:=qfN w h3
    simp only [if_true,Qq,ha,decide_eq_true_eq,Bool.false_eq_true,false_and,if_false,List.append_nil]
  | true =>
    simp only [Bool.true_eq_false,if_false,true_and]
    by_cases h4:fl = false ∨ t = false
    · have h5:¬ (fl = true ∧ t = true):=by intro h; rcases h4 with h4 | h4 <;> simp [h4] at h
      simp only [if_pos h4,if_neg h5,Qq,decide_eq_true_eq]
    · have h5:fl = true ∧ t = true:=by cases fl <;> cases t <;> simp_all
      simp only [if_neg h4,if_pos h5,Qq,if_true,List.append_nil]
theorem qcG:∀ (os:List (List UInt8 × Option Int)) (l:GList),(os.foldl kZ l).mode = l.mode
  | [],_=>rfl
  | o :: os,l=>by
    rw [List.foldl_cons,qcG os]
    unfold kZ; split
    · exact qbv _ _ _
    · exact qam _ _
theorem qaG (fl t:Bool):∀ (ws:List (List UInt8)) (s:GList × List GNote),ws.foldl (qH E fl t) s = ((ws.flatMap (qhx E fl t s.1.mode)).foldl kZ s.1,s.2 ++ ws.flatMap (qau E fl t))
  | [],s=>by simp
  | w :: ws,s=>by
    rw [List.foldl_cons,qgV,qaG fl t ws]
    simp only [qcG,List.flatMap_cons,List.foldl_append,List.append_assoc]
def okO (o:List UInt8 × Option Int):Prop:=zn o.1 = true ∧ ∀ a,o.2 = some a → wK a = true
theorem qms {E:List UInt8 → List (List UInt8) × Int} (hE:ki E) (fl t:Bool) (mode:Int) (w:List UInt8):∀ o ∈ qhx E fl t mode w,okO o:=by
  intro o ho
  unfold qhx at ho
  split at ho
  · cases ho
  split at ho
  · cases ho
  obtain ⟨n,hn,rfl⟩:=List.mem_map.1 ho
  refine ⟨(qb1 hE _).1 n hn,?_⟩
  intro a ha
  dsimp only at ha
  by_cases h1:(ql w).1.has = true ∧ fl = true ∧ t = true
  · rw [if_pos h1] at ha; cases ha; exact z2 w
  · rw [if_neg h1] at ha
    by_cases h2:mode - 1 = (if t = true then 1 else 0)
    · rw [if_pos h2] at ha; cases ha; rfl
    · rw [if_neg h2] at ha; cases ha
theorem qg6 {l:GList} (h:zA l = true) (hm:l.mode ≠ 0) {o:List UInt8 × Option Int} (ho:okO o):zA (kZ l o) = true ∧ (kZ l o).mode = l.mode ∧ ∀ t,wE (kZ l o).calls t = if t = o.1 then o.2.map (fun a=>⟨t,a⟩) else wE l.calls t:=by
  obtain ⟨n,a⟩:=o
  have hu:=((z8 l).1 h).2.2
  cases a with
  | some a =>
    refine ⟨qgn h hm ho.1 (ho.2 a rfl),qbv _ _ _,fun t=>?_⟩
    have e:kZ l (n,some a) = ⟨l.mode,qaS l.calls n a⟩:=if_pos h
    rw [e]
    dsimp only
    rw [qhV hu]
    by_cases ht:t = n <;> simp [ht]
  | none =>
    refine ⟨qex h _,qam _ _,fun t=>?_⟩
    have e:kZ l (n,none) = ⟨l.mode,l.calls.filter fun c=>!decide (c.name = n)⟩:=if_pos h
    rw [e]
    dsimp only
    rw [qfZ]
    by_cases ht:t = n <;> simp [ht]
def qfp:List (List UInt8 × Option Int) → List UInt8 → Option (Option Int)
  | [],_=>none
  | o :: os,t=>(qfp os t).or (if t = o.1 then some o.2 else none)
theorem qf1 (o:List UInt8 × Option Int) (os:List (List UInt8 × Option Int)) (t:List UInt8):qfp (o :: os) t = (qfp os t).or (if t = o.1 then some o.2 else none):=rfl
theorem qdl:∀ {os:List (List UInt8 × Option Int)} {l:GList},zA l = true → l.mode ≠ 0 → (∀ o ∈ os,okO o) →
    zA (os.foldl kZ l) = true ∧ ∀ t,wE (os.foldl kZ l).calls t = match qfp os t with | some a=>a.map (fun a=>⟨t,a⟩) | none=>wE l.calls t
  | [],l,h,_,_=>⟨h,fun _=>rfl⟩
  | o :: os,l,h,hm,ho=>by
    obtain ⟨h1,h2,h3⟩:=qg6 h hm (ho o List.mem_cons_self)
    obtain ⟨h4,h5⟩:=qdl (os:=os) h1 (by rw [h2]; exact hm) (fun x hx=>ho x (List.mem_cons_of_mem _ hx))
    refine ⟨h4,fun t=>?_⟩
    rw [List.foldl_cons,h5 t]
    rw [qf1]
    cases qfp os t with
    | some a=>rfl
    | none =>
      dsimp only
      rw [h3 t]
      by_cases ht:t = o.1
      · rw [if_pos ht,if_pos ht]; rfl
      · rw [if_neg ht,if_neg ht]; rfl
def kw (m:Int) (t:Bool):Int:=if m = 0 then (if t = true then 2 else 1) else m
theorem qby (m:Int) (t:Bool):kw m t ≠ 0:=by
  unfold kw
  by_cases h:m = 0
  · cases t <;> simp [h]
  · simp [h]
variable {E}
theorem qeq {l:GList} (h:zA l = true) (t:Bool):zA ⟨kw l.mode t,l.calls⟩ = true:=by
  obtain ⟨h1,h2⟩:=(z8 l).1 h
  refine (z8 _).2 ⟨⟨?_,.inl (qby _ _)⟩,h2⟩
  unfold kw; dsimp only
  split
  · split <;> omega
  · exact h1.1
theorem qjs {l:GList} {v:List UInt8} {fl:Bool} (h:zA l = true) (hw:qt v ≠ []):qR E l v fl =
    (((qt (zj v).1).flatMap (qhx E fl (zj v).2 (kw l.mode (zj v).2))).foldl kZ ⟨kw l.mode (zj v).2,l.calls⟩,(qt (zj v).1).flatMap (qau E fl (zj v).2)):=by
  unfold qR
  rw [if_neg (by simp [h]),if_neg hw,qaG]
  rfl
theorem qid (hE:ki E) {l:GList} (h:zA l = true) (v:List UInt8) (fl:Bool):zA (qR E l v fl).1 = true:=by
  by_cases hw:qt v = []
  · unfold qR; rw [if_neg (by simp [h]),if_pos hw]; rfl
  · rw [qjs h hw]
    refine (qdl (qeq h _) (qby _ _) ?_).1
    intro o ho
    obtain ⟨w,_,hw⟩:=List.mem_flatMap.1 ho
    exact qms hE _ _ _ w o hw
theorem qdC:∀ (fl t:Bool) (ws:List (List UInt8)),(ws.flatMap (qau E fl t)).length ≤ ws.length
  | _,_,[]=>Nat.le_refl _
  | fl,t,w :: ws=>by
    have h:=qdC fl t ws
    have h2:(qau E fl t w).length ≤ 1:=by
      unfold qau
      repeat' split
      all_goals simp
    simp only [List.flatMap_cons,List.length_append,List.length_cons]; omega
theorem vD (l:GList) (v:List UInt8) (fl:Bool):(qR E l v fl).2.length ≤ v.length:=by
  unfold qR
  split
  · simp
  split
  · simp
  · rw [qaG]
    have h1:=qdC (E:=E) fl (zj v).2 (qt (zj v).1)
    have h2:=qbl (zj v).1
    have h3:=qbB v
    simp only [List.nil_append]; omega
end Go.Kc
end
section
/- What fold.Step answers. Condition: the functions' texts are these. -/
namespace Go.Kc
variable {P:Program} {f:Nat}
def ww (f_fold_copied f_fold_May f_values_Words f_values_Turned f_fold_Step_1 f_values_Read f_fold_members f_fold_ins f_fold_Put f_fold_Take:Nat):ICode:=.reg false [⟨(some 111),.op (.bin .add (.t 48) (.c (.i .i64 1))),none⟩,
    ⟨(some 48),.op (.mov (.t 111)),none⟩]
def wO (f_fold_copied f_fold_May f_values_Words f_values_Turned f_fold_Step_1 f_values_Read f_fold_members f_fold_ins f_fold_Put f_fold_Take:Nat):ICode:=.seq (.reg false [⟨(some 95),.op (.mov (.t 17)),none⟩,
    ⟨(some 96),.op (.len false (.t 95)),none⟩,
    ⟨(some 97),.op (.mov (.c (.i .i64 0))),none⟩])
  (.blk 3 (.loop (.seq (.reg false [⟨(some 98),.op (.bin .lss (.t 97) (.t 96)),none⟩])
  (.seq (.cond (.t 98) (.skip) (.exit 3))
  (.seq (.blk 4 (.seq (.reg false [⟨(some 99),.op (.iAddrS 1 (.t 95) (.t 97)),none⟩,
    ⟨(some 100),.op (.load1 (.t 99)),none⟩,
    ⟨(some 20),.op (.mov (.t 100)),none⟩])
  (.seq (.reg false [⟨(some 101),.op (.mov (.t 18)),none⟩])
  (.cond (.t 101) (.reg false [⟨(some 102),.op (.loadN 2 (.t 3)),none⟩,
    ⟨(some 103),.op (.mov (.t 20)),none⟩,
    ⟨(some 104),.op (.fAddr 1 (.t 15)),none⟩,
    ⟨(some 105),.op (.load1 (.t 104)),none⟩,
    ⟨(some 106),.callF f_fold_Put [(.t 102),(.t 103),(.t 105)],none⟩,
    ⟨none,.op (.store 2 (.t 3) (.t 106)),none⟩]) (.reg false [⟨(some 107),.op (.loadN 2 (.t 3)),none⟩,
    ⟨(some 108),.op (.mov (.t 20)),none⟩,
    ⟨(some 109),.callF f_fold_Take [(.t 107),(.t 108)],none⟩,
    ⟨none,.op (.store 2 (.t 3) (.t 109)),none⟩])))))
  (.reg false [⟨(some 110),.op (.bin .add (.t 97) (.c (.i .i64 1))),none⟩,
    ⟨(some 97),.op (.mov (.t 110)),none⟩]))))))
def vc (f_fold_copied f_fold_May f_values_Words f_values_Turned f_fold_Step_1 f_values_Read f_fold_members f_fold_ins f_fold_Put f_fold_Take:Nat):ICode:=.seq (.seq (.reg false [⟨(some 45),.op (.mov (.t 8)),none⟩,
    ⟨(some 46),.callF f_values_Words [(.t 45)],none⟩,
    ⟨(some 47),.op (.len false (.t 46)),none⟩,
    ⟨(some 48),.op (.mov (.c (.i .i64 0))),none⟩])
  (.blk 0 (.loop (.seq (.reg false [⟨(some 49),.op (.bin .lss (.t 48) (.t 47)),none⟩])
  (.seq (.cond (.t 49) (.skip) (.exit 0))
  (.seq (.blk 1 (.seq (.reg false [⟨(some 50),.op (.iAddrS 1 (.t 46) (.t 48)),none⟩,
    ⟨(some 51),.op (.load1 (.t 50)),none⟩,
    ⟨(some 13),.op (.alloc [.s []]),none⟩,
    ⟨none,.op (.store 1 (.t 13) (.t 51)),none⟩])
  (.seq (.reg false [⟨(some 52),.op (.mkF f_fold_Step_1 [] [(.t 11),(.t 13)]),none⟩,
    ⟨(some 14),.op (.mov (.t 52)),none⟩])
  (.seq (.reg false [⟨(some 54),.op (.load1 (.t 13)),none⟩,
    ⟨(some 55),.callF f_values_Read [(.t 54)],none⟩,
    ⟨(some 53),.op (.mov (.t 55)),none⟩,
    ⟨(some 56),.op (.ext (.t 53) 0),none⟩,
    ⟨(some 57),.op (.ext (.t 53) 1),none⟩,
    ⟨(some 15),.op (.alloc [.s [],.i .u32 0,.b false]),none⟩,
    ⟨none,.op (.store 3 (.t 15) (.t 56)),none⟩,
    ⟨(some 16),.op (.mov (.t 57)),none⟩])
  (.seq (.seq (.reg false [⟨(some 58),.op (.mov (.t 16)),none⟩,
    ⟨(some 59),.op (.bin .neq (.t 58) (.c (.i .i64 0))),none⟩])
  (.cond (.t 59) (.seq (.reg false [⟨(some 60),.op (.mov (.t 14)),none⟩,
    ⟨(some 61),.op (.mov (.t 16)),none⟩,
    ⟨(some 62),.callV (.t 60) [(.t 61)],none⟩])
  (.exit 1)) (.skip)))
  (.seq (.reg false [⟨(some 64),.op (.fAddr 0 (.t 15)),none⟩,
    ⟨(some 65),.op (.load1 (.t 64)),none⟩,
    ⟨(some 66),.callF f_fold_members [(.t 65)],none⟩,
    ⟨(some 63),.op (.mov (.t 66)),none⟩,
    ⟨(some 67),.op (.ext (.t 63) 0),none⟩,
    ⟨(some 68),.op (.ext (.t 63) 1),none⟩,
    ⟨(some 17),.op (.mov (.t 67)),none⟩,
    ⟨(some 16),.op (.mov (.t 68)),none⟩])
  (.seq (.seq (.reg false [⟨(some 69),.op (.mov (.t 16)),none⟩,
    ⟨(some 70),.op (.bin .neq (.t 69) (.c (.i .i64 0))),none⟩])
  (.cond (.t 70) (.seq (.reg false [⟨(some 71),.op (.mov (.t 14)),none⟩,
    ⟨(some 72),.op (.mov (.t 16)),none⟩,
    ⟨(some 73),.callV (.t 71) [(.t 72)],none⟩])
  (.exit 1)) (.skip)))
  (.seq (.reg true [⟨(some 74),.callF f_fold_ins [],none⟩,
    ⟨(some 75),.op (.fAddr 0 (.t 3)),none⟩,
    ⟨(some 76),.op (.load1 (.t 75)),none⟩,
    ⟨(some 77),.op (.bin .sub (.t 76) (.c (.i .u8 1))),none⟩,
    ⟨(some 78),.op (.idxA 2 2 true (.t 74) (.t 77)),none⟩,
    ⟨(some 79),.op (.mov (.t 10)),none⟩,
    ⟨(some 80),.op (.idxA 2 1 false (.t 78) (.t 79)),none⟩,
    ⟨(some 18),.op (.mov (.t 80)),none⟩])
  (.seq (.blk 2 (.seq (.reg false [⟨(some 82),.op (.fAddr 2 (.t 15)),none⟩,
    ⟨(some 83),.op (.load1 (.t 82)),none⟩,
    ⟨(some 84),.op (.un .not (.t 83)),none⟩,
    ⟨(some 81),.op (.mov (.t 84)),none⟩])
  (.cond (.t 81) (.skip) (.seq (.reg false [⟨(some 86),.op (.mov (.t 2)),none⟩,
    ⟨(some 87),.op (.un .not (.t 86)),none⟩,
    ⟨(some 88),.op (.mov (.t 87)),none⟩,
    ⟨(some 89),.op (.mov (.t 9)),(some (88,false))⟩,
    ⟨(some 90),.op (.un .not (.t 89)),(some (88,false))⟩,
    ⟨(some 91),.op (.pick (.t 88) (.c (.b true)) (.t 90)),none⟩,
    ⟨(some 85),.op (.mov (.t 91)),none⟩])
  (.cond (.t 85) (.seq (.reg false [⟨(some 92),.op (.mov (.t 14)),none⟩,
    ⟨(some 93),.callV (.t 92) [(.c (.i .i64 161))],none⟩])
  (.reg false [⟨(some 94),.op (.fAddr 1 (.t 15)),none⟩,
    ⟨none,.op (.store 1 (.t 94) (.c (.i .u32 0))),none⟩])) (.reg false [⟨(some 18),.op (.mov (.c (.b true))),none⟩]))))))
  (.cut (wO f_fold_copied f_fold_May f_values_Words f_values_Turned f_fold_Step_1 f_values_Read f_fold_members f_fold_ins f_fold_Put f_fold_Take)))))))))))
  (.cut (ww f_fold_copied f_fold_May f_values_Words f_values_Turned f_fold_Step_1 f_values_Read f_fold_members f_fold_ins f_fold_Put f_fold_Take))))))))
  (.seq (.reg true [⟨(some 112),.op (.loadN 2 (.t 3)),none⟩,
    ⟨(some 113),.op (.load1 (.t 11)),none⟩,
    ⟨none,.op (.storeD 2 (.t 6) (.t 112) [11]),none⟩,
    ⟨(some 7),.op (.mov (.t 113)),none⟩])
  (.ret))
def yi (f_fold_copied f_fold_May f_values_Words f_values_Turned f_fold_Step_1 f_values_Read f_fold_members f_fold_ins f_fold_Put f_fold_Take:Nat):IFn:=⟨[.cell 6 2 true,.tmp 7],
  .seq (.reg false [⟨(some 3),.op (.box (.t 0)),none⟩,
    ⟨(some 6),.op (.alloc [.i .u8 0,.nils]),none⟩,
    ⟨(some 7),.op (.mov (.c (.nils))),none⟩])
  (.seq (.reg false [⟨(some 21),.op (.loadN 2 (.t 3)),none⟩,
    ⟨(some 22),.callF f_fold_copied [(.t 21)],none⟩,
    ⟨none,.op (.store 2 (.t 3) (.t 22)),none⟩])
  (.seq (.seq (.reg false [⟨(some 23),.op (.loadN 2 (.t 3)),none⟩,
    ⟨(some 24),.callF f_fold_May [(.t 23)],none⟩,
    ⟨(some 25),.op (.un .not (.t 24)),none⟩])
  (.cond (.t 25) (.seq (.reg false [⟨(some 26),.op (.loadN 2 (.t 3)),none⟩,
    ⟨none,.op (.store 2 (.t 6) (.t 26)),none⟩,
    ⟨(some 7),.op (.mov (.c (.nils))),none⟩])
  (.ret)) (.skip)))
  (.seq (.seq (.reg false [⟨(some 27),.op (.mov (.t 1)),none⟩,
    ⟨(some 28),.callF f_values_Words [(.t 27)],none⟩,
    ⟨(some 29),.op (.len false (.t 28)),none⟩,
    ⟨(some 30),.op (.bin .eql (.t 29) (.c (.i .i64 0))),none⟩])
  (.cond (.t 30) (.seq (.reg false [⟨(some 31),.op (.build [.i .u8 0,.nils] []),none⟩,
    ⟨none,.op (.store 2 (.t 6) (.t 31)),none⟩,
    ⟨(some 7),.op (.mov (.c (.nils))),none⟩])
  (.ret)) (.skip)))
  (.seq (.reg false [⟨(some 33),.op (.mov (.t 1)),none⟩,
    ⟨(some 34),.callF f_values_Turned [(.t 33)],none⟩,
    ⟨(some 32),.op (.mov (.t 34)),none⟩,
    ⟨(some 35),.op (.ext (.t 32) 0),none⟩,
    ⟨(some 36),.op (.ext (.t 32) 1),none⟩,
    ⟨(some 8),.op (.mov (.t 35)),none⟩,
    ⟨(some 9),.op (.mov (.t 36)),none⟩])
  (.seq (.reg false [⟨(some 10),.op (.mov (.c (.i .i64 0))),none⟩])
  (.seq (.seq (.reg false [⟨(some 37),.op (.mov (.t 9)),none⟩])
  (.cond (.t 37) (.reg false [⟨(some 10),.op (.mov (.c (.i .i64 1))),none⟩]) (.skip)))
  (.seq (.seq (.reg false [⟨(some 38),.op (.fAddr 0 (.t 3)),none⟩,
    ⟨(some 39),.op (.load1 (.t 38)),none⟩,
    ⟨(some 40),.op (.bin .eql (.t 39) (.c (.i .u8 0))),none⟩])
  (.cond (.t 40) (.reg false [⟨(some 41),.op (.mov (.t 10)),none⟩,
    ⟨(some 42),.op (.cvInt .u8 (.t 41)),none⟩,
    ⟨(some 43),.op (.bin .add (.c (.i .u8 1)) (.t 42)),none⟩,
    ⟨(some 44),.op (.fAddr 0 (.t 3)),none⟩,
    ⟨none,.op (.store 1 (.t 44) (.t 43)),none⟩]) (.skip)))
  (.seq (.reg false [⟨(some 11),.op (.alloc [.nils]),none⟩])
  (.cut (vc f_fold_copied f_fold_May f_values_Words f_values_Turned f_fold_Step_1 f_values_Read f_fold_members f_fold_ins f_fold_Put f_fold_Take))))))))))⟩
def qix (P:Program) (f:Nat):Prop:=∀ (ns:List GNote) (e:Int) (w:List UInt8),(ns.length + 1) * 48 ≤ qi →
    Upd P f [.i .i64 e,.ptr 0 0,.ptr 1 0] [.cells 0 true false [.own 2 ns.length],.cells 0 true false [.s w],.cells 4 true true (rN ns)] (.tup []) [.cells 0 true false [.own 3 (ns ++ [zk e w]).length],.cells 0 true false [.s w],.dead,.cells 4 true true (rN (ns ++ [zk e w]))]
def qcB (P:Program) (f:Nat):Prop:=∀ a:List UInt8,a.length ≤ 1000000 → qg P f [.s a] (.tup [.agg (qK (ql a).1),.i .i64 (ql a).2])
def qq0 (P:Program) (f:Nat):Prop:=qg P f [] (.agg [.b true,.b false,.b false,.b true])
def jp (t:Bool):Int:=if t = true then 1 else 0
end Go.Kc
end
section
/- What fold.Step answers, whole. Condition: the functions' texts are these. -/
namespace Go.Kc
variable {P:Program} {f:Nat}
end Go.Kc
end
section
/- FoldKeeps, FoldTwice: what the laws answer. Condition: the functions' texts are these. -/
namespace Go.Kc
variable {P:Program} {f:Nat}
def qjL (P:Program) (f:Nat):Prop:=∀ l:GList,qg P f [.agg (qk l)] (.b (jq l))
theorem qbQ {l:GList} (h:jq l = false):l.calls.length ≤ 100:=by
  unfold jq at h; have:=of_decide_eq_false h; omega
end Go.Kc
end
section
/- FoldOne: what the law answers. Condition: the functions' texts are these. -/
namespace Go.Kc
variable {P:Program} {f:Nat}
end Go.Kc
end
section
/- What values come to, as the kernel can count it. No condition. -/
namespace Go.Kc
variable (E:List UInt8 → List (List UInt8) × Int)
end Go.Kc
end
section
/- What fold.Fold answers; the law's comes. Condition: the functions' texts are these. -/
namespace Go.Kc
variable {P:Program} {f:Nat}
end Go.Kc
end
section
/- Layer 16's rows. Condition: the functions' texts are these. -/
namespace Go.Kc
variable {P:Program} {f:Nat}
end Go.Kc
end
section
/- What the document's reading of values answers. Condition: the functions' texts are these. -/
namespace Go.Kc
variable {P:Program} {f:Nat}
def jX:IFn:=⟨[.tmp 2],
  .seq (.reg false [⟨(some 2),.op (.mov (.c (.nils))),none⟩])
  (.seq (.reg false [⟨(some 3),.op (.mov (.c (.nils))),none⟩])
  (.seq (.reg false [⟨(some 4),.op (.mov (.c (.s []))),none⟩])
  (.seq (.seq (.reg false [⟨(some 5),.op (.mov (.c (.i .i64 0))),none⟩])
  (.blk 0 (.loop (.seq (.seq (.reg false [⟨(some 6),.op (.mov (.t 5)),none⟩,
    ⟨(some 7),.op (.mov (.t 0)),none⟩,
    ⟨(some 8),.op (.len true (.t 7)),none⟩,
    ⟨(some 9),.op (.bin .leq (.t 6) (.t 8)),none⟩])
  (.cond (.t 9) (.skip) (.exit 0)))
  (.seq (.blk 1 (.seq (.seq (.reg false [⟨(some 12),.op (.mov (.t 5)),none⟩,
    ⟨(some 13),.op (.mov (.t 0)),none⟩,
    ⟨(some 14),.op (.len true (.t 13)),none⟩,
    ⟨(some 15),.op (.bin .lss (.t 12) (.t 14)),none⟩,
    ⟨(some 16),.op (.mov (.t 15)),none⟩,
    ⟨(some 17),.op (.mov (.t 0)),(some (16,true))⟩,
    ⟨(some 18),.op (.mov (.t 5)),(some (16,true))⟩,
    ⟨(some 19),.op (.idxS (.t 17) (.t 18)),(some (16,true))⟩,
    ⟨(some 20),.op (.bin .neq (.t 19) (.c (.i .u8 32))),(some (16,true))⟩,
    ⟨(some 21),.op (.pick (.t 16) (.t 20) (.c (.b false))),none⟩,
    ⟨(some 22),.op (.mov (.t 21)),none⟩,
    ⟨(some 23),.op (.mov (.t 0)),(some (22,true))⟩,
    ⟨(some 24),.op (.mov (.t 5)),(some (22,true))⟩,
    ⟨(some 25),.op (.idxS (.t 23) (.t 24)),(some (22,true))⟩,
    ⟨(some 26),.op (.bin .neq (.t 25) (.c (.i .u8 9))),(some (22,true))⟩,
    ⟨(some 27),.op (.pick (.t 22) (.t 26) (.c (.b false))),none⟩,
    ⟨(some 28),.op (.mov (.t 27)),none⟩,
    ⟨(some 29),.op (.mov (.t 0)),(some (28,true))⟩,
    ⟨(some 30),.op (.mov (.t 5)),(some (28,true))⟩,
    ⟨(some 31),.op (.idxS (.t 29) (.t 30)),(some (28,true))⟩,
    ⟨(some 32),.op (.bin .neq (.t 31) (.c (.i .u8 13))),(some (28,true))⟩,
    ⟨(some 33),.op (.pick (.t 28) (.t 32) (.c (.b false))),none⟩])
  (.cond (.t 33) (.seq (.reg false [⟨(some 34),.op (.mov (.t 4)),none⟩,
    ⟨(some 35),.op (.mov (.t 0)),none⟩,
    ⟨(some 36),.op (.mov (.t 5)),none⟩,
    ⟨(some 37),.op (.mov (.t 5)),none⟩,
    ⟨(some 38),.op (.bin .add (.t 37) (.c (.i .i64 1))),none⟩,
    ⟨(some 39),.op (.slcStr (.t 35) (some (.t 36)) (some (.t 38))),none⟩,
    ⟨(some 40),.op (.bin .add (.t 34) (.t 39)),none⟩,
    ⟨(some 4),.op (.mov (.t 40)),none⟩])
  (.exit 1)) (.skip)))
  (.seq (.seq (.reg false [⟨(some 41),.op (.mov (.t 4)),none⟩,
    ⟨(some 42),.op (.bin .neq (.t 41) (.c (.s []))),none⟩])
  (.cond (.t 42) (.reg false [⟨(some 43),.op (.mov (.t 3)),none⟩,
    ⟨(some 44),.op (.mov (.t 4)),none⟩,
    ⟨(some 45),.op (.buildS 1 [.s []] [(0,1,(.t 44))]),none⟩,
    ⟨(some 46),.op (.app 1 16 true (.t 43) (.t 45)),none⟩,
    ⟨(some 3),.op (.mov (.t 46)),none⟩]) (.skip)))
  (.reg false [⟨(some 4),.op (.mov (.c (.s []))),none⟩]))))
  (.reg false [⟨(some 10),.op (.mov (.t 5)),none⟩,
    ⟨(some 11),.op (.bin .add (.t 10) (.c (.i .i64 1))),none⟩,
    ⟨(some 5),.op (.mov (.t 11)),none⟩]))))))
  (.seq (.reg false [⟨(some 47),.op (.mov (.t 3)),none⟩,
    ⟨(some 2),.op (.mov (.t 47)),none⟩])
  (.ret)))))⟩
theorem qga (c:UInt8):qat c = (decide ((c.toNat:Int) = 32) || decide ((c.toNat:Int) = 9) || decide ((c.toNat:Int) = 13)):=by rw [qcs]; rfl
theorem ql4 (hc:qh P f jX = true) (s:List UInt8) (hs:s.length ≤ 1000000):qg P f [.s s] (.fz (qt s).length (rS (qt s))):=by
  refine qg.mk hc rfl ?_
  simp only [jX,qm,H0,mkT,mkH,trL,vI,simprocAttr]
  simp only [↓vS,vT,shb,shv,qb,qc,cellsOf,wr,qa,simprocAttr]
  refine SL.loop (α:=Nat × List UInt8 × List (List UInt8)) (fun q=>[(0,.s s),(3,.own 0 q.2.2.length),(4,.s q.2.1),(5,.i .i64 q.1)]) (fun q=>[.cells 1 true true (rS q.2.2)])
    (fun q=>(q.1 ≤ s.length ∧ q.2.1.length ≤ q.1 ∧ q.2.2.length ≤ q.1 ∧ q.2.2 ++ wB (s.drop q.1) q.2.1 = qt s) ∨ (q.1 = s.length + 1 ∧ q.2.2 = qt s)) (fun q=>s.length + 1 - q.1) (0,[],[]) [0] ?_ ?_ ?_ rfl ?_ ?_
  · simp [vw]
  · simp [vw,qow]
  · simp
  · left; exact ⟨Nat.zero_le _,Nat.le_refl _,Nat.le_refl _,by rw [qct]; rfl⟩
  rintro ⟨i,w,acc⟩ hI G ih
  dsimp only at hI ih ⊢
  simp only [qm,H0,mkT,mkH,trL,vI,simprocAttr]
  rcases hI with ⟨hi,hw,ha,hI⟩ | ⟨rfl,hI⟩
  · have hle:(i:Int) ≤ s.length:=by omega
    have hw1:IntKind.wrap .i64 ((i:Int) + 1) = ((i + 1:Nat):Int):=by rw [qE (by omega) (by omega)]; omega
    by_cases hlt:i < s.length
    · have hx:s[i]? = some s[i]:=List.getElem?_eq_getElem hlt
      have hsub:(s.take (i + 1)).drop i = [s[i]]:=by
        rw [List.take_add_one,hx,List.drop_append_of_le_length (by simp; omega),List.drop_of_length_le (by simp; omega)]; rfl
      rw [List.drop_eq_getElem_cons hlt,wB] at hI
      generalize s[i] = c at hx hsub hI
      have hsp:=qga c
      by_cases c1:(c.toNat:Int) = 32
      · have hs1:qat c = true:=by rw [hsp]; simp [c1]
        rw [hs1,if_pos rfl] at hI
        by_cases hwn:w = []
        · subst hwn
          rw [if_pos rfl] at hI
          simp only [↓vS,vT,shb,shv,qb,qc,cellsOf,wr,qa,simprocAttr,hle,hlt,hx,c1,hw1]
          refine ih (i + 1,[],acc) (.inl ⟨hlt,by simp,by dsimp only; omega,hI⟩) (by dsimp only; omega) _ _ (Wk.mk _ _ [0] ?_ ?_ ?_ rfl)
          · simp [vw]
          · simp [vw,qe,xj]
          · simp
        · rw [if_neg hwn] at hI
          have hr1:acc.length + 1 ≤ qi:=by simp only [qi]; omega
          have hr2:(acc.length + 1) * 16 ≤ qi:=by simp only [qi]; omega
          have hap:rS acc ++ [AV.s w] = rS (acc ++ [w]):=by rw [← qd7]; rfl
          simp (decide:=true) only [↓vS,vT,shb,shv,qb,qc,cellsOf,wr,qa,simprocAttr,hle,hlt,hx,c1,hw1,hwn,hr1,hr2,qdO,Nat.mul_one,hap]
          refine ih (i + 1,[],acc ++ [w]) (.inl ⟨hlt,by simp,by simp; omega,by simpa using hI⟩) (by dsimp only; omega) _ _ (Wk.mk _ _ [2] ?_ ?_ ?_ rfl)
          · simp [vw]
          · simp [vw,qe,xj]
          · simp
      by_cases c2:(c.toNat:Int) = 9
      · have hs1:qat c = true:=by rw [hsp]; simp [c2]
        rw [hs1,if_pos rfl] at hI
        by_cases hwn:w = []
        · subst hwn
          rw [if_pos rfl] at hI
          simp only [↓vS,vT,shb,shv,qb,qc,cellsOf,wr,qa,simprocAttr,hle,hlt,hx,c1,c2,hw1]
          refine ih (i + 1,[],acc) (.inl ⟨hlt,by simp,by dsimp only; omega,hI⟩) (by dsimp only; omega) _ _ (Wk.mk _ _ [0] ?_ ?_ ?_ rfl)
          · simp [vw]
          · simp [vw,qe,xj]
          · simp
        · rw [if_neg hwn] at hI
          have hr1:acc.length + 1 ≤ qi:=by simp only [qi]; omega
          have hr2:(acc.length + 1) * 16 ≤ qi:=by simp only [qi]; omega
          have hap:rS acc ++ [AV.s w] = rS (acc ++ [w]):=by rw [← qd7]; rfl
          simp (decide:=true) only [↓vS,vT,shb,shv,qb,qc,cellsOf,wr,qa,simprocAttr,hle,hlt,hx,c1,c2,hw1,hwn,hr1,hr2,qdO,Nat.mul_one,hap]
          refine ih (i + 1,[],acc ++ [w]) (.inl ⟨hlt,by simp,by simp; omega,by simpa using hI⟩) (by dsimp only; omega) _ _ (Wk.mk _ _ [2] ?_ ?_ ?_ rfl)
          · simp [vw]
          · simp [vw,qe,xj]
          · simp
      by_cases c3:(c.toNat:Int) = 13
      · have hs1:qat c = true:=by rw [hsp]; simp [c3]
        rw [hs1,if_pos rfl] at hI
        by_cases hwn:w = []
        · subst hwn
          rw [if_pos rfl] at hI
          simp only [↓vS,vT,shb,shv,qb,qc,cellsOf,wr,qa,simprocAttr,hle,hlt,hx,c1,c2,c3,hw1]
          refine ih (i + 1,[],acc) (.inl ⟨hlt,by simp,by dsimp only; omega,hI⟩) (by dsimp only; omega) _ _ (Wk.mk _ _ [0] ?_ ?_ ?_ rfl)
          · simp [vw]
          · simp [vw,qe,xj]
          · simp
        · rw [if_neg hwn] at hI
          have hr1:acc.length + 1 ≤ qi:=by simp only [qi]; omega
          have hr2:(acc.length + 1) * 16 ≤ qi:=by simp only [qi]; omega
          have hap:rS acc ++ [AV.s w] = rS (acc ++ [w]):=by rw [← qd7]; rfl
          simp (decide:=true) only [↓vS,vT,shb,shv,qb,qc,cellsOf,wr,qa,simprocAttr,hle,hlt,hx,c1,c2,c3,hw1,hwn,hr1,hr2,qdO,Nat.mul_one,hap]
          refine ih (i + 1,[],acc ++ [w]) (.inl ⟨hlt,by simp,by simp; omega,by simpa using hI⟩) (by dsimp only; omega) _ _ (Wk.mk _ _ [2] ?_ ?_ ?_ rfl)
          · simp [vw]
          · simp [vw,qe,xj]
          · simp
      · have hs0:qat c = false:=by rw [hsp]; simp [c1,c2,c3]
        rw [hs0,if_neg (by decide)] at hI
        have hl1:i + 1 ≤ s.length:=hlt
        have hcat:w.length + 1 ≤ 9223372036854775807:=by omega
        simp only [↓vS,vT,shb,shv,qb,qc,cellsOf,wr,qa,simprocAttr,hle,hlt,hx,c1,c2,c3,hw1,hl1,hsub,Nat.le_add_right,List.length_cons,List.length_nil,hcat]
        refine ih (i + 1,w ++ [c],acc) (.inl ⟨hlt,by simp; omega,by dsimp only; omega,hI⟩) (by dsimp only; omega) _ _ (Wk.mk _ _ [0] ?_ ?_ ?_ rfl)
        · simp [vw]
        · simp [vw,qe,xj]
        · simp
    · rw [List.drop_of_length_le (by omega)] at hI
      by_cases hwn:w = []
      · subst hwn
        rw [wB,if_pos rfl] at hI
        simp only [↓vS,vT,shb,shv,qb,qc,cellsOf,wr,qa,simprocAttr,hle,hlt,hw1]
        refine ih (i + 1,[],acc) (.inr ⟨by dsimp only; omega,by simpa using hI⟩) (by dsimp only; omega) _ _ (Wk.mk _ _ [0] ?_ ?_ ?_ rfl)
        · simp [vw]
        · simp [vw,qe,xj]
        · simp
      · rw [wB,if_neg hwn] at hI
        have hr1:acc.length + 1 ≤ qi:=by simp only [qi]; omega
        have hr2:(acc.length + 1) * 16 ≤ qi:=by simp only [qi]; omega
        have hap:rS acc ++ [AV.s w] = rS (acc ++ [w]):=by rw [← qd7]; rfl
        simp (decide:=true) only [↓vS,vT,shb,shv,qb,qc,cellsOf,wr,qa,simprocAttr,hle,hlt,hw1,hwn,hr1,hr2,qdO,Nat.mul_one,hap]
        refine ih (i + 1,[],acc ++ [w]) (.inr ⟨by dsimp only; omega,hI⟩) (by dsimp only; omega) _ _ (Wk.mk _ _ [2] ?_ ?_ ?_ rfl)
        · simp [vw]
        · simp [vw,qe,xj]
        · simp
  · have hgt:¬ ((s.length + 1:Nat):Int) ≤ s.length:=by omega
    simp only [↓vS,vT,shb,shv,qb,qc,cellsOf,wr,qa,simprocAttr,hgt]
    subst hI
    simp [vZ,vP,Tr.get_set,qF xj]
    intro h0; rw [h0]; rfl
def jD:IFn:=⟨[.tmp 2,.tmp 3],
  .seq (.reg false [⟨(some 2),.op (.mov (.c (.s []))),none⟩,
    ⟨(some 3),.op (.mov (.c (.b false))),none⟩])
  (.seq (.seq (.reg false [⟨(some 4),.op (.mov (.t 0)),none⟩,
    ⟨(some 5),.op (.len true (.t 4)),none⟩,
    ⟨(some 6),.op (.bin .gtr (.t 5) (.c (.i .i64 0))),none⟩,
    ⟨(some 7),.op (.mov (.t 6)),none⟩,
    ⟨(some 8),.op (.mov (.t 0)),(some (7,true))⟩,
    ⟨(some 9),.op (.idxS (.t 8) (.c (.i .i64 0))),(some (7,true))⟩,
    ⟨(some 10),.op (.bin .eql (.t 9) (.c (.i .u8 126))),(some (7,true))⟩,
    ⟨(some 11),.op (.pick (.t 7) (.t 10) (.c (.b false))),none⟩])
  (.cond (.t 11) (.seq (.reg false [⟨(some 12),.op (.mov (.t 0)),none⟩,
    ⟨(some 13),.op (.slcStr (.t 12) (some (.c (.i .i64 1))) none),none⟩,
    ⟨(some 2),.op (.mov (.t 13)),none⟩,
    ⟨(some 3),.op (.mov (.c (.b true))),none⟩])
  (.ret)) (.skip)))
  (.seq (.reg false [⟨(some 14),.op (.mov (.t 0)),none⟩,
    ⟨(some 2),.op (.mov (.t 14)),none⟩,
    ⟨(some 3),.op (.mov (.c (.b false))),none⟩])
  (.ret)))⟩
theorem qjf (hc:qh P f jD = true) (s:List UInt8):qg P f [.s s] (.tup [.s (zj s).1,.b (zj s).2]):=by
  refine qg.mk hc rfl ?_
  simp only [jD,qm,H0,mkT,mkH,trL,vI,simprocAttr]
  cases s with
  | nil =>
    simp only [↓vS,vT,shb,shv,qb,qc,cellsOf,wr,qa,simprocAttr,List.length_nil]
    simp [vZ,zj]
  | cons c s =>
    have h0:(0:Int) < ((c :: s).length:Int):=by simp
    have h1:0 < (c :: s).length:=by simp
    have h2:1 ≤ (c :: s).length:=by simp
    have hx:(c :: s)[0]? = some c:=rfl
    by_cases hc:(c.toNat:Int) = 126
    · have hc':c = 126:=by rw [← UInt8.toNat_inj]; have:=hc; simp at this ⊢; omega
      have ht:zj (c :: s) = (s,true):=by rw [hc']; simp [zj,List.isPrefixOf]
      simp only [↓vS,vT,shb,shv,qb,qc,cellsOf,wr,qa,simprocAttr,h0,h1,h2,hx,hc,List.take_length,List.drop_succ_cons,List.drop_zero]
      simp [vZ,ht]
    · have hc':¬ (126:UInt8) = c:=by rintro rfl; exact hc rfl
      have ht:zj (c :: s) = (c :: s,false):=by unfold zj; rw [if_neg (by simp [List.isPrefixOf,hc'])]
      simp only [↓vS,vT,shb,shv,qb,qc,cellsOf,wr,qa,simprocAttr,h0,h1,hx,hc]
      simp [vZ,ht]
def xe (f_vestibuleref10_Errno:Nat):ICode:=.seq (.seq (.reg false [⟨(some 27),.op (.mov (.t 4)),none⟩,
    ⟨(some 28),.op (.bin .eql (.t 27) (.c (.i .i64 0))),none⟩])
  (.cond (.t 28) (.seq (.reg false [⟨(some 29),.op (.build [.s [],.i .u32 0,.b false] []),none⟩,
    ⟨none,.op (.store 3 (.t 2) (.t 29)),none⟩,
    ⟨(some 3),.op (.mov (.c (.i .i64 161))),none⟩])
  (.ret)) (.skip)))
  (.seq (.seq (.reg false [⟨(some 30),.op (.mov (.t 4)),none⟩,
    ⟨(some 31),.op (.mov (.t 0)),none⟩,
    ⟨(some 32),.op (.len true (.t 31)),none⟩,
    ⟨(some 33),.op (.bin .eql (.t 30) (.t 32)),none⟩])
  (.cond (.t 33) (.seq (.reg false [⟨(some 34),.op (.loadN 3 (.t 6)),none⟩,
    ⟨none,.op (.store 3 (.t 2) (.t 34)),none⟩,
    ⟨(some 3),.op (.mov (.c (.i .i64 0))),none⟩])
  (.ret)) (.skip)))
  (.seq (.reg false [⟨(some 35),.op (.fAddr 2 (.t 6)),none⟩,
    ⟨none,.op (.store 1 (.t 35) (.c (.b true))),none⟩])
  (.seq (.seq (.reg false [⟨(some 36),.op (.mov (.t 0)),none⟩,
    ⟨(some 37),.op (.mov (.t 4)),none⟩,
    ⟨(some 38),.op (.bin .add (.t 37) (.c (.i .i64 1))),none⟩,
    ⟨(some 39),.op (.slcStr (.t 36) (some (.t 38)) none),none⟩,
    ⟨(some 40),.op (.bin .eql (.t 39) (.c (.s [107,105,108,108]))),none⟩])
  (.cond (.t 40) (.seq (.reg false [⟨(some 41),.op (.fAddr 1 (.t 6)),none⟩,
    ⟨none,.op (.store 1 (.t 41) (.c (.i .u32 2147483648))),none⟩])
  (.seq (.reg false [⟨(some 42),.op (.loadN 3 (.t 6)),none⟩,
    ⟨none,.op (.store 3 (.t 2) (.t 42)),none⟩,
    ⟨(some 3),.op (.mov (.c (.i .i64 0))),none⟩])
  (.ret))) (.skip)))
  (.seq (.reg false [⟨(some 44),.op (.mov (.t 0)),none⟩,
    ⟨(some 45),.op (.mov (.t 4)),none⟩,
    ⟨(some 46),.op (.bin .add (.t 45) (.c (.i .i64 1))),none⟩,
    ⟨(some 47),.op (.slcStr (.t 44) (some (.t 46)) none),none⟩,
    ⟨(some 48),.callF f_vestibuleref10_Errno [(.t 47)],none⟩,
    ⟨(some 43),.op (.mov (.t 48)),none⟩,
    ⟨(some 49),.op (.ext (.t 43) 0),none⟩,
    ⟨(some 50),.op (.ext (.t 43) 1),none⟩,
    ⟨(some 7),.op (.mov (.t 49)),none⟩,
    ⟨(some 8),.op (.mov (.t 50)),none⟩])
  (.seq (.seq (.reg false [⟨(some 51),.op (.mov (.t 8)),none⟩,
    ⟨(some 52),.op (.bin .neq (.t 51) (.c (.i .i64 0))),none⟩])
  (.cond (.t 52) (.seq (.reg false [⟨(some 53),.op (.build [.s [],.i .u32 0,.b false] []),none⟩,
    ⟨none,.op (.store 3 (.t 2) (.t 53)),none⟩,
    ⟨(some 3),.op (.mov (.c (.i .i64 160))),none⟩])
  (.ret)) (.skip)))
  (.seq (.reg false [⟨(some 54),.op (.mov (.t 7)),none⟩,
    ⟨(some 55),.op (.bin .add (.c (.i .u32 327680)) (.t 54)),none⟩,
    ⟨(some 56),.op (.fAddr 1 (.t 6)),none⟩,
    ⟨none,.op (.store 1 (.t 56) (.t 55)),none⟩])
  (.seq (.reg false [⟨(some 57),.op (.loadN 3 (.t 6)),none⟩,
    ⟨none,.op (.store 3 (.t 2) (.t 57)),none⟩,
    ⟨(some 3),.op (.mov (.c (.i .i64 0))),none⟩])
  (.ret))))))))
def wx (f_vestibuleref10_Errno:Nat):IFn:=⟨[.cell 2 3 true,.tmp 3],
  .seq (.reg false [⟨(some 2),.op (.alloc [.s [],.i .u32 0,.b false]),none⟩,
    ⟨(some 3),.op (.mov (.c (.i .i64 0))),none⟩])
  (.seq (.reg false [⟨(some 9),.op (.mov (.t 0)),none⟩,
    ⟨(some 10),.op (.len true (.t 9)),none⟩,
    ⟨(some 4),.op (.mov (.t 10)),none⟩])
  (.seq (.seq (.reg false [⟨(some 11),.op (.mov (.t 0)),none⟩,
    ⟨(some 12),.op (.len true (.t 11)),none⟩,
    ⟨(some 13),.op (.bin .sub (.t 12) (.c (.i .i64 1))),none⟩,
    ⟨(some 5),.op (.mov (.t 13)),none⟩])
  (.blk 0 (.loop (.seq (.seq (.reg false [⟨(some 14),.op (.mov (.t 5)),none⟩,
    ⟨(some 15),.op (.bin .geq (.t 14) (.c (.i .i64 0))),none⟩])
  (.cond (.t 15) (.skip) (.exit 0)))
  (.seq (.blk 1 (.seq (.reg false [⟨(some 18),.op (.mov (.t 0)),none⟩,
    ⟨(some 19),.op (.mov (.t 5)),none⟩,
    ⟨(some 20),.op (.idxS (.t 18) (.t 19)),none⟩,
    ⟨(some 21),.op (.bin .eql (.t 20) (.c (.i .u8 58))),none⟩])
  (.cond (.t 21) (.reg false [⟨(some 22),.op (.mov (.t 5)),none⟩,
    ⟨(some 4),.op (.mov (.t 22)),none⟩]) (.skip))))
  (.reg false [⟨(some 16),.op (.mov (.t 5)),none⟩,
    ⟨(some 17),.op (.bin .sub (.t 16) (.c (.i .i64 1))),none⟩,
    ⟨(some 5),.op (.mov (.t 17)),none⟩]))))))
  (.seq (.reg false [⟨(some 23),.op (.mov (.t 0)),none⟩,
    ⟨(some 24),.op (.mov (.t 4)),none⟩,
    ⟨(some 25),.op (.slcStr (.t 23) none (some (.t 24))),none⟩,
    ⟨(some 26),.op (.build [.s [],.i .u32 0,.b false] [(0,1,(.t 25))]),none⟩,
    ⟨(some 6),.op (.alloc [.s [],.i .u32 0,.b false]),none⟩,
    ⟨none,.op (.store 3 (.t 6) (.t 26)),none⟩])
  (.cut (xe f_vestibuleref10_Errno)))))⟩
theorem qbm (c x:UInt8) (xs:List UInt8) (j:Nat):wb c (x :: xs) j = if x = c then (j:Int) else wb c xs (j + 1):=by
  rw [wb]
theorem qaA (c:UInt8):∀ (xs:List UInt8) (j:Nat),wb c xs j = if wb c xs 0 = -1 then -1 else wb c xs 0 + j
  | [],j=>by simp [wb]
  | x :: xs,j=>by
    rw [qbm,qbm]
    by_cases h:x = c
    · simp [h]
    · rw [if_neg h,if_neg h,qaA c xs (j + 1),qaA c xs (0 + 1)]
      rcases wN c xs 0 with h1 | ⟨i,h1,_⟩
      · simp [h1]
      · rw [h1]
        rw [if_neg (by omega),if_neg (by omega),if_neg (by omega)]
        omega
noncomputable def fcI (s:List UInt8) (j:Nat):Int:=if wb 58 (s.drop j) 0 = -1 then (s.length:Int) else (j:Int) + wb 58 (s.drop j) 0
theorem qjg {s:List UInt8} {j:Nat} (h:j < s.length):fcI s j = if s[j] = 58 then (j:Int) else fcI s (j + 1):=by
  unfold fcI
  rw [List.drop_eq_getElem_cons h,qbm]
  by_cases hc:s[j] = 58
  · simp [hc]
  · rw [if_neg hc,if_neg hc,qaA 58 _ (0 + 1)]
    rcases wN 58 (s.drop (j + 1)) 0 with h1 | ⟨i,h1,_⟩
    · simp [h1]
    · rw [h1,if_neg (by omega),if_neg (by omega),if_neg (by omega)]
      omega
theorem qhX {g:Nat} (hg:∀ s:List UInt8,s.length ≤ 1000000 → qg P g [.s s] (.tup [.i .u32 (qD s).1,.i .i64 (qD s).2])) (s:List UInt8) (hs:s.length ≤ 1000000) :
    S P 0 (xe g) (kc [.cell 2 3 true,.tmp 3] fun v' h'=>Frz h' v' (.tup [.agg (qK (ql s).1),.i .i64 (ql s).2])) (mkT [(0,.s s),(2,.ptr 0 0),(3,.i .i64 0),(4,.i .i64 (fcI s 0)),(6,.ptr 1 0)]) (mkH 0 [.cells 0 true false [.s [],.i .u32 0,.b false],.cells 0 true false [.s (s.take (fcI s 0).toNat),.i .u32 0,.b false]]):=by
  refine qy ?_
  simp only [xe,qm,H0,mkT,mkH,trL,vI,simprocAttr]
  rcases wN 58 s 0 with h1 | ⟨i,h1,hi⟩
  · have hf:fcI s 0 = (s.length:Int):=by unfold fcI; rw [List.drop_zero,if_pos h1]
    have hcut:z0 s = (s,[],false):=by unfold z0; rw [h1]; rfl
    have htk:s.take ((s.length:Int)).toNat = s:=by simp
    rw [hf,htk]
    by_cases h0:s = []
    · have hw:ql s = (⟨[],0,false⟩,161):=by unfold ql; rw [hcut,if_pos h0]
      rw [hw]
      simp only [↓vS,vT,shb,shv,qb,qc,cellsOf,wr,qa,simprocAttr,h0,List.length_nil]
      simp [vZ,vP,Tr.get_set,qK]
    · have hn:¬ (s.length:Int) = 0:=by have:=List.length_pos_iff.2 h0; omega
      have hw:ql s = (⟨s,0,false⟩,0):=by unfold ql; rw [hcut,if_neg h0,if_pos rfl]
      rw [hw]
      simp only [↓vS,vT,shb,shv,qb,qc,cellsOf,wr,qa,simprocAttr,hn]
      simp [vZ,vP,Tr.get_set,qK]
  · rw [Nat.zero_add] at h1
    have hf:fcI s 0 = (i:Int):=by unfold fcI; rw [List.drop_zero,h1,if_neg (by omega)]; simp
    have hcut:z0 s = (s.take i,s.drop (i + 1),true):=by unfold z0; rw [h1,if_pos (by omega)]; rfl
    have htk:s.take ((i:Int)).toNat = s.take i:=rfl
    rw [hf,htk]
    by_cases h0:i = 0
    · have hw:ql s = (⟨[],0,false⟩,161):=by unfold ql; rw [hcut,h0,if_pos (by simp)]
      rw [hw]
      simp only [↓vS,vT,shb,shv,qb,qc,cellsOf,wr,qa,simprocAttr,h0]
      simp [vZ,vP,Tr.get_set,qK]
    · have hi0:¬ (i:Int) = 0:=by omega
      have hil:¬ (i:Int) = s.length:=by omega
      have htn:¬ s.take i = []:=by intro h; have:=congrArg List.length h; simp at this; rcases this with h | h <;> simp_all
      have hw1:IntKind.wrap .i64 ((i:Int) + 1) = ((i + 1:Nat):Int):=by rw [qE (by omega) (by omega)]; omega
      have hb:i + 1 ≤ s.length:=hi
      by_cases e3:s.drop (i + 1) = [107,105,108,108]
      · have hw:ql s = (⟨s.take i,2147483648,true⟩,0):=by unfold ql; rw [hcut]; dsimp only; rw [if_neg htn,if_neg (by decide),if_pos (show s.drop (i + 1) = kX from e3)]
        rw [hw]
        have e3':(s.drop (i + 1) = [107,105,108,108]) = True:=eq_true e3
        simp only [↓vS,vT,shb,shv,qb,qc,cellsOf,wr,qa,simprocAttr,hi0,hil,hw1,hb,List.take_length,e3']
        simp [vZ,vP,Tr.get_set,qK]
      · simp only [↓vS,vT,shb,shv,qb,qc,cellsOf,wr,qa,simprocAttr,hi0,hil,hw1,hb,List.take_length,e3]
        refine (hg (s.drop (i + 1)) (by simp; omega)).sc ?_
        obtain ⟨q0,q1,q2⟩:=vx (s.drop (i + 1))
        by_cases e4:(qD (s.drop (i + 1))).2 = 0
        · have hw:ql s = (⟨s.take i,327680 + (qD (s.drop (i + 1))).1,true⟩,0):=by unfold ql; rw [hcut]; dsimp only; rw [if_neg htn,if_neg (by decide),if_neg (show ¬ s.drop (i + 1) = kX from e3),if_pos e4]
          rw [hw]
          have hwr:=vo (x:=327680 + (qD (s.drop (i + 1))).1) (by omega) (by omega)
          simp only [↓vS,vT,shb,shv,qb,qc,cellsOf,wr,qa,simprocAttr,hi0,hil,hw1,hb,List.take_length,e4,hwr]
          simp [vZ,vP,Tr.get_set,qK]
        · have hw:ql s = (⟨[],0,false⟩,160):=by unfold ql; rw [hcut]; dsimp only; rw [if_neg htn,if_neg (by decide),if_neg (show ¬ s.drop (i + 1) = kX from e3),if_neg e4]; rcases q2 with h | h; exact absurd h e4; rw [h]
          rw [hw]
          simp only [↓vS,vT,shb,shv,qb,qc,cellsOf,wr,qa,simprocAttr,hi0,hil,hw1,hb,List.take_length,e4]
          simp [vZ,vP,Tr.get_set,qK]
theorem qou {g:Nat} (hc:qh P f (wx g) = true) (hg:∀ s:List UInt8,s.length ≤ 1000000 → qg P g [.s s] (.tup [.i .u32 (qD s).1,.i .i64 (qD s).2])) (s:List UInt8) (hs:s.length ≤ 1000000):qg P f [.s s] (.tup [.agg (qK (ql s).1),.i .i64 (ql s).2]):=by
  refine qg.mk hc rfl ?_
  simp only [wx,qm,H0,mkT,mkH,trL,vI,simprocAttr]
  have hw0:IntKind.wrap .i64 ((s.length:Int) - 1) = (s.length:Int) - 1:=qE (by omega) (by omega)
  simp only [↓vS,vT,shb,shv,qb,qc,cellsOf,wr,qa,simprocAttr,hw0]
  have hfl:fcI s s.length = (s.length:Int):=by unfold fcI; rw [List.drop_of_length_le (Nat.le_refl _)]; rfl
  refine SL.loop (α:=Nat) (fun j=>[(0,.s s),(2,.ptr 0 0),(3,.i .i64 0),(4,.i .i64 (fcI s j)),(5,.i .i64 ((j:Int) - 1))]) (fun _=>[.cells 0 true false [.s [],.i .u32 0,.b false]]) (fun j=>j ≤ s.length) (fun j=>j) s.length [0] ?_ ?_ ?_ rfl ?_ ?_
  · simp [vw,hfl]
  · simp [vw]
  · simp
  · exact Nat.le_refl _
  rintro j hj G ih
  simp only [qm,H0,mkT,mkH,trL,vI,simprocAttr]
  cases j with
  | zero =>
    have hn:¬ (0:Int) ≤ -1:=by decide
    have e0:((0:Nat):Int) - 1 = -1:=rfl
    have hr:0 ≤ fcI s 0 ∧ (fcI s 0).toNat ≤ s.length:=by
      unfold fcI
      rcases wN 58 (s.drop 0) 0 with h1 | ⟨i,h1,h2⟩
      · rw [h1,if_pos rfl]; omega
      · rw [h1,if_neg (by omega)]; simp at h2 ⊢; omega
    simp only [↓vS,vT,shb,shv,qb,qc,cellsOf,wr,qa,simprocAttr,e0,hn,hr.1,hr.2,List.drop_zero]
    refine S.weak (Wk.mk _ _ [0,1] ?_ ?_ ?_ rfl) (qhX hg s hs)
    · simp [vw]
    · simp [vw]
    · simp
  | succ j =>
    have hp:(0:Int) ≤ ((j + 1:Nat):Int) - 1:=by omega
    have e1:((j + 1:Nat):Int) - 1 = (j:Int):=by omega
    have hlt:j < s.length:=by omega
    have hx:s[j]? = some s[j]:=List.getElem?_eq_getElem hlt
    have hw:IntKind.wrap .i64 ((j:Int) - 1) = (j:Int) - 1:=qE (by omega) (by omega)
    have hstep:=qjg hlt
    have ih2:=ih j (by omega) (by omega)
    rw [hstep] at ih2
    by_cases h58:s[j] = 58
    · have h58':(s[j].toNat:Int) = 58:=by rw [h58]; rfl
      rw [if_pos h58] at ih2
      have hjp:(0:Int) ≤ (j:Int):=by omega
      simp only [↓vS,vT,shb,shv,qb,qc,cellsOf,wr,qa,simprocAttr,hp,e1,hjp,hlt,hx,h58',hw]
      refine ih2 _ _ (Wk.mk _ _ [0] ?_ ?_ ?_ rfl)
      · simp [vw]
      · simp [vw]
      · simp
    · have h58':¬ (s[j].toNat:Int) = 58:=by intro h; apply h58; rw [← UInt8.toNat_inj]; simp; omega
      rw [if_neg h58] at ih2
      have hjp:(0:Int) ≤ (j:Int):=by omega
      simp only [↓vS,vT,shb,shv,qb,qc,cellsOf,wr,qa,simprocAttr,hp,e1,hjp,hlt,hx,h58',hw]
      refine ih2 _ _ (Wk.mk _ _ [0] ?_ ?_ ?_ rfl)
      · simp [vw]
      · simp [vw]
      · simp
end Go.Kc
end
section
/- What the document says of lists. Condition: the functions' texts are these. -/
namespace Go.Kc
variable {P:Program} {f:Nat}
def yc:List (List UInt8 × List Int):=[([98,105,110,100],[49,361,1073741873,282,200,200]),([98,112,102],[321,357,1073742145,386,280,280]),([98,114,107],[12,45,1073741836,45,214,214]),([99,108,111,99,107,95,115,101,116,116,105,109,101],[227,264,1073742051,262,112,112]),([99,108,111,110,101],[56,120,1073741880,120,220,220]),([99,108,111,110,101,51],[435,435,-1,435,435,435]),([99,108,111,115,101],[3,6,1073741827,6,57,57]),([99,111,110,110,101,99,116],[42,362,1073741866,283,203,203]),([100,101,108,101,116,101,95,109,111,100,117,108,101],[176,129,1073742000,129,106,106]),([101,120,101,99,118,101],[59,11,1073742344,11,221,221]),([101,120,105,116],[60,1,1073741884,1,93,93]),([102,105,110,105,116,95,109,111,100,117,108,101],[313,350,1073742137,379,273,273]),([102,111,114,107],[57,2,1073741881,2,-1,-1]),([103,101,116,117,105,100],[102,24,1073741926,24,174,174]),([105,110,105,116,95,109,111,100,117,108,101],[175,128,-1,128,105,105]),([105,111,99,116,108],[16,54,1073742338,54,29,29]),([107,105,108,108],[62,37,1073741886,37,129,129]),([108,105,115,116,101,110],[50,363,1073741874,284,201,201]),([109,109,97,112],[9,90,1073741833,-1,222,222]),([109,111,117,110,116],[165,21,1073741989,21,40,40]),([109,112,114,111,116,101,99,116],[10,125,1073741834,125,226,226]),([109,117,110,109,97,112],[11,91,1073741835,91,215,215]),([111,112,101,110],[2,5,1073741826,5,-1,-1]),([111,112,101,110,97,116],[257,295,1073742081,322,56,56]),([112,101,114,115,111,110,97,108,105,116,121],[135,136,1073741959,136,92,92]),([112,107,101,121,95,109,112,114,111,116,101,99,116],[329,380,1073742153,394,288,-1]),([112,116,114,97,99,101],[101,26,1073742345,26,117,117]),([114,101,97,100],[0,3,1073741824,3,63,63]),([114,101,98,111,111,116],[169,88,1073741993,88,142,142]),([115,99,104,101,100,95,115,101,116,97,116,116,114],[314,351,1073742138,380,274,274]),([115,99,104,101,100,95,115,101,116,115,99,104,101,100,117,108,101,114],[144,156,1073741968,156,119,119]),([115,101,99,99,111,109,112],[317,354,1073742141,383,277,277]),([115,101,116,110,115],[308,346,1073742132,375,268,268]),([115,101,116,116,105,109,101,111,102,100,97,121],[164,79,1073741988,79,170,170]),([115,101,116,117,105,100],[105,23,1073741929,23,146,146]),([115,104,109,97,116],[30,397,-1,305,196,196]),([115,111,99,107,101,116],[41,359,1073741865,281,198,198]),([117,109,111,117,110,116,50],[166,52,1073741990,52,39,39]),([117,110,115,104,97,114,101],[272,310,1073742096,337,97,97]),([119,114,105,116,101],[1,4,1073741825,4,64,64])]
def qet (x:List UInt8 × List Int):List AV:=[.s x.1,.fz 6 (rI .i64 x.2)]
theorem qeo (x:List UInt8 × List Int):(qet x).length = 2:=rfl
theorem qgb:yc.map (·.1) = zr.map (·.1):=rfl
def qqX (P:Program) (f:Nat):Prop:=qg P f [] (.fz 40 (yc.flatMap qet))
theorem qco (s:List UInt8):zn s = true ↔ s ∈ yc.map (·.1):=by
  rw [qgb]
  constructor
  · exact qcR
  · intro h
    obtain ⟨x,hx,rfl⟩:=List.mem_map.1 h
    unfold zn
    rw [List.find?_isSome]
    exact ⟨x,hx,by simp⟩
def jW (f_vestibuleref09_Table:Nat):IFn:=⟨[.tmp 2],
  .seq (.reg false [⟨(some 2),.op (.mov (.c (.b false))),none⟩])
  (.seq (.reg false [⟨(some 5),.callF f_vestibuleref09_Table [],none⟩,
    ⟨(some 3),.op (.mov (.t 5)),none⟩])
  (.seq (.seq (.reg false [⟨(some 4),.op (.mov (.c (.i .i64 0))),none⟩])
  (.blk 0 (.loop (.seq (.seq (.reg false [⟨(some 6),.op (.mov (.t 4)),none⟩,
    ⟨(some 7),.op (.mov (.t 3)),none⟩,
    ⟨(some 8),.op (.len false (.t 7)),none⟩,
    ⟨(some 9),.op (.bin .lss (.t 6) (.t 8)),none⟩])
  (.cond (.t 9) (.skip) (.exit 0)))
  (.seq (.blk 1 (.seq (.reg false [⟨(some 12),.op (.mov (.t 3)),none⟩,
    ⟨(some 13),.op (.mov (.t 4)),none⟩,
    ⟨(some 14),.op (.iAddrS 2 (.t 12) (.t 13)),none⟩,
    ⟨(some 15),.op (.fAddr 0 (.t 14)),none⟩,
    ⟨(some 16),.op (.load1 (.t 15)),none⟩,
    ⟨(some 17),.op (.mov (.t 0)),none⟩,
    ⟨(some 18),.op (.bin .eql (.t 16) (.t 17)),none⟩])
  (.cond (.t 18) (.seq (.reg false [⟨(some 2),.op (.mov (.c (.b true))),none⟩])
  (.ret)) (.skip))))
  (.reg false [⟨(some 10),.op (.mov (.t 4)),none⟩,
    ⟨(some 11),.op (.bin .add (.t 10) (.c (.i .i64 1))),none⟩,
    ⟨(some 4),.op (.mov (.t 11)),none⟩]))))))
  (.seq (.reg false [⟨(some 2),.op (.mov (.c (.b false))),none⟩])
  (.ret))))⟩
theorem qnk {g1:Nat} (hc:qh P f (jW g1) = true) (h1:qqX P g1) (s:List UInt8):qg P f [.s s] (.b (zn s)):=by
  refine qg.mk hc rfl ?_
  simp only [jW,qm,H0,mkT,mkH,trL,vI,simprocAttr]
  simp only [↓vS,vT,shb,shv,qb,qc,cellsOf,wr,qa,simprocAttr]
  refine h1.sc ?_
  have h40:yc.length = 40:=by decide
  have hlen:(yc.flatMap qet).length = 80:=by rw [jo qeo,h40]
  have hcl:qC (yc.flatMap qet) = true:=vy fun _=>rfl
  have hget:∀ j r,yc[j]? = some r → (yc.flatMap qet)[j * 2]? = some (.s r.1):=fun j r h=>k8 (m:=2) qeo h (i:=0) (by decide)
  generalize hT:yc.flatMap qet = T at hlen hcl hget
  simp only [↓vS,vT,shb,shv,qb,qc,cellsOf,wr,qa,simprocAttr]
  refine SL.loop (α:=Nat) (fun j=>[(0,.s s),(3,.fz 40 T),(4,.i .i64 j)]) (fun _=>[]) (fun j=>j ≤ 40 ∧ ∀ r ∈ yc.take j,r.1 ≠ s) (fun j=>40 - j) 0 [] ?_ ?_ ?_ rfl ?_ ?_
  · simp [vw,hcl]
  · trivial
  · simp
  · exact ⟨Nat.zero_le _,fun r hr=>by cases hr⟩
  rintro j ⟨hj,hI⟩ G ih
  simp only [qm,H0,mkT,mkH,trL,vI,simprocAttr]
  by_cases hlt:j < 40
  · have hx:yc[j]? = some (yc[j]'(by omega)):=List.getElem?_eq_getElem (by omega)
    have hw:IntKind.wrap .i64 ((j:Int) + 1) = ((j + 1:Nat):Int):=by rw [qE (by omega) (by omega)]; omega
    have hlt':(j:Int) < 40:=by omega
    have ht:yc.take (j + 1) = yc.take j ++ [yc[j]'(by omega)]:=by rw [List.take_add_one,hx]; rfl
    have hmem:(yc[j]'(by omega)) ∈ yc:=List.getElem_mem _
    have g0:=hget j _ hx
    generalize (yc[j]'(by omega)) = r at hx ht hmem g0
    by_cases he:r.1 = s
    · have hk:zn s = true:=(qco s).2 (List.mem_map.2 ⟨r,hmem,he⟩)
      simp only [↓vS,vT,shb,shv,qb,qc,cellsOf,wr,qa,simprocAttr,hlt,hlt',g0,he]
      simp [vZ,hk]
    · simp only [↓vS,vT,shb,shv,qb,qc,cellsOf,wr,qa,simprocAttr,hlt,hlt',g0,he,hw]
      refine ih (j + 1) ⟨by omega,?_⟩ (by omega) _ _ (Wk.mk _ _ [] ?_ ?_ ?_ rfl)
      · intro q hq
        rw [ht] at hq
        rcases List.mem_append.1 hq with h | h
        · exact hI q h
        · rw [List.mem_singleton.1 h]; exact he
      · simp [vw,hcl]
      · trivial
      · simp
  · have hlt':¬ (j:Int) < 40:=by omega
    have hk:zn s = false:=by
      rw [Bool.eq_false_iff]
      intro h
      obtain ⟨r,hr,he⟩:=List.mem_map.1 ((qco s).1 h)
      exact hI r (by rw [List.take_of_length_le (by omega)]; exact hr) he
    simp only [↓vS,vT,shb,shv,qb,qc,cellsOf,wr,qa,simprocAttr,hlt']
    simp [vZ,hk]
def Rng (l:List GCall):Prop:=∀ c ∈ l,0 ≤ c.act ∧ c.act ≤ 4294967295
theorem qlB {l:GList} (h:zA l = true):Rng l.calls:=by
  intro c hc
  have h1:=((z8 l).1 h).2.1 c hc
  simp only [okC,wK,Bool.and_eq_true,Bool.or_eq_true,decide_eq_true_eq] at h1
  omega
def qgC (P:Program) (f:Nat):Prop:=∀ l:GList,l.calls.length ≤ 100000 → Rng l.calls → qg P f [.agg (qk l)] (.b (zA l))
theorem qc1 {a:Int} (h:0 ≤ a):a = 65536 * a.tdiv 65536 + a.tmod 65536 ∧ 0 ≤ a.tmod 65536 ∧ a.tmod 65536 < 65536:=by
  rw [Int.tdiv_eq_ediv_of_nonneg h,Int.tmod_eq_emod_of_nonneg h]; omega
theorem qaW {a:Int} (h0:0 ≤ a) (h1:a ≤ 4294967295):0 ≤ a.tdiv 65536 ∧ a.tdiv 65536 < 4294967296:=by
  have:=qc1 h0; omega
theorem vz {a:Int} (h0:0 ≤ a) (h1:a ≤ 4294967295):wK a = (decide (a = 0) || decide (a = 2147483648) || (decide (a.tdiv 65536 = 5) && decide (a.tmod 65536 ≤ 4095))):=by
  have:=qc1 h0
  unfold wK
  rw [Bool.eq_iff_iff]
  simp only [Bool.or_eq_true,Bool.and_eq_true,decide_eq_true_eq]
  omega
def xz (f_vestibuleref09_Known:Nat):ICode:=.seq (.seq (.reg false [⟨(some 3),.op (.mov (.c (.i .i64 0))),none⟩])
  (.blk 0 (.loop (.seq (.seq (.reg false [⟨(some 19),.op (.mov (.t 3)),none⟩,
    ⟨(some 20),.op (.fAddr 1 (.t 1)),none⟩,
    ⟨(some 21),.op (.load1 (.t 20)),none⟩,
    ⟨(some 22),.op (.len false (.t 21)),none⟩,
    ⟨(some 23),.op (.bin .lss (.t 19) (.t 22)),none⟩])
  (.cond (.t 23) (.skip) (.exit 0)))
  (.seq (.blk 1 (.seq (.reg false [⟨(some 26),.op (.fAddr 1 (.t 1)),none⟩,
    ⟨(some 27),.op (.load1 (.t 26)),none⟩,
    ⟨(some 28),.op (.mov (.t 3)),none⟩,
    ⟨(some 29),.op (.iAddrS 2 (.t 27) (.t 28)),none⟩,
    ⟨(some 30),.op (.fAddr 1 (.t 29)),none⟩,
    ⟨(some 31),.op (.load1 (.t 30)),none⟩,
    ⟨(some 4),.op (.mov (.t 31)),none⟩])
  (.seq (.seq (.reg true [⟨(some 32),.op (.fAddr 1 (.t 1)),none⟩,
    ⟨(some 33),.op (.load1 (.t 32)),none⟩,
    ⟨(some 34),.op (.mov (.t 3)),none⟩,
    ⟨(some 35),.op (.iAddrS 2 (.t 33) (.t 34)),none⟩,
    ⟨(some 36),.op (.fAddr 0 (.t 35)),none⟩,
    ⟨(some 37),.op (.load1 (.t 36)),none⟩,
    ⟨(some 38),.callF f_vestibuleref09_Known [(.t 37)],none⟩,
    ⟨(some 39),.op (.un .not (.t 38)),none⟩,
    ⟨(some 40),.op (.mov (.t 39)),none⟩,
    ⟨(some 41),.op (.mov (.t 3)),(some (40,false))⟩,
    ⟨(some 42),.op (.bin .gtr (.t 41) (.c (.i .i64 0))),(some (40,false))⟩,
    ⟨(some 43),.op (.mov (.t 42)),(some (40,false))⟩,
    ⟨(some 44),.op (.fAddr 1 (.t 1)),(some (43,true))⟩,
    ⟨(some 45),.op (.load1 (.t 44)),(some (43,true))⟩,
    ⟨(some 46),.op (.mov (.t 3)),(some (43,true))⟩,
    ⟨(some 47),.op (.bin .sub (.t 46) (.c (.i .i64 1))),(some (43,true))⟩,
    ⟨(some 48),.op (.iAddrS 2 (.t 45) (.t 47)),(some (43,true))⟩,
    ⟨(some 49),.op (.fAddr 0 (.t 48)),(some (43,true))⟩,
    ⟨(some 50),.op (.load1 (.t 49)),(some (43,true))⟩,
    ⟨(some 51),.op (.fAddr 1 (.t 1)),(some (43,true))⟩,
    ⟨(some 52),.op (.load1 (.t 51)),(some (43,true))⟩,
    ⟨(some 53),.op (.mov (.t 3)),(some (43,true))⟩,
    ⟨(some 54),.op (.iAddrS 2 (.t 52) (.t 53)),(some (43,true))⟩,
    ⟨(some 55),.op (.fAddr 0 (.t 54)),(some (43,true))⟩,
    ⟨(some 56),.op (.load1 (.t 55)),(some (43,true))⟩,
    ⟨(some 57),.op (.bin .geq (.t 50) (.t 56)),(some (43,true))⟩,
    ⟨(some 58),.op (.pick (.t 43) (.t 57) (.c (.b false))),(some (40,false))⟩,
    ⟨(some 59),.op (.pick (.t 40) (.c (.b true)) (.t 58)),none⟩])
  (.cond (.t 59) (.seq (.reg false [⟨(some 2),.op (.mov (.c (.b false))),none⟩])
  (.ret)) (.skip)))
  (.seq (.reg false [⟨(some 60),.op (.mov (.t 4)),none⟩,
    ⟨(some 61),.op (.bin .neq (.t 60) (.c (.i .u32 0))),none⟩,
    ⟨(some 62),.op (.mov (.t 61)),none⟩,
    ⟨(some 63),.op (.mov (.t 4)),(some (62,true))⟩,
    ⟨(some 64),.op (.bin .neq (.t 63) (.c (.i .u32 2147483648))),(some (62,true))⟩,
    ⟨(some 65),.op (.pick (.t 62) (.t 64) (.c (.b false))),none⟩,
    ⟨(some 66),.op (.mov (.t 65)),none⟩,
    ⟨(some 67),.op (.mov (.t 4)),(some (66,true))⟩,
    ⟨(some 68),.op (.bin .quo (.t 67) (.c (.i .u32 65536))),(some (66,true))⟩,
    ⟨(some 69),.op (.bin .neq (.t 68) (.c (.i .u32 5))),(some (66,true))⟩,
    ⟨(some 70),.op (.mov (.t 69)),(some (66,true))⟩,
    ⟨(some 71),.op (.mov (.t 4)),(some (70,false))⟩,
    ⟨(some 72),.op (.bin .rem (.t 71) (.c (.i .u32 65536))),(some (70,false))⟩,
    ⟨(some 73),.op (.bin .gtr (.t 72) (.c (.i .u32 4095))),(some (70,false))⟩,
    ⟨(some 74),.op (.pick (.t 70) (.c (.b true)) (.t 73)),(some (66,true))⟩,
    ⟨(some 75),.op (.pick (.t 66) (.t 74) (.c (.b false))),none⟩])
  (.cond (.t 75) (.seq (.reg false [⟨(some 2),.op (.mov (.c (.b false))),none⟩])
  (.ret)) (.skip))))))
  (.reg false [⟨(some 24),.op (.mov (.t 3)),none⟩,
    ⟨(some 25),.op (.bin .add (.t 24) (.c (.i .i64 1))),none⟩,
    ⟨(some 3),.op (.mov (.t 25)),none⟩]))))))
  (.seq (.reg false [⟨(some 2),.op (.mov (.c (.b true))),none⟩])
  (.ret))
def wG (f_vestibuleref09_Known:Nat):IFn:=⟨[.tmp 2],
  .seq (.reg false [⟨(some 1),.op (.box (.t 0)),none⟩,
    ⟨(some 2),.op (.mov (.c (.b false))),none⟩])
  (.seq (.seq (.reg false [⟨(some 5),.op (.fAddr 0 (.t 1)),none⟩,
    ⟨(some 6),.op (.load1 (.t 5)),none⟩,
    ⟨(some 7),.op (.bin .gtr (.t 6) (.c (.i .u8 2))),none⟩,
    ⟨(some 8),.op (.mov (.t 7)),none⟩,
    ⟨(some 9),.op (.fAddr 0 (.t 1)),(some (8,false))⟩,
    ⟨(some 10),.op (.load1 (.t 9)),(some (8,false))⟩,
    ⟨(some 11),.op (.bin .eql (.t 10) (.c (.i .u8 0))),(some (8,false))⟩,
    ⟨(some 12),.op (.mov (.t 11)),(some (8,false))⟩,
    ⟨(some 13),.op (.fAddr 1 (.t 1)),(some (12,true))⟩,
    ⟨(some 14),.op (.load1 (.t 13)),(some (12,true))⟩,
    ⟨(some 15),.op (.len false (.t 14)),(some (12,true))⟩,
    ⟨(some 16),.op (.bin .gtr (.t 15) (.c (.i .i64 0))),(some (12,true))⟩,
    ⟨(some 17),.op (.pick (.t 12) (.t 16) (.c (.b false))),(some (8,false))⟩,
    ⟨(some 18),.op (.pick (.t 8) (.c (.b true)) (.t 17)),none⟩])
  (.cond (.t 18) (.seq (.reg false [⟨(some 2),.op (.mov (.c (.b false))),none⟩])
  (.ret)) (.skip)))
  (.cut (xz f_vestibuleref09_Known)))⟩
set_option maxRecDepth 8000 in
theorem qfa {g1:Nat} (h1:∀ s,qg P g1 [.s s] (.b (zn s))) (l:GList) (hl:l.calls.length ≤ 100000) (hR:Rng l.calls) {t':Tr AV} {h':Hp} (hw:Wk 0 t' h' (mkT [(1,.ptr 0 0),(2,.b false)]) (mkH 0 [.cells 0 true false (qk l)])) :
    S P 0 (xz g1) (kc [.tmp 2] fun v' h'=>Frz h' v' (.b (zQ none l.calls))) t' h':=by
  refine S.weak hw (qy ?_)
  simp only [xz,qk,qm,H0,mkT,mkH,trL,vI,simprocAttr]
  simp only [↓vS,vT,shb,shv,qb,qc,cellsOf,wr,qa,simprocAttr]
  refine SL.loop (α:=Nat) (fun j=>[(1,.ptr 0 0),(2,.b false),(3,.i .i64 j)]) (fun _=>[.cells 0 true false (qk l)])
    (fun j=>j ≤ l.calls.length ∧ zQ none l.calls = zQ (if j = 0 then none else l.calls[j - 1]?) (l.calls.drop j)) (fun j=>l.calls.length - j) 0 [0] ?_ ?_ ?_ rfl ?_ ?_
  · simp [vw,qd]
  · simp [vw,qk]
  · simp
  · exact ⟨Nat.zero_le _,rfl⟩
  rintro j ⟨hj,hI⟩ G ih
  simp only [qm,H0,mkT,mkH,trL,vI,simprocAttr,qk]
  by_cases hlt:j < l.calls.length
  · have hx : l.calls[j]? = some l.calls[j]:=List.getElem?_eq_getElem hlt
    have g0:(rC l.calls)[j * 2]? = some (.s l.calls[j].name):=qah hx (i:=0) (by decide)
    have g1:(rC l.calls)[j * 2 + 1]? = some (.i .u32 l.calls[j].act):=qah hx (i:=1) (by decide)
    have hw:IntKind.wrap .i64 ((j:Int) + 1) = ((j + 1:Nat):Int):=by rw [qE (by omega) (by omega)]; omega
    rw [List.drop_eq_getElem_cons hlt,zQ] at hI
    obtain ⟨r0,r1⟩:=hR l.calls[j] (List.getElem_mem hlt)
    generalize hc0:l.calls[j] = c at hI hx g0 g1 r0 r1
    simp only [↓vS,vT,shb,shv,qb,qc,cellsOf,wr,qa,simprocAttr,hlt,g1]
    refine zU ?_
    simp only [↓vS,vT,shb,shv,qb,qc,cellsOf,wr,qa,simprocAttr,hlt,g0]
    refine (h1 c.name).pc ?_
    cases hk:zn c.name with
    | false =>
      have hw:zQ none l.calls = false:=by rw [hI]; simp [okC,hk]
      simp only [↓vS,vT,shb,shv,qb,qc,cellsOf,wr,qa,simprocAttr]
      simp [vZ,hw]
    | true =>
      by_cases h0:j = 0
      · subst h0
        have hn:¬ (0:Int) < ((0:Nat):Int):=by decide
        have hw:IntKind.wrap .i64 (((0:Nat):Int) + 1) = ((1:Nat):Int):=by decide
        have hw':IntKind.wrap .i64 (0 + 1) = ((1:Nat):Int):=by decide
        have h65:(65536:Int) ≠ 0:=by decide
        by_cases e0:c.act = 0
        · have hok:okC c = true:=by simp [okC,hk,wK,e0]
          simp only [↓vS,vT,shb,shv,qb,qc,cellsOf,wr,qa,simprocAttr,hn,e0,hw]
          refine ih 1 ⟨by omega,?_⟩ (by omega) _ _ (Wk.mk _ _ [0] ?_ ?_ ?_ rfl)
          · rw [hI,hok]; simp [hx]
          · simp [vw,qd]
            exact qE (by decide) (by decide)
          · simp [vw,qk]
          · simp
        by_cases e1:c.act = 2147483648
        · have hok:okC c = true:=by simp [okC,hk,wK,e1]
          simp only [↓vS,vT,shb,shv,qb,qc,cellsOf,wr,qa,simprocAttr,hn,e0,e1,hw]
          refine ih 1 ⟨by omega,?_⟩ (by omega) _ _ (Wk.mk _ _ [0] ?_ ?_ ?_ rfl)
          · rw [hI,hok]; simp [hx]
          · simp [vw,qd]
            exact qE (by decide) (by decide)
          · simp [vw,qk]
          · simp
        by_cases e2:c.act.tdiv 65536 = 5
        · have hwq:IntKind.wrap .u32 (c.act.tdiv 65536) = 5:=by rw [e2]; decide
          by_cases e3:4095 < c.act.tmod 65536
          · have e3':¬ c.act.tmod 65536 ≤ 4095:=by omega
            have hwf:zQ none l.calls = false:=by rw [hI]; simp [okC,vz r0 r1,e0,e1,e2,e3']
            simp only [↓vS,vT,shb,shv,qb,qc,cellsOf,wr,qa,simprocAttr,hn,e0,e1,↓QA h65,↓qb0 h65,hwq,e3]
            simp [vZ,hwf]
          · have hok:okC c = true:=by simp [okC,hk,vz r0 r1,e0,e1,e2,e3]; omega
            simp only [↓vS,vT,shb,shv,qb,qc,cellsOf,wr,qa,simprocAttr,hn,e0,e1,↓QA h65,↓qb0 h65,hwq,e3,hw]
            refine ih 1 ⟨by omega,?_⟩ (by omega) _ _ (Wk.mk _ _ [0] ?_ ?_ ?_ rfl)
            · rw [hI,hok]; simp [hx]
            · simp [vw,qd]
              exact qE (by decide) (by decide)
            · simp [vw,qk]
            · simp
        · have hwq:¬ IntKind.wrap .u32 (c.act.tdiv 65536) = 5:=by rw [vo (qaW r0 r1).1 (by have:=(qaW r0 r1).2; omega)]; exact e2
          have hwf:zQ none l.calls = false:=by rw [hI]; simp [okC,vz r0 r1,e0,e1,e2]
          simp only [↓vS,vT,shb,shv,qb,qc,cellsOf,wr,qa,simprocAttr,hn,e0,e1,↓QA h65,hwq]
          simp [vZ,hwf]
      · have hp:(0:Int) < (j:Int):=by omega
        have hpl:j - 1 < l.calls.length:=by omega
        have hy:l.calls[j - 1]? = some l.calls[j - 1]:=List.getElem?_eq_getElem hpl
        have hw2:IntKind.wrap .i64 ((j:Int) - 1) = ((j - 1:Nat):Int):=by rw [qE (by omega) (by omega)]; omega
        have g2:(rC l.calls)[(j - 1) * 2]? = some (.s l.calls[j - 1].name):=qah hy (i:=0) (by decide)
        rw [if_neg h0,hy] at hI
        cases hlt2:ltS l.calls[j - 1].name c.name with
        | false =>
          have hwf:zQ none l.calls = false:=by rw [hI]; simp [hlt2]
          simp only [↓vS,vT,shb,shv,qb,qc,cellsOf,wr,qa,simprocAttr,hp,hw2,hpl,hlt,g0,g2,hlt2]
          simp [vZ,hwf]
        | true =>
          have h65:(65536:Int) ≠ 0:=by decide
          by_cases e0:c.act = 0
          · have hok:okC c = true:=by simp [okC,hk,wK,e0]
            simp only [↓vS,vT,shb,shv,qb,qc,cellsOf,wr,qa,simprocAttr,hp,hw2,hpl,hlt,g0,g2,hlt2,e0,hw]
            refine ih (j + 1) ⟨by omega,?_⟩ (by omega) _ _ (Wk.mk _ _ [0] ?_ ?_ ?_ rfl)
            · rw [hI,hok]; simp [hlt2,hx]
            · simp [vw,qd]
            · simp [vw,qk]
            · simp
          by_cases e1:c.act = 2147483648
          · have hok:okC c = true:=by simp [okC,hk,wK,e1]
            simp only [↓vS,vT,shb,shv,qb,qc,cellsOf,wr,qa,simprocAttr,hp,hw2,hpl,hlt,g0,g2,hlt2,e0,e1,hw]
            refine ih (j + 1) ⟨by omega,?_⟩ (by omega) _ _ (Wk.mk _ _ [0] ?_ ?_ ?_ rfl)
            · rw [hI,hok]; simp [hlt2,hx]
            · simp [vw,qd]
            · simp [vw,qk]
            · simp
          by_cases e2:c.act.tdiv 65536 = 5
          · have hwq:IntKind.wrap .u32 (c.act.tdiv 65536) = 5:=by rw [e2]; decide
            by_cases e3:4095 < c.act.tmod 65536
            · have e3':¬ c.act.tmod 65536 ≤ 4095:=by omega
              have hwf:zQ none l.calls = false:=by rw [hI]; simp [okC,vz r0 r1,e0,e1,e2,e3']
              simp only [↓vS,vT,shb,shv,qb,qc,cellsOf,wr,qa,simprocAttr,hp,hw2,hpl,hlt,g0,g2,hlt2,e0,e1,↓QA h65,↓qb0 h65,hwq,e3]
              simp [vZ,hwf]
            · have hok:okC c = true:=by simp [okC,hk,vz r0 r1,e0,e1,e2,e3]; omega
              simp only [↓vS,vT,shb,shv,qb,qc,cellsOf,wr,qa,simprocAttr,hp,hw2,hpl,hlt,g0,g2,hlt2,e0,e1,↓QA h65,↓qb0 h65,hwq,e3,hw]
              refine ih (j + 1) ⟨by omega,?_⟩ (by omega) _ _ (Wk.mk _ _ [0] ?_ ?_ ?_ rfl)
              · rw [hI,hok]; simp [hlt2,hx]
              · simp [vw,qd]
              · simp [vw,qk]
              · simp
          · have hwq:¬ IntKind.wrap .u32 (c.act.tdiv 65536) = 5:=by rw [vo (qaW r0 r1).1 (by have:=(qaW r0 r1).2; omega)]; exact e2
            have hwf:zQ none l.calls = false:=by rw [hI]; simp [okC,vz r0 r1,e0,e1,e2]
            simp only [↓vS,vT,shb,shv,qb,qc,cellsOf,wr,qa,simprocAttr,hp,hw2,hpl,hlt,g0,g2,hlt2,e0,e1,↓QA h65,hwq]
            simp [vZ,hwf]
  · rw [List.drop_of_length_le (by omega),zQ] at hI
    simp only [↓vS,vT,shb,shv,qb,qc,cellsOf,wr,qa,simprocAttr,hlt]
    simp [vZ,hI]
theorem qqQ {g1:Nat} (hc:qh P f (wG g1) = true) (h1:∀ s,qg P g1 [.s s] (.b (zn s))):qgC P f:=by
  intro l hl hR
  refine qg.mk hc rfl ?_
  simp only [wG,qk,qm,H0,mkT,mkH,trL,vI,simprocAttr]
  by_cases m1:2 < l.mode
  · have hw:zA l = false:=by simp [zA]; omega
    simp only [↓vS,vT,shb,shv,qb,qc,cellsOf,wr,qa,simprocAttr,m1]
    simp [vZ,hw]
  have tail:(l.mode ≠ 0 ∨ l.calls = []) → zA l = zQ none l.calls:=fun h=>by
    have:(decide (l.mode ≤ 2) && (decide (l.mode ≠ 0) || decide (l.calls = []))) = true:=by
      simp only [Bool.and_eq_true,Bool.or_eq_true,decide_eq_true_eq]; exact ⟨by omega,h⟩
    unfold zA; rw [this]; rfl
  by_cases m2:l.mode = 0
  · by_cases m3:(0:Int) < l.calls.length
    · have hne:l.calls ≠ []:=by intro h; rw [h] at m3; simp at m3
      have hw:zA l = false:=by simp [zA,m2,hne]
      simp only [↓vS,vT,shb,shv,qb,qc,cellsOf,wr,qa,simprocAttr,m1,m2,m3]
      simp [vZ,hw]
    · have hz:l.calls = []:=List.eq_nil_of_length_eq_zero (by omega)
      rw [tail (.inr hz)]
      simp only [↓vS,vT,shb,shv,qb,qc,cellsOf,wr,qa,simprocAttr,m1,m2,m3]
      refine qfa h1 l hl hR (Wk.mk _ _ [0] ?_ ?_ ?_ rfl)
      · simp [vw]
      · simp [vw,qk,m2]
      · simp
  · rw [tail (.inl m2)]
    simp only [↓vS,vT,shb,shv,qb,qc,cellsOf,wr,qa,simprocAttr,m1,m2]
    refine qfa h1 l hl hR (Wk.mk _ _ [0] ?_ ?_ ?_ rfl)
    · simp [vw]
    · simp [vw,qk]
    · simp
end Go.Kc
end
section
/- What the document makes of lists: Find, take, Take, Put, Same. Condition: the functions' texts are these. -/
namespace Go.Kc
variable {P:Program} {f:Nat}
def wk:IFn:=⟨[.tmp 4],
  .seq (.reg false [⟨(some 2),.op (.box (.t 0)),none⟩,
    ⟨(some 3),.op (.box (.t 1)),none⟩,
    ⟨(some 4),.op (.mov (.c (.b false))),none⟩])
  (.seq (.seq (.reg false [⟨(some 6),.op (.fAddr 0 (.t 2)),none⟩,
    ⟨(some 7),.op (.load1 (.t 6)),none⟩,
    ⟨(some 8),.op (.fAddr 0 (.t 3)),none⟩,
    ⟨(some 9),.op (.load1 (.t 8)),none⟩,
    ⟨(some 10),.op (.bin .neq (.t 7) (.t 9)),none⟩,
    ⟨(some 11),.op (.mov (.t 10)),none⟩,
    ⟨(some 12),.op (.fAddr 1 (.t 2)),(some (11,false))⟩,
    ⟨(some 13),.op (.load1 (.t 12)),(some (11,false))⟩,
    ⟨(some 14),.op (.len false (.t 13)),(some (11,false))⟩,
    ⟨(some 15),.op (.fAddr 1 (.t 3)),(some (11,false))⟩,
    ⟨(some 16),.op (.load1 (.t 15)),(some (11,false))⟩,
    ⟨(some 17),.op (.len false (.t 16)),(some (11,false))⟩,
    ⟨(some 18),.op (.bin .neq (.t 14) (.t 17)),(some (11,false))⟩,
    ⟨(some 19),.op (.pick (.t 11) (.c (.b true)) (.t 18)),none⟩])
  (.cond (.t 19) (.seq (.reg false [⟨(some 4),.op (.mov (.c (.b false))),none⟩])
  (.ret)) (.skip)))
  (.seq (.seq (.reg false [⟨(some 5),.op (.mov (.c (.i .i64 0))),none⟩])
  (.blk 0 (.loop (.seq (.seq (.reg false [⟨(some 20),.op (.mov (.t 5)),none⟩,
    ⟨(some 21),.op (.fAddr 1 (.t 2)),none⟩,
    ⟨(some 22),.op (.load1 (.t 21)),none⟩,
    ⟨(some 23),.op (.len false (.t 22)),none⟩,
    ⟨(some 24),.op (.bin .lss (.t 20) (.t 23)),none⟩])
  (.cond (.t 24) (.skip) (.exit 0)))
  (.seq (.blk 1 (.seq (.reg true [⟨(some 27),.op (.fAddr 1 (.t 2)),none⟩,
    ⟨(some 28),.op (.load1 (.t 27)),none⟩,
    ⟨(some 29),.op (.mov (.t 5)),none⟩,
    ⟨(some 30),.op (.iAddrS 2 (.t 28) (.t 29)),none⟩,
    ⟨(some 31),.op (.loadN 2 (.t 30)),none⟩,
    ⟨(some 32),.op (.fAddr 1 (.t 3)),none⟩,
    ⟨(some 33),.op (.load1 (.t 32)),none⟩,
    ⟨(some 34),.op (.mov (.t 5)),none⟩,
    ⟨(some 35),.op (.iAddrS 2 (.t 33) (.t 34)),none⟩,
    ⟨(some 36),.op (.loadN 2 (.t 35)),none⟩,
    ⟨(some 37),.op (.eqA true [.s,.i] (.t 31) (.t 36)),none⟩])
  (.cond (.t 37) (.seq (.reg false [⟨(some 4),.op (.mov (.c (.b false))),none⟩])
  (.ret)) (.skip))))
  (.reg false [⟨(some 25),.op (.mov (.t 5)),none⟩,
    ⟨(some 26),.op (.bin .add (.t 25) (.c (.i .i64 1))),none⟩,
    ⟨(some 5),.op (.mov (.t 26)),none⟩]))))))
  (.seq (.reg false [⟨(some 4),.op (.mov (.c (.b true))),none⟩])
  (.ret))))⟩
theorem qo8 (hc:qh P f wk = true) (l:GList) (hl:l.calls.length ≤ 100000):qg P f [.agg (qk l),.agg (qk l)] (.b true):=by
  refine qg.mk hc rfl ?_
  simp only [wk,qk,qm,H0,mkT,mkH,trL,vI,simprocAttr]
  simp only [↓vS,vT,shb,shv,qb,qc,cellsOf,wr,qa,simprocAttr]
  refine SL.loop (α:=Nat) (fun j=>[(2,.ptr 0 0),(3,.ptr 1 0),(4,.b false),(5,.i .i64 j)]) (fun _=>[.cells 0 true false (qk l),.cells 0 true false (qk l)]) (fun _=>True) (fun j=>l.calls.length - j) 0 [0,1] ?_ ?_ ?_ rfl ?_ ?_
  · simp [vw]
  · simp [vw,qk]
  · simp
  · trivial
  rintro j - G ih
  simp only [qm,H0,mkT,mkH,trL,vI,simprocAttr,qk]
  by_cases hlt:j < l.calls.length
  · have hx:l.calls[j]? = some l.calls[j]:=List.getElem?_eq_getElem hlt
    have he:=kG hx
    have hb:=kp hlt
    have hw:IntKind.wrap .i64 ((j:Int) + 1) = ((j + 1:Nat):Int):=by rw [qE (by omega) (by omega)]; omega
    simp only [↓vS,vT,shb,shv,qb,qc,cellsOf,wr,qa,simprocAttr,hlt]
    refine zU ?_
    simp (decide:=true) only [↓vS,vT,shb,shv,qb,qc,cellsOf,wr,qa,simprocAttr,hlt,hb,he,j7,hw,beq_self_eq_true]
    refine ih (j + 1) trivial (by omega) _ _ (Wk.mk _ _ [0,1] ?_ ?_ ?_ rfl)
    · simp [vw]
    · simp [vw,qk]
    · simp
  · simp only [↓vS,vT,shb,shv,qb,qc,cellsOf,wr,qa,simprocAttr,hlt,vZ]
def wy:IFn:=⟨[.cell 4 2 true],
  .seq (.reg false [⟨(some 2),.op (.box (.t 0)),none⟩,
    ⟨(some 4),.op (.alloc [.i .u8 0,.nils]),none⟩])
  (.seq (.reg false [⟨(some 7),.op (.fAddr 0 (.t 2)),none⟩,
    ⟨(some 8),.op (.load1 (.t 7)),none⟩,
    ⟨(some 9),.op (.build [.i .u8 0,.nils] [(0,1,(.t 8))]),none⟩,
    ⟨(some 5),.op (.alloc [.i .u8 0,.nils]),none⟩,
    ⟨none,.op (.store 2 (.t 5) (.t 9)),none⟩])
  (.seq (.seq (.reg false [⟨(some 6),.op (.mov (.c (.i .i64 0))),none⟩])
  (.blk 0 (.loop (.seq (.seq (.reg false [⟨(some 10),.op (.mov (.t 6)),none⟩,
    ⟨(some 11),.op (.fAddr 1 (.t 2)),none⟩,
    ⟨(some 12),.op (.load1 (.t 11)),none⟩,
    ⟨(some 13),.op (.len false (.t 12)),none⟩,
    ⟨(some 14),.op (.bin .lss (.t 10) (.t 13)),none⟩])
  (.cond (.t 14) (.skip) (.exit 0)))
  (.seq (.blk 1 (.seq (.reg false [⟨(some 17),.op (.fAddr 1 (.t 2)),none⟩,
    ⟨(some 18),.op (.load1 (.t 17)),none⟩,
    ⟨(some 19),.op (.mov (.t 6)),none⟩,
    ⟨(some 20),.op (.iAddrS 2 (.t 18) (.t 19)),none⟩,
    ⟨(some 21),.op (.fAddr 0 (.t 20)),none⟩,
    ⟨(some 22),.op (.load1 (.t 21)),none⟩,
    ⟨(some 23),.op (.mov (.t 1)),none⟩,
    ⟨(some 24),.op (.bin .neq (.t 22) (.t 23)),none⟩])
  (.cond (.t 24) (.reg true [⟨(some 25),.op (.fAddr 1 (.t 5)),none⟩,
    ⟨(some 26),.op (.load1 (.t 25)),none⟩,
    ⟨(some 27),.op (.fAddr 1 (.t 2)),none⟩,
    ⟨(some 28),.op (.load1 (.t 27)),none⟩,
    ⟨(some 29),.op (.mov (.t 6)),none⟩,
    ⟨(some 30),.op (.iAddrS 2 (.t 28) (.t 29)),none⟩,
    ⟨(some 31),.op (.loadN 2 (.t 30)),none⟩,
    ⟨(some 32),.op (.buildS 1 [.s [],.i .u32 0] [(0,2,(.t 31))]),none⟩,
    ⟨(some 33),.op (.app 2 24 true (.t 26) (.t 32)),none⟩,
    ⟨(some 34),.op (.fAddr 1 (.t 5)),none⟩,
    ⟨none,.op (.store 1 (.t 34) (.t 33)),none⟩]) (.skip))))
  (.reg false [⟨(some 15),.op (.mov (.t 6)),none⟩,
    ⟨(some 16),.op (.bin .add (.t 15) (.c (.i .i64 1))),none⟩,
    ⟨(some 6),.op (.mov (.t 16)),none⟩]))))))
  (.seq (.reg false [⟨(some 35),.op (.loadN 2 (.t 5)),none⟩,
    ⟨none,.op (.store 2 (.t 4) (.t 35)),none⟩])
  (.ret))))⟩
def wo (l:List GCall) (s:List UInt8):List GCall:=l.filter fun c=>!decide (c.name = s)
theorem qkT {l:List GCall} {s:List UInt8} {j:Nat} {c:GCall} (h:l[j]? = some c):wo (l.take (j + 1)) s = wo (l.take j) s ++ (if c.name = s then [] else [c]):=by
  unfold wo
  rw [List.take_add_one,h,List.filter_append]
  by_cases hc:c.name = s <;> simp [hc]
def kH (P:Program) (f:Nat):Prop:=∀ (l:GList) (s:List UInt8),l.calls.length ≤ 100000 → Own P f [.agg (qk l),.s s] (.agg [.i .u8 l.mode,.own 0 (wo l.calls s).length]) [.cells 2 true true (rC (wo l.calls s))]
theorem qq5 (hc:qh P f wy = true):kH P f:=by
  intro l s hl
  refine Own.mk hc rfl ?_
  simp only [wy,qk,qm,H0,mkT,mkH,trL,vI,simprocAttr]
  simp only [↓vS,vT,shb,shv,qb,qc,cellsOf,wr,qa,simprocAttr]
  refine SL.loop (α:=Nat) (fun j=>[(1,.s s),(2,.ptr 0 0),(4,.ptr 1 0),(5,.ptr 2 0),(6,.i .i64 j)]) (fun j=>[.cells 0 true false (qk l),.cells 0 true false [.i .u8 0,.nils],.cells 0 true false [.i .u8 l.mode,.own 3 (wo (l.calls.take j) s).length],.cells 2 true true (rC (wo (l.calls.take j) s))])
    (fun j=>j ≤ l.calls.length) (fun j=>l.calls.length - j) 0 [0,1,2,3] ?_ ?_ ?_ rfl ?_ ?_
  · simp [vw]
  · simp [vw,qk,wo,Qc]
  · simp
  · exact Nat.zero_le _
  rintro j hj G ih
  have hlen:(wo (l.calls.take j) s).length ≤ l.calls.length:=by
    have:=List.length_filter_le (fun c:GCall=>!decide (c.name = s)) (l.calls.take j)
    rw [List.length_take] at this; unfold wo; omega
  simp only [qm,H0,mkT,mkH,trL,vI,simprocAttr,qk]
  by_cases hlt:j < l.calls.length
  · have hx:l.calls[j]? = some l.calls[j]:=List.getElem?_eq_getElem hlt
    have he:=kG hx
    have hb:=kp hlt
    have g0:(rC l.calls)[j * 2]? = some (.s l.calls[j].name):=qah hx (i:=0) (by decide)
    have hw:IntKind.wrap .i64 ((j:Int) + 1) = ((j + 1:Nat):Int):=by rw [qE (by omega) (by omega)]; omega
    have hnx:=qkT (s:=s) hx
    have ih2:=ih (j + 1)
    rw [hnx] at ih2
    generalize l.calls[j] = c at hx he g0 hnx ih2
    generalize wo (l.calls.take j) s = A at hlen hnx ih2
    by_cases hc:c.name = s
    · rw [if_pos hc,List.append_nil] at ih2
      simp only [↓vS,vT,shb,shv,qb,qc,cellsOf,wr,qa,simprocAttr,hlt,g0,hc,hw]
      refine ih2 (by omega) (by omega) _ _ (Wk.mk _ _ [0,1,2,3] ?_ ?_ ?_ rfl)
      · simp [vw]
      · simp [vw,qk,qe,qd]
      · simp
    · rw [if_neg hc] at ih2
      have hb2:j * 2 + 2 ≤ l.calls.length * 2:=by omega
      have hr1:A.length + 1 ≤ qi:=by simp only [qi]; omega
      have hr2:(A.length + 1) * 24 ≤ qi:=by simp only [qi]; omega
      have hap:rC A ++ [AV.s c.name,.i .u32 c.act] = rC (A ++ [c]):=by rw [← yR]; rfl
      simp only [↓vS,vT,shb,shv,qb,qc,cellsOf,wr,qa,simprocAttr,hlt,g0,hc]
      refine zU ?_
      simp (decide:=true) only [↓vS,vT,shb,shv,qb,qc,cellsOf,wr,qa,simprocAttr,hlt,hb2,he,j7,hr1,hr2,xL,hap,hw]
      refine ih2 (by omega) (by omega) _ _ (Wk.mk _ _ [0,1,2,5] ?_ ?_ ?_ rfl)
      · simp [vw]
      · simp [vw,qk,qe,qd]
      · simp
  · have hjl:l.calls.take j = l.calls:=List.take_of_length_le (by omega)
    rw [hjl]
    simp only [↓vS,vT,shb,shv,qb,qc,cellsOf,wr,qa,simprocAttr,hlt]
    intro _
    refine ⟨[3],?_⟩
    simp [vw,qe,qd]
def qbJ (P:Program) (f:Nat):Prop:=∀ (l:GList) (s:List UInt8) (n:Int),l.calls.length ≤ 100000 → Rng l.calls → qg P f [.agg (qk l),.s s,.i .u32 n] (.agg (qk (wZ l s n)))
theorem qag (h:kH P f) (l:GList) (s:List UInt8) (hl:l.calls.length ≤ 100000):qg P f [.agg (qk l),.s s] (.agg (qk ⟨l.mode,wo l.calls s⟩)):=by
  refine (h l s hl).pure rfl ?_
  simp only [H0,vJ,shb,shv,qb,simprocAttr]
  simp [vZ,vP,Tr.get_set,qk,qF qd,qY qd,qb,shv]
  intro h0; rw [h0]; rfl
def xq (f_vestibuleref16_May f_vestibuleref16_take:Nat):ICode:=.seq (.seq (.reg false [⟨(some 24),.op (.fAddr 1 (.t 7)),none⟩,
    ⟨(some 25),.op (.load1 (.t 24)),none⟩,
    ⟨(some 26),.op (.len false (.t 25)),none⟩,
    ⟨(some 27),.op (.bin .sub (.t 26) (.c (.i .i64 1))),none⟩,
    ⟨(some 8),.op (.mov (.t 27)),none⟩])
  (.blk 0 (.loop (.seq (.seq (.reg true [⟨(some 28),.op (.mov (.t 8)),none⟩,
    ⟨(some 29),.op (.bin .gtr (.t 28) (.c (.i .i64 0))),none⟩,
    ⟨(some 30),.op (.mov (.t 29)),none⟩,
    ⟨(some 31),.op (.fAddr 1 (.t 7)),(some (30,true))⟩,
    ⟨(some 32),.op (.load1 (.t 31)),(some (30,true))⟩,
    ⟨(some 33),.op (.mov (.t 8)),(some (30,true))⟩,
    ⟨(some 34),.op (.iAddrS 2 (.t 32) (.t 33)),(some (30,true))⟩,
    ⟨(some 35),.op (.fAddr 0 (.t 34)),(some (30,true))⟩,
    ⟨(some 36),.op (.load1 (.t 35)),(some (30,true))⟩,
    ⟨(some 37),.op (.fAddr 1 (.t 7)),(some (30,true))⟩,
    ⟨(some 38),.op (.load1 (.t 37)),(some (30,true))⟩,
    ⟨(some 39),.op (.mov (.t 8)),(some (30,true))⟩,
    ⟨(some 40),.op (.bin .sub (.t 39) (.c (.i .i64 1))),(some (30,true))⟩,
    ⟨(some 41),.op (.iAddrS 2 (.t 38) (.t 40)),(some (30,true))⟩,
    ⟨(some 42),.op (.fAddr 0 (.t 41)),(some (30,true))⟩,
    ⟨(some 43),.op (.load1 (.t 42)),(some (30,true))⟩,
    ⟨(some 44),.op (.bin .lss (.t 36) (.t 43)),(some (30,true))⟩,
    ⟨(some 45),.op (.pick (.t 30) (.t 44) (.c (.b false))),none⟩])
  (.cond (.t 45) (.skip) (.exit 0)))
  (.seq (.blk 1 (.reg true [⟨(some 48),.op (.fAddr 1 (.t 7)),none⟩,
    ⟨(some 49),.op (.load1 (.t 48)),none⟩,
    ⟨(some 50),.op (.mov (.t 8)),none⟩,
    ⟨(some 51),.op (.fAddr 1 (.t 7)),none⟩,
    ⟨(some 52),.op (.load1 (.t 51)),none⟩,
    ⟨(some 53),.op (.mov (.t 8)),none⟩,
    ⟨(some 54),.op (.bin .sub (.t 53) (.c (.i .i64 1))),none⟩,
    ⟨(some 55),.op (.fAddr 1 (.t 7)),none⟩,
    ⟨(some 56),.op (.load1 (.t 55)),none⟩,
    ⟨(some 57),.op (.mov (.t 8)),none⟩,
    ⟨(some 58),.op (.bin .sub (.t 57) (.c (.i .i64 1))),none⟩,
    ⟨(some 59),.op (.iAddrS 2 (.t 56) (.t 58)),none⟩,
    ⟨(some 60),.op (.loadN 2 (.t 59)),none⟩,
    ⟨(some 61),.op (.fAddr 1 (.t 7)),none⟩,
    ⟨(some 62),.op (.load1 (.t 61)),none⟩,
    ⟨(some 63),.op (.mov (.t 8)),none⟩,
    ⟨(some 64),.op (.iAddrS 2 (.t 62) (.t 63)),none⟩,
    ⟨(some 65),.op (.loadN 2 (.t 64)),none⟩,
    ⟨(some 66),.op (.iAddrS 2 (.t 49) (.t 50)),none⟩,
    ⟨none,.op (.storeD 2 (.t 66) (.t 60) [51]),none⟩,
    ⟨(some 67),.op (.iAddrS 2 (.t 52) (.t 54)),none⟩,
    ⟨none,.op (.store 2 (.t 67) (.t 65)),none⟩]))
  (.reg false [⟨(some 46),.op (.mov (.t 8)),none⟩,
    ⟨(some 47),.op (.bin .sub (.t 46) (.c (.i .i64 1))),none⟩,
    ⟨(some 8),.op (.mov (.t 47)),none⟩]))))))
  (.seq (.reg false [⟨(some 68),.op (.loadN 2 (.t 7)),none⟩,
    ⟨none,.op (.store 2 (.t 6) (.t 68)),none⟩])
  (.ret))
def wF (f_vestibuleref16_May f_vestibuleref16_take:Nat):IFn:=⟨[.cell 6 2 true],
  .seq (.reg false [⟨(some 3),.op (.box (.t 0)),none⟩,
    ⟨(some 6),.op (.alloc [.i .u8 0,.nils]),none⟩])
  (.seq (.seq (.reg false [⟨(some 9),.op (.loadN 2 (.t 3)),none⟩,
    ⟨(some 10),.callF f_vestibuleref16_May [(.t 9)],none⟩,
    ⟨(some 11),.op (.un .not (.t 10)),none⟩])
  (.cond (.t 11) (.seq (.reg false [⟨(some 12),.op (.loadN 2 (.t 3)),none⟩,
    ⟨none,.op (.store 2 (.t 6) (.t 12)),none⟩])
  (.ret)) (.skip)))
  (.seq (.reg false [⟨(some 13),.op (.loadN 2 (.t 3)),none⟩,
    ⟨(some 14),.op (.mov (.t 1)),none⟩,
    ⟨(some 15),.callF f_vestibuleref16_take [(.t 13),(.t 14)],none⟩,
    ⟨(some 7),.op (.alloc [.i .u8 0,.nils]),none⟩,
    ⟨none,.op (.store 2 (.t 7) (.t 15)),none⟩])
  (.seq (.reg false [⟨(some 16),.op (.fAddr 1 (.t 7)),none⟩,
    ⟨(some 17),.op (.load1 (.t 16)),none⟩,
    ⟨(some 18),.op (.mov (.t 1)),none⟩,
    ⟨(some 19),.op (.mov (.t 2)),none⟩,
    ⟨(some 20),.op (.build [.s [],.i .u32 0] [(0,1,(.t 18)),(1,1,(.t 19))]),none⟩,
    ⟨(some 21),.op (.buildS 1 [.s [],.i .u32 0] [(0,2,(.t 20))]),none⟩,
    ⟨(some 22),.op (.app 2 24 true (.t 17) (.t 21)),none⟩,
    ⟨(some 23),.op (.fAddr 1 (.t 7)),none⟩,
    ⟨none,.op (.store 1 (.t 23) (.t 22)),none⟩])
  (.cut (xq f_vestibuleref16_May f_vestibuleref16_take)))))⟩
theorem qh5 {l:GList} (hM:zA l = true) (s:List UInt8) (n:Int) {k:Nat} (h1:∀ c ∈ (wo l.calls s).take k,ltS c.name s = true) (h2:∀ c ∈ (wo l.calls s).drop k,ltS c.name s = false) :
    wZ l s n = ⟨l.mode,(wo l.calls s).take k ++ ⟨s,n⟩ :: (wo l.calls s).drop k⟩:=by
  have hu:=((z8 l).1 hM).2.2
  have e:wZ l s n = ⟨l.mode,qaS l.calls s n⟩:=if_pos hM
  obtain ⟨f1,f2⟩:=qcr (fun c=>ltS c.name s) (wo l.calls s) k h1 h2
  have e1:l.calls.filter (fun c=>ltS c.name s) = (wo l.calls s).take k:=by
    rw [← f1]; unfold wo; rw [List.filter_filter]
    refine List.filter_congr fun c _=>?_
    cases h:ltS c.name s with
    | false=>simp
    | true=>simp [qaq h]
  have e2:l.calls.filter (fun c=>ltS s c.name) = (wo l.calls s).drop k:=by
    rw [← f2]; unfold wo; rw [List.filter_filter]
    refine List.filter_congr fun c _=>?_
    rcases qaX c.name s with h | h | h
    · rw [h,vG h]; simp
    · rw [h,yB]; simp
    · rw [h,vG h]; simp [(qaq h).symm]
  rw [e,qb7 hu,e1,e2]
theorem qim {L:List GCall} {j:Nat} (h:j < L.length) (c:GCall):(rC L).take (j * 2) ++ (AV.s c.name :: AV.i .u32 c.act :: (rC L).drop (j * 2 + 2)) = rC (L.set j c):=by
  have e:j * 2 + 2 = (j + 1) * 2:=by omega
  rw [e,qaO,qca,List.set_eq_take_append_cons_drop,if_pos h,← yR,kE]
theorem qcv {α:Type} (d c:α) (B:List α):∀ A:List α,((A ++ d :: c :: B).set (A.length + 1) d).set A.length c = A ++ c :: d :: B
  | []=>rfl
  | a :: A=>by
    have:=qcv d c B A
    simp only [List.cons_append,List.length_cons,List.set_cons_succ,this]
theorem qiG (g1 g2:Nat) (l:GList) (hM:zA l = true) (s:List UInt8) (n:Int) :
    S P 0 (xq g1 g2) (kc [.cell 6 2 true] fun v' h'=>Frz h' v' (.agg (qk (wZ l s n)))) (mkT [(6,.ptr 0 0),(7,.ptr 1 0)])
      (mkH 0 [.cells 0 true false [.i .u8 0,.nils],.cells 0 true false [.i .u8 l.mode,.own 2 (wo l.calls s ++ [(⟨s,n⟩:GCall)]).length],.cells 2 true true (rC (wo l.calls s ++ [(⟨s,n⟩:GCall)]))]):=by
  have hlen:(wo l.calls s).length ≤ 40:=Nat.le_trans (List.length_filter_le _ _) (yn hM)
  have hup:Up (wo l.calls s):=Qw ((z8 l).1 hM).2.2 _
  have hne:∀ c ∈ wo l.calls s,c.name ≠ s:=by
    intro c hc; have:=(List.mem_filter.1 hc).2; simpa using this
  have fin:=fun {k:Nat}=>qh5 hM s n (k:=k)
  generalize wo l.calls s = R at hlen hup hne fin
  have hRl:(R ++ [(⟨s,n⟩:GCall)]).length = R.length + 1:=by simp
  refine qy ?_
  simp only [xq,hRl,qm,H0,mkT,mkH,trL,vI,simprocAttr]
  have hw0:IntKind.wrap .i64 (((R.length + 1:Nat):Int) - 1) = (R.length:Int):=by rw [qE (by omega) (by omega)]; omega
  have hw0':IntKind.wrap .i64 (R.length:Int) = (R.length:Int):=qE (by omega) (by omega)
  simp only [↓vS,vT,shb,shv,qb,qc,cellsOf,wr,qa,simprocAttr,hw0]
  refine SL.loop (α:=Nat) (fun k=>[(6,.ptr 0 0),(7,.ptr 1 0),(8,.i .i64 k)]) (fun k=>[.cells 0 true false [.i .u8 0,.nils],.cells 0 true false [.i .u8 l.mode,.own 2 (R.length + 1)],.cells 2 true true (rC (R.take k ++ ⟨s,n⟩ :: R.drop k))])
    (fun k=>k ≤ R.length ∧ ∀ c ∈ R.drop k,ltS s c.name = true) (fun k=>k) R.length [0,1,2] ?_ ?_ ?_ rfl ?_ ?_
  · simp [vw,hw0']
  · simp [vw,qe,qd]
  · simp
  · exact ⟨Nat.le_refl _,fun c hc=>by rw [List.drop_of_length_le (Nat.le_refl _)] at hc; cases hc⟩
  rintro k ⟨hk,hI⟩ G ih
  have h2:∀ c ∈ R.drop k,ltS c.name s = false:=fun c hc=>vG (hI c hc)
  have hLl:(R.take k ++ (⟨s,n⟩:GCall) :: R.drop k).length = R.length + 1:=by simp; omega
  have stop:(∀ c ∈ R.take k,ltS c.name s = true) → wZ l s n = ⟨l.mode,R.take k ++ ⟨s,n⟩ :: R.drop k⟩:=fun h1=>fin h1 h2
  simp only [qm,H0,mkT,mkH,trL,vI,simprocAttr]
  cases k with
  | zero =>
    have hf:=stop (fun c hc=>by cases hc)
    have hn:¬ (0:Int) < ((0:Nat):Int):=by decide
    rw [hf]
    generalize (R.take 0 ++ (⟨s,n⟩:GCall) :: R.drop 0) = L at hLl
    simp only [↓vS,vT,shb,shv,qb,qc,cellsOf,wr,qa,simprocAttr]
    refine zU ?_
    simp only [↓vS,vT,shb,shv,qb,qc,cellsOf,wr,qa,simprocAttr,hn]
    simp [vZ,vP,Tr.get_set,qk,qF qd,hLl]
  | succ k =>
    have hkl:k < R.length:=by omega
    have hp:(0:Int) < ((k + 1:Nat):Int):=by omega
    have hw1:IntKind.wrap .i64 (((k + 1:Nat):Int) - 1) = (k:Int):=by rw [qE (by omega) (by omega)]; omega
    have hd:R[k]? = some R[k]:=List.getElem?_eq_getElem hkl
    have htk:R.take (k + 1) = R.take k ++ [R[k]]:=by rw [List.take_add_one,hd]; rfl
    have hdr:R.drop k = R[k] :: R.drop (k + 1):=List.drop_eq_getElem_cons hkl
    have hLe:R.take (k + 1) ++ (⟨s,n⟩:GCall) :: R.drop (k + 1) = R.take k ++ R[k] :: ⟨s,n⟩ :: R.drop (k + 1):=by rw [htk,List.append_assoc]; rfl
    have hAl:(R.take k).length = k:=by simp; omega
    have hswap:=qcv R[k] ⟨s,n⟩ (R.drop (k + 1)) (R.take k)
    rw [hAl,← hLe] at hswap
    have hx1:(R.take (k + 1) ++ (⟨s,n⟩:GCall) :: R.drop (k + 1))[k + 1]? = some ⟨s,n⟩:=by
      rw [hLe,List.getElem?_append_right (by omega),hAl,Nat.add_sub_cancel_left]; rfl
    have hx0:(R.take (k + 1) ++ (⟨s,n⟩:GCall) :: R.drop (k + 1))[k]? = some R[k]:=by
      rw [hLe,List.getElem?_append_right (by omega),hAl]; simp
    have hdm:R[k] ∈ R:=List.getElem_mem _
    have hI2:ltS s R[k].name = true → ∀ c ∈ R.drop k,ltS s c.name = true:=by
      intro h c hc
      rw [hdr] at hc
      rcases List.mem_cons.1 hc with rfl | hc
      · exact h
      · exact hI c hc
    have hstop2:ltS s R[k].name = false → ∀ c ∈ R.take (k + 1),ltS c.name s = true:=by
      intro h c hc
      have hk1:ltS R[k].name s = true:=by
        rcases qaX R[k].name s with h1 | h1 | h1
        · exact h1
        · exact absurd h1 (hne _ hdm)
        · rw [h1] at h; cases h
      rw [htk] at hc
      rcases List.mem_append.1 hc with hc | hc
      · have hu2:Up (R.take k ++ [R[k]]):=by rw [← htk]; exact List.Pairwise.sublist (List.take_sublist _ _) hup
        exact wQ ((List.pairwise_append.1 hu2).2.2 c hc R[k] (by simp)) hk1
      · rw [List.mem_singleton.1 hc]; exact hk1
    have g1:(rC (R.take (k + 1) ++ (⟨s,n⟩:GCall) :: R.drop (k + 1)))[(k + 1) * 2]? = some (.s s):=qah hx1 (i:=0) (by decide)
    have g0:(rC (R.take (k + 1) ++ (⟨s,n⟩:GCall) :: R.drop (k + 1)))[k * 2]? = some (.s R[k].name):=qah hx0 (i:=0) (by decide)
    have e1:=kG hx1
    have e0:=kG hx0
    have s1:=qim (L:=R.take (k + 1) ++ (⟨s,n⟩:GCall) :: R.drop (k + 1)) (j:=k + 1) (by omega) R[k]
    have s0:=qim (L:=(R.take (k + 1) ++ (⟨s,n⟩:GCall) :: R.drop (k + 1)).set (k + 1) R[k]) (j:=k) (by rw [List.length_set]; omega) ⟨s,n⟩
    rw [hswap] at s0
    have hll1:(rC ((R.take (k + 1) ++ (⟨s,n⟩:GCall) :: R.drop (k + 1)).set (k + 1) R[k])).length = (R.length + 1) * 2:=by rw [xL,List.length_set,hLl]
    cases hlt:ltS s R[k].name with
    | false =>
      have hf:=stop (hstop2 hlt)
      rw [hf]
      generalize (R.take (k + 1) ++ (⟨s,n⟩:GCall) :: R.drop (k + 1)) = L at hLl g1 g0
      have b1:k + 1 < R.length + 1:=by omega
      have b0:k < R.length + 1:=by omega
      simp only [↓vS,vT,shb,shv,qb,qc,cellsOf,wr,qa,simprocAttr]
      refine zU ?_
      simp only [↓vS,vT,shb,shv,qb,qc,cellsOf,wr,qa,simprocAttr,hp,hw1,b1,b0,g1,g0,hlt]
      simp [vZ,vP,Tr.get_set,qk,qF qd,hLl]
    | true =>
      have ih2:=ih k ⟨by omega,hI2 hlt⟩ (by omega)
      rw [hdr] at ih2
      generalize (R.take (k + 1) ++ (⟨s,n⟩:GCall) :: R.drop (k + 1)) = L at hLl g1 g0 e1 e0 s1 s0 hll1
      have hll:(rC L).length = (R.length + 1) * 2:=by rw [xL,hLl]
      have b1:k + 1 < R.length + 1:=by omega
      have b0:k < R.length + 1:=by omega
      have c1:(k + 1) * 2 + 2 ≤ (R.length + 1) * 2:=by omega
      have c0:k * 2 + 2 ≤ (R.length + 1) * 2:=by omega
      simp only [↓vS,vT,shb,shv,qb,qc,cellsOf,wr,qa,simprocAttr]
      refine zU ?_
      simp only [↓vS,vT,shb,shv,qb,qc,cellsOf,wr,qa,simprocAttr,hp,hw1,b1,b0,g1,g0,hlt]
      refine zU ?_
      simp (decide:=true) only [↓vS,vT,shb,shv,qb,qc,cellsOf,wr,qa,simprocAttr,hp,hw1,b1,b0,hll,hll1,c1,c0,e1,e0,j7,s1,s0]
      refine ih2 _ _ (Wk.mk _ _ [0,1,2] ?_ ?_ ?_ rfl)
      · simp [vw]
      · simp [vw,qe,qd]
      · simp
theorem qqP {g1 g2:Nat} (hc:qh P f (wF g1 g2) = true) (h1:qgC P g1) (h2:kH P g2):qbJ P f:=by
  intro l s n hl hR
  refine qg.mk hc rfl ?_
  simp only [wF,qk,qm,H0,mkT,mkH,trL,vI,simprocAttr]
  simp only [↓vS,vT,shb,shv,qb,qc,cellsOf,wr,qa,simprocAttr]
  refine (h1 l hl hR).sc ?_
  cases hM:zA l with
  | false =>
    have hw:wZ l s n = l:=by unfold wZ; rw [hM]; rfl
    rw [hw]
    simp only [↓vS,vT,shb,shv,qb,qc,cellsOf,wr,qa,simprocAttr]
    simp [vZ,vP,Tr.get_set,qk,qF qd]
  | true =>
    have hlen:(wo l.calls s).length ≤ 40:=Nat.le_trans (List.length_filter_le _ _) (yn hM)
    have hr1:(wo l.calls s).length + 1 ≤ qi:=by simp only [qi]; omega
    have hr2:((wo l.calls s).length + 1) * 24 ≤ qi:=by simp only [qi]; omega
    have hap:rC (wo l.calls s) ++ [AV.s s,.i .u32 n] = rC (wo l.calls s ++ [⟨s,n⟩]):=by rw [← yR]; rfl
    simp only [↓vS,vT,shb,shv,qb,qc,cellsOf,wr,qa,simprocAttr]
    refine (h2 l s hl).sc ?_
    simp only [vJ,shb,shv,qb,simprocAttr,qY qd]
    simp (decide:=true) only [↓vS,vT,shb,shv,qb,qc,cellsOf,wr,qa,simprocAttr,hr1,hr2,xL,hap]
    refine S.weak (Wk.mk _ _ [1,3,5] ?_ ?_ ?_ rfl) (qiG g1 g2 l hM s n)
    · simp [vw]
    · simp [vw,qe,qd]
    · simp
end Go.Kc
end
