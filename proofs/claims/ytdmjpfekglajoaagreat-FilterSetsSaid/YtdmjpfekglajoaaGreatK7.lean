/- Part 7 of the abstract machine and of the functions' walks. Conditions: with each theorem. -/
import Derived.Test.YtdmjpfekglajoaaGreatK6
set_option linter.unusedSimpArgs false
set_option linter.unusedVariables false
set_option linter.unnecessarySimpa false
section
/- What slices.Insert makes of a row of one's own. Condition: the functions' texts are these. -/
namespace Go.Kc
variable {P:Program} {f:Nat}
def qgM (m by':Nat) (P:Program) (f:Nat):Prop:=∀ (n i:Nat) (R E:List AV),R.length = n * m → E.length = m → qC R = true → qC E = true → qG R = true → qG E = true → i ≤ n → n + 1 ≤ qi → (n + 1) * by' ≤ qi →
  Upd P f [.own 0 n,.i .i64 i,.sl 1 0 1 1 false] [.cells m true true R,.cells 0 true false E] (.own 2 (n + 1)) [.dead,.cells 0 true false E,.cells m true true (R.take (i * m) ++ (E ++ R.drop (i * m)))]
def ze (f_slices_overlaps_api_Call f_slices_rotateRight_api_Call:Nat):IFn:=⟨[.tmp 6],
  .seq (.reg false [⟨(some 6),.op (.mov (.c (.nils))),none⟩])
  (.seq (.reg false [⟨(some 10),.op (.mov (.t 0)),none⟩,
    ⟨(some 11),.op (.mov (.t 1)),none⟩,
    ⟨(some 12),.op (.slcS 2 (.t 10) (some (.t 11)) none none),none⟩])
  (.seq (.reg false [⟨(some 13),.op (.mov (.t 2)),none⟩,
    ⟨(some 14),.op (.len false (.t 13)),none⟩,
    ⟨(some 7),.op (.mov (.t 14)),none⟩])
  (.seq (.seq (.reg false [⟨(some 15),.op (.mov (.t 7)),none⟩,
    ⟨(some 16),.op (.bin .eql (.t 15) (.c (.i .i64 0))),none⟩])
  (.cond (.t 16) (.seq (.reg false [⟨(some 17),.op (.mov (.t 0)),none⟩,
    ⟨(some 6),.op (.mov (.t 17)),none⟩])
  (.ret)) (.skip)))
  (.seq (.reg false [⟨(some 18),.op (.mov (.t 0)),none⟩,
    ⟨(some 19),.op (.len false (.t 18)),none⟩,
    ⟨(some 8),.op (.mov (.t 19)),none⟩])
  (.seq (.seq (.reg false [⟨(some 20),.op (.mov (.t 1)),none⟩,
    ⟨(some 21),.op (.mov (.t 8)),none⟩,
    ⟨(some 22),.op (.bin .eql (.t 20) (.t 21)),none⟩])
  (.cond (.t 22) (.seq (.reg false [⟨(some 23),.op (.mov (.t 0)),none⟩,
    ⟨(some 24),.op (.mov (.t 2)),none⟩,
    ⟨(some 25),.op (.app 2 24 true (.t 23) (.t 24)),none⟩,
    ⟨(some 6),.op (.mov (.t 25)),none⟩])
  (.ret)) (.skip)))
  (.seq (.seq (.reg false [⟨(some 26),.op (.mov (.t 8)),none⟩,
    ⟨(some 27),.op (.mov (.t 7)),none⟩,
    ⟨(some 28),.op (.bin .add (.t 26) (.t 27)),none⟩,
    ⟨(some 29),.op (.mov (.t 0)),none⟩,
    ⟨(some 30),.op (.cap (.t 29)),none⟩,
    ⟨(some 31),.op (.bin .gtr (.t 28) (.t 30)),none⟩])
  (.cond (.t 31) (.seq (.reg false [⟨(some 32),.op (.mov (.t 0)),none⟩,
    ⟨(some 33),.op (.mov (.t 1)),none⟩,
    ⟨(some 34),.op (.slcS 2 (.t 32) none (some (.t 33)) none),none⟩,
    ⟨(some 35),.op (.mov (.t 8)),none⟩,
    ⟨(some 36),.op (.mov (.t 7)),none⟩,
    ⟨(some 37),.op (.bin .add (.t 35) (.t 36)),none⟩,
    ⟨(some 38),.op (.mov (.t 1)),none⟩,
    ⟨(some 39),.op (.bin .sub (.t 37) (.t 38)),none⟩,
    ⟨(some 40),.op (.appZ 2 24 [.s [],.i .u32 0] (.t 34) (.t 39)),none⟩,
    ⟨(some 9),.op (.mov (.t 40)),none⟩])
  (.seq (.reg false [⟨(some 41),.op (.mov (.t 9)),none⟩,
    ⟨(some 42),.op (.mov (.t 1)),none⟩,
    ⟨(some 43),.op (.slcS 2 (.t 41) (some (.t 42)) none none),none⟩,
    ⟨(some 44),.op (.mov (.t 2)),none⟩,
    ⟨(some 45),.op (.copy 2 (.t 43) (.t 44)),none⟩])
  (.seq (.reg true [⟨(some 46),.op (.mov (.t 9)),none⟩,
    ⟨(some 47),.op (.mov (.t 1)),none⟩,
    ⟨(some 48),.op (.mov (.t 7)),none⟩,
    ⟨(some 49),.op (.bin .add (.t 47) (.t 48)),none⟩,
    ⟨(some 50),.op (.slcS 2 (.t 46) (some (.t 49)) none none),none⟩,
    ⟨(some 51),.op (.mov (.t 0)),none⟩,
    ⟨(some 52),.op (.mov (.t 1)),none⟩,
    ⟨(some 53),.op (.slcS 2 (.t 51) (some (.t 52)) none none),none⟩,
    ⟨(some 54),.op (.copy 2 (.t 50) (.t 53)),none⟩])
  (.seq (.reg false [⟨(some 55),.op (.mov (.t 9)),none⟩,
    ⟨(some 6),.op (.mov (.t 55)),none⟩])
  (.ret))))) (.skip)))
  (.seq (.reg false [⟨(some 56),.op (.mov (.t 0)),none⟩,
    ⟨(some 57),.op (.mov (.t 8)),none⟩,
    ⟨(some 58),.op (.mov (.t 7)),none⟩,
    ⟨(some 59),.op (.bin .add (.t 57) (.t 58)),none⟩,
    ⟨(some 60),.op (.slcS 2 (.t 56) none (some (.t 59)) none),none⟩,
    ⟨(some 0),.op (.mov (.t 60)),none⟩])
  (.seq (.seq (.reg false [⟨(some 61),.op (.mov (.t 2)),none⟩,
    ⟨(some 62),.op (.mov (.t 0)),none⟩,
    ⟨(some 63),.op (.mov (.t 1)),none⟩,
    ⟨(some 64),.op (.mov (.t 7)),none⟩,
    ⟨(some 65),.op (.bin .add (.t 63) (.t 64)),none⟩,
    ⟨(some 66),.op (.slcS 2 (.t 62) (some (.t 65)) none none),none⟩,
    ⟨(some 67),.callF f_slices_overlaps_api_Call [(.t 61),(.t 66)],none⟩,
    ⟨(some 68),.op (.un .not (.t 67)),none⟩])
  (.cond (.t 68) (.seq (.reg true [⟨(some 69),.op (.mov (.t 0)),none⟩,
    ⟨(some 70),.op (.mov (.t 1)),none⟩,
    ⟨(some 71),.op (.mov (.t 7)),none⟩,
    ⟨(some 72),.op (.bin .add (.t 70) (.t 71)),none⟩,
    ⟨(some 73),.op (.slcS 2 (.t 69) (some (.t 72)) none none),none⟩,
    ⟨(some 74),.op (.mov (.t 0)),none⟩,
    ⟨(some 75),.op (.mov (.t 1)),none⟩,
    ⟨(some 76),.op (.slcS 2 (.t 74) (some (.t 75)) none none),none⟩,
    ⟨(some 77),.op (.copy 2 (.t 73) (.t 76)),none⟩])
  (.seq (.reg false [⟨(some 78),.op (.mov (.t 0)),none⟩,
    ⟨(some 79),.op (.mov (.t 1)),none⟩,
    ⟨(some 80),.op (.slcS 2 (.t 78) (some (.t 79)) none none),none⟩,
    ⟨(some 81),.op (.mov (.t 2)),none⟩,
    ⟨(some 82),.op (.copy 2 (.t 80) (.t 81)),none⟩])
  (.seq (.reg false [⟨(some 83),.op (.mov (.t 0)),none⟩,
    ⟨(some 6),.op (.mov (.t 83)),none⟩])
  (.ret)))) (.skip)))
  (.seq (.reg false [⟨(some 84),.op (.mov (.t 0)),none⟩,
    ⟨(some 85),.op (.mov (.t 8)),none⟩,
    ⟨(some 86),.op (.slcS 2 (.t 84) (some (.t 85)) none none),none⟩,
    ⟨(some 87),.op (.mov (.t 2)),none⟩,
    ⟨(some 88),.op (.copy 2 (.t 86) (.t 87)),none⟩])
  (.seq (.reg false [⟨(some 89),.op (.mov (.t 0)),none⟩,
    ⟨(some 90),.op (.mov (.t 1)),none⟩,
    ⟨(some 91),.op (.slcS 2 (.t 89) (some (.t 90)) none none),none⟩,
    ⟨(some 92),.op (.mov (.t 7)),none⟩,
    ⟨(some 93),.callF f_slices_rotateRight_api_Call [(.t 91),(.t 92)],none⟩])
  (.seq (.reg false [⟨(some 94),.op (.mov (.t 0)),none⟩,
    ⟨(some 6),.op (.mov (.t 94)),none⟩])
  (.ret))))))))))))⟩
theorem qfe {g1 g2:Nat} (hc:qh P f (ze g1 g2) = true) (h1:qqh P g1):qgM 2 24 P f:=by
  intro n i R E hR hE hcR hcE hoR hoE hi hr hr2
  have hl2:=hr; simp only [qi] at hl2
  refine Upd.mkS hc (by simp [zZ,bnd]) (by simp) ?_
  refine S.open (a:=true) 0 0 n 2 (cs:=R) (by simp [qm,Tr.get_set]) (by rw [xC]; rfl) hR (Nat.le_refl _) (by simp [qgd]) ?_ ?_
  · intro h0
    subst h0
    obtain rfl:R = []:=List.eq_nil_of_length_eq_zero (by omega)
    obtain rfl:i = 0:=by omega
    refine qy ?_
    simp only [ze,qm,H0,mkT,mkH,trL,vI,simprocAttr]
    have hr2':1 * 24 ≤ qi:=by simpa using hr2
    have hr':1 ≤ qi:=by simpa using hr
    have ht:E.take 2 = E:=List.take_of_length_le (by omega)
    simp only [↓vS,vT,shb,shv,qb,qc,cellsOf,wr,qa,Nat.reduceEqDiff,↓reduceIte,Nat.reduceAdd,Nat.reduceMul,Nat.reduceSub,Nat.reduceLeDiff,Nat.reduceLT,Int.reduceLE,Int.reduceLT,Int.reduceEq,Int.reduceToNat,hr',hr2',hE,ht]
    refine qfG.w (fun _=>⟨[0,1,2],?_⟩) (by simp)
    simp [vw,qe,hcE]
    decide
  · intro c hcl
    refine qy ?_
    simp only [ze,qm,H0,mkT,mkH,trL,vI,simprocAttr]
    obtain ⟨U,hU⟩:∃ U,U = List.replicate ((c - n) * 2) AV.undef:=⟨_,rfl⟩
    have hUl:U.length = (c - n) * 2:=by rw [hU]; simp
    rw [← hU]
    have hci:(i:Int) ≤ c:=by omega
    have hw1:IntKind.wrap .i64 ((n:Int) + 1) = (n:Int) + 1:=qE (by omega) (by omega)
    have hcells:(R ++ U).length = c * 2:=by simp [hR,hUl]; omega
    have htE:E.take 2 = E:=List.take_of_length_le (by omega)
    by_cases hil:i = n
    · subst hil
      by_cases hcap:i + 1 ≤ c
      · have g1:i * 2 + 2 ≤ c * 2:=by omega
        have e1:(R ++ U).take (i * 2) = R:=List.take_left' hR
        simp only [↓vS,vT,shb,shv,qb,qc,cellsOf,wr,qa,Nat.reduceEqDiff,↓reduceIte,Nat.reduceAdd,Nat.reduceMul,Nat.reduceSub,Nat.reduceLeDiff,Nat.reduceLT,Int.reduceLE,Int.reduceLT,Int.reduceEq,Int.reduceToNat,hcl,hw1,hcap,hcells,hE,htE,hoE,g1,e1]
        refine qdc.closedI (a:=false) (cs:=R ++ (E ++ (R ++ U).drop (i * 2 + 2))) (by simp [Tr.get_set]) (by simp [Tr.get_set]) (by simp) ?_ hcap ?_ ?_ hcE
        · simp [hR,hE,hUl]; try omega
        · rw [← List.append_assoc,List.take_left' (by simp [hR,hE]; try omega),List.take_of_length_le (Nat.le_of_eq hR),List.drop_of_length_le (Nat.le_of_eq hR)]; simp
        · rw [List.take_of_length_le (Nat.le_of_eq hR),List.drop_of_length_le (Nat.le_of_eq hR)]; simp [qT,hcR,hcE]
      · have g1:i * 2 ≤ c * 2:=by omega
        have e1:(R ++ U).take (i * 2) = R:=List.take_left' hR
        simp only [↓vS,vT,shb,shv,qb,qc,cellsOf,wr,qa,Nat.reduceEqDiff,↓reduceIte,Nat.reduceAdd,Nat.reduceMul,Nat.reduceSub,Nat.reduceLeDiff,Nat.reduceLT,Int.reduceLE,Int.reduceLT,Int.reduceEq,Int.reduceToNat,hcl,hw1,hcap,hcells,hr,hr2,hE,htE,g1,e1]
        refine qfG.w (fun _=>⟨[0,1,2],?_⟩) (by simp)
        rw [List.take_of_length_le (Nat.le_of_eq hR),List.drop_of_length_le (Nat.le_of_eq hR),List.append_nil]
        have:qC (R ++ E) = true:=by simp [qT,hcR,hcE]
        simp [vw,qe,hcE,this]
        decide
    · have hilt:i < n:=by omega
      have hi':¬ (i:Int) = n:=by omega
      have hci2:¬ c = i:=by omega
      simp only [↓vS,vT,shb,shv,qb,qc,cellsOf,wr,qa,Nat.reduceEqDiff,↓reduceIte,Nat.reduceAdd,Nat.reduceMul,Nat.reduceSub,Nat.reduceLeDiff,Nat.reduceLT,Int.reduceLE,Int.reduceLT,Int.reduceEq,Int.reduceToNat,hci,hcl,hi,hw1,hi',hci2]
      have ha:IntKind.wrap .i64 ((i:Int) + 1) = (i:Int) + 1:=qE (by omega) (by omega)
      have t1:((n:Int) + 1).toNat = n + 1:=by omega
      have t2:((i:Int) + 1).toNat = i + 1:=by omega
      have p1:(0:Int) ≤ (n:Int) + 1:=by omega
      have p2:(0:Int) ≤ (i:Int) + 1:=by omega
      have c0:¬ c = 0:=by omega
      have i1:i + 1 ≤ n + 1:=by omega
      have c1:¬ c = i + 1 ∨ c = i + 1:=by omega
      by_cases hcap:n + 1 ≤ c
      · have hcap':¬ (c:Int) < (n:Int) + 1:=by omega
        have c2:¬ c = i + 1:=by omega
        simp only [↓vS,vT,shb,shv,qb,qc,cellsOf,wr,qa,Nat.reduceEqDiff,↓reduceIte,Nat.reduceAdd,Nat.reduceMul,Nat.reduceSub,Nat.reduceLeDiff,Nat.reduceLT,Int.reduceLE,Int.reduceLT,Int.reduceEq,Int.reduceToNat,hcap,hcap',hcells,t1,p1,c0,ha,t2,p2,i1,c2]
        refine qep h1 (a1:=false) (a2:=false) (cs1:=E) (cs2:=R ++ U) (e2:=2) (by simp [Tr.get_set]) (by simp [Tr.get_set]) (by decide) (by omega) (by omega) (Nat.zero_le _) (by intro hh; rw [hh] at hcells; simp at hcells; omega) ?_
        simp only [↓vS,vT,shb,shv,qb,qc,cellsOf,wr,qa,Nat.reduceEqDiff,↓reduceIte,Nat.reduceAdd,Nat.reduceMul,Nat.reduceSub,Nat.reduceLeDiff,Nat.reduceLT,Int.reduceLE,Int.reduceLT,Int.reduceEq,Int.reduceToNat]
        refine zU ?_
        have i2:i ≤ n + 1:=by omega
        have m1:min (n + 1 - i) (n + 1 - (i + 1)) = n - i:=by omega
        have m2:min 1 (n + 1 - i) = 1:=by omega
        have b1:i * 2 + (n + 1 - i) * 2 ≤ c * 2:=by omega
        have b2:(n - i) * 2 ≤ (n + 1 - i) * 2:=by omega
        have b3:(i + 1) * 2 + (n - i) * 2 ≤ c * 2:=by omega
        have l1:(((R ++ U).drop (i * 2)).take ((n + 1 - i) * 2)).length = (n + 1 - i) * 2:=by simp only [List.length_take,List.length_drop,hcells]; omega
        have e2:((((R ++ U).drop (i * 2)).take ((n + 1 - i) * 2)).take ((n - i) * 2)) = R.drop (i * 2):=by
          rw [List.take_take,Nat.min_eq_left b2,List.drop_append_of_le_length (by omega),List.take_left' (by simp; omega)]
        have l2:(R.drop (i * 2)).length = (n - i) * 2:=by simp; omega
        have o2:qG (R.drop (i * 2)) = true:=by
          have h:=hoR
          rw [← List.take_append_drop (i * 2) R,yy,Bool.and_eq_true] at h
          exact h.2
        obtain ⟨L1,hL1⟩:∃ L1,L1 = (R ++ U).take ((i + 1) * 2) ++ (R.drop (i * 2) ++ (R ++ U).drop ((i + 1) * 2 + (n - i) * 2)):=⟨_,rfl⟩
        have l3:L1.length = c * 2:=by rw [hL1]; simp only [List.length_append,List.length_take,List.length_drop,hcells,l2]; simp only [List.length_append] at hcells; omega
        have b4:i * 2 + 2 ≤ c * 2:=by omega
        simp only [↓vS,vT,shb,shv,qb,qc,cellsOf,wr,qa,Nat.reduceEqDiff,↓reduceIte,Nat.reduceAdd,Nat.reduceMul,Nat.reduceSub,Nat.reduceLeDiff,Nat.reduceLT,Int.reduceLE,Int.reduceLT,Int.reduceEq,Int.reduceToNat,ha,t2,p2,i1,c2,c0,hci2,hi,hcap,i2,m1,m2,hcells,b1,l1,b2,e2,l2,b3,o2,← hL1,l3,b4,hE,htE,hoE]
        have k1:L1.take (i * 2) = R.take (i * 2):=by
          rw [hL1,List.take_append_of_le_length (by simp only [List.length_take,hcells]; omega),List.take_take,Nat.min_eq_left (by omega),List.take_append_of_le_length (by omega)]
        have k2:L1.drop (i * 2 + 2) = R.drop (i * 2) ++ (R ++ U).drop ((i + 1) * 2 + (n - i) * 2):=by
          rw [hL1,List.drop_left' (by simp only [List.length_take,hcells]; omega)]
        refine qdc.closedI (a:=false) (cs:=L1.take (i * 2) ++ (E ++ L1.drop (i * 2 + 2))) (by simp [Tr.get_set]) (by simp [Tr.get_set]) (by simp) ?_ hcap ?_ ?_ hcE
        · simp only [List.length_append,List.length_take,List.length_drop,l3,hE]; omega
        · rw [k1,k2,← List.append_assoc,← List.append_assoc,List.take_left' (by simp only [List.length_append,List.length_take,hE,l2]; omega),List.append_assoc]
        · have h:=hcR
          rw [← List.take_append_drop (i * 2) R,qT,Bool.and_eq_true] at h
          simp only [qT,h.1,h.2,hcE,Bool.and_self]
      · have hcap':(c:Int) < (n:Int) + 1:=by omega
        have s1:IntKind.wrap .i64 ((n:Int) + 1 - i) = (n:Int) + 1 - i:=qE (by omega) (by omega)
        have s2:((n:Int) + 1 - i).toNat = n + 1 - i:=by omega
        have s3:(0:Int) ≤ (n:Int) + 1 - i:=by omega
        have s4:i + (n + 1 - i) = n + 1:=by omega
        have s5:c < n + 1:=by omega
        have s6:i * 2 ≤ c * 2:=by omega
        have e1:(R ++ U).take (i * 2) = R.take (i * 2):=by rw [List.take_append_of_le_length (by omega)]
        have n1:¬ n + 1 = 0:=by omega
        have i2:i ≤ n + 1:=by omega
        have hic:i ≤ c:=by omega
        have m2:min 1 (n + 1 - i) = 1:=by omega
        have m1:min (n - i) (n + 1 - (i + 1)) = n - i:=by omega
        have zl:((List.replicate (n + 1 - i) ([.s [],.i .u32 0]:List AV)).flatten).length = (n + 1 - i) * 2:=by simp [List.length_flatten]
        obtain ⟨L1,hL1⟩:∃ L1,L1 = R.take (i * 2) ++ (List.replicate (n + 1 - i) ([.s [],.i .u32 0]:List AV)).flatten:=⟨_,rfl⟩
        have l1:L1.length = (n + 1) * 2:=by rw [hL1]; simp only [List.length_append,List.length_take,zl]; omega
        have b4:i * 2 + 2 ≤ (n + 1) * 2:=by omega
        have e2:((R ++ U).drop (i * 2)).take ((n - i) * 2) = R.drop (i * 2):=by
          rw [List.drop_append_of_le_length (by omega),List.take_left' (by simp; omega)]
        have b5:i * 2 + (n - i) * 2 ≤ c * 2:=by omega
        have l2:(R.drop (i * 2)).length = (n - i) * 2:=by simp; omega
        have e3:(R.drop (i * 2)).take ((n - i) * 2) = R.drop (i * 2):=List.take_of_length_le (Nat.le_of_eq l2)
        have b6:(i + 1) * 2 + (n - i) * 2 ≤ (n + 1) * 2:=by omega
        have o2:qG (R.drop (i * 2)) = true:=by
          have h:=hoR
          rw [← List.take_append_drop (i * 2) R,yy,Bool.and_eq_true] at h
          exact h.2
        obtain ⟨L2,hL2⟩:∃ L2,L2 = L1.take (i * 2) ++ (E ++ L1.drop (i * 2 + 2)):=⟨_,rfl⟩
        have l4:L2.length = (n + 1) * 2:=by rw [hL2]; simp only [List.length_append,List.length_take,List.length_drop,l1,hE]; omega
        simp only [↓vS,vT,shb,shv,qb,qc,cellsOf,wr,qa,Nat.reduceEqDiff,↓reduceIte,Nat.reduceAdd,Nat.reduceMul,Nat.reduceSub,Nat.reduceLeDiff,Nat.reduceLT,Int.reduceLE,Int.reduceLT,Int.reduceEq,Int.reduceToNat,hw1,hcap',hcells,c0,hci,hci2,hic,s1,s2,s3,s4,s5,hr,hr2,s6,e1,n1,i2,m2,hE,htE,hoE,← hL1,l1,b4,← hL2]
        refine zU ?_
        simp only [↓vS,vT,shb,shv,qb,qc,cellsOf,wr,qa,Nat.reduceEqDiff,↓reduceIte,Nat.reduceAdd,Nat.reduceMul,Nat.reduceSub,Nat.reduceLeDiff,Nat.reduceLT,Int.reduceLE,Int.reduceLT,Int.reduceEq,Int.reduceToNat,ha,t2,p2,i1,c0,hci2,hi,hcl,i2,m1,n1,hcells,e2,b5,l2,e3,b6,l4,o2]
        have k1:L1.take (i * 2) = R.take (i * 2):=by
          rw [hL1,List.take_left' (by simp; omega)]
        have k3:L2.take ((i + 1) * 2) ++ (R.drop (i * 2) ++ L2.drop ((i + 1) * 2 + (n - i) * 2)) = R.take (i * 2) ++ (E ++ R.drop (i * 2)):=by
          rw [show L2.drop ((i + 1) * 2 + (n - i) * 2) = [] from List.drop_of_length_le (by rw [l4]; omega),List.append_nil,hL2,k1,← List.append_assoc,List.take_left' (by simp only [List.length_append,List.length_take,hE]; omega),List.append_assoc]
        have hcl2:qC (R.take (i * 2) ++ (E ++ R.drop (i * 2))) = true:=by
          have h:=hcR
          rw [← List.take_append_drop (i * 2) R,qT,Bool.and_eq_true] at h
          simp only [qT,h.1,h.2,hcE,Bool.and_self]
        simp only [k3]
        generalize R.take (i * 2) ++ (E ++ R.drop (i * 2)) = RR at hcl2 ⊢
        refine qfG.w (fun _=>⟨[0,1,2],?_⟩) (by simp)
        simp [vw,qe,hcE,hcl2]
        decide
end Go.Kc
end
section
/- What binary searches answer; a list with a number more or less. Condition: the functions' texts are these. -/
namespace Go.Kc
variable {P:Program} {f:Nat}
theorem qpc {a b:Nat} (ha:a ≤ b) (hb:b ≤ 70368744177664):IntKind.wrap .i64 (qpb .u64 (IntKind.wrap .u64 (IntKind.wrap .i64 ((a:Int) + b))) 1) = ((a + b) / 2:Nat):=by
  rw [qE (x:=(a:Int) + b) (by omega) (by omega),qmg (by omega) (by omega)]
  have:qpb .u64 ((a:Int) + b) 1 = ((a + b) / 2:Nat):=by
    show Int.fdiv ((a:Int) + b) (2 ^ min (1:Int).toNat 64) = _
    rw [show min (1:Int).toNat 64 = 1 from rfl,Int.pow_one,Int.fdiv_eq_ediv_of_nonneg _ (by decide)]
    omega
  rw [this,qE (by omega) (by omega)]
def bsN (p:Nat → Bool) (i j:Nat):Nat :=
  if h:i < j then (if p ((i + j) / 2) = true then bsN p ((i + j) / 2 + 1) j else bsN p i ((i + j) / 2)) else i
termination_by j - i
theorem qnG (p:Nat → Bool):∀ (m i j:Nat),j - i = m → i ≤ j → i ≤ bsN p i j ∧ bsN p i j ≤ j:=by
  intro m
  induction m using Nat.strongRecOn with
  | ind m ih =>
    intro i j hm hij
    rw [bsN]
    split
    · split
      · have:=ih (j - ((i + j) / 2 + 1)) (by omega) ((i + j) / 2 + 1) j rfl (by omega); omega
      · have:=ih ((i + j) / 2 - i) (by omega) i ((i + j) / 2) rfl (by omega); omega
    · omega
theorem qkm (p:Nat → Bool) (hp:∀ a b,a ≤ b → p b = true → p a = true):∀ (m i j:Nat),j - i = m → i ≤ j → (∀ a,a < i → p a = true) → (∀ a,j ≤ a → p a = false) → (∀ a,a < bsN p i j → p a = true) ∧ (∀ a,bsN p i j ≤ a → p a = false):=by
  intro m
  induction m using Nat.strongRecOn with
  | ind m ih =>
    intro i j hm hij h1 h2
    rw [bsN]
    split
    · split
      · rename_i hh
        exact ih (j - ((i + j) / 2 + 1)) (by omega) _ _ rfl (by omega) (fun a ha=>hp a _ (by omega) hh) h2
      · rename_i hh
        refine ih ((i + j) / 2 - i) (by omega) _ _ rfl (by omega) h1 (fun a ha=>?_)
        cases hpa:p a with
        | false=>rfl
        | true=>exact absurd (hp _ a ha hpa) hh
    · exact ⟨h1,fun a ha=>h2 a (by omega)⟩
end Go.Kc
end
section
/- A list with a number more or less, as the program makes it. Condition: the functions' texts are these. -/
namespace Go.Kc
variable {P:Program} {f:Nat}
end Go.Kc
end
section
/- What arch.Parse answers. Condition: the functions' texts are these. -/
namespace Go.Kc
variable {P:Program} {f:Nat}
end Go.Kc
end
section
/- Calls, lists, policies, assignments, notes: the program's structs as Lean's. No condition. -/
namespace Go.Kc
structure GCall where
  name:List UInt8
  act:Int
def j7 (c:GCall):List AV:=[.s c.name,.i .u32 c.act]
structure GNote where
  file:List UInt8
  line:Int
  err:Int
  text:List UInt8
def qaY (n:GNote):List AV:=[.s n.file,.i .i64 n.line,.i .i64 n.err,.s n.text]
structure Asg where
  file:List UInt8
  line:Int
  sec:List UInt8
  key:List UInt8
  val:List UInt8
def zL (a:Asg):List AV:=[.s a.file,.i .i64 a.line,.s a.sec,.s a.key,.s a.val]
theorem wP (c:GCall):(j7 c).length = 2:=rfl
theorem qbC (c:GNote):(qaY c).length = 4:=rfl
def rC (l:List GCall):List AV:=l.flatMap j7
section
variable {l m:List GCall} {j:Nat}
theorem xL:(rC l).length = l.length * 2:=jo wP l
theorem qd:qC (rC l) = true:=vy fun _=>rfl
theorem qdD:qG (rC l) = true:=qfE fun _=>rfl
theorem qaO:(rC l).take (j * 2) = rC (l.take j):=qdq wP l j
theorem qca:(rC l).drop (j * 2) = rC (l.drop j):=QC wP l j
theorem kG {c:GCall} (h:l[j]? = some c):((rC l).drop (j * 2)).take 2 = j7 c:=jR wP h
theorem qah {c:GCall} (h:l[j]? = some c) {i:Nat} (hi:i < 2):(rC l)[j * 2 + i]? = (j7 c)[i]?:=k8 wP h hi
theorem yR:rC l ++ rC m = rC (l ++ m):=by simp [rC]
theorem Qc:rC [] = []:=rfl
theorem kE {c:GCall}:rC (c :: l) = .s c.name :: .i .u32 c.act :: rC l:=rfl
theorem kp (h:j < l.length):j * 2 + 2 ≤ (rC l).length:=by rw [xL]; omega
end
def rN (l:List GNote):List AV:=l.flatMap qaY
section
variable {l m:List GNote} {j:Nat}
theorem kh:(rN l).length = l.length * 4:=jo qbC l
theorem qj:qC (rN l) = true:=vy fun _=>rfl
theorem qmx {c:GNote} (h:l[j]? = some c):((rN l).drop (j * 4)).take 4 = qaY c:=jR qbC h
theorem qi9 {c:GNote} (h:l[j]? = some c) {i:Nat} (hi:i < 4):(rN l)[j * 4 + i]? = (qaY c)[i]?:=k8 qbC h hi
theorem qaw:rN l ++ rN m = rN (l ++ m):=by simp [rN]
theorem qbz:rN [] = []:=rfl
theorem qfF {n:GNote}:rN [n] = [.s n.file,.i .i64 n.line,.i .i64 n.err,.s n.text]:=rfl
theorem qjZ (h:j < l.length):j * 4 + 4 ≤ (rN l).length:=by rw [kh]; omega
end
structure GList where
  mode:Int
  calls:List GCall
def qk (l:GList):List AV:=[.i .u8 l.mode,.fz l.calls.length (rC l.calls)]
structure Pol where
  arches:List Int
  filter:GList
  deny:Int
  log:GList
  fams:List Int
  fmode:Int
  spaces:Int
  we:Bool
  pe:Bool
  rt:Bool
  np:Bool
def zV (p:Pol):List AV:=[.fz p.arches.length (rI .i64 p.arches),.i .u8 p.filter.mode,.fz p.filter.calls.length (rC p.filter.calls),.i .u32 p.deny,.i .u8 p.log.mode,.fz p.log.calls.length (rC p.log.calls),
  .fz p.fams.length (rI .u32 p.fams),.i .u8 p.fmode,.i .u64 p.spaces,.b p.we,.b p.pe,.b p.rt,.b p.np]
def qeM:Pol:=⟨[],⟨0,[]⟩,0,⟨0,[]⟩,[],0,0,false,false,false,false⟩
end Go.Kc
end
section
/- What the setter's methods do: notes, yes and no. Condition: the functions' texts are these. -/
namespace Go.Kc
variable {P:Program} {f:Nat}
end Go.Kc
end
section
/- What the setter's methods do: yes and no by their keys; architectures. Condition: the functions' texts are these. -/
namespace Go.Kc
variable {P:Program} {f:Nat}
end Go.Kc
end
section
/- What the setter makes of families. Condition: the functions' texts are these. -/
namespace Go.Kc
variable {P:Program} {f:Nat}
def wW (s:List UInt8) (no:Int):List (List UInt8 × Int) → Int × Int
  | []=>(0,no)
  | p :: l=>if p.1 = s then (p.2,0) else wW s no l
theorem qej (q:IntKind) (s:List UInt8) (no:Int):∀ l,kF q s no l = .tup [.i q (wW s no l).1,.i .i64 (wW s no l).2]
  | []=>rfl
  | p :: l=>by
    simp only [kF,wW]
    split
    · rfl
    · exact qej q s no l
def zj (v:List UInt8):List UInt8 × Bool:=if [126].isPrefixOf v = true then (v.drop 1,true) else (v,false)
theorem qks (v:List UInt8):xG v [126] = .tup [.s (zj v).1,.b (zj v).2]:=by
  unfold xG zj; split <;> rfl
theorem qbB (v:List UInt8):(zj v).1.length ≤ v.length:=by
  unfold zj; split <;> simp
def qgu (P:Program) (f:Nat):Prop:=∀ s,qg P f [.s s] (xG s [126])
end Go.Kc
end
section
/- What the setter makes of namespaces. Condition: the functions' texts are these. -/
namespace Go.Kc
variable {P:Program} {f:Nat}
end Go.Kc
end
section
/- What restrict.Set answers. Condition: the functions' texts are these. -/
namespace Go.Kc
variable {P:Program} {f:Nat}
theorem kJ.pure {g esz by':Nat} (h:kJ P g esz by') {n:Nat} {rows:List AV} (hl:rows.length = n * esz) (hc:qC rows = true) (ho:qG rows = true) (h1:n ≤ qi) (h2:n * by' ≤ qi):qg P g [.fz n rows] (.fz n rows):=by
  refine (h n rows hl hc ho h1 h2).pure (by simp [qC,clo]) ?_
  refine .own 0 n esz true rows rows ?_ (fun h0=>?_) (Frzs.self hc)
  · simp [xU,Hp.push,shb,H0,Tr.get_set,qY hc]
  · subst h0; exact List.eq_nil_of_length_eq_zero (by omega)
structure PolOk (p:Pol):Prop where
  a:p.arches.length ≤ 1000
  f:p.fams.length ≤ 1000
  c:p.filter.calls.length ≤ 1000
  l:p.log.calls.length ≤ 1000
def qdW (P:Program) (f:Nat):Prop:=∀ p,PolOk p → qg P f [.agg (zV p)] (.agg (zV p))
def wJ (f_slices_Clone_int_int f_slices_Clone_uint32_uint32 f_slices_Clone_api_Call_api_Call:Nat):IFn:=⟨[.cell 2 13 true],
  .seq (.reg false [⟨(some 1),.op (.box (.t 0)),none⟩,
    ⟨(some 2),.op (.alloc [.nils,.i .u8 0,.nils,.i .u32 0,.i .u8 0,.nils,.nils,.i .u8 0,.i .u64 0,.b false,.b false,.b false,.b false]),none⟩])
  (.seq (.reg false [⟨(some 3),.op (.fAddr 0 (.t 1)),none⟩,
    ⟨(some 4),.op (.load1 (.t 3)),none⟩,
    ⟨(some 5),.callF f_slices_Clone_int_int [(.t 4)],none⟩,
    ⟨(some 6),.op (.fAddr 0 (.t 1)),none⟩,
    ⟨none,.op (.store 1 (.t 6) (.t 5)),none⟩])
  (.seq (.reg false [⟨(some 7),.op (.fAddr 6 (.t 1)),none⟩,
    ⟨(some 8),.op (.load1 (.t 7)),none⟩,
    ⟨(some 9),.callF f_slices_Clone_uint32_uint32 [(.t 8)],none⟩,
    ⟨(some 10),.op (.fAddr 6 (.t 1)),none⟩,
    ⟨none,.op (.store 1 (.t 10) (.t 9)),none⟩])
  (.seq (.reg false [⟨(some 11),.op (.fAddr 1 (.t 1)),none⟩,
    ⟨(some 12),.op (.fAddr 1 (.t 11)),none⟩,
    ⟨(some 13),.op (.load1 (.t 12)),none⟩,
    ⟨(some 14),.callF f_slices_Clone_api_Call_api_Call [(.t 13)],none⟩,
    ⟨(some 15),.op (.fAddr 1 (.t 1)),none⟩,
    ⟨(some 16),.op (.fAddr 1 (.t 15)),none⟩,
    ⟨none,.op (.store 1 (.t 16) (.t 14)),none⟩])
  (.seq (.reg false [⟨(some 17),.op (.fAddr 4 (.t 1)),none⟩,
    ⟨(some 18),.op (.fAddr 1 (.t 17)),none⟩,
    ⟨(some 19),.op (.load1 (.t 18)),none⟩,
    ⟨(some 20),.callF f_slices_Clone_api_Call_api_Call [(.t 19)],none⟩,
    ⟨(some 21),.op (.fAddr 4 (.t 1)),none⟩,
    ⟨(some 22),.op (.fAddr 1 (.t 21)),none⟩,
    ⟨none,.op (.store 1 (.t 22) (.t 20)),none⟩])
  (.seq (.reg false [⟨(some 23),.op (.loadN 13 (.t 1)),none⟩,
    ⟨none,.op (.store 13 (.t 2) (.t 23)),none⟩])
  (.ret))))))⟩
end Go.Kc
end
section
/- What restrict.Set and restrict.Key answer. Condition: the functions' texts are these. -/
namespace Go.Kc
variable {P:Program} {f:Nat}
end Go.Kc
end
section
/- The law RestrictSpaces. Condition: the functions' texts are these. -/
namespace Go.Kc
variable {P:Program} {f:Nat}
end Go.Kc
end
section
/- What a setter leaves: lists that rise still rise, only the named field differs, every note tells of a fault. No condition. -/
namespace Go.Kc
def qqx (p:Pol):Prop:=p.arches.Pairwise (· < ·) ∧ p.fams.Pairwise (· < ·)
instance (p:Pol):Decidable (qqx p):=inferInstanceAs (Decidable (_ ∧ _))
end Go.Kc
end
section
/- What the small functions of the law RestrictOwn answer. Condition: the functions' texts are these. -/
namespace Go.Kc
variable {P:Program} {f:Nat}
theorem qcn {h:Hp} {b:Nat}:Frz h (.sl b 0 0 0 false) (.fz 0 []) ↔ evB (h.tr.get b) (fun z=>jw z (fun _ w _ _=>w = true)):=by
  constructor
  · intro hh
    cases hh with
    | sl _ _ _ _ _ e af cs m cs' hb=>exact ⟨_,hb,rfl⟩
  · rintro ⟨z,hz,h2⟩
    cases z with
    | cells e w af ys =>
      cases h2
      exact .sl b 0 0 0 false e af ys 0 [] hz (Nat.le_refl _) (Nat.zero_le _) (fun _=>rfl) .nil
    | dead=>exact h2.elim
    | map es=>exact h2.elim
theorem qnB {q:IntKind} {l:List Int}:(l = [] → rI q l = []) ↔ True:=iff_true_intro fun h=>by rw [h]; rfl
theorem qrB {l:List GCall}:(l = [] → rC l = []) ↔ True:=iff_true_intro fun h=>by rw [h]; rfl
def jT:IFn:=⟨[.tmp 2],
  .seq (.reg false [⟨(some 1),.op (.box (.t 0)),none⟩,
    ⟨(some 2),.op (.mov (.c (.b false))),none⟩])
  (.seq (.reg false [⟨(some 3),.op (.fAddr 1 (.t 1)),none⟩,
    ⟨(some 4),.op (.load1 (.t 3)),none⟩,
    ⟨(some 5),.op (.len false (.t 4)),none⟩,
    ⟨(some 6),.op (.bin .gtr (.t 5) (.c (.i .i64 100))),none⟩,
    ⟨(some 2),.op (.mov (.t 6)),none⟩])
  (.ret))⟩
def jq (l:GList):Bool:=decide (100 < l.calls.length)
theorem qdQ (hc:qh P f jT = true) (l:GList):qg P f [.agg (qk l)] (.b (jq l)):=by
  refine qg.mk hc rfl ?_
  simp only [jT,qk,qm,H0,mkT,mkH,trL,vI,simprocAttr]
  by_cases h:(100:Int) < l.calls.length
  · have h':100 < l.calls.length:=by omega
    simp only [↓vS,vT,shb,shv,qb,qc,cellsOf,wr,qa,simprocAttr,h,jq,h',vZ]
  · have h':¬ 100 < l.calls.length:=by omega
    simp only [↓vS,vT,shb,shv,qb,qc,cellsOf,wr,qa,simprocAttr,h,jq,h',vZ]
def jP (f_vestibulelaw16_Great:Nat):IFn:=⟨[.tmp 4],
  .seq (.reg false [⟨(some 2),.op (.box (.t 0)),none⟩,
    ⟨(some 3),.op (.box (.t 1)),none⟩,
    ⟨(some 4),.op (.mov (.c (.b false))),none⟩])
  (.seq (.reg false [⟨(some 5),.op (.fAddr 0 (.t 2)),none⟩,
    ⟨(some 6),.op (.load1 (.t 5)),none⟩,
    ⟨(some 7),.op (.len false (.t 6)),none⟩,
    ⟨(some 8),.op (.bin .gtr (.t 7) (.c (.i .i64 20))),none⟩,
    ⟨(some 9),.op (.mov (.t 8)),none⟩,
    ⟨(some 10),.op (.fAddr 6 (.t 2)),(some (9,false))⟩,
    ⟨(some 11),.op (.load1 (.t 10)),(some (9,false))⟩,
    ⟨(some 12),.op (.len false (.t 11)),(some (9,false))⟩,
    ⟨(some 13),.op (.bin .gtr (.t 12) (.c (.i .i64 20))),(some (9,false))⟩,
    ⟨(some 14),.op (.pick (.t 9) (.c (.b true)) (.t 13)),none⟩,
    ⟨(some 15),.op (.mov (.t 14)),none⟩,
    ⟨(some 16),.op (.fAddr 1 (.t 2)),(some (15,false))⟩,
    ⟨(some 17),.op (.loadN 2 (.t 16)),(some (15,false))⟩,
    ⟨(some 18),.callF f_vestibulelaw16_Great [(.t 17)],(some (15,false))⟩,
    ⟨(some 19),.op (.pick (.t 15) (.c (.b true)) (.t 18)),none⟩,
    ⟨(some 20),.op (.mov (.t 19)),none⟩,
    ⟨(some 21),.op (.fAddr 4 (.t 2)),(some (20,false))⟩,
    ⟨(some 22),.op (.loadN 2 (.t 21)),(some (20,false))⟩,
    ⟨(some 23),.callF f_vestibulelaw16_Great [(.t 22)],(some (20,false))⟩,
    ⟨(some 24),.op (.pick (.t 20) (.c (.b true)) (.t 23)),none⟩,
    ⟨(some 25),.op (.mov (.t 24)),none⟩,
    ⟨(some 26),.op (.fAddr 4 (.t 3)),(some (25,false))⟩,
    ⟨(some 27),.op (.load1 (.t 26)),(some (25,false))⟩,
    ⟨(some 28),.op (.len true (.t 27)),(some (25,false))⟩,
    ⟨(some 29),.op (.bin .gtr (.t 28) (.c (.i .i64 1000))),(some (25,false))⟩,
    ⟨(some 30),.op (.pick (.t 25) (.c (.b true)) (.t 29)),none⟩,
    ⟨(some 31),.op (.mov (.t 30)),none⟩,
    ⟨(some 32),.op (.fAddr 3 (.t 3)),(some (31,false))⟩,
    ⟨(some 33),.op (.load1 (.t 32)),(some (31,false))⟩,
    ⟨(some 34),.op (.len true (.t 33)),(some (31,false))⟩,
    ⟨(some 35),.op (.bin .gtr (.t 34) (.c (.i .i64 200))),(some (31,false))⟩,
    ⟨(some 36),.op (.pick (.t 31) (.c (.b true)) (.t 35)),none⟩,
    ⟨(some 37),.op (.mov (.t 36)),none⟩,
    ⟨(some 38),.op (.fAddr 0 (.t 3)),(some (37,false))⟩,
    ⟨(some 39),.op (.load1 (.t 38)),(some (37,false))⟩,
    ⟨(some 40),.op (.len true (.t 39)),(some (37,false))⟩,
    ⟨(some 41),.op (.bin .gtr (.t 40) (.c (.i .i64 200))),(some (37,false))⟩,
    ⟨(some 42),.op (.pick (.t 37) (.c (.b true)) (.t 41)),none⟩,
    ⟨(some 4),.op (.mov (.t 42)),none⟩])
  (.ret))⟩
def xK (p:Pol) (a:Asg):Bool:=decide (20 < p.arches.length) || decide (20 < p.fams.length) || jq p.filter || jq p.log || decide (1000 < a.val.length) || decide (200 < a.key.length) || decide (200 < a.file.length)
theorem qdZ {g:Nat} (hc:qh P f (jP g) = true) (hg:∀ l,qg P g [.agg (qk l)] (.b (jq l))) (p:Pol) (a:Asg):qg P f [.agg (zV p),.agg (zL a)] (.b (xK p a)):=by
  have cast:∀ (n m:Nat),((n:Int) < (m:Int)) = (n < m):=fun n m=>by simp
  refine qg.mk hc rfl ?_
  simp only [jP,zV,zL,qm,H0,mkT,mkH,trL,vI,simprocAttr]
  by_cases h1:(20:Int) < p.arches.length
  · have h1':20 < p.arches.length:=by omega
    simp only [↓vS,vT,shb,shv,qb,qc,cellsOf,wr,qa,simprocAttr,h1,xK,h1',vZ]
    simp
  have h1':¬ 20 < p.arches.length:=by omega
  by_cases h2:(20:Int) < p.fams.length
  · have h2':20 < p.fams.length:=by omega
    simp only [↓vS,vT,shb,shv,qb,qc,cellsOf,wr,qa,simprocAttr,h1,h2,xK,h1',h2',vZ]
    simp
  have h2':¬ 20 < p.fams.length:=by omega
  simp only [↓vS,vT,shb,shv,qb,qc,cellsOf,wr,qa,simprocAttr,h1,h2]
  refine (hg p.filter).sc ?_
  cases h3:jq p.filter
  case true =>
    simp only [↓vS,vT,shb,shv,qb,qc,cellsOf,wr,qa,simprocAttr]
    simp [xK,h3,vZ]
  simp only [↓vS,vT,shb,shv,qb,qc,cellsOf,wr,qa,simprocAttr]
  refine (hg p.log).sc ?_
  cases h4:jq p.log
  case true =>
    simp only [↓vS,vT,shb,shv,qb,qc,cellsOf,wr,qa,simprocAttr]
    simp [xK,h4,vZ]
  by_cases h5:(1000:Int) < a.val.length
  · have h5':1000 < a.val.length:=by omega
    simp only [↓vS,vT,shb,shv,qb,qc,cellsOf,wr,qa,simprocAttr,h5]
    simp [xK,h5',vZ]
  have h5':¬ 1000 < a.val.length:=by omega
  by_cases h6:(200:Int) < a.key.length
  · have h6':200 < a.key.length:=by omega
    simp only [↓vS,vT,shb,shv,qb,qc,cellsOf,wr,qa,simprocAttr,h5,h6]
    simp [xK,h6',vZ]
  have h6':¬ 200 < a.key.length:=by omega
  by_cases h7:(200:Int) < a.file.length
  · have h7':200 < a.file.length:=by omega
    simp only [↓vS,vT,shb,shv,qb,qc,cellsOf,wr,qa,simprocAttr,h5,h6,h7]
    simp [xK,h7',vZ]
  have h7':¬ 200 < a.file.length:=by omega
  simp only [↓vS,vT,shb,shv,qb,qc,cellsOf,wr,qa,simprocAttr,h5,h6,h7]
  simp [xK,h1',h2',h3,h4,h5',h6',h7',vZ]
def jA:IFn:=⟨[.cell 2 2 true],
  .seq (.reg false [⟨(some 1),.op (.box (.t 0)),none⟩,
    ⟨(some 2),.op (.alloc [.i .u8 0,.nils]),none⟩])
  (.seq (.reg true [⟨(some 3),.op (.fAddr 0 (.t 1)),none⟩,
    ⟨(some 4),.op (.load1 (.t 3)),none⟩,
    ⟨(some 5),.op (.buildS 0 [.s [],.i .u32 0] []),none⟩,
    ⟨(some 6),.op (.fAddr 1 (.t 1)),none⟩,
    ⟨(some 7),.op (.load1 (.t 6)),none⟩,
    ⟨(some 8),.op (.appD 2 24 (.t 5) (.t 7) [3]),none⟩,
    ⟨(some 9),.op (.build [.i .u8 0,.nils] [(0,1,(.t 4)),(1,1,(.t 8))]),none⟩,
    ⟨none,.op (.store 2 (.t 2) (.t 9)),none⟩])
  (.ret))⟩
theorem qj2 (hc:qh P f jA = true) (l:GList) (hl:l.calls.length ≤ 1000):qg P f [.agg (qk l)] (.agg (qk l)):=by
  refine qg.mk hc rfl ?_
  simp only [jA,qk,qm,H0,mkT,mkH,trL,vI,simprocAttr]
  simp only [↓vS,vT,shb,shv,qb,qc,cellsOf,wr,qa,simprocAttr]
  refine zU ?_
  have hT:List.take (l.calls.length * 2) (rC l.calls) = rC l.calls:=List.take_of_length_le (by rw [xL]; exact Nat.le_refl _)
  by_cases h0:l.calls = []
  · simp only [↓vS,vT,shb,shv,qb,qc,cellsOf,wr,qa,simprocAttr,h0,Qc,Nat.zero_mul]
    simp [vZ,vP,Tr.get_set,qF,qcn]
  · have hn:¬ l.calls.length ≤ 0:=by
      intro h; exact h0 (List.eq_nil_of_length_eq_zero (by omega))
    have hr:l.calls.length ≤ qi:=by simp only [qi]; omega
    have hr2:l.calls.length * 24 ≤ qi:=by simp only [qi]; omega
    simp only [↓vS,vT,shb,shv,qb,qc,cellsOf,wr,qa,simprocAttr,xL,hT,hn,qdD,hr,hr2]
    simp [vZ,vP,Tr.get_set,qF qd,qd,qrB]
def jB (f_vestibulelaw16_Copied:Nat):IFn:=⟨[.cell 2 13 true],
  .seq (.reg false [⟨(some 1),.op (.box (.t 0)),none⟩,
    ⟨(some 2),.op (.alloc [.nils,.i .u8 0,.nils,.i .u32 0,.i .u8 0,.nils,.nils,.i .u8 0,.i .u64 0,.b false,.b false,.b false,.b false]),none⟩])
  (.seq (.reg false [⟨(some 3),.op (.buildS 0 [.i .i64 0] []),none⟩,
    ⟨(some 4),.op (.fAddr 0 (.t 1)),none⟩,
    ⟨(some 5),.op (.load1 (.t 4)),none⟩,
    ⟨(some 6),.op (.app 1 8 true (.t 3) (.t 5)),none⟩,
    ⟨(some 7),.op (.fAddr 0 (.t 1)),none⟩,
    ⟨none,.op (.store 1 (.t 7) (.t 6)),none⟩])
  (.seq (.reg false [⟨(some 8),.op (.buildS 0 [.i .u32 0] []),none⟩,
    ⟨(some 9),.op (.fAddr 6 (.t 1)),none⟩,
    ⟨(some 10),.op (.load1 (.t 9)),none⟩,
    ⟨(some 11),.op (.app 1 4 true (.t 8) (.t 10)),none⟩,
    ⟨(some 12),.op (.fAddr 6 (.t 1)),none⟩,
    ⟨none,.op (.store 1 (.t 12) (.t 11)),none⟩])
  (.seq (.reg false [⟨(some 13),.op (.fAddr 1 (.t 1)),none⟩,
    ⟨(some 14),.op (.loadN 2 (.t 13)),none⟩,
    ⟨(some 15),.callF f_vestibulelaw16_Copied [(.t 14)],none⟩,
    ⟨(some 16),.op (.fAddr 1 (.t 1)),none⟩,
    ⟨none,.op (.store 2 (.t 16) (.t 15)),none⟩])
  (.seq (.reg false [⟨(some 17),.op (.fAddr 4 (.t 1)),none⟩,
    ⟨(some 18),.op (.loadN 2 (.t 17)),none⟩,
    ⟨(some 19),.callF f_vestibulelaw16_Copied [(.t 18)],none⟩,
    ⟨(some 20),.op (.fAddr 4 (.t 1)),none⟩,
    ⟨none,.op (.store 2 (.t 20) (.t 19)),none⟩])
  (.seq (.reg false [⟨(some 21),.op (.loadN 13 (.t 1)),none⟩,
    ⟨none,.op (.store 13 (.t 2) (.t 21)),none⟩])
  (.ret))))))⟩
theorem qkC {g:Nat} (hc:qh P f (jB g) = true) (hg:∀ l:GList,l.calls.length ≤ 1000 → qg P g [.agg (qk l)] (.agg (qk l))):qdW P f:=by
  intro p hp
  have ha:=hp.a
  have hf:=hp.f
  have hcc:=hp.c
  have hl:=hp.l
  have hT:List.take p.arches.length (rI .i64 p.arches) = rI .i64 p.arches:=List.take_of_length_le (by rw [yw]; exact Nat.le_refl _)
  have hT2:List.take p.fams.length (rI .u32 p.fams) = rI .u32 p.fams:=List.take_of_length_le (by rw [yw]; exact Nat.le_refl _)
  refine qg.mk hc rfl ?_
  simp only [jB,zV,qm,H0,mkT,mkH,trL,vI,simprocAttr]
  simp only [↓vS,vT,shb,shv,qb,qc,cellsOf,wr,qa,simprocAttr]
  by_cases h0:p.arches = []
  · by_cases h1:p.fams = []
    · simp only [↓vS,vT,shb,shv,qb,qc,cellsOf,wr,qa,simprocAttr,h0,h1,qbE,Nat.zero_mul]
      refine (hg p.filter hcc).sc ?_
      simp only [↓vS,vT,shb,shv,qb,qc,cellsOf,wr,qa,simprocAttr,qk]
      refine (hg p.log hl).sc ?_
      simp only [↓vS,vT,shb,shv,qb,qc,cellsOf,wr,qa,simprocAttr,qk]
      simp [vZ,vP,Tr.get_set,qF,h0,h1,qbE,qcn]
    · have hn:¬ p.fams.length ≤ 0:=by
        intro h; exact h1 (List.eq_nil_of_length_eq_zero (by omega))
      have hr:p.fams.length ≤ qi:=by simp only [qi]; omega
      have hr2:p.fams.length * 4 ≤ qi:=by simp only [qi]; omega
      simp only [↓vS,vT,shb,shv,qb,qc,cellsOf,wr,qa,simprocAttr,h0,qbE,Nat.zero_mul,yw,Nat.mul_one,hT2,hn,qfo,hr,hr2]
      refine (hg p.filter hcc).sc ?_
      simp only [↓vS,vT,shb,shv,qb,qc,cellsOf,wr,qa,simprocAttr,qk]
      refine (hg p.log hl).sc ?_
      simp only [↓vS,vT,shb,shv,qb,qc,cellsOf,wr,qa,simprocAttr,qk]
      simp [vZ,vP,Tr.get_set,qF qq,qq,h0,qbE,qcn,qnB]
  · have hm:¬ p.arches.length ≤ 0:=by
      intro h; exact h0 (List.eq_nil_of_length_eq_zero (by omega))
    have hs:p.arches.length ≤ qi:=by simp only [qi]; omega
    have hs2:p.arches.length * 8 ≤ qi:=by simp only [qi]; omega
    by_cases h1:p.fams = []
    · simp only [↓vS,vT,shb,shv,qb,qc,cellsOf,wr,qa,simprocAttr,h1,qbE,Nat.zero_mul,yw,Nat.mul_one,hT,hm,qfo,hs,hs2]
      refine (hg p.filter hcc).sc ?_
      simp only [↓vS,vT,shb,shv,qb,qc,cellsOf,wr,qa,simprocAttr,qk]
      refine (hg p.log hl).sc ?_
      simp only [↓vS,vT,shb,shv,qb,qc,cellsOf,wr,qa,simprocAttr,qk]
      simp [vZ,vP,Tr.get_set,qF qq,qq,h1,qbE,qcn,qnB]
    · have hn:¬ p.fams.length ≤ 0:=by
        intro h; exact h1 (List.eq_nil_of_length_eq_zero (by omega))
      have hr:p.fams.length ≤ qi:=by simp only [qi]; omega
      have hr2:p.fams.length * 4 ≤ qi:=by simp only [qi]; omega
      simp only [↓vS,vT,shb,shv,qb,qc,cellsOf,wr,qa,simprocAttr,yw,Nat.mul_one,hT,hT2,hn,hm,qfo,hr,hr2,hs,hs2]
      refine (hg p.filter hcc).sc ?_
      simp only [↓vS,vT,shb,shv,qb,qc,cellsOf,wr,qa,simprocAttr,qk]
      refine (hg p.log hl).sc ?_
      simp only [↓vS,vT,shb,shv,qb,qc,cellsOf,wr,qa,simprocAttr,qk]
      simp [vZ,vP,Tr.get_set,qF qq,qq,qnB,qcn]
end Go.Kc
end
section
/- What the names of faults answer, the program's and the reference's. Condition: the functions' texts are these. -/
namespace Go.Kc
variable {P:Program} {f:Nat}
def jI:IFn:=⟨[.tmp 0],
  .seq (.reg false [⟨(some 0),.op (.mov (.c (.nils))),none⟩])
  (.seq (.reg false [⟨(some 1),.op (.build [.s [],.i .u64 0] [(0,1,(.c (.s [69,80,69,82,77]))),(1,1,(.c (.i .u64 1)))]),none⟩,
    ⟨(some 2),.op (.build [.s [],.i .u64 0] [(0,1,(.c (.s [69,78,79,69,78,84]))),(1,1,(.c (.i .u64 2)))]),none⟩,
    ⟨(some 3),.op (.build [.s [],.i .u64 0] [(0,1,(.c (.s [69,73,79]))),(1,1,(.c (.i .u64 5)))]),none⟩,
    ⟨(some 4),.op (.build [.s [],.i .u64 0] [(0,1,(.c (.s [69,66,65,68,70]))),(1,1,(.c (.i .u64 9)))]),none⟩,
    ⟨(some 5),.op (.build [.s [],.i .u64 0] [(0,1,(.c (.s [69,65,71,65,73,78]))),(1,1,(.c (.i .u64 11)))]),none⟩,
    ⟨(some 6),.op (.build [.s [],.i .u64 0] [(0,1,(.c (.s [69,78,79,77,69,77]))),(1,1,(.c (.i .u64 12)))]),none⟩,
    ⟨(some 7),.op (.build [.s [],.i .u64 0] [(0,1,(.c (.s [69,65,67,67,69,83]))),(1,1,(.c (.i .u64 13)))]),none⟩,
    ⟨(some 8),.op (.build [.s [],.i .u64 0] [(0,1,(.c (.s [69,70,65,85,76,84]))),(1,1,(.c (.i .u64 14)))]),none⟩,
    ⟨(some 9),.op (.build [.s [],.i .u64 0] [(0,1,(.c (.s [69,66,85,83,89]))),(1,1,(.c (.i .u64 16)))]),none⟩,
    ⟨(some 10),.op (.build [.s [],.i .u64 0] [(0,1,(.c (.s [69,78,79,68,69,86]))),(1,1,(.c (.i .u64 19)))]),none⟩,
    ⟨(some 11),.op (.build [.s [],.i .u64 0] [(0,1,(.c (.s [69,73,78,86,65,76]))),(1,1,(.c (.i .u64 22)))]),none⟩,
    ⟨(some 12),.op (.build [.s [],.i .u64 0] [(0,1,(.c (.s [69,78,79,83,89,83]))),(1,1,(.c (.i .u64 38)))]),none⟩,
    ⟨(some 13),.op (.build [.s [],.i .u64 0] [(0,1,(.c (.s [69,79,80,78,79,84,83,85,80,80]))),(1,1,(.c (.i .u64 95)))]),none⟩,
    ⟨(some 14),.op (.build [.s [],.i .u64 0] [(0,1,(.c (.s [69,65,70,78,79,83,85,80,80,79,82,84]))),(1,1,(.c (.i .u64 97)))]),none⟩,
    ⟨(some 15),.op (.build [.s [],.i .u64 0] [(0,1,(.c (.s [69,84,73,77,69,68,79,85,84]))),(1,1,(.c (.i .u64 110)))]),none⟩,
    ⟨(some 16),.op (.buildS 15 [.s [],.i .u64 0] [(0,2,(.t 1)),(2,2,(.t 2)),(4,2,(.t 3)),(6,2,(.t 4)),(8,2,(.t 5)),(10,2,(.t 6)),(12,2,(.t 7)),(14,2,(.t 8)),(16,2,(.t 9)),(18,2,(.t 10)),(20,2,(.t 11)),(22,2,(.t 12)),(24,2,(.t 13)),(26,2,(.t 14)),(28,2,(.t 15))]),none⟩,
    ⟨(some 0),.op (.mov (.t 16)),none⟩])
  (.ret))⟩
set_option maxRecDepth 8000 in
theorem qio (hc:qh P f jI = true):qg P f [] (.fz 15 (qU.flatMap (kV .u64))):=by
  refine qg.mk hc rfl ?_
  simp only [jI,qm,H0,mkT,mkH,trL,vI,simprocAttr]
  simp (decide:=true) only [↓vS,vT,shb,shv,qb,qc,cellsOf,wr,qa,simprocAttr]
  refine Frz.cut 2 rfl (Nat.le_refl _) ?_
  simp (decide:=true) [vP,Tr.get_set,qU,kV,qF,vZ]
def wq:IFn:=⟨[.tmp 6,.tmp 7],
  .seq (.reg false [⟨(some 6),.op (.mov (.c (.i .u64 0))),none⟩,
    ⟨(some 7),.op (.mov (.c (.i .i64 0))),none⟩])
  (.seq (.seq (.reg false [⟨(some 8),.op (.mov (.c (.i .i64 0))),none⟩])
  (.blk 0 (.loop (.seq (.seq (.reg false [⟨(some 9),.op (.mov (.t 8)),none⟩,
    ⟨(some 10),.op (.mov (.t 0)),none⟩,
    ⟨(some 11),.op (.len false (.t 10)),none⟩,
    ⟨(some 12),.op (.bin .lss (.t 9) (.t 11)),none⟩])
  (.cond (.t 12) (.skip) (.exit 0)))
  (.seq (.blk 1 (.seq (.reg false [⟨(some 15),.op (.mov (.t 0)),none⟩,
    ⟨(some 16),.op (.mov (.t 8)),none⟩,
    ⟨(some 17),.op (.iAddrS 2 (.t 15) (.t 16)),none⟩,
    ⟨(some 18),.op (.fAddr 0 (.t 17)),none⟩,
    ⟨(some 19),.op (.load1 (.t 18)),none⟩,
    ⟨(some 20),.op (.mov (.t 1)),none⟩,
    ⟨(some 21),.op (.bin .eql (.t 19) (.t 20)),none⟩])
  (.cond (.t 21) (.seq (.reg false [⟨(some 22),.op (.mov (.t 0)),none⟩,
    ⟨(some 23),.op (.mov (.t 8)),none⟩,
    ⟨(some 24),.op (.iAddrS 2 (.t 22) (.t 23)),none⟩,
    ⟨(some 25),.op (.fAddr 1 (.t 24)),none⟩,
    ⟨(some 26),.op (.load1 (.t 25)),none⟩,
    ⟨(some 6),.op (.mov (.t 26)),none⟩,
    ⟨(some 7),.op (.mov (.c (.i .i64 0))),none⟩])
  (.ret)) (.skip))))
  (.reg false [⟨(some 13),.op (.mov (.t 8)),none⟩,
    ⟨(some 14),.op (.bin .add (.t 13) (.c (.i .i64 1))),none⟩,
    ⟨(some 8),.op (.mov (.t 14)),none⟩]))))))
  (.seq (.reg false [⟨(some 27),.op (.mov (.t 2)),none⟩,
    ⟨(some 6),.op (.mov (.c (.i .u64 0))),none⟩,
    ⟨(some 7),.op (.mov (.t 27)),none⟩])
  (.ret)))⟩
theorem qpz (hc:qh P f wq = true):qgJ P f .u64:=by
  intro l s no hl
  refine qg.mk hc (by simp [qC,clo]) ?_
  simp only [wq,qm,H0,mkT,mkH,trL,vI,simprocAttr]
  simp only [↓vS,vT,shb,shv,qb,qc,cellsOf,wr,qa,simprocAttr]
  refine SL.loop (α:=Nat) (fun j=>[(0,.fz l.length (l.flatMap (kV .u64))),(1,.s s),(2,.i .i64 no),(8,.i .i64 j)]) (fun _=>[]) (fun j=>kF .u64 s no l = kF .u64 s no (l.drop j)) (fun j=>l.length - j) 0 [] ?_ ?_ ?_ rfl ?_ ?_
  · simp [vw]
  · trivial
  · simp
  · simp
  rintro j hI G ih
  simp only [qm,H0,mkT,mkH,trL,vI,simprocAttr]
  by_cases hlt:j < l.length
  · have hx:l[j]? = some l[j]:=List.getElem?_eq_getElem hlt
    have hw:IntKind.wrap .i64 ((j:Int) + 1) = ((j + 1:Nat):Int):=by rw [qE (by omega) (by have:=hl; simp only [qi] at this; omega)]; omega
    have g0:(l.flatMap (kV .u64))[j * 2]? = some (.s l[j].1):=k8 (f:=kV .u64) (m:=2) qaT hx (i:=0) (by decide)
    have g1:(l.flatMap (kV .u64))[j * 2 + 1]? = some (.i .u64 l[j].2):=k8 (f:=kV .u64) (m:=2) qaT hx (i:=1) (by decide)
    rw [List.drop_eq_getElem_cons hlt,kF] at hI
    simp only [↓vS,vT,shb,shv,qb,qc,cellsOf,wr,qa,simprocAttr,hlt,g0,g1,hw]
    split
    · rename_i hs
      rw [hI,if_pos hs]
      simp only [vZ,and_self,true_and]
    · rename_i hs
      rw [if_neg hs] at hI
      refine ih (j + 1) hI (by omega) _ _ (Wk.mk _ _ [] ?_ ?_ ?_ rfl)
      · simp [vw]
      · trivial
      · simp
  · simp only [↓vS,vT,shb,shv,qb,qc,cellsOf,wr,qa,simprocAttr,hlt,vZ]
    rw [List.drop_eq_nil_of_le (by omega),kF] at hI
    rw [hI]
    simp only [vZ,and_self,true_and]
def jU (f_vestibuleref10_Errnos f_vestibuleref10_Find:Nat):IFn:=⟨[.tmp 2,.tmp 3],
  .seq (.reg false [⟨(some 2),.op (.mov (.c (.i .u32 0))),none⟩,
    ⟨(some 3),.op (.mov (.c (.i .i64 0))),none⟩])
  (.seq (.reg false [⟨(some 9),.callF f_vestibuleref10_Errnos [],none⟩,
    ⟨(some 10),.op (.mov (.t 0)),none⟩,
    ⟨(some 11),.callF f_vestibuleref10_Find [(.t 9),(.t 10),(.c (.i .i64 160))],none⟩,
    ⟨(some 8),.op (.mov (.t 11)),none⟩,
    ⟨(some 12),.op (.ext (.t 8) 0),none⟩,
    ⟨(some 13),.op (.ext (.t 8) 1),none⟩,
    ⟨(some 4),.op (.mov (.t 12)),none⟩,
    ⟨(some 5),.op (.mov (.t 13)),none⟩])
  (.seq (.seq (.reg false [⟨(some 14),.op (.mov (.t 5)),none⟩,
    ⟨(some 15),.op (.bin .eql (.t 14) (.c (.i .i64 0))),none⟩])
  (.cond (.t 15) (.seq (.reg false [⟨(some 16),.op (.mov (.t 4)),none⟩,
    ⟨(some 17),.op (.cvInt .u32 (.t 16)),none⟩,
    ⟨(some 2),.op (.mov (.t 17)),none⟩,
    ⟨(some 3),.op (.mov (.c (.i .i64 0))),none⟩])
  (.ret)) (.skip)))
  (.seq (.reg false [⟨(some 6),.op (.mov (.c (.i .i64 0))),none⟩])
  (.seq (.seq (.reg false [⟨(some 7),.op (.mov (.c (.i .i64 0))),none⟩])
  (.blk 0 (.loop (.seq (.seq (.reg false [⟨(some 18),.op (.mov (.t 7)),none⟩,
    ⟨(some 19),.op (.mov (.t 0)),none⟩,
    ⟨(some 20),.op (.len true (.t 19)),none⟩,
    ⟨(some 21),.op (.bin .lss (.t 18) (.t 20)),none⟩])
  (.cond (.t 21) (.skip) (.exit 0)))
  (.seq (.blk 1 (.seq (.seq (.reg false [⟨(some 24),.op (.mov (.t 0)),none⟩,
    ⟨(some 25),.op (.mov (.t 7)),none⟩,
    ⟨(some 26),.op (.idxS (.t 24) (.t 25)),none⟩,
    ⟨(some 27),.op (.bin .lss (.t 26) (.c (.i .u8 48))),none⟩,
    ⟨(some 28),.op (.mov (.t 27)),none⟩,
    ⟨(some 29),.op (.mov (.t 0)),(some (28,false))⟩,
    ⟨(some 30),.op (.mov (.t 7)),(some (28,false))⟩,
    ⟨(some 31),.op (.idxS (.t 29) (.t 30)),(some (28,false))⟩,
    ⟨(some 32),.op (.bin .gtr (.t 31) (.c (.i .u8 57))),(some (28,false))⟩,
    ⟨(some 33),.op (.pick (.t 28) (.c (.b true)) (.t 32)),none⟩,
    ⟨(some 34),.op (.mov (.t 33)),none⟩,
    ⟨(some 35),.op (.mov (.t 7)),(some (34,false))⟩,
    ⟨(some 36),.op (.bin .gtr (.t 35) (.c (.i .i64 3))),(some (34,false))⟩,
    ⟨(some 37),.op (.pick (.t 34) (.c (.b true)) (.t 36)),none⟩])
  (.cond (.t 37) (.seq (.reg false [⟨(some 2),.op (.mov (.c (.i .u32 0))),none⟩,
    ⟨(some 3),.op (.mov (.c (.i .i64 160))),none⟩])
  (.ret)) (.skip)))
  (.reg false [⟨(some 38),.op (.mov (.t 6)),none⟩,
    ⟨(some 39),.op (.bin .mul (.c (.i .i64 10)) (.t 38)),none⟩,
    ⟨(some 40),.op (.mov (.t 0)),none⟩,
    ⟨(some 41),.op (.mov (.t 7)),none⟩,
    ⟨(some 42),.op (.idxS (.t 40) (.t 41)),none⟩,
    ⟨(some 43),.op (.bin .sub (.t 42) (.c (.i .u8 48))),none⟩,
    ⟨(some 44),.op (.cvInt .i64 (.t 43)),none⟩,
    ⟨(some 45),.op (.bin .add (.t 39) (.t 44)),none⟩,
    ⟨(some 6),.op (.mov (.t 45)),none⟩])))
  (.reg false [⟨(some 22),.op (.mov (.t 7)),none⟩,
    ⟨(some 23),.op (.bin .add (.t 22) (.c (.i .i64 1))),none⟩,
    ⟨(some 7),.op (.mov (.t 23)),none⟩]))))))
  (.seq (.seq (.reg false [⟨(some 46),.op (.mov (.t 0)),none⟩,
    ⟨(some 47),.op (.bin .eql (.t 46) (.c (.s []))),none⟩,
    ⟨(some 48),.op (.mov (.t 47)),none⟩,
    ⟨(some 49),.op (.mov (.t 6)),(some (48,false))⟩,
    ⟨(some 50),.op (.bin .gtr (.t 49) (.c (.i .i64 4095))),(some (48,false))⟩,
    ⟨(some 51),.op (.pick (.t 48) (.c (.b true)) (.t 50)),none⟩])
  (.cond (.t 51) (.seq (.reg false [⟨(some 2),.op (.mov (.c (.i .u32 0))),none⟩,
    ⟨(some 3),.op (.mov (.c (.i .i64 160))),none⟩])
  (.ret)) (.skip)))
  (.seq (.reg false [⟨(some 52),.op (.mov (.t 6)),none⟩,
    ⟨(some 53),.op (.cvInt .u32 (.t 52)),none⟩,
    ⟨(some 2),.op (.mov (.t 53)),none⟩,
    ⟨(some 3),.op (.mov (.c (.i .i64 0))),none⟩])
  (.ret)))))))⟩
def wt:List UInt8 → Nat → Option Nat
  | [],n=>some n
  | c :: l,n=>if c.toNat < 48 ∨ 57 < c.toNat then none else wt l (10 * n + (c.toNat - 48))
def qD (s:List UInt8):Int × Int :=
  if (wW s 160 qU).2 = 0 then ((wW s 160 qU).1,0)
  else if 4 < s.length then (0,160) else if s = [] then (0,160) else match wt s 0 with | none=>(0,160) | some n=>if 4095 < n then (0,160) else ((n:Int),0)
theorem qbO (s:List UInt8) (no:Int):∀ l:List (List UInt8 × Int),(∀ p ∈ l,0 ≤ p.2 ∧ p.2 ≤ 110) → 0 ≤ (wW s no l).1 ∧ (wW s no l).1 ≤ 110
  | [],_=>by simp [wW]
  | p :: l,h=>by
    simp only [wW]
    split
    · exact h p (by simp)
    · exact qbO s no l fun q hq=>h q (by simp [hq])
theorem qm6 (s:List UInt8):0 ≤ (wW s 160 qU).1 ∧ (wW s 160 qU).1 ≤ 110:=qbO s 160 qU (by decide)
theorem qbi {s:List UInt8} (he:¬ (wW s 160 qU).2 = 0) (h:4 < s.length):qD s = (0,160):=by
  unfold qD; rw [if_neg he,if_pos h]
theorem qao {s:List UInt8} (he:¬ (wW s 160 qU).2 = 0) (h:wt s 0 = none):qD s = (0,160):=by
  unfold qD; rw [if_neg he,h]; dsimp only
  repeat' split
  all_goals rfl
theorem qcP {s:List UInt8} {n:Nat} (he:¬ (wW s 160 qU).2 = 0) (hl:¬ 4 < s.length) (h:wt s 0 = some n):qD s = if s = [] then (0,160) else if 4095 < n then (0,160) else ((n:Int),0):=by
  unfold qD; rw [if_neg he,if_neg hl,h]
theorem qmw {g1 g2:Nat} (hc:qh P f (jU g1 g2) = true) (h1:qg P g1 [] (.fz 15 (qU.flatMap (kV .u64)))) (h2:qgJ P g2 .u64) (s:List UInt8) (hs:s.length ≤ 1000000):qg P f [.s s] (.tup [.i .u32 (qD s).1,.i .i64 (qD s).2]):=by
  refine qg.mk hc rfl ?_
  simp only [jU,qm,H0,mkT,mkH,trL,vI,simprocAttr]
  simp only [↓vS,vT,shb,shv,qb,qc,cellsOf,wr,qa,simprocAttr]
  refine h1.sc ?_
  simp only [↓vS,vT,shb,shv,qb,qc,cellsOf,wr,qa,simprocAttr]
  refine (h2 qU s 160 (by decide)).sc ?_
  rw [qej]
  simp only [↓vS,vT,shb,shv,qb,qc,cellsOf,wr,qa,simprocAttr]
  by_cases he:(wW s 160 qU).2 = 0
  · simp only [↓vS,vT,shb,shv,qb,qc,cellsOf,wr,qa,simprocAttr,he]
    have:=qm6 s
    simp [vZ,qD,he,vo this.1 (by omega)]
  simp only [↓vS,vT,shb,shv,qb,qc,cellsOf,wr,qa,simprocAttr,he]
  refine SL.loop (α:=Nat × Nat) (fun q=>[(0,.s s),(2,.i .u32 0),(3,.i .i64 0),(6,.i .i64 q.2),(7,.i .i64 q.1)]) (fun _=>[]) (fun q=>q.1 ≤ 4 ∧ q.2 < 10 ^ q.1 ∧ wt s 0 = wt (s.drop q.1) q.2) (fun q=>s.length - q.1) (0,0) [] ?_ ?_ ?_ rfl ?_ ?_
  · simp [vw]
  · trivial
  · simp
  · exact ⟨by decide,by decide,rfl⟩
  rintro ⟨j,nn⟩ ⟨hj,hn,hI⟩ G ih
  dsimp only at hj hn hI ih ⊢
  simp only [qm,H0,mkT,mkH,trL,vI,simprocAttr]
  by_cases hlt:j < s.length
  · have hx:s[j]? = some s[j]:=List.getElem?_eq_getElem hlt
    have hpow:10 ^ j ≤ 10 ^ 4:=Nat.pow_le_pow_right (by decide) hj
    rw [List.drop_eq_getElem_cons hlt,wt] at hI
    generalize hc:s[j] = c at hI hx
    have hcl:=UInt8.toNat_lt c
    by_cases h1:(c.toNat:Int) < 48
    · rw [if_pos (.inl (by omega))] at hI
      have hw:=qao he hI
      simp only [↓vS,vT,shb,shv,qb,qc,cellsOf,wr,qa,simprocAttr,hlt,hx,kU,h1]
      simp [vZ,hw]
    by_cases h2:(57:Int) < c.toNat
    · rw [if_pos (.inr (by omega))] at hI
      have hw:=qao he hI
      simp only [↓vS,vT,shb,shv,qb,qc,cellsOf,wr,qa,simprocAttr,hlt,hx,kU,h1,h2]
      simp [vZ,hw]
    by_cases h3:(3:Int) < j
    · have hw:=qbi he (s:=s) (by omega)
      simp only [↓vS,vT,shb,shv,qb,qc,cellsOf,wr,qa,simprocAttr,hlt,hx,kU,h1,h2,h3]
      simp [vZ,hw]
    rw [if_neg (by omega)] at hI
    have e1:IntKind.wrap .u8 ((c.toNat:Int) - 48) = ((c.toNat - 48:Nat):Int):=by rw [qip (by omega) (by omega)]; omega
    have e2:IntKind.wrap .i64 ((c.toNat - 48:Nat):Int) = ((c.toNat - 48:Nat):Int):=qE (by omega) (by omega)
    have e3:IntKind.wrap .i64 (10 * (nn:Int)) = ((10 * nn:Nat):Int):=by rw [qE (by omega) (by omega)]; omega
    have e4:IntKind.wrap .i64 (((10 * nn:Nat):Int) + ((c.toNat - 48:Nat):Int)) = ((10 * nn + (c.toNat - 48):Nat):Int):=by rw [qE (by omega) (by omega)]; omega
    have e5:IntKind.wrap .i64 ((j:Int) + 1) = ((j + 1:Nat):Int):=by rw [qE (by omega) (by omega)]; omega
    simp only [↓vS,vT,shb,shv,qb,qc,cellsOf,wr,qa,simprocAttr,hlt,hx,kU,h1,h2,h3,e1,e2,e3,e4,e5]
    refine ih (j + 1,10 * nn + (c.toNat - 48)) ⟨by dsimp only; omega,?_,hI⟩ (by dsimp only; omega) _ _ (Wk.mk _ _ [] ?_ ?_ ?_ rfl)
    · dsimp only; rw [Nat.pow_succ]; omega
    · simp [vw]
    · trivial
    · simp
  · rw [List.drop_eq_nil_of_le (by omega),wt] at hI
    have hpow:10 ^ j ≤ 10 ^ 4:=Nat.pow_le_pow_right (by decide) hj
    have hw:=qcP he (by omega) hI
    by_cases h1:s = []
    · rw [if_pos h1] at hw
      have h1':(s = []) = True:=eq_true h1
      simp only [↓vS,vT,shb,shv,qb,qc,cellsOf,wr,qa,simprocAttr,hlt,h1']
      simp [vZ,hw]
    rw [if_neg h1] at hw
    by_cases h2:(4095:Int) < nn
    · rw [if_pos (by omega)] at hw
      simp only [↓vS,vT,shb,shv,qb,qc,cellsOf,wr,qa,simprocAttr,hlt,h1,h2]
      simp [vZ,hw]
    · rw [if_neg (by omega)] at hw
      simp only [↓vS,vT,shb,shv,qb,qc,cellsOf,wr,qa,simprocAttr,hlt,h1,h2,vo (x:=(nn:Int)) (by omega) (by omega)]
      simp [vZ,hw]
def ka (f_filter_list_1:Nat):IFn:=⟨[.tmp 4],
  .seq (.reg false [⟨(some 2),.op (.box (.t 0)),none⟩,
    ⟨(some 3),.op (.box (.t 1)),none⟩,
    ⟨(some 4),.op (.mov (.c (.nilf))),none⟩])
  (.seq (.reg false [⟨(some 5),.op (.mkF f_filter_list_1 [] [(.t 2),(.t 3)]),none⟩,
    ⟨(some 4),.op (.mov (.t 5)),none⟩])
  (.ret))⟩
theorem qig {g1:Nat} (hc:qh P f (ka g1) = true) (g:Nat) (b:Bool):qg P f [.fn g [] [],.b b] (.fn g1 [] [.pf [.fn g [] []] 0,.pf [.b b] 0]):=by
  refine qg.mk hc (by simp [qC,clo]) ?_
  simp only [ka,qm,H0,mkT,mkH,trL,vI,simprocAttr]
  simp only [↓vS,vT,shb,shv,qb,qc,cellsOf,wr,qa,simprocAttr]
  simp [vZ,vP,Tr.get_set]
def v6 (f_names_errnos f_names_find_uint32:Nat):IFn:=⟨[.tmp 2,.tmp 3],
  .seq (.reg false [⟨(some 2),.op (.mov (.c (.i .u32 0))),none⟩,
    ⟨(some 3),.op (.mov (.c (.i .i64 0))),none⟩])
  (.seq (.reg false [⟨(some 10),.callF f_names_errnos [],none⟩,
    ⟨(some 4),.op (.alloc [.s [],.i .u32 0,.s [],.i .u32 0,.s [],.i .u32 0,.s [],.i .u32 0,.s [],.i .u32 0,.s [],.i .u32 0,.s [],.i .u32 0,.s [],.i .u32 0,.s [],.i .u32 0,.s [],.i .u32 0,.s [],.i .u32 0,.s [],.i .u32 0,.s [],.i .u32 0,.s [],.i .u32 0,.s [],.i .u32 0]),none⟩,
    ⟨none,.op (.store 30 (.t 4) (.t 10)),none⟩])
  (.seq (.seq (.reg false [⟨(some 12),.op (.slcA 15 2 (.t 4) none none none),none⟩,
    ⟨(some 13),.op (.mov (.t 0)),none⟩,
    ⟨(some 14),.callF f_names_find_uint32 [(.t 12),(.t 13),(.c (.i .i64 160))],none⟩,
    ⟨(some 11),.op (.mov (.t 14)),none⟩,
    ⟨(some 15),.op (.ext (.t 11) 0),none⟩,
    ⟨(some 16),.op (.ext (.t 11) 1),none⟩,
    ⟨(some 5),.op (.mov (.t 15)),none⟩,
    ⟨(some 6),.op (.mov (.t 16)),none⟩])
  (.seq (.reg false [⟨(some 17),.op (.mov (.t 6)),none⟩,
    ⟨(some 18),.op (.bin .eql (.t 17) (.c (.i .i64 0))),none⟩])
  (.cond (.t 18) (.seq (.reg false [⟨(some 19),.op (.mov (.t 5)),none⟩,
    ⟨(some 2),.op (.mov (.t 19)),none⟩,
    ⟨(some 3),.op (.mov (.c (.i .i64 0))),none⟩])
  (.ret)) (.skip))))
  (.seq (.reg false [⟨(some 7),.op (.mov (.c (.i .i64 0))),none⟩])
  (.seq (.seq (.reg false [⟨(some 20),.op (.mov (.t 0)),none⟩,
    ⟨(some 21),.op (.s2b (.t 20)),none⟩,
    ⟨(some 22),.op (.len false (.t 21)),none⟩,
    ⟨(some 23),.op (.mov (.c (.i .i64 0))),none⟩])
  (.blk 0 (.loop (.seq (.reg false [⟨(some 24),.op (.bin .lss (.t 23) (.t 22)),none⟩])
  (.seq (.cond (.t 24) (.skip) (.exit 0))
  (.seq (.blk 1 (.seq (.reg false [⟨(some 25),.op (.iAddrS 1 (.t 21) (.t 23)),none⟩,
    ⟨(some 26),.op (.load1 (.t 25)),none⟩,
    ⟨(some 9),.op (.mov (.t 26)),none⟩])
  (.seq (.seq (.reg false [⟨(some 27),.op (.mov (.t 9)),none⟩,
    ⟨(some 28),.op (.bin .lss (.t 27) (.c (.i .u8 48))),none⟩,
    ⟨(some 29),.op (.mov (.t 28)),none⟩,
    ⟨(some 30),.op (.mov (.t 9)),(some (29,false))⟩,
    ⟨(some 31),.op (.bin .gtr (.t 30) (.c (.i .u8 57))),(some (29,false))⟩,
    ⟨(some 32),.op (.pick (.t 29) (.c (.b true)) (.t 31)),none⟩])
  (.cond (.t 32) (.seq (.reg false [⟨(some 2),.op (.mov (.c (.i .u32 0))),none⟩,
    ⟨(some 3),.op (.mov (.c (.i .i64 160))),none⟩])
  (.ret)) (.skip)))
  (.reg false [⟨(some 33),.op (.mov (.t 7)),none⟩,
    ⟨(some 34),.op (.bin .mul (.c (.i .i64 10)) (.t 33)),none⟩,
    ⟨(some 35),.op (.mov (.t 9)),none⟩,
    ⟨(some 36),.op (.bin .sub (.t 35) (.c (.i .u8 48))),none⟩,
    ⟨(some 37),.op (.cvInt .i64 (.t 36)),none⟩,
    ⟨(some 38),.op (.bin .add (.t 34) (.t 37)),none⟩,
    ⟨(some 39),.op (.min (.t 38) (.c (.i .i64 1048576))),none⟩,
    ⟨(some 7),.op (.mov (.t 39)),none⟩]))))
  (.reg false [⟨(some 40),.op (.bin .add (.t 23) (.c (.i .i64 1))),none⟩,
    ⟨(some 23),.op (.mov (.t 40)),none⟩])))))))
  (.seq (.seq (.reg false [⟨(some 41),.op (.mov (.t 0)),none⟩,
    ⟨(some 42),.op (.len true (.t 41)),none⟩,
    ⟨(some 43),.op (.bin .lss (.t 42) (.c (.i .i64 1))),none⟩,
    ⟨(some 44),.op (.mov (.t 43)),none⟩,
    ⟨(some 45),.op (.mov (.t 0)),(some (44,false))⟩,
    ⟨(some 46),.op (.len true (.t 45)),(some (44,false))⟩,
    ⟨(some 47),.op (.bin .gtr (.t 46) (.c (.i .i64 4))),(some (44,false))⟩,
    ⟨(some 48),.op (.pick (.t 44) (.c (.b true)) (.t 47)),none⟩,
    ⟨(some 49),.op (.mov (.t 48)),none⟩,
    ⟨(some 50),.op (.mov (.t 7)),(some (49,false))⟩,
    ⟨(some 51),.op (.bin .gtr (.t 50) (.c (.i .i64 4095))),(some (49,false))⟩,
    ⟨(some 52),.op (.pick (.t 49) (.c (.b true)) (.t 51)),none⟩])
  (.cond (.t 52) (.seq (.reg false [⟨(some 2),.op (.mov (.c (.i .u32 0))),none⟩,
    ⟨(some 3),.op (.mov (.c (.i .i64 160))),none⟩])
  (.ret)) (.skip)))
  (.seq (.reg false [⟨(some 53),.op (.mov (.t 7)),none⟩,
    ⟨(some 54),.op (.cvInt .u32 (.t 53)),none⟩,
    ⟨(some 2),.op (.mov (.t 54)),none⟩,
    ⟨(some 3),.op (.mov (.c (.i .i64 0))),none⟩])
  (.ret)))))))⟩
set_option maxRecDepth 8000 in
theorem qnK {g1 g2:Nat} (hc:qh P f (v6 g1 g2) = true) (h1:qg P g1 [] (.agg (qU.flatMap (kV .u32)))) (h2:qgJ P g2 .u32) (s:List UInt8) (hs:s.length ≤ 1000000):qg P f [.s s] (.tup [.i .u32 (qD s).1,.i .i64 (qD s).2]):=by
  refine qg.mk hc rfl ?_
  simp only [v6,qm,H0,mkT,mkH,trL,vI,simprocAttr]
  simp only [↓vS,vT,shb,shv,qb,qc,cellsOf,wr,qa,simprocAttr]
  refine h1.sc ?_
  simp only [↓vS,vT,shb,shv,qb,qc,cellsOf,wr,qa,simprocAttr,qU,kV,List.flatMap_cons,List.flatMap_nil]
  refine (h2 qU s 160 (by decide)).lend (vs':=[.fz 15 (qU.flatMap (kV .u32)),.s s,.i .i64 160]) ?_ (qcZ _) ?_
  · refine .cons _ _ _ _ (.cut 2 rfl (Nat.le_refl _) ?_) (.cons _ _ _ _ (.s _) (.cons _ _ _ _ (.i _ _) .nil))
    simp [vw,qU,kV]
  rw [qej]
  by_cases he:(wW s 160 qU).2 = 0
  · simp only [↓vS,vT,shb,shv,qb,qc,cellsOf,wr,qa,simprocAttr,he]
    simp [vZ,qD,he]
  have bcl:qC (List.map (fun c:UInt8=>AV.i .u8 (c.toNat:Int)) s) = true:=Qe fun _=>rfl
  simp only [↓vS,vT,shb,shv,qb,qc,cellsOf,wr,qa,simprocAttr,he]
  refine SL.loop (α:=Nat × Nat) (fun q=>[(0,.s s),(2,.i .u32 0),(3,.i .i64 0),(7,.i .i64 q.2),(21,.own 0 s.length),(22,.i .i64 s.length),(23,.i .i64 q.1)]) (fun _=>[.cells 1 true true (s.map fun c=>.i .u8 (Int.ofNat c.toNat))]) (fun q=>q.1 ≤ s.length ∧ q.2 ≤ 1048576 ∧ (q.1 ≤ 4 → q.2 < 10 ^ q.1 ∧ wt s 0 = wt (s.drop q.1) q.2)) (fun q=>s.length - q.1) (0,0) [1] ?_ ?_ ?_ rfl ?_ ?_
  · simp [vw]
  · simp [vw,qe,bcl]
  · simp
  · exact ⟨Nat.zero_le _,by decide,fun _=>⟨by decide,rfl⟩⟩
  rintro ⟨j,nn⟩ ⟨hj,hm,hI⟩ G ih
  dsimp only at hj hm hI ih ⊢
  simp only [qm,H0,mkT,mkH,trL,vI,simprocAttr]
  by_cases hlt:j < s.length
  · have hx:s[j]? = some s[j]:=List.getElem?_eq_getElem hlt
    have hI2:j ≤ 4 → nn < 10 ^ j ∧ wt s 0 = if s[j].toNat < 48 ∨ 57 < s[j].toNat then none else wt (s.drop (j + 1)) (10 * nn + (s[j].toNat - 48)):=fun h=>by
      have:=hI h
      rwa [List.drop_eq_getElem_cons hlt,wt] at this
    clear hI
    generalize hc:s[j] = c at hI2 hx
    have hcl:=UInt8.toNat_lt c
    have hbad:(c.toNat < 48 ∨ 57 < c.toNat) → qD s = (0,160):=fun h=>by
      by_cases hl:4 < s.length
      · exact qbi he hl
      · have:=(hI2 (by omega)).2
        rw [if_pos h] at this
        exact qao he this
    by_cases h1:(c.toNat:Int) < 48
    · have hw:=hbad (.inl (by omega))
      simp only [↓vS,vT,shb,shv,qb,qc,cellsOf,wr,qa,simprocAttr,hlt,hx,List.getElem?_map,Option.map_some,Nat.mul_one,Int.ofNat_eq_natCast,h1]
      simp [vZ,hw]
    by_cases h2:(57:Int) < c.toNat
    · have hw:=hbad (.inr (by omega))
      simp only [↓vS,vT,shb,shv,qb,qc,cellsOf,wr,qa,simprocAttr,hlt,hx,List.getElem?_map,Option.map_some,Nat.mul_one,Int.ofNat_eq_natCast,h1,h2]
      simp [vZ,hw]
    have e1:IntKind.wrap .u8 ((c.toNat:Int) - 48) = ((c.toNat - 48:Nat):Int):=by rw [qip (by omega) (by omega)]; omega
    have e2:IntKind.wrap .i64 ((c.toNat - 48:Nat):Int) = ((c.toNat - 48:Nat):Int):=qE (by omega) (by omega)
    have e3:IntKind.wrap .i64 (10 * (nn:Int)) = ((10 * nn:Nat):Int):=by rw [qE (by omega) (by omega)]; omega
    have e4:IntKind.wrap .i64 (((10 * nn:Nat):Int) + ((c.toNat - 48:Nat):Int)) = ((10 * nn + (c.toNat - 48):Nat):Int):=by rw [qE (by omega) (by omega)]; omega
    have e5:IntKind.wrap .i64 ((j:Int) + 1) = ((j + 1:Nat):Int):=by rw [qE (by omega) (by omega)]; omega
    simp only [↓vS,vT,shb,shv,qb,qc,cellsOf,wr,qa,simprocAttr,hlt,hx,List.getElem?_map,Option.map_some,Nat.mul_one,Int.ofNat_eq_natCast,h1,h2,e1,e2,e3,e4,e5]
    have e6:(if (1048576:Int) < ((10 * nn + (c.toNat - 48):Nat):Int) then (1048576:Int) else ((10 * nn + (c.toNat - 48):Nat):Int)) = ((min (10 * nn + (c.toNat - 48)) 1048576:Nat):Int):=by
      split <;> omega
    rw [e6]
    refine ih (j + 1,min (10 * nn + (c.toNat - 48)) 1048576) ⟨by dsimp only; omega,by dsimp only; omega,fun h=>?_⟩ (by dsimp only; omega) _ _ (Wk.mk _ _ [0] ?_ ?_ ?_ rfl)
    · dsimp only at h ⊢
      obtain ⟨q1,q2⟩:=hI2 (by omega)
      rw [if_neg (by omega)] at q2
      have hpow:10 ^ (j + 1) ≤ 10 ^ 4:=Nat.pow_le_pow_right (by decide) h
      have q3:10 * nn + (c.toNat - 48) < 10 ^ (j + 1):=by rw [Nat.pow_succ]; omega
      have q4:min (10 * nn + (c.toNat - 48)) 1048576 = 10 * nn + (c.toNat - 48):=by omega
      rw [q4]
      exact ⟨q3,q2⟩
    · simp [vw]
    · simp [vw,qe,bcl]
    · simp
  · have ej:j = s.length:=by omega
    subst ej
    by_cases h1:(s.length:Int) < 1
    · have h0:s = []:=List.eq_nil_of_length_eq_zero (by omega)
      simp only [↓vS,vT,shb,shv,qb,qc,cellsOf,wr,qa,simprocAttr,h1]
      have hw2:qD s = (0,160):=by
        unfold qD; rw [if_neg he,if_neg (by omega),if_pos h0]
      simp [vZ,hw2]
    by_cases h2:(4:Int) < s.length
    · have hw:=qbi he (s:=s) (by omega)
      simp only [↓vS,vT,shb,shv,qb,qc,cellsOf,wr,qa,simprocAttr,h1,h2]
      simp [vZ,hw]
    obtain ⟨q1,q2⟩:=hI (by omega)
    rw [List.drop_length,wt] at q2
    have hw:=qcP he (by omega) q2
    rw [if_neg (by intro hh; rw [hh] at h1; simp at h1)] at hw
    by_cases h3:(4095:Int) < nn
    · rw [if_pos (by omega)] at hw
      simp only [↓vS,vT,shb,shv,qb,qc,cellsOf,wr,qa,simprocAttr,h1,h2,h3]
      simp [vZ,hw]
    · rw [if_neg (by omega)] at hw
      simp only [↓vS,vT,shb,shv,qb,qc,cellsOf,wr,qa,simprocAttr,h1,h2,h3,vo (x:=(nn:Int)) (by omega) (by omega)]
      simp [vZ,hw]
end Go.Kc
end
section
/- The law FilterKeys: the program's way. Condition: the functions' texts are these. -/
namespace Go.Kc
variable {P:Program} {f:Nat}
theorem or5:∀ a b:Fin 64,orI .u32 327680 ((64 * a.val + b.val:Nat):Int) = 327680 + ((64 * a.val + b.val:Nat):Int):=by decide +kernel
theorem vx (s:List UInt8):0 ≤ (qD s).1 ∧ (qD s).1 ≤ 4095 ∧ ((qD s).2 = 0 ∨ (qD s).2 = 160):=by
  have:=qm6 s
  unfold qD
  repeat' split
  all_goals simp
  all_goals omega
def kX:List UInt8:=[107,105,108,108]
noncomputable def jG (s:List UInt8):Int × Int:=if s = [] ∨ s = kX then (2147483648,0) else if (qD s).2 = 0 then (327680 + (qD s).1,0) else (0,160)
theorem qcW (s:List UInt8):orI .u32 327680 (qD s).1 = 327680 + (qD s).1:=by
  obtain ⟨h0,h1,_⟩:=vx s
  have:=or5 ⟨(qD s).1.toNat / 64,by omega⟩ ⟨(qD s).1.toNat % 64,by omega⟩
  have e:((64 * ((qD s).1.toNat / 64) + (qD s).1.toNat % 64:Nat):Int) = (qD s).1:=by omega
  simpa only [e] using this
def qbK (P:Program) (f:Nat):Prop:=∀ s:List UInt8,s.length ≤ 1000000 → qg P f [.s s] (.tup [.i .u32 (jG s).1,.i .i64 (jG s).2])
def w8 (f_names_Errno:Nat):IFn:=⟨[.tmp 2,.tmp 3],
  .seq (.reg false [⟨(some 2),.op (.mov (.c (.i .u32 0))),none⟩,
    ⟨(some 3),.op (.mov (.c (.i .i64 0))),none⟩])
  (.seq (.seq (.reg false [⟨(some 5),.op (.mov (.t 0)),none⟩,
    ⟨(some 6),.op (.bin .eql (.t 5) (.c (.s []))),none⟩,
    ⟨(some 7),.op (.mov (.t 6)),none⟩,
    ⟨(some 8),.op (.mov (.t 0)),(some (7,false))⟩,
    ⟨(some 9),.op (.bin .eql (.t 8) (.c (.s [107,105,108,108]))),(some (7,false))⟩,
    ⟨(some 10),.op (.pick (.t 7) (.c (.b true)) (.t 9)),none⟩])
  (.cond (.t 10) (.seq (.reg false [⟨(some 2),.op (.mov (.c (.i .u32 2147483648))),none⟩,
    ⟨(some 3),.op (.mov (.c (.i .i64 0))),none⟩])
  (.ret)) (.skip)))
  (.seq (.reg false [⟨(some 12),.op (.mov (.t 0)),none⟩,
    ⟨(some 13),.callF f_names_Errno [(.t 12)],none⟩,
    ⟨(some 11),.op (.mov (.t 13)),none⟩,
    ⟨(some 14),.op (.ext (.t 11) 0),none⟩,
    ⟨(some 15),.op (.ext (.t 11) 1),none⟩,
    ⟨(some 4),.op (.mov (.t 14)),none⟩,
    ⟨(some 3),.op (.mov (.t 15)),none⟩])
  (.seq (.seq (.reg false [⟨(some 16),.op (.mov (.t 3)),none⟩,
    ⟨(some 17),.op (.bin .neq (.t 16) (.c (.i .i64 0))),none⟩])
  (.cond (.t 17) (.seq (.reg false [⟨(some 18),.op (.mov (.t 3)),none⟩,
    ⟨(some 2),.op (.mov (.c (.i .u32 0))),none⟩,
    ⟨(some 3),.op (.mov (.t 18)),none⟩])
  (.ret)) (.skip)))
  (.seq (.reg false [⟨(some 19),.op (.mov (.t 4)),none⟩,
    ⟨(some 20),.op (.bin .or (.c (.i .u32 327680)) (.t 19)),none⟩,
    ⟨(some 2),.op (.mov (.t 20)),none⟩,
    ⟨(some 3),.op (.mov (.c (.i .i64 0))),none⟩])
  (.ret)))))⟩
theorem qfd {g:Nat} (hc:qh P f (w8 g) = true) (hg:∀ s:List UInt8,s.length ≤ 1000000 → qg P g [.s s] (.tup [.i .u32 (qD s).1,.i .i64 (qD s).2])):qbK P f:=by
  intro s hs
  obtain ⟨h0,h1,h2⟩:=vx s
  refine qg.mk hc (by simp [qC,clo]) ?_
  simp only [w8,qm,H0,mkT,mkH,trL,vI,simprocAttr]
  by_cases e1:s = []
  · have hw:jG s = (2147483648,0):=if_pos (.inl e1)
    have e1':(s = []) = True:=eq_true e1
    simp only [↓vS,vT,shb,shv,qb,qc,cellsOf,wr,qa,simprocAttr,e1']
    simp [vZ,hw]
  by_cases e2:s = kX
  · have hw:jG s = (2147483648,0):=if_pos (.inr e2)
    simp only [kX] at e2
    have e2':(s = [107,105,108,108]) = True:=eq_true e2
    simp only [↓vS,vT,shb,shv,qb,qc,cellsOf,wr,qa,simprocAttr,e1,e2']
    simp [vZ,hw]
  have hne:¬ (s = [] ∨ s = kX):=by intro h; rcases h with h | h; exact e1 h; exact e2 h
  have e2':¬ s = [107,105,108,108]:=e2
  simp only [↓vS,vT,shb,shv,qb,qc,cellsOf,wr,qa,simprocAttr,e1,e2']
  refine (hg s hs).sc ?_
  rcases h2 with h2 | h2
  · have hw:jG s = (327680 + (qD s).1,0):=by unfold jG; rw [if_neg hne,if_pos h2]
    have hwr:=vo (x:=327680 + (qD s).1) (by omega) (by omega)
    simp only [↓vS,vT,shb,shv,qb,qc,cellsOf,wr,qa,simprocAttr,h2,qcW,hwr]
    simp [vZ,hw]
  · have hw:jG s = (0,160):=by unfold jG; rw [if_neg hne,if_neg (by omega)]
    simp only [↓vS,vT,shb,shv,qb,qc,cellsOf,wr,qa,simprocAttr,h2]
    simp [vZ,hw]
def jY (f_vestibuleref10_Errno:Nat):IFn:=⟨[.tmp 2,.tmp 3],
  .seq (.reg false [⟨(some 2),.op (.mov (.c (.i .u32 0))),none⟩,
    ⟨(some 3),.op (.mov (.c (.i .i64 0))),none⟩])
  (.seq (.seq (.reg false [⟨(some 6),.op (.mov (.t 0)),none⟩,
    ⟨(some 7),.op (.bin .eql (.t 6) (.c (.s []))),none⟩,
    ⟨(some 8),.op (.mov (.t 7)),none⟩,
    ⟨(some 9),.op (.mov (.t 0)),(some (8,false))⟩,
    ⟨(some 10),.op (.bin .eql (.t 9) (.c (.s [107,105,108,108]))),(some (8,false))⟩,
    ⟨(some 11),.op (.pick (.t 8) (.c (.b true)) (.t 10)),none⟩])
  (.cond (.t 11) (.seq (.reg false [⟨(some 2),.op (.mov (.c (.i .u32 2147483648))),none⟩,
    ⟨(some 3),.op (.mov (.c (.i .i64 0))),none⟩])
  (.ret)) (.skip)))
  (.seq (.reg false [⟨(some 13),.op (.mov (.t 0)),none⟩,
    ⟨(some 14),.callF f_vestibuleref10_Errno [(.t 13)],none⟩,
    ⟨(some 12),.op (.mov (.t 14)),none⟩,
    ⟨(some 15),.op (.ext (.t 12) 0),none⟩,
    ⟨(some 16),.op (.ext (.t 12) 1),none⟩,
    ⟨(some 4),.op (.mov (.t 15)),none⟩,
    ⟨(some 5),.op (.mov (.t 16)),none⟩])
  (.seq (.seq (.reg false [⟨(some 17),.op (.mov (.t 5)),none⟩,
    ⟨(some 18),.op (.bin .neq (.t 17) (.c (.i .i64 0))),none⟩])
  (.cond (.t 18) (.seq (.reg false [⟨(some 2),.op (.mov (.c (.i .u32 0))),none⟩,
    ⟨(some 3),.op (.mov (.c (.i .i64 160))),none⟩])
  (.ret)) (.skip)))
  (.seq (.reg false [⟨(some 19),.op (.mov (.t 4)),none⟩,
    ⟨(some 20),.op (.bin .add (.c (.i .u32 327680)) (.t 19)),none⟩,
    ⟨(some 2),.op (.mov (.t 20)),none⟩,
    ⟨(some 3),.op (.mov (.c (.i .i64 0))),none⟩])
  (.ret)))))⟩
theorem qaa {g:Nat} (hc:qh P f (jY g) = true) (hg:∀ s:List UInt8,s.length ≤ 1000000 → qg P g [.s s] (.tup [.i .u32 (qD s).1,.i .i64 (qD s).2])):qbK P f:=by
  intro s hs
  obtain ⟨h0,h1,h2⟩:=vx s
  refine qg.mk hc (by simp [qC,clo]) ?_
  simp only [jY,qm,H0,mkT,mkH,trL,vI,simprocAttr]
  by_cases e1:s = []
  · have hw:jG s = (2147483648,0):=if_pos (.inl e1)
    have e1':(s = []) = True:=eq_true e1
    simp only [↓vS,vT,shb,shv,qb,qc,cellsOf,wr,qa,simprocAttr,e1']
    simp [vZ,hw]
  by_cases e2:s = kX
  · have hw:jG s = (2147483648,0):=if_pos (.inr e2)
    simp only [kX] at e2
    have e2':(s = [107,105,108,108]) = True:=eq_true e2
    simp only [↓vS,vT,shb,shv,qb,qc,cellsOf,wr,qa,simprocAttr,e1,e2']
    simp [vZ,hw]
  have hne:¬ (s = [] ∨ s = kX):=by intro h; rcases h with h | h; exact e1 h; exact e2 h
  have e2':¬ s = [107,105,108,108]:=e2
  simp only [↓vS,vT,shb,shv,qb,qc,cellsOf,wr,qa,simprocAttr,e1,e2']
  refine (hg s hs).sc ?_
  rcases h2 with h2 | h2
  · have hw:jG s = (327680 + (qD s).1,0):=by unfold jG; rw [if_neg hne,if_pos h2]
    have hwr:=vo (x:=327680 + (qD s).1) (by omega) (by omega)
    simp only [↓vS,vT,shb,shv,qb,qc,cellsOf,wr,qa,simprocAttr,h2,qcW,hwr]
    simp [vZ,hw]
  · have hw:jG s = (0,160):=by unfold jG; rw [if_neg hne,if_neg (by omega)]
    simp only [↓vS,vT,shb,shv,qb,qc,cellsOf,wr,qa,simprocAttr,h2]
    simp [vZ,hw]
def Qt:List UInt8:=[83,121,115,116,101,109,67,97,108,108,70,105,108,116,101,114]
def qhP:List UInt8:=[83,121,115,116,101,109,67,97,108,108,76,111,103]
def qfH:List UInt8:=[83,121,115,116,101,109,67,97,108,108,69,114,114,111,114,78,117,109,98,101,114]
def qeZ (l g1 g2 g3:Nat):List (AV × AV):=[(.s Qt,.fn l [] [.pf [.fn g1 [] []] 0,.pf [.b true] 0]),(.s qhP,.fn l [] [.pf [.fn g2 [] []] 0,.pf [.b false] 0]),(.s qfH,.fn g3 [] [])]
def kr (f_filter_list f_filter_keys_1 f_filter_keys_2 f_filter_keys_3:Nat):IFn:=⟨[.tmp 0],
  .seq (.reg false [⟨(some 0),.op (.mov (.c (.nilm))),none⟩])
  (.seq (.reg false [⟨(some 1),.op (.mkM),none⟩,
    ⟨(some 2),.callF f_filter_list [(.c (.fn f_filter_keys_1 [] [])),(.c (.b true))],none⟩,
    ⟨none,.op (.updM none (.t 1) (.c (.s [83,121,115,116,101,109,67,97,108,108,70,105,108,116,101,114])) (.t 2)),none⟩,
    ⟨(some 3),.callF f_filter_list [(.c (.fn f_filter_keys_2 [] [])),(.c (.b false))],none⟩,
    ⟨none,.op (.updM none (.t 1) (.c (.s [83,121,115,116,101,109,67,97,108,108,76,111,103])) (.t 3)),none⟩,
    ⟨none,.op (.updM none (.t 1) (.c (.s [83,121,115,116,101,109,67,97,108,108,69,114,114,111,114,78,117,109,98,101,114])) (.c (.fn f_filter_keys_3 [] []))),none⟩,
    ⟨(some 4),.op (.mov (.t 1)),none⟩,
    ⟨(some 0),.op (.mov (.t 4)),none⟩])
  (.ret))⟩
theorem qh2 {g0 g1 g2 g3 l:Nat} (hc:qh P f (kr g0 g1 g2 g3) = true) (h:∀ (g:Nat) (b:Bool),qg P g0 [.fn g [] [],.b b] (.fn l [] [.pf [.fn g [] []] 0,.pf [.b b] 0])):Own P f [] (.map 0) [.map (qeZ l g1 g2 g3)]:=by
  refine Own.mk hc rfl ?_
  simp only [kr,qm,H0,mkT,mkH,trL,vI,simprocAttr]
  simp (decide:=true) only [↓vS,vT,shb,shv,qb,qc,cellsOf,wr,qa,simprocAttr]
  refine (h g1 true).sc ?_
  simp (decide:=true) only [↓vS,vT,shb,shv,qb,qc,cellsOf,wr,qa,simprocAttr]
  refine (h g2 false).sc ?_
  simp (decide:=true) only [↓vS,vT,shb,shv,qb,qc,cellsOf,wr,qa,simprocAttr]
  intro _
  refine ⟨[0],?_⟩
  simp [vw,qeZ,Qt,qhP,qfH,clo,qC]
def qdh (f_filter_keys:Nat):IFn:=⟨[.tmp 2],
  .seq (.reg false [⟨(some 2),.op (.mov (.c (.b false))),none⟩])
  (.seq (.reg false [⟨(some 6),.callF f_filter_keys [],none⟩,
    ⟨(some 7),.op (.mov (.t 0)),none⟩,
    ⟨(some 8),.op (.lookM none true (.nilf) (.t 6) (.t 7)),none⟩,
    ⟨(some 5),.op (.mov (.t 8)),none⟩,
    ⟨(some 9),.op (.ext (.t 5) 0),none⟩,
    ⟨(some 10),.op (.ext (.t 5) 1),none⟩,
    ⟨(some 3),.op (.mov (.t 9)),none⟩,
    ⟨(some 4),.op (.mov (.t 10)),none⟩])
  (.seq (.reg false [⟨(some 11),.op (.mov (.t 4)),none⟩,
    ⟨(some 2),.op (.mov (.t 11)),none⟩])
  (.ret)))⟩
end Go.Kc
end
section
/- The small functions of fold: what they answer. Condition: the functions' texts are these. -/
namespace Go.Kc
variable {P:Program} {f:Nat}
def v7:IFn:=⟨[.tmp 2],
  .seq (.reg false [⟨(some 2),.op (.mov (.c (.b false))),none⟩])
  (.seq (.reg false [⟨(some 3),.op (.mov (.t 0)),none⟩,
    ⟨(some 4),.op (.bin .eql (.t 3) (.c (.i .u32 0))),none⟩,
    ⟨(some 5),.op (.mov (.t 4)),none⟩,
    ⟨(some 6),.op (.mov (.t 0)),(some (5,false))⟩,
    ⟨(some 7),.op (.bin .eql (.t 6) (.c (.i .u32 2147483648))),(some (5,false))⟩,
    ⟨(some 8),.op (.pick (.t 5) (.c (.b true)) (.t 7)),none⟩,
    ⟨(some 9),.op (.mov (.t 8)),none⟩,
    ⟨(some 10),.op (.mov (.t 0)),(some (9,false))⟩,
    ⟨(some 11),.op (.bin .geq (.t 10) (.c (.i .u32 327680))),(some (9,false))⟩,
    ⟨(some 12),.op (.mov (.t 11)),(some (9,false))⟩,
    ⟨(some 13),.op (.mov (.t 0)),(some (12,true))⟩,
    ⟨(some 14),.op (.bin .leq (.t 13) (.c (.i .u32 331775))),(some (12,true))⟩,
    ⟨(some 15),.op (.pick (.t 12) (.t 14) (.c (.b false))),(some (9,false))⟩,
    ⟨(some 16),.op (.pick (.t 9) (.c (.b true)) (.t 15)),none⟩,
    ⟨(some 2),.op (.mov (.t 16)),none⟩])
  (.ret))⟩
def wK (n:Int):Bool:=decide (n = 0) || decide (n = 2147483648) || (decide (327680 ≤ n) && decide (n ≤ 331775))
theorem qeN (hc:qh P f v7 = true) (n:Int):qg P f [.i .u32 n] (.b (wK n)):=by
  refine qg.mk hc rfl ?_
  simp only [v7,qm,H0,mkT,mkH,trL,vI,simprocAttr]
  by_cases h1:n = 0
  · simp only [↓vS,vT,shb,shv,qb,qc,cellsOf,wr,qa,simprocAttr,h1]
    simp [vZ,wK,h1]
  by_cases h2:n = 2147483648
  · simp only [↓vS,vT,shb,shv,qb,qc,cellsOf,wr,qa,simprocAttr,h1,h2]
    simp [vZ,wK,h2]
  by_cases h3:327680 ≤ n
  · by_cases h4:n ≤ 331775
    · simp only [↓vS,vT,shb,shv,qb,qc,cellsOf,wr,qa,simprocAttr,h1,h2,h3,h4]
      simp [vZ,wK,h3,h4]
    · simp only [↓vS,vT,shb,shv,qb,qc,cellsOf,wr,qa,simprocAttr,h1,h2,h3,h4]
      simp [vZ,wK,h1,h2,h4]
  · simp only [↓vS,vT,shb,shv,qb,qc,cellsOf,wr,qa,simprocAttr,h1,h2,h3]
    simp [vZ,wK,h1,h2,h3]
def wE (l:List GCall) (s:List UInt8):Option GCall:=l.find? (fun c=>decide (c.name = s))
def kl (f_slices_Clone_api_Call_api_Call:Nat):IFn:=⟨[.cell 2 2 true],
  .seq (.reg false [⟨(some 1),.op (.box (.t 0)),none⟩,
    ⟨(some 2),.op (.alloc [.i .u8 0,.nils]),none⟩])
  (.seq (.reg true [⟨(some 3),.op (.fAddr 0 (.t 1)),none⟩,
    ⟨(some 4),.op (.load1 (.t 3)),none⟩,
    ⟨(some 5),.op (.fAddr 1 (.t 1)),none⟩,
    ⟨(some 6),.op (.load1 (.t 5)),none⟩,
    ⟨(some 7),.callF f_slices_Clone_api_Call_api_Call [(.t 6)],none⟩,
    ⟨(some 8),.op (.build [.i .u8 0,.nils] [(0,1,(.t 4)),(1,1,(.t 7))]),none⟩,
    ⟨none,.op (.store 2 (.t 2) (.t 8)),none⟩])
  (.ret))⟩
theorem qmi {g:Nat} (hc:qh P f (kl g) = true) (hg:kJ P g 2 24) (l:GList) (hl:l.calls.length ≤ 100000):Own P f [.agg (qk l)] (.agg [.i .u8 l.mode,.own 0 l.calls.length]) [.cells 2 true true (rC l.calls)]:=by
  refine Own.mk hc rfl ?_
  simp only [kl,qk,qm,H0,mkT,mkH,trL,vI,simprocAttr]
  simp only [↓vS,vT,shb,shv,qb,qc,cellsOf,wr,qa,simprocAttr]
  refine zU ?_
  simp only [↓vS,vT,shb,shv,qb,qc,cellsOf,wr,qa,simprocAttr]
  refine (hg _ _ xL qd qdD (by simp only [qi]; omega) (by simp only [qi]; omega)).pc ?_
  simp only [vJ,shb,shv,qb,simprocAttr]
  simp only [↓vS,vT,shb,shv,qb,qc,cellsOf,wr,qa,simprocAttr]
  intro _
  refine ⟨[2],?_⟩
  simp [vw,qe,qd,qY qd]
def jM (f_internal_bytealg_CompareString:Nat):IFn:=⟨[.tmp 4],
  .seq (.reg false [⟨(some 4),.op (.mov (.c (.i .i64 0))),none⟩])
  (.seq (.reg false [⟨(some 5),.op (.mov (.t 0)),none⟩,
    ⟨(some 6),.op (.mov (.t 1)),none⟩,
    ⟨(some 7),.callF f_internal_bytealg_CompareString [(.t 5),(.t 6)],none⟩,
    ⟨(some 4),.op (.mov (.t 7)),none⟩])
  (.ret))⟩
theorem qdS {g:Nat} (hc:qh P f (jM g) = true) (hg:∀ a b:List UInt8,qg P g [.s a,.s b] (.i .i64 (zz a b))) (a b:List UInt8):qg P f [.s a,.s b] (.i .i64 (zz a b)):=by
  refine qg.mk hc rfl ?_
  simp only [jM,qm,H0,mkT,mkH,trL,vI,simprocAttr]
  simp only [↓vS,vT,shb,shv,qb,qc,cellsOf,wr,qa,simprocAttr]
  refine (hg a b).sc ?_
  simp only [↓vS,vT,shb,shv,qb,qc,cellsOf,wr,qa,simprocAttr,vZ]
def zD (f_internal_bytealg_abigen_runtime_cmpstring:Nat):IFn:=⟨[.tmp 4],
  .seq (.reg false [⟨(some 4),.op (.mov (.c (.i .i64 0))),none⟩])
  (.seq (.reg false [⟨(some 5),.op (.mov (.t 0)),none⟩,
    ⟨(some 6),.op (.mov (.t 1)),none⟩,
    ⟨(some 7),.callF f_internal_bytealg_abigen_runtime_cmpstring [(.t 5),(.t 6)],none⟩,
    ⟨(some 4),.op (.mov (.t 7)),none⟩])
  (.ret))⟩
theorem qdd {g:Nat} (hc:qh P f (zD g) = true) (hg:∀ a b:List UInt8,qg P g [.s a,.s b] (.i .i64 (zz a b))) (a b:List UInt8):qg P f [.s a,.s b] (.i .i64 (zz a b)):=by
  refine qg.mk hc rfl ?_
  simp only [zD,qm,H0,mkT,mkH,trL,vI,simprocAttr]
  simp only [↓vS,vT,shb,shv,qb,qc,cellsOf,wr,qa,simprocAttr]
  refine (hg a b).sc ?_
  simp only [↓vS,vT,shb,shv,qb,qc,cellsOf,wr,qa,simprocAttr,vZ]
def kO (f_strings_Compare:Nat):IFn:=⟨[.tmp 4],
  .seq (.reg false [⟨(some 2),.op (.box (.t 0)),none⟩,
    ⟨(some 4),.op (.mov (.c (.i .i64 0))),none⟩])
  (.seq (.reg false [⟨(some 5),.op (.fAddr 0 (.t 2)),none⟩,
    ⟨(some 6),.op (.load1 (.t 5)),none⟩,
    ⟨(some 7),.op (.mov (.t 1)),none⟩,
    ⟨(some 8),.callF f_strings_Compare [(.t 6),(.t 7)],none⟩,
    ⟨(some 4),.op (.mov (.t 8)),none⟩])
  (.ret))⟩
theorem qg3 {g:Nat} (hc:qh P f (kO g) = true) (hg:∀ a b:List UInt8,qg P g [.s a,.s b] (.i .i64 (zz a b))) (c:GCall) (s:List UInt8):qg P f [.agg (j7 c),.s s] (.i .i64 (zz c.name s)):=by
  refine qg.mk hc rfl ?_
  simp only [kO,j7,qm,H0,mkT,mkH,trL,vI,simprocAttr]
  simp only [↓vS,vT,shb,shv,qb,qc,cellsOf,wr,qa,simprocAttr]
  refine (hg c.name s).sc ?_
  simp only [↓vS,vT,shb,shv,qb,qc,cellsOf,wr,qa,simprocAttr,vZ]
def v8:IFn:=⟨[.tmp 3],
  .seq (.reg false [⟨(some 2),.op (.box (.t 0)),none⟩,
    ⟨(some 3),.op (.mov (.c (.b false))),none⟩])
  (.seq (.reg false [⟨(some 4),.op (.fAddr 0 (.t 2)),none⟩,
    ⟨(some 5),.op (.load1 (.t 4)),none⟩,
    ⟨(some 6),.op (.load1 (.t 1)),none⟩,
    ⟨(some 7),.op (.bin .eql (.t 5) (.t 6)),none⟩,
    ⟨(some 3),.op (.mov (.t 7)),none⟩])
  (.ret))⟩
theorem qfM (hc:qh P f v8 = true) (s:List UInt8) (c:GCall):qg P f [.agg (j7 c),.pf [.s s] 0] (.b (decide (c.name = s))):=by
  refine qg.mk hc (by simp [qC,clo,j7]) ?_
  simp only [v8,j7,qm,H0,mkT,mkH,trL,vI,simprocAttr]
  simp only [↓vS,vT,shb,shv,qb,qc,cellsOf,wr,qa,simprocAttr,vZ]
end Go.Kc
end
section
/- A binary search among calls by a function; a list of calls without some. Condition: the functions' texts are these. -/
namespace Go.Kc
variable {P:Program} {f:Nat}
def bsQ (l:List GCall) (cm:GCall → Int) (k:Nat):Bool:=(l[k]?).elim false (fun c=>decide (cm c < 0))
def bsC (l:List GCall) (cm:GCall → Int):Nat:=bsN (bsQ l cm) 0 l.length
theorem qpg (l:List GCall) (cm:GCall → Int):bsC l cm ≤ l.length:=(qnG _ _ 0 l.length rfl (Nat.zero_le _)).2
def qM:IFn:=⟨[.tmp 6,.tmp 7],
  .seq (.reg false [⟨(some 6),.op (.mov (.c (.i .i64 0))),none⟩,
    ⟨(some 7),.op (.mov (.c (.b false))),none⟩])
  (.seq (.reg false [⟨(some 12),.op (.mov (.t 0)),none⟩,
    ⟨(some 13),.op (.len false (.t 12)),none⟩,
    ⟨(some 8),.op (.mov (.t 13)),none⟩])
  (.seq (.reg false [⟨(some 14),.op (.mov (.t 8)),none⟩,
    ⟨(some 9),.op (.mov (.c (.i .i64 0))),none⟩,
    ⟨(some 10),.op (.mov (.t 14)),none⟩])
  (.seq (.blk 0 (.loop (.seq (.seq (.reg false [⟨(some 15),.op (.mov (.t 9)),none⟩,
    ⟨(some 16),.op (.mov (.t 10)),none⟩,
    ⟨(some 17),.op (.bin .lss (.t 15) (.t 16)),none⟩])
  (.cond (.t 17) (.skip) (.exit 0)))
  (.blk 1 (.seq (.reg false [⟨(some 18),.op (.mov (.t 9)),none⟩,
    ⟨(some 19),.op (.mov (.t 10)),none⟩,
    ⟨(some 20),.op (.bin .add (.t 18) (.t 19)),none⟩,
    ⟨(some 21),.op (.cvInt .u64 (.t 20)),none⟩,
    ⟨(some 22),.op (.bin .shr (.t 21) (.c (.i .u64 1))),none⟩,
    ⟨(some 23),.op (.cvInt .i64 (.t 22)),none⟩,
    ⟨(some 11),.op (.mov (.t 23)),none⟩])
  (.seq (.reg false [⟨(some 24),.op (.mov (.t 2)),none⟩,
    ⟨(some 25),.op (.mov (.t 0)),none⟩,
    ⟨(some 26),.op (.mov (.t 11)),none⟩,
    ⟨(some 27),.op (.iAddrS 2 (.t 25) (.t 26)),none⟩,
    ⟨(some 28),.op (.loadN 2 (.t 27)),none⟩,
    ⟨(some 29),.op (.mov (.t 1)),none⟩,
    ⟨(some 30),.callV (.t 24) [(.t 28),(.t 29)],none⟩,
    ⟨(some 31),.op (.bin .lss (.t 30) (.c (.i .i64 0))),none⟩])
  (.cond (.t 31) (.reg false [⟨(some 32),.op (.mov (.t 11)),none⟩,
    ⟨(some 33),.op (.bin .add (.t 32) (.c (.i .i64 1))),none⟩,
    ⟨(some 9),.op (.mov (.t 33)),none⟩]) (.reg false [⟨(some 34),.op (.mov (.t 11)),none⟩,
    ⟨(some 10),.op (.mov (.t 34)),none⟩]))))))))
  (.seq (.reg false [⟨(some 35),.op (.mov (.t 9)),none⟩,
    ⟨(some 36),.op (.mov (.t 9)),none⟩,
    ⟨(some 37),.op (.mov (.t 8)),none⟩,
    ⟨(some 38),.op (.bin .lss (.t 36) (.t 37)),none⟩,
    ⟨(some 39),.op (.mov (.t 38)),none⟩,
    ⟨(some 40),.op (.mov (.t 2)),(some (39,true))⟩,
    ⟨(some 41),.op (.mov (.t 0)),(some (39,true))⟩,
    ⟨(some 42),.op (.mov (.t 9)),(some (39,true))⟩,
    ⟨(some 43),.op (.iAddrS 2 (.t 41) (.t 42)),(some (39,true))⟩,
    ⟨(some 44),.op (.loadN 2 (.t 43)),(some (39,true))⟩,
    ⟨(some 45),.op (.mov (.t 1)),(some (39,true))⟩,
    ⟨(some 46),.callV (.t 40) [(.t 44),(.t 45)],(some (39,true))⟩,
    ⟨(some 47),.op (.bin .eql (.t 46) (.c (.i .i64 0))),(some (39,true))⟩,
    ⟨(some 48),.op (.pick (.t 39) (.t 47) (.c (.b false))),none⟩,
    ⟨(some 6),.op (.mov (.t 35)),none⟩,
    ⟨(some 7),.op (.mov (.t 48)),none⟩])
  (.ret)))))⟩
def qrb (P:Program) (f:Nat):Prop:=∀ (l:List GCall) (s:List UInt8) (g:Nat) (cm:GCall → Int),l.length ≤ qi → (∀ c ∈ l,qg P g [.agg (j7 c),.s s] (.i .i64 (cm c))) →
  qg P f [.fz l.length (rC l),.s s,.fn g [] []] (.tup [.i .i64 (bsC l cm:Int),.b ((l[bsC l cm]?).elim false (fun c=>decide (cm c = 0)))])
theorem qjG (hc:qh P f qM = true):qrb P f:=by
  intro l s g cm hl hg
  have hl2:=hl; simp only [qi] at hl2
  refine qg.mk hc (by simp [qC,clo,qd]) ?_
  simp only [qM,qm,H0,mkT,mkH,trL,vI,simprocAttr]
  simp only [↓vS,vT,shb,shv,qb,qc,cellsOf,wr,qa,simprocAttr]
  refine SL.loop (α:=Nat × Nat) (fun q=>[(0,.fz l.length (rC l)),(1,.s s),(2,.fn g [] []),(8,.i .i64 l.length),(9,.i .i64 q.1),(10,.i .i64 q.2)]) (fun _=>[]) (fun q=>q.1 ≤ q.2 ∧ q.2 ≤ l.length ∧ bsC l cm = bsN (bsQ l cm) q.1 q.2) (fun q=>q.2 - q.1) (0,l.length) [] ?_ ?_ ?_ rfl ?_ ?_
  · simp [vw,qd]
  · trivial
  · simp
  · exact ⟨Nat.zero_le _,Nat.le_refl _,rfl⟩
  rintro ⟨i,j⟩ ⟨hij,hj,hI⟩ G ih
  dsimp only at hij hj hI ih ⊢
  simp only [qm,H0,mkT,mkH,trL,vI,simprocAttr]
  by_cases hlt:i < j
  · have hh:=qpc hij (by omega)
    have hm:(i + j) / 2 < l.length:=by omega
    have hx:l[(i + j) / 2]? = some l[(i + j) / 2]:=List.getElem?_eq_getElem hm
    have hd:bsQ l cm ((i + j) / 2) = decide (cm l[(i + j) / 2] < 0):=by unfold bsQ; rw [hx]; rfl
    have he:=kG hx
    have hb:=kp hm
    rw [bsN,dif_pos hlt,hd] at hI
    simp only [↓vS,vT,shb,shv,qb,qc,cellsOf,wr,qa,simprocAttr,hlt,hh,hm,hb,he]
    refine (hg l[(i + j) / 2] (List.getElem_mem hm)).sc ?_
    by_cases hc2:cm l[(i + j) / 2] < 0
    · have hw:IntKind.wrap .i64 ((((i + j) / 2:Nat):Int) + 1) = (((i + j) / 2 + 1:Nat):Int):=by rw [qE (by omega) (by omega)]; omega
      simp only [hc2,decide_true,if_true] at hI
      simp only [↓vS,vT,shb,shv,qb,qc,cellsOf,wr,qa,simprocAttr,hc2,hw]
      refine ih ((i + j) / 2 + 1,j) ⟨by dsimp only; omega,hj,hI⟩ (by dsimp only; omega) _ _ (Wk.mk _ _ [] ?_ ?_ ?_ rfl)
      · simp [vw,qd]
      · trivial
      · simp
    · simp only [hc2,decide_false,Bool.false_eq_true,if_false] at hI
      simp only [↓vS,vT,shb,shv,qb,qc,cellsOf,wr,qa,simprocAttr,hc2]
      refine ih (i,(i + j) / 2) ⟨by dsimp only; omega,by dsimp only; omega,hI⟩ (by dsimp only; omega) _ _ (Wk.mk _ _ [] ?_ ?_ ?_ rfl)
      · simp [vw,qd]
      · trivial
      · simp
  · have e:bsC l cm = i:=by rw [hI,bsN,dif_neg hlt]
    by_cases hil:i < l.length
    · have hx:l[i]? = some l[i]:=List.getElem?_eq_getElem hil
      have he:=kG hx
      have hb:=kp hil
      simp only [↓vS,vT,shb,shv,qb,qc,cellsOf,wr,qa,simprocAttr,hlt,hil,hb,he]
      refine (hg l[i] (List.getElem_mem hil)).sc ?_
      simp only [↓vS,vT,shb,shv,qb,qc,cellsOf,wr,qa,simprocAttr]
      simp [vZ,e,hx]
    · have hx:l[i]? = none:=List.getElem?_eq_none (by omega)
      simp only [↓vS,vT,shb,shv,qb,qc,cellsOf,wr,qa,simprocAttr,hlt,hil]
      simp [vZ,e,hx]
end Go.Kc
end
section
/- What slices.DeleteFunc makes of a row of calls of one's own. Condition: the functions' texts are these. -/
namespace Go.Kc
variable {P:Program} {f:Nat}
def zp (f_slices_IndexFunc_api_Call_api_Call:Nat):IFn:=⟨[.tmp 4],
  .seq (.reg false [⟨(some 4),.op (.mov (.c (.nils))),none⟩])
  (.seq (.reg false [⟨(some 8),.op (.mov (.t 0)),none⟩,
    ⟨(some 9),.op (.mov (.t 1)),none⟩,
    ⟨(some 10),.callF f_slices_IndexFunc_api_Call_api_Call [(.t 8),(.t 9)],none⟩,
    ⟨(some 5),.op (.mov (.t 10)),none⟩])
  (.seq (.seq (.reg false [⟨(some 11),.op (.mov (.t 5)),none⟩,
    ⟨(some 12),.op (.bin .eql (.t 11) (.c (.i .i64 (-1)))),none⟩])
  (.cond (.t 12) (.seq (.reg false [⟨(some 13),.op (.mov (.t 0)),none⟩,
    ⟨(some 4),.op (.mov (.t 13)),none⟩])
  (.ret)) (.skip)))
  (.seq (.seq (.reg false [⟨(some 14),.op (.mov (.t 5)),none⟩,
    ⟨(some 15),.op (.bin .add (.t 14) (.c (.i .i64 1))),none⟩,
    ⟨(some 6),.op (.mov (.t 15)),none⟩])
  (.blk 0 (.loop (.seq (.seq (.reg false [⟨(some 16),.op (.mov (.t 6)),none⟩,
    ⟨(some 17),.op (.mov (.t 0)),none⟩,
    ⟨(some 18),.op (.len false (.t 17)),none⟩,
    ⟨(some 19),.op (.bin .lss (.t 16) (.t 18)),none⟩])
  (.cond (.t 19) (.skip) (.exit 0)))
  (.seq (.blk 1 (.seq (.reg false [⟨(some 22),.op (.mov (.t 0)),none⟩,
    ⟨(some 23),.op (.mov (.t 6)),none⟩,
    ⟨(some 24),.op (.iAddrS 2 (.t 22) (.t 23)),none⟩,
    ⟨(some 25),.op (.loadN 2 (.t 24)),none⟩,
    ⟨(some 7),.op (.alloc [.s [],.i .u32 0]),none⟩,
    ⟨none,.op (.store 2 (.t 7) (.t 25)),none⟩])
  (.seq (.reg false [⟨(some 26),.op (.mov (.t 1)),none⟩,
    ⟨(some 27),.op (.loadN 2 (.t 7)),none⟩,
    ⟨(some 28),.callV (.t 26) [(.t 27)],none⟩,
    ⟨(some 29),.op (.un .not (.t 28)),none⟩])
  (.cond (.t 29) (.seq (.reg false [⟨(some 30),.op (.mov (.t 0)),none⟩,
    ⟨(some 31),.op (.mov (.t 5)),none⟩,
    ⟨(some 32),.op (.loadN 2 (.t 7)),none⟩,
    ⟨(some 33),.op (.iAddrS 2 (.t 30) (.t 31)),none⟩,
    ⟨none,.op (.store 2 (.t 33) (.t 32)),none⟩])
  (.reg false [⟨(some 34),.op (.mov (.t 5)),none⟩,
    ⟨(some 35),.op (.bin .add (.t 34) (.c (.i .i64 1))),none⟩,
    ⟨(some 5),.op (.mov (.t 35)),none⟩])) (.skip)))))
  (.reg false [⟨(some 20),.op (.mov (.t 6)),none⟩,
    ⟨(some 21),.op (.bin .add (.t 20) (.c (.i .i64 1))),none⟩,
    ⟨(some 6),.op (.mov (.t 21)),none⟩]))))))
  (.seq (.reg false [⟨(some 36),.op (.mov (.t 0)),none⟩,
    ⟨(some 37),.op (.mov (.t 5)),none⟩,
    ⟨(some 38),.op (.slcS 2 (.t 36) (some (.t 37)) none none),none⟩,
    ⟨none,.op (.clear [.s [],.i .u32 0] (.t 38)),none⟩])
  (.seq (.reg false [⟨(some 39),.op (.mov (.t 0)),none⟩,
    ⟨(some 40),.op (.mov (.t 5)),none⟩,
    ⟨(some 41),.op (.slcS 2 (.t 39) none (some (.t 40)) none),none⟩,
    ⟨(some 4),.op (.mov (.t 41)),none⟩])
  (.ret))))))⟩
theorem qoW {n:Nat}:(List.replicate n [AV.s [],AV.i .u32 0]).flatten = rC (List.replicate n ⟨[],0⟩):=by
  induction n with
  | zero=>rfl
  | succ n ih=>simp [List.replicate_succ,ih,kE]
def qa6 (P:Program) (f:Nat):Prop:=∀ (p:GCall → Bool) (g:Nat) (a c:List AV) (l:List GCall),qC a = true → qC c = true → l.length ≤ qi → (∀ x ∈ l,qg P g (a ++ ([.agg (j7 x)] ++ c)) (.b (p x))) →
  Upd P f [.own 0 l.length,.fn g a c] [.cells 2 true true (rC l)] (.own 0 (l.filter fun x=>!p x).length) [.cells 2 true true (rC (l.filter fun x=>!p x))]
theorem qbX {g1:Nat} (hc:qh P f (zp g1) = true) (h1:qcX 2 P g1):qa6 P f:=by
  intro p g a c l ha hcc hl hp
  have hl2:=hl; simp only [qi] at hl2
  refine Upd.mkS hc (by simp [zZ,bnd,qX ha,qX hcc]) (Nat.le_refl _) (qy ?_)
  simp only [zp,qm,H0,mkT,mkH,trL,vI,simprocAttr]
  simp only [↓vS,vT,shb,shv,qb,qc,cellsOf,wr,qa,simprocAttr]
  refine (h1 j7 p g a c l wP ha hcc hl hp).lend (vs':=[.fz l.length (rC l),.fn g a c]) ?_ rfl ?_
  · simp [vZ,vP,Tr.get_set,qF ha,qF hcc,qF qd]
    intro h0; rw [h0]; rfl
  rcases Qs p l 0 with ⟨hi,_⟩ | ⟨i,x,hi,hx,hpx,_,hb⟩
  · simp only [↓vS,vT,shb,shv,qb,qc,cellsOf,wr,qa,simprocAttr,hi,Int.reduceNeg]
    refine qfG.w (fun _=>⟨[0],?_⟩) (Nat.le_refl _)
    rw [qh8 hi]
    simp [vw,qe,qd]
  · have hne:¬ ((i:Nat):Int) = -1:=by omega
    have hil:i < l.length:=(List.getElem?_eq_some_iff.1 hx).1
    have hw:IntKind.wrap .i64 ((i:Int) + 1) = (i:Int) + 1:=qE (by omega) (by omega)
    rw [Nat.zero_add] at hi
    simp only [↓vS,vT,shb,shv,qb,qc,cellsOf,wr,qa,simprocAttr,hi,hne,hw]
    have htk:(l.take i).filter (fun x=>!p x) = l.take i:=by
      rw [List.filter_eq_self]
      intro y hy
      obtain ⟨k,hk,rfl⟩:=List.getElem_of_mem hy
      simp at hk
      rw [List.getElem_take]
      simp [hb k _ (by omega) (List.getElem?_eq_getElem (by omega))]
    have htk1:(l.take (i + 1)).filter (fun x=>!p x) = l.take i:=by
      rw [List.take_add_one,hx,List.filter_append,htk]; simp [hpx]
    refine SL.loopn (α:=Nat × List GCall) (fun s=>[(0,.own 0 l.length),(1,.fn g a c),(5,.i .i64 (((l.take s.1).filter fun x=>!p x).length:Int)),(6,.i .i64 (s.1:Int))])
      (fun s=>[.cells 2 true true (rC (((l.take s.1).filter fun x=>!p x) ++ (s.2 ++ l.drop s.1)))]) (fun s=>s.1 ≤ l.length ∧ ((l.take s.1).filter fun x=>!p x).length + s.2.length = s.1) (fun s=>l.length - s.1) (i + 1,[x]) [0] ?_ ?_ ?_ rfl (Nat.le_refl _) ?_ ?_ ?_
    · simp [vw,qe,ha,hcc,htk1]; omega
    · have:(l.take i ++ ([x] ++ l.drop (i + 1))) = l:=by
        have h2:=List.take_append_drop i l
        rw [List.drop_eq_getElem_cons hil] at h2
        obtain ⟨_,rfl⟩:=List.getElem?_eq_some_iff.1 hx
        simpa using h2
      dsimp only
      rw [htk1,this]
      simp [vw,qe,qd]
    · simp [vw]
    · intro b hb; obtain rfl:b = 0:=by simpa using hb
      simp [qbW]
    · refine ⟨by omega,?_⟩
      dsimp only
      rw [htk1]; simp; omega
    rintro ⟨j,mid⟩ ⟨hj,hm⟩ G ih
    dsimp only at hj hm ih ⊢
    simp only [qm,H0,mkT,mkH,trL,vI,simprocAttr]
    generalize hF:(l.take j).filter (fun x=>!p x) = F at hm ih ⊢
    by_cases hlt:j < l.length
    · have hxj:l[j]? = some l[j]:=List.getElem?_eq_getElem hlt
      have hwj:IntKind.wrap .i64 ((j:Int) + 1) = (j:Int) + 1:=qE (by omega) (by omega)
      have hwi:IntKind.wrap .i64 ((F.length:Int) + 1) = (F.length:Int) + 1:=qE (by omega) (by omega)
      have hgj:(F ++ (mid ++ l.drop j))[j]? = some l[j]:=by
        rw [← List.append_assoc,List.getElem?_append_right (by simp; omega),List.getElem?_drop]
        simp [hm,hxj]
      have hget:=kG hgj
      have hbd:j * 2 + 2 ≤ (rC (F ++ (mid ++ l.drop j))).length:=kp (by simp; omega)
      have htj:(l.take (j + 1)).filter (fun x=>!p x) = F ++ (if p l[j] = true then [] else [l[j]]):=by
        rw [List.take_add_one,hxj,List.filter_append,hF]
        cases hpj:p l[j] <;> simp [hpj]
      simp only [↓vS,vT,shb,shv,qb,qc,cellsOf,wr,qa,simprocAttr,hlt,hget,hbd,j7]
      refine (hp l[j] (List.getElem_mem hlt)).sc ?_
      by_cases hpj:p l[j] = true
      · simp only [↓vS,vT,shb,shv,qb,qc,cellsOf,wr,qa,simprocAttr,hpj,hwj]
        rw [hpj] at htj
        refine ih (j + 1,mid ++ [l[j]]) ⟨by omega,by rw [htj]; simp; omega⟩ (by dsimp only; omega) _ _ (Wk.mkn _ _ [0] ?_ ?_ ?_ rfl (Nat.le_refl _) ?_)
        · simp [vw,qe,ha,hcc,htj]
        · have e:(F ++ (mid ++ l.drop j)) = (((l.take (j + 1)).filter fun x=>!p x) ++ ((mid ++ [l[j]]) ++ l.drop (j + 1))):=by
            rw [htj,List.drop_eq_getElem_cons hlt]; simp
          dsimp only
          rw [← e]
          simp [vw,qe,qd]
        · simp [vw]
        · intro b hb; obtain rfl:b = 0:=by simpa using hb
          simp [qbW]
      · have hFl:F.length < l.length:=by omega
        have hlen:F.length * 2 + 2 ≤ (rC (F ++ (mid ++ l.drop j))).length:=by rw [xL]; simp; omega
        have hFn:(F.length:Int) < l.length:=by omega
        simp only [↓vS,vT,shb,shv,qb,qc,cellsOf,wr,qa,simprocAttr,hpj,hwj,hwi,hFl,hlen]
        rw [if_neg hpj] at htj
        have hset:rC ((F ++ (mid ++ l.drop j)).take F.length) ++ (AV.s l[j].name :: AV.i .u32 l[j].act :: rC ((F ++ (mid ++ l.drop j)).drop (F.length + 1))) = rC (((l.take (j + 1)).filter fun x=>!p x) ++ ((mid ++ [l[j]]).tail ++ l.drop (j + 1))):=by
          rw [htj,← kE,yR,List.take_left' rfl,← List.drop_drop,List.drop_left' rfl,List.drop_eq_getElem_cons hlt]
          cases mid <;> simp
        have e2:F.length * 2 + 2 = (F.length + 1) * 2:=by omega
        simp only [qaO,e2,qca,hset]
        refine ih (j + 1,(mid ++ [l[j]]).tail) ⟨by omega,by rw [htj]; simp; omega⟩ (by dsimp only; omega) _ _ (Wk.mkn _ _ [0] ?_ ?_ ?_ rfl (Nat.le_refl _) ?_)
        · simp [vw,qe,ha,hcc,htj]
        · simp [vw,qe,qd]
        · simp [vw]
        · intro b hb; obtain rfl:b = 0:=by simpa using hb
          simp [qbW]
    · obtain rfl:j = l.length:=by omega
      have hl0:¬ l.length = 0:=by omega
      have hFl:F.length ≤ l.length:=by omega
      have hrl:(rC (F ++ (mid ++ l.drop l.length))).length = l.length * 2:=by rw [xL]; simp; omega
      have hz:¬ l.length - F.length = 0:=by
        intro hz
        have:F.length = l.length:=by omega
        rw [← hF,List.take_length] at this
        have h2:=List.length_filter_eq_length_iff.1 this x (List.mem_of_getElem? hx)
        simp [hpx] at h2
      have hsum:F.length + (l.length - F.length) = l.length:=by omega
      have hle:F.length * 2 + (l.length - F.length) * 2 ≤ l.length * 2:=by omega
      simp only [↓vS,vT,shb,shv,qb,qc,cellsOf,wr,qa,simprocAttr,hlt,hl0,hFl,hz,qoW,qdD,xL,List.length_replicate,hrl,Int.ofNat_le,hle]
      rw [List.take_length] at hF
      subst hF
      refine qdc.closed (by simp [Tr.get_set]; exact ⟨rfl,rfl⟩) rfl ?_ hFl ?_ qd
      · simp [xL]; omega
      · rw [List.take_left' (by rw [List.length_take,xL]; simp),qaO,List.take_left' rfl]
end Go.Kc
end
section
/- Is a call known. Condition: the functions' texts are these. -/
namespace Go.Kc
variable {P:Program} {f:Nat}
def zr:List (List UInt8 × List Int):=[([98,105,110,100],[49,361,49,282,200,200]),([98,112,102],[321,357,321,386,280,280]),([98,114,107],[12,45,12,45,214,214]),([99,108,111,99,107,95,115,101,116,116,105,109,101],[227,264,227,262,112,112]),([99,108,111,110,101],[56,120,56,120,220,220]),([99,108,111,110,101,51],[435,435,(-1),435,435,435]),([99,108,111,115,101],[3,6,3,6,57,57]),([99,111,110,110,101,99,116],[42,362,42,283,203,203]),([100,101,108,101,116,101,95,109,111,100,117,108,101],[176,129,176,129,106,106]),([101,120,101,99,118,101],[59,11,520,11,221,221]),([101,120,105,116],[60,1,60,1,93,93]),([102,105,110,105,116,95,109,111,100,117,108,101],[313,350,313,379,273,273]),([102,111,114,107],[57,2,57,2,(-1),(-1)]),([103,101,116,117,105,100],[102,24,102,24,174,174]),([105,110,105,116,95,109,111,100,117,108,101],[175,128,(-1),128,105,105]),([105,111,99,116,108],[16,54,514,54,29,29]),([107,105,108,108],[62,37,62,37,129,129]),([108,105,115,116,101,110],[50,363,50,284,201,201]),([109,109,97,112],[9,90,9,(-1),222,222]),([109,111,117,110,116],[165,21,165,21,40,40]),([109,112,114,111,116,101,99,116],[10,125,10,125,226,226]),([109,117,110,109,97,112],[11,91,11,91,215,215]),([111,112,101,110],[2,5,2,5,(-1),(-1)]),([111,112,101,110,97,116],[257,295,257,322,56,56]),([112,101,114,115,111,110,97,108,105,116,121],[135,136,135,136,92,92]),([112,107,101,121,95,109,112,114,111,116,101,99,116],[329,380,329,394,288,(-1)]),([112,116,114,97,99,101],[101,26,521,26,117,117]),([114,101,97,100],[0,3,0,3,63,63]),([114,101,98,111,111,116],[169,88,169,88,142,142]),([115,99,104,101,100,95,115,101,116,97,116,116,114],[314,351,314,380,274,274]),([115,99,104,101,100,95,115,101,116,115,99,104,101,100,117,108,101,114],[144,156,144,156,119,119]),([115,101,99,99,111,109,112],[317,354,317,383,277,277]),([115,101,116,110,115],[308,346,308,375,268,268]),([115,101,116,116,105,109,101,111,102,100,97,121],[164,79,164,79,170,170]),([115,101,116,117,105,100],[105,23,105,23,146,146]),([115,104,109,97,116],[30,397,(-1),305,196,196]),([115,111,99,107,101,116],[41,359,41,281,198,198]),([117,109,111,117,110,116,50],[166,52,166,52,39,39]),([117,110,115,104,97,114,101],[272,310,272,337,97,97]),([119,114,105,116,101],[1,4,1,4,64,64])]
def kv (x:List UInt8 × List Int):List AV:=[.s x.1,.i .i64 (x.2.getD 0 0),.i .i64 (x.2.getD 1 0),.i .i64 (x.2.getD 2 0),.i .i64 (x.2.getD 3 0),.i .i64 (x.2.getD 4 0),.i .i64 (x.2.getD 5 0)]
theorem qeJ (x:List UInt8 × List Int):(kv x).length = 7:=rfl
def vN:IFn:=⟨[.cell 0 280 true],
  .seq (.reg false [⟨(some 0),.op (.alloc [.s [],.i .i64 0,.i .i64 0,.i .i64 0,.i .i64 0,.i .i64 0,.i .i64 0,.s [],.i .i64 0,.i .i64 0,.i .i64 0,.i .i64 0,.i .i64 0,.i .i64 0,.s [],.i .i64 0,.i .i64 0,.i .i64 0,.i .i64 0,.i .i64 0,.i .i64 0,.s [],.i .i64 0,.i .i64 0,.i .i64 0,.i .i64 0,.i .i64 0,.i .i64 0,.s [],.i .i64 0,.i .i64 0,.i .i64 0,.i .i64 0,.i .i64 0,.i .i64 0,.s [],.i .i64 0,.i .i64 0,.i .i64 0,.i .i64 0,.i .i64 0,.i .i64 0,.s [],.i .i64 0,.i .i64 0,.i .i64 0,.i .i64 0,.i .i64 0,.i .i64 0,.s [],.i .i64 0,.i .i64 0,.i .i64 0,.i .i64 0,.i .i64 0,.i .i64 0,.s [],.i .i64 0,.i .i64 0,.i .i64 0,.i .i64 0,.i .i64 0,.i .i64 0,.s [],.i .i64 0,.i .i64 0,.i .i64 0,.i .i64 0,.i .i64 0,.i .i64 0,.s [],.i .i64 0,.i .i64 0,.i .i64 0,.i .i64 0,.i .i64 0,.i .i64 0,.s [],.i .i64 0,.i .i64 0,.i .i64 0,.i .i64 0,.i .i64 0,.i .i64 0,.s [],.i .i64 0,.i .i64 0,.i .i64 0,.i .i64 0,.i .i64 0,.i .i64 0,.s [],.i .i64 0,.i .i64 0,.i .i64 0,.i .i64 0,.i .i64 0,.i .i64 0,.s [],.i .i64 0,.i .i64 0,.i .i64 0,.i .i64 0,.i .i64 0,.i .i64 0,.s [],.i .i64 0,.i .i64 0,.i .i64 0,.i .i64 0,.i .i64 0,.i .i64 0,.s [],.i .i64 0,.i .i64 0,.i .i64 0,.i .i64 0,.i .i64 0,.i .i64 0,.s [],.i .i64 0,.i .i64 0,.i .i64 0,.i .i64 0,.i .i64 0,.i .i64 0,.s [],.i .i64 0,.i .i64 0,.i .i64 0,.i .i64 0,.i .i64 0,.i .i64 0,.s [],.i .i64 0,.i .i64 0,.i .i64 0,.i .i64 0,.i .i64 0,.i .i64 0,.s [],.i .i64 0,.i .i64 0,.i .i64 0,.i .i64 0,.i .i64 0,.i .i64 0,.s [],.i .i64 0,.i .i64 0,.i .i64 0,.i .i64 0,.i .i64 0,.i .i64 0,.s [],.i .i64 0,.i .i64 0,.i .i64 0,.i .i64 0,.i .i64 0,.i .i64 0,.s [],.i .i64 0,.i .i64 0,.i .i64 0,.i .i64 0,.i .i64 0,.i .i64 0,.s [],.i .i64 0,.i .i64 0,.i .i64 0,.i .i64 0,.i .i64 0,.i .i64 0,.s [],.i .i64 0,.i .i64 0,.i .i64 0,.i .i64 0,.i .i64 0,.i .i64 0,.s [],.i .i64 0,.i .i64 0,.i .i64 0,.i .i64 0,.i .i64 0,.i .i64 0,.s [],.i .i64 0,.i .i64 0,.i .i64 0,.i .i64 0,.i .i64 0,.i .i64 0,.s [],.i .i64 0,.i .i64 0,.i .i64 0,.i .i64 0,.i .i64 0,.i .i64 0,.s [],.i .i64 0,.i .i64 0,.i .i64 0,.i .i64 0,.i .i64 0,.i .i64 0,.s [],.i .i64 0,.i .i64 0,.i .i64 0,.i .i64 0,.i .i64 0,.i .i64 0,.s [],.i .i64 0,.i .i64 0,.i .i64 0,.i .i64 0,.i .i64 0,.i .i64 0,.s [],.i .i64 0,.i .i64 0,.i .i64 0,.i .i64 0,.i .i64 0,.i .i64 0,.s [],.i .i64 0,.i .i64 0,.i .i64 0,.i .i64 0,.i .i64 0,.i .i64 0,.s [],.i .i64 0,.i .i64 0,.i .i64 0,.i .i64 0,.i .i64 0,.i .i64 0,.s [],.i .i64 0,.i .i64 0,.i .i64 0,.i .i64 0,.i .i64 0,.i .i64 0,.s [],.i .i64 0,.i .i64 0,.i .i64 0,.i .i64 0,.i .i64 0,.i .i64 0,.s [],.i .i64 0,.i .i64 0,.i .i64 0,.i .i64 0,.i .i64 0,.i .i64 0,.s [],.i .i64 0,.i .i64 0,.i .i64 0,.i .i64 0,.i .i64 0,.i .i64 0,.s [],.i .i64 0,.i .i64 0,.i .i64 0,.i .i64 0,.i .i64 0,.i .i64 0]),none⟩])
  (.seq (.reg false [⟨(some 1),.op (.build [.i .i64 0,.i .i64 0,.i .i64 0,.i .i64 0,.i .i64 0,.i .i64 0] [(0,1,(.c (.i .i64 49))),(1,1,(.c (.i .i64 361))),(2,1,(.c (.i .i64 49))),(3,1,(.c (.i .i64 282))),(4,1,(.c (.i .i64 200))),(5,1,(.c (.i .i64 200)))]),none⟩,
    ⟨(some 2),.op (.build [.s [],.i .i64 0,.i .i64 0,.i .i64 0,.i .i64 0,.i .i64 0,.i .i64 0] [(0,1,(.c (.s [98,105,110,100]))),(1,6,(.t 1))]),none⟩,
    ⟨(some 3),.op (.build [.i .i64 0,.i .i64 0,.i .i64 0,.i .i64 0,.i .i64 0,.i .i64 0] [(0,1,(.c (.i .i64 321))),(1,1,(.c (.i .i64 357))),(2,1,(.c (.i .i64 321))),(3,1,(.c (.i .i64 386))),(4,1,(.c (.i .i64 280))),(5,1,(.c (.i .i64 280)))]),none⟩,
    ⟨(some 4),.op (.build [.s [],.i .i64 0,.i .i64 0,.i .i64 0,.i .i64 0,.i .i64 0,.i .i64 0] [(0,1,(.c (.s [98,112,102]))),(1,6,(.t 3))]),none⟩,
    ⟨(some 5),.op (.build [.i .i64 0,.i .i64 0,.i .i64 0,.i .i64 0,.i .i64 0,.i .i64 0] [(0,1,(.c (.i .i64 12))),(1,1,(.c (.i .i64 45))),(2,1,(.c (.i .i64 12))),(3,1,(.c (.i .i64 45))),(4,1,(.c (.i .i64 214))),(5,1,(.c (.i .i64 214)))]),none⟩,
    ⟨(some 6),.op (.build [.s [],.i .i64 0,.i .i64 0,.i .i64 0,.i .i64 0,.i .i64 0,.i .i64 0] [(0,1,(.c (.s [98,114,107]))),(1,6,(.t 5))]),none⟩,
    ⟨(some 7),.op (.build [.i .i64 0,.i .i64 0,.i .i64 0,.i .i64 0,.i .i64 0,.i .i64 0] [(0,1,(.c (.i .i64 227))),(1,1,(.c (.i .i64 264))),(2,1,(.c (.i .i64 227))),(3,1,(.c (.i .i64 262))),(4,1,(.c (.i .i64 112))),(5,1,(.c (.i .i64 112)))]),none⟩,
    ⟨(some 8),.op (.build [.s [],.i .i64 0,.i .i64 0,.i .i64 0,.i .i64 0,.i .i64 0,.i .i64 0] [(0,1,(.c (.s [99,108,111,99,107,95,115,101,116,116,105,109,101]))),(1,6,(.t 7))]),none⟩,
    ⟨(some 9),.op (.build [.i .i64 0,.i .i64 0,.i .i64 0,.i .i64 0,.i .i64 0,.i .i64 0] [(0,1,(.c (.i .i64 56))),(1,1,(.c (.i .i64 120))),(2,1,(.c (.i .i64 56))),(3,1,(.c (.i .i64 120))),(4,1,(.c (.i .i64 220))),(5,1,(.c (.i .i64 220)))]),none⟩,
    ⟨(some 10),.op (.build [.s [],.i .i64 0,.i .i64 0,.i .i64 0,.i .i64 0,.i .i64 0,.i .i64 0] [(0,1,(.c (.s [99,108,111,110,101]))),(1,6,(.t 9))]),none⟩,
    ⟨(some 11),.op (.build [.i .i64 0,.i .i64 0,.i .i64 0,.i .i64 0,.i .i64 0,.i .i64 0] [(0,1,(.c (.i .i64 435))),(1,1,(.c (.i .i64 435))),(2,1,(.c (.i .i64 (-1)))),(3,1,(.c (.i .i64 435))),(4,1,(.c (.i .i64 435))),(5,1,(.c (.i .i64 435)))]),none⟩,
    ⟨(some 12),.op (.build [.s [],.i .i64 0,.i .i64 0,.i .i64 0,.i .i64 0,.i .i64 0,.i .i64 0] [(0,1,(.c (.s [99,108,111,110,101,51]))),(1,6,(.t 11))]),none⟩,
    ⟨(some 13),.op (.build [.i .i64 0,.i .i64 0,.i .i64 0,.i .i64 0,.i .i64 0,.i .i64 0] [(0,1,(.c (.i .i64 3))),(1,1,(.c (.i .i64 6))),(2,1,(.c (.i .i64 3))),(3,1,(.c (.i .i64 6))),(4,1,(.c (.i .i64 57))),(5,1,(.c (.i .i64 57)))]),none⟩,
    ⟨(some 14),.op (.build [.s [],.i .i64 0,.i .i64 0,.i .i64 0,.i .i64 0,.i .i64 0,.i .i64 0] [(0,1,(.c (.s [99,108,111,115,101]))),(1,6,(.t 13))]),none⟩,
    ⟨(some 15),.op (.build [.i .i64 0,.i .i64 0,.i .i64 0,.i .i64 0,.i .i64 0,.i .i64 0] [(0,1,(.c (.i .i64 42))),(1,1,(.c (.i .i64 362))),(2,1,(.c (.i .i64 42))),(3,1,(.c (.i .i64 283))),(4,1,(.c (.i .i64 203))),(5,1,(.c (.i .i64 203)))]),none⟩,
    ⟨(some 16),.op (.build [.s [],.i .i64 0,.i .i64 0,.i .i64 0,.i .i64 0,.i .i64 0,.i .i64 0] [(0,1,(.c (.s [99,111,110,110,101,99,116]))),(1,6,(.t 15))]),none⟩,
    ⟨(some 17),.op (.build [.i .i64 0,.i .i64 0,.i .i64 0,.i .i64 0,.i .i64 0,.i .i64 0] [(0,1,(.c (.i .i64 176))),(1,1,(.c (.i .i64 129))),(2,1,(.c (.i .i64 176))),(3,1,(.c (.i .i64 129))),(4,1,(.c (.i .i64 106))),(5,1,(.c (.i .i64 106)))]),none⟩,
    ⟨(some 18),.op (.build [.s [],.i .i64 0,.i .i64 0,.i .i64 0,.i .i64 0,.i .i64 0,.i .i64 0] [(0,1,(.c (.s [100,101,108,101,116,101,95,109,111,100,117,108,101]))),(1,6,(.t 17))]),none⟩,
    ⟨(some 19),.op (.build [.i .i64 0,.i .i64 0,.i .i64 0,.i .i64 0,.i .i64 0,.i .i64 0] [(0,1,(.c (.i .i64 59))),(1,1,(.c (.i .i64 11))),(2,1,(.c (.i .i64 520))),(3,1,(.c (.i .i64 11))),(4,1,(.c (.i .i64 221))),(5,1,(.c (.i .i64 221)))]),none⟩,
    ⟨(some 20),.op (.build [.s [],.i .i64 0,.i .i64 0,.i .i64 0,.i .i64 0,.i .i64 0,.i .i64 0] [(0,1,(.c (.s [101,120,101,99,118,101]))),(1,6,(.t 19))]),none⟩,
    ⟨(some 21),.op (.build [.i .i64 0,.i .i64 0,.i .i64 0,.i .i64 0,.i .i64 0,.i .i64 0] [(0,1,(.c (.i .i64 60))),(1,1,(.c (.i .i64 1))),(2,1,(.c (.i .i64 60))),(3,1,(.c (.i .i64 1))),(4,1,(.c (.i .i64 93))),(5,1,(.c (.i .i64 93)))]),none⟩,
    ⟨(some 22),.op (.build [.s [],.i .i64 0,.i .i64 0,.i .i64 0,.i .i64 0,.i .i64 0,.i .i64 0] [(0,1,(.c (.s [101,120,105,116]))),(1,6,(.t 21))]),none⟩,
    ⟨(some 23),.op (.build [.i .i64 0,.i .i64 0,.i .i64 0,.i .i64 0,.i .i64 0,.i .i64 0] [(0,1,(.c (.i .i64 313))),(1,1,(.c (.i .i64 350))),(2,1,(.c (.i .i64 313))),(3,1,(.c (.i .i64 379))),(4,1,(.c (.i .i64 273))),(5,1,(.c (.i .i64 273)))]),none⟩,
    ⟨(some 24),.op (.build [.s [],.i .i64 0,.i .i64 0,.i .i64 0,.i .i64 0,.i .i64 0,.i .i64 0] [(0,1,(.c (.s [102,105,110,105,116,95,109,111,100,117,108,101]))),(1,6,(.t 23))]),none⟩,
    ⟨(some 25),.op (.build [.i .i64 0,.i .i64 0,.i .i64 0,.i .i64 0,.i .i64 0,.i .i64 0] [(0,1,(.c (.i .i64 57))),(1,1,(.c (.i .i64 2))),(2,1,(.c (.i .i64 57))),(3,1,(.c (.i .i64 2))),(4,1,(.c (.i .i64 (-1)))),(5,1,(.c (.i .i64 (-1))))]),none⟩,
    ⟨(some 26),.op (.build [.s [],.i .i64 0,.i .i64 0,.i .i64 0,.i .i64 0,.i .i64 0,.i .i64 0] [(0,1,(.c (.s [102,111,114,107]))),(1,6,(.t 25))]),none⟩,
    ⟨(some 27),.op (.build [.i .i64 0,.i .i64 0,.i .i64 0,.i .i64 0,.i .i64 0,.i .i64 0] [(0,1,(.c (.i .i64 102))),(1,1,(.c (.i .i64 24))),(2,1,(.c (.i .i64 102))),(3,1,(.c (.i .i64 24))),(4,1,(.c (.i .i64 174))),(5,1,(.c (.i .i64 174)))]),none⟩,
    ⟨(some 28),.op (.build [.s [],.i .i64 0,.i .i64 0,.i .i64 0,.i .i64 0,.i .i64 0,.i .i64 0] [(0,1,(.c (.s [103,101,116,117,105,100]))),(1,6,(.t 27))]),none⟩,
    ⟨(some 29),.op (.build [.i .i64 0,.i .i64 0,.i .i64 0,.i .i64 0,.i .i64 0,.i .i64 0] [(0,1,(.c (.i .i64 175))),(1,1,(.c (.i .i64 128))),(2,1,(.c (.i .i64 (-1)))),(3,1,(.c (.i .i64 128))),(4,1,(.c (.i .i64 105))),(5,1,(.c (.i .i64 105)))]),none⟩,
    ⟨(some 30),.op (.build [.s [],.i .i64 0,.i .i64 0,.i .i64 0,.i .i64 0,.i .i64 0,.i .i64 0] [(0,1,(.c (.s [105,110,105,116,95,109,111,100,117,108,101]))),(1,6,(.t 29))]),none⟩,
    ⟨(some 31),.op (.build [.i .i64 0,.i .i64 0,.i .i64 0,.i .i64 0,.i .i64 0,.i .i64 0] [(0,1,(.c (.i .i64 16))),(1,1,(.c (.i .i64 54))),(2,1,(.c (.i .i64 514))),(3,1,(.c (.i .i64 54))),(4,1,(.c (.i .i64 29))),(5,1,(.c (.i .i64 29)))]),none⟩,
    ⟨(some 32),.op (.build [.s [],.i .i64 0,.i .i64 0,.i .i64 0,.i .i64 0,.i .i64 0,.i .i64 0] [(0,1,(.c (.s [105,111,99,116,108]))),(1,6,(.t 31))]),none⟩,
    ⟨(some 33),.op (.build [.i .i64 0,.i .i64 0,.i .i64 0,.i .i64 0,.i .i64 0,.i .i64 0] [(0,1,(.c (.i .i64 62))),(1,1,(.c (.i .i64 37))),(2,1,(.c (.i .i64 62))),(3,1,(.c (.i .i64 37))),(4,1,(.c (.i .i64 129))),(5,1,(.c (.i .i64 129)))]),none⟩,
    ⟨(some 34),.op (.build [.s [],.i .i64 0,.i .i64 0,.i .i64 0,.i .i64 0,.i .i64 0,.i .i64 0] [(0,1,(.c (.s [107,105,108,108]))),(1,6,(.t 33))]),none⟩,
    ⟨(some 35),.op (.build [.i .i64 0,.i .i64 0,.i .i64 0,.i .i64 0,.i .i64 0,.i .i64 0] [(0,1,(.c (.i .i64 50))),(1,1,(.c (.i .i64 363))),(2,1,(.c (.i .i64 50))),(3,1,(.c (.i .i64 284))),(4,1,(.c (.i .i64 201))),(5,1,(.c (.i .i64 201)))]),none⟩,
    ⟨(some 36),.op (.build [.s [],.i .i64 0,.i .i64 0,.i .i64 0,.i .i64 0,.i .i64 0,.i .i64 0] [(0,1,(.c (.s [108,105,115,116,101,110]))),(1,6,(.t 35))]),none⟩,
    ⟨(some 37),.op (.build [.i .i64 0,.i .i64 0,.i .i64 0,.i .i64 0,.i .i64 0,.i .i64 0] [(0,1,(.c (.i .i64 9))),(1,1,(.c (.i .i64 90))),(2,1,(.c (.i .i64 9))),(3,1,(.c (.i .i64 (-1)))),(4,1,(.c (.i .i64 222))),(5,1,(.c (.i .i64 222)))]),none⟩,
    ⟨(some 38),.op (.build [.s [],.i .i64 0,.i .i64 0,.i .i64 0,.i .i64 0,.i .i64 0,.i .i64 0] [(0,1,(.c (.s [109,109,97,112]))),(1,6,(.t 37))]),none⟩,
    ⟨(some 39),.op (.build [.i .i64 0,.i .i64 0,.i .i64 0,.i .i64 0,.i .i64 0,.i .i64 0] [(0,1,(.c (.i .i64 165))),(1,1,(.c (.i .i64 21))),(2,1,(.c (.i .i64 165))),(3,1,(.c (.i .i64 21))),(4,1,(.c (.i .i64 40))),(5,1,(.c (.i .i64 40)))]),none⟩,
    ⟨(some 40),.op (.build [.s [],.i .i64 0,.i .i64 0,.i .i64 0,.i .i64 0,.i .i64 0,.i .i64 0] [(0,1,(.c (.s [109,111,117,110,116]))),(1,6,(.t 39))]),none⟩,
    ⟨(some 41),.op (.build [.i .i64 0,.i .i64 0,.i .i64 0,.i .i64 0,.i .i64 0,.i .i64 0] [(0,1,(.c (.i .i64 10))),(1,1,(.c (.i .i64 125))),(2,1,(.c (.i .i64 10))),(3,1,(.c (.i .i64 125))),(4,1,(.c (.i .i64 226))),(5,1,(.c (.i .i64 226)))]),none⟩,
    ⟨(some 42),.op (.build [.s [],.i .i64 0,.i .i64 0,.i .i64 0,.i .i64 0,.i .i64 0,.i .i64 0] [(0,1,(.c (.s [109,112,114,111,116,101,99,116]))),(1,6,(.t 41))]),none⟩,
    ⟨(some 43),.op (.build [.i .i64 0,.i .i64 0,.i .i64 0,.i .i64 0,.i .i64 0,.i .i64 0] [(0,1,(.c (.i .i64 11))),(1,1,(.c (.i .i64 91))),(2,1,(.c (.i .i64 11))),(3,1,(.c (.i .i64 91))),(4,1,(.c (.i .i64 215))),(5,1,(.c (.i .i64 215)))]),none⟩,
    ⟨(some 44),.op (.build [.s [],.i .i64 0,.i .i64 0,.i .i64 0,.i .i64 0,.i .i64 0,.i .i64 0] [(0,1,(.c (.s [109,117,110,109,97,112]))),(1,6,(.t 43))]),none⟩,
    ⟨(some 45),.op (.build [.i .i64 0,.i .i64 0,.i .i64 0,.i .i64 0,.i .i64 0,.i .i64 0] [(0,1,(.c (.i .i64 2))),(1,1,(.c (.i .i64 5))),(2,1,(.c (.i .i64 2))),(3,1,(.c (.i .i64 5))),(4,1,(.c (.i .i64 (-1)))),(5,1,(.c (.i .i64 (-1))))]),none⟩,
    ⟨(some 46),.op (.build [.s [],.i .i64 0,.i .i64 0,.i .i64 0,.i .i64 0,.i .i64 0,.i .i64 0] [(0,1,(.c (.s [111,112,101,110]))),(1,6,(.t 45))]),none⟩,
    ⟨(some 47),.op (.build [.i .i64 0,.i .i64 0,.i .i64 0,.i .i64 0,.i .i64 0,.i .i64 0] [(0,1,(.c (.i .i64 257))),(1,1,(.c (.i .i64 295))),(2,1,(.c (.i .i64 257))),(3,1,(.c (.i .i64 322))),(4,1,(.c (.i .i64 56))),(5,1,(.c (.i .i64 56)))]),none⟩,
    ⟨(some 48),.op (.build [.s [],.i .i64 0,.i .i64 0,.i .i64 0,.i .i64 0,.i .i64 0,.i .i64 0] [(0,1,(.c (.s [111,112,101,110,97,116]))),(1,6,(.t 47))]),none⟩,
    ⟨(some 49),.op (.build [.i .i64 0,.i .i64 0,.i .i64 0,.i .i64 0,.i .i64 0,.i .i64 0] [(0,1,(.c (.i .i64 135))),(1,1,(.c (.i .i64 136))),(2,1,(.c (.i .i64 135))),(3,1,(.c (.i .i64 136))),(4,1,(.c (.i .i64 92))),(5,1,(.c (.i .i64 92)))]),none⟩,
    ⟨(some 50),.op (.build [.s [],.i .i64 0,.i .i64 0,.i .i64 0,.i .i64 0,.i .i64 0,.i .i64 0] [(0,1,(.c (.s [112,101,114,115,111,110,97,108,105,116,121]))),(1,6,(.t 49))]),none⟩,
    ⟨(some 51),.op (.build [.i .i64 0,.i .i64 0,.i .i64 0,.i .i64 0,.i .i64 0,.i .i64 0] [(0,1,(.c (.i .i64 329))),(1,1,(.c (.i .i64 380))),(2,1,(.c (.i .i64 329))),(3,1,(.c (.i .i64 394))),(4,1,(.c (.i .i64 288))),(5,1,(.c (.i .i64 (-1))))]),none⟩,
    ⟨(some 52),.op (.build [.s [],.i .i64 0,.i .i64 0,.i .i64 0,.i .i64 0,.i .i64 0,.i .i64 0] [(0,1,(.c (.s [112,107,101,121,95,109,112,114,111,116,101,99,116]))),(1,6,(.t 51))]),none⟩,
    ⟨(some 53),.op (.build [.i .i64 0,.i .i64 0,.i .i64 0,.i .i64 0,.i .i64 0,.i .i64 0] [(0,1,(.c (.i .i64 101))),(1,1,(.c (.i .i64 26))),(2,1,(.c (.i .i64 521))),(3,1,(.c (.i .i64 26))),(4,1,(.c (.i .i64 117))),(5,1,(.c (.i .i64 117)))]),none⟩,
    ⟨(some 54),.op (.build [.s [],.i .i64 0,.i .i64 0,.i .i64 0,.i .i64 0,.i .i64 0,.i .i64 0] [(0,1,(.c (.s [112,116,114,97,99,101]))),(1,6,(.t 53))]),none⟩,
    ⟨(some 55),.op (.build [.i .i64 0,.i .i64 0,.i .i64 0,.i .i64 0,.i .i64 0,.i .i64 0] [(0,1,(.c (.i .i64 0))),(1,1,(.c (.i .i64 3))),(2,1,(.c (.i .i64 0))),(3,1,(.c (.i .i64 3))),(4,1,(.c (.i .i64 63))),(5,1,(.c (.i .i64 63)))]),none⟩,
    ⟨(some 56),.op (.build [.s [],.i .i64 0,.i .i64 0,.i .i64 0,.i .i64 0,.i .i64 0,.i .i64 0] [(0,1,(.c (.s [114,101,97,100]))),(1,6,(.t 55))]),none⟩,
    ⟨(some 57),.op (.build [.i .i64 0,.i .i64 0,.i .i64 0,.i .i64 0,.i .i64 0,.i .i64 0] [(0,1,(.c (.i .i64 169))),(1,1,(.c (.i .i64 88))),(2,1,(.c (.i .i64 169))),(3,1,(.c (.i .i64 88))),(4,1,(.c (.i .i64 142))),(5,1,(.c (.i .i64 142)))]),none⟩,
    ⟨(some 58),.op (.build [.s [],.i .i64 0,.i .i64 0,.i .i64 0,.i .i64 0,.i .i64 0,.i .i64 0] [(0,1,(.c (.s [114,101,98,111,111,116]))),(1,6,(.t 57))]),none⟩,
    ⟨(some 59),.op (.build [.i .i64 0,.i .i64 0,.i .i64 0,.i .i64 0,.i .i64 0,.i .i64 0] [(0,1,(.c (.i .i64 314))),(1,1,(.c (.i .i64 351))),(2,1,(.c (.i .i64 314))),(3,1,(.c (.i .i64 380))),(4,1,(.c (.i .i64 274))),(5,1,(.c (.i .i64 274)))]),none⟩,
    ⟨(some 60),.op (.build [.s [],.i .i64 0,.i .i64 0,.i .i64 0,.i .i64 0,.i .i64 0,.i .i64 0] [(0,1,(.c (.s [115,99,104,101,100,95,115,101,116,97,116,116,114]))),(1,6,(.t 59))]),none⟩,
    ⟨(some 61),.op (.build [.i .i64 0,.i .i64 0,.i .i64 0,.i .i64 0,.i .i64 0,.i .i64 0] [(0,1,(.c (.i .i64 144))),(1,1,(.c (.i .i64 156))),(2,1,(.c (.i .i64 144))),(3,1,(.c (.i .i64 156))),(4,1,(.c (.i .i64 119))),(5,1,(.c (.i .i64 119)))]),none⟩,
    ⟨(some 62),.op (.build [.s [],.i .i64 0,.i .i64 0,.i .i64 0,.i .i64 0,.i .i64 0,.i .i64 0] [(0,1,(.c (.s [115,99,104,101,100,95,115,101,116,115,99,104,101,100,117,108,101,114]))),(1,6,(.t 61))]),none⟩,
    ⟨(some 63),.op (.build [.i .i64 0,.i .i64 0,.i .i64 0,.i .i64 0,.i .i64 0,.i .i64 0] [(0,1,(.c (.i .i64 317))),(1,1,(.c (.i .i64 354))),(2,1,(.c (.i .i64 317))),(3,1,(.c (.i .i64 383))),(4,1,(.c (.i .i64 277))),(5,1,(.c (.i .i64 277)))]),none⟩,
    ⟨(some 64),.op (.build [.s [],.i .i64 0,.i .i64 0,.i .i64 0,.i .i64 0,.i .i64 0,.i .i64 0] [(0,1,(.c (.s [115,101,99,99,111,109,112]))),(1,6,(.t 63))]),none⟩,
    ⟨(some 65),.op (.build [.i .i64 0,.i .i64 0,.i .i64 0,.i .i64 0,.i .i64 0,.i .i64 0] [(0,1,(.c (.i .i64 308))),(1,1,(.c (.i .i64 346))),(2,1,(.c (.i .i64 308))),(3,1,(.c (.i .i64 375))),(4,1,(.c (.i .i64 268))),(5,1,(.c (.i .i64 268)))]),none⟩,
    ⟨(some 66),.op (.build [.s [],.i .i64 0,.i .i64 0,.i .i64 0,.i .i64 0,.i .i64 0,.i .i64 0] [(0,1,(.c (.s [115,101,116,110,115]))),(1,6,(.t 65))]),none⟩,
    ⟨(some 67),.op (.build [.i .i64 0,.i .i64 0,.i .i64 0,.i .i64 0,.i .i64 0,.i .i64 0] [(0,1,(.c (.i .i64 164))),(1,1,(.c (.i .i64 79))),(2,1,(.c (.i .i64 164))),(3,1,(.c (.i .i64 79))),(4,1,(.c (.i .i64 170))),(5,1,(.c (.i .i64 170)))]),none⟩,
    ⟨(some 68),.op (.build [.s [],.i .i64 0,.i .i64 0,.i .i64 0,.i .i64 0,.i .i64 0,.i .i64 0] [(0,1,(.c (.s [115,101,116,116,105,109,101,111,102,100,97,121]))),(1,6,(.t 67))]),none⟩,
    ⟨(some 69),.op (.build [.i .i64 0,.i .i64 0,.i .i64 0,.i .i64 0,.i .i64 0,.i .i64 0] [(0,1,(.c (.i .i64 105))),(1,1,(.c (.i .i64 23))),(2,1,(.c (.i .i64 105))),(3,1,(.c (.i .i64 23))),(4,1,(.c (.i .i64 146))),(5,1,(.c (.i .i64 146)))]),none⟩,
    ⟨(some 70),.op (.build [.s [],.i .i64 0,.i .i64 0,.i .i64 0,.i .i64 0,.i .i64 0,.i .i64 0] [(0,1,(.c (.s [115,101,116,117,105,100]))),(1,6,(.t 69))]),none⟩,
    ⟨(some 71),.op (.build [.i .i64 0,.i .i64 0,.i .i64 0,.i .i64 0,.i .i64 0,.i .i64 0] [(0,1,(.c (.i .i64 30))),(1,1,(.c (.i .i64 397))),(2,1,(.c (.i .i64 (-1)))),(3,1,(.c (.i .i64 305))),(4,1,(.c (.i .i64 196))),(5,1,(.c (.i .i64 196)))]),none⟩,
    ⟨(some 72),.op (.build [.s [],.i .i64 0,.i .i64 0,.i .i64 0,.i .i64 0,.i .i64 0,.i .i64 0] [(0,1,(.c (.s [115,104,109,97,116]))),(1,6,(.t 71))]),none⟩,
    ⟨(some 73),.op (.build [.i .i64 0,.i .i64 0,.i .i64 0,.i .i64 0,.i .i64 0,.i .i64 0] [(0,1,(.c (.i .i64 41))),(1,1,(.c (.i .i64 359))),(2,1,(.c (.i .i64 41))),(3,1,(.c (.i .i64 281))),(4,1,(.c (.i .i64 198))),(5,1,(.c (.i .i64 198)))]),none⟩,
    ⟨(some 74),.op (.build [.s [],.i .i64 0,.i .i64 0,.i .i64 0,.i .i64 0,.i .i64 0,.i .i64 0] [(0,1,(.c (.s [115,111,99,107,101,116]))),(1,6,(.t 73))]),none⟩,
    ⟨(some 75),.op (.build [.i .i64 0,.i .i64 0,.i .i64 0,.i .i64 0,.i .i64 0,.i .i64 0] [(0,1,(.c (.i .i64 166))),(1,1,(.c (.i .i64 52))),(2,1,(.c (.i .i64 166))),(3,1,(.c (.i .i64 52))),(4,1,(.c (.i .i64 39))),(5,1,(.c (.i .i64 39)))]),none⟩,
    ⟨(some 76),.op (.build [.s [],.i .i64 0,.i .i64 0,.i .i64 0,.i .i64 0,.i .i64 0,.i .i64 0] [(0,1,(.c (.s [117,109,111,117,110,116,50]))),(1,6,(.t 75))]),none⟩,
    ⟨(some 77),.op (.build [.i .i64 0,.i .i64 0,.i .i64 0,.i .i64 0,.i .i64 0,.i .i64 0] [(0,1,(.c (.i .i64 272))),(1,1,(.c (.i .i64 310))),(2,1,(.c (.i .i64 272))),(3,1,(.c (.i .i64 337))),(4,1,(.c (.i .i64 97))),(5,1,(.c (.i .i64 97)))]),none⟩,
    ⟨(some 78),.op (.build [.s [],.i .i64 0,.i .i64 0,.i .i64 0,.i .i64 0,.i .i64 0,.i .i64 0] [(0,1,(.c (.s [117,110,115,104,97,114,101]))),(1,6,(.t 77))]),none⟩,
    ⟨(some 79),.op (.build [.i .i64 0,.i .i64 0,.i .i64 0,.i .i64 0,.i .i64 0,.i .i64 0] [(0,1,(.c (.i .i64 1))),(1,1,(.c (.i .i64 4))),(2,1,(.c (.i .i64 1))),(3,1,(.c (.i .i64 4))),(4,1,(.c (.i .i64 64))),(5,1,(.c (.i .i64 64)))]),none⟩,
    ⟨(some 80),.op (.build [.s [],.i .i64 0,.i .i64 0,.i .i64 0,.i .i64 0,.i .i64 0,.i .i64 0] [(0,1,(.c (.s [119,114,105,116,101]))),(1,6,(.t 79))]),none⟩,
    ⟨(some 81),.op (.build [.s [],.i .i64 0,.i .i64 0,.i .i64 0,.i .i64 0,.i .i64 0,.i .i64 0,.s [],.i .i64 0,.i .i64 0,.i .i64 0,.i .i64 0,.i .i64 0,.i .i64 0,.s [],.i .i64 0,.i .i64 0,.i .i64 0,.i .i64 0,.i .i64 0,.i .i64 0,.s [],.i .i64 0,.i .i64 0,.i .i64 0,.i .i64 0,.i .i64 0,.i .i64 0,.s [],.i .i64 0,.i .i64 0,.i .i64 0,.i .i64 0,.i .i64 0,.i .i64 0,.s [],.i .i64 0,.i .i64 0,.i .i64 0,.i .i64 0,.i .i64 0,.i .i64 0,.s [],.i .i64 0,.i .i64 0,.i .i64 0,.i .i64 0,.i .i64 0,.i .i64 0,.s [],.i .i64 0,.i .i64 0,.i .i64 0,.i .i64 0,.i .i64 0,.i .i64 0,.s [],.i .i64 0,.i .i64 0,.i .i64 0,.i .i64 0,.i .i64 0,.i .i64 0,.s [],.i .i64 0,.i .i64 0,.i .i64 0,.i .i64 0,.i .i64 0,.i .i64 0,.s [],.i .i64 0,.i .i64 0,.i .i64 0,.i .i64 0,.i .i64 0,.i .i64 0,.s [],.i .i64 0,.i .i64 0,.i .i64 0,.i .i64 0,.i .i64 0,.i .i64 0,.s [],.i .i64 0,.i .i64 0,.i .i64 0,.i .i64 0,.i .i64 0,.i .i64 0,.s [],.i .i64 0,.i .i64 0,.i .i64 0,.i .i64 0,.i .i64 0,.i .i64 0,.s [],.i .i64 0,.i .i64 0,.i .i64 0,.i .i64 0,.i .i64 0,.i .i64 0,.s [],.i .i64 0,.i .i64 0,.i .i64 0,.i .i64 0,.i .i64 0,.i .i64 0,.s [],.i .i64 0,.i .i64 0,.i .i64 0,.i .i64 0,.i .i64 0,.i .i64 0,.s [],.i .i64 0,.i .i64 0,.i .i64 0,.i .i64 0,.i .i64 0,.i .i64 0,.s [],.i .i64 0,.i .i64 0,.i .i64 0,.i .i64 0,.i .i64 0,.i .i64 0,.s [],.i .i64 0,.i .i64 0,.i .i64 0,.i .i64 0,.i .i64 0,.i .i64 0,.s [],.i .i64 0,.i .i64 0,.i .i64 0,.i .i64 0,.i .i64 0,.i .i64 0,.s [],.i .i64 0,.i .i64 0,.i .i64 0,.i .i64 0,.i .i64 0,.i .i64 0,.s [],.i .i64 0,.i .i64 0,.i .i64 0,.i .i64 0,.i .i64 0,.i .i64 0,.s [],.i .i64 0,.i .i64 0,.i .i64 0,.i .i64 0,.i .i64 0,.i .i64 0,.s [],.i .i64 0,.i .i64 0,.i .i64 0,.i .i64 0,.i .i64 0,.i .i64 0,.s [],.i .i64 0,.i .i64 0,.i .i64 0,.i .i64 0,.i .i64 0,.i .i64 0,.s [],.i .i64 0,.i .i64 0,.i .i64 0,.i .i64 0,.i .i64 0,.i .i64 0,.s [],.i .i64 0,.i .i64 0,.i .i64 0,.i .i64 0,.i .i64 0,.i .i64 0,.s [],.i .i64 0,.i .i64 0,.i .i64 0,.i .i64 0,.i .i64 0,.i .i64 0,.s [],.i .i64 0,.i .i64 0,.i .i64 0,.i .i64 0,.i .i64 0,.i .i64 0,.s [],.i .i64 0,.i .i64 0,.i .i64 0,.i .i64 0,.i .i64 0,.i .i64 0,.s [],.i .i64 0,.i .i64 0,.i .i64 0,.i .i64 0,.i .i64 0,.i .i64 0,.s [],.i .i64 0,.i .i64 0,.i .i64 0,.i .i64 0,.i .i64 0,.i .i64 0,.s [],.i .i64 0,.i .i64 0,.i .i64 0,.i .i64 0,.i .i64 0,.i .i64 0,.s [],.i .i64 0,.i .i64 0,.i .i64 0,.i .i64 0,.i .i64 0,.i .i64 0,.s [],.i .i64 0,.i .i64 0,.i .i64 0,.i .i64 0,.i .i64 0,.i .i64 0,.s [],.i .i64 0,.i .i64 0,.i .i64 0,.i .i64 0,.i .i64 0,.i .i64 0,.s [],.i .i64 0,.i .i64 0,.i .i64 0,.i .i64 0,.i .i64 0,.i .i64 0,.s [],.i .i64 0,.i .i64 0,.i .i64 0,.i .i64 0,.i .i64 0,.i .i64 0,.s [],.i .i64 0,.i .i64 0,.i .i64 0,.i .i64 0,.i .i64 0,.i .i64 0] [(0,7,(.t 2)),(7,7,(.t 4)),(14,7,(.t 6)),(21,7,(.t 8)),(28,7,(.t 10)),(35,7,(.t 12)),(42,7,(.t 14)),(49,7,(.t 16)),(56,7,(.t 18)),(63,7,(.t 20)),(70,7,(.t 22)),(77,7,(.t 24)),(84,7,(.t 26)),(91,7,(.t 28)),(98,7,(.t 30)),(105,7,(.t 32)),(112,7,(.t 34)),(119,7,(.t 36)),(126,7,(.t 38)),(133,7,(.t 40)),(140,7,(.t 42)),(147,7,(.t 44)),(154,7,(.t 46)),(161,7,(.t 48)),(168,7,(.t 50)),(175,7,(.t 52)),(182,7,(.t 54)),(189,7,(.t 56)),(196,7,(.t 58)),(203,7,(.t 60)),(210,7,(.t 62)),(217,7,(.t 64)),(224,7,(.t 66)),(231,7,(.t 68)),(238,7,(.t 70)),(245,7,(.t 72)),(252,7,(.t 74)),(259,7,(.t 76)),(266,7,(.t 78)),(273,7,(.t 80))]),none⟩,
    ⟨none,.op (.store 280 (.t 0) (.t 81)),none⟩])
  (.ret))⟩
set_option maxRecDepth 20000 in
theorem qfL (hc:qh P f vN = true):qg P f [] (.agg (zr.flatMap kv)):=by
  refine qg.mk hc rfl ?_
  simp only [vN,qm,H0,mkT,mkH,trL,vI,simprocAttr]
  simp only [↓vS,vT,shb,shv,qb,qc,cellsOf,wr,qa,simprocAttr,zr,kv,List.flatMap_cons,List.flatMap_nil,List.getD_cons_zero,List.getD_cons_succ,vZ]
def wR:IFn:=⟨[.tmp 3],
  .seq (.reg false [⟨(some 2),.op (.box (.t 0)),none⟩,
    ⟨(some 3),.op (.mov (.c (.b false))),none⟩])
  (.seq (.reg false [⟨(some 4),.op (.fAddr 0 (.t 2)),none⟩,
    ⟨(some 5),.op (.load1 (.t 4)),none⟩,
    ⟨(some 6),.op (.load1 (.t 1)),none⟩,
    ⟨(some 7),.op (.bin .eql (.t 5) (.t 6)),none⟩,
    ⟨(some 3),.op (.mov (.t 7)),none⟩])
  (.ret))⟩
theorem qfn (hc:qh P f wR = true) (s:List UInt8) (x:List UInt8 × List Int):qg P f [.agg (kv x),.pf [.s s] 0] (.b (decide (x.1 = s))):=by
  refine qg.mk hc (by simp [qC,clo,kv]) ?_
  simp only [wR,kv,qm,H0,mkT,mkH,trL,vI,simprocAttr]
  simp only [↓vS,vT,shb,shv,qb,qc,cellsOf,wr,qa,simprocAttr,vZ]
def kM (f_calls_table f_slices_IndexFunc_calls_call_calls_call:Nat):IFn:=⟨[.cell 2 7 true,.tmp 3],
  .seq (.reg false [⟨(some 2),.op (.alloc [.s [],.i .i64 0,.i .i64 0,.i .i64 0,.i .i64 0,.i .i64 0,.i .i64 0]),none⟩,
    ⟨(some 3),.op (.mov (.c (.b false))),none⟩])
  (.seq (.reg false [⟨(some 6),.callF f_calls_table [],none⟩,
    ⟨(some 4),.op (.alloc [.s [],.i .i64 0,.i .i64 0,.i .i64 0,.i .i64 0,.i .i64 0,.i .i64 0,.s [],.i .i64 0,.i .i64 0,.i .i64 0,.i .i64 0,.i .i64 0,.i .i64 0,.s [],.i .i64 0,.i .i64 0,.i .i64 0,.i .i64 0,.i .i64 0,.i .i64 0,.s [],.i .i64 0,.i .i64 0,.i .i64 0,.i .i64 0,.i .i64 0,.i .i64 0,.s [],.i .i64 0,.i .i64 0,.i .i64 0,.i .i64 0,.i .i64 0,.i .i64 0,.s [],.i .i64 0,.i .i64 0,.i .i64 0,.i .i64 0,.i .i64 0,.i .i64 0,.s [],.i .i64 0,.i .i64 0,.i .i64 0,.i .i64 0,.i .i64 0,.i .i64 0,.s [],.i .i64 0,.i .i64 0,.i .i64 0,.i .i64 0,.i .i64 0,.i .i64 0,.s [],.i .i64 0,.i .i64 0,.i .i64 0,.i .i64 0,.i .i64 0,.i .i64 0,.s [],.i .i64 0,.i .i64 0,.i .i64 0,.i .i64 0,.i .i64 0,.i .i64 0,.s [],.i .i64 0,.i .i64 0,.i .i64 0,.i .i64 0,.i .i64 0,.i .i64 0,.s [],.i .i64 0,.i .i64 0,.i .i64 0,.i .i64 0,.i .i64 0,.i .i64 0,.s [],.i .i64 0,.i .i64 0,.i .i64 0,.i .i64 0,.i .i64 0,.i .i64 0,.s [],.i .i64 0,.i .i64 0,.i .i64 0,.i .i64 0,.i .i64 0,.i .i64 0,.s [],.i .i64 0,.i .i64 0,.i .i64 0,.i .i64 0,.i .i64 0,.i .i64 0,.s [],.i .i64 0,.i .i64 0,.i .i64 0,.i .i64 0,.i .i64 0,.i .i64 0,.s [],.i .i64 0,.i .i64 0,.i .i64 0,.i .i64 0,.i .i64 0,.i .i64 0,.s [],.i .i64 0,.i .i64 0,.i .i64 0,.i .i64 0,.i .i64 0,.i .i64 0,.s [],.i .i64 0,.i .i64 0,.i .i64 0,.i .i64 0,.i .i64 0,.i .i64 0,.s [],.i .i64 0,.i .i64 0,.i .i64 0,.i .i64 0,.i .i64 0,.i .i64 0,.s [],.i .i64 0,.i .i64 0,.i .i64 0,.i .i64 0,.i .i64 0,.i .i64 0,.s [],.i .i64 0,.i .i64 0,.i .i64 0,.i .i64 0,.i .i64 0,.i .i64 0,.s [],.i .i64 0,.i .i64 0,.i .i64 0,.i .i64 0,.i .i64 0,.i .i64 0,.s [],.i .i64 0,.i .i64 0,.i .i64 0,.i .i64 0,.i .i64 0,.i .i64 0,.s [],.i .i64 0,.i .i64 0,.i .i64 0,.i .i64 0,.i .i64 0,.i .i64 0,.s [],.i .i64 0,.i .i64 0,.i .i64 0,.i .i64 0,.i .i64 0,.i .i64 0,.s [],.i .i64 0,.i .i64 0,.i .i64 0,.i .i64 0,.i .i64 0,.i .i64 0,.s [],.i .i64 0,.i .i64 0,.i .i64 0,.i .i64 0,.i .i64 0,.i .i64 0,.s [],.i .i64 0,.i .i64 0,.i .i64 0,.i .i64 0,.i .i64 0,.i .i64 0,.s [],.i .i64 0,.i .i64 0,.i .i64 0,.i .i64 0,.i .i64 0,.i .i64 0,.s [],.i .i64 0,.i .i64 0,.i .i64 0,.i .i64 0,.i .i64 0,.i .i64 0,.s [],.i .i64 0,.i .i64 0,.i .i64 0,.i .i64 0,.i .i64 0,.i .i64 0,.s [],.i .i64 0,.i .i64 0,.i .i64 0,.i .i64 0,.i .i64 0,.i .i64 0,.s [],.i .i64 0,.i .i64 0,.i .i64 0,.i .i64 0,.i .i64 0,.i .i64 0,.s [],.i .i64 0,.i .i64 0,.i .i64 0,.i .i64 0,.i .i64 0,.i .i64 0,.s [],.i .i64 0,.i .i64 0,.i .i64 0,.i .i64 0,.i .i64 0,.i .i64 0,.s [],.i .i64 0,.i .i64 0,.i .i64 0,.i .i64 0,.i .i64 0,.i .i64 0,.s [],.i .i64 0,.i .i64 0,.i .i64 0,.i .i64 0,.i .i64 0,.i .i64 0,.s [],.i .i64 0,.i .i64 0,.i .i64 0,.i .i64 0,.i .i64 0,.i .i64 0,.s [],.i .i64 0,.i .i64 0,.i .i64 0,.i .i64 0,.i .i64 0,.i .i64 0]),none⟩,
    ⟨none,.op (.store 280 (.t 4) (.t 6)),none⟩])
  (.seq (.reg false [⟨(some 7),.op (.slcA 40 7 (.t 4) none none none),none⟩,
    ⟨(some 8),.op (.mov (.t 0)),none⟩,
    ⟨(some 9),.callF f_slices_IndexFunc_calls_call_calls_call [(.t 7),(.t 8)],none⟩,
    ⟨(some 5),.op (.mov (.t 9)),none⟩])
  (.seq (.seq (.reg false [⟨(some 10),.op (.mov (.t 5)),none⟩,
    ⟨(some 11),.op (.bin .lss (.t 10) (.c (.i .i64 0))),none⟩])
  (.cond (.t 11) (.seq (.reg false [⟨(some 12),.op (.build [.s [],.i .i64 0,.i .i64 0,.i .i64 0,.i .i64 0,.i .i64 0,.i .i64 0] []),none⟩,
    ⟨none,.op (.store 7 (.t 2) (.t 12)),none⟩,
    ⟨(some 3),.op (.mov (.c (.b false))),none⟩])
  (.ret)) (.skip)))
  (.seq (.reg false [⟨(some 13),.op (.mov (.t 5)),none⟩,
    ⟨(some 14),.op (.iAddrA 40 7 (.t 4) (.t 13)),none⟩,
    ⟨(some 15),.op (.loadN 7 (.t 14)),none⟩,
    ⟨none,.op (.store 7 (.t 2) (.t 15)),none⟩,
    ⟨(some 3),.op (.mov (.c (.b true))),none⟩])
  (.ret)))))⟩
def qhF (p:List UInt8 × List Int → Bool):AV:=match zr.find? p with | some x=>.tup [.agg (kv x),.b true] | none=>.tup [.agg [.s [],.i .i64 0,.i .i64 0,.i .i64 0,.i .i64 0,.i .i64 0,.i .i64 0],.b false]
set_option maxRecDepth 20000 in
theorem qfO {g1 g2:Nat} (hc:qh P f (kM g1 g2) = true) (h1:qg P g1 [] (.agg (zr.flatMap kv))) (h2:qcX 7 P g2) (p:List UInt8 × List Int → Bool) (g:Nat) (a c:List AV) (ha:qC a = true) (hcc:qC c = true)
    (hp:∀ x ∈ zr,qg P g (a ++ ([.agg (kv x)] ++ c)) (.b (p x))):qg P f [.fn g a c] (qhF p):=by
  refine qg.mk hc (by simp [qC,clo,ha,hcc]) ?_
  simp only [kM,qm,H0,mkT,mkH,trL,vI,simprocAttr]
  simp only [↓vS,vT,shb,shv,qb,qc,cellsOf,wr,qa,simprocAttr]
  refine h1.sc ?_
  have hlen:(zr.flatMap kv).length = 280:=by decide
  have hok:qG (zr.flatMap kv) = true:=by decide
  have hcl:qC (zr.flatMap kv) = true:=by decide
  generalize hT:zr.flatMap kv = T at hlen hok hcl
  have htk:T.take 280 = T:=List.take_of_length_le (by omega)
  simp only [↓vS,vT,shb,shv,qb,qc,cellsOf,wr,qa,simprocAttr,hlen,hok]
  refine (h2 kv p g a c zr qeJ ha hcc (by decide) hp).lend (vs':=[.fz 40 (zr.flatMap kv),.fn g a c]) ?_ rfl ?_
  · refine .cons _ _ _ _ (.cut 7 rfl (Nat.le_refl _) ?_) (.cons _ _ _ _ (.fn _ _ _ _ _ (Frzs.self ha) (Frzs.self hcc)) .nil)
    rw [hT]
    simp [vw,hlen,htk,qF hcl]
  rcases Qs p zr 0 with ⟨e1,e2⟩ | ⟨i,x,e1,e2,e3,e4,e5⟩
  · rw [e1]
    simp only [↓vS,vT,shb,shv,qb,qc,cellsOf,wr,qa,simprocAttr]
    simp [vZ,qhF,e2]
  · have hi:i < 40:=(List.getElem?_eq_some_iff.1 e2).1
    have hn:¬ (i:Int) < 0:=by omega
    have he:(T.drop (i * 7)).take 7 = kv x:=by rw [← hT]; exact jR (f:=kv) (m:=7) qeJ e2
    have hb:i * 7 ≤ 273:=by omega
    rw [e1,Nat.zero_add]
    simp only [↓vS,vT,shb,shv,qb,qc,cellsOf,wr,qa,simprocAttr,hn,hi,he,hb,hlen,kv]
    simp [vZ,qhF,e4,kv]
def vY (f_calls_Known_1 f_calls_find:Nat):IFn:=⟨[.tmp 2],
  .seq (.reg false [⟨(some 1),.op (.box (.t 0)),none⟩,
    ⟨(some 2),.op (.mov (.c (.b false))),none⟩])
  (.seq (.reg false [⟨(some 6),.op (.mkF f_calls_Known_1 [] [(.t 1)]),none⟩,
    ⟨(some 7),.callF f_calls_find [(.t 6)],none⟩,
    ⟨(some 5),.op (.mov (.t 7)),none⟩,
    ⟨(some 8),.op (.ext (.t 5) 0),none⟩,
    ⟨(some 9),.op (.ext (.t 5) 1),none⟩,
    ⟨(some 3),.op (.alloc [.s [],.i .i64 0,.i .i64 0,.i .i64 0,.i .i64 0,.i .i64 0,.i .i64 0]),none⟩,
    ⟨none,.op (.store 7 (.t 3) (.t 8)),none⟩,
    ⟨(some 4),.op (.mov (.t 9)),none⟩])
  (.seq (.reg false [⟨(some 10),.op (.mov (.t 4)),none⟩,
    ⟨(some 2),.op (.mov (.t 10)),none⟩])
  (.ret)))⟩
def zn (s:List UInt8):Bool:=(zr.find? (fun x=>decide (x.1 = s))).isSome
theorem qf2 {g1 g2:Nat} (hc:qh P f (vY g1 g2) = true) (h1:∀ s x,qg P g1 [.agg (kv x),.pf [.s s] 0] (.b (decide (x.1 = s))))
    (h2:∀ (p:List UInt8 × List Int → Bool) (g:Nat) (a c:List AV),qC a = true → qC c = true → (∀ x ∈ zr,qg P g (a ++ ([.agg (kv x)] ++ c)) (.b (p x))) → qg P g2 [.fn g a c] (qhF p)) (s:List UInt8):qg P f [.s s] (.b (zn s)):=by
  refine qg.mk hc rfl ?_
  simp only [vY,qm,H0,mkT,mkH,trL,vI,simprocAttr]
  simp only [↓vS,vT,shb,shv,qb,qc,cellsOf,wr,qa,simprocAttr]
  refine (h2 (fun x=>decide (x.1 = s)) g1 [] [.pf [.s s] 0] rfl rfl (fun x _=>h1 s x)).lend (vs':=[.fn g1 [] [.pf [.s s] 0]]) ?_ ?_ ?_
  · simp [vZ,vP,Tr.get_set]
  · unfold qhF; split <;> rfl
  unfold qhF zn
  cases zr.find? (fun x=>decide (x.1 = s)) with
  | none =>
    simp only [↓vS,vT,shb,shv,qb,qc,cellsOf,wr,qa,simprocAttr]
    simp [vZ]
  | some x =>
    simp only [↓vS,vT,shb,shv,qb,qc,cellsOf,wr,qa,simprocAttr,kv]
    simp [vZ]
end Go.Kc
end
section
/- May a list be: what fold.May answers. Condition: the function's text is this. -/
namespace Go.Kc
variable {P:Program} {f:Nat}
def okC (c:GCall):Bool:=zn c.name && wK c.act
noncomputable def zQ:Option GCall → List GCall → Bool
  | _,[]=>true
  | o,c :: l=>okC c && (o.elim true fun b=>ltS b.name c.name) && zQ (some c) l
noncomputable def zA (l:GList):Bool:=decide (l.mode ≤ 2) && (decide (l.mode ≠ 0) || decide (l.calls = [])) && zQ none l.calls
def kt (f_calls_Known f_fold_action:Nat):ICode:=.seq (.seq (.reg false [⟨(some 19),.op (.fAddr 1 (.t 1)),none⟩,
    ⟨(some 20),.op (.load1 (.t 19)),none⟩,
    ⟨(some 21),.op (.len false (.t 20)),none⟩,
    ⟨(some 22),.op (.mov (.c (.i .i64 0))),none⟩])
  (.blk 0 (.loop (.seq (.reg false [⟨(some 23),.op (.bin .lss (.t 22) (.t 21)),none⟩])
  (.seq (.cond (.t 23) (.skip) (.exit 0))
  (.seq (.blk 1 (.seq (.reg false [⟨(some 24),.op (.mov (.t 22)),none⟩,
    ⟨(some 25),.op (.iAddrS 2 (.t 20) (.t 22)),none⟩,
    ⟨(some 26),.op (.loadN 2 (.t 25)),none⟩,
    ⟨(some 4),.op (.alloc [.s [],.i .u32 0]),none⟩,
    ⟨(some 3),.op (.mov (.t 24)),none⟩,
    ⟨none,.op (.store 2 (.t 4) (.t 26)),none⟩])
  (.seq (.reg true [⟨(some 27),.op (.fAddr 0 (.t 4)),none⟩,
    ⟨(some 28),.op (.load1 (.t 27)),none⟩,
    ⟨(some 29),.callF f_calls_Known [(.t 28)],none⟩,
    ⟨(some 30),.op (.un .not (.t 29)),none⟩,
    ⟨(some 31),.op (.mov (.t 30)),none⟩,
    ⟨(some 32),.op (.fAddr 1 (.t 4)),(some (31,false))⟩,
    ⟨(some 33),.op (.load1 (.t 32)),(some (31,false))⟩,
    ⟨(some 34),.callF f_fold_action [(.t 33)],(some (31,false))⟩,
    ⟨(some 35),.op (.un .not (.t 34)),(some (31,false))⟩,
    ⟨(some 36),.op (.pick (.t 31) (.c (.b true)) (.t 35)),none⟩,
    ⟨(some 37),.op (.mov (.t 36)),none⟩,
    ⟨(some 38),.op (.mov (.t 3)),(some (37,false))⟩,
    ⟨(some 39),.op (.bin .gtr (.t 38) (.c (.i .i64 0))),(some (37,false))⟩,
    ⟨(some 40),.op (.mov (.t 39)),(some (37,false))⟩,
    ⟨(some 41),.op (.fAddr 1 (.t 1)),(some (40,true))⟩,
    ⟨(some 42),.op (.load1 (.t 41)),(some (40,true))⟩,
    ⟨(some 43),.op (.mov (.t 3)),(some (40,true))⟩,
    ⟨(some 44),.op (.bin .sub (.t 43) (.c (.i .i64 1))),(some (40,true))⟩,
    ⟨(some 45),.op (.iAddrS 2 (.t 42) (.t 44)),(some (40,true))⟩,
    ⟨(some 46),.op (.fAddr 0 (.t 45)),(some (40,true))⟩,
    ⟨(some 47),.op (.load1 (.t 46)),(some (40,true))⟩,
    ⟨(some 48),.op (.fAddr 0 (.t 4)),(some (40,true))⟩,
    ⟨(some 49),.op (.load1 (.t 48)),(some (40,true))⟩,
    ⟨(some 50),.op (.bin .geq (.t 47) (.t 49)),(some (40,true))⟩,
    ⟨(some 51),.op (.pick (.t 40) (.t 50) (.c (.b false))),(some (37,false))⟩,
    ⟨(some 52),.op (.pick (.t 37) (.c (.b true)) (.t 51)),none⟩])
  (.cond (.t 52) (.seq (.reg false [⟨(some 2),.op (.mov (.c (.b false))),none⟩])
  (.ret)) (.skip)))))
  (.reg false [⟨(some 53),.op (.bin .add (.t 22) (.c (.i .i64 1))),none⟩,
    ⟨(some 22),.op (.mov (.t 53)),none⟩])))))))
  (.seq (.reg false [⟨(some 2),.op (.mov (.c (.b true))),none⟩])
  (.ret))
def Qf (f_calls_Known f_fold_action:Nat):IFn:=⟨[.tmp 2],
  .seq (.reg false [⟨(some 1),.op (.box (.t 0)),none⟩,
    ⟨(some 2),.op (.mov (.c (.b false))),none⟩])
  (.seq (.seq (.reg false [⟨(some 5),.op (.fAddr 0 (.t 1)),none⟩,
    ⟨(some 6),.op (.load1 (.t 5)),none⟩,
    ⟨(some 7),.op (.bin .gtr (.t 6) (.c (.i .u8 2))),none⟩,
    ⟨(some 8),.op (.mov (.t 7)),none⟩,
    ⟨(some 9),.op (.fAddr 0 (.t 1)),(some (8,false))⟩,
    ⟨(some 10),.op (.load1 (.t 9)),(some (8,false))⟩,
    ⟨(some 11),.op (.bin .eql (.t 10) (.c (.i .u8 0))),(some (8,false))⟩,
    ⟨(some 12),.op (.mov (.t 11)),(some (8,false))⟩,
    ⟨(some 13),.op (.fAddr 1 (.t 1)),(some (12,true))⟩,
    ⟨(some 14),.op (.load1 (.t 13)),(some (12,true))⟩,
    ⟨(some 15),.op (.len false (.t 14)),(some (12,true))⟩,
    ⟨(some 16),.op (.bin .gtr (.t 15) (.c (.i .i64 0))),(some (12,true))⟩,
    ⟨(some 17),.op (.pick (.t 12) (.t 16) (.c (.b false))),(some (8,false))⟩,
    ⟨(some 18),.op (.pick (.t 8) (.c (.b true)) (.t 17)),none⟩])
  (.cond (.t 18) (.seq (.reg false [⟨(some 2),.op (.mov (.c (.b false))),none⟩])
  (.ret)) (.skip)))
  (.cut (kt f_calls_Known f_fold_action)))⟩
theorem qjV {g1 g2:Nat} (h1:∀ s,qg P g1 [.s s] (.b (zn s))) (h2:∀ n,qg P g2 [.i .u32 n] (.b (wK n))) (l:GList) (hl:l.calls.length ≤ 100000) {t':Tr AV} {h':Hp} (hw:Wk 0 t' h' (mkT [(1,.ptr 0 0),(2,.b false)]) (mkH 0 [.cells 0 true false (qk l)])) :
    S P 0 (kt g1 g2) (kc [.tmp 2] fun v' h'=>Frz h' v' (.b (zQ none l.calls))) t' h':=by
  refine S.weak hw (qy ?_)
  simp only [kt,qk,qm,H0,mkT,mkH,trL,vI,simprocAttr]
  simp only [↓vS,vT,shb,shv,qb,qc,cellsOf,wr,qa,simprocAttr]
  refine SL.loop (α:=Nat) (fun j=>[(1,.ptr 0 0),(2,.b false),(20,.fz l.calls.length (rC l.calls)),(21,.i .i64 l.calls.length),(22,.i .i64 j)]) (fun _=>[.cells 0 true false (qk l)])
    (fun j=>j ≤ l.calls.length ∧ zQ none l.calls = zQ (if j = 0 then none else l.calls[j - 1]?) (l.calls.drop j)) (fun j=>l.calls.length - j) 0 [0] ?_ ?_ ?_ rfl ?_ ?_
  · simp [vw,qd]
  · simp [vw,qk]
  · simp
  · exact ⟨Nat.zero_le _,rfl⟩
  rintro j ⟨hj,hI⟩ G ih
  simp only [qm,H0,mkT,mkH,trL,vI,simprocAttr,qk]
  by_cases hlt:j < l.calls.length
  · have hx : l.calls[j]? = some l.calls[j]:=List.getElem?_eq_getElem hlt
    have he:=kG hx
    have hb:=kp hlt
    have hw:IntKind.wrap .i64 ((j:Int) + 1) = ((j + 1:Nat):Int):=by rw [qE (by omega) (by omega)]; omega
    rw [List.drop_eq_getElem_cons hlt,zQ] at hI
    have hnx:l.calls[j]? = some l.calls[j]:=hx
    generalize hc0:l.calls[j] = c at hI he hx
    simp only [↓vS,vT,shb,shv,qb,qc,cellsOf,wr,qa,simprocAttr,hlt,hb,he,j7]
    refine zU ?_
    simp only [↓vS,vT,shb,shv,qb,qc,cellsOf,wr,qa,simprocAttr]
    refine (h1 c.name).pc ?_
    cases hk:zn c.name with
    | false =>
      have hw:zQ none l.calls = false:=by rw [hI]; simp [okC,hk]
      simp only [↓vS,vT,shb,shv,qb,qc,cellsOf,wr,qa,simprocAttr]
      simp [vZ,hw]
    | true =>
      simp only [↓vS,vT,shb,shv,qb,qc,cellsOf,wr,qa,simprocAttr]
      refine (h2 c.act).pc ?_
      cases hac:wK c.act with
      | false =>
        have hw:zQ none l.calls = false:=by rw [hI]; simp [okC,hac]
        simp only [↓vS,vT,shb,shv,qb,qc,cellsOf,wr,qa,simprocAttr]
        simp [vZ,hw]
      | true =>
        have hok:okC c = true:=by simp [okC,hk,hac]
        by_cases h0:j = 0
        · subst h0
          have hn:¬ (0:Int) < ((0:Nat):Int):=by decide
          simp only [↓vS,vT,shb,shv,qb,qc,cellsOf,wr,qa,simprocAttr,hn,hw]
          refine ih 1 ⟨by omega,?_⟩ (by omega) _ _ (Wk.mk _ _ [0] ?_ ?_ ?_ rfl)
          · rw [hI,hok]; simp [hx]
          · simp [vw,qd]
            exact qE (by decide) (by decide)
          · simp [vw,qk]
          · simp
        · have hp:(0:Int) < (j:Int):=by omega
          have hpl:j - 1 < l.calls.length:=by omega
          have hy:l.calls[j - 1]? = some l.calls[j - 1]:=List.getElem?_eq_getElem hpl
          have hw2:IntKind.wrap .i64 ((j:Int) - 1) = ((j - 1:Nat):Int):=by rw [qE (by omega) (by omega)]; omega
          have g0:(rC l.calls)[(j - 1) * 2]? = some (.s l.calls[j - 1].name):=qah hy (i:=0) (by decide)
          rw [if_neg h0,hy] at hI
          cases hlt2:ltS l.calls[j - 1].name c.name with
          | false =>
            have hwf:zQ none l.calls = false:=by rw [hI]; simp [hlt2]
            simp only [↓vS,vT,shb,shv,qb,qc,cellsOf,wr,qa,simprocAttr,hp,hw2,hpl,g0,hlt2]
            simp [vZ,hwf]
          | true =>
            simp only [↓vS,vT,shb,shv,qb,qc,cellsOf,wr,qa,simprocAttr,hp,hw2,hpl,g0,hlt2,hw]
            refine ih (j + 1) ⟨by omega,?_⟩ (by omega) _ _ (Wk.mk _ _ [0] ?_ ?_ ?_ rfl)
            · rw [hI,hok]; simp [hlt2,hx]
            · simp [vw,qd]
            · simp [vw,qk]
            · simp
  · rw [List.drop_of_length_le (by omega),zQ] at hI
    simp only [↓vS,vT,shb,shv,qb,qc,cellsOf,wr,qa,simprocAttr,hlt]
    simp [vZ,hI]
theorem qkq {g1 g2:Nat} (hc:qh P f (Qf g1 g2) = true) (h1:∀ s,qg P g1 [.s s] (.b (zn s))) (h2:∀ n,qg P g2 [.i .u32 n] (.b (wK n))) (l:GList) (hl:l.calls.length ≤ 100000):qg P f [.agg (qk l)] (.b (zA l)):=by
  refine qg.mk hc rfl ?_
  simp only [Qf,qk,qm,H0,mkT,mkH,trL,vI,simprocAttr]
  by_cases m1:2 < l.mode
  · have hw:zA l = false:=by simp [zA]; omega
    simp only [↓vS,vT,shb,shv,qb,qc,cellsOf,wr,qa,simprocAttr,m1]
    simp [vZ,hw]
  have tail:(l.mode ≠ 0 ∨ l.calls = []) → zA l = zQ none l.calls:=fun h=>by
    have:(decide (l.mode ≤ 2) && (decide (l.mode ≠ 0) || decide (l.calls = []))) = true:=by
      simp only [Bool.and_eq_true,Bool.or_eq_true,decide_eq_true_eq]; exact ⟨by omega,h⟩
    unfold zA; rw [this]; rfl
  by_cases m2:l.mode = 0
  · by_cases m3:(0:Int) < l.calls.length
    · have hne:l.calls ≠ []:=by intro h; rw [h] at m3; simp at m3
      have hw:zA l = false:=by simp [zA,m2,hne]
      simp only [↓vS,vT,shb,shv,qb,qc,cellsOf,wr,qa,simprocAttr,m1,m2,m3]
      simp [vZ,hw]
    · have hz:l.calls = []:=List.eq_nil_of_length_eq_zero (by omega)
      rw [tail (.inr hz)]
      simp only [↓vS,vT,shb,shv,qb,qc,cellsOf,wr,qa,simprocAttr,m1,m2,m3]
      refine qjV h1 h2 l hl (Wk.mk _ _ [0] ?_ ?_ ?_ rfl)
      · simp [vw]
      · simp [vw,qk,m2]
      · simp
  · rw [tail (.inl m2)]
    simp only [↓vS,vT,shb,shv,qb,qc,cellsOf,wr,qa,simprocAttr,m1,m2]
    refine qjV h1 h2 l hl (Wk.mk _ _ [0] ?_ ?_ ?_ rfl)
    · simp [vw]
    · simp [vw,qk]
    · simp
end Go.Kc
end
section
/- What fold.Put and fold.Take answer. Condition: the functions' texts are these. -/
namespace Go.Kc
variable {P:Program} {f:Nat}
noncomputable def jF (l:GList) (s:List UInt8):GList:=if zA l = true then ⟨l.mode,l.calls.filter fun c=>!decide (c.name = s)⟩ else l
def qmF (P:Program) (f:Nat):Prop:=∀ l:GList,l.calls.length ≤ 100000 → Own P f [.agg (qk l)] (.agg [.i .u8 l.mode,.own 0 l.calls.length]) [.cells 2 true true (rC l.calls)]
def qkR (P:Program) (f:Nat):Prop:=∀ l:GList,l.calls.length ≤ 100000 → qg P f [.agg (qk l)] (.b (zA l))
def yI (f_fold_copied f_fold_May f_fold_Take_1 f_slices_DeleteFunc_api_Call_api_Call:Nat):ICode:=.seq (.seq (.reg false [⟨(some 7),.op (.loadN 2 (.t 2)),none⟩,
    ⟨(some 8),.callF f_fold_May [(.t 7)],none⟩])
  (.cond (.t 8) (.reg false [⟨(some 9),.op (.fAddr 1 (.t 2)),none⟩,
    ⟨(some 10),.op (.load1 (.t 9)),none⟩,
    ⟨(some 11),.op (.mkF f_fold_Take_1 [] [(.t 3)]),none⟩,
    ⟨(some 12),.callF f_slices_DeleteFunc_api_Call_api_Call [(.t 10),(.t 11)],none⟩,
    ⟨(some 13),.op (.fAddr 1 (.t 2)),none⟩,
    ⟨none,.op (.store 1 (.t 13) (.t 12)),none⟩]) (.skip)))
  (.seq (.reg false [⟨(some 14),.op (.loadN 2 (.t 2)),none⟩,
    ⟨none,.op (.store 2 (.t 4) (.t 14)),none⟩])
  (.ret))
def yl (f_fold_copied f_fold_May f_fold_Take_1 f_slices_DeleteFunc_api_Call_api_Call:Nat):IFn:=⟨[.cell 4 2 true],
  .seq (.reg false [⟨(some 2),.op (.box (.t 0)),none⟩,
    ⟨(some 3),.op (.box (.t 1)),none⟩,
    ⟨(some 4),.op (.alloc [.i .u8 0,.nils]),none⟩])
  (.seq (.reg false [⟨(some 5),.op (.loadN 2 (.t 2)),none⟩,
    ⟨(some 6),.callF f_fold_copied [(.t 5)],none⟩,
    ⟨none,.op (.store 2 (.t 2) (.t 6)),none⟩])
  (.cut (yI f_fold_copied f_fold_May f_fold_Take_1 f_slices_DeleteFunc_api_Call_api_Call)))⟩
noncomputable def qaS (l:List GCall) (s:List UInt8) (n:Int):List GCall :=
  if (l[bsC l (fun c=>zz c.name s)]?).elim false (fun c=>decide (zz c.name s = 0)) = true then l.set (bsC l (fun c=>zz c.name s)) ⟨s,n⟩
  else l.take (bsC l (fun c=>zz c.name s)) ++ ⟨s,n⟩ :: l.drop (bsC l (fun c=>zz c.name s))
noncomputable def wZ (l:GList) (s:List UInt8) (n:Int):GList:=if zA l = true then ⟨l.mode,qaS l.calls s n⟩ else l
def yN (f_fold_copied f_fold_May f_slices_BinarySearchFunc_api_Call_api_Call_string f_fold_Put_1 f_slices_Insert_api_Call_api_Call:Nat):ICode:=.seq (.seq (.reg false [⟨(some 12),.op (.loadN 2 (.t 3)),none⟩,
    ⟨(some 13),.callF f_fold_May [(.t 12)],none⟩,
    ⟨(some 14),.op (.un .not (.t 13)),none⟩])
  (.cond (.t 14) (.seq (.reg false [⟨(some 15),.op (.loadN 2 (.t 3)),none⟩,
    ⟨none,.op (.store 2 (.t 6) (.t 15)),none⟩])
  (.ret)) (.skip)))
  (.seq (.reg false [⟨(some 16),.op (.mov (.t 1)),none⟩,
    ⟨(some 17),.op (.mov (.t 2)),none⟩,
    ⟨(some 18),.op (.build [.s [],.i .u32 0] [(0,1,(.t 16)),(1,1,(.t 17))]),none⟩,
    ⟨(some 7),.op (.alloc [.s [],.i .u32 0]),none⟩,
    ⟨none,.op (.store 2 (.t 7) (.t 18)),none⟩])
  (.seq (.reg false [⟨(some 20),.op (.fAddr 1 (.t 3)),none⟩,
    ⟨(some 21),.op (.load1 (.t 20)),none⟩,
    ⟨(some 22),.op (.mov (.t 1)),none⟩,
    ⟨(some 23),.callF f_slices_BinarySearchFunc_api_Call_api_Call_string [(.t 21),(.t 22),(.c (.fn f_fold_Put_1 [] []))],none⟩,
    ⟨(some 19),.op (.mov (.t 23)),none⟩,
    ⟨(some 24),.op (.ext (.t 19) 0),none⟩,
    ⟨(some 25),.op (.ext (.t 19) 1),none⟩,
    ⟨(some 8),.op (.mov (.t 24)),none⟩,
    ⟨(some 9),.op (.mov (.t 25)),none⟩])
  (.seq (.seq (.reg false [⟨(some 26),.op (.mov (.t 9)),none⟩])
  (.cond (.t 26) (.reg false [⟨(some 27),.op (.fAddr 1 (.t 3)),none⟩,
    ⟨(some 28),.op (.load1 (.t 27)),none⟩,
    ⟨(some 29),.op (.mov (.t 8)),none⟩,
    ⟨(some 30),.op (.loadN 2 (.t 7)),none⟩,
    ⟨(some 31),.op (.iAddrS 2 (.t 28) (.t 29)),none⟩,
    ⟨none,.op (.store 2 (.t 31) (.t 30)),none⟩]) (.reg false [⟨(some 32),.op (.fAddr 1 (.t 3)),none⟩,
    ⟨(some 33),.op (.load1 (.t 32)),none⟩,
    ⟨(some 34),.op (.mov (.t 8)),none⟩,
    ⟨(some 35),.op (.loadN 2 (.t 7)),none⟩,
    ⟨(some 36),.op (.buildS 1 [.s [],.i .u32 0] [(0,2,(.t 35))]),none⟩,
    ⟨(some 37),.callF f_slices_Insert_api_Call_api_Call [(.t 33),(.t 34),(.t 36)],none⟩,
    ⟨(some 38),.op (.fAddr 1 (.t 3)),none⟩,
    ⟨none,.op (.store 1 (.t 38) (.t 37)),none⟩])))
  (.seq (.reg false [⟨(some 39),.op (.loadN 2 (.t 3)),none⟩,
    ⟨none,.op (.store 2 (.t 6) (.t 39)),none⟩])
  (.ret)))))
def Qa (f_fold_copied f_fold_May f_slices_BinarySearchFunc_api_Call_api_Call_string f_fold_Put_1 f_slices_Insert_api_Call_api_Call:Nat):IFn:=⟨[.cell 6 2 true],
  .seq (.reg false [⟨(some 3),.op (.box (.t 0)),none⟩,
    ⟨(some 6),.op (.alloc [.i .u8 0,.nils]),none⟩])
  (.seq (.reg false [⟨(some 10),.op (.loadN 2 (.t 3)),none⟩,
    ⟨(some 11),.callF f_fold_copied [(.t 10)],none⟩,
    ⟨none,.op (.store 2 (.t 3) (.t 11)),none⟩])
  (.cut (yN f_fold_copied f_fold_May f_slices_BinarySearchFunc_api_Call_api_Call_string f_fold_Put_1 f_slices_Insert_api_Call_api_Call)))⟩
end Go.Kc
end
