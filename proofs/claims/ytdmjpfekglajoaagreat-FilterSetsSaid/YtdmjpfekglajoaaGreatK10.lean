/- Part 10 of the abstract machine and of the functions' walks. Conditions: with each theorem. -/
import Derived.Test.YtdmjpfekglajoaaGreatK9
set_option linter.unusedSimpArgs false
set_option linter.unusedVariables false
set_option linter.unnecessarySimpa false
section
/- What the document's functions of stage 17 answer. Condition: the functions' texts are these. -/
namespace Go.Kc
variable {P:Program} {f:Nat}
def wv (f_vestibuleref16_Same:Nat):IFn:=⟨[.tmp 4],
  .seq (.reg false [⟨(some 2),.op (.box (.t 0)),none⟩,
    ⟨(some 3),.op (.box (.t 1)),none⟩,
    ⟨(some 4),.op (.mov (.c (.b false))),none⟩])
  (.seq (.seq (.reg false [⟨(some 7),.op (.fAddr 0 (.t 2)),none⟩,
    ⟨(some 8),.op (.load1 (.t 7)),none⟩,
    ⟨(some 9),.op (.len false (.t 8)),none⟩,
    ⟨(some 10),.op (.fAddr 0 (.t 3)),none⟩,
    ⟨(some 11),.op (.load1 (.t 10)),none⟩,
    ⟨(some 12),.op (.len false (.t 11)),none⟩,
    ⟨(some 13),.op (.bin .neq (.t 9) (.t 12)),none⟩,
    ⟨(some 14),.op (.mov (.t 13)),none⟩,
    ⟨(some 15),.op (.fAddr 6 (.t 2)),(some (14,false))⟩,
    ⟨(some 16),.op (.load1 (.t 15)),(some (14,false))⟩,
    ⟨(some 17),.op (.len false (.t 16)),(some (14,false))⟩,
    ⟨(some 18),.op (.fAddr 6 (.t 3)),(some (14,false))⟩,
    ⟨(some 19),.op (.load1 (.t 18)),(some (14,false))⟩,
    ⟨(some 20),.op (.len false (.t 19)),(some (14,false))⟩,
    ⟨(some 21),.op (.bin .neq (.t 17) (.t 20)),(some (14,false))⟩,
    ⟨(some 22),.op (.pick (.t 14) (.c (.b true)) (.t 21)),none⟩])
  (.cond (.t 22) (.seq (.reg false [⟨(some 4),.op (.mov (.c (.b false))),none⟩])
  (.ret)) (.skip)))
  (.seq (.seq (.reg false [⟨(some 5),.op (.mov (.c (.i .i64 0))),none⟩])
  (.blk 0 (.loop (.seq (.seq (.reg false [⟨(some 23),.op (.mov (.t 5)),none⟩,
    ⟨(some 24),.op (.fAddr 0 (.t 2)),none⟩,
    ⟨(some 25),.op (.load1 (.t 24)),none⟩,
    ⟨(some 26),.op (.len false (.t 25)),none⟩,
    ⟨(some 27),.op (.bin .lss (.t 23) (.t 26)),none⟩])
  (.cond (.t 27) (.skip) (.exit 0)))
  (.seq (.blk 1 (.seq (.reg true [⟨(some 30),.op (.fAddr 0 (.t 2)),none⟩,
    ⟨(some 31),.op (.load1 (.t 30)),none⟩,
    ⟨(some 32),.op (.mov (.t 5)),none⟩,
    ⟨(some 33),.op (.iAddrS 1 (.t 31) (.t 32)),none⟩,
    ⟨(some 34),.op (.load1 (.t 33)),none⟩,
    ⟨(some 35),.op (.fAddr 0 (.t 3)),none⟩,
    ⟨(some 36),.op (.load1 (.t 35)),none⟩,
    ⟨(some 37),.op (.mov (.t 5)),none⟩,
    ⟨(some 38),.op (.iAddrS 1 (.t 36) (.t 37)),none⟩,
    ⟨(some 39),.op (.load1 (.t 38)),none⟩,
    ⟨(some 40),.op (.bin .neq (.t 34) (.t 39)),none⟩])
  (.cond (.t 40) (.seq (.reg false [⟨(some 4),.op (.mov (.c (.b false))),none⟩])
  (.ret)) (.skip))))
  (.reg false [⟨(some 28),.op (.mov (.t 5)),none⟩,
    ⟨(some 29),.op (.bin .add (.t 28) (.c (.i .i64 1))),none⟩,
    ⟨(some 5),.op (.mov (.t 29)),none⟩]))))))
  (.seq (.seq (.reg false [⟨(some 6),.op (.mov (.c (.i .i64 0))),none⟩])
  (.blk 2 (.loop (.seq (.seq (.reg false [⟨(some 41),.op (.mov (.t 6)),none⟩,
    ⟨(some 42),.op (.fAddr 6 (.t 2)),none⟩,
    ⟨(some 43),.op (.load1 (.t 42)),none⟩,
    ⟨(some 44),.op (.len false (.t 43)),none⟩,
    ⟨(some 45),.op (.bin .lss (.t 41) (.t 44)),none⟩])
  (.cond (.t 45) (.skip) (.exit 2)))
  (.seq (.blk 3 (.seq (.reg true [⟨(some 48),.op (.fAddr 6 (.t 2)),none⟩,
    ⟨(some 49),.op (.load1 (.t 48)),none⟩,
    ⟨(some 50),.op (.mov (.t 6)),none⟩,
    ⟨(some 51),.op (.iAddrS 1 (.t 49) (.t 50)),none⟩,
    ⟨(some 52),.op (.load1 (.t 51)),none⟩,
    ⟨(some 53),.op (.fAddr 6 (.t 3)),none⟩,
    ⟨(some 54),.op (.load1 (.t 53)),none⟩,
    ⟨(some 55),.op (.mov (.t 6)),none⟩,
    ⟨(some 56),.op (.iAddrS 1 (.t 54) (.t 55)),none⟩,
    ⟨(some 57),.op (.load1 (.t 56)),none⟩,
    ⟨(some 58),.op (.bin .neq (.t 52) (.t 57)),none⟩])
  (.cond (.t 58) (.seq (.reg false [⟨(some 4),.op (.mov (.c (.b false))),none⟩])
  (.ret)) (.skip))))
  (.reg false [⟨(some 46),.op (.mov (.t 6)),none⟩,
    ⟨(some 47),.op (.bin .add (.t 46) (.c (.i .i64 1))),none⟩,
    ⟨(some 6),.op (.mov (.t 47)),none⟩]))))))
  (.seq (.reg false [⟨(some 59),.op (.fAddr 1 (.t 2)),none⟩,
    ⟨(some 60),.op (.loadN 2 (.t 59)),none⟩,
    ⟨(some 61),.op (.fAddr 1 (.t 3)),none⟩,
    ⟨(some 62),.op (.loadN 2 (.t 61)),none⟩,
    ⟨(some 63),.callF f_vestibuleref16_Same [(.t 60),(.t 62)],none⟩,
    ⟨(some 64),.op (.mov (.t 63)),none⟩,
    ⟨(some 65),.op (.fAddr 4 (.t 2)),(some (64,true))⟩,
    ⟨(some 66),.op (.loadN 2 (.t 65)),(some (64,true))⟩,
    ⟨(some 67),.op (.fAddr 4 (.t 3)),(some (64,true))⟩,
    ⟨(some 68),.op (.loadN 2 (.t 67)),(some (64,true))⟩,
    ⟨(some 69),.callF f_vestibuleref16_Same [(.t 66),(.t 68)],(some (64,true))⟩,
    ⟨(some 70),.op (.pick (.t 64) (.t 69) (.c (.b false))),none⟩,
    ⟨(some 71),.op (.mov (.t 70)),none⟩,
    ⟨(some 72),.op (.fAddr 3 (.t 2)),(some (71,true))⟩,
    ⟨(some 73),.op (.load1 (.t 72)),(some (71,true))⟩,
    ⟨(some 74),.op (.fAddr 3 (.t 3)),(some (71,true))⟩,
    ⟨(some 75),.op (.load1 (.t 74)),(some (71,true))⟩,
    ⟨(some 76),.op (.bin .eql (.t 73) (.t 75)),(some (71,true))⟩,
    ⟨(some 77),.op (.pick (.t 71) (.t 76) (.c (.b false))),none⟩,
    ⟨(some 78),.op (.mov (.t 77)),none⟩,
    ⟨(some 79),.op (.fAddr 7 (.t 2)),(some (78,true))⟩,
    ⟨(some 80),.op (.load1 (.t 79)),(some (78,true))⟩,
    ⟨(some 81),.op (.fAddr 7 (.t 3)),(some (78,true))⟩,
    ⟨(some 82),.op (.load1 (.t 81)),(some (78,true))⟩,
    ⟨(some 83),.op (.bin .eql (.t 80) (.t 82)),(some (78,true))⟩,
    ⟨(some 84),.op (.pick (.t 78) (.t 83) (.c (.b false))),none⟩,
    ⟨(some 85),.op (.mov (.t 84)),none⟩,
    ⟨(some 86),.op (.fAddr 8 (.t 2)),(some (85,true))⟩,
    ⟨(some 87),.op (.load1 (.t 86)),(some (85,true))⟩,
    ⟨(some 88),.op (.fAddr 8 (.t 3)),(some (85,true))⟩,
    ⟨(some 89),.op (.load1 (.t 88)),(some (85,true))⟩,
    ⟨(some 90),.op (.bin .eql (.t 87) (.t 89)),(some (85,true))⟩,
    ⟨(some 91),.op (.pick (.t 85) (.t 90) (.c (.b false))),none⟩,
    ⟨(some 92),.op (.mov (.t 91)),none⟩,
    ⟨(some 93),.op (.fAddr 9 (.t 2)),(some (92,true))⟩,
    ⟨(some 94),.op (.load1 (.t 93)),(some (92,true))⟩,
    ⟨(some 95),.op (.fAddr 9 (.t 3)),(some (92,true))⟩,
    ⟨(some 96),.op (.load1 (.t 95)),(some (92,true))⟩,
    ⟨(some 97),.op (.eqB false (.t 94) (.t 96)),(some (92,true))⟩,
    ⟨(some 98),.op (.pick (.t 92) (.t 97) (.c (.b false))),none⟩,
    ⟨(some 99),.op (.mov (.t 98)),none⟩,
    ⟨(some 100),.op (.fAddr 10 (.t 2)),(some (99,true))⟩,
    ⟨(some 101),.op (.load1 (.t 100)),(some (99,true))⟩,
    ⟨(some 102),.op (.fAddr 10 (.t 3)),(some (99,true))⟩,
    ⟨(some 103),.op (.load1 (.t 102)),(some (99,true))⟩,
    ⟨(some 104),.op (.eqB false (.t 101) (.t 103)),(some (99,true))⟩,
    ⟨(some 105),.op (.pick (.t 99) (.t 104) (.c (.b false))),none⟩,
    ⟨(some 106),.op (.mov (.t 105)),none⟩,
    ⟨(some 107),.op (.fAddr 11 (.t 2)),(some (106,true))⟩,
    ⟨(some 108),.op (.load1 (.t 107)),(some (106,true))⟩,
    ⟨(some 109),.op (.fAddr 11 (.t 3)),(some (106,true))⟩,
    ⟨(some 110),.op (.load1 (.t 109)),(some (106,true))⟩,
    ⟨(some 111),.op (.eqB false (.t 108) (.t 110)),(some (106,true))⟩,
    ⟨(some 112),.op (.pick (.t 106) (.t 111) (.c (.b false))),none⟩,
    ⟨(some 113),.op (.mov (.t 112)),none⟩,
    ⟨(some 114),.op (.fAddr 12 (.t 2)),(some (113,true))⟩,
    ⟨(some 115),.op (.load1 (.t 114)),(some (113,true))⟩,
    ⟨(some 116),.op (.fAddr 12 (.t 3)),(some (113,true))⟩,
    ⟨(some 117),.op (.load1 (.t 116)),(some (113,true))⟩,
    ⟨(some 118),.op (.eqB false (.t 115) (.t 117)),(some (113,true))⟩,
    ⟨(some 119),.op (.pick (.t 113) (.t 118) (.c (.b false))),none⟩,
    ⟨(some 4),.op (.mov (.t 119)),none⟩])
  (.ret)))))⟩
set_option maxRecDepth 8000 in
theorem qol {g:Nat} (hc:qh P f (wv g) = true) (hg:qoU P g) (p:Pol) (hp:PolOk p):qg P f [.agg (zV p),.agg (zV p)] (.b true):=by
  have ha:=hp.a
  have hf:=hp.f
  have hcc:=hp.c
  have hll:=hp.l
  refine qg.mk hc rfl ?_
  simp only [wv,zV,qm,H0,mkT,mkH,trL,vI,simprocAttr]
  simp (decide:=true) only [↓vS,vT,shb,shv,qb,qc,cellsOf,wr,qa,simprocAttr]
  refine SL.loop (α:=Nat) (fun j=>[(2,.ptr 0 0),(3,.ptr 1 0),(5,.i .i64 j)]) (fun _=>[.cells 0 true false (zV p),.cells 0 true false (zV p)]) (fun j=>j ≤ p.arches.length) (fun j=>p.arches.length - j) 0 [0,1] ?_ ?_ ?_ rfl ?_ ?_
  · simp [vw]
  · simp [vw,zV]
  · simp
  · exact Nat.zero_le _
  rintro j hj G ih
  simp only [qm,H0,mkT,mkH,trL,vI,simprocAttr,zV]
  by_cases hlt:j < p.arches.length
  · have hx:p.arches[j]? = some p.arches[j]:=List.getElem?_eq_getElem hlt
    have hw:IntKind.wrap .i64 ((j:Int) + 1) = ((j + 1:Nat):Int):=by rw [qE (by omega) (by omega)]; omega
    simp only [↓vS,vT,shb,shv,qb,qc,cellsOf,wr,qa,simprocAttr,hlt]
    refine zU ?_
    simp (decide:=true) only [↓vS,vT,shb,shv,qb,qc,cellsOf,wr,qa,simprocAttr,hlt,Nat.mul_one,qjU,hx,Option.map_some,hw,ne_eq,not_true_eq_false]
    refine ih (j + 1) (by omega) (by omega) _ _ (Wk.mk _ _ [0,1] ?_ ?_ ?_ rfl)
    · simp [vw]
    · simp [vw,zV]
    · simp
  simp only [↓vS,vT,shb,shv,qb,qc,cellsOf,wr,qa,simprocAttr,hlt]
  clear ih
  refine SL.loop (α:=Nat) (fun j=>[(2,.ptr 0 0),(3,.ptr 1 0),(6,.i .i64 j)]) (fun _=>[.cells 0 true false (zV p),.cells 0 true false (zV p)]) (fun j=>j ≤ p.fams.length) (fun j=>p.fams.length - j) 0 [0,1] ?_ ?_ ?_ rfl ?_ ?_
  · simp [vw]
  · simp [vw,zV]
  · simp
  · exact Nat.zero_le _
  rintro j hj G ih
  simp only [qm,H0,mkT,mkH,trL,vI,simprocAttr,zV]
  by_cases hlt:j < p.fams.length
  · have hx:p.fams[j]? = some p.fams[j]:=List.getElem?_eq_getElem hlt
    have hw:IntKind.wrap .i64 ((j:Int) + 1) = ((j + 1:Nat):Int):=by rw [qE (by omega) (by omega)]; omega
    simp only [↓vS,vT,shb,shv,qb,qc,cellsOf,wr,qa,simprocAttr,hlt]
    refine zU ?_
    simp (decide:=true) only [↓vS,vT,shb,shv,qb,qc,cellsOf,wr,qa,simprocAttr,hlt,Nat.mul_one,qjU,hx,Option.map_some,hw,ne_eq,not_true_eq_false]
    refine ih (j + 1) (by omega) (by omega) _ _ (Wk.mk _ _ [0,1] ?_ ?_ ?_ rfl)
    · simp [vw]
    · simp [vw,zV]
    · simp
  simp only [↓vS,vT,shb,shv,qb,qc,cellsOf,wr,qa,simprocAttr,hlt]
  refine (hg p.filter (by omega)).sc ?_
  simp only [↓vS,vT,shb,shv,qb,qc,cellsOf,wr,qa,simprocAttr]
  refine (hg p.log (by omega)).sc ?_
  simp (decide:=true) only [↓vS,vT,shb,shv,qb,qc,cellsOf,wr,qa,simprocAttr,beq_self_eq_true]
  simp [vZ]
def j8:IFn:=⟨[.tmp 2],
  .seq (.reg false [⟨(some 2),.op (.mov (.c (.s []))),none⟩])
  (.seq (.seq (.reg false [⟨(some 3),.op (.mov (.t 0)),none⟩,
    ⟨(some 4),.op (.len true (.t 3)),none⟩,
    ⟨(some 5),.op (.bin .gtr (.t 4) (.c (.i .i64 60))),none⟩])
  (.cond (.t 5) (.seq (.reg false [⟨(some 6),.op (.mov (.t 0)),none⟩,
    ⟨(some 7),.op (.slcStr (.t 6) none (some (.c (.i .i64 60)))),none⟩,
    ⟨(some 2),.op (.mov (.t 7)),none⟩])
  (.ret)) (.skip)))
  (.seq (.reg false [⟨(some 8),.op (.mov (.t 0)),none⟩,
    ⟨(some 2),.op (.mov (.t 8)),none⟩])
  (.ret)))⟩
theorem qk9 (hc:qh P f j8 = true) (s:List UInt8):qg P f [.s s] (.s (s.take 60)):=by
  refine qg.mk hc rfl ?_
  simp only [j8,qm,H0,mkT,mkH,trL,vI,simprocAttr]
  by_cases h60:(60:Int) < s.length
  · have h1:60 ≤ s.length:=by omega
    simp only [↓vS,vT,shb,shv,qb,qc,cellsOf,wr,qa,simprocAttr,h60,h1,List.drop_zero]
    simp [vZ]
  · have h1:s.take 60 = s:=List.take_of_length_le (by omega)
    simp only [↓vS,vT,shb,shv,qb,qc,cellsOf,wr,qa,simprocAttr,h60,h1]
    simp [vZ]
def jH:IFn:=⟨[.tmp 4],
  .seq (.reg false [⟨(some 3),.op (.box (.t 1)),none⟩,
    ⟨(some 4),.op (.mov (.c (.nils))),none⟩])
  (.seq (.reg false [⟨(some 5),.op (.mov (.c (.nils))),none⟩])
  (.seq (.seq (.reg false [⟨(some 6),.op (.mov (.c (.i .i64 0))),none⟩])
  (.blk 0 (.loop (.seq (.seq (.reg false [⟨(some 7),.op (.mov (.t 6)),none⟩,
    ⟨(some 8),.op (.mov (.t 0)),none⟩,
    ⟨(some 9),.op (.len false (.t 8)),none⟩,
    ⟨(some 10),.op (.bin .lss (.t 7) (.t 9)),none⟩])
  (.cond (.t 10) (.skip) (.exit 0)))
  (.seq (.blk 1 (.reg true [⟨(some 13),.op (.mov (.t 5)),none⟩,
    ⟨(some 14),.op (.fAddr 0 (.t 3)),none⟩,
    ⟨(some 15),.op (.load1 (.t 14)),none⟩,
    ⟨(some 16),.op (.fAddr 1 (.t 3)),none⟩,
    ⟨(some 17),.op (.load1 (.t 16)),none⟩,
    ⟨(some 18),.op (.mov (.t 0)),none⟩,
    ⟨(some 19),.op (.mov (.t 6)),none⟩,
    ⟨(some 20),.op (.iAddrS 4 (.t 18) (.t 19)),none⟩,
    ⟨(some 21),.op (.fAddr 2 (.t 20)),none⟩,
    ⟨(some 22),.op (.load1 (.t 21)),none⟩,
    ⟨(some 23),.op (.mov (.t 0)),none⟩,
    ⟨(some 24),.op (.mov (.t 6)),none⟩,
    ⟨(some 25),.op (.iAddrS 4 (.t 23) (.t 24)),none⟩,
    ⟨(some 26),.op (.fAddr 3 (.t 25)),none⟩,
    ⟨(some 27),.op (.load1 (.t 26)),none⟩,
    ⟨(some 28),.op (.build [.s [],.i .i64 0,.i .i64 0,.s []] [(0,1,(.t 15)),(1,1,(.t 17)),(2,1,(.t 22)),(3,1,(.t 27))]),none⟩,
    ⟨(some 29),.op (.buildS 1 [.s [],.i .i64 0,.i .i64 0,.s []] [(0,4,(.t 28))]),none⟩,
    ⟨(some 30),.op (.app 4 48 true (.t 13) (.t 29)),none⟩,
    ⟨(some 5),.op (.mov (.t 30)),none⟩]))
  (.reg false [⟨(some 11),.op (.mov (.t 6)),none⟩,
    ⟨(some 12),.op (.bin .add (.t 11) (.c (.i .i64 1))),none⟩,
    ⟨(some 6),.op (.mov (.t 12)),none⟩]))))))
  (.seq (.reg false [⟨(some 31),.op (.mov (.t 5)),none⟩,
    ⟨(some 4),.op (.mov (.t 31)),none⟩])
  (.ret))))⟩
def qei (P:Program) (f:Nat):Prop:=∀ (l:List GNote) (a:Asg),l.length ≤ 100000 → qg P f [.fz l.length (rN l),.agg (zL a)] (.fz l.length (rN (l.map (zF a))))
theorem qkD (hc:qh P f jH = true):qei P f:=by
  intro l a hl
  refine qg.mk hc (by simp [qC,clo,qj,zL]) ?_
  simp only [jH,zL,qm,H0,mkT,mkH,trL,vI,simprocAttr]
  simp only [↓vS,vT,shb,shv,qb,qc,cellsOf,wr,qa,simprocAttr]
  refine SL.loop (α:=Nat) (fun j=>[(0,.fz l.length (rN l)),(3,.ptr 0 0),(5,.own 1 ((l.take j).map (zF a)).length),(6,.i .i64 j)]) (fun j=>[.cells 0 true false (zL a),.cells 4 true true (rN ((l.take j).map (zF a)))]) (fun j=>j ≤ l.length) (fun j=>l.length - j) 0 [0,1] ?_ ?_ ?_ rfl ?_ ?_
  · simp [vw,qj]
  · simp [vw,zL,qbz]
  · simp
  · exact Nat.zero_le _
  rintro j hj G ih
  simp only [qm,H0,mkT,mkH,trL,vI,simprocAttr,zL]
  by_cases hlt:j < l.length
  · have hx:l[j]? = some l[j]:=List.getElem?_eq_getElem hlt
    have hw:IntKind.wrap .i64 ((j:Int) + 1) = ((j + 1:Nat):Int):=by rw [qE (by omega) (by omega)]; omega
    have g2:(rN l)[j * 4 + 2]? = some (.i .i64 l[j].err):=qi9 hx (i:=2) (by decide)
    have g3:(rN l)[j * 4 + 3]? = some (.s l[j].text):=qi9 hx (i:=3) (by decide)
    have hm:(l.take (j + 1)).map (zF a) = (l.take j).map (zF a) ++ [zF a l[j]]:=by rw [List.take_add_one,hx,List.map_append]; rfl
    have hml:((l.take j).map (zF a)).length = j:=by simp; omega
    have hr1:((l.take j).map (zF a)).length + 1 ≤ qi:=by simp only [qi]; omega
    have hr2:(((l.take j).map (zF a)).length + 1) * 48 ≤ qi:=by simp only [qi]; omega
    have ih2:=ih (j + 1)
    rw [hm] at ih2
    generalize (l.take j).map (zF a) = M at hr1 hr2 ih2
    simp only [↓vS,vT,shb,shv,qb,qc,cellsOf,wr,qa,simprocAttr,hlt]
    refine zU ?_
    simp (decide:=true) only [↓vS,vT,shb,shv,qb,qc,cellsOf,wr,qa,simprocAttr,hlt,g2,g3,hr1,hr2,hw,kh]
    refine ih2 (by omega) (by omega) _ _ (Wk.mk _ _ [0,3] ?_ ?_ ?_ rfl)
    · simp [vw,qj]
    · have e:rN M ++ [AV.s a.file,.i .i64 a.line,.i .i64 l[j].err,.s l[j].text] = rN (M ++ [zF a l[j]]):=by rw [← qaw]; rfl
      simp [vw,zL,qe,qj,e]
    · simp
  · simp only [↓vS,vT,shb,shv,qb,qc,cellsOf,wr,qa,simprocAttr,hlt]
    rw [List.take_of_length_le (by omega)]
    simp [vZ,vP,Tr.get_set,qF qj]
    try (intro h0; rw [h0]; rfl)
def xo (f_vestibuleref16_Step f_vestibuleref17_Errno f_vestibuleref17_Short f_vestibuleref17_Placed:Nat):ICode:=.seq (.reg true [⟨(some 51),.op (.loadN 13 (.t 2)),none⟩,
    ⟨(some 52),.op (.mov (.t 6)),none⟩,
    ⟨(some 53),.op (.loadN 5 (.t 3)),none⟩,
    ⟨(some 54),.callF f_vestibuleref17_Placed [(.t 52),(.t 53)],none⟩,
    ⟨none,.op (.store 13 (.t 4) (.t 51)),none⟩,
    ⟨(some 5),.op (.mov (.t 54)),none⟩])
  (.ret)
def wC (f_vestibuleref16_Step f_vestibuleref17_Errno f_vestibuleref17_Short f_vestibuleref17_Placed:Nat):IFn:=⟨[.cell 4 13 true,.tmp 5],
  .seq (.reg false [⟨(some 2),.op (.box (.t 0)),none⟩,
    ⟨(some 3),.op (.box (.t 1)),none⟩,
    ⟨(some 4),.op (.alloc [.nils,.i .u8 0,.nils,.i .u32 0,.i .u8 0,.nils,.nils,.i .u8 0,.i .u64 0,.b false,.b false,.b false,.b false]),none⟩,
    ⟨(some 5),.op (.mov (.c (.nils))),none⟩])
  (.seq (.reg false [⟨(some 6),.op (.mov (.c (.nils))),none⟩])
  (.seq (.seq (.reg false [⟨(some 9),.op (.fAddr 3 (.t 3)),none⟩,
    ⟨(some 10),.op (.load1 (.t 9)),none⟩])
  (.blk 0 (.seq (.reg false [⟨(some 12),.op (.bin .eql (.t 10) (.c (.s [83,121,115,116,101,109,67,97,108,108,70,105,108,116,101,114]))),none⟩,
    ⟨(some 11),.op (.mov (.t 12)),none⟩])
  (.cond (.t 11) (.reg false [⟨(some 14),.op (.fAddr 1 (.t 2)),none⟩,
    ⟨(some 15),.op (.loadN 2 (.t 14)),none⟩,
    ⟨(some 16),.op (.fAddr 4 (.t 3)),none⟩,
    ⟨(some 17),.op (.load1 (.t 16)),none⟩,
    ⟨(some 18),.callF f_vestibuleref16_Step [(.t 15),(.t 17),(.c (.b true))],none⟩,
    ⟨(some 13),.op (.mov (.t 18)),none⟩,
    ⟨(some 19),.op (.ext (.t 13) 0),none⟩,
    ⟨(some 20),.op (.ext (.t 13) 1),none⟩,
    ⟨(some 21),.op (.fAddr 1 (.t 2)),none⟩,
    ⟨none,.op (.store 2 (.t 21) (.t 19)),none⟩,
    ⟨(some 6),.op (.mov (.t 20)),none⟩]) (.seq (.reg false [⟨(some 23),.op (.bin .eql (.t 10) (.c (.s [83,121,115,116,101,109,67,97,108,108,76,111,103]))),none⟩,
    ⟨(some 22),.op (.mov (.t 23)),none⟩])
  (.cond (.t 22) (.reg false [⟨(some 25),.op (.fAddr 4 (.t 2)),none⟩,
    ⟨(some 26),.op (.loadN 2 (.t 25)),none⟩,
    ⟨(some 27),.op (.fAddr 4 (.t 3)),none⟩,
    ⟨(some 28),.op (.load1 (.t 27)),none⟩,
    ⟨(some 29),.callF f_vestibuleref16_Step [(.t 26),(.t 28),(.c (.b false))],none⟩,
    ⟨(some 24),.op (.mov (.t 29)),none⟩,
    ⟨(some 30),.op (.ext (.t 24) 0),none⟩,
    ⟨(some 31),.op (.ext (.t 24) 1),none⟩,
    ⟨(some 32),.op (.fAddr 4 (.t 2)),none⟩,
    ⟨none,.op (.store 2 (.t 32) (.t 30)),none⟩,
    ⟨(some 6),.op (.mov (.t 31)),none⟩]) (.seq (.reg false [⟨(some 34),.op (.bin .eql (.t 10) (.c (.s [83,121,115,116,101,109,67,97,108,108,69,114,114,111,114,78,117,109,98,101,114]))),none⟩,
    ⟨(some 33),.op (.mov (.t 34)),none⟩])
  (.cond (.t 33) (.seq (.reg false [⟨(some 36),.op (.fAddr 4 (.t 3)),none⟩,
    ⟨(some 37),.op (.load1 (.t 36)),none⟩,
    ⟨(some 38),.callF f_vestibuleref17_Errno [(.t 37)],none⟩,
    ⟨(some 35),.op (.mov (.t 38)),none⟩,
    ⟨(some 39),.op (.ext (.t 35) 0),none⟩,
    ⟨(some 40),.op (.ext (.t 35) 1),none⟩,
    ⟨(some 7),.op (.mov (.t 39)),none⟩,
    ⟨(some 8),.op (.mov (.t 40)),none⟩])
  (.seq (.reg false [⟨(some 41),.op (.mov (.t 8)),none⟩,
    ⟨(some 42),.op (.bin .eql (.t 41) (.c (.i .i64 0))),none⟩])
  (.cond (.t 42) (.reg false [⟨(some 43),.op (.mov (.t 7)),none⟩,
    ⟨(some 44),.op (.fAddr 3 (.t 2)),none⟩,
    ⟨none,.op (.store 1 (.t 44) (.t 43)),none⟩]) (.reg false [⟨(some 45),.op (.mov (.t 8)),none⟩,
    ⟨(some 46),.op (.fAddr 4 (.t 3)),none⟩,
    ⟨(some 47),.op (.load1 (.t 46)),none⟩,
    ⟨(some 48),.callF f_vestibuleref17_Short [(.t 47)],none⟩,
    ⟨(some 49),.op (.build [.s [],.i .i64 0,.i .i64 0,.s []] [(2,1,(.t 45)),(3,1,(.t 48))]),none⟩,
    ⟨(some 50),.op (.buildS 1 [.s [],.i .i64 0,.i .i64 0,.s []] [(0,4,(.t 49))]),none⟩,
    ⟨(some 6),.op (.mov (.t 50)),none⟩])))) (.skip)))))))))
  (.cut (xo f_vestibuleref16_Step f_vestibuleref17_Errno f_vestibuleref17_Short f_vestibuleref17_Placed))))⟩
def qjy (E:List UInt8 → List (List UInt8) × Int) (P:Program) (f:Nat):Prop:=∀ (p:Pol) (a:Asg),PolOk p → 0 ≤ p.filter.mode ∧ 0 ≤ p.log.mode → Rng p.filter.calls → Rng p.log.calls → a.val.length ≤ 1000 →
  qg P f [.agg (zV p),.agg (zL a)] (.tup [.agg (zV (xQ E p a.key a.val).1),.fz (xQ E p a.key a.val).2.length (rN ((xQ E p a.key a.val).2.map (zF a)))])
theorem yX {g1 g2 g3 g4:Nat} (h4:qei P g4) (p:Pol) (a:Asg) (ns:List GNote) (hn:ns.length ≤ 100000) :
    S P 0 (xo g1 g2 g3 g4) (kc [.cell 4 13 true,.tmp 5] fun v' h'=>Frz h' v' (.tup [.agg (zV p),.fz ns.length (rN (ns.map (zF a)))]))
      (mkT [(2,.ptr 0 0),(3,.ptr 1 0),(4,.ptr 2 0),(6,.fz ns.length (rN ns))]) (mkH 0 [.cells 0 true false (zV p),.cells 0 true false (zL a),.cells 0 true false (zV qeM)]):=by
  refine qy ?_
  simp only [xo,zV,zL,qm,H0,mkT,mkH,trL,vI,simprocAttr]
  simp only [↓vS,vT,shb,shv,qb,qc,cellsOf,wr,qa,simprocAttr]
  refine zU ?_
  simp (decide:=true) only [↓vS,vT,shb,shv,qb,qc,cellsOf,wr,qa,simprocAttr]
  refine (h4 ns a hn).pc ?_
  simp (decide:=true) only [↓vS,vT,shb,shv,qb,qc,cellsOf,wr,qa,simprocAttr]
  simp [vZ]
set_option maxRecDepth 8000 in
theorem qqC {g1 g2 g3 g4:Nat} {E:List UInt8 → List (List UInt8) × Int} (hc:qh P f (wC g1 g2 g3 g4) = true) (h1:qf4 E P g1) (h2:qbK P g2) (h3:∀ s,qg P g3 [.s s] (.s (s.take 60))) (h4:qei P g4):qjy E P f:=by
  intro p a hp hm hr1 hr2 hv
  have hpc:=hp.c
  have hpl:=hp.l
  refine qg.mk hc rfl ?_
  generalize hT:AV.tup [.agg (zV (xQ E p a.key a.val).1),.fz (xQ E p a.key a.val).2.length (rN ((xQ E p a.key a.val).2.map (zF a)))] = tgt
  simp only [wC,zV,zL,qm,H0,mkT,mkH,trL,vI,simprocAttr]
  subst hT
  by_cases n0:a.key = Qt
  · have hM:xQ E p a.key a.val = ({ p with filter:=(qR E p.filter a.val true).1 },(qR E p.filter a.val true).2):=by unfold xQ; rw [if_pos n0]
    rw [hM]
    have hlen:=vD (E:=E) p.filter a.val true
    simp (decide:=true) only [↓vS,vT,shb,shv,qb,qc,cellsOf,wr,qa,simprocAttr,n0,Qt]
    refine (h1 p.filter a.val true (by omega) hv hm.1 hr1).sc ?_
    simp (decide:=true) only [↓vS,vT,shb,shv,qb,qc,cellsOf,wr,qa,simprocAttr,qk]
    refine S.weak (Wk.mk _ _ [0,1,2] ?_ ?_ ?_ rfl) (yX h4 { p with filter:=(qR E p.filter a.val true).1 } a (qR E p.filter a.val true).2 (by omega))
    · simp [vw,qj]
    · simp [vw,zV,zL,qeM,qe,Qc]
      exact ⟨n0.symm,rfl,rfl⟩
    · simp
  by_cases n1:a.key = qhP
  · have hM:xQ E p a.key a.val = ({ p with log:=(qR E p.log a.val false).1 },(qR E p.log a.val false).2):=by unfold xQ; rw [if_neg n0,if_pos n1]
    rw [hM]
    have hlen:=vD (E:=E) p.log a.val false
    simp (decide:=true) only [↓vS,vT,shb,shv,qb,qc,cellsOf,wr,qa,simprocAttr,n1,qhP]
    refine (h1 p.log a.val false (by omega) hv hm.2 hr2).sc ?_
    simp (decide:=true) only [↓vS,vT,shb,shv,qb,qc,cellsOf,wr,qa,simprocAttr,qk]
    refine S.weak (Wk.mk _ _ [0,1,2] ?_ ?_ ?_ rfl) (yX h4 { p with log:=(qR E p.log a.val false).1 } a (qR E p.log a.val false).2 (by omega))
    · simp [vw,qj]
    · simp [vw,zV,zL,qeM,qe,Qc]
      exact ⟨n1.symm,rfl,rfl⟩
    · simp
  by_cases n2:a.key = qfH
  · by_cases hz:(jG a.val).2 = 0
    · have hM:xQ E p a.key a.val = ({ p with deny:=(jG a.val).1 },[]):=by unfold xQ; rw [if_neg n0,if_neg n1,if_pos n2,if_pos hz]
      rw [hM]
      simp (decide:=true) only [↓vS,vT,shb,shv,qb,qc,cellsOf,wr,qa,simprocAttr,n2,qfH]
      refine (h2 a.val (by omega)).sc ?_
      simp (decide:=true) only [↓vS,vT,shb,shv,qb,qc,cellsOf,wr,qa,simprocAttr,hz]
      refine S.weak (Wk.mk _ _ [0,1,2] ?_ ?_ ?_ rfl) (yX h4 { p with deny:=(jG a.val).1 } a [] (by simp))
      · simp [vw,qbz]
      · simp [vw,zV,zL,qeM,qe,Qc]
        exact ⟨n2.symm,rfl,rfl⟩
      · simp
    · have hM:xQ E p a.key a.val = (p,[zk (jG a.val).2 a.val]):=by unfold xQ; rw [if_neg n0,if_neg n1,if_pos n2,if_neg hz]
      rw [hM]
      simp (decide:=true) only [↓vS,vT,shb,shv,qb,qc,cellsOf,wr,qa,simprocAttr,n2,qfH]
      refine (h2 a.val (by omega)).sc ?_
      simp (decide:=true) only [↓vS,vT,shb,shv,qb,qc,cellsOf,wr,qa,simprocAttr,hz]
      refine (h3 a.val).sc ?_
      simp (decide:=true) only [↓vS,vT,shb,shv,qb,qc,cellsOf,wr,qa,simprocAttr]
      refine S.weak (Wk.mk [(2,.ptr 0 0),(3,.ptr 1 0),(4,.ptr 2 0),(6,.sl 3 0 1 1 false)] [.cells 0 true false (zV p),.cells 0 true false (zL a),.cells 0 true false (zV qeM),.cells 0 true false (rN [zk (jG a.val).2 a.val])] [0,1,2,3] ?_ ?_ ?_ rfl) ?_
      · simp [vw]
      · simp [vw,zV,zL,qeM,qe,Qc]
        refine ⟨n2.symm,⟨rfl,rfl⟩,?_⟩
        simp [rN,qaY,zk,qe,vw]
      · simp
      refine S.weak (Wk.freeze 3 4 0 rfl (by simp [qj]) (Nat.zero_le _) (by simp)) ?_
      refine S.weak (Wk.mk _ _ [0,1,2] ?_ ?_ ?_ rfl) (yX h4 p a [zk (jG a.val).2 a.val] (by simp))
      · simp [vw,mkT,fzv,wI,rN,qaY]
      · simp [vw,mkH,trL,fzB,wI,fzv,zV,zL,qeM,qe,Qc]
      · simp [mkH]
  have n0':¬ a.key = [83,121,115,116,101,109,67,97,108,108,70,105,108,116,101,114]:=n0
  have n1':¬ a.key = [83,121,115,116,101,109,67,97,108,108,76,111,103]:=n1
  have n2':¬ a.key = [83,121,115,116,101,109,67,97,108,108,69,114,114,111,114,78,117,109,98,101,114]:=n2
  have hM:xQ E p a.key a.val = (p,[]):=by unfold xQ; rw [if_neg n0,if_neg n1,if_neg n2]
  rw [hM]
  simp (decide:=true) only [↓vS,vT,shb,shv,qb,qc,cellsOf,wr,qa,simprocAttr,n0',n1',n2']
  refine S.weak (Wk.mk _ _ [0,1,2] ?_ ?_ ?_ rfl) (yX h4 p a [] (by simp))
  · simp [vw,qbz]
  · simp [vw,zV,zL,qeM,qe,Qc]
    exact ⟨rfl,rfl⟩
  · simp
end Go.Kc
end
section
/- Spoil of stage 17: a policy's rows are written over. Condition: the functions' texts are these. -/
namespace Go.Kc
variable {P:Program} {f:Nat}
theorem qka {k:IntKind} {L:List Int} {j:Nat} (h:j < L.length) (x:Int):(rI k L).take j ++ (AV.i k x :: (rI k L).drop (j + 1)) = rI k (L.set j x):=by
  unfold rI
  rw [List.set_eq_take_append_cons_drop,if_pos h,List.map_append,List.map_cons,List.map_take,List.map_drop]
def ovr (x:Int) (L:List Int) (j:Nat):List Int:=List.replicate j x ++ L.drop j
theorem qb8 {x:Int} {L:List Int} {j:Nat} (h:j ≤ L.length):(ovr x L j).length = L.length:=by simp [ovr]; omega
theorem qgo {x:Int} {L:List Int} {j:Nat} (h:j < L.length):(ovr x L j).set j x = ovr x L (j + 1):=by
  simp only [ovr]
  rw [List.set_append,if_neg (by simp),List.length_replicate,Nat.sub_self,List.drop_eq_getElem_cons h,List.set_cons_zero,List.replicate_succ',List.append_assoc]
  rfl
def qay (L:List GCall) (j:Nat):List GCall:=(L.take j).map qqr ++ L.drop j
theorem qeP {L:List GCall} {j:Nat} (h:j ≤ L.length):(qay L j).length = L.length:=by simp [qay]; omega
theorem qeA {L:List GCall} {j:Nat} (h:j < L.length):(rC (qay L j)).take (j * 2) ++ (AV.s [103,111,110,101] :: (rC (qay L j)).drop (j * 2 + 1)) = rC (qay L (j + 1)):=by
  have hal:((L.take j).map qqr).length = j:=by simp; omega
  have hx:(qay L j)[j]? = some L[j]:=by
    unfold qay
    rw [List.getElem?_append_right (by omega),hal]; simp [h]
  have hs:=qk6 hx [103,111,110,101]
  have hset:(qay L j).set j ⟨[103,111,110,101],L[j].act⟩ = qay L (j + 1):=by
    unfold qay
    rw [List.set_append,if_neg (by omega),hal,Nat.sub_self,List.drop_eq_getElem_cons h,List.set_cons_zero,List.take_add_one,List.getElem?_eq_getElem h,List.map_append,List.append_assoc]
    rfl
  rw [hset] at hs
  exact hs
def bSp (p:Pol) (i j k l:Nat):List Blk:=[.cells 1 true true (rI .i64 (ovr (-9) p.arches i)),.cells 2 true true (rC (qay p.filter.calls k)),.cells 2 true true (rC (qay p.log.calls l)),.cells 1 true true (rI .u32 (ovr 999 p.fams j))]
theorem qqH (p:Pol):bSp p 0 0 0 0 = [prA p,prF p,prL p,prM p]:=by simp [bSp,ovr,qay,prA,prF,prL,prM]
def qeB (P:Program) (f:Nat):Prop:=∀ p:Pol,PolOk p → Upd P f [.agg (qB p 0 1 2 3)] [prA p,prF p,prL p,prM p] (.tup []) (bSp p p.arches.length p.fams.length p.filter.calls.length p.log.calls.length)
def jS:IFn:=⟨[],
  .seq (.reg false [⟨(some 1),.op (.box (.t 0)),none⟩])
  (.seq (.seq (.reg false [⟨(some 2),.op (.mov (.c (.i .i64 0))),none⟩])
  (.blk 0 (.loop (.seq (.seq (.reg false [⟨(some 6),.op (.mov (.t 2)),none⟩,
    ⟨(some 7),.op (.fAddr 0 (.t 1)),none⟩,
    ⟨(some 8),.op (.load1 (.t 7)),none⟩,
    ⟨(some 9),.op (.len false (.t 8)),none⟩,
    ⟨(some 10),.op (.bin .lss (.t 6) (.t 9)),none⟩])
  (.cond (.t 10) (.skip) (.exit 0)))
  (.seq (.blk 1 (.reg false [⟨(some 13),.op (.fAddr 0 (.t 1)),none⟩,
    ⟨(some 14),.op (.load1 (.t 13)),none⟩,
    ⟨(some 15),.op (.mov (.t 2)),none⟩,
    ⟨(some 16),.op (.iAddrS 1 (.t 14) (.t 15)),none⟩,
    ⟨none,.op (.store 1 (.t 16) (.c (.i .i64 (-9)))),none⟩]))
  (.reg false [⟨(some 11),.op (.mov (.t 2)),none⟩,
    ⟨(some 12),.op (.bin .add (.t 11) (.c (.i .i64 1))),none⟩,
    ⟨(some 2),.op (.mov (.t 12)),none⟩]))))))
  (.seq (.seq (.reg false [⟨(some 3),.op (.mov (.c (.i .i64 0))),none⟩])
  (.blk 2 (.loop (.seq (.seq (.reg false [⟨(some 17),.op (.mov (.t 3)),none⟩,
    ⟨(some 18),.op (.fAddr 6 (.t 1)),none⟩,
    ⟨(some 19),.op (.load1 (.t 18)),none⟩,
    ⟨(some 20),.op (.len false (.t 19)),none⟩,
    ⟨(some 21),.op (.bin .lss (.t 17) (.t 20)),none⟩])
  (.cond (.t 21) (.skip) (.exit 2)))
  (.seq (.blk 3 (.reg false [⟨(some 24),.op (.fAddr 6 (.t 1)),none⟩,
    ⟨(some 25),.op (.load1 (.t 24)),none⟩,
    ⟨(some 26),.op (.mov (.t 3)),none⟩,
    ⟨(some 27),.op (.iAddrS 1 (.t 25) (.t 26)),none⟩,
    ⟨none,.op (.store 1 (.t 27) (.c (.i .u32 999))),none⟩]))
  (.reg false [⟨(some 22),.op (.mov (.t 3)),none⟩,
    ⟨(some 23),.op (.bin .add (.t 22) (.c (.i .i64 1))),none⟩,
    ⟨(some 3),.op (.mov (.t 23)),none⟩]))))))
  (.seq (.seq (.reg false [⟨(some 4),.op (.mov (.c (.i .i64 0))),none⟩])
  (.blk 4 (.loop (.seq (.seq (.reg false [⟨(some 28),.op (.mov (.t 4)),none⟩,
    ⟨(some 29),.op (.fAddr 1 (.t 1)),none⟩,
    ⟨(some 30),.op (.fAddr 1 (.t 29)),none⟩,
    ⟨(some 31),.op (.load1 (.t 30)),none⟩,
    ⟨(some 32),.op (.len false (.t 31)),none⟩,
    ⟨(some 33),.op (.bin .lss (.t 28) (.t 32)),none⟩])
  (.cond (.t 33) (.skip) (.exit 4)))
  (.seq (.blk 5 (.reg false [⟨(some 36),.op (.fAddr 1 (.t 1)),none⟩,
    ⟨(some 37),.op (.fAddr 1 (.t 36)),none⟩,
    ⟨(some 38),.op (.load1 (.t 37)),none⟩,
    ⟨(some 39),.op (.mov (.t 4)),none⟩,
    ⟨(some 40),.op (.iAddrS 2 (.t 38) (.t 39)),none⟩,
    ⟨(some 41),.op (.fAddr 0 (.t 40)),none⟩,
    ⟨none,.op (.store 1 (.t 41) (.c (.s [103,111,110,101]))),none⟩]))
  (.reg false [⟨(some 34),.op (.mov (.t 4)),none⟩,
    ⟨(some 35),.op (.bin .add (.t 34) (.c (.i .i64 1))),none⟩,
    ⟨(some 4),.op (.mov (.t 35)),none⟩]))))))
  (.seq (.reg false [⟨(some 5),.op (.mov (.c (.i .i64 0))),none⟩])
  (.blk 6 (.loop (.seq (.seq (.reg false [⟨(some 42),.op (.mov (.t 5)),none⟩,
    ⟨(some 43),.op (.fAddr 4 (.t 1)),none⟩,
    ⟨(some 44),.op (.fAddr 1 (.t 43)),none⟩,
    ⟨(some 45),.op (.load1 (.t 44)),none⟩,
    ⟨(some 46),.op (.len false (.t 45)),none⟩,
    ⟨(some 47),.op (.bin .lss (.t 42) (.t 46)),none⟩])
  (.cond (.t 47) (.skip) (.exit 6)))
  (.seq (.blk 7 (.reg false [⟨(some 50),.op (.fAddr 4 (.t 1)),none⟩,
    ⟨(some 51),.op (.fAddr 1 (.t 50)),none⟩,
    ⟨(some 52),.op (.load1 (.t 51)),none⟩,
    ⟨(some 53),.op (.mov (.t 5)),none⟩,
    ⟨(some 54),.op (.iAddrS 2 (.t 52) (.t 53)),none⟩,
    ⟨(some 55),.op (.fAddr 0 (.t 54)),none⟩,
    ⟨none,.op (.store 1 (.t 55) (.c (.s [103,111,110,101]))),none⟩]))
  (.reg false [⟨(some 48),.op (.mov (.t 5)),none⟩,
    ⟨(some 49),.op (.bin .add (.t 48) (.c (.i .i64 1))),none⟩,
    ⟨(some 5),.op (.mov (.t 49)),none⟩])))))))))⟩
set_option maxRecDepth 8000 in
theorem qmJ (hc:qh P f jS = true):qeB P f:=by
  intro p hp
  have ha:=hp.a
  have hf:=hp.f
  have hcc:=hp.c
  have hll:=hp.l
  rw [← qqH p]
  refine Upd.mk hc (by simp [zZ,bnd,bSp,qB]) (by simp [bSp]) ?_
  simp only [jS,bSp,qB,qm,H0,mkT,mkH,trL,vI,simprocAttr]
  simp only [↓vS,vT,shb,shv,qb,qc,cellsOf,wr,qa,simprocAttr]
  refine SL.loopn (α:=Nat) (fun j=>[(1,.ptr 4 0),(2,.i .i64 j)]) (fun j=>bSp p j 0 0 0 ++ [.cells 0 true false (qB p 0 1 2 3)]) (fun j=>j ≤ p.arches.length) (fun j=>p.arches.length - j) 0 [0,1,2,3,4] ?_ ?_ ?_ rfl (by simp [bSp]) ?_ ?_ ?_
  · simp [vw,bSp]
  · simp [vw,bSp,qB,qe,qd,qq]
  · simp
  · intro b hb; have:b = 0 ∨ b = 1 ∨ b = 2 ∨ b = 3:=by omega
    rcases this with rfl | rfl | rfl | rfl <;> simp [qbW,rl]
  · exact Nat.zero_le _
  rintro j0 hj0 G0 ih0
  simp only [bSp,qB,qm,H0,mkT,mkH,trL,vI,simprocAttr,List.cons_append,List.nil_append]
  by_cases hlt0:j0 < p.arches.length
  · have hw:IntKind.wrap .i64 ((j0:Int) + 1) = ((j0 + 1:Nat):Int):=by rw [qE (by omega) (by omega)]; omega
    have hln:(rI .i64 (ovr (-9) p.arches j0)).length = p.arches.length:=by rw [yw,qb8 (by omega)]
    have hb:j0 + 1 ≤ p.arches.length:=by omega
    have hs:=qka (k:=.i64) (L:=ovr (-9) p.arches j0) (j:=j0) (by rw [qb8 (by omega)]; exact hlt0) (-9)
    rw [qgo hlt0] at hs
    simp (decide:=true) only [↓vS,vT,shb,shv,qb,qc,cellsOf,wr,qa,simprocAttr,hlt0,Nat.mul_one,hln,hb,hs,hw]
    refine ih0 (j0 + 1) (by omega) (by omega) _ _ (Wk.mkn _ _ [0,1,2,3,4] ?_ ?_ ?_ rfl (by simp [bSp]) ?_)
    · simp [vw,bSp]
    · simp [vw,bSp,qB,qe,qd,qq]
    · simp
    · intro b hb; have:b = 0 ∨ b = 1 ∨ b = 2 ∨ b = 3:=by omega
      rcases this with rfl | rfl | rfl | rfl <;> simp [qbW,rl]
  simp only [↓vS,vT,shb,shv,qb,qc,cellsOf,wr,qa,simprocAttr,hlt0]
  obtain rfl:j0 = p.arches.length:=by omega
  clear ih0
  refine SL.loopn (α:=Nat) (fun j=>[(1,.ptr 4 0),(3,.i .i64 j)]) (fun j=>bSp p p.arches.length j 0 0 ++ [.cells 0 true false (qB p 0 1 2 3)]) (fun j=>j ≤ p.fams.length) (fun j=>p.fams.length - j) 0 [0,1,2,3,4] ?_ ?_ ?_ rfl (by simp [bSp]) ?_ ?_ ?_
  · simp [vw,bSp]
  · simp [vw,bSp,qB,qe,qd,qq]
  · simp
  · intro b hb; have:b = 0 ∨ b = 1 ∨ b = 2 ∨ b = 3:=by omega
    rcases this with rfl | rfl | rfl | rfl <;> simp [qbW,rl]
  · exact Nat.zero_le _
  rintro j1 hj1 G1 ih1
  simp only [bSp,qB,qm,H0,mkT,mkH,trL,vI,simprocAttr,List.cons_append,List.nil_append]
  by_cases hlt1:j1 < p.fams.length
  · have hw:IntKind.wrap .i64 ((j1:Int) + 1) = ((j1 + 1:Nat):Int):=by rw [qE (by omega) (by omega)]; omega
    have hln:(rI .u32 (ovr 999 p.fams j1)).length = p.fams.length:=by rw [yw,qb8 (by omega)]
    have hb:j1 + 1 ≤ p.fams.length:=by omega
    have hs:=qka (k:=.u32) (L:=ovr 999 p.fams j1) (j:=j1) (by rw [qb8 (by omega)]; exact hlt1) 999
    rw [qgo hlt1] at hs
    simp (decide:=true) only [↓vS,vT,shb,shv,qb,qc,cellsOf,wr,qa,simprocAttr,hlt1,Nat.mul_one,hln,hb,hs,hw]
    refine ih1 (j1 + 1) (by omega) (by omega) _ _ (Wk.mkn _ _ [0,1,2,3,4] ?_ ?_ ?_ rfl (by simp [bSp]) ?_)
    · simp [vw,bSp]
    · simp [vw,bSp,qB,qe,qd,qq]
    · simp
    · intro b hb; have:b = 0 ∨ b = 1 ∨ b = 2 ∨ b = 3:=by omega
      rcases this with rfl | rfl | rfl | rfl <;> simp [qbW,rl]
  simp only [↓vS,vT,shb,shv,qb,qc,cellsOf,wr,qa,simprocAttr,hlt1]
  obtain rfl:j1 = p.fams.length:=by omega
  clear ih1
  refine SL.loopn (α:=Nat) (fun j=>[(1,.ptr 4 0),(4,.i .i64 j)]) (fun j=>bSp p p.arches.length p.fams.length j 0 ++ [.cells 0 true false (qB p 0 1 2 3)]) (fun j=>j ≤ p.filter.calls.length) (fun j=>p.filter.calls.length - j) 0 [0,1,2,3,4] ?_ ?_ ?_ rfl (by simp [bSp]) ?_ ?_ ?_
  · simp [vw,bSp]
  · simp [vw,bSp,qB,qe,qd,qq]
  · simp
  · intro b hb; have:b = 0 ∨ b = 1 ∨ b = 2 ∨ b = 3:=by omega
    rcases this with rfl | rfl | rfl | rfl <;> simp [qbW,rl]
  · exact Nat.zero_le _
  rintro j2 hj2 G2 ih2
  simp only [bSp,qB,qm,H0,mkT,mkH,trL,vI,simprocAttr,List.cons_append,List.nil_append]
  by_cases hlt2:j2 < p.filter.calls.length
  · have hw:IntKind.wrap .i64 ((j2:Int) + 1) = ((j2 + 1:Nat):Int):=by rw [qE (by omega) (by omega)]; omega
    have hln:(rC (qay p.filter.calls j2)).length = p.filter.calls.length * 2:=by rw [xL,qeP (by omega)]
    have hb:j2 * 2 + 1 ≤ p.filter.calls.length * 2:=by omega
    have hs:=qeA hlt2
    simp (decide:=true) only [↓vS,vT,shb,shv,qb,qc,cellsOf,wr,qa,simprocAttr,hlt2,hln,hb,hs,hw]
    refine ih2 (j2 + 1) (by omega) (by omega) _ _ (Wk.mkn _ _ [0,1,2,3,4] ?_ ?_ ?_ rfl (by simp [bSp]) ?_)
    · simp [vw,bSp]
    · simp [vw,bSp,qB,qe,qd,qq]
    · simp
    · intro b hb; have:b = 0 ∨ b = 1 ∨ b = 2 ∨ b = 3:=by omega
      rcases this with rfl | rfl | rfl | rfl <;> simp [qbW,rl]
  simp only [↓vS,vT,shb,shv,qb,qc,cellsOf,wr,qa,simprocAttr,hlt2]
  obtain rfl:j2 = p.filter.calls.length:=by omega
  clear ih2
  refine SL.loopn (α:=Nat) (fun j=>[(1,.ptr 4 0),(5,.i .i64 j)]) (fun j=>bSp p p.arches.length p.fams.length p.filter.calls.length j ++ [.cells 0 true false (qB p 0 1 2 3)]) (fun j=>j ≤ p.log.calls.length) (fun j=>p.log.calls.length - j) 0 [0,1,2,3,4] ?_ ?_ ?_ rfl (by simp [bSp]) ?_ ?_ ?_
  · simp [vw,bSp]
  · simp [vw,bSp,qB,qe,qd,qq]
  · simp
  · intro b hb; have:b = 0 ∨ b = 1 ∨ b = 2 ∨ b = 3:=by omega
    rcases this with rfl | rfl | rfl | rfl <;> simp [qbW,rl]
  · exact Nat.zero_le _
  rintro j3 hj3 G3 ih3
  simp only [bSp,qB,qm,H0,mkT,mkH,trL,vI,simprocAttr,List.cons_append,List.nil_append]
  by_cases hlt3:j3 < p.log.calls.length
  · have hw:IntKind.wrap .i64 ((j3:Int) + 1) = ((j3 + 1:Nat):Int):=by rw [qE (by omega) (by omega)]; omega
    have hln:(rC (qay p.log.calls j3)).length = p.log.calls.length * 2:=by rw [xL,qeP (by omega)]
    have hb:j3 * 2 + 1 ≤ p.log.calls.length * 2:=by omega
    have hs:=qeA hlt3
    simp (decide:=true) only [↓vS,vT,shb,shv,qb,qc,cellsOf,wr,qa,simprocAttr,hlt3,hln,hb,hs,hw]
    refine ih3 (j3 + 1) (by omega) (by omega) _ _ (Wk.mkn _ _ [0,1,2,3,4] ?_ ?_ ?_ rfl (by simp [bSp]) ?_)
    · simp [vw,bSp]
    · simp [vw,bSp,qB,qe,qd,qq]
    · simp
    · intro b hb; have:b = 0 ∨ b = 1 ∨ b = 2 ∨ b = 3:=by omega
      rcases this with rfl | rfl | rfl | rfl <;> simp [qbW,rl]
  simp only [↓vS,vT,shb,shv,qb,qc,cellsOf,wr,qa,simprocAttr,hlt3]
  obtain rfl:j3 = p.log.calls.length:=by omega
  clear ih3
  intro _
  refine ⟨[0,1,2,3],?_⟩
  simp [vw,qe,qd,qq]
  decide
end Go.Kc
end
section
/- FilterSets: what the law answers. Condition: the functions' texts are these. -/
namespace Go.Kc
variable {P:Program} {f:Nat}
theorem qda {E:List UInt8 → List (List UInt8) × Int} (hE:ki E) {l:GList} (hl:l.calls.length ≤ 1000) (v:List UInt8) (fl:Bool):(qR E l v fl).1.calls.length ≤ 1000:=by
  cases hM:zA l with
  | true=>have:=yn (qid hE hM v fl); omega
  | false =>
    have hs:qR E l v fl = (l,[]):=if_pos hM
    rw [hs]; exact hl
theorem qkX {E:List UInt8 → List (List UInt8) × Int} (hE:ki E) {p:Pol} (hp:PolOk p) (k v:List UInt8):PolOk (xQ E p k v).1:=by
  unfold xQ
  split
  · exact ⟨hp.a,hp.f,qda hE hp.c v true,hp.l⟩
  split
  · exact ⟨hp.a,hp.f,hp.c,qda hE hp.l v false⟩
  split
  · split
    · exact ⟨hp.a,hp.f,hp.c,hp.l⟩
    · exact hp
  · exact hp
theorem qh4 {E:List UInt8 → List (List UInt8) × Int} (p:Pol) (k v:List UInt8):(xQ E p k v).2.length ≤ v.length + 1:=by
  unfold xQ
  split
  · have:=vD (E:=E) p.filter v true; show (qR E p.filter v true).2.length ≤ _; omega
  split
  · have:=vD (E:=E) p.log v false; show (qR E p.log v false).2.length ≤ _; omega
  split
  · split <;> simp
  · simp
theorem qfw {p:Pol} {a:Asg} (h:xK p a = false):PolOk p ∧ a.val.length ≤ 1000:=by
  simp only [xK,Bool.or_eq_false_iff,decide_eq_false_iff_not,Nat.not_lt] at h
  obtain ⟨⟨⟨⟨⟨⟨h1,h2⟩,h3⟩,h4⟩,h5⟩,_⟩,_⟩:=h
  have:=qbQ h3
  have:=qbQ h4
  exact ⟨⟨by omega,by omega,by omega,by omega⟩,by omega⟩
def xT (f_vestibulelaw17_Great f_vestibulelaw17_Copied f_filter_Set f_vestibuleref17_Set f_vestibuleref17_Same f_vestibulelaw13_SameNotes f_vestibulelaw17_Spoil f_vestibulelaw17_awake:Nat):IFn:=⟨[.tmp 4],
  .seq (.reg false [⟨(some 2),.op (.box (.t 0)),none⟩,
    ⟨(some 3),.op (.box (.t 1)),none⟩,
    ⟨(some 4),.op (.mov (.c (.b false))),none⟩])
  (.seq (.seq (.reg false [⟨(some 11),.op (.loadN 13 (.t 2)),none⟩,
    ⟨(some 12),.op (.loadN 5 (.t 3)),none⟩,
    ⟨(some 13),.callF f_vestibulelaw17_Great [(.t 11),(.t 12)],none⟩])
  (.cond (.t 13) (.seq (.reg false [⟨(some 4),.op (.mov (.c (.b true))),none⟩])
  (.ret)) (.skip)))
  (.seq (.reg false [⟨(some 14),.op (.loadN 13 (.t 2)),none⟩,
    ⟨(some 15),.callF f_vestibulelaw17_Copied [(.t 14)],none⟩,
    ⟨(some 5),.op (.alloc [.nils,.i .u8 0,.nils,.i .u32 0,.i .u8 0,.nils,.nils,.i .u8 0,.i .u64 0,.b false,.b false,.b false,.b false]),none⟩,
    ⟨none,.op (.store 13 (.t 5) (.t 15)),none⟩])
  (.seq (.reg false [⟨(some 17),.op (.loadN 13 (.t 5)),none⟩,
    ⟨(some 18),.op (.loadN 5 (.t 3)),none⟩,
    ⟨(some 19),.callF f_filter_Set [(.t 17),(.t 18)],none⟩,
    ⟨(some 16),.op (.mov (.t 19)),none⟩,
    ⟨(some 20),.op (.ext (.t 16) 0),none⟩,
    ⟨(some 21),.op (.ext (.t 16) 1),none⟩,
    ⟨(some 6),.op (.alloc [.nils,.i .u8 0,.nils,.i .u32 0,.i .u8 0,.nils,.nils,.i .u8 0,.i .u64 0,.b false,.b false,.b false,.b false]),none⟩,
    ⟨none,.op (.store 13 (.t 6) (.t 20)),none⟩,
    ⟨(some 7),.op (.mov (.t 21)),none⟩])
  (.seq (.reg false [⟨(some 23),.op (.loadN 13 (.t 2)),none⟩,
    ⟨(some 24),.op (.loadN 5 (.t 3)),none⟩,
    ⟨(some 25),.callF f_vestibuleref17_Set [(.t 23),(.t 24)],none⟩,
    ⟨(some 22),.op (.mov (.t 25)),none⟩,
    ⟨(some 26),.op (.ext (.t 22) 0),none⟩,
    ⟨(some 27),.op (.ext (.t 22) 1),none⟩,
    ⟨(some 8),.op (.alloc [.nils,.i .u8 0,.nils,.i .u32 0,.i .u8 0,.nils,.nils,.i .u8 0,.i .u64 0,.b false,.b false,.b false,.b false]),none⟩,
    ⟨none,.op (.store 13 (.t 8) (.t 26)),none⟩,
    ⟨(some 9),.op (.mov (.t 27)),none⟩])
  (.seq (.reg false [⟨(some 28),.op (.loadN 13 (.t 6)),none⟩,
    ⟨(some 29),.op (.loadN 13 (.t 8)),none⟩,
    ⟨(some 30),.callF f_vestibuleref17_Same [(.t 28),(.t 29)],none⟩,
    ⟨(some 31),.op (.mov (.t 30)),none⟩,
    ⟨(some 32),.op (.mov (.t 7)),(some (31,true))⟩,
    ⟨(some 33),.op (.mov (.t 9)),(some (31,true))⟩,
    ⟨(some 34),.callF f_vestibulelaw13_SameNotes [(.t 32),(.t 33)],(some (31,true))⟩,
    ⟨(some 35),.op (.pick (.t 31) (.t 34) (.c (.b false))),none⟩,
    ⟨(some 10),.op (.mov (.t 35)),none⟩])
  (.seq (.reg false [⟨(some 36),.op (.loadN 13 (.t 6)),none⟩,
    ⟨(some 37),.callF f_vestibulelaw17_Spoil [(.t 36)],none⟩])
  (.seq (.reg false [⟨(some 38),.op (.mov (.t 10)),none⟩,
    ⟨(some 39),.op (.mov (.t 38)),none⟩,
    ⟨(some 40),.op (.loadN 13 (.t 5)),(some (39,true))⟩,
    ⟨(some 41),.op (.loadN 13 (.t 2)),(some (39,true))⟩,
    ⟨(some 42),.callF f_vestibuleref17_Same [(.t 40),(.t 41)],(some (39,true))⟩,
    ⟨(some 43),.op (.pick (.t 39) (.t 42) (.c (.b false))),none⟩,
    ⟨(some 44),.op (.mov (.t 43)),none⟩,
    ⟨(some 45),.callF f_vestibulelaw17_awake [],(some (44,true))⟩,
    ⟨(some 46),.op (.pick (.t 44) (.t 45) (.c (.b false))),none⟩,
    ⟨(some 4),.op (.mov (.t 46)),none⟩])
  (.ret))))))))⟩
set_option maxRecDepth 8000 in
theorem filterSets {g1 g2 g3 g4 g5 g6 g7 g8:Nat} {E:List UInt8 → List (List UInt8) × Int} (hc:qh P f (xT g1 g2 g3 g4 g5 g6 g7 g8) = true) (hE:ki E) (h1:∀ p a,qg P g1 [.agg (zV p),.agg (zL a)] (.b (xK p a))) (h2:qdW P g2) (h3:qiC E P g3) (h4:qjy E P g4)
    (h5:∀ p,PolOk p → qg P g5 [.agg (zV p),.agg (zV p)] (.b true)) (h6:∀ l:List GNote,l.length ≤ 100000 → qg P g6 [.fz l.length (rN l),.fz l.length (rN l)] (.b true)) (h7:qeB P g7) (h8:qg P g8 [] (.b true))
    (p:Pol) (a:Asg) (hm:0 ≤ p.filter.mode ∧ 0 ≤ p.log.mode) (hr1:Rng p.filter.calls) (hr2:Rng p.log.calls):qg P f [.agg (zV p),.agg (zL a)] (.b true):=by
  refine qg.mk hc rfl ?_
  simp only [xT,zV,zL,qm,H0,mkT,mkH,trL,vI,simprocAttr]
  simp only [↓vS,vT,shb,shv,qb,qc,cellsOf,wr,qa,simprocAttr]
  refine (h1 p a).sc ?_
  cases hg:xK p a with
  | true =>
    simp only [↓vS,vT,shb,shv,qb,qc,cellsOf,wr,qa,simprocAttr]
    simp [vZ]
  | false =>
    obtain ⟨hp,hv⟩:=qfw hg
    have hq:=qkX hE hp a.key a.val
    have hn:=qh4 (E:=E) p a.key a.val
    simp only [↓vS,vT,shb,shv,qb,qc,cellsOf,wr,qa,simprocAttr]
    refine (h2 p hp).sc ?_
    simp only [↓vS,vT,shb,shv,qb,qc,cellsOf,wr,qa,simprocAttr,zV]
    refine (h3 p a hp hm hv).sc ?_
    have h4':=h4 p a hp hm hr1 hr2 hv
    generalize xQ E p a.key a.val = R at hq hn h4'
    simp only [vJ,shb,shv,qb,simprocAttr,qB,prA,prF,prL,prM,qY qd,qY qq]
    simp only [↓vS,vT,shb,shv,qb,qc,cellsOf,wr,qa,simprocAttr]
    refine h4'.sc ?_
    simp only [↓vS,vT,shb,shv,qb,qc,cellsOf,wr,qa,simprocAttr,zV]
    refine (h5 R.1 hq).lend (vs':=[.agg (zV R.1),.agg (zV R.1)]) ?_ rfl ?_
    · simp [vZ,vP,Tr.get_set,zV,qF qd,qF qq]
      refine ⟨?_,?_,?_,?_⟩ <;> (intro h0; rw [h0]; rfl)
    simp only [↓vS,vT,shb,shv,qb,qc,cellsOf,wr,qa,simprocAttr]
    have hlm:R.2.length = (R.2.map (zF a)).length:=by simp
    rw [hlm]
    refine (h6 (R.2.map (zF a)) (by simp; omega)).sc ?_
    simp only [↓vS,vT,shb,shv,qb,qc,cellsOf,wr,qa,simprocAttr]
    refine (h7 R.1 hq).sc (vs:=[.agg (qB R.1 0 1 2 3)]) [3,4,5,6] (Lent.of (by decide) ?_) ?_
    · simp [vL,shb,shv,qb,zZ,bnd,zG,rnv,gAt,vw,qB,prA,prF,prL,prM,qX qd,qX qq,qv qd,qv qq,xc,clo,zd]
    simp only [vK,xa,rnb,zG,rnv,gAt,simprocAttr,bSp,qv qd,qv qq,zd,clo]
    simp only [↓vS,vT,shb,shv,qb,qc,cellsOf,wr,qa,simprocAttr]
    refine (h5 p hp).sc ?_
    simp only [↓vS,vT,shb,shv,qb,qc,cellsOf,wr,qa,simprocAttr]
    refine h8.sc ?_
    simp only [↓vS,vT,shb,shv,qb,qc,cellsOf,wr,qa,simprocAttr]
    simp [vZ]
end Go.Kc
end
