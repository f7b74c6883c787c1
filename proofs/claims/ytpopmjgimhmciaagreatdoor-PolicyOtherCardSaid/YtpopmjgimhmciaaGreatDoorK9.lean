/- Part 9 of the abstract machine and of the functions' walks. Conditions: with each theorem. -/
import Derived.Test.YtpopmjgimhmciaaGreatDoorK8
set_option linter.unusedSimpArgs false
set_option linter.unusedVariables false
set_option linter.unnecessarySimpa false
section
/- May a list be: what fold.May answers. Condition: the function's text is this. -/
namespace Go.Kc
variable {P:Program} {f:Nat}
def okC (c:GCall):Bool:=jG c.name && QQ c.act
noncomputable def vb:Option GCall->List GCall->Bool
 | _,[]=>true
 | o,c :: l=>okC c && (o.elim true fun b=>ltS b.name c.name) && vb (some c) l
noncomputable def zM (l:GList):Bool:=decide (l.mode<=2) && (decide (l.mode≠0) || decide (l.calls = [])) && vb none l.calls
def kL (f_calls_Known f_fold_action:Nat):ICode:=.seq (.seq (.r [.q 19 (.fAddr 1 (.t 1)),.q 20 (.load1 (.t 19)),.q 21 (.len false (.t 20)),.m 22 (.k 0)]) (.blk 0 (.loop (.seq (.r [.q 23 (.bin .lss (.t 22) (.t 21))]) (.seq (.cond (.t 23) (.skip) (.exit 0)) (.seq (.blk 1 (.seq (.r [.m 24 (.t 22),.q 25 (.iAddrS 2 (.t 20) (.t 22)),.q 26 (.loadN 2 (.t 25)),.q 4 (.alloc [.s [],.i .u32 0]),.m 3 (.t 24),.u (.store 2 (.t 4) (.t 26))]) (.seq (.reg true [.q 27 (.fAddr 0 (.t 4)),.q 28 (.load1 (.t 27)),.l 29 f_calls_Known [.t 28],.q 30 (.un .not (.t 29)),.m 31 (.t 30),.g 32 (.fAddr 1 (.t 4)) 31 false,.g 33 (.load1 (.t 32)) 31 false,⟨(some 34),.callF f_fold_action [.t 33],(some (31,false))⟩,.g 35 (.un .not (.t 34)) 31 false,.q 36 (.pick (.t 31) (.c (.b true)) (.t 35)),.m 37 (.t 36),.g 38 (.mov (.t 3)) 37 false,.g 39 (.bin .gtr (.t 38) (.k 0)) 37 false,.g 40 (.mov (.t 39)) 37 false,.g 41 (.fAddr 1 (.t 1)) 40 true,.g 42 (.load1 (.t 41)) 40 true,.g 43 (.mov (.t 3)) 40 true,.g 44 (.bin .sub (.t 43) (.k 1)) 40 true,.g 45 (.iAddrS 2 (.t 42) (.t 44)) 40 true,.g 46 (.fAddr 0 (.t 45)) 40 true,.g 47 (.load1 (.t 46)) 40 true,.g 48 (.fAddr 0 (.t 4)) 40 true,.g 49 (.load1 (.t 48)) 40 true,.g 50 (.bin .geq (.t 47) (.t 49)) 40 true,.g 51 (.pick (.t 40) (.t 50) (.c (.b false))) 37 false,.q 52 (.pick (.t 37) (.c (.b true)) (.t 51))]) (.cond (.t 52) (.seq (.r [.m 2 (.c (.b false))]) (.ret)) (.skip))))) (.r [.q 53 (.bin .add (.t 22) (.k 1)),.m 22 (.t 53)]))))))) (.seq (.r [.m 2 (.c (.b true))]) (.ret))
def JH (f_calls_Known f_fold_action:Nat):IFn:=⟨[.tmp 2],.seq (.r [.q 1 (.box (.t 0)),.m 2 (.c (.b false))]) (.seq (.seq (.r [.q 5 (.fAddr 0 (.t 1)),.q 6 (.load1 (.t 5)),.q 7 (.bin .gtr (.t 6) (.c (.i .u8 2))),.m 8 (.t 7),.g 9 (.fAddr 0 (.t 1)) 8 false,.g 10 (.load1 (.t 9)) 8 false,.g 11 (.bin .eql (.t 10) (.c (.i .u8 0))) 8 false,.g 12 (.mov (.t 11)) 8 false,.g 13 (.fAddr 1 (.t 1)) 12 true,.g 14 (.load1 (.t 13)) 12 true,.g 15 (.len false (.t 14)) 12 true,.g 16 (.bin .gtr (.t 15) (.k 0)) 12 true,.g 17 (.pick (.t 12) (.t 16) (.c (.b false))) 8 false,.q 18 (.pick (.t 8) (.c (.b true)) (.t 17))]) (.cond (.t 18) (.seq (.r [.m 2 (.c (.b false))]) (.ret)) (.skip))) (.cut (kL f_calls_Known f_fold_action)))⟩
theorem qim {g1 g2:Nat} (h1:∀ s,qg P g1 [.s s] (.b (jG s))) (h2:∀ n,qg P g2 [.i .u32 n] (.b (QQ n))) (l:GList) (hl:l.calls.length<=100000) {t':Tr AV} {h':Hp} (hw:Wk 0 t' h' (mkT [(1,.ptr 0 0),(2,.b false)]) (mkH 0 [.cells 0 true false (qE l)])) :
  S P 0 (kL g1 g2) (jz [.tmp 2] fun v' h'=>Frz h' v' (.b (vb none l.calls))) t' h':=by
 refine S.weak hw (qA ?_)
 simp only [kL,qE,qh,H0,mkT,mkH,trL,vI,simprocAttr]
 simp only [↓vS,vT,shb,shv,qb,qc,cellsOf,wr,qa,simprocAttr]
 refine SL.loop (α:=Nat) (fun j=>[(1,.ptr 0 0),(2,.b false),(20,.fz l.calls.length (rC l.calls)),(21,.i .i64 l.calls.length),(22,.i .i64 j)]) (fun _=>[.cells 0 true false (qE l)])
  (fun j=>j<=l.calls.length∧vb none l.calls = vb (if j = 0 then none else l.calls[j - 1]?) (l.calls.drop j)) (fun j=>l.calls.length - j) 0 [0] ?_ ?_ ?_ rfl ?_ ?_
 ·simp [vw,qj]
 ·simp [vw,qE]
 ·simp
 ·exact ⟨Nat.zero_le _,rfl⟩
 rintro j ⟨hj,hI⟩ G ih
 simp only [qh,H0,mkT,mkH,trL,vI,simprocAttr,qE]
 by_cases hlt:j < l.calls.length
 ·have hx : l.calls[j]? = some l.calls[j]:=List.getElem?_eq_getElem hlt
  have he:=ZG hx
  have hb:=kV hlt
  have hw:IntKind.wrap .i64 ((j:Int) + 1) = ((j + 1:Nat):Int):=by rw [qG (by omega) (by omega)]; omega
  rw [List.drop_eq_getElem_cons hlt,vb] at hI
  have hnx:l.calls[j]? = some l.calls[j]:=hx
  generalize hc0:l.calls[j] = c at hI he hx
  simp only [↓vS,vT,shb,shv,qb,qc,cellsOf,wr,qa,simprocAttr,hlt,hb,he,jy]
  refine zS ?_
  simp only [↓vS,vT,shb,shv,qb,qc,cellsOf,wr,qa,simprocAttr]
  refine (h1 c.name).pc ?_
  cases hk:jG c.name with
  | false =>
   have hw:vb none l.calls = false:=by rw [hI]; simp [okC,hk]
   simp only [↓vS,vT,shb,shv,qb,qc,cellsOf,wr,qa,simprocAttr]
   simp [vZ,hw]
  | true =>
   simp only [↓vS,vT,shb,shv,qb,qc,cellsOf,wr,qa,simprocAttr]
   refine (h2 c.act).pc ?_
   cases hac:QQ c.act with
   | false =>
    have hw:vb none l.calls = false:=by rw [hI]; simp [okC,hac]
    simp only [↓vS,vT,shb,shv,qb,qc,cellsOf,wr,qa,simprocAttr]
    simp [vZ,hw]
   | true =>
    have hok:okC c = true:=by simp [okC,hk,hac]
    by_cases h0:j = 0
    ·subst h0
     have hn:¬ (0:Int) < ((0:Nat):Int):=by decide
     simp only [↓vS,vT,shb,shv,qb,qc,cellsOf,wr,qa,simprocAttr,hn,hw]
     refine ih 1 ⟨by omega,?_⟩ (by omega) _ _ (Wk.mk _ _ [0] ?_ ?_ ?_ rfl)
     ·rw [hI,hok]; simp [hx]
     ·simp [vw,qj]
      exact qG (by decide) (by decide)
     ·simp [vw,qE]
     ·simp
    ·have hp:(0:Int) < (j:Int):=by omega
     have hpl:j - 1 < l.calls.length:=by omega
     have hy:l.calls[j - 1]? = some l.calls[j - 1]:=List.getElem?_eq_getElem hpl
     have hw2:IntKind.wrap .i64 ((j:Int) - 1) = ((j - 1:Nat):Int):=by rw [qG (by omega) (by omega)]; omega
     have g0:(rC l.calls)[(j - 1) * 2]? = some (.s l.calls[j - 1].name):=qoH hy (i:=0) (by decide)
     rw [if_neg h0,hy] at hI
     cases hlt2:ltS l.calls[j - 1].name c.name with
     | false =>
      have hwf:vb none l.calls = false:=by rw [hI]; simp [hlt2]
      simp only [↓vS,vT,shb,shv,qb,qc,cellsOf,wr,qa,simprocAttr,hp,hw2,hpl,g0,hlt2]
      simp [vZ,hwf]
     | true =>
      simp only [↓vS,vT,shb,shv,qb,qc,cellsOf,wr,qa,simprocAttr,hp,hw2,hpl,g0,hlt2,hw]
      refine ih (j + 1) ⟨by omega,?_⟩ (by omega) _ _ (Wk.mk _ _ [0] ?_ ?_ ?_ rfl)
      ·rw [hI,hok]; simp [hlt2,hx]
      ·simp [vw,qj]
      ·simp [vw,qE]
      ·simp
 ·rw [List.drop_of_length_le (by omega),vb] at hI
  simp only [↓vS,vT,shb,shv,qb,qc,cellsOf,wr,qa,simprocAttr,hlt]
  simp [vZ,hI]
theorem qq6 {g1 g2:Nat} (hc:qm P f (JH g1 g2) = true) (h1:∀ s,qg P g1 [.s s] (.b (jG s))) (h2:∀ n,qg P g2 [.i .u32 n] (.b (QQ n))) (l:GList) (hl:l.calls.length<=100000):qg P f [.agg (qE l)] (.b (zM l)):=by
 refine qg.mk hc rfl ?_
 simp only [JH,qE,qh,H0,mkT,mkH,trL,vI,simprocAttr]
 by_cases m1:2 < l.mode
 ·have hw:zM l = false:=by simp [zM]; omega
  simp only [↓vS,vT,shb,shv,qb,qc,cellsOf,wr,qa,simprocAttr,m1]
  simp [vZ,hw]
 have tail:(l.mode≠0∨l.calls = [])->zM l = vb none l.calls:=fun h=>by
  have:(decide (l.mode<=2) && (decide (l.mode≠0) || decide (l.calls = []))) = true:=by
   simp only [Bool.and_eq_true,Bool.or_eq_true,decide_eq_true_eq]; exact ⟨by omega,h⟩
  unfold zM; rw [this]; rfl
 by_cases m2:l.mode = 0
 ·by_cases m3:(0:Int) < l.calls.length
  ·have hne:l.calls≠[]:=by intro h; rw [h] at m3; simp at m3
   have hw:zM l = false:=by simp [zM,m2,hne]
   simp only [↓vS,vT,shb,shv,qb,qc,cellsOf,wr,qa,simprocAttr,m1,m2,m3]
   simp [vZ,hw]
  ·have hz:l.calls = []:=List.eq_nil_of_length_eq_zero (by omega)
   rw [tail (.inr hz)]
   simp only [↓vS,vT,shb,shv,qb,qc,cellsOf,wr,qa,simprocAttr,m1,m2,m3]
   refine qim h1 h2 l hl (Wk.mk _ _ [0] ?_ ?_ ?_ rfl)
   ·simp [vw]
   ·simp [vw,qE,m2]
   ·simp
 ·rw [tail (.inl m2)]
  simp only [↓vS,vT,shb,shv,qb,qc,cellsOf,wr,qa,simprocAttr,m1,m2]
  refine qim h1 h2 l hl (Wk.mk _ _ [0] ?_ ?_ ?_ rfl)
  ·simp [vw]
  ·simp [vw,qE]
  ·simp
end Go.Kc
end
section
/- What fold.Put and fold.Take answer. Condition: the functions' texts are these. -/
namespace Go.Kc
variable {P:Program} {f:Nat}
noncomputable def yp (l:GList) (s:List UInt8):GList:=if zM l = true then ⟨l.mode,l.calls.filter fun c=>!decide (c.name = s)⟩ else l
def qm2 (P:Program) (f:Nat):Prop:=∀ l:GList,l.calls.length<=100000->Own P f [.agg (qE l)] (.agg [.i .u8 l.mode,.own 0 l.calls.length]) [.cells 2 true true (rC l.calls)]
def qm3 (P:Program) (f:Nat):Prop:=∀ l:GList,l.calls.length<=100000->qg P f [.agg (qE l)] (.b (zM l))
def Qy (f_fold_copied f_fold_May f_fold_Take_1 f_slices_DeleteFunc_api_Call_api_Call:Nat):ICode:=.seq (.seq (.r [.q 7 (.loadN 2 (.t 2)),.l 8 f_fold_May [.t 7]]) (.cond (.t 8) (.r [.q 9 (.fAddr 1 (.t 2)),.q 10 (.load1 (.t 9)),.q 11 (.mkF f_fold_Take_1 [] [.t 3]),.l 12 f_slices_DeleteFunc_api_Call_api_Call [.t 10,.t 11],.q 13 (.fAddr 1 (.t 2)),.u (.store 1 (.t 13) (.t 12))]) (.skip))) (.seq (.r [.q 14 (.loadN 2 (.t 2)),.u (.store 2 (.t 4) (.t 14))]) (.ret))
def XM (f_fold_copied f_fold_May f_fold_Take_1 f_slices_DeleteFunc_api_Call_api_Call:Nat):IFn:=⟨[.cell 4 2 true],.seq (.r [.q 2 (.box (.t 0)),.q 3 (.box (.t 1)),.q 4 (.alloc [.i .u8 0,.nils])]) (.seq (.r [.q 5 (.loadN 2 (.t 2)),.l 6 f_fold_copied [.t 5],.u (.store 2 (.t 2) (.t 6))]) (.cut (Qy f_fold_copied f_fold_May f_fold_Take_1 f_slices_DeleteFunc_api_Call_api_Call)))⟩
theorem qp3 {g1 g2 g3 g4:Nat} (hc:qm P f (XM g1 g2 g3 g4) = true) (h1:qm2 P g1) (h2:qm3 P g2) (h3:∀ s c,qg P g3 [.agg (jy c),.pf [.s s] 0] (.b (decide (c.name = s)))) (h4:Xz P g4) (l:GList) (s:List UInt8) (hl:l.calls.length<=100000) :
  qg P f [.agg (qE l),.s s] (.agg (qE (yp l s))):=by
 refine qg.mk hc rfl ?_
 simp only [XM,qE,qh,H0,mkT,mkH,trL,vI,simprocAttr]
 simp only [↓vS,vT,shb,shv,qb,qc,cellsOf,wr,qa,simprocAttr]
 refine (h1 l hl).sc ?_
 simp only [vJ,shb,shv,qb,simprocAttr]
 simp only [↓vS,vT,shb,shv,qb,qc,cellsOf,wr,qa,simprocAttr]
 refine S.weak (Wk.mk [(2,.ptr 0 0),(3,.ptr 1 0),(4,.ptr 2 0)] [.cells 0 true false [.i .u8 l.mode,.own 3 l.calls.length],.cells 0 true false [.s s],.cells 0 true false [.i .u8 0,.nils],.cells 2 true true (rC l.calls)] [0,1,2,3] ?_ ?_ ?_ rfl) ?_
 ·simp [vw]
 ·simp [vw,qd,qj,z0 qj]
  try decide
 ·simp [vw]
 refine S.weak (Wk.freeze 1 0 0 rfl rfl (Nat.zero_le _) (by simp)) ?_
 refine qA ?_
 simp only [Qy,qh,H0,mkT,mkH,trL,vI,simprocAttr,fzv,kJ,fzB,List.map_cons,List.map_nil,List.set_cons_zero,List.set_cons_succ,if_true,qc5 qj]
 simp only [↓vS,vT,shb,shv,qb,qc,cellsOf,wr,qa,simprocAttr]
 refine (h2 l hl).lend (vs':=[.agg (qE l)]) ?_ rfl ?_
 ·simp [vZ,vP,Tr.get_set,qE,qH qj]
  intro h0; rw [h0]; rfl
 cases hM:zM l with
 | false =>
  have hw:yp l s = l:=by unfold yp; rw [hM]; rfl
  simp only [↓vS,vT,shb,shv,qb,qc,cellsOf,wr,qa,simprocAttr]
  rw [hw]
  simp [vZ,vP,Tr.get_set,qE,qH qj]
  intro h0; rw [h0]; rfl
 | true =>
  have hw:yp l s = ⟨l.mode,l.calls.filter fun c=>!decide (c.name = s)⟩:=by unfold yp; rw [hM]; rfl
  simp only [↓vS,vT,shb,shv,qb,qc,cellsOf,wr,qa,simprocAttr]
  refine (h4 (fun c=>decide (c.name = s)) g3 [] [.pf [.s s] 0] l.calls rfl rfl (by simp only [qi]; omega) (fun c _=>h3 s c)).sc (vs:=[.own 0 l.calls.length,.fn g3 [] [.pf [.s s] 0]]) [3] (Lent.of (by decide) ?_) ?_
  ·simp [vL,shb,shv,qb,qW,bnd,qM,rnv,gAt,vw,qJ qj,ql qj,z0 qj]
  simp only [vK,qR,rnb,qM,rnv,gAt,simprocAttr,ql qj]
  simp only [↓vS,vT,shb,shv,qb,qc,cellsOf,wr,qa,simprocAttr]
  rw [hw]
  simp [vZ,vP,Tr.get_set,qH qj]
  intro h0
  rw [List.filter_eq_nil_iff.2 (by simpa using h0)]
  rfl
noncomputable def Jn (l:List GCall) (s:List UInt8) (n:Int):List GCall :=
 if (l[bsC l (fun c=>zE c.name s)]?).elim false (fun c=>decide (zE c.name s = 0)) = true then l.set (bsC l (fun c=>zE c.name s)) ⟨s,n⟩
 else l.take (bsC l (fun c=>zE c.name s))++⟨s,n⟩ :: l.drop (bsC l (fun c=>zE c.name s))
noncomputable def XT (l:GList) (s:List UInt8) (n:Int):GList:=if zM l = true then ⟨l.mode,Jn l.calls s n⟩ else l
def Q3 (f_fold_copied f_fold_May f_slices_BinarySearchFunc_api_Call_api_Call_string f_fold_Put_1 f_slices_Insert_api_Call_api_Call:Nat):ICode:=.seq (.seq (.r [.q 12 (.loadN 2 (.t 3)),.l 13 f_fold_May [.t 12],.q 14 (.un .not (.t 13))]) (.cond (.t 14) (.seq (.r [.q 15 (.loadN 2 (.t 3)),.u (.store 2 (.t 6) (.t 15))]) (.ret)) (.skip))) (.seq (.r [.m 16 (.t 1),.m 17 (.t 2),.q 18 (.build [.s [],.i .u32 0] [(0,1,(.t 16)),(1,1,(.t 17))]),.q 7 (.alloc [.s [],.i .u32 0]),.u (.store 2 (.t 7) (.t 18))]) (.seq (.r [.q 20 (.fAddr 1 (.t 3)),.q 21 (.load1 (.t 20)),.m 22 (.t 1),.l 23 f_slices_BinarySearchFunc_api_Call_api_Call_string [.t 21,.t 22,(.c (.fn f_fold_Put_1 [] []))],.m 19 (.t 23),.q 24 (.ext (.t 19) 0),.q 25 (.ext (.t 19) 1),.m 8 (.t 24),.m 9 (.t 25)]) (.seq (.seq (.r [.m 26 (.t 9)]) (.cond (.t 26) (.r [.q 27 (.fAddr 1 (.t 3)),.q 28 (.load1 (.t 27)),.m 29 (.t 8),.q 30 (.loadN 2 (.t 7)),.q 31 (.iAddrS 2 (.t 28) (.t 29)),.u (.store 2 (.t 31) (.t 30))]) (.r [.q 32 (.fAddr 1 (.t 3)),.q 33 (.load1 (.t 32)),.m 34 (.t 8),.q 35 (.loadN 2 (.t 7)),.q 36 (.buildS 1 [.s [],.i .u32 0] [(0,2,(.t 35))]),.l 37 f_slices_Insert_api_Call_api_Call [.t 33,.t 34,.t 36],.q 38 (.fAddr 1 (.t 3)),.u (.store 1 (.t 38) (.t 37))]))) (.seq (.r [.q 39 (.loadN 2 (.t 3)),.u (.store 2 (.t 6) (.t 39))]) (.ret)))))
def JI (f_fold_copied f_fold_May f_slices_BinarySearchFunc_api_Call_api_Call_string f_fold_Put_1 f_slices_Insert_api_Call_api_Call:Nat):IFn:=⟨[.cell 6 2 true],.seq (.r [.q 3 (.box (.t 0)),.q 6 (.alloc [.i .u8 0,.nils])]) (.seq (.r [.q 10 (.loadN 2 (.t 3)),.l 11 f_fold_copied [.t 10],.u (.store 2 (.t 3) (.t 11))]) (.cut (Q3 f_fold_copied f_fold_May f_slices_BinarySearchFunc_api_Call_api_Call_string f_fold_Put_1 f_slices_Insert_api_Call_api_Call)))⟩
theorem qrl {g1 g2 g3 g4 g5:Nat} (hc:qm P f (JI g1 g2 g3 g4 g5) = true) (h1:qm2 P g1) (h2:qm3 P g2) (h3:qqt P g3) (h4:∀ (c:GCall) (s:List UInt8),qg P g4 [.agg (jy c),.s s] (.i .i64 (zE c.name s))) (h5:Zu 2 24 P g5) (l:GList) (s:List UInt8) (n:Int) (hl:l.calls.length<=100000) :
  qg P f [.agg (qE l),.s s,.i .u32 n] (.agg (qE (XT l s n))):=by
 refine qg.mk hc rfl ?_
 simp only [JI,qE,qh,H0,mkT,mkH,trL,vI,simprocAttr]
 simp only [↓vS,vT,shb,shv,qb,qc,cellsOf,wr,qa,simprocAttr]
 refine (h1 l hl).sc ?_
 simp only [vJ,shb,shv,qb,simprocAttr]
 simp only [↓vS,vT,shb,shv,qb,qc,cellsOf,wr,qa,simprocAttr]
 refine S.weak (Wk.mk [(1,.s s),(2,.i .u32 n),(3,.ptr 0 0),(6,.ptr 1 0)] [.cells 0 true false [.i .u8 l.mode,.own 2 l.calls.length],.cells 0 true false [.i .u8 0,.nils],.cells 2 true true (rC l.calls)] [0,1,2] ?_ ?_ ?_ rfl) (qA ?_)
 ·simp [vw]
 ·simp [vw,qd,qj,z0 qj]
  try decide
 ·simp [vw]
 simp only [Q3,qh,H0,mkT,mkH,trL,vI,simprocAttr]
 simp only [↓vS,vT,shb,shv,qb,qc,cellsOf,wr,qa,simprocAttr]
 refine (h2 l hl).lend (vs':=[.agg (qE l)]) ?_ rfl ?_
 ·simp [vZ,vP,Tr.get_set,qE,qH qj]
  intro h0; rw [h0]; rfl
 cases hM:zM l with
 | false =>
  have hw:XT l s n = l:=by unfold XT; rw [hM]; rfl
  simp only [↓vS,vT,shb,shv,qb,qc,cellsOf,wr,qa,simprocAttr]
  rw [hw]
  simp [vZ,vP,Tr.get_set,qE,qH qj]
  intro h0; rw [h0]; rfl
 | true =>
  have hw:XT l s n = ⟨l.mode,Jn l.calls s n⟩:=by unfold XT; rw [hM]; rfl
  have hb:=qmY l.calls (fun c=>zE c.name s)
  simp only [↓vS,vT,shb,shv,qb,qc,cellsOf,wr,qa,simprocAttr]
  refine (h3 l.calls s g4 (fun c=>zE c.name s) (by simp only [qi]; omega) (fun c _=>h4 c s)).lend (vs':=[.fz l.calls.length (rC l.calls),.s s,.fn g4 [] []]) ?_ rfl ?_
  ·simp [vZ,vP,Tr.get_set,qH qj]
   intro h0; rw [h0]; rfl
  rw [hw]
  cases hfd:(l.calls[bsC l.calls (fun c=>zE c.name s)]?).elim false (fun c=>decide (zE c.name s = 0)) with
  | true =>
   have hp:Jn l.calls s n = l.calls.set (bsC l.calls (fun c=>zE c.name s)) ⟨s,n⟩:=if_pos hfd
   have hlt:bsC l.calls (fun c=>zE c.name s) < l.calls.length:=by
    rcases Nat.lt_or_ge (bsC l.calls (fun c=>zE c.name s)) l.calls.length with h | h
    ·exact h
    ·rw [List.getElem?_eq_none h] at hfd; cases hfd
   have hbd:=kV hlt
   have hset:rC (l.calls.set (bsC l.calls (fun c=>zE c.name s)) ⟨s,n⟩) = (rC l.calls).take (bsC l.calls (fun c=>zE c.name s) * 2)++(AV.s s :: AV.i .u32 n :: (rC l.calls).drop (bsC l.calls (fun c=>zE c.name s) * 2 + 2)):=by
    have e2:bsC l.calls (fun c=>zE c.name s) * 2 + 2 = (bsC l.calls (fun c=>zE c.name s) + 1) * 2:=by omega
    rw [e2,qap,qcq,List.set_eq_take_append_cons_drop,if_pos hlt,← qei,qao] <;> rfl
   simp only [↓vS,vT,shb,shv,qb,qc,cellsOf,wr,qa,simprocAttr,hlt,hbd]
   rw [hp]
   simp only [← hset]
   simp [vZ,vP,Tr.get_set,qH qj]
   intro h0; rw [h0] at hlt; simp at hlt
  | false =>
   have hp:Jn l.calls s n = l.calls.take (bsC l.calls (fun c=>zE c.name s))++⟨s,n⟩ :: l.calls.drop (bsC l.calls (fun c=>zE c.name s)):=if_neg (by rw [hfd]; decide)
   simp only [↓vS,vT,shb,shv,qb,qc,cellsOf,wr,qa,simprocAttr]
   refine (h5 l.calls.length (bsC l.calls (fun c=>zE c.name s)) (rC l.calls) [.s s,.i .u32 n] (by rw [kf]) rfl qj rfl qa1 rfl hb (by simp only [qi]; omega) (by simp only [qi]; omega)).sc (vs:=[.own 0 l.calls.length,.i .i64 (bsC l.calls (fun c=>zE c.name s):Int),.sl 1 0 1 1 false]) [2,4] (Lent.of (by decide) ?_) ?_
   ·simp [vL,shb,shv,qb,qW,bnd,qM,rnv,gAt,vw,qJ qj,ql qj]
   have hT:rC (Jn l.calls s n) = (rC l.calls).take (bsC l.calls (fun c=>zE c.name s) * 2)++([.s s,.i .u32 n]++(rC l.calls).drop (bsC l.calls (fun c=>zE c.name s) * 2)):=by
    rw [hp,← qei,qao,qap,qcq]; rfl
   have hL:(Jn l.calls s n).length = l.calls.length + 1:=by
    rw [hp]; simp; omega
   simp only [← hT]
   simp only [vK,qR,rnb,qM,rnv,gAt,simprocAttr,ql qj]
   simp only [↓vS,vT,shb,shv,qb,qc,cellsOf,wr,qa,simprocAttr]
   simp [vZ,vP,Tr.get_set,qH qj,hL]
end Go.Kc
end
section
/- What a list's lines are read by: fold.ins, values.Read. Condition: the functions' texts are these. -/
namespace Go.Kc
variable {P:Program} {f:Nat}
def JJ:IFn:=⟨[.cell 0 4 true],.seq (.r [.q 0 (.alloc [.b false,.b false,.b false,.b false])]) (.seq (.r [.q 1 (.build [.b false,.b false] [(0,1,(.c (.b true))),(1,1,(.c (.b false)))]),.q 2 (.build [.b false,.b false] [(0,1,(.c (.b false))),(1,1,(.c (.b true)))]),.q 3 (.build [.b false,.b false,.b false,.b false] [(0,2,(.t 1)),(2,2,(.t 2))]),.u (.store 4 (.t 0) (.t 3))]) (.ret))⟩
theorem qqO (hc:qm P f JJ = true):qg P f [] (.agg [.b true,.b false,.b false,.b true]):=by
 refine qg.mk hc rfl ?_
 simp only [JJ,qh,H0,mkT,mkH,trL,vI,simprocAttr]
 simp only [↓vS,vT,shb,shv,qb,qc,cellsOf,wr,qa,simprocAttr,vZ]
def xv (f_internal_bytealg_IndexByteString:Nat):IFn:=⟨[.tmp 4],.seq (.r [.m 4 (.k 0)]) (.seq (.r [.m 5 (.t 0),.m 6 (.t 1),.l 7 f_internal_bytealg_IndexByteString [.t 5,.t 6],.m 4 (.t 7)]) (.ret))⟩
theorem qh4 {g:Nat} (hc:qm P f (xv g) = true) (hg:∀ (a:List UInt8) (c:UInt8),qg P g [.s a,.i .u8 (c.toNat:Int)] (.i .i64 (Qj c a 0))) (a:List UInt8) (c:UInt8):qg P f [.s a,.i .u8 (c.toNat:Int)] (.i .i64 (Qj c a 0)):=by
 refine qg.mk hc rfl ?_
 simp only [xv,qh,H0,mkT,mkH,trL,vI,simprocAttr]
 simp only [↓vS,vT,shb,shv,qb,qc,cellsOf,wr,qa,simprocAttr]
 refine (hg a c).sc ?_
 simp only [↓vS,vT,shb,shv,qb,qc,cellsOf,wr,qa,simprocAttr,vZ]
theorem qaM (c:UInt8):∀ (a:List UInt8) (j:Nat),Qj c a j = -1∨∃ i:Nat,Qj c a j = ((j + i:Nat):Int)∧i < a.length
 | [],j=>.inl rfl
 | x :: xs,j=>by
  unfold Qj
  split
  ·exact .inr ⟨0,rfl,by simp⟩
  ·rcases qaM c xs (j + 1) with h | ⟨i,h,hi⟩
   ·exact .inl h
   ·exact .inr ⟨i + 1,by rw [h]; omega,by simp; omega⟩
def jm (f_internal_stringslite_IndexByte f_internal_bytealg_IndexString f_internal_bytealg_Cutover f_internal_bytealg_IndexRabinKarp_string:Nat):IFn:=⟨[.tmp 4],.seq (.r [.m 4 (.k 0)]) (.seq (.r [.m 14 (.t 1),.q 15 (.len true (.t 14)),.m 5 (.t 15)]) (.seq (.blk 0 (.seq (.r [.m 17 (.t 5),.q 18 (.bin .eql (.t 17) (.k 0)),.m 19 (.t 18),.g 20 (.mov (.t 1)) 19 false,.g 21 (.mov (.t 0)) 19 false,.g 22 (.bin .eql (.t 20) (.t 21)) 19 false,.q 23 (.pick (.t 19) (.c (.b true)) (.t 22)),.m 16 (.t 23)]) (.cond (.t 16) (.seq (.r [.m 4 (.k 0)]) (.ret)) (.seq (.r [.m 25 (.t 5),.q 26 (.bin .eql (.t 25) (.k 1)),.m 24 (.t 26)]) (.cond (.t 24) (.seq (.r [.m 27 (.t 0),.m 28 (.t 1),.q 29 (.idxS (.t 28) (.k 0)),.l 30 f_internal_stringslite_IndexByte [.t 27,.t 29],.m 4 (.t 30)]) (.ret)) (.seq (.r [.m 32 (.t 5),.m 33 (.t 0),.q 34 (.len true (.t 33)),.q 35 (.bin .geq (.t 32) (.t 34)),.m 31 (.t 35)]) (.cond (.t 31) (.seq (.r [.q 4 (.mov (.c (.i .i64 (-1))))]) (.ret)) (.seq (.r [.m 37 (.t 5),.q 38 (.no),.q 39 (.bin .leq (.t 37) (.t 38)),.m 40 (.t 39),.g 41 (.mov (.t 0)) 40 true,.g 42 (.len true (.t 41)) 40 true,.g 43 (.bin .leq (.t 42) (.k 64)) 40 true,.q 44 (.pick (.t 40) (.t 43) (.c (.b false))),.m 36 (.t 44)]) (.cond (.t 36) (.seq (.r [.m 45 (.t 0),.m 46 (.t 1),.l 47 f_internal_bytealg_IndexString [.t 45,.t 46],.m 4 (.t 47)]) (.ret)) (.skip)))))))))) (.seq (.r [.m 48 (.t 1),.q 49 (.idxS (.t 48) (.k 0)),.m 6 (.t 49)]) (.seq (.r [.m 50 (.t 1),.q 51 (.idxS (.t 50) (.k 1)),.m 7 (.t 51)]) (.seq (.r [.m 8 (.k 0)]) (.seq (.r [.m 52 (.t 0),.q 53 (.len true (.t 52)),.m 54 (.t 5),.q 55 (.bin .sub (.t 53) (.t 54)),.q 56 (.bin .add (.t 55) (.k 1)),.m 9 (.t 56)]) (.seq (.r [.m 10 (.k 0)]) (.seq (.blk 1 (.loop (.seq (.seq (.r [.m 57 (.t 8),.m 58 (.t 9),.q 59 (.bin .lss (.t 57) (.t 58))]) (.cond (.t 59) (.skip) (.exit 1))) (.blk 2 (.seq (.seq (.r [.m 60 (.t 0),.m 61 (.t 8),.q 62 (.idxS (.t 60) (.t 61)),.m 63 (.t 6),.q 64 (.bin .neq (.t 62) (.t 63))]) (.cond (.t 64) (.seq (.r [.m 65 (.t 0),.m 66 (.t 8),.q 67 (.bin .add (.t 66) (.k 1)),.m 68 (.t 9),.q 69 (.slcStr (.t 65) (some (.t 67)) (some (.t 68))),.m 70 (.t 6),.l 71 f_internal_stringslite_IndexByte [.t 69,.t 70],.m 11 (.t 71)]) (.seq (.seq (.r [.m 72 (.t 11),.q 73 (.bin .lss (.t 72) (.k 0))]) (.cond (.t 73) (.seq (.r [.q 4 (.mov (.c (.i .i64 (-1))))]) (.ret)) (.skip))) (.r [.m 74 (.t 8),.m 75 (.t 11),.q 76 (.bin .add (.t 75) (.k 1)),.q 77 (.bin .add (.t 74) (.t 76)),.m 8 (.t 77)]))) (.skip))) (.seq (.seq (.r [.m 78 (.t 0),.m 79 (.t 8),.q 80 (.bin .add (.t 79) (.k 1)),.q 81 (.idxS (.t 78) (.t 80)),.m 82 (.t 7),.q 83 (.bin .eql (.t 81) (.t 82)),.m 84 (.t 83),.g 85 (.mov (.t 0)) 84 true,.g 86 (.mov (.t 8)) 84 true,.g 87 (.mov (.t 8)) 84 true,.g 88 (.mov (.t 5)) 84 true,.g 89 (.bin .add (.t 87) (.t 88)) 84 true,.g 90 (.slcStr (.t 85) (some (.t 86)) (some (.t 89))) 84 true,.g 91 (.mov (.t 1)) 84 true,.g 92 (.bin .eql (.t 90) (.t 91)) 84 true,.q 93 (.pick (.t 84) (.t 92) (.c (.b false)))]) (.cond (.t 93) (.seq (.r [.m 94 (.t 8),.m 4 (.t 94)]) (.ret)) (.skip))) (.seq (.r [.m 95 (.t 8),.q 96 (.bin .add (.t 95) (.k 1)),.m 8 (.t 96)]) (.seq (.r [.m 97 (.t 10),.q 98 (.bin .add (.t 97) (.k 1)),.m 10 (.t 98)]) (.seq (.r [.m 99 (.t 5),.q 100 (.no),.q 101 (.bin .leq (.t 99) (.t 100)),.m 102 (.t 101),.g 103 (.mov (.t 10)) 102 true,.g 104 (.mov (.t 8)) 102 true,⟨(some 105),.callF f_internal_bytealg_Cutover [.t 104],(some (102,true))⟩,.g 106 (.bin .gtr (.t 103) (.t 105)) 102 true,.q 107 (.pick (.t 102) (.t 106) (.c (.b false)))]) (.cond (.t 107) (.seq (.r [.m 108 (.t 0),.m 109 (.t 8),.q 110 (.slcStr (.t 108) (some (.t 109)) none),.m 111 (.t 1),.l 112 f_internal_bytealg_IndexString [.t 110,.t 111],.m 12 (.t 112)]) (.seq (.seq (.r [.m 113 (.t 12),.q 114 (.bin .geq (.t 113) (.k 0))]) (.cond (.t 114) (.seq (.r [.m 115 (.t 12),.m 116 (.t 8),.q 117 (.bin .add (.t 115) (.t 116)),.m 4 (.t 117)]) (.ret)) (.skip))) (.seq (.r [.q 4 (.mov (.c (.i .i64 (-1))))]) (.ret)))) (.seq (.r [.m 118 (.t 5),.q 119 (.no),.q 120 (.bin .gtr (.t 118) (.t 119)),.m 121 (.t 120),.g 122 (.mov (.t 10)) 121 true,.g 123 (.mov (.t 8)) 121 true,.g 124 (.bin .shr (.t 123) (.c (.i .u64 4))) 121 true,.g 125 (.bin .add (.k 4) (.t 124)) 121 true,.g 126 (.bin .geq (.t 122) (.t 125)) 121 true,.q 127 (.pick (.t 121) (.t 126) (.c (.b false))),.m 128 (.t 127),.g 129 (.mov (.t 8)) 128 true,.g 130 (.mov (.t 9)) 128 true,.g 131 (.bin .lss (.t 129) (.t 130)) 128 true,.q 132 (.pick (.t 128) (.t 131) (.c (.b false)))]) (.cond (.t 132) (.seq (.r [.m 133 (.t 0),.m 134 (.t 8),.q 135 (.slcStr (.t 133) (some (.t 134)) none),.m 136 (.t 1),.l 137 f_internal_bytealg_IndexRabinKarp_string [.t 135,.t 136],.m 13 (.t 137)]) (.seq (.seq (.r [.m 138 (.t 13),.q 139 (.bin .lss (.t 138) (.k 0))]) (.cond (.t 139) (.seq (.r [.q 4 (.mov (.c (.i .i64 (-1))))]) (.ret)) (.skip))) (.seq (.r [.m 140 (.t 8),.m 141 (.t 13),.q 142 (.bin .add (.t 140) (.t 141)),.m 4 (.t 142)]) (.ret)))) (.skip))))))))))))) (.seq (.r [.q 4 (.mov (.c (.i .i64 (-1))))]) (.ret))))))))))⟩
theorem qrL {g1 g2 g3 g4:Nat} (hc:qm P f (jm g1 g2 g3 g4) = true) (hg:∀ (a:List UInt8) (c:UInt8),qg P g1 [.s a,.i .u8 (c.toNat:Int)] (.i .i64 (Qj c a 0))) (a:List UInt8):qg P f [.s a,.s [58]] (.i .i64 (Qj 58 a 0)):=by
 refine qg.mk hc rfl ?_
 simp only [jm,qh,H0,mkT,mkH,trL,vI,simprocAttr]
 by_cases h:[58] = a
 ·have h':([58] = a) = True:=eq_true h
  have hw:Qj 58 a 0 = 0:=by rw [← h]; rfl
  simp only [↓vS,vT,shb,shv,qb,qc,cellsOf,wr,qa,simprocAttr,h']
  simp [vZ,hw]
 ·simp only [↓vS,vT,shb,shv,qb,qc,cellsOf,wr,qa,simprocAttr,h]
  refine (hg a 58).sc ?_
  simp only [↓vS,vT,shb,shv,qb,qc,cellsOf,wr,qa,simprocAttr]
  simp [vZ]
def xY (a:List UInt8):List UInt8 × List UInt8 × Bool:=if 0<=Qj 58 a 0 then (a.take (Qj 58 a 0).toNat,a.drop ((Qj 58 a 0).toNat + 1),true) else (a,[],false)
def jL (f_internal_stringslite_Index:Nat):IFn:=⟨[.tmp 4,.tmp 5,.tmp 6],.seq (.r [.m 4 (.c (.s [])),.m 5 (.c (.s [])),.m 6 (.c (.b false))]) (.seq (.seq (.r [.m 8 (.t 0),.m 9 (.t 1),.l 10 f_internal_stringslite_Index [.t 8,.t 9],.m 7 (.t 10)]) (.seq (.r [.m 11 (.t 7),.q 12 (.bin .geq (.t 11) (.k 0))]) (.cond (.t 12) (.seq (.reg true [.m 13 (.t 0),.m 14 (.t 7),.q 15 (.slcStr (.t 13) none (some (.t 14))),.m 16 (.t 0),.m 17 (.t 7),.m 18 (.t 1),.q 19 (.len true (.t 18)),.q 20 (.bin .add (.t 17) (.t 19)),.q 21 (.slcStr (.t 16) (some (.t 20)) none),.m 4 (.t 15),.m 5 (.t 21),.m 6 (.c (.b true))]) (.ret)) (.skip)))) (.seq (.r [.m 22 (.t 0),.m 4 (.t 22),.m 5 (.c (.s [])),.m 6 (.c (.b false))]) (.ret)))⟩
theorem qrZ {g1:Nat} (hc:qm P f (jL g1) = true) (hg:∀ a,qg P g1 [.s a,.s [58]] (.i .i64 (Qj 58 a 0))) (a:List UInt8) (ha:a.length<=1000000):qg P f [.s a,.s [58]] (.tup [.s (xY a).1,.s (xY a).2.1,.b (xY a).2.2]):=by
 refine qg.mk hc rfl ?_
 simp only [jL,qh,H0,mkT,mkH,trL,vI,simprocAttr]
 simp only [↓vS,vT,shb,shv,qb,qc,cellsOf,wr,qa,simprocAttr]
 refine (hg a).sc ?_
 rcases qaM 58 a 0 with h | ⟨i,h,hi⟩
 ·have hw:xY a = (a,[],false):=by unfold xY; rw [h]; rfl
  rw [h,hw]
  simp only [↓vS,vT,shb,shv,qb,qc,cellsOf,wr,qa,simprocAttr]
  simp [vZ]
 ·rw [Nat.zero_add] at h
  have h0:(0:Int)<=(i:Int):=by omega
  have hw:xY a = (a.take i,a.drop (i + 1),true):=by unfold xY; rw [h,if_pos h0]; rfl
  have e1:IntKind.wrap .i64 ((i:Int) + 1) = ((i + 1:Nat):Int):=by rw [qG (by omega) (by omega)]; omega
  have h1:i<=a.length:=by omega
  have h2:i + 1<=a.length:=by omega
  have h3:(i:Int)<=a.length:=by omega
  rw [h,hw]
  simp only [↓vS,vT,shb,shv,qb,qc,cellsOf,wr,qa,simprocAttr,h0]
  refine zS ?_
  simp only [↓vS,vT,shb,shv,qb,qc,cellsOf,wr,qa,simprocAttr,h1,h2,h3,e1]
  simp [vZ]
def Zb (f_internal_stringslite_Cut:Nat):IFn:=⟨[.tmp 4,.tmp 5,.tmp 6],.seq (.r [.m 4 (.c (.s [])),.m 5 (.c (.s [])),.m 6 (.c (.b false))]) (.seq (.r [.m 7 (.t 0),.m 8 (.t 1),.l 9 f_internal_stringslite_Cut [.t 7,.t 8],.q 10 (.ext (.t 9) 0),.q 11 (.ext (.t 9) 1),.q 12 (.ext (.t 9) 2),.m 4 (.t 10),.m 5 (.t 11),.m 6 (.t 12)]) (.ret))⟩
theorem qsk {g1:Nat} (hc:qm P f (Zb g1) = true) (hg:∀ a:List UInt8,a.length<=1000000->qg P g1 [.s a,.s [58]] (.tup [.s (xY a).1,.s (xY a).2.1,.b (xY a).2.2])) (a:List UInt8) (ha:a.length<=1000000):qg P f [.s a,.s [58]] (.tup [.s (xY a).1,.s (xY a).2.1,.b (xY a).2.2]):=by
 refine qg.mk hc rfl ?_
 simp only [Zb,qh,H0,mkT,mkH,trL,vI,simprocAttr]
 simp only [↓vS,vT,shb,shv,qb,qc,cellsOf,wr,qa,simprocAttr]
 refine (hg a ha).sc ?_
 simp only [↓vS,vT,shb,shv,qb,qc,cellsOf,wr,qa,simprocAttr]
 simp [vZ]
structure Word where
 name:List UInt8
 act:Int
 has:Bool
def xV (w:Word):List AV:=[.s w.name,.i .u32 w.act,.b w.has]
noncomputable def qx (a:List UInt8):Word × Int :=
 if (xY a).1 = [] then (⟨[],0,false⟩,161)
 else if (xY a).2.2 = false then (⟨(xY a).1,0,false⟩,0)
 else if (xY a).2.1 = qaP then (⟨(xY a).1,2147483648,true⟩,0)
 else if (zf (xY a).2.1).2 = 0 then (⟨(xY a).1,327680 + (zf (xY a).2.1).1,true⟩,0)
 else (⟨[],0,false⟩,(zf (xY a).2.1).2)
theorem qhx (a:List UInt8):(xY a).2.1.length<=a.length:=by
 unfold xY; split <;> simp
def Zd (f_strings_Cut f_names_Errno:Nat):IFn:=⟨[.cell 2 3 true,.tmp 3],.seq (.r [.q 2 (.alloc [.s [],.i .u32 0,.b false]),.m 3 (.k 0)]) (.seq (.r [.m 11 (.t 0),.l 12 f_strings_Cut [.t 11,(.c (.s [58]))],.m 10 (.t 12),.q 13 (.ext (.t 10) 0),.q 14 (.ext (.t 10) 1),.q 15 (.ext (.t 10) 2),.m 4 (.t 13),.m 5 (.t 14),.m 6 (.t 15)]) (.seq (.seq (.r [.m 16 (.t 4),.q 17 (.bin .eql (.t 16) (.c (.s [])))]) (.cond (.t 17) (.seq (.r [.q 18 (.build [.s [],.i .u32 0,.b false] []),.u (.store 3 (.t 2) (.t 18)),.m 3 (.k 161)]) (.ret)) (.skip))) (.seq (.r [.m 19 (.t 4),.m 20 (.t 6),.q 21 (.build [.s [],.i .u32 0,.b false] [(0,1,(.t 19)),(2,1,(.t 20))]),.q 7 (.alloc [.s [],.i .u32 0,.b false]),.u (.store 3 (.t 7) (.t 21))]) (.seq (.blk 0 (.seq (.r [.m 35 (.t 6),.q 36 (.un .not (.t 35)),.m 34 (.t 36)]) (.cond (.t 34) (.skip) (.seq (.r [.m 38 (.t 5),.q 39 (.bin .eql (.t 38) (.c (.s [107,105,108,108]))),.m 37 (.t 39)]) (.cond (.t 37) (.r [.q 40 (.fAddr 1 (.t 7)),.u (.store 1 (.t 40) (.c (.i .u32 2147483648)))]) (.seq (.r [.m 23 (.t 5),.l 24 f_names_Errno [.t 23],.m 22 (.t 24),.q 25 (.ext (.t 22) 0),.q 26 (.ext (.t 22) 1),.m 8 (.t 25),.m 9 (.t 26)]) (.seq (.seq (.r [.m 27 (.t 9),.q 28 (.bin .neq (.t 27) (.k 0))]) (.cond (.t 28) (.seq (.r [.q 29 (.build [.s [],.i .u32 0,.b false] []),.m 30 (.t 9),.u (.store 3 (.t 2) (.t 29)),.m 3 (.t 30)]) (.ret)) (.skip))) (.r [.m 31 (.t 8),.q 32 (.bin .or (.c (.i .u32 327680)) (.t 31)),.q 33 (.fAddr 1 (.t 7)),.u (.store 1 (.t 33) (.t 32))])))))))) (.seq (.r [.q 41 (.loadN 3 (.t 7)),.u (.store 3 (.t 2) (.t 41)),.m 3 (.k 0)]) (.ret))))))⟩
theorem qpU {g1 g2:Nat} (hc:qm P f (Zd g1 g2) = true) (h1:∀ a:List UInt8,a.length<=1000000->qg P g1 [.s a,.s [58]] (.tup [.s (xY a).1,.s (xY a).2.1,.b (xY a).2.2]))
  (h2:∀ s:List UInt8,s.length<=1000000->qg P g2 [.s s] (.tup [.i .u32 (zf s).1,.i .i64 (zf s).2])) (a:List UInt8) (ha:a.length<=1000000):qg P f [.s a] (.tup [.agg (xV (qx a).1),.i .i64 (qx a).2]):=by
 refine qg.mk hc rfl ?_
 simp only [Zd,qh,H0,mkT,mkH,trL,vI,simprocAttr]
 simp only [↓vS,vT,shb,shv,qb,qc,cellsOf,wr,qa,simprocAttr]
 refine (h1 a ha).sc ?_
 by_cases e1:(xY a).1 = []
 ·have hw:qx a = (⟨[],0,false⟩,161):=if_pos e1
  rw [hw]
  simp only [↓vS,vT,shb,shv,qb,qc,cellsOf,wr,qa,simprocAttr,e1,xV]
  simp [vZ]
 cases e2:(xY a).2.2 with
 | false =>
  have hw:qx a = (⟨(xY a).1,0,false⟩,0):=by unfold qx; rw [if_neg e1,if_pos e2]
  rw [hw]
  simp only [↓vS,vT,shb,shv,qb,qc,cellsOf,wr,qa,simprocAttr,e1,xV]
  simp [vZ]
 | true =>
  by_cases e3:(xY a).2.1 = qaP
  ·have hw:qx a = (⟨(xY a).1,2147483648,true⟩,0):=by unfold qx; rw [if_neg e1,if_neg (by rw [e2]; decide),if_pos e3]
   rw [hw]
   simp only [qaP] at e3
   have e3':((xY a).2.1 = [107,105,108,108]) = True:=eq_true e3
   simp only [↓vS,vT,shb,shv,qb,qc,cellsOf,wr,qa,simprocAttr,e1,e3',xV]
   simp [vZ]
  ·have e3':¬ (xY a).2.1 = [107,105,108,108]:=e3
   simp only [↓vS,vT,shb,shv,qb,qc,cellsOf,wr,qa,simprocAttr,e1,e3',xV]
   refine (h2 _ (by have:=qhx a; omega)).sc ?_
   obtain ⟨q0,q1,q2⟩:=yL (xY a).2.1
   by_cases e4:(zf (xY a).2.1).2 = 0
   ·have hw:qx a = (⟨(xY a).1,327680 + (zf (xY a).2.1).1,true⟩,0):=by unfold qx; rw [if_neg e1,if_neg (by rw [e2]; decide),if_neg e3,if_pos e4]
    rw [hw]
    have hwr:=qcE (x:=327680 + (zf (xY a).2.1).1) (by omega) (by omega)
    simp only [↓vS,vT,shb,shv,qb,qc,cellsOf,wr,qa,simprocAttr,e4,qdp,hwr]
    simp [vZ,vP,Tr.get_set,xV]
   ·have hw:qx a = (⟨[],0,false⟩,(zf (xY a).2.1).2):=by unfold qx; rw [if_neg e1,if_neg (by rw [e2]; decide),if_neg e3,if_neg e4]
    rw [hw]
    simp only [↓vS,vT,shb,shv,qb,qc,cellsOf,wr,qa,simprocAttr,e4]
    simp [vZ,vP,Tr.get_set,xV]
end Go.Kc
end
section
/- Lists and notes are the same as themselves. Condition: the functions' texts are these. -/
namespace Go.Kc
variable {P:Program} {f:Nat}
end Go.Kc
end
section
/- What a word of a list stands for: fold.members, of what groups.Expand answers. Condition: the functions' texts are these. -/
namespace Go.Kc
variable {P:Program} {f:Nat}
def qhd (E:List UInt8->List (List UInt8) × Int) (P:Program) (f:Nat):Prop:=∀ s:List UInt8,qg P f [.s s] (.tup [.fz (E s).1.length (rS (E s).1),.i .i64 (E s).2])
def xi (E:List UInt8->List (List UInt8) × Int) (s:List UInt8):List (List UInt8) × Int:=if [64].isPrefixOf s = true then E s else if jG s = true then ([s],0) else ([],90)
def vV (f_internal_stringslite_HasPrefix:Nat):IFn:=⟨[.tmp 4],.seq (.r [.m 4 (.c (.b false))]) (.seq (.r [.m 5 (.t 0),.m 6 (.t 1),.l 7 f_internal_stringslite_HasPrefix [.t 5,.t 6],.m 4 (.t 7)]) (.ret))⟩
theorem qeS {g:Nat} (hc:qm P f (vV g) = true) (hg:∀ s p:List UInt8,qg P g [.s s,.s p] (.b (p.isPrefixOf s))) (s p:List UInt8):qg P f [.s s,.s p] (.b (p.isPrefixOf s)):=by
 refine qg.mk hc rfl ?_
 simp only [vV,qh,H0,mkT,mkH,trL,vI,simprocAttr]
 simp only [↓vS,vT,shb,shv,qb,qc,cellsOf,wr,qa,simprocAttr]
 refine (hg s p).sc ?_
 simp only [↓vS,vT,shb,shv,qb,qc,cellsOf,wr,qa,simprocAttr,vZ]
def Qz (f_strings_HasPrefix f_groups_Expand f_calls_Known:Nat):IFn:=⟨[.tmp 2,.tmp 3],.seq (.r [.m 2 (.c (.nils)),.m 3 (.k 0)]) (.seq (.blk 0 (.seq (.r [.m 5 (.t 0),.l 6 f_strings_HasPrefix [.t 5,(.c (.s [64]))],.m 4 (.t 6)]) (.cond (.t 4) (.seq (.r [.m 7 (.t 0),.l 8 f_groups_Expand [.t 7],.q 9 (.ext (.t 8) 0),.q 10 (.ext (.t 8) 1),.m 2 (.t 9),.m 3 (.t 10)]) (.ret)) (.seq (.r [.m 12 (.t 0),.l 13 f_calls_Known [.t 12],.m 11 (.t 13)]) (.cond (.t 11) (.seq (.r [.m 14 (.t 0),.q 15 (.buildS 1 [.s []] [(0,1,(.t 14))]),.m 2 (.t 15),.m 3 (.k 0)]) (.ret)) (.skip)))))) (.seq (.r [.m 2 (.c (.nils)),.m 3 (.k 90)]) (.ret)))⟩
theorem qk6 {g1 g2 g3:Nat} (hc:qm P f (Qz g1 g2 g3) = true) (E:List UInt8->List (List UInt8) × Int) (h1:∀ s p:List UInt8,qg P g1 [.s s,.s p] (.b (p.isPrefixOf s))) (h2:qhd E P g2) (h3:∀ s,qg P g3 [.s s] (.b (jG s))):qhd (xi E) P f:=by
 intro s
 refine qg.mk hc rfl ?_
 simp only [Qz,qh,H0,mkT,mkH,trL,vI,simprocAttr]
 simp only [↓vS,vT,shb,shv,qb,qc,cellsOf,wr,qa,simprocAttr]
 refine (h1 s [64]).sc ?_
 cases e1:[64].isPrefixOf s with
 | true =>
  have hw:xi E s = E s:=if_pos e1
  rw [hw]
  simp only [↓vS,vT,shb,shv,qb,qc,cellsOf,wr,qa,simprocAttr]
  refine (h2 s).sc ?_
  simp only [↓vS,vT,shb,shv,qb,qc,cellsOf,wr,qa,simprocAttr]
  simp [vZ]
 | false =>
  simp only [↓vS,vT,shb,shv,qb,qc,cellsOf,wr,qa,simprocAttr]
  refine (h3 s).sc ?_
  cases e2:jG s with
  | true =>
   have hw:xi E s = ([s],0):=by unfold xi; rw [if_neg (by rw [e1]; decide),if_pos e2]
   rw [hw]
   simp only [↓vS,vT,shb,shv,qb,qc,cellsOf,wr,qa,simprocAttr]
   simp [vZ,vP,Tr.get_set,rS]
   exact Frz.cut 1 rfl (Nat.le_refl _) (by simp [vP,Tr.get_set,vZ])
  | false =>
   have hw:xi E s = ([],90):=by unfold xi; rw [if_neg (by rw [e1]; decide),if_neg (by rw [e2]; decide)]
   rw [hw]
   simp only [↓vS,vT,shb,shv,qb,qc,cellsOf,wr,qa,simprocAttr]
   simp [vZ,rS]
end Go.Kc
end
section
/- A note of a word: what fold.Step's closure does. Condition: the function's text is this. -/
namespace Go.Kc
variable {P:Program} {f:Nat}
def Q4:IFn:=⟨[],.reg true [.q 4 (.load1 (.t 1)),.m 5 (.t 0),.q 6 (.load1 (.t 2)),.q 7 (.load1 (.t 2)),.q 8 (.len true (.t 7)),.q 9 (.min (.t 8) (.k 60)),.q 10 (.slcStr (.t 6) none (some (.t 9))),.q 11 (.build [.s [],.i .i64 0,.i .i64 0,.s []] [(2,1,(.t 5)),(3,1,(.t 10))]),.q 12 (.buildS 1 [.s [],.i .i64 0,.i .i64 0,.s []] [(0,4,(.t 11))]),.q 13 (.app 4 48 true (.t 4) (.t 12)),.u (.store 1 (.t 1) (.t 13))]⟩
def xf (e:Int) (w:List UInt8):GNote:=⟨[],0,e,w.take 60⟩
theorem qp2 (hc:qm P f Q4 = true) (ns:List GNote) (e:Int) (w:List UInt8) (hr:(ns.length + 1) * 48<=qi) :
  Upd P f [.i .i64 e,.ptr 0 0,.ptr 1 0] [.cells 0 true false [.own 2 ns.length],.cells 0 true false [.s w],.cells 4 true true (rN ns)] (.tup []) [.cells 0 true false [.own 3 (ns++[xf e w]).length],.cells 0 true false [.s w],.dead,.cells 4 true true (rN (ns++[xf e w]))]:=by
 refine Upd.mk hc (by simp [qW,bnd]) (by simp) ?_
 simp only [Q4,qh,H0,mkT,mkH,trL,vI,simprocAttr]
 simp only [↓vS,vT,shb,shv,qb,qc,cellsOf,wr,qa,simprocAttr]
 refine zS ?_
 have hr1:ns.length + 1<=qi:=by omega
 have fin:∀ tt,tt = w.take 60->rN ns++[AV.s [],.i .i64 0,.i .i64 e,.s tt] = rN (ns++[xf e w]):=by
  intro tt ht; subst ht; rw [← Jp]; rfl
 by_cases h60:(60:Int) < w.length
 ·have h1:60<=w.length:=by omega
  simp only [↓vS,vT,shb,shv,qb,qc,cellsOf,wr,qa,simprocAttr,h60,h1,hr1,hr,kg,fin _ rfl]
  intro _
  refine ⟨[0,1,2,4],?_⟩
  simp [vw,qd,qe]
  try decide
 ·have h1:w.take 60 = w:=List.take_of_length_le (by omega)
  simp only [↓vS,vT,shb,shv,qb,qc,cellsOf,wr,qa,simprocAttr,h60,hr1,hr,kg,List.take_length,fin _ h1.symm]
  intro _
  refine ⟨[0,1,2,4],?_⟩
  simp [vw,qd,qe]
  try decide
end Go.Kc
end
section
/- What fold.Step makes of a list, in plain words. No condition. -/
namespace Go.Kc
variable (E:List UInt8->List (List UInt8) × Int)
noncomputable def xK (ins:Bool) (act:Int) (l:GList) (n:List UInt8):GList:=if ins = true then XT l n act else yp l n
noncomputable def zk (fl t:Bool) (s:GList × List GNote) (w:List UInt8):GList × List GNote :=
 if (qx w).2≠0 then (s.1,s.2++[xf (qx w).2 w])
 else if (xi E (qx w).1.name).2≠0 then (s.1,s.2++[xf (xi E (qx w).1.name).2 w])
 else if (qx w).1.has = false then ((xi E (qx w).1.name).1.foldl (xK (decide (s.1.mode - 1 = if t = true then 1 else 0)) (qx w).1.act) s.1,s.2)
 else if fl = false∨t = false then ((xi E (qx w).1.name).1.foldl (xK (decide (s.1.mode - 1 = if t = true then 1 else 0)) 0) s.1,s.2++[xf 161 w])
 else ((xi E (qx w).1.name).1.foldl (xK true (qx w).1.act) s.1,s.2)
noncomputable def zQ (l:GList) (v:List UInt8) (fl:Bool):GList × List GNote :=
 if zM l = false then (l,[])
 else if qn v = [] then (⟨0,[]⟩,[])
 else (qn (zb v).1).foldl (zk E fl (zb v).2) (⟨if l.mode = 0 then (if (zb v).2 = true then 2 else 1) else l.mode,l.calls⟩,[])
theorem Jo (l:GList) (s:List UInt8) (n:Int):(XT l s n).mode = l.mode:=by unfold XT; split <;> rfl
theorem Xs (l:GList) (s:List UInt8):(yp l s).mode = l.mode:=by unfold yp; split <;> rfl
theorem qa9 (ins:Bool) (act:Int) (l:GList) (n:List UInt8):(xK ins act l n).mode = l.mode:=by
 unfold xK; split
 ·exact Jo _ _ _
 ·exact Xs _ _
theorem Xf (ins:Bool) (act:Int) (ns:List (List UInt8)):∀ l:GList,(ns.foldl (xK ins act) l).mode = l.mode:=by
 induction ns with
 | nil=>intro l; rfl
 | cons n ns ih=>intro l; rw [List.foldl_cons,ih,qa9]
end Go.Kc
end
section
/- The order of names; lists that rise; what Put and Take make of these. No condition. -/
namespace Go.Kc
theorem ZC:∀ a:List UInt8,ltS a a = false
 | []=>rfl
 | c :: x=>by rw [kR,if_neg (UInt8.lt_irrefl c),if_pos rfl]; exact ZC x
theorem kC:∀ {a b c:List UInt8},ltS a b = true->ltS b c = true->ltS a c = true
 | _,[],[],_,h2=>by simp [qeW] at h2
 | _,_ :: _,[],_,h2=>by simp [qaS] at h2
 | [],_,_ :: _,_,_=>rfl
 | _ :: _,[],_ :: _,h1,_=>by simp [qaS] at h1
 | a :: x,b :: y,c :: z,h1,h2=>by
  rw [kR] at h1 h2 ⊢
  simp only [UInt8.lt_iff_toNat_lt,← UInt8.toNat_inj] at h1 h2 ⊢
  by_cases e1:a.toNat < b.toNat
  ·by_cases e2:b.toNat < c.toNat
   ·rw [if_pos (by omega)]
   ·rw [if_neg e2] at h2
    split at h2
    ·rw [if_pos (by omega)]
    ·cases h2
  ·rw [if_neg e1] at h1
   split at h1
   ·rename_i e3
    by_cases e2:b.toNat < c.toNat
    ·rw [if_pos (by omega)]
    ·rw [if_neg e2] at h2
     split at h2
     ·rw [if_neg (by omega),if_pos (by omega)]; exact kC h1 h2
     ·cases h2
   ·cases h1
theorem qck:∀ a b:List UInt8,ltS a b = true∨a = b∨ltS b a = true
 | [],[]=>.inr (.inl rfl)
 | [],_ :: _=>.inl rfl
 | _ :: _,[]=>.inr (.inr rfl)
 | a :: x,b :: y=>by
  rw [kR,kR]
  simp only [UInt8.lt_iff_toNat_lt,← UInt8.toNat_inj]
  rcases Nat.lt_trichotomy a.toNat b.toNat with h | h | h
  ·left; rw [if_pos h]
  ·obtain rfl:=UInt8.toNat_inj.1 h
   simp only [Nat.lt_irrefl,if_false,if_true]
   rcases qck x y with h | h | h
   ·exact .inl h
   ·exact .inr (.inl (by rw [h]))
   ·exact .inr (.inr h)
  ·right; right; rw [if_pos h]
theorem Je {a b:List UInt8} (h:ltS a b = true):ltS b a = false:=by
 cases h2:ltS b a with
 | false=>rfl
 | true=>have:=kC h h2; rw [ZC] at this; cases this
theorem qaR {a b:List UInt8} (h:ltS a b = true):a≠b:=by
 intro e; rw [e,ZC] at h; cases h
theorem qht {a b:List UInt8}:(zE a b < 0)↔ltS a b = true:=by
 unfold zE
 split
 ·rename_i h; rw [h,ZC]; simp
 ·split
  ·rename_i h; simp [h]
  ·rename_i h; simp [h]
theorem qbx {a b:List UInt8}:(zE a b = 0)↔a = b:=by
 unfold zE
 split
 ·rename_i h; simp [h]
 ·rename_i h; split <;> simp [h]
def Up (l:List GCall):Prop:=l.Pairwise fun a b=>ltS a.name b.name = true
theorem qbd:∀ (o:Option GCall) (l:List GCall),vb o l = true↔((∀ c ∈ l,okC c = true)∧Up l∧∀ b,o = some b->∀ c ∈ l,ltS b.name c.name = true)
 | o,[]=>by simp [vb,Up]
 | o,c :: l=>by
  have ih:=qbd (some c) l
  simp only [vb,Bool.and_eq_true,ih,Up,List.pairwise_cons,List.mem_cons,forall_eq_or_imp]
  constructor
  ·rintro ⟨⟨h1,h2⟩,h3,h4,h5⟩
   refine ⟨⟨h1,h3⟩,⟨h5 c rfl,h4⟩,?_⟩
   rintro b rfl
   exact ⟨h2,fun d hd=>kC h2 (h5 c rfl d hd)⟩
  ·rintro ⟨⟨h1,h3⟩,⟨h5,h4⟩,h6⟩
   refine ⟨⟨h1,?_⟩,h3,h4,?_⟩
   ·cases o with
    | none=>rfl
    | some b=>exact (h6 b rfl).1
   ·rintro b hb; cases hb; exact h5
theorem jB (l:GList):zM l = true↔(l.mode<=2∧(l.mode≠0∨l.calls = []))∧(∀ c ∈ l.calls,okC c = true)∧Up l.calls:=by
 unfold zM
 rw [Bool.and_eq_true,Bool.and_eq_true,Bool.or_eq_true,decide_eq_true_eq,decide_eq_true_eq,decide_eq_true_eq,qbd]
 simp
theorem qd2 {α:Type} (p:α->Bool) (l:List α) (n:Nat) (h1:∀ x ∈ l.take n,p x = true) (h2:∀ x ∈ l.drop n,p x = false):l.filter p = l.take n∧l.filter (fun x=>!p x) = l.drop n:=by
 have e:l = l.take n++l.drop n:=(List.take_append_drop n l).symm
 constructor
 ·conv=>lhs; rw [e,List.filter_append]
  rw [List.filter_eq_self.2 h1,List.filter_eq_nil_iff.2 (fun x hx=>by rw [h2 x hx]; decide),List.append_nil]
 ·conv=>lhs; rw [e,List.filter_append]
  rw [List.filter_eq_nil_iff.2 (fun x hx=>by rw [h1 x hx]; decide),List.filter_eq_self.2 (fun x hx=>by rw [h2 x hx]; rfl),List.nil_append]
theorem qjX {l:List GCall} (hu:Up l) (s:List UInt8):(∀ c ∈ l.take (bsC l fun c=>zE c.name s),ltS c.name s = true)∧∀ c ∈ l.drop (bsC l fun c=>zE c.name s),ltS c.name s = false:=by
 have hq:∀ k c,l[k]? = some c->bsQ l (fun c=>zE c.name s) k = ltS c.name s:=by
  intro k c hc
  unfold bsQ; rw [hc]
  show decide (zE c.name s < 0) = _
  rw [Bool.eq_iff_iff,decide_eq_true_iff,qht]
 have h:=qcN (bsQ l fun c=>zE c.name s) (fun a b hab hb=>by
  rcases Nat.lt_or_ge b l.length with hbl | hbl
  ·have hx:l[b]? = some l[b]:=List.getElem?_eq_getElem hbl
   have hy:l[a]? = some l[a]:=List.getElem?_eq_getElem (by omega)
   rw [hq b _ hx] at hb
   rw [hq a _ hy]
   rcases Nat.lt_or_eq_of_le hab with h | h
   ·exact kC (List.pairwise_iff_getElem.1 hu a b (by omega) hbl h) hb
   ·subst h; exact hb
  ·unfold bsQ at hb; rw [List.getElem?_eq_none hbl] at hb; cases hb) _ 0 l.length rfl (Nat.zero_le _) (fun a ha=>by omega) (fun a ha=>by unfold bsQ; rw [List.getElem?_eq_none ha]; rfl)
 constructor
 ·intro c hc
  obtain ⟨k,hk,rfl⟩:=List.getElem_of_mem hc
  rw [List.length_take] at hk
  have hk:=Nat.lt_min.1 hk
  have:=h.1 k hk.1
  rw [hq k l[k] (List.getElem?_eq_getElem hk.2)] at this
  rw [List.getElem_take]; exact this
 ·intro c hc
  obtain ⟨k,hk,rfl⟩:=List.getElem_of_mem hc
  rw [List.length_drop] at hk
  have:=h.2 (bsC l (fun c=>zE c.name s) + k) (by show bsC l _<=_; omega)
  rw [hq _ l[bsC l (fun c=>zE c.name s) + k] (List.getElem?_eq_getElem (by omega))] at this
  rw [List.getElem_drop]; exact this
theorem qcp {l:List GCall} (hu:Up l) (s:List UInt8) (n:Int):Jn l s n = l.filter (fun c=>ltS c.name s)++⟨s,n⟩ :: l.filter (fun c=>ltS s c.name):=by
 obtain ⟨h1,h2⟩:=qjX hu s
 obtain ⟨e1,e2⟩:=qd2 (fun c=>ltS c.name s) l _ h1 h2
 have hcut:l = l.take (bsC l fun c=>zE c.name s)++l.drop (bsC l fun c=>zE c.name s):=(List.take_append_drop _ l).symm
 have hA:(l.take (bsC l fun c=>zE c.name s)).filter (fun c=>ltS s c.name) = []:=by
  rw [List.filter_eq_nil_iff]
  intro c hc; rw [Je (h1 c hc)]; decide
 have hud:Up (l.drop (bsC l fun c=>zE c.name s)):=List.Pairwise.sublist (List.drop_sublist _ _) hu
 have e3:l.filter (fun c=>ltS s c.name) = (l.drop (bsC l fun c=>zE c.name s)).filter (fun c=>ltS s c.name):=by
  conv=>lhs; rw [hcut,List.filter_append,hA,List.nil_append]
 rw [e1,e3]
 unfold Jn
 generalize hN:bsC l (fun c=>zE c.name s) = N at *
 by_cases hlt:N < l.length
 ·have hx:l[N]? = some l[N]:=List.getElem?_eq_getElem hlt
  rw [List.drop_eq_getElem_cons hlt] at hud h2 ⊢
  have hud':=List.pairwise_cons.1 hud
  rw [hx]
  show (if decide (zE l[N].name s = 0) = true then _ else _) = _
  by_cases he:zE l[N].name s = 0
  ·rw [if_pos (decide_eq_true he),List.set_eq_take_append_cons_drop,if_pos hlt]
   have he2:=qbx.1 he
   rw [List.filter_cons,he2,ZC,if_neg (by decide),List.filter_eq_self.2]
   intro c hc; rw [← he2]; exact hud'.1 c hc
  ·rw [if_neg (by simpa using he)]
   have hne:¬ l[N].name = s:=fun h=>he (qbx.2 h)
   have hs:ltS s l[N].name = true:=by
    rcases qck s l[N].name with h | h | h
    ·exact h
    ·exact absurd h.symm hne
    ·rw [h2 _ List.mem_cons_self] at h; cases h
   rw [List.filter_eq_self.2]
   intro c hc
   rcases List.mem_cons.1 hc with rfl | hc
   ·exact hs
   ·exact kC hs (hud'.1 c hc)
 ·rw [List.getElem?_eq_none (by omega),List.drop_eq_nil_of_le (by omega)]
  rfl
theorem Qh (l:List GCall) (p:List UInt8->Bool) (t:List UInt8):ve (l.filter fun c=>p c.name) t = if p t = true then ve l t else none:=by
 unfold ve
 rw [List.find?_filter]
 cases h:p t with
 | true =>
  rw [if_pos rfl]
  congr 1; funext c
  by_cases e:c.name = t
  ·simp [e,h]
  ·simp [e]
 | false =>
  rw [if_neg (by decide),List.find?_eq_none]
  intro c _
  by_cases e:c.name = t
  ·simp [e,h]
  ·simp [e]
theorem qd3 (l:List GCall) (s t:List UInt8):ve (l.filter fun c=>!decide (c.name = s)) t = if t = s then none else ve l t:=by
 rw [Qh l (fun n=>!decide (n = s)) t]
 by_cases h:t = s <;> simp [h]
theorem qfO (l m:List GCall) (t:List UInt8):ve (l++m) t = (ve l t).or (ve m t):=by
 unfold ve; rw [List.find?_append]
theorem qfP {l:List GCall} (hu:Up l) (s:List UInt8) (n:Int) (t:List UInt8):ve (Jn l s n) t = if t = s then some ⟨s,n⟩ else ve l t:=by
 rw [qcp hu,qfO,Qh l (fun x=>ltS x s)]
 have e:ve (⟨s,n⟩ :: l.filter fun c=>ltS s c.name) t = if s = t then some ⟨s,n⟩ else ve (l.filter fun c=>ltS s c.name) t:=by
  unfold ve; rw [List.find?_cons]
  by_cases h:s = t <;> simp [h]
 rw [e,Qh l (fun x=>ltS s x)]
 rcases qck t s with h | h | h
 ·rw [h,Je h,if_pos rfl,if_neg (Ne.symm (qaR h)),if_neg (by decide),if_neg (qaR h),Option.or_none]
 ·rw [h,ZC,if_neg (by decide),if_pos rfl,if_pos rfl]; rfl
 ·rw [h,Je h,if_neg (by decide),if_neg (qaR h),if_pos rfl,if_neg (Ne.symm (qaR h))]; rfl
theorem Ju {l:List GCall} (hu:Up l) (p:GCall->Bool):Up (l.filter p):=List.Pairwise.sublist List.filter_sublist hu
theorem qpa {l:List GCall} (hu:Up l) (s:List UInt8) (n:Int):Up (Jn l s n):=by
 rw [qcp hu]
 refine List.pairwise_append.2 ⟨Ju hu _,List.pairwise_cons.2 ⟨fun c hc=>(List.mem_filter.1 hc).2,Ju hu _⟩,?_⟩
 intro a ha b hb
 have h1:ltS a.name s = true:=(List.mem_filter.1 ha).2
 rcases List.mem_cons.1 hb with rfl | hb
 ·exact h1
 ·exact kC h1 (List.mem_filter.1 hb).2
theorem qeX {l:List GCall} (hu:Up l) {s:List UInt8} {n:Int} {c:GCall} (h:c ∈ Jn l s n):c = ⟨s,n⟩∨c ∈ l:=by
 rw [qcp hu] at h
 rcases List.mem_append.1 h with h | h
 ·exact .inr (List.mem_filter.1 h).1
 ·rcases List.mem_cons.1 h with h | h
  ·exact .inl h
  ·exact .inr (List.mem_filter.1 h).1
end Go.Kc
end
section
/- What fold.Step makes of a list that may be: it may be again. No condition. -/
namespace Go.Kc
theorem qas:∀ (l cur:List UInt8) (w:List UInt8),w ∈ wB l cur->w.length<=l.length + cur.length
 | [],cur,w,h=>by
  unfold wB at h
  split at h
  ·cases h
  ·obtain rfl:=List.mem_singleton.1 h; simp
 | c :: cs,cur,w,h=>by
  unfold wB at h
  split at h
  ·split at h
   ·have:=qas cs [] w h; simp at this ⊢; omega
   ·rcases List.mem_cons.1 h with rfl | h
    ·simp
    ·have:=qas cs [] w h; simp at this ⊢; omega
  ·have:=qas cs _ w h; simp at this ⊢; omega
theorem qew {l w:List UInt8} (h:w ∈ qn l):w.length<=l.length:=by
 rw [qdI] at h; simpa using qas l [] w h
theorem ZD {α:Type} [DecidableEq α]:∀ {l t:List α},l.Nodup->(∀ x ∈ l,x ∈ t)->l.length<=t.length
 | [],_,_,_=>Nat.zero_le _
 | x :: l,t,hn,hs=>by
  have hn':=List.nodup_cons.1 hn
  have hx:=hs x List.mem_cons_self
  have h1:=ZD (t:=t.erase x) hn'.2 (fun y hy=>(List.mem_erase_of_ne (fun (e:y = x)=>hn'.1 (by rw [← e]; exact hy))).2 (hs y (List.mem_cons_of_mem _ hy)))
  have h2:=List.length_erase_of_mem hx
  have h3:0 < t.length:=List.length_pos_of_mem hx
  simp only [List.length_cons]; omega
theorem qd8 {s:List UInt8} (h:jG s = true):s ∈ zy.map (·.1):=by
 unfold jG at h
 obtain ⟨x,hx⟩:=Option.isSome_iff_exists.1 h
 have h1:=List.mem_of_find?_eq_some hx
 have h2:=List.find?_some hx
 exact List.mem_map.2 ⟨x,h1,of_decide_eq_true h2⟩
theorem qal {l:GList} (h:zM l = true):l.calls.length<=40:=by
 obtain ⟨_,h1,h2⟩:=(jB l).1 h
 have:=ZD (l:=l.calls.map (·.name)) (t:=zy.map (·.1)) (List.pairwise_map.2 (List.Pairwise.imp (R:=fun a b:GCall=>ltS a.name b.name = true) (fun hab=>qaR hab) h2)) (by
  intro x hx
  obtain ⟨c,hc,rfl⟩:=List.mem_map.1 hx
  have:=h1 c hc
  simp only [okC,Bool.and_eq_true] at this
  exact qd8 this.1)
 have e:(zy.map (·.1)).length = 40:=by rw [List.length_map]; rfl
 rw [List.length_map] at this
 omega
theorem qe4 {l:GList} (h:zM l = true) (hm:l.mode≠0) {n:List UInt8} {a:Int} (hk:jG n = true) (ha:QQ a = true):zM (XT l n a) = true:=by
 obtain ⟨h0,h1,h2⟩:=(jB l).1 h
 have e:XT l n a = ⟨l.mode,Jn l.calls n a⟩:=if_pos h
 rw [e,jB]
 refine ⟨⟨h0.1,.inl hm⟩,?_,qpa h2 _ _⟩
 intro c hc
 rcases qeX h2 hc with rfl | hc
 ·simp [okC,hk,ha]
 ·exact h1 c hc
theorem qdG {l:GList} (h:zM l = true) (n:List UInt8):zM (yp l n) = true:=by
 obtain ⟨h0,h1,h2⟩:=(jB l).1 h
 have e:yp l n = ⟨l.mode,l.calls.filter fun c=>!decide (c.name = n)⟩:=if_pos h
 rw [e,jB]
 refine ⟨⟨h0.1,h0.2.imp id (fun hh=>by rw [hh]; rfl)⟩,fun c hc=>h1 c (List.mem_filter.1 hc).1,Ju h2 _⟩
theorem qgy {l:GList} (h:zM l = true) (hm:l.mode≠0) {ins:Bool} {a:Int} {n:List UInt8} (hk:jG n = true) (ha:QQ a = true):zM (xK ins a l n) = true:=by
 unfold xK; split
 ·exact qe4 h hm hk ha
 ·exact qdG h n
theorem yN {ins:Bool} {a:Int} (ha:QQ a = true):∀ {ns:List (List UInt8)} {l:GList},zM l = true->l.mode≠0->(∀ n ∈ ns,jG n = true)->zM (ns.foldl (xK ins a) l) = true
 | [],_,h,_,_=>h
 | n :: ns,l,h,hm,hk=>by
  rw [List.foldl_cons]
  exact yN ha (qgy h hm (hk n List.mem_cons_self) ha) (by rw [qa9]; exact hm) (fun x hx=>hk x (List.mem_cons_of_mem _ hx))
theorem wi (w:List UInt8):QQ (qx w).1.act = true:=by
 have h:=yL (xY w).2.1
 unfold qx
 repeat' split
 all_goals (simp [QQ]; try omega)
def vx (E:List UInt8->List (List UInt8) × Int):Prop:=∀ s,(∀ n ∈ (E s).1,jG n = true)∧(E s).1.length<=100
theorem qcl {E:List UInt8->List (List UInt8) × Int} (hE:vx E):vx (xi E):=by
 intro s
 unfold xi
 split
 ·exact hE s
 ·split
  ·rename_i h; simp [h]
  ·simp
theorem qgz {E:List UInt8->List (List UInt8) × Int} (hE:vx E) (fl t:Bool) {s:GList × List GNote} (h:zM s.1 = true) (hm:s.1.mode≠0) (w:List UInt8) :
  zM (zk E fl t s w).1 = true∧(zk E fl t s w).1.mode = s.1.mode∧(zk E fl t s w).2.length<=s.2.length + 1:=by
 have hk:=(qcl hE (qx w).1.name).1
 unfold zk
 split
 ·exact ⟨h,rfl,by simp⟩
 split
 ·exact ⟨h,rfl,by simp⟩
 split
 ·exact ⟨yN (wi w) h hm hk,Xf _ _ _ _,by simp⟩
 split
 ·exact ⟨yN (by rfl) h hm hk,Xf _ _ _ _,by simp⟩
 ·exact ⟨yN (wi w) h hm hk,Xf _ _ _ _,by simp⟩
theorem qba {E:List UInt8->List (List UInt8) × Int} (hE:vx E) (fl t:Bool):∀ (ws:List (List UInt8)) (s:GList × List GNote),zM s.1 = true->s.1.mode≠0->
  zM (ws.foldl (zk E fl t) s).1 = true∧(ws.foldl (zk E fl t) s).1.mode = s.1.mode∧(ws.foldl (zk E fl t) s).2.length<=s.2.length + ws.length
 | [],s,h,_=>⟨h,rfl,Nat.le_refl _⟩
 | w :: ws,s,h,hm=>by
  obtain ⟨h1,h2,h3⟩:=qgz hE fl t h hm w
  obtain ⟨h4,h5,h6⟩:=qba hE fl t ws (zk E fl t s w) h1 (by rw [h2]; exact hm)
  rw [List.foldl_cons]
  exact ⟨h4,by rw [h5,h2],by simp only [List.length_cons]; omega⟩
end Go.Kc
end
section
/- The table of groups; what groups.Expand answers of a name that is none of them. Condition: the functions' texts are these. -/
namespace Go.Kc
variable {P:Program} {f:Nat}
def xr:List (List UInt8 × List (List UInt8)):=[([64,98,97,115,105,99,45,105,111],[[114,101,97,100],[119,114,105,116,101],[99,108,111,115,101]]),([64,99,108,111,99,107],[[99,108,111,99,107,95,115,101,116,116,105,109,101],[115,101,116,116,105,109,101,111,102,100,97,121]]),([64,100,101,98,117,103],[[112,116,114,97,99,101],[112,101,114,115,111,110,97,108,105,116,121]]),([64,102,105,108,101],[[64,98,97,115,105,99,45,105,111],[111,112,101,110],[111,112,101,110,97,116],[105,111,99,116,108]]),([64,109,101,109,111,114,121],[[98,114,107],[109,109,97,112],[109,112,114,111,116,101,99,116],[109,117,110,109,97,112],[112,107,101,121,95,109,112,114,111,116,101,99,116],[115,104,109,97,116]]),([64,109,111,100,117,108,101],[[100,101,108,101,116,101,95,109,111,100,117,108,101],[102,105,110,105,116,95,109,111,100,117,108,101],[105,110,105,116,95,109,111,100,117,108,101]]),([64,109,111,117,110,116],[[109,111,117,110,116],[117,109,111,117,110,116,50]]),([64,110,101,115,116],[[64,110,101,115,116,45,50],[107,105,108,108]]),([64,110,101,115,116,45,50],[[64,110,101,115,116,45,51],[103,101,116,117,105,100]]),([64,110,101,115,116,45,51],[[64,110,101,115,116,45,52],[115,101,116,117,105,100]]),([64,110,101,115,116,45,52],[[64,110,101,115,116,45,53],[101,120,105,116]]),([64,110,101,115,116,45,53],[[114,101,97,100]]),([64,110,101,116,119,111,114,107],[[98,105,110,100],[99,111,110,110,101,99,116],[108,105,115,116,101,110],[115,111,99,107,101,116]]),([64,112,114,105,118,105,108,101,103,101,100],[[64,99,108,111,99,107],[64,109,111,100,117,108,101],[64,109,111,117,110,116],[64,114,101,98,111,111,116],[98,112,102],[115,101,116,117,105,100]]),([64,112,114,111,99,101,115,115],[[99,108,111,110,101],[99,108,111,110,101,51],[101,120,101,99,118,101],[101,120,105,116],[102,111,114,107],[107,105,108,108],[115,101,116,110,115],[117,110,115,104,97,114,101]]),([64,114,101,98,111,111,116],[[114,101,98,111,111,116]]),([64,114,101,115,111,117,114,99,101,115],[[115,99,104,101,100,95,115,101,116,97,116,116,114],[115,99,104,101,100,95,115,101,116,115,99,104,101,100,117,108,101,114]]),([64,115,121,115,116,101,109],[[64,102,105,108,101],[64,109,101,109,111,114,121],[64,110,101,116,119,111,114,107],[64,112,114,111,99,101,115,115],[103,101,116,117,105,100]])]
def Qt:List (List UInt8 × List (List UInt8) × Int):=[([64,98,97,115,105,99,45,105,111],[[99,108,111,115,101],[114,101,97,100],[119,114,105,116,101]],0),([64,99,108,111,99,107],[[99,108,111,99,107,95,115,101,116,116,105,109,101],[115,101,116,116,105,109,101,111,102,100,97,121]],0),([64,100,101,98,117,103],[[112,101,114,115,111,110,97,108,105,116,121],[112,116,114,97,99,101]],0),([64,102,105,108,101],[[99,108,111,115,101],[105,111,99,116,108],[111,112,101,110],[111,112,101,110,97,116],[114,101,97,100],[119,114,105,116,101]],0),([64,109,101,109,111,114,121],[[98,114,107],[109,109,97,112],[109,112,114,111,116,101,99,116],[109,117,110,109,97,112],[112,107,101,121,95,109,112,114,111,116,101,99,116],[115,104,109,97,116]],0),([64,109,111,100,117,108,101],[[100,101,108,101,116,101,95,109,111,100,117,108,101],[102,105,110,105,116,95,109,111,100,117,108,101],[105,110,105,116,95,109,111,100,117,108,101]],0),([64,109,111,117,110,116],[[109,111,117,110,116],[117,109,111,117,110,116,50]],0),([64,110,101,115,116],[],111),([64,110,101,115,116,45,50],[[101,120,105,116],[103,101,116,117,105,100],[114,101,97,100],[115,101,116,117,105,100]],0),([64,110,101,115,116,45,51],[[101,120,105,116],[114,101,97,100],[115,101,116,117,105,100]],0),([64,110,101,115,116,45,52],[[101,120,105,116],[114,101,97,100]],0),([64,110,101,115,116,45,53],[[114,101,97,100]],0),([64,110,101,116,119,111,114,107],[[98,105,110,100],[99,111,110,110,101,99,116],[108,105,115,116,101,110],[115,111,99,107,101,116]],0),([64,112,114,105,118,105,108,101,103,101,100],[[98,112,102],[99,108,111,99,107,95,115,101,116,116,105,109,101],[100,101,108,101,116,101,95,109,111,100,117,108,101],[102,105,110,105,116,95,109,111,100,117,108,101],[105,110,105,116,95,109,111,100,117,108,101],[109,111,117,110,116],[114,101,98,111,111,116],[115,101,116,116,105,109,101,111,102,100,97,121],[115,101,116,117,105,100],[117,109,111,117,110,116,50]],0),([64,112,114,111,99,101,115,115],[[99,108,111,110,101],[99,108,111,110,101,51],[101,120,101,99,118,101],[101,120,105,116],[102,111,114,107],[107,105,108,108],[115,101,116,110,115],[117,110,115,104,97,114,101]],0),([64,114,101,98,111,111,116],[[114,101,98,111,111,116]],0),([64,114,101,115,111,117,114,99,101,115],[[115,99,104,101,100,95,115,101,116,97,116,116,114],[115,99,104,101,100,95,115,101,116,115,99,104,101,100,117,108,101,114]],0),([64,115,121,115,116,101,109],[[98,105,110,100],[98,114,107],[99,108,111,110,101],[99,108,111,110,101,51],[99,108,111,115,101],[99,111,110,110,101,99,116],[101,120,101,99,118,101],[101,120,105,116],[102,111,114,107],[103,101,116,117,105,100],[105,111,99,116,108],[107,105,108,108],[108,105,115,116,101,110],[109,109,97,112],[109,112,114,111,116,101,99,116],[109,117,110,109,97,112],[111,112,101,110],[111,112,101,110,97,116],[112,107,101,121,95,109,112,114,111,116,101,99,116],[114,101,97,100],[115,101,116,110,115],[115,104,109,97,116],[115,111,99,107,101,116],[117,110,115,104,97,114,101],[119,114,105,116,101]],0)]
def qkt (s:List UInt8):List (List UInt8) × Int:=match Qt.find? (fun r=>decide (r.1 = s)) with | some r=>r.2 | none=>([],110)
theorem qfM:Qt.map (·.1) = xr.map (·.1):=rfl
theorem qrI:vx qkt:=by
 intro s
 unfold qkt
 cases hf:Qt.find? (fun r=>decide (r.1 = s)) with
 | none=>simp
 | some r =>
  have hr:=List.mem_of_find?_eq_some hf
  have h1:Qt.all (fun r=>r.2.1.all jG && decide (r.2.1.length<=100)) = true:=by decide +kernel
  have h2:=List.all_eq_true.1 h1 r hr
  simp only [Bool.and_eq_true,decide_eq_true_eq,List.all_eq_true] at h2
  exact h2
def qcu (g:List UInt8 × List (List UInt8)):List AV:=[.s g.1,.fz g.2.length (rS g.2)]
theorem qi8 (g:List UInt8 × List (List UInt8)):(qcu g).length = 2:=rfl
def qeE (P:Program) (f:Nat):Prop:=qg P f [] (.fz 18 (xr.flatMap qcu))

def wZ (f_groups_table:Nat):IFn:=⟨[.tmp 2],.seq (.r [.m 2 (.c (.nils))]) (.seq (.seq (.r [.l 5 f_groups_table [],.q 6 (.len false (.t 5)),.m 7 (.k 0)]) (.blk 0 (.loop (.seq (.r [.q 8 (.bin .lss (.t 7) (.t 6))]) (.seq (.cond (.t 8) (.skip) (.exit 0)) (.seq (.blk 1 (.seq (.r [.q 9 (.iAddrS 2 (.t 5) (.t 7)),.q 10 (.loadN 2 (.t 9)),.q 4 (.alloc [.s [],.nils]),.u (.store 2 (.t 4) (.t 10))]) (.seq (.r [.q 11 (.fAddr 0 (.t 4)),.q 12 (.load1 (.t 11)),.m 13 (.t 0),.q 14 (.bin .eql (.t 12) (.t 13))]) (.cond (.t 14) (.seq (.r [.q 15 (.fAddr 1 (.t 4)),.q 16 (.load1 (.t 15)),.m 2 (.t 16)]) (.ret)) (.skip))))) (.r [.q 17 (.bin .add (.t 7) (.k 1)),.m 7 (.t 17)]))))))) (.seq (.r [.m 2 (.c (.nils))]) (.ret)))⟩
theorem qcm {g1:Nat} (hc:qm P f (wZ g1) = true) (h1:qeE P g1) (s:List UInt8) (hs:∀ r ∈ xr,r.1≠s):qg P f [.s s] .nils:=by
 refine qg.mk hc rfl ?_
 simp only [wZ,qh,H0,mkT,mkH,trL,vI,simprocAttr]
 simp only [↓vS,vT,shb,shv,qb,qc,cellsOf,wr,qa,simprocAttr]
 refine h1.sc ?_
 have hlen:(xr.flatMap qcu).length = 36:=by decide
 have hcl:qw (xr.flatMap qcu) = true:=yK fun _=>rfl
 have h18:xr.length = 18:=by decide
 have hget:∀ j (h:j < 18),∃ r ∈ xr,((xr.flatMap qcu).drop (j * 2)).take 2 = qcu r:=by
  intro j h
  have hx:xr[j]? = some (xr[j]'(by omega)):=List.getElem?_eq_getElem (by omega)
  exact ⟨_,List.getElem_mem _,xl (f:=qcu) (m:=2) qi8 hx⟩
 generalize hT:xr.flatMap qcu = T at hlen hcl hget
 simp only [↓vS,vT,shb,shv,qb,qc,cellsOf,wr,qa,simprocAttr]
 refine SL.loop (α:=Nat) (fun j=>[(0,.s s),(2,.nils),(5,.fz 18 T),(6,.i .i64 18),(7,.i .i64 j)]) (fun _=>[]) (fun j=>j<=18) (fun j=>18 - j) 0 [] ?_ ?_ ?_ rfl ?_ ?_
 ·simp [vw,hcl]
 ·trivial
 ·simp
 ·exact Nat.zero_le _
 rintro j hj G ih
 simp only [qh,H0,mkT,mkH,trL,vI,simprocAttr]
 by_cases hlt:j < 18
 ·have hw:IntKind.wrap .i64 ((j:Int) + 1) = ((j + 1:Nat):Int):=by rw [qG (by omega) (by omega)]; omega
  have hlt':(j:Int) < 18:=by omega
  have hb:j * 2 + 2<=36:=by omega
  obtain ⟨r,hr,he⟩:=hget j hlt
  have hne:¬ r.1 = s:=hs r hr
  simp only [↓vS,vT,shb,shv,qb,qc,cellsOf,wr,qa,simprocAttr,hlt,hlt',hb,he,hlen,qcu]
  simp only [↓vS,vT,shb,shv,qb,qc,cellsOf,wr,qa,simprocAttr,hne,hw]
  refine ih (j + 1) (by omega) (by omega) _ _ (Wk.mk _ _ [] ?_ ?_ ?_ rfl)
  ·simp [vw,hcl]
  ·trivial
  ·simp
 ·have hlt':¬ (j:Int) < 18:=by omega
  simp only [↓vS,vT,shb,shv,qb,qc,cellsOf,wr,qa,simprocAttr,hlt']
  simp [vZ]
def kb (f_groups_Members:Nat):IFn:=⟨[.tmp 2],.seq (.r [.m 2 (.c (.b false))]) (.seq (.r [.m 3 (.t 0),.l 4 f_groups_Members [.t 3],.q 5 (.eqN true .slice (.t 4)),.m 2 (.t 5)]) (.ret))⟩
theorem qc7 {g1:Nat} (hc:qm P f (kb g1) = true) (s:List UInt8) (h1:qg P g1 [.s s] .nils):qg P f [.s s] (.b false):=by
 refine qg.mk hc rfl ?_
 simp only [kb,qh,H0,mkT,mkH,trL,vI,simprocAttr]
 simp only [↓vS,vT,shb,shv,qb,qc,cellsOf,wr,qa,simprocAttr]
 refine h1.sc ?_
 simp only [↓vS,vT,shb,shv,qb,qc,cellsOf,wr,qa,simprocAttr]
 simp [vZ]
def vn (f_groups_Known f_groups_Deep f_groups_Expand_1 f_slices_Sort_string_string f_slices_Compact_string_string:Nat):IFn:=⟨[.tmp 2,.tmp 3],.seq (.r [.m 2 (.c (.nils)),.m 3 (.k 0)]) (.seq (.blk 0 (.seq (.r [.m 7 (.t 0),.l 8 f_groups_Known [.t 7],.q 9 (.un .not (.t 8)),.m 6 (.t 9)]) (.cond (.t 6) (.seq (.r [.m 2 (.c (.nils)),.m 3 (.k 110)]) (.ret)) (.seq (.r [.m 11 (.t 0),.l 12 f_groups_Deep [.t 11],.q 13 (.bin .gtr (.t 12) (.k 4)),.m 10 (.t 13)]) (.cond (.t 10) (.seq (.r [.m 2 (.c (.nils)),.m 3 (.k 111)]) (.ret)) (.skip)))))) (.seq (.r [.q 4 (.alloc [.nils])]) (.seq (.r [.q 5 (.alloc [.nilf])]) (.seq (.r [.q 14 (.mkF f_groups_Expand_1 [] [.t 5,.t 4]),.u (.store 1 (.t 5) (.t 14))]) (.seq (.r [.q 15 (.load1 (.t 5)),.m 16 (.t 0),⟨(some 17),.callV (.t 15) [.t 16],none⟩]) (.seq (.r [.q 18 (.load1 (.t 4)),.l 19 f_slices_Sort_string_string [.t 18]]) (.seq (.r [.q 20 (.load1 (.t 4)),.l 21 f_slices_Compact_string_string [.t 20],.m 2 (.t 21),.m 3 (.k 0)]) (.ret))))))))⟩
theorem qcY {g1 g2 g3 g4 g5:Nat} (hc:qm P f (vn g1 g2 g3 g4 g5) = true) (s:List UInt8) (h1:qg P g1 [.s s] (.b false)):qg P f [.s s] (.tup [.fz 0 [],.i .i64 110]):=by
 refine qg.mk hc rfl ?_
 simp only [vn,qh,H0,mkT,mkH,trL,vI,simprocAttr]
 simp only [↓vS,vT,shb,shv,qb,qc,cellsOf,wr,qa,simprocAttr]
 refine h1.sc ?_
 simp only [↓vS,vT,shb,shv,qb,qc,cellsOf,wr,qa,simprocAttr]
 simp [vZ]
theorem qns {g1 g2 g3 g4 g5 k1 k2:Nat} (hc:qm P f (vn g1 g2 g3 g4 g5) = true) (hk:qm P g1 (kb k1) = true) (hm:qm P k1 (wZ k2) = true) (ht:qeE P k2)
  (hrun:∀ r ∈ Qt,qg P f [.s r.1] (.tup [.fz r.2.1.length (rS r.2.1),.i .i64 r.2.2])):qhd qkt P f:=by
 intro s
 unfold qkt
 cases hf:Qt.find? (fun r=>decide (r.1 = s)) with
 | none =>
  refine qcY hc s (qc7 hk s (qcm hm ht s ?_))
  intro r hr he
  have h1:r.1 ∈ Qt.map (·.1):=by rw [qfM]; exact List.mem_map.2 ⟨r,hr,rfl⟩
  obtain ⟨x,hx,hxe⟩:=List.mem_map.1 h1
  have:=List.find?_eq_none.1 hf x hx
  simp [hxe,he] at this
 | some r =>
  have hr:=List.mem_of_find?_eq_some hf
  have he:=List.find?_some hf
  have he':r.1 = s:=of_decide_eq_true he
  rw [← he']
  exact hrun r hr
end Go.Kc
end
section
/- A list's value as a row of puts and takes; twice is as once. No condition. -/
namespace Go.Kc
variable (E:List UInt8->List (List UInt8) × Int)
noncomputable def kX (l:GList) (o:List UInt8 × Option Int):GList:=match o.2 with | some a=>XT l o.1 a | none=>yp l o.1
noncomputable def qdo (fl t:Bool) (mode:Int) (w:List UInt8):List (List UInt8 × Option Int) :=
 if (qx w).2≠0 then [] else if (xi E (qx w).1.name).2≠0 then []
 else (xi E (qx w).1.name).1.map fun n=>(n,if (qx w).1.has = true∧fl = true∧t = true then some (qx w).1.act else if mode - 1 = (if t = true then 1 else 0) then some 0 else none)
noncomputable def Xk (fl t:Bool) (w:List UInt8):List GNote :=
 if (qx w).2≠0 then [xf (qx w).2 w] else if (xi E (qx w).1.name).2≠0 then [xf (xi E (qx w).1.name).2 w]
 else if (qx w).1.has = true∧(fl = false∨t = false) then [xf 161 w] else []
theorem qej (w:List UInt8) (h:(qx w).1.has = false):(qx w).1.act = 0:=by
 unfold qx at h ⊢
 split at h
 ·rename_i h1; rw [if_pos h1]
 ·rename_i h1
  rw [if_neg h1]
  split at h
  ·rename_i h2; rw [if_pos h2]
  ·rename_i h2
   rw [if_neg h2]
   split at h
   ·cases h
   ·rename_i h3
    rw [if_neg h3]
    split at h
    ·cases h
    ·rename_i h4; rw [if_neg h4]
theorem Zy (ins:Bool) (a:Int):∀ (ns:List (List UInt8)) (l:GList),ns.foldl (xK ins a) l = (ns.map fun n=>(n,if ins = true then some a else none)).foldl kX l
 | [],_=>rfl
 | n :: ns,l=>by
  rw [List.foldl_cons,List.map_cons,List.foldl_cons,Zy ins a ns]
  congr 1
  cases ins <;> rfl
theorem qgA (fl t:Bool) (s:GList × List GNote) (w:List UInt8):zk E fl t s w = ((qdo E fl t s.1.mode w).foldl kX s.1,s.2++Xk E fl t w):=by
 unfold zk qdo Xk
 by_cases h1:(qx w).2≠0
 ·simp only [if_pos h1,List.foldl_nil]
 simp only [if_neg h1]
 by_cases h2:(xi E (qx w).1.name).2≠0
 ·simp only [if_pos h2,List.foldl_nil]
 simp only [if_neg h2]
 cases h3:(qx w).1.has with
 | false =>
  have ha:=qej w h3
  simp only [if_true,Zy,ha,decide_eq_true_eq,Bool.false_eq_true,false_and,if_false,List.append_nil]
 | true =>
  simp only [Bool.true_eq_false,if_false,true_and]
  by_cases h4:fl = false∨t = false
  ·have h5:¬ (fl = true∧t = true):=by intro h; rcases h4 with h4 | h4 <;> simp [h4] at h
   simp only [if_pos h4,if_neg h5,Zy,decide_eq_true_eq]
  ·have h5:fl = true∧t = true:=by cases fl <;> cases t <;> simp_all
   simp only [if_neg h4,if_pos h5,Zy,if_true,List.append_nil]
theorem Xg:∀ (os:List (List UInt8 × Option Int)) (l:GList),(os.foldl kX l).mode = l.mode
 | [],_=>rfl
 | o :: os,l=>by
  rw [List.foldl_cons,Xg os]
  unfold kX; split
  ·exact Jo _ _ _
  ·exact Xs _ _
theorem Xr (fl t:Bool):∀ (ws:List (List UInt8)) (s:GList × List GNote),ws.foldl (zk E fl t) s = ((ws.flatMap (qdo E fl t s.1.mode)).foldl kX s.1,s.2++ws.flatMap (Xk E fl t))
 | [],s=>by simp
 | w :: ws,s=>by
  rw [List.foldl_cons,qgA,Xr fl t ws]
  simp only [Xg,List.flatMap_cons,List.foldl_append,List.append_assoc]
def okO (o:List UInt8 × Option Int):Prop:=jG o.1 = true∧∀ a,o.2 = some a->QQ a = true
theorem qe1 {E:List UInt8->List (List UInt8) × Int} (hE:vx E) (fl t:Bool) (mode:Int) (w:List UInt8):∀ o ∈ qdo E fl t mode w,okO o:=by
 intro o ho
 unfold qdo at ho
 split at ho
 ·cases ho
 split at ho
 ·cases ho
 obtain ⟨n,hn,rfl⟩:=List.mem_map.1 ho
 refine ⟨(qcl hE _).1 n hn,?_⟩
 intro a ha
 dsimp only at ha
 by_cases h1:(qx w).1.has = true∧fl = true∧t = true
 ·rw [if_pos h1] at ha; cases ha; exact wi w
 ·rw [if_neg h1] at ha
  by_cases h2:mode - 1 = (if t = true then 1 else 0)
  ·rw [if_pos h2] at ha; cases ha; rfl
  ·rw [if_neg h2] at ha; cases ha
theorem qbV {l:GList} (h:zM l = true) (hm:l.mode≠0) {o:List UInt8 × Option Int} (ho:okO o):zM (kX l o) = true∧(kX l o).mode = l.mode∧∀ t,ve (kX l o).calls t = if t = o.1 then o.2.map (fun a=>⟨t,a⟩) else ve l.calls t:=by
 obtain ⟨n,a⟩:=o
 have hu:=((jB l).1 h).2.2
 cases a with
 | some a =>
  refine ⟨qe4 h hm ho.1 (ho.2 a rfl),Jo _ _ _,fun t=>?_⟩
  have e:kX l (n,some a) = ⟨l.mode,Jn l.calls n a⟩:=if_pos h
  rw [e]
  dsimp only
  rw [qfP hu]
  by_cases ht:t = n <;> simp [ht]
 | none =>
  refine ⟨qdG h _,Xs _ _,fun t=>?_⟩
  have e:kX l (n,none) = ⟨l.mode,l.calls.filter fun c=>!decide (c.name = n)⟩:=if_pos h
  rw [e]
  dsimp only
  rw [qd3]
  by_cases ht:t = n <;> simp [ht]
def qdk:List (List UInt8 × Option Int)->List UInt8->Option (Option Int)
 | [],_=>none
 | o :: os,t=>(qdk os t).or (if t = o.1 then some o.2 else none)
theorem qd9 (o:List UInt8 × Option Int) (os:List (List UInt8 × Option Int)) (t:List UInt8):qdk (o :: os) t = (qdk os t).or (if t = o.1 then some o.2 else none):=rfl
theorem qbA:∀ {os:List (List UInt8 × Option Int)} {l:GList},zM l = true->l.mode≠0->(∀ o ∈ os,okO o)->
  zM (os.foldl kX l) = true∧∀ t,ve (os.foldl kX l).calls t = match qdk os t with | some a=>a.map (fun a=>⟨t,a⟩) | none=>ve l.calls t
 | [],l,h,_,_=>⟨h,fun _=>rfl⟩
 | o :: os,l,h,hm,ho=>by
  obtain ⟨h1,h2,h3⟩:=qbV h hm (ho o List.mem_cons_self)
  obtain ⟨h4,h5⟩:=qbA (os:=os) h1 (by rw [h2]; exact hm) (fun x hx=>ho x (List.mem_cons_of_mem _ hx))
  refine ⟨h4,fun t=>?_⟩
  rw [List.foldl_cons,h5 t]
  rw [qd9]
  cases qdk os t with
  | some a=>rfl
  | none =>
   dsimp only
   rw [h3 t]
   by_cases ht:t = o.1
   ·rw [if_pos ht,if_pos ht]; rfl
   ·rw [if_neg ht,if_neg ht]; rfl
def JS (m:Int) (t:Bool):Int:=if m = 0 then (if t = true then 2 else 1) else m
theorem Jj (m:Int) (t:Bool):JS m t≠0:=by
 unfold JS
 by_cases h:m = 0
 ·cases t <;> simp [h]
 ·simp [h]
variable {E}
theorem qdn {l:GList} (h:zM l = true) (t:Bool):zM ⟨JS l.mode t,l.calls⟩ = true:=by
 obtain ⟨h1,h2⟩:=(jB l).1 h
 refine (jB _).2 ⟨⟨?_,.inl (Jj _ _)⟩,h2⟩
 unfold JS; dsimp only
 split
 ·split <;> omega
 ·exact h1.1
theorem qa7 {l:GList} {v:List UInt8} {fl:Bool} (h:zM l = true) (hw:qn v≠[]):zQ E l v fl =
  (((qn (zb v).1).flatMap (qdo E fl (zb v).2 (JS l.mode (zb v).2))).foldl kX ⟨JS l.mode (zb v).2,l.calls⟩,(qn (zb v).1).flatMap (Xk E fl (zb v).2)):=by
 unfold zQ
 rw [if_neg (by simp [h]),if_neg hw,Xr]
 rfl
theorem qbU (hE:vx E) {l:GList} (h:zM l = true) (v:List UInt8) (fl:Bool):zM (zQ E l v fl).1 = true:=by
 by_cases hw:qn v = []
 ·unfold zQ; rw [if_neg (by simp [h]),if_pos hw]; rfl
 ·rw [qa7 h hw]
  refine (qbA (qdn h _) (Jj _ _) ?_).1
  intro o ho
  obtain ⟨w,_,hw⟩:=List.mem_flatMap.1 ho
  exact qe1 hE _ _ _ w o hw
theorem qes {l:GList} (h:zM l = true) {v:List UInt8} (fl:Bool) (hw:qn v≠[]):(zQ E l v fl).1.mode = JS l.mode (zb v).2:=by
 rw [qa7 h hw]; exact Xg _ _
theorem qa8 {l:GList} (h:zM l = true) {v:List UInt8} (fl:Bool) (hw:qn v = []):zQ E l v fl = (⟨0,[]⟩,[]):=by
 unfold zQ; rw [if_neg (by simp [h]),if_pos hw]
theorem qbz:∀ (fl t:Bool) (ws:List (List UInt8)),(ws.flatMap (Xk E fl t)).length<=ws.length
 | _,_,[]=>Nat.le_refl _
 | fl,t,w :: ws=>by
  have h:=qbz fl t ws
  have h2:(Xk E fl t w).length<=1:=by
   unfold Xk
   repeat' split
   all_goals simp
  simp only [List.flatMap_cons,List.length_append,List.length_cons]; omega
theorem ZJ (l:GList) (v:List UInt8) (fl:Bool):(zQ E l v fl).2.length<=v.length:=by
 unfold zQ
 split
 ·simp
 split
 ·simp
 ·rw [Xr]
  have h1:=qbz (E:=E) fl (zb v).2 (qn (zb v).1)
  have h2:=wk (zb v).1
  have h3:=y3 v
  simp only [List.nil_append]; omega
end Go.Kc
end
section
/- What fold.Step answers. Condition: the functions' texts are these. -/
namespace Go.Kc
variable {P:Program} {f:Nat}
def wY (f_fold_copied f_fold_May f_values_Words f_values_Turned f_fold_Step_1 f_values_Read f_fold_members f_fold_ins f_fold_Put f_fold_Take:Nat):ICode:=.r [.q 111 (.bin .add (.t 48) (.k 1)),.m 48 (.t 111)]
def vm (f_fold_copied f_fold_May f_values_Words f_values_Turned f_fold_Step_1 f_values_Read f_fold_members f_fold_ins f_fold_Put f_fold_Take:Nat):ICode:=.seq (.r [.m 95 (.t 17),.q 96 (.len false (.t 95)),.m 97 (.k 0)]) (.blk 3 (.loop (.seq (.r [.q 98 (.bin .lss (.t 97) (.t 96))]) (.seq (.cond (.t 98) (.skip) (.exit 3)) (.seq (.blk 4 (.seq (.r [.q 99 (.iAddrS 1 (.t 95) (.t 97)),.q 100 (.load1 (.t 99)),.m 20 (.t 100)]) (.seq (.r [.m 101 (.t 18)]) (.cond (.t 101) (.r [.q 102 (.loadN 2 (.t 3)),.m 103 (.t 20),.q 104 (.fAddr 1 (.t 15)),.q 105 (.load1 (.t 104)),.l 106 f_fold_Put [.t 102,.t 103,.t 105],.u (.store 2 (.t 3) (.t 106))]) (.r [.q 107 (.loadN 2 (.t 3)),.m 108 (.t 20),.l 109 f_fold_Take [.t 107,.t 108],.u (.store 2 (.t 3) (.t 109))]))))) (.r [.q 110 (.bin .add (.t 97) (.k 1)),.m 97 (.t 110)]))))))
def ka (f_fold_copied f_fold_May f_values_Words f_values_Turned f_fold_Step_1 f_values_Read f_fold_members f_fold_ins f_fold_Put f_fold_Take:Nat):ICode:=.seq (.seq (.r [.m 45 (.t 8),.l 46 f_values_Words [.t 45],.q 47 (.len false (.t 46)),.m 48 (.k 0)]) (.blk 0 (.loop (.seq (.r [.q 49 (.bin .lss (.t 48) (.t 47))]) (.seq (.cond (.t 49) (.skip) (.exit 0)) (.seq (.blk 1 (.seq (.r [.q 50 (.iAddrS 1 (.t 46) (.t 48)),.q 51 (.load1 (.t 50)),.q 13 (.alloc [.s []]),.u (.store 1 (.t 13) (.t 51))]) (.seq (.r [.q 52 (.mkF f_fold_Step_1 [] [.t 11,.t 13]),.m 14 (.t 52)]) (.seq (.r [.q 54 (.load1 (.t 13)),.l 55 f_values_Read [.t 54],.m 53 (.t 55),.q 56 (.ext (.t 53) 0),.q 57 (.ext (.t 53) 1),.q 15 (.alloc [.s [],.i .u32 0,.b false]),.u (.store 3 (.t 15) (.t 56)),.m 16 (.t 57)]) (.seq (.seq (.r [.m 58 (.t 16),.q 59 (.bin .neq (.t 58) (.k 0))]) (.cond (.t 59) (.seq (.r [.m 60 (.t 14),.m 61 (.t 16),⟨(some 62),.callV (.t 60) [.t 61],none⟩]) (.exit 1)) (.skip))) (.seq (.r [.q 64 (.fAddr 0 (.t 15)),.q 65 (.load1 (.t 64)),.l 66 f_fold_members [.t 65],.m 63 (.t 66),.q 67 (.ext (.t 63) 0),.q 68 (.ext (.t 63) 1),.m 17 (.t 67),.m 16 (.t 68)]) (.seq (.seq (.r [.m 69 (.t 16),.q 70 (.bin .neq (.t 69) (.k 0))]) (.cond (.t 70) (.seq (.r [.m 71 (.t 14),.m 72 (.t 16),⟨(some 73),.callV (.t 71) [.t 72],none⟩]) (.exit 1)) (.skip))) (.seq (.reg true [.l 74 f_fold_ins [],.q 75 (.fAddr 0 (.t 3)),.q 76 (.load1 (.t 75)),.q 77 (.bin .sub (.t 76) (.c (.i .u8 1))),.q 78 (.idxA 2 2 true (.t 74) (.t 77)),.m 79 (.t 10),.q 80 (.idxA 2 1 false (.t 78) (.t 79)),.m 18 (.t 80)]) (.seq (.blk 2 (.seq (.r [.q 82 (.fAddr 2 (.t 15)),.q 83 (.load1 (.t 82)),.q 84 (.un .not (.t 83)),.m 81 (.t 84)]) (.cond (.t 81) (.skip) (.seq (.r [.m 86 (.t 2),.q 87 (.un .not (.t 86)),.m 88 (.t 87),.g 89 (.mov (.t 9)) 88 false,.g 90 (.un .not (.t 89)) 88 false,.q 91 (.pick (.t 88) (.c (.b true)) (.t 90)),.m 85 (.t 91)]) (.cond (.t 85) (.seq (.r [.m 92 (.t 14),⟨(some 93),.callV (.t 92) [.k 161],none⟩]) (.r [.q 94 (.fAddr 1 (.t 15)),.u (.store 1 (.t 94) (.c (.i .u32 0)))])) (.r [.m 18 (.c (.b true))])))))) (.cut (vm f_fold_copied f_fold_May f_values_Words f_values_Turned f_fold_Step_1 f_values_Read f_fold_members f_fold_ins f_fold_Put f_fold_Take))))))))))) (.cut (wY f_fold_copied f_fold_May f_values_Words f_values_Turned f_fold_Step_1 f_values_Read f_fold_members f_fold_ins f_fold_Put f_fold_Take)))))))) (.seq (.reg true [.q 112 (.loadN 2 (.t 3)),.q 113 (.load1 (.t 11)),.u (.storeD 2 (.t 6) (.t 112) [11]),.m 7 (.t 113)]) (.ret))
def XL (f_fold_copied f_fold_May f_values_Words f_values_Turned f_fold_Step_1 f_values_Read f_fold_members f_fold_ins f_fold_Put f_fold_Take:Nat):IFn:=⟨[.cell 6 2 true,.tmp 7],.seq (.r [.q 3 (.box (.t 0)),.q 6 (.alloc [.i .u8 0,.nils]),.m 7 (.c (.nils))]) (.seq (.r [.q 21 (.loadN 2 (.t 3)),.l 22 f_fold_copied [.t 21],.u (.store 2 (.t 3) (.t 22))]) (.seq (.seq (.r [.q 23 (.loadN 2 (.t 3)),.l 24 f_fold_May [.t 23],.q 25 (.un .not (.t 24))]) (.cond (.t 25) (.seq (.r [.q 26 (.loadN 2 (.t 3)),.u (.store 2 (.t 6) (.t 26)),.m 7 (.c (.nils))]) (.ret)) (.skip))) (.seq (.seq (.r [.m 27 (.t 1),.l 28 f_values_Words [.t 27],.q 29 (.len false (.t 28)),.q 30 (.bin .eql (.t 29) (.k 0))]) (.cond (.t 30) (.seq (.r [.q 31 (.build [.i .u8 0,.nils] []),.u (.store 2 (.t 6) (.t 31)),.m 7 (.c (.nils))]) (.ret)) (.skip))) (.seq (.r [.m 33 (.t 1),.l 34 f_values_Turned [.t 33],.m 32 (.t 34),.q 35 (.ext (.t 32) 0),.q 36 (.ext (.t 32) 1),.m 8 (.t 35),.m 9 (.t 36)]) (.seq (.r [.m 10 (.k 0)]) (.seq (.seq (.r [.m 37 (.t 9)]) (.cond (.t 37) (.r [.m 10 (.k 1)]) (.skip))) (.seq (.seq (.r [.q 38 (.fAddr 0 (.t 3)),.q 39 (.load1 (.t 38)),.q 40 (.bin .eql (.t 39) (.c (.i .u8 0)))]) (.cond (.t 40) (.r [.m 41 (.t 10),.q 42 (.cvInt .u8 (.t 41)),.q 43 (.bin .add (.c (.i .u8 1)) (.t 42)),.q 44 (.fAddr 0 (.t 3)),.u (.store 1 (.t 44) (.t 43))]) (.skip))) (.seq (.r [.q 11 (.alloc [.nils])]) (.cut (ka f_fold_copied f_fold_May f_values_Words f_values_Turned f_fold_Step_1 f_values_Read f_fold_members f_fold_ins f_fold_Put f_fold_Take))))))))))⟩
def qm5 (P:Program) (f:Nat):Prop:=∀ (l:GList) (s:List UInt8) (n:Int),l.calls.length<=100000->qg P f [.agg (qE l),.s s,.i .u32 n] (.agg (qE (XT l s n)))
def qhh (P:Program) (f:Nat):Prop:=∀ (l:GList) (s:List UInt8),l.calls.length<=100000->qg P f [.agg (qE l),.s s] (.agg (qE (yp l s)))
theorem wy {g1 g2 g3 g4 g5 g6 g7 g8 g9 g10:Nat} (h1:qm5 P g9) (h2:qhh P g10) (fl t ins:Bool) (way:Int) (W N:List (List UInt8)) (j:Nat) (l:GList) (wd:Word) (w:List UInt8) (ns:List GNote) (hW:W.length<=1000) (hN:N.length<=1000)
  (hl:zM l = true) (hm:l.mode≠0) (hk:∀ n ∈ N,jG n = true) (ha:QQ wd.act = true) (Q:X->Tr AV->Hp->Prop)
  (hQ:∀ t' h',Wk 0 t' h' (mkT [(2,.b fl),(3,.ptr 0 0),(6,.ptr 1 0),(9,.b t),(10,.i .i64 way),(11,.ptr 2 0),(46,.fz W.length (rS W)),(47,.i .i64 W.length),(48,.i .i64 j)])
   (mkH 0 [.cells 0 true false (qE (N.foldl (xK ins wd.act) l)),.cells 0 true false [.i .u8 0,.nils],.cells 0 true false [.own 3 ns.length],.cells 4 true true (rN ns)])->Q .normal t' h') :
  S P 0 (vm g1 g2 g3 g4 g5 g6 g7 g8 g9 g10) Q
   (mkT [(2,.b fl),(3,.ptr 0 0),(6,.ptr 1 0),(9,.b t),(10,.i .i64 way),(11,.ptr 2 0),(46,.fz W.length (rS W)),(47,.i .i64 W.length),(48,.i .i64 j),(15,.ptr 4 0),(17,.fz N.length (rS N)),(18,.b ins)])
   (mkH 0 [.cells 0 true false (qE l),.cells 0 true false [.i .u8 0,.nils],.cells 0 true false [.own 3 ns.length],.cells 4 true true (rN ns),.cells 0 true false (xV wd)]):=by
 refine qA ?_
 simp only [vm,qE,qh,H0,mkT,mkH,trL,vI,simprocAttr]
 simp only [↓vS,vT,shb,shv,qb,qc,cellsOf,wr,qa,Nat.reduceEqDiff,↓reduceIte,Nat.reduceAdd,Nat.reduceMul,Nat.reduceSub,Nat.reduceLeDiff,Nat.reduceLT,Int.reduceLE,Int.reduceLT,Int.reduceEq,Int.reduceToNat]
 refine SL.loop (α:=Nat) (fun k=>[(2,.b fl),(3,.ptr 0 0),(6,.ptr 1 0),(9,.b t),(10,.i .i64 way),(11,.ptr 2 0),(46,.fz W.length (rS W)),(47,.i .i64 W.length),(48,.i .i64 j),(15,.ptr 4 0),(18,.b ins),(95,.fz N.length (rS N)),(96,.i .i64 N.length),(97,.i .i64 k)])
  (fun k=>[.cells 0 true false (qE ((N.take k).foldl (xK ins wd.act) l)),.cells 0 true false [.i .u8 0,.nils],.cells 0 true false [.own 3 ns.length],.cells 4 true true (rN ns),.cells 0 true false (xV wd)])
  (fun k=>k<=N.length) (fun k=>N.length - k) 0 [0,1,2,3,4] ?_ ?_ ?_ rfl ?_ ?_
 ·simp [vw]
 ·simp [vw,qE,qd,qe,qj,xV]
 ·simp
 ·exact Nat.zero_le _
 rintro k hk1 G ih
 have hmay:=yN (ins:=ins) ha hl hm (fun n hn=>hk n (List.mem_of_mem_take (i:=k) hn))
 have hlen:=qal hmay
 generalize hr:(N.take k).foldl (xK ins wd.act) l = r at hmay hlen ih ⊢
 simp only [qh,H0,mkT,mkH,trL,vI,simprocAttr]
 by_cases hlt:k < N.length
 ·have hx:(rS N)[k]? = some (.s N[k]):=by rw [qi4,List.getElem?_eq_getElem hlt]; rfl
  have hw:IntKind.wrap .i64 ((k:Int) + 1) = ((k + 1:Nat):Int):=by rw [qG (by omega) (by omega)]; omega
  have hnext:(N.take (k + 1)).foldl (xK ins wd.act) l = xK ins wd.act r N[k]:=by
   rw [List.take_add_one,List.getElem?_eq_getElem hlt,List.foldl_append,hr]; rfl
  have ih2:=ih (k + 1)
  rw [hnext] at ih2
  simp only [qE,xV]
  cases ins with
  | true =>
   simp only [↓vS,vT,shb,shv,qb,qc,cellsOf,wr,qa,Nat.reduceEqDiff,↓reduceIte,Nat.reduceAdd,Nat.reduceMul,Nat.reduceSub,Nat.reduceLeDiff,Nat.reduceLT,Int.reduceLE,Int.reduceLT,Int.reduceEq,Int.reduceToNat,hlt,hx,Nat.mul_one]
   refine (h1 r N[k] wd.act (by omega)).sc ?_
   simp only [↓vS,vT,shb,shv,qb,qc,cellsOf,wr,qa,Nat.reduceEqDiff,↓reduceIte,Nat.reduceAdd,Nat.reduceMul,Nat.reduceSub,Nat.reduceLeDiff,Nat.reduceLT,Int.reduceLE,Int.reduceLT,Int.reduceEq,Int.reduceToNat,hw,qE]
   refine ih2 (by omega) (by omega) _ _ (Wk.mk _ _ [0,1,2,3,4] ?_ ?_ ?_ rfl)
   ·simp [vw]
   ·simp [vw,qE,qd,qe,qj,xV,xK]
   ·simp
  | false =>
   simp only [↓vS,vT,shb,shv,qb,qc,cellsOf,wr,qa,Nat.reduceEqDiff,↓reduceIte,Nat.reduceAdd,Nat.reduceMul,Nat.reduceSub,Nat.reduceLeDiff,Nat.reduceLT,Int.reduceLE,Int.reduceLT,Int.reduceEq,Int.reduceToNat,hlt,hx,Nat.mul_one]
   refine (h2 r N[k] (by omega)).sc ?_
   simp only [↓vS,vT,shb,shv,qb,qc,cellsOf,wr,qa,Nat.reduceEqDiff,↓reduceIte,Nat.reduceAdd,Nat.reduceMul,Nat.reduceSub,Nat.reduceLeDiff,Nat.reduceLT,Int.reduceLE,Int.reduceLT,Int.reduceEq,Int.reduceToNat,hw,qE]
   refine ih2 (by omega) (by omega) _ _ (Wk.mk _ _ [0,1,2,3,4] ?_ ?_ ?_ rfl)
   ·simp [vw]
   ·simp [vw,qE,qd,qe,qj,xV,xK]
   ·simp
 ·have hkl:N.take k = N:=List.take_of_length_le (by omega)
  rw [hkl] at hr
  rw [hr] at hQ
  simp only [↓vS,vT,shb,shv,qb,qc,cellsOf,wr,qa,Nat.reduceEqDiff,↓reduceIte,Nat.reduceAdd,Nat.reduceMul,Nat.reduceSub,Nat.reduceLeDiff,Nat.reduceLT,Int.reduceLE,Int.reduceLT,Int.reduceEq,Int.reduceToNat,hlt]
  refine hQ _ _ (Wk.mk _ _ [0,1,2,3] ?_ ?_ ?_ rfl)
  ·simp [vw]
  ·simp [vw,qE,qd,qe,qj]
  ·simp
def qhg (P:Program) (f:Nat):Prop:=∀ (ns:List GNote) (e:Int) (w:List UInt8),(ns.length + 1) * 48<=qi->
  Upd P f [.i .i64 e,.ptr 0 0,.ptr 1 0] [.cells 0 true false [.own 2 ns.length],.cells 0 true false [.s w],.cells 4 true true (rN ns)] (.tup []) [.cells 0 true false [.own 3 (ns++[xf e w]).length],.cells 0 true false [.s w],.dead,.cells 4 true true (rN (ns++[xf e w]))]
def ql2 (P:Program) (f:Nat):Prop:=∀ a:List UInt8,a.length<=1000000->qg P f [.s a] (.tup [.agg (xV (qx a).1),.i .i64 (qx a).2])
def qqu (P:Program) (f:Nat):Prop:=qg P f [] (.agg [.b true,.b false,.b false,.b true])
def wj (t:Bool):Int:=if t = true then 1 else 0
theorem jR {g1 g2 g3 g4 g5 g6 g7 g8 g9 g10:Nat} (fl t:Bool) (way:Int) (W:List (List UInt8)) (j:Nat) (hj:j < 100000) (l:GList) (ns:List GNote) (Q:X->Tr AV->Hp->Prop)
  (hQ:∀ t' h',Wk 0 t' h' (mkT [(2,.b fl),(3,.ptr 0 0),(6,.ptr 1 0),(9,.b t),(10,.i .i64 way),(11,.ptr 2 0),(46,.fz W.length (rS W)),(47,.i .i64 W.length),(48,.i .i64 (j + 1:Nat))])
   (mkH 0 [.cells 0 true false (qE l),.cells 0 true false [.i .u8 0,.nils],.cells 0 true false [.own 3 ns.length],.cells 4 true true (rN ns)])->Q .normal t' h') :
  S P 0 (wY g1 g2 g3 g4 g5 g6 g7 g8 g9 g10) Q
   (mkT [(2,.b fl),(3,.ptr 0 0),(6,.ptr 1 0),(9,.b t),(10,.i .i64 way),(11,.ptr 2 0),(46,.fz W.length (rS W)),(47,.i .i64 W.length),(48,.i .i64 j)])
   (mkH 0 [.cells 0 true false (qE l),.cells 0 true false [.i .u8 0,.nils],.cells 0 true false [.own 3 ns.length],.cells 4 true true (rN ns)]):=by
 have hw:IntKind.wrap .i64 ((j:Int) + 1) = ((j + 1:Nat):Int):=by rw [qG (by omega) (by omega)]; omega
 refine qA ?_
 simp only [wY,qE,qh,H0,mkT,mkH,trL,vI,simprocAttr]
 simp only [↓vS,vT,shb,shv,qb,qc,cellsOf,wr,qa,Nat.reduceEqDiff,↓reduceIte,Nat.reduceAdd,Nat.reduceMul,Nat.reduceSub,Nat.reduceLeDiff,Nat.reduceLT,Int.reduceLE,Int.reduceLT,Int.reduceEq,Int.reduceToNat,hw]
 refine hQ _ _ (Wk.mk _ _ [0,1,2,3] ?_ ?_ ?_ rfl)
 ·simp [vw]
 ·simp [vw,qE,qd,qe,qj]
 ·simp
set_option maxHeartbeats 2000000 in
theorem qar {g1 g2 g3 g4 g5 g6 g7 g8 g9 g10:Nat} {E:List UInt8->List (List UInt8) × Int} (hE:vx E) (h3:QT P g3) (h5:qhg P g5) (h6:ql2 P g6) (h7:qhd (xi E) P g7) (h8:qqu P g8) (h9:qm5 P g9) (h10:qhh P g10)
  (fl t:Bool) (v:List UInt8) (hv:v.length<=1000) (l:GList) (hl:zM l = true) (hm:l.mode = 1∨l.mode = 2) :
  S P 0 (ka g1 g2 g3 g4 g5 g6 g7 g8 g9 g10) (jz [.cell 6 2 true,.tmp 7] (qgL (.tup [.agg (qE ((qn v).foldl (zk E fl t) (l,[])).1),.own 0 ((qn v).foldl (zk E fl t) (l,[])).2.length]) [.cells 4 true true (rN ((qn v).foldl (zk E fl t) (l,[])).2)]))
   (mkT [(2,.b fl),(3,.ptr 0 0),(6,.ptr 1 0),(8,.s v),(9,.b t),(10,.i .i64 (wj t)),(11,.ptr 2 0)])
   (mkH 0 [.cells 0 true false (qE l),.cells 0 true false [.i .u8 0,.nils],.cells 0 true false [.own 3 0],.cells 4 true true []]):=by
 have hwl:=wk v
 refine qA ?_
 simp only [ka,qE,qh,H0,mkT,mkH,trL,vI,simprocAttr]
 simp only [↓vS,vT,shb,shv,qb,qc,cellsOf,wr,qa,Nat.reduceEqDiff,↓reduceIte,Nat.reduceAdd,Nat.reduceMul,Nat.reduceSub,Nat.reduceLeDiff,Nat.reduceLT,Int.reduceLE,Int.reduceLT,Int.reduceEq,Int.reduceToNat]
 refine (h3 v (by omega)).sc ?_
 simp only [↓vS,vT,shb,shv,qb,qc,cellsOf,wr,qa,Nat.reduceEqDiff,↓reduceIte,Nat.reduceAdd,Nat.reduceMul,Nat.reduceSub,Nat.reduceLeDiff,Nat.reduceLT,Int.reduceLE,Int.reduceLT,Int.reduceEq,Int.reduceToNat]
 refine SL.loop (α:=Nat) (fun j=>[(2,.b fl),(3,.ptr 0 0),(6,.ptr 1 0),(9,.b t),(10,.i .i64 (wj t)),(11,.ptr 2 0),(46,.fz (qn v).length (rS (qn v))),(47,.i .i64 (qn v).length),(48,.i .i64 j)])
  (fun j=>[.cells 0 true false (qE (((qn v).take j).foldl (zk E fl t) (l,[])).1),.cells 0 true false [.i .u8 0,.nils],.cells 0 true false [.own 3 (((qn v).take j).foldl (zk E fl t) (l,[])).2.length],.cells 4 true true (rN (((qn v).take j).foldl (zk E fl t) (l,[])).2)])
  (fun j=>j<=(qn v).length) (fun j=>(qn v).length - j) 0 [0,1,2,3] ?_ ?_ ?_ rfl ?_ ?_
 ·simp [vw,rS]
 ·simp [vw,qE,qd,qe,qj,qi1]
 ·simp
 ·exact Nat.zero_le _
 rintro j hj G ih
 obtain ⟨k1,k2,k3⟩:=qba hE fl t ((qn v).take j) (l,[]) hl (by dsimp only; omega)
 have k4:=qal k1
 dsimp only at k2
 simp only [List.length_take,List.length_nil,Nat.zero_add] at k3
 generalize hr:((qn v).take j).foldl (zk E fl t) (l,[]) = r at k1 k2 k3 k4 ih ⊢
 simp only [qh,H0,mkT,mkH,trL,vI,simprocAttr]
 by_cases hlt:j < (qn v).length
 ·have hx : (rS (qn v))[j]? = some (.s (qn v)[j]):=by rw [qi4,List.getElem?_eq_getElem hlt]; rfl
  have hwj:IntKind.wrap .i64 ((j:Int) + 1) = ((j + 1:Nat):Int):=by rw [qG (by omega) (by omega)]; omega
  have hnext:((qn v).take (j + 1)).foldl (zk E fl t) (l,[]) = zk E fl t r (qn v)[j]:=by
   rw [List.take_add_one,List.getElem?_eq_getElem hlt,List.foldl_append,hr]; rfl
  have ih2:=ih (j + 1)
  rw [hnext] at ih2
  have hwd:=qew (List.getElem_mem hlt)
  generalize (qn v)[j] = w at hx hnext hwd ih2
  simp only [qE]
  simp only [↓vS,vT,shb,shv,qb,qc,cellsOf,wr,qa,Nat.reduceEqDiff,↓reduceIte,Nat.reduceAdd,Nat.reduceMul,Nat.reduceSub,Nat.reduceLeDiff,Nat.reduceLT,Int.reduceLE,Int.reduceLT,Int.reduceEq,Int.reduceToNat,hlt,hx,Nat.mul_one]
  refine (h6 w (by omega)).sc ?_
  simp only [↓vS,vT,shb,shv,qb,qc,cellsOf,wr,qa,Nat.reduceEqDiff,↓reduceIte,Nat.reduceAdd,Nat.reduceMul,Nat.reduceSub,Nat.reduceLeDiff,Nat.reduceLT,Int.reduceLE,Int.reduceLT,Int.reduceEq,Int.reduceToNat,xV]
  by_cases e1:(qx w).2 = 0
  ·simp only [↓vS,vT,shb,shv,qb,qc,cellsOf,wr,qa,Nat.reduceEqDiff,↓reduceIte,Nat.reduceAdd,Nat.reduceMul,Nat.reduceSub,Nat.reduceLeDiff,Nat.reduceLT,Int.reduceLE,Int.reduceLT,Int.reduceEq,Int.reduceToNat,e1]
   refine (h7 (qx w).1.name).sc ?_
   by_cases e2:(xi E (qx w).1.name).2 = 0
   ·have hk := qcl hE (qx w).1.name
    simp only [↓vS,vT,shb,shv,qb,qc,cellsOf,wr,qa,Nat.reduceEqDiff,↓reduceIte,Nat.reduceAdd,Nat.reduceMul,Nat.reduceSub,Nat.reduceLeDiff,Nat.reduceLT,Int.reduceLE,Int.reduceLT,Int.reduceEq,Int.reduceToNat,e2]
    refine zS ?_
    simp only [↓vS,vT,shb,shv,qb,qc,cellsOf,wr,qa,Nat.reduceEqDiff,↓reduceIte,Nat.reduceAdd,Nat.reduceMul,Nat.reduceSub,Nat.reduceLeDiff,Nat.reduceLT,Int.reduceLE,Int.reduceLT,Int.reduceEq,Int.reduceToNat]
    refine h8.pc ?_
    have hu1:IntKind.wrap .u8 (1 - 1) = 0:=by decide
    have hu2:IntKind.wrap .u8 (2 - 1) = 1:=by decide
    have hmode:r.1.mode = 1∨r.1.mode = 2:=by rw [k2]; exact hm
    cases t with
    | true =>
     have hway:wj true = 1:=rfl
     rcases hmode with hm1 | hm1
     ·have hin:decide (r.1.mode - 1 = if true = true then 1 else 0) = false:=by rw [hm1]; rfl
      simp only [↓vS,vT,shb,shv,qb,qc,cellsOf,wr,qa,Nat.reduceEqDiff,↓reduceIte,Nat.reduceAdd,Nat.reduceMul,Nat.reduceSub,Nat.reduceLeDiff,Nat.reduceLT,Int.reduceLE,Int.reduceLT,Int.reduceEq,Int.reduceToNat,hm1,hway,hu1,hu2,List.drop_succ_cons,List.drop_zero,List.take_succ_cons,List.take_zero,List.getElem?_cons_zero,List.getElem?_cons_succ]
      cases hh:(qx w).1.has with
      | false =>
       have hs:zk E fl true r w = ((xi E (qx w).1.name).1.foldl (xK false (qx w).1.act) r.1,r.2):=by
        unfold zk; rw [if_neg (by simp [e1]),if_neg (by simp [e2]),if_pos hh,hin]
       rw [hs] at ih2
       simp only [↓vS,vT,shb,shv,qb,qc,cellsOf,wr,qa,Nat.reduceEqDiff,↓reduceIte,Nat.reduceAdd,Nat.reduceMul,Nat.reduceSub,Nat.reduceLeDiff,Nat.reduceLT,Int.reduceLE,Int.reduceLT,Int.reduceEq,Int.reduceToNat]
       refine S.weak (Wk.mk _ _ [0,1,2,3,5] ?_ ?_ ?_ rfl) (wy h9 h10 fl true false (wj true) (qn v) (xi E (qx w).1.name).1 j r.1 (qx w).1 w r.2 (by omega) (by omega) k1 (by omega) hk.1 (wi w) _ ?_)
       ·simp [vw,hh,hm1]
       ·simp [vw,qE,qd,qe,qj,xV,hh,hm1]
       ·simp
       ·intro t' h' hw
        simp only [↓vS,vT,shb,shv,qb,qc,cellsOf,wr,qa,Nat.reduceEqDiff,↓reduceIte,Nat.reduceAdd,Nat.reduceMul,Nat.reduceSub,Nat.reduceLeDiff,Nat.reduceLT,Int.reduceLE,Int.reduceLT,Int.reduceEq,Int.reduceToNat]
        exact S.weak hw (jR fl true (wj true) (qn v) j (by omega) _ _ _ (fun t'' h'' hw'=>ih2 (by omega) (by omega) t'' h'' hw'))
      | true =>
       cases fl with
       | false =>
        have hs:zk E false true r w = ((xi E (qx w).1.name).1.foldl (xK false 0) r.1,r.2++[xf 161 w]):=by
         unfold zk; rw [if_neg (by simp [e1]),if_neg (by simp [e2]),if_neg (by simp [hh]),if_pos (by decide),hin]
        rw [hs] at ih2
        simp only [↓vS,vT,shb,shv,qb,qc,cellsOf,wr,qa,Nat.reduceEqDiff,↓reduceIte,Nat.reduceAdd,Nat.reduceMul,Nat.reduceSub,Nat.reduceLeDiff,Nat.reduceLT,Int.reduceLE,Int.reduceLT,Int.reduceEq,Int.reduceToNat]
        refine (h5 r.2 161 w (by simp only [qi]; omega)).sc (vs:=[.i .i64 161,.ptr 0 0,.ptr 1 0]) [2,4,3] (Lent.of (by decide) ?_) ?_
        ·simp [vL,shb,shv,qb,qW,bnd,qM,rnv,gAt,vw,qJ qe,ql qe,qS,clo,qp]
        simp only [vK,qR,rnb,qM,rnv,gAt,simprocAttr,ql qe,qp,clo]
        simp only [↓vS,vT,shb,shv,qb,qc,cellsOf,wr,qa,Nat.reduceEqDiff,↓reduceIte,Nat.reduceAdd,Nat.reduceMul,Nat.reduceSub,Nat.reduceLeDiff,Nat.reduceLT,Int.reduceLE,Int.reduceLT,Int.reduceEq,Int.reduceToNat]
        refine S.weak (Wk.mk _ _ [0,1,2,6,5] ?_ ?_ ?_ rfl) (wy h9 h10 false true false (wj true) (qn v) (xi E (qx w).1.name).1 j r.1 ⟨(qx w).1.name,0,(qx w).1.has⟩ w (r.2++[xf 161 w]) (by omega) (by omega) k1 (by omega) hk.1 rfl _ ?_)
        ·simp [vw,hh,hm1]
        ·simp [vw,qE,qd,qe,qj,xV,hh,hm1]
        ·simp
        ·intro t' h' hw
         simp only [↓vS,vT,shb,shv,qb,qc,cellsOf,wr,qa,Nat.reduceEqDiff,↓reduceIte,Nat.reduceAdd,Nat.reduceMul,Nat.reduceSub,Nat.reduceLeDiff,Nat.reduceLT,Int.reduceLE,Int.reduceLT,Int.reduceEq,Int.reduceToNat]
         exact S.weak hw (jR false true (wj true) (qn v) j (by omega) _ _ _ (fun t'' h'' hw'=>ih2 (by omega) (by omega) t'' h'' hw'))
       | true =>
        have hs:zk E true true r w = ((xi E (qx w).1.name).1.foldl (xK true (qx w).1.act) r.1,r.2):=by
         unfold zk; rw [if_neg (by simp [e1]),if_neg (by simp [e2]),if_neg (by simp [hh]),if_neg (by decide)]
        rw [hs] at ih2
        simp only [↓vS,vT,shb,shv,qb,qc,cellsOf,wr,qa,Nat.reduceEqDiff,↓reduceIte,Nat.reduceAdd,Nat.reduceMul,Nat.reduceSub,Nat.reduceLeDiff,Nat.reduceLT,Int.reduceLE,Int.reduceLT,Int.reduceEq,Int.reduceToNat]
        refine S.weak (Wk.mk _ _ [0,1,2,3,5] ?_ ?_ ?_ rfl) (wy h9 h10 true true true (wj true) (qn v) (xi E (qx w).1.name).1 j r.1 (qx w).1 w r.2 (by omega) (by omega) k1 (by omega) hk.1 (wi w) _ ?_)
        ·simp [vw,hh,hm1]
        ·simp [vw,qE,qd,qe,qj,xV,hh,hm1]
        ·simp
        ·intro t' h' hw
         simp only [↓vS,vT,shb,shv,qb,qc,cellsOf,wr,qa,Nat.reduceEqDiff,↓reduceIte,Nat.reduceAdd,Nat.reduceMul,Nat.reduceSub,Nat.reduceLeDiff,Nat.reduceLT,Int.reduceLE,Int.reduceLT,Int.reduceEq,Int.reduceToNat]
         exact S.weak hw (jR true true (wj true) (qn v) j (by omega) _ _ _ (fun t'' h'' hw'=>ih2 (by omega) (by omega) t'' h'' hw'))
     ·have hin:decide (r.1.mode - 1 = if true = true then 1 else 0) = true:=by rw [hm1]; rfl
      simp only [↓vS,vT,shb,shv,qb,qc,cellsOf,wr,qa,Nat.reduceEqDiff,↓reduceIte,Nat.reduceAdd,Nat.reduceMul,Nat.reduceSub,Nat.reduceLeDiff,Nat.reduceLT,Int.reduceLE,Int.reduceLT,Int.reduceEq,Int.reduceToNat,hm1,hway,hu1,hu2,List.drop_succ_cons,List.drop_zero,List.take_succ_cons,List.take_zero,List.getElem?_cons_zero,List.getElem?_cons_succ]
      cases hh:(qx w).1.has with
      | false =>
       have hs:zk E fl true r w = ((xi E (qx w).1.name).1.foldl (xK true (qx w).1.act) r.1,r.2):=by
        unfold zk; rw [if_neg (by simp [e1]),if_neg (by simp [e2]),if_pos hh,hin]
       rw [hs] at ih2
       simp only [↓vS,vT,shb,shv,qb,qc,cellsOf,wr,qa,Nat.reduceEqDiff,↓reduceIte,Nat.reduceAdd,Nat.reduceMul,Nat.reduceSub,Nat.reduceLeDiff,Nat.reduceLT,Int.reduceLE,Int.reduceLT,Int.reduceEq,Int.reduceToNat]
       refine S.weak (Wk.mk _ _ [0,1,2,3,5] ?_ ?_ ?_ rfl) (wy h9 h10 fl true true (wj true) (qn v) (xi E (qx w).1.name).1 j r.1 (qx w).1 w r.2 (by omega) (by omega) k1 (by omega) hk.1 (wi w) _ ?_)
       ·simp [vw,hh,hm1]
       ·simp [vw,qE,qd,qe,qj,xV,hh,hm1]
       ·simp
       ·intro t' h' hw
        simp only [↓vS,vT,shb,shv,qb,qc,cellsOf,wr,qa,Nat.reduceEqDiff,↓reduceIte,Nat.reduceAdd,Nat.reduceMul,Nat.reduceSub,Nat.reduceLeDiff,Nat.reduceLT,Int.reduceLE,Int.reduceLT,Int.reduceEq,Int.reduceToNat]
        exact S.weak hw (jR fl true (wj true) (qn v) j (by omega) _ _ _ (fun t'' h'' hw'=>ih2 (by omega) (by omega) t'' h'' hw'))
      | true =>
       cases fl with
       | false =>
        have hs:zk E false true r w = ((xi E (qx w).1.name).1.foldl (xK true 0) r.1,r.2++[xf 161 w]):=by
         unfold zk; rw [if_neg (by simp [e1]),if_neg (by simp [e2]),if_neg (by simp [hh]),if_pos (by decide),hin]
        rw [hs] at ih2
        simp only [↓vS,vT,shb,shv,qb,qc,cellsOf,wr,qa,Nat.reduceEqDiff,↓reduceIte,Nat.reduceAdd,Nat.reduceMul,Nat.reduceSub,Nat.reduceLeDiff,Nat.reduceLT,Int.reduceLE,Int.reduceLT,Int.reduceEq,Int.reduceToNat]
        refine (h5 r.2 161 w (by simp only [qi]; omega)).sc (vs:=[.i .i64 161,.ptr 0 0,.ptr 1 0]) [2,4,3] (Lent.of (by decide) ?_) ?_
        ·simp [vL,shb,shv,qb,qW,bnd,qM,rnv,gAt,vw,qJ qe,ql qe,qS,clo,qp]
        simp only [vK,qR,rnb,qM,rnv,gAt,simprocAttr,ql qe,qp,clo]
        simp only [↓vS,vT,shb,shv,qb,qc,cellsOf,wr,qa,Nat.reduceEqDiff,↓reduceIte,Nat.reduceAdd,Nat.reduceMul,Nat.reduceSub,Nat.reduceLeDiff,Nat.reduceLT,Int.reduceLE,Int.reduceLT,Int.reduceEq,Int.reduceToNat]
        refine S.weak (Wk.mk _ _ [0,1,2,6,5] ?_ ?_ ?_ rfl) (wy h9 h10 false true true (wj true) (qn v) (xi E (qx w).1.name).1 j r.1 ⟨(qx w).1.name,0,(qx w).1.has⟩ w (r.2++[xf 161 w]) (by omega) (by omega) k1 (by omega) hk.1 rfl _ ?_)
        ·simp [vw,hh,hm1]
        ·simp [vw,qE,qd,qe,qj,xV,hh,hm1]
        ·simp
        ·intro t' h' hw
         simp only [↓vS,vT,shb,shv,qb,qc,cellsOf,wr,qa,Nat.reduceEqDiff,↓reduceIte,Nat.reduceAdd,Nat.reduceMul,Nat.reduceSub,Nat.reduceLeDiff,Nat.reduceLT,Int.reduceLE,Int.reduceLT,Int.reduceEq,Int.reduceToNat]
         exact S.weak hw (jR false true (wj true) (qn v) j (by omega) _ _ _ (fun t'' h'' hw'=>ih2 (by omega) (by omega) t'' h'' hw'))
       | true =>
        have hs:zk E true true r w = ((xi E (qx w).1.name).1.foldl (xK true (qx w).1.act) r.1,r.2):=by
         unfold zk; rw [if_neg (by simp [e1]),if_neg (by simp [e2]),if_neg (by simp [hh]),if_neg (by decide)]
        rw [hs] at ih2
        simp only [↓vS,vT,shb,shv,qb,qc,cellsOf,wr,qa,Nat.reduceEqDiff,↓reduceIte,Nat.reduceAdd,Nat.reduceMul,Nat.reduceSub,Nat.reduceLeDiff,Nat.reduceLT,Int.reduceLE,Int.reduceLT,Int.reduceEq,Int.reduceToNat]
        refine S.weak (Wk.mk _ _ [0,1,2,3,5] ?_ ?_ ?_ rfl) (wy h9 h10 true true true (wj true) (qn v) (xi E (qx w).1.name).1 j r.1 (qx w).1 w r.2 (by omega) (by omega) k1 (by omega) hk.1 (wi w) _ ?_)
        ·simp [vw,hh,hm1]
        ·simp [vw,qE,qd,qe,qj,xV,hh,hm1]
        ·simp
        ·intro t' h' hw
         simp only [↓vS,vT,shb,shv,qb,qc,cellsOf,wr,qa,Nat.reduceEqDiff,↓reduceIte,Nat.reduceAdd,Nat.reduceMul,Nat.reduceSub,Nat.reduceLeDiff,Nat.reduceLT,Int.reduceLE,Int.reduceLT,Int.reduceEq,Int.reduceToNat]
         exact S.weak hw (jR true true (wj true) (qn v) j (by omega) _ _ _ (fun t'' h'' hw'=>ih2 (by omega) (by omega) t'' h'' hw'))
    | false =>
     have hway:wj false = 0:=rfl
     rcases hmode with hm1 | hm1
     ·have hin:decide (r.1.mode - 1 = if false = true then 1 else 0) = true:=by rw [hm1]; rfl
      simp only [↓vS,vT,shb,shv,qb,qc,cellsOf,wr,qa,Nat.reduceEqDiff,↓reduceIte,Nat.reduceAdd,Nat.reduceMul,Nat.reduceSub,Nat.reduceLeDiff,Nat.reduceLT,Int.reduceLE,Int.reduceLT,Int.reduceEq,Int.reduceToNat,hm1,hway,hu1,hu2,List.drop_succ_cons,List.drop_zero,List.take_succ_cons,List.take_zero,List.getElem?_cons_zero,List.getElem?_cons_succ]
      cases hh:(qx w).1.has with
      | false =>
       have hs:zk E fl false r w = ((xi E (qx w).1.name).1.foldl (xK true (qx w).1.act) r.1,r.2):=by
        unfold zk; rw [if_neg (by simp [e1]),if_neg (by simp [e2]),if_pos hh,hin]
       rw [hs] at ih2
       simp only [↓vS,vT,shb,shv,qb,qc,cellsOf,wr,qa,Nat.reduceEqDiff,↓reduceIte,Nat.reduceAdd,Nat.reduceMul,Nat.reduceSub,Nat.reduceLeDiff,Nat.reduceLT,Int.reduceLE,Int.reduceLT,Int.reduceEq,Int.reduceToNat]
       refine S.weak (Wk.mk _ _ [0,1,2,3,5] ?_ ?_ ?_ rfl) (wy h9 h10 fl false true (wj false) (qn v) (xi E (qx w).1.name).1 j r.1 (qx w).1 w r.2 (by omega) (by omega) k1 (by omega) hk.1 (wi w) _ ?_)
       ·simp [vw,hh,hm1]
       ·simp [vw,qE,qd,qe,qj,xV,hh,hm1]
       ·simp
       ·intro t' h' hw
        simp only [↓vS,vT,shb,shv,qb,qc,cellsOf,wr,qa,Nat.reduceEqDiff,↓reduceIte,Nat.reduceAdd,Nat.reduceMul,Nat.reduceSub,Nat.reduceLeDiff,Nat.reduceLT,Int.reduceLE,Int.reduceLT,Int.reduceEq,Int.reduceToNat]
        exact S.weak hw (jR fl false (wj false) (qn v) j (by omega) _ _ _ (fun t'' h'' hw'=>ih2 (by omega) (by omega) t'' h'' hw'))
      | true =>
       cases fl with
       | false =>
        have hs:zk E false false r w = ((xi E (qx w).1.name).1.foldl (xK true 0) r.1,r.2++[xf 161 w]):=by
         unfold zk; rw [if_neg (by simp [e1]),if_neg (by simp [e2]),if_neg (by simp [hh]),if_pos (by decide),hin]
        rw [hs] at ih2
        simp only [↓vS,vT,shb,shv,qb,qc,cellsOf,wr,qa,Nat.reduceEqDiff,↓reduceIte,Nat.reduceAdd,Nat.reduceMul,Nat.reduceSub,Nat.reduceLeDiff,Nat.reduceLT,Int.reduceLE,Int.reduceLT,Int.reduceEq,Int.reduceToNat]
        refine (h5 r.2 161 w (by simp only [qi]; omega)).sc (vs:=[.i .i64 161,.ptr 0 0,.ptr 1 0]) [2,4,3] (Lent.of (by decide) ?_) ?_
        ·simp [vL,shb,shv,qb,qW,bnd,qM,rnv,gAt,vw,qJ qe,ql qe,qS,clo,qp]
        simp only [vK,qR,rnb,qM,rnv,gAt,simprocAttr,ql qe,qp,clo]
        simp only [↓vS,vT,shb,shv,qb,qc,cellsOf,wr,qa,Nat.reduceEqDiff,↓reduceIte,Nat.reduceAdd,Nat.reduceMul,Nat.reduceSub,Nat.reduceLeDiff,Nat.reduceLT,Int.reduceLE,Int.reduceLT,Int.reduceEq,Int.reduceToNat]
        refine S.weak (Wk.mk _ _ [0,1,2,6,5] ?_ ?_ ?_ rfl) (wy h9 h10 false false true (wj false) (qn v) (xi E (qx w).1.name).1 j r.1 ⟨(qx w).1.name,0,(qx w).1.has⟩ w (r.2++[xf 161 w]) (by omega) (by omega) k1 (by omega) hk.1 rfl _ ?_)
        ·simp [vw,hh,hm1]
        ·simp [vw,qE,qd,qe,qj,xV,hh,hm1]
        ·simp
        ·intro t' h' hw
         simp only [↓vS,vT,shb,shv,qb,qc,cellsOf,wr,qa,Nat.reduceEqDiff,↓reduceIte,Nat.reduceAdd,Nat.reduceMul,Nat.reduceSub,Nat.reduceLeDiff,Nat.reduceLT,Int.reduceLE,Int.reduceLT,Int.reduceEq,Int.reduceToNat]
         exact S.weak hw (jR false false (wj false) (qn v) j (by omega) _ _ _ (fun t'' h'' hw'=>ih2 (by omega) (by omega) t'' h'' hw'))
       | true =>
        have hs:zk E true false r w = ((xi E (qx w).1.name).1.foldl (xK true 0) r.1,r.2++[xf 161 w]):=by
         unfold zk; rw [if_neg (by simp [e1]),if_neg (by simp [e2]),if_neg (by simp [hh]),if_pos (by decide),hin]
        rw [hs] at ih2
        simp only [↓vS,vT,shb,shv,qb,qc,cellsOf,wr,qa,Nat.reduceEqDiff,↓reduceIte,Nat.reduceAdd,Nat.reduceMul,Nat.reduceSub,Nat.reduceLeDiff,Nat.reduceLT,Int.reduceLE,Int.reduceLT,Int.reduceEq,Int.reduceToNat]
        refine (h5 r.2 161 w (by simp only [qi]; omega)).sc (vs:=[.i .i64 161,.ptr 0 0,.ptr 1 0]) [2,4,3] (Lent.of (by decide) ?_) ?_
        ·simp [vL,shb,shv,qb,qW,bnd,qM,rnv,gAt,vw,qJ qe,ql qe,qS,clo,qp]
        simp only [vK,qR,rnb,qM,rnv,gAt,simprocAttr,ql qe,qp,clo]
        simp only [↓vS,vT,shb,shv,qb,qc,cellsOf,wr,qa,Nat.reduceEqDiff,↓reduceIte,Nat.reduceAdd,Nat.reduceMul,Nat.reduceSub,Nat.reduceLeDiff,Nat.reduceLT,Int.reduceLE,Int.reduceLT,Int.reduceEq,Int.reduceToNat]
        refine S.weak (Wk.mk _ _ [0,1,2,6,5] ?_ ?_ ?_ rfl) (wy h9 h10 true false true (wj false) (qn v) (xi E (qx w).1.name).1 j r.1 ⟨(qx w).1.name,0,(qx w).1.has⟩ w (r.2++[xf 161 w]) (by omega) (by omega) k1 (by omega) hk.1 rfl _ ?_)
        ·simp [vw,hh,hm1]
        ·simp [vw,qE,qd,qe,qj,xV,hh,hm1]
        ·simp
        ·intro t' h' hw
         simp only [↓vS,vT,shb,shv,qb,qc,cellsOf,wr,qa,Nat.reduceEqDiff,↓reduceIte,Nat.reduceAdd,Nat.reduceMul,Nat.reduceSub,Nat.reduceLeDiff,Nat.reduceLT,Int.reduceLE,Int.reduceLT,Int.reduceEq,Int.reduceToNat]
         exact S.weak hw (jR true false (wj false) (qn v) j (by omega) _ _ _ (fun t'' h'' hw'=>ih2 (by omega) (by omega) t'' h'' hw'))
     ·have hin:decide (r.1.mode - 1 = if false = true then 1 else 0) = false:=by rw [hm1]; rfl
      simp only [↓vS,vT,shb,shv,qb,qc,cellsOf,wr,qa,Nat.reduceEqDiff,↓reduceIte,Nat.reduceAdd,Nat.reduceMul,Nat.reduceSub,Nat.reduceLeDiff,Nat.reduceLT,Int.reduceLE,Int.reduceLT,Int.reduceEq,Int.reduceToNat,hm1,hway,hu1,hu2,List.drop_succ_cons,List.drop_zero,List.take_succ_cons,List.take_zero,List.getElem?_cons_zero,List.getElem?_cons_succ]
      cases hh:(qx w).1.has with
      | false =>
       have hs:zk E fl false r w = ((xi E (qx w).1.name).1.foldl (xK false (qx w).1.act) r.1,r.2):=by
        unfold zk; rw [if_neg (by simp [e1]),if_neg (by simp [e2]),if_pos hh,hin]
       rw [hs] at ih2
       simp only [↓vS,vT,shb,shv,qb,qc,cellsOf,wr,qa,Nat.reduceEqDiff,↓reduceIte,Nat.reduceAdd,Nat.reduceMul,Nat.reduceSub,Nat.reduceLeDiff,Nat.reduceLT,Int.reduceLE,Int.reduceLT,Int.reduceEq,Int.reduceToNat]
       refine S.weak (Wk.mk _ _ [0,1,2,3,5] ?_ ?_ ?_ rfl) (wy h9 h10 fl false false (wj false) (qn v) (xi E (qx w).1.name).1 j r.1 (qx w).1 w r.2 (by omega) (by omega) k1 (by omega) hk.1 (wi w) _ ?_)
       ·simp [vw,hh,hm1]
       ·simp [vw,qE,qd,qe,qj,xV,hh,hm1]
       ·simp
       ·intro t' h' hw
        simp only [↓vS,vT,shb,shv,qb,qc,cellsOf,wr,qa,Nat.reduceEqDiff,↓reduceIte,Nat.reduceAdd,Nat.reduceMul,Nat.reduceSub,Nat.reduceLeDiff,Nat.reduceLT,Int.reduceLE,Int.reduceLT,Int.reduceEq,Int.reduceToNat]
        exact S.weak hw (jR fl false (wj false) (qn v) j (by omega) _ _ _ (fun t'' h'' hw'=>ih2 (by omega) (by omega) t'' h'' hw'))
      | true =>
       cases fl with
       | false =>
        have hs:zk E false false r w = ((xi E (qx w).1.name).1.foldl (xK false 0) r.1,r.2++[xf 161 w]):=by
         unfold zk; rw [if_neg (by simp [e1]),if_neg (by simp [e2]),if_neg (by simp [hh]),if_pos (by decide),hin]
        rw [hs] at ih2
        simp only [↓vS,vT,shb,shv,qb,qc,cellsOf,wr,qa,Nat.reduceEqDiff,↓reduceIte,Nat.reduceAdd,Nat.reduceMul,Nat.reduceSub,Nat.reduceLeDiff,Nat.reduceLT,Int.reduceLE,Int.reduceLT,Int.reduceEq,Int.reduceToNat]
        refine (h5 r.2 161 w (by simp only [qi]; omega)).sc (vs:=[.i .i64 161,.ptr 0 0,.ptr 1 0]) [2,4,3] (Lent.of (by decide) ?_) ?_
        ·simp [vL,shb,shv,qb,qW,bnd,qM,rnv,gAt,vw,qJ qe,ql qe,qS,clo,qp]
        simp only [vK,qR,rnb,qM,rnv,gAt,simprocAttr,ql qe,qp,clo]
        simp only [↓vS,vT,shb,shv,qb,qc,cellsOf,wr,qa,Nat.reduceEqDiff,↓reduceIte,Nat.reduceAdd,Nat.reduceMul,Nat.reduceSub,Nat.reduceLeDiff,Nat.reduceLT,Int.reduceLE,Int.reduceLT,Int.reduceEq,Int.reduceToNat]
        refine S.weak (Wk.mk _ _ [0,1,2,6,5] ?_ ?_ ?_ rfl) (wy h9 h10 false false false (wj false) (qn v) (xi E (qx w).1.name).1 j r.1 ⟨(qx w).1.name,0,(qx w).1.has⟩ w (r.2++[xf 161 w]) (by omega) (by omega) k1 (by omega) hk.1 rfl _ ?_)
        ·simp [vw,hh,hm1]
        ·simp [vw,qE,qd,qe,qj,xV,hh,hm1]
        ·simp
        ·intro t' h' hw
         simp only [↓vS,vT,shb,shv,qb,qc,cellsOf,wr,qa,Nat.reduceEqDiff,↓reduceIte,Nat.reduceAdd,Nat.reduceMul,Nat.reduceSub,Nat.reduceLeDiff,Nat.reduceLT,Int.reduceLE,Int.reduceLT,Int.reduceEq,Int.reduceToNat]
         exact S.weak hw (jR false false (wj false) (qn v) j (by omega) _ _ _ (fun t'' h'' hw'=>ih2 (by omega) (by omega) t'' h'' hw'))
       | true =>
        have hs:zk E true false r w = ((xi E (qx w).1.name).1.foldl (xK false 0) r.1,r.2++[xf 161 w]):=by
         unfold zk; rw [if_neg (by simp [e1]),if_neg (by simp [e2]),if_neg (by simp [hh]),if_pos (by decide),hin]
        rw [hs] at ih2
        simp only [↓vS,vT,shb,shv,qb,qc,cellsOf,wr,qa,Nat.reduceEqDiff,↓reduceIte,Nat.reduceAdd,Nat.reduceMul,Nat.reduceSub,Nat.reduceLeDiff,Nat.reduceLT,Int.reduceLE,Int.reduceLT,Int.reduceEq,Int.reduceToNat]
        refine (h5 r.2 161 w (by simp only [qi]; omega)).sc (vs:=[.i .i64 161,.ptr 0 0,.ptr 1 0]) [2,4,3] (Lent.of (by decide) ?_) ?_
        ·simp [vL,shb,shv,qb,qW,bnd,qM,rnv,gAt,vw,qJ qe,ql qe,qS,clo,qp]
        simp only [vK,qR,rnb,qM,rnv,gAt,simprocAttr,ql qe,qp,clo]
        simp only [↓vS,vT,shb,shv,qb,qc,cellsOf,wr,qa,Nat.reduceEqDiff,↓reduceIte,Nat.reduceAdd,Nat.reduceMul,Nat.reduceSub,Nat.reduceLeDiff,Nat.reduceLT,Int.reduceLE,Int.reduceLT,Int.reduceEq,Int.reduceToNat]
        refine S.weak (Wk.mk _ _ [0,1,2,6,5] ?_ ?_ ?_ rfl) (wy h9 h10 true false false (wj false) (qn v) (xi E (qx w).1.name).1 j r.1 ⟨(qx w).1.name,0,(qx w).1.has⟩ w (r.2++[xf 161 w]) (by omega) (by omega) k1 (by omega) hk.1 rfl _ ?_)
        ·simp [vw,hh,hm1]
        ·simp [vw,qE,qd,qe,qj,xV,hh,hm1]
        ·simp
        ·intro t' h' hw
         simp only [↓vS,vT,shb,shv,qb,qc,cellsOf,wr,qa,Nat.reduceEqDiff,↓reduceIte,Nat.reduceAdd,Nat.reduceMul,Nat.reduceSub,Nat.reduceLeDiff,Nat.reduceLT,Int.reduceLE,Int.reduceLT,Int.reduceEq,Int.reduceToNat]
         exact S.weak hw (jR true false (wj false) (qn v) j (by omega) _ _ _ (fun t'' h'' hw'=>ih2 (by omega) (by omega) t'' h'' hw'))
   ·have hs:zk E fl t r w = (r.1,r.2++[xf (xi E (qx w).1.name).2 w]):=by unfold zk; rw [if_neg (by simp [e1]),if_pos e2]
    rw [hs] at ih2
    simp only [↓vS,vT,shb,shv,qb,qc,cellsOf,wr,qa,Nat.reduceEqDiff,↓reduceIte,Nat.reduceAdd,Nat.reduceMul,Nat.reduceSub,Nat.reduceLeDiff,Nat.reduceLT,Int.reduceLE,Int.reduceLT,Int.reduceEq,Int.reduceToNat,e2]
    refine (h5 r.2 (xi E (qx w).1.name).2 w (by simp only [qi]; omega)).sc (vs:=[.i .i64 (xi E (qx w).1.name).2,.ptr 0 0,.ptr 1 0]) [2,4,3] (Lent.of (by decide) ?_) ?_
    ·simp [vL,shb,shv,qb,qW,bnd,qM,rnv,gAt,vw,qJ qe,ql qe,qS,clo,qp]
    simp only [vK,qR,rnb,qM,rnv,gAt,simprocAttr,ql qe,qp,clo]
    simp only [↓vS,vT,shb,shv,qb,qc,cellsOf,wr,qa,Nat.reduceEqDiff,↓reduceIte,Nat.reduceAdd,Nat.reduceMul,Nat.reduceSub,Nat.reduceLeDiff,Nat.reduceLT,Int.reduceLE,Int.reduceLT,Int.reduceEq,Int.reduceToNat]
    refine S.weak (Wk.mk _ _ [0,1,2,6] ?_ ?_ ?_ rfl) (jR fl t (wj t) (qn v) j (by omega) r.1 (r.2++[xf (xi E (qx w).1.name).2 w]) _ (fun t' h' hw=>ih2 (by omega) (by omega) t' h' hw))
    ·simp [vw]
    ·simp [vw,qE,qd,qe,qj]
    ·simp
  ·have hs:zk E fl t r w = (r.1,r.2++[xf (qx w).2 w]):=by unfold zk; rw [if_pos e1]
   rw [hs] at ih2
   simp only [↓vS,vT,shb,shv,qb,qc,cellsOf,wr,qa,Nat.reduceEqDiff,↓reduceIte,Nat.reduceAdd,Nat.reduceMul,Nat.reduceSub,Nat.reduceLeDiff,Nat.reduceLT,Int.reduceLE,Int.reduceLT,Int.reduceEq,Int.reduceToNat,e1]
   refine (h5 r.2 (qx w).2 w (by simp only [qi]; omega)).sc (vs:=[.i .i64 (qx w).2,.ptr 0 0,.ptr 1 0]) [2,4,3] (Lent.of (by decide) ?_) ?_
   ·simp [vL,shb,shv,qb,qW,bnd,qM,rnv,gAt,vw,qJ qe,ql qe,qS,clo,qp]
   simp only [vK,qR,rnb,qM,rnv,gAt,simprocAttr,ql qe,qp,clo]
   simp only [↓vS,vT,shb,shv,qb,qc,cellsOf,wr,qa,Nat.reduceEqDiff,↓reduceIte,Nat.reduceAdd,Nat.reduceMul,Nat.reduceSub,Nat.reduceLeDiff,Nat.reduceLT,Int.reduceLE,Int.reduceLT,Int.reduceEq,Int.reduceToNat]
   refine S.weak (Wk.mk _ _ [0,1,2,6] ?_ ?_ ?_ rfl) (jR fl t (wj t) (qn v) j (by omega) r.1 (r.2++[xf (qx w).2 w]) _ (fun t' h' hw=>ih2 (by omega) (by omega) t' h' hw))
   ·simp [vw]
   ·simp [vw,qE,qd,qe,qj]
   ·simp
 ·have hjl:(qn v).take j = qn v:=List.take_of_length_le (by omega)
  rw [hjl] at hr
  rw [hr]
  simp only [qE]
  simp only [↓vS,vT,shb,shv,qb,qc,cellsOf,wr,qa,Nat.reduceEqDiff,↓reduceIte,Nat.reduceAdd,Nat.reduceMul,Nat.reduceSub,Nat.reduceLeDiff,Nat.reduceLT,Int.reduceLE,Int.reduceLT,Int.reduceEq,Int.reduceToNat,hlt]
  refine zS ?_
  simp only [↓vS,vT,shb,shv,qb,qc,cellsOf,wr,qa,Nat.reduceEqDiff,↓reduceIte,Nat.reduceAdd,Nat.reduceMul,Nat.reduceSub,Nat.reduceLeDiff,Nat.reduceLT,Int.reduceLE,Int.reduceLT,Int.reduceEq,Int.reduceToNat,not_false_eq_true]
  intro _
  refine ⟨[3],?_⟩
  simp [vw,qE,qd,qe,qj]
end Go.Kc
end
section
/- What fold.Step answers, whole. Condition: the functions' texts are these. -/
namespace Go.Kc
variable {P:Program} {f:Nat}
def ql0 (P:Program) (f:Nat):Prop:=∀ l:GList,l.calls.length<=100000->qg P f [.agg (qE l)] (.agg (qE l))
theorem qpo (h:qm2 P f):ql0 P f:=by
 intro l hl
 refine (h l hl).pure rfl ?_
 simp only [H0,vJ,shb,shv,qb,simprocAttr]
 simp [vZ,vP,Tr.get_set,qE,qH qj,z0 qj]
 intro h0; rw [h0]; rfl
def qb0 (E:List UInt8->List (List UInt8) × Int) (P:Program) (f:Nat):Prop:=∀ (l:GList) (v:List UInt8) (fl:Bool),l.calls.length<=100000->v.length<=1000->0<=l.mode->
 Own P f [.agg (qE l),.s v,.b fl] (.tup [.agg (qE (zQ E l v fl).1),.own 0 (zQ E l v fl).2.length]) [.cells 4 true true (rN (zQ E l v fl).2)]
theorem qrt {g1 g2 g3 g4 g5 g6 g7 g8 g9 g10:Nat} {E:List UInt8->List (List UInt8) × Int} (hc:qm P f (XL g1 g2 g3 g4 g5 g6 g7 g8 g9 g10) = true) (hE:vx E) (h1:ql0 P g1) (h2:qm3 P g2) (h3:QT P g3) (h4:qb1 P g4) (h5:qhg P g5) (h6:ql2 P g6) (h7:qhd (xi E) P g7) (h8:qqu P g8) (h9:qm5 P g9) (h10:qhh P g10):qb0 E P f:=by
 intro l v fl hl hv hm0
 have htl:=y3 v
 refine Own.mk hc rfl ?_
 simp only [XL,qE,qh,H0,mkT,mkH,trL,vI,simprocAttr]
 simp only [↓vS,vT,shb,shv,qb,qc,cellsOf,wr,qa,Nat.reduceEqDiff,↓reduceIte,Nat.reduceAdd,Nat.reduceMul,Nat.reduceSub,Nat.reduceLeDiff,Nat.reduceLT,Int.reduceLE,Int.reduceLT,Int.reduceEq,Int.reduceToNat]
 refine (h1 l hl).sc ?_
 simp only [↓vS,vT,shb,shv,qb,qc,cellsOf,wr,qa,Nat.reduceEqDiff,↓reduceIte,Nat.reduceAdd,Nat.reduceMul,Nat.reduceSub,Nat.reduceLeDiff,Nat.reduceLT,Int.reduceLE,Int.reduceLT,Int.reduceEq,Int.reduceToNat,qE]
 refine (h2 l hl).sc ?_
 cases hM:zM l with
 | false =>
  have hs:zQ E l v fl = (l,[]):=if_pos hM
  rw [hs]
  simp only [↓vS,vT,shb,shv,qb,qc,cellsOf,wr,qa,Nat.reduceEqDiff,↓reduceIte,Nat.reduceAdd,Nat.reduceMul,Nat.reduceSub,Nat.reduceLeDiff,Nat.reduceLT,Int.reduceLE,Int.reduceLT,Int.reduceEq,Int.reduceToNat]
  intro _
  refine ⟨[2],?_⟩
  simp [vw,qE,qd,qj,rN]
 | true =>
  have hmm:=((jB l).1 hM).1
  simp only [↓vS,vT,shb,shv,qb,qc,cellsOf,wr,qa,Nat.reduceEqDiff,↓reduceIte,Nat.reduceAdd,Nat.reduceMul,Nat.reduceSub,Nat.reduceLeDiff,Nat.reduceLT,Int.reduceLE,Int.reduceLT,Int.reduceEq,Int.reduceToNat]
  refine (h3 v (by omega)).sc ?_
  by_cases hw:qn v = []
  ·have hs:zQ E l v fl = (⟨0,[]⟩,[]):=by unfold zQ; rw [if_neg (by simp [hM]),if_pos hw]
   rw [hs]
   simp only [↓vS,vT,shb,shv,qb,qc,cellsOf,wr,qa,Nat.reduceEqDiff,↓reduceIte,Nat.reduceAdd,Nat.reduceMul,Nat.reduceSub,Nat.reduceLeDiff,Nat.reduceLT,Int.reduceLE,Int.reduceLT,Int.reduceEq,Int.reduceToNat,hw,List.length_nil]
   intro _
   refine ⟨[2],?_⟩
   simp [vw,qE,qd,rC,rN]
  ·have hwn:¬ ((qn v).length:Int) = 0:=by have:=List.length_pos_iff.2 hw; omega
   have hs:zQ E l v fl = (qn (zb v).1).foldl (zk E fl (zb v).2) (⟨if l.mode = 0 then (if (zb v).2 = true then 2 else 1) else l.mode,l.calls⟩,[]):=by
    unfold zQ; rw [if_neg (by simp [hM]),if_neg hw]
   rw [hs]
   simp only [↓vS,vT,shb,shv,qb,qc,cellsOf,wr,qa,Nat.reduceEqDiff,↓reduceIte,Nat.reduceAdd,Nat.reduceMul,Nat.reduceSub,Nat.reduceLeDiff,Nat.reduceLT,Int.reduceLE,Int.reduceLT,Int.reduceEq,Int.reduceToNat,hwn]
   refine (h4 v).sc ?_
   rw [qaE]
   have key:∀ (m:Int),m = (if l.mode = 0 then (if (zb v).2 = true then 2 else 1) else l.mode)->zM ⟨m,l.calls⟩ = true∧(m = 1∨m = 2):=by
    intro m hm
    have h12:m = 1∨m = 2:=by
     rw [hm]; split
     ·split <;> simp
     ·have:=hmm.1; omega
    obtain ⟨_,a1,a2⟩:=(jB l).1 hM
    exact ⟨(jB _).2 ⟨⟨by dsimp only; omega,.inl (by dsimp only; omega)⟩,a1,a2⟩,h12⟩
   cases ht:(zb v).2 with
   | true =>
    by_cases h0:l.mode = 0
    ·have hu:IntKind.wrap .u8 (1 + 1) = 2:=by decide
     have hu1:IntKind.wrap .u8 1 = 1:=by decide
     obtain ⟨k1,k2⟩:=key 2 (by rw [h0,ht]; rfl)
     rw [show (if l.mode = 0 then (if true = true then (2:Int) else 1) else l.mode) = 2 from by rw [h0]; rfl]
     simp only [↓vS,vT,shb,shv,qb,qc,cellsOf,wr,qa,Nat.reduceEqDiff,↓reduceIte,Nat.reduceAdd,Nat.reduceMul,Nat.reduceSub,Nat.reduceLeDiff,Nat.reduceLT,Int.reduceLE,Int.reduceLT,Int.reduceEq,Int.reduceToNat,h0,hu,hu1]
     refine S.weak (Wk.mk _ _ [0,1,2,3] ?_ ?_ ?_ rfl) (qar hE h3 h5 h6 h7 h8 h9 h10 fl true (zb v).1 (by omega) ⟨2,l.calls⟩ k1 k2)
     ·simp [vw,wj]
     ·simp [vw,qE,qd,qj]
     ·simp
    ·obtain ⟨k1,k2⟩:=key l.mode (by rw [if_neg h0])
     rw [show (if l.mode = 0 then (if true = true then (2:Int) else 1) else l.mode) = l.mode from if_neg h0]
     simp only [↓vS,vT,shb,shv,qb,qc,cellsOf,wr,qa,Nat.reduceEqDiff,↓reduceIte,Nat.reduceAdd,Nat.reduceMul,Nat.reduceSub,Nat.reduceLeDiff,Nat.reduceLT,Int.reduceLE,Int.reduceLT,Int.reduceEq,Int.reduceToNat,h0]
     refine S.weak (Wk.mk _ _ [0,1,2,3] ?_ ?_ ?_ rfl) (qar hE h3 h5 h6 h7 h8 h9 h10 fl true (zb v).1 (by omega) ⟨l.mode,l.calls⟩ k1 k2)
     ·simp [vw,wj]
     ·simp [vw,qE,qd,qj]
     ·simp
   | false =>
    by_cases h0:l.mode = 0
    ·have hu:IntKind.wrap .u8 (1 + 0) = 1:=by decide
     have hu1:IntKind.wrap .u8 0 = 0:=by decide
     obtain ⟨k1,k2⟩:=key 1 (by rw [h0,ht]; rfl)
     rw [show (if l.mode = 0 then (if false = true then (2:Int) else 1) else l.mode) = 1 from by rw [h0]; rfl]
     simp only [↓vS,vT,shb,shv,qb,qc,cellsOf,wr,qa,Nat.reduceEqDiff,↓reduceIte,Nat.reduceAdd,Nat.reduceMul,Nat.reduceSub,Nat.reduceLeDiff,Nat.reduceLT,Int.reduceLE,Int.reduceLT,Int.reduceEq,Int.reduceToNat,h0,hu,hu1]
     refine S.weak (Wk.mk _ _ [0,1,2,3] ?_ ?_ ?_ rfl) (qar hE h3 h5 h6 h7 h8 h9 h10 fl false (zb v).1 (by omega) ⟨1,l.calls⟩ k1 k2)
     ·simp [vw,wj]
     ·simp [vw,qE,qd,qj]
     ·simp
    ·obtain ⟨k1,k2⟩:=key l.mode (by rw [if_neg h0])
     rw [show (if l.mode = 0 then (if false = true then (2:Int) else 1) else l.mode) = l.mode from if_neg h0]
     simp only [↓vS,vT,shb,shv,qb,qc,cellsOf,wr,qa,Nat.reduceEqDiff,↓reduceIte,Nat.reduceAdd,Nat.reduceMul,Nat.reduceSub,Nat.reduceLeDiff,Nat.reduceLT,Int.reduceLE,Int.reduceLT,Int.reduceEq,Int.reduceToNat,h0]
     refine S.weak (Wk.mk _ _ [0,1,2,3] ?_ ?_ ?_ rfl) (qar hE h3 h5 h6 h7 h8 h9 h10 fl false (zb v).1 (by omega) ⟨l.mode,l.calls⟩ k1 k2)
     ·simp [vw,wj]
     ·simp [vw,qE,qd,qj]
     ·simp
end Go.Kc
end
section
/- FoldKeeps, FoldTwice: what the laws answer. Condition: the functions' texts are these. -/
namespace Go.Kc
variable {P:Program} {f:Nat}
end Go.Kc
end
section
/- FoldOne: what the law answers. Condition: the functions' texts are these. -/
namespace Go.Kc
variable {P:Program} {f:Nat}
end Go.Kc
end
section
/- What values come to, as the kernel can count it. No condition. -/
namespace Go.Kc
variable (E:List UInt8->List (List UInt8) × Int)
end Go.Kc
end
section
/- What filter.Set answers: its functions. Condition: the functions' texts are these. -/
namespace Go.Kc
variable {P:Program} {f:Nat}
def jZ (a:Asg) (n:GNote):GNote:=⟨a.file,a.line,n.err,n.text⟩
theorem qdt {l:List GNote} {i:Nat} {c:GNote} (h:l[i]? = some c):rN l = rN (l.take i)++([.s c.file,.i .i64 c.line,.i .i64 c.err,.s c.text]++rN (l.drop (i + 1))):=by
 obtain ⟨hi,rfl⟩:=List.getElem?_eq_some_iff.1 h
 have:l = l.take i++([l[i]]++l.drop (i + 1)):=by
  rw [List.singleton_append,← List.drop_eq_getElem_cons hi,List.take_append_drop]
 conv=>lhs; rw [this]
 rw [← Jp,← Jp]; rfl
theorem qi3 {l:List GNote} {i:Nat} {c d:GNote} (h:l[i]? = some c):rN (l.set i d) = rN (l.take i)++([.s d.file,.i .i64 d.line,.i .i64 d.err,.s d.text]++rN (l.drop (i + 1))):=by
 obtain ⟨hi,_⟩:=List.getElem?_eq_some_iff.1 h
 rw [List.set_eq_take_append_cons_drop,if_pos hi,← Jp]; rfl
theorem qlD {l:List GNote} {i:Nat} {c:GNote} (h:l[i]? = some c) (s:List UInt8):(rN l).take (i * 4)++(.s s :: (rN l).drop (i * 4 + 1)) = rN (l.set i ⟨s,c.line,c.err,c.text⟩):=by
 have hi:i<=l.length:=Nat.le_of_lt (List.getElem?_eq_some_iff.1 h).1
 have hl:(rN (l.take i)).length = i * 4:=by rw [kg,List.length_take]; omega
 rw [qi3 h,qdt h,List.take_left' hl,← List.drop_drop,List.drop_left' hl]; rfl
theorem qlE {l:List GNote} {i:Nat} {c:GNote} (h:l[i]? = some c) (n:Int):(rN l).take (i * 4 + 1)++(.i .i64 n :: (rN l).drop (i * 4 + 2)) = rN (l.set i ⟨c.file,n,c.err,c.text⟩):=by
 have hi:i<=l.length:=Nat.le_of_lt (List.getElem?_eq_some_iff.1 h).1
 have hl:(rN (l.take i)).length = i * 4:=by rw [kg,List.length_take]; omega
 rw [qi3 h,qdt h,← hl,List.take_length_add_append,List.drop_length_add_append,List.append_assoc]; rfl
def vk:IFn:=⟨[.tmp 2],.seq (.r [.m 2 (.c (.nilp))]) (.seq (.r [.m 3 (.t 0),.q 4 (.nilChk (.t 3)),.q 5 (.fAddr 1 (.t 4)),.m 2 (.t 5)]) (.ret))⟩
theorem qnx (hc:qm P f vk = true) (p:Pol):Upd P f [.ptr 0 0] [.cells 0 true false (qq p)] (.ptr 0 1) [.cells 0 true false (qq p)]:=by
 refine Upd.mk hc (by simp [qW,bnd]) (by simp) ?_
 simp only [vk,qq,qh,H0,mkT,mkH,trL,vI,simprocAttr]
 simp only [↓vS,vT,shb,shv,qb,qc,cellsOf,wr,qa,simprocAttr]
 intro _
 refine ⟨[0],?_⟩
 simp [vw]
 try decide
def vl:IFn:=⟨[.tmp 2],.seq (.r [.m 2 (.c (.nilp))]) (.seq (.r [.m 3 (.t 0),.q 4 (.nilChk (.t 3)),.q 5 (.fAddr 4 (.t 4)),.m 2 (.t 5)]) (.ret))⟩
theorem qny (hc:qm P f vl = true) (p:Pol):Upd P f [.ptr 0 0] [.cells 0 true false (qq p)] (.ptr 0 4) [.cells 0 true false (qq p)]:=by
 refine Upd.mk hc (by simp [qW,bnd]) (by simp) ?_
 simp only [vl,qq,qh,H0,mkT,mkH,trL,vI,simprocAttr]
 simp only [↓vS,vT,shb,shv,qb,qc,cellsOf,wr,qa,simprocAttr]
 intro _
 refine ⟨[0],?_⟩
 simp [vw]
 try decide
end Go.Kc
end
section
/- What the keys of filter do to a policy. Condition: the functions' texts are these. -/
namespace Go.Kc
variable {P:Program} {f:Nat}
def je (f_fold_Step:Nat):IFn:=⟨[.tmp 6],.seq (.r [.m 6 (.c (.nils))]) (.seq (.r [.q 10 (.load1 (.t 2)),.m 11 (.t 0),⟨(some 12),.callV (.t 10) [.t 11],none⟩,.m 7 (.t 12)]) (.seq (.reg true [.m 14 (.t 7),.q 15 (.nilChk (.t 14)),.q 16 (.loadN 2 (.t 15)),.m 17 (.t 1),.q 18 (.load1 (.t 3)),.l 19 f_fold_Step [.t 16,.t 17,.t 18],.m 13 (.t 19),.q 20 (.ext (.t 13) 0),.q 21 (.ext (.t 13) 1),.q 8 (.alloc [.i .u8 0,.nils]),.u (.store 2 (.t 8) (.t 20)),.m 9 (.t 21)]) (.seq (.r [.m 22 (.t 7),.q 23 (.loadN 2 (.t 8)),.q 24 (.nilChk (.t 22)),.u (.store 2 (.t 24) (.t 23))]) (.seq (.r [.m 25 (.t 9),.m 6 (.t 25)]) (.ret)))))⟩
theorem qku {g1 g2:Nat} {E:List UInt8->List (List UInt8) × Int} (hc:qm P f (je g2) = true) (h1:∀ p,Upd P g1 [.ptr 0 0] [.cells 0 true false (qq p)] (.ptr 0 1) [.cells 0 true false (qq p)]) (h2:qb0 E P g2) (p:Pol) (v:List UInt8) (fl:Bool)
  (hl:p.filter.calls.length<=100000) (hv:v.length<=1000) (hm:0<=p.filter.mode) :
  Upd P f [.ptr 0 0,.s v,.pf [.fn g1 [] []] 0,.pf [.b fl] 0] [.cells 0 true false (qq p)] (.own 1 (zQ E p.filter v fl).2.length) [.cells 0 true false (qq { p with filter:=(zQ E p.filter v fl).1 }),.cells 4 true true (rN (zQ E p.filter v fl).2)]:=by
 refine Upd.mk hc (by simp [qW,bnd,qS,clo,qw]) (by simp) ?_
 simp only [je,qq,qh,H0,mkT,mkH,trL,vI,simprocAttr]
 simp only [↓vS,vT,shb,shv,qb,qc,cellsOf,wr,qa,simprocAttr]
 refine (h1 p).sc (vs:=[.ptr 0 0]) [0] (Lent.of (by decide) ?_) ?_
 ·simp [vL,shb,shv,qb,qW,bnd,qM,rnv,gAt,vw,qq,qS,clo,qp]
 simp only [vK,qR,rnb,qM,rnv,gAt,simprocAttr,qq,qp,clo]
 simp only [↓vS,vT,shb,shv,qb,qc,cellsOf,wr,qa,simprocAttr]
 refine zS ?_
 simp only [↓vS,vT,shb,shv,qb,qc,cellsOf,wr,qa,simprocAttr]
 refine (h2 p.filter v fl hl hv hm).pc ?_
 simp only [vJ,shb,shv,qb,simprocAttr,qE]
 simp only [↓vS,vT,shb,shv,qb,qc,cellsOf,wr,qa,simprocAttr]
 intro _
 refine ⟨[0,1],?_⟩
 simp [vw,qq,qd,qe,qj,qk,z0 qe]
 try decide
theorem qkv {g1 g2:Nat} {E:List UInt8->List (List UInt8) × Int} (hc:qm P f (je g2) = true) (h1:∀ p,Upd P g1 [.ptr 0 0] [.cells 0 true false (qq p)] (.ptr 0 4) [.cells 0 true false (qq p)]) (h2:qb0 E P g2) (p:Pol) (v:List UInt8) (fl:Bool)
  (hl:p.log.calls.length<=100000) (hv:v.length<=1000) (hm:0<=p.log.mode) :
  Upd P f [.ptr 0 0,.s v,.pf [.fn g1 [] []] 0,.pf [.b fl] 0] [.cells 0 true false (qq p)] (.own 1 (zQ E p.log v fl).2.length) [.cells 0 true false (qq { p with log:=(zQ E p.log v fl).1 }),.cells 4 true true (rN (zQ E p.log v fl).2)]:=by
 refine Upd.mk hc (by simp [qW,bnd,qS,clo,qw]) (by simp) ?_
 simp only [je,qq,qh,H0,mkT,mkH,trL,vI,simprocAttr]
 simp only [↓vS,vT,shb,shv,qb,qc,cellsOf,wr,qa,simprocAttr]
 refine (h1 p).sc (vs:=[.ptr 0 0]) [0] (Lent.of (by decide) ?_) ?_
 ·simp [vL,shb,shv,qb,qW,bnd,qM,rnv,gAt,vw,qq,qS,clo,qp]
 simp only [vK,qR,rnb,qM,rnv,gAt,simprocAttr,qq,qp,clo]
 simp only [↓vS,vT,shb,shv,qb,qc,cellsOf,wr,qa,simprocAttr]
 refine zS ?_
 simp only [↓vS,vT,shb,shv,qb,qc,cellsOf,wr,qa,simprocAttr]
 refine (h2 p.log v fl hl hv hm).pc ?_
 simp only [vJ,shb,shv,qb,simprocAttr,qE]
 simp only [↓vS,vT,shb,shv,qb,qc,cellsOf,wr,qa,simprocAttr]
 intro _
 refine ⟨[0,1],?_⟩
 simp [vw,qq,qd,qe,qj,qk,z0 qe]
 try decide
def jd (f_filter_Errno:Nat):IFn:=⟨[.tmp 4],.seq (.r [.m 4 (.c (.nils))]) (.seq (.r [.m 8 (.t 1),.l 9 f_filter_Errno [.t 8],.m 7 (.t 9),.q 10 (.ext (.t 7) 0),.q 11 (.ext (.t 7) 1),.m 5 (.t 10),.m 6 (.t 11)]) (.seq (.seq (.r [.m 12 (.t 6),.q 13 (.bin .neq (.t 12) (.k 0))]) (.cond (.t 13) (.seq (.r [.m 14 (.t 6),.m 15 (.t 1),.m 16 (.t 1),.q 17 (.len true (.t 16)),.q 18 (.min (.t 17) (.k 60)),.q 19 (.slcStr (.t 15) none (some (.t 18))),.q 20 (.build [.s [],.i .i64 0,.i .i64 0,.s []] [(2,1,(.t 14)),(3,1,(.t 19))]),.q 21 (.buildS 1 [.s [],.i .i64 0,.i .i64 0,.s []] [(0,4,(.t 20))]),.m 4 (.t 21)]) (.ret)) (.skip))) (.seq (.r [.m 22 (.t 0),.m 23 (.t 5),.q 24 (.nilChk (.t 22)),.q 25 (.fAddr 3 (.t 24)),.u (.store 1 (.t 25) (.t 23))]) (.seq (.r [.m 4 (.c (.nils))]) (.ret)))))⟩
theorem qfR {g1:Nat} (hc:qm P f (jd g1) = true) (h1:qeC P g1) (p:Pol) (v:List UInt8) (hv:v.length<=1000) (he:(k7 v).2 = 0) :
  Upd P f [.ptr 0 0,.s v] [.cells 0 true false (qq p)] (.own 1 0) [.cells 0 true false (qq { p with deny:=(k7 v).1 }),.cells 4 true true []]:=by
 refine Upd.mk hc (by simp [qW,bnd]) (by simp) ?_
 simp only [jd,qq,qh,H0,mkT,mkH,trL,vI,simprocAttr]
 simp only [↓vS,vT,shb,shv,qb,qc,cellsOf,wr,qa,simprocAttr]
 refine (h1 v (by omega)).sc ?_
 simp only [↓vS,vT,shb,shv,qb,qc,cellsOf,wr,qa,simprocAttr,he]
 intro _
 refine ⟨[0,1],?_⟩
 simp [vw,qq,qd,qe,qj,qk]
 try decide
theorem qfQ {g1:Nat} (hc:qm P f (jd g1) = true) (h1:qeC P g1) (p:Pol) (v:List UInt8) (hv:v.length<=1000) (he:¬ (k7 v).2 = 0) :
  Upd P f [.ptr 0 0,.s v] [.cells 0 true false (qq p)] (.sl 1 0 1 1 false) [.cells 0 true false (qq p),.cells 0 true false (rN [xf (k7 v).2 v])]:=by
 refine Upd.mk hc (by simp [qW,bnd]) (by simp) ?_
 simp only [jd,qq,qh,H0,mkT,mkH,trL,vI,simprocAttr]
 simp only [↓vS,vT,shb,shv,qb,qc,cellsOf,wr,qa,simprocAttr]
 refine (h1 v (by omega)).sc ?_
 simp only [↓vS,vT,shb,shv,qb,qc,cellsOf,wr,qa,simprocAttr,he]
 by_cases h60:(60:Int) < v.length
 ·have h1:60<=v.length:=by omega
  simp only [↓vS,vT,shb,shv,qb,qc,cellsOf,wr,qa,simprocAttr,h60,h1,List.drop_zero]
  intro _
  refine ⟨[0,1],?_⟩
  simp [vw,qd,rN,kj,xf,qk,qj,qq]
  try decide
 ·have h1:v.take 60 = v:=List.take_of_length_le (by omega)
  simp only [↓vS,vT,shb,shv,qb,qc,cellsOf,wr,qa,simprocAttr,h60,List.take_length,List.drop_zero]
  intro _
  refine ⟨[0,1],?_⟩
  simp [vw,qd,rN,kj,xf,qk,qj,qq,h1]
  try decide
end Go.Kc
end
section
/- What filter.Set answers. Condition: the functions' texts are these. -/
namespace Go.Kc
variable {P:Program} {f:Nat}
def z9:List AV:=[.nils,.i .u8 0,.nils,.i .u32 0,.i .u8 0,.nils,.nils,.i .u8 0,.i .u64 0,.b false,.b false,.b false,.b false]
theorem qeg {a:Asg} {ns:List GNote} {j:Nat} (h:j < ns.length):((ns.take j).map (jZ a)++ns.drop j)[j]? = some ns[j]:=by
 rw [List.getElem?_append_right (by simp; omega)]
 simp [Nat.min_eq_left (Nat.le_of_lt h),h]
theorem qeh {a:Asg} {ns:List GNote} {j:Nat} (h:j < ns.length) (d:GNote) (hd:d = jZ a ns[j]):((ns.take j).map (jZ a)++ns.drop j).set j d = (ns.take (j + 1)).map (jZ a)++ns.drop (j + 1):=by
 have hl:((ns.take j).map (jZ a)).length = j:=by simp; omega
 rw [List.set_append,if_neg (by omega),hl,Nat.sub_self,List.drop_eq_getElem_cons h,List.set_cons_zero,List.take_add_one,List.getElem?_eq_getElem h,hd,List.map_append,List.append_assoc]
 rfl
def jc (f_filter_copied f_filter_keys:Nat):ICode:=.seq (.seq (.r [.m 26 (.t 8),.q 27 (.len false (.t 26)),.m 28 (.k 0)]) (.blk 0 (.loop (.seq (.r [.q 29 (.bin .lss (.t 28) (.t 27))]) (.seq (.cond (.t 29) (.skip) (.exit 0)) (.seq (.blk 1 (.seq (.r [.m 30 (.t 28),.m 9 (.t 30)]) (.reg true [.m 31 (.t 8),.m 32 (.t 9),.m 33 (.t 8),.m 34 (.t 9),.q 35 (.fAddr 0 (.t 3)),.q 36 (.load1 (.t 35)),.q 37 (.fAddr 1 (.t 3)),.q 38 (.load1 (.t 37)),.q 39 (.iAddrS 4 (.t 31) (.t 32)),.q 40 (.fAddr 0 (.t 39)),.u (.storeD 1 (.t 40) (.t 36) [37]),.q 41 (.iAddrS 4 (.t 33) (.t 34)),.q 42 (.fAddr 1 (.t 41)),.u (.store 1 (.t 42) (.t 38))]))) (.r [.q 43 (.bin .add (.t 28) (.k 1)),.m 28 (.t 43)]))))))) (.seq (.r [.q 44 (.loadN 13 (.t 2)),.m 45 (.t 8),.u (.store 13 (.t 4) (.t 44)),.m 5 (.t 45)]) (.ret))
def wa (f_filter_copied f_filter_keys:Nat):ICode:=.seq (.r [.m 22 (.t 6),.q 23 (.fAddr 4 (.t 3)),.q 24 (.load1 (.t 23)),⟨(some 25),.callV (.t 22) [.t 2,.t 24],none⟩,.m 8 (.t 25)]) (.cut (jc f_filter_copied f_filter_keys))
def ZY (f_filter_copied f_filter_keys:Nat):IFn:=⟨[.cell 4 13 true,.tmp 5],.seq (.r [.q 2 (.box (.t 0)),.q 3 (.box (.t 1)),.q 4 (.alloc [.nils,.i .u8 0,.nils,.i .u32 0,.i .u8 0,.nils,.nils,.i .u8 0,.i .u64 0,.b false,.b false,.b false,.b false]),.m 5 (.c (.nils))]) (.seq (.r [.q 10 (.loadN 13 (.t 2)),.l 11 f_filter_copied [.t 10],.u (.store 13 (.t 2) (.t 11))]) (.seq (.reg true [.l 13 f_filter_keys [],.q 14 (.fAddr 3 (.t 3)),.q 15 (.load1 (.t 14)),.q 16 (.lookM none true (.nilf) (.t 13) (.t 15)),.m 12 (.t 16),.q 17 (.ext (.t 12) 0),.q 18 (.ext (.t 12) 1),.m 6 (.t 17),.m 7 (.t 18)]) (.seq (.seq (.r [.m 19 (.t 7),.q 20 (.un .not (.t 19))]) (.cond (.t 20) (.seq (.r [.q 21 (.loadN 13 (.t 2)),.u (.store 13 (.t 4) (.t 21)),.m 5 (.c (.nils))]) (.ret)) (.skip))) (.cut (wa f_filter_copied f_filter_keys)))))⟩
theorem Jb (g1 g2:Nat) (q:Pol) (a:Asg) (ns:List GNote) (hn:ns.length<=100000) :
  S P 0 (jc g1 g2) (jz [.cell 4 13 true,.tmp 5] (fun v' h'=>Frz h' v' (.tup [.agg (qq q),.fz ns.length (rN (ns.map (jZ a)))])))
   (mkT [(2,.ptr 0 0),(3,.ptr 1 0),(4,.ptr 2 0),(8,.own 3 ns.length)]) (mkH 0 [.cells 0 true false (qq q),.cells 0 true false (xb a),.cells 0 true false z9,.cells 4 true true (rN ns)]):=by
 refine qA ?_
 simp only [jc,qq,xb,z9,qh,H0,mkT,mkH,trL,vI,simprocAttr]
 simp only [↓vS,vT,shb,shv,qb,qc,cellsOf,wr,qa,simprocAttr]
 refine SL.loop (α:=Nat) (fun j=>[(2,.ptr 0 0),(3,.ptr 1 0),(4,.ptr 2 0),(8,.own 3 ns.length),(27,.i .i64 ns.length),(28,.i .i64 j)])
  (fun j=>[.cells 0 true false (qq q),.cells 0 true false (xb a),.cells 0 true false z9,.cells 4 true true (rN ((ns.take j).map (jZ a)++ns.drop j))]) (fun j=>j<=ns.length) (fun j=>ns.length - j) 0 [0,1,2,3] ?_ ?_ ?_ rfl ?_ ?_
 ·simp [vw]
 ·simp [vw,qq,xb,z9,qd,qe]
  try decide
 ·simp
 ·exact Nat.zero_le _
 rintro j hj G ih
 simp only [qq,xb,z9,qh,H0,mkT,mkH,trL,vI,simprocAttr]
 by_cases hlt:j < ns.length
 ·have hw:IntKind.wrap .i64 ((j:Int) + 1) = ((j + 1:Nat):Int):=by rw [qG (by omega) (by omega)]; omega
  have hx:=qeg (a:=a) hlt
  have hset:=qeh (a:=a) hlt (jZ a ns[j]) rfl
  have ih2:=ih (j + 1)
  rw [← hset] at ih2
  generalize hL:(ns.take j).map (jZ a)++ns.drop j = L at hx ih2
  have hLl:L.length = ns.length:=by rw [← hL]; simp; omega
  have e0:=qlD hx a.file
  have hx1:(L.set j ⟨a.file,ns[j].line,ns[j].err,ns[j].text⟩)[j]? = some ⟨a.file,ns[j].line,ns[j].err,ns[j].text⟩:=by rw [List.getElem?_set]; simp; omega
  have e1:=qlE hx1 a.line
  rw [List.set_set] at e1
  have hlen:(rN L).length = ns.length * 4:=by rw [kg,hLl]
  have hlen1:(rN (L.set j ⟨a.file,ns[j].line,ns[j].err,ns[j].text⟩)).length = ns.length * 4:=by rw [kg,List.length_set,hLl]
  have hb0:j * 4 + 1<=ns.length * 4:=by omega
  have hb1:j * 4 + 2<=ns.length * 4:=by omega
  simp only [↓vS,vT,shb,shv,qb,qc,cellsOf,wr,qa,simprocAttr,hlt]
  refine zS ?_
  simp (decide:=true) only [↓vS,vT,shb,shv,qb,qc,cellsOf,wr,qa,simprocAttr,hlt,hlen,hlen1,hb0,hb1,e0,e1,hw]
  refine ih2 (by omega) (by omega) _ _ (Wk.mk _ _ [0,1,2,3] ?_ ?_ ?_ rfl)
  ·simp [vw]
  ·simp [vw,qq,xb,z9,qd,qe,jZ]
   try decide
  ·simp
 ·have hjl:ns.take j = ns:=List.take_of_length_le (by omega)
  have hdl:ns.drop j = []:=List.drop_of_length_le (by omega)
  rw [hjl,hdl,List.append_nil]
  simp (decide:=true) only [↓vS,vT,shb,shv,qb,qc,cellsOf,wr,qa,simprocAttr,hlt]
  simp [vZ,vP,Tr.get_set,qq,qk,qH,qe,qj]
  intro h0; rw [h0]; rfl
theorem qh1 (g1 g2:Nat) (q:Pol) (a:Asg) (n:GNote) :
  S P 0 (jc g1 g2) (jz [.cell 4 13 true,.tmp 5] (fun v' h'=>Frz h' v' (.tup [.agg (qq q),.fz 1 (rN [jZ a n])])))
   (mkT [(2,.ptr 0 0),(3,.ptr 1 0),(4,.ptr 2 0),(8,.sl 3 0 1 1 false)]) (mkH 0 [.cells 0 true false (qq q),.cells 0 true false (xb a),.cells 0 true false z9,.cells 0 true false (rN [n])]):=by
 have hw:IntKind.wrap .i64 (0 + 1) = 1:=by decide
 refine qA ?_
 simp only [jc,qq,xb,z9,qi2,qh,H0,mkT,mkH,trL,vI,simprocAttr]
 simp only [↓vS,vT,shb,shv,qb,qc,cellsOf,wr,qa,simprocAttr]
 refine vq ?_
 simp (decide:=true) only [↓vS,vT,shb,shv,qb,qc,cellsOf,wr,qa,simprocAttr]
 refine zS ?_
 simp (decide:=true) only [↓vS,vT,shb,shv,qb,qc,cellsOf,wr,qa,simprocAttr,hw]
 refine vq ?_
 simp (decide:=true) only [↓vS,vT,shb,shv,qb,qc,cellsOf,wr,qa,simprocAttr]
 simp [vZ,vP,Tr.get_set,qq,qk,qH,qi2,qj,jZ]
 exact Frz.cut 4 rfl (Nat.le_refl _) (by simp [vP,Tr.get_set,vZ])
noncomputable def kw (E:List UInt8->List (List UInt8) × Int) (p:Pol) (k v:List UInt8):Pol × List GNote :=
 if k = ZB then ({ p with filter:=(zQ E p.filter v true).1 },(zQ E p.filter v true).2)
 else if k = qf1 then ({ p with log:=(zQ E p.log v false).1 },(zQ E p.log v false).2)
 else if k = qfZ then (if (k7 v).2 = 0 then ({ p with deny:=(k7 v).1 },[]) else (p,[xf (k7 v).2 v]))
 else (p,[])
def ql3 (E:List UInt8->List (List UInt8) × Int) (P:Program) (f:Nat):Prop:=∀ (p:Pol) (a:Asg),PolOk p->0<=p.filter.mode∧0<=p.log.mode->a.val.length<=1000->
 qg P f [.agg (qq p),.agg (xb a)] (.tup [.agg (qq (kw E p a.key a.val).1),.fz (kw E p a.key a.val).2.length (rN ((kw E p a.key a.val).2.map (jZ a)))])
theorem qpY {g1 g2 l m1 m2 m3 e s0:Nat} {E:List UInt8->List (List UInt8) × Int} (hc:qm P f (ZY g1 g2) = true) (h1:qad P g1) (h2:Own P g2 [] (.map 0) [.map (qbF l m1 m2 m3)])
  (hl:qm P l (je s0) = true) (hs:qb0 E P s0) (hm1:qm P m1 vk = true) (hm2:qm P m2 vl = true) (hm3:qm P m3 (jd e) = true) (he:qeC P e):ql3 E P f:=by
 intro p a hp hm hv
 have hpc:=hp.c
 have hpl:=hp.l
 refine qg.mk hc rfl ?_
 generalize hT:AV.tup [.agg (qq (kw E p a.key a.val).1),.fz (kw E p a.key a.val).2.length (rN ((kw E p a.key a.val).2.map (jZ a)))] = tgt
 simp only [ZY,qq,xb,qh,H0,mkT,mkH,trL,vI,simprocAttr]
 simp only [↓vS,vT,shb,shv,qb,qc,cellsOf,wr,qa,simprocAttr]
 refine (h1 p hp).sc ?_
 simp (decide:=true) only [↓vS,vT,shb,shv,qb,qc,cellsOf,wr,qa,simprocAttr,qq]
 refine zS ?_
 simp only [↓vS,vT,shb,shv,qb,qc,cellsOf,wr,qa,simprocAttr]
 refine h2.pc ?_
 simp only [vJ,shb,shv,qb,simprocAttr,qbF]
 simp only [↓vS,vT,shb,shv,qb,qc,cellsOf,wr,qa,simprocAttr]
 subst hT
 by_cases n0:a.key = ZB
 ·have hM:kw E p a.key a.val = ({ p with filter:=(zQ E p.filter a.val true).1 },(zQ E p.filter a.val true).2):=by unfold kw; rw [if_pos n0]
  rw [hM]
  have hlen:=ZJ (E:=E) p.filter a.val true
  simp only [↓vS,vT,shb,shv,qb,qc,cellsOf,wr,qa,simprocAttr,n0,if_true]
  refine S.weak (Wk.mk [(2,.ptr 0 0),(3,.ptr 1 0),(4,.ptr 2 0),(6,.fn l [] [.pf [.fn m1 [] []] 0,.pf [.b true] 0])] [.cells 0 true false (qq p),.cells 0 true false (xb a),.cells 0 true false z9] [0,1,2] ?_ ?_ ?_ rfl) (qA ?_)
  ·simp [vw,clo,qw]
  ·simp [vw,qq,xb,z9,qd]
   try decide
  ·simp
  simp only [wa,xb,z9,qh,H0,mkT,mkH,trL,vI,simprocAttr]
  simp only [↓vS,vT,shb,shv,qb,qc,cellsOf,wr,qa,simprocAttr]
  refine (qku hl (qnx hm1) hs p a.val true (by omega) hv hm.1).sc (vs:=[.ptr 0 0,.s a.val,.pf [.fn m1 [] []] 0,.pf [.b true] 0]) [0] (Lent.of (by decide) ?_) ?_
  ·simp [vL,shb,shv,qb,qW,bnd,qM,rnv,gAt,vw,qq,qS,clo,qw,qp]
  simp only [vK,qR,rnb,qM,rnv,gAt,simprocAttr,ql qe,ql (Zv _),qp,clo]
  simp only [↓vS,vT,shb,shv,qb,qc,cellsOf,wr,qa,simprocAttr]
  refine S.weak (Wk.mk _ _ [0,1,2,3] ?_ ?_ ?_ rfl) (Jb g1 g2 { p with filter:=(zQ E p.filter a.val true).1 } a (zQ E p.filter a.val true).2 (by omega))
  ·simp [vw]
  ·simp [vw,qq,xb,z9,qd,qe]
   try decide
  ·simp
 by_cases n1:a.key = qf1
 ·have hM:kw E p a.key a.val = ({ p with log:=(zQ E p.log a.val false).1 },(zQ E p.log a.val false).2):=by unfold kw; rw [if_neg n0,if_pos n1]
  rw [hM]
  have hlen:=ZJ (E:=E) p.log a.val false
  simp only [↓vS,vT,shb,shv,qb,qc,cellsOf,wr,qa,simprocAttr,n0,n1,if_true]
  refine S.weak (Wk.mk [(2,.ptr 0 0),(3,.ptr 1 0),(4,.ptr 2 0),(6,.fn l [] [.pf [.fn m2 [] []] 0,.pf [.b false] 0])] [.cells 0 true false (qq p),.cells 0 true false (xb a),.cells 0 true false z9] [0,1,2] ?_ ?_ ?_ rfl) (qA ?_)
  ·simp [vw,clo,qw]
  ·simp [vw,qq,xb,z9,qd]
   try decide
  ·simp
  simp only [wa,xb,z9,qh,H0,mkT,mkH,trL,vI,simprocAttr]
  simp only [↓vS,vT,shb,shv,qb,qc,cellsOf,wr,qa,simprocAttr]
  refine (qkv hl (qny hm2) hs p a.val false (by omega) hv hm.2).sc (vs:=[.ptr 0 0,.s a.val,.pf [.fn m2 [] []] 0,.pf [.b false] 0]) [0] (Lent.of (by decide) ?_) ?_
  ·simp [vL,shb,shv,qb,qW,bnd,qM,rnv,gAt,vw,qq,qS,clo,qw,qp]
  simp only [vK,qR,rnb,qM,rnv,gAt,simprocAttr,ql qe,ql (Zv _),qp,clo]
  simp only [↓vS,vT,shb,shv,qb,qc,cellsOf,wr,qa,simprocAttr]
  refine S.weak (Wk.mk _ _ [0,1,2,3] ?_ ?_ ?_ rfl) (Jb g1 g2 { p with log:=(zQ E p.log a.val false).1 } a (zQ E p.log a.val false).2 (by omega))
  ·simp [vw]
  ·simp [vw,qq,xb,z9,qd,qe]
   try decide
  ·simp
 by_cases n2:a.key = qfZ
 ·simp only [↓vS,vT,shb,shv,qb,qc,cellsOf,wr,qa,simprocAttr,n0,n1,n2,if_true]
  refine S.weak (Wk.mk [(2,.ptr 0 0),(3,.ptr 1 0),(4,.ptr 2 0),(6,.fn m3 [] [])] [.cells 0 true false (qq p),.cells 0 true false (xb a),.cells 0 true false z9] [0,1,2] ?_ ?_ ?_ rfl) (qA ?_)
  ·simp [vw,clo,qw]
  ·simp [vw,qq,xb,z9,qd]
   try decide
  ·simp
  simp only [wa,xb,z9,qh,H0,mkT,mkH,trL,vI,simprocAttr]
  simp only [↓vS,vT,shb,shv,qb,qc,cellsOf,wr,qa,simprocAttr]
  by_cases hz:(k7 a.val).2 = 0
  ·have hM:kw E p a.key a.val = ({ p with deny:=(k7 a.val).1 },[]):=by unfold kw; rw [if_neg n0,if_neg n1,if_pos n2,if_pos hz]
   rw [hM]
   refine (qfR hm3 he p a.val hv hz).sc (vs:=[.ptr 0 0,.s a.val]) [0] (Lent.of (by decide) ?_) ?_
   ·simp [vL,shb,shv,qb,qW,bnd,qM,rnv,gAt,vw,qq,qS,clo,qw,qp]
   simp only [vK,qR,rnb,qM,rnv,gAt,simprocAttr,ql (Zv _),qp,clo]
   simp only [↓vS,vT,shb,shv,qb,qc,cellsOf,wr,qa,simprocAttr]
   refine S.weak (Wk.mk _ _ [0,1,2,3] ?_ ?_ ?_ rfl) (Jb g1 g2 { p with deny:=(k7 a.val).1 } a [] (by simp))
   ·simp [vw]
   ·simp [vw,qq,xb,z9,qd,qi1]
    try decide
   ·simp
  ·have hM:kw E p a.key a.val = (p,[xf (k7 a.val).2 a.val]):=by unfold kw; rw [if_neg n0,if_neg n1,if_pos n2,if_neg hz]
   rw [hM]
   refine (qfQ hm3 he p a.val hv hz).sc (vs:=[.ptr 0 0,.s a.val]) [0] (Lent.of (by decide) ?_) ?_
   ·simp [vL,shb,shv,qb,qW,bnd,qM,rnv,gAt,vw,qq,qS,clo,qw,qp]
   simp only [vK,qR,rnb,qM,rnv,gAt,simprocAttr,ql qe,ql (Zv _),qp,clo]
   simp only [↓vS,vT,shb,shv,qb,qc,cellsOf,wr,qa,simprocAttr]
   refine S.weak (Wk.mk _ _ [0,1,2,3] ?_ ?_ ?_ rfl) (qh1 g1 g2 p a (xf (k7 a.val).2 a.val))
   ·simp [vw]
   ·simp [vw,qq,xb,z9,qd,qe]
    try decide
   ·simp
 ·have hM:kw E p a.key a.val = (p,[]):=by unfold kw; rw [if_neg n0,if_neg n1,if_neg n2]
  rw [hM]
  simp only [↓vS,vT,shb,shv,qb,qc,cellsOf,wr,qa,simprocAttr,n0,n1,n2,if_false]
  simp [vZ,vP,Tr.get_set,qq,qk,qH,rN,qj]
end Go.Kc
end
section
/- FilterOwn: what the law answers. Condition: the functions' texts are these. -/
namespace Go.Kc
variable {P:Program} {f:Nat}
theorem qjd (E:List UInt8->List (List UInt8) × Int) (p:Pol) (k v:List UInt8):(kw E p k v).2.length<=v.length + 1:=by
 have h1:=ZJ (E:=E) p.filter v true
 have h2:=ZJ (E:=E) p.log v false
 unfold kw
 repeat' split
 all_goals simp
 all_goals omega
end Go.Kc
end
section
/- What fold.Put and fold.Take answer, in rows of one's own. Condition: the functions' texts are these. -/
namespace Go.Kc
variable {P:Program} {f:Nat}
end Go.Kc
end
section
/- What the document's reading of values answers. Condition: the functions' texts are these. -/
namespace Go.Kc
variable {P:Program} {f:Nat}
end Go.Kc
end
section
/- What the document says of lists. Condition: the functions' texts are these. -/
namespace Go.Kc
variable {P:Program} {f:Nat}
def Rng (l:List GCall):Prop:=∀ c ∈ l,0<=c.act∧c.act<=4294967295
end Go.Kc
end
section
/- FoldLists: what the law answers. Condition: the functions' texts are these. -/
namespace Go.Kc
variable {P:Program} {f:Nat}
def Z5 (e:Int):Bool:=decide (e = 90) || decide (e = 100) || decide (e = 110) || decide (e = 161)
def xk:IFn:=⟨[.tmp 4],.seq (.r [.m 4 (.k 0)]) (.seq (.seq (.r [.m 6 (.t 0),.q 7 (.len false (.t 6)),.m 8 (.k 0)]) (.blk 0 (.loop (.seq (.r [.q 9 (.bin .lss (.t 8) (.t 7))]) (.seq (.cond (.t 9) (.skip) (.exit 0)) (.seq (.blk 1 (.seq (.r [.m 10 (.t 8),.m 5 (.t 10)]) (.seq (.r [.m 11 (.t 1),.m 12 (.t 0),.m 13 (.t 5),.q 14 (.iAddrS 1 (.t 12) (.t 13)),.q 15 (.load1 (.t 14)),.q 16 (.bin .eql (.t 11) (.t 15))]) (.cond (.t 16) (.seq (.r [.m 17 (.t 5),.m 4 (.t 17)]) (.ret)) (.skip))))) (.r [.q 18 (.bin .add (.t 8) (.k 1)),.m 8 (.t 18)]))))))) (.seq (.r [.q 4 (.mov (.c (.i .i64 (-1))))]) (.ret)))⟩
def qcg (x:Int):List Int->Nat->Int
 | [],_=>-1
 | y :: ys,j=>if x = y then (j:Int) else qcg x ys (j + 1)
theorem qpF (hc:qm P f xk = true) (xs:List Int) (x:Int) (hl:xs.length<=qi):qg P f [.fz xs.length (rI .i64 xs),.i .i64 x] (.i .i64 (qcg x xs 0)):=by
 refine qg.mk hc (by simp [qw,clo,qk]) ?_
 simp only [xk,qh,H0,mkT,mkH,trL,vI,simprocAttr]
 simp only [↓vS,vT,shb,shv,qb,qc,cellsOf,wr,qa,simprocAttr]
 refine SL.loop (α:=Nat) (fun j=>[(0,.fz xs.length (rI .i64 xs)),(1,.i .i64 x),(7,.i .i64 xs.length),(8,.i .i64 j)]) (fun _=>[]) (fun j=>j<=xs.length∧qcg x xs 0 = qcg x (xs.drop j) j) (fun j=>xs.length - j) 0 [] ?_ ?_ ?_ rfl ?_ ?_
 ·simp [vw,qk]
 ·trivial
 ·simp
 ·simp
 rintro j ⟨hj,hI⟩ G ih
 simp only [qh,H0,mkT,mkH,trL,vI,simprocAttr]
 by_cases hlt:j < xs.length
 ·have hx:xs[j]? = some xs[j]:=List.getElem?_eq_getElem hlt
  have hw:IntKind.wrap .i64 ((j:Int) + 1) = (j:Int) + 1:=qG (by omega) (by have:=hl; simp only [qi] at this; omega)
  rw [List.drop_eq_getElem_cons hlt,qcg] at hI
  simp only [↓vS,vT,shb,shv,qb,qc,cellsOf,wr,qa,simprocAttr,hlt,Nat.mul_one,jw,hx,Option.map_some,hw]
  split
  ·rename_i he
   simp only [he,vZ,if_true] at hI ⊢
   simp [hI]
  ·rename_i he
   rw [if_neg he] at hI
   refine ih (j + 1) ⟨by omega,hI⟩ (by omega) _ _ (Wk.mk _ _ [] ?_ ?_ ?_ rfl)
   ·simp [vw,qk]
   ·trivial
   ·simp
 ·simp only [↓vS,vT,shb,shv,qb,qc,cellsOf,wr,qa,simprocAttr,hlt,vZ]
  rw [List.drop_eq_nil_of_le (by omega)] at hI
  simp [hI,qcg]
def zX (f_slices_Index_api_Errno_api_Errno:Nat):IFn:=⟨[.tmp 4],.seq (.r [.m 4 (.c (.b false))]) (.seq (.r [.m 5 (.t 0),.m 6 (.t 1),.l 7 f_slices_Index_api_Errno_api_Errno [.t 5,.t 6],.q 8 (.bin .geq (.t 7) (.k 0)),.m 4 (.t 8)]) (.ret))⟩
theorem qke {g:Nat} (hc:qm P f (zX g) = true) (hg:∀ (xs:List Int) (x:Int),xs.length<=qi->qg P g [.fz xs.length (rI .i64 xs),.i .i64 x] (.i .i64 (qcg x xs 0))) (x:Int):qg P f [.fz 4 (rI .i64 [90,110,100,161]),.i .i64 x] (.b (Z5 x)):=by
 refine qg.mk hc (by simp [qw,clo,qk]) ?_
 simp only [zX,qh,H0,mkT,mkH,trL,vI,simprocAttr]
 simp only [↓vS,vT,shb,shv,qb,qc,cellsOf,wr,qa,simprocAttr]
 refine (hg [90,110,100,161] x (by decide)).sc ?_
 have hw:decide (0<=qcg x [90,110,100,161] 0) = Z5 x:=by
  simp only [qcg,Z5]
  by_cases h1:x = 90
  ·simp [h1]
  by_cases h2:x = 110
  ·simp [h2]
  by_cases h3:x = 100
  ·simp [h3]
  by_cases h4:x = 161
  ·simp [h4]
  ·simp [h1,h2,h3,h4]
 simp only [↓vS,vT,shb,shv,qb,qc,cellsOf,wr,qa,simprocAttr]
 simp [vZ,← hw]
def Z0 (f_slices_Contains_api_Errno_api_Errno:Nat):IFn:=⟨[.tmp 2],.seq (.r [.m 2 (.c (.b false))]) (.seq (.r [.q 3 (.buildS 4 [.i .i64 0] [(0,1,(.k 90)),(1,1,(.k 110)),(2,1,(.k 100)),(3,1,(.k 161))]),.m 4 (.t 0),.l 5 f_slices_Contains_api_Errno_api_Errno [.t 3,.t 4],.m 2 (.t 5)]) (.ret))⟩
theorem qpd {g:Nat} (hc:qm P f (Z0 g) = true) (hg:∀ x,qg P g [.fz 4 (rI .i64 [90,110,100,161]),.i .i64 x] (.b (Z5 x))) (x:Int):qg P f [.i .i64 x] (.b (Z5 x)):=by
 refine qg.mk hc rfl ?_
 simp only [Z0,qh,H0,mkT,mkH,trL,vI,simprocAttr]
 simp only [↓vS,vT,shb,shv,qb,qc,cellsOf,wr,qa,simprocAttr]
 refine (hg x).lend (vs':=[.fz 4 (rI .i64 [90,110,100,161]),.i .i64 x]) ?_ rfl ?_
 ·refine .cons _ _ _ _ (.cut 1 rfl (Nat.le_refl _) ?_) (.cons _ _ _ _ (.i _ _) .nil)
  simp [vw,rI]
 simp only [↓vS,vT,shb,shv,qb,qc,cellsOf,wr,qa,simprocAttr]
 simp [vZ]
end Go.Kc
end
