/- Part 9 of the abstract machine and of the functions' walks. Conditions: with each theorem. -/
import Derived.Test.YtpopmjgimhmciaaK8
import Derived.Shelf.GgSortFunc.InsertionK
set_option linter.unusedSimpArgs false
set_option linter.unusedVariables false
set_option linter.unnecessarySimpa false
section
/- LowerAll: what the law answers. Condition: the functions' texts are these. -/
namespace Go.Kc
variable {P:Program} {f:Nat}
theorem qaA (s:Int):(zi s).length ≤ 8:=Nat.le_trans (List.length_filter_le _ _) (by decide)
theorem qhK {p:Pol} (hp:PolOk p) (d:Int) (s:List UInt8):(wV p d s).2.1.length ≤ 1000:=by
 have hf:=hp.f
 have h8:=qaA p.spaces
 unfold wV
 split
 ·simp
 split
 ·simp
 split
 ·simp [qv]; exact hf
 split
 ·split
  ·simp
  ·simp only [qA,List.length_append,List.length_map]; split <;> simp <;> omega
 split
 ·simp
 split
 ·simp [qv]
 ·simp [qv]
theorem qbS {p:Pol} (hp:PolOk p) {d a:Int} {x:GFil} (h:jW p d a = some x):x.rules.length ≤ 40 ∧ ∀ r ∈ x.rules,r.tests.length ≤ 1000:=by
 rw [← qdy] at h
 unfold vo at h
 split at h
 ·cases h
  refine ⟨Nat.le_trans (List.length_filterMap_le _ _) (qan a),fun r hr=>?_⟩
  obtain ⟨c,_,hc⟩:=List.mem_filterMap.1 hr
  split at hc
  ·cases hc; exact qhK hp d c.name
  ·cases hc
 ·cases h
theorem qdQ {p:Pol} {x:GFil} (h:x ∈ wJ p):∃ d a:Int,jW p d a = some x:=by
 unfold wJ at h
 obtain ⟨d,_,h2⟩:=List.mem_flatMap.1 h
 obtain ⟨a,_,h3⟩:=List.mem_filterMap.1 h2
 exact ⟨d,a,h3⟩
theorem qdP (p:Pol):(wJ p).length ≤ 48:=by
 have:=qao p 8 0
 have e:wc p 8 0 = wJ p:=by simp [wc,wJ]
 rw [e] at this; omega
def qch:Asg:=⟨[],0,[],[],[]⟩
def x5 (f_vestibulelaw17_Great f_lower_All f_vestibuleref22_All f_vestibuleref21_Same f_vestibulelaw22_awake:Nat):IFn:=⟨[.tmp 2],.seq (.r [.q 1 (.box (.t 0)),.m 2 (.c (.b false))]) (.seq (.seq (.r [.q 6 (.loadN 13 (.t 1)),.q 7 (.build [.s [],.i .i64 0,.s [],.s [],.s []] []),.l 8 f_vestibulelaw17_Great [.t 6,.t 7]]) (.cond (.t 8) (.seq (.r [.m 2 (.c (.b true))]) (.ret)) (.skip))) (.seq (.reg true [.q 9 (.loadN 13 (.t 1)),.l 10 f_lower_All [.t 9],.q 11 (.loadN 13 (.t 1)),.l 12 f_vestibuleref22_All [.t 11],.m 3 (.t 10),.m 4 (.t 12)]) (.seq (.seq (.r [.m 13 (.t 3),.q 14 (.len false (.t 13)),.m 15 (.t 4),.q 16 (.len false (.t 15)),.q 17 (.bin .neq (.t 14) (.t 16))]) (.cond (.t 17) (.seq (.r [.m 2 (.c (.b false))]) (.ret)) (.skip))) (.seq (.seq (.r [.m 5 (.k 0)]) (.blk 0 (.loop (.seq (.seq (.r [.m 18 (.t 5),.m 19 (.t 3),.q 20 (.len false (.t 19)),.q 21 (.bin .lss (.t 18) (.t 20))]) (.cond (.t 21) (.skip) (.exit 0))) (.seq (.blk 1 (.seq (.reg true [.m 24 (.t 3),.m 25 (.t 5),.q 26 (.iAddrS 3 (.t 24) (.t 25)),.q 27 (.loadN 3 (.t 26)),.m 28 (.t 4),.m 29 (.t 5),.q 30 (.iAddrS 3 (.t 28) (.t 29)),.q 31 (.loadN 3 (.t 30)),.l 32 f_vestibuleref21_Same [.t 27,.t 31],.q 33 (.un .not (.t 32))]) (.cond (.t 33) (.seq (.r [.m 2 (.c (.b false))]) (.ret)) (.skip)))) (.r [.m 22 (.t 5),.q 23 (.bin .add (.t 22) (.k 1)),.m 5 (.t 23)])))))) (.seq (.r [.l 34 f_vestibulelaw22_awake [],.m 2 (.t 34)]) (.ret))))))⟩
theorem qnD {g1 g2 g3 g4 g5:Nat} (hc:qw P f (x5 g1 g2 g3 g4 g5) = true) (h1:∀ p a,qg P g1 [.agg (qj p),.agg (qf2 a)] (.b (zS p a))) (h2:∀ p,PolOk p → PolR p → qg P g2 [.agg (qj p)] (.fz (wJ p).length (rF (wJ p))))
  (h3:∀ p,PolOk p → PolR p → qg P g3 [.agg (qj p)] (.fz (wJ p).length (rF (wJ p)))) (h4:∀ x:GFil,x.rules.length ≤ 100000 → (∀ r ∈ x.rules,r.tests.length ≤ 100000) → qg P g4 [.agg (xH x),.agg (xH x)] (.b true)) (h5:qg P g5 [] (.b true)) (p:Pol) (hR:PolR p) :
  qg P f [.agg (qj p)] (.b true):=by
 refine qg.mk hc rfl ?_
 simp only [x5,qj,qi,H0,mkT,mkH,trL,vI,simprocAttr]
 simp only [↓vS,vT,shb,shv,qb,qc,cellsOf,wr,qa,simprocAttr]
 refine (h1 p qch).sc ?_
 cases hG:zS p qch with
 | true =>
  simp only [↓vS,vT,shb,shv,qb,qc,cellsOf,wr,qa,simprocAttr]
  simp [vZ]
 | false =>
  have hp:=(qaI hG).2.2.1
  simp only [↓vS,vT,shb,shv,qb,qc,cellsOf,wr,qa,simprocAttr]
  refine xt ?_
  simp only [↓vS,vT,shb,shv,qb,qc,cellsOf,wr,qa,simprocAttr]
  refine (h2 p hp hR).pc ?_
  simp only [↓vS,vT,shb,shv,qb,qc,cellsOf,wr,qa,simprocAttr]
  refine (h3 p hp hR).pc ?_
  have hL:∀ x ∈ wJ p,x.rules.length ≤ 100000 ∧ ∀ r ∈ x.rules,r.tests.length ≤ 100000:=by
   intro x hx
   obtain ⟨d,a,h⟩:=qdQ hx
   obtain ⟨k1,k2⟩:=qbS hp h
   exact ⟨by omega,fun r hr=>by have:=k2 r hr; omega⟩
  have hlen:=qdP p
  generalize wJ p = L at hL hlen
  simp only [↓vS,vT,shb,shv,qb,qc,cellsOf,wr,qa,simprocAttr]
  refine SL.loop (α:=Nat) (fun j=>[(3,.fz L.length (rF L)),(4,.fz L.length (rF L)),(5,.i .i64 j)]) (fun _=>[]) (fun j=>j ≤ L.length) (fun j=>L.length - j) 0 [] ?_ ?_ ?_ rfl ?_ ?_
  ·simp [vw,xq]
  ·trivial
  ·simp
  ·exact Nat.zero_le _
  rintro j hj G ih
  simp only [qi,H0,mkT,mkH,trL,vI,simprocAttr]
  by_cases hlt:j < L.length
  ·have hx:L[j]? = some L[j]:=List.getElem?_eq_getElem hlt
   have he:=qej hx
   have hb:=qc1 hlt
   have hw:IntKind.wrap .i64 ((j:Int) + 1) = ((j + 1:Nat):Int):=by rw [qz (by omega) (by omega)]; omega
   obtain ⟨k1,k2⟩:=hL _ (List.getElem_mem hlt)
   generalize L[j] = c at he k1 k2
   simp only [↓vS,vT,shb,shv,qb,qc,cellsOf,wr,qa,simprocAttr,hlt]
   refine xt ?_
   simp only [↓vS,vT,shb,shv,qb,qc,cellsOf,wr,qa,simprocAttr,hlt,he,hb]
   refine (h4 c k1 k2).pc ?_
   simp only [↓vS,vT,shb,shv,qb,qc,cellsOf,wr,qa,simprocAttr,hw]
   refine ih (j + 1) hlt (by omega) _ _ (Wk.mk _ _ [] ?_ ?_ ?_ rfl)
   ·simp [vw,xq]
   ·trivial
   ·simp
  ·simp only [↓vS,vT,shb,shv,qb,qc,cellsOf,wr,qa,simprocAttr,hlt]
   refine h5.sc ?_
   simp only [↓vS,vT,shb,shv,qb,qc,cellsOf,wr,qa,simprocAttr]
   simp [vZ]
end Go.Kc
end
section
/- Actions that are known, rules and filters that may be, a call's name by its number. Condition: the functions' texts are these. -/
namespace Go.Kc
variable {P:Program} {f:Nat}
def ZI (p:List UInt8 × Int):List AV:=[.i .u32 p.2,.s p.1]
theorem qhN (p:List UInt8 × Int):(ZI p).length = 2:=rfl
def zN:List (List UInt8 × Int):=[([107,105,108,108],2147483648),([107,105,108,108,116,104,114,101,97,100],0),([116,114,97,112],196608),([101,114,114,110,111],327680),([110,111,116,105,102,121],2143289344),([116,114,97,99,101],2146435072),([108,111,103],2147221504),([97,108,108,111,119],2147418112)]
def kZ:IFn:=⟨[.cell 0 16 true],.seq (.r [.q 0 (.alloc [.i .u32 0,.s [],.i .u32 0,.s [],.i .u32 0,.s [],.i .u32 0,.s [],.i .u32 0,.s [],.i .u32 0,.s [],.i .u32 0,.s [],.i .u32 0,.s []])]) (.seq (.r [.q 1 (.build [.i .u32 0,.s []] [(0,1,(.c (.i .u32 2147483648))),(1,1,(.c (.s [107,105,108,108])))]),.q 2 (.build [.i .u32 0,.s []] [(0,1,(.c (.i .u32 0))),(1,1,(.c (.s [107,105,108,108,116,104,114,101,97,100])))]),.q 3 (.build [.i .u32 0,.s []] [(0,1,(.c (.i .u32 196608))),(1,1,(.c (.s [116,114,97,112])))]),.q 4 (.build [.i .u32 0,.s []] [(0,1,(.c (.i .u32 327680))),(1,1,(.c (.s [101,114,114,110,111])))]),.q 5 (.build [.i .u32 0,.s []] [(0,1,(.c (.i .u32 2143289344))),(1,1,(.c (.s [110,111,116,105,102,121])))]),.q 6 (.build [.i .u32 0,.s []] [(0,1,(.c (.i .u32 2146435072))),(1,1,(.c (.s [116,114,97,99,101])))]),.q 7 (.build [.i .u32 0,.s []] [(0,1,(.c (.i .u32 2147221504))),(1,1,(.c (.s [108,111,103])))]),.q 8 (.build [.i .u32 0,.s []] [(0,1,(.c (.i .u32 2147418112))),(1,1,(.c (.s [97,108,108,111,119])))]),.q 9 (.build [.i .u32 0,.s [],.i .u32 0,.s [],.i .u32 0,.s [],.i .u32 0,.s [],.i .u32 0,.s [],.i .u32 0,.s [],.i .u32 0,.s [],.i .u32 0,.s []] [(0,2,(.t 1)),(2,2,(.t 2)),(4,2,(.t 3)),(6,2,(.t 4)),(8,2,(.t 5)),(10,2,(.t 6)),(12,2,(.t 7)),(14,2,(.t 8))]),.u (.store 16 (.t 0) (.t 9))]) (.ret))⟩
theorem qok (hc:qw P f kZ = true):qg P f [] (.agg (zN.flatMap ZI)):=by
 refine qg.mk hc rfl ?_
 simp only [kZ,qi,H0,mkT,mkH,trL,vI,simprocAttr]
 simp only [↓vS,vT,shb,shv,qb,qc,cellsOf,wr,qa,simprocAttr,zN,ZI,List.flatMap_cons,List.flatMap_nil,vZ]
def yv:IFn:=⟨[.tmp 2],.seq (.r [.m 2 (.c (.i .u32 0))]) (.seq (.r [.m 3 (.t 0),.q 4 (.bin .andNot (.t 3) (.c (.i .u32 65535))),.m 2 (.t 4)]) (.ret))⟩
theorem qpp (hc:qw P f yv = true) (n:Int):qg P f [.i .u32 n] (.i .u32 (vb .u32 n 65535)):=by
 refine qg.mk hc rfl ?_
 simp only [yv,qi,H0,mkT,mkH,trL,vI,simprocAttr]
 simp only [↓vS,vT,shb,shv,qb,qc,cellsOf,wr,qa,simprocAttr,vZ]
def yw (f_action_names f_action_Only:Nat):IFn:=⟨[.tmp 2],.seq (.r [.m 2 (.c (.s []))]) (.seq (.seq (.r [.l 5 f_action_names [],.m 6 (.k 0)]) (.blk 0 (.loop (.seq (.r [.q 7 (.bin .lss (.t 6) (.k 8))]) (.seq (.cond (.t 7) (.skip) (.exit 0)) (.seq (.blk 1 (.seq (.r [.q 8 (.idxA 8 2 true (.t 5) (.t 6)),.q 4 (.alloc [.i .u32 0,.s []]),.u (.store 2 (.t 4) (.t 8))]) (.seq (.reg true [.q 9 (.fAddr 0 (.t 4)),.q 10 (.load1 (.t 9)),.m 11 (.t 0),.l 12 f_action_Only [.t 11],.q 13 (.bin .eql (.t 10) (.t 12))]) (.cond (.t 13) (.seq (.r [.q 14 (.fAddr 1 (.t 4)),.q 15 (.load1 (.t 14)),.m 2 (.t 15)]) (.ret)) (.skip))))) (.r [.q 16 (.bin .add (.t 6) (.k 1)),.m 6 (.t 16)]))))))) (.seq (.r [.m 2 (.c (.s []))]) (.ret)))⟩
theorem qpo {g1 g2:Nat} (hc:qw P f (yw g1 g2) = true) (h1:qg P g1 [] (.agg (zN.flatMap ZI))) (h2:∀ n,qg P g2 [.i .u32 n] (.i .u32 (vb .u32 n 65535))) (n:Int):qg P f [.i .u32 n] (.s (xo (vb .u32 n 65535) zN)):=by
 refine qg.mk hc rfl ?_
 simp only [yw,qi,H0,mkT,mkH,trL,vI,simprocAttr]
 simp only [↓vS,vT,shb,shv,qb,qc,cellsOf,wr,qa,simprocAttr]
 refine h1.sc ?_
 simp only [↓vS,vT,shb,shv,qb,qc,cellsOf,wr,qa,simprocAttr]
 have hlen:(zN.flatMap ZI).length = 16:=by decide
 have hTc:qK (zN.flatMap ZI) = true:=rfl
 refine SL.loop (α:=Nat) (fun j=>[(0,.i .u32 n),(5,.agg (zN.flatMap ZI)),(6,.i .i64 j)]) (fun _=>[]) (fun j=>j ≤ 8 ∧ xo (vb .u32 n 65535) zN = xo (vb .u32 n 65535) (zN.drop j)) (fun j=>8 - j) 0 [] ?_ ?_ ?_ rfl ?_ ?_
 ·simp [vw,zN,ZI]
 ·trivial
 ·simp
 ·exact ⟨Nat.zero_le _,rfl⟩
 rintro j ⟨hj,hI⟩ G ih
 simp only [qi,H0,mkT,mkH,trL,vI,simprocAttr]
 by_cases hlt:j < 8
 ·have hlt':(j:Int) < 8:=by omega
  have hjl:j < zN.length:=hlt
  have hx:zN[j]? = some zN[j]:=List.getElem?_eq_getElem hjl
  have hw:IntKind.wrap .i64 ((j:Int) + 1) = ((j + 1:Nat):Int):=by rw [qz (by omega) (by omega)]; omega
  have he:=xz (f:=ZI) (m:=2) qhN hx
  have hb:j * 2 + 2 ≤ (zN.flatMap ZI).length:=by omega
  rw [List.drop_eq_getElem_cons hjl,xo] at hI
  generalize hc0:zN[j] = c at he hI
  generalize hT:zN.flatMap ZI = T at he hb hlen hTc
  simp only [↓vS,vT,shb,shv,qb,qc,cellsOf,wr,qa,simprocAttr,hlt',hlt,he,hb,ZI]
  refine xt ?_
  simp only [↓vS,vT,shb,shv,qb,qc,cellsOf,wr,qa,simprocAttr]
  refine (h2 n).pc ?_
  by_cases hs:c.2 = vb .u32 n 65535
  ·rw [if_pos hs] at hI
   simp only [↓vS,vT,shb,shv,qb,qc,cellsOf,wr,qa,simprocAttr,hs]
   simp [vZ,hI]
  ·rw [if_neg hs] at hI
   simp only [↓vS,vT,shb,shv,qb,qc,cellsOf,wr,qa,simprocAttr,hs,hw]
   refine ih (j + 1) ⟨hlt,hI⟩ (by omega) _ _ (Wk.mk _ _ [] ?_ ?_ ?_ rfl)
   ·rw [hT]; simp [vw,qk,hTc]
   ·trivial
   ·simp
 ·have hj':j = 8:=by omega
  subst hj'
  have hlt':¬ (((8:Nat):Int) < 8):=by decide
  simp only [↓vS,vT,shb,shv,qb,qc,cellsOf,wr,qa,simprocAttr,hlt']
  rw [hI]
  simp [vZ,zN,xo]
def knA (n:Int):Bool:=decide (xo (vb .u32 n 65535) zN ≠ [])
def kY (f_action_name:Nat):IFn:=⟨[.tmp 2],.seq (.r [.m 2 (.c (.b false))]) (.seq (.r [.m 3 (.t 0),.l 4 f_action_name [.t 3],.q 5 (.bin .neq (.t 4) (.c (.s []))),.m 2 (.t 5)]) (.ret))⟩
theorem qoj {g:Nat} (hc:qw P f (kY g) = true) (hg:∀ n,qg P g [.i .u32 n] (.s (xo (vb .u32 n 65535) zN))) (n:Int):qg P f [.i .u32 n] (.b (knA n)):=by
 refine qg.mk hc rfl ?_
 simp only [kY,qi,H0,mkT,mkH,trL,vI,simprocAttr]
 simp only [↓vS,vT,shb,shv,qb,qc,cellsOf,wr,qa,simprocAttr]
 refine (hg n).sc ?_
 unfold knA
 generalize xo (vb .u32 n 65535) zN = s
 by_cases h:s = [] <;>
 ·simp only [↓vS,vT,shb,shv,qb,qc,cellsOf,wr,qa,simprocAttr,h]
  simp [vZ,h]
def wa (t:GTest):Bool:=decide (0 ≤ t.arg) && decide (t.arg < 6) && decide (vb .u64 t.val t.mask = 0) && knA t.act
def Qc (f_action_Known:Nat):IFn:=⟨[.tmp 2],.seq (.r [.q 1 (.box (.t 0)),.m 2 (.c (.b false))]) (.seq (.r [.q 3 (.fAddr 0 (.t 1)),.q 4 (.load1 (.t 3)),.q 5 (.bin .geq (.t 4) (.k 0)),.m 6 (.t 5),.g 7 (.fAddr 0 (.t 1)) 6 true,.g 8 (.load1 (.t 7)) 6 true,.g 9 (.bin .lss (.t 8) (.k 6)) 6 true,.q 10 (.pick (.t 6) (.t 9) (.c (.b false))),.m 11 (.t 10),.g 12 (.fAddr 2 (.t 1)) 11 true,.g 13 (.load1 (.t 12)) 11 true,.g 14 (.fAddr 1 (.t 1)) 11 true,.g 15 (.load1 (.t 14)) 11 true,.g 16 (.bin .andNot (.t 13) (.t 15)) 11 true,.g 17 (.bin .eql (.t 16) (.c (.i .u64 0))) 11 true,.q 18 (.pick (.t 11) (.t 17) (.c (.b false))),.m 19 (.t 18),.g 20 (.fAddr 3 (.t 1)) 19 true,.g 21 (.load1 (.t 20)) 19 true,⟨(some 22),.callF f_action_Known [.t 21],(some (19,true))⟩,.q 23 (.pick (.t 19) (.t 22) (.c (.b false))),.m 2 (.t 23)]) (.ret))⟩
theorem qpv {g:Nat} (hg:∀ n,qg P g [.i .u32 n] (.b (knA n))) (hc:qw P f (Qc g) = true) (t:GTest):qg P f [.agg (jp t)] (.b (wa t)):=by
 refine qg.mk hc rfl ?_
 simp only [Qc,jp,qi,H0,mkT,mkH,trL,vI,simprocAttr]
 by_cases k1:0 ≤ t.arg
 ·by_cases k2:t.arg < 6
  ·by_cases k3:vb .u64 t.val t.mask = 0
   ·simp only [↓vS,vT,shb,shv,qb,qc,cellsOf,wr,qa,simprocAttr,k1,k2,k3]
    refine (hg t.act).sc ?_
    simp only [↓vS,vT,shb,shv,qb,qc,cellsOf,wr,qa,simprocAttr]
    simp [vZ,wa,k1,k2,k3]
   ·simp only [↓vS,vT,shb,shv,qb,qc,cellsOf,wr,qa,simprocAttr,k1,k2,k3]
    simp [vZ,wa,k3]
  ·simp only [↓vS,vT,shb,shv,qb,qc,cellsOf,wr,qa,simprocAttr,k1,k2]
   simp [vZ,wa,k2]
 ·simp only [↓vS,vT,shb,shv,qb,qc,cellsOf,wr,qa,simprocAttr,k1]
  simp [vZ,wa,k1]
def k9 (f_ir_mayTest:Nat):IFn:=⟨[.tmp 2],.seq (.r [.q 1 (.box (.t 0)),.m 2 (.c (.b false))]) (.seq (.r [.q 3 (.loadN 4 (.t 1)),.l 4 f_ir_mayTest [.t 3],.q 5 (.un .not (.t 4)),.m 2 (.t 5)]) (.ret))⟩
theorem qnK {g:Nat} (hc:qw P f (k9 g) = true) (hg:∀ t,qg P g [.agg (jp t)] (.b (wa t))) (t:GTest):qg P f [.agg (jp t)] (.b (!wa t)):=by
 refine qg.mk hc rfl ?_
 simp only [k9,jp,qi,H0,mkT,mkH,trL,vI,simprocAttr]
 simp only [↓vS,vT,shb,shv,qb,qc,cellsOf,wr,qa,simprocAttr]
 refine (hg t).sc ?_
 simp only [↓vS,vT,shb,shv,qb,qc,cellsOf,wr,qa,simprocAttr]
 simp [vZ]
end Go.Kc
end
section
/- Rules and filters that may be; a call's name by its number. Condition: the functions' texts are these. -/
namespace Go.Kc
variable {P:Program} {f:Nat}
def zM:IFn:=⟨[.tmp 4],.seq (.r [.m 4 (.k 0)]) (.seq (.seq (.r [.m 6 (.t 0),.q 7 (.len false (.t 6)),.m 8 (.k 0)]) (.blk 0 (.loop (.seq (.r [.q 9 (.bin .lss (.t 8) (.t 7))]) (.seq (.cond (.t 9) (.skip) (.exit 0)) (.seq (.blk 1 (.seq (.r [.m 10 (.t 8),.m 5 (.t 10)]) (.seq (.r [.m 11 (.t 1),.m 12 (.t 0),.m 13 (.t 5),.q 14 (.iAddrS 4 (.t 12) (.t 13)),.q 15 (.loadN 4 (.t 14)),⟨(some 16),.callV (.t 11) [.t 15],none⟩]) (.cond (.t 16) (.seq (.r [.m 17 (.t 5),.m 4 (.t 17)]) (.ret)) (.skip))))) (.r [.q 18 (.bin .add (.t 8) (.k 1)),.m 8 (.t 18)]))))))) (.seq (.r [.q 4 (.mov (.c (.i .i64 (-1))))]) (.ret)))⟩
theorem qd5 (hc:qw P f zM = true):Q5 4 P f:=by
 intro α enc p g a c l hlen ha hc' hl hp
 refine qg.mk hc (by simp [qK,clo,ha,hc']) ?_
 simp only [zM,qi,H0,mkT,mkH,trL,vI,simprocAttr]
 simp only [↓vS,vT,shb,shv,qb,qc,cellsOf,wr,qa,simprocAttr]
 refine SL.loop (α:=Nat) (fun j=>[(0,.fz l.length (l.flatMap enc)),(1,.fn g a c),(7,.i .i64 l.length),(8,.i .i64 j)]) (fun _=>[]) (fun j=>j ≤ l.length ∧ vu p l 0 = vu p (l.drop j) j) (fun j=>l.length - j) 0 [] ?_ ?_ ?_ rfl ?_ ?_
 ·simp [vw,qk,ha,hc']
 ·trivial
 ·simp
 ·simp
 rintro j ⟨hj,hI⟩ G ih
 simp only [qi,H0,mkT,mkH,trL,vI,simprocAttr]
 by_cases hlt:j < l.length
 ·have hx:l[j]? = some l[j]:=List.getElem?_eq_getElem hlt
  have hw:IntKind.wrap .i64 ((j:Int) + 1) = (j:Int) + 1:=qz (by omega) (by have:=hl; simp only [qh] at this; omega)
  have he:=xz hlen hx
  have hb:j * 4 + 4 ≤ (l.flatMap enc).length:=by rw [xc hlen]; omega
  rw [List.drop_eq_getElem_cons hlt,vu] at hI
  simp only [↓vS,vT,shb,shv,qb,qc,cellsOf,wr,qa,simprocAttr,hlt,hb,he,hw]
  refine (hp l[j] (List.getElem_mem hlt)).sc ?_
  by_cases hpx:p l[j] = true
  ·rw [if_pos hpx] at hI
   simp only [↓vS,vT,shb,shv,qb,qc,cellsOf,wr,qa,simprocAttr,hpx,vZ,hI]
  ·rw [if_neg hpx] at hI
   simp only [↓vS,vT,shb,shv,qb,qc,cellsOf,wr,qa,simprocAttr,hpx,hw]
   refine ih (j + 1) ⟨by omega,hI⟩ (by omega) _ _ (Wk.mk _ _ [] ?_ ?_ ?_ rfl)
   ·simp [vw,qk,ha,hc']
   ·trivial
   ·simp
 ·simp only [↓vS,vT,shb,shv,qb,qc,cellsOf,wr,qa,simprocAttr,hlt]
  rw [List.drop_eq_nil_of_le (by omega)] at hI
  simp [hI,vu,vZ]
def qfL (p:GTest → Bool) (l:List GTest):AV:=match l.find? p with | some t=>.tup [.agg (jp t),.b true] | none=>.tup [.agg [.i .i64 0,.i .u64 0,.i .u64 0,.i .u32 0],.b false]
def wC (f_slices_IndexFunc_api_Test_api_Test:Nat):IFn:=⟨[.cell 4 4 true,.tmp 5],.seq (.r [.q 4 (.alloc [.i .i64 0,.i .u64 0,.i .u64 0,.i .u32 0]),.m 5 (.c (.b false))]) (.seq (.seq (.r [.m 8 (.t 0),.m 9 (.t 1),.l 10 f_slices_IndexFunc_api_Test_api_Test [.t 8,.t 9],.m 6 (.t 10)]) (.seq (.r [.m 11 (.t 6),.q 12 (.bin .geq (.t 11) (.k 0))]) (.cond (.t 12) (.seq (.r [.m 13 (.t 0),.m 14 (.t 6),.q 15 (.iAddrS 4 (.t 13) (.t 14)),.q 16 (.loadN 4 (.t 15)),.u (.store 4 (.t 4) (.t 16)),.m 5 (.c (.b true))]) (.ret)) (.skip)))) (.seq (.r [.q 7 (.alloc [.i .i64 0,.i .u64 0,.i .u64 0,.i .u32 0])]) (.seq (.r [.q 17 (.loadN 4 (.t 7)),.u (.store 4 (.t 4) (.t 17)),.m 5 (.c (.b false))]) (.ret))))⟩
theorem qlI {g:Nat} (hc:qw P f (wC g) = true) (h2:Q5 4 P g) (l:List GTest) (k:Nat) (a c:List AV) (p:GTest → Bool) (ha:qK a = true) (hcc:qK c = true) (hk:∀ t ∈ l,qg P k (a ++ ([.agg (jp t)] ++ c)) (.b (p t))) (hl:l.length ≤ 100000):qg P f [.fz l.length (rT l),.fn k a c] (qfL p l):=by
 refine qg.mk hc (by simp [qK,clo,qZ,ha,hcc]) ?_
 simp only [wC,qi,H0,mkT,mkH,trL,vI,simprocAttr]
 simp only [↓vS,vT,shb,shv,qb,qc,cellsOf,wr,qa,simprocAttr]
 refine (h2 jp p k a c l Q7 ha hcc (by simp only [qh]; omega) hk).sc ?_
 rcases Zd p l 0 with ⟨e1,e2⟩ | ⟨i,x,e1,e2,e3,e4,e5⟩
 ·rw [e1]
  simp only [↓vS,vT,shb,shv,qb,qc,cellsOf,wr,qa,simprocAttr]
  simp [vZ,qfL,e2]
 ·have hi:i < l.length:=(List.getElem?_eq_some_iff.1 e2).1
  have hn:(0:Int) ≤ (i:Int):=by omega
  have he:=qb0 e2
  have hb:=qaX hi
  rw [e1,Nat.zero_add]
  simp only [↓vS,vT,shb,shv,qb,qc,cellsOf,wr,qa,simprocAttr,hn,hi,he,hb,jp]
  simp [vZ,qfL,e4,jp]
noncomputable def ZE (r:GRule):Bool:=decide (r.tests.length ≤ 32) && r.tests.all wa && knA r.act
theorem qgx {α:Type} (p:α → Bool) (l:List α):(l.find? fun t=>!p t).isSome = !l.all p:=by
 induction l with
 | nil=>rfl
 | cons x l ih =>
  rw [List.find?_cons,List.all_cons]
  cases h:p x
  ·simp [h]
  ·simp [h,ih]
def Qb (f_ir_first_api_Test f_ir_mayRule_1 f_action_Known:Nat):IFn:=⟨[.tmp 2],.seq (.r [.q 1 (.box (.t 0)),.m 2 (.c (.b false))]) (.seq (.r [.q 6 (.fAddr 1 (.t 1)),.q 7 (.load1 (.t 6)),.l 8 f_ir_first_api_Test [.t 7,(.c (.fn f_ir_mayRule_1 [] []))],.m 5 (.t 8),.q 9 (.ext (.t 5) 0),.q 10 (.ext (.t 5) 1),.q 3 (.alloc [.i .i64 0,.i .u64 0,.i .u64 0,.i .u32 0]),.u (.store 4 (.t 3) (.t 9)),.m 4 (.t 10)]) (.seq (.r [.q 11 (.fAddr 1 (.t 1)),.q 12 (.load1 (.t 11)),.q 13 (.len false (.t 12)),.q 14 (.bin .leq (.t 13) (.k 32)),.m 15 (.t 14),.g 16 (.mov (.t 4)) 15 true,.g 17 (.un .not (.t 16)) 15 true,.q 18 (.pick (.t 15) (.t 17) (.c (.b false))),.m 19 (.t 18),.g 20 (.fAddr 2 (.t 1)) 19 true,.g 21 (.load1 (.t 20)) 19 true,⟨(some 22),.callF f_action_Known [.t 21],(some (19,true))⟩,.q 23 (.pick (.t 19) (.t 22) (.c (.b false))),.m 2 (.t 23)]) (.ret)))⟩
theorem qpu {g1 g2 g3:Nat} (hc:qw P f (Qb g1 g2 g3) = true) (h1:∀ (l:List GTest) (k:Nat) (a c:List AV) (p:GTest → Bool),qK a = true → qK c = true → (∀ t ∈ l,qg P k (a ++ ([.agg (jp t)] ++ c)) (.b (p t))) → l.length ≤ 100000 → qg P g1 [.fz l.length (rT l),.fn k a c] (qfL p l))
  (h2:∀ t,qg P g2 [.agg (jp t)] (.b (!wa t))) (h3:∀ n,qg P g3 [.i .u32 n] (.b (knA n))) (r:GRule) (hl:r.tests.length ≤ 100000):qg P f [.agg (xn r)] (.b (ZE r)):=by
 refine qg.mk hc rfl ?_
 simp only [Qb,xn,qi,H0,mkT,mkH,trL,vI,simprocAttr]
 simp only [↓vS,vT,shb,shv,qb,qc,cellsOf,wr,qa,simprocAttr]
 refine (h1 r.tests g2 [] [] (fun t=>!wa t) rfl rfl (fun t _=>h2 t) hl).sc ?_
 have hf:=qgx wa r.tests
 have fin:∀ odd:Bool,odd = !r.tests.all wa → (decide (r.tests.length ≤ 32) && !odd && knA r.act) = ZE r:=by
  rintro odd rfl; simp [ZE]
 unfold qfL
 cases hq:r.tests.find? (fun t=>!wa t) with
 | none =>
  rw [hq] at hf
  have fin:=fin false hf
  by_cases k1:r.tests.length ≤ 32
  ·have k1':((r.tests.length:Int) ≤ 32) = True:=eq_true (by omega)
   simp only [↓vS,vT,shb,shv,qb,qc,cellsOf,wr,qa,simprocAttr,k1']
   refine (h3 r.act).sc ?_
   simp only [↓vS,vT,shb,shv,qb,qc,cellsOf,wr,qa,simprocAttr]
   simp [vZ,← fin,k1]
  ·have k1':((r.tests.length:Int) ≤ 32) = False:=eq_false (by omega)
   simp only [↓vS,vT,shb,shv,qb,qc,cellsOf,wr,qa,simprocAttr,k1']
   simp [vZ,← fin,k1]
 | some t =>
  rw [hq] at hf
  have fin:=fin true hf
  by_cases k1:r.tests.length ≤ 32
  ·have k1':((r.tests.length:Int) ≤ 32) = True:=eq_true (by omega)
   simp only [jp,↓vS,vT,shb,shv,qb,qc,cellsOf,wr,qa,simprocAttr,k1']
   simp [vZ,← fin]
  ·have k1':((r.tests.length:Int) ≤ 32) = False:=eq_false (by omega)
   simp only [jp,↓vS,vT,shb,shv,qb,qc,cellsOf,wr,qa,simprocAttr,k1']
   simp [vZ,← fin]
def ZC (a n:Int):List UInt8:=match qH.find? (fun x=>decide (wF x a = some n)) with | some x=>x.1 | none=>[]
def k7 (f_calls_call_number:Nat):IFn:=⟨[.tmp 4],.seq (.r [.q 3 (.box (.t 0)),.m 4 (.c (.b false))]) (.seq (.r [.q 8 (.loadN 7 (.t 3)),.q 9 (.load1 (.t 1)),.l 10 f_calls_call_number [.t 8,.t 9],.m 7 (.t 10),.q 11 (.ext (.t 7) 0),.q 12 (.ext (.t 7) 1),.m 5 (.t 11),.m 6 (.t 12)]) (.seq (.r [.m 13 (.t 6),.m 14 (.t 13),.g 15 (.mov (.t 5)) 14 true,.g 16 (.load1 (.t 2)) 14 true,.g 17 (.bin .eql (.t 15) (.t 16)) 14 true,.q 18 (.pick (.t 14) (.t 17) (.c (.b false))),.m 4 (.t 18)]) (.ret)))⟩
theorem qpr {g:Nat} (hc:qw P f (k7 g) = true) (hg:∀ x a,qg P g [.agg (xP x),.i .i64 a] (match wF x a with | some n=>.tup [.i .u32 n,.b true] | none=>.tup [.i .u32 0,.b false])) (a n:Int) (x:List UInt8 × List Int):qg P f [.agg (xP x),.pf [.i .i64 a] 0,.pf [.i .u32 n] 0] (.b (decide (wF x a = some n))):=by
 refine qg.mk hc (by simp [qK,clo,xP]) ?_
 simp only [k7,xP,qi,H0,mkT,mkH,trL,vI,simprocAttr]
 simp only [↓vS,vT,shb,shv,qb,qc,cellsOf,wr,qa,simprocAttr]
 refine (hg x a).sc ?_
 cases hq:wF x a with
 | none =>
  simp only [↓vS,vT,shb,shv,qb,qc,cellsOf,wr,qa,simprocAttr]
  simp [vZ]
 | some m =>
  by_cases k:m = n <;>
  ·simp only [↓vS,vT,shb,shv,qb,qc,cellsOf,wr,qa,simprocAttr,k]
   simp [vZ,k]
def y9 (f_calls_Name_1 f_calls_find:Nat):IFn:=⟨[.tmp 4],.seq (.r [.q 2 (.box (.t 0)),.q 3 (.box (.t 1)),.m 4 (.c (.s []))]) (.seq (.r [.q 8 (.mkF f_calls_Name_1 [] [.t 2,.t 3]),.l 9 f_calls_find [.t 8],.m 7 (.t 9),.q 10 (.ext (.t 7) 0),.q 11 (.ext (.t 7) 1),.q 5 (.alloc [.s [],.i .i64 0,.i .i64 0,.i .i64 0,.i .i64 0,.i .i64 0,.i .i64 0]),.u (.store 7 (.t 5) (.t 10)),.m 6 (.t 11)]) (.seq (.r [.q 12 (.fAddr 0 (.t 5)),.q 13 (.load1 (.t 12)),.m 4 (.t 13)]) (.ret)))⟩
theorem qp6 {g1 g2:Nat} (hc:qw P f (y9 g1 g2) = true) (h1:∀ a n x,qg P g1 [.agg (xP x),.pf [.i .i64 a] 0,.pf [.i .u32 n] 0] (.b (decide (wF x a = some n))))
  (h2:∀ (p:List UInt8 × List Int → Bool) (g:Nat) (a c:List AV),qK a = true → qK c = true → (∀ x ∈ qH,qg P g (a ++ ([.agg (xP x)] ++ c)) (.b (p x))) → qg P g2 [.fn g a c] (ZJ p)) (a n:Int):qg P f [.i .i64 a,.i .u32 n] (.s (ZC a n)):=by
 refine qg.mk hc rfl ?_
 simp only [y9,qi,H0,mkT,mkH,trL,vI,simprocAttr]
 simp only [↓vS,vT,shb,shv,qb,qc,cellsOf,wr,qa,simprocAttr]
 refine (h2 (fun x=>decide (wF x a = some n)) g1 [] [.pf [.i .i64 a] 0,.pf [.i .u32 n] 0] rfl rfl (fun x _=>h1 a n x)).lend (vs':=[.fn g1 [] [.pf [.i .i64 a] 0,.pf [.i .u32 n] 0]]) ?_ ?_ ?_
 ·simp [vZ,vP,Tr.get_set]
 ·unfold ZJ; split <;> rfl
 unfold ZJ ZC
 cases hf:qH.find? (fun x=>decide (wF x a = some n)) with
 | none =>
  simp only [↓vS,vT,shb,shv,qb,qc,cellsOf,wr,qa,simprocAttr]
  simp [vZ]
 | some x =>
  simp only [xP,↓vS,vT,shb,shv,qb,qc,cellsOf,wr,qa,simprocAttr]
  simp [vZ]
end Go.Kc
end
section
/- Filters that may be; LowerMay: what the law answers. Condition: the functions' texts are these. -/
namespace Go.Kc
variable {P:Program} {f:Nat}
noncomputable def upR:Option GRule → List GRule → Bool
 | _,[]=>true
 | o,r :: l=>ZE r && (o.elim true fun b=>decide (b.nr < r.nr)) && upR (some r) l
noncomputable def Qn (x:GFil):Bool:=decide (0 ≤ x.arch) && decide (x.arch < 6) && decide (x.rules.length ≤ 400) && knA x.dflt && upR none x.rules
def qbk (f_action_Known f_ir_mayRule:Nat):IFn:=⟨[.tmp 2],.seq (.r [.q 1 (.box (.t 0)),.m 2 (.c (.b false))]) (.seq (.seq (.r [.q 5 (.fAddr 0 (.t 1)),.q 6 (.load1 (.t 5)),.q 7 (.bin .lss (.t 6) (.k 0)),.m 8 (.t 7),.g 9 (.fAddr 0 (.t 1)) 8 false,.g 10 (.load1 (.t 9)) 8 false,.g 11 (.bin .geq (.t 10) (.k 6)) 8 false,.q 12 (.pick (.t 8) (.c (.b true)) (.t 11)),.m 13 (.t 12),.g 14 (.fAddr 1 (.t 1)) 13 false,.g 15 (.load1 (.t 14)) 13 false,.g 16 (.len false (.t 15)) 13 false,.g 17 (.bin .gtr (.t 16) (.k 400)) 13 false,.q 18 (.pick (.t 13) (.c (.b true)) (.t 17)),.m 19 (.t 18),.g 20 (.fAddr 2 (.t 1)) 19 false,.g 21 (.load1 (.t 20)) 19 false,⟨(some 22),.callF f_action_Known [.t 21],(some (19,false))⟩,.g 23 (.un .not (.t 22)) 19 false,.q 24 (.pick (.t 19) (.c (.b true)) (.t 23))]) (.cond (.t 24) (.seq (.r [.m 2 (.c (.b false))]) (.ret)) (.skip))) (.seq (.seq (.r [.q 25 (.fAddr 1 (.t 1)),.q 26 (.load1 (.t 25)),.q 27 (.len false (.t 26)),.m 28 (.k 0)]) (.blk 0 (.loop (.seq (.r [.q 29 (.bin .lss (.t 28) (.t 27))]) (.seq (.cond (.t 29) (.skip) (.exit 0)) (.seq (.blk 1 (.seq (.r [.m 30 (.t 28),.q 31 (.iAddrS 3 (.t 26) (.t 28)),.q 32 (.loadN 3 (.t 31)),.q 4 (.alloc [.i .u32 0,.nils,.i .u32 0]),.m 3 (.t 30),.u (.store 3 (.t 4) (.t 32))]) (.seq (.reg true [.q 33 (.loadN 3 (.t 4)),.l 34 f_ir_mayRule [.t 33],.q 35 (.un .not (.t 34)),.m 36 (.t 35),.g 37 (.mov (.t 3)) 36 false,.g 38 (.bin .gtr (.t 37) (.k 0)) 36 false,.g 39 (.mov (.t 38)) 36 false,.g 40 (.fAddr 0 (.t 4)) 39 true,.g 41 (.load1 (.t 40)) 39 true,.g 42 (.fAddr 1 (.t 1)) 39 true,.g 43 (.load1 (.t 42)) 39 true,.g 44 (.mov (.t 3)) 39 true,.g 45 (.bin .sub (.t 44) (.k 1)) 39 true,.g 46 (.iAddrS 3 (.t 43) (.t 45)) 39 true,.g 47 (.fAddr 0 (.t 46)) 39 true,.g 48 (.load1 (.t 47)) 39 true,.g 49 (.bin .leq (.t 41) (.t 48)) 39 true,.g 50 (.pick (.t 39) (.t 49) (.c (.b false))) 36 false,.q 51 (.pick (.t 36) (.c (.b true)) (.t 50))]) (.cond (.t 51) (.seq (.r [.m 2 (.c (.b false))]) (.ret)) (.skip))))) (.r [.q 52 (.bin .add (.t 28) (.k 1)),.m 28 (.t 52)]))))))) (.seq (.r [.m 2 (.c (.b true))]) (.ret))))⟩
theorem qp7 {g1 g2:Nat} (hc:qw P f (qbk g1 g2) = true) (h1:∀ n,qg P g1 [.i .u32 n] (.b (knA n))) (h2:∀ r:GRule,r.tests.length ≤ 100000 → qg P g2 [.agg (xn r)] (.b (ZE r))) (x:GFil) (hl:x.rules.length ≤ 100000) (ht:∀ r ∈ x.rules,r.tests.length ≤ 100000):qg P f [.agg (xH x)] (.b (Qn x)):=by
 refine qg.mk hc rfl ?_
 simp only [qbk,xH,qi,H0,mkT,mkH,trL,vI,simprocAttr]
 by_cases k1:x.arch < 0
 ·have hw:Qn x = false:=by simp only [Qn,decide_eq_false (by omega:¬ 0 ≤ x.arch)]; simp
  simp only [↓vS,vT,shb,shv,qb,qc,cellsOf,wr,qa,simprocAttr,k1]
  simp [vZ,hw]
 by_cases k2:6 ≤ x.arch
 ·have hw:Qn x = false:=by simp only [Qn,decide_eq_false (by omega:¬ x.arch < 6)]; simp
  simp only [↓vS,vT,shb,shv,qb,qc,cellsOf,wr,qa,simprocAttr,k1,k2]
  simp [vZ,hw]
 by_cases k3:(400:Int) < x.rules.length
 ·have hw:Qn x = false:=by simp only [Qn,decide_eq_false (by omega:¬ x.rules.length ≤ 400)]; simp
  simp only [↓vS,vT,shb,shv,qb,qc,cellsOf,wr,qa,simprocAttr,k1,k2,k3]
  simp [vZ,hw]
 simp only [↓vS,vT,shb,shv,qb,qc,cellsOf,wr,qa,simprocAttr,k1,k2,k3]
 refine (h1 x.dflt).sc ?_
 cases k4:knA x.dflt with
 | false =>
  have hw:Qn x = false:=by simp [Qn,k4]
  simp only [↓vS,vT,shb,shv,qb,qc,cellsOf,wr,qa,simprocAttr]
  simp [vZ,hw]
 | true =>
  have hw:Qn x = upR none x.rules:=by
   unfold Qn; rw [k4,decide_eq_true (by omega:0 ≤ x.arch),decide_eq_true (by omega:x.arch < 6),decide_eq_true (by omega:x.rules.length ≤ 400)]; rfl
  rw [hw]
  simp only [↓vS,vT,shb,shv,qb,qc,cellsOf,wr,qa,simprocAttr]
  refine SL.loop (α:=Nat) (fun j=>[(1,.ptr 0 0),(26,.fz x.rules.length (rR x.rules)),(27,.i .i64 x.rules.length),(28,.i .i64 j)]) (fun _=>[.cells 0 true false (xH x)])
   (fun j=>j ≤ x.rules.length ∧ upR none x.rules = upR (if j = 0 then none else x.rules[j - 1]?) (x.rules.drop j)) (fun j=>x.rules.length - j) 0 [0] ?_ ?_ ?_ rfl ?_ ?_
  ·simp [vw,qo]
  ·simp [vw,xH,qo]
  ·simp
  ·exact ⟨Nat.zero_le _,rfl⟩
  rintro j ⟨hj,hI⟩ G ih
  simp only [qi,H0,mkT,mkH,trL,vI,simprocAttr,xH]
  by_cases hlt:j < x.rules.length
  ·have hx:x.rules[j]? = some x.rules[j]:=List.getElem?_eq_getElem hlt
   have he:=qbX hx
   have hb:=qaW hlt
   have hw:IntKind.wrap .i64 ((j:Int) + 1) = ((j + 1:Nat):Int):=by rw [qz (by omega) (by omega)]; omega
   have htl:=ht _ (List.getElem_mem hlt)
   rw [List.drop_eq_getElem_cons hlt,upR] at hI
   generalize hc0:x.rules[j] = r at hI he hx htl
   simp only [↓vS,vT,shb,shv,qb,qc,cellsOf,wr,qa,simprocAttr,hlt,hb,he,xn]
   refine xt ?_
   simp only [↓vS,vT,shb,shv,qb,qc,cellsOf,wr,qa,simprocAttr]
   refine (h2 r htl).pc ?_
   cases hk:ZE r with
   | false =>
    have hwf:upR none x.rules = false:=by rw [hI]; simp [hk]
    simp only [↓vS,vT,shb,shv,qb,qc,cellsOf,wr,qa,simprocAttr]
    simp [vZ,hwf]
   | true =>
    by_cases h0:j = 0
    ·subst h0
     have hn:¬ (0:Int) < ((0:Nat):Int):=by decide
     simp only [↓vS,vT,shb,shv,qb,qc,cellsOf,wr,qa,simprocAttr,hn,hw]
     refine ih 1 ⟨by omega,?_⟩ (by omega) _ _ (Wk.mk _ _ [0] ?_ ?_ ?_ rfl)
     ·rw [hI,hk]; simp [hx]
     ·simp [vw,qo]
      exact qz (by decide) (by decide)
     ·simp [vw,xH,qo]
     ·simp
    ·have hp:(0:Int) < (j:Int):=by omega
     have hpl:j - 1 < x.rules.length:=by omega
     have hy:x.rules[j - 1]? = some x.rules[j - 1]:=List.getElem?_eq_getElem hpl
     have hw2:IntKind.wrap .i64 ((j:Int) - 1) = ((j - 1:Nat):Int):=by rw [qz (by omega) (by omega)]; omega
     have g0:(rR x.rules)[(j - 1) * 3]? = some (.i .u32 x.rules[j - 1].nr):=qbY hy (i:=0) (by decide)
     rw [if_neg h0,hy] at hI
     by_cases hlt2:r.nr ≤ x.rules[j - 1].nr
     ·have hwf:upR none x.rules = false:=by rw [hI]; simp [Int.not_lt.2 hlt2]
      simp only [↓vS,vT,shb,shv,qb,qc,cellsOf,wr,qa,simprocAttr,hp,hw2,hpl,g0,hlt2]
      simp [vZ,hwf]
     ·simp only [↓vS,vT,shb,shv,qb,qc,cellsOf,wr,qa,simprocAttr,hp,hw2,hpl,g0,hlt2,hw]
      refine ih (j + 1) ⟨by omega,?_⟩ (by omega) _ _ (Wk.mk _ _ [0] ?_ ?_ ?_ rfl)
      ·rw [hI,hk]; simp [hx]; omega
      ·simp [vw,qo]
      ·simp [vw,xH,qo]
      ·simp
  ·rw [List.drop_of_length_le (by omega),upR] at hI
   simp only [↓vS,vT,shb,shv,qb,qc,cellsOf,wr,qa,simprocAttr,hlt]
   simp [vZ,hI]
end Go.Kc
end
section
/- The plain law of LowerMay: lower's filters may be, their numbers have names. No condition. -/
namespace Go.Kc
theorem qgf {n:Int} (h1:327680 ≤ n) (h2:n ≤ 331775):vb .u32 n 65535 = 327680:=by
 obtain ⟨m,rfl⟩:=Int.eq_ofNat_of_zero_le (by omega:0 ≤ n)
 have a1:(BitVec.ofInt 32 (m:Int)).toNat = m:=by rw [BitVec.toNat_ofInt]; omega
 have a2:(~~~ (BitVec.ofInt 32 65535)).toNat = (2 ^ 16 - 1) <<< 16:=by decide
 have h5:m >>> 16 = 5:=by rw [Nat.shiftRight_eq_div_pow]; omega
 have e:m &&& ((2 ^ 16 - 1) <<< 16) = 5 <<< 16:=by
  apply Nat.eq_of_testBit_eq; intro i
  rw [Nat.testBit_and,Nat.testBit_shiftLeft,Nat.testBit_shiftLeft,Nat.testBit_two_pow_sub_one]
  by_cases hi:16 ≤ i
  ·have hb:m.testBit i = (5:Nat).testBit (i - 16):=by
    rw [← h5,Nat.testBit_shiftRight]; congr 1; omega
   rw [hb]
   by_cases hj:i - 16 < 16
   ·simp [hi,hj]
   ·have:(5:Nat).testBit (i - 16) = false:=Nat.testBit_lt_two_pow (Nat.lt_of_lt_of_le (by decide:5 < 2 ^ 16) (Nat.pow_le_pow_right (by decide) (by omega)))
    simp [this]
  ·simp [hi]
 show IntKind.wrap .u32 ((BitVec.ofInt 32 (m:Int) &&& ~~~ (BitVec.ofInt 32 65535)).toNat:Int) = 327680
 rw [BitVec.toNat_and,a1,a2,e]; decide
theorem qaL {n:Int} (h:jz n = true):knA n = true:=by
 unfold jz at h
 simp only [Bool.or_eq_true,Bool.and_eq_true,decide_eq_true_eq] at h
 rcases h with rfl | ⟨h1,h2⟩
 ·decide
 ·unfold knA; rw [qgf h1 h2]; decide
theorem qct {v:Int} (h0:0 ≤ v) (h1:v < 18446744073709551616):vb .u64 v v = 0:=by
 show IntKind.wrap .u64 ((BitVec.ofInt 64 v &&& ~~~ (BitVec.ofInt 64 v)).toNat:Int) = 0
 rw [BitVec.and_not_self]; decide
theorem qiI {v:Int} (h0:0 ≤ v) (h1:v ≤ 4294967295):vb .u64 v 4294967295 = 0:=by
 have:=qcc (s:=v) (m:=4294967295) h0 (by omega)
 have e:w8 .u64 v 4294967295 = v:=by
  obtain ⟨m,rfl⟩:=Int.eq_ofNat_of_zero_le h0
  have a1:(BitVec.ofInt 64 (m:Int)).toNat = m:=by rw [BitVec.toNat_ofInt]; omega
  have a2:(BitVec.ofInt 64 4294967295).toNat = 2 ^ 32 - 1:=by decide
  show IntKind.wrap .u64 ((BitVec.ofInt 64 (m:Int) &&& BitVec.ofInt 64 4294967295).toNat:Int) = _
  rw [BitVec.toNat_and,a1,a2,Nat.and_two_pow_sub_one_eq_mod,Nat.mod_eq_of_lt (by omega)]
  exact wY (by omega) (by omega)
 rw [e] at this
 simpa using this.symm
theorem qgz {s x:Int} (h:x ∈ zi s):0 ≤ x ∧ x < 18446744073709551616:=by
 have h1:=(List.mem_filter.1 h).1
 have all:∀ y ∈ qp.map (·.2),0 ≤ y ∧ y < 18446744073709551616:=by decide
 exact all x h1
theorem Zr {p:Pol} (h:xA p = true):jz p.deny = true:=by
 unfold xA at h; simp only [Bool.and_eq_true] at h; exact h.1.1.1.1.2
theorem qex {p:Pol} (h:xA p = true) (s:List UInt8):knA (qdh p s) = true:=by
 have hd:=Zr h
 unfold qdh
 split
 ·split
  ·decide
  ·exact qaL hd
 ·rename_i hne
  unfold qcw at hne ⊢
  cases hf:xy p.filter.calls s with
  | none=>rw [hf] at hne; exact absurd rfl hne
  | some c =>
   rw [hf] at hne
   have hm:=List.mem_of_find?_eq_some hf
   have hok:=((qcZ p.filter).1 (kP h).1).2.1 c hm
   apply qaL
   unfold okC yk at hok
   unfold jz
   simp only [Bool.and_eq_true,Bool.or_eq_true,decide_eq_true_eq] at hok ⊢
   have hne':c.act ≠ 0:=hne
   omega
theorem qj2 {p:Pol} (h:xA p = true) (hR:PolR p) (d:Int) (s:List UInt8):(∀ t ∈ (wV p d s).2.1,wa t = true) ∧ knA (wV p d s).2.2 = true:=by
 unfold wV
 split
 ·exact ⟨by simp,qex h s⟩
 split
 ·refine ⟨by simp,?_⟩
  dsimp only; split <;> decide
 split
 ·refine ⟨fun t ht=>?_,?_⟩
  ·obtain ⟨v,hv,rfl⟩:=List.mem_map.1 ht
   obtain ⟨a,b⟩:=hR.fams v hv
   have e:knA (if p.fmode = 2 then 327777 else 2147418112) = true:=by split <;> decide
   simp only [wa,qiI a b,e]; simp
  ·dsimp only; split <;> decide
 split
 ·split
  ·exact ⟨by simp,(by decide:knA 327718 = true)⟩
  ·refine ⟨fun t ht=>?_,(by decide:knA 2147418112 = true)⟩
   rcases List.mem_append.1 ht with ht | ht
   ·obtain ⟨v,hv,rfl⟩:=List.mem_map.1 ht
    obtain ⟨a,b⟩:=qgz hv
    have k:knA 327681 = true:=by decide
    simp only [wa,qct a b,k]
    split <;> simp
   ·split at ht
    ·simp at ht; subst ht; decide
    ·simp at ht
 split
 ·refine ⟨fun t ht=>?_,(by decide:knA 2147418112 = true)⟩
  simp at ht; subst ht
  have hw:0 ≤ xl s ∧ xl s < 18446744073709551616:=by
   unfold xl; repeat' split
   all_goals decide
  have k:knA 327681 = true:=by decide
  simp only [wa,qct hw.1 hw.2,k]; simp
 split
 ·exact ⟨(by decide:∀ t ∈ qv 0 4294967295 2147418112 [0,4294967295],wa t = true),(by decide:knA 327681 = true)⟩
 ·exact ⟨(by decide:∀ t ∈ qv 1 4294967295 2147418112 [0,3,5],wa t = true),(by decide:knA 327681 = true)⟩
theorem qa5:∀ {l:List GRule} {o:Option GRule},(∀ r ∈ l,ZE r = true) → l.Pairwise (fun x y=>x.nr < y.nr) → (∀ b,o = some b → ∀ r ∈ l,b.nr < r.nr) → upR o l = true
 | [],_,_,_,_=>rfl
 | r :: l,o,h1,h2,h3=>by
  obtain ⟨k1,k2⟩:=List.pairwise_cons.1 h2
  unfold upR
  rw [h1 r (by simp),qa5 (fun x hx=>h1 x (List.mem_cons_of_mem _ hx)) k2 (fun b hb x hx=>by cases hb; exact k1 x hx)]
  cases o with
  | none=>rfl
  | some b=>simp [h3 b rfl r (by simp)]
theorem qjr {p:Pol} (hp:PolOk p) (hR:PolR p) (hf20:p.fams.length ≤ 20) {d a:Int} {x:GFil} (h:jW p d a = some x):xA p = true ∧ Qn x = true ∧ inA p.arches x.arch = true ∧ ∀ r ∈ x.rules,ZC x.arch r.nr ≠ []:=by
 rw [← qdy] at h
 unfold vo at h
 split at h
 ·rename_i hc
  cases h
  simp only [Bool.and_eq_true,decide_eq_true_eq] at hc
  obtain ⟨⟨⟨⟨h0,h6⟩,hm⟩,hin⟩,hact⟩:=hc
  have hru:∀ r ∈ ruR p d (v6 a),∃ c ∈ v6 a,r = ⟨c.act,(wV p d c.name).2.1,(wV p d c.name).2.2⟩:=by
   intro r hr
   obtain ⟨c,hc,h⟩:=List.mem_filterMap.1 hr
   split at h
   ·cases h; exact ⟨c,hc,rfl⟩
   ·cases h
  refine ⟨hm,?_,hin,fun r hr=>?_⟩
  ·have hlen:(ruR p d (v6 a)).length ≤ 400:=Nat.le_trans (List.length_filterMap_le _ _) (by have:=qan a; omega)
   have hdf:knA (dfR p d) = true:=by
    unfold dfR; split
    ·exact qaL (Zr hm)
    ·split <;> decide
   have hup:upR none (ruR p d (v6 a)) = true:=by
    refine qa5 (fun r hr=>?_) ?_ (fun b hb=>by cases hb)
    ·obtain ⟨c,_,rfl⟩:=hru r hr
     obtain ⟨t1,t2⟩:=qj2 hm hR d c.name
     have tl:(wV p d c.name).2.1.length ≤ 32:=by
      have h8:=qaA p.spaces
      unfold wV
      split
      ·simp
      split
      ·simp
      split
      ·simp [qv]; omega
      split
      ·split
       ·simp
       ·simp only [qA,List.length_append,List.length_map]; split <;> simp <;> omega
      split
      ·simp
      split
      ·simp [qv]
      ·simp [qv]
     simp only [ZE,t2,decide_eq_true tl,Bool.true_and,Bool.and_true]
     exact List.all_eq_true.2 t1
    ·unfold ruR
     refine List.Pairwise.filterMap _ ?_ (ym h0 h6)
     intro c c' hlt x hx y hy
     split at hx
     ·split at hy
      ·cases hx; cases hy; exact hlt
      ·cases hy
     ·cases hx
   simp only [Qn,hdf,hup,decide_eq_true h0,decide_eq_true h6,decide_eq_true hlen]; rfl
  ·obtain ⟨c,hc,rfl⟩:=hru r hr
   obtain ⟨y,hy,hn,he⟩:=qbd.1 hc
   show ZC a c.act ≠ []
   unfold ZC
   cases hf:qH.find? (fun x=>decide (wF x a = some c.act)) with
   | none=>have:=List.find?_eq_none.1 hf y hy; simp [hn] at this
   | some z =>
    have all:∀ x ∈ qH,x.1 ≠ []:=by decide +kernel
    exact all z (List.mem_of_find?_eq_some hf)
 ·cases h
end Go.Kc
end
section
/- LowerMay: what the law answers. Condition: the functions' texts are these. -/
namespace Go.Kc
variable {P:Program} {f:Nat}
theorem Qp {p:Pol} {a:Asg} (h:zS p a = false):PolOk p ∧ p.fams.length ≤ 20:=⟨(qaI h).2.2.1,(qaI h).2.1⟩
def x6 (f_vestibulelaw17_Great f_vestibulelaw22_awake f_lower_All f_policy_May f_ir_May f_arch_In f_calls_Name:Nat):IFn:=⟨[.tmp 2],.seq (.r [.q 1 (.box (.t 0)),.m 2 (.c (.b false))]) (.seq (.seq (.r [.q 6 (.loadN 13 (.t 1)),.q 7 (.build [.s [],.i .i64 0,.s [],.s [],.s []] []),.l 8 f_vestibulelaw17_Great [.t 6,.t 7]]) (.cond (.t 8) (.seq (.r [.l 9 f_vestibulelaw22_awake [],.m 2 (.t 9)]) (.ret)) (.skip))) (.seq (.r [.q 10 (.loadN 13 (.t 1)),.l 11 f_lower_All [.t 10],.m 3 (.t 11)]) (.seq (.seq (.r [.m 12 (.t 3),.q 13 (.len false (.t 12)),.q 14 (.bin .gtr (.t 13) (.k 0)),.m 15 (.t 14),.g 16 (.loadN 13 (.t 1)) 15 true,⟨(some 17),.callF f_policy_May [.t 16],(some (15,true))⟩,.g 18 (.un .not (.t 17)) 15 true,.q 19 (.pick (.t 15) (.t 18) (.c (.b false)))]) (.cond (.t 19) (.seq (.r [.m 2 (.c (.b false))]) (.ret)) (.skip))) (.seq (.seq (.r [.m 4 (.k 0)]) (.blk 0 (.loop (.seq (.seq (.r [.m 20 (.t 4),.m 21 (.t 3),.q 22 (.len false (.t 21)),.q 23 (.bin .lss (.t 20) (.t 22))]) (.cond (.t 23) (.skip) (.exit 0))) (.seq (.blk 1 (.seq (.seq (.reg true [.m 26 (.t 3),.m 27 (.t 4),.q 28 (.iAddrS 3 (.t 26) (.t 27)),.q 29 (.loadN 3 (.t 28)),.l 30 f_ir_May [.t 29],.q 31 (.un .not (.t 30)),.m 32 (.t 31),.g 33 (.fAddr 0 (.t 1)) 32 false,.g 34 (.load1 (.t 33)) 32 false,.g 35 (.mov (.t 3)) 32 false,.g 36 (.mov (.t 4)) 32 false,.g 37 (.iAddrS 3 (.t 35) (.t 36)) 32 false,.g 38 (.fAddr 0 (.t 37)) 32 false,.g 39 (.load1 (.t 38)) 32 false,⟨(some 40),.callF f_arch_In [.t 34,.t 39],(some (32,false))⟩,.g 41 (.un .not (.t 40)) 32 false,.q 42 (.pick (.t 32) (.c (.b true)) (.t 41))]) (.cond (.t 42) (.seq (.r [.m 2 (.c (.b false))]) (.ret)) (.skip))) (.seq (.r [.m 5 (.k 0)]) (.blk 2 (.loop (.seq (.seq (.r [.m 43 (.t 5),.m 44 (.t 3),.m 45 (.t 4),.q 46 (.iAddrS 3 (.t 44) (.t 45)),.q 47 (.fAddr 1 (.t 46)),.q 48 (.load1 (.t 47)),.q 49 (.len false (.t 48)),.q 50 (.bin .lss (.t 43) (.t 49))]) (.cond (.t 50) (.skip) (.exit 2))) (.seq (.blk 3 (.seq (.reg true [.m 53 (.t 3),.m 54 (.t 4),.q 55 (.iAddrS 3 (.t 53) (.t 54)),.q 56 (.fAddr 0 (.t 55)),.q 57 (.load1 (.t 56)),.m 58 (.t 3),.m 59 (.t 4),.q 60 (.iAddrS 3 (.t 58) (.t 59)),.q 61 (.fAddr 1 (.t 60)),.q 62 (.load1 (.t 61)),.m 63 (.t 5),.q 64 (.iAddrS 3 (.t 62) (.t 63)),.q 65 (.fAddr 0 (.t 64)),.q 66 (.load1 (.t 65)),.l 67 f_calls_Name [.t 57,.t 66],.q 68 (.bin .eql (.t 67) (.c (.s [])))]) (.cond (.t 68) (.seq (.r [.m 2 (.c (.b false))]) (.ret)) (.skip)))) (.r [.m 51 (.t 5),.q 52 (.bin .add (.t 51) (.k 1)),.m 5 (.t 52)])))))))) (.r [.m 24 (.t 4),.q 25 (.bin .add (.t 24) (.k 1)),.m 4 (.t 25)])))))) (.seq (.r [.l 69 f_vestibulelaw22_awake [],.m 2 (.t 69)]) (.ret))))))⟩
theorem qnH {g1 g2 g3 g4 g5 g6 g7:Nat} (hc:qw P f (x6 g1 g2 g3 g4 g5 g6 g7) = true) (h1:∀ p a,qg P g1 [.agg (qj p),.agg (qf2 a)] (.b (zS p a))) (h2:qg P g2 [] (.b true))
  (h3:∀ p,PolOk p → PolR p → qg P g3 [.agg (qj p)] (.fz (wJ p).length (rF (wJ p)))) (h4:∀ p,PolOk p → qg P g4 [.agg (qj p)] (.b (xA p)))
  (h5:∀ x:GFil,x.rules.length ≤ 100000 → (∀ r ∈ x.rules,r.tests.length ≤ 100000) → qg P g5 [.agg (xH x)] (.b (Qn x)))
  (h6:∀ (xs:List Int) (x:Int),xs.length ≤ qh → qg P g6 [.fz xs.length (rI .i64 xs),.i .i64 x] (.b (inA xs x))) (h7:∀ a n,qg P g7 [.i .i64 a,.i .u32 n] (.s (ZC a n))) (p:Pol) (hR:PolR p) :
  qg P f [.agg (qj p)] (.b true):=by
 refine qg.mk hc rfl ?_
 simp only [x6,qj,qi,H0,mkT,mkH,trL,vI,simprocAttr]
 simp only [↓vS,vT,shb,shv,qb,qc,cellsOf,wr,qa,simprocAttr]
 refine (h1 p qch).sc ?_
 cases hG:zS p qch with
 | true =>
  simp only [↓vS,vT,shb,shv,qb,qc,cellsOf,wr,qa,simprocAttr]
  refine h2.sc ?_
  simp only [↓vS,vT,shb,shv,qb,qc,cellsOf,wr,qa,simprocAttr]
  simp [vZ]
 | false =>
  obtain ⟨hp,hf20⟩:=Qp hG
  have ha:=hp.a
  simp only [↓vS,vT,shb,shv,qb,qc,cellsOf,wr,qa,simprocAttr]
  refine (h3 p hp hR).sc ?_
  have hL:∀ x ∈ wJ p,(x.rules.length ≤ 100000 ∧ ∀ r ∈ x.rules,r.tests.length ≤ 100000) ∧ xA p = true ∧ Qn x = true ∧ inA p.arches x.arch = true ∧ ∀ r ∈ x.rules,ZC x.arch r.nr ≠ []:=by
   intro x hx
   obtain ⟨d,a,h⟩:=qdQ hx
   obtain ⟨k1,k2⟩:=qbS hp h
   exact ⟨⟨by omega,fun r hr=>by have:=k2 r hr; omega⟩,qjr hp hR hf20 h⟩
  have hlen:=qdP p
  generalize wJ p = L at hL hlen
  have go:∀ {t':Tr AV} {h':Hp},Wk 0 t' h' (mkT [(1,.ptr 0 0),(3,.fz L.length (rF L))]) (mkH 0 [.cells 0 true false (qj p)]) → True:=fun _=>trivial
  by_cases hz:(0:Int) < L.length
  ·have hm:xA p = true:=by
    have hpos:0 < L.length:=by omega
    exact (hL L[0] (List.getElem_mem hpos)).2.1
   simp only [↓vS,vT,shb,shv,qb,qc,cellsOf,wr,qa,simprocAttr,hz]
   refine (h4 p hp).sc ?_
   rw [hm]
   simp only [↓vS,vT,shb,shv,qb,qc,cellsOf,wr,qa,simprocAttr]
   refine SL.loop (α:=Nat) (fun j=>[(1,.ptr 0 0),(3,.fz L.length (rF L)),(4,.i .i64 j)]) (fun _=>[.cells 0 true false (qj p)]) (fun j=>j ≤ L.length) (fun j=>L.length - j) 0 [0] ?_ ?_ ?_ rfl ?_ ?_
   ·simp [vw,xq]
   ·simp [vw,qj,qd,qf]
   ·simp
   ·exact Nat.zero_le _
   rintro j hj G ih
   simp only [qi,H0,mkT,mkH,trL,vI,simprocAttr,qj]
   by_cases hlt:j < L.length
   ·have hx:L[j]? = some L[j]:=List.getElem?_eq_getElem hlt
    have he:=qej hx
    have hb:=qc1 hlt
    have g0:(rF L)[j * 3]? = some (.i .i64 L[j].arch):=qhH hx (i:=0) (by decide)
    have g1:(rF L)[j * 3 + 1]? = some (.fz L[j].rules.length (rR L[j].rules)):=qhH hx (i:=1) (by decide)
    have hw:IntKind.wrap .i64 ((j:Int) + 1) = ((j + 1:Nat):Int):=by rw [qz (by omega) (by omega)]; omega
    obtain ⟨⟨k1,k2⟩,_,k4,k5,k6⟩:=hL _ (List.getElem_mem hlt)
    generalize L[j] = c at he g0 g1 k1 k2 k4 k5 k6
    simp only [↓vS,vT,shb,shv,qb,qc,cellsOf,wr,qa,simprocAttr,hlt]
    refine xt ?_
    simp only [↓vS,vT,shb,shv,qb,qc,cellsOf,wr,qa,simprocAttr,hlt,he,hb]
    refine (h5 c k1 k2).pc ?_
    rw [k4]
    simp only [↓vS,vT,shb,shv,qb,qc,cellsOf,wr,qa,simprocAttr,hlt,g0]
    refine (h6 p.arches c.arch (by simp only [qh]; omega)).pc ?_
    rw [k5]
    simp only [↓vS,vT,shb,shv,qb,qc,cellsOf,wr,qa,simprocAttr]
    refine SL.loop (α:=Nat) (fun i=>[(1,.ptr 0 0),(3,.fz L.length (rF L)),(4,.i .i64 j),(5,.i .i64 i)]) (fun _=>[.cells 0 true false (qj p)]) (fun i=>i ≤ c.rules.length) (fun i=>c.rules.length - i) 0 [0] ?_ ?_ ?_ rfl ?_ ?_
    ·simp [vw,xq]
    ·simp [vw,qj,qd,qf]
    ·simp
    ·exact Nat.zero_le _
    rintro i hi G2 ih2
    simp only [qi,H0,mkT,mkH,trL,vI,simprocAttr,qj]
    by_cases hli:i < c.rules.length
    ·have hy:c.rules[i]? = some c.rules[i]:=List.getElem?_eq_getElem hli
     have gr:(rR c.rules)[i * 3]? = some (.i .u32 c.rules[i].nr):=qbY hy (i:=0) (by decide)
     have hwi:IntKind.wrap .i64 ((i:Int) + 1) = ((i + 1:Nat):Int):=by rw [qz (by omega) (by omega)]; omega
     have hnm:=k6 _ (List.getElem_mem hli)
     generalize c.rules[i] = r at gr hnm
     have hnm':(ZC c.arch r.nr = []) = False:=eq_false hnm
     simp only [↓vS,vT,shb,shv,qb,qc,cellsOf,wr,qa,simprocAttr,hlt,g1,hli]
     refine xt ?_
     simp only [↓vS,vT,shb,shv,qb,qc,cellsOf,wr,qa,simprocAttr,hlt,g0,g1,hli,gr]
     refine (h7 c.arch r.nr).pc ?_
     simp only [↓vS,vT,shb,shv,qb,qc,cellsOf,wr,qa,simprocAttr,hnm',hwi]
     refine ih2 (i + 1) hli (by omega) _ _ (Wk.mk _ _ [0] ?_ ?_ ?_ rfl)
     ·simp [vw,xq]
     ·simp [vw,qj,qd,qf]
     ·simp
    ·simp only [↓vS,vT,shb,shv,qb,qc,cellsOf,wr,qa,simprocAttr,hlt,g1,hli,hw]
     refine ih (j + 1) hlt (by omega) _ _ (Wk.mk _ _ [0] ?_ ?_ ?_ rfl)
     ·simp [vw,xq]
     ·simp [vw,qj,qd,qf]
     ·simp
   ·simp only [↓vS,vT,shb,shv,qb,qc,cellsOf,wr,qa,simprocAttr,hlt]
    refine h2.sc ?_
    simp only [↓vS,vT,shb,shv,qb,qc,cellsOf,wr,qa,simprocAttr]
    simp [vZ]
  ·have hz0:L = []:=List.eq_nil_of_length_eq_zero (by omega)
   subst hz0
   simp (decide:=true) only [↓vS,vT,shb,shv,qb,qc,cellsOf,wr,qa,simprocAttr,hz]
   refine wt ?_
   simp (decide:=true) only [↓vS,vT,shb,shv,qb,qc,cellsOf,wr,qa,simprocAttr]
   refine h2.sc ?_
   simp only [↓vS,vT,shb,shv,qb,qc,cellsOf,wr,qa,simprocAttr]
   simp [vZ]
end Go.Kc
end
section
/- Filters that are the same as themselves. Condition: the functions' texts are these. -/
namespace Go.Kc
variable {P:Program} {f:Nat}
def z2:IFn:=⟨[.tmp 4],.seq (.r [.m 4 (.c (.b false))]) (.seq (.seq (.r [.m 6 (.t 0),.q 7 (.len false (.t 6)),.m 8 (.t 1),.q 9 (.len false (.t 8)),.q 10 (.bin .neq (.t 7) (.t 9))]) (.cond (.t 10) (.seq (.r [.m 4 (.c (.b false))]) (.ret)) (.skip))) (.seq (.seq (.r [.m 11 (.t 0),.q 12 (.len false (.t 11)),.m 13 (.k 0)]) (.blk 0 (.loop (.seq (.r [.q 14 (.bin .lss (.t 13) (.t 12))]) (.seq (.cond (.t 14) (.skip) (.exit 0)) (.seq (.blk 1 (.seq (.r [.m 15 (.t 13),.m 5 (.t 15)]) (.seq (.reg true [.m 16 (.t 0),.m 17 (.t 5),.q 18 (.iAddrS 4 (.t 16) (.t 17)),.q 19 (.loadN 4 (.t 18)),.m 20 (.t 1),.m 21 (.t 5),.q 22 (.iAddrS 4 (.t 20) (.t 21)),.q 23 (.loadN 4 (.t 22)),.q 24 (.eqA true [.i,.i,.i,.i] (.t 19) (.t 23))]) (.cond (.t 24) (.seq (.r [.m 4 (.c (.b false))]) (.ret)) (.skip))))) (.r [.q 25 (.bin .add (.t 13) (.k 1)),.m 13 (.t 25)]))))))) (.seq (.r [.m 4 (.c (.b true))]) (.ret))))⟩
theorem qpI (hc:qw P f z2 = true) (l:List GTest) (hl:l.length ≤ 100000):qg P f [.fz l.length (rT l),.fz l.length (rT l)] (.b true):=by
 refine qg.mk hc (by simp [qK,clo,qZ]) ?_
 simp only [z2,qi,H0,mkT,mkH,trL,vI,simprocAttr]
 simp only [↓vS,vT,shb,shv,qb,qc,cellsOf,wr,qa,simprocAttr]
 refine SL.loop (α:=Nat) (fun j=>[(0,.fz l.length (rT l)),(1,.fz l.length (rT l)),(12,.i .i64 l.length),(13,.i .i64 j)]) (fun _=>[]) (fun j=>j ≤ l.length) (fun j=>l.length - j) 0 [] ?_ ?_ ?_ rfl ?_ ?_
 ·simp [vw,qZ]
 ·trivial
 ·simp
 ·exact Nat.zero_le _
 rintro j hj G ih
 simp only [qi,H0,mkT,mkH,trL,vI,simprocAttr]
 by_cases hlt:j < l.length
 ·have hx:l[j]? = some l[j]:=List.getElem?_eq_getElem hlt
  have he:=qb0 hx
  have hb:=qaX hlt
  have hw:IntKind.wrap .i64 ((j:Int) + 1) = ((j + 1:Nat):Int):=by rw [qz (by omega) (by omega)]; omega
  generalize l[j] = c at he
  simp only [↓vS,vT,shb,shv,qb,qc,cellsOf,wr,qa,simprocAttr,hlt]
  refine xt ?_
  simp only [↓vS,vT,shb,shv,qb,qc,cellsOf,wr,qa,simprocAttr,hlt,he,hb,jp,hw]
  refine ih (j + 1) hlt (by omega) _ _ (Wk.mk _ _ [] ?_ ?_ ?_ rfl)
  ·simp [vw,qZ]
  ·trivial
  ·simp
 ·simp only [↓vS,vT,shb,shv,qb,qc,cellsOf,wr,qa,simprocAttr,hlt]
  simp [vZ]
def yA (f_slices_Equal_api_Test_api_Test:Nat):IFn:=⟨[.tmp 4],.seq (.r [.q 2 (.box (.t 0)),.q 3 (.box (.t 1)),.m 4 (.c (.b false))]) (.seq (.r [.q 5 (.fAddr 0 (.t 2)),.q 6 (.load1 (.t 5)),.q 7 (.fAddr 0 (.t 3)),.q 8 (.load1 (.t 7)),.q 9 (.bin .eql (.t 6) (.t 8)),.m 10 (.t 9),.g 11 (.fAddr 2 (.t 2)) 10 true,.g 12 (.load1 (.t 11)) 10 true,.g 13 (.fAddr 2 (.t 3)) 10 true,.g 14 (.load1 (.t 13)) 10 true,.g 15 (.bin .eql (.t 12) (.t 14)) 10 true,.q 16 (.pick (.t 10) (.t 15) (.c (.b false))),.m 17 (.t 16),.g 18 (.fAddr 1 (.t 2)) 17 true,.g 19 (.load1 (.t 18)) 17 true,.g 20 (.fAddr 1 (.t 3)) 17 true,.g 21 (.load1 (.t 20)) 17 true,⟨(some 22),.callF f_slices_Equal_api_Test_api_Test [.t 19,.t 21],(some (17,true))⟩,.q 23 (.pick (.t 17) (.t 22) (.c (.b false))),.m 4 (.t 23)]) (.ret))⟩
theorem qp0 {g:Nat} (hc:qw P f (yA g) = true) (hg:∀ l:List GTest,l.length ≤ 100000 → qg P g [.fz l.length (rT l),.fz l.length (rT l)] (.b true)) (r:GRule) (hl:r.tests.length ≤ 100000):qg P f [.agg (xn r),.agg (xn r)] (.b true):=by
 refine qg.mk hc rfl ?_
 simp only [yA,xn,qi,H0,mkT,mkH,trL,vI,simprocAttr]
 simp only [↓vS,vT,shb,shv,qb,qc,cellsOf,wr,qa,simprocAttr]
 refine (hg r.tests hl).sc ?_
 simp only [↓vS,vT,shb,shv,qb,qc,cellsOf,wr,qa,simprocAttr]
 simp [vZ]
def qX:IFn:=⟨[.tmp 6],.seq (.r [.m 6 (.c (.b false))]) (.seq (.seq (.r [.m 10 (.t 0),.q 11 (.len false (.t 10)),.m 12 (.t 1),.q 13 (.len false (.t 12)),.q 14 (.bin .neq (.t 11) (.t 13))]) (.cond (.t 14) (.seq (.r [.m 6 (.c (.b false))]) (.ret)) (.skip))) (.seq (.seq (.r [.m 15 (.t 0),.q 16 (.len false (.t 15)),.m 17 (.k 0)]) (.blk 0 (.loop (.seq (.r [.q 18 (.bin .lss (.t 17) (.t 16))]) (.seq (.cond (.t 18) (.skip) (.exit 0)) (.seq (.blk 1 (.seq (.r [.m 19 (.t 17),.q 20 (.iAddrS 3 (.t 15) (.t 17)),.q 21 (.loadN 3 (.t 20)),.q 8 (.alloc [.i .u32 0,.nils,.i .u32 0]),.m 7 (.t 19),.u (.store 3 (.t 8) (.t 21))]) (.seq (.r [.m 22 (.t 1),.m 23 (.t 7),.q 24 (.iAddrS 3 (.t 22) (.t 23)),.q 25 (.loadN 3 (.t 24)),.q 9 (.alloc [.i .u32 0,.nils,.i .u32 0]),.u (.store 3 (.t 9) (.t 25))]) (.seq (.r [.m 26 (.t 2),.q 27 (.loadN 3 (.t 8)),.q 28 (.loadN 3 (.t 9)),⟨(some 29),.callV (.t 26) [.t 27,.t 28],none⟩,.q 30 (.un .not (.t 29))]) (.cond (.t 30) (.seq (.r [.m 6 (.c (.b false))]) (.ret)) (.skip)))))) (.r [.q 31 (.bin .add (.t 17) (.k 1)),.m 17 (.t 31)]))))))) (.seq (.r [.m 6 (.c (.b true))]) (.ret))))⟩
theorem qps (hc:qw P f qX = true) (k:Nat) (hk:∀ r:GRule,r.tests.length ≤ 100000 → qg P k [.agg (xn r),.agg (xn r)] (.b true)) (l:List GRule) (hl:l.length ≤ 100000) (ht:∀ r ∈ l,r.tests.length ≤ 100000):qg P f [.fz l.length (rR l),.fz l.length (rR l),.fn k [] []] (.b true):=by
 refine qg.mk hc (by simp [qK,clo,qo]) ?_
 simp only [qX,qi,H0,mkT,mkH,trL,vI,simprocAttr]
 simp only [↓vS,vT,shb,shv,qb,qc,cellsOf,wr,qa,simprocAttr]
 refine SL.loop (α:=Nat) (fun j=>[(1,.fz l.length (rR l)),(2,.fn k [] []),(15,.fz l.length (rR l)),(16,.i .i64 l.length),(17,.i .i64 j)]) (fun _=>[]) (fun j=>j ≤ l.length) (fun j=>l.length - j) 0 [] ?_ ?_ ?_ rfl ?_ ?_
 ·simp [vw,qo]
 ·trivial
 ·simp
 ·exact Nat.zero_le _
 rintro j hj G ih
 simp only [qi,H0,mkT,mkH,trL,vI,simprocAttr]
 by_cases hlt:j < l.length
 ·have hx:l[j]? = some l[j]:=List.getElem?_eq_getElem hlt
  have he:=qbX hx
  have hb:=qaW hlt
  have hw:IntKind.wrap .i64 ((j:Int) + 1) = ((j + 1:Nat):Int):=by rw [qz (by omega) (by omega)]; omega
  have htl:=ht _ (List.getElem_mem hlt)
  generalize l[j] = c at he htl
  simp only [↓vS,vT,shb,shv,qb,qc,cellsOf,wr,qa,simprocAttr,hlt,he,hb,xn]
  refine (hk c htl).sc ?_
  simp only [↓vS,vT,shb,shv,qb,qc,cellsOf,wr,qa,simprocAttr,hw]
  refine ih (j + 1) hlt (by omega) _ _ (Wk.mk _ _ [] ?_ ?_ ?_ rfl)
  ·simp [vw,qo]
  ·trivial
  ·simp
 ·simp only [↓vS,vT,shb,shv,qb,qc,cellsOf,wr,qa,simprocAttr,hlt]
  simp [vZ]
def qaK (f_slices_EqualFunc_api_Rule_api_Rule_api_Rule_api_Rule f_ir_sameRule:Nat):IFn:=⟨[.tmp 4],.seq (.r [.q 2 (.box (.t 0)),.q 3 (.box (.t 1)),.m 4 (.c (.b false))]) (.seq (.r [.q 5 (.fAddr 0 (.t 2)),.q 6 (.load1 (.t 5)),.q 7 (.fAddr 0 (.t 3)),.q 8 (.load1 (.t 7)),.q 9 (.bin .eql (.t 6) (.t 8)),.m 10 (.t 9),.g 11 (.fAddr 2 (.t 2)) 10 true,.g 12 (.load1 (.t 11)) 10 true,.g 13 (.fAddr 2 (.t 3)) 10 true,.g 14 (.load1 (.t 13)) 10 true,.g 15 (.bin .eql (.t 12) (.t 14)) 10 true,.q 16 (.pick (.t 10) (.t 15) (.c (.b false))),.m 17 (.t 16),.g 18 (.fAddr 1 (.t 2)) 17 true,.g 19 (.load1 (.t 18)) 17 true,.g 20 (.fAddr 1 (.t 3)) 17 true,.g 21 (.load1 (.t 20)) 17 true,⟨(some 22),.callF f_slices_EqualFunc_api_Rule_api_Rule_api_Rule_api_Rule [.t 19,.t 21,(.c (.fn f_ir_sameRule [] []))],(some (17,true))⟩,.q 23 (.pick (.t 17) (.t 22) (.c (.b false))),.m 4 (.t 23)]) (.ret))⟩
theorem qpO {g1 g2:Nat} (hc:qw P f (qaK g1 g2) = true) (h1:∀ l:List GRule,l.length ≤ 100000 → (∀ r ∈ l,r.tests.length ≤ 100000) → qg P g1 [.fz l.length (rR l),.fz l.length (rR l),.fn g2 [] []] (.b true)) (x:GFil) (hl:x.rules.length ≤ 100000) (ht:∀ r ∈ x.rules,r.tests.length ≤ 100000):qg P f [.agg (xH x),.agg (xH x)] (.b true):=by
 refine qg.mk hc rfl ?_
 simp only [qaK,xH,qi,H0,mkT,mkH,trL,vI,simprocAttr]
 simp only [↓vS,vT,shb,shv,qb,qc,cellsOf,wr,qa,simprocAttr]
 refine (h1 x.rules hl ht).sc ?_
 simp only [↓vS,vT,shb,shv,qb,qc,cellsOf,wr,qa,simprocAttr]
 simp [vZ]
end Go.Kc
end
section
/- LowerAlone: what the law answers (first its end). Condition: the functions' texts are these. -/
namespace Go.Kc
variable {P:Program} {f:Nat}
def vm (d:Int) (p q:Pol):Pol :=
 if d = 1 then ⟨p.arches,p.filter,p.deny,q.log,q.fams,q.fmode,q.spaces,q.we,q.pe,q.rt,q.np⟩
 else if d = 2 then ⟨p.arches,q.filter,q.deny,p.log,q.fams,q.fmode,q.spaces,q.we,q.pe,q.rt,q.np⟩
 else if d = 3 then ⟨p.arches,q.filter,q.deny,q.log,p.fams,p.fmode,q.spaces,q.we,q.pe,q.rt,q.np⟩
 else if d = 4 then ⟨p.arches,q.filter,q.deny,q.log,q.fams,q.fmode,p.spaces,q.we,q.pe,q.rt,q.np⟩
 else if d = 5 then ⟨p.arches,q.filter,q.deny,q.log,q.fams,q.fmode,q.spaces,p.we,q.pe,q.rt,q.np⟩
 else if d = 6 then ⟨p.arches,q.filter,q.deny,q.log,q.fams,q.fmode,q.spaces,q.we,p.pe,q.rt,q.np⟩
 else ⟨p.arches,q.filter,q.deny,q.log,q.fams,q.fmode,q.spaces,q.we,q.pe,p.rt,q.np⟩
theorem qhA {d:Int} {p q:Pol} (hp:xA p = true) (hq:xA q = true):xA (vm d p q) = true:=by
 unfold xA jX wn at *
 simp only [Bool.and_eq_true] at hp hq
 obtain ⟨⟨⟨⟨⟨a1,a2⟩,a3⟩,a4⟩,a5⟩,⟨a6,a7⟩,a8⟩:=hp
 obtain ⟨⟨⟨⟨⟨b1,b2⟩,b3⟩,b4⟩,b5⟩,⟨b6,b7⟩,b8⟩:=hq
 simp only [Bool.and_eq_true]
 unfold vm
 repeat' split
 ·exact ⟨⟨⟨⟨⟨b1,a2⟩,b3⟩,a4⟩,b5⟩,⟨a6,b7⟩,b8⟩
 ·exact ⟨⟨⟨⟨⟨a1,b2⟩,b3⟩,a4⟩,b5⟩,⟨b6,a7⟩,b8⟩
 ·exact ⟨⟨⟨⟨⟨b1,b2⟩,a3⟩,a4⟩,a5⟩,⟨b6,b7⟩,b8⟩
 ·exact ⟨⟨⟨⟨⟨b1,b2⟩,b3⟩,a4⟩,b5⟩,⟨b6,b7⟩,a8⟩
 ·exact ⟨⟨⟨⟨⟨b1,b2⟩,b3⟩,a4⟩,b5⟩,⟨b6,b7⟩,b8⟩
 ·exact ⟨⟨⟨⟨⟨b1,b2⟩,b3⟩,a4⟩,b5⟩,⟨b6,b7⟩,b8⟩
 ·exact ⟨⟨⟨⟨⟨b1,b2⟩,b3⟩,a4⟩,b5⟩,⟨b6,b7⟩,b8⟩
theorem qhz {d a:Int} {p q:Pol} (h1:1 ≤ d) (h7:d ≤ 7) (hp:xA p = true) (hq:xA q = true):jW (vm d p q) d a = jW p d a:=by
 have hm:=qhA (d:=d) hp hq
 have ha:(vm d p q).arches = p.arches:=by
  unfold vm
  repeat' split
  all_goals rfl
 have e:wm (vm d p q) d a = wm p d a:=by unfold wm; rw [hm,hp,ha]
 unfold jW
 rw [e]
 have hd:d = 1 ∨ d = 2 ∨ d = 3 ∨ d = 4 ∨ d = 5 ∨ d = 6 ∨ d = 7:=by omega
 rcases hd with rfl | rfl | rfl | rfl | rfl | rfl | rfl <;> rfl
theorem qjX {d:Int} {p q:Pol} (hp:PolOk p) (hq:PolOk q):PolOk (vm d p q):=by
 obtain ⟨a1,a2,a3,a4⟩:=hp
 obtain ⟨b1,b2,b3,b4⟩:=hq
 unfold vm
 repeat' split
 all_goals exact ⟨by assumption,by assumption,by assumption,by assumption⟩
theorem qhB {d:Int} {p q:Pol} (hp:PolR p) (hq:PolR q):PolR (vm d p q):=by
 obtain ⟨a1,a2,a3,a4,a5⟩:=hp
 obtain ⟨b1,b2,b3,b4,b5⟩:=hq
 unfold vm
 repeat' split
 all_goals exact ⟨by assumption,by assumption,by assumption,by assumption,by assumption⟩
def zw (f_vestibulelaw17_Great f_policy_May f_vestibulelaw22_awake f_lower_Lower f_ir_Same:Nat):ICode:=.seq (.r [.q 81 (.loadN 13 (.t 4)),.m 82 (.t 2),.m 83 (.t 3),.l 84 f_lower_Lower [.t 81,.t 82,.t 83],.m 80 (.t 84),.q 85 (.ext (.t 80) 0),.q 86 (.ext (.t 80) 1),.q 9 (.alloc [.i .i64 0,.nils,.i .u32 0]),.u (.store 3 (.t 9) (.t 85)),.m 10 (.t 86)]) (.seq (.r [.q 88 (.loadN 13 (.t 5)),.m 89 (.t 2),.m 90 (.t 3),.l 91 f_lower_Lower [.t 88,.t 89,.t 90],.m 87 (.t 91),.q 92 (.ext (.t 87) 0),.q 93 (.ext (.t 87) 1),.q 11 (.alloc [.i .i64 0,.nils,.i .u32 0]),.u (.store 3 (.t 11) (.t 92)),.m 12 (.t 93)]) (.seq (.r [.m 94 (.t 10),.m 95 (.t 12),.q 96 (.eqB false (.t 94) (.t 95)),.m 97 (.t 96),.g 98 (.loadN 3 (.t 9)) 97 true,.g 99 (.loadN 3 (.t 11)) 97 true,⟨(some 100),.callF f_ir_Same [.t 98,.t 99],(some (97,true))⟩,.q 101 (.pick (.t 97) (.t 100) (.c (.b false))),.m 102 (.t 101),⟨(some 103),.callF f_vestibulelaw22_awake [],(some (102,true))⟩,.q 104 (.pick (.t 102) (.t 103) (.c (.b false))),.m 8 (.t 104)]) (.ret)))
def zu (f_vestibulelaw17_Great f_policy_May f_vestibulelaw22_awake f_lower_Lower f_ir_Same:Nat):ICode:=.seq (.seq (.r [.m 40 (.t 2)]) (.blk 0 (.seq (.r [.q 45 (.bin .eql (.t 40) (.k 1)),.m 44 (.t 45)]) (.cond (.t 44) (.seq (.r [.q 46 (.fAddr 1 (.t 4)),.q 47 (.loadN 2 (.t 46)),.q 48 (.fAddr 1 (.t 5)),.u (.store 2 (.t 48) (.t 47))]) (.r [.q 49 (.fAddr 3 (.t 4)),.q 50 (.load1 (.t 49)),.q 51 (.fAddr 3 (.t 5)),.u (.store 1 (.t 51) (.t 50))])) (.seq (.r [.q 53 (.bin .eql (.t 40) (.k 2)),.m 52 (.t 53)]) (.cond (.t 52) (.r [.q 54 (.fAddr 4 (.t 4)),.q 55 (.loadN 2 (.t 54)),.q 56 (.fAddr 4 (.t 5)),.u (.store 2 (.t 56) (.t 55))]) (.seq (.r [.q 58 (.bin .eql (.t 40) (.k 3)),.m 57 (.t 58)]) (.cond (.t 57) (.seq (.r [.q 59 (.fAddr 6 (.t 4)),.q 60 (.load1 (.t 59)),.q 61 (.fAddr 6 (.t 5)),.u (.store 1 (.t 61) (.t 60))]) (.r [.q 62 (.fAddr 7 (.t 4)),.q 63 (.load1 (.t 62)),.q 64 (.fAddr 7 (.t 5)),.u (.store 1 (.t 64) (.t 63))])) (.seq (.r [.q 66 (.bin .eql (.t 40) (.k 4)),.m 65 (.t 66)]) (.cond (.t 65) (.r [.q 67 (.fAddr 8 (.t 4)),.q 68 (.load1 (.t 67)),.q 69 (.fAddr 8 (.t 5)),.u (.store 1 (.t 69) (.t 68))]) (.seq (.r [.q 71 (.bin .eql (.t 40) (.k 5)),.m 70 (.t 71)]) (.cond (.t 70) (.r [.q 72 (.fAddr 9 (.t 4)),.q 73 (.load1 (.t 72)),.q 74 (.fAddr 9 (.t 5)),.u (.store 1 (.t 74) (.t 73))]) (.seq (.r [.q 76 (.bin .eql (.t 40) (.k 6)),.m 75 (.t 76)]) (.cond (.t 75) (.r [.q 77 (.fAddr 10 (.t 4)),.q 78 (.load1 (.t 77)),.q 79 (.fAddr 10 (.t 5)),.u (.store 1 (.t 79) (.t 78))]) (.r [.q 41 (.fAddr 11 (.t 4)),.q 42 (.load1 (.t 41)),.q 43 (.fAddr 11 (.t 5)),.u (.store 1 (.t 43) (.t 42))]))))))))))))))) (.cut (zw f_vestibulelaw17_Great f_policy_May f_vestibulelaw22_awake f_lower_Lower f_ir_Same))
def xM (f_vestibulelaw17_Great f_policy_May f_vestibulelaw22_awake f_lower_Lower f_ir_Same:Nat):IFn:=⟨[.tmp 8],.seq (.r [.q 4 (.box (.t 0)),.q 5 (.box (.t 1)),.m 8 (.c (.b false))]) (.seq (.seq (.r [.q 13 (.loadN 13 (.t 4)),.q 14 (.build [.s [],.i .i64 0,.s [],.s [],.s []] []),.l 15 f_vestibulelaw17_Great [.t 13,.t 14],.m 16 (.t 15),.g 17 (.loadN 13 (.t 5)) 16 false,.g 18 (.build [.s [],.i .i64 0,.s [],.s [],.s []] []) 16 false,⟨(some 19),.callF f_vestibulelaw17_Great [.t 17,.t 18],(some (16,false))⟩,.q 20 (.pick (.t 16) (.c (.b true)) (.t 19)),.m 21 (.t 20),.g 22 (.loadN 13 (.t 4)) 21 false,⟨(some 23),.callF f_policy_May [.t 22],(some (21,false))⟩,.g 24 (.un .not (.t 23)) 21 false,.q 25 (.pick (.t 21) (.c (.b true)) (.t 24)),.m 26 (.t 25),.g 27 (.loadN 13 (.t 5)) 26 false,⟨(some 28),.callF f_policy_May [.t 27],(some (26,false))⟩,.g 29 (.un .not (.t 28)) 26 false,.q 30 (.pick (.t 26) (.c (.b true)) (.t 29))]) (.cond (.t 30) (.seq (.r [.l 31 f_vestibulelaw22_awake [],.m 8 (.t 31)]) (.ret)) (.skip))) (.seq (.r [.m 32 (.t 2),.q 33 (.cvInt .u64 (.t 32)),.q 34 (.bin .rem (.t 33) (.c (.i .u64 7))),.q 35 (.cvInt .i64 (.t 34)),.q 36 (.bin .add (.k 1) (.t 35)),.m 2 (.t 36)]) (.seq (.r [.q 37 (.fAddr 0 (.t 4)),.q 38 (.load1 (.t 37)),.q 39 (.fAddr 0 (.t 5)),.u (.store 1 (.t 39) (.t 38))]) (.cut (zu f_vestibulelaw17_Great f_policy_May f_vestibulelaw22_awake f_lower_Lower f_ir_Same)))))⟩
section
variable {g1 g2 g3 g4 g5:Nat}
theorem qfJ (h3:qg P g3 [] (.b true)) (h4:qeF P g4) (h5:∀ x:GFil,x.rules.length ≤ 100000 → (∀ r ∈ x.rules,r.tests.length ≤ 100000) → qg P g5 [.agg (xH x),.agg (xH x)] (.b true)) (p q:Pol) (hp:PolOk p) (hq:PolOk q) (hR:PolR p) (hRq:PolR q) (d a:Int) (heq:jW q d a = jW p d a) {t':Tr AV} {h':Hp} (hw:Wk 0 t' h' (mkT [(2,.i .i64 d),(3,.i .i64 a),(4,.ptr 0 0),(5,.ptr 1 0)]) (mkH 0 [.cells 0 true false (qj p),.cells 0 true false (qj q)])) :
  S P 0 (zw g1 g2 g3 g4 g5) (je [.tmp 8] fun v' h'=>Frz h' v' (.b true)) t' h':=by
 refine S.weak hw (qL ?_)
 simp only [zw,qj,qi,H0,mkT,mkH,trL,vI,simprocAttr]
 simp only [↓vS,vT,shb,shv,qb,qc,cellsOf,wr,qa,simprocAttr]
 refine (h4 p hp hR d a).sc ?_
 cases hL:jW p d a with
 | none =>
  rw [hL] at heq
  simp only [kC,↓vS,vT,shb,shv,qb,qc,cellsOf,wr,qa,simprocAttr]
  refine (h4 q hq hRq d a).sc ?_
  rw [heq]
  simp only [kC,↓vS,vT,shb,shv,qb,qc,cellsOf,wr,qa,simprocAttr]
  refine SC.give (vs':=[.agg (xH ⟨0,[],0⟩),.agg (xH ⟨0,[],0⟩)]) [] (fun _ h=>by cases h) (.keep _ _ _ (.keep _ _ _ .nil)) ?_
  simp only [zn]
  refine (h5 ⟨0,[],0⟩ (by simp) (by simp)).sc ?_
  simp only [↓vS,vT,shb,shv,qb,qc,cellsOf,wr,qa,simprocAttr]
  refine h3.sc ?_
  simp only [↓vS,vT,shb,shv,qb,qc,cellsOf,wr,qa,simprocAttr]
  simp [vZ]
 | some x =>
  rw [hL] at heq
  obtain ⟨k1,k2⟩:=qbS hp hL
  simp only [kC,xH,↓vS,vT,shb,shv,qb,qc,cellsOf,wr,qa,simprocAttr]
  refine (h4 q hq hRq d a).sc ?_
  rw [heq]
  simp only [kC,xH,↓vS,vT,shb,shv,qb,qc,cellsOf,wr,qa,simprocAttr]
  refine (h5 x (by omega) (fun r hr=>by have:=k2 r hr; omega)).sc ?_
  simp only [↓vS,vT,shb,shv,qb,qc,cellsOf,wr,qa,simprocAttr]
  refine h3.sc ?_
  simp only [↓vS,vT,shb,shv,qb,qc,cellsOf,wr,qa,simprocAttr]
  simp [vZ]
theorem qfI (h3:qg P g3 [] (.b true)) (h4:qeF P g4) (h5:∀ x:GFil,x.rules.length ≤ 100000 → (∀ r ∈ x.rules,r.tests.length ≤ 100000) → qg P g5 [.agg (xH x),.agg (xH x)] (.b true)) (p q:Pol) (hp:PolOk p) (hq:PolOk q) (hR:PolR p) (hRq:PolR q) (d a:Int) (d1:1 ≤ d) (d7:d ≤ 7) (mp:xA p = true) (mq:xA q = true) {t':Tr AV} {h':Hp} (hw:Wk 0 t' h' (mkT [(2,.i .i64 d),(3,.i .i64 a),(4,.ptr 0 0),(5,.ptr 1 0)]) (mkH 0 [.cells 0 true false (qj p),.cells 0 true false (qj ⟨p.arches,q.filter,q.deny,q.log,q.fams,q.fmode,q.spaces,q.we,q.pe,q.rt,q.np⟩)])) :
  S P 0 (zu g1 g2 g3 g4 g5) (je [.tmp 8] fun v' h'=>Frz h' v' (.b true)) t' h':=by
 refine S.weak hw (qL ?_)
 simp only [zu,qj,qi,H0,mkT,mkH,trL,vI,simprocAttr]
 have hpo:=qjX (d:=d) hp hq
 have hpr:=qhB (d:=d) hR hRq
 have hpl:=qhz (a:=a) d1 d7 mp mq
 have hd:d = 1 ∨ d = 2 ∨ d = 3 ∨ d = 4 ∨ d = 5 ∨ d = 6 ∨ d = 7:=by omega
 rcases hd with rfl | rfl | rfl | rfl | rfl | rfl | rfl <;>
 ·simp (decide:=true) only [↓vS,vT,shb,shv,qb,qc,cellsOf,wr,qa,simprocAttr]
  refine qfJ h3 h4 h5 p _ hp hpo hR hpr _ a hpl (Wk.mk _ _ [0,1] ?_ ?_ ?_ rfl)
  ·simp [vw]
  ·simp [vw,qj,vm,qk,qd,qf]
  ·simp
theorem qk3 (hc:qw P f (xM g1 g2 g3 g4 g5) = true) (h1:∀ p a,qg P g1 [.agg (qj p),.agg (qf2 a)] (.b (zS p a))) (h2:∀ p,PolOk p → qg P g2 [.agg (qj p)] (.b (xA p))) (h3:qg P g3 [] (.b true)) (h4:qeF P g4) (h5:∀ x:GFil,x.rules.length ≤ 100000 → (∀ r ∈ x.rules,r.tests.length ≤ 100000) → qg P g5 [.agg (xH x),.agg (xH x)] (.b true)) (p q:Pol) (hR:PolR p) (hRq:PolR q) (d a:Int) :
  qg P f [.agg (qj p),.agg (qj q),.i .i64 d,.i .i64 a] (.b true):=by
 refine qg.mk hc rfl ?_
 simp only [xM,qj,qi,H0,mkT,mkH,trL,vI,simprocAttr]
 simp only [↓vS,vT,shb,shv,qb,qc,cellsOf,wr,qa,simprocAttr]
 refine (h1 p qch).sc ?_
 cases hG:zS p qch with
 | true =>
  simp only [↓vS,vT,shb,shv,qb,qc,cellsOf,wr,qa,simprocAttr]
  refine h3.sc ?_
  simp only [↓vS,vT,shb,shv,qb,qc,cellsOf,wr,qa,simprocAttr]
  simp [vZ]
 | false =>
  have hp:=(Qp hG).1
  simp only [↓vS,vT,shb,shv,qb,qc,cellsOf,wr,qa,simprocAttr]
  refine (h1 q qch).sc ?_
  cases hG2:zS q qch with
  | true =>
   simp only [↓vS,vT,shb,shv,qb,qc,cellsOf,wr,qa,simprocAttr]
   refine h3.sc ?_
   simp only [↓vS,vT,shb,shv,qb,qc,cellsOf,wr,qa,simprocAttr]
   simp [vZ]
  | false =>
   have hq:=(Qp hG2).1
   simp only [↓vS,vT,shb,shv,qb,qc,cellsOf,wr,qa,simprocAttr]
   refine (h2 p hp).sc ?_
   cases mp:xA p with
   | false =>
    simp only [↓vS,vT,shb,shv,qb,qc,cellsOf,wr,qa,simprocAttr]
    refine h3.sc ?_
    simp only [↓vS,vT,shb,shv,qb,qc,cellsOf,wr,qa,simprocAttr]
    simp [vZ]
   | true =>
    simp only [↓vS,vT,shb,shv,qb,qc,cellsOf,wr,qa,simprocAttr]
    refine (h2 q hq).sc ?_
    cases mq:xA q with
    | false =>
     simp only [↓vS,vT,shb,shv,qb,qc,cellsOf,wr,qa,simprocAttr]
     refine h3.sc ?_
     simp only [↓vS,vT,shb,shv,qb,qc,cellsOf,wr,qa,simprocAttr]
     simp [vZ]
    | true =>
     have h7:(7:Int) ≠ 0:=by decide
     have hu:0 ≤ IntKind.wrap .u64 d:=by
      show 0 ≤ Int.emod _ _ 
      exact Int.emod_nonneg _ (by decide)
     have hm:0 ≤ (IntKind.wrap .u64 d).tmod 7 ∧ (IntKind.wrap .u64 d).tmod 7 < 7:=by
      rw [Int.tmod_eq_emod_of_nonneg hu]; omega
     simp only [↓vS,vT,shb,shv,qb,qc,cellsOf,wr,qa,simprocAttr,↓wT h7]
     generalize (IntKind.wrap .u64 d).tmod 7 = k at hm
     have e1:IntKind.wrap .i64 k = k:=qz (by omega) (by omega)
     have e2:IntKind.wrap .i64 (1 + k) = 1 + k:=qz (by omega) (by omega)
     refine qfI h3 h4 h5 p q hp hq hR hRq (1 + k) a (by omega) (by omega) mp mq (Wk.mk _ _ [0,1] ?_ ?_ ?_ rfl)
     ·simp [vw,e1,e2]
     ·simp [vw,qj,qk,qd,qf]
     ·simp
end
end Go.Kc
end
section
/- The kit's law of slices.SortFunc, as an updating call on a row of rules. No condition. -/
namespace Go.Kc
open Go.Sort Go.Proofs Go.Shelf Go.RowKit
variable {P:Program} {f g:Nat}
def qh8 (P:Program) (f g:Nat):Prop :=
 (∀ (a:Option Addr) (cap:Nat) (w:World),Calls P f #[.slice a 0 cap,.func (.func g) #[] #[]] w fun e w'=>e = .returned (.tuple #[]) ∧ w' = w) ∧
 ∀ (n:Nat) (i0:Inhabited (Fin n)) (nr:Fin n → Int) (cs:Fin n → List Value),(∀ i j,nr i = nr j → i = j) → (∀ i,∃ t u,cs i = [.int .u32 (nr i),t,u] ∧ t.oneCell' = true ∧ u.oneCell' = true) →
  ∀ (blk off cap:Nat) (w:World),HoldsK cs 3 w blk off (List.finRange n).toArray → blk < w.heap.size → n < 4611686018427387904 →
   Calls P f #[.slice (some ⟨blk,off,none⟩) n cap,.func (.func g) #[] #[]] w fun e w'=>e = .returned (.tuple #[]) ∧ ∃ q os,w' = sortWorldK cs 3 w blk off q ((List.finRange n).mergeSort fun x y=>decide (nr x ≤ nr y)).toArray os
theorem qhU (rs:List GRule) (hn:(rs.map GRule.nr).Nodup):zV rs = ((List.finRange rs.length).mergeSort fun x y=>decide ((rs[x]).nr ≤ (rs[y]).nr)).map fun i=>rs[i]:=by
 have e:(List.finRange rs.length).map (fun i=>rs[i]) = rs:=by
  apply List.ext_getElem
  ·simp
  ·intro i h1 h2; simp
 have p1:(((List.finRange rs.length).mergeSort fun x y=>decide ((rs[x]).nr ≤ (rs[y]).nr)).map fun i=>rs[i]).Perm rs:=by
  have:=(List.mergeSort_perm (List.finRange rs.length) fun x y=>decide ((rs[x]).nr ≤ (rs[y]).nr)).map (fun i=>rs[i])
  rw [e] at this; exact this
 refine Zn GRule.nr (QZ hn) ?_ fun r=>by rw [qbv]; exact p1.mem_iff.symm
 have h1:((List.finRange rs.length).mergeSort fun x y=>decide ((rs[x]).nr ≤ (rs[y]).nr)).Pairwise (fun x y=>decide ((rs[x]).nr ≤ (rs[y]).nr) = true):=List.pairwise_mergeSort (fun a b c h1 h2=>by simp at *; omega) (fun a b=>by simp; omega) _
 have h2:((((List.finRange rs.length).mergeSort fun x y=>decide ((rs[x]).nr ≤ (rs[y]).nr)).map fun i=>rs[i]).map GRule.nr).Nodup:=(p1.map GRule.nr).nodup_iff.2 hn
 have h3:=List.pairwise_map.1 (List.pairwise_map.1 h2)
 refine List.pairwise_map.2 ((h1.and h3).imp ?_)
 intro a b ⟨h,h'⟩
 simp at h h' ⊢; omega
theorem Wk.same {n:Nat} {t:Tr AV} {h:Hp} (hn:n ≤ h.sz):Wk n t h t h:=fun ρ B w tm ht r=>⟨ρ,ht,r,Kep.refl ρ B hn w⟩
theorem qpa (hcod:qdT P f) (hK:qh8 P f g):qar P f g:=by
 intro rs hl hn
 refine ⟨by simp [z6,bnd,qo],by simp,trivial,?_⟩
 intro ρ B w args r ha
 have hsl:(zV rs).length = rs.length:=List.length_mergeSort _
 generalize hA:args.toList = L at ha
 cases ha with
 | cons _ _ _ _ a1 a2 =>
  rename_i v1 vs1
  cases a2 with
  | cons _ _ _ _ b1 b2 =>
   rename_i v2 vs2
   cases b2
   have hargs:args = #[v1,v2]:=by apply Array.ext'; rw [hA]
   obtain ⟨a',c',h7,h8,rfl⟩:=b1.un_fn
   have ea:a' = #[]:=by
    apply Array.ext'; generalize a'.toList = X at h7; cases h7; rfl
   have ec:c' = #[]:=by
    apply Array.ext'; generalize c'.toList = X at h8; cases h8; rfl
   subst ea ec hargs
   have zero:∀ (a:Option Addr) (cap:Nat),rs = [] → v1 = .slice a 0 cap → qbx P σ0 f #[v1,.func (.func g) #[] #[]] ρ B (mkH 0 [.cells 3 true true (rR rs)]) w (qfB [Blk.cells 3 true true (rR rs)].length (.tup []) [.cells 3 true true (rR (zV rs))]):=by
    rintro a cap rfl rfl
    refine .inl ⟨hcod,(hK.1 a cap w).mono ?_⟩
    rintro e w' ⟨rfl,rfl⟩
    have e0:zV [] = []:=by unfold zV; simp
    rw [e0]
    refine ⟨.tup [],.tuple #[],mkH 0 [.cells 3 true true (rR [])],ρ,rfl,?_,.tup [] #[] .nil,r,Kept.refl _ _ _ _⟩
    exact fun _=>Wk.same (Nat.le_refl _)
   generalize hrl:rs.length = n at a1
   cases a1 with
   | own0 _ ad hb=>exact zero ad 0 (List.eq_nil_of_length_eq_zero hrl) rfl
   | own _ _ cap L0 h0 h1 h2 =>
    by_cases hz:rs = []
    ·exact zero _ cap hz (by rw [← hrl,hz]; rfl)
    have hn0:0 < rs.length:=List.length_pos_iff.2 hz
    obtain ⟨q1,c,ty,fz,q2,q3,q4,q5,q6⟩:=r.cells 0 L0 3 true true (rR rs) h0 (by rw [zT]; rfl)
    have hRl:(rR rs).length = rs.length * 3:=Qy
    subst hrl
    let i0:Inhabited (Fin rs.length):=⟨⟨0,hn0⟩⟩
    let cs:Fin rs.length → List Value:=fun i=>[c[L0.off + (i.val * 3 + 0)]!,c[L0.off + (i.val * 3 + 1)]!,c[L0.off + (i.val * 3 + 2)]!]
    have hcell:∀ (i:Fin rs.length) (k:Nat),k < 3 → ∃ a,(xn rs[i])[k]? = some a ∧ VR σ0 ρ a (c[L0.off + (i.val * 3 + k)]!):=by
     intro i k hk
     have hx:rs[i.val]? = some rs[i]:=List.getElem?_eq_getElem i.isLt
     have hg:=qbY hx hk
     have ⟨a,ha⟩:∃ a,(xn rs[i])[k]? = some a:=by
      have:k < (xn rs[i]).length:=hk
      exact ⟨_,List.getElem?_eq_getElem this⟩
     obtain ⟨v',k1,k2⟩:=q5 (i.val * 3 + k) a (by rw [hg]; exact ha)
     refine ⟨a,ha,?_⟩
     have:c[L0.off + (i.val * 3 + k)]! = v':=by rw [Array.getElem!_eq_getD,Array.getD_eq_getD_getElem?,k1]; rfl
     rw [this]; exact k2
    have hcs:∀ i,∃ t u,cs i = [.int .u32 (rs[i]).nr,t,u] ∧ t.oneCell' = true ∧ u.oneCell' = true:=by
     intro i
     obtain ⟨x0,e0,k0⟩:=hcell i 0 (by decide)
     obtain ⟨x1,e1,k1⟩:=hcell i 1 (by decide)
     obtain ⟨x2,e2,k2⟩:=hcell i 2 (by decide)
     simp [xn] at e0 e1 e2
     subst e0 e1 e2
     have hσ:xG σ0:=fun _=>rfl
     refine ⟨c[L0.off + (i.val * 3 + 1)]!,c[L0.off + (i.val * 3 + 2)]!,?_,Q8 hσ k1 rfl,Q8 hσ k2 rfl⟩
     have:c[L0.off + (i.val * 3 + 0)]! = .int .u32 (rs[i]).nr:=k0.un_i
     simp only [cs,this]
    have hlen:∀ i,(cs i).length = 3:=fun _=>rfl
    have hfl:∀ (d:Array (Fin rs.length)) (t:Nat),t < d.size * 3 → (flatK cs 3 d)[t]! = c[L0.off + ((d[t / 3]!).val * 3 + t % 3)]!:=by
     intro d t ht
     rw [get_flatK cs 3 d t ht]
     have:t % 3 = 0 ∨ t % 3 = 1 ∨ t % 3 = 2:=by omega
     rcases this with e | e | e <;> rw [e] <;> rfl
    have hsz:(List.finRange rs.length).toArray.size = rs.length:=by simp
    have hH:HoldsK cs 3 w L0.blk L0.off (List.finRange rs.length).toArray:=by
     intro j hj
     have hj':j < rs.length * 3:=by simpa [hsz] using hj
     have hcj:L0.off + j < c.size:=by omega
     constructor
     ·show (match w.heap[L0.blk]? with | some (.cells c _ _)=>if (none:Option _).isSome then none else c[L0.off + j]? | _=>none) = _
      rw [q2]
      have e1:c[L0.off + j]? = some c[L0.off + j]!:=by rw [getElem!_pos c _ hcj]; exact Array.getElem?_eq_getElem hcj
      show c[L0.off + j]? = _
      rw [e1]
      have e2:=hfl (List.finRange rs.length).toArray j (by rw [hsz]; exact hj')
      have e3:((List.finRange rs.length).toArray[j / 3]!).val = j / 3:=by
       rw [getElem!_pos _ _ (by rw [hsz]; omega)]; simp
      rw [e3,show j / 3 * 3 + j % 3 = j by omega] at e2
      show _ = some (id (flatK cs 3 _)[j]!)
      rw [id,e2]
     ·show (match w.heap[L0.blk]? with | some (.cells _ _ (lo,hi))=>decide (lo ≤ L0.off + j) && decide (L0.off + j < hi) | _=>false) = false
      rw [q2]
      have:=q6 rfl (L0.off + j) (.inl (by omega))
      obtain ⟨lo,hi⟩:=fz
      simp only at this ⊢
      rw [Bool.and_eq_false_iff,decide_eq_false_iff_not,decide_eq_false_iff_not]
      omega
    have hblk:L0.blk < w.heap.size:=(Array.getElem?_eq_some_iff.1 q2).1
    refine .inl ⟨hcod,(hK.2 rs.length i0 (fun i=>(rs[i]).nr) cs ?_ hcs L0.blk L0.off cap w hH hblk (by omega)).mono ?_⟩
    ·intro i j hij
     have hx:(rs.map GRule.nr)[i.val]'(by simp) = (rs.map GRule.nr)[j.val]'(by simp):=by simpa using hij
     exact Fin.ext ((List.getElem_inj hn).1 hx)
    rintro e w' ⟨rfl,q,os,hw'⟩
    have hsm:=qhU rs hn
    generalize hD:(List.finRange rs.length).mergeSort (fun x y=>decide ((rs[x]).nr ≤ (rs[y]).nr)) = D at hw' hsm
    have hDl:D.length = rs.length:=by rw [← hD,List.length_mergeSort]; simp
    have hFs:(flatK cs 3 D.toArray).size = rs.length * 3:=by rw [size_flatK]; simp [hDl]
    have hv:VRs σ0 ρ (rR (zV rs)) (flatK cs 3 D.toArray).toList:=by
     have el1:=Qy (l:=zV rs)
     have el2:(flatK cs 3 D.toArray).toList.length = rs.length * 3:=by rw [Array.length_toList]; exact hFs
     refine VRs.of_get (by omega) fun t a ht=>?_
     have htl:t < rs.length * 3:=by
      have:=(List.getElem?_eq_some_iff.1 ht).1; omega
     have hj:t / 3 < D.length:=by omega
     have hDa:D.toArray[t / 3]! = D[t / 3]:=by rw [getElem!_pos _ _ (by simpa using hj)]; rfl
     refine ⟨(flatK cs 3 D.toArray)[t]!,?_,?_⟩
     ·rw [getElem!_pos (flatK cs 3 D.toArray) t (by rw [hFs]; exact htl)]; simp [hFs,htl]
     ·rw [hfl D.toArray t (by simp [hDl]; exact htl),hDa]
      obtain ⟨a',k1,k2⟩:=hcell D[t / 3] (t % 3) (by omega)
      have hx:(zV rs)[t / 3]? = some rs[D[t / 3]]:=by rw [hsm,List.getElem?_map,List.getElem?_eq_getElem hj]; rfl
      have hg:=qbY hx (i:=t % 3) (by omega)
      rw [show t / 3 * 3 + t % 3 = t by omega,ht] at hg
      rw [k1] at hg
      cases hg
      exact k2
    have hspl:Spl c (L0.off + 0) (flatK cs 3 D.toArray).toList (putCells id L0.off (flatK cs 3 D.toArray) c):=by
     refine ⟨by simp [putCells],fun j hj=>?_,fun j v hj=>?_⟩
     ·rw [Array.length_toList] at hj
      unfold putCells
      rw [Array.getElem?_mapIdx]
      cases c[j]? with
      | none=>rfl
      | some x =>
       simp only [Option.map_some]
       rw [if_neg (by omega)]
     ·have hjl:j < (flatK cs 3 D.toArray).size:=by
       have:=(List.getElem?_eq_some_iff.1 hj).1; simpa using this
      have hjc:L0.off + j < c.size:=by omega
      unfold putCells
      rw [Nat.add_zero,Array.getElem?_mapIdx,Array.getElem?_eq_getElem hjc]
      simp only [Option.map_some]
      rw [if_pos (by omega),Nat.add_sub_cancel_left,getElem!_pos (flatK cs 3 D.toArray) j hjl]
      rw [Array.getElem?_toList,Array.getElem?_eq_getElem hjl] at hj
      exact hj
    have hheap:(putRowK cs 3 (Go.Sort.ahead w q) L0.blk L0.off D.toArray).heap = w.heap.setIfInBounds L0.blk (.cells (putCells id L0.off (flatK cs 3 D.toArray) c) ty fz):=by
     show w.heap.modify L0.blk (onCells _) = _
     apply Array.ext_getElem?
     intro k
     rw [Array.getElem?_modify,Array.getElem?_setIfInBounds]
     by_cases hk:L0.blk = k
     ·subst hk; rw [if_pos rfl,if_pos rfl,if_pos hblk,q2]; rfl
     ·rw [if_neg hk,if_neg hk]
    have el3:=Qy (l:=zV rs)
    obtain ⟨r2,k2⟩:=r.store (w':=putRowK cs 3 (Go.Sort.ahead w q) L0.blk L0.off D.toArray) h0 (by rw [zT]; rfl) (Nat.le_refl _) 0 (rR (zV rs)) _ hv (by omega) q2 hspl hheap ⟨rfl,rfl⟩
    have hY:(rR rs).take 0 ++ (rR (zV rs) ++ (rR rs).drop (0 + (rR (zV rs)).length)) = rR (zV rs):=by
     rw [List.drop_of_length_le (by omega)]; simp
    rw [hY] at r2 k2
    have hh:(mkH 0 [.cells 3 true true (rR rs)]).put 0 (.cells 3 true true (rR (zV rs))) = mkH 0 [.cells 3 true true (rR (zV rs))]:=rfl
    rw [hh] at r2 k2
    have hg:∀ n,n < (putRowK cs 3 (Go.Sort.ahead w q) L0.blk L0.off D.toArray).heap.size → w'.heap[n]? = (putRowK cs 3 (Go.Sort.ahead w q) L0.blk L0.off D.toArray).heap[n]?:=by
     intro n hn
     rw [hw']
     exact Array.getElem?_append_left hn
    have hsz':(putRowK cs 3 (Go.Sort.ahead w q) L0.blk L0.off D.toArray).heap.size ≤ w'.heap.size:=by
     rw [hw']
     show _ ≤ (_ ++ os).size
     rw [Array.size_append]; exact Nat.le_add_right _ _
    have r3:=r2.world hg hsz'
    refine ⟨.tup [],.tuple #[],_,ρ,rfl,fun _=>Wk.same (Nat.le_refl _),.tup [] #[] .nil,r3,k2.trans ?_⟩
    have hio:w'.os = w.os ∧ w'.output = w.output:=by rw [hw']; exact ⟨rfl,rfl⟩
    exact ⟨fun _ _=>rfl,Nat.le_refl _,rfl,fun _ _ _=>rfl,fun k hk=>hg k (r2.base k hk),hsz',hio,fun _ _ h=>h,fun _ _ h=>.inl h,Nat.le_refl _⟩
end Go.Kc
end
