/- Part 8 of the abstract machine and of the functions' walks. Conditions: with each theorem. -/
import Derived.Test.YtpgbjeabmkbmbaaK7
set_option linter.unusedSimpArgs false
set_option linter.unusedVariables false
set_option linter.unnecessarySimpa false
section
/- The document's cells that are sure. Condition: the functions' texts are these. -/
namespace Go.Kc
variable {P:Program} {f:Nat}
def wrC(i:Ins)(c:Nat):Bool:=(decide (i.code=2)||decide (i.code=3))&&decide (i.k=(c:Int))
def stS(n c j:Nat)(i:Ins)(st:List Bool×List (BitVec 16)):List Bool×List (BitVec 16) :=
 if st.1.getD j false=false then (st.1,st.2.set j (st.2.getD j 0#16 ||| cell c)) else if wrC i c=true then st else (mkL (vb n i j) st.1,st.2)
def ku(n c:Nat):Nat->List Ins->List Bool×List (BitVec 16)->List Bool×List (BitVec 16)
 | _,[],st=>st
 | j,i::L,st=>ku n c (j+1) L (stS n c j i st)
theorem qkz{n c j:Nat}{i:Ins}{st:List Bool×List (BitVec 16)}:(stS n c j i st).1.length=st.1.length∧(stS n c j i st).2.length=st.2.length:=by
 unfold stS;split
 ·simp
 split<;>simp[v9]
theorem kW{n c:Nat}:∀{L:List Ins} {j:Nat} {st:List Bool×List (BitVec 16)},(ku n c j L st).1.length=st.1.length∧(ku n c j L st).2.length=st.2.length
 | [],_,_=>⟨rfl,rfl⟩
 | i::L,j,st=>by
  show (ku n c (j+1) L (stS n c j i st)).1.length=_∧(ku n c (j+1) L (stS n c j i st)).2.length=_;have h1:=kW (n:=n) (c:=c) (L:=L) (j:=j+1) (st:=stS n c j i st);have h2:=qkz (n:=n) (c:=c) (j:=j) (i:=i) (st:=st);exact⟨h1.1.trans h2.1,h1.2.trans h2.2⟩
def qdR(p:List Ins):Nat->List (BitVec 16)->List (BitVec 16)
 | 0,out=>out
 | k+1,out=>qdR p k (ku p.length (16-(k+1)) 0 p (st0 p.length,out)).2
def qab(p:List Ins):List (BitVec 16):=qdR p 16 (List.replicate p.length 0#16)
def zt(a:Nat):ICode:=.r [.n 17 4,.a 18 17 1,.n 4 18]
def zu(a:Nat):ICode:=.r [.n 31 6,.a 32 31 1,.n 6 32]
def zw(a:Nat):ICode:=.seq (.r [.n 72 0,.n 73 6,.l 74 a [.t 72,.t 73],.n 7 74]) (.seq (.r [.m 8 (.k 0)]) (.blk 4 (.loop (.seq (.seq (.r [.n 75 8,.n 76 7,.e 77 76,.s 78 75 77]) (.cond (.t 78) (.skip) (.exit 4))) (.seq (.blk 5 (.r [.n 81 5,.n 82 7,.n 83 8,.i 84 1 82 83,.d 85 84,.i 86 1 81 85,.u (.store 1 (.t 86) .T)])) (.r [.n 79 8,.a 80 79 1,.n 8 80]))))))
def zA(a:Nat):ICode:=.seq (.r [.m 6 (.k 0)]) (.blk 2 (.loop (.seq (.seq (.r [.n 27 6,.n 28 0,.e 29 28,.s 30 27 29]) (.cond (.t 30) (.skip) (.exit 2))) (.seq (.blk 3 (.seq (.seq (.r [.n 33 5,.n 34 6,.i 35 1 33 34,.d 36 35,.q 37 (.un .not (.t 36))]) (.cond (.t 37) (.seq (.reg true [.n 38 3,.n 39 6,.n 40 3,.n 41 6,.i 42 1 40 41,.d 43 42,.n 44 4,.q 45 (.bin .shl (.c (.i .u16 1)) (.t 44)),.b 46 .or 43 45,.i 47 1 38 39,.u (.store 1 (.t 47) (.t 46))]) (.exit 3)) (.skip))) (.seq (.seq (.r [.n 48 0,.n 49 6,.i 50 4 48 49,.f 51 0 50,.d 52 51,.q 53 (.bin .eql (.t 52) (.c (.i .u16 2))),.n 54 53,.z 55 0 54,.z 56 6 54,.g 57 (.iAddrS 4 (.t 55) (.t 56)) 54 false,.h 58 0 57 54 false,.j 59 58 54 false,.g 60 (.bin .eql (.t 59) (.c (.i .u16 3))) 54 false,.o 61 54 60,.n 62 61,.y 63 0 62,.y 64 6 62,.g 65 (.iAddrS 4 (.t 63) (.t 64)) 62 true,.h 66 3 65 62 true,.j 67 66 62 true,.y 68 4 62,.g 69 (.cvInt .u32 (.t 68)) 62 true,.g 70 (.bin .eql (.t 67) (.t 69)) 62 true,.p 71 62 70]) (.cond (.t 71) (.exit 3) (.skip))) (.cut (zw a))))) (.cut (zu a))))))
def xt(a:Nat):ICode:=.seq (.seq (.r [.m 4 (.k 0)]) (.blk 0 (.loop (.seq (.seq (.r [.n 15 4,.w 16 .lss 15 16]) (.cond (.t 16) (.skip) (.exit 0))) (.seq (.blk 1 (.seq (.r [.n 19 0,.e 20 19,.q 21 (.mkS 1 1 [.b false] (.t 20) (.t 20)),.n 5 21]) (.seq (.seq (.r [.n 22 0,.e 23 22,.w 24 .gtr 23 0]) (.cond (.t 24) (.r [.n 25 5,.q 26 (.iAddrS 1 (.t 25) (.k 0)),.u (.store 1 (.t 26) .T)]) (.skip))) (.cut (zA a))))) (.cut (zt a))))))) (.seq (.r [.n 87 3,.n 2 87]) (.ret))
def ja(a:Nat):IFn:=⟨[.tmp 2],.seq (.r [.m 2 .N]) (.seq (.seq (.r [.n 9 0,.e 10 9,.w 11 .gtr 10 4096]) (.cond (.t 11) (.seq (.r [.m 2 .N]) (.ret)) (.skip))) (.seq (.r [.n 12 0,.e 13 12,.q 14 (.mkS 1 2 [.i .u16 0] (.t 13) (.t 13)),.n 3 14]) (.cut (xt a))))⟩
theorem qa4{g:Nat}(p:List Ins)(hp:p.length<=4096)(c j:Nat)(hj:j<p.length)(L:List Nat)(hg:qf P g [.fz p.length (rP p),.i .i64 (j:Int)] (.fz L.length (rNt L)))(hLlt:∀m ∈ L,m<p.length)(hL2:L.length<=2)
  (r:List Bool) (hlr:r.length=p.length) (o:List (BitVec 16)) (Q:X->Tr AV->Hp->Prop)
  (hQ:∀t'' h'',Wk 0 t'' h'' (mkT [(0,.fz p.length (rP p)),(3,.sl 0 0 p.length p.length false),(4,.i .i64 (c:Int)),(5,.sl 1 0 p.length p.length false),(6,.i .i64 (j:Int))]) (mkH 0 [.cells 0 true false (rW o),.cells 0 true false (rTt (mkL L r))])->Q .normal t'' h'')
  {t':Tr AV} {h':Hp} (hw:Wk 0 t' h' (mkT [(0,.fz p.length (rP p)),(3,.sl 0 0 p.length p.length false),(4,.i .i64 (c:Int)),(5,.sl 1 0 p.length p.length false),(6,.i .i64 (j:Int))]) (mkH 0 [.cells 0 true false (rW o),.cells 0 true false (rTt r)])) :
  S P 0 (zw g) Q t' h':=by
 refine S.weak hw (qA ?_);simp only[zw,vI,simprocAttr];simp (decide:=true) only [↓vS,vT,simprocAttr];refine hg.sc ?_;simp (decide:=true) only [↓vS,vT,simprocAttr]
 refine SL.loop (α:=Nat×List Bool) (fun a=>[(0,.fz p.length (rP p)),(3,.sl 0 0 p.length p.length false),(4,.i .i64 (c:Int)),(5,.sl 1 0 p.length p.length false),(6,.i .i64 (j:Int)),(7,.fz L.length (rNt L)),(8,.i .i64 (a.1:Int))]) (fun a=>[.cells 0 true false (rW o),.cells 0 true false (rTt a.2)])
  (fun a=>a.1<=L.length∧a.2.length=p.length∧mkL (L.drop a.1) a.2=mkL L r) (fun a=>L.length-a.1) (0,r) [0,1] ?_ ?_ ?_ rfl ?_ ?_
 ·simp[vw,qb,qp]
 ·simp[vw,qd,qh,qn]
 ·simp
 ·exact⟨Nat.zero_le _,hlr,rfl⟩
 rintro⟨k,r2⟩ ⟨hk,hlr2,hJ⟩ G2 ih2;simp only at hk hlr2 hJ;simp only[vI,simprocAttr]
 by_cases hkl:k<L.length
 ·obtain⟨m,hm⟩:∃m,L[k]?=some m:=⟨_,List.getElem?_eq_getElem hkl⟩;have hml:=hLlt m (List.mem_of_getElem? hm)
  have hdk:L.drop k=m::L.drop (k+1):=by
   obtain⟨hh,he⟩:=List.getElem?_eq_some_iff.1 hm;rw[List.drop_eq_getElem_cons hh,he]
  rw[hdk,Qj] at hJ
  have hw2:IntKind.wrap .i64 ((k:Int)+1)=((k+1:Nat):Int):=by
   rw[qo (by omega) (by omega)];omega
  have hs0:m+1<=(rTt r2).length:=by rw[ke];omega
  have hs1:=Qn (s:=r2) (j:=m) (by omega) true;simp (decide:=true) only [↓vS,vT,simprocAttr,hkl,Nat.mul_one,qb4,hm,Option.map_some,hml,hs0,hs1,hw2];refine ih2 (k+1,r2.set m true) ⟨hkl,by simp[hlr2],hJ⟩ (by simp only;omega) _ _ (Wk.mk _ _ [0,1] ?_ ?_ ?_ rfl)
  ·simp[vw,qb,qp]
  ·simp[vw,qd,qh,qn]
  ·simp
 ·obtain rfl:k=L.length:=by omega
  rw[List.drop_length] at hJ;have hJ:r2=mkL L r:=hJ;simp (decide:=true) only [↓vS,vT,simprocAttr,hkl];rw[← hJ] at hQ;refine hQ _ _ (Wk.mk _ _ [0,1] ?_ ?_ ?_ rfl)
  ·simp[vw,qb,qp]
  ·simp[vw,qd,qh,qn]
  ·simp
set_option maxHeartbeats 1000000 in
theorem qeF{g:Nat}(hg:qd2 P g)(p:List Ins)(hp:p.length<=4096)(hi:∀i ∈ p,InsOk i)(c:Nat)(hc:c<16)(un0:List Bool)(hu0:un0.length=p.length)(out0:List (BitVec 16))(ho0:out0.length=p.length)(Q:X->Tr AV->Hp->Prop)
  (hQ:∀t'' h'',Wk 0 t'' h'' (mkT [(0,.fz p.length (rP p)),(3,.sl 0 0 p.length p.length false),(4,.i .i64 (c:Int))]) (mkH 0 [.cells 0 true false (rW (ku p.length c 0 p (un0,out0)).2)])->Q .normal t'' h'')
  {t':Tr AV} {h':Hp} (hw:Wk 0 t' h' (mkT [(0,.fz p.length (rP p)),(3,.sl 0 0 p.length p.length false),(4,.i .i64 (c:Int)),(5,.sl 1 0 p.length p.length false)]) (mkH 0 [.cells 0 true false (rW out0),.cells 0 true false (rTt un0)])) :
  S P 0 (zA g) Q t' h':=by
 refine S.weak hw (qA ?_);have hc0:(0:Int)<=(c:Int):=by omega
 have hsh:qdO .u16 1 (c:Int)=((cell (c:Int)).toNat:Int):=qeB hc0 (by omega);have hcv:IntKind.wrap .u32 (c:Int)=(c:Int):=by show (c:Int) % 4294967296=_;omega
 simp only[zA,vI,simprocAttr];simp (decide:=true) only [↓vS,vT,simprocAttr]
 refine SL.loop (α:=Nat×(List Bool×List (BitVec 16))) (fun a=>[(0,.fz p.length (rP p)),(3,.sl 0 0 p.length p.length false),(4,.i .i64 (c:Int)),(5,.sl 1 0 p.length p.length false),(6,.i .i64 (a.1:Int))]) (fun a=>[.cells 0 true false (rW a.2.2),.cells 0 true false (rTt a.2.1)])
  (fun a=>a.1<=p.length∧a.2.1.length=p.length∧a.2.2.length=p.length∧ku p.length c a.1 (p.drop a.1) a.2=ku p.length c 0 p (un0,out0)) (fun a=>p.length-a.1) (0,(un0,out0)) [0,1] ?_ ?_ ?_ rfl ?_ ?_
 ·simp[vw,qb]
 ·simp[vw,qd,qh,qn]
 ·simp
 ·exact⟨Nat.zero_le _,hu0,ho0,rfl⟩
 rintro⟨j,r,o⟩ ⟨hj,hlr,hlo,hI⟩ G ih;simp only at hj hlr hlo hI;simp only[vI,simprocAttr]
 by_cases hlt:j<p.length
 ·obtain⟨i,hpi⟩:∃i,p[j]?=some i:=⟨_,List.getElem?_eq_getElem hlt⟩;have hii:=hi i (List.mem_of_getElem? hpi)
  have hdr:p.drop j=i::p.drop (j+1):=by
   obtain⟨hh,he⟩:=List.getElem?_eq_some_iff.1 hpi;rw[List.drop_eq_getElem_cons hh,he]
  obtain⟨b,hb⟩:∃b,r[j]?=some b:=⟨_,List.getElem?_eq_getElem (by omega)⟩;obtain⟨y,hy⟩:∃y,o[j]?=some y:=⟨_,List.getElem?_eq_getElem (by omega)⟩;have hI2:ku p.length c (j+1) (p.drop (j+1)) (stS p.length c j i (r,o))=ku p.length c 0 p (un0,out0):=by rw[← hI,hdr];rfl
  unfold stS at hI2;simp only[List.getD_eq_getElem?_getD,hb,hy,Option.getD_some] at hI2;have hw1:IntKind.wrap .i64 ((j:Int)+1)=((j+1:Nat):Int):=by rw[qo (by omega) (by omega)];omega
  have fin:∀(r2:List Bool) (o2:List (BitVec 16)),r2.length=p.length->o2.length=p.length->ku p.length c (j+1) (p.drop (j+1)) (r2,o2)=ku p.length c 0 p (un0,out0)->∀Qc:X->Tr AV->Hp->Prop,(∀t h,G t h->Qc .normal t h)->∀{t':Tr AV} {h':Hp},Wk 0 t' h' (mkT [(0,.fz p.length (rP p)),(3,.sl 0 0 p.length p.length false),(4,.i .i64 (c:Int)),(5,.sl 1 0 p.length p.length false),(6,.i .i64 (j:Int))]) (mkH 0 [.cells 0 true false (rW o2),.cells 0 true false (rTt r2)])->S P 0 (zu g) Qc t' h':=by
   intro r2 o2 e1 e2 e3 Qc hQc t' h' hw;refine S.weak hw (qA ?_);simp only[zu,vI,simprocAttr];simp (decide:=true) only [↓vS,vT,simprocAttr,hw1];refine hQc _ _ (ih (j+1,(r2,o2)) ⟨hlt,e1,e2,e3⟩ (by simp only;omega) _ _ (Wk.mk _ _ [0,1] ?_ ?_ ?_ rfl))
   ·simp[vw,qb]
   ·simp[vw,qd,qh,qn]
   ·simp
  have g0:=zI (f:=qv) (m:=4) zl hpi (i:=0) (by omega);have g3:=zI (f:=qv) (m:=4) zl hpi (i:=3) (by omega);rw[show p.flatMap qv=rP p from rfl] at g0 g3
  simp only[qv,Nat.add_zero,List.getElem?_cons_zero,List.getElem?_cons_succ] at g0 g3;cases b with
  | false =>
   rw[if_pos rfl] at hI2;have hs0:j+1<=(rW o).length:=by rw[qb9];omega
   have hs1:=qhY (s:=o) (j:=j) (by omega) (y ||| cell (c:Int))
   simp (decide:=true) only [↓vS,vT,simprocAttr,hlt,Nat.mul_one,zY,hb,Option.map_some];refine jp ?_;simp (decide:=true) only [↓vS,vT,simprocAttr,hlt,Nat.mul_one,yU,hy,Option.map_some,hc0,hsh,qpC,hs0,hs1];refine fin r (o.set j (y ||| cell (c:Int))) hlr (by simp[hlo]) hI2 _ (fun _ _ h=>h) (Wk.mk _ _ [0,1] ?_ ?_ ?_ rfl)
   ·simp[vw,qb]
   ·simp[vw,qd,qh,qn]
   ·simp
  | true =>
   rw[if_neg (by simp)] at hI2
   by_cases hwc:wrC i c=true
   ·rw[if_pos hwc] at hI2;have hk:i.k=(c:Int):=by unfold wrC at hwc;simp at hwc;exact hwc.2
    have hcd:i.code=2∨i.code=3:=by unfold wrC at hwc;simp at hwc;exact hwc.1
    rcases hcd with hcd|hcd<;>(
     simp (decide:=true) only [↓vS,vT,simprocAttr,hlt,Nat.mul_one,zY,hb,Option.map_some,g0,hcd,g3,hk,hcv];refine fin r o hlr hlo hI2 _ (fun _ _ h=>h) (Wk.mk _ _ [0,1] ?_ ?_ ?_ rfl)
     ·simp[vw,qb]
     ·simp[vw,qd,qh,qn]
     ·simp)
   rw[if_neg hwc] at hI2;have hnx:=hg p hp j i hpi hii;have hLlt:=qb1 (n:=p.length) (j:=j) (i:=i);have hL2:=qbA (n:=p.length) (j:=j) (i:=i);generalize vb p.length i j=L at hI2 hLlt hL2 hnx
   have hcs:¬(i.code=2∨i.code=3)∨¬i.k=(c:Int):=by
    unfold wrC at hwc;simp at hwc
    by_cases h:i.code=2∨i.code=3
    ·exact .inr (hwc h)
    ·exact .inl h
   by_cases e2:i.code=2
   ·have hk:¬i.k=(c:Int):=hcs.elim (fun h=>absurd (.inl e2) h) id
    simp (decide:=true) only [↓vS,vT,simprocAttr,hlt,Nat.mul_one,zY,hb,Option.map_some,g0,e2,g3,hk,hcv];refine qa4 p hp c j hlt L hnx hLlt hL2 r hlr o _ ?_ (Wk.mk _ _ [0,1] ?_ ?_ ?_ rfl)
    ·intro t'' h'' hw2;simp (decide:=true) only [↓vS,vT,simprocAttr];exact fin (mkL L r) o (by rw[v9];exact hlr) hlo hI2 _ (fun _ _ h=>h) hw2
    ·simp[vw,qb]
    ·simp[vw,qd,qh,qn]
    ·simp
   by_cases e3:i.code=3
   ·have hk:¬i.k=(c:Int):=hcs.elim (fun h=>absurd (.inr e3) h) id
    simp (decide:=true) only [↓vS,vT,simprocAttr,hlt,Nat.mul_one,zY,hb,Option.map_some,g0,e3,g3,hk,hcv];refine qa4 p hp c j hlt L hnx hLlt hL2 r hlr o _ ?_ (Wk.mk _ _ [0,1] ?_ ?_ ?_ rfl)
    ·intro t'' h'' hw2;simp (decide:=true) only [↓vS,vT,simprocAttr];exact fin (mkL L r) o (by rw[v9];exact hlr) hlo hI2 _ (fun _ _ h=>h) hw2
    ·simp[vw,qb]
    ·simp[vw,qd,qh,qn]
    ·simp
   simp (decide:=true) only [↓vS,vT,simprocAttr,hlt,Nat.mul_one,zY,hb,Option.map_some,g0,e2,e3];refine qa4 p hp c j hlt L hnx hLlt hL2 r hlr o _ ?_ (Wk.mk _ _ [0,1] ?_ ?_ ?_ rfl)
   ·intro t'' h'' hw2;simp (decide:=true) only [↓vS,vT,simprocAttr];exact fin (mkL L r) o (by rw[v9];exact hlr) hlo hI2 _ (fun _ _ h=>h) hw2
   ·simp[vw,qb]
   ·simp[vw,qd,qh,qn]
   ·simp
 ·obtain rfl:j=p.length:=by omega
  rw[List.drop_length] at hI;have hI:(r,o)=ku p.length c 0 p (un0,out0):=hI;rw[← hI] at hQ;simp (decide:=true) only [↓vS,vT,simprocAttr,hlt];refine hQ _ _ (Wk.mk _ _ [0] ?_ ?_ ?_ rfl)
  ·simp[vw,qb]
  ·simp[vw,qd,qn]
  ·simp
theorem QQ{p:List Ins}{k:Nat}{out:List (BitVec 16)}:qdR p (k+1) out=qdR p k (ku p.length (16-(k+1)) 0 p (st0 p.length,out)).2:=rfl
set_option maxHeartbeats 1000000 in
theorem qoj{g:Nat}(hc:qt P f (ja g)=true)(hg:qd2 P g)(p:List Ins)(hp:p.length<=4096)(hi:∀i ∈ p,InsOk i):qf P f [.fz p.length (rP p)] (.fz p.length (rW (qab p))):=by
 refine qf.mk hc (by simp[qw,clo,qb]) ?_;have hz3:¬(4096:Int)<(p.length:Int):=by omega
 have hr1:p.length<=qe:=by simp only[qe];omega
 have hr2:2*p.length<=qe:=by simp only[qe];omega
 have hr3:1*p.length<=qe:=by simp only[qe];omega
 simp only[ja,vI,simprocAttr];simp (decide:=true) only [↓vS,vT,simprocAttr,hz3,hr1,hr2,qpG];refine qA ?_;simp only[xt,vI,simprocAttr];simp (decide:=true) only [↓vS,vT,simprocAttr]
 refine SL.loop (α:=Nat×List (BitVec 16)) (fun a=>[(0,.fz p.length (rP p)),(3,.sl 0 0 p.length p.length false),(4,.i .i64 (a.1:Int))]) (fun a=>[.cells 0 true false (rW a.2)])
  (fun a=>a.1<=16∧a.2.length=p.length∧qdR p (16-a.1) a.2=qab p) (fun a=>16-a.1) (0,List.replicate p.length 0#16) [0] ?_ ?_ ?_ rfl ?_ ?_
 ·simp[vw,qb]
 ·simp[vw,qd,qn]
 ·simp
 ·exact⟨Nat.zero_le _,by simp,rfl⟩
 rintro⟨c,o⟩ ⟨hc16,hlo,hI⟩ G ih;simp only at hc16 hlo hI;simp only[vI,simprocAttr]
 by_cases hlt:c<16
 ·have hlt':(c:Int)<16:=by omega
  have e16:16-c=(15-c)+1:=by omega
  rw[e16,QQ,show 16-(15-c+1)=c from by omega,show 15-c=16-(c+1) from by omega] at hI
  have hw1:IntKind.wrap .i64 ((c:Int)+1)=((c+1:Nat):Int):=by rw[qo (by omega) (by omega)];omega
  have hsl:=kW (n:=p.length) (c:=c) (L:=p) (j:=0) (st:=(st0 p.length,o));have hst:(st0 p.length).length=p.length:=by simp[st0]
  have fin:∀Qc:X->Tr AV->Hp->Prop,(∀t h,G t h->Qc .normal t h)->∀{t':Tr AV} {h':Hp},Wk 0 t' h' (mkT [(0,.fz p.length (rP p)),(3,.sl 0 0 p.length p.length false),(4,.i .i64 (c:Int))]) (mkH 0 [.cells 0 true false (rW (ku p.length c 0 p (st0 p.length,o)).2)])->S P 0 (zt g) Qc t' h':=by
   intro Qc hQc t' h' hw;refine S.weak hw (qA ?_);simp only[zt,vI,simprocAttr];simp (decide:=true) only [↓vS,vT,simprocAttr,hw1];refine hQc _ _ (ih (c+1,_) ⟨hlt,hsl.2.trans hlo,hI⟩ (by simp only;omega) _ _ (Wk.mk _ _ [0] ?_ ?_ ?_ rfl))
   ·simp[vw,qb]
   ·simp[vw,qd,qn]
   ·simp
  by_cases h0:p.length=0
  ·have h0':¬(0:Int)<(p.length:Int):=by omega
   have hst2:st0 p.length=List.replicate p.length false:=by unfold st0;rw[h0];rfl
   simp (decide:=true) only [↓vS,vT,simprocAttr,hlt',hr1,hr3,qey,h0'];refine qeF hg p hp hi c hlt (st0 p.length) hst o hlo _ ?_ (Wk.mk _ _ [0,1] ?_ ?_ ?_ rfl)
   ·intro t'' h'' hw2;simp (decide:=true) only [↓vS,vT,simprocAttr];exact fin _ (fun _ _ h=>h) hw2
   ·simp[vw,qb]
   ·simp[vw,qd,qh,qn,hst2]
   ·simp
  ·have h0':(0:Int)<(p.length:Int):=by omega
   have h0n:0<p.length:=by omega
   have hs0:1<=(rTt (List.replicate p.length false)).length:=by rw[ke];simp;omega
   have hs1:AV.b true::List.drop 1 (rTt (List.replicate p.length false))=rTt (st0 p.length):=Qn (s:=List.replicate p.length false) (j:=0) (by simp;omega) true;simp (decide:=true) only [↓vS,vT,simprocAttr,hlt',hr1,hr3,qey,h0',h0n,hs0,hs1];refine qeF hg p hp hi c hlt (st0 p.length) hst o hlo _ ?_ (Wk.mk _ _ [0,1] ?_ ?_ ?_ rfl)
   ·intro t'' h'' hw2;simp (decide:=true) only [↓vS,vT,simprocAttr];exact fin _ (fun _ _ h=>h) hw2
   ·simp[vw,qb]
   ·simp[vw,qd,qh,qn]
   ·simp
 ·obtain rfl:c=16:=by omega
  have hI:o=qab p:=hI;rw[← hI];simp (decide:=true) only [↓vS,vT,simprocAttr];refine Frz.cut 1 rfl (Nat.le_refl _) ?_;have ht:(rW o).take p.length=rW o:=List.take_of_length_le (by rw[qb9];omega);simp[vZ,vP,Tr.get_set,zC qn,ht,qb9,hlo]
end Go.Kc
end
section
/- The document's places that read what isn't sure. Condition: the functions' texts are these. -/
namespace Go.Kc
variable {P:Program} {f:Nat}
def rdC(i:Ins):Bool:=(decide (i.code=96)||decide (i.code=97))&&decide (i.k<16)
def unC(rch:List Bool)(sur:List (BitVec 16))(j:Nat)(i:Ins):Bool:=rch.getD j false&&rdC i && !(sur.getD j 0#16).getLsbD i.k.toNat
def qac(rch:List Bool)(sur:List (BitVec 16)):Nat->List Ins->List Nat->List Nat
 | _,[],l=>l
 | j,i::L,l=>qac rch sur (j+1) L (if unC rch sur j i=true then l++[j] else l)
def qbh(p:List Ins):List Nat:=qac (kT p.length 0 p (st0 p.length)) (qab p) 0 p []
theorem qoK(x:BitVec 16){k:Int}(h0:0<=k)(h:k<16):(qnw .u16 (x.toNat:Int) k).tmod 2=if x.getLsbD k.toNat=true then 1 else 0:=by
 have hm:min k.toNat 16=k.toNat:=by omega
 unfold qnw;rw[show IntKind.bits .u16=16 from rfl,hm]
 have hp:(2:Int) ^ k.toNat=((2 ^ k.toNat:Nat):Int):=by simp
 rw[hp,Int.fdiv_eq_ediv_of_nonneg _ (Int.natCast_nonneg _),← Int.natCast_ediv];rw[BitVec.getLsbD,Nat.testBit_eq_decide_div_mod_eq];have:((x.toNat / 2 ^ k.toNat:Nat):Int).tmod 2=((x.toNat / 2 ^ k.toNat % 2:Nat):Int):=by rw[Int.tmod_eq_emod_of_nonneg (Int.natCast_nonneg _)];omega
 rw[this]
 by_cases hb:x.toNat / 2 ^ k.toNat % 2=1
 ·rw[hb];simp
 ·have:x.toNat / 2 ^ k.toNat % 2=0:=by omega
  rw[this];simp
def zj(a b:Nat):ICode:=.r [.n 16 6,.a 17 16 1,.n 6 17]
def zk(a b:Nat):ICode:=.seq (.reg true [.n 40 5,.n 41 6,.i 42 1 40 41,.d 43 42,.n 44 43,.y 45 7 44,.p 46 44 45,.n 47 46,.y 48 4 47,.y 49 6 47,.g 50 (.iAddrS 1 (.t 48) (.t 49)) 47 true,.j 51 50 47 true,.y 52 0 47,.y 53 6 47,.g 54 (.iAddrS 4 (.t 52) (.t 53)) 47 true,.h 55 3 54 47 true,.j 56 55 47 true,.g 57 (.bin .shr (.t 51) (.t 56)) 47 true,.g 58 (.bin .rem (.t 57) (.c (.i .u16 2))) 47 true,.g 59 (.bin .eql (.t 58) (.c (.i .u16 0))) 47 true,.p 60 47 59]) (.cond (.t 60) (.r [.n 61 3,.n 62 6,.q 63 (.buildS 1 [.i .i64 0] [(0,1,(.t 62))]),.q 64 (.app 1 8 true (.t 61) (.t 63)),.n 3 64]) (.skip))
def xB(a b:Nat):IFn:=⟨[.tmp 2],.seq (.r [.m 2 .N]) (.seq (.r [.m 3 .N]) (.seq (.r [.n 8 0,.l 9 a [.t 8],.n 10 0,.l 11 b [.t 10],.n 4 9,.n 5 11]) (.seq (.seq (.r [.m 6 (.k 0)]) (.blk 0 (.loop (.seq (.seq (.r [.n 12 6,.n 13 4,.e 14 13,.s 15 12 14]) (.cond (.t 15) (.skip) (.exit 0))) (.seq (.blk 1 (.seq (.r [.n 18 0,.n 19 6,.i 20 4 18 19,.f 21 0 20,.d 22 21,.q 23 (.bin .eql (.t 22) (.c (.i .u16 96))),.n 24 23,.z 25 0 24,.z 26 6 24,.g 27 (.iAddrS 4 (.t 25) (.t 26)) 24 false,.h 28 0 27 24 false,.j 29 28 24 false,.g 30 (.bin .eql (.t 29) (.c (.i .u16 97))) 24 false,.o 31 24 30,.n 32 31,.y 33 0 32,.y 34 6 32,.g 35 (.iAddrS 4 (.t 33) (.t 34)) 32 true,.h 36 3 35 32 true,.j 37 36 32 true,.g 38 (.bin .lss (.t 37) (.c (.i .u32 16))) 32 true,.p 39 32 38,.n 7 39]) (.cut (zk a b)))) (.cut (zj a b))))))) (.seq (.r [.n 65 3,.n 2 65]) (.ret)))))⟩
set_option maxHeartbeats 1000000 in
theorem qoo{g1 g2:Nat}(hc:qt P f (xB g1 g2)=true)
  (h1:∀p:List Ins,p.length<=4096->(∀i ∈ p,InsOk i)->qf P g1 [.fz p.length (rP p)] (.fz p.length (rW (qab p))))
  (h2:∀p:List Ins,p.length<=4096->(∀i ∈ p,InsOk i)->qf P g2 [.fz p.length (rP p)] (.fz p.length (rTt (kT p.length 0 p (st0 p.length)))))
  (p:List Ins) (hp:p.length<=4096) (hi:∀i ∈ p,InsOk i) (hsl:(qab p).length=p.length) (hrl:(kT p.length 0 p (st0 p.length)).length=p.length):qf P f [.fz p.length (rP p)] (.fz (qbh p).length (rNt (qbh p))):=by
 refine qf.mk hc (by simp[qw,clo,qb]) ?_;simp only[xB,vI,simprocAttr];simp (decide:=true) only [↓vS,vT,simprocAttr];refine (h1 p hp hi).sc ?_;simp (decide:=true) only [↓vS,vT,simprocAttr];refine (h2 p hp hi).sc ?_;simp (decide:=true) only [↓vS,vT,simprocAttr];unfold qbh;generalize qab p=sur at hsl ⊢;generalize kT p.length 0 p (st0 p.length)=rch at hrl ⊢
 refine SL.loop (α:=Nat×List Nat) (fun a=>[(0,.fz p.length (rP p)),(3,.own 0 a.2.length),(4,.fz p.length (rW sur)),(5,.fz p.length (rTt rch)),(6,.i .i64 (a.1:Int))]) (fun a=>[.cells 1 true true (rNt a.2)])
  (fun a=>a.1<=p.length∧a.2.length<=a.1∧qac rch sur a.1 (p.drop a.1) a.2=qac rch sur 0 p []) (fun a=>p.length-a.1) (0,[]) [99] ?_ ?_ ?_ rfl ?_ ?_
 ·simp[vw,qb,qn,qh]
 ·simp[vw]
 ·simp
 ·exact⟨Nat.zero_le _,Nat.le_refl _,rfl⟩
 rintro⟨j,l⟩ ⟨hj,hl,hI⟩ G ih;simp only at hj hl hI;simp only[vI,simprocAttr]
 by_cases hlt:j<p.length
 ·obtain⟨i,hpi⟩:∃i,p[j]?=some i:=⟨_,List.getElem?_eq_getElem hlt⟩;have hii:=hi i (List.mem_of_getElem? hpi)
  have hdr:p.drop j=i::p.drop (j+1):=by
   obtain⟨hh,he⟩:=List.getElem?_eq_some_iff.1 hpi;rw[List.drop_eq_getElem_cons hh,he]
  obtain⟨b,hb⟩:∃b,rch[j]?=some b:=⟨_,List.getElem?_eq_getElem (by omega)⟩;obtain⟨y,hy⟩:∃y,sur[j]?=some y:=⟨_,List.getElem?_eq_getElem (by omega)⟩;have hI2:qac rch sur (j+1) (p.drop (j+1)) (if unC rch sur j i=true then l++[j] else l)=qac rch sur 0 p []:=by rw[← hI,hdr];rfl
  have hw1:IntKind.wrap .i64 ((j:Int)+1)=((j+1:Nat):Int):=by rw[qo (by omega) (by omega)];omega
  have g0:=zI (f:=qv) (m:=4) zl hpi (i:=0) (by omega);have g3:=zI (f:=qv) (m:=4) zl hpi (i:=3) (by omega);rw[show p.flatMap qv=rP p from rfl] at g0 g3
  simp only[qv,Nat.add_zero,List.getElem?_cons_zero,List.getElem?_cons_succ] at g0 g3
  have fin:∀l2:List Nat,l2.length<=j+1->qac rch sur (j+1) (p.drop (j+1)) l2=qac rch sur 0 p []->∀Qc:X->Tr AV->Hp->Prop,(∀t h,G t h->Qc .normal t h)->∀{t':Tr AV} {h':Hp},Wk 0 t' h' (mkT [(0,.fz p.length (rP p)),(3,.own 0 l2.length),(4,.fz p.length (rW sur)),(5,.fz p.length (rTt rch)),(6,.i .i64 (j:Int))]) (mkH 0 [.cells 1 true true (rNt l2)])->S P 0 (zj g1 g2) Qc t' h':=by
   intro l2 e1 e2 Qc hQc t' h' hw;refine S.weak hw (qA ?_);simp only[zj,vI,simprocAttr];simp (decide:=true) only [↓vS,vT,simprocAttr,hw1];refine hQc _ _ (ih (j+1,l2) ⟨hlt,e1,e2⟩ (by simp only;omega) _ _ (Wk.mk _ _ [0] ?_ ?_ ?_ rfl))
   ·simp[vw,qb,qn,qh]
   ·simp[vw,qd,qp]
   ·simp
  have c40:∀Qc:X->Tr AV->Hp->Prop,(∀l2 t'' h'',l2.length<=j+1->qac rch sur (j+1) (p.drop (j+1)) l2=qac rch sur 0 p []->Wk 0 t'' h'' (mkT [(0,.fz p.length (rP p)),(3,.own 0 l2.length),(4,.fz p.length (rW sur)),(5,.fz p.length (rTt rch)),(6,.i .i64 (j:Int))]) (mkH 0 [.cells 1 true true (rNt l2)])->Qc .normal t'' h'')->∀{t':Tr AV} {h':Hp},Wk 0 t' h' (mkT [(0,.fz p.length (rP p)),(3,.own 0 l.length),(4,.fz p.length (rW sur)),(5,.fz p.length (rTt rch)),(6,.i .i64 (j:Int)),(7,.b (rdC i))]) (mkH 0 [.cells 1 true true (rNt l)])->S P 0 (zk g1 g2) Qc t' h':=by
   intro Qc hQc t' h' hw;refine S.weak hw (qA ?_);have h20:(2:Int)≠0:=by decide
   have hr1:l.length+1<=qe:=by simp only[qe];omega
   have hr2:(l.length+1)*8<=qe:=by simp only[qe];omega
   have hap:rNt l++[.i .i64 (j:Int)]=rNt (l++[j]):=by rw[← qev];rfl
   have hll:(rNt l).length=l.length:=qb7;have hk0:=hii.k0;unfold unC at hI2;simp only[List.getD_eq_getElem?_getD,hb,hy,Option.getD_some] at hI2;simp only[zk,vI,simprocAttr];refine jp ?_;cases b with
   | false =>
    simp (decide:=true) only [↓vS,vT,simprocAttr,hlt,Nat.mul_one,zY,hb,Option.map_some];rw[if_neg (by simp)] at hI2;refine hQc l _ _ (by omega) hI2 (Wk.mk _ _ [0] ?_ ?_ ?_ rfl)
    ·simp[vw,qb,qn,qh]
    ·simp[vw,qd,qp]
    ·simp
   | true =>
   cases hrc:rdC i with
   | false =>
    rw[hrc] at hI2;simp (decide:=true) only [↓vS,vT,simprocAttr,hlt,Nat.mul_one,zY,hb,Option.map_some];rw[if_neg (by simp)] at hI2;refine hQc l _ _ (by omega) hI2 (Wk.mk _ _ [0] ?_ ?_ ?_ rfl)
    ·simp[vw,qb,qn,qh]
    ·simp[vw,qd,qp]
    ·simp
   | true =>
   have hk16:i.k<16:=by unfold rdC at hrc;simp at hrc;exact hrc.2
   have hbt:=qoK y hk0 hk16;rw[hrc] at hI2;cases hbb:y.getLsbD i.k.toNat with
   | true =>
    rw[hbb] at hI2 hbt;rw[if_pos rfl] at hbt;simp (decide:=true) only [↓vS,vT,simprocAttr,hlt,Nat.mul_one,zY,hb,Option.map_some,yU,hy,g3,hk0,↓jB h20,hbt];rw[if_neg (by simp)] at hI2;refine hQc l _ _ (by omega) hI2 (Wk.mk _ _ [0] ?_ ?_ ?_ rfl)
    ·simp[vw,qb,qn,qh]
    ·simp[vw,qd,qp]
    ·simp
   | false =>
    rw[hbb] at hI2 hbt;rw[if_neg (by simp)] at hbt;rw[if_pos (by simp)] at hI2;simp (decide:=true) only [↓vS,vT,simprocAttr,hlt,Nat.mul_one,zY,hb,Option.map_some,yU,hy,g3,hk0,↓jB h20,hbt,hr1,hr2,hll,hap];refine hQc (l++[j]) _ _ (by simp;omega) hI2 (Wk.mk _ _ [2] ?_ ?_ ?_ rfl)
    ·simp[vw,qb,qn,qh]
    ·simp[vw,qd,qp]
    ·simp
  clear ih
  by_cases hk16:i.k<16
  ·by_cases e1:i.code=96
   ·have hrc:rdC i=true:=by unfold rdC;simp[e1,hk16]
    simp (decide:=true) only [↓vS,vT,simprocAttr,hlt,g0,g3,e1,hk16];refine c40 _ ?_ (Wk.mk _ _ [0] ?_ ?_ ?_ rfl)
    ·intro l2 t'' h'' q1 q2 hw2;simp (decide:=true) only [↓vS,vT,simprocAttr];exact fin l2 q1 q2 _ (fun _ _ h=>h) hw2
    ·simp[vw,qb,qn,qh,hrc]
    ·simp[vw,qd,qp]
    ·simp
   by_cases e2:i.code=97
   ·have hrc:rdC i=true:=by unfold rdC;simp[e2,hk16]
    simp (decide:=true) only [↓vS,vT,simprocAttr,hlt,g0,g3,e1,e2,hk16];refine c40 _ ?_ (Wk.mk _ _ [0] ?_ ?_ ?_ rfl)
    ·intro l2 t'' h'' q1 q2 hw2;simp (decide:=true) only [↓vS,vT,simprocAttr];exact fin l2 q1 q2 _ (fun _ _ h=>h) hw2
    ·simp[vw,qb,qn,qh,hrc]
    ·simp[vw,qd,qp]
    ·simp
   have hrc:rdC i=false:=by unfold rdC;simp[e1,e2]
   simp (decide:=true) only [↓vS,vT,simprocAttr,hlt,g0,g3,e1,e2];refine c40 _ ?_ (Wk.mk _ _ [0] ?_ ?_ ?_ rfl)
   ·intro l2 t'' h'' q1 q2 hw2;simp (decide:=true) only [↓vS,vT,simprocAttr];exact fin l2 q1 q2 _ (fun _ _ h=>h) hw2
   ·simp[vw,qb,qn,qh,hrc]
   ·simp[vw,qd,qp]
   ·simp
  ·have hrc:rdC i=false:=by unfold rdC;simp[hk16]
   by_cases e1:i.code=96
   ·simp (decide:=true) only [↓vS,vT,simprocAttr,hlt,g0,g3,e1,hk16];refine c40 _ ?_ (Wk.mk _ _ [0] ?_ ?_ ?_ rfl)
    ·intro l2 t'' h'' q1 q2 hw2;simp (decide:=true) only [↓vS,vT,simprocAttr];exact fin l2 q1 q2 _ (fun _ _ h=>h) hw2
    ·simp[vw,qb,qn,qh,hrc]
    ·simp[vw,qd,qp]
    ·simp
   by_cases e2:i.code=97
   ·simp (decide:=true) only [↓vS,vT,simprocAttr,hlt,g0,g3,e1,e2,hk16];refine c40 _ ?_ (Wk.mk _ _ [0] ?_ ?_ ?_ rfl)
    ·intro l2 t'' h'' q1 q2 hw2;simp (decide:=true) only [↓vS,vT,simprocAttr];exact fin l2 q1 q2 _ (fun _ _ h=>h) hw2
    ·simp[vw,qb,qn,qh,hrc]
    ·simp[vw,qd,qp]
    ·simp
   simp (decide:=true) only [↓vS,vT,simprocAttr,hlt,g0,g3,e1,e2];refine c40 _ ?_ (Wk.mk _ _ [0] ?_ ?_ ?_ rfl)
   ·intro l2 t'' h'' q1 q2 hw2;simp (decide:=true) only [↓vS,vT,simprocAttr];exact fin l2 q1 q2 _ (fun _ _ h=>h) hw2
   ·simp[vw,qb,qn,qh,hrc]
   ·simp[vw,qd,qp]
   ·simp
 ·obtain rfl:j=p.length:=by omega
  rw[List.drop_length] at hI;have hI:l=qac rch sur 0 p []:=hI;rw[← hI];simp (decide:=true) only [↓vS,vT,simprocAttr,hlt];simp[vZ,vP,Tr.get_set,zC qp];intro h0;rw[h0];rfl
end Go.Kc
end
section
/- What the document says is wrong with an instruction, with a program. Condition: the functions' texts are these. -/
namespace Go.Kc
variable {P:Program} {f:Nat}
def spN:List (List UInt8):=[[108,100,97,98,115],[108,100,109],[108,100,120,109],[115,116],[115,116,120],[100,105,118],[108,115,104],[114,115,104],[106,97]]
def spC:List Int:=[32,96,97,2,3,52,100,116,5]
theorem qfT:∀x ∈ xm,spC.contains x.1=false->spN.contains x.2.1=false∧x.2.1≠[]∧x.2.2≠2:=by decide
theorem qbl{c:Int}{x:Int×List UInt8×Int}(h:zV c=some x):x ∈ xm∧x.1=c:=by
 unfold zV at h;have h1:=List.mem_of_find?_eq_some h;have h2:=List.find?_some h;exact⟨h1,by simpa using h2⟩
def jr(a:Nat):IFn:=⟨[.tmp 4],.seq (.r [.q 2 (.box (.t 0)),.m 4 (.k 0)]) (.seq (.seq (.r [.n 6 1,.w 7 .lss 6 0]) (.cond (.t 7) (.r [.m 1 (.k 0)]) (.skip))) (.seq (.r [.f 8 0 2,.d 9 8,.l 10 a [.t 9],.q 5 (.alloc [.i .u16 0,.s [],.i .u8 0]),.u (.store 3 (.t 5) (.t 10))]) (.seq (.seq (.r [.f 11 1 5,.d 12 11,.q 13 (.bin .eql (.t 12) (.c (.s [])))]) (.cond (.t 13) (.seq (.r [.m 4 (.k 40)]) (.ret)) (.skip))) (.seq (.seq (.r [.f 14 1 5,.d 15 14]) (.blk 0 (.seq (.r [.q 17 (.bin .eql (.t 15) (.c (.s [108,100,97,98,115]))),.n 16 17]) (.cond (.t 16) (.seq (.r [.f 18 3 2,.d 19 18,.q 20 (.bin .gtr (.t 19) (.c (.i .u32 60))),.n 21 20,.h 22 3 2 21 false,.j 23 22 21 false,.g 24 (.bin .rem (.t 23) (.c (.i .u32 4))) 21 false,.g 25 (.bin .gtr (.t 24) (.c (.i .u32 0))) 21 false,.o 26 21 25]) (.cond (.t 26) (.seq (.r [.m 4 (.k 41)]) (.ret)) (.skip))) (.seq (.seq (.r [.q 28 (.bin .eql (.t 15) (.c (.s [108,100,109]))),.n 27 28]) (.cond (.t 27) (.skip) (.seq (.r [.q 29 (.bin .eql (.t 15) (.c (.s [108,100,120,109]))),.n 27 29]) (.cond (.t 27) (.skip) (.seq (.r [.q 30 (.bin .eql (.t 15) (.c (.s [115,116]))),.n 27 30]) (.cond (.t 27) (.skip) (.r [.q 31 (.bin .eql (.t 15) (.c (.s [115,116,120]))),.n 27 31]))))))) (.cond (.t 27) (.seq (.r [.f 32 3 2,.d 33 32,.q 34 (.bin .gtr (.t 33) (.c (.i .u32 15)))]) (.cond (.t 34) (.seq (.r [.m 4 (.k 43)]) (.ret)) (.skip))) (.seq (.r [.q 36 (.bin .eql (.t 15) (.c (.s [100,105,118]))),.n 35 36]) (.cond (.t 35) (.seq (.r [.f 37 3 2,.d 38 37,.q 39 (.bin .eql (.t 38) (.c (.i .u32 0)))]) (.cond (.t 39) (.seq (.r [.m 4 (.k 44)]) (.ret)) (.skip))) (.seq (.seq (.r [.q 41 (.bin .eql (.t 15) (.c (.s [108,115,104]))),.n 40 41]) (.cond (.t 40) (.skip) (.r [.q 42 (.bin .eql (.t 15) (.c (.s [114,115,104]))),.n 40 42]))) (.cond (.t 40) (.seq (.r [.f 43 3 2,.d 44 43,.q 45 (.bin .gtr (.t 44) (.c (.i .u32 31)))]) (.cond (.t 45) (.seq (.r [.m 4 (.k 45)]) (.ret)) (.skip))) (.seq (.r [.q 47 (.bin .eql (.t 15) (.c (.s [106,97]))),.n 46 47]) (.cond (.t 46) (.seq (.seq (.r [.f 48 3 2,.d 49 48,.q 50 (.cvInt .i64 (.t 49)),.n 51 1,.b 52 .geq 50 51]) (.cond (.t 52) (.seq (.r [.m 4 (.k 42)]) (.ret)) (.skip))) (.seq (.r [.m 4 (.k 0)]) (.ret))) (.skip))))))))))))) (.seq (.seq (.r [.f 53 2 5,.d 54 53,.q 55 (.bin .eql (.t 54) (.c (.i .u8 4))),.n 56 55,.h 57 1 2 56 true,.j 58 57 56 true,.g 59 (.cvInt .i64 (.t 58)) 56 true,.y 60 1 56,.g 61 (.bin .geq (.t 59) (.t 60)) 56 true,.y 62 61 56,.h 63 2 2 62 false,.j 64 63 62 false,.g 65 (.cvInt .i64 (.t 64)) 62 false,.z 66 1 62,.g 67 (.bin .geq (.t 65) (.t 66)) 62 false,.g 68 (.pick (.t 62) .T (.t 67)) 56 true,.p 69 56 68]) (.cond (.t 69) (.seq (.r [.m 4 (.k 42)]) (.ret)) (.skip))) (.seq (.r [.m 4 (.k 0)]) (.ret)))))))⟩
set_option maxRecDepth 8000 in
set_option maxHeartbeats 4000000 in
theorem qra{g:Nat}(hc:qt P f (jr g)=true)(hg:qgs P g)(i:Ins)(hi:InsOk i)(n:Nat)(hn:n<=5000):qf P f [.agg (qv i),.i .i64 n] (.i .i64 (QH i n)):=by
 refine qf.mk hc rfl ?_;have hn0:¬(n:Int)<0:=by omega
 have h40:(4:Int)≠0:=by decide
 have hk0:=hi.k0;have ht:i.k.tmod 4=i.k % 4:=Int.tmod_eq_emod_of_nonneg hk0;have hk:IntKind.wrap .i64 i.k=i.k:=by have:=hi.k1;exact qo (by omega) (by omega)
 have hjt:IntKind.wrap .i64 i.jt=i.jt:=by have:=hi.t0;have:=hi.t1;exact qo (by omega) (by omega)
 have hjf:IntKind.wrap .i64 i.jf=i.jf:=by have:=hi.f0;have:=hi.f1;exact qo (by omega) (by omega)
 have hgc:=hg i.code;simp only[jr,qv,vI,simprocAttr];simp (decide:=true) only [↓vS,vT,simprocAttr,hn0];refine hgc.sc ?_;cases hcm:zV i.code with
 | none =>
  have hb:qbK i=true:=by unfold qbK xI;rw[hcm];rfl
  unfold QH;rw[if_pos hb];simp (decide:=true) only [↓vS,vT,simprocAttr,xU,zE];simp[vZ]
 | some x =>
  obtain⟨hxm,hxc⟩:=qbl hcm;have hb1:qbK i=false:=by unfold qbK xI;rw[hcm];rfl
  have hcl:qJ i.code=x.2.2:=by unfold qJ;rw[hcm];rfl
  unfold QH;rw[hb1];simp only[xU,zZ]
  by_cases hs:spC.contains x.1=false
  ·obtain⟨hn1,hn2,hn3⟩:=qfT x hxm hs;rw[hxc] at hs;simp[spC] at hs;obtain⟨s1,s2,s3,s4,s5,s6,s7,s8,s9⟩:=hs;simp[spN] at hn1;obtain⟨m1,m2,m3,m4,m5,m6,m7,m8,m9⟩:=hn1;have hb2:jv i=false:=by unfold jv;simp[s1]
   have hb3:j6 i=false:=by unfold j6;simp[s2,s3,hcl,hn3]
   have hb4:j7 i=false:=by unfold j7;simp[s6]
   have hb5:j8 i=false:=by unfold j8;simp[s7,s8]
   have hb6:j9 i n=(decide (x.2.2=4)&&decide ((n:Int)<=hiM i)):=by unfold j9;rw[if_neg s9,hcl]
   rw[hb2,hb3,hb4,hb5,hb6];generalize x.2.1=nm at *
   by_cases h4:x.2.2=4
   ·by_cases hj1:(n:Int)<=i.jt
    ·have hh:(n:Int)<=hiM i:=by unfold hiM;split<;>omega
     simp (decide:=true) only [↓vS,vT,simprocAttr,hn2,m1,m2,m3,m4,m5,m6,m7,m8,m9,h4,hjt,hj1];simp[vZ,h4,hh]
    ·by_cases hj2:(n:Int)<=i.jf
     ·have hh:(n:Int)<=hiM i:=by unfold hiM;split<;>omega
      simp (decide:=true) only [↓vS,vT,simprocAttr,hn2,m1,m2,m3,m4,m5,m6,m7,m8,m9,h4,hjt,hj1,hjf,hj2];simp[vZ,h4,hh]
     ·have hh:¬(n:Int)<=hiM i:=by unfold hiM;split<;>omega
      simp (decide:=true) only [↓vS,vT,simprocAttr,hn2,m1,m2,m3,m4,m5,m6,m7,m8,m9,h4,hjt,hj1,hjf,hj2];simp[vZ,h4,hh]
   ·simp (decide:=true) only [↓vS,vT,simprocAttr,hn2,m1,m2,m3,m4,m5,m6,m7,m8,m9,h4];simp[vZ,h4]
  ·have hs':i.code=32∨i.code=96∨i.code=97∨i.code=2∨i.code=3∨i.code=52∨i.code=100∨i.code=116∨i.code=5:=by
    rw[hxc] at hs;simp only[spC,Bool.not_eq_false,List.contains_iff_mem,List.mem_cons,List.not_mem_nil,or_false] at hs;exact hs
   clear hs;rcases hs' with hcd|hcd|hcd|hcd|hcd|hcd|hcd|hcd|hcd
   ·have hx:x=(32,[108,100,97,98,115],1):=by rw[hcd] at hcm;exact Option.some.inj (hcm.symm.trans (by decide))
    subst hx;rw[hcd] at hcl;simp only at hcl
    by_cases hq:60<i.k
    ·simp (decide:=true) only [↓vS,vT,simprocAttr,hcd,hq]
     by_cases h64:64<=i.k
     ·simp[vZ,jv,hcd,h64]
     ·have:¬i.k % 4=0:=by omega
      simp[vZ,jv,hcd,this]
    by_cases hq2:i.k % 4=0
    ·have h64:¬64<=i.k:=by omega
     simp (decide:=true) only [↓vS,vT,simprocAttr,hcd,hq,↓jB h40,ht,hq2];simp[vZ,jv,j6,j7,j8,j9,hcd,hcl,hq2,h64]
    ·have hq3:0<i.k % 4:=by omega
     simp (decide:=true) only [↓vS,vT,simprocAttr,hcd,hq,↓jB h40,ht,hq3];simp[vZ,jv,hcd,hq2]
   ·have hx:x=(96,[108,100,109],1):=by rw[hcd] at hcm;exact Option.some.inj (hcm.symm.trans (by decide))
    subst hx;rw[hcd] at hcl;simp only at hcl
    by_cases hq:15<i.k
    ·have hq2:16<=i.k:=by omega
     simp (decide:=true) only [↓vS,vT,simprocAttr,hcd,hq,hk];simp[vZ,jv,j6,j7,j8,j9,hcd,hcl,hq,hq2]
    ·have hq2:¬16<=i.k:=by omega
     simp (decide:=true) only [↓vS,vT,simprocAttr,hcd,hq,hk];simp[vZ,jv,j6,j7,j8,j9,hcd,hcl,hq,hq2]
   ·have hx:x=(97,[108,100,120,109],1):=by rw[hcd] at hcm;exact Option.some.inj (hcm.symm.trans (by decide))
    subst hx;rw[hcd] at hcl;simp only at hcl
    by_cases hq:15<i.k
    ·have hq2:16<=i.k:=by omega
     simp (decide:=true) only [↓vS,vT,simprocAttr,hcd,hq,hk];simp[vZ,jv,j6,j7,j8,j9,hcd,hcl,hq,hq2]
    ·have hq2:¬16<=i.k:=by omega
     simp (decide:=true) only [↓vS,vT,simprocAttr,hcd,hq,hk];simp[vZ,jv,j6,j7,j8,j9,hcd,hcl,hq,hq2]
   ·have hx:x=(2,[115,116],2):=by rw[hcd] at hcm;exact Option.some.inj (hcm.symm.trans (by decide))
    subst hx;rw[hcd] at hcl;simp only at hcl
    by_cases hq:15<i.k
    ·have hq2:16<=i.k:=by omega
     simp (decide:=true) only [↓vS,vT,simprocAttr,hcd,hq,hk];simp[vZ,jv,j6,j7,j8,j9,hcd,hcl,hq,hq2]
    ·have hq2:¬16<=i.k:=by omega
     simp (decide:=true) only [↓vS,vT,simprocAttr,hcd,hq,hk];simp[vZ,jv,j6,j7,j8,j9,hcd,hcl,hq,hq2]
   ·have hx:x=(3,[115,116,120],2):=by rw[hcd] at hcm;exact Option.some.inj (hcm.symm.trans (by decide))
    subst hx;rw[hcd] at hcl;simp only at hcl
    by_cases hq:15<i.k
    ·have hq2:16<=i.k:=by omega
     simp (decide:=true) only [↓vS,vT,simprocAttr,hcd,hq,hk];simp[vZ,jv,j6,j7,j8,j9,hcd,hcl,hq,hq2]
    ·have hq2:¬16<=i.k:=by omega
     simp (decide:=true) only [↓vS,vT,simprocAttr,hcd,hq,hk];simp[vZ,jv,j6,j7,j8,j9,hcd,hcl,hq,hq2]
   ·have hx:x=(52,[100,105,118],3):=by rw[hcd] at hcm;exact Option.some.inj (hcm.symm.trans (by decide))
    subst hx;rw[hcd] at hcl;simp only at hcl
    by_cases hq:i.k=0
    ·have hq2:=hq;simp (decide:=true) only [↓vS,vT,simprocAttr,hcd,hq,hk];simp[vZ,jv,j6,j7,j8,j9,hcd,hcl,hq,hq2]
    ·have hq2:=hq;simp (decide:=true) only [↓vS,vT,simprocAttr,hcd,hq,hk];simp[vZ,jv,j6,j7,j8,j9,hcd,hcl,hq,hq2]
   ·have hx:x=(100,[108,115,104],3):=by rw[hcd] at hcm;exact Option.some.inj (hcm.symm.trans (by decide))
    subst hx;rw[hcd] at hcl;simp only at hcl
    by_cases hq:31<i.k
    ·have hq2:=hq;simp (decide:=true) only [↓vS,vT,simprocAttr,hcd,hq,hk];simp[vZ,jv,j6,j7,j8,j9,hcd,hcl,hq,hq2]
    ·have hq2:=hq;simp (decide:=true) only [↓vS,vT,simprocAttr,hcd,hq,hk];simp[vZ,jv,j6,j7,j8,j9,hcd,hcl,hq,hq2]
   ·have hx:x=(116,[114,115,104],3):=by rw[hcd] at hcm;exact Option.some.inj (hcm.symm.trans (by decide))
    subst hx;rw[hcd] at hcl;simp only at hcl
    by_cases hq:31<i.k
    ·have hq2:=hq;simp (decide:=true) only [↓vS,vT,simprocAttr,hcd,hq,hk];simp[vZ,jv,j6,j7,j8,j9,hcd,hcl,hq,hq2]
    ·have hq2:=hq;simp (decide:=true) only [↓vS,vT,simprocAttr,hcd,hq,hk];simp[vZ,jv,j6,j7,j8,j9,hcd,hcl,hq,hq2]
   ·have hx:x=(5,[106,97],4):=by rw[hcd] at hcm;exact Option.some.inj (hcm.symm.trans (by decide))
    subst hx;rw[hcd] at hcl;simp only at hcl
    by_cases hq:(n:Int)<=i.k
    ·have hq2:=hq;simp (decide:=true) only [↓vS,vT,simprocAttr,hcd,hq,hk];simp[vZ,jv,j6,j7,j8,j9,hcd,hcl,hq,hq2]
    ·have hq2:=hq;simp (decide:=true) only [↓vS,vT,simprocAttr,hcd,hq,hk];simp[vZ,jv,j6,j7,j8,j9,hcd,hcl,hq,hq2]
end Go.Kc
end
section
/- What the document says is wrong with a program. Condition: the functions' texts are these. -/
namespace Go.Kc
variable {P:Program} {f:Nat}
def qkK(P:Program)(f:Nat):Prop:=∀p:List Ins,(∀i ∈ p,InsOk i)->p.length<=5000->qf P f [.fz p.length (rP p)] (.tup [.i .i64 ((atU p (qbh p)).1:Int),.i .i64 (atU p (qbh p)).2])
def jM(a b c:Nat):IFn:=⟨[.tmp 2,.tmp 3],.seq (.r [.m 2 (.k 0),.m 3 (.k 0)]) (.seq (.seq (.r [.n 7 0,.e 8 7,.w 9 .eql 8 0,.n 10 9,.z 11 0 10,.g 12 (.len false (.t 11)) 10 false,.g 13 (.bin .gtr (.t 12) (.k 4096)) 10 false,.o 14 10 13]) (.cond (.t 14) (.seq (.r [.m 2 (.k 0),.m 3 (.k 60)]) (.ret)) (.skip))) (.seq (.seq (.r [.m 4 (.k 0)]) (.blk 0 (.loop (.seq (.seq (.r [.n 15 4,.n 16 0,.e 17 16,.s 18 15 17]) (.cond (.t 18) (.skip) (.exit 0))) (.seq (.blk 1 (.seq (.r [.n 21 0,.n 22 4,.i 23 4 21 22,.v 24 4 23,.n 25 0,.e 26 25,.w 27 .sub 26 1,.n 28 4,.b 29 .sub 27 28,.l 30 a [.t 24,.t 29],.n 5 30]) (.seq (.r [.n 31 5,.w 32 .neq 31 0]) (.cond (.t 32) (.seq (.r [.n 33 4,.n 34 5,.n 2 33,.n 3 34]) (.ret)) (.skip))))) (.r [.n 19 4,.a 20 19 1,.n 4 20])))))) (.seq (.seq (.r [.n 35 0,.n 36 0,.e 37 36,.w 38 .sub 37 1,.i 39 4 35 38,.f 40 0 39,.d 41 40,.l 42 b [.t 41],.q 43 (.fld 2 none (.t 42)),.q 44 (.bin .neq (.t 43) (.c (.i .u8 5)))]) (.cond (.t 44) (.seq (.r [.n 45 0,.e 46 45,.w 47 .sub 46 1,.n 2 47,.m 3 (.k 46)]) (.ret)) (.skip))) (.seq (.r [.n 48 0,.l 49 c [.t 48],.n 6 49]) (.seq (.seq (.r [.n 50 6,.e 51 50,.w 52 .gtr 51 0]) (.cond (.t 52) (.seq (.r [.n 53 6,.q 54 (.iAddrS 1 (.t 53) (.k 0)),.d 55 54,.n 2 55,.m 3 (.k 61)]) (.ret)) (.skip))) (.seq (.r [.m 2 (.k 0),.m 3 (.k 0)]) (.ret)))))))⟩
set_option maxHeartbeats 1000000 in
theorem qrb{g1 g2 g3:Nat}(hc:qt P f (jM g1 g2 g3)=true)(h1:∀i,InsOk i->∀n:Nat,n<=5000->qf P g1 [.agg (qv i),.i .i64 (n:Int)] (.i .i64 (QH i n)))(h2:qgs P g2)
  (h3:∀p:List Ins,p.length<=4096->(∀i ∈ p,InsOk i)->qf P g3 [.fz p.length (rP p)] (.fz (qbh p).length (rNt (qbh p)))):qkK P f:=by
 intro p hi hp;refine qf.mk hc (by simp[qw,clo,qb]) ?_;unfold atU;simp only[jM,vI,simprocAttr]
 by_cases hz:p.length=0
 ·have hz':(p.length:Int)=0:=by omega
  have hp0:p=[]:=List.eq_nil_of_length_eq_zero hz;rw[if_pos (.inl hz)];subst hp0;simp (decide:=true) only [↓vS,vT,simprocAttr,hz',List.length_nil];simp[vZ]
 have hz':¬(p.length:Int)=0:=by omega
 by_cases hb:4096<p.length
 ·have hb':(4096:Int)<p.length:=by omega
  rw[if_pos (.inr hb)];simp (decide:=true) only [↓vS,vT,simprocAttr,hz',hb'];simp[vZ]
 have hb':¬(4096:Int)<p.length:=by omega
 rw[if_neg (by omega)];have hl1:IntKind.wrap .i64 ((p.length:Int)-1)=((p.length-1:Nat):Int):=by rw[qo (by omega) (by omega)];omega
 simp (decide:=true) only [↓vS,vT,simprocAttr,hz',hb'];refine SL.loop (α:=Nat) (fun j=>[(0,.fz p.length (rP p)),(4,.i .i64 (j:Int))]) (fun _=>[]) (fun j=>j<=p.length∧yr p.length j (p.drop j)=yr p.length 0 p) (fun j=>p.length-j) 0 [] ?_ ?_ ?_ rfl ?_ ?_
 ·simp[vw,qb]
 ·trivial
 ·simp
 ·exact⟨Nat.zero_le _,rfl⟩
 rintro j ⟨hj,hI⟩ G ih;simp only[vI,simprocAttr]
 by_cases hlt:j<p.length
 ·obtain⟨i,hpi⟩:∃i,p[j]?=some i:=⟨_,List.getElem?_eq_getElem hlt⟩;have hii:=hi i (List.mem_of_getElem? hpi);have hel:=z5 (f:=qv) (m:=4) zl hpi;rw[show p.flatMap qv=rP p from rfl] at hel
  simp only[qv] at hel;have h4:j*4+4<=(rP p).length:=by rw[yT];omega
  have hdr:p.drop j=i::p.drop (j+1):=by
   obtain⟨hh,he⟩:=List.getElem?_eq_some_iff.1 hpi;rw[List.drop_eq_getElem_cons hh,he]
  rw[hdr,qar] at hI;have hw1:IntKind.wrap .i64 ((j:Int)+1)=((j+1:Nat):Int):=by rw[qo (by omega) (by omega)];omega
  have hw2:IntKind.wrap .i64 (((p.length-1:Nat):Int)-(j:Int))=((p.length-1-j:Nat):Int):=by rw[qo (by omega) (by omega)];omega
  have hone:=h1 i hii (p.length-1-j) (by omega);simp only[qv] at hone;simp (decide:=true) only [↓vS,vT,simprocAttr,hlt,hel,h4,hl1,hw2];refine hone.sc ?_
  by_cases h0:QH i (p.length-1-j)=0
  ·rw[if_pos h0] at hI;simp (decide:=true) only [↓vS,vT,simprocAttr,h0,hw1];refine ih (j+1) ⟨hlt,hI⟩ (by omega) _ _ (Wk.mk _ _ [] ?_ ?_ ?_ rfl)
   ·simp[vw,qb]
   ·trivial
   ·simp
  ·rw[if_neg h0] at hI;simp (decide:=true) only [↓vS,vT,simprocAttr,h0];rw[← hI];simp[vZ]
 ·obtain rfl:j=p.length:=by omega
  have hd:p.drop p.length=[]:=List.drop_eq_nil_of_le (by omega);rw[hd] at hI;simp only[yr] at hI;rw[← hI];obtain⟨i,hpi⟩:∃i,p[p.length-1]?=some i:=⟨_,List.getElem?_eq_getElem (by omega)⟩;have hlc:qcX p=i.code:=by unfold qcX;rw[List.getD_eq_getElem?_getD,hpi];rfl
  have hg:=zI (f:=qv) (m:=4) zl hpi (i:=0) (by omega);rw[show p.flatMap qv=rP p from rfl] at hg
  simp only[qv,Nat.add_zero,List.getElem?_cons_zero] at hg;have hlt2:p.length-1<p.length:=by omega
  have hcl:(xU (zV i.code)).length=3∧(xU (zV i.code))[2]?=some (.i .u8 (qJ i.code))∧qw (xU (zV i.code))=true:=by
   unfold qJ;cases zV i.code<;>exact⟨rfl,rfl,rfl⟩
  have hgc:=h2 i.code;generalize xU (zV i.code)=E at hcl hgc;obtain⟨he1,he2,he3⟩:=hcl;simp (decide:=true) only [↓vS,vT,simprocAttr,hlt,hlt2,hl1,hg];refine hgc.sc ?_
  by_cases h5:qJ i.code=5
  ·simp (decide:=true) only [↓vS,vT,simprocAttr,he2,h5];refine (h3 p (by omega) hi).sc ?_;rw[hlc];cases hu:qbh p with
   | nil =>
    simp (decide:=true) only [↓vS,vT,simprocAttr,List.length_nil];simp[vZ,h5]
   | cons a u =>
    have hgt2:0<(a::u).length:=by simp
    have hga:(rNt (a::u))[0]?=some (.i .i64 (a:Int)):=rfl;generalize (a::u).length=m at hgt2 ⊢;generalize rNt (a::u)=T at hga ⊢;have hgt:(0:Int)<(m:Int):=by omega
    simp (decide:=true) only [↓vS,vT,simprocAttr,hgt,hgt2,Nat.mul_one,hga];simp[vZ,h5]
  ·simp (decide:=true) only [↓vS,vT,simprocAttr,he2,h5,hl1];rw[hlc];simp[vZ,h5]
end Go.Kc
end
section
/- The plain law: both ways of asking which cells are sure come to the same. No condition. -/
namespace Go.Kc
def zd{σ:Type}(F:Nat->Ins->σ->σ):Nat->List Ins->σ->σ
 | _,[],st=>st
 | j,i::L,st=>zd F (j+1) L (F j i st)
theorem ya{σ:Type}(F:Nat->Ins->σ->σ):∀(L M:List Ins) (j:Nat) (st:σ),zd F j (L++M) st=zd F (j+L.length) M (zd F j L st)
 | [],_,_,_=>rfl
 | i::L,M,j,st=>by
  show zd F (j+1) (L++M) (F j i st)=zd F (j+(L.length+1)) M (zd F (j+1) L (F j i st));rw[ya F L M (j+1),show j+1+L.length=j+(L.length+1) from by omega]
theorem qdu{σ:Type}(F:Nat->Ins->σ->σ)(L:List Ins)(i:Ins)(st:σ):zd F 0 (L++[i]) st=F L.length i (zd F 0 L st):=by
 rw[ya,Nat.zero_add];rfl
theorem Qy{σ β:Type}(F:Nat->Ins->σ->σ)(obs:σ->β):∀(L:List Ins) (j:Nat) (st:σ),(∀k i st,j<=k->obs (F k i st)=obs st)->obs (zd F j L st)=obs st
 | [],_,_,_=>rfl
 | i::L,j,st,h=>by
  show obs (zd F (j+1) L (F j i st))=_;rw[Qy F obs L (j+1) _ (fun k i st hk=>h k i st (by omega)),h j i st (Nat.le_refl _)]
theorem qaE{σ β:Type}(F:Nat->Ins->σ->σ)(obs:σ->β):∀(L:List Ins) (j:Nat) (st:σ),(∀k i st,j<=k->k<j+L.length->obs (F k i st)=obs st)->obs (zd F j L st)=obs st
 | [],_,_,_=>rfl
 | i::L,j,st,h=>by
  show obs (zd F (j+1) L (F j i st))=_;rw[qaE F obs L (j+1) _ (fun k i st hk hk2=>h k i st (by omega) (by simp;omega)),h j i st (Nat.le_refl _) (by simp)]
theorem qla{n:Nat}:∀(L:List Ins) (j:Nat) (st:WSt),wkM n j L st=zd (stM n) j L st
 | [],_,_=>rfl
 | i::L,j,st=>qla L (j+1) _
def rcS(n j:Nat)(i:Ins)(r:List Bool):List Bool:=if r.getD j false=true then mkL (vb n i j) r else r
theorem qh0{n:Nat}:∀(L:List Ins) (j:Nat) (r:List Bool),kT n j L r=zd (rcS n) j L r
 | [],_,_=>rfl
 | i::L,j,r=>qh0 L (j+1) _
theorem qdQ{n c:Nat}:∀(L:List Ins) (j:Nat) (st:List Bool×List (BitVec 16)),ku n c j L st=zd (stS n c) j L st
 | [],_,_=>rfl
 | i::L,j,st=>qdQ L (j+1) _
def unS(rch:List Bool)(sur:List (BitVec 16))(j:Nat)(i:Ins)(l:List Nat):List Nat:=if unC rch sur j i=true then l++[j] else l
theorem qie{rch:List Bool}{sur:List (BitVec 16)}:∀(L:List Ins) (j:Nat) (l:List Nat),qac rch sur j L l=zd (unS rch sur) j L l
 | [],_,_=>rfl
 | i::L,j,l=>qie L (j+1) _
theorem qij{i:Ins}{j:Nat}:∀m ∈ zg i j,j<m:=by
 intro m hm;unfold zg at hm;split at hm
 ·cases hm
 split at hm
 ·split at hm
  ·simp at hm;omega
  ·split at hm<;>(simp at hm;omega)
 ·simp at hm;omega
theorem qj2{n j:Nat}{i:Ins}:∀m ∈ vb n i j,j<m:=fun m hm=>qij m ((List.takeWhile_sublist _).subset hm)
theorem qg7{n:Nat}{x:BitVec 16}:∀(L:List Nat) (st:List (BitVec 16)×List Bool),goM n x L st=goM n x (L.takeWhile fun m=>decide (m<n)) st
 | [],_=>rfl
 | m::L,st=>by
  rw[kF,List.takeWhile_cons]
  by_cases h:m<n
  ·rw[if_pos h,if_pos (by simpa using h),kF,if_pos h];exact qg7 L _
  ·rw[if_neg h,if_neg (by simpa using h)];rfl
theorem jK{α:Type}{l:List α}{m j:Nat}{x d:α}(h:m<l.length):(l.set m x).getD j d=if m=j then x else l.getD j d:=by
 rw[List.getD_eq_getElem?_getD,List.getD_eq_getElem?_getD,List.getElem?_set];split
 ·rename_i e;subst e;simp[h]
 ·rfl
theorem qel{j:Nat}:∀{L:List Nat} {r:List Bool},(∀m ∈ L,m≠j)->(mkL L r).getD j false=r.getD j false
 | [],_,_=>rfl
 | m::L,r,h=>by
  rw[Qj,qel (fun m hm=>h m (by simp[hm])),List.getD_eq_getElem?_getD,List.getElem?_set_ne (h m (by simp)),← List.getD_eq_getElem?_getD]
def U(st:List (BitVec 16)×List Bool)(c j:Nat):Bool:=st.2.getD j false && !(st.1.getD j 0#16).getLsbD c
theorem qo7{n:Nat}{x:BitVec 16}:∀(L:List Nat) (st:List (BitVec 16)×List Bool),(∀m ∈ L,m<n)->(goM n x L st).2=mkL L st.2
 | [],_,_=>rfl
 | m::L,st,h=>by
  rw[kF,if_pos (h m (by simp)),qo7 L _ (fun m hm=>h m (by simp[hm]))];rfl
theorem qo6{n c:Nat}{x:BitVec 16}:∀(L:List Nat) (st:List (BitVec 16)×List Bool) (u:List Bool),st.1.length=n->st.2.length=n->u.length=n->(∀m ∈ L,m<n)->(∀j,u.getD j false=U st c j)->
  ∀j,(if x.getLsbD c=true then u else mkL L u).getD j false=U (goM n x L st) c j
 | [],st,u,_,_,_,_,hu=>fun j=>by
  have:(if x.getLsbD c=true then u else mkL [] u)=u:=by split<;>rfl
  rw[this];exact hu j
 | m::L,st,u,h1,h2,h3,hL,hu=>fun j=>by
  have hm:=hL m (by simp);rw[kF,if_pos hm];have ih:=qo6 (c:=c) (x:=x) L (z9 st.1 st.2 m x,st.2.set m true) (if x.getLsbD c=true then u else u.set m true) (by simp[z9,h1]) (by simp[h2]) (by split<;>simp[h3]) (fun m hm=>hL m (by simp[hm])) ?_ j
  ·rw[← ih,Qj];cases x.getLsbD c<;>simp
  ·intro j;unfold U z9;simp only;rw[jK (by omega),jK (by omega)];have hj:=hu j;unfold U at hj
   by_cases e:m=j
   ·subst e;rw[if_pos rfl,if_pos rfl];cases hr:st.2.getD m false with
    | true =>
     rw[hr] at hj;cases hx:x.getLsbD c with
     | true=>rw[if_pos rfl,if_pos rfl,BitVec.getLsbD_and,hx,Bool.and_true];exact hj
     | false=>rw[if_neg (by simp),if_pos rfl,BitVec.getLsbD_and,hx,Bool.and_false,jK (by omega),if_pos rfl];rfl
    | false =>
     rw[hr] at hj;cases hx:x.getLsbD c with
     | true=>rw[if_pos rfl,if_neg (by simp),hx,hj];rfl
     | false=>rw[if_neg (by simp),if_neg (by simp),hx,jK (by omega),if_pos rfl];rfl
   ·rw[if_neg e,if_neg e];split
    ·exact hj
    ·rw[jK (by omega),if_neg e];exact hj
theorem y3{k:Int}{c:Nat}(h0:0<=k)(h:k<16)(hc:c<16):(cell k).getLsbD c=decide (k=(c:Int)):=by
 have key:∀(a b:Fin 16),(cell (a.val:Int)).getLsbD b.val=decide ((a.val:Int)=(b.val:Int)):=by decide
 have:=key ⟨k.toNat,by omega⟩ ⟨c,hc⟩
 simpa[Int.toNat_of_nonneg h0] using this
theorem qdS:∀x ∈ xm,x.2.2=2->x.1=2∨x.1=3:=by decide
theorem qgD{c:Int}:qJ c=2↔c=2∨c=3:=by
 constructor
 ·intro h;unfold qJ at h;cases hc:zV c with
  | none=>rw[hc] at h;cases h
  | some x =>
   rw[hc] at h;obtain⟨h1,h2⟩:=qbl hc;rw[← h2];exact qdS x h1 h
 ·rintro (rfl|rfl)<;>decide
theorem qnR{i:Ins}(hi:InsOk i){c:Nat}(hc:c<16):(wrM i).getLsbD c=wrC i c:=by
 unfold wrM wrC
 by_cases h:qJ i.code=2
 ·have h2:=qgD.1 h;have hd:(decide (i.code=2)||decide (i.code=3))=true:=by simpa using h2
  rw[hd,Bool.true_and]
  by_cases hk:i.k<16
  ·rw[if_pos ⟨h,hk⟩,y3 hi.k0 hk hc]
  ·rw[if_neg (fun e=>hk e.2)]
   have:¬i.k=(c:Int):=by omega
   simp[this]
 ·rw[if_neg (fun e=>h e.1)]
  have h2:¬(i.code=2∨i.code=3):=fun e=>h (qgD.2 e)
  have hd:(decide (i.code=2)||decide (i.code=3))=false:=by simpa using h2
  rw[hd];simp
theorem qnN{i:Ins}(hi:InsOk i){x:BitVec 16}{j:Nat}{l:List Nat}:QR i x j l=if (rdC i && !x.getLsbD i.k.toNat)=true then l++[j] else l:=by
 unfold QR rdM rdC
 by_cases h:(i.code=96∨i.code=97)∧i.k<16
 ·have hd:((decide (i.code=96)||decide (i.code=97))&&decide (i.k<16))=true:=by simpa using h
  rw[if_pos h,hd,Bool.true_and];have hk:i.k.toNat<16:=by have:=hi.k0;omega
  have hbit:=y3 hi.k0 h.2 hk;have h0:=hi.k0;have hk':i.k=((i.k.toNat:Nat):Int):=by omega
  cases hx:x.getLsbD i.k.toNat with
  | true =>
   have hz:cell i.k &&& ~~~ x=0#16:=by
    refine BitVec.eq_of_getLsbD_eq fun c hc=>?_
    rw[BitVec.getLsbD_and,y3 hi.k0 h.2 hc,BitVec.getLsbD_not]
    by_cases e:i.k=(c:Int)
    ·have:i.k.toNat=c:=by omega
     rw[← this,hx];simp
    ·simp[e]
   rw[if_pos hz];simp
  | false =>
   have hz:¬cell i.k &&& ~~~ x=0#16:=by
    intro e;have:=congrArg (fun z:BitVec 16=>z.getLsbD i.k.toNat) e
    simp only[BitVec.getLsbD_and,hbit,BitVec.getLsbD_not,hx] at this;rw[← hk'] at this;simp[hk] at this
   rw[if_neg hz];simp
 ·have hd:((decide (i.code=96)||decide (i.code=97))&&decide (i.k<16))=false:=by
   rw[Bool.eq_false_iff];intro e;exact h (by simpa using e)
  rw[if_neg h,hd];simp
end Go.Kc
end
section
/- The plain law: the places that read what isn't sure are the same. No condition. -/
namespace Go.Kc
def uS(n c j:Nat)(i:Ins)(u:List Bool):List Bool:=if u.getD j false=false then u else if wrC i c=true then u else mkL (vb n i j) u
theorem qky{n c j:Nat}{i:Ins}{st:List Bool×List (BitVec 16)}:(stS n c j i st).1=uS n c j i st.1:=by
 unfold stS uS;split
 ·rfl
 split<;>rfl
theorem qdc{n c:Nat}:∀(L:List Ins) (j:Nat) (st:List Bool×List (BitVec 16)),(zd (stS n c) j L st).1=zd (uS n c) j L st.1
 | [],_,_=>rfl
 | i::L,j,st=>by
  show (zd (stS n c) (j+1) L (stS n c j i st)).1=zd (uS n c) (j+1) L (uS n c j i st.1);rw[qdc,qky]
section
variable (p:List Ins)
def Wk0(k:Nat):WSt:=zd (stM p.length) 0 (p.take k) ([],(List.replicate p.length 0#16,List.replicate p.length false))
def Rk(k:Nat):List Bool:=zd (rcS p.length) 0 (p.take k) (st0 p.length)
def Uk(c k:Nat):List Bool:=zd (uS p.length c) 0 (p.take k) (st0 p.length)
structure InvK (k:Nat):Prop where
 l1:(xe k (Wk0 p k).2).1.length=p.length
 l2:(xe k (Wk0 p k).2).2.length=p.length
 r:Rk p k=(xe k (Wk0 p k).2).2
 u:∀c,c<16->(Uk p c k).length=p.length∧∀j,(Uk p c k).getD j false=U (xe k (Wk0 p k).2) c j
theorem qfU{k:Nat}{i:Ins}(h:p[k]?=some i):p.take (k+1)=p.take k++[i]:=by
 rw[List.take_add_one,h];rfl
theorem Qs{k:Nat}(h:k<=p.length):(p.take k).length=k:=by rw[List.length_take];omega
theorem vp{σ:Type}(F:Nat->Ins->σ->σ)(st:σ){k:Nat}{i:Ins}(h:p[k]?=some i):zd F 0 (p.take (k+1)) st=F k i (zd F 0 (p.take k) st):=by
 have hk:k<=p.length:=Nat.le_of_lt (List.getElem?_eq_some_iff.1 h).1;rw[qfU p h,qdu,Qs p hk]
theorem qez{n j:Nat}:(List.replicate n false).getD j false=false:=by
 rw[List.getD_eq_getElem?_getD,List.getElem?_replicate];split<;>rfl
theorem qqq(h:0<p.length):InvK p 0:=by
 have hw:Wk0 p 0=([],(List.replicate p.length 0#16,List.replicate p.length false)):=rfl;have hs:xe 0 (Wk0 p 0).2=(z9 (List.replicate p.length 0#16) (List.replicate p.length false) 0 0#16,st0 p.length):=rfl;refine⟨by rw[hs];simp[z9],by rw[hs];simp[st0],by rw[hs];rfl,fun c hc=>⟨by show (st0 p.length).length=_;simp[st0],fun j=>?_⟩⟩
 rw[hs];show (st0 p.length).getD j false=((st0 p.length).getD j false&&_);unfold st0 z9;simp only;rw[jK (by simp;omega),jK (by simp;omega),qez,qez]
 by_cases e:0=j
 ·rw[if_pos e,if_pos e];simp
 ·rw[if_neg e];rfl
theorem qfO{k:Nat}{st:List (BitVec 16)×List Bool}:xe (k+1) st=st:=by unfold xe;rw[if_neg (by omega)]
theorem qqr{k:Nat}{i:Ins}(hi:p[k]?=some i)(hok:InsOk i)(I:InvK p k):InvK p (k+1):=by
 have hw:Wk0 p (k+1)=stM p.length k i (Wk0 p k):=vp p _ _ hi;have hr:Rk p (k+1)=rcS p.length k i (Rk p k):=vp p _ _ hi;have hu:∀c,Uk p c (k+1)=uS p.length c k i (Uk p c k):=fun c=>vp p _ _ hi
 obtain⟨l1,l2,r,u⟩:=I;obtain⟨st,hst⟩:∃st,st=xe k (Wk0 p k).2:=⟨_,rfl⟩
 have h2:xe (k+1) (Wk0 p (k+1)).2=if st.2.getD k false=true then goM p.length (st.1.getD k 0#16 ||| wrM i) (zg i k) st else st:=by
  rw[qfO,hw,hst];unfold stM;split<;>rfl
 rw[← hst] at l1 l2 r u;have hlt:∀m ∈ vb p.length i k,m<p.length:=qb1
 by_cases hk:st.2.getD k false=true
 ·rw[if_pos hk] at h2;have hg:goM p.length (st.1.getD k 0#16 ||| wrM i) (zg i k) st=goM p.length (st.1.getD k 0#16 ||| wrM i) (vb p.length i k) st:=qg7 _ _
  rw[hg] at h2;have hl:=qbU (n:=p.length) (x:=st.1.getD k 0#16 ||| wrM i) (vb p.length i k) st
  refine⟨by rw[h2,hl.1,l1],by rw[h2,hl.2,l2],?_,fun c hc=>?_⟩
  ·rw[h2,qo7 _ _ hlt,hr,r];unfold rcS;rw[if_pos hk]
  ·obtain⟨u1,u2⟩:=u c hc;have hx:(st.1.getD k 0#16 ||| wrM i).getLsbD c=((st.1.getD k 0#16).getLsbD c||wrC i c):=by rw[BitVec.getLsbD_or,qnR hok hc]
   have hgo:=qo6 (c:=c) (x:=st.1.getD k 0#16 ||| wrM i) (vb p.length i k) st (Uk p c k) l1 l2 u1 hlt u2
   rw[hx] at hgo;have huk:=u2 k;unfold U at huk;rw[hk,Bool.true_and] at huk
   have he:uS p.length c k i (Uk p c k)=if ((st.1.getD k 0#16).getLsbD c||wrC i c)=true then Uk p c k else mkL (vb p.length i k) (Uk p c k):=by
    unfold uS;rw[huk];cases (st.1.getD k 0#16).getLsbD c<;>cases wrC i c<;>rfl
   rw[hu,h2,he];refine⟨?_,hgo⟩;split
   ·exact u1
   ·rw[v9];exact u1
 ·rw[if_neg hk] at h2;have hkf:st.2.getD k false=false:=by simpa using hk
  refine⟨by rw[h2];exact l1,by rw[h2];exact l2,?_,fun c hc=>?_⟩
  ·rw[h2,hr,r];unfold rcS;rw[if_neg hk]
  ·obtain⟨u1,u2⟩:=u c hc;have huk:=u2 k;unfold U at huk;rw[hkf,Bool.false_and] at huk;have he:uS p.length c k i (Uk p c k)=Uk p c k:=by unfold uS;rw[if_pos huk]
   rw[hu,h2,he];exact⟨u1,u2⟩
theorem qpa(hi:∀i ∈ p,InsOk i):∀k,k<p.length->InvK p k
 | 0,h=>qqq p h
 | k+1,h=>by
  have hk:k<p.length:=by omega
  have hpk:p[k]?=some p[k]:=List.getElem?_eq_getElem hk;exact qqr p hpk (hi _ (List.getElem_mem hk)) (qpa hi k hk)
theorem qc9{k:Nat}{i:Ins}(h:p[k]?=some i):p=p.take k++(i::p.drop (k+1)):=by
 obtain⟨hh,he⟩:=List.getElem?_eq_some_iff.1 h;rw[← he,← List.drop_eq_getElem_cons hh,List.take_append_drop]
theorem qnl{k:Nat}{i:Ins}(h:p[k]?=some i):(kT p.length 0 p (st0 p.length)).getD k false=(Rk p k).getD k false:=by
 have hk:k<=p.length:=Nat.le_of_lt (List.getElem?_eq_some_iff.1 h).1;rw[qh0]
 have e:zd (rcS p.length) 0 p (st0 p.length)=zd (rcS p.length) k (p.drop k) (Rk p k):=by
  conv=>lhs;rw[← List.take_append_drop k p]
  rw[ya,Qs p hk,Nat.zero_add,List.take_append_drop];rfl
 rw[e];refine Qy (rcS p.length) (fun r=>r.getD k false) _ _ _ fun k' i' r hk'=>?_
 show (rcS p.length k' i' r).getD k false=r.getD k false;unfold rcS;split
 ·exact qel fun m hm=>by have:=qj2 m hm;omega
 ·rfl
theorem qnH{c k:Nat}{i:Ins}(h:p[k]?=some i)(out:List (BitVec 16))(ho:out.length=p.length) :
  (ku p.length c 0 p (st0 p.length,out)).2.getD k 0#16=if (Uk p c k).getD k false=false then out.getD k 0#16 ||| cell c else out.getD k 0#16:=by
 have hk:k<p.length:=(List.getElem?_eq_some_iff.1 h).1;rw[qdQ]
 have e:zd (stS p.length c) 0 p (st0 p.length,out)=zd (stS p.length c) (k+1) (p.drop (k+1)) (stS p.length c k i (zd (stS p.length c) 0 (p.take k) (st0 p.length,out))):=by
  conv=>lhs;rw[qc9 p h]
  rw[ya,Qs p (by omega),Nat.zero_add,← qc9 p h];rfl
 rw[e];have h1:=Qy (stS p.length c) (fun st=>st.2.getD k 0#16) (p.drop (k+1)) (k+1) (stS p.length c k i (zd (stS p.length c) 0 (p.take k) (st0 p.length,out))) ?_
 ·rw[h1];have h2:=qaE (stS p.length c) (fun st=>st.2.getD k 0#16) (p.take k) 0 (st0 p.length,out) ?_
  ·try simp only at h2
   have h3:=qdc (n:=p.length) (c:=c) (p.take k) 0 (st0 p.length,out);have h4:=kW (n:=p.length) (c:=c) (L:=p.take k) (j:=0) (st:=(st0 p.length,out));rw[qdQ] at h4;generalize zd (stS p.length c) 0 (p.take k) (st0 p.length,out)=st at h2 h3 h4;have h3:st.1=Uk p c k:=h3;unfold stS;rw[h3];split
   ·simp only;rw[jK (by rw[h4.2,ho];exact hk),if_pos rfl,h2]
   ·split
    ·exact h2
    ·exact h2
  ·intro k' i' st _ hk';rw[Nat.zero_add,Qs p (by omega)] at hk';show (stS p.length c k' i' st).2.getD k 0#16=st.2.getD k 0#16;unfold stS;split
   ·simp only;rw[List.getD_eq_getElem?_getD,List.getElem?_set_ne (by omega),← List.getD_eq_getElem?_getD]
   ·split<;>rfl
 ·intro k' i' st hk';show (stS p.length c k' i' st).2.getD k 0#16=st.2.getD k 0#16;unfold stS;split
  ·simp only;rw[List.getD_eq_getElem?_getD,List.getElem?_set_ne (by omega),← List.getD_eq_getElem?_getD]
  ·split<;>rfl
theorem qeE{k:Nat}{i:Ins}(h:p[k]?=some i){c:Nat}(hc:c<16):∀(m:Nat),m<=16->∀out:List (BitVec 16),out.length=p.length->
  ((qdR p m out).getD k 0#16).getLsbD c=((out.getD k 0#16).getLsbD c||(decide (16-m<=c) && !(Uk p c k).getD k false))
 | 0,_,out,_=>by
  have:¬16-0<=c:=by omega
  simp only[this,decide_false,Bool.false_and,Bool.or_false];rfl
 | m+1,hm,out,ho=>by
  have hl:=kW (n:=p.length) (c:=16-(m+1)) (L:=p) (j:=0) (st:=(st0 p.length,out));rw[QQ,qeE h hc m (by omega) _ (hl.2.trans ho),qnH p h out ho]
  have hcb:(cell ((16-(m+1):Nat):Int)).getLsbD c=decide (16-(m+1)=c):=by
   rw[y3 (by omega) (by omega) hc]
   by_cases e:16-(m+1)=c
   ·simp[e]
   ·have:¬((16-(m+1):Nat):Int)=(c:Int):=by omega
    simp only[e,this,decide_false]
  by_cases e:16-(m+1)=c
  ·have e1:¬16-m<=c:=by omega
   have e2:16-(m+1)<=c:=by omega
   rw[e] at hcb ⊢;simp only[e1,decide_false,Bool.false_and,Bool.or_false];cases hU:(Uk p c k).getD k false with
   | true=>simp
   | false =>
    rw[if_pos rfl,BitVec.getLsbD_or,hcb];simp
  ·have e3:(decide (16-m<=c))=decide (16-(m+1)<=c):=by
    exact decide_eq_decide.2 (by omega)
   rw[e3]
   congr 1
   split
   ·rw[BitVec.getLsbD_or,hcb,decide_eq_false e,Bool.or_false]
   ·rfl
theorem qkC{k:Nat}{i:Ins}(h:p[k]?=some i){c:Nat}(hc:c<16):((qab p).getD k 0#16).getLsbD c = !(Uk p c k).getD k false:=by
 have hk:k<p.length:=(List.getElem?_eq_some_iff.1 h).1;unfold qab;rw[qeE p h hc 16 (Nat.le_refl _) _ (by simp)]
 have:(List.replicate p.length 0#16).getD k 0#16=0#16:=by
  rw[List.getD_eq_getElem?_getD,List.getElem?_replicate,if_pos hk];rfl
 rw[this];simp
theorem qdf(hi:∀i ∈ p,InsOk i):∀k,k<=p.length->(Wk0 p k).1=zd (unS (kT p.length 0 p (st0 p.length)) (qab p)) 0 (p.take k) []
 | 0,_=>rfl
 | k+1,hk1=>by
  have hk:k<p.length:=by omega
  have hpk:p[k]?=some p[k]:=List.getElem?_eq_getElem hk;have hok:=hi _ (List.getElem_mem hk);have I:=qpa p hi k hk;have hw:Wk0 p (k+1)=stM p.length k p[k] (Wk0 p k):=vp p _ _ hpk;rw[hw,vp p _ _ hpk,← qdf hi k (by omega)];unfold unS unC stM;rw[qnl p hpk,I.r];cases hr:(xe k (Wk0 p k).2).2.getD k false with
  | false=>rfl
  | true =>
   rw[if_pos rfl,Bool.true_and];simp only;rw[qnN hok];cases hrd:rdC p[k] with
   | false=>rfl
   | true =>
    have hk16:p[k].k<16:=by unfold rdC at hrd;simp at hrd;exact hrd.2
    have h0:=hok.k0;have hc:p[k].k.toNat<16:=by omega
    have hU:=(I.u _ hc).2 k;unfold U at hU;rw[hr,Bool.true_and] at hU;rw[qkC p hpk hc,hU,Bool.not_not]
theorem qnK(hi:∀i ∈ p,InsOk i):qbh p=vh p:=by
 have h:=qdf p hi p.length (Nat.le_refl _);unfold qbh vh;rw[qie,qla];unfold Wk0 at h;rw[List.take_length] at h;exact h.symm
theorem qdd:∀(m:Nat) (out:List (BitVec 16)),(qdR p m out).length=out.length
 | 0,_=>rfl
 | m+1,out=>by rw[QQ,qdd m,kW.2]
theorem qpK:(qab p).length=p.length:=by unfold qab;rw[qdd];simp
theorem qh1{n:Nat}:∀(L:List Ins) (j:Nat) (r:List Bool),(kT n j L r).length=r.length
 | [],_,_=>rfl
 | i::L,j,r=>by
  show (kT n (j+1) L _).length=_;rw[qh1 L];split
  ·rw[v9]
  ·rfl
end
end Go.Kc
end
section
/- Stacks that may be; stacks that are the same. Condition: the functions' texts are these. -/
namespace Go.Kc
variable {P:Program} {f:Nat}
structure Prg where
 dir:Int
 arch:Int
 ins:List Ins
def cPr(x:Prg):List AV:=[.i .i64 x.dir,.i .i64 x.arch,.fz x.ins.length (rP x.ins)]
theorem kZ(x:Prg):(cPr x).length=3:=rfl
def rPr(l:List Prg):List AV:=l.flatMap cPr
theorem qb8(l:List Prg):(rPr l).length=l.length*3:=xL kZ l
theorem zz(l:List Prg):qw (rPr l)=true:=k9 (fun x=>by simp[cPr,qw,clo,qb])
theorem qew(p q:List Prg):rPr (p++q)=rPr p++rPr q:=List.flatMap_append
structure PrgOk (x:Prg):Prop where
 len:x.ins.length<=4096
 ins:∀i ∈ x.ins,InsOk i
def zf:IFn:=⟨[.tmp 4],.seq (.r [.m 4 (.k 0)]) (.seq (.seq (.r [.n 6 0,.e 7 6,.m 8 (.k 0)]) (.blk 0 (.loop (.seq (.r [.s 9 8 7]) (.seq (.cond (.t 9) (.skip) (.exit 0)) (.seq (.blk 1 (.seq (.r [.n 10 8,.n 5 10]) (.seq (.r [.n 11 1,.n 12 0,.n 13 5,.i 14 3 12 13,.v 15 3 14,⟨(some 16),.callV (.t 11) [.t 15],none⟩]) (.cond (.t 16) (.seq (.r [.n 17 5,.n 4 17]) (.ret)) (.skip))))) (.r [.a 18 8 1,.n 8 18]))))))) (.seq (.r [.q 4 (.mov (.c (.i .i64 (-1))))]) (.ret)))⟩
theorem qec(hc:qt P f zf=true):qgq 3 P f:=by
 intro α enc p g a c l hlen ha hc' hl hp;refine qf.mk hc (by simp[qw,clo,ha,hc']) ?_;simp only[zf,vI,simprocAttr];simp only[↓vS,vT,simprocAttr];refine SL.loop (α:=Nat) (fun j=>[(0,.fz l.length (l.flatMap enc)),(1,.fn g a c),(7,.i .i64 l.length),(8,.i .i64 j)]) (fun _=>[]) (fun j=>j<=l.length∧qbV p l 0=qbV p (l.drop j) j) (fun j=>l.length-j) 0 [] ?_ ?_ ?_ rfl ?_ ?_
 ·simp[vw,qd,ha,hc']
 ·trivial
 ·simp
 ·simp
 rintro j ⟨hj,hI⟩ G ih;simp only[vI,simprocAttr]
 by_cases hlt:j<l.length
 ·have hx:l[j]?=some l[j]:=List.getElem?_eq_getElem hlt;have hw:IntKind.wrap .i64 ((j:Int)+1)=(j:Int)+1:=qo (by omega) (by have:=hl;simp only[qe] at this;omega)
  have he:=z5 hlen hx;have hb:j*3+3<=(l.flatMap enc).length:=by rw[xL hlen];omega
  rw[List.drop_eq_getElem_cons hlt,qbV] at hI;simp only[↓vS,vT,simprocAttr,hlt,hb,he,hw];refine (hp l[j] (List.getElem_mem hlt)).sc ?_
  by_cases hpx:p l[j]=true
  ·rw[if_pos hpx] at hI;simp only[↓vS,vT,simprocAttr,hpx,vZ,hI]
  ·rw[if_neg hpx] at hI;simp only[↓vS,vT,simprocAttr,hpx,hw];refine ih (j+1) ⟨by omega,hI⟩ (by omega) _ _ (Wk.mk _ _ [] ?_ ?_ ?_ rfl)
   ·simp[vw,qd,ha,hc']
   ·trivial
   ·simp
 ·simp only[↓vS,vT,simprocAttr,hlt];rw[List.drop_eq_nil_of_le (by omega)] at hI;simp[hI,qbV,vZ]
theorem qbq{α:Type}(p:α->Bool):∀(l:List α) (j:Nat),decide (0<=qbV p l j)=l.any p
 | [],j=>by simp[qbV]
 | x::l,j=>by
  rw[qbV]
  by_cases h:p x=true
  ·simp[h]
  ·rw[if_neg h,qbq p l (j+1)];simp[h]
def qY(a:Nat):IFn:=⟨[.tmp 4],.seq (.r [.m 4 .F]) (.seq (.r [.n 5 0,.n 6 1,.l 7 a [.t 5,.t 6],.w 8 .geq 7 0,.n 4 8]) (.ret))⟩
theorem qgI{g:Nat}(hc:qt P f (qY g)=true)(h:qgq 3 P g)(l:List Prg)(k:Nat)(p:Prg->Bool)(hk:∀c ∈ l,qf P k [.agg (cPr c)] (.b (p c)))(hl:l.length<=qe):qf P f [.fz l.length (rPr l),.fn k [] []] (.b (l.any p)):=by
 refine qf.mk hc (by simp[qw,clo,zz]) ?_;simp only[qY,vI,simprocAttr];simp only[↓vS,vT,simprocAttr];refine (h cPr p k [] [] l kZ rfl rfl hl fun x hx=>hk x hx).sc ?_
 simp only[↓vS,vT,simprocAttr];simp[vZ,← qbq p l 0]
def jO(x:Prg):Bool:=decide ((atU x.ins (vh x.ins)).2=0)&&(if x.dir=0 then decide (x.arch=6) else decide (0<=x.dir)&&decide (x.dir<8)&&decide (0<=x.arch)&&decide (x.arch<6))
def xw(l:List Prg):Bool:=decide (l.length<=48)&&l.all jO
def ko(a:Nat):IFn:=⟨[.tmp 2],.seq (.r [.q 1 (.box (.t 0)),.m 2 .F]) (.seq (.blk 0 (.seq (.r [.f 4 0 1,.d 5 4,.w 6 .eql 5 0,.n 3 6]) (.cond (.t 3) (.seq (.r [.f 7 1 1,.d 8 7,.w 9 .eql 8 6,.n 10 9,.h 11 2 1 10 true,.j 12 11 10 true,⟨(some 13),.callF a [.t 12],(some (10,true))⟩,.g 14 (.bin .eql (.t 13) (.k 0)) 10 true,.p 15 10 14,.n 2 15]) (.ret)) (.seq (.r [.f 17 0 1,.d 18 17,.w 19 .lss 18 0,.n 20 19,.h 21 0 1 20 false,.j 22 21 20 false,.g 23 (.bin .geq (.t 22) (.k 8)) 20 false,.o 24 20 23,.n 25 24,.h 26 1 1 25 false,.j 27 26 25 false,.g 28 (.bin .lss (.t 27) (.k 0)) 25 false,.o 29 25 28,.n 30 29,.h 31 1 1 30 false,.j 32 31 30 false,.g 33 (.bin .geq (.t 32) (.k 6)) 30 false,.o 34 30 33,.n 16 34]) (.cond (.t 16) (.seq (.r [.m 2 .F]) (.ret)) (.skip)))))) (.seq (.r [.f 35 2 1,.d 36 35,.l 37 a [.t 36],.w 38 .eql 37 0,.n 2 38]) (.ret)))⟩
theorem qk3{g:Nat}(hc:qt P f (ko g)=true)(hg:∀p:List Ins,(∀i ∈ p,InsOk i)->p.length<=5000->qf P g [.fz p.length (rP p)] (.i .i64 (atU p (vh p)).2))(x:Prg)(hx:PrgOk x):qf P f [.agg (cPr x)] (.b (jO x)):=by
 refine qf.mk hc (by simp[qw,clo,cPr,qb]) ?_;have hl:=hx.len;have h:=hg x.ins hx.ins (by omega);unfold jO;generalize (atU x.ins (vh x.ins)).2=e at h;simp only[ko,cPr,vI,simprocAttr]
 by_cases h0:x.dir=0
 ·rw[if_pos h0]
  by_cases h6:x.arch=6
  ·simp (decide:=true) only [↓vS,vT,simprocAttr,h0,h6];refine h.sc ?_;simp (decide:=true) only [↓vS,vT,simprocAttr];simp[vZ,h6]
  ·simp (decide:=true) only [↓vS,vT,simprocAttr,h0,h6];simp[vZ,h6]
 rw[if_neg h0]
 by_cases h1:x.dir<0
 ·have h1':¬0<=x.dir:=by omega
  simp (decide:=true) only [↓vS,vT,simprocAttr,h0,h1];simp[vZ,h1']
 have h1':0<=x.dir:=by omega
 by_cases h2:8<=x.dir
 ·have h2':¬x.dir<8:=by omega
  simp (decide:=true) only [↓vS,vT,simprocAttr,h0,h1,h2];simp[vZ,h2']
 have h2':x.dir<8:=by omega
 by_cases h3:x.arch<0
 ·have h3':¬0<=x.arch:=by omega
  simp (decide:=true) only [↓vS,vT,simprocAttr,h0,h1,h2,h3];simp[vZ,h3']
 have h3':0<=x.arch:=by omega
 by_cases h4:6<=x.arch
 ·have h4':¬x.arch<6:=by omega
  simp (decide:=true) only [↓vS,vT,simprocAttr,h0,h1,h2,h3,h4];simp[vZ,h4']
 have h4':x.arch<6:=by omega
 simp (decide:=true) only [↓vS,vT,simprocAttr,h0,h1,h2,h3,h4];refine h.sc ?_;simp (decide:=true) only [↓vS,vT,simprocAttr];simp[vZ,h1',h2',h3',h4']
def kJ(a:Nat):IFn:=⟨[.tmp 2],.seq (.r [.q 1 (.box (.t 0)),.m 2 .F]) (.seq (.r [.v 3 3 1,.l 4 a [.t 3],.q 5 (.un .not (.t 4)),.n 2 5]) (.ret))⟩
theorem qoc{g:Nat}(hc:qt P f (kJ g)=true)(hg:∀x,PrgOk x->qf P g [.agg (cPr x)] (.b (jO x)))(x:Prg)(hx:PrgOk x):qf P f [.agg (cPr x)] (.b (!jO x)):=by
 refine qf.mk hc (by simp[qw,clo,cPr,qb]) ?_;have h:=hg x hx;simp only[cPr] at h;simp only[kJ,cPr,vI,simprocAttr];simp (decide:=true) only [↓vS,vT,simprocAttr];refine h.sc ?_;simp (decide:=true) only [↓vS,vT,simprocAttr];simp[vZ]
def Qh(a b:Nat):IFn:=⟨[.tmp 2],.seq (.r [.m 2 .F]) (.seq (.r [.n 3 0,.e 4 3,.w 5 .leq 4 48,.n 6 5,.y 7 0 6,⟨(some 8),.callF a [.t 7,(.c (.fn b [] []))],(some (6,true))⟩,.g 9 (.un .not (.t 8)) 6 true,.p 10 6 9,.n 2 10]) (.ret))⟩
theorem qim{g1 g2:Nat}(hc:qt P f (Qh g1 g2)=true)(h1:∀(l:List Prg) (k:Nat) (p:Prg->Bool),(∀c ∈ l,qf P k [.agg (cPr c)] (.b (p c)))->l.length<=qe->qf P g1 [.fz l.length (rPr l),.fn k [] []] (.b (l.any p)))
  (h2:∀x,PrgOk x->qf P g2 [.agg (cPr x)] (.b (!jO x))) (l:List Prg) (hl:l.length<=10000) (hx:∀x ∈ l,PrgOk x):qf P f [.fz l.length (rPr l)] (.b (xw l)):=by
 refine qf.mk hc (by simp[qw,clo,zz]) ?_;have h:=h1 l g2 (fun x=>!jO x) (fun c hc=>h2 c (hx c hc)) (by simp only[qe];omega)
 have ha:(!l.any fun x=>!jO x)=l.all jO:=by rw[List.not_any_eq_all_not];simp
 unfold xw;simp only[Qh,vI,simprocAttr]
 by_cases h48:l.length<=48
 ·have h48':(l.length:Int)<=48:=by omega
  simp (decide:=true) only [↓vS,vT,simprocAttr,h48'];refine h.sc ?_;simp (decide:=true) only [↓vS,vT,simprocAttr];simp only[ha];simp[vZ,h48]
 ·have h48':¬(l.length:Int)<=48:=by omega
  simp (decide:=true) only [↓vS,vT,simprocAttr,h48'];simp[vZ,h48]
end Go.Kc
end
section
/- The document's stacks that may be, that are the same; its programs of bytes. Condition: the functions' texts are these. -/
namespace Go.Kc
variable {P:Program} {f:Nat}
def js(a:Nat):IFn:=⟨[.tmp 2],.seq (.r [.m 2 .F]) (.seq (.seq (.r [.n 8 0,.e 9 8,.w 10 .gtr 9 48]) (.cond (.t 10) (.seq (.r [.m 2 .F]) (.ret)) (.skip))) (.seq (.seq (.r [.m 3 (.k 0)]) (.blk 0 (.loop (.seq (.seq (.r [.n 11 3,.n 12 0,.e 13 12,.s 14 11 13]) (.cond (.t 14) (.skip) (.exit 0))) (.seq (.blk 1 (.seq (.r [.n 17 0,.n 18 3,.i 19 3 17 18,.v 20 3 19,.q 4 (.alloc [.i .i64 0,.i .i64 0,.nils]),.u (.store 3 (.t 4) (.t 20))]) (.seq (.r [.f 21 0 4,.d 22 21,.w 23 .eql 22 0,.n 5 23]) (.seq (.r [.f 25 2 4,.d 26 25,.l 27 a [.t 26],.n 24 27,.x 28 24 0,.x 29 24 1,.n 6 28,.n 7 29]) (.seq (.r [.n 30 7,.w 31 .neq 30 0,.n 32 31,.h 33 0 4 32 false,.j 34 33 32 false,.g 35 (.bin .lss (.t 34) (.k 0)) 32 false,.o 36 32 35,.n 37 36,.h 38 0 4 37 false,.j 39 38 37 false,.g 40 (.bin .gtr (.t 39) (.k 7)) 37 false,.o 41 37 40,.n 42 41,.h 43 1 4 42 false,.j 44 43 42 false,.g 45 (.bin .lss (.t 44) (.k 0)) 42 false,.o 46 42 45,.n 47 46,.h 48 1 4 47 false,.j 49 48 47 false,.g 50 (.bin .gtr (.t 49) (.k 6)) 47 false,.o 51 47 50,.n 52 51,.z 53 5 52,.h 54 1 4 52 false,.j 55 54 52 false,.g 56 (.bin .eql (.t 55) (.k 6)) 52 false,.g 57 (.eqB true (.t 53) (.t 56)) 52 false,.o 58 52 57]) (.cond (.t 58) (.seq (.r [.m 2 .F]) (.ret)) (.skip))))))) (.r [.n 15 3,.a 16 15 1,.n 3 16])))))) (.seq (.r [.m 2 .T]) (.ret))))⟩
set_option maxHeartbeats 1000000 in
theorem qmz{g:Nat}(hc:qt P f (js g)=true)(hg:qkK P g)(l:List Prg)(hl:l.length<=10000)(hx:∀x ∈ l,PrgOk x):qf P f [.fz l.length (rPr l)] (.b (xw l)):=by
 refine qf.mk hc (by simp[qw,clo,zz]) ?_;unfold xw;simp only[js,vI,simprocAttr]
 by_cases h48:48<l.length
 ·have h48':(48:Int)<l.length:=by omega
  have h48n:¬l.length<=48:=by omega
  simp (decide:=true) only [↓vS,vT,simprocAttr,h48'];simp[vZ,h48n]
 have h48':¬(48:Int)<l.length:=by omega
 have h48n:l.length<=48:=by omega
 have hd48:decide (l.length<=48)=true:=by simpa using h48n
 rw[hd48,Bool.true_and];simp (decide:=true) only [↓vS,vT,simprocAttr,h48'];refine SL.loop (α:=Nat) (fun j=>[(0,.fz l.length (rPr l)),(3,.i .i64 (j:Int))]) (fun _=>[]) (fun j=>j<=l.length∧(l.drop j).all jO=l.all jO) (fun j=>l.length-j) 0 [] ?_ ?_ ?_ rfl ?_ ?_
 ·simp[vw,zz]
 ·trivial
 ·simp
 ·exact⟨Nat.zero_le _,rfl⟩
 rintro j ⟨hj,hI⟩ G ih;simp only[vI,simprocAttr]
 by_cases hlt:j<l.length
 ·obtain⟨x,hlx⟩:∃x,l[j]?=some x:=⟨_,List.getElem?_eq_getElem hlt⟩;have hxx:=hx x (List.mem_of_getElem? hlx);have hxl:=hxx.len
  have hdr:l.drop j=x::l.drop (j+1):=by
   obtain⟨hh,he⟩:=List.getElem?_eq_some_iff.1 hlx;rw[List.drop_eq_getElem_cons hh,he]
  rw[hdr,List.all_cons] at hI;have hel:=z5 (f:=cPr) (m:=3) kZ hlx;rw[show l.flatMap cPr=rPr l from rfl] at hel
  simp only[cPr] at hel;have h3:j*3+3<=(rPr l).length:=by rw[qb8];omega
  have hw1:IntKind.wrap .i64 ((j:Int)+1)=((j+1:Nat):Int):=by rw[qo (by omega) (by omega)];omega
  have hat:=hg x.ins hxx.ins (by omega);rw[qnK x.ins hxx.ins] at hat;have hmx:jO x=(decide ((atU x.ins (vh x.ins)).2=0)&&(if x.dir=0 then decide (x.arch=6) else decide (0<=x.dir)&&decide (x.dir<8)&&decide (0<=x.arch)&&decide (x.arch<6))):=rfl
  generalize (atU x.ins (vh x.ins)).2=e at hat hmx;generalize (atU x.ins (vh x.ins)).1=e1 at hat;have bad:jO x=false->l.all jO=false:=fun h=>by rw[← hI,h];rfl
  have good:jO x=true->(l.drop (j+1)).all jO=l.all jO:=fun h=>by rw[← hI,h];rfl
  simp (decide:=true) only [↓vS,vT,simprocAttr,hlt,hel,h3];refine hat.sc ?_
  by_cases he:e=0
  ·by_cases hd1:x.dir<0
   ·have hb:=bad (by
     rw[hmx];have:¬x.dir=0:=by omega
     have h2:¬0<=x.dir:=by omega
     simp[this,h2])
    simp (decide:=true) only [↓vS,vT,simprocAttr,he,hd1];simp[vZ,hb]
   by_cases hd2:7<x.dir
   ·have hb:=bad (by
     rw[hmx];have:¬x.dir=0:=by omega
     have h2:¬x.dir<8:=by omega
     simp[this,h2])
    simp (decide:=true) only [↓vS,vT,simprocAttr,he,hd1,hd2];simp[vZ,hb]
   by_cases ha1:x.arch<0
   ·have hb:=bad (by
     rw[hmx];have h1:¬x.arch=6:=by omega
     have h2:¬0<=x.arch:=by omega
     simp[h1,h2])
    simp (decide:=true) only [↓vS,vT,simprocAttr,he,hd1,hd2,ha1];simp[vZ,hb]
   by_cases ha2:6<x.arch
   ·have hb:=bad (by
     rw[hmx];have h1:¬x.arch=6:=by omega
     have h2:¬x.arch<6:=by omega
     simp[h1,h2])
    simp (decide:=true) only [↓vS,vT,simprocAttr,he,hd1,hd2,ha1,ha2];simp[vZ,hb]
   by_cases hd0:x.dir=0
   ·by_cases ha6:x.arch=6
    ·have hb:=good (by rw[hmx];simp[he,hd0,ha6]);simp (decide:=true) only [↓vS,vT,simprocAttr,he,hd0,ha6,hw1];refine ih (j+1) ⟨hlt,hb⟩ (by omega) _ _ (Wk.mk _ _ [] ?_ ?_ ?_ rfl)
     ·simp[vw,zz]
     ·trivial
     ·simp
    ·have hb:=bad (by rw[hmx];simp[hd0,ha6]);simp (decide:=true) only [↓vS,vT,simprocAttr,he,hd0,ha1,ha2,ha6];simp[vZ,hb]
   ·by_cases ha6:x.arch=6
    ·have hb:=bad (by rw[hmx];simp[hd0,ha6]);simp (decide:=true) only [↓vS,vT,simprocAttr,he,hd1,hd2,hd0,ha6];simp[vZ,hb]
    ·have hb:=good (by
      rw[hmx];have q1:0<=x.dir:=by omega
      have q2:x.dir<8:=by omega
      have q3:0<=x.arch:=by omega
      have q4:x.arch<6:=by omega
      simp[he,hd0,q1,q2,q3,q4])
     simp (decide:=true) only [↓vS,vT,simprocAttr,he,hd1,hd2,ha1,ha2,hd0,ha6,hw1];refine ih (j+1) ⟨hlt,hb⟩ (by omega) _ _ (Wk.mk _ _ [] ?_ ?_ ?_ rfl)
     ·simp[vw,zz]
     ·trivial
     ·simp
  ·have hb:=bad (by rw[hmx];simp[he]);simp (decide:=true) only [↓vS,vT,simprocAttr,he];simp[vZ,hb]
 ·obtain rfl:j=l.length:=by omega
  have hd:l.drop l.length=[]:=List.drop_eq_nil_of_le (by omega);rw[hd] at hI;rw[← hI];simp (decide:=true) only [↓vS,vT,simprocAttr,hlt];simp[vZ]
def x8:IFn:=⟨[.tmp 4],.seq (.r [.m 4 .F]) (.seq (.seq (.r [.n 6 0,.e 7 6,.n 8 1,.e 9 8,.b 10 .neq 7 9]) (.cond (.t 10) (.seq (.r [.m 4 .F]) (.ret)) (.skip))) (.seq (.seq (.r [.m 5 (.k 0)]) (.blk 0 (.loop (.seq (.seq (.r [.n 11 5,.n 12 0,.e 13 12,.s 14 11 13]) (.cond (.t 14) (.skip) (.exit 0))) (.seq (.blk 1 (.seq (.reg true [.n 17 0,.n 18 5,.i 19 4 17 18,.v 20 4 19,.n 21 1,.n 22 5,.i 23 4 21 22,.v 24 4 23,.q 25 (.eqA true [.i,.i,.i,.i] (.t 20) (.t 24))]) (.cond (.t 25) (.seq (.r [.m 4 .F]) (.ret)) (.skip)))) (.r [.n 15 5,.a 16 15 1,.n 5 16])))))) (.seq (.r [.m 4 .T]) (.ret))))⟩
theorem qqV(hc:qt P f x8=true)(p:List Ins)(hp:p.length<=1000000):qf P f [.fz p.length (rP p),.fz p.length (rP p)] (.b true):=by
 refine qf.mk hc (by simp[qw,clo,qb]) ?_;simp only[x8,vI,simprocAttr];simp (decide:=true) only [↓vS,vT,simprocAttr];refine SL.loop (α:=Nat) (fun j=>[(0,.fz p.length (rP p)),(1,.fz p.length (rP p)),(5,.i .i64 (j:Int))]) (fun _=>[]) (fun j=>j<=p.length) (fun j=>p.length-j) 0 [] ?_ ?_ ?_ rfl ?_ ?_
 ·simp[vw,qb]
 ·trivial
 ·simp
 ·exact Nat.zero_le _
 rintro j hj G ih;simp only[vI,simprocAttr]
 by_cases hlt:j<p.length
 ·obtain⟨i,hpi⟩:∃i,p[j]?=some i:=⟨_,List.getElem?_eq_getElem hlt⟩;have hel:=z5 (f:=qv) (m:=4) zl hpi;rw[show p.flatMap qv=rP p from rfl] at hel
  simp only[qv] at hel;have h4:j*4+4<=(rP p).length:=by rw[yT];omega
  have hw1:IntKind.wrap .i64 ((j:Int)+1)=((j+1:Nat):Int):=by rw[qo (by omega) (by omega)];omega
  simp (decide:=true) only [↓vS,vT,simprocAttr,hlt];refine jp ?_;simp (decide:=true) only [↓vS,vT,simprocAttr,hlt,hel,h4,hw1];refine ih (j+1) hlt (by omega) _ _ (Wk.mk _ _ [] ?_ ?_ ?_ rfl)
  ·simp[vw,qb]
  ·trivial
  ·simp
 ·simp (decide:=true) only [↓vS,vT,simprocAttr,hlt];simp[vZ]
def jc(a:Nat):IFn:=⟨[.tmp 4],.seq (.r [.m 4 .F]) (.seq (.seq (.r [.n 6 0,.e 7 6,.n 8 1,.e 9 8,.b 10 .neq 7 9]) (.cond (.t 10) (.seq (.r [.m 4 .F]) (.ret)) (.skip))) (.seq (.seq (.r [.m 5 (.k 0)]) (.blk 0 (.loop (.seq (.seq (.r [.n 11 5,.n 12 0,.e 13 12,.s 14 11 13]) (.cond (.t 14) (.skip) (.exit 0))) (.seq (.blk 1 (.seq (.reg true [.n 17 0,.n 18 5,.i 19 3 17 18,.f 20 0 19,.d 21 20,.n 22 1,.n 23 5,.i 24 3 22 23,.f 25 0 24,.d 26 25,.b 27 .neq 21 26,.n 28 27,.z 29 0 28,.z 30 5 28,.g 31 (.iAddrS 3 (.t 29) (.t 30)) 28 false,.h 32 1 31 28 false,.j 33 32 28 false,.z 34 1 28,.z 35 5 28,.g 36 (.iAddrS 3 (.t 34) (.t 35)) 28 false,.h 37 1 36 28 false,.j 38 37 28 false,.g 39 (.bin .neq (.t 33) (.t 38)) 28 false,.o 40 28 39,.n 41 40,.z 42 0 41,.z 43 5 41,.g 44 (.iAddrS 3 (.t 42) (.t 43)) 41 false,.h 45 2 44 41 false,.j 46 45 41 false,.z 47 1 41,.z 48 5 41,.g 49 (.iAddrS 3 (.t 47) (.t 48)) 41 false,.h 50 2 49 41 false,.j 51 50 41 false,⟨(some 52),.callF a [.t 46,.t 51],(some (41,false))⟩,.g 53 (.un .not (.t 52)) 41 false,.o 54 41 53]) (.cond (.t 54) (.seq (.r [.m 4 .F]) (.ret)) (.skip)))) (.r [.n 15 5,.a 16 15 1,.n 5 16])))))) (.seq (.r [.m 4 .T]) (.ret))))⟩
theorem qqW{g:Nat}(hc:qt P f (jc g)=true)(hg:∀p:List Ins,p.length<=1000000->qf P g [.fz p.length (rP p),.fz p.length (rP p)] (.b true))(l:List Prg)(hl:l.length<=10000)(hx:∀x ∈ l,PrgOk x) :
  qf P f [.fz l.length (rPr l),.fz l.length (rPr l)] (.b true):=by
 refine qf.mk hc (by simp[qw,clo,zz]) ?_;simp only[jc,vI,simprocAttr];simp (decide:=true) only [↓vS,vT,simprocAttr];refine SL.loop (α:=Nat) (fun j=>[(0,.fz l.length (rPr l)),(1,.fz l.length (rPr l)),(5,.i .i64 (j:Int))]) (fun _=>[]) (fun j=>j<=l.length) (fun j=>l.length-j) 0 [] ?_ ?_ ?_ rfl ?_ ?_
 ·simp[vw,zz]
 ·trivial
 ·simp
 ·exact Nat.zero_le _
 rintro j hj G ih;simp only[vI,simprocAttr]
 by_cases hlt:j<l.length
 ·obtain⟨x,hpi⟩:∃x,l[j]?=some x:=⟨_,List.getElem?_eq_getElem hlt⟩;have hxl:=(hx x (List.mem_of_getElem? hpi)).len;have g0:=zI (f:=cPr) (m:=3) kZ hpi (i:=0) (by omega);have g1:=zI (f:=cPr) (m:=3) kZ hpi (i:=1) (by omega);have g2:=zI (f:=cPr) (m:=3) kZ hpi (i:=2) (by omega);rw[show l.flatMap cPr=rPr l from rfl] at g0 g1 g2
  simp only[cPr,Nat.add_zero,List.getElem?_cons_zero,List.getElem?_cons_succ] at g0 g1 g2;have hw1:IntKind.wrap .i64 ((j:Int)+1)=((j+1:Nat):Int):=by rw[qo (by omega) (by omega)];omega
  simp (decide:=true) only [↓vS,vT,simprocAttr,hlt];refine jp ?_;simp (decide:=true) only [↓vS,vT,simprocAttr,hlt,g0,g1,g2];refine (hg x.ins (by omega)).pc ?_;simp (decide:=true) only [↓vS,vT,simprocAttr,hw1];refine ih (j+1) hlt (by omega) _ _ (Wk.mk _ _ [] ?_ ?_ ?_ rfl)
  ·simp[vw,zz]
  ·trivial
  ·simp
 ·simp (decide:=true) only [↓vS,vT,simprocAttr,hlt];simp[vZ]
def xM(a:Nat):IFn:=⟨[.tmp 2,.tmp 3],.seq (.r [.m 2 .N,.m 3 (.k 0)]) (.seq (.seq (.r [.n 6 0,.e 7 6,.w 8 .rem 7 8,.w 9 .neq 8 0]) (.cond (.t 9) (.seq (.r [.m 2 .N,.m 3 (.k 20)]) (.ret)) (.skip))) (.seq (.seq (.r [.n 10 0,.e 11 10,.w 12 .gtr 11 32768]) (.cond (.t 12) (.seq (.r [.m 2 .N,.m 3 (.k 3)]) (.ret)) (.skip))) (.seq (.r [.m 4 .N]) (.seq (.seq (.r [.m 5 (.k 0)]) (.blk 0 (.loop (.seq (.seq (.r [.n 13 5,.n 14 0,.e 15 14,.s 16 13 15]) (.cond (.t 16) (.skip) (.exit 0))) (.seq (.blk 1 (.r [.n 19 4,.n 20 0,.n 21 5,.n 22 5,.a 23 22 8,.q 24 (.slcS 1 (.t 20) (some (.t 21)) (some (.t 23)) none),.l 25 a [.t 24],.q 26 (.buildS 1 [.i .u16 0,.i .u8 0,.i .u8 0,.i .u32 0] [(0,4,(.t 25))]),.q 27 (.app 4 8 true (.t 19) (.t 26)),.n 4 27])) (.r [.n 17 5,.a 18 17 8,.n 5 18])))))) (.seq (.r [.n 28 4,.n 2 28,.m 3 (.k 0)]) (.ret))))))⟩
theorem qp2{g:Nat}(hc:qt P f (xM g)=true)(hg:∀b:List Int,qK b->b.length=8->qf P g [.fz 8 (rB b)] (.agg (qv (qax b))))(b:List Int)(hb:qK b)(m:Nat)(hl:b.length=8*m)(hm:b.length<=32768) :
  qf P f [.fz b.length (rB b)] (.tup [.fz m (rP (wZ b m)),.i .i64 0]):=by
 refine qf.mk hc (by simp[qw,clo,qE]) ?_;have ht:(b.length:Int).tmod 8=0:=by rw[Int.tmod_eq_emod_of_nonneg (by omega)];omega
 have h80:(8:Int)≠0:=by decide
 have hbig':¬(32768:Int)<b.length:=by omega
 simp only[xM,vI,simprocAttr];simp (decide:=true) only [↓vS,vT,simprocAttr,↓jB h80,ht,hbig'];refine SL.loop (α:=Nat) (fun j=>[(0,.fz b.length (rB b)),(4,.own 0 j),(5,.i .i64 ((8*j:Nat):Int))]) (fun j=>[.cells 4 true true (rP (wZ b j))]) (fun j=>j<=m) (fun j=>m-j) 0 [99] ?_ ?_ ?_ rfl ?_ ?_
 ·simp[vw,qE]
 ·simp[vw]
 ·simp
 ·exact Nat.zero_le _
 rintro j hj G ih;simp only[vI,simprocAttr]
 by_cases hlt:j<m
 ·have hlt':8*j<b.length:=by omega
  have hjl:8*j+8<=b.length:=by omega
  have hw:IntKind.wrap .i64 (((8*j:Nat):Int)+8)=((8*(j+1):Nat):Int):=by rw[qo (by omega) (by omega)];omega
  have hw2:IntKind.wrap .i64 (((8*j:Nat):Int)+8)=((8*j+8:Nat):Int):=by rw[qo (by omega) (by omega)];omega
  have e5:8*j+8-8*j=8:=by omega
  have e7:8*j<=8*j+8:=by omega
  have e8:8*j+8<=(rB b).length:=by rw[wB];omega
  have hsl:(qO b (8*j) 8).length=8:=z4 hjl;have hdec:=hg (qO b (8*j) 8) (xc hb _ _) hsl;have hil:=vq b j;have hnx:=qbr b j;have ih2:=ih (j+1);rw[hnx] at ih2;have e1:8*j<=b.length:=by omega
  simp (decide:=true) only [↓vS,vT,simprocAttr,hlt',hw2,e1,e7,hjl,e8,Nat.mul_one,kR,e5];refine hdec.sc ?_;generalize wZ b j=A at hil ih2 ⊢;generalize qax (qO b (8*j) 8)=x at ih2 ⊢;have hlr:(rP A).length=j*4:=by rw[yT,hil]
  have hr1:j+1<=qe:=by simp only[qe];omega
  have hr2:(j+1)*8<=qe:=by simp only[qe];omega
  have hap:rP A++qv x=rP (A++[x]):=by rw[qhW,qhX]
  simp only[qv] at hap;simp (decide:=true) only [↓vS,vT,simprocAttr,qv,hr1,hr2,hlr,hap,hw];refine ih2 (by omega) (by omega) _ _ (Wk.mk _ _ [2] ?_ ?_ ?_ rfl)
  ·simp[vw,qE]
  ·simp[vw,qd,qb]
  ·simp
 ·obtain rfl:j=m:=by omega
  have hlt':¬8*j<b.length:=by omega
  simp (decide:=true) only [↓vS,vT,simprocAttr,hlt'];simp[vZ,vP,Tr.get_set,zC (qb _)];intro h0;rw[h0];rfl
end Go.Kc
end
section
/- Stacks of bytes. Condition: the functions' texts are these. -/
namespace Go.Kc
variable {P:Program} {f:Nat}
def yn(b:List Int):Nat:=(leM (qO b 2 2)).toNat
def mkP(b:List Int):Prg:=⟨b.getD 0 0,b.getD 1 0,wZ (qO b 4 (8*yn b)) (yn b)⟩
def wD(lim:Nat):Nat->List Int->List Prg->Option (List Prg)
 | 0,b,out=>if b.length=0 then some out else none
 | k+1,b,out=>if b.length=0 then some out else if b.length<4∨b.length<4+8*yn b∨lim<=out.length then none else wD lim k (b.drop (4+8*yn b)) (out++[mkP b])
theorem wn{lim k:Nat}{b:List Int}{out:List Prg}:wD lim (k+1) b out=if b.length=0 then some out else if b.length<4∨b.length<4+8*yn b∨lim<=out.length then none else wD lim k (b.drop (4+8*yn b)) (out++[mkP b]):=rfl
def yE:AV:=.tup [.fz 0 [],.i .i64 290]
def yB(o:Option (List Prg)):AV:=match o with
 | none=>yE
 | some out=>if xw out=true then .tup [.fz out.length (rPr out),.i .i64 0] else yE
theorem qqu{b:List Int}(hb:qK b)(h:4<=b.length):0<=leM (qO b 2 2)∧leM (qO b 2 2)<=65535:=by
 have h1:=xo (xc hb 2 2);rw[z4 (by omega)] at h1;exact⟨h1.1,by have:=h1.2;omega⟩
theorem qef{b:List Int}(hb:qK b)(h:4<=b.length):leM (qO b 2 2)=((yn b:Nat):Int)∧yn b<=65535:=by
 have:=qqu hb h;unfold yn;omega
theorem wl{b:List Int}(hb:qK b)(j:Nat):0<=b.getD j 0∧b.getD j 0<=255:=by
 rw[List.getD_eq_getElem?_getD];cases h:b[j]? with
 | none=>simp
 | some x=>exact hb x (List.mem_of_getElem? h)
theorem qi3{b:List Int}(hb:qK b)(h:b.length=8):InsOk (qax b):=by
 have h1:=xo (xc hb 0 2);have h2:=xo (xc hb 4 4);rw[z4 (by omega)] at h1 h2;have h3:=wl hb 2;have h4:=wl hb 3;exact⟨h1.1,by have:=h1.2;show leM (qO b 0 2)<=65535;omega,h3.1,h3.2,h4.1,h4.2,h2.1,by have:=h2.2;show leM (qO b 4 4)<=4294967295;omega⟩
theorem qdF{b:List Int}(hb:qK b)(h:4+8*yn b<=b.length)(hl:b.length<=8000):PrgOk (mkP b):=by
 refine⟨by show (wZ _ _).length<=4096;rw[vq];omega,fun i hi=>?_⟩
 have hi:i ∈ wZ (qO b 4 (8*yn b)) (yn b):=hi;unfold wZ at hi;obtain⟨j,hj,rfl⟩:=List.mem_map.1 hi;have hj:=List.mem_range.1 hj;refine qi3 (xc (xc hb _ _) _ _) (z4 ?_);rw[z4 (by omega)];omega
def qgr(P:Program)(g:Nat):Prop:=∀b:List Int,qK b->∀m:Nat,b.length=8*m->b.length<=32768->qf P g [.fz b.length (rB b)] (.tup [.fz m (rP (wZ b m)),.i .i64 0])
theorem qoN{g:Nat}(h:∀b:List Int,qK b->b.length<=1000000->qf P g [.fz b.length (rB b)] (if b.length % 8≠0 then .tup [.fz 0 [],.i .i64 20] else if 32768<b.length then .tup [.fz 0 [],.i .i64 3] else .tup [.fz (b.length / 8) (rP (qha b)),.i .i64 0])):qgr P g:=by
 intro b hb m hm hl;have:=h b hb (by omega);rw[if_neg (by omega),if_neg (by omega)] at this;have e:b.length / 8=m:=by omega
 unfold qha at this;rw[e] at this;exact this
def qkO(P:Program)(g:Nat):Prop:=∀l:List Prg,l.length<=10000->(∀x ∈ l,PrgOk x)->qf P g [.fz l.length (rPr l)] (.b (xw l))
def kK(a b c:Nat):IFn:=⟨[.tmp 2,.tmp 3],.seq (.r [.m 2 .N,.m 3 (.k 0)]) (.seq (.r [.m 4 .N]) (.seq (.blk 0 (.loop (.seq (.seq (.r [.n 10 0,.e 11 10,.w 12 .gtr 11 0]) (.cond (.t 12) (.skip) (.exit 0))) (.blk 1 (.seq (.r [.n 14 0,.l 15 a [.t 14,.k 2],.n 13 15,.x 16 13 0,.x 17 13 1,.n 5 16,.n 6 17]) (.seq (.r [.n 18 5,.q 19 (.cvInt .i64 (.t 18)),.q 20 (.bin .mul (.k 8) (.t 19)),.q 21 (.bin .add (.k 4) (.t 20)),.n 7 21]) (.seq (.seq (.r [.n 22 6,.q 23 (.un .not (.t 22)),.n 24 23,.z 25 7 24,.z 26 0 24,.g 27 (.len false (.t 26)) 24 false,.g 28 (.bin .gtr (.t 25) (.t 27)) 24 false,.o 29 24 28,.n 30 29,.z 31 4 30,.g 32 (.len false (.t 31)) 30 false,.g 33 (.bin .geq (.t 32) (.k 48)) 30 false,.o 34 30 33]) (.cond (.t 34) (.seq (.r [.m 2 .N,.m 3 (.k 290)]) (.ret)) (.skip))) (.seq (.r [.n 36 0,.n 37 7,.q 38 (.slcS 1 (.t 36) (some (.k 4)) (some (.t 37)) none),.l 39 b [.t 38],.n 35 39,.x 40 35 0,.x 41 35 1,.n 8 40,.n 9 41]) (.seq (.seq (.r [.n 42 9,.w 43 .neq 42 0]) (.cond (.t 43) (.seq (.r [.m 2 .N,.m 3 (.k 290)]) (.ret)) (.skip))) (.seq (.reg true [.n 44 4,.n 45 0,.q 46 (.iAddrS 1 (.t 45) (.k 0)),.d 47 46,.q 48 (.cvInt .i64 (.t 47)),.n 49 0,.q 50 (.iAddrS 1 (.t 49) (.k 1)),.d 51 50,.q 52 (.cvInt .i64 (.t 51)),.n 53 8,.q 54 (.build [.i .i64 0,.i .i64 0,.nils] [(0,1,(.t 48)),(1,1,(.t 52)),(2,1,(.t 53))]),.q 55 (.buildS 1 [.i .i64 0,.i .i64 0,.nils] [(0,3,(.t 54))]),.q 56 (.app 3 40 true (.t 44) (.t 55)),.n 4 56]) (.r [.n 57 0,.n 58 7,.q 59 (.slcS 1 (.t 57) (some (.t 58)) none none),.n 0 59]))))))))))) (.seq (.seq (.r [.n 60 4,.l 61 c [.t 60],.q 62 (.un .not (.t 61))]) (.cond (.t 62) (.seq (.r [.m 2 .N,.m 3 (.k 290)]) (.ret)) (.skip))) (.seq (.r [.n 63 4,.n 2 63,.m 3 (.k 0)]) (.ret)))))⟩
set_option maxHeartbeats 2000000 in
theorem qfW{g1 g2 g3:Nat}(hc:qt P f (kK g1 g2 g3)=true)(h1:qgp P g1)(h2:qgr P g2)(h3:qkO P g3)(b:List Int)(hb:qK b)(hl:b.length<=8000):qf P f [.fz b.length (rB b)] (yB (wD 48 b.length b [])):=by
 refine qf.mk hc (by simp[qw,clo,qE]) ?_;simp only[kK,vI,simprocAttr];simp (decide:=true) only [↓vS,vT,simprocAttr]
 refine SL.loop (α:=Nat×List Int×List Prg) (fun a=>[(0,.fz a.2.1.length (rB a.2.1)),(4,.own 0 a.2.2.length)]) (fun a=>[.cells 3 true true (rPr a.2.2)])
  (fun a=>a.2.1.length<=a.1∧a.2.1.length<=8000∧qK a.2.1∧a.2.2.length<=48∧(∀x ∈ a.2.2,PrgOk x)∧wD 48 a.1 a.2.1 a.2.2=wD 48 b.length b []) (fun a=>a.2.1.length) (b.length,b,[]) [99] ?_ ?_ ?_ rfl ?_ ?_
 ·simp[vw,qE]
 ·simp[vw]
 ·simp
 ·exact⟨Nat.le_refl _,hl,hb,by simp,by simp,rfl⟩
 rintro⟨k,r,out⟩ ⟨hk,hr8,hrb,ho,hox,hI⟩ G ih;simp only at hk hr8 hrb ho hox hI;simp only[vI,simprocAttr]
 by_cases hz:r.length=0
 ·have hz':¬(0:Int)<(r.length:Int):=by omega
  have hI2:wD 48 k r out=some out:=by cases k<;>exact if_pos hz
  rw[hI2] at hI;rw[← hI];have hh:=h3 out (by omega) hox;rw[show yB (some out)=if xw out=true then .tup [.fz out.length (rPr out),.i .i64 0] else yE from rfl]
  generalize xw out=m at hh ⊢;simp (decide:=true) only [↓vS,vT,simprocAttr,hz'];refine (hh.lend (vs':=[.fz out.length (rPr out)]) ?_ ?_ ?_)
  -- (by omega) hox).lend (vs':=[.fz out.length (rPr out)]) ?_ ?_ ?_)
  ·simp[vZ,vP,Tr.get_set,zC (zz _)];intro h0;rw[h0];rfl
  ·rfl
  cases m with
  | true =>
   simp (decide:=true) only [↓vS,vT,simprocAttr];simp[vZ,vP,Tr.get_set,zC (zz _)];intro h0;rw[h0];rfl
  | false =>
   simp (decide:=true) only [↓vS,vT,simprocAttr];simp[vZ,yE]
 ·have hz':(0:Int)<(r.length:Int):=by omega
  obtain⟨k,rfl⟩:∃k',k=k'+1:=⟨k-1,by omega⟩
  rw[wn,if_neg hz] at hI;have hg:=h1 r hrb (by omega) 2 (by omega);unfold qcL at hg;simp (decide:=true) only [↓vS,vT,simprocAttr,hz'];refine hg.sc ?_
  by_cases h4:r.length<4
  ·rw[if_pos (.inl h4)] at hI;rw[← hI,if_neg (by omega)];simp (decide:=true) only [↓vS,vT,simprocAttr];simp[vZ,yB,yE]
  obtain⟨hle,hlu⟩:=qef hrb (by omega);rw[if_pos (by omega),hle];obtain⟨n,hn⟩:∃n,n=yn r:=⟨_,rfl⟩;rw[← hn] at hI hle hlu ⊢;have w1:IntKind.wrap .i64 (n:Int)=(n:Int):=qo (by omega) (by omega);have w2:IntKind.wrap .i64 (8*(n:Int))=8*(n:Int):=qo (by omega) (by omega);have w3:IntKind.wrap .i64 (4+8*(n:Int))=((4+8*n:Nat):Int):=by rw[qo (by omega) (by omega)];omega
  by_cases h5:r.length<4+8*n
  ·have h5':(r.length:Int)<((4+8*n:Nat):Int):=by omega
   rw[if_pos (.inr (.inl h5))] at hI;rw[← hI];simp (decide:=true) only [↓vS,vT,simprocAttr,w1,w2,w3,h5',h5];simp[vZ,yB,yE]
  have h5':¬(r.length:Int)<((4+8*n:Nat):Int):=by omega
  by_cases h6:48<=out.length
  ·have h6':(48:Int)<=(out.length:Int):=by omega
   rw[if_pos (.inr (.inr h6))] at hI;rw[← hI];simp (decide:=true) only [↓vS,vT,simprocAttr,w1,w2,w3,h5',h5,h6'];simp[vZ,yB,yE]
  have h6':¬(48:Int)<=(out.length:Int):=by omega
  rw[if_neg (by omega)] at hI;have e1:4<=4+8*n:=by omega
  have e2:4+8*n<=r.length:=by omega
  have e3:4+8*n<=(rB r).length:=by rw[wB];omega
  have e4:4+8*n-4=8*n:=by omega
  have hsl:(qO r 4 (8*n)).length=8*n:=z4 (by omega);have hpar:=h2 (qO r 4 (8*n)) (xc hrb _ _) n hsl (by omega);rw[hsl] at hpar;simp (decide:=true) only [↓vS,vT,simprocAttr,w1,w2,w3,h5',h5,h6',e1,e2,e3,e4,Nat.mul_one,kR];refine hpar.sc ?_;have q0:0<r.length:=by omega
  have q1:1<r.length:=by omega
  have b0:(rB r)[0]?=some (.i .u8 (r.getD 0 0)):=by rw[wA,getD_some q0];rfl
  have b1:(rB r)[1]?=some (.i .u8 (r.getD 1 0)):=by rw[wA,getD_some q1];rfl
  have hb0:=wl hrb 0;have hb1:=wl hrb 1;have hm:mkP r=⟨r.getD 0 0,r.getD 1 0,wZ (qO r 4 (8*n)) n⟩:=by unfold mkP;rw[← hn]
  have hil:=vq (qO r 4 (8*n)) n;have hok:=qdF hrb (by rw[← hn];omega) hr8;generalize hA:wZ (qO r 4 (8*n)) n=A at hm hil ⊢;generalize r.getD 0 0=c0 at hm b0 hb0;generalize r.getD 1 0=c1 at hm b1 hb1;have wc0:IntKind.wrap .i64 c0=c0:=qo (by omega) (by omega);have wc1:IntKind.wrap .i64 c1=c1:=qo (by omega) (by omega);have hlr:(rPr out).length=out.length*3:=qb8 out;have hr1:out.length+1<=qe:=by simp only[qe];omega
  have hr2:(out.length+1)*40<=qe:=by simp only[qe];omega
  have hap:rPr out++[.i .i64 c0,.i .i64 c1,.fz n (rP A)]=rPr (out++[mkP r]):=by
   rw[qew,hm];show _=rPr out++(cPr ⟨c0,c1,A⟩++[]);rw[List.append_nil];unfold cPr;simp only;rw[hil]
  have ht:List.take (r.length-(4+8*n)) (List.drop (4+8*n) r)=List.drop (4+8*n) r:=List.take_of_length_le (by rw[List.length_drop];omega);have e5:4+8*n+(r.length-(4+8*n))<=(rB r).length:=by rw[wB];omega
  have ih2:=ih (k,r.drop (4+8*n),out++[mkP r]);generalize mkP r=x at hap ih2 hI hok;simp (decide:=true) only [↓vS,vT,simprocAttr];refine jp ?_;simp (decide:=true) only [↓vS,vT,simprocAttr,q0,q1,Nat.mul_one,b0,b1,wc0,wc1,hlr,hr1,hr2,hap,e2,e3,e5,kR,ht];refine ih2 ⟨by simp only[List.length_drop];omega,by simp only[List.length_drop];omega,wE hrb _,by simp;omega,?_,hI⟩ (by simp only[List.length_drop];omega) _ _ (Wk.mk _ _ [2] ?_ ?_ ?_ rfl)
  ·intro y hy;rcases List.mem_append.1 hy with hy|hy
   ·exact hox y hy
   ·rw[List.mem_singleton.1 hy];exact hok
  ·simp[vw,qE]
  ·simp[vw,qd,zz]
  ·simp
end Go.Kc
end
section
/- The document's stacks of bytes; both ways come to the same; the law. Condition: the functions' texts are these. -/
namespace Go.Kc
variable {P:Program} {f:Nat}
theorem qbG(b:List Int)(a c n:Nat):qO (b.drop a) c n=qO b (a+c) n:=by unfold qO;rw[List.drop_drop]
theorem qbp(b:List Int)(a c:Nat):(b.drop a).getD c 0=b.getD (a+c) 0:=by
 rw[List.getD_eq_getElem?_getD,List.getElem?_drop,← List.getD_eq_getElem?_getD]
def xN(a b c:Nat):IFn:=⟨[.tmp 2,.tmp 3],.seq (.r [.m 2 .N,.m 3 (.k 0)]) (.seq (.r [.m 4 .N]) (.seq (.r [.m 5 (.k 0)]) (.seq (.blk 0 (.loop (.seq (.seq (.r [.n 11 5,.n 12 0,.e 13 12,.s 14 11 13]) (.cond (.t 14) (.skip) (.exit 0))) (.blk 1 (.seq (.r [.n 16 0,.n 17 5,.a 18 17 2,.l 19 a [.t 16,.t 18,.k 2],.n 15 19,.x 20 15 0,.x 21 15 1,.n 6 20,.n 7 21]) (.seq (.r [.n 22 6,.q 23 (.cvInt .i64 (.t 22)),.q 24 (.bin .mul (.k 8) (.t 23)),.n 8 24]) (.seq (.seq (.r [.n 25 7,.q 26 (.un .not (.t 25)),.n 27 26,.z 28 0 27,.g 29 (.len false (.t 28)) 27 false,.z 30 5 27,.g 31 (.bin .sub (.t 29) (.t 30)) 27 false,.g 32 (.bin .sub (.t 31) (.k 4)) 27 false,.z 33 8 27,.g 34 (.bin .lss (.t 32) (.t 33)) 27 false,.o 35 27 34,.n 36 35,.z 37 4 36,.g 38 (.len false (.t 37)) 36 false,.g 39 (.bin .gtr (.t 38) (.k 48)) 36 false,.o 40 36 39]) (.cond (.t 40) (.seq (.r [.m 2 .N,.m 3 (.k 290)]) (.ret)) (.skip))) (.seq (.r [.n 42 0,.n 43 5,.a 44 43 4,.n 45 5,.a 46 45 4,.n 47 8,.b 48 .add 46 47,.q 49 (.slcS 1 (.t 42) (some (.t 44)) (some (.t 48)) none),.l 50 b [.t 49],.n 41 50,.x 51 41 0,.x 52 41 1,.n 9 51,.n 10 52]) (.seq (.seq (.r [.n 53 10,.w 54 .neq 53 0]) (.cond (.t 54) (.seq (.r [.m 2 .N,.m 3 (.k 290)]) (.ret)) (.skip))) (.seq (.reg true [.n 55 4,.n 56 0,.n 57 5,.i 58 1 56 57,.d 59 58,.q 60 (.cvInt .i64 (.t 59)),.n 61 0,.n 62 5,.a 63 62 1,.i 64 1 61 63,.d 65 64,.q 66 (.cvInt .i64 (.t 65)),.n 67 9,.q 68 (.build [.i .i64 0,.i .i64 0,.nils] [(0,1,(.t 60)),(1,1,(.t 66)),(2,1,(.t 67))]),.q 69 (.buildS 1 [.i .i64 0,.i .i64 0,.nils] [(0,3,(.t 68))]),.q 70 (.app 3 40 true (.t 55) (.t 69)),.n 4 70]) (.r [.n 71 5,.a 72 71 4,.n 73 8,.b 74 .add 72 73,.n 5 74]))))))))))) (.seq (.seq (.r [.n 75 4,.l 76 c [.t 75],.q 77 (.un .not (.t 76))]) (.cond (.t 77) (.seq (.r [.m 2 .N,.m 3 (.k 290)]) (.ret)) (.skip))) (.seq (.r [.n 78 4,.n 2 78,.m 3 (.k 0)]) (.ret))))))⟩
set_option maxHeartbeats 2000000 in
theorem qkf{g1 g2 g3:Nat}(hc:qt P f (xN g1 g2 g3)=true)(h1:qkL P g1)(h2:qgr P g2)(h3:qkO P g3)(b:List Int)(hb:qK b)(hl:b.length<=8000):qf P f [.fz b.length (rB b)] (yB (wD 49 b.length b [])):=by
 refine qf.mk hc (by simp[qw,clo,qE]) ?_;simp only[xN,vI,simprocAttr];simp (decide:=true) only [↓vS,vT,simprocAttr]
 refine SL.loop (α:=Nat×Nat×List Prg) (fun a=>[(0,.fz b.length (rB b)),(4,.own 0 a.2.2.length),(5,.i .i64 (a.2.1:Int))]) (fun a=>[.cells 3 true true (rPr a.2.2)])
  (fun a=>b.length-a.2.1<=a.1∧a.2.1<=b.length∧a.2.2.length<=49∧(∀x ∈ a.2.2,PrgOk x)∧wD 49 a.1 (b.drop a.2.1) a.2.2=wD 49 b.length b []) (fun a=>b.length-a.2.1) (b.length,0,[]) [99] ?_ ?_ ?_ rfl ?_ ?_
 ·simp[vw,qE]
 ·simp[vw]
 ·simp
 ·exact⟨Nat.le_refl _,Nat.zero_le _,by simp,by simp,rfl⟩
 rintro⟨k,a,out⟩ ⟨hk,ha,ho,hox,hI⟩ G ih;simp only at hk ha ho hox hI;simp only[vI,simprocAttr];have hrl:(b.drop a).length=b.length-a:=List.length_drop;have hrb:=wE hb a;obtain⟨r,hr⟩:∃r,r=b.drop a:=⟨_,rfl⟩;rw[← hr] at hI hrl hrb
 by_cases hz:r.length=0
 ·have hz':¬a<b.length:=by omega
  have hI2:wD 49 k r out=some out:=by cases k<;>exact if_pos hz
  rw[hI2] at hI;rw[← hI];have hh:=h3 out (by omega) hox;rw[show yB (some out)=if xw out=true then .tup [.fz out.length (rPr out),.i .i64 0] else yE from rfl]
  generalize xw out=m at hh ⊢;simp (decide:=true) only [↓vS,vT,simprocAttr,hz'];refine (hh.lend (vs':=[.fz out.length (rPr out)]) ?_ ?_ ?_)
  ·simp[vZ,vP,Tr.get_set,zC (zz _)];intro h0;rw[h0];rfl
  ·rfl
  cases m with
  | true =>
   simp (decide:=true) only [↓vS,vT,simprocAttr];simp[vZ,vP,Tr.get_set,zC (zz _)];intro h0;rw[h0];rfl
  | false =>
   simp (decide:=true) only [↓vS,vT,simprocAttr];simp[vZ,yE]
 ·have hz':a<b.length:=by omega
  obtain⟨k,rfl⟩:∃k',k=k'+1:=⟨k-1,by omega⟩
  rw[wn,if_neg hz] at hI;have ha2:IntKind.wrap .i64 ((a:Int)+2)=((a+2:Nat):Int):=by rw[qo (by omega) (by omega)];omega
  have hg:=h1 b hb (by omega) (a+2) (by omega) 2 (by omega);unfold qff at hg;rw[← qbG,← hr] at hg;simp (decide:=true) only [↓vS,vT,simprocAttr,hz',ha2];refine hg.sc ?_
  by_cases h4:r.length<4
  ·rw[if_pos (.inl h4)] at hI;rw[← hI,if_neg (by omega)];simp (decide:=true) only [↓vS,vT,simprocAttr];simp[vZ,yB,yE]
  obtain⟨hle,hlu⟩:=qef hrb (by omega);rw[if_pos (by omega),hle];obtain⟨n,hn⟩:∃n,n=yn r:=⟨_,rfl⟩;rw[← hn] at hI hle hlu ⊢;have w1:IntKind.wrap .i64 (n:Int)=(n:Int):=qo (by omega) (by omega);have w2:IntKind.wrap .i64 (8*(n:Int))=((8*n:Nat):Int):=by rw[qo (by omega) (by omega)];omega
  have w3:IntKind.wrap .i64 ((b.length:Int)-(a:Int))=((r.length:Nat):Int):=by rw[qo (by omega) (by omega)];omega
  have w4:IntKind.wrap .i64 ((r.length:Int)-4)=((r.length-4:Nat):Int):=by rw[qo (by omega) (by omega)];omega
  have w5:IntKind.wrap .i64 ((a:Int)+4)=((a+4:Nat):Int):=by rw[qo (by omega) (by omega)];omega
  have w6:IntKind.wrap .i64 (((a+4:Nat):Int)+((8*n:Nat):Int))=((a+4+8*n:Nat):Int):=by rw[qo (by omega) (by omega)];omega
  have w7:IntKind.wrap .i64 ((a:Int)+1)=((a+1:Nat):Int):=by rw[qo (by omega) (by omega)];omega
  by_cases h5:r.length<4+8*n
  ·have h5':r.length-4<8*n:=by omega
   rw[if_pos (.inr (.inl h5))] at hI;rw[← hI];simp (decide:=true) only [↓vS,vT,simprocAttr,w1,w2,w3,w4,h5'];simp[vZ,yB,yE]
  have h5':¬r.length-4<8*n:=by omega
  by_cases h6:49<=out.length
  ·have h6':(48:Int)<(out.length:Int):=by omega
   rw[if_pos (.inr (.inr h6))] at hI;rw[← hI];simp (decide:=true) only [↓vS,vT,simprocAttr,w1,w2,w3,w4,h5',h6'];simp[vZ,yB,yE]
  have h6':¬(48:Int)<(out.length:Int):=by omega
  rw[if_neg (by omega)] at hI;have e1:a+4<=a+4+8*n:=by omega
  have e2:a+4+8*n<=b.length:=by omega
  have e3:a+4+8*n<=(rB b).length:=by rw[wB];omega
  have e4:a+4+8*n-(a+4)=8*n:=by omega
  have e6:a+4<=b.length:=by omega
  have hsl:(qO b (a+4) (8*n)).length=8*n:=z4 (by omega);have hpar:=h2 (qO b (a+4) (8*n)) (xc hb _ _) n hsl (by omega);rw[hsl] at hpar;simp (decide:=true) only [↓vS,vT,simprocAttr,w1,w2,w3,w4,w5,w6,h5',h6',e1,e2,e3,e4,e6,Nat.mul_one,kR];refine hpar.sc ?_;have q0:a<b.length:=by omega
  have q1:a+1<b.length:=by omega
  have b0:(rB b)[a]?=some (.i .u8 (b.getD a 0)):=by rw[wA,getD_some q0];rfl
  have b1:(rB b)[a+1]?=some (.i .u8 (b.getD (a+1) 0)):=by rw[wA,getD_some q1];rfl
  have hb0:=wl hb a;have hb1:=wl hb (a+1)
  have hm:mkP r=⟨b.getD a 0,b.getD (a+1) 0,wZ (qO b (a+4) (8*n)) n⟩:=by
   unfold mkP;rw[← hn,hr,qbG,qbp,qbp,Nat.add_zero]
  have hil:=vq (qO b (a+4) (8*n)) n;have hok:=qdF hrb (by rw[← hn];omega) (by omega);generalize hA:wZ (qO b (a+4) (8*n)) n=A at hm hil ⊢;generalize b.getD a 0=c0 at hm b0 hb0;generalize b.getD (a+1) 0=c1 at hm b1 hb1;have wc0:IntKind.wrap .i64 c0=c0:=qo (by omega) (by omega);have wc1:IntKind.wrap .i64 c1=c1:=qo (by omega) (by omega);have hlr:(rPr out).length=out.length*3:=qb8 out;have hr1:out.length+1<=qe:=by simp only[qe];omega
  have hr2:(out.length+1)*40<=qe:=by simp only[qe];omega
  have hap:rPr out++[.i .i64 c0,.i .i64 c1,.fz n (rP A)]=rPr (out++[mkP r]):=by
   rw[qew,hm];show _=rPr out++(cPr ⟨c0,c1,A⟩++[]);rw[List.append_nil];unfold cPr;simp only;rw[hil]
  have ih2:=ih (k,a+4+8*n,out++[mkP r]);have hdd:r.drop (4+8*n)=b.drop (a+4+8*n):=by rw[hr,List.drop_drop];congr 1;omega
  rw[hdd] at hI;generalize mkP r=x at hap ih2 hI hok;simp (decide:=true) only [↓vS,vT,simprocAttr];refine jp ?_;simp (decide:=true) only [↓vS,vT,simprocAttr,q0,q1,w5,w6,w7,Nat.mul_one,b0,b1,wc0,wc1,hlr,hr1,hr2,hap];refine ih2 ⟨by simp only;omega,e2,by simp;omega,?_,hI⟩ (by simp only;omega) _ _ (Wk.mk _ _ [2] ?_ ?_ ?_ rfl)
  ·intro y hy;rcases List.mem_append.1 hy with hy|hy
   ·exact hox y hy
   ·rw[List.mem_singleton.1 hy];exact hok
  ·simp[vw,qE]
  ·simp[vw,qd,zz]
  ·simp
theorem qbB{lim:Nat}:∀(k:Nat) (b:List Int) (out o:List Prg),wD lim k b out=some o->out.length<=o.length
 | 0,b,out,o,h=>by
  unfold wD at h;split at h
  ·cases h;exact Nat.le_refl _
  ·cases h
 | k+1,b,out,o,h=>by
  rw[wn] at h;split at h
  ·cases h;exact Nat.le_refl _
  ·split at h
   ·cases h
   ·have:=qbB k _ _ _ h;simp at this;omega
theorem qc3:∀(k:Nat) (b:List Int) (out:List Prg),out.length<=48->yB (wD 48 k b out)=yB (wD 49 k b out)
 | 0,b,out,_=>rfl
 | k+1,b,out,ho=>by
  rw[wn,wn]
  by_cases h0:b.length=0
  ·rw[if_pos h0,if_pos h0]
  rw[if_neg h0,if_neg h0]
  by_cases h1:b.length<4∨b.length<4+8*yn b
  ·rw[if_pos (h1.elim .inl fun h=>.inr (.inl h)),if_pos (h1.elim .inl fun h=>.inr (.inl h))]
  by_cases h2:48<=out.length
  ·rw[if_pos (.inr (.inr h2)),if_neg (by omega)];cases hp:wD 49 k (b.drop (4+8*yn b)) (out++[mkP b]) with
   | none=>rfl
   | some o =>
    have:=qbB _ _ _ _ hp;simp at this;have hm:xw o=false:=by unfold xw;rw[decide_eq_false (by omega)];rfl
    show yE=if xw o=true then _ else yE
    rw[hm];rfl
  ·rw[if_neg (by omega),if_neg (by omega)];exact qc3 k _ _ (by simp;omega)
end Go.Kc
end
section
/- The law StackParse. Condition: the functions' texts are these. -/
namespace Go.Kc
variable {P:Program} {f:Nat}
theorem qer{lim:Nat}:∀(k:Nat) (b:List Int) (out o:List Prg),qK b->b.length<=8000->(∀x ∈ out,PrgOk x)->wD lim k b out=some o->∀x ∈ o,PrgOk x
 | 0,b,out,o,_,_,hx,h=>by
  unfold wD at h;split at h
  ·cases h;exact hx
  ·cases h
 | k+1,b,out,o,hb,hl,hx,h=>by
  rw[wn] at h;split at h
  ·cases h;exact hx
  ·split at h
   ·cases h
   ·rename_i h0 h1;refine qer k _ _ _ (wE hb _) (by rw[List.length_drop];omega) (fun y hy=>?_) h
    rcases List.mem_append.1 hy with hy|hy
    ·exact hx y hy
    ·rw[List.mem_singleton.1 hy];exact qdF hb (by omega) hl
theorem qeP(b:List Int)(hb:qK b)(hl:b.length<=8000):∃(out:List Prg) (e:Int),out.length<=48∧(∀x ∈ out,PrgOk x)∧yB (wD 48 b.length b []) = .tup [.fz out.length (rPr out),.i .i64 e]:=by
 cases h:wD 48 b.length b [] with
 | none=>exact⟨[],290,by simp,by simp,rfl⟩
 | some o =>
  have hx:=qer _ _ _ _ hb hl (by simp) h;show ∃out e,_∧_∧(if xw o=true then _ else yE)=_
  by_cases hm:xw o=true
  ·have h48:o.length<=48:=by unfold xw at hm;simp at hm;exact hm.1
   rw[if_pos hm];exact⟨o,0,h48,hx,rfl⟩
  ·rw[if_neg hm];exact⟨[],290,by simp,by simp,rfl⟩
def z1(a b c d e:Nat):IFn:=⟨[.tmp 2],.seq (.r [.m 2 .F]) (.seq (.seq (.r [.n 8 0,.e 9 8,.w 10 .gtr 9 8000]) (.cond (.t 10) (.seq (.r [.m 2 .T]) (.ret)) (.skip))) (.seq (.r [.n 11 0,.l 12 a [.t 11],.n 3 12]) (.seq (.r [.n 14 3,.l 15 b [.t 14],.n 13 15,.x 16 13 0,.x 17 13 1,.n 4 16,.n 5 17]) (.seq (.r [.n 19 0,.l 20 c [.t 19],.n 18 20,.x 21 18 0,.x 22 18 1,.n 6 21,.n 7 22]) (.seq (.r [.n 23 5,.n 24 7,.b 25 .eql 23 24,.n 26 25,.y 27 4 26,.y 28 6 26,⟨(some 29),.callF d [.t 27,.t 28],(some (26,true))⟩,.p 30 26 29,.n 31 30,.y 32 3 31,.y 33 0 31,⟨(some 34),.callF e [.t 32,.t 33],(some (31,true))⟩,.p 35 31 34,.n 2 35]) (.ret))))))⟩
theorem qhf{g1 g2 g3 g4 g5:Nat}(hc:qt P f (z1 g1 g2 g3 g4 g5)=true)
  (h1:∀b:List Int,b.length<=1000000->qf P g1 [.fz b.length (rB b)] (.fz b.length (rB b)))
  (h2:∀b:List Int,qK b->b.length<=8000->qf P g2 [.fz b.length (rB b)] (yB (wD 48 b.length b [])))
  (h3:∀b:List Int,qK b->b.length<=8000->qf P g3 [.fz b.length (rB b)] (yB (wD 49 b.length b [])))
  (h4:∀l:List Prg,l.length<=10000->(∀x ∈ l,PrgOk x)->qf P g4 [.fz l.length (rPr l),.fz l.length (rPr l)] (.b true))
  (h5:∀l m:List Int,l.length<=1000000->qf P g5 [.fz l.length (rB l),.fz m.length (rB m)] (.b (decide (l=m))))
  (b:List Int) (hb:qK b):qf P f [.fz b.length (rB b)] (.b true):=by
 refine qf.mk hc (by simp[qw,clo,qE]) ?_;simp only[z1,vI,simprocAttr]
 by_cases hl:8000<b.length
 ·have hl':(8000:Int)<b.length:=by omega
  simp (decide:=true) only [↓vS,vT,simprocAttr,hl'];simp[vZ]
 have hl':¬(8000:Int)<b.length:=by omega
 have hl8:b.length<=8000:=by omega
 have p2:=h2 b hb hl8;have p3:=h3 b hb hl8;rw[← qc3 _ _ _ (by simp)] at p3;obtain⟨out,e,ho,hx,he⟩:=qeP b hb hl8;rw[he] at p2 p3;simp (decide:=true) only [↓vS,vT,simprocAttr,hl'];refine (h1 b (by omega)).sc ?_;simp (decide:=true) only [↓vS,vT,simprocAttr];refine p2.sc ?_;simp (decide:=true) only [↓vS,vT,simprocAttr];refine p3.sc ?_;simp (decide:=true) only [↓vS,vT,simprocAttr];refine (h4 out (by omega) hx).sc ?_;simp (decide:=true) only [↓vS,vT,simprocAttr];refine (h5 b b (by omega)).sc ?_;simp (decide:=true) only [↓vS,vT,simprocAttr];simp[vZ]
end Go.Kc
end
