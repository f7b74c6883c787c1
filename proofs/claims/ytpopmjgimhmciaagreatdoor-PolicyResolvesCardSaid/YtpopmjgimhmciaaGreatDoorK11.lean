/- Part 11 of the abstract machine and of the functions' walks. Conditions: with each theorem. -/
import Derived.Test.YtpopmjgimhmciaaGreatDoorK10
set_option linter.unusedSimpArgs false
set_option linter.unusedVariables false
set_option linter.unnecessarySimpa false
section
/- What the document's functions of stage 18 answer: the small ones. Condition: the functions' texts are these. -/
namespace Go.Kc
variable {P:Program} {f:Nat}
def vf:List (List UInt8):=zz.map (·.1)
def vu:IFn:=⟨[.tmp 0],.seq (.r [.m 0 .N]) (.seq (.r [.q 1 (.buildS 6 [.s []] [(0,1,(.c (.s [120,56,54,45,54,52]))),(1,1,(.c (.s [120,56,54]))),(2,1,(.c (.s [120,51,50]))),(3,1,(.c (.s [97,114,109]))),(4,1,(.c (.s [97,114,109,54,52]))),(5,1,(.c (.s [114,105,115,99,118,54,52])))]),.n 0 1]) (.ret))⟩
theorem qsF(hc:qk P f vu=true):qd P f [] (.fz 6 (rS vf)):=by
 refine qd.mk hc rfl ?_;simp only[vu,vI,simprocAttr];simp only[↓vS,vT,simprocAttr];refine .cut 1 rfl (Nat.le_refl _) ?_;simp[vw,zz,vf,rS]
theorem qfI:∀j:Nat,j<6->∀s,vf[j]?=some s->z4 s=((j:Int),0):=by
 intro j hj s hs;have:j=0∨j=1∨j=2∨j=3∨j=4∨j=5:=by omega
 rcases this with rfl|rfl|rfl|rfl|rfl|rfl<;>(simp[vf,zz] at hs;subst hs;decide)
theorem qd3{s:List UInt8}(h:∀x ∈ vf,x≠s):z4 s=if s=[110,97,116,105,118,101] then (0,0) else (0,80):=by
 unfold z4;split
 ·rfl
 ·rcases kY (fun x:List UInt8×Int=>decide (x.1=s)) zz 0 with⟨h1,_⟩|⟨i,x,h1,h2,h3,_⟩
  ·rw[h1];rfl
  ·exact absurd (by simpa using h3) (h x.1 (List.mem_map.2 ⟨x,List.mem_of_getElem? h2,rfl⟩))
def vx(a:Nat):IFn:=⟨[.tmp 2,.tmp 3],.seq (.r [.m 2 (.k 0),.m 3 (.k 0)]) (.seq (.r [.l 6 a [],.n 4 6]) (.seq (.seq (.r [.m 5 (.k 0)]) (.blk 0 (.loop (.seq (.seq (.r [.n 7 5,.n 8 4,.e 9 8,.s 10 7 9]) (.cond (.t 10) (.skip) (.exit 0))) (.seq (.blk 1 (.seq (.r [.n 13 4,.n 14 5,.i 15 1 13 14,.d 16 15,.n 17 0,.b 18 .eql 16 17]) (.cond (.t 18) (.seq (.r [.n 19 5,.n 2 19,.m 3 (.k 0)]) (.ret)) (.skip)))) (.r [.n 11 5,.a 12 11 1,.n 5 12])))))) (.seq (.seq (.r [.n 20 0,.q 21 (.bin .eql (.t 20) (.c (.s [110,97,116,105,118,101])))]) (.cond (.t 21) (.seq (.r [.m 2 (.k 0),.m 3 (.k 0)]) (.ret)) (.skip))) (.seq (.r [.m 2 (.k 0),.m 3 (.k 80)]) (.ret)))))⟩
theorem qsH{g:Nat}(hc:qk P f (vx g)=true)(hg:qd P g [] (.fz 6 (rS vf))):Zu P f:=by
 intro s;refine qd.mk hc rfl ?_;simp only[vx,vI,simprocAttr];simp only[↓vS,vT,simprocAttr];refine hg.sc ?_;simp only[↓vS,vT,simprocAttr];have hl6:vf.length=6:=rfl;refine SL.loop (α:=Nat) (fun j=>[(0,.s s),(2,.i .i64 0),(3,.i .i64 0),(4,.fz 6 (rS vf)),(5,.i .i64 j)]) (fun _=>[]) (fun j=>j<=6∧∀x ∈ vf.take j,x≠s) (fun j=>6-j) 0 [] ?_ ?_ ?_ rfl ?_ ?_
 ·simp[vw,zf]
 ·trivial
 ·simp
 ·exact⟨Nat.zero_le _,fun x hx=>by simp at hx⟩
 rintro j ⟨hj,hI⟩ G ih;simp only[vI,simprocAttr]
 by_cases hlt:j<6
 ·have hlt':(j:Int)<6:=by omega
  have hx:vf[j]?=some (vf[j]'(by omega)):=List.getElem?_eq_getElem (by omega);have hw:IntKind.wrap .i64 ((j:Int)+1)=((j+1:Nat):Int):=by rw[qq (by omega) (by omega)];omega
  have ht:vf.take (j+1)=vf.take j++[vf[j]'(by omega)]:=by rw[List.take_add_one,hx];rfl
  have hit:=qfI j hlt _ hx;generalize (vf[j]'(by omega))=r at hx ht hit
  by_cases he:r=s
  ·subst he;simp only[↓vS,vT,simprocAttr,hlt,hlt',yF,hx,Option.map_some,Nat.mul_one];simp[vZ,hit]
  ·simp only[↓vS,vT,simprocAttr,hlt,hlt',yF,hx,Option.map_some,Nat.mul_one,he,hw];refine ih (j+1) ⟨by omega,?_⟩ (by omega) _ _ (Wk.mk _ _ [] ?_ ?_ ?_ rfl)
   ·intro q hq;rw[ht] at hq;rcases List.mem_append.1 hq with h|h
    ·exact hI q h
    ·rw[List.mem_singleton.1 h];exact he
   ·simp[vw,zf]
   ·trivial
   ·simp
 ·have hlt':¬(j:Int)<6:=by omega
  rw[List.take_of_length_le (by omega)] at hI;have hm:=qd3 hI
  by_cases hn:s=[110,97,116,105,118,101]
  ·rw[if_pos hn] at hm;simp only[↓vS,vT,simprocAttr,hlt',hn];rw[← hn];simp[vZ,hm]
  ·rw[if_neg hn] at hm;simp only[↓vS,vT,simprocAttr,hlt',hn];simp[vZ,hm]
def kj:IFn:=⟨[.tmp 2,.tmp 3],.seq (.r [.m 2 .F,.m 3 (.k 0)]) (.seq (.seq (.r [.n 4 0,.q 5 (.bin .eql (.t 4) (.c (.s [121,101,115]))),.n 6 5,.z 7 0 6,.g 8 (.bin .eql (.t 7) (.c (.s [116,114,117,101]))) 6 false,.o 9 6 8,.n 10 9,.z 11 0 10,.g 12 (.bin .eql (.t 11) (.c (.s [111,110]))) 10 false,.o 13 10 12,.n 14 13,.z 15 0 14,.g 16 (.bin .eql (.t 15) (.c (.s [49]))) 14 false,.o 17 14 16]) (.cond (.t 17) (.seq (.r [.m 2 .T,.m 3 (.k 0)]) (.ret)) (.skip))) (.seq (.seq (.r [.n 18 0,.q 19 (.bin .eql (.t 18) (.c (.s [110,111]))),.n 20 19,.z 21 0 20,.g 22 (.bin .eql (.t 21) (.c (.s [102,97,108,115,101]))) 20 false,.o 23 20 22,.n 24 23,.z 25 0 24,.g 26 (.bin .eql (.t 25) (.c (.s [111,102,102]))) 24 false,.o 27 24 26,.n 28 27,.z 29 0 28,.g 30 (.bin .eql (.t 29) (.c (.s [48]))) 28 false,.o 31 28 30]) (.cond (.t 31) (.seq (.r [.m 2 .F,.m 3 (.k 0)]) (.ret)) (.skip))) (.seq (.r [.m 2 .F,.m 3 (.k 150)]) (.ret))))⟩
theorem qsQ(hc:qk P f kj=true):Vc P f:=by
 intro s;refine qd.mk hc rfl ?_;have hb:yK s=if s ∈ zM then .tup [.b false,.i .i64 0] else if s ∈ zA then .tup [.b true,.i .i64 0] else .tup [.b false,.i .i64 150]:=rfl
 rw[hb];simp only[zM,zA,List.mem_cons,List.not_mem_nil,or_false];simp only[kj,vI,simprocAttr]
 by_cases y0:s=[121,101,115]
 ·simp (decide:=true) only [↓vS,vT,simprocAttr,y0,vZ]
 by_cases y1:s=[116,114,117,101]
 ·simp (decide:=true) only [↓vS,vT,simprocAttr,y0,y1,vZ]
 by_cases y2:s=[111,110]
 ·simp (decide:=true) only [↓vS,vT,simprocAttr,y0,y1,y2,vZ]
 by_cases y3:s=[49]
 ·simp (decide:=true) only [↓vS,vT,simprocAttr,y0,y1,y2,y3,vZ]
 by_cases n0:s=[110,111]
 ·simp (decide:=true) only [↓vS,vT,simprocAttr,y0,y1,y2,y3,n0,vZ]
 by_cases n1:s=[102,97,108,115,101]
 ·simp (decide:=true) only [↓vS,vT,simprocAttr,y0,y1,y2,y3,n0,n1,vZ]
 by_cases n2:s=[111,102,102]
 ·simp (decide:=true) only [↓vS,vT,simprocAttr,y0,y1,y2,y3,n0,n1,n2,vZ]
 by_cases n3:s=[48]
 ·simp (decide:=true) only [↓vS,vT,simprocAttr,y0,y1,y2,y3,n0,n1,n2,n3,vZ]
 ·simp (decide:=true) only [↓vS,vT,simprocAttr,y0,y1,y2,y3,n0,n1,n2,n3,vZ]
def kq:IFn:=⟨[.tmp 2],.seq (.r [.m 2 .F]) (.seq (.r [.n 3 0,.q 4 (.bin .eql (.t 3) (.c (.s [77,101,109,111,114,121,68,101,110,121,87,114,105,116,101,69,120,101,99,117,116,101]))),.n 5 4,.z 6 0 5,.g 7 (.bin .eql (.t 6) (.c (.s [76,111,99,107,80,101,114,115,111,110,97,108,105,116,121]))) 5 false,.o 8 5 7,.n 9 8,.z 10 0 9,.g 11 (.bin .eql (.t 10) (.c (.s [82,101,115,116,114,105,99,116,82,101,97,108,116,105,109,101]))) 9 false,.o 12 9 11,.n 13 12,.z 14 0 13,.g 15 (.bin .eql (.t 14) (.c (.s [78,111,78,101,119,80,114,105,118,105,108,101,103,101,115]))) 13 false,.o 16 13 15,.n 2 16]) (.ret))⟩
def Za(k:List UInt8):Bool:=decide (k=kWe)||decide (k=kPe)||decide (k=kRt)||decide (k=kNp)
theorem qs4(hc:qk P f kq=true)(k:List UInt8):qd P f [.s k] (.b (Za k)):=by
 refine qd.mk hc rfl ?_;simp only[kq,Za,kWe,kPe,kRt,kNp,vI,simprocAttr]
 by_cases y0:k=[77,101,109,111,114,121,68,101,110,121,87,114,105,116,101,69,120,101,99,117,116,101]
 ·simp (decide:=true) only [↓vS,vT,simprocAttr,y0,vZ]
 by_cases y1:k=[76,111,99,107,80,101,114,115,111,110,97,108,105,116,121]
 ·simp (decide:=true) only [↓vS,vT,simprocAttr,y0,y1,vZ]
 by_cases y2:k=[82,101,115,116,114,105,99,116,82,101,97,108,116,105,109,101]
 ·simp (decide:=true) only [↓vS,vT,simprocAttr,y0,y1,y2,vZ]
 by_cases y3:k=[78,111,78,101,119,80,114,105,118,105,108,101,103,101,115]
 ·simp (decide:=true) only [↓vS,vT,simprocAttr,y0,y1,y2,y3,vZ]
 ·simp (decide:=true) only [↓vS,vT,simprocAttr,y0,y1,y2,y3,vZ]
def kM(a:Nat):IFn:=⟨[.tmp 2],.seq (.r [.m 2 .F]) (.seq (.r [.n 3 0,.q 4 (.bin .eql (.t 3) (.c (.s [83,121,115,116,101,109,67,97,108,108,65,114,99,104,105,116,101,99,116,117,114,101,115]))),.n 5 4,.z 6 0 5,.g 7 (.bin .eql (.t 6) (.c (.s [82,101,115,116,114,105,99,116,65,100,100,114,101,115,115,70,97,109,105,108,105,101,115]))) 5 false,.o 8 5 7,.n 9 8,.z 10 0 9,.g 11 (.bin .eql (.t 10) (.c (.s [82,101,115,116,114,105,99,116,78,97,109,101,115,112,97,99,101,115]))) 9 false,.o 12 9 11,.n 13 12,.z 14 0 13,⟨(some 15),.callF a [.t 14],(some (13,false))⟩,.o 16 13 15,.n 2 16]) (.ret))⟩
theorem qtK{g:Nat}(hc:qk P f (kM g)=true)(hg:∀k,qd P g [.s k] (.b (Za k)))(k:List UInt8):qd P f [.s k] (.b (qbE k)):=by
 refine qd.mk hc rfl ?_;have e:qbE k=(decide (k=XH)||decide (k=qaY)||decide (k=kSp)||Za k):=by simp[qbE,Za,Bool.or_assoc]
 rw[e];simp only[kM,XH,qaY,kSp,vI,simprocAttr]
 by_cases y0:k=[83,121,115,116,101,109,67,97,108,108,65,114,99,104,105,116,101,99,116,117,114,101,115]
 ·simp (decide:=true) only [↓vS,vT,simprocAttr,y0,vZ]
 by_cases y1:k=[82,101,115,116,114,105,99,116,65,100,100,114,101,115,115,70,97,109,105,108,105,101,115]
 ·simp (decide:=true) only [↓vS,vT,simprocAttr,y0,y1,vZ]
 by_cases y2:k=[82,101,115,116,114,105,99,116,78,97,109,101,115,112,97,99,101,115]
 ·simp (decide:=true) only [↓vS,vT,simprocAttr,y0,y1,y2,vZ]
 ·simp (decide:=true) only [↓vS,vT,simprocAttr,y0,y1,y2];refine (hg k).sc ?_;cases Za k<;>simp (decide:=true) only [↓vS,vT,simprocAttr,y0,y1,y2,vZ]
def kr(a:Nat):IFn:=⟨[.cell 6 4 true],.seq (.r [.q 3 (.box (.t 0)),.q 6 (.alloc [.s [],.i .i64 0,.i .i64 0,.s []])]) (.seq (.reg true [.f 7 0 3,.d 8 7,.f 9 1 3,.d 10 9,.n 11 1,.n 12 2,.l 13 a [.t 12],.q 14 (.build [.s [],.i .i64 0,.i .i64 0,.s []] [(0,1,(.t 8)),(1,1,(.t 10)),(2,1,(.t 11)),(3,1,(.t 13))]),.u (.store 4 (.t 6) (.t 14))]) (.ret))⟩
def yV(P:Program)(f:Nat):Prop:=∀(a:Asg) (e:Int) (u:List UInt8),qd P f [.agg (qF a),.i .i64 e,.s u] (.agg (wS (qm a (e,u))))
theorem qtb{g:Nat}(hc:qk P f (kr g)=true)(hg:∀s,qd P g [.s s] (.s (s.take 60))):yV P f:=by
 intro a e u;refine qd.mk hc rfl ?_;simp only[kr,qF,vI,simprocAttr];simp (decide:=true) only [↓vS,vT,simprocAttr];refine qW ?_;simp (decide:=true) only [↓vS,vT,simprocAttr];refine (hg u).pc ?_;simp (decide:=true) only [↓vS,vT,simprocAttr];simp[vZ,vP,Tr.get_set,qm,wS]
def woI(l:List Int)(n:Int):List Int:=l.filter fun x=>!decide (x=n)
theorem qjX{l:List Int}{n x:Int}{j:Nat}(h:l[j]?=some x):woI (l.take (j+1)) n=woI (l.take j) n++(if x=n then [] else [x]):=by
 unfold woI;rw[List.take_add_one,h,List.filter_append]
 by_cases hc:x=n<;>simp[hc]
def J8(P:Program)(f:Nat):Prop:=∀(l:List Int) (n:Int),l.length<=100000->qd P f [.fz l.length (rI .i64 l),.i .i64 n] (.fz (woI l n).length (rI .i64 (woI l n)))
def kt:IFn:=⟨[.tmp 4],.seq (.r [.m 4 .N]) (.seq (.r [.m 5 .N]) (.seq (.seq (.r [.m 6 (.k 0)]) (.blk 0 (.loop (.seq (.seq (.r [.n 7 6,.n 8 0,.e 9 8,.s 10 7 9]) (.cond (.t 10) (.skip) (.exit 0))) (.seq (.blk 1 (.seq (.r [.n 13 0,.n 14 6,.i 15 1 13 14,.d 16 15,.n 17 1,.b 18 .neq 16 17]) (.cond (.t 18) (.r [.n 19 5,.n 20 0,.n 21 6,.i 22 1 20 21,.d 23 22,.q 24 (.buildS 1 [.i .i64 0] [(0,1,(.t 23))]),.q 25 (.app 1 8 true (.t 19) (.t 24)),.n 5 25]) (.skip)))) (.r [.n 11 6,.a 12 11 1,.n 6 12])))))) (.seq (.r [.n 26 5,.n 4 26]) (.ret))))⟩
theorem qtG(hc:qk P f kt=true):J8 P f:=by
 intro l n hl;refine qd.mk hc (by simp[qx,clo,qe]) ?_;simp only[kt,vI,simprocAttr];simp only[↓vS,vT,simprocAttr]
 refine SL.loop (α:=Nat) (fun j=>[(0,.fz l.length (rI .i64 l)),(1,.i .i64 n),(5,.own 0 (woI (l.take j) n).length),(6,.i .i64 j)]) (fun j=>[.cells 1 true true (rI .i64 (woI (l.take j) n))])
  (fun j=>j<=l.length) (fun j=>l.length-j) 0 [0] ?_ ?_ ?_ rfl ?_ ?_
 ·simp[vw,woI,qe]
 ·simp[vw,woI,qbh]
 ·simp
 ·exact Nat.zero_le _
 rintro j hj G ih
 have hlen:(woI (l.take j) n).length<=l.length:=by
  have:=List.length_filter_le (fun x:Int=>!decide (x=n)) (l.take j)
  rw[List.length_take] at this;unfold woI;omega
 simp only[vI,simprocAttr]
 by_cases hlt:j<l.length
 ·have hx:l[j]?=some l[j]:=List.getElem?_eq_getElem hlt;have hw:IntKind.wrap .i64 ((j:Int)+1)=((j+1:Nat):Int):=by rw[qq (by omega) (by omega)];omega
  have hnx:=qjX (n:=n) hx;have ih2:=ih (j+1);rw[hnx] at ih2;generalize l[j]=c at hx hnx ih2;generalize woI (l.take j) n=A at hlen hnx ih2
  by_cases hc:c=n
  ·rw[if_pos hc,List.append_nil] at ih2;simp only[↓vS,vT,simprocAttr,hlt,xa,hx,Option.map_some,Nat.mul_one,hc,hw];refine ih2 (by omega) (by omega) _ _ (Wk.mk _ _ [0] ?_ ?_ ?_ rfl)
   ·simp[vw,qe]
   ·simp[vw,qa,qe]
   ·simp
  ·rw[if_neg hc] at ih2;have hr1:A.length+1<=qf:=by simp only[qf];omega
   have hr2:(A.length+1)*8<=qf:=by simp only[qf];omega
   have hap:rI .i64 A++[AV.i .i64 c]=rI .i64 (A++[c]):=by rw[← Qu];rfl
   simp (decide:=true) only [↓vS,vT,simprocAttr,hlt,xa,hx,Option.map_some,Nat.mul_one,hc,hr1,hr2,xl,hap,hw];refine ih2 (by omega) (by omega) _ _ (Wk.mk _ _ [2] ?_ ?_ ?_ rfl)
   ·simp[vw,qe]
   ·simp[vw,qa,qe]
   ·simp
 ·have hjl:l.take j=l:=List.take_of_length_le (by omega);rw[hjl];simp only[↓vS,vT,simprocAttr,hlt];simp[vZ,vP,Tr.get_set,qn qe]
  try (intro h0;rw[h0];rfl)
def WF(P:Program)(f:Nat):Prop:=∀(l:List Int) (n:Int),l.length<=100000->l.Pairwise (· < ·)->qd P f [.fz l.length (rI .i64 l),.i .i64 n] (.fz (z1 l n true).length (rI .i64 (z1 l n true)))
theorem qg0{l:List Int}(h:l.Pairwise (· < ·))(n:Int){k:Nat}(hk:k<=(woI l n).length)(h1:∀x ∈ (woI l n).take k,x<n)(h2:k<(woI l n).length->∀y,(woI l n)[k]?=some y->¬y<n):z1 l n true=(woI l n).take k++n::(woI l n).drop k:=by
 have hm:(woI l n).Pairwise (· < ·):=h.filter _
 have e:z1 l n true=(woI l n).take (bsI (woI l n) n)++n::(woI l n).drop (bsI (woI l n) n):=by unfold z1 woI;rw[if_pos rfl]
 have hb:bsI (woI l n) n=k:=by
  obtain⟨q1,q2⟩:=qc1 (x:=n) hm;have hle:=qd6 (woI l n) n;rcases Nat.lt_trichotomy (bsI (woI l n) n) k with hlt|heq|hgt
  ·have:=q2 (bsI (woI l n) n) (by omega) (Nat.le_refl _);exact absurd (h1 _ (List.mem_take_iff_getElem.2 ⟨bsI (woI l n) n,by omega,rfl⟩)) this
  ·exact heq
  ·exact absurd (q1 k (by omega) hgt) (h2 (by omega) _ (List.getElem?_eq_getElem (by omega)))
 rw[e,hb]
def jn(a:Nat):ICode:=.seq (.r [.n 25 7,.n 26 5,.n 27 6,.q 28 (.slcS 1 (.t 26) none (some (.t 27)) none),.q 29 (.app 1 8 true (.t 25) (.t 28)),.n 7 29]) (.seq (.r [.n 30 7,.n 31 1,.q 32 (.buildS 1 [.i .i64 0] [(0,1,(.t 31))]),.q 33 (.app 1 8 true (.t 30) (.t 32)),.n 7 33]) (.seq (.r [.n 34 7,.n 35 5,.n 36 6,.q 37 (.slcS 1 (.t 35) (some (.t 36)) none none),.q 38 (.app 1 8 true (.t 34) (.t 37)),.n 4 38]) (.ret)))
def kO(a:Nat):IFn:=⟨[.tmp 4],.seq (.r [.m 4 .N]) (.seq (.r [.n 8 0,.n 9 1,.l 10 a [.t 8,.t 9],.n 5 10]) (.seq (.r [.m 6 (.k 0)]) (.seq (.blk 0 (.loop (.seq (.seq (.r [.n 11 6,.n 12 5,.e 13 12,.s 14 11 13,.n 15 14,.y 16 5 15,.y 17 6 15,.g 18 (.iAddrS 1 (.t 16) (.t 17)) 15 true,.j 19 18 15 true,.y 20 1 15,.g 21 (.bin .lss (.t 19) (.t 20)) 15 true,.p 22 15 21]) (.cond (.t 22) (.skip) (.exit 0))) (.blk 1 (.r [.n 23 6,.a 24 23 1,.n 6 24]))))) (.seq (.r [.m 7 .N]) (.cut (jn a))))))⟩
theorem qdC{g:Nat}(m:List Int)(n:Int)(k:Nat)(hk:k<=m.length)(hm:m.length<=100000){t':Tr AV}{h':Hp}(hw:Wk 0 t' h' (mkT [(1,.i .i64 n),(5,.fz m.length (rI .i64 m)),(6,.i .i64 k),(7,.own 0 0)]) (mkH 0 [.cells 1 true true []])) :
  S P 0 (jn g) (xg [.tmp 4] fun v' h'=>Frz h' v' (.fz (m.take k++n::m.drop k).length (rI .i64 (m.take k++n::m.drop k)))) t' h':=by
 refine S.weak hw (qr ?_);simp only[jn,vI,simprocAttr];have hr1:k<=qf:=by simp only[qf];omega
 have hr2:k*8<=qf:=by simp only[qf];omega
 have hr3:k+1<=qf:=by simp only[qf];omega
 have hr4:(k+1)*8<=qf:=by simp only[qf];omega
 have hr5:k+1+(m.length-k)<=qf:=by simp only[qf];omega
 have hr6:(k+1+(m.length-k))*8<=qf:=by simp only[qf];omega
 have hl1:(m.take k).length=k:=by simp;omega
 have hl2:(m.drop k).length=m.length-k:=by simp
 have e1:(rI .i64 m).take k=rI .i64 (m.take k):=yW;have e2:(rI .i64 m).drop k=rI .i64 (m.drop k):=ZQ;have e3:(rI .i64 (m.take k)).take k=rI .i64 (m.take k):=List.take_of_length_le (by rw[xl];omega);have e4:(rI .i64 (m.drop k)).take (m.length-k)=rI .i64 (m.drop k):=List.take_of_length_le (by rw[xl];omega);have e5:(rI .i64 m).take m.length=rI .i64 m:=List.take_of_length_le (by rw[xl];omega);have hk2:k+(m.length-k)<=m.length:=by omega
 have e6:∀A:List Int,A.length=k->(rI .i64 A++[AV.i .i64 n]).length=k+1:=fun A h=>by simp[xl,h]
 have hkk:k+1+(m.length-k)=m.length+1:=by omega
 generalize hA:m.take k=A at hl1 e1 e3;generalize hB:m.drop k=B at hl2 e2 e4;simp (decide:=true) only [↓vS,vT,simprocAttr,hk,hk2,Nat.mul_one,List.drop_zero,hr1,hr2,hr3,hr4,hr5,hr6,Xb,xl,e1,e2,e3,e4,e5,hl1,hl2,e6 A hl1];have e7:rI .i64 A++AV.i .i64 n::rI .i64 B=rI .i64 (A++n::B):=by simp[rI]
 have e8:(A++n::B).length=k+1+(m.length-k):=by simp[hl1,hl2];omega
 simp[vZ,vP,Tr.get_set,e7,e8,qn qe]
theorem qtR{g:Nat}(hc:qk P f (kO g)=true)(hg:J8 P g):WF P f:=by
 intro l n hl hr;refine qd.mk hc (by simp[qx,clo,qe]) ?_;simp only[kO,vI,simprocAttr];simp only[↓vS,vT,simprocAttr];refine (hg l n hl).sc ?_;have hml:(woI l n).length<=l.length:=List.length_filter_le _ _;have fin:=fun {k:Nat}=>qg0 hr n (k:=k)
 generalize woI l n=m at hml fin;simp only[↓vS,vT,simprocAttr];refine SL.loop (α:=Nat) (fun k=>[(1,.i .i64 n),(5,.fz m.length (rI .i64 m)),(6,.i .i64 k)]) (fun _=>[]) (fun k=>k<=m.length∧∀x ∈ m.take k,x<n) (fun k=>m.length-k) 0 [] ?_ ?_ ?_ rfl ?_ ?_
 ·simp[vw,qe]
 ·trivial
 ·simp
 ·exact⟨Nat.zero_le _,fun x hx=>by simp at hx⟩
 rintro k ⟨hk,hI⟩ G ih;simp only[vI,simprocAttr]
 by_cases hlt:k<m.length
 ·have hx:m[k]?=some m[k]:=List.getElem?_eq_getElem hlt;have hw:IntKind.wrap .i64 ((k:Int)+1)=((k+1:Nat):Int):=by rw[qq (by omega) (by omega)];omega
  have ht:m.take (k+1)=m.take k++[m[k]]:=by rw[List.take_add_one,hx];rfl
  by_cases hn:m[k]<n
  ·simp only[↓vS,vT,simprocAttr,hlt,xa,hx,Option.map_some,Nat.mul_one,hn,hw];refine ih (k+1) ⟨by omega,?_⟩ (by omega) _ _ (Wk.mk _ _ [] ?_ ?_ ?_ rfl)
   ·intro q hq;rw[ht] at hq;rcases List.mem_append.1 hq with h|h
    ·exact hI q h
    ·rw[List.mem_singleton.1 h];exact hn
   ·simp[vw,qe]
   ·trivial
   ·simp
  ·rw[fin hk hI (fun _ y hy=>by rw[hx] at hy;cases hy;exact hn)]
   simp only[↓vS,vT,simprocAttr,hlt,xa,hx,Option.map_some,Nat.mul_one,hn];refine qdC m n k hk (by omega) (Wk.mk _ _ [0] ?_ ?_ ?_ rfl)
   ·simp[vw,qe]
   ·simp[vw]
   ·simp
 ·rw[fin hk hI (fun h=>absurd h hlt)]
  simp only[↓vS,vT,simprocAttr,hlt];refine qdC m n k hk (by omega) (Wk.mk _ _ [0] ?_ ?_ ?_ rfl)
  ·simp[vw,qe]
  ·simp[vw]
  ·simp
end Go.Kc
end
section
/- What the document's Set of stage 18 answers: architectures. Condition: the functions' texts are these. -/
namespace Go.Kc
variable {P:Program} {f:Nat}
def qfQ(P:Program)(f:Nat):Prop:=∀s:List UInt8,s.length<=1000000->qd P f [.s s] (.fz (qh s).length (rS (qh s)))
noncomputable def arT(p:Pol)(v:List UInt8)(j:Nat):List Int×List (Int×List UInt8):=((qh v).take j).foldl qZ (p.arches,[])
theorem qhm{p:Pol}{v w:List UInt8}{j:Nat}(h:(qh v)[j]?=some w):arT p v (j+1)=qZ (arT p v j) w:=by
 unfold arT;rw[List.take_add_one,h,List.foldl_append];rfl
theorem W9:∀(ws:List (List UInt8)) (s:List Int×List (Int×List UInt8)),s.1.Pairwise (· < ·)->(ws.foldl qZ s).1.Pairwise (· < ·)
 | [],_,h=>h
 | w::ws,s,h=>by
  rw[List.foldl_cons];refine W9 ws _ ?_;unfold qZ;split
  ·exact QO (z4 w).1 true h
  ·exact h
theorem qkb(p:Pol)(v:List UInt8)(j:Nat):(arT p v j).1.length<=p.arches.length+j∧(arT p v j).2.length<=j:=by
 have:=Zq ((qh v).take j) (p.arches,[]);simp only[List.length_take,List.length_nil,Nat.zero_add] at this;unfold arT;omega
theorem qhl{p:Pol}(v:List UInt8)(j:Nat)(h:p.arches.Pairwise (· < ·)):(arT p v j).1.Pairwise (· < ·):=W9 _ _ h
def xH(a b c d:Nat):ICode:=.seq (.seq (.r [.m 9 (.k 0)]) (.blk 0 (.loop (.seq (.seq (.r [.n 24 9,.n 25 6,.e 26 25,.s 27 24 26]) (.cond (.t 27) (.skip) (.exit 0))) (.seq (.blk 1 (.seq (.r [.n 31 6,.n 32 9,.i 33 1 31 32,.d 34 33,.l 35 b [.t 34],.n 30 35,.x 36 30 0,.x 37 30 1,.n 10 36,.n 11 37]) (.seq (.seq (.r [.n 38 11,.w 39 .neq 38 0]) (.cond (.t 39) (.seq (.reg true [.n 40 7,.v 41 5 3,.n 42 11,.n 43 6,.n 44 9,.i 45 1 43 44,.d 46 45,.l 47 c [.t 41,.t 42,.t 46],.q 48 (.buildS 1 [.s [],.i .i64 0,.i .i64 0,.s []] [(0,4,(.t 47))]),.q 49 (.app 4 48 true (.t 40) (.t 48)),.n 7 49]) (.exit 1)) (.skip))) (.r [.n 50 8,.n 51 10,.l 52 d [.t 50,.t 51],.n 8 52])))) (.r [.n 28 9,.a 29 28 1,.n 9 29])))))) (.seq (.r [.n 53 8,.f 54 0 2,.u (.store 1 (.t 54) (.t 53))]) (.seq (.r [.v 55 13 2,.n 56 7,.u (.store 13 (.t 4) (.t 55)),.n 5 56]) (.ret)))
def w6(a b c d:Nat):IFn:=⟨[.cell 4 13 true,.tmp 5],.seq (.r [.q 2 (.box (.t 0)),.q 3 (.box (.t 1)),.q 4 (.alloc [.nils,.i .u8 0,.nils,.i .u32 0,.i .u8 0,.nils,.nils,.i .u8 0,.i .u64 0,.b false,.b false,.b false,.b false]),.m 5 .N]) (.seq (.r [.f 12 4 3,.d 13 12,.l 14 a [.t 13],.n 6 14]) (.seq (.r [.m 7 .N]) (.seq (.seq (.r [.n 15 6,.e 16 15,.w 17 .eql 16 0]) (.cond (.t 17) (.seq (.r [.f 18 0 2,.u (.store 1 (.t 18) .N)]) (.seq (.r [.v 19 13 2,.u (.store 13 (.t 4) (.t 19)),.m 5 .N]) (.ret))) (.skip))) (.seq (.r [.q 20 (.buildS 0 [.i .i64 0] []),.f 21 0 2,.d 22 21,.q 23 (.app 1 8 true (.t 20) (.t 22)),.n 8 23]) (.cut (xH a b c d))))))⟩
theorem Vb{g1 g2 g3 g4:Nat}(h2:Zu P g2)(h3:yV P g3)(h4:WF P g4)(p:Pol)(a:Asg)(hp:PolOk p)(hr:p.arches.Pairwise (· < ·))(hv:a.val.length<=1000)(hw:¬qh a.val=[]){t':Tr AV}{h':Hp}
  (hk:Wk 0 t' h' (mkT [(2,.ptr 0 0),(3,.ptr 1 0),(4,.ptr 2 0),(6,.fz (qh a.val).length (rS (qh a.val))),(7,.own 3 0),(8,.fz p.arches.length (rI .i64 p.arches))]) (mkH 0 [.cells 0 true false (qi p),.cells 0 true false (qF a),.cells 0 true false qT,.cells 4 true true (rN [])])) :
  S P 0 (xH g1 g2 g3 g4) (xg [.cell 4 13 true,.tmp 5] fun v' h'=>Frz h' v' (.tup [.agg (qi (za p a.val).1),.fz ((za p a.val).2.map (qm a)).length (rN ((za p a.val).2.map (qm a)))])) t' h':=by
 have hwl:=zW a.val;have hpa:=hp.a
 have hM:za p a.val=({ p with arches:=(arT p a.val (qh a.val).length).1 },(arT p a.val (qh a.val).length).2):=by
  unfold za arT;rw[if_neg hw,List.take_length]
 rw[hM];refine S.weak hk (qr ?_);simp only[xH,vI,simprocAttr];simp (decide:=true) only [↓vS,vT,simprocAttr];generalize hW:qh a.val=W at hwl
 refine SL.loop (α:=Nat) (fun j=>[(2,.ptr 0 0),(3,.ptr 1 0),(4,.ptr 2 0),(6,.fz W.length (rS W)),(7,.own 3 ((arT p a.val j).2.map (qm a)).length),(8,.fz (arT p a.val j).1.length (rI .i64 (arT p a.val j).1)),(9,.i .i64 j)])
  (fun j=>[.cells 0 true false (qi p),.cells 0 true false (qF a),.cells 0 true false qT,.cells 4 true true (rN ((arT p a.val j).2.map (qm a)))]) (fun j=>j<=W.length) (fun j=>W.length-j) 0 [0,1,2,3] ?_ ?_ ?_ rfl ?_ ?_
 ·simp[vw,zf,qe,arT]
 ·simp[vw,qT,qi,qF,arT,qa,qe,qc,rN]
 ·simp
 ·exact Nat.zero_le _
 rintro j hj G ih;have hlen:=qkb p a.val j;have hrise:=qhl a.val j hr
 by_cases hlt:j<W.length
 ·have hx:W[j]?=some W[j]:=List.getElem?_eq_getElem hlt;have hwj:IntKind.wrap .i64 ((j:Int)+1)=((j+1:Nat):Int):=by rw[qq (by omega) (by omega)];omega
  have hsucc:arT p a.val (j+1)=qZ (arT p a.val j) W[j]:=qhm (by rw[hW];exact hx);have ih2:=ih (j+1);rw[hsucc] at ih2;generalize W[j]=w at hx ih2;generalize arT p a.val j=s at hlen hrise ih2 ⊢;obtain⟨L,ns⟩:=s;dsimp only at hlen hrise ih2 ⊢;simp only[qi,qF,qT,vI,simprocAttr];simp (decide:=true) only [↓vS,vT,simprocAttr,hlt,yF,hx,Option.map_some,Nat.mul_one];refine (h2 w).sc ?_
  by_cases he:(z4 w).2=0
  ·have e:qZ (L,ns) w=(z1 L (z4 w).1 true,ns):=by unfold qZ;rw[if_pos he]
   rw[e] at ih2;simp (decide:=true) only [↓vS,vT,simprocAttr,he];refine (h4 L (z4 w).1 (by omega) hrise).sc ?_;simp (decide:=true) only [↓vS,vT,simprocAttr,hwj];refine ih2 (by omega) (by omega) _ _ (Wk.mk _ _ [0,1,2,3] ?_ ?_ ?_ rfl)
   ·simp[vw,zf,qe]
   ·simp[vw,qT,qi,qF,qa,qe,qc,qb]
   ·simp
  ·have e:qZ (L,ns) w=(L,ns++[((z4 w).2,w)]):=by unfold qZ;rw[if_neg he]
   rw[e] at ih2;have hr1:(ns.map (qm a)).length+1<=qf:=by simp only[qf,List.length_map];omega
   have hr2:((ns.map (qm a)).length+1)*48<=qf:=by simp only[qf,List.length_map];omega
   have hap:rN (ns.map (qm a))++[AV.s a.file,.i .i64 a.line,.i .i64 (z4 w).2,.s (w.take 60)]=rN ((ns++[((z4 w).2,w)]).map (qm a)):=by rw[List.map_append,← yd];rfl
   have hml:((ns++[((z4 w).2,w)]).map (qm a)).length=(ns.map (qm a)).length+1:=by simp
   simp (decide:=true) only [↓vS,vT,simprocAttr,he];refine qW ?_;simp (decide:=true) only [↓vS,vT,simprocAttr,hlt,yF,hx,Option.map_some,Nat.mul_one];refine (h3 a (z4 w).2 w).pc ?_;simp only[hml] at ih2;generalize ns.map (qm a)=N at hr1 hr2 hap ih2 ⊢;simp (decide:=true) only [↓vS,vT,simprocAttr,wS,qm,hr1,hr2,jq,hap,hwj];refine ih2 (by omega) (by omega) _ _ (Wk.mk _ _ [0,1,2,5] ?_ ?_ ?_ rfl)
   ·simp[vw,zf,qe]
   ·simp[vw,qT,qi,qF,qa,qe,qc,qb]
   ·simp
 ·have hj':j=W.length:=by omega
  subst hj';generalize arT p a.val W.length=s at hlen hrise ⊢;obtain⟨L,ns⟩:=s;clear ih;dsimp only at hlen hrise ⊢;simp only[qi,qF,qT,vI,simprocAttr];simp (decide:=true) only [↓vS,vT,simprocAttr,hlt];simp[vZ,vP,Tr.get_set,qi,qe,qn,qb,qc]
  try (intro h0;rw[h0];rfl)
theorem qq9{g1 g2 g3 g4:Nat}(hc:qk P f (w6 g1 g2 g3 g4)=true)(h1:qfQ P g1)(h2:Zu P g2)(h3:yV P g3)(h4:WF P g4)(p:Pol)(a:Asg)(hp:PolOk p)(hr:p.arches.Pairwise (· < ·))(hv:a.val.length<=1000) :
  qd P f [.agg (qi p),.agg (qF a)] (.tup [.agg (qi (za p a.val).1),.fz ((za p a.val).2.map (qm a)).length (rN ((za p a.val).2.map (qm a)))]):=by
 have hwl:=zW a.val;refine qd.mk hc rfl ?_;generalize hT:AV.tup [.agg (qi (za p a.val).1),.fz ((za p a.val).2.map (qm a)).length (rN ((za p a.val).2.map (qm a)))]=tgt;simp only[w6,qi,qF,vI,simprocAttr];simp only[↓vS,vT,simprocAttr];refine (h1 a.val (by omega)).sc ?_
 by_cases hw:qh a.val=[]
 ·have hM:za p a.val=({ p with arches:=[] },[]):=by unfold za;rw[hw];rfl
  rw[← hT,hM];simp (decide:=true) only [↓vS,vT,simprocAttr,hw,List.length_nil];simp[vZ,vP,Tr.get_set,qi,qe,qn,qb,qc,qbh,vh]
 ·have hwn:¬((qh a.val).length:Int)=0:=by
   intro hh;exact hw (List.eq_nil_of_length_eq_zero (by omega))
  have hpa:=hp.a;simp (decide:=true) only [↓vS,vT,simprocAttr,hwn]
  by_cases h0:p.arches.length=0
  ·have hnil:p.arches=[]:=List.eq_nil_of_length_eq_zero h0;simp (decide:=true) only [↓vS,vT,simprocAttr,hnil,qbh,List.length_nil];subst hT;refine S.weak (Wk.mk [(2,.ptr 0 0),(3,.ptr 1 0),(4,.ptr 2 0),(6,.fz (qh a.val).length (rS (qh a.val))),(7,.own 3 0),(8,.sl 4 0 0 0 false)] [.cells 0 true false (qi p),.cells 0 true false (qF a),.cells 0 true false qT,.cells 4 true true (rN []),.cells 0 true false []] [0,1,2,99,3] ?_ ?_ ?_ rfl) ?_
   ·simp[vw,zf]
   ·simp[vw,qT,qi,qF,qa,qe,qc,rN,hnil,rI]
   ·simp
   refine S.weak (Wk.freeze 4 1 0 rfl rfl (Nat.zero_le _) (by simp)) ?_;refine Vb h2 h3 h4 p a hp hr hv hw (Wk.mk _ _ [0,1,2,3] ?_ ?_ ?_ rfl)
   ·simp[vw,mkT,fzv,jT,hnil,rI,zf]
   ·simp[vw,mkH,trL,fzB,jT,fzv,qi,qF,qT,qa,qc,qe,rN]
   ·simp[mkH]
  ·have e5:(rI .i64 p.arches).take p.arches.length=rI .i64 p.arches:=List.take_of_length_le (by rw[xl];omega);have hr1:p.arches.length<=qf:=by simp only[qf];omega
   have hr2:p.arches.length*8<=qf:=by simp only[qf];omega
   have hz:¬p.arches.length<=0:=by omega
   simp (decide:=true) only [↓vS,vT,simprocAttr,h0,hz,Nat.mul_one,List.drop_zero,Nat.le_refl,xl,e5,hr1,hr2,Xb];subst hT;refine S.weak (Wk.mk [(2,.ptr 0 0),(3,.ptr 1 0),(4,.ptr 2 0),(6,.fz (qh a.val).length (rS (qh a.val))),(7,.own 3 0),(8,.own 4 p.arches.length)] [.cells 0 true false (qi p),.cells 0 true false (qF a),.cells 0 true false qT,.cells 4 true true (rN []),.cells 1 true true (rI .i64 p.arches)] [0,1,2,99,4] ?_ ?_ ?_ rfl) ?_
   ·simp[vw,zf]
   ·simp[vw,qT,qi,qF,qa,qe,qc,rN]
   ·simp
   refine S.weak (Wk.freeze 4 1 1 rfl qe (Nat.zero_le _) (by simp)) ?_;refine Vb h2 h3 h4 p a hp hr hv hw (Wk.mk _ _ [0,1,2,3] ?_ ?_ ?_ rfl)
   ·simp[vw,mkT,fzv,jT,zf,qe,h0]
   ·simp[vw,mkH,trL,fzB,jT,fzv,qi,qF,qT,qa,qc,qe,rN]
   ·simp[mkH]
end Go.Kc
end
section
/- What the document's Set of stage 18 answers: families. Condition: the functions' texts are these. -/
namespace Go.Kc
variable {P:Program} {f:Nat}
theorem qbQ{N:Int}(h0:0<N)(s:List UInt8)(no:Int):∀t:List (List UInt8×Int),(∀p ∈ t,0<=p.2∧p.2<N)->0<=(z5 s no t).1∧(z5 s no t).1<N
 | [],_=>⟨Int.le_refl _,h0⟩
 | p::t,h=>by
  simp only[z5];split
  ·exact h p (by simp)
  ·exact qbQ h0 s no t fun q hq=>h q (by simp[hq])
theorem qdd(s:List UInt8):0<=(wN s).1∧(wN s).1<65536:=qbQ (by decide) s 180 _ (by decide)
theorem qmy(l:List Int)(n:Int):woI (woI l n) n=woI l n:=by
 unfold woI;rw[List.filter_filter];simp
theorem qg2(l:List Int)(n:Int):z1 (woI l n) n true=z1 l n true:=by
 unfold z1;have:=qmy l n;unfold woI at this ⊢;rw[this]
theorem qg1(l:List Int)(n:Int):z1 l n false=woI l n:=rfl
def Rg(l:List Int):Prop:=∀x ∈ l,0<=x∧x<4294967296
noncomputable def kV(is:Bool)(L:List Int)(W:List (List UInt8))(j:Nat):List Int×List (Int×List UInt8):=(W.take j).foldl (zD is) (L,[])
section
variable {is:Bool} {L:List Int} {W:List (List UInt8)} {j:Nat}
theorem qf8{w:List UInt8}(h:W[j]?=some w):kV is L W (j+1)=zD is (kV is L W j) w:=by
 unfold kV;rw[List.take_add_one,h,List.foldl_append];rfl
theorem We:∀(ws:List (List UInt8)) (s:List Int×List (Int×List UInt8)),s.1.Pairwise (· < ·)∧Rg s.1->(ws.foldl (zD is) s).1.Pairwise (· < ·)∧Rg (ws.foldl (zD is) s).1
 | [],_,h=>h
 | w::ws,s,h=>by
  rw[List.foldl_cons];refine We ws _ ?_;unfold zD;split
  ·refine⟨QO (wN w).1 is h.1,fun x hx=>?_⟩
   rcases W7 hx with rfl|hx
   ·have:=qdd w;omega
   ·exact h.2 x hx
  ·exact h
theorem qf7(h1:L.Pairwise (· < ·))(h2:Rg L):(kV is L W j).1.Pairwise (· < ·)∧Rg (kV is L W j).1:=We _ _ ⟨h1,h2⟩
theorem qij:(kV is L W j).1.length<=L.length+j∧(kV is L W j).2.length<=j:=by
 have:=Xn is (W.take j) (L,[]);simp only[List.length_take,List.length_nil,Nat.zero_add] at this;unfold kV;omega
end
def qci(P:Program)(f:Nat):Prop:=qd P f [] (.fz 8 (qu.flatMap (zB .u64)))
def qhI(P:Program)(f:Nat):Prop:=∀s:List UInt8,qd P f [.s s] (.tup [.s (qE s).1,.b (qE s).2])
def qeP(p:Pol)(b j:Nat):List AV:=[.fz p.arches.length (rI .i64 p.arches),.i .u8 p.filter.mode,.fz p.filter.calls.length (rC p.filter.calls),.i .u32 p.deny,.i .u8 p.log.mode,.fz p.log.calls.length (rC p.log.calls),
 .own b j,.i .u8 p.fmode,.i .u64 p.spaces,.b p.we,.b p.pe,.b p.rt,.b p.np]
def z9(a b c d e g h:Nat):ICode:=.seq (.r [.f 112 6 2,.u (.store 1 (.t 112) .N)]) (.seq (.seq (.r [.m 15 (.k 0)]) (.blk 4 (.loop (.seq (.seq (.r [.n 113 15,.n 114 9,.e 115 114,.s 116 113 115]) (.cond (.t 116) (.skip) (.exit 4))) (.seq (.blk 5 (.reg true [.f 119 6 2,.d 120 119,.n 121 9,.n 122 15,.i 123 1 121 122,.d 124 123,.q 125 (.cvInt .u32 (.t 124)),.q 126 (.buildS 1 [.i .u32 0] [(0,1,(.t 125))]),.q 127 (.app 1 4 true (.t 120) (.t 126)),.f 128 6 2,.u (.store 1 (.t 128) (.t 127))])) (.r [.n 117 15,.a 118 117 1,.n 15 118])))))) (.seq (.r [.v 129 13 2,.n 130 11,.u (.store 13 (.t 4) (.t 129)),.n 5 130]) (.ret)))
def xj(a b c d e g h:Nat):ICode:=.seq (.r [.m 11 .N]) (.seq (.r [.n 70 7,.l 71 a [.t 70],.n 6 71]) (.seq (.seq (.r [.m 12 (.k 0)]) (.blk 2 (.loop (.seq (.seq (.r [.n 72 12,.n 73 6,.e 74 73,.s 75 72 74]) (.cond (.t 75) (.skip) (.exit 2))) (.seq (.blk 3 (.seq (.reg true [.l 79 c [],.n 80 6,.n 81 12,.i 82 1 80 81,.d 83 82,.l 84 d [.t 79,.t 83,.k 180],.n 78 84,.x 85 78 0,.x 86 78 1,.n 13 85,.n 14 86]) (.seq (.seq (.r [.n 87 14,.w 88 .neq 87 0]) (.cond (.t 88) (.seq (.reg true [.n 89 11,.v 90 5 3,.n 91 14,.n 92 6,.n 93 12,.i 94 1 92 93,.d 95 94,.l 96 e [.t 90,.t 91,.t 95],.q 97 (.buildS 1 [.s [],.i .i64 0,.i .i64 0,.s []] [(0,4,(.t 96))]),.q 98 (.app 4 48 true (.t 89) (.t 97)),.n 11 98]) (.exit 3)) (.skip))) (.seq (.r [.n 99 9,.n 100 13,.q 101 (.cvInt .i64 (.t 100)),.l 102 g [.t 99,.t 101],.n 9 102]) (.seq (.r [.n 103 8,.f 104 7 2,.d 105 104,.q 106 (.bin .eql (.t 105) (.c (.i .u8 2))),.q 107 (.eqB false (.t 103) (.t 106))]) (.cond (.t 107) (.r [.n 108 9,.n 109 13,.q 110 (.cvInt .i64 (.t 109)),.l 111 h [.t 108,.t 110],.n 9 111]) (.skip))))))) (.r [.n 76 12,.a 77 76 1,.n 12 77])))))) (.cut (z9 a b c d e g h))))
def zI(a b c d e g h:Nat):ICode:=.seq (.r [.m 9 .N]) (.seq (.seq (.r [.m 10 (.k 0)]) (.blk 0 (.loop (.seq (.seq (.r [.n 54 10,.f 55 6 2,.d 56 55,.e 57 56,.s 58 54 57]) (.cond (.t 58) (.skip) (.exit 0))) (.seq (.blk 1 (.r [.n 61 9,.f 62 6 2,.d 63 62,.n 64 10,.i 65 1 63 64,.d 66 65,.q 67 (.cvInt .i64 (.t 66)),.q 68 (.buildS 1 [.i .i64 0] [(0,1,(.t 67))]),.q 69 (.app 1 8 true (.t 61) (.t 68)),.n 9 69])) (.r [.n 59 10,.a 60 59 1,.n 10 60])))))) (.cut (xj a b c d e g h)))
def wv(a b c d e g h:Nat):IFn:=⟨[.cell 4 13 true,.tmp 5],.seq (.r [.q 2 (.box (.t 0)),.q 3 (.box (.t 1)),.q 4 (.alloc [.nils,.i .u8 0,.nils,.i .u32 0,.i .u8 0,.nils,.nils,.i .u8 0,.i .u64 0,.b false,.b false,.b false,.b false]),.m 5 .N]) (.seq (.r [.f 16 4 3,.d 17 16,.l 18 a [.t 17],.n 6 18]) (.seq (.seq (.r [.n 19 6,.e 20 19,.w 21 .eql 20 0]) (.cond (.t 21) (.seq (.r [.f 22 6 2,.u (.store 1 (.t 22) .N)]) (.seq (.r [.f 23 7 2,.u (.store 1 (.t 23) (.c (.i .u8 0)))]) (.seq (.r [.v 24 13 2,.u (.store 13 (.t 4) (.t 24)),.m 5 .N]) (.ret)))) (.skip))) (.seq (.seq (.r [.n 25 6,.e 26 25,.w 27 .eql 26 1,.n 28 27,.y 29 6 28,.g 30 (.iAddrS 1 (.t 29) (.k 0)) 28 true,.j 31 30 28 true,.g 32 (.bin .eql (.t 31) (.c (.s [110,111,110,101]))) 28 true,.p 33 28 32]) (.cond (.t 33) (.seq (.r [.f 34 6 2,.u (.store 1 (.t 34) .N)]) (.seq (.r [.f 35 7 2,.u (.store 1 (.t 35) (.c (.i .u8 1)))]) (.seq (.r [.v 36 13 2,.u (.store 13 (.t 4) (.t 36)),.m 5 .N]) (.ret)))) (.skip))) (.seq (.r [.f 38 4 3,.d 39 38,.l 40 b [.t 39],.n 37 40,.x 41 37 0,.x 42 37 1,.n 7 41,.n 8 42]) (.seq (.seq (.r [.f 43 7 2,.d 44 43,.q 45 (.bin .eql (.t 44) (.c (.i .u8 0))),.n 46 45,.y 47 8 46,.p 48 46 47]) (.cond (.t 48) (.r [.f 49 7 2,.u (.store 1 (.t 49) (.c (.i .u8 2)))]) (.skip))) (.seq (.seq (.r [.f 50 7 2,.d 51 50,.q 52 (.bin .eql (.t 51) (.c (.i .u8 0)))]) (.cond (.t 52) (.r [.f 53 7 2,.u (.store 1 (.t 53) (.c (.i .u8 1)))]) (.skip))) (.cut (zI a b c d e g h))))))))⟩
theorem qf6{g1 g2 g3 g4 g5 g6 g7:Nat}(p:Pol)(a:Asg)(L:List Int)(ns:List GNote)(hL:L.length<=100000)(hR:Rg L){t':Tr AV}{h':Hp}
  (hk:Wk 0 t' h' (mkT [(2,.ptr 0 0),(3,.ptr 1 0),(4,.ptr 2 0),(9,.fz L.length (rI .i64 L)),(11,.own 3 ns.length)]) (mkH 0 [.cells 0 true false (qi p),.cells 0 true false (qF a),.cells 0 true false qT,.cells 4 true true (rN ns)])) :
  S P 0 (z9 g1 g2 g3 g4 g5 g6 g7) (xg [.cell 4 13 true,.tmp 5] fun v' h'=>Frz h' v' (.tup [.agg (qi { p with fams:=L }),.fz ns.length (rN ns)])) t' h':=by
 refine S.weak hk (qr ?_);simp only[z9,qi,vI,simprocAttr];simp (decide:=true) only [↓vS,vT,simprocAttr]
 refine SL.loop (α:=Nat) (fun j=>[(2,.ptr 0 0),(3,.ptr 1 0),(4,.ptr 2 0),(9,.fz L.length (rI .i64 L)),(11,.own 3 ns.length),(15,.i .i64 j)])
  (fun j=>[.cells 0 true false (qeP p 4 j),.cells 0 true false (qF a),.cells 0 true false qT,.cells 4 true true (rN ns),.cells 1 true true (rI .u32 (L.take j))]) (fun j=>j<=L.length) (fun j=>L.length-j) 0 [0,1,2,3,99] ?_ ?_ ?_ rfl ?_ ?_
 ·simp[vw,qe]
 ·simp[vw,qT,qi,qeP,qF,qa,qe,qc,qb,rI]
 ·simp
 ·exact Nat.zero_le _
 rintro j hj G ih;simp only[qeP,qF,qT,vI,simprocAttr]
 by_cases hlt:j<L.length
 ·have hx:L[j]?=some L[j]:=List.getElem?_eq_getElem hlt;have hwj:IntKind.wrap .i64 ((j:Int)+1)=((j+1:Nat):Int):=by rw[qq (by omega) (by omega)];omega
  have hrg:=hR L[j] (List.getElem_mem hlt);have hw32:IntKind.wrap .u32 L[j]=L[j]:=yi hrg.1 (by omega);have ht:L.take (j+1)=L.take j++[L[j]]:=by rw[List.take_add_one,hx];rfl
  have hl:(L.take j).length=j:=by simp;omega
  have ih2:=ih (j+1);rw[ht] at ih2;generalize L[j]=x at hx hw32 ih2;generalize L.take j=A at hl ih2 ⊢;have hr1:j+1<=qf:=by simp only[qf];omega
  have hr2:(j+1)*4<=qf:=by simp only[qf];omega
  have hap:rI .u32 A++[AV.i .u32 x]=rI .u32 (A++[x]):=by rw[← Qu];rfl
  have hlr:(rI .u32 A).length=j:=by rw[xl,hl]
  simp (decide:=true) only [↓vS,vT,simprocAttr,hlt,Nat.mul_one];refine qW ?_;simp (decide:=true) only [↓vS,vT,simprocAttr,hlt,xa,hx,Option.map_some,Nat.mul_one,hw32,hr1,hr2,hlr,hap,hwj];refine ih2 (by omega) (by omega) _ _ (Wk.mk _ _ [0,1,2,3,6] ?_ ?_ ?_ rfl)
  ·simp[vw,qe]
  ·simp[vw,qT,qi,qeP,qF,qa,qe,qc,qb]
  ·simp
 ·have hj':j=L.length:=by omega
  subst hj';clear ih;rw[List.take_length];simp (decide:=true) only [↓vS,vT,simprocAttr,hlt];simp[vZ,vP,Tr.get_set,qi,qe,qn,qb,qc];exact⟨fun h0=>by rw[h0];rfl,fun h0=>by rw[h0];rfl⟩
theorem qii{g1 g2 g3 g4 g5 g6 g7:Nat}(h1:qfQ P g1)(h3:qci P g3)(h4:ZU P g4 .u64)(h5:yV P g5)(h6:J8 P g6)(h7:WF P g7)(p:Pol)(a:Asg)(r:List UInt8)(t:Bool)(hp:PolOk p)(hrs:p.fams.Pairwise (· < ·))(hR:Rg p.fams)(hl:r.length<=1000){t':Tr AV}{h':Hp}
  (hk:Wk 0 t' h' (mkT [(2,.ptr 0 0),(3,.ptr 1 0),(4,.ptr 2 0),(7,.s r),(8,.b t),(9,.fz p.fams.length (rI .i64 p.fams))]) (mkH 0 [.cells 0 true false (qi p),.cells 0 true false (qF a),.cells 0 true false qT])) :
  S P 0 (xj g1 g2 g3 g4 g5 g6 g7) (xg [.cell 4 13 true,.tmp 5] fun v' h'=>Frz h' v' (.tup [.agg (qi { p with fams:=(kV (t==decide (p.fmode=2)) p.fams (qh r) (qh r).length).1 }),.fz ((kV (t==decide (p.fmode=2)) p.fams (qh r) (qh r).length).2.map (qm a)).length (rN ((kV (t==decide (p.fmode=2)) p.fams (qh r) (qh r).length).2.map (qm a)))])) t' h':=by
 have hwl:=zW r;have hpf:=hp.f;refine S.weak hk (qr ?_);simp only[xj,vI,simprocAttr];simp (decide:=true) only [↓vS,vT,simprocAttr];refine (h1 r (by omega)).sc ?_;generalize qh r=W at hwl ⊢;generalize hfl:(t==decide (p.fmode=2))=is;simp (decide:=true) only [↓vS,vT,simprocAttr]
 refine SL.loop (α:=Nat) (fun j=>[(2,.ptr 0 0),(3,.ptr 1 0),(4,.ptr 2 0),(6,.fz W.length (rS W)),(8,.b t),(9,.fz (kV is p.fams W j).1.length (rI .i64 (kV is p.fams W j).1)),(11,.own 3 ((kV is p.fams W j).2.map (qm a)).length),(12,.i .i64 j)])
  (fun j=>[.cells 0 true false (qi p),.cells 0 true false (qF a),.cells 0 true false qT,.cells 4 true true (rN ((kV is p.fams W j).2.map (qm a)))]) (fun j=>j<=W.length) (fun j=>W.length-j) 0 [0,1,2,99] ?_ ?_ ?_ rfl ?_ ?_
 ·simp[vw,zf,qe,kV]
 ·simp[vw,qT,qi,qF,kV,qa,qe,qc,rN]
 ·simp
 ·exact Nat.zero_le _
 rintro j hj G ih;have hlen:=qij (is:=is) (L:=p.fams) (W:=W) (j:=j);have hrise:=qf7 (is:=is) (W:=W) (j:=j) hrs hR
 by_cases hlt:j<W.length
 ·have hx:W[j]?=some W[j]:=List.getElem?_eq_getElem hlt;have hwj:IntKind.wrap .i64 ((j:Int)+1)=((j+1:Nat):Int):=by rw[qq (by omega) (by omega)];omega
  have hsucc:kV is p.fams W (j+1)=zD is (kV is p.fams W j) W[j]:=qf8 hx;have ih2:=ih (j+1);rw[hsucc] at ih2;generalize W[j]=w at hx ih2;generalize kV is p.fams W j=s at hlen hrise ih2 ⊢;obtain⟨L,ns⟩:=s;dsimp only at hlen hrise ih2 ⊢;simp only[qi,qF,qT,vI,simprocAttr];have hrg:=qdd w;have hfm:jL .u64 w 180 qu = .tup [.i .u64 (wN w).1,.i .i64 (wN w).2]:=ZE _ _ _ _;have hcv:IntKind.wrap .i64 (wN w).1=(wN w).1:=qq (by omega) (by omega);simp (decide:=true) only [↓vS,vT,simprocAttr,hlt];refine qW ?_;simp (decide:=true) only [↓vS,vT,simprocAttr];refine h3.pc ?_;simp (decide:=true) only [↓vS,vT,simprocAttr,hlt,yF,hx,Option.map_some,Nat.mul_one];have h4':=h4 qu w 180 (by decide);rw[hfm] at h4';refine h4'.pc ?_
  by_cases he:(wN w).2=0
  ·simp (decide:=true) only [↓vS,vT,simprocAttr,he,hcv];refine (h6 L (wN w).1 (by omega)).sc ?_;have hwo:(woI L (wN w).1).length<=L.length:=List.length_filter_le _ _;have hwr:(woI L (wN w).1).Pairwise (· < ·):=hrise.1.filter _
   have e:zD is (L,ns) w=(z1 L (wN w).1 is,ns):=by unfold zD;rw[if_pos he]
   rw[e] at ih2;cases is with
   | true =>
    simp (decide:=true) only [↓vS,vT,simprocAttr,hfl,hcv];have h7':=h7 (woI L (wN w).1) (wN w).1 (by omega) hwr;rw[qg2] at h7';refine h7'.sc ?_;simp (decide:=true) only [↓vS,vT,simprocAttr,hwj];refine ih2 (by omega) (by omega) _ _ (Wk.mk _ _ [0,1,2,3] ?_ ?_ ?_ rfl)
    ·simp[vw,zf,qe]
    ·simp[vw,qT,qi,qF,qa,qe,qc,qb]
    ·simp
   | false =>
    rw[qg1] at ih2;simp (decide:=true) only [↓vS,vT,simprocAttr,hfl,hwj];refine ih2 (by omega) (by omega) _ _ (Wk.mk _ _ [0,1,2,3] ?_ ?_ ?_ rfl)
    ·simp[vw,zf,qe]
    ·simp[vw,qT,qi,qF,qa,qe,qc,qb]
    ·simp
  ·have e:zD is (L,ns) w=(L,ns++[((wN w).2,w)]):=by unfold zD;rw[if_neg he]
   rw[e] at ih2;have hr1:(ns.map (qm a)).length+1<=qf:=by simp only[qf,List.length_map];omega
   have hr2:((ns.map (qm a)).length+1)*48<=qf:=by simp only[qf,List.length_map];omega
   have hap:rN (ns.map (qm a))++[AV.s a.file,.i .i64 a.line,.i .i64 (wN w).2,.s (w.take 60)]=rN ((ns++[((wN w).2,w)]).map (qm a)):=by rw[List.map_append,← yd];rfl
   have hml:((ns++[((wN w).2,w)]).map (qm a)).length=(ns.map (qm a)).length+1:=by simp
   simp (decide:=true) only [↓vS,vT,simprocAttr,he];refine qW ?_;simp (decide:=true) only [↓vS,vT,simprocAttr,hlt,yF,hx,Option.map_some,Nat.mul_one];refine (h5 a (wN w).2 w).pc ?_;simp only[hml] at ih2;generalize ns.map (qm a)=N at hr1 hr2 hap ih2 ⊢;simp (decide:=true) only [↓vS,vT,simprocAttr,wS,qm,hr1,hr2,jq,hap,hwj];refine ih2 (by omega) (by omega) _ _ (Wk.mk _ _ [0,1,2,5] ?_ ?_ ?_ rfl)
   ·simp[vw,zf,qe]
   ·simp[vw,qT,qi,qF,qa,qe,qc,qb]
   ·simp
 ·have hj':j=W.length:=by omega
  subst hj';clear ih;generalize kV is p.fams W W.length=s at hlen hrise ⊢;obtain⟨L,ns⟩:=s;dsimp only at hlen hrise ⊢;simp only[vI,simprocAttr];simp (decide:=true) only [↓vS,vT,simprocAttr,hlt];refine qf6 p a L (ns.map (qm a)) (by omega) hrise.2 (Wk.mk _ _ [0,1,2,3] ?_ ?_ ?_ rfl)
  ·simp[vw,zf,qe]
  ·simp[vw,qT,qi,qF,qa,qe,qc,qb]
  ·simp
theorem qih{g1 g2 g3 g4 g5 g6 g7:Nat}(h1:qfQ P g1)(h3:qci P g3)(h4:ZU P g4 .u64)(h5:yV P g5)(h6:J8 P g6)(h7:WF P g7)(p:Pol)(a:Asg)(r:List UInt8)(t:Bool)(hp:PolOk p)(hrs:p.fams.Pairwise (· < ·))(hR:Rg p.fams)(hl:r.length<=1000){t':Tr AV}{h':Hp}
  (hk:Wk 0 t' h' (mkT [(2,.ptr 0 0),(3,.ptr 1 0),(4,.ptr 2 0),(7,.s r),(8,.b t)]) (mkH 0 [.cells 0 true false (qi p),.cells 0 true false (qF a),.cells 0 true false qT])) :
  S P 0 (zI g1 g2 g3 g4 g5 g6 g7) (xg [.cell 4 13 true,.tmp 5] fun v' h'=>Frz h' v' (.tup [.agg (qi { p with fams:=(kV (t==decide (p.fmode=2)) p.fams (qh r) (qh r).length).1 }),.fz ((kV (t==decide (p.fmode=2)) p.fams (qh r) (qh r).length).2.map (qm a)).length (rN ((kV (t==decide (p.fmode=2)) p.fams (qh r) (qh r).length).2.map (qm a)))])) t' h':=by
 have hpf:=hp.f;refine S.weak hk (qr ?_);simp only[zI,vI,simprocAttr];simp (decide:=true) only [↓vS,vT,simprocAttr]
 refine SL.loop (α:=Nat) (fun j=>[(2,.ptr 0 0),(3,.ptr 1 0),(4,.ptr 2 0),(7,.s r),(8,.b t),(9,.own 3 j),(10,.i .i64 j)])
  (fun j=>[.cells 0 true false (qi p),.cells 0 true false (qF a),.cells 0 true false qT,.cells 1 true true (rI .i64 (p.fams.take j))]) (fun j=>j<=p.fams.length) (fun j=>p.fams.length-j) 0 [0,1,2,99] ?_ ?_ ?_ rfl ?_ ?_
 ·simp[vw]
 ·simp[vw,qT,qi,qF,qa,qe,qc,rI]
 ·simp
 ·exact Nat.zero_le _
 rintro j hj G ih
 by_cases hlt:j<p.fams.length
 ·have hx:p.fams[j]?=some p.fams[j]:=List.getElem?_eq_getElem hlt;have hwj:IntKind.wrap .i64 ((j:Int)+1)=((j+1:Nat):Int):=by rw[qq (by omega) (by omega)];omega
  have hrg:=hR p.fams[j] (List.getElem_mem hlt);have hw32:IntKind.wrap .i64 p.fams[j]=p.fams[j]:=qq (by omega) (by omega);have ht:p.fams.take (j+1)=p.fams.take j++[p.fams[j]]:=by rw[List.take_add_one,hx];rfl
  have hl:(p.fams.take j).length=j:=by simp;omega
  have ih2:=ih (j+1);rw[ht] at ih2;generalize p.fams[j]=x at hx hw32 ih2;generalize p.fams.take j=A at hl ih2 ⊢;have hr1:j+1<=qf:=by simp only[qf];omega
  have hr2:(j+1)*8<=qf:=by simp only[qf];omega
  have hap:rI .i64 A++[AV.i .i64 x]=rI .i64 (A++[x]):=by rw[← Qu];rfl
  have hlr:(rI .i64 A).length=j:=by rw[xl,hl]
  simp only[qi,qF,qT,vI,simprocAttr];simp (decide:=true) only [↓vS,vT,simprocAttr,hlt,xa,hx,Option.map_some,Nat.mul_one,hw32,hr1,hr2,hlr,hap,hwj];refine ih2 (by omega) (by omega) _ _ (Wk.mk _ _ [0,1,2,5] ?_ ?_ ?_ rfl)
  ·simp[vw]
  ·simp[vw,qT,qi,qF,qa,qe,qc]
  ·simp
 ·have hj':j=p.fams.length:=by omega
  subst hj';clear ih;rw[List.take_length];simp only[qi,qF,qT,vI,simprocAttr];simp (decide:=true) only [↓vS,vT,simprocAttr,hlt];refine S.weak (Wk.mk [(2,.ptr 0 0),(3,.ptr 1 0),(4,.ptr 2 0),(7,.s r),(8,.b t),(9,.own 3 p.fams.length)] [.cells 0 true false (qi p),.cells 0 true false (qF a),.cells 0 true false qT,.cells 1 true true (rI .i64 p.fams)] [0,1,2,3] ?_ ?_ ?_ rfl) ?_
  ·simp[vw]
  ·simp[vw,qT,qi,qF,qa,qe,qc]
  ·simp
  refine S.weak (Wk.freeze 3 1 1 rfl qe (Nat.zero_le _) (by simp)) ?_;refine qii h1 h3 h4 h5 h6 h7 p a r t hp hrs hR hl (Wk.mk _ _ [0,1,2] ?_ ?_ ?_ rfl)
  ·simp[vw,mkT,fzv,jT,qe]
   try (intro h0;rw[h0];rfl)
  ·simp[vw,mkH,trL,fzB,jT,fzv,qi,qF,qT,qa,qc,qe]
  ·simp[mkH]
theorem qob{g1 g2 g3 g4 g5 g6 g7:Nat}(hc:qk P f (wv g1 g2 g3 g4 g5 g6 g7)=true)(h1:qfQ P g1)(h2:qhI P g2)(h3:qci P g3)(h4:ZU P g4 .u64)(h5:yV P g5)(h6:J8 P g6)(h7:WF P g7)
  (p:Pol) (a:Asg) (hp:PolOk p) (hrs:p.fams.Pairwise (· < ·)) (hR:Rg p.fams) (hv:a.val.length<=1000) :
  qd P f [.agg (qi p),.agg (qF a)] (.tup [.agg (qi (qI p a.val).1),.fz ((qI p a.val).2.map (qm a)).length (rN ((qI p a.val).2.map (qm a)))]):=by
 have hwl:=zW a.val;have htl:=v5 a.val;refine qd.mk hc rfl ?_;generalize hT:AV.tup [.agg (qi (qI p a.val).1),.fz ((qI p a.val).2.map (qm a)).length (rN ((qI p a.val).2.map (qm a)))]=tgt;simp only[wv,qi,qF,vI,simprocAttr];simp only[↓vS,vT,simprocAttr];refine (h1 a.val (by omega)).sc ?_
 by_cases hw:qh a.val=[]
 ·have hM:qI p a.val=({ p with fams:=[],fmode:=0 },[]):=by unfold qI;rw[if_pos hw]
  rw[← hT,hM];simp (decide:=true) only [↓vS,vT,simprocAttr,hw,List.length_nil];simp[vZ,vP,Tr.get_set,qi,qe,qn,qb,qc,qbh,vh]
 by_cases hn:qh a.val=[Jv]
 ·have hM:qI p a.val=({ p with fams:=[],fmode:=1 },[]):=by unfold qI;rw[if_neg hw,if_pos hn]
  rw[← hT,hM];simp (decide:=true) only [↓vS,vT,simprocAttr,hn,Jv,List.length_cons,List.length_nil,qju];simp[vZ,vP,Tr.get_set,qi,qe,qn,qb,qc,qbh,vh]
 have hM:qI p a.val=({ p with fams:=(kV ((qE a.val).2==decide (xD p.fmode (qE a.val).2=2)) p.fams (qh (qE a.val).1) (qh (qE a.val).1).length).1,fmode:=xD p.fmode (qE a.val).2 },(kV ((qE a.val).2==decide (xD p.fmode (qE a.val).2=2)) p.fams (qh (qE a.val).1) (qh (qE a.val).1).length).2):=by
  unfold qI kV;rw[if_neg hw,if_neg hn,List.take_length]
 rw[hM] at hT
 have hwn:¬((qh a.val).length:Int)=0:=by
  intro hh;exact hw (List.eq_nil_of_length_eq_zero (by omega))
 have main:∀{t':Tr AV} {h':Hp},Wk 0 t' h' (mkT [(2,.ptr 0 0),(3,.ptr 1 0),(4,.ptr 2 0),(7,.s (qE a.val).1),(8,.b (qE a.val).2)]) (mkH 0 [.cells 0 true false (qi { p with fmode:=xD p.fmode (qE a.val).2 }),.cells 0 true false (qF a),.cells 0 true false qT])->
   S P 0 (zI g1 g2 g3 g4 g5 g6 g7) (xg [.cell 4 13 true,.tmp 5] fun v' h'=>Frz h' v' tgt) t' h':=by
  intro t' h' hk;subst hT;exact qih h1 h3 h4 h5 h6 h7 { p with fmode:=xD p.fmode (qE a.val).2 } a (qE a.val).1 (qE a.val).2 ⟨hp.a,hp.f,hp.c,hp.l⟩ hrs hR (by omega) hk
 clear hT hM
 have hone:qh a.val≠[]->((qh a.val).length:Int)=1->∃w,qh a.val=[w]∧w≠Jv:=by
  intro _ h
  match hW:qh a.val with
  | []=>exact absurd hW hw
  | [w]=>exact⟨w,rfl,fun e=>hn (by rw[hW,e])⟩
  | _::_::_=>rw[hW] at h;simp at h;omega
 have h2':=h2 a.val;generalize qE a.val=tp at main h2';obtain⟨r,t⟩:=tp;dsimp only at main h2'
 by_cases h1w:((qh a.val).length:Int)=1
 ·obtain⟨w,hW,hne⟩:=hone hw h1w;have hne':¬w=[110,111,110,101]:=hne;simp (decide:=true) only [↓vS,vT,simprocAttr,hW,qju,List.length_cons,List.length_nil,hne'];refine h2'.sc ?_
  by_cases hm:p.fmode=0
  ·cases t with
   | true =>
    have e:xD p.fmode true=2:=by unfold xD;rw[if_pos hm];rfl
    rw[e] at main;simp (decide:=true) only [↓vS,vT,simprocAttr,hm];refine main (Wk.mk _ _ [0,1,2] ?_ ?_ ?_ rfl)
    ·simp[vw]
    ·simp[vw,qT,qi,qF,qa,qe,qc]
    ·simp
   | false =>
    have e:xD p.fmode false=1:=by unfold xD;rw[if_pos hm];rfl
    rw[e] at main;simp (decide:=true) only [↓vS,vT,simprocAttr,hm];refine main (Wk.mk _ _ [0,1,2] ?_ ?_ ?_ rfl)
    ·simp[vw]
    ·simp[vw,qT,qi,qF,qa,qe,qc]
    ·simp
  ·have e:xD p.fmode t=p.fmode:=by unfold xD;rw[if_neg hm]
   rw[e] at main;simp (decide:=true) only [↓vS,vT,simprocAttr,hm];refine main (Wk.mk _ _ [0,1,2] ?_ ?_ ?_ rfl)
   ·simp[vw]
   ·simp[vw,qT,qi,qF,qa,qe,qc]
   ·simp
 ·simp (decide:=true) only [↓vS,vT,simprocAttr,hwn,h1w];refine h2'.sc ?_
  by_cases hm:p.fmode=0
  ·cases t with
   | true =>
    have e:xD p.fmode true=2:=by unfold xD;rw[if_pos hm];rfl
    rw[e] at main;simp (decide:=true) only [↓vS,vT,simprocAttr,hm];refine main (Wk.mk _ _ [0,1,2] ?_ ?_ ?_ rfl)
    ·simp[vw]
    ·simp[vw,qT,qi,qF,qa,qe,qc]
    ·simp
   | false =>
    have e:xD p.fmode false=1:=by unfold xD;rw[if_pos hm];rfl
    rw[e] at main;simp (decide:=true) only [↓vS,vT,simprocAttr,hm];refine main (Wk.mk _ _ [0,1,2] ?_ ?_ ?_ rfl)
    ·simp[vw]
    ·simp[vw,qT,qi,qF,qa,qe,qc]
    ·simp
  ·have e:xD p.fmode t=p.fmode:=by unfold xD;rw[if_neg hm]
   rw[e] at main;simp (decide:=true) only [↓vS,vT,simprocAttr,hm];refine main (Wk.mk _ _ [0,1,2] ?_ ?_ ?_ rfl)
   ·simp[vw]
   ·simp[vw,qT,qi,qF,qa,qe,qc]
   ·simp
end Go.Kc
end
section
/- What the document's Set of stage 18 answers: namespaces, and all keys. Condition: the functions' texts are these. -/
namespace Go.Kc
variable {P:Program} {f:Nat}
def qbM(P:Program)(f:Nat):Prop:=qd P f [] (.fz 8 (qO.flatMap (zB .u64)))
noncomputable def spT(W:List (List UInt8))(j:Nat):Int×List (Int×List UInt8):=(W.take j).foldl xm (0,[])
theorem qjM{W:List (List UInt8)}{j:Nat}{w:List UInt8}(h:W[j]?=some w):spT W (j+1)=xm (spT W j) w:=by
 unfold spT;rw[List.take_add_one,h,List.foldl_append];rfl
theorem qmo(W:List (List UInt8))(j:Nat):(spT W j).2.length<=j:=by
 have:=JX (W.take j) (0,[]);simp only[List.length_take,List.length_nil,Nat.zero_add] at this;unfold spT;omega
def z2(a b c d e g h:Nat):ICode:=.seq (.r [.n 48 8,.l 49 b [.t 48],.n 10 49]) (.seq (.r [.m 11 .N]) (.seq (.r [.m 12 (.c (.i .u64 0))]) (.seq (.seq (.r [.m 13 (.k 0)]) (.blk 0 (.loop (.seq (.seq (.r [.n 50 13,.n 51 10,.e 52 51,.s 53 50 52]) (.cond (.t 53) (.skip) (.exit 0))) (.seq (.blk 1 (.seq (.reg true [.l 57 e [],.n 58 10,.n 59 13,.i 60 1 58 59,.d 61 60,.l 62 g [.t 57,.t 61,.k 181],.n 56 62,.x 63 56 0,.x 64 56 1,.n 14 63,.n 15 64]) (.seq (.seq (.r [.n 65 15,.w 66 .neq 65 0]) (.cond (.t 66) (.reg true [.n 67 11,.v 68 5 3,.n 69 15,.n 70 10,.n 71 13,.i 72 1 70 71,.d 73 72,.l 74 h [.t 68,.t 69,.t 73],.q 75 (.buildS 1 [.s [],.i .i64 0,.i .i64 0,.s []] [(0,4,(.t 74))]),.q 76 (.app 4 48 true (.t 67) (.t 75)),.n 11 76]) (.skip))) (.r [.n 77 12,.n 78 14,.b 79 .or 77 78,.n 12 79])))) (.r [.n 54 13,.a 55 54 1,.n 13 55])))))) (.seq (.seq (.r [.n 80 11,.e 81 80,.w 82 .gtr 81 0]) (.cond (.t 82) (.seq (.r [.v 83 13 2,.n 84 11,.u (.store 13 (.t 4) (.t 83)),.n 5 84]) (.ret)) (.skip))) (.seq (.r [.l 85 c [],.n 86 12,.b 87 .andNot 85 86,.f 88 8 2,.u (.store 1 (.t 88) (.t 87))]) (.seq (.seq (.r [.n 89 9]) (.cond (.t 89) (.r [.n 90 12,.f 91 8 2,.u (.store 1 (.t 91) (.t 90))]) (.skip))) (.seq (.r [.v 92 13 2,.u (.store 13 (.t 4) (.t 92)),.m 5 .N]) (.ret))))))))
def jX(a b c d e g h:Nat):IFn:=⟨[.cell 4 13 true,.tmp 5],.seq (.r [.q 2 (.box (.t 0)),.q 3 (.box (.t 1)),.q 4 (.alloc [.nils,.i .u8 0,.nils,.i .u32 0,.i .u8 0,.nils,.nils,.i .u8 0,.i .u64 0,.b false,.b false,.b false,.b false]),.m 5 .N]) (.seq (.r [.f 17 4 3,.d 18 17,.l 19 a [.t 18],.n 16 19,.x 20 16 0,.x 21 16 1,.n 6 20,.n 7 21]) (.seq (.seq (.r [.f 22 4 3,.d 23 22,.l 24 b [.t 23],.e 25 24,.w 26 .eql 25 0,.n 27 26,.z 28 7 27,.g 29 (.bin .eql (.t 28) (.k 0)) 27 false,.z 30 29 27,.y 31 6 30,.g 32 (.un .not (.t 31)) 30 true,.g 33 (.pick (.t 30) (.t 32) .F) 27 false,.o 34 27 33]) (.cond (.t 34) (.seq (.r [.f 35 8 2,.u (.store 1 (.t 35) (.c (.i .u64 0)))]) (.seq (.r [.v 36 13 2,.u (.store 13 (.t 4) (.t 36)),.m 5 .N]) (.ret))) (.skip))) (.seq (.seq (.r [.n 37 7,.w 38 .eql 37 0]) (.cond (.t 38) (.seq (.r [.l 39 c [],.f 40 8 2,.u (.store 1 (.t 40) (.t 39))]) (.seq (.r [.v 41 13 2,.u (.store 13 (.t 4) (.t 41)),.m 5 .N]) (.ret))) (.skip))) (.seq (.r [.f 43 4 3,.d 44 43,.l 45 d [.t 44],.n 42 45,.x 46 42 0,.x 47 42 1,.n 8 46,.n 9 47]) (.cut (z2 a b c d e g h))))))⟩
theorem qlL{g1 g2 g3 g4 g5 g6 g7:Nat}(h1:qfQ P g2)(h2:qd P g3 [] (.i .u64 2114060416))(h3:qbM P g5)(h4:ZU P g6 .u64)(h5:yV P g7)(p:Pol)(a:Asg)(r:List UInt8)(t:Bool)(hl:r.length<=1000){t':Tr AV}{h':Hp}
  (hk:Wk 0 t' h' (mkT [(2,.ptr 0 0),(3,.ptr 1 0),(4,.ptr 2 0),(5,.nils),(8,.s r),(9,.b t)]) (mkH 0 [.cells 0 true false (qi p),.cells 0 true false (qF a),.cells 0 true false qT])) :
  S P 0 (z2 g1 g2 g3 g4 g5 g6 g7) (xg [.cell 4 13 true,.tmp 5] fun v' h'=>Frz h' v' (.tup [.agg (qi (Zn p t (spT (qh r) (qh r).length))),.fz ((spT (qh r) (qh r).length).2.map (qm a)).length (rN ((spT (qh r) (qh r).length).2.map (qm a)))])) t' h':=by
 have hwl:=zW r;refine S.weak hk (qr ?_);simp only[z2,vI,simprocAttr];simp (decide:=true) only [↓vS,vT,simprocAttr];refine (h1 r (by omega)).sc ?_;generalize qh r=W at hwl ⊢;simp (decide:=true) only [↓vS,vT,simprocAttr]
 refine SL.loop (α:=Nat) (fun j=>[(2,.ptr 0 0),(3,.ptr 1 0),(4,.ptr 2 0),(9,.b t),(10,.fz W.length (rS W)),(11,.own 3 ((spT W j).2.map (qm a)).length),(12,.i .u64 (spT W j).1),(13,.i .i64 j)])
  (fun j=>[.cells 0 true false (qi p),.cells 0 true false (qF a),.cells 0 true false qT,.cells 4 true true (rN ((spT W j).2.map (qm a)))]) (fun j=>j<=W.length) (fun j=>W.length-j) 0 [0,1,2,99] ?_ ?_ ?_ rfl ?_ ?_
 ·simp[vw,zf,qe,spT]
 ·simp[vw,qT,qi,qF,spT,qa,qe,qc,rN]
 ·simp
 ·exact Nat.zero_le _
 rintro j hj G ih;have hlen:=qmo W j
 by_cases hlt:j<W.length
 ·have hx:W[j]?=some W[j]:=List.getElem?_eq_getElem hlt;have hwj:IntKind.wrap .i64 ((j:Int)+1)=((j+1:Nat):Int):=by rw[qq (by omega) (by omega)];omega
  have ih2:=ih (j+1);rw[qjM hx] at ih2;generalize W[j]=w at hx ih2;generalize spT W j=s at hlen ih2 ⊢;obtain⟨n,ns⟩:=s;dsimp only at hlen ih2 ⊢;simp only[qi,qF,qT,vI,simprocAttr];have hfm:jL .u64 w 181 qO = .tup [.i .u64 (spM w).1,.i .i64 (spM w).2]:=ZE _ _ _ _;simp (decide:=true) only [↓vS,vT,simprocAttr,hlt];refine qW ?_;simp (decide:=true) only [↓vS,vT,simprocAttr];refine h3.pc ?_;simp (decide:=true) only [↓vS,vT,simprocAttr,hlt,yF,hx,Option.map_some,Nat.mul_one];have h4':=h4 qO w 181 (by decide);rw[hfm] at h4';refine h4'.pc ?_
  by_cases he:(spM w).2=0
  ·have e:xm (n,ns) w=(orI .u64 n (spM w).1,ns):=by unfold xm;rw[if_pos he]
   rw[e] at ih2;simp (decide:=true) only [↓vS,vT,simprocAttr,he,hwj];refine ih2 (by omega) (by omega) _ _ (Wk.mk _ _ [0,1,2,3] ?_ ?_ ?_ rfl)
   ·simp[vw,zf,qe]
   ·simp[vw,qT,qi,qF,qa,qe,qc,qb]
   ·simp
  ·have e:xm (n,ns) w=(orI .u64 n (spM w).1,ns++[((spM w).2,w)]):=by unfold xm;rw[if_neg he]
   rw[e] at ih2;have hr1:(ns.map (qm a)).length+1<=qf:=by simp only[qf,List.length_map];omega
   have hr2:((ns.map (qm a)).length+1)*48<=qf:=by simp only[qf,List.length_map];omega
   have hap:rN (ns.map (qm a))++[AV.s a.file,.i .i64 a.line,.i .i64 (spM w).2,.s (w.take 60)]=rN ((ns++[((spM w).2,w)]).map (qm a)):=by rw[List.map_append,← yd];rfl
   have hml:((ns++[((spM w).2,w)]).map (qm a)).length=(ns.map (qm a)).length+1:=by simp
   simp (decide:=true) only [↓vS,vT,simprocAttr,he];refine qW ?_;simp (decide:=true) only [↓vS,vT,simprocAttr,hlt,yF,hx,Option.map_some,Nat.mul_one];refine (h5 a (spM w).2 w).pc ?_;simp only[hml] at ih2;generalize ns.map (qm a)=N at hr1 hr2 hap ih2 ⊢;simp (decide:=true) only [↓vS,vT,simprocAttr,wS,qm,hr1,hr2,jq,hap,hwj];refine ih2 (by omega) (by omega) _ _ (Wk.mk _ _ [0,1,2,5] ?_ ?_ ?_ rfl)
   ·simp[vw,zf,qe]
   ·simp[vw,qT,qi,qF,qa,qe,qc,qb]
   ·simp
 ·have hj':j=W.length:=by omega
  subst hj';clear ih;generalize spT W W.length=s at hlen ⊢;obtain⟨n,ns⟩:=s;dsimp only at hlen ⊢;generalize hT:AV.tup [.agg (qi (Zn p t (n,ns))),.fz (ns.map (qm a)).length (rN (ns.map (qm a)))]=tgt;simp only[qi,qF,qT,vI,simprocAttr]
  by_cases hn:ns=[]
  ·subst hn;simp (decide:=true) only [↓vS,vT,simprocAttr,hlt,List.map_nil,List.length_nil];refine h2.sc ?_;cases t with
   | true =>
    have e:Zn p true (n,[])={ p with spaces:=n }:=rfl;rw[e] at hT;simp (decide:=true) only [↓vS,vT,simprocAttr];subst hT;simp[vZ,vP,Tr.get_set,qi,qe,qn,qb,qc,vh]
   | false =>
    have e:Zn p false (n,[])={ p with spaces:=Qe .u64 xp n }:=rfl;rw[e] at hT;simp (decide:=true) only [↓vS,vT,simprocAttr];subst hT;simp[vZ,vP,Tr.get_set,qi,qe,qn,qb,qc,vh,xp]
  ·have hpos:(0:Int)<((ns.map (qm a)).length:Int):=by
    have:=List.length_pos_iff.2 hn;simp;omega
   have e:Zn p t (n,ns)=p:=by unfold Zn;rw[if_neg hn]
   rw[e] at hT;have hnm:ns.map (qm a)≠[]:=by simpa using hn
   generalize ns.map (qm a)=N at hpos hT hnm ⊢;simp (decide:=true) only [↓vS,vT,simprocAttr,hlt,hpos];subst hT;simp[vZ,vP,Tr.get_set,qi,qe,qn,qb,qc,hnm]
theorem qlH{g1 g2 g3 g4 g5 g6 g7:Nat}(hc:qk P f (jX g1 g2 g3 g4 g5 g6 g7)=true)(h0:Vc P g1)(h1:qfQ P g2)(h2:qd P g3 [] (.i .u64 2114060416))(ht:qhI P g4)(h3:qbM P g5)(h4:ZU P g6 .u64)(h5:yV P g7)(p:Pol)(a:Asg)(hv:a.val.length<=1000) :
  qd P f [.agg (qi p),.agg (qF a)] (.tup [.agg (qi (qy p a.val).1),.fz ((qy p a.val).2.map (qm a)).length (rN ((qy p a.val).2.map (qm a)))]):=by
 have hwl:=zW a.val;have htl:=v5 a.val;refine qd.mk hc rfl ?_;generalize hT:AV.tup [.agg (qi (qy p a.val).1),.fz ((qy p a.val).2.map (qm a)).length (rN ((qy p a.val).2.map (qm a)))]=tgt;simp only[jX,qi,qF,vI,simprocAttr];simp only[↓vS,vT,simprocAttr];refine (h0 a.val).sc ?_
 have cs:yK a.val = .tup [.b false,.i .i64 0]∧a.val ∈ zM∨yK a.val = .tup [.b true,.i .i64 0]∧a.val ∉ zM∧a.val ∈ zA∨yK a.val = .tup [.b false,.i .i64 150]∧a.val ∉ zM∧a.val ∉ zA:=by
  unfold yK
  by_cases h1:a.val ∈ zM
  ·exact .inl ⟨if_pos h1,h1⟩
  ·by_cases h2:a.val ∈ zA
   ·exact .inr (.inl ⟨by rw[if_neg h1,if_pos h2],h1,h2⟩)
   ·exact .inr (.inr ⟨by rw[if_neg h1,if_neg h2],h1,h2⟩)
 by_cases hw:qh a.val=[]
 ·have hM:qy p a.val=({ p with spaces:=0 },[]):=by unfold qy;rw[if_pos hw]
  rw[hM] at hT;rcases cs with⟨e,_⟩|⟨e,_⟩|⟨e,_⟩ <;>
  ·rw[e];simp (decide:=true) only [↓vS,vT,simprocAttr];refine (h1 a.val (by omega)).sc ?_;simp (decide:=true) only [↓vS,vT,simprocAttr,hw,List.length_nil];subst hT;simp[vZ,vP,Tr.get_set,qi,qe,qn,qb,qc,vh]
 have hwn:¬((qh a.val).length:Int)=0:=by
  intro hh;exact hw (List.eq_nil_of_length_eq_zero (by omega))
 rcases cs with⟨e,hno⟩|⟨e,hno,hy⟩|⟨e,hno,hy⟩
 ·have hM:qy p a.val=({ p with spaces:=0 },[]):=by unfold qy;rw[if_neg hw,if_pos hno]
  rw[hM] at hT;rw[e];simp (decide:=true) only [↓vS,vT,simprocAttr];refine (h1 a.val (by omega)).sc ?_;simp (decide:=true) only [↓vS,vT,simprocAttr,hwn];subst hT;simp[vZ,vP,Tr.get_set,qi,qe,qn,qb,qc,vh]
 ·have hM:qy p a.val=({ p with spaces:=xp },[]):=by unfold qy;rw[if_neg hw,if_neg hno,if_pos hy]
  rw[hM] at hT;rw[e];simp (decide:=true) only [↓vS,vT,simprocAttr];refine (h1 a.val (by omega)).sc ?_;simp (decide:=true) only [↓vS,vT,simprocAttr,hwn];refine h2.sc ?_;simp (decide:=true) only [↓vS,vT,simprocAttr];subst hT;simp[vZ,vP,Tr.get_set,qi,qe,qn,qb,qc,vh,xp]
 ·have hM:qy p a.val=(Zn p (qE a.val).2 (spT (qh (qE a.val).1) (qh (qE a.val).1).length),(spT (qh (qE a.val).1) (qh (qE a.val).1).length).2):=by
   unfold qy spT;rw[if_neg hw,if_neg hno,if_neg hy,List.take_length]
  rw[hM] at hT;rw[e];simp (decide:=true) only [↓vS,vT,simprocAttr];refine (h1 a.val (by omega)).sc ?_;simp (decide:=true) only [↓vS,vT,simprocAttr,hwn];refine (ht a.val).sc ?_;simp (decide:=true) only [↓vS,vT,simprocAttr];subst hT;refine qlL h1 h2 h3 h4 h5 p a _ _ (by omega) (Wk.mk _ _ [0,1,2] ?_ ?_ ?_ rfl)
  ·simp[vw]
  ·simp[vw,qT,qi,qF,qa,qe,qc]
  ·simp
def qN(a b c d e g:Nat):ICode:=.seq (.seq (.r [.f 56 3 3,.d 57 56]) (.blk 1 (.seq (.r [.q 59 (.bin .eql (.t 57) (.c (.s [77,101,109,111,114,121,68,101,110,121,87,114,105,116,101,69,120,101,99,117,116,101]))),.n 58 59]) (.cond (.t 58) (.r [.n 60 6,.f 61 9 2,.u (.store 1 (.t 61) (.t 60))]) (.seq (.r [.q 63 (.bin .eql (.t 57) (.c (.s [76,111,99,107,80,101,114,115,111,110,97,108,105,116,121]))),.n 62 63]) (.cond (.t 62) (.r [.n 64 6,.f 65 10 2,.u (.store 1 (.t 65) (.t 64))]) (.seq (.r [.q 67 (.bin .eql (.t 57) (.c (.s [82,101,115,116,114,105,99,116,82,101,97,108,116,105,109,101]))),.n 66 67]) (.cond (.t 66) (.r [.n 68 6,.f 69 11 2,.u (.store 1 (.t 69) (.t 68))]) (.seq (.r [.q 71 (.bin .eql (.t 57) (.c (.s [78,111,78,101,119,80,114,105,118,105,108,101,103,101,115]))),.n 70 71]) (.cond (.t 70) (.r [.n 72 6,.f 73 12 2,.u (.store 1 (.t 73) (.t 72))]) (.skip))))))))))) (.seq (.r [.v 74 13 2,.u (.store 13 (.t 4) (.t 74)),.m 5 .N]) (.ret))
def kN(a b c d e g:Nat):IFn:=⟨[.cell 4 13 true,.tmp 5],.seq (.r [.q 2 (.box (.t 0)),.q 3 (.box (.t 1)),.q 4 (.alloc [.nils,.i .u8 0,.nils,.i .u32 0,.i .u8 0,.nils,.nils,.i .u8 0,.i .u64 0,.b false,.b false,.b false,.b false]),.m 5 .N]) (.seq (.seq (.r [.f 8 3 3,.d 9 8]) (.blk 0 (.seq (.r [.q 11 (.bin .eql (.t 9) (.c (.s [83,121,115,116,101,109,67,97,108,108,65,114,99,104,105,116,101,99,116,117,114,101,115]))),.n 10 11]) (.cond (.t 10) (.seq (.r [.v 12 13 2,.v 13 5 3,.l 14 a [.t 12,.t 13],.x 15 14 0,.x 16 14 1,.u (.store 13 (.t 4) (.t 15)),.n 5 16]) (.ret)) (.seq (.r [.q 18 (.bin .eql (.t 9) (.c (.s [82,101,115,116,114,105,99,116,65,100,100,114,101,115,115,70,97,109,105,108,105,101,115]))),.n 17 18]) (.cond (.t 17) (.seq (.r [.v 19 13 2,.v 20 5 3,.l 21 b [.t 19,.t 20],.x 22 21 0,.x 23 21 1,.u (.store 13 (.t 4) (.t 22)),.n 5 23]) (.ret)) (.seq (.r [.q 25 (.bin .eql (.t 9) (.c (.s [82,101,115,116,114,105,99,116,78,97,109,101,115,112,97,99,101,115]))),.n 24 25]) (.cond (.t 24) (.seq (.r [.v 26 13 2,.v 27 5 3,.l 28 c [.t 26,.t 27],.x 29 28 0,.x 30 28 1,.u (.store 13 (.t 4) (.t 29)),.n 5 30]) (.ret)) (.skip))))))))) (.seq (.seq (.r [.f 31 3 3,.d 32 31,.l 33 d [.t 32],.q 34 (.un .not (.t 33))]) (.cond (.t 34) (.seq (.r [.v 35 13 2,.u (.store 13 (.t 4) (.t 35)),.m 5 .N]) (.ret)) (.skip))) (.seq (.r [.f 37 4 3,.d 38 37,.l 39 e [.t 38],.n 36 39,.x 40 36 0,.x 41 36 1,.n 6 40,.n 7 41]) (.seq (.seq (.r [.n 42 7,.w 43 .neq 42 0,.n 44 43,.h 45 4 3 44 true,.j 46 45 44 true,.g 47 (.bin .neq (.t 46) (.c (.s []))) 44 true,.p 48 44 47]) (.cond (.t 48) (.seq (.reg true [.v 49 13 2,.v 50 5 3,.n 51 7,.f 52 4 3,.d 53 52,.l 54 g [.t 50,.t 51,.t 53],.q 55 (.buildS 1 [.s [],.i .i64 0,.i .i64 0,.s []] [(0,4,(.t 54))]),.u (.storeD 13 (.t 4) (.t 49) []),.n 5 55]) (.ret)) (.skip))) (.cut (qN a b c d e g))))))⟩
def qhD(P:Program)(f:Nat):Prop:=∀(p:Pol) (a:Asg),PolOk p->p.arches.Pairwise (· < ·)->p.fams.Pairwise (· < ·)->Rg p.fams->a.val.length<=1000->
 qd P f [.agg (qi p),.agg (qF a)] (.tup [.agg (qi (xe p a.key a.val).1),.fz ((xe p a.key a.val).2.map (qm a)).length (rN ((xe p a.key a.val).2.map (qm a)))])
theorem qjG{g1 g2 g3 g4 g5 g6:Nat}(p:Pol)(a:Asg)(y:Bool)(hk:a.key=kWe){t':Tr AV}{h':Hp}
  (hw:Wk 0 t' h' (mkT [(2,.ptr 0 0),(3,.ptr 1 0),(4,.ptr 2 0),(5,.nils),(6,.b y)]) (mkH 0 [.cells 0 true false (qi p),.cells 0 true false (qF a),.cells 0 true false qT])) :
  S P 0 (qN g1 g2 g3 g4 g5 g6) (xg [.cell 4 13 true,.tmp 5] fun v' h'=>Frz h' v' (.tup [.agg (qi { p with we:=y }),.fz 0 []])) t' h':=by
 generalize hT:AV.tup [.agg (qi { p with we:=y }),.fz 0 []]=tgt;refine S.weak hw (qr ?_);simp only[qN,qi,qF,qT,vI,simprocAttr];simp (decide:=true) only [↓vS,vT,simprocAttr,hk,kWe];subst hT;simp[vZ,vP,Tr.get_set,qi,qe,qn,qb,qc]
theorem qjE{g1 g2 g3 g4 g5 g6:Nat}(p:Pol)(a:Asg)(y:Bool)(hk:a.key=kPe){t':Tr AV}{h':Hp}
  (hw:Wk 0 t' h' (mkT [(2,.ptr 0 0),(3,.ptr 1 0),(4,.ptr 2 0),(5,.nils),(6,.b y)]) (mkH 0 [.cells 0 true false (qi p),.cells 0 true false (qF a),.cells 0 true false qT])) :
  S P 0 (qN g1 g2 g3 g4 g5 g6) (xg [.cell 4 13 true,.tmp 5] fun v' h'=>Frz h' v' (.tup [.agg (qi { p with pe:=y }),.fz 0 []])) t' h':=by
 generalize hT:AV.tup [.agg (qi { p with pe:=y }),.fz 0 []]=tgt;refine S.weak hw (qr ?_);simp only[qN,qi,qF,qT,vI,simprocAttr];simp (decide:=true) only [↓vS,vT,simprocAttr,hk,kPe];subst hT;simp[vZ,vP,Tr.get_set,qi,qe,qn,qb,qc]
theorem qjF{g1 g2 g3 g4 g5 g6:Nat}(p:Pol)(a:Asg)(y:Bool)(hk:a.key=kRt){t':Tr AV}{h':Hp}
  (hw:Wk 0 t' h' (mkT [(2,.ptr 0 0),(3,.ptr 1 0),(4,.ptr 2 0),(5,.nils),(6,.b y)]) (mkH 0 [.cells 0 true false (qi p),.cells 0 true false (qF a),.cells 0 true false qT])) :
  S P 0 (qN g1 g2 g3 g4 g5 g6) (xg [.cell 4 13 true,.tmp 5] fun v' h'=>Frz h' v' (.tup [.agg (qi { p with rt:=y }),.fz 0 []])) t' h':=by
 generalize hT:AV.tup [.agg (qi { p with rt:=y }),.fz 0 []]=tgt;refine S.weak hw (qr ?_);simp only[qN,qi,qF,qT,vI,simprocAttr];simp (decide:=true) only [↓vS,vT,simprocAttr,hk,kRt];subst hT;simp[vZ,vP,Tr.get_set,qi,qe,qn,qb,qc]
theorem qjD{g1 g2 g3 g4 g5 g6:Nat}(p:Pol)(a:Asg)(y:Bool)(hk:a.key=kNp){t':Tr AV}{h':Hp}
  (hw:Wk 0 t' h' (mkT [(2,.ptr 0 0),(3,.ptr 1 0),(4,.ptr 2 0),(5,.nils),(6,.b y)]) (mkH 0 [.cells 0 true false (qi p),.cells 0 true false (qF a),.cells 0 true false qT])) :
  S P 0 (qN g1 g2 g3 g4 g5 g6) (xg [.cell 4 13 true,.tmp 5] fun v' h'=>Frz h' v' (.tup [.agg (qi { p with np:=y }),.fz 0 []])) t' h':=by
 generalize hT:AV.tup [.agg (qi { p with np:=y }),.fz 0 []]=tgt;refine S.weak hw (qr ?_);simp only[qN,qi,qF,qT,vI,simprocAttr];simp (decide:=true) only [↓vS,vT,simprocAttr,hk,kNp];subst hT;simp[vZ,vP,Tr.get_set,qi,qe,qn,qb,qc]
theorem qdf{p:Pol}{k v:List UInt8}(h:Za k=true) :
  (k=kWe∧xe p k v=WT p v)∨(k=kPe∧xe p k v=WR p v)∨(k=kRt∧xe p k v=WS p v)∨(k=kNp∧xe p k v=WQ p v):=by
 simp only[Za,Bool.or_eq_true,decide_eq_true_eq] at h;rcases h with ((rfl|rfl)|rfl)|rfl
 ·exact .inl ⟨rfl,rfl⟩
 ·exact .inr (.inl ⟨rfl,rfl⟩)
 ·exact .inr (.inr (.inl ⟨rfl,rfl⟩))
 ·exact .inr (.inr (.inr ⟨rfl,rfl⟩))
theorem qfp{g1 g2 g3 g4 g5 g6:Nat}(p:Pol)(a:Asg)(y:Bool)(hk:Za a.key=true)(hs:zu a.val=(some y,[])){t':Tr AV}{h':Hp}
  (hw:Wk 0 t' h' (mkT [(2,.ptr 0 0),(3,.ptr 1 0),(4,.ptr 2 0),(5,.nils),(6,.b y)]) (mkH 0 [.cells 0 true false (qi p),.cells 0 true false (qF a),.cells 0 true false qT])) :
  S P 0 (qN g1 g2 g3 g4 g5 g6) (xg [.cell 4 13 true,.tmp 5] fun v' h'=>Frz h' v' (.tup [.agg (qi (xe p a.key a.val).1),.fz ((xe p a.key a.val).2.map (qm a)).length (rN ((xe p a.key a.val).2.map (qm a)))])) t' h':=by
 rcases qdf (p:=p) (v:=a.val) hk with⟨e,h⟩|⟨e,h⟩|⟨e,h⟩|⟨e,h⟩
 ·have:=qjG (P:=P) (g1:=g1) (g2:=g2) (g3:=g3) (g4:=g4) (g5:=g5) (g6:=g6) p a y e hw;rw[h];unfold WT;rw[hs];exact this
 ·have:=qjE (P:=P) (g1:=g1) (g2:=g2) (g3:=g3) (g4:=g4) (g5:=g5) (g6:=g6) p a y e hw;rw[h];unfold WR;rw[hs];exact this
 ·have:=qjF (P:=P) (g1:=g1) (g2:=g2) (g3:=g3) (g4:=g4) (g5:=g5) (g6:=g6) p a y e hw;rw[h];unfold WS;rw[hs];exact this
 ·have:=qjD (P:=P) (g1:=g1) (g2:=g2) (g3:=g3) (g4:=g4) (g5:=g5) (g6:=g6) p a y e hw;rw[h];unfold WQ;rw[hs];exact this
theorem qmj{p:Pol}{k v:List UInt8}(hk:Za k=true)(hs:zu v=(none,[(150,v)])):xe p k v=(p,[(150,v)]):=by
 rcases qdf (p:=p) (v:=v) hk with⟨_,h⟩|⟨_,h⟩|⟨_,h⟩|⟨_,h⟩
 ·rw[h];unfold WT;rw[hs];rfl
 ·rw[h];unfold WR;rw[hs];rfl
 ·rw[h];unfold WS;rw[hs];rfl
 ·rw[h];unfold WQ;rw[hs];rfl
theorem qfM(v:List UInt8):(∃y,yK v = .tup [.b y,.i .i64 0]∧zu v=(some y,[]))∨(yK v = .tup [.b false,.i .i64 150]∧(v=[]∧zu v=(some false,[])∨v≠[]∧zu v=(none,[(150,v)]))):=by
 unfold yK zu
 by_cases h1:v ∈ zM
 ·have h0:v≠[]:=by rintro rfl;revert h1;decide
  exact .inl ⟨false,by rw[if_pos h1],by rw[if_neg h0,if_pos h1]⟩
 ·by_cases h2:v ∈ zA
  ·have h0:v≠[]:=by rintro rfl;revert h2;decide
   exact .inl ⟨true,by rw[if_neg h1,if_pos h2],by rw[if_neg h0,if_neg h1,if_pos h2]⟩
  ·refine .inr ⟨by rw[if_neg h1,if_neg h2],?_⟩
   by_cases h0:v=[]
   ·exact .inl ⟨h0,by rw[if_pos h0]⟩
   ·exact .inr ⟨h0,by rw[if_neg h0,if_neg h1,if_neg h2]⟩
theorem qtV{g1 g2 g3 g4 g5 g6:Nat}(hc:qk P f (kN g1 g2 g3 g4 g5 g6)=true)(h1:∀(p:Pol) (a:Asg),PolOk p->p.arches.Pairwise (· < ·)->a.val.length<=1000->qd P g1 [.agg (qi p),.agg (qF a)] (.tup [.agg (qi (za p a.val).1),.fz ((za p a.val).2.map (qm a)).length (rN ((za p a.val).2.map (qm a)))]))
  (h2:∀(p:Pol) (a:Asg),PolOk p->p.fams.Pairwise (· < ·)->Rg p.fams->a.val.length<=1000->qd P g2 [.agg (qi p),.agg (qF a)] (.tup [.agg (qi (qI p a.val).1),.fz ((qI p a.val).2.map (qm a)).length (rN ((qI p a.val).2.map (qm a)))]))
  (h3:∀(p:Pol) (a:Asg),a.val.length<=1000->qd P g3 [.agg (qi p),.agg (qF a)] (.tup [.agg (qi (qy p a.val).1),.fz ((qy p a.val).2.map (qm a)).length (rN ((qy p a.val).2.map (qm a)))]))
  (h4:∀k,qd P g4 [.s k] (.b (Za k))) (h5:Vc P g5) (h6:yV P g6):qhD P f:=by
 intro p a hp ha hf hR hv;refine qd.mk hc rfl ?_;generalize hT:AV.tup [.agg (qi (xe p a.key a.val).1),.fz ((xe p a.key a.val).2.map (qm a)).length (rN ((xe p a.key a.val).2.map (qm a)))]=tgt;simp only[kN,qi,qF,vI,simprocAttr]
 by_cases n0:a.key=XH
 ·have hM:xe p a.key a.val=za p a.val:=by unfold xe;rw[if_pos n0]
  rw[hM] at hT;simp (decide:=true) only [↓vS,vT,simprocAttr,n0,XH];have:=h1 p a hp ha hv;simp only[qi,qF,n0,XH] at this;refine this.sc ?_;simp (decide:=true) only [↓vS,vT,simprocAttr,qi];subst hT;simp[vZ,vP,Tr.get_set,qi,qe,qn,qb,qc]
 by_cases n1:a.key=qaY
 ·have hM:xe p a.key a.val=qI p a.val:=by unfold xe;rw[if_neg n0,if_pos n1]
  rw[hM] at hT;simp (decide:=true) only [↓vS,vT,simprocAttr,n1,qaY];have:=h2 p a hp hf hR hv;simp only[qi,qF,n1,qaY] at this;refine this.sc ?_;simp (decide:=true) only [↓vS,vT,simprocAttr,qi];subst hT;simp[vZ,vP,Tr.get_set,qi,qe,qn,qb,qc]
 by_cases n2:a.key=kSp
 ·have hM:xe p a.key a.val=qy p a.val:=by unfold xe;rw[if_neg n0,if_neg n1,if_pos n2]
  rw[hM] at hT;simp (decide:=true) only [↓vS,vT,simprocAttr,n2,kSp];have:=h3 p a hv;simp only[qi,qF,n2,kSp] at this;refine this.sc ?_;simp (decide:=true) only [↓vS,vT,simprocAttr,qi];subst hT;simp[vZ,vP,Tr.get_set,qi,qe,qn,qb,qc]
 have n0':¬a.key=[83,121,115,116,101,109,67,97,108,108,65,114,99,104,105,116,101,99,116,117,114,101,115]:=n0;have n1':¬a.key=[82,101,115,116,114,105,99,116,65,100,100,114,101,115,115,70,97,109,105,108,105,101,115]:=n1;have n2':¬a.key=[82,101,115,116,114,105,99,116,78,97,109,101,115,112,97,99,101,115]:=n2;simp (decide:=true) only [↓vS,vT,simprocAttr,n0',n1',n2'];refine (h4 a.key).sc ?_;cases hfl:Za a.key with
 | false =>
  have hM:xe p a.key a.val=(p,[]):=by
   simp only[Za,Bool.or_eq_false_iff,decide_eq_false_iff_not] at hfl;unfold xe;rw[if_neg n0,if_neg n1,if_neg n2,if_neg hfl.1.1.1,if_neg hfl.1.1.2,if_neg hfl.1.2,if_neg hfl.2]
  rw[hM] at hT;simp (decide:=true) only [↓vS,vT,simprocAttr,n0',n1',n2'];subst hT;simp[vZ,vP,Tr.get_set,qi,qe,qn,qb,qc,vh]
 | true =>
  simp (decide:=true) only [↓vS,vT,simprocAttr,n0',n1',n2'];refine (h5 a.val).sc ?_;rcases qfM a.val with⟨y,e,hs⟩|⟨e,⟨hv0,hs⟩|⟨hv0,hs⟩⟩
  ·have main:=fun {t' h'}=>qfp (P:=P) (g1:=g1) (g2:=g2) (g3:=g3) (g4:=g4) (g5:=g5) (g6:=g6) p a y hfl hs (t':=t') (h':=h')
   rw[hT] at main;rw[e];simp (decide:=true) only [↓vS,vT,simprocAttr];refine main (Wk.mk _ _ [0,1,2] ?_ ?_ ?_ rfl)
   ·simp[vw]
   ·simp[vw,qT,qi,qF,qa,qe,qc]
   ·simp
  ·have main:=fun {t' h'}=>qfp (P:=P) (g1:=g1) (g2:=g2) (g3:=g3) (g4:=g4) (g5:=g5) (g6:=g6) p a false hfl hs (t':=t') (h':=h')
   rw[hT] at main;rw[e];simp (decide:=true) only [↓vS,vT,simprocAttr,hv0];refine main (Wk.mk _ _ [0,1,2] ?_ ?_ ?_ rfl)
   ·simp[vw]
   ·simp[vw,qT,qi,qF,qa,qe,qc,hv0]
   ·simp
  ·rw[qmj hfl hs] at hT;rw[e];simp (decide:=true) only [↓vS,vT,simprocAttr,hv0];refine qW ?_;simp (decide:=true) only [↓vS,vT,simprocAttr];have:=h6 a 150 a.val;simp only[qF] at this;refine this.pc ?_;simp (decide:=true) only [↓vS,vT,simprocAttr,wS,qm];subst hT;simp[vZ,vP,Tr.get_set,qi,qe,qn,qb,qc,qes,qm];refine Frz.cut 4 rfl (Nat.le_refl _) ?_;simp[vP,Tr.get_set,vZ]
end Go.Kc
end
section
/- What the document's Resolve answers, and the law PolicyResolves. Condition: the functions' texts are these. -/
namespace Go.Kc
variable {P:Program} {f:Nat} {E:List UInt8->List (List UInt8)×Int}
theorem PI.rng{p:Pol}(h:PI p):Rg p.fams:=by
 intro x hx;have:=qdc (h.may.fr x hx);have hall:∀y ∈ qu.map (·.2),0<=y∧y<4294967296:=by decide
 exact hall x this
def w7(a:Nat):IFn:=⟨[.tmp 2],.seq (.r [.m 2 .F]) (.seq (.seq (.r [.m 3 (.k 0)]) (.blk 0 (.loop (.seq (.seq (.r [.n 4 3,.n 5 0,.e 6 5,.s 7 4 6]) (.cond (.t 7) (.skip) (.exit 0))) (.seq (.blk 1 (.seq (.r [.n 10 0,.n 11 3,.i 12 4 10 11,.f 13 2 12,.d 14 13,.l 15 a [.t 14],.q 16 (.un .not (.t 15))]) (.cond (.t 16) (.seq (.r [.m 2 .T]) (.ret)) (.skip)))) (.r [.n 8 3,.a 9 8 1,.n 3 9])))))) (.seq (.r [.m 2 .F]) (.ret)))⟩
theorem qrp{g:Nat}(hc:qk P f (w7 g)=true)(hg:∀x,qd P g [.i .i64 x] (.b (kP x)))(l:List GNote)(hl:l.length<=qf):qd P f [.fz l.length (rN l)] (.b (xG l)):=by
 refine qd.mk hc (by simp[qx,clo,qb]) ?_;simp only[w7,vI,simprocAttr];simp only[↓vS,vT,simprocAttr];refine SL.loop (α:=Nat) (fun j=>[(0,.fz l.length (rN l)),(3,.i .i64 j)]) (fun _=>[]) (fun j=>j<=l.length∧xG l=xG (l.drop j)) (fun j=>l.length-j) 0 [] ?_ ?_ ?_ rfl ?_ ?_
 ·simp[vw,qb]
 ·trivial
 ·simp
 ·exact⟨Nat.zero_le _,rfl⟩
 rintro j ⟨hj,hI⟩ G ih;simp only[vI,simprocAttr]
 by_cases hlt:j<l.length
 ·have hx:l[j]?=some l[j]:=List.getElem?_eq_getElem hlt;have hw:IntKind.wrap .i64 ((j:Int)+1)=((j+1:Nat):Int):=by rw[qq (by omega) (by have:=hl;simp only[qf] at this;omega)];omega
  have g2:(rN l)[j*4+2]?=some (.i .i64 l[j].err):=qer hx (i:=2) (by decide);rw[List.drop_eq_getElem_cons hlt] at hI;generalize l[j]=n at hI g2;have e:xG (n::l.drop (j+1))=(!kP n.err||xG (l.drop (j+1))):=rfl
  rw[e] at hI;simp (decide:=true) only [↓vS,vT,simprocAttr,hlt,g2];refine (hg n.err).sc ?_;cases hwn:kP n.err with
  | true =>
   rw[hwn] at hI;simp (decide:=true) only [↓vS,vT,simprocAttr,hw];refine ih (j+1) ⟨by omega,by simpa using hI⟩ (by omega) _ _ (Wk.mk _ _ [] ?_ ?_ ?_ rfl)
   ·simp[vw,qb]
   ·trivial
   ·simp
  | false =>
   rw[hwn] at hI;simp (decide:=true) only [↓vS,vT,simprocAttr];simp[vZ,hI]
 ·rw[List.drop_eq_nil_of_le (by omega)] at hI;have e:xG l=false:=by rw[hI];rfl
  simp only[↓vS,vT,simprocAttr,hlt];simp[vZ,e]
def qeU(E:List UInt8->List (List UInt8)×Int)(P:Program)(f:Nat):Prop:=∀(p:Pol) (a:Asg),PI p->a.val.length<=1000->
 qd P f [.agg (qi p),.agg (qF a)] (.tup [.agg (qi (doM E p a).1),.fz (doM E p a).2.length (rN (doM E p a).2)])
def x6(a b c d e:Nat):ICode:=.seq (.reg true [.v 30 13 2,.f 31 0 3,.d 32 31,.f 33 1 3,.d 34 33,.n 35 6,.l 36 e [.t 35],.q 37 (.build [.s [],.i .i64 0,.i .i64 0,.s []] [(0,1,(.t 32)),(1,1,(.t 34)),(2,1,(.k 100)),(3,1,(.t 36))]),.q 38 (.buildS 1 [.s [],.i .i64 0,.i .i64 0,.s []] [(0,4,(.t 37))]),.u (.storeD 13 (.t 4) (.t 30) [31,33]),.n 5 38]) (.ret)
def ku(a b c d e:Nat):IFn:=⟨[.cell 4 13 true,.tmp 5],.seq (.r [.q 2 (.box (.t 0)),.q 3 (.box (.t 1)),.q 4 (.alloc [.nils,.i .u8 0,.nils,.i .u32 0,.i .u8 0,.nils,.nils,.i .u8 0,.i .u64 0,.b false,.b false,.b false,.b false]),.m 5 .N]) (.seq (.r [.f 7 2 3,.d 8 7,.n 6 8]) (.seq (.seq (.r [.f 9 2 3,.d 10 9,.q 11 (.bin .eql (.t 10) (.c (.s [83,101,114,118,105,99,101])))]) (.cond (.t 11) (.seq (.seq (.r [.f 12 3 3,.d 13 12,.l 14 a [.t 13]]) (.cond (.t 14) (.seq (.r [.v 15 13 2,.v 16 5 3,.l 17 b [.t 15,.t 16],.x 18 17 0,.x 19 17 1,.u (.store 13 (.t 4) (.t 18)),.n 5 19]) (.ret)) (.skip))) (.seq (.seq (.r [.f 20 3 3,.d 21 20,.l 22 c [.t 21]]) (.cond (.t 22) (.seq (.r [.v 23 13 2,.v 24 5 3,.l 25 d [.t 23,.t 24],.x 26 25 0,.x 27 25 1,.u (.store 13 (.t 4) (.t 26)),.n 5 27]) (.ret)) (.skip))) (.r [.f 28 3 3,.d 29 28,.n 6 29]))) (.skip))) (.cut (x6 a b c d e))))⟩
theorem qcc{g1 g2 g3 g4 g5:Nat}(h5:∀s,qd P g5 [.s s] (.s (s.take 60)))(p:Pol)(a:Asg)(u:List UInt8){t':Tr AV}{h':Hp}(hw:Wk 0 t' h' (mkT [(2,.ptr 0 0),(3,.ptr 1 0),(4,.ptr 2 0),(6,.s u)]) (mkH 0 [.cells 0 true false (qi p),.cells 0 true false (qF a),.cells 0 true false qT])) :
  S P 0 (x6 g1 g2 g3 g4 g5) (xg [.cell 4 13 true,.tmp 5] fun v' h'=>Frz h' v' (.tup [.agg (qi p),.fz 1 (rN [yv a u])])) t' h':=by
 refine S.weak hw (qr ?_);have e:rN [yv a u]=[AV.s a.file,.i .i64 a.line,.i .i64 100,.s (u.take 60)]:=rfl;rw[e];simp only[x6,qi,qF,qT,vI,simprocAttr];refine qW ?_;simp (decide:=true) only [↓vS,vT,simprocAttr];refine (h5 u).pc ?_;simp (decide:=true) only [↓vS,vT,simprocAttr];simp[vZ,vP,Tr.get_set,qi,qe,qn,qb,qc];refine Frz.cut 4 rfl (Nat.le_refl _) ?_;simp[vP,Tr.get_set,vZ]
theorem qtF{g1 g2 g3 g4 g5:Nat}(hc:qk P f (ku g1 g2 g3 g4 g5)=true)(h1:∀k,qd P g1 [.s k] (.b (Jd k)))(h2:qmG E P g2)(h3:∀k,qd P g3 [.s k] (.b (qbE k)))(h4:qhD P g4)(h5:∀s,qd P g5 [.s s] (.s (s.take 60))):qeU E P f:=by
 intro p a hp hv;refine qd.mk hc rfl ?_;generalize hT:AV.tup [.agg (qi (doM E p a).1),.fz (doM E p a).2.length (rN (doM E p a).2)]=tgt;simp only[ku,qi,qF,vI,simprocAttr]
 by_cases n0:a.sec=qa0
 ·have n0':a.sec=[83,101,114,118,105,99,101]:=n0;simp (decide:=true) only [↓vS,vT,simprocAttr,n0',ne_eq,not_true_eq_false];refine (h1 a.key).sc ?_;cases k1:Jd a.key with
  | true =>
   have hM:doM E p a=((jw E p a.key a.val).1,(jw E p a.key a.val).2.map (z0 a)):=by unfold doM;rw[if_neg (by simp[n0]),if_pos k1]
   subst hT;rw[hM];simp (decide:=true) only [↓vS,vT,simprocAttr];have:=h2 p a hp.ok ⟨hp.f0,hp.l0⟩ (qcC hp.may.fil) (qcC hp.may.log) hv;simp only[qi,qF,n0'] at this;refine this.sc ?_;simp (decide:=true) only [↓vS,vT,simprocAttr,qi];simp[vZ,vP,Tr.get_set,qi,qe,qn,qb,qc]
  | false =>
   simp (decide:=true) only [↓vS,vT,simprocAttr];refine (h3 a.key).sc ?_;cases k2:qbE a.key with
   | true =>
    have hM:doM E p a=((xe p a.key a.val).1,(xe p a.key a.val).2.map (qm a)):=by unfold doM;rw[if_neg (by simp[n0]),if_neg (by simp[k1]),if_pos k2]
    subst hT;rw[hM];simp (decide:=true) only [↓vS,vT,simprocAttr];have:=h4 p a hp.ok hp.may.ap hp.may.fp hp.rng hv;simp only[qi,qF,n0'] at this;refine this.sc ?_;simp (decide:=true) only [↓vS,vT,simprocAttr,qi];simp[vZ,vP,Tr.get_set,qi,qe,qn,qb,qc]
   | false =>
    have hM:doM E p a=(p,[yv a a.key]):=by unfold doM;rw[if_neg (by simp[n0]),if_neg (by simp[k1]),if_neg (by simp[k2])];rfl
    subst hT;rw[hM];simp (decide:=true) only [↓vS,vT,simprocAttr];refine qcc h5 p a a.key (Wk.mk _ _ [0,1,2] ?_ ?_ ?_ rfl)
    ·simp[vw]
    ·simp[vw,qi,qF,qT,qa,qe,qc,n0']
     try decide
    ·simp
 ·have n0':¬a.sec=[83,101,114,118,105,99,101]:=n0;have hM:doM E p a=(p,[yv a a.sec]):=by unfold doM;rw[if_pos n0];rfl
  subst hT;rw[hM];simp (decide:=true) only [↓vS,vT,simprocAttr,n0',ne_eq,not_false_eq_true];refine qcc h5 p a a.sec (Wk.mk _ _ [0,1,2] ?_ ?_ ?_ rfl)
  ·simp[vw]
  ·simp[vw,qi,qF,qT,qa,qe,qc]
   try decide
  ·simp
def xz(a b:Nat):ICode:=.seq (.seq (.r [.n 29 5,.l 30 b [.t 29]]) (.cond (.t 30) (.seq (.r [.q 31 (.build [.nils,.i .u8 0,.nils,.i .u32 0,.i .u8 0,.nils,.nils,.i .u8 0,.i .u64 0,.b false,.b false,.b false,.b false] []),.n 32 5,.u (.store 13 (.t 2) (.t 31)),.n 3 32]) (.ret)) (.skip))) (.seq (.r [.v 33 13 4,.n 34 5,.u (.store 13 (.t 2) (.t 33)),.n 3 34]) (.ret))
def wL(a b:Nat):IFn:=⟨[.cell 2 13 true,.tmp 3],.seq (.r [.q 2 (.alloc [.nils,.i .u8 0,.nils,.i .u32 0,.i .u8 0,.nils,.nils,.i .u8 0,.i .u64 0,.b false,.b false,.b false,.b false]),.m 3 .N]) (.seq (.r [.q 9 (.build [.nils,.i .u8 0,.nils,.i .u32 0,.i .u8 0,.nils,.nils,.i .u8 0,.i .u64 0,.b false,.b false,.b false,.b false] [(3,1,(.c (.i .u32 2147483648)))]),.q 4 (.alloc [.nils,.i .u8 0,.nils,.i .u32 0,.i .u8 0,.nils,.nils,.i .u8 0,.i .u64 0,.b false,.b false,.b false,.b false]),.u (.store 13 (.t 4) (.t 9))]) (.seq (.r [.m 5 .N]) (.seq (.seq (.r [.m 6 (.k 0)]) (.blk 0 (.loop (.seq (.seq (.r [.n 10 6,.n 11 0,.e 12 11,.s 13 10 12]) (.cond (.t 13) (.skip) (.exit 0))) (.seq (.blk 1 (.seq (.reg true [.v 17 13 4,.n 18 0,.n 19 6,.i 20 5 18 19,.v 21 5 20,.l 22 a [.t 17,.t 21],.n 16 22,.x 23 16 0,.x 24 16 1,.q 7 (.alloc [.nils,.i .u8 0,.nils,.i .u32 0,.i .u8 0,.nils,.nils,.i .u8 0,.i .u64 0,.b false,.b false,.b false,.b false]),.u (.store 13 (.t 7) (.t 23)),.n 8 24]) (.seq (.r [.v 25 13 7,.u (.store 13 (.t 4) (.t 25))]) (.r [.n 26 5,.n 27 8,.q 28 (.app 4 48 true (.t 26) (.t 27)),.n 5 28])))) (.r [.n 14 6,.a 15 14 1,.n 6 15])))))) (.cut (xz a b)))))⟩
theorem qjw{g1 g2:Nat}(h3:∀l:List GNote,l.length<=qf->qd P g2 [.fz l.length (rN l)] (.b (xG l)))(l:List Asg)(p:Pol)(ns:List GNote)(hns:ns.length<=100000)(hl:Zb E l=(p,ns)){t':Tr AV}{h':Hp}
  (hw:Wk 0 t' h' (mkT [(2,.ptr 0 0),(4,.ptr 1 0),(5,.fz ns.length (rN ns))]) (mkH 0 [.cells 0 true false qT,.cells 0 true false (qi p)])) :
  S P 0 (xz g1 g2) (xg [.cell 2 13 true,.tmp 3] fun v' h'=>Frz h' v' (.tup [.agg (qi (Qv E l).1),.fz (Qv E l).2.length (rN (Qv E l).2)])) t' h':=by
 refine S.weak hw (qr ?_);simp only[xz,qi,qT,vI,simprocAttr];simp only[↓vS,vT,simprocAttr];refine (h3 ns (by simp only[qf];omega)).sc ?_;cases k:xG ns with
 | true =>
  have e:Qv E l=(vg,ns):=by unfold Qv;rw[hl,if_pos k]
  rw[e];simp (decide:=true) only [↓vS,vT,simprocAttr];simp[vZ,vP,Tr.get_set,qi,vg,rI,rC,qn,qb]
 | false =>
  have e:Qv E l=(p,ns):=by unfold Qv;rw[hl,if_neg (by simp[k])]
  rw[e];simp (decide:=true) only [↓vS,vT,simprocAttr];simp[vZ,vP,Tr.get_set,qi,qe,qn,qb,qc]
theorem qtS{g1 g2:Nat}(hE:wQ E)(hc:qk P f (wL g1 g2)=true)(h2:qeU E P g1)(h3:∀l:List GNote,l.length<=qf->qd P g2 [.fz l.length (rN l)] (.b (xG l))):qfP E P f:=by
 intro l hl hv;refine qd.mk hc (by simp[qx,clo,jy]) ?_;simp only[wL,vI,simprocAttr];simp (decide:=true) only [↓vS,vT,simprocAttr]
 refine SL.loop (α:=Nat) (fun j=>[(0,.fz l.length (rA l)),(2,.ptr 0 0),(4,.ptr 1 0),(5,.own 2 (jV E l j).2.length),(6,.i .i64 j)])
  (fun j=>[.cells 0 true false qT,.cells 0 true false (qi (jV E l j).1),.cells 4 true true (rN (jV E l j).2)]) (fun j=>j<=l.length) (fun j=>l.length-j) 0 [0,1,99] ?_ ?_ ?_ rfl ?_ ?_
 ·simp[vw,jy,jV]
 ·simp[vw,qT,qi,jV,Wp,vg,rI,rC,rN,qa]
  try decide
 ·simp
 ·exact Nat.zero_le _
 rintro j hj G ih;have hinv:PI (jV E l j).1:=qah hE _ _ PI.new
 have hlen:(jV E l j).2.length<=1001*j:=by
  have:=qai E (l.take j) (Wp,[]) fun a ha=>hv a (List.mem_of_mem_take ha)
  simp at this;unfold jV;have h2:min j l.length<=j:=Nat.min_le_left _ _;have:=Nat.le_trans this (Nat.mul_le_mul_left 1001 h2);simpa using this
 simp only[vI,simprocAttr,qT]
 by_cases hlt:j<l.length
 ·have hx:l[j]?=some l[j]:=List.getElem?_eq_getElem hlt;have hw:IntKind.wrap .i64 ((j:Int)+1)=((j+1:Nat):Int):=by rw[qq (by omega) (by omega)];omega
  have he:=qar hx;have hb:=Ws hlt;have hva:=hv _ (List.getElem_mem hlt);have hnext:=qaP (E:=E) hx;have ih2:=ih (j+1);rw[hnext] at ih2;generalize jV E l j=s at hinv hlen ih2;obtain⟨p,ns⟩:=s;dsimp only at hinv hlen ih2 ⊢;generalize l[j]=a at he hva ih2;have hdl:=qcs E p a;simp only[doS] at ih2;have hr1:ns.length+(doM E p a).2.length<=qf:=by simp only[qf];omega
  have hr2:(ns.length+(doM E p a).2.length)*48<=qf:=by simp only[qf];omega
  simp (decide:=true) only [↓vS,vT,simprocAttr,hlt,qi];refine qW ?_;simp (decide:=true) only [↓vS,vT,simprocAttr,hlt,he,hb,qF,qi];have:=h2 p a hinv hva;simp only[qi,qF] at this;refine this.pc ?_;generalize doM E p a=r at ih2 hdl hr1 hr2;obtain⟨q,new⟩:=r;dsimp only at ih2 hdl hr1 hr2 ⊢;have htk:(rN new).take (new.length*4)=rN new:=List.take_of_length_le (by rw[jq];omega);have hap:rN ns++rN new=rN (ns++new):=yd;have hla:ns.length+new.length=(ns++new).length:=by simp
  simp (decide:=true) only [↓vS,vT,simprocAttr,qi,hr1,hr2,htk,qm4,jq,hap,hw];refine ih2 (by omega) (by omega) _ _ (Wk.mk _ _ [0,1,4] ?_ ?_ ?_ rfl)
  ·simp[vw,jy]
  ·simp[vw,qT,qi,qa,qe,qc,qb]
   try decide
  ·simp
 ·have hj':j=l.length:=by omega
  subst hj';have e:jV E l l.length=Zb E l:=by unfold jV Zb;rw[List.take_length]
  rw[e] at hlen ⊢;generalize hp:Zb E l=s at hlen;obtain⟨p,ns⟩:=s;dsimp only at hlen ⊢;clear ih;simp only[↓vS,vT,simprocAttr,hlt,qi];refine S.weak (Wk.mk [(2,.ptr 0 0),(4,.ptr 1 0),(5,.own 2 ns.length)] [.cells 0 true false qT,.cells 0 true false (qi p),.cells 4 true true (rN ns)] [0,1,2] ?_ ?_ ?_ rfl) ?_
  ·simp[vw]
  ·simp[vw,qT,qi,qa,qe,qc,qb]
   try decide
  ·simp
  refine S.weak (Wk.freeze 2 4 4 rfl qb (Nat.zero_le _) (by simp)) ?_;refine qjw h3 l p ns (by omega) hp (Wk.mk _ _ [0,1] ?_ ?_ ?_ rfl)
  ·simp[vw,mkT,fzv,jT]
   try (intro h0;rw[h0];rfl)
  ·simp[vw,mkH,trL,fzB,jT,fzv,qi,qT,qa,qe,qc]
   try decide
  ·simp[mkH]
theorem qmd(hE:wQ E)(l:List Asg):PolOk (Qv E l).1:=by
 unfold Qv;split
 ·exact⟨by simp[vg],by simp[vg],by simp[vg],by simp[vg]⟩
 ·exact (qah hE l _ PI.new).ok
theorem qew(l:List Asg)(hl:l.length<=60)(hv:∀a ∈ l,a.val.length<=1000):(Qv E l).2.length<=100000:=by
 have h2:(Qv E l).2=(Zb E l).2:=by unfold Qv;split<;>rfl
 have h3:=qai E l (Wp,[]) hv;rw[h2];unfold Zb;simp at h3;omega
def zJ(a b c d e g h i:Nat):ICode:=.seq (.r [.n 15 3,.l 16 b [.t 15],.n 14 16,.x 17 14 0,.x 18 14 1,.q 4 (.alloc [.nils,.i .u8 0,.nils,.i .u32 0,.i .u8 0,.nils,.nils,.i .u8 0,.i .u64 0,.b false,.b false,.b false,.b false]),.u (.store 13 (.t 4) (.t 17)),.n 5 18]) (.seq (.r [.n 20 0,.l 21 c [.t 20],.n 19 21,.x 22 19 0,.x 23 19 1,.q 6 (.alloc [.nils,.i .u8 0,.nils,.i .u32 0,.i .u8 0,.nils,.nils,.i .u8 0,.i .u64 0,.b false,.b false,.b false,.b false]),.u (.store 13 (.t 6) (.t 22)),.n 7 23]) (.seq (.seq (.r [.m 8 (.k 0)]) (.blk 0 (.loop (.seq (.seq (.r [.n 24 8,.n 25 0,.e 26 25,.s 27 24 26]) (.cond (.t 27) (.skip) (.exit 0))) (.seq (.blk 1 (.seq (.reg true [.n 30 3,.n 31 8,.i 32 5 30 31,.v 33 5 32,.n 34 0,.n 35 8,.i 36 5 34 35,.v 37 5 36,.q 38 (.eqA true [.s,.i,.s,.s,.s] (.t 33) (.t 37))]) (.cond (.t 38) (.seq (.r [.m 2 .F]) (.ret)) (.skip)))) (.r [.n 28 8,.a 29 28 1,.n 8 29])))))) (.seq (.r [.v 39 13 4,.v 40 13 6,.l 41 d [.t 39,.t 40],.n 42 41,.y 43 5 42,.y 44 7 42,⟨(some 45),.callF e [.t 43,.t 44],(some (42,true))⟩,.p 46 42 45,.n 47 46,.y 48 5 47,⟨(some 49),.callF g [.t 48],(some (47,true))⟩,.y 50 7 47,⟨(some 51),.callF h [.t 50],(some (47,true))⟩,.g 52 (.eqB false (.t 49) (.t 51)) 47 true,.p 53 47 52,.n 54 53,⟨(some 55),.callF i [],(some (54,true))⟩,.p 56 54 55,.n 2 56]) (.ret))))
def je(a b c d e g h i:Nat):IFn:=⟨[.tmp 2],.seq (.r [.m 2 .F]) (.seq (.seq (.r [.n 9 0,.l 10 a [.t 9]]) (.cond (.t 10) (.seq (.r [.m 2 .T]) (.ret)) (.skip))) (.seq (.r [.q 11 (.buildS 0 [.s [],.i .i64 0,.s [],.s [],.s []] []),.n 12 0,.q 13 (.app 5 72 true (.t 11) (.t 12)),.n 3 13]) (.cut (zJ a b c d e g h i))))⟩
section
variable {g1 g2 g3 g4 g5 g6 g7 g8:Nat}
theorem qfg(hE:wQ E)(h2:qfP E P g2)(h3:qfP E P g3)(h4:∀p,PolOk p->qd P g4 [.agg (qi p),.agg (qi p)] (.b true))(h5:qeQ P g5)(h6:∀l:List GNote,l.length<=qf->qd P g6 [.fz l.length (rN l)] (.b (xG l)))(h7:∀l:List GNote,l.length<=qf->qd P g7 [.fz l.length (rN l)] (.b (xG l)))
  (h8:qd P g8 [] (.b true)) (l:List Asg) (hl:l.length<=60) (hv:∀a ∈ l,a.val.length<=1000) {t':Tr AV} {h':Hp}
  (hw:Wk 0 t' h' (mkT [(0,.fz l.length (rA l)),(3,.fz l.length (rA l))]) (mkH 0 [])) :
  S P 0 (zJ g1 g2 g3 g4 g5 g6 g7 g8) (xg [.tmp 2] fun v' h'=>Frz h' v' (.b true)) t' h':=by
 refine S.weak hw (qr ?_);have c2:=h2 l (by omega) hv;have c3:=h3 l (by omega) hv;have hok:=qmd hE l;have hns:=qew (E:=E) l hl hv;generalize Qv E l=s at c2 c3 hok hns;obtain⟨p,ns⟩:=s;dsimp only at c2 c3 hok hns;simp only[zJ,vI,simprocAttr];simp only[↓vS,vT,simprocAttr];refine c2.sc ?_;simp (decide:=true) only [↓vS,vT,simprocAttr,qi];refine c3.sc ?_;simp (decide:=true) only [↓vS,vT,simprocAttr,qi]
 refine SL.loop (α:=Nat) (fun j=>[(0,.fz l.length (rA l)),(3,.fz l.length (rA l)),(4,.ptr 0 0),(5,.fz ns.length (rN ns)),(6,.ptr 1 0),(7,.fz ns.length (rN ns)),(8,.i .i64 j)])
  (fun _=>[.cells 0 true false (qi p),.cells 0 true false (qi p)]) (fun j=>j<=l.length) (fun j=>l.length-j) 0 [0,1] ?_ ?_ ?_ rfl ?_ ?_
 ·simp[vw,jy,qb]
 ·simp[vw,qi,qa,qe,qc]
 ·simp
 ·exact Nat.zero_le _
 rintro j hj G ih;simp only[vI,simprocAttr,qi]
 by_cases hlt:j<l.length
 ·have hx:l[j]?=some l[j]:=List.getElem?_eq_getElem hlt;have hw:IntKind.wrap .i64 ((j:Int)+1)=((j+1:Nat):Int):=by rw[qq (by omega) (by omega)];omega
  have he:=qar hx;have hb:=Ws hlt;have ih2:=ih (j+1);generalize l[j]=a at he;simp (decide:=true) only [↓vS,vT,simprocAttr,hlt];refine qW ?_;simp (decide:=true) only [↓vS,vT,simprocAttr,hlt,he,hb,qF];simp (decide:=true) only [↓vS,vT,simprocAttr,beq_self_eq_true,hw];refine ih2 (by omega) (by omega) _ _ (Wk.mk _ _ [0,1] ?_ ?_ ?_ rfl)
  ·simp[vw,jy,qb]
  ·simp[vw,qi,qa,qe,qc]
  ·simp
 ·clear ih;simp only[↓vS,vT,simprocAttr,hlt];have:=h4 p hok;simp only[qi] at this;refine this.sc ?_;simp (decide:=true) only [↓vS,vT,simprocAttr];refine (h5 ns hns).sc ?_;simp (decide:=true) only [↓vS,vT,simprocAttr];refine (h6 ns (by simp only[qf];omega)).sc ?_;simp (decide:=true) only [↓vS,vT,simprocAttr];refine (h7 ns (by simp only[qf];omega)).sc ?_;simp (decide:=true) only [↓vS,vT,simprocAttr,beq_self_eq_true];refine h8.sc ?_;simp (decide:=true) only [↓vS,vT,simprocAttr];simp[vZ]
theorem policyResolves(hE:wQ E)(hc:qk P f (je g1 g2 g3 g4 g5 g6 g7 g8)=true)(h1:∀l:List Asg,qd P g1 [.fz l.length (rA l)] (.b (wD l)))(h2:qfP E P g2)(h3:qfP E P g3)(h4:∀p,PolOk p->qd P g4 [.agg (qi p),.agg (qi p)] (.b true))(h5:qeQ P g5)(h6:∀l:List GNote,l.length<=qf->qd P g6 [.fz l.length (rN l)] (.b (xG l)))(h7:∀l:List GNote,l.length<=qf->qd P g7 [.fz l.length (rN l)] (.b (xG l)))
  (h8:qd P g8 [] (.b true)) (l:List Asg):qd P f [.fz l.length (rA l)] (.b true):=by
 refine qd.mk hc (by simp[qx,clo,jy]) ?_;simp only[je,vI,simprocAttr];simp only[↓vS,vT,simprocAttr];refine (h1 l).sc ?_;cases hG:wD l with
 | true =>
  simp (decide:=true) only [↓vS,vT,simprocAttr];simp[vZ]
 | false =>
  obtain⟨hl,hv,_⟩:=qee hG
  by_cases h0:l.length=0
  ·have hnil:l=[]:=List.eq_nil_of_length_eq_zero h0;subst hnil;have e:rA []=[]:=rfl;simp (decide:=true) only [↓vS,vT,simprocAttr,e,List.length_nil];refine S.weak (Wk.mk [(0,.fz 0 []),(3,.sl 0 0 0 0 false)] [.cells 0 true false []] [0] ?_ ?_ ?_ rfl) ?_
   ·simp[vw,e]
   ·simp[vw]
   ·simp
   refine S.weak (Wk.freeze 0 5 0 rfl rfl (Nat.zero_le _) (by simp)) ?_;refine qfg hE h2 h3 h4 h5 h6 h7 h8 [] (by simp) (by simp) (Wk.mk _ _ [] ?_ ?_ ?_ rfl)
   ·simp[vw,mkT,fzv,jT,rA]
   ·simp[vw,mkH,trL,fzB,jT,fzv]
   ·simp[mkH]
  ·have hz:¬l.length<=0:=by omega
   have hlr:(rA l).length=l.length*5:=qjo;have e5:(rA l).take (l.length*5)=rA l:=List.take_of_length_le (by omega);have hr1:l.length<=qf:=by simp only[qf];omega
   have hr2:l.length*72<=qf:=by simp only[qf];omega
   simp (decide:=true) only [↓vS,vT,simprocAttr,h0,hz,Nat.le_refl,hlr,e5,hr1,hr2,qr8,List.drop_zero];refine S.weak (Wk.mk [(0,.fz l.length (rA l)),(3,.own 0 l.length)] [.cells 5 true true (rA l)] [1] ?_ ?_ ?_ rfl) ?_
   ·simp[vw,jy]
   ·simp[vw,qa,jy]
   ·simp
   refine S.weak (Wk.freeze 0 5 5 rfl jy (Nat.zero_le _) (by simp)) ?_;refine qfg hE h2 h3 h4 h5 h6 h7 h8 l hl hv (Wk.mk _ _ [] ?_ ?_ ?_ rfl)
   ·simp[vw,mkT,fzv,jT,jy,h0]
   ·simp[vw,mkH,trL,fzB,jT,fzv]
   ·simp[mkH]
end
end Go.Kc
end
