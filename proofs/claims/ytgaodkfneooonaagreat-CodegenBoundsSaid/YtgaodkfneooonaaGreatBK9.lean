/- Part 9 of the abstract machine and of the functions' walks. Conditions: with each theorem. -/
import Derived.Test.YtgaodkfneooonaaGreatBK8
set_option maxHeartbeats 4000000
set_option linter.unusedSectionVars false
set_option linter.unusedSimpArgs false
set_option linter.unusedVariables false
set_option linter.unnecessarySimpa false
section
namespace Go.Kc
variable {P:Program} {f:Nat}
structure Nd where
 leaf:Bool
 way:Nat
 at':Int
 less:Nat
 more:Nat
def cNd(n:Nd):List AV:=[.b n.leaf,.i .i64 (n.way:Int),.i .u32 n.at',.i .i64 (n.less:Int),.i .i64 (n.more:Int)]
theorem qi3(n:Nd):(cNd n).length=5:=rfl
def rNd(l:List Nd):List AV:=l.flatMap cNd
theorem qjh{l:List Nd}:(rNd l).length=l.length*5:=zl qi3 l
def z9(T:List Nd):Nat:=T.countP fun n=>!n.leaf
def plc(FW:Nat->Nat)(T:List Nd)(b i:Nat):Nat:=match T[i]? with|some n=>if n.leaf=true then FW n.way else b+z9 (T.take i)|none=>0
def qih(FW:Nat->Nat)(T:List Nd)(b:Nat)(n:Nd):List Sy:=if n.leaf=true then [] else [⟨53,n.at',plc FW T b n.more,plc FW T b n.less⟩]
def brE(FW:Nat->Nat)(T:List Nd)(b:Nat)(l:List Nd):List Sy:=l.flatMap (qih FW T b)
theorem qoz{FW:Nat->Nat}{T:List Nd}{b:Nat}{l:List Nd}:(brE FW T b l).length=z9 l:=by
 induction l with
 | nil=>rfl
 | cons n l ih =>
  simp only[brE,List.flatMap_cons,List.length_append,z9,List.countP_cons] at ih ⊢;rw[ih];unfold qih;cases n.leaf<;>simp;omega
def jaE(FW:Nat->Nat):List Nd->List Sy
 | n::_=>if n.leaf=true then [⟨5,0,FW n.way,0⟩] else []
 | []=>[]
def xd(FW:Nat->Nat)(T:List Nd)(p:Nat):List Sy:=jaE FW T++brE FW T (p+(jaE FW T).length) T
structure NdOk (m n:Nat) (x:Nd):Prop where
 way:x.leaf=true->x.way<m
 less:x.less<n
 more:x.more<n
def rPt(l:List Nat):List AV:=l.map fun b=>.ptr b 0
theorem qeK{l:List Nat}{j:Nat}:(rPt l)[j]?=(l[j]?).map fun b=>.ptr b 0:=by simp[rPt]
theorem qeL{l:List Nat}:(rPt l).length=l.length:=by simp[rPt]
section
variable {g w s gl gp gj gh gr g1 g2 g3 g4 g5:Nat} {κ:Nat->Kd} {tr:Tr Blk} {RV:List Sy} {N:List Nat} {k:AV->Hp->Prop}
theorem WI.congr{t2:Tr Blk}(h:WI g w κ s tr RV N)(e:∀b,t2.get b=tr.get b):WI g w κ s t2 RV N:=by
 obtain⟨bl,bt,cs,js,r1,r2,r3,r4,r5,r6,r7,r8,r9⟩:=h.rows;exact⟨h.dom,⟨bl,bt,cs,js,r1,r2,r3,(e w).trans r4,(e bl).trans r5,(e bt).trans r6,r7.mono (fun b hb=>⟨hb,e b⟩) (fun b F p hb=>⟨p,hb⟩) (fun _ _ q=>q),r8,r9⟩,fun b F p hb=>by rw[e b];exact h.lab b F p hb⟩
theorem Stp.congr{L:List Nat}{κ1:Nat->Kd}{s1:Nat}{t1 t2:Tr Blk}(h:Stp L κ s tr κ1 s1 t1)(e:∀b,t2.get b=t1.get b):Stp L κ s tr κ1 s1 t2 :=
 ⟨h.le,fun b hb=>⟨(h.fr b hb).1,(e b).trans (h.fr b hb).2⟩,fun b hb=>⟨(h.box b hb).1,(e b).trans (h.box b hb).2⟩,h.lab,h.nw⟩
theorem qmS{t:Tr Blk}{b:Nat}{x y:Blk}(c:Nat):((t.set b x).set b y).get c=(t.set b y).get c:=by
 simp only[Tr.get_set];split<;>rfl
theorem WI.var(h:WI g w κ s tr RV N)(x y:Blk):WI g w (kdS κ s .fr) (s+1) ((tr.set s x).set s y) RV N∧Stp [] κ s tr (kdS κ s .fr) (s+1) ((tr.set s x).set s y) :=
 ⟨(h.new .fr y (.inr (.inl rfl))).congr qmS,(h.stpNew .fr y (by simp)).congr qmS⟩
theorem Stp.nil{L:List Nat}{κ1:Nat->Kd}{s1:Nat}{t1:Tr Blk}(h:Stp L κ s tr κ1 s1 t1)(hL:∀c,c ∉ L):Stp [] κ s tr κ1 s1 t1 :=
 { h with nw:=fun b F hb=>(h.nw b F hb).imp id fun q=>absurd q (hL b) }
theorem qaG{α:Type}{l:List α}{j:Nat}{x:α}(h:l[j]?=some x):l.take (j+1)=l.take j++[x]:=by rw[List.take_add_one,h];rfl
theorem qnm{T:List Nd}{j:Nat}{x:Nd}(h:T[j]?=some x):((rNd T).drop (j*5)).take 5=cNd x:=zj qi3 h
theorem qwL{T:List Nd}{j:Nat}{x:Nd}(h:T[j]?=some x){i:Nat}(hi:i<5):(rNd T)[j*5+i]?=(cNd x)[i]?:=qb2 qi3 h hi
def xV(a b:Nat):ICode:=.seq (.r [.n 46 1,.e 47 46,.m 48 (.k 0)]) (.blk 2 (.loop (.seq (.r [.s 49 48 47]) (.seq (.cond (.t 49) (.skip) (.exit 2)) (.seq (.blk 3 (.seq (.r [.n 50 48,.i 51 5 46 48,.v 52 5 51,.q 10 (.alloc [.b false,.i .i64 0,.i .u32 0,.i .i64 0,.i .i64 0]),.n 9 50,.u (.store 5 (.t 10) (.t 52))]) (.seq (.r [.f 53 0 10,.d 54 53,.q 55 (.un .not (.t 54))]) (.cond (.t 55) (.seq (.r [.n 56 0,.n 57 6,.n 58 9,.i 59 1 57 58,.d 60 59,.l 61 b [.t 56,.t 60]]) (.reg true [.n 62 0,.f 63 2 10,.d 64 63,.n 65 6,.f 66 4 10,.d 67 66,.i 68 1 65 67,.d 69 68,.n 70 6,.f 71 3 10,.d 72 71,.i 73 1 70 72,.d 74 73,⟨(some 75),.callW a [.t 62,(.c (.i .u16 53)),.t 64,.t 69,.t 74],none⟩])) (.skip))))) (.r [.a 76 48 1,.n 48 76]))))))
def xU(a b:Nat):ICode:=.seq (.seq (.r [.n 37 1,.q 38 (.iAddrS 5 (.t 37) (.k 0)),.f 39 0 38,.d 40 39]) (.cond (.t 40) (.r [.n 41 0,.n 42 6,.q 43 (.iAddrS 1 (.t 42) (.k 0)),.d 44 43,⟨(some 45),.callW a [.t 41,(.c (.i .u16 5)),(.c (.i .u32 0)),.t 44,(.c (.nilp))],none⟩]) (.skip))) (.cut (xV a b))
def qad(a b:Nat):IFn:=⟨[],.seq (.r [.n 11 1,.e 12 11,.q 13 (.mkS 1 8 [.nilp] (.t 12) (.t 12)),.n 6 13]) (.seq (.seq (.r [.n 14 1,.e 15 14,.m 16 (.k 0)]) (.blk 0 (.loop (.seq (.r [.s 17 16 15]) (.seq (.cond (.t 17) (.skip) (.exit 0)) (.seq (.blk 1 (.seq (.r [.n 18 16,.i 19 5 14 16,.v 20 5 19,.q 8 (.alloc [.b false,.i .i64 0,.i .u32 0,.i .i64 0,.i .i64 0]),.n 7 18,.u (.store 5 (.t 8) (.t 20))]) (.seq (.r [.n 21 6,.n 22 7,.q 23 (.build [.i .i64 0] []),.q 24 (.box (.t 23)),.i 25 1 21 22,.u (.store 1 (.t 25) (.t 24))]) (.seq (.r [.f 26 0 8,.d 27 26]) (.cond (.t 27) (.r [.n 28 6,.n 29 7,.n 30 2,.f 31 1 8,.d 32 31,.i 33 1 30 32,.d 34 33,.i 35 1 28 29,.u (.store 1 (.t 35) (.t 34))]) (.skip)))))) (.r [.a 36 16 1,.n 16 36]))))))) (.cut (xU a b)))⟩
theorem qkI{n0 m s1 bp:Nat}{t1:Tr Blk}{κ1:Nat->Kd}{L:List Nat}(W:WFn P g gl gp gj gh gr)(T:List Nd)(hok:∀x ∈ T,NdOk m T.length x)(FW:Nat->Nat)(pl:List Nat)(hpl:pl.length=T.length)
  (h:WI g w κ1 s1 t1 RV N) (st:Stp L κ s tr κ1 s1 t1) (hd:∀b,κ b≠.no->b<s) (hkl:∀(j:Nat) c,pl[j]?=some c->∃p,κ1 c = .lab (plc FW T RV.length j) p)
  (hL:∀c ∈ L,∃(j:Nat) (nd:Nd),T[j]?=some nd∧nd.leaf=false∧pl[j]?=some c) (hnew:∀(j:Nat) c nd,T[j]?=some nd->nd.leaf=false->pl[j]?=some c->s<=c) (hbp:κ1 bp = .fr) (gbp:t1.get bp=some (.cells 0 true false (rPt pl)))
  (hm:RV.length+T.length<=1000000) {t:Tr AV} (ht:Has t [(0,.ptr w 0),(1,.fz T.length (rNd T)),(6,.sl bp 0 T.length T.length false)])
  (hk:∀κ' s' tr',Stp [] κ s tr κ' s' tr'->WI g w κ' s' tr' (RV++brE FW T RV.length T) N->k (.tup []) ⟨s',0,tr'⟩):S P n0 (xV gj gh) (qac [] k) t ⟨s1,0,t1⟩:=by
 refine S.has _ ht (qj ?_);simp only[xV,vI,simprocAttr];simp +decide only[↓vS,vT,simprocAttr]
 refine SL.loopP (α:=Nat) (fun i=>[(0,.ptr w 0),(6,.sl bp 0 T.length T.length false),(46,.fz T.length (rNd T)),(47,.i .i64 (T.length:Int)),(48,.i .i64 (i:Int))])
  (fun i h=>i<=T.length∧∃L' κ' s' tr',h=⟨s',0,tr'⟩∧Stp L' κ s tr κ' s' tr'∧WI g w κ' s' tr' (RV++brE FW T RV.length (T.take i)) N∧(∀(j:Nat) c,pl[j]?=some c->∃p,κ' c = .lab (plc FW T RV.length j) p) ∧
   (∀c ∈ L',∃(j:Nat) (nd:Nd),i<=j∧T[j]?=some nd∧nd.leaf=false∧pl[j]?=some c)∧κ' bp = .fr∧tr'.get bp=some (.cells 0 true false (rPt pl))) (fun i=>T.length-i) ?_ 0 ?_ ?_
 ·rintro i h1 ⟨hi,L',κ',s',tr',rfl,st',w',hkl',hL',hbp',gbp'⟩ G ih;simp only[vI,simprocAttr]
  by_cases hlt:i<T.length
  ·have hlt':(i:Int)<T.length:=by omega
   obtain⟨nd,hnd⟩:∃t,T[i]?=some t:=⟨_,zzE hlt⟩;obtain⟨c,hc⟩:∃t,pl[i]?=some t:=⟨_,zzE (by omega)⟩;have hel:=qnm hnd;have h5:i*5+5<=(rNd T).length:=by rw[qjh];omega
   have hw1:IntKind.wrap .i64 ((i:Int)+1)=((i+1:Nat):Int):=by rw[qq (by omega) (by omega)];simp
   have hbs:bp<s':=w'.dom bp (by rw[hbp'];simp);have hbs':¬bp=s':=by omega
   obtain⟨wv,sv⟩:=w'.var (.cells 0 true false [.b false,.i .i64 0,.i .u32 0,.i .i64 0,.i .i64 0]) (.cells 0 true false (cNd nd));have hbpv:=sv.fr bp hbp';have hklv:∀(j:Nat) c,pl[j]?=some c->∃p,kdS κ' s' .fr c = .lab (plc FW T RV.length j) p:=fun j c hj=>let ⟨p,q⟩:=hkl' j c hj;⟨p,sv.lab c _ p q⟩
   have hok':=hok nd (zzM hnd);have hge:(rPt pl)[i]?=some (.ptr c 0):=by rw[qeK,hc];rfl
   have hts:=qaG hnd;cases hl:nd.leaf with
   | true =>
    simp +decide only[↓vS,vT,simprocAttr,hlt',hlt,h5,hel,cNd,hl,hw1];refine ih (i+1) _ _ (by omega) ?_ ⟨by omega,L',kdS κ' s' .fr,s'+1,_,rfl,?_,?_,hklv,?_,hbpv.1,?_⟩
    ·simp[qf,qi,Tr.get_set]
    ·have:=st'.trans sv;simp only[cNd,hl,List.append_nil] at this;exact this
    ·rw[hts];have:brE FW T RV.length (T.take i++[nd])=brE FW T RV.length (T.take i):=by simp[brE,qih,hl]
     rw[this];simp only[cNd,hl] at wv;exact wv
    ·intro c' hc';obtain⟨j,nd',q1,q2,q3,q4⟩:=hL' c' hc';refine⟨j,nd',?_,q2,q3,q4⟩;rcases Nat.lt_or_ge i j with q|q
     ·omega
     ·obtain rfl:i=j:=by omega
      rw[hnd] at q2;cases q2;rw[hl] at q3;cases q3
    ·have:=hbpv.2.trans gbp';simp only[cNd,hl] at this;exact this
   | false =>
    simp only[cNd,hl] at wv sv
    have hpi:plc FW T RV.length i=(RV++brE FW T RV.length (T.take i)).length:=by
     rw[List.length_append,qoz];simp[plc,hnd,hl]
    obtain⟨pc,hpc⟩:=hklv i c hc;rw[hpi] at hpc;simp +decide only[↓vS,vT,simprocAttr,hlt',hlt,h5,hel,cNd,hl,hw1,hbs',gbp',hge,Nat.mul_one];refine qaJ W.here wv hpc fun t4 q1 q2 w4=>?_
    have hsv:kdS κ' s' .fr s' = .fr:=qA;have g4:=q1 s' hsv;rw[Tr.get_set,if_pos rfl] at g4;have g5:=(q1 bp hbpv.1).trans (sv.fr bp hbp').2;rw[gbp'] at g5;obtain⟨cm,hcm⟩:∃t,pl[nd.more]?=some t:=⟨_,zzE (by rw[hpl];exact hok'.more)⟩;obtain⟨cl,hcl⟩:∃t,pl[nd.less]?=some t:=⟨_,zzE (by rw[hpl];exact hok'.less)⟩;have gm:(rPt pl)[nd.more]?=some (.ptr cm 0):=by rw[qeK,hcm];rfl
    have gl':(rPt pl)[nd.less]?=some (.ptr cl 0):=by rw[qeK,hcl];rfl
    have hcs:s<=c:=hnew i c nd hnd hl hc
    -- the labels are as before,but this one has its place
    have hkl4:∀(j:Nat) c',pl[j]?=some c'->∃p,kdS (kdS κ' s' .fr) c (.lab (RV++brE FW T RV.length (T.take i)).length true) c' = .lab (plc FW T RV.length j) p:=fun j c' hj=>by
     obtain⟨p,hp⟩:=hklv j c' hj
     by_cases e:c'=c
     ·rw[e] at hp;have hF:=(Kd.lab.inj (hpc.symm.trans hp)).1;exact⟨true,by rw[e,qA,hF]⟩
     ·exact⟨p,by rw[qe e];exact hp⟩
    have hbpc:bp≠c:=fun e=>by rw[← e,hbpv.1] at hpc;cases hpc
    have st4:Stp (L'.filter fun x=>decide (x≠c)) κ s tr (kdS (kdS κ' s' .fr) c (.lab (RV++brE FW T RV.length (T.take i)).length true)) (s'+1) t4 :=
     (st'.trans sv).kd hd hcs q1 q2 fun x hx=>by
      by_cases e:x=c
      ·exact .inl e
      ·exact .inr (by simp at hx;simp[hx,e])
    obtain⟨pm,hpm⟩:=hkl4 _ _ hcm;obtain⟨pq,hpq⟩:=hkl4 _ _ hcl
    obtain⟨κ5,s5,t5,st5,w5,hj5⟩:=qsR W.jmp W.put w4 ⟨53,nd.at',plc FW T RV.length nd.more,plc FW T RV.length nd.less⟩ hpm (.inr ⟨(by decide:(53:Int)≠5),cl,pq,rfl,hpq⟩) (by
     rw[← hpi];have:z9 (T.take i)<=T.length:=Nat.le_trans List.countP_le_length (by rw[List.length_take];omega);simp only[plc,hnd,hl];simp;omega)
    have hmT:nd.more<T.length:=hok'.more;have hlT:nd.less<T.length:=hok'.less;have hb4:=st5.fr bp (by rw[qe hbpc];exact hbpv.1);simp +decide only[↓vS,vT,simprocAttr];refine zD ?_;simp +decide only[↓vS,vT,simprocAttr,g4,g5,gm,gl',hmT,hlT,Nat.mul_one];refine⟨.tup [],_,hj5,?_⟩;simp +decide only[↓vS,vT,simprocAttr,hw1];refine ih (i+1) _ _ (by omega) ?_ ⟨by omega,_,κ5,s5,t5,rfl,st4.trans st5,?_,fun j c' hj=>?_,?_,hb4.1,hb4.2.trans g5⟩
    ·simp[qf,qi,Tr.get_set]
    ·rw[hts];have:brE FW T RV.length (T.take i++[nd])=brE FW T RV.length (T.take i)++[⟨53,nd.at',plc FW T RV.length nd.more,plc FW T RV.length nd.less⟩]:=by simp[brE,qih,hl]
     rw[this,← List.append_assoc];exact w5
    ·obtain⟨p,hp⟩:=hkl4 j c' hj;exact⟨p,st5.lab _ _ _ hp⟩
    ·intro c' hc';rw[List.append_nil,List.mem_filter,decide_eq_true_eq] at hc';obtain⟨j,nd',q1,q2,q3,q4⟩:=hL' c' hc'.1;refine⟨j,nd',?_,q2,q3,q4⟩;rcases Nat.lt_or_ge i j with q|q
     ·omega
     ·obtain rfl:i=j:=by omega
      rw[hc] at q4;cases q4;exact absurd rfl hc'.2
  ·obtain rfl:i=T.length:=by omega
   have hlt':¬((T.length:Int)<T.length):=by omega
   simp +decide only[↓vS,vT,simprocAttr,hlt'];rw[List.take_length] at w';refine hk _ _ _ (st'.nil fun c hc=>?_) w'
   obtain⟨j,nd,q1,q2,_⟩:=hL' c hc;have:=(zzS.1 q2).1;omega
 ·simp[qf,qi,Tr.get_set]
 ·refine⟨Nat.zero_le _,L,κ1,s1,t1,rfl,st,?_,hkl,fun c hc=>?_,hbp,gbp⟩
  ·simpa[brE] using h
  ·obtain⟨j,nd,q⟩:=hL c hc;exact⟨j,nd,Nat.zero_le _,q⟩
theorem Stp.mod{L:List Nat}{κ1:Nat->Kd}{s1:Nat}{t1:Tr Blk}(h:Stp L κ s tr κ1 s1 t1)(hd:∀b,κ b≠.no->b<s){b:Nat}(hb:s<=b)(x:Blk):Stp L κ s tr (kdS κ1 b .fr) s1 (t1.set b x):=by
 have ne:∀{c},κ c≠.no->c≠b:=fun h e=>by have:=hd _ h;omega
 refine⟨h.le,fun c hc=>?_,fun c hc=>?_,fun c F p hc=>?_,fun c F hc=>?_⟩
 ·have e:=ne (c:=c) (by rw[hc];simp);rw[qe e,Tr.get_set,if_neg e];exact h.fr c hc
 ·have e:=ne (c:=c) (by rw[hc];simp);rw[qe e,Tr.get_set,if_neg e];exact h.box c hc
 ·rw[qe (ne (by rw[hc];simp))];exact h.lab c F p hc
 ·by_cases e:c=b
  ·rw[e,qA] at hc;cases hc
  ·rw[qe e] at hc;exact h.nw c F hc
theorem qpM{n0 m s1 bp:Nat}{t1:Tr Blk}{κ1:Nat->Kd}{L:List Nat}(W:WFn P g gl gp gj gh gr)(T:List Nd)(hT:T≠[])(hok:∀x ∈ T,NdOk m T.length x)(FW:Nat->Nat)(pl:List Nat)(hpl:pl.length=T.length)
  (h:WI g w κ1 s1 t1 RV N) (st:Stp L κ s tr κ1 s1 t1) (hd:∀b,κ b≠.no->b<s) (hkl:∀(j:Nat) c,pl[j]?=some c->∃p,κ1 c = .lab (plc FW T (RV.length+(jaE FW T).length) j) p)
  (hL:∀c ∈ L,∃(j:Nat) (nd:Nd),T[j]?=some nd∧nd.leaf=false∧pl[j]?=some c) (hnew:∀(j:Nat) c nd,T[j]?=some nd->nd.leaf=false->pl[j]?=some c->s<=c) (hbp:κ1 bp = .fr) (gbp:t1.get bp=some (.cells 0 true false (rPt pl)))
  (hm:RV.length+T.length+1<=1000000) {t:Tr AV} (ht:Has t [(0,.ptr w 0),(1,.fz T.length (rNd T)),(6,.sl bp 0 T.length T.length false)])
  (hk:∀κ' s' tr',Stp [] κ s tr κ' s' tr'->WI g w κ' s' tr' (RV++xd FW T RV.length) N->k (.tup []) ⟨s',0,tr'⟩):S P n0 (xU gj gh) (qac [] k) t ⟨s1,0,t1⟩:=by
 refine S.has _ ht (qj ?_);have hn0:0<T.length:=List.length_pos_iff.2 hT;obtain⟨x0,hx0⟩:∃x,T[0]?=some x:=⟨_,zzE hn0⟩;obtain⟨c0,hc0⟩:∃c,pl[0]?=some c:=⟨_,zzE (by omega)⟩
 have g0:(rNd T)[0]?=some (.b x0.leaf):=by
  have:=qwL hx0 (i:=0) (by omega);rw[Nat.zero_mul] at this;exact this
 have ge0:(rPt pl)[0]?=some (.ptr c0 0):=by rw[qeK,hc0];rfl
 have hja:jaE FW T=if x0.leaf=true then [⟨5,0,FW x0.way,0⟩] else []:=by
  cases T with
  | nil=>exact absurd rfl hT
  | cons a l=>simp at hx0;subst hx0;rfl
 simp only[xU,vI,simprocAttr];simp +decide only[↓vS,vT,simprocAttr,g0,hn0];cases hl0:x0.leaf with
 | true =>
  rw[hl0,if_pos rfl] at hja;simp +decide only[↓vS,vT,simprocAttr,gbp,ge0,hn0,hl0];obtain⟨p,hp⟩:=hkl 0 c0 hc0;have hp':κ1 c0 = .lab (FW x0.way) p:=by rw[hp];simp[plc,hx0,hl0]
  refine qdN W.jmp W.put h ⟨5,0,FW x0.way,0⟩ hp' (.inl ⟨rfl,rfl,rfl⟩) (by omega) fun κ2 s2 t2 st2 w2=>?_
  simp +decide only[↓vS,vT,simprocAttr];rw[← hja] at w2;have hb2:=st2.fr bp hbp;refine qkI W T hok FW pl hpl w2 (st.trans st2) hd (fun j c hj=>?_) (by rw[List.append_nil];exact hL) hnew hb2.1 (hb2.2.trans gbp) (by rw[List.length_append,hja];simp;omega) ?_ fun κ' s' tr' q1 q2=>hk κ' s' tr' q1 ?_
  ·obtain⟨p,hp⟩:=hkl j c hj;rw[List.length_append];exact⟨p,st2.lab _ _ _ hp⟩
  ·simp[qf,qi,Tr.get_set]
  ·rw[List.length_append,List.append_assoc] at q2;exact q2
 | false =>
  rw[hl0,if_neg (by simp)] at hja;simp +decide only[↓vS,vT,simprocAttr,gbp,ge0,hn0,hl0];rw[hja] at hkl;refine qkI W T hok FW pl hpl h st hd hkl hL hnew hbp gbp (by omega) ?_ fun κ' s' tr' q1 q2=>hk κ' s' tr' q1 ?_
  ·simp[qf,qi,Tr.get_set]
  ·unfold xd;rw[hja];exact q2
theorem qwO{pl:List Nat}{n c:Nat}(h:pl.length<n):(rPt pl++List.replicate (n-pl.length) AV.nilp).take pl.length ++ .ptr c 0::(rPt pl++List.replicate (n-pl.length) AV.nilp).drop (pl.length+1)=rPt (pl++[c])++List.replicate (n-(pl++[c]).length) AV.nilp:=by
 rw[List.take_left' qeL,show pl.length+1=(rPt pl).length+1 by rw[qeL],List.drop_length_add_append,List.drop_replicate]
 simp[rPt];omega
theorem qtW{pl:List Nat}{n a c:Nat}:(rPt (pl++[a])++List.replicate (n-(pl++[a]).length) AV.nilp).take pl.length ++ .ptr c 0::(rPt (pl++[a])++List.replicate (n-(pl++[a]).length) AV.nilp).drop (pl.length+1)=rPt (pl++[c])++List.replicate (n-(pl++[c]).length) AV.nilp:=by
 have e:rPt (pl++[a])++List.replicate (n-(pl++[a]).length) AV.nilp=rPt pl++(.ptr a 0::List.replicate (n-(pl++[a]).length) AV.nilp):=by simp[rPt]
 rw[e,List.take_left' qeL,show pl.length+1=(rPt pl).length+1 by rw[qeL],List.drop_length_add_append]
 simp[rPt]
theorem qrx{e bw:Nat}{wf a:Bool}(hc:qc P f (qad gj gh)=true)(W:WFn P g gl gp gj gh gr)(T:List Nd)(hT:T≠[])(xs:List Nat)(hok:∀x ∈ T,NdOk xs.length T.length x)(FW:Nat->Nat)(V:AV)(hV:V = .sl bw 0 xs.length xs.length false∨V = .own bw xs.length)
  (h:WI g w κ s tr RV N) (hbw:κ bw = .fr) (gbw:tr.get bw=some (.cells e wf a (rPt xs))) (hx:∀(j:Nat) c,xs[j]?=some c->∃p,κ c = .lab (FW j) p) (hm:RV.length+T.length+1<=1000000)
  (hk:∀κ' s' tr',Stp [] κ s tr κ' s' tr'->WI g w κ' s' tr' (RV++xd FW T RV.length) N->k (.tup []) ⟨s',0,tr'⟩):SC P f [.ptr w 0,.fz T.length (rNd T),V] ⟨s,0,tr⟩ k:=by
 refine SC.mk hc (qj ?_);simp only[qad,vI,simprocAttr];have hr1:T.length<=qg:=by simp only[qg];omega
 have hr2:8*T.length<=qg:=by simp only[qg];omega
 simp +decide only[↓vS,vT,simprocAttr,hr1,hr2]
 refine SL.loopP (α:=Nat) (fun i=>[(0,.ptr w 0),(1,.fz T.length (rNd T)),(2,V),(6,.sl s 0 T.length T.length false),(14,.fz T.length (rNd T)),(15,.i .i64 (T.length:Int)),(16,.i .i64 (i:Int))])
  (fun i h=>i<=T.length∧∃pl L' κ' s' tr',pl.length=i∧h=⟨s',0,tr'⟩∧Stp L' κ s tr κ' s' tr'∧WI g w κ' s' tr' RV N∧s<s'∧(∀(j:Nat) c,pl[j]?=some c->∃p,κ' c = .lab (plc FW T (RV.length+(jaE FW T).length) j) p) ∧
   (∀c ∈ L',∃(j:Nat) (nd:Nd),T[j]?=some nd∧nd.leaf=false∧pl[j]?=some c)∧(∀(j:Nat) c nd,T[j]?=some nd->nd.leaf=false->pl[j]?=some c->s<=c)∧κ' s = .fr∧tr'.get s=some (.cells 0 true false (rPt pl++List.replicate (T.length-pl.length) .nilp))) (fun i=>T.length-i) ?_ 0 ?_ ?_
 ·rintro i h1 ⟨hi,pl,L',κ',s',tr',hpl,rfl,st',w',hss,hkl',hL',hnew',hbp',gbp'⟩ G ih;simp only[vI,simprocAttr]
  by_cases hlt:i<T.length
  ·have hlt':(i:Int)<T.length:=by omega
   obtain⟨nd,hnd⟩:∃t,T[i]?=some t:=⟨_,zzE hlt⟩;have hel:=qnm hnd;have h5:i*5+5<=(rNd T).length:=by rw[qjh];omega
   have hw1:IntKind.wrap .i64 ((i:Int)+1)=((i+1:Nat):Int):=by rw[qq (by omega) (by omega)];simp
   have hok':=hok nd (zzM hnd);have n1:¬s=s':=by omega
   have n2:¬s=s'+1:=by omega
   have n3:¬s'=s'+1:=by omega
   have n4:¬s'=s:=by omega
   have n5:¬s'+1=s:=by omega
   have hll:i+1<=(rPt pl++List.replicate (T.length-pl.length) AV.nilp).length:=by simp[qeL];omega
   have hp1:=qwO (n:=T.length) (c:=s'+1) (pl:=pl) (by omega);rw[hpl] at hp1 hll gbp';obtain⟨wv,sv⟩:=w'.var (.cells 0 true false [.b false,.i .i64 0,.i .u32 0,.i .i64 0,.i .i64 0]) (.cells 0 true false (cNd nd));cases hl:nd.leaf with
   | false =>
    simp only[cNd,hl] at wv sv;simp +decide only[↓vS,vT,simprocAttr,hlt',hlt,h5,hel,cNd,hl,hw1,n1,n2,n3,n4,n5,gbp',Nat.mul_one,hll,hp1];have wl:=wv.new (.lab (plc FW T (RV.length+(jaE FW T).length) i) false) _ (.inr (.inr (.inr ⟨_,rfl,rfl⟩)));have sl:=wv.stpLab (.lab (plc FW T (RV.length+(jaE FW T).length) i) false) (.cells 0 true false [.i .i64 0]);have hfs:kdS (kdS κ' s' .fr) (s'+1) (.lab (plc FW T (RV.length+(jaE FW T).length) i) false) s = .fr:=by rw[qe (by omega),qe (by omega)];exact hbp'
    refine ih (i+1) _ _ (by omega) ?_ ⟨by omega,pl++[s'+1],_,_,s'+1+1,_,by simp[hpl],rfl,((st'.trans sv).trans sl).mod h.dom (Nat.le_refl s) _,wl.chg .fr _ (.inl hfs) (by omega) (.inr (.inl rfl)),by omega,fun j c hj=>?_,fun c hc=>?_,fun j c nd' h1 h2 h3=>?_,qA,by rw[Tr.get_set,if_pos rfl]⟩
    ·simp[qf,qi,Tr.get_set]
    ·rw[List.getElem?_append] at hj;split at hj
     ·obtain⟨p,hp⟩:=hkl' j c hj;have:c<s':=w'.dom c (by rw[hp];simp);have hcs:c≠s:=fun e=>by rw[e,hbp'] at hp;cases hp
      exact⟨p,by rw[qe hcs,qe (by omega),qe (by omega)];exact hp⟩
     ·have hj0:j-pl.length=0:=by
       have:=(zzS.1 hj).1;simp at this;exact this
      rw[hj0] at hj;simp at hj;subst hj;obtain rfl:j=i:=by omega
      exact⟨false,by rw[qe n5,qA]⟩
    ·simp only[List.append_nil,List.mem_append,List.mem_singleton] at hc;rcases hc with hc|hc
     ·obtain⟨j,nd',q1,q2,q3⟩:=hL' c hc;exact⟨j,nd',q1,q2,by rw[List.getElem?_append_left (zzS.1 q3).1];exact q3⟩
     ·exact⟨i,nd,hnd,hl,by rw[hc,← hpl];simp⟩
    ·rw[List.getElem?_append] at h3;split at h3
     ·exact hnew' j c nd' h1 h2 h3
     ·have hj0:j-pl.length=0:=by
       have:=(zzS.1 h3).1;simp at this;exact this
      rw[hj0] at h3;simp at h3;omega
   | true =>
    have hwl:=hok'.way hl;obtain⟨c0,hc0⟩:∃t,xs[nd.way]?=some t:=⟨_,zzE hwl⟩;have gc0:(rPt xs)[nd.way]?=some (.ptr c0 0):=by rw[qeK,hc0];rfl
    obtain⟨p0,hp0⟩:=hx nd.way c0 hc0;have hbs:bw<s:=h.dom bw (by rw[hbw];simp);have gb':=(st'.fr bw hbw).2.trans gbw;have m1:¬bw=s:=by omega
    have m2:¬bw=s':=by omega
    have m3:¬bw=s'+1:=by omega
    have hp2:=qtW (n:=T.length) (pl:=pl) (a:=s'+1) (c:=c0);have hll2:i+1<=(rPt (pl++[s'+1])++List.replicate (T.length-(pl++[s'+1]).length) AV.nilp).length:=by simp[qeL];omega
    rw[hpl] at hp2;have wl:=wv.new .fr (.cells 0 true false [.i .i64 0]) (.inr (.inl rfl));have sl:=wv.stpNew .fr (.cells 0 true false [.i .i64 0]) (by simp);have hfs:kdS (kdS κ' s' .fr) (s'+1) .fr s = .fr:=by rw[qe (by omega),qe (by omega)];exact hbp'
    have wc:=wl.chg .fr (.cells 0 true false (rPt (pl++[s'+1])++List.replicate (T.length-(pl++[s'+1]).length) .nilp)) (.inl hfs) (by omega) (.inr (.inl rfl));have wd:=wc.chg (b:=s) .fr (.cells 0 true false (rPt (pl++[c0])++List.replicate (T.length-(pl++[c0]).length) .nilp)) (.inl qA) (by omega) (.inr (.inl rfl));have sd:=((((st'.trans sv).trans sl).mod h.dom (Nat.le_refl s) (.cells 0 true false (rPt (pl++[s'+1])++List.replicate (T.length-(pl++[s'+1]).length) .nilp)))).mod h.dom (Nat.le_refl s) (.cells 0 true false (rPt (pl++[c0])++List.replicate (T.length-(pl++[c0]).length) .nilp));simp only[cNd,hl] at wd sd
    have fin:∀tf,(∀b,tf.get b=((((((tr'.set s' (.cells 0 true false [.b false,.i .i64 0,.i .u32 0,.i .i64 0,.i .i64 0])).set s' (.cells 0 true false [.b true,.i .i64 (nd.way:Int),.i .u32 nd.at',.i .i64 (nd.less:Int),.i .i64 (nd.more:Int)])).set (s'+1) (.cells 0 true false [.i .i64 0])).set s
      (.cells 0 true false (rPt (pl++[s'+1])++List.replicate (T.length-(pl++[s'+1]).length) .nilp))).set s (.cells 0 true false (rPt (pl++[c0])++List.replicate (T.length-(pl++[c0]).length) .nilp))).get b))->
      ∀tt,Has tt [(0,.ptr w 0),(1,.fz T.length (rNd T)),(2,V),(6,.sl s 0 T.length T.length false),(14,.fz T.length (rNd T)),(15,.i .i64 (T.length:Int)),(16,.i .i64 ((i+1:Nat):Int))]->G tt ⟨s'+1+1,0,tf⟩:=by
     intro tf hf tt ht;refine ih (i+1) _ _ (by omega) ht ⟨by omega,pl++[c0],_,_,s'+1+1,_,by simp[hpl],rfl,sd.congr hf,wd.congr hf,by omega,fun j c hj=>?_,fun c hc=>?_,fun j c nd' h1 h2 h3=>?_,qA,by rw[hf,Tr.get_set,if_pos rfl]⟩
     ·rw[List.getElem?_append] at hj;split at hj
      ·obtain⟨p,hp⟩:=hkl' j c hj;have:c<s':=w'.dom c (by rw[hp];simp);have hcs:c≠s:=fun e=>by rw[e,hbp'] at hp;cases hp
       exact⟨p,by rw[qe hcs,qe hcs,qe (by omega),qe (by omega)];exact hp⟩
      ·have hj0:j-pl.length=0:=by
        have:=(zzS.1 hj).1;simp at this;exact this
       rw[hj0] at hj;simp at hj;subst hj;obtain rfl:j=i:=by omega
       have h1:=st'.lab _ _ _ hp0;have:c0<s:=h.dom c0 (by rw[hp0];simp);exact⟨p0,by rw[qe (by omega),qe (by omega),qe (by omega),qe (by omega),h1];simp[plc,hnd,hl]⟩
     ·simp only[List.append_nil] at hc;obtain⟨j,nd',q1,q2,q3⟩:=hL' c hc;exact⟨j,nd',q1,q2,by rw[List.getElem?_append_left (zzS.1 q3).1];exact q3⟩
     ·rw[List.getElem?_append] at h3;split at h3
      ·exact hnew' j c nd' h1 h2 h3
      ·have hj0:j-pl.length=0:=by
        have:=(zzS.1 h3).1;simp at this;exact this
       obtain rfl:j=i:=by omega
       rw[hnd] at h1;cases h1;rw[hl] at h2;cases h2
    rcases hV with rfl|rfl
    ·simp +decide only[↓vS,vT,simprocAttr,hlt',hlt,h5,hel,cNd,hl,hw1,n1,n2,n3,n4,n5,m1,m2,m3,gbp',gb',gc0,hwl,Nat.mul_one,hll,hp1,hll2,hp2];exact fin _ (fun b=>rfl) _ (by simp[qf,qi,Tr.get_set])
    ·simp +decide only[↓vS,vT,simprocAttr,hlt',hlt,h5,hel,cNd,hl,hw1,n1,n2,n3,n4,n5,m1,m2,m3,gbp',gb',gc0,hwl,Nat.mul_one,hll,hp1,hll2,hp2];exact fin _ (fun b=>rfl) _ (by simp[qf,qi,Tr.get_set])
  ·obtain rfl:i=T.length:=by omega
   have hlt':¬((T.length:Int)<T.length):=by omega
   simp +decide only[↓vS,vT,simprocAttr,hlt'];rw[hpl,Nat.sub_self] at gbp';refine qpM W T hT hok FW pl hpl w' st' h.dom hkl' hL' hnew' hbp' (by rw[gbp'];simp) hm ?_ hk;simp[qf,qi,Tr.get_set]
 ·simp[qf,qi,Tr.get_set]
 ·refine⟨Nat.zero_le _,[],[],kdS κ s .fr,s+1,_,rfl,rfl,h.stpNew .fr _ (by simp),h.new .fr _ (.inr (.inl rfl)),by omega,fun j c hj=>(by simp at hj),fun c hc=>(by cases hc),fun j c nd h1 h2 h3=>(by simp at h3),qA,?_⟩
  rw[Tr.get_set,if_pos rfl];simp[rPt]
end
structure Sp where
 fr:Int
 to:Int
 way:Nat
def cSp(s:Sp):List AV:=[.i .u32 s.fr,.i .u32 s.to,.i .i64 (s.way:Int)]
theorem qfR(s:Sp):(cSp s).length=3:=rfl
def rSp(l:List Sp):List AV:=l.flatMap cSp
theorem qeM{l:List Sp}:(rSp l).length=l.length*3:=zl qfR l
theorem qwP{l m:List Sp}:rSp l++rSp m=rSp (l++m):=by simp[rSp]
theorem qwQ{s:Sp}:cSp s=rSp [s]:=by simp[rSp]
theorem qpf{T:List Sp}{j:Nat}{x:Sp}(h:T[j]?=some x){i:Nat}(hi:i<3):(rSp T)[j*3+i]?=(cSp x)[i]?:=qb2 qfR h hi
theorem qtY{T:List Sp}{j:Nat}{x:Sp}(h:T[j]?=some x):((rSp T).drop (j*3)).take 3=cSp x:=zj qfR h
theorem qel{l:List Sp}:qu (rSp l)=true:=x9 fun _=>rfl
def jj(l:List Sp)(s:Sp):List Sp:=match l[l.length-1]? with|some z=>if z.way=s.way then l.set (l.length-1) ⟨z.fr,s.to,z.way⟩ else l++[s]|none=>l++[s]
def zG(l:List Sp):List Sp:=l.foldl jj []
theorem qkg{l:List Sp}{s:Sp}:(jj l s).length<=l.length+1:=by
 unfold jj;split
 ·split<;>simp
 ·simp
def je:IFn:=⟨[],.seq (.r [.q 2 (.box (.t 0))]) (.seq (.seq (.r [.d 4 1,.e 5 4,.n 3 5]) (.seq (.reg true [.n 6 3,.w 7 .gtr 6 0,.n 8 7,.j 9 1 8 true,.y 10 3 8,.g 11 (.bin .sub (.t 10) (.k 1)) 8 true,.g 12 (.iAddrS 3 (.t 9) (.t 11)) 8 true,.h 13 2 12 8 true,.j 14 13 8 true,.h 15 2 2 8 true,.j 16 15 8 true,.g 17 (.bin .eql (.t 14) (.t 16)) 8 true,.p 18 8 17]) (.cond (.t 18) (.seq (.r [.d 19 1,.n 20 3,.w 21 .sub 20 1,.f 22 1 2,.d 23 22,.i 24 3 19 21,.f 25 1 24,.u (.store 1 (.t 25) (.t 23))]) (.ret)) (.skip)))) (.r [.d 26 1,.v 27 3 2,.q 28 (.buildS 1 [.i .u32 0,.i .u32 0,.i .i64 0] [(0,3,(.t 27))]),.q 29 (.app 3 16 true (.t 26) (.t 28)),.u (.store 1 (.t 1) (.t 29))]))⟩
theorem qtQ(hc:qc P f je=true){s bo br:Nat}{tr:Tr Blk}{l:List Sp}(x:Sp){k:AV->Hp->Prop}(ho:tr.get bo=some (.cells 0 true false [.own br l.length]))(hr:tr.get br=some (.cells 3 true true (rSp l)))(hbr:bo≠br)(hos:bo<s)(hrs:br<s)(hm:l.length<=1000000)
  (hk:∀s' tr' br',s<=s'->(∀b,b<s->b≠bo->b≠br->tr'.get b=tr.get b)->tr'.get bo=some (.cells 0 true false [.own br' (jj l x).length])->tr'.get br'=some (.cells 3 true true (rSp (jj l x)))->(br'=br∨s<=br')->br'<s'->k (.tup []) ⟨s',0,tr'⟩) :
  SC P f [.agg (cSp x),.ptr bo 0] ⟨s,0,tr⟩ k:=by
 refine SC.mk hc (qj ?_);have n1:¬bo=s:=by omega
 have n2:¬br=s:=by omega
 have n3:¬bo=br:=hbr;have n4:¬s=br:=by omega
 have n5:¬s+1=br:=by omega
 have n6:¬br=s+1:=by omega
 have n7:¬bo=s+1:=by omega
 have n8:¬bo=s+1+1:=by omega
 have n9:¬s=bo:=by omega
 have n10:¬s=s+1:=by omega
 have n11:¬s+1=s+1+1:=by omega
 have r1:l.length+1<=qg:=by simp only[qg];omega
 have r2:(l.length+1)*16<=qg:=by simp only[qg];omega
 have app:∀tf:Tr Blk,(∀b,b<s->b≠bo->b≠br->tf.get b=tr.get b)->tf.get bo=some (.cells 0 true false [.own (s+1+1) (l.length+1)])->tf.get (s+1+1)=some (.cells 3 true true (rSp l++cSp x))->jj l x=l++[x]->k (.tup []) ⟨s+1+1+1,0,tf⟩:=fun tf h1 h2 h3 h4 =>
  hk _ _ (s+1+1) (by omega) h1 (by rw[h2,h4];simp) (by rw[h3,h4,qwQ,qwP]) (.inr (by omega)) (by omega)
 simp only[je,cSp,vI,simprocAttr];simp +decide only[↓vS,vT,simprocAttr,ho,hr,n1,n2,n3,n9];refine zD ?_;rcases Nat.eq_zero_or_pos l.length with h0|h0
 ·have h0':¬(0:Int)<(l.length:Int):=by omega
  simp +decide only[↓vS,vT,simprocAttr,h0',ho,hr,n1,n2,n3,n4,n5,n6,n7,n8,n9,n10,n11,r1,r2,qeM];refine app _ ?_ ?_ ?_ ?_
  ·intro b h1 h2 h3;simp only[Tr.get_set];repeat rw[if_neg (by omega)]
  ·simp[Tr.get_set]
  ·simp only[Tr.get_set];rw[if_neg (by omega)];simp[cSp]
  ·have:l=[]:=List.eq_nil_of_length_eq_zero h0;subst this;rfl
 ·have h0':(0:Int)<(l.length:Int):=by omega
  obtain⟨z,hz⟩:∃z,l[l.length-1]?=some z:=⟨_,zzE (by omega)⟩;have e1:IntKind.wrap .i64 ((l.length:Int)-1)=((l.length-1:Nat):Int):=by rw[qq (by omega) (by omega)];omega
  have hlt:l.length-1<l.length:=by omega
  have hw:=qpf hz (i:=2) (by omega);have hw':(rSp l)[(l.length-1)*3+2]?=some (.i .i64 (z.way:Int)):=hw
  by_cases hwy:z.way=x.way
  ·have hwy':(z.way:Int)=x.way:=by omega
   have hset:=qfm (f:=cSp) (x':=⟨z.fr,x.to,z.way⟩) (v:=.i .u32 x.to) (i:=1) qfR hz (by omega) rfl;rw[show l.flatMap cSp=rSp l from rfl,List.singleton_append] at hset
   have h3:(l.length-1)*3+1+1<=(rSp l).length:=by rw[qeM];omega
   simp +decide only[↓vS,vT,simprocAttr,h0',ho,hr,n1,n2,n3,n4,n5,n6,n7,n8,n9,n10,n11,e1,hlt,hw',hwy',h3,hset];have hp:jj l x=l.set (l.length-1) ⟨z.fr,x.to,z.way⟩:=by unfold jj;rw[hz];simp[hwy]
   refine hk _ _ br (by omega) ?_ ?_ ?_ (.inl rfl) (by omega)
   ·intro b h1 h2 h3;simp only[Tr.get_set];repeat rw[if_neg (by omega)]
   ·rw[Tr.get_set,if_neg hbr,Tr.get_set,if_neg n1,ho,hp];simp
   ·rw[Tr.get_set,if_pos rfl,hp];rfl
  ·have hwy':¬(z.way:Int)=x.way:=by omega
   simp +decide only[↓vS,vT,simprocAttr,h0',ho,hr,n1,n2,n3,n4,n5,n6,n7,n8,n9,n10,n11,e1,hlt,hw',hwy',r1,r2,qeM];refine app _ ?_ ?_ ?_ ?_
   ·intro b h1 h2 h3;simp only[Tr.get_set];repeat rw[if_neg (by omega)]
   ·simp[Tr.get_set]
   ·simp only[Tr.get_set];rw[if_neg (by omega)];simp[cSp]
   ·unfold jj;rw[hz];simp[hwy]
def qaE(l:List (Int×Nat)):List AV:=l.map fun x=>.i .u32 x.1
def qa4(l:List (Int×Nat)):List AV:=l.map fun x=>.i .i64 (x.2:Int)
theorem qfH{l:List (Int×Nat)}:(qaE l).length=l.length:=by simp[qaE]
theorem qfI{l:List (Int×Nat)}:(qa4 l).length=l.length:=by simp[qa4]
theorem qcK{l:List (Int×Nat)}:qu (qaE l)=true:=qcX fun _=>rfl
theorem qcL{l:List (Int×Nat)}:qu (qa4 l)=true:=qcX fun _=>rfl
theorem qhO{l:List (Int×Nat)}{j:Nat}:(qaE l)[j]?=(l[j]?).map fun x=>.i .u32 x.1:=by simp[qaE]
theorem qnp{l:List (Int×Nat)}{j:Nat}:(qa4 l)[j]?=(l[j]?).map fun x=>.i .i64 (x.2:Int):=by simp[qa4]
def pcs(o:Nat):List (Int×Nat)->Int->List Sp
 | [],nx=>if nx<4294967296 then [⟨nx,4294967295,o⟩] else []
 | x::l,nx=>(if nx<x.1 then [⟨nx,x.1-1,o⟩] else [])++⟨x.1,x.1,x.2⟩::pcs o l (x.1+1)
def qc3(a:Nat):IFn:=⟨[.tmp 6],.seq (.r [.q 3 (.box (.t 0)),.q 4 (.box (.t 1)),.q 5 (.box (.t 2)),.m 6 (.c (.nilf))]) (.seq (.r [.q 7 (.mkF a [] [.t 3,.t 5,.t 4]),.n 6 7]) (.ret))⟩
theorem qqO{g:Nat}(hc:qc P f (qc3 g)=true)(l:List (Int×Nat))(o:Nat):qd P f [.fz l.length (qaE l),.fz l.length (qa4 l),.i .i64 (o:Int)] (.fn g [] [.pf [.fz l.length (qaE l)] 0,.pf [.i .i64 (o:Int)] 0,.pf [.fz l.length (qa4 l)] 0]):=by
 refine qd.mk hc (by simp[qu,clo,qcK,qcL]) ?_;simp only[qc3,vI,simprocAttr];simp +decide only[↓vS,vT,simprocAttr];simp[vZ,vP,Tr.get_set,zp qcK,zp qcL]
def spT(g3:Nat)(l:List (Int×Nat))(o:Nat):List (Nat×AV):=[(3,.ptr 0 0),(4,.ptr 1 0),(7,.fn g3 [] [.pf [.fz l.length (qaE l)] 0,.pf [.i .i64 (o:Int)] 0,.pf [.fz l.length (qa4 l)] 0])]
def spA:ICode:=.reg false [⟨some 5,.op (.alloc [.i .u32 0,.i .u32 0,.i .i64 0]),none⟩,⟨none,.op (.store 3 (.t 5) (.t 8)),none⟩]
def spB:ICode:=.blk 1 (.reg false [⟨some 9,.op (.load1 (.t 4)),none⟩,⟨some 10,.op (.loadN 3 (.t 5)),none⟩,⟨some 11,.callV (.t 9) [.t 10],none⟩])
def SpI(g1:Nat)(r0:Loop)(ts:List (Nat×AV))(out:List Sp)(s:Nat)(tr:Tr Blk):Prop :=
 ∃br,4<=s∧tr.get 0=some (.cells 0 true false [.own br out.length])∧tr.get br=some (.cells 3 true true (rSp out))∧(br=2∨4<=br)∧br<s∧tr.get 1=some (.cells 0 true false [.fn g1 [] [.ptr 0 0]])∧tr.get 3=some (.map (zn r0 ts))
theorem qkh{g1 g3 s:Nat}{r0:Loop}{l:List (Int×Nat)}{o:Nat}{out:List Sp}{tr:Tr Blk}{k:AV->Hp->Prop}(hc1:qc P g1 je=true)(hr0:r0.state = .ready)(hp0:r0.pending=none)(hlo:LoopOk P r0 [8] spA spB)
  (hI:SpI g1 r0 (spT g3 l o) out s tr) (x:Sp) (hm:out.length<=1000000) (hk:∀s' tr',SpI g1 r0 (spT g3 l o) (jj out x) s' tr'->k (.b true) ⟨s',0,tr'⟩):SY P 3 [.agg (cSp x)] ⟨s,0,tr⟩ k:=by
 obtain⟨br,h4,h0,hb,hbr,hbs,h1,h3⟩:=hI;refine SY.mk (r:=r0) (ts:=spT g3 l o) (ps:=[8]) h3 hr0 hlo (Nat.zero_le _) (by show 3<s;omega) rfl ?_;rw[show mkT (spT g3 l o)=((Tr.leaf.set 7 (.fn g3 [] [.pf [.fz l.length (qaE l)] 0,.pf [.i .i64 (o:Int)] 0,.pf [.fz l.length (qa4 l)] 0])).set 4 (.ptr 1 0)).set 3 (.ptr 0 0) from rfl]
 refine qj ?_;simp only[qkz,spA,cSp,vI,simprocAttr];simp +decide only[↓vS,vT,simprocAttr];have n3:¬3=s:=by omega
 have n1:¬1=s:=by omega
 have n13:¬1=3:=by omega
 have n03:¬0=3:=by omega
 have ns3:¬s=3:=by omega
 refine⟨spT g3 l o,by simp[Tr.get_set,n3,h3],?_⟩
 refine qj ?_;simp only[z7,spB,vI,simprocAttr];simp +decide only[↓vS,vT,simprocAttr,h1,n1,n13,ns3]
 have gb:∀b,b<s->b≠3->(((tr.set s (.cells 0 true false [.i .u32 0,.i .u32 0,.i .i64 0])).set s (.cells 0 true false [.i .u32 x.fr,.i .u32 x.to,.i .i64 (x.way:Int)])).set 3 (.map (zn (Go.Kc.bsy r0) (spT g3 l o)))).get b=tr.get b:=fun b h1 h2=>by
  simp only[Tr.get_set];repeat rw[if_neg (by omega)]
 refine qtQ hc1 x ((gb 0 (by omega) (by omega)).trans h0) ((gb br hbs (by omega)).trans hb) (by omega) (by omega) (by omega) hm fun s' tr' br' q1 q2 q3 q4 q5 q6=>?_
 simp +decide only[↓vS,vT,simprocAttr];have g3':tr'.get 3=some (.map (zn (Go.Kc.bsy r0) (spT g3 l o))):=by rw[q2 3 (by omega) (by omega) (by omega),Tr.get_set,if_pos rfl]
 refine⟨Go.Kc.bsy r0,spT g3 l o,g3',?_⟩;rw[qhQ,qil hr0 hp0];simp only[z7];simp +decide only[↓vS,vT,simprocAttr];refine hk _ _ ⟨br',by omega,?_,?_,by omega,q6,?_,?_⟩
 ·rw[Tr.get_set,if_neg (by omega)];exact q3
 ·rw[Tr.get_set,if_neg (by omega)];exact q4
 ·rw[Tr.get_set,if_neg (by omega),q2 1 (by omega) (by omega) (by omega),gb 1 (by omega) (by omega)];exact h1
 ·rw[Tr.get_set,if_pos rfl]
def qbO:IFn:=⟨[],.seq (.r [.m 5 (.c (.i .u64 0))]) (.seq (.seq (.r [.d 8 1,.e 9 8,.m 10 (.k 0)]) (.blk 0 (.loop (.seq (.r [.s 11 10 9]) (.seq (.cond (.t 11) (.skip) (.exit 0)) (.seq (.blk 1 (.seq (.r [.n 12 10,.i 13 1 8 10,.d 14 13,.n 6 12,.n 7 14]) (.seq (.seq (.r [.n 15 5,.n 16 7,.q 17 (.cvInt .u64 (.t 16)),.s 18 15 17,.n 19 18,.y 20 0 19,.y 21 5 19,.g 22 (.cvInt .u32 (.t 21)) 19 true,.y 23 7 19,.g 24 (.bin .sub (.t 23) (.c (.i .u32 1))) 19 true,.j 25 2 19 true,.g 26 (.build [.i .u32 0,.i .u32 0,.i .i64 0] [(0,1,(.t 22)),(1,1,(.t 24)),(2,1,(.t 25))]) 19 true,⟨(some 27),.callV (.t 20) [.t 26],(some (19,true))⟩,.g 28 (.un .not (.t 27)) 19 true,.p 29 19 28]) (.cond (.t 29) (.ret) (.skip))) (.seq (.seq (.r [.n 30 0,.n 31 7,.n 32 7,.d 33 3,.n 34 6,.i 35 1 33 34,.d 36 35,.q 37 (.build [.i .u32 0,.i .u32 0,.i .i64 0] [(0,1,(.t 31)),(1,1,(.t 32)),(2,1,(.t 36))]),⟨(some 38),.callV (.t 30) [.t 37],none⟩,.q 39 (.un .not (.t 38))]) (.cond (.t 39) (.ret) (.skip))) (.r [.n 40 7,.q 41 (.cvInt .u64 (.t 40)),.q 42 (.bin .add (.t 41) (.c (.i .u64 1))),.n 5 42]))))) (.r [.a 43 10 1,.n 10 43]))))))) (.seq (.r [.n 44 5,.q 45 (.bin .lss (.t 44) (.c (.i .u64 4294967296)))]) (.cond (.t 45) (.r [.n 46 0,.n 47 5,.q 48 (.cvInt .u32 (.t 47)),.d 49 2,.q 50 (.build [.i .u32 0,.i .u32 0,.i .i64 0] [(0,1,(.t 48)),(1,1,(.c (.i .u32 4294967295))),(2,1,(.t 49))]),⟨(some 51),.callV (.t 46) [.t 50],none⟩]) (.skip))))⟩
def qbu(a:Nat):ICode:=.seq (.r [.d 12 3,.n 2 12]) (.ret)
def qc2(a:Nat):IFn:=⟨[.tmp 2],.seq (.r [.m 2 .N]) (.seq (.r [.q 3 (.alloc [.nils])]) (.seq (.r [.q 6 (.mkF a [] [.t 3]),.q 4 (.alloc [.nilf]),.u (.store 1 (.t 4) (.t 6))]) (.seq (.seq (.r [.n 7 0]) (.blk 0 (.rangeF 0 (.t 7) [8] (.r [.q 5 (.alloc [.i .u32 0,.i .u32 0,.i .i64 0]),.u (.store 3 (.t 5) (.t 8))]) (.blk 1 (.r [.d 9 4,.v 10 3 5,⟨(some 11),.callV (.t 9) [.t 10],none⟩]))))) (.cut (qbu a)))))⟩
theorem qk2{n0 g1 br n:Nat}{s:Nat}{tr:Tr Blk}{t:Tr AV}{out:List Sp}(ht:t.get 3=some (.ptr 0 0))(h0:tr.get 0=some (.cells 0 true false [.own br out.length]))(hb:tr.get br=some (.cells 3 true true (rSp out)))(hn:n=out.length) :
  S P n0 (qbu g1) (qac [.tmp 2] fun v' h'=>Frz h' v' (.fz n (rSp out))) t ⟨s,0,tr⟩:=by
 refine S.has [(3,.ptr 0 0)] (by simp[qf,qi,ht]) (qj ?_);simp only[qbu,vI,simprocAttr];simp only[↓vS,vT,simprocAttr,h0];simp[vZ,vP,Tr.get_set,hb,hn,zp qel];intro h;rw[h];rfl
theorem qng{g1 g3:Nat}(hc:qc P f (qc2 g1)=true)(hc1:qc P g1 je=true)(hc3:qc P g3 qbO=true)(l:List (Int×Nat))(o:Nat)(hl:l.length<=100000)(hr:∀x ∈ l,0<=x.1∧x.1<4294967296) :
  qd P f [.fn g3 [] [.pf [.fz l.length (qaE l)] 0,.pf [.i .i64 (o:Int)] 0,.pf [.fz l.length (qa4 l)] 0]] (.fz (zG (pcs o l 0)).length (rSp (zG (pcs o l 0)))):=by
 refine qd.mk hc (by simp[qu,clo,qcK,qcL]) ?_;simp only[qc2,vI,simprocAttr];simp +decide only[↓vS,vT,simprocAttr];refine S.weak (Wk.mk (spT g3 l o) [.cells 0 true false [.own 2 0],.cells 0 true false [.fn g1 [] [.ptr 0 0]],.cells 3 true true []] [0,1,99] ?_ ?_ ?_ rfl) ?_
 ·simp[vw,spT,qcK,qcL,qh]
 ·simp[vw]
 ·simp
 refine S.rangeF (by simp[qaL]) (by simp[spT]) ⟨rfl,rfl⟩ ?_;refine qkN.2 ⟨.fn g3 [] [.pf [.fz l.length (qaE l)] 0,.pf [.i .i64 (o:Int)] 0,.pf [.fz l.length (qa4 l)] 0],by simp[spT,mkT,Tr.get_set],?_⟩
 refine⟨qfg hc3,fun r0 hr0 hp0 hlo=>SC.mk hc3 ?_⟩
 have hlo:LoopOk P r0 [8] spA spB:=hlo;show S P 4 _ _ (qcr [.yl 3,.pf [.fz l.length (qaE l)] 0,.pf [.i .i64 (o:Int)] 0,.pf [.fz l.length (qa4 l)] 0] 0 .leaf) ⟨4,0,(((Tr.leaf.set 0 (.cells 0 true false [.own 2 0])).set 1 (.cells 0 true false [.fn g1 [] [.ptr 0 0]])).set 2 (.cells 3 true true [])).set 3 (.map (zn r0 (spT g3 l o)))⟩;refine qj ?_;simp only[qbO,vI,simprocAttr];simp +decide only[↓vS,vT,simprocAttr]
 refine SL.loopP (α:=Nat×Int) (fun i=>[(0,.yl 3),(1,.pf [.fz l.length (qaE l)] 0),(2,.pf [.i .i64 (o:Int)] 0),(3,.pf [.fz l.length (qa4 l)] 0),(5,.i .u64 i.2),(8,.fz l.length (qaE l)),(9,.i .i64 (l.length:Int)),(10,.i .i64 (i.1:Int))])
  (fun i h=>i.1<=l.length∧0<=i.2∧i.2<=4294967296∧∃s tr out,h=⟨s,0,tr⟩∧SpI g1 r0 (spT g3 l o) out s tr∧(pcs o (l.drop i.1) i.2).foldl jj out=zG (pcs o l 0)∧out.length<=2*i.1) (fun i=>l.length-i.1) ?_ (0,0) ?_ ?_
 ·rintro⟨i,nx⟩ h1 ⟨hi,hx0,hx1,s,tr,out,rfl,hI,hE,hol⟩ G ih;simp only at hi hx0 hx1 hI hE hol;simp only[vI,simprocAttr]
  by_cases hlt:i<l.length
  ·have hlt':(i:Int)<l.length:=by omega
   obtain⟨x,hx⟩:∃x,l[i]?=some x:=⟨_,zzE hlt⟩;have hd:l.drop i=x::l.drop (i+1):=by rw[← (zzS.1 hx).2,List.getElem_cons_drop]
   obtain⟨x0,x1⟩:=hr x (zzM hx);have g1':(qaE l)[i]?=some (.i .u32 x.1):=by rw[qhO,hx];rfl
   have g2':(qa4 l)[i]?=some (.i .i64 (x.2:Int)):=by rw[qnp,hx];rfl
   have hw1:IntKind.wrap .i64 ((i:Int)+1)=((i+1:Nat):Int):=by rw[qq (by omega) (by omega)];simp
   have hw2:IntKind.wrap .u64 x.1=x.1:=qdB (by omega) (by omega);have hw3:IntKind.wrap .u64 (x.1+1)=x.1+1:=qdB (by omega) (by omega);rw[hd,pcs,List.foldl_append,List.foldl_cons] at hE
   -- the second yield
   have two:∀(s:Nat) (tr:Tr Blk) (out:List Sp),SpI g1 r0 (spT g3 l o) out s tr->out.length<=2*i+1->(pcs o (l.drop (i+1)) (x.1+1)).foldl jj (jj out ⟨x.1,x.1,x.2⟩)=zG (pcs o l 0)->∀k:AV->Hp->Prop,
     (∀s' tr' out',SpI g1 r0 (spT g3 l o) out' s' tr'->out'.length<=2*(i+1)->(pcs o (l.drop (i+1)) (x.1+1)).foldl jj out'=zG (pcs o l 0)->k (.b true) ⟨s',0,tr'⟩)->SY P 3 [.agg (cSp ⟨x.1,x.1,x.2⟩)] ⟨s,0,tr⟩ k:=fun s tr out h1 h2 h3 k hk =>
    qkh hc1 hr0 hp0 hlo h1 _ (by omega) fun s' tr' h4=>hk s' tr' _ h4 (by have:=qkg (l:=out) (s:=⟨x.1,x.1,x.2⟩);omega) h3
   by_cases hn:nx<x.1
   ·have hw4:IntKind.wrap .u32 nx=nx:=qcD (by omega) (by omega);have hw5:IntKind.wrap .u32 (x.1-1)=x.1-1:=qcD (by omega) (by omega);rw[if_pos hn,List.foldl_cons,List.foldl_nil] at hE;simp +decide only[↓vS,vT,simprocAttr,hlt',hlt,g1',hw2,hn,hw4,hw5,Nat.mul_one];refine qkh (x:=⟨nx,x.1-1,o⟩) hc1 hr0 hp0 hlo hI (by omega) fun s2 tr2 h2=>?_
    simp +decide only[↓vS,vT,simprocAttr,g2',hlt,Nat.mul_one];refine two _ _ _ h2 (by have:=qkg (l:=out) (s:=⟨nx,x.1-1,o⟩);omega) hE _ fun s3 tr3 out3 h3 h4 h5=>?_
    simp +decide only[↓vS,vT,simprocAttr,hw1,hw2,hw3];refine ih (i+1,x.1+1) _ _ (by simp only;omega) ?_ ⟨by simp only;omega,by simp only;omega,by simp only;omega,s3,tr3,out3,rfl,h3,h5,h4⟩
    simp[qf,qi,Tr.get_set]
   ·rw[if_neg hn,List.foldl_nil] at hE;simp +decide only[↓vS,vT,simprocAttr,hlt',hlt,g1',g2',hw2,hn,Nat.mul_one];refine two _ _ _ hI (by omega) hE _ fun s3 tr3 out3 h3 h4 h5=>?_
    simp +decide only[↓vS,vT,simprocAttr,hw1,hw2,hw3];refine ih (i+1,x.1+1) _ _ (by simp only;omega) ?_ ⟨by simp only;omega,by simp only;omega,by simp only;omega,s3,tr3,out3,rfl,h3,h5,h4⟩
    simp[qf,qi,Tr.get_set]
  ·obtain rfl:i=l.length:=by omega
   have hlt':¬((l.length:Int)<l.length):=by omega
   rw[List.drop_length,pcs] at hE
   by_cases hn:nx<4294967296
   ·have hw4:IntKind.wrap .u32 nx=nx:=qcD (by omega) (by omega);rw[if_pos hn,List.foldl_cons,List.foldl_nil] at hE;simp +decide only[↓vS,vT,simprocAttr,hlt',hn,hw4];refine qkh (x:=⟨nx,4294967295,o⟩) hc1 hr0 hp0 hlo hI (by omega) fun s2 tr2 h2=>?_
    simp +decide only[↓vS,vT,simprocAttr];obtain⟨br,q4,q0,qb,qbr,qbs,q1,q3⟩:=h2;refine⟨r0,spT g3 l o,q3,by rw[hr0];decide,?_⟩
    rw[hp0];simp only[z7];simp only[↓vS,vT,simprocAttr];rw[← hE];refine qk2 (br:=br) (by simp[spT,mkT,Tr.get_set]) ?_ ?_ rfl
    ·rw[Tr.get_set,if_neg (by decide)];exact q0
    ·rw[Tr.get_set,if_neg (by show ¬br=3;omega)];exact qb
   ·rw[if_neg hn,List.foldl_nil] at hE;simp +decide only[↓vS,vT,simprocAttr,hlt',hn];obtain⟨br,q4,q0,qb,qbr,qbs,q1,q3⟩:=hI;refine⟨r0,spT g3 l o,q3,by rw[hr0];decide,?_⟩
    rw[hp0];simp only[z7];simp only[↓vS,vT,simprocAttr];rw[← hE];refine qk2 (br:=br) (by simp[spT,mkT,Tr.get_set]) ?_ ?_ rfl
    ·rw[Tr.get_set,if_neg (by decide)];exact q0
    ·rw[Tr.get_set,if_neg (by show ¬br=3;omega)];exact qb
 ·simp[qf,qi,Tr.get_set]
 ·refine⟨Nat.zero_le _,by simp,by simp,4,_,[],rfl,⟨2,by omega,?_,?_,.inl rfl,by omega,?_,?_⟩,rfl,by simp⟩<;>simp[Tr.get_set,rSp]
def qgO(a b:Nat):IFn:=⟨[.tmp 6,.tmp 7],.seq (.r [.m 6 .N,.m 7 (.k 0)]) (.seq (.seq (.r [.n 9 0,.e 10 9,.n 11 1,.e 12 11,.b 13 .neq 10 12]) (.cond (.t 13) (.seq (.r [.m 6 .N,.m 7 (.k 2)]) (.ret)) (.skip))) (.seq (.seq (.r [.n 14 0,.e 15 14,.m 16 (.k 0)]) (.blk 0 (.loop (.seq (.r [.s 17 16 15]) (.seq (.cond (.t 17) (.skip) (.exit 0)) (.seq (.blk 1 (.seq (.r [.n 18 16,.n 8 18]) (.seq (.reg true [.n 19 8,.w 20 .gtr 19 0,.n 21 20,.y 22 0 21,.y 23 8 21,.g 24 (.iAddrS 1 (.t 22) (.t 23)) 21 true,.j 25 24 21 true,.y 26 0 21,.y 27 8 21,.g 28 (.bin .sub (.t 27) (.k 1)) 21 true,.g 29 (.iAddrS 1 (.t 26) (.t 28)) 21 true,.j 30 29 21 true,.g 31 (.bin .leq (.t 25) (.t 30)) 21 true,.p 32 21 31]) (.cond (.t 32) (.seq (.r [.m 6 .N,.m 7 (.k 2)]) (.ret)) (.skip))))) (.r [.a 33 16 1,.n 16 33]))))))) (.seq (.r [.n 34 0,.n 35 1,.n 36 2,.l 37 a [.t 34,.t 35,.t 36],.l 38 b [.t 37],.n 6 38,.m 7 (.k 0)]) (.ret))))⟩
def qt6(l:List (Int×Nat)):Prop:=∀(i:Nat) a b,l[i]?=some a->l[i+1]?=some b->a.1<b.1
theorem qAY{g1 g2 g3:Nat}(hc:qc P f (qgO g1 g2)=true)(l:List (Int×Nat))(o:Nat)(h1:qd P g1 [.fz l.length (qaE l),.fz l.length (qa4 l),.i .i64 (o:Int)] (.fn g3 [] [.pf [.fz l.length (qaE l)] 0,.pf [.i .i64 (o:Int)] 0,.pf [.fz l.length (qa4 l)] 0]))
  (h2:qd P g2 [.fn g3 [] [.pf [.fz l.length (qaE l)] 0,.pf [.i .i64 (o:Int)] 0,.pf [.fz l.length (qa4 l)] 0]] (.fz (zG (pcs o l 0)).length (rSp (zG (pcs o l 0))))) (hl:l.length<=100000) (hr:qt6 l) :
  qd P f [.fz l.length (qaE l),.fz l.length (qa4 l),.i .i64 (o:Int)] (.tup [.fz (zG (pcs o l 0)).length (rSp (zG (pcs o l 0))),.i .i64 0]):=by
 refine qd.mk hc (by simp[qu,clo,qcK,qcL]) ?_;simp only[qgO,vI,simprocAttr];have hne:¬¬(l.length:Int)=l.length:=fun h=>h rfl
 simp +decide only[↓vS,vT,simprocAttr];refine SL.loopP (α:=Nat) (fun i=>[(0,.fz l.length (qaE l)),(1,.fz l.length (qa4 l)),(2,.i .i64 (o:Int)),(15,.i .i64 (l.length:Int)),(16,.i .i64 (i:Int))]) (fun i h=>i<=l.length∧h.fl=0) (fun i=>l.length-i) ?_ 0 ?_ ?_
 ·rintro i ⟨s,fl,tr⟩ ⟨hi,rfl⟩ G ih;simp only[vI,simprocAttr]
  by_cases hlt:i<l.length
  ·have hlt':(i:Int)<l.length:=by omega
   have hw1:IntKind.wrap .i64 ((i:Int)+1)=((i+1:Nat):Int):=by rw[qq (by omega) (by omega)];simp
   simp +decide only[↓vS,vT,simprocAttr,hlt'];refine zD ?_;rcases Nat.eq_zero_or_pos i with h0|h0
   ·have h0':¬(0:Int)<(i:Int):=by omega
    simp +decide only[↓vS,vT,simprocAttr,h0',hw1];exact ih (i+1) _ _ (by omega) (by simp[qf,qi,Tr.get_set]) ⟨by omega,rfl⟩
   ·have h0':(0:Int)<(i:Int):=by omega
    obtain⟨a,ha⟩:∃x,l[i-1]?=some x:=⟨_,zzE (by omega)⟩;obtain⟨b,hb⟩:∃x,l[i]?=some x:=⟨_,zzE hlt⟩;have hab:=hr (i-1) a b ha (by rw[Nat.sub_add_cancel h0];exact hb);have e1:IntKind.wrap .i64 ((i:Int)-1)=((i-1:Nat):Int):=by rw[qq (by omega) (by omega)];omega
    have g1:(qaE l)[i-1]?=some (.i .u32 a.1):=by rw[qhO,ha];rfl
    have g2:(qaE l)[i]?=some (.i .u32 b.1):=by rw[qhO,hb];rfl
    have hlt2:i-1<l.length:=by omega
    have hle:¬b.1<=a.1:=by omega
    simp +decide only[↓vS,vT,simprocAttr,h0',hw1,e1,g1,g2,hlt,hlt2,hle,Nat.mul_one];exact ih (i+1) _ _ (by omega) (by simp[qf,qi,Tr.get_set]) ⟨by omega,rfl⟩
  ·obtain rfl:i=l.length:=by omega
   have hlt':¬((l.length:Int)<l.length):=by omega
   simp +decide only[↓vS,vT,simprocAttr,hlt'];refine h1.sc ?_;simp +decide only[↓vS,vT,simprocAttr];refine h2.sc ?_;simp +decide only[↓vS,vT,simprocAttr];simp[vZ,zp qel]
 ·simp[qf,qi,Tr.get_set]
 ·exact⟨Nat.zero_le _,rfl⟩
def qiV:List Sp->Int->Bool
 | [],nx=>decide (nx=4294967296)
 | s::l,nx=>if s.fr≠nx∨s.to<s.fr then false else qiV l (s.to+1)
def SpR(l:List Sp):Prop:=∀s ∈ l,0<=s.fr∧s.fr<4294967296∧0<=s.to∧s.to<4294967296
def qdJ:IFn:=⟨[.tmp 2],.seq (.r [.m 2 .F]) (.seq (.r [.m 3 (.c (.i .u64 0))]) (.seq (.seq (.r [.n 6 0,.e 7 6,.m 8 (.k 0)]) (.blk 0 (.loop (.seq (.r [.s 9 8 7]) (.seq (.cond (.t 9) (.skip) (.exit 0)) (.seq (.blk 1 (.seq (.r [.i 10 3 6 8,.v 11 3 10,.q 5 (.alloc [.i .u32 0,.i .u32 0,.i .i64 0]),.u (.store 3 (.t 5) (.t 11))]) (.seq (.seq (.r [.f 12 0 5,.d 13 12,.q 14 (.cvInt .u64 (.t 13)),.n 15 3,.b 16 .neq 14 15,.n 17 16,.h 18 1 5 17 false,.j 19 18 17 false,.h 20 0 5 17 false,.j 21 20 17 false,.g 22 (.bin .lss (.t 19) (.t 21)) 17 false,.o 23 17 22]) (.cond (.t 23) (.seq (.r [.m 2 .F]) (.ret)) (.skip))) (.r [.f 24 1 5,.d 25 24,.q 26 (.cvInt .u64 (.t 25)),.q 27 (.bin .add (.t 26) (.c (.i .u64 1))),.n 3 27])))) (.r [.a 28 8 1,.n 8 28]))))))) (.seq (.r [.n 29 3,.q 30 (.bin .eql (.t 29) (.c (.i .u64 4294967296))),.n 2 30]) (.ret))))⟩
theorem qop(hc:qc P f qdJ=true)(l:List Sp)(hl:l.length<=1000000)(hr:SpR l):qd P f [.fz l.length (rSp l)] (.b (qiV l 0)):=by
 refine qd.mk hc (by simp[qu,clo,qel]) ?_;simp only[qdJ,vI,simprocAttr];simp +decide only[↓vS,vT,simprocAttr];refine SL.loopP (α:=Nat×Int) (fun i=>[(3,.i .u64 i.2),(6,.fz l.length (rSp l)),(7,.i .i64 (l.length:Int)),(8,.i .i64 (i.1:Int))]) (fun i h=>i.1<=l.length∧h.fl=0∧qiV (l.drop i.1) i.2=qiV l 0) (fun i=>l.length-i.1) ?_ (0,0) ?_ ?_
 ·rintro⟨i,nx⟩ ⟨s,fl,tr⟩ ⟨hi,rfl,hE⟩ G ih;simp only at hi hE;simp only[vI,simprocAttr]
  by_cases hlt:i<l.length
  ·have hlt':(i:Int)<l.length:=by omega
   obtain⟨x,hx⟩:∃x,l[i]?=some x:=⟨_,zzE hlt⟩;have hd:l.drop i=x::l.drop (i+1):=by rw[← (zzS.1 hx).2,List.getElem_cons_drop]
   obtain⟨x0,x1,x2,x3⟩:=hr x (zzM hx);have hel:=qtY hx;have h3:i*3+3<=(rSp l).length:=by rw[qeM];omega
   have hw1:IntKind.wrap .i64 ((i:Int)+1)=((i+1:Nat):Int):=by rw[qq (by omega) (by omega)];simp
   have hw2:IntKind.wrap .u64 x.fr=x.fr:=qdB (by omega) (by omega);have hw3:IntKind.wrap .u64 x.to=x.to:=qdB (by omega) (by omega);have hw4:IntKind.wrap .u64 (x.to+1)=x.to+1:=qdB (by omega) (by omega);rw[hd,qiV] at hE
   by_cases c1:x.fr=nx
   ·subst c1
    by_cases c2:x.to<x.fr
    ·rw[if_pos (.inr c2)] at hE;simp +decide only[↓vS,vT,simprocAttr,hlt',hlt,h3,hel,cSp,hw2,c2,← hE];simp[vZ]
    ·rw[if_neg (by simp[c2])] at hE;simp +decide only[↓vS,vT,simprocAttr,hlt',hlt,h3,hel,cSp,hw2,hw3,hw4,c2,hw1];exact ih (i+1,x.to+1) _ _ (by simp only;omega) (by simp[qf,qi,Tr.get_set]) ⟨by simp only;omega,rfl,hE⟩
   ·rw[if_pos (.inl c1)] at hE;simp +decide only[↓vS,vT,simprocAttr,hlt',hlt,h3,hel,cSp,hw2,c1,← hE];simp[vZ]
  ·obtain rfl:i=l.length:=by omega
   have hlt':¬((l.length:Int)<l.length):=by omega
   rw[List.drop_length,qiV] at hE;simp +decide only[↓vS,vT,simprocAttr,hlt',hE];simp[vZ]
 ·simp[qf,qi,Tr.get_set]
 ·exact⟨Nat.zero_le _,rfl,rfl⟩
def zw(l:List Sp)(at':Nat):List Nd :=
 if _h:l.length / 2=0 then [⟨true,(l.headD ⟨0,0,0⟩).way,0,0,0⟩] else
  ⟨false,0,(l.getD (l.length / 2) ⟨0,0,0⟩).fr,at'+1,at'+1+(zw (l.take (l.length / 2)) (at'+1)).length⟩::(zw (l.take (l.length / 2)) (at'+1)++zw (l.drop (l.length / 2)) (at'+1+(zw (l.take (l.length / 2)) (at'+1)).length))
termination_by l.length
decreasing_by all_goals (simp;omega)
theorem qcN(n:Nat):∀(l:List Sp) (a:Nat),l.length<=n->0<l.length->(zw l a).length+1=2*l.length:=by
 induction n with
 | zero=>intro l a h1 h2;omega
 | succ n ih =>
  intro l a h1 h2;rw[zw];split
  ·simp;omega
  ·simp only[List.length_cons,List.length_append];have e1:=ih (l.take (l.length / 2)) (a+1) (by simp;omega) (by simp;omega);have e2:=ih (l.drop (l.length / 2)) (a+1+(zw (l.take (l.length / 2)) (a+1)).length) (by simp;omega) (by simp;omega);simp at e1 e2;omega
theorem qtZ{l:List Sp}{k:Nat}:(rSp l).take (k*3)=rSp (l.take k):=qfW qfR l k
theorem qtX{l:List Sp}{k:Nat}:(rSp l).drop (k*3)=rSp (l.drop k):=qd9 qfR l k
theorem qo9{l m:List Nd}:rNd l++rNd m=rNd (l++m):=by simp[rNd]
theorem qtV{l:List Nd}:qu (rNd l)=true:=x9 fun _=>rfl
def jx:IFn:=⟨[],.seq (.r [.n 6 0,.e 7 6,.w 8 .quo 7 2,.n 4 8]) (.seq (.seq (.r [.n 9 4,.w 10 .eql 9 0]) (.cond (.t 10) (.seq (.reg true [.d 11 1,.n 12 0,.q 13 (.iAddrS 3 (.t 12) (.k 0)),.f 14 2 13,.d 15 14,.q 16 (.build [.b false,.i .i64 0,.i .u32 0,.i .i64 0,.i .i64 0] [(0,1,.T),(1,1,(.t 15))]),.q 17 (.buildS 1 [.b false,.i .i64 0,.i .u32 0,.i .i64 0,.i .i64 0] [(0,5,(.t 16))]),.q 18 (.app 5 40 true (.t 11) (.t 17)),.u (.store 1 (.t 1) (.t 18))]) (.ret)) (.skip))) (.seq (.r [.d 19 1,.e 20 19,.n 5 20]) (.seq (.reg true [.d 21 1,.n 22 0,.n 23 4,.i 24 3 22 23,.f 25 0 24,.d 26 25,.n 27 5,.a 28 27 1,.q 29 (.build [.b false,.i .i64 0,.i .u32 0,.i .i64 0,.i .i64 0] [(2,1,(.t 26)),(3,1,(.t 28))]),.q 30 (.buildS 1 [.b false,.i .i64 0,.i .u32 0,.i .i64 0,.i .i64 0] [(0,5,(.t 29))]),.q 31 (.app 5 40 true (.t 21) (.t 30)),.u (.store 1 (.t 1) (.t 31))]) (.seq (.reg true [.d 32 2,.n 33 0,.n 34 4,.n 35 4,.q 36 (.slcS 3 (.t 33) none (some (.t 34)) (some (.t 35))),⟨(some 37),.callVW (.t 32) [.t 36],none⟩]) (.seq (.r [.d 38 1,.n 39 5,.d 40 1,.e 41 40,.i 42 5 38 39,.f 43 4 42,.u (.store 1 (.t 43) (.t 41))]) (.reg true [.d 44 2,.n 45 0,.n 46 4,.n 47 0,.e 48 47,.n 49 0,.e 50 49,.q 51 (.slcS 3 (.t 45) (some (.t 46)) (some (.t 48)) (some (.t 50))),⟨(some 52),.callVW (.t 44) [.t 51],none⟩]))))))⟩
theorem qpo{h:Hp}{esz n c:Nat}{q2 q3:IntKind}{cs:List AV}{k:AV->Prop}(h1:0<c)(h2:c<=n)(h3:c*esz<=cs.length):slK esz none (some (.i q2 (c:Int))) (some (.i q3 (c:Int))) (.fz n cs) h k↔evA (.fz c (cs.take (c*esz))) k:=by
 have hne:Nat.beq c 0=false:=by
  cases hb:Nat.beq c 0 with
  | false=>rfl
  | true=>have:=Nat.eq_of_beq_eq_true hb;omega
 simp only[slK,qi2,qiZ];show (ifK (c<=n) (ifK (c<=c) _))↔_;simp only[ifK,h2,Nat.le_refl,true_and,Option.isSome_some,hne,Bool.true_and,Bool.false_eq_true,if_false];show (0*esz<=cs.length∧(c-0)*esz<=(cs.drop (0*esz)).length∧_)↔_;simp only[Nat.zero_mul,Nat.zero_le,Nat.sub_zero,List.drop_zero,h3,true_and];exact Iff.rfl
theorem qwM{l:List Nd}{j:Nat}{x:Nd}(m:Nat)(h:l[j]?=some x):(rNd l).take (j*5+4) ++ .i .i64 (m:Int)::(rNd l).drop (j*5+4+1)=rNd (l.set j ⟨x.leaf,x.way,x.at',x.less,m⟩) :=
 qfm (f:=cNd) (x':=⟨x.leaf,x.way,x.at',x.less,m⟩) (v:=.i .i64 (m:Int)) (i:=4) qi3 h (by omega) rfl
noncomputable def qh2(tr:Tr Blk)(s bt b1:Nat)(T:List Nd)(x:Nd):Tr Blk:=(((tr.set s (.cells 0 true false (cNd x))).set bt .dead).set (s+1) (.cells 5 true true (rNd T++cNd x))).set b1 (.cells 0 true false [.own (s+1) (T.length+1)])
theorem qzn{g:Nat}(hc:qc P g jx=true):∀(n:Nat) (l:List Sp),l.length<=n->0<l.length->∀(s:Nat) (tr:Tr Blk) (b1 b2 bt:Nat) (T:List Nd),tr.get b1=some (.cells 0 true false [.own bt T.length])->tr.get bt=some (.cells 5 true true (rNd T))->
  tr.get b2=some (.cells 0 true false [.fn g [] [.ptr b1 0,.ptr b2 0]])->b1≠bt->b2≠bt->b1≠b2->b1<s->b2<s->bt<s->T.length+2*l.length<=1000000->
  ∃s' tr' bt',s<=s'∧(∀b,b<s->b≠b1->b≠bt->tr'.get b=tr.get b)∧tr'.get b1=some (.cells 0 true false [.own bt' (T++zw l T.length).length])∧tr'.get bt'=some (.cells 5 true true (rNd (T++zw l T.length)))∧(bt'=bt∨s<=bt')∧bt'<s' ∧
   ∀k:AV->Hp->Prop,k (.tup []) ⟨s',0,tr'⟩->SC P g [.fz l.length (rSp l),.ptr b1 0,.ptr b2 0] ⟨s,0,tr⟩ k:=by
 intro n
 induction n with
 | zero=>intro l h1 h2;omega
 | succ n ih =>
  intro l hn h0 s tr b1 b2 bt T g1 gt g2 n1 n2 n3 l1 l2 l3 hm
  have e2:((l.length:Nat):Int).tdiv 2=((l.length / 2:Nat):Int):=by
   rw[Int.tdiv_eq_ediv_of_nonneg (by omega)];omega
  have ew:IntKind.wrap .i64 ((l.length / 2:Nat):Int)=((l.length / 2:Nat):Int):=qq (by omega) (by omega);have h20:(2:Int)≠0:=by decide
  have r1:T.length+1<=qg:=by simp only[qg];omega
  have r2:(T.length+1)*40<=qg:=by simp only[qg];omega
  have m1:¬b1=s:=by omega
  have m2:¬b2=s:=by omega
  have m3:¬bt=s:=by omega
  have m4:¬s=bt:=by omega
  have m5:¬b1=bt:=n1;have m6:¬b1=s+1:=by omega
  have hTl:(rNd T).length=T.length*5:=qjh
  by_cases hk:l.length / 2=0
  ·have hl1:l.length=1:=by omega
   obtain⟨x,rfl⟩:∃x,l=[x]:=List.length_eq_one_iff.1 hl1;have hT:zw [x] T.length=[⟨true,x.way,0,0,0⟩]:=by rw[zw];simp
   rw[hT];refine⟨s+1+1,qh2 tr s bt b1 T ⟨true,x.way,0,0,0⟩,s+1,by omega,?_,?_,?_,.inr (by omega),by omega,fun k hk=>?_⟩
   ·intro b q1 q2 q3;simp only[qh2,Tr.get_set];repeat rw[if_neg (by omega)]
   ·rw[qh2,Tr.get_set,if_pos rfl];simp
   ·rw[qh2,Tr.get_set,if_neg (by omega),Tr.get_set,if_pos rfl,← qo9];rfl
   ·refine SC.mk hc (qj ?_);simp only[jx,vI,simprocAttr];simp +decide only[↓vS,vT,simprocAttr,↓qi0 h20,e2,ew];refine zD ?_;simp +decide only[↓vS,vT,simprocAttr,rSp,cSp,List.flatMap_cons,List.flatMap_nil,g1,gt,m1,m2,m3,m4,m5,m6,r1,r2,hTl];exact hk
  ·have hk0:¬(((l.length / 2:Nat)):Int)=0:=by omega
   obtain⟨x,hx⟩:∃x,l[l.length / 2]?=some x:=⟨_,zzE (by omega)⟩;have hxD:l.getD (l.length / 2) ⟨0,0,0⟩=x:=by rw[List.getD_eq_getElem?_getD,hx];rfl
   have gx:=qpf hx (i:=0) (by omega);have gx':(rSp l)[l.length / 2*3]?=some (.i .u32 x.fr):=gx;have hlk:l.length / 2<l.length:=by omega
   have hw1:IntKind.wrap .i64 ((T.length:Int)+1)=((T.length+1:Nat):Int):=by rw[qq (by omega) (by omega)];simp
   obtain⟨nd,hnd⟩:∃nd:Nd,nd=⟨false,0,x.fr,T.length+1,0⟩:=⟨_,rfl⟩;have a1:(qh2 tr s bt b1 T nd).get b1=some (.cells 0 true false [.own (s+1) (T++[nd]).length]):=by rw[qh2,Tr.get_set,if_pos rfl];simp
   have at1:(qh2 tr s bt b1 T nd).get (s+1)=some (.cells 5 true true (rNd (T++[nd]))):=by rw[qh2,Tr.get_set,if_neg (by omega),Tr.get_set,if_pos rfl,← qo9];simp[rNd]
   have ae:∀b,b<s->b≠b1->b≠bt->(qh2 tr s bt b1 T nd).get b=tr.get b:=fun b q1 q2 q3=>by
    simp only[qh2,Tr.get_set];repeat rw[if_neg (by omega)]
   obtain⟨s2,tr2,bt2,q1,q2,q3,q4,q5,q6,q7⟩:=ih (l.take (l.length / 2)) (by simp;omega) (by simp;omega) (s+1+1) (qh2 tr s bt b1 T nd) b1 b2 (s+1) (T++[nd]) a1 at1 ((ae b2 l2 (Ne.symm n3) n2).trans g2) (by omega) (by omega) n3 (by omega) (by omega) (by omega) (by simp;omega);have hlt:(l.take (l.length / 2)).length=l.length / 2:=by simp;omega
   rw[show (T++[nd]).length=T.length+1 by simp] at q3 q4
   have htl:=qcN l.length (l.take (l.length / 2)) (T.length+1) (by simp;omega) (by simp;omega);rw[hlt] at q7 htl;obtain⟨L,hL⟩:∃L,L=zw (l.take (l.length / 2)) (T.length+1):=⟨_,rfl⟩;rw[← hL] at q3 q4 htl;have hget:(T++[nd]++L)[T.length]?=some nd:=by simp
   have hT3:(T++[nd]++L).set T.length ⟨nd.leaf,nd.way,nd.at',nd.less,(T++[nd]++L).length⟩=T++[⟨false,0,x.fr,T.length+1,T.length+1+L.length⟩]++L:=by
    rw[hnd];simp[List.set_append];omega
   have hset:=qwM (T++[nd]++L).length hget;rw[hT3] at hset;have hl3:T.length*5+4+1<=(rNd (T++[nd]++L)).length:=by rw[qjh];simp;omega
   have hn5:b1≠bt2:=by omega
   have hn6:b2≠bt2:=by omega
   obtain⟨T3,hT3e⟩:∃T3:List Nd,T3=T++[⟨false,0,x.fr,T.length+1,T.length+1+L.length⟩]++L:=⟨_,rfl⟩;have hT3l:T3.length=(T++[nd]++L).length:=by rw[hT3e];simp
   have b2g:=(q2 b2 (by omega) (Ne.symm n3) (by omega)).trans ((ae b2 l2 (Ne.symm n3) n2).trans g2)
   obtain⟨s4,tr4,bt4,p1,p2,p3,p4,p5,p6,p7⟩:=ih (l.drop (l.length / 2)) (by simp;omega) (by simp;omega) s2 (tr2.set bt2 (.cells 5 true true (rNd T3))) b1 b2 bt2 T3 (by rw[Tr.get_set,if_neg hn5,q3,hT3l]) (by rw[Tr.get_set,if_pos rfl])
    (by rw[Tr.get_set,if_neg hn6];exact b2g) hn5 hn6 n3 (by omega) (by omega) (by omega) (by rw[hT3l];simp;omega)
   have hld:(l.drop (l.length / 2)).length=l.length-l.length / 2:=by simp
   rw[hld] at p7
   have hfin:T++zw l T.length=T3++zw (l.drop (l.length / 2)) T3.length:=by
    have e3:T3.length=T.length+1+L.length:=by rw[hT3l];simp;omega
    conv=>lhs;rw[zw,dif_neg hk]
    rw[hxD,← hL,e3,hT3e];simp
   refine⟨s4,tr4,bt4,by omega,?_,?_,?_,by omega,p6,fun k hkk=>?_⟩
   ·intro b e1 e2 e3;rw[p2 b (by omega) e2 (by omega),Tr.get_set,if_neg (by omega),q2 b (by omega) e2 (by omega)];exact ae b e1 e2 e3
   ·rw[hfin];exact p3
   ·rw[hfin];exact p4
   ·have v1:(qh2 tr s bt b1 T nd).get b2=some (.cells 0 true false [.fn g [] [.ptr b1 0,.ptr b2 0]]):=(ae b2 l2 (Ne.symm n3) n2).trans g2;have k1:0<l.length / 2:=by omega
    have k2:l.length / 2<=l.length:=by omega
    have k3:l.length / 2*3<=(rSp l).length:=by rw[qeM];omega
    have k4:l.length / 2<l.length:=hlk;have k5:l.length<=l.length:=Nat.le_refl _;have k6:l.length*3<=(rSp l).length:=by rw[qeM];omega
    have hsl1:(rSp l).take (l.length / 2*3)=rSp (l.take (l.length / 2)):=qtZ
    have hsl2:((rSp l).drop (l.length / 2*3)).take ((l.length-l.length / 2)*3)=rSp (l.drop (l.length / 2)):=by
     rw[qtX,List.take_of_length_le (by rw[qeM,hld];omega)]
    refine SC.mk hc (qj ?_);simp only[jx,vI,simprocAttr];simp +decide only[↓vS,vT,simprocAttr,↓qi0 h20,e2,ew,hk0,g1];refine zD ?_;simp +decide only[↓vS,vT,simprocAttr,g1,gt,gx',hlk,hw1,m1,m2,m3,m4,m5,m6,r1,r2,hTl];refine zD ?_;rw[hnd] at q7;simp only[qh2,cNd] at q7;have m7:¬b2=b1:=Ne.symm n3;have m8:¬b2=s+1:=by omega
    have m9:¬b2=bt:=n2;simp +decide only[↓vS,vT,simprocAttr,m7,m8,m9,m2,g2,↓qpo k1 k2 k3,hsl1];refine⟨.tup [],_,q7,?_⟩;obtain⟨A,hA⟩:∃A,A=T++[nd]++L:=⟨_,rfl⟩;have k7:T.length<A.length:=by rw[hA];simp
    rw[← hA] at q3 q4 hl3 hset;rw[← hT3e] at hset;have k8:¬b1=bt2:=hn5;have k9:¬b2=bt2:=hn6;simp +decide only[↓vS,vT,simprocAttr,q3,q4,k7,k8,hl3,hset];refine zD ?_;simp +decide only[↓vS,vT,simprocAttr,k9,b2g,↓qAU k4 k5 k6,hsl2];exact⟨.tup [],_,p7,hkk⟩
def qeb(a b:Nat):ICode:=.seq (.r [.d 10 5,.n 11 0,⟨(some 12),.callV (.t 10) [.t 11],none⟩]) (.seq (.r [.d 13 4,.n 2 13,.m 3 (.k 0)]) (.ret))
def qdK(a b:Nat):IFn:=⟨[.tmp 2,.tmp 3],.seq (.r [.m 2 .N,.m 3 (.k 0)]) (.seq (.seq (.r [.n 6 0,.l 7 a [.t 6],.q 8 (.un .not (.t 7))]) (.cond (.t 8) (.seq (.r [.m 2 .N,.m 3 (.k 240)]) (.ret)) (.skip))) (.seq (.r [.q 4 (.alloc [.nils])]) (.seq (.r [.q 5 (.alloc [.nilf])]) (.seq (.r [.q 9 (.mkF b [] [.t 4,.t 5]),.u (.store 1 (.t 5) (.t 9))]) (.cut (qeb a b))))))⟩
def qou(l:List Sp):AV:=if qiV l 0=true then .tup [.fz (zw l 0).length (rNd (zw l 0)),.i .i64 0] else .tup [.fz 0 [],.i .i64 240]
theorem qq1{g1 g2:Nat}(hc:qc P f (qdK g1 g2)=true)(h2:qc P g2 jx=true)(l:List Sp)(h1:qd P g1 [.fz l.length (rSp l)] (.b (qiV l 0)))(hl:l.length<=400000)(h0:0<l.length):qd P f [.fz l.length (rSp l)] (qou l):=by
 refine qd.mk hc (by simp[qu,clo,qel]) ?_;simp only[qdK,vI,simprocAttr];simp +decide only[↓vS,vT,simprocAttr];refine h1.sc ?_;unfold qou;cases hw:qiV l 0 with
 | false =>
  simp +decide only[↓vS,vT,simprocAttr];simp[vZ]
 | true =>
  simp +decide only[↓vS,vT,simprocAttr];refine S.weak (Wk.mk [(0,.fz l.length (rSp l)),(4,.ptr 0 0),(5,.ptr 1 0)] [.cells 0 true false [.own 2 0],.cells 0 true false [.fn g2 [] [.ptr 0 0,.ptr 1 0]],.cells 5 true true []] [0,1,99] ?_ ?_ ?_ rfl) (qj ?_)
  ·simp[vw,qel]
  ·simp[vw]
  ·simp
  simp only[qeb,vI,simprocAttr];simp +decide only[↓vS,vT,simprocAttr]
  obtain⟨s',tr',bt',q1,q2,q3,q4,q5,q6,q7⟩:=qzn h2 l.length l (Nat.le_refl _) h0 3 (((Tr.leaf.set 0 (.cells 0 true false [.own 2 0])).set 1 (.cells 0 true false [.fn g2 [] [.ptr 0 0,.ptr 1 0]])).set 2 (.cells 5 true true [])) 0 1 2 []
   (by simp[Tr.get_set]) (by simp[Tr.get_set,rNd]) (by simp[Tr.get_set]) (by decide) (by decide) (by decide) (by decide) (by decide) (by decide) (by simp;omega)
  refine q7 _ ?_;simp +decide only[↓vS,vT,simprocAttr,q3];simp[vZ,vP,q4,zp qtV];intro h;rw[h];rfl
def qcq:List GTest->Nat
 | []=>1
 | t::ts=>qbz t+if t.mask=0 then 0 else qcq ts
theorem qki:∀{ts:List GTest} {a:Int} {p:Nat},(qbS ts a p).length=qcq ts
 | [],_,_=>rfl
 | t::ts,a,p=>by
  unfold qbS qcq;rw[List.length_append,qcM];split
  ·rfl
  ·rw[qki]
def ql0(r:GRule):Nat:=qcq r.tests
theorem qkb{r:GRule}{p:Nat}:(qqU r p).length=ql0 r:=qki
theorem qir:∀{ts:List GTest},qcq ts<=ts.length*7+1
 | []=>by simp[qcq]
 | t::ts=>by
  unfold qcq;have:=qnB (t:=t);have:=qir (ts:=ts)
  simp only[List.length_cons];split<;>omega
def zT:List GRule->Nat->List Sy
 | [],_=>[]
 | r::rs,p=>qqU r p++zT rs (p+ql0 r)
def zh(rs:List GRule):Nat:=(rs.map ql0).sum
theorem qa5:∀{rs:List GRule} {p:Nat},(zT rs p).length=zh rs
 | [],_=>rfl
 | r::rs,p=>by unfold zT;rw[List.length_append,qkb,qa5];simp[zh]
theorem qiN:∀{rs:List GRule} {r:GRule} {p:Nat},zT (rs++[r]) p=zT rs p++qqU r (p+zh rs)
 | [],r,p=>by simp[zT,zh]
 | x::rs,r,p=>by rw[List.cons_append,zT,zT,qiN,List.append_assoc];simp[zh];congr 1;omega
theorem qin:∀{rs:List GRule},(∀r ∈ rs,r.tests.length<=32)->zh rs<=rs.length*225
 | [],_=>by simp[zh]
 | r::rs,h=>by
  have:=qir (ts:=r.tests);have:=h r (by simp);have:=qin (rs:=rs) fun x hx=>h x (by simp[hx])
  simp[zh,ql0] at this ⊢;omega
theorem qiO{rs:List GRule}{i:Nat}:zh (rs.take i)<=zh rs:=by
 have h:zh rs=zh (rs.take i)+zh (rs.drop i):=by
  conv=>lhs;rw[← List.take_append_drop i rs]
  simp only[zh,List.map_append,List.sum_append]
 omega
def qI(rs:List GRule):List (Int×Nat):=rs.mapIdx fun i r=>(r.nr,i+1)
theorem qaD{rs:List GRule}:(qI rs).length=rs.length:=by simp[qI]
theorem qcJ{rs:List GRule}{j:Nat}:(qI rs)[j]?=(rs[j]?).map fun r=>(r.nr,j+1):=by simp[qI]
def qO(x:GFil):List Nd:=zw (zG (pcs 0 (qI x.rules) 0)) 0
def jaN:List Nd->Nat
 | n::_=>if n.leaf=true then 1 else 0
 | []=>0
theorem qlI{FW:Nat->Nat}{T:List Nd}:(jaE FW T).length=jaN T:=by
 cases T with
 | nil=>rfl
 | cons n T=>simp only[jaE,jaN];split<;>rfl
theorem ji{FW:Nat->Nat}{T:List Nd}{p:Nat}:(xd FW T p).length=jaN T+z9 T:=by
 unfold xd;rw[List.length_append,qlI,qoz]
def jn(x:GFil):Nat:=ju x.arch+(jaN (qO x)+z9 (qO x))
def xK(x:GFil)(j:Nat):Nat:=if j=0 then jn x else jn x+1+zh (x.rules.take (j-1))
def xH(x:GFil):Nat:=jn x+1+zh x.rules
def ze(x:GFil):List Sy:=qa3 x.arch 0 (xH x)++xd (xK x) (qO x) (ju x.arch)++[⟨6,x.dflt,0,0⟩]++zT x.rules (jn x+1)++[⟨6,2147418112,0,0⟩]
theorem qkM{x:GFil}:(ze x).length=xH x+1:=by
 unfold ze xH jn;simp only[List.length_append,jA,ji,qa5,List.length_singleton]
structure FilR (x:GFil):Prop where
 nr:∀r ∈ x.rules,0<=r.nr∧r.nr<4294967296
 ts:∀r ∈ x.rules,∀t ∈ r.tests,0<=t.mask∧t.mask<18446744073709551616∧0<=t.val∧t.val<18446744073709551616
theorem Stp.kd'{L L':List Nat}{κ κ1:Nat->Kd}{s s1:Nat}{tr t1 t2:Tr Blk}(a:Stp L κ s tr κ1 s1 t1){b F':Nat}(hb:κ b = .no)(hf:∀c,κ1 c = .fr->t2.get c=t1.get c)(hx:∀c,κ1 c = .box->t2.get c=t1.get c)(hL:∀c ∈ L,c=b∨c ∈ L'):Stp L' κ s tr (kdS κ1 b (.lab F' true)) s1 t2:=by
 have ne:∀{c},κ c≠.no->c≠b:=fun h e=>h (e ▸ hb)
 refine⟨a.le,fun c hc=>?_,fun c hc=>?_,fun c F p hc=>?_,fun c F hc=>?_⟩
 ·rw[qe (ne (by rw[hc];simp))];exact⟨(a.fr c hc).1,(hf c (a.fr c hc).1).trans (a.fr c hc).2⟩
 ·rw[qe (ne (by rw[hc];simp))];exact⟨(a.box c hc).1,(hx c (a.box c hc).1).trans (a.box c hc).2⟩
 ·rw[qe (ne (by rw[hc];simp))];exact a.lab c F p hc
 ·by_cases e:c=b
  ·rw[e,qA] at hc;cases hc
  ·rw[qe e] at hc;rcases a.nw c F hc with h|h
   ·exact .inl h
   ·exact .inr ((hL c h).resolve_left e)
def qgR(n b:Nat):AV:=if n=0 then .sl b 0 1 1 false else .own b (n+1)
theorem qoU{n b:Nat}:qgR n b = .sl b 0 (n+1) (n+1) false∨qgR n b = .own b (n+1):=by
 unfold qgR;split
 ·rename_i h;subst h;exact .inl rfl
 ·exact .inr rfl
section
variable {g w s gl gp gj gh gr g1 g2 g3 g4 g5:Nat} {κ:Nat->Kd} {tr:Tr Blk} {RV:List Sy} {N:List Nat} {k:AV->Hp->Prop}
def qaB(a b c d e g h i j:Nat):ICode:=.seq (.seq (.r [.f 88 1 1,.d 89 88,.e 90 89,.m 91 (.k 0)]) (.blk 2 (.loop (.seq (.r [.s 92 91 90]) (.seq (.cond (.t 92) (.skip) (.exit 2)) (.seq (.blk 3 (.seq (.r [.n 93 91,.i 94 3 89 91,.v 95 3 94,.q 16 (.alloc [.i .u32 0,.nils,.i .u32 0]),.n 15 93,.u (.store 3 (.t 16) (.t 95))]) (.seq (.r [.n 96 4,.n 97 8,.n 98 15,.a 99 98 1,.i 100 1 97 99,.d 101 100,.l 102 g [.t 96,.t 101]]) (.r [.n 103 4,.v 104 3 16,.l 105 i [.t 103,.t 104]])))) (.r [.a 106 91 1,.n 91 106]))))))) (.seq (.r [.n 107 4,.n 108 5,.l 109 g [.t 107,.t 108]]) (.seq (.r [.n 110 4,.l 111 h [.t 110,(.c (.i .u32 2147418112))]]) (.seq (.r [.n 112 4,.l 113 j [.t 112],.n 2 113,.m 3 (.k 0)]) (.ret))))
def qci(a b c d e g h i j:Nat):ICode:=.seq (.r [.n 65 6,.n 66 7,.l 67 c [.t 65,.t 66,.k 0],.n 64 67,.x 68 64 0,.x 69 64 1,.n 11 68,.n 12 69]) (.seq (.r [.n 71 11,.l 72 d [.t 71],.n 70 72,.x 73 70 0,.x 74 70 1,.n 13 73,.n 14 74]) (.seq (.r [.n 75 4,.n 76 13,.n 77 8,.l 78 e [.t 75,.t 76,.t 77]]) (.seq (.r [.n 79 4,.n 80 8,.q 81 (.iAddrS 1 (.t 80) (.k 0)),.d 82 81,.l 83 g [.t 79,.t 82]]) (.seq (.r [.n 84 4,.f 85 2 1,.d 86 85,.l 87 h [.t 84,.t 86]]) (.cut (qaB a b c d e g h i j))))))
def qch(a b c d e g h i j:Nat):ICode:=.seq (.r [.n 24 4,.f 25 0 1,.d 26 25,.n 27 5,.l 28 b [.t 24,.t 26,.t 27]]) (.seq (.reg true [.f 29 1 1,.d 30 29,.e 31 30,.q 32 (.mkS 1 4 [.i .u32 0] (.t 31) (.t 31)),.f 33 1 1,.d 34 33,.e 35 34,.q 36 (.mkS 1 8 [.i .i64 0] (.t 35) (.t 35)),.n 6 32,.n 7 36]) (.seq (.r [.q 37 (.build [.i .i64 0] []),.q 38 (.box (.t 37)),.q 39 (.buildS 1 [.nilp] [(0,1,(.t 38))]),.n 8 39]) (.seq (.seq (.r [.f 40 1 1,.d 41 40,.e 42 41,.m 43 (.k 0)]) (.blk 0 (.loop (.seq (.r [.s 44 43 42]) (.seq (.cond (.t 44) (.skip) (.exit 0)) (.seq (.blk 1 (.seq (.r [.n 45 43,.i 46 3 41 43,.v 47 3 46,.q 10 (.alloc [.i .u32 0,.nils,.i .u32 0]),.n 9 45,.u (.store 3 (.t 10) (.t 47))]) (.seq (.r [.n 48 6,.n 49 9,.n 50 7,.n 51 9,.f 52 0 10,.d 53 52,.n 54 9,.a 55 54 1,.i 56 1 48 49,.u (.store 1 (.t 56) (.t 53)),.i 57 1 50 51,.u (.store 1 (.t 57) (.t 55))]) (.r [.n 58 8,.q 59 (.build [.i .i64 0] []),.q 60 (.box (.t 59)),.q 61 (.buildS 1 [.nilp] [(0,1,(.t 60))]),.q 62 (.app 1 8 true (.t 58) (.t 61)),.n 8 62])))) (.r [.a 63 43 1,.n 43 63]))))))) (.cut (qci a b c d e g h i j)))))
def qeC(a b c d e g h i j:Nat):IFn:=⟨[.tmp 2,.tmp 3],.seq (.r [.q 1 (.box (.t 0)),.m 2 .N,.m 3 (.k 0)]) (.seq (.seq (.r [.v 17 3 1,.l 18 a [.t 17],.q 19 (.un .not (.t 18))]) (.cond (.t 19) (.seq (.r [.m 2 .N,.m 3 (.k 210)]) (.ret)) (.skip))) (.seq (.r [.q 20 (.build [.nils,.nils] []),.q 21 (.box (.t 20)),.q 22 (.build [.i .i64 0] []),.q 23 (.box (.t 22)),.n 4 21,.n 5 23]) (.cut (qch a b c d e g h i j))))⟩
structure EFn (P:Program) (g gl gp gj gh gr go gb gR gd gt gH gA gB gC gD:Nat):Prop where
 W:WFn P g gl gp gj gh gr
 own:qc P go (qaX gD gl gj gh)=true
 br:qc P gb (qad gj gh)=true
 rule:qc P gR (qaK gt gr)=true
 test:qc P gt (x4 gA gB gC gH gr gh)=true
 half:qc P gH (xi gl gp gj gh)=true
 done:qc P gd zb=true
 dj:qc P g qK=true
 lo:qpO P gA 0
 hi:qpO P gB 4
 hal:qu9 P gC
 tok:qnW P gD
theorem qlf{t:GTest}(h:qbh t=true):0<=t.arg∧t.arg<6:=by
 simp only[qbh,Bool.and_eq_true,decide_eq_true_eq] at h;exact h.1.1
theorem qh7:∀{rs:List GRule} {o:Option GRule},upR o rs=true->∀r ∈ rs,qbf r=true
 | [],_,_,_,hr=>by cases hr
 | x::rs,o,h,r,hr=>by
  simp only[upR,Bool.and_eq_true] at h;rcases List.mem_cons.1 hr with rfl|hr
  ·exact h.1.1
  ·exact qh7 h.2 r hr
variable {go gb gR gd gt gH gA gB gC gD gM gS gT:Nat}
theorem qr3{n0 sb bf bN bL e:Nat}{wf a:Bool}{κb:Nat->Kd}{tb:Tr Blk}{L:List Nat}(E:EFn P g gl gp gj gh gr go gb gR gd gt gH gA gB gC gD)(x:GFil)(hx:FilR x)(hK:∀r ∈ x.rules,qbf r=true)(hn:x.rules.length<=400){pre:List Sy}(hpre:pre.length=jn x+1)(hd1:jn x<=10000)
  (h:WI g w κ s tr pre []) (st:Stp L κb sb tb κ s tr) (xs:List Nat) (hxl:xs.length=x.rules.length+1) (hxs:∀(j:Nat) c,xs[j]?=some c->∃p,κ c = .lab (xK x j) p) (hL0:κ bL = .fr) (gL:tr.get bL=some (.cells e wf a (rPt xs)))
  (hf0:κ bf = .fr) (gf:tr.get bf=some (.cells 0 true false (qS x))) {pN:Bool} (hN:κ bN = .lab (xH x) pN) (hbN:κb bN = .no) (hL:∀c ∈ L,c=bN∨∃j:Nat,1<=j∧xs[j]?=some c) (hnew:∀(j:Nat) c,xs[j]?=some c->κb c = .no) (hno:∀b F,κb b≠.lab F false)
  {t:Tr AV} (ht:Has t [(1,.ptr bf 0),(4,.ptr w 0),(5,.ptr bN 0),(8,qgR x.rules.length bL)]) :
  S P n0 (qaB gM go gS gT gb gh gr gR gd) (qac [.tmp 2,.tmp 3] fun v' h'=>Frz h' v' (.tup [.fz (pre++zT x.rules (jn x+1)++([⟨6,2147418112,0,0⟩]:List Sy)).length (rSy (pre++zT x.rules (jn x+1)++[⟨6,2147418112,0,0⟩])),.i .i64 0])) t ⟨s,0,tr⟩:=by
 refine S.has _ ht (qj ?_)
 have hts:∀r ∈ x.rules,r.tests.length<=32:=fun r hr=>by
  have:=hK r hr;simp only[qbf,Bool.and_eq_true,decide_eq_true_eq] at this;exact this.1.1
 have hrN:=qin hts;simp only[qaB,vI,simprocAttr];simp +decide only[↓vS,vT,simprocAttr,gf,qS]
 refine SL.loopP (α:=Nat) (fun i=>[(1,.ptr bf 0),(4,.ptr w 0),(5,.ptr bN 0),(8,qgR x.rules.length bL),(89,.fz x.rules.length (rR x.rules)),(90,.i .i64 (x.rules.length:Int)),(91,.i .i64 (i:Int))])
  (fun i h=>i<=x.rules.length∧∃L' κ' s' tr',h=⟨s',0,tr'⟩∧Stp L' κb sb tb κ' s' tr'∧WI g w κ' s' tr' (pre++zT (x.rules.take i) (jn x+1)) []∧(∀(j:Nat) c,xs[j]?=some c->∃p,κ' c = .lab (xK x j) p)∧κ' bL = .fr∧tr'.get bL=some (.cells e wf a (rPt xs)) ∧
   (∃p,κ' bN = .lab (xH x) p)∧(∀c ∈ L',c=bN∨∃j:Nat,i+1<=j∧xs[j]?=some c)) (fun i=>x.rules.length-i) ?_ 0 ?_ ?_
 ·rintro i h1 ⟨hi,L',κ',s',tr',rfl,st',w',hxs',hL0',gL',⟨pN',hN'⟩,hL'⟩ G ih;simp only[vI,simprocAttr]
  by_cases hlt:i<x.rules.length
  ·have hlt':(i:Int)<x.rules.length:=by omega
   obtain⟨r,hr⟩:∃r,x.rules[i]?=some r:=⟨_,zzE hlt⟩;obtain⟨c,hc⟩:∃c,xs[i+1]?=some c:=⟨_,zzE (by omega)⟩;have hrm:=zzM hr;have hel:((rR x.rules).drop (i*3)).take 3=qM r:=zj qaA hr;have h3:i*3+3<=(rR x.rules).length:=by rw[show (rR x.rules).length=x.rules.length*3 from zl qaA _];omega
   have hw1:IntKind.wrap .i64 ((i:Int)+1)=((i+1:Nat):Int):=by rw[qq (by omega) (by omega)];simp
   obtain⟨wv,sv⟩:=w'.var (.cells 0 true false [.i .u32 0,.nils,.i .u32 0]) (.cells 0 true false (qM r));have hbs:bL<s':=w'.dom bL (by rw[hL0'];simp);have hbs':¬bL=s':=by omega
   have hge:(rPt xs)[i+1]?=some (.ptr c 0):=by rw[qeK,hc];rfl
   have hlt1:i+1<x.rules.length+1:=by omega
   have hT:zh (x.rules.take i)<=zh x.rules:=qiO
   have hlen:(pre++zT (x.rules.take i) (jn x+1)).length=xK x (i+1):=by
    rw[List.length_append,qa5,hpre];simp[xK]
   obtain⟨pc,hpc⟩:=hxs' (i+1) c hc;rw[← hlen] at hpc;have hpc:=sv.lab _ _ _ hpc
   have hcN:c≠bN:=fun e=>by
    rw[e] at hpc;have:=(Kd.lab.inj (hpc.symm.trans (sv.lab _ _ _ hN'))).1;rw[hlen] at this;simp[xK,xH] at this
    have h2:zh x.rules=zh (x.rules.take i)+zh (x.rules.drop i):=by
     conv=>lhs;rw[← List.take_append_drop i x.rules]
     simp only[zh,List.map_append,List.sum_append]
    have h3:x.rules.drop i=r::x.rules.drop (i+1):=by rw[← (zzS.1 hr).2,List.getElem_cons_drop]
    have h4:0<ql0 r:=by unfold ql0;cases r.tests with
     | nil=>simp[qcq]
     | cons t ts=>simp[qcq,qbz];omega
    rw[h3] at h2;simp[zh] at h2 this;omega
   -- behind the label
   have go:∀(k:AV->Hp->Prop),(∀κ3 s3 t3 L3,Stp L3 κb sb tb κ3 s3 t3->WI g w κ3 s3 t3 (pre++zT (x.rules.take (i+1)) (jn x+1)) []->(∀(j:Nat) c,xs[j]?=some c->∃p,κ3 c = .lab (xK x j) p)->κ3 bL = .fr->t3.get bL=some (.cells e wf a (rPt xs))->(∃p,κ3 bN = .lab (xH x) p)->
     (∀c ∈ L3,c=bN∨∃j:Nat,i+1+1<=j∧xs[j]?=some c)->k (.tup []) ⟨s3,0,t3⟩)->∀k2:AV->Hp->Prop,(∀t4,t4.get s'=some (.cells 0 true false (qM r))->(∀k',(∀v h,k v h->k' v h)->SC P gR [.ptr w 0,.agg (qM r)] ⟨s'+1,0,t4⟩ k')->k2 (.tup []) ⟨s'+1,0,t4⟩)->
     SC P gh [.ptr w 0,.ptr c 0] ⟨s'+1,0,(tr'.set s' (.cells 0 true false [.i .u32 0,.nils,.i .u32 0])).set s' (.cells 0 true false (qM r))⟩ k2:=by
    intro k hk k2 hk2;refine qaJ E.W.here wv hpc fun t4 q1 q2 w4=>hk2 t4 ?_ fun k' hkk=>?_
    ·rw[q1 s' qA,Tr.get_set,if_pos rfl]
    have hkl4:∀(j:Nat) c',xs[j]?=some c'->∃p,kdS (kdS κ' s' .fr) c (.lab (pre++zT (x.rules.take i) (jn x+1)).length true) c' = .lab (xK x j) p:=fun j c' hj=>by
     obtain⟨p,hp⟩:=hxs' j c' hj;have hp:=sv.lab _ _ _ hp
     by_cases e:c'=c
     ·rw[e] at hp;have hF:=(Kd.lab.inj (hpc.symm.trans hp)).1;exact⟨true,by rw[e,qA,hF]⟩
     ·exact⟨p,by rw[qe e];exact hp⟩
    have st4:Stp (L'.filter fun y=>decide (y≠c)) κb sb tb (kdS (kdS κ' s' .fr) c (.lab (pre++zT (x.rules.take i) (jn x+1)).length true)) (s'+1) t4 :=
     (st'.trans sv).kd' (hnew _ _ hc) q1 q2 fun y hy=>by
      by_cases e:y=c
      ·exact .inl e
      ·exact .inr (by simp at hy;simp[hy,e])
    have hbLc:bL≠c:=fun e=>by rw[← e,(sv.fr bL hL0').1] at hpc;cases hpc
    refine qAN E.rule E.W E.test E.lo E.hi E.hal E.half w4 r (fun t ht=>?_) (by rw[hlen];have:=hts r hrm;simp only[xK];simp;omega) fun κ5 s5 t5 st5 w5=>hkk _ _ (hk κ5 s5 t5 _ (st4.trans st5) ?_ ?_ ?_ ?_ ?_ ?_)
    ·have q:=hx.ts r hrm t ht;have q2:=qlf (t:=t) (by have:=hK r hrm;simp only[qbf,Bool.and_eq_true,List.all_eq_true] at this;exact this.1.2 t ht)
     exact⟨q2.1,q2.2,q.1,q.2.1,q.2.2.1,q.2.2.2⟩
    ·rw[qaG hr,qiN,← List.append_assoc];rw[List.length_append,qa5,hpre] at w5;exact w5
    ·intro j c' hj;obtain⟨p,hp⟩:=hkl4 j c' hj;exact⟨p,st5.lab _ _ _ hp⟩
    ·exact (st5.fr bL (by rw[qe hbLc];exact (sv.fr bL hL0').1)).1
    ·rw[(st5.fr bL (by rw[qe hbLc];exact (sv.fr bL hL0').1)).2,q1 bL (sv.fr bL hL0').1,(sv.fr bL hL0').2];exact gL'
    ·exact⟨pN',st5.lab _ _ _ (by rw[qe (Ne.symm hcN)];exact sv.lab _ _ _ hN')⟩
    ·intro c' hc';rw[List.append_nil,List.mem_filter,decide_eq_true_eq] at hc';rcases hL' c' hc'.1 with q|⟨j,q1,q2⟩
     ·exact .inl q
     ·refine .inr ⟨j,?_,q2⟩;rcases Nat.lt_or_ge (i+1) j with q|q
      ·omega
      ·obtain rfl:i+1=j:=by omega
       rw[hc] at q2;cases q2;exact absurd rfl hc'.2
   let K0:AV->Hp->Prop:=fun v h=>∃κ3 s3 t3 L3,v = .tup []∧h=⟨s3,0,t3⟩∧Stp L3 κb sb tb κ3 s3 t3∧WI g w κ3 s3 t3 (pre++zT (x.rules.take (i+1)) (jn x+1)) []∧(∀(j:Nat) c,xs[j]?=some c->∃p,κ3 c = .lab (xK x j) p)∧κ3 bL = .fr∧t3.get bL=some (.cells e wf a (rPt xs))∧(∃p,κ3 bN = .lab (xH x) p) ∧
     (∀c ∈ L3,c=bN∨∃j:Nat,i+1+1<=j∧xs[j]?=some c)
   have fin:∀(v:AV) (h:Hp),K0 v h->∀tt,Has tt [(1,.ptr bf 0),(4,.ptr w 0),(5,.ptr bN 0),(8,qgR x.rules.length bL),(89,.fz x.rules.length (rR x.rules)),(90,.i .i64 (x.rules.length:Int)),(91,.i .i64 ((i+1:Nat):Int))]->G tt h:=by
    rintro v h ⟨κ3,s3,t3,L3,rfl,rfl,q1,q2,q3,q4,q5,q6,q7⟩ tt htt;exact ih (i+1) _ _ (by omega) htt ⟨by omega,L3,κ3,s3,t3,rfl,q1,q2,q3,q4,q5,q6,q7⟩
   rcases qoU (n:=x.rules.length) (b:=bL) with hV|hV
   ·rw[hV] at fin ⊢;simp +decide only[↓vS,vT,simprocAttr,hlt',hlt,h3,hel,qM,hw1,hbs',gL',hge,hlt1,Nat.mul_one];refine go K0 (fun κ3 s3 t3 L3 q1 q2 q3 q4 q5 q6 q7=>⟨κ3,s3,t3,L3,rfl,rfl,q1,q2,q3,q4,q5,q6,q7⟩) _ fun t4 h4 hcall=>?_
    simp +decide only[↓vS,vT,simprocAttr,h4,qM];refine hcall _ fun v h hv=>?_
    simp +decide only[↓vS,vT,simprocAttr,hw1];exact fin v h hv _ (by simp[qf,qi,Tr.get_set])
   ·rw[hV] at fin ⊢;simp +decide only[↓vS,vT,simprocAttr,hlt',hlt,h3,hel,qM,hw1,hbs',gL',hge,hlt1,Nat.mul_one];refine go K0 (fun κ3 s3 t3 L3 q1 q2 q3 q4 q5 q6 q7=>⟨κ3,s3,t3,L3,rfl,rfl,q1,q2,q3,q4,q5,q6,q7⟩) _ fun t4 h4 hcall=>?_
    simp +decide only[↓vS,vT,simprocAttr,h4,qM];refine hcall _ fun v h hv=>?_
    simp +decide only[↓vS,vT,simprocAttr,hw1];exact fin v h hv _ (by simp[qf,qi,Tr.get_set])
  ·obtain rfl:i=x.rules.length:=by omega
   have hlt':¬((x.rules.length:Int)<x.rules.length):=by omega
   rw[List.take_length] at w';have hlen:(pre++zT x.rules (jn x+1)).length=xH x:=by rw[List.length_append,qa5,hpre];rfl
   simp +decide only[↓vS,vT,simprocAttr,hlt'];refine qaJ E.W.here w' (b:=bN) (p:=pN') (by rw[hlen];exact hN') fun t4 q1 q2 w4=>?_
   simp +decide only[↓vS,vT,simprocAttr]
   have st4:Stp [] κb sb tb _ _ t4:=st'.kd' (L':=[]) (F':=(pre++zT x.rules (jn x+1)).length) hbN q1 q2 fun c hc=>by
    rcases hL' c hc with q|⟨j,q1,q2⟩
    ·exact .inl q
    ·have:=(zzS.1 q2).1;omega
   refine qk7 E.W.ret E.W.put w4 2147418112 (by rw[hlen];unfold xH;omega) fun κ5 s5 t5 st5 w5=>?_
   simp +decide only[↓vS,vT,simprocAttr];have st6:=st4.trans st5;refine qr1 E.done E.dj w5 (fun b F p hb=>?_) (by rw[List.length_append,hlen];unfold xH;simp;omega) fun t6 b6 q3 q4=>?_
   ·cases p with
    | true=>rfl
    | false =>
     rcases st6.nw b F hb with q|q
     ·exact absurd q (hno b F)
     ·cases q
   ·simp +decide only[↓vS,vT,simprocAttr];simp[vZ,vP,q3];exact Frzs.self (x9 fun _=>rfl)
 ·simp[qf,qi,Tr.get_set]
 ·refine⟨Nat.zero_le _,L,κ,s,tr,rfl,st,?_,hxs,hL0,gL,⟨pN,hN⟩,?_⟩
  ·simpa[zT] using h
  ·intro c hc;rcases hL c hc with q|⟨j,q1,q2⟩
   ·exact .inl q
   ·exact .inr ⟨j,by omega,q2⟩
theorem Stp.mod'{L:List Nat}{κ1:Nat->Kd}{s1:Nat}{t1:Tr Blk}(h:Stp L κ s tr κ1 s1 t1){b:Nat}(hb:κ b = .no)(x:Blk):Stp L κ s tr (kdS κ1 b .fr) s1 (t1.set b x):=by
 have ne:∀{c},κ c≠.no->c≠b:=fun h e=>h (e ▸ hb)
 refine⟨h.le,fun c hc=>?_,fun c hc=>?_,fun c F p hc=>?_,fun c F hc=>?_⟩
 ·have e:=ne (c:=c) (by rw[hc];simp);rw[qe e,Tr.get_set,if_neg e];exact h.fr c hc
 ·have e:=ne (c:=c) (by rw[hc];simp);rw[qe e,Tr.get_set,if_neg e];exact h.box c hc
 ·rw[qe (ne (by rw[hc];simp))];exact h.lab c F p hc
 ·by_cases e:c=b
  ·rw[e,qA] at hc;cases hc
  ·rw[qe e] at hc;exact h.nw c F hc
theorem qC2{s fl b c:Nat}{t:Tr Blk}{x y:Blk}:qgQ ⟨s,fl,t⟩ [(b,x),(c,y)]=⟨s,fl,(t.set b .dead).set c .dead⟩:=rfl
theorem qvu{n0 sb bf bN bL bn bw e:Nat}{wf a:Bool}{κb:Nat->Kd}{tb:Tr Blk}{L:List Nat}(E:EFn P g gl gp gj gh gr go gb gR gd gt gH gA gB gC gD)(x:GFil)(hx:FilR x)(hK:∀r ∈ x.rules,qbf r=true)(hn:x.rules.length<=400)(hd1:jn x<=10000)
  (hS:qd P gS [.fz (qI x.rules).length (qaE (qI x.rules)),.fz (qI x.rules).length (qa4 (qI x.rules)),.i .i64 0] (.tup [.fz (zG (pcs 0 (qI x.rules) 0)).length (rSp (zG (pcs 0 (qI x.rules) 0))),.i .i64 0]))
  (hB:qd P gT [.fz (zG (pcs 0 (qI x.rules) 0)).length (rSp (zG (pcs 0 (qI x.rules) 0)))] (.tup [.fz (qO x).length (rNd (qO x)),.i .i64 0])) (hT1:qO x≠[]) (hT2:∀nd ∈ qO x,NdOk (x.rules.length+1) (qO x).length nd) (hT3:(qO x).length<=10000)
  (h:WI g w κ s tr (qa3 x.arch 0 (xH x)) []) (st:Stp L κb sb tb κ s tr) (xs:List Nat) (hxl:xs.length=x.rules.length+1) (hxs:∀(j:Nat) c,xs[j]?=some c->∃p,κ c = .lab (xK x j) p) (hL0:κ bL = .fr) (gL:tr.get bL=some (.cells e wf a (rPt xs)))
  (hf0:κ bf = .fr) (gf:tr.get bf=some (.cells 0 true false (qS x))) {pN:Bool} (hN:κ bN = .lab (xH x) pN) (hbN:κb bN = .no) (hL:∀c ∈ L,c=bN∨∃j:Nat,xs[j]?=some c) (hnew:∀(j:Nat) c,xs[j]?=some c->κb c = .no) (hno:∀b F,κb b≠.lab F false)
  (hn0:κ bn = .fr) (gn:tr.get bn=some (.cells 0 true false (qaE (qI x.rules)))) (hbn:κb bn = .no) (hw0:κ bw = .fr) (gw:tr.get bw=some (.cells 0 true false (qa4 (qI x.rules)))) (hbw:κb bw = .no) (hne:bn≠bw∧bn≠bL∧bw≠bL∧bn≠bf∧bw≠bf)
  {t:Tr AV} (ht:Has t [(1,.ptr bf 0),(4,.ptr w 0),(5,.ptr bN 0),(6,.sl bn 0 x.rules.length x.rules.length false),(7,.sl bw 0 x.rules.length x.rules.length false),(8,qgR x.rules.length bL)]) :
  S P n0 (qci gM go gS gT gb gh gr gR gd) (qac [.tmp 2,.tmp 3] fun v' h'=>Frz h' v' (.tup [.fz (ze x).length (rSy (ze x)),.i .i64 0])) t ⟨s,0,tr⟩:=by
 obtain⟨e1,e2,e3,e4,e5⟩:=hne;refine S.has _ ht (qj ?_);simp only[qci,vI,simprocAttr];simp +decide only[↓vS,vT,simprocAttr];have hnl:(qI x.rules).length=x.rules.length:=qaD;rw[hnl] at hS;refine hS.give [(bn,.cells 0 true false (qaE (qI x.rules))),(bw,.cells 0 true false (qa4 (qI x.rules)))] ?_ (by simp[qu,clo,qel]) ?_ ?_
 ·intro p hp;simp only[List.mem_cons,List.not_mem_nil,or_false] at hp;rcases hp with rfl|rfl
  ·exact⟨gn,Nat.zero_le _⟩
  ·exact⟨gw,Nat.zero_le _⟩
 ·refine qaP.2 ⟨Frz.cut 1 rfl (Nat.le_refl _) ?_,qaP.2 ⟨Frz.cut 1 rfl (Nat.le_refl _) ?_,qaP.2 ⟨qCR.2 ⟨rfl,rfl⟩,qeA.2 trivial⟩⟩⟩
  ·simp[trP,Tr.get_set,vP,qfH,hnl];rw[List.take_of_length_le (by rw[qfH,hnl];omega)];exact Frzs.self qcK
  ·simp[trP,Tr.get_set,vP,qfI,hnl,Ne.symm e1];rw[List.take_of_length_le (by rw[qfI,hnl];omega)];exact Frzs.self qcL
 rw[qC2];have w1:=(h.chg (b:=bn) .fr .dead (.inl hn0) (h.dom bn (by rw[hn0];simp)) (.inr (.inl rfl))).chg (b:=bw) .fr .dead (.inl (by rw[qe (Ne.symm e1)];exact hw0)) (h.dom bw (by rw[hw0];simp)) (.inr (.inl rfl))
 have s1:=(st.mod' hbn .dead).mod' hbw .dead
 have kk:∀b,κ b≠.fr->kdS (kdS κ bn .fr) bw .fr b=κ b:=fun b hb=>by
  rw[qe (c:=b) (fun e=>hb (by rw[e];exact hw0)),qe (c:=b) (fun e=>hb (by rw[e];exact hn0))]
 have kf:∀b,κ b = .fr->kdS (kdS κ bn .fr) bw .fr b = .fr:=fun b hb=>by
  simp only[kdS];split
  ·rfl
  ·split
   ·rfl
   ·exact hb
 have gg:∀b,b≠bn->b≠bw->((tr.set bn .dead).set bw .dead).get b=tr.get b:=fun b h1 h2=>by
  rw[Tr.get_set,if_neg h2,Tr.get_set,if_neg h1]
 simp +decide only[↓vS,vT,simprocAttr];refine hB.sc ?_;simp +decide only[↓vS,vT,simprocAttr];have hV:=qoU (n:=x.rules.length) (b:=bL);refine qrx E.br E.W (qO x) hT1 xs (by rw[hxl];exact hT2) (xK x) (qgR x.rules.length bL) (by rw[hxl];exact hV) w1 (kf bL hL0) ((gg bL (Ne.symm e2) (Ne.symm e3)).trans gL) (fun j c hj=>let ⟨p,hp⟩:=hxs j c hj;⟨p,by rw[kk c (by rw[hp];simp)];exact hp⟩) (by rw[jA];have:=qo3 (a:=x.arch);omega) fun κ2 s2 t2 st2 w2=>?_
 simp +decide only[↓vS,vT,simprocAttr];obtain⟨c0,hc0⟩:∃c,xs[0]?=some c:=⟨_,zzE (by omega)⟩;have hge:(rPt xs)[0]?=some (.ptr c0 0):=by rw[qeK,hc0];rfl
 have hL2:=st2.fr bL (kf bL hL0);have gL2:=hL2.2.trans ((gg bL (Ne.symm e2) (Ne.symm e3)).trans gL);have hf2:=st2.fr bf (kf bf hf0);have gf2:=hf2.2.trans ((gg bf (Ne.symm e4) (Ne.symm e5)).trans gf)
 have hlen:(qa3 x.arch 0 (xH x)++xd (xK x) (qO x) (qa3 x.arch 0 (xH x)).length).length=xK x 0:=by
  rw[List.length_append,ji,jA];rfl
 have hk2:∀(j:Nat) c,xs[j]?=some c->∃p,κ2 c = .lab (xK x j) p:=fun j c hj=>let ⟨p,hp⟩:=hxs j c hj;⟨p,st2.lab _ _ _ (by rw[kk c (by rw[hp];simp)];exact hp)⟩
 obtain⟨p0,hp0⟩:=hk2 0 c0 hc0;have hN2:κ2 bN = .lab (xH x) pN:=st2.lab _ _ _ (by rw[kk bN (by rw[hN];simp)];exact hN)
 have hcN:c0≠bN:=fun e=>by
  rw[e] at hp0;have:=(Kd.lab.inj (hp0.symm.trans hN2)).1;simp[xK,xH] at this;omega
 have hV0:(0:Nat)<x.rules.length+1:=by omega
 -- the label of the others has its place
 have rest:∀k2:AV->Hp->Prop,(∀t3:Tr Blk,t3.get bf=some (.cells 0 true false (qS x))->(∀k':AV->Hp->Prop,(∀(κ4:Nat->Kd) (s4:Nat) (t4:Tr Blk) (L4:List Nat),Stp L4 κb sb tb κ4 s4 t4->WI g w κ4 s4 t4 (qa3 x.arch 0 (xH x)++xd (xK x) (qO x) (ju x.arch)++[⟨6,x.dflt,0,0⟩]) []->
   (∀(j:Nat) c,xs[j]?=some c->∃p,κ4 c = .lab (xK x j) p)->κ4 bL = .fr->t4.get bL=some (.cells e wf a (rPt xs))->κ4 bf = .fr->t4.get bf=some (.cells 0 true false (qS x))->κ4 bN = .lab (xH x) pN->(∀c ∈ L4,c=bN∨∃j:Nat,1<=j∧xs[j]?=some c)->k' (.tup []) ⟨s4,0,t4⟩)->SC P gr [.ptr w 0,.i .u32 x.dflt] ⟨s2,0,t3⟩ k')->k2 (.tup []) ⟨s2,0,t3⟩)->SC P gh [.ptr w 0,.ptr c0 0] ⟨s2,0,t2⟩ k2:=by
  intro k2 hk2';refine qaJ E.W.here w2 (b:=c0) (p:=p0) (by rw[hlen];exact hp0) fun t3 q1 q2 w3=>hk2' t3 ((q1 bf hf2.1).trans gf2) fun k' hk'=>?_
  have st3:Stp (L.filter fun y=>decide (y≠c0)) κb sb tb _ _ t3:=(s1.trans st2).kd' (F':=(qa3 x.arch 0 (xH x)++xd (xK x) (qO x) (qa3 x.arch 0 (xH x)).length).length) (hnew 0 c0 hc0) q1 q2 fun y hy=>by
   by_cases e:y=c0
   ·exact .inl e
   ·exact .inr (by simp at hy;simp[hy,e])
  have nb:∀b,κ2 b = .fr->b≠c0:=fun b hb e=>by rw[e,hp0] at hb;cases hb
  refine qk7 E.W.ret E.W.put w3 x.dflt (by rw[hlen];simp[xK];omega) fun κ4 s4 t4 st4 w4=>hk' κ4 s4 t4 _ (st3.trans st4) ?_ ?_ ?_ ?_ ?_ ?_ ?_ ?_
  ·rw[jA] at w4;exact w4
  ·intro j c hj;obtain⟨p,hp⟩:=hk2 j c hj
   by_cases ec:c=c0
   ·rw[ec] at hp ⊢;have hF:=(Kd.lab.inj (hp0.symm.trans hp)).1;exact⟨true,st4.lab _ _ _ (by rw[qA,hlen,hF])⟩
   ·exact⟨p,st4.lab _ _ _ (by rw[qe ec];exact hp)⟩
  ·exact (st4.fr bL (by rw[qe (nb _ hL2.1)];exact hL2.1)).1
  ·rw[(st4.fr bL (by rw[qe (nb _ hL2.1)];exact hL2.1)).2,q1 bL hL2.1];exact gL2
  ·exact (st4.fr bf (by rw[qe (nb _ hf2.1)];exact hf2.1)).1
  ·rw[(st4.fr bf (by rw[qe (nb _ hf2.1)];exact hf2.1)).2,q1 bf hf2.1];exact gf2
  ·exact st4.lab _ _ _ (by rw[qe (Ne.symm hcN)];exact hN2)
  ·intro c hc;rw[List.append_nil,List.mem_filter,decide_eq_true_eq] at hc;rcases hL c hc.1 with q|⟨j,q⟩
   ·exact .inl q
   ·refine .inr ⟨j,?_,q⟩;rcases Nat.eq_zero_or_pos j with q0|q0
    ·subst q0;rw[hc0] at q;cases q;exact absurd rfl hc.2
    ·exact q0
 have fin:∀(κ4:Nat->Kd) (s4:Nat) (t4:Tr Blk) (L4:List Nat),Stp L4 κb sb tb κ4 s4 t4->WI g w κ4 s4 t4 (qa3 x.arch 0 (xH x)++xd (xK x) (qO x) (ju x.arch)++[⟨6,x.dflt,0,0⟩]) []->
   (∀(j:Nat) c,xs[j]?=some c->∃p,κ4 c = .lab (xK x j) p)->κ4 bL = .fr->t4.get bL=some (.cells e wf a (rPt xs))->κ4 bf = .fr->t4.get bf=some (.cells 0 true false (qS x))->κ4 bN = .lab (xH x) pN->(∀c ∈ L4,c=bN∨∃j:Nat,1<=j∧xs[j]?=some c)->
   ∀(tt:Tr AV),Has tt [(1,.ptr bf 0),(4,.ptr w 0),(5,.ptr bN 0),(8,qgR x.rules.length bL)]->S P n0 (qaB gM go gS gT gb gh gr gR gd) (qac [.tmp 2,.tmp 3] fun v' h'=>Frz h' v' (.tup [.fz (ze x).length (rSy (ze x)),.i .i64 0])) tt ⟨s4,0,t4⟩:=fun κ4 s4 t4 L4 q1 q2 q3 q4 q5 q6 q7 q8 q9 tt htt =>
  qr3 E x hx hK hn (by simp only[List.length_append,jA,ji,List.length_singleton];rfl) hd1 q2 q1 xs hxl q3 q4 q5 q6 q7 q8 hbN q9 hnew hno htt
 rcases hV with hV|hV
 ·rw[hV] at fin ⊢;simp +decide only[↓vS,vT,simprocAttr,gL2,hge,hV0];refine rest _ fun t3 g3 hcall=>?_
  simp +decide only[↓vS,vT,simprocAttr,g3,qS];refine hcall _ fun κ4 s4 t4 L4 q1 q2 q3 q4 q5 q6 q7 q8 q9=>?_
  simp +decide only[↓vS,vT,simprocAttr];exact fin κ4 s4 t4 L4 q1 q2 q3 q4 q5 q6 q7 q8 q9 _ (by simp[qf,qi,Tr.get_set])
 ·rw[hV] at fin ⊢;simp +decide only[↓vS,vT,simprocAttr,gL2,hge,hV0];refine rest _ fun t3 g3 hcall=>?_
  simp +decide only[↓vS,vT,simprocAttr,g3,qS];refine hcall _ fun κ4 s4 t4 L4 q1 q2 q3 q4 q5 q6 q7 q8 q9=>?_
  simp +decide only[↓vS,vT,simprocAttr];exact fin κ4 s4 t4 L4 q1 q2 q3 q4 q5 q6 q7 q8 q9 _ (by simp[qf,qi,Tr.get_set])
end
theorem qka{A:List AV}{n i:Nat}{v z:AV}(hA:A.length=n)(hv:A[i]?=some v):(A.take i++List.replicate (n-i) z).take i++v::(A.take i++List.replicate (n-i) z).drop (i+1)=A.take (i+1)++List.replicate (n-(i+1)) z:=by
 have hi:i<n:=by rw[← hA];exact (zzS.1 hv).1
 have hl:(A.take i).length=i:=by rw[List.length_take];omega
 rw[List.take_left' hl]
 have:(A.take i++List.replicate (n-i) z).drop (i+1)=List.replicate (n-(i+1)) z:=by
  have e:i+1=(A.take i).length+1:=by rw[hl]
  rw[e,List.drop_length_add_append,List.drop_replicate,hl];congr 1
 rw[this,qaG hv];simp
section
variable {g w s gl gp gj gh gr g1 g2 g3 g4 g5:Nat} {κ:Nat->Kd} {tr:Tr Blk} {RV:List Sy} {N:List Nat} {k:AV->Hp->Prop} {go gb gR gd gt gH gA gB gC gD gM gS gT:Nat}
theorem qvt{n0 sb bf bN:Nat}{κb:Nat->Kd}{tb:Tr Blk}(E:EFn P g gl gp gj gh gr go gb gR gd gt gH gA gB gC gD)(x:GFil)(hx:FilR x)(ha0:0<=x.arch)(ha6:x.arch<6)(hK:∀r ∈ x.rules,qbf r=true)(hn:x.rules.length<=400)(hd1:jn x<=10000)
  (hS:qd P gS [.fz (qI x.rules).length (qaE (qI x.rules)),.fz (qI x.rules).length (qa4 (qI x.rules)),.i .i64 0] (.tup [.fz (zG (pcs 0 (qI x.rules) 0)).length (rSp (zG (pcs 0 (qI x.rules) 0))),.i .i64 0]))
  (hB:qd P gT [.fz (zG (pcs 0 (qI x.rules) 0)).length (rSp (zG (pcs 0 (qI x.rules) 0)))] (.tup [.fz (qO x).length (rNd (qO x)),.i .i64 0])) (hT1:qO x≠[]) (hT2:∀nd ∈ qO x,NdOk (x.rules.length+1) (qO x).length nd) (hT3:(qO x).length<=10000)
  (h:WI g w κ s tr [] []) (st:Stp [bN] κb sb tb κ s tr) (hd:∀b,κb b≠.no->b<sb) (hf0:κ bf = .fr) (gf:tr.get bf=some (.cells 0 true false (qS x))) {pN:Bool} (hN:κ bN = .lab (xH x) pN) (hbN:κb bN = .no) (hno:∀b F,κb b≠.lab F false)
  {t:Tr AV} (ht:Has t [(1,.ptr bf 0),(4,.ptr w 0),(5,.ptr bN 0)]) :
  S P n0 (qch gM go gS gT gb gh gr gR gd) (qac [.tmp 2,.tmp 3] fun v' h'=>Frz h' v' (.tup [.fz (ze x).length (rSy (ze x)),.i .i64 0])) t ⟨s,0,tr⟩:=by
 refine S.has _ ht (qj ?_);simp only[qch,vI,simprocAttr];simp +decide only[↓vS,vT,simprocAttr,gf,qS];refine qDt E.own E.W E.tok h x.arch ha0 ha6 hN (by simp) fun κ1 s1 t1 st1 w1=>?_
 rw[List.nil_append,List.length_nil] at w1;have sa:=st.trans st1;have hf1:=st1.fr bf hf0;have gf1:=hf1.2.trans gf;have hbs:bf<s1:=w1.dom bf (by rw[hf1.1];simp);have f1:¬bf=s1:=by omega
 have f2:¬bf=s1+1:=by omega
 have f3:¬bf=s1+1+1:=by omega
 have f4:¬bf=s1+1+1+1:=by omega
 have r1:x.rules.length<=qg:=by simp only[qg];omega
 have r2:4*x.rules.length<=qg:=by simp only[qg];omega
 have r3:8*x.rules.length<=qg:=by simp only[qg];omega
 simp +decide only[↓vS,vT,simprocAttr];refine zD ?_;simp +decide only[↓vS,vT,simprocAttr,gf1,qS,f1,f2,f3,f4,r1,r2,r3];have k1:κ1 s1 = .no:=w1.fresh
 have nb:∀c:Nat,κb (s1+c) = .no:=fun c=>by
  cases hk:κb (s1+c) with
  | no=>rfl
  | _ =>
   have:=hd (s1+c) (by rw[hk];simp);have:=sa.le;omega
 -- the four blocks
 have wa:=w1.new .fr (.cells 0 true false (List.replicate x.rules.length [AV.i .u32 0]).flatten) (.inr (.inl rfl));have wb:=wa.new .fr (.cells 0 true false (List.replicate x.rules.length [AV.i .i64 0]).flatten) (.inr (.inl rfl));have wc:=wb.new (.lab (xK x 0) false) _ (.inr (.inr (.inr ⟨_,rfl,rfl⟩)));have wd:=wc.new .fr (.cells 0 true false [.ptr (s1+1+1) 0]) (.inr (.inl rfl));have sd:=(((sa.trans (w1.stpNew .fr (.cells 0 true false (List.replicate x.rules.length [AV.i .u32 0]).flatten) (by simp))).trans (wa.stpNew .fr (.cells 0 true false (List.replicate x.rules.length [AV.i .i64 0]).flatten) (by simp))).trans (wb.stpLab (.lab (xK x 0) false) (.cells 0 true false [.i .i64 0]))).trans (wc.stpNew .fr (.cells 0 true false [.ptr (s1+1+1) 0]) (by simp))
 refine SL.loopP (α:=Nat×Nat) (fun i=>[(1,.ptr bf 0),(4,.ptr w 0),(5,.ptr bN 0),(6,.sl s1 0 x.rules.length x.rules.length false),(7,.sl (s1+1) 0 x.rules.length x.rules.length false),(8,qgR i.1 i.2),(41,.fz x.rules.length (rR x.rules)),(42,.i .i64 (x.rules.length:Int)),(43,.i .i64 (i.1:Int))])
  (fun i h=>i.1<=x.rules.length∧∃L' κ' s' tr' xs,h=⟨s',0,tr'⟩∧Stp L' κb sb tb κ' s' tr'∧WI g w κ' s' tr' (qa3 x.arch 0 (xH x)) []∧xs.length=i.1+1∧(∀(j:Nat) c,xs[j]?=some c->∃p,κ' c = .lab (xK x j) p)∧κ' i.2 = .fr∧tr'.get i.2=some (if i.1=0 then .cells 0 true false (rPt xs) else .cells 1 true true (rPt xs)) ∧
   κ' bf = .fr∧tr'.get bf=some (.cells 0 true false (qS x))∧κ' bN = .lab (xH x) pN∧(∀c ∈ L',c=bN∨∃j:Nat,xs[j]?=some c)∧(∀(j:Nat) c,xs[j]?=some c->s1<=c)∧κ' s1 = .fr∧κ' (s1+1) = .fr∧tr'.get s1=some (.cells 0 true false ((qaE (qI x.rules)).take i.1++List.replicate (x.rules.length-i.1) (.i .u32 0))) ∧
   tr'.get (s1+1)=some (.cells 0 true false ((qa4 (qI x.rules)).take i.1++List.replicate (x.rules.length-i.1) (.i .i64 0)))∧s1+1<i.2∧i.2<s') (fun i=>x.rules.length-i.1) ?_ (0,s1+1+1+1) ?_ ?_
 ·rintro⟨i,bL⟩ h1 ⟨hi,L',κ',s',tr',xs,rfl,st',w',hxl,hxs,hL0,gL,hbf,gbf,hbN',hL',hnew,hs1,hs2,gn,gw,hbl,hbl2⟩ G ih;simp only at hi hxl hL0 gL gn gw hbl hbl2;simp only[vI,simprocAttr]
  by_cases hlt:i<x.rules.length
  ·have hlt':(i:Int)<x.rules.length:=by omega
   obtain⟨r,hr⟩:∃r,x.rules[i]?=some r:=⟨_,zzE hlt⟩;have hel:((rR x.rules).drop (i*3)).take 3=qM r:=zj qaA hr;have h3:i*3+3<=(rR x.rules).length:=by rw[show (rR x.rules).length=x.rules.length*3 from zl qaA _];omega
   have hw1:IntKind.wrap .i64 ((i:Int)+1)=((i+1:Nat):Int):=by rw[qq (by omega) (by omega)];simp
   have gnm:(qaE (qI x.rules))[i]?=some (.i .u32 r.nr):=by rw[qhO,qcJ,hr];rfl
   have gwm:(qa4 (qI x.rules))[i]?=some (.i .i64 ((i+1:Nat):Int)):=by rw[qnp,qcJ,hr];rfl
   have fn:=qka (n:=x.rules.length) (z:=.i .u32 0) (by rw[qfH,qaD]) gnm;have fw:=qka (n:=x.rules.length) (z:=.i .i64 0) (by rw[qfI,qaD]) gwm;have ln:i+1<=((qaE (qI x.rules)).take i++List.replicate (x.rules.length-i) (AV.i .u32 0)).length:=by simp[qfH,qaD];omega
   have lw:i+1<=((qa4 (qI x.rules)).take i++List.replicate (x.rules.length-i) (AV.i .i64 0)).length:=by simp[qfI,qaD];omega
   have q1:¬s1=s':=by omega
   have q2:¬s1+1=s':=by omega
   have q3:¬s'=s1:=by omega
   have q4:¬s1+1=s1:=by omega
   have q5:¬bL=s':=by omega
   have q6:¬bL=s1:=by omega
   have q7:¬bL=s1+1:=by omega
   have q8:¬bL=s'+1:=by omega
   have q9:¬bL=s'+1+1:=by omega
   have q10:¬s'=s1+1:=by omega
   have q11:¬s'+1+1=bL:=by omega
   have hfw0:IntKind.wrap .i64 ((i:Int)+1)=((i+1:Nat):Int):=hw1;obtain⟨wv,sv⟩:=w'.var (.cells 0 true false [.i .u32 0,.nils,.i .u32 0]) (.cells 0 true false (qM r));have v1:kdS κ' s' .fr s1 = .fr:=(sv.fr s1 hs1).1;have w2:=wv.chg (b:=s1) .fr (.cells 0 true false ((qaE (qI x.rules)).take (i+1)++List.replicate (x.rules.length-(i+1)) (.i .u32 0))) (.inl v1) (by omega) (.inr (.inl rfl));have w3:=w2.chg (b:=s1+1) .fr (.cells 0 true false ((qa4 (qI x.rules)).take (i+1)++List.replicate (x.rules.length-(i+1)) (.i .i64 0))) (.inl (by rw[qe q4];exact (sv.fr _ hs2).1)) (by omega) (.inr (.inl rfl))
   have s3:=((st'.trans sv).mod' (nb 0) (.cells 0 true false ((qaE (qI x.rules)).take (i+1)++List.replicate (x.rules.length-(i+1)) (.i .u32 0)))).mod' (nb 1) (.cells 0 true false ((qa4 (qI x.rules)).take (i+1)++List.replicate (x.rules.length-(i+1)) (.i .i64 0)));have w4:=w3.new (.lab (xK x (i+1)) false) _ (.inr (.inr (.inr ⟨_,rfl,rfl⟩)));have s4:=s3.trans (w3.stpLab (.lab (xK x (i+1)) false) (.cells 0 true false [.i .i64 0]));have w5:=w4.new .no (.cells 0 true false [.ptr (s'+1) 0]) (.inl rfl);have s5:=s4.trans (w4.stpNew .no (.cells 0 true false [.ptr (s'+1) 0]) (by simp))
   have nbL:κb bL = .no:=by
    have e:bL=s1+(bL-s1):=by omega
    rw[e];exact nb _
   have kb:kdS (kdS (kdS (kdS (kdS κ' s' .fr) s1 .fr) (s1+1) .fr) (s'+1) (.lab (xK x (i+1)) false)) (s'+1+1) .no bL = .fr:=by
    rw[qe q9,qe q8,qe q7,qe q6,qe q5];exact hL0
   have w6:=w5.chg (b:=bL) .fr .dead (.inl kb) (by omega) (.inr (.inl rfl));have s6:=s5.mod' nbL .dead;have w7:=w6.new .fr (.cells 1 true true (rPt (xs++[s'+1]))) (.inr (.inl rfl));have s7:=s6.trans (w6.stpNew .fr (.cells 1 true true (rPt (xs++[s'+1]))) (by simp));have w7':=w5.new .fr (.cells 1 true true (rPt (xs++[s'+1]))) (.inr (.inl rfl));have s7':=s5.trans (w5.stpNew .fr (.cells 1 true true (rPt (xs++[s'+1]))) (by simp))
   have fin:∀(κf:Nat->Kd) (tf:Tr Blk) (Lf:List Nat),Stp Lf κb sb tb κf (s'+1+1+1+1) tf->WI g w κf (s'+1+1+1+1) tf (qa3 x.arch 0 (xH x)) []->Lf=L'++[s'+1]->(∀b,b<s'->b≠s1->b≠s1+1->b≠bL->κf b=κ' b∧tf.get b=tr'.get b)->κf s1 = .fr->κf (s1+1) = .fr->κf (s'+1) = .lab (xK x (i+1)) false->κf (s'+1+1+1) = .fr->
     tf.get s1=some (.cells 0 true false ((qaE (qI x.rules)).take (i+1)++List.replicate (x.rules.length-(i+1)) (.i .u32 0)))->tf.get (s1+1)=some (.cells 0 true false ((qa4 (qI x.rules)).take (i+1)++List.replicate (x.rules.length-(i+1)) (.i .i64 0)))->tf.get (s'+1+1+1)=some (.cells 1 true true (rPt (xs++[s'+1])))->
     ∀tt,Has tt [(1,.ptr bf 0),(4,.ptr w 0),(5,.ptr bN 0),(6,.sl s1 0 x.rules.length x.rules.length false),(7,.sl (s1+1) 0 x.rules.length x.rules.length false),(8,.own (s'+1+1+1) (i+1+1)),(41,.fz x.rules.length (rR x.rules)),(42,.i .i64 (x.rules.length:Int)),(43,.i .i64 ((i+1:Nat):Int))]->G tt ⟨s'+1+1+1+1,0,tf⟩:=by
    intro κf tf Lf p1 p2 p3 p4 p5 p6 p7 p8 p9 p10 p11 tt htt;have hbfs:bf<s':=by omega
    have hbNs:bN<s1:=by
     have hb:=st1.lab _ _ _ hN;exact w1.dom bN (by rw[hb];simp)
    have hbfL:bf≠bL:=by omega
    refine ih (i+1,s'+1+1+1) _ _ (by simp only;omega) htt ⟨by simp only;omega,Lf,κf,s'+1+1+1+1,tf,xs++[s'+1],rfl,p1,p2,by simp[hxl],fun j c hj=>?_,p8,?_,?_,?_,?_,fun c hc=>?_,fun j c hj=>?_,p5,p6,p9,p10,by simp only;omega,by simp only;omega⟩
    ·rw[List.getElem?_append] at hj;split at hj
     ·obtain⟨p,hp⟩:=hxs j c hj;have:c<s':=w'.dom c (by rw[hp];simp);have n1:c≠s1:=fun e=>by rw[e,hs1] at hp;cases hp
      have n2:c≠s1+1:=fun e=>by rw[e,hs2] at hp;cases hp
      have n3:c≠bL:=fun e=>by rw[e,hL0] at hp;cases hp
      exact⟨p,by rw[(p4 c this n1 n2 n3).1];exact hp⟩
     ·have hj0:j-xs.length=0:=by
       have:=(zzS.1 hj).1;simp at this;exact this
      rw[hj0] at hj;simp at hj;subst hj;obtain rfl:j=i+1:=by omega
      exact⟨false,p7⟩
    ·rw[p11,if_neg (by simp)]
    ·rw[(p4 bf hbfs (by omega) (by omega) hbfL).1];exact hbf
    ·rw[(p4 bf hbfs (by omega) (by omega) hbfL).2];exact gbf
    ·rw[(p4 bN (by omega) (by omega) (by omega) (by omega)).1];exact hbN'
    ·rw[p3,List.mem_append,List.mem_singleton] at hc;rcases hc with hc|hc
     ·rcases hL' c hc with q|⟨j,q⟩
      ·exact .inl q
      ·exact .inr ⟨j,by rw[List.getElem?_append_left (zzS.1 q).1];exact q⟩
     ·exact .inr ⟨xs.length,by rw[hc];simp⟩
    ·rw[List.getElem?_append] at hj;split at hj
     ·exact hnew j c hj
     ·have hj0:j-xs.length=0:=by
       have:=(zzS.1 hj).1;simp at this;exact this
      rw[hj0] at hj;simp at hj;omega
   have m1:¬s'+1+1+1=s'+1+1:=by omega
   have hap:rPt xs++[.ptr (s'+1) 0]=rPt (xs++[s'+1]):=by simp[rPt]
   have hlx:(rPt xs).length=i+1:=by rw[qeL,hxl]
   have m2:¬s1=s'+1:=by omega
   have m3:¬s1+1=s'+1:=by omega
   have m4:¬s'=s'+1:=by omega
   have m5:¬s'+1+1=s'+1:=by omega
   have hs1':s1<s':=by omega
   rcases Nat.eq_zero_or_pos i with h0|h0
   ·rw[if_pos h0] at gL;have hV:qgR i bL = .sl bL 0 1 1 false:=by simp[qgR,h0]
    have htk:(rPt xs).take 1=rPt xs:=List.take_of_length_le (by rw[hlx];omega);have c2:1<=(rPt xs).length:=by omega
    rw[hV];have e2:(.own (s'+1+1+1) (i+1+1):AV) = .own (s'+1+1+1) 2:=by rw[h0]
    rw[e2] at fin;simp +decide only[↓vS,vT,simprocAttr,hlt',hlt,h3,hel,qM,hw1,gn,gw,gL,ln,lw,fn,fw,q1,q2,q3,q4,q5,q6,q7,q8,q9,q10,q11,m1,Nat.mul_one,htk,c2,hap];refine fin _ _ _ s7' w7' (by simp) ?_ ?_ ?_ ?_ ?_ ?_ ?_ ?_ _ ?_
    ·intro b hb n1 n2 n3;constructor
     ·rw[qe (by omega),qe (by omega),qe (by omega),qe n2,qe n1,qe (by omega)]
     ·simp only[Tr.get_set];rw[if_neg (by omega),if_neg (by omega),if_neg (by omega),if_neg n2,if_neg n1,if_neg (by omega),if_neg (by omega)]
    ·rw[qe (by omega),qe (by omega),qe (by omega),qe (by omega),qA]
    ·rw[qe (by omega),qe (by omega),qe (by omega),qA]
    ·rw[qe (by omega),qe (by omega),qA]
    ·rw[qA]
    ·simp only[Tr.get_set];rw[if_neg (by omega),if_neg (by omega),if_neg (by omega),if_neg (by omega)];simp
    ·simp only[Tr.get_set];rw[if_neg (by omega),if_neg (by omega),if_neg (by omega)];simp
    ·rw[Tr.get_set,if_pos rfl]
    ·simp[qf,qi,Tr.get_set]
   ·rw[if_neg (by omega)] at gL;have hV:qgR i bL = .own bL (i+1):=by unfold qgR;rw[if_neg (by omega)]
    rw[hV];have rr1:i+1+1<=qg:=by simp only[qg];omega
    have rr2:(i+1+1)*8<=qg:=by simp only[qg];omega
    simp +decide only[↓vS,vT,simprocAttr,hlt',hlt,h3,hel,qM,hw1,gn,gw,gL,ln,lw,fn,fw,q1,q2,q3,q4,q5,q6,q7,q8,q9,q10,q11,m1,rr1,rr2,Nat.mul_one,hlx,hap];refine fin _ _ _ s7 w7 (by simp) ?_ ?_ ?_ ?_ ?_ ?_ ?_ ?_ _ ?_
    ·intro b hb n1 n2 n3;constructor
     ·rw[qe (by omega),qe n3,qe (by omega),qe (by omega),qe n2,qe n1,qe (by omega)]
     ·simp only[Tr.get_set];rw[if_neg (by omega),if_neg n3,if_neg (by omega),if_neg (by omega),if_neg n2,if_neg n1,if_neg (by omega),if_neg (by omega)]
    ·rw[qe (by omega),qe (by omega),qe (by omega),qe (by omega),qe (by omega),qA]
    ·rw[qe (by omega),qe (by omega),qe (by omega),qe (by omega),qA]
    ·rw[qe (by omega),qe (by omega),qe (by omega),qA]
    ·rw[qA]
    ·simp only[Tr.get_set];rw[if_neg (by omega),if_neg (by omega),if_neg (by omega),if_neg (by omega),if_neg (by omega)];simp
    ·simp only[Tr.get_set];rw[if_neg (by omega),if_neg (by omega),if_neg (by omega),if_neg (by omega)];simp
    ·rw[Tr.get_set,if_pos rfl]
    ·simp[qf,qi,Tr.get_set]
  ·obtain rfl:i=x.rules.length:=by omega
   have hlt':¬((x.rules.length:Int)<x.rules.length):=by omega
   simp +decide only[↓vS,vT,simprocAttr,hlt']
   have e1:(if x.rules.length=0 then Blk.cells 0 true false (rPt xs) else .cells 1 true true (rPt xs)) = .cells (if x.rules.length=0 then 0 else 1) true (decide (x.rules.length≠0)) (rPt xs):=by
    by_cases h:x.rules.length=0<;>simp[h]
   rw[e1] at gL;have hfb:bf≠s1:=f1;refine qvu (bn:=s1) (bw:=s1+1) E x hx hK hn hd1 hS hB hT1 hT2 hT3 w' st' xs hxl hxs hL0 gL hbf gbf hbN' hbN hL' (fun j c hj=>?_) hno hs1 ?_ (nb 0) hs2 ?_ (nb 1) ⟨by omega,by omega,by omega,by omega,by omega⟩ ?_
   ·have:=hnew j c hj;have e:c=s1+(c-s1):=by omega
    rw[e];exact nb _
   ·rw[gn];simp[List.take_of_length_le,qfH,qaD]
   ·rw[gw];simp[List.take_of_length_le,qfI,qaD]
   ·simp[qf,qi,Tr.get_set]
 ·simp[qf,qi,Tr.get_set,qgR,qS]
 ·refine⟨Nat.zero_le _,_,_,_,_,[s1+1+1],rfl,sd,wd,rfl,fun j c hj=>?_,qA,?_,?_,?_,?_,fun c hc=>?_,fun j c hj=>?_,?_,?_,?_,?_,by simp only;omega,by simp only;omega⟩
  ·have:j=0:=by have:=(zzS.1 hj).1;simpa using this
   subst this;simp at hj;subst hj;exact⟨false,by rw[qe (by omega),qA]⟩
  ·simp[Tr.get_set,rPt]
  ·rw[qe f4,qe f3,qe f2,qe f1];exact hf1.1
  ·simp only[Tr.get_set];rw[if_neg f4,if_neg f3,if_neg f2,if_neg f1];exact gf1
  ·have hb:=st1.lab _ _ _ hN;have:bN<s1:=w1.dom bN (by rw[hb];simp);rw[qe (by omega),qe (by omega),qe (by omega),qe (by omega)];exact hb
  ·simp at hc;rcases hc with hc|hc
   ·exact .inl hc
   ·exact .inr ⟨0,by simp[hc]⟩
  ·have:j=0:=by have:=(zzS.1 hj).1;simpa using this
   subst this;simp at hj;omega
  ·rw[qe (by omega),qe (by omega),qe (by omega),qA]
  ·rw[qe (by omega),qe (by omega),qA]
  ·simp only[Tr.get_set];rw[if_neg (by omega),if_neg (by omega),if_neg (by omega)];simp
  ·simp only[Tr.get_set];rw[if_neg (by omega),if_neg (by omega)];simp
noncomputable def qmi(x:GFil):AV:=if xC x=true then .tup [.fz (ze x).length (rSy (ze x)),.i .i64 0] else .tup [.fz 0 [],.i .i64 210]
theorem qp4(hc:qc P f (qeC gM go gS gT gb gh gr gR gd)=true)(E:EFn P g gl gp gj gh gr go gb gR gd gt gH gA gB gC gD)(x:GFil)(hx:FilR x)(hM:qd P gM [.agg (qS x)] (.b (xC x)))
  (hk:xC x=true->jn x<=10000∧(qO x).length<=10000∧qO x≠[]∧(∀nd ∈ qO x,NdOk (x.rules.length+1) (qO x).length nd) ∧
   qd P gS [.fz (qI x.rules).length (qaE (qI x.rules)),.fz (qI x.rules).length (qa4 (qI x.rules)),.i .i64 0] (.tup [.fz (zG (pcs 0 (qI x.rules) 0)).length (rSp (zG (pcs 0 (qI x.rules) 0))),.i .i64 0]) ∧
   qd P gT [.fz (zG (pcs 0 (qI x.rules) 0)).length (rSp (zG (pcs 0 (qI x.rules) 0)))] (.tup [.fz (qO x).length (rNd (qO x)),.i .i64 0])) :
  qd P f [.agg (qS x)] (qmi x):=by
 have hcl:qu (rR x.rules)=true:=x9 fun r=>by simp[qM,qu,clo,jv]
 refine qd.mk hc (by simp[qu,clo,qS,hcl]) ?_;simp only[qeC,qS,vI,simprocAttr];simp +decide only[↓vS,vT,simprocAttr];simp only[qS] at hM;refine hM.sc ?_;unfold qmi;cases hK:xC x with
 | false =>
  simp +decide only[↓vS,vT,simprocAttr];simp[vZ]
 | true =>
  obtain⟨h1,h2,h3,h4,h5,h6⟩:=hk hK;simp only[xC,Bool.and_eq_true,decide_eq_true_eq] at hK;obtain⟨⟨⟨⟨k1,k2⟩,k3⟩,k4⟩,k5⟩:=hK;simp +decide only[↓vS,vT,simprocAttr];refine S.weak (Wk.mk [(1,.ptr 0 0),(4,.ptr 1 0),(5,.ptr 2 0)] [.cells 0 true false (qS x),.cells 0 true false [.own 3 0,.own 4 0],.cells 0 true false [.i .i64 0],.cells 4 true true [],.cells 1 true true []] [0,1,2,99,99] ?_ ?_ ?_ rfl) ?_
  ·simp[vw]
  ·simp[vw,qS,hcl]
  ·simp
  simp only[vI,simprocAttr]
  have hW:∀kd:Kd,(kd = .no∨kd = .lab (xH x) false)->WI g 1 (fun b=>if b=0 then .fr else if b=1 then .w else if b=2 then kd else if b=3 then .l else if b=4 then .t else .no) 5 (((((Tr.leaf.set 0 (.cells 0 true false (qS x))).set 1 (.cells 0 true false [.own 3 0,.own 4 0])).set 2 (.cells 0 true false [.i .i64 0])).set 3 (.cells 4 true true [])).set 4 (.cells 1 true true [])) [] []:=fun kd hkd=>by
   refine⟨fun b hb=>?_,⟨3,4,[],[],rfl,rfl,rfl,?_,?_,?_,trivial,by simp,fun j y hy=>by simp at hy⟩,fun b F p hb=>?_⟩
   ·by_cases e:b<5
    ·exact e
    ·rw[if_neg (by omega),if_neg (by omega),if_neg (by omega),if_neg (by omega),if_neg (by omega)] at hb;exact absurd rfl hb
   ·simp[Tr.get_set]
   ·simp[Tr.get_set,rSy]
   ·simp[Tr.get_set]
   ·split at hb
    ·cases hb
    split at hb
    ·cases hb
    split at hb
    ·rename_i e;subst e;rcases hkd with rfl|rfl
     ·cases hb
     ·cases hb;exact⟨0,by simp[Tr.get_set],by simp⟩
    split at hb
    ·cases hb
    split at hb<;>cases hb
  refine qvt (bf:=0) (bN:=2) (pN:=false) (κb:=fun b=>if b=0 then .fr else if b=1 then .w else if b=2 then .no else if b=3 then .l else if b=4 then .t else .no) (sb:=5) (tb:=((((Tr.leaf.set 0 (.cells 0 true false (qS x))).set 1 (.cells 0 true false [.own 3 0,.own 4 0])).set 2 (.cells 0 true false [.i .i64 0])).set 3 (.cells 4 true true [])).set 4 (.cells 1 true true []))
   E x hx k1 k2 (qh7 k5) k3 h1 h5 h6 h3 h4 h2 (hW (.lab (xH x) false) (.inr rfl)) ⟨Nat.le_refl _,fun b hb=>⟨?_,rfl⟩,fun b hb=>⟨?_,rfl⟩,fun b F p hb=>?_,fun b F hb=>?_⟩ (hW .no (.inl rfl)).dom rfl ?_ rfl rfl ?_ ?_
  ·by_cases e:b=2
   ·subst e;simp at hb
   ·rw[if_neg e] at hb ⊢;exact hb
  ·by_cases e:b=2
   ·subst e;simp at hb
   ·rw[if_neg e] at hb ⊢;exact hb
  ·by_cases e:b=2
   ·subst e;simp at hb
   ·rw[if_neg e] at hb ⊢;exact hb
  ·by_cases e:b=2
   ·exact .inr (by simp[e])
   ·rw[if_neg e] at hb ⊢;exact .inl hb
  ·simp[Tr.get_set]
  ·intro b F hb
   repeat' split at hb
   all_goals cases hb
  ·simp[qf,qi,Tr.get_set]
end
def qdh(c:Int):Prop:=c=21∨c=37∨c=53∨c=69
def qee(s:Sy)(j n:Nat):Prop :=
 (s.code=32∧s.th=0∧s.el=0∧s.k % 4=0∧0<=s.k∧s.k<64)∨((s.code=84∨s.code=6)∧s.th=0∧s.el=0)∨(s.code=5∧s.k=0∧s.el=0∧j<s.th∧s.th<n)∨(qdh s.code∧j<s.th∧s.th<n∧j<s.el∧s.el<n)
structure MayL (l:List Sy):Prop where
 pos:0<l.length
 big:l.length<=131072
 last:∃s,l[l.length-1]?=some s∧s.code=6
 all:∀(j:Nat) s,l[j]?=some s->qee s j l.length
theorem qU{l:List Sy}:qu (rSy l)=true:=x9 fun _=>rfl
theorem qt0{l:List Sy}:qE (rSy l)=true:=qjw fun _=>rfl
theorem qem{T:List Sy}{j:Nat}{x:Sy}(h:T[j]?=some x):((rSy T).drop (j*4)).take 4=cSy x:=zj qdj h
theorem qhN{T:List Sy}{j:Nat}{x:Sy}(h:T[j]?=some x){i:Nat}(hi:i<4):(rSy T)[j*4+i]?=(cSy x)[i]?:=qb2 qdj h hi
def qea:IFn:=⟨[.tmp 4],.seq (.r [.m 4 .F]) (.seq (.r [.n 5 0,.d 6 1,.b 7 .gtr 5 6,.n 8 7,.y 9 0 8,.j 10 2 8 true,.g 11 (.bin .lss (.t 9) (.t 10)) 8 true,.p 12 8 11,.n 4 12]) (.ret))⟩
theorem qA7(hc:qc P f qea=true)(x j n:Nat)(h1:j<x)(h2:x<n):qd P f [.i .i64 (x:Int),.pf [.i .i64 (j:Int)] 0,.pf [.i .i64 (n:Int)] 0] (.b true):=by
 refine qd.mk hc rfl ?_;have h1':(j:Int)<x:=by omega
 have h2':(x:Int)<n:=by omega
 simp only[qea,vI,simprocAttr];simp +decide only[↓vS,vT,simprocAttr,h1',h2'];simp[vZ]
def qhu:IFn:=⟨[.tmp 2],.seq (.r [.m 2 .F]) (.seq (.r [.n 3 0,.q 4 (.bin .eql (.t 3) (.c (.i .u16 21))),.n 5 4,.z 6 0 5,.g 7 (.bin .eql (.t 6) (.c (.i .u16 37))) 5 false,.o 8 5 7,.n 9 8,.z 10 0 9,.g 11 (.bin .eql (.t 10) (.c (.i .u16 53))) 9 false,.o 12 9 11,.n 13 12,.z 14 0 13,.g 15 (.bin .eql (.t 14) (.c (.i .u16 69))) 13 false,.o 16 13 15,.n 2 16]) (.ret))⟩
theorem qBm(hc:qc P f qhu=true)(c:Int)(h:qdh c):qd P f [.i .u16 c] (.b true):=by
 refine qd.mk hc rfl ?_;simp only[qhu,vI,simprocAttr];rcases h with rfl|rfl|rfl|rfl
 all_goals
  simp +decide only[↓vS,vT,simprocAttr];simp[vZ]
def qfs(a b c:Nat):IFn:=⟨[.tmp 6],.seq (.r [.q 3 (.box (.t 0)),.q 4 (.box (.t 1)),.q 5 (.box (.t 2)),.m 6 .F]) (.seq (.r [.q 11 (.mkF a [] [.t 4,.t 5]),.n 7 11]) (.seq (.r [.f 12 2 3,.d 13 12,.w 14 .eql 13 0,.n 15 14,.h 16 3 3 15 true,.j 17 16 15 true,.g 18 (.bin .eql (.t 17) (.k 0)) 15 true,.p 19 15 18,.n 8 19]) (.seq (.blk 0 (.seq (.r [.f 21 0 3,.d 22 21,.q 23 (.bin .eql (.t 22) (.c (.i .u16 32))),.n 20 23]) (.cond (.t 20) (.seq (.r [.q 25 (.build [.i .u32 0,.i .u32 0,.i .u64 0,.i .u64 0,.i .u64 0,.i .u64 0,.i .u64 0,.i .u64 0,.i .u64 0] []),.f 26 1 3,.d 27 26,.l 28 b [.t 25,.t 27],.n 24 28,.x 29 24 0,.x 30 24 1,.n 9 29,.n 10 30]) (.seq (.r [.n 31 8,.n 32 31,.y 33 10 32,.g 34 (.bin .eql (.t 33) (.k 0)) 32 true,.p 35 32 34,.n 6 35]) (.ret))) (.seq (.r [.f 37 0 3,.d 38 37,.q 39 (.bin .eql (.t 38) (.c (.i .u16 84))),.n 40 39,.h 41 0 3 40 false,.j 42 41 40 false,.g 43 (.bin .eql (.t 42) (.c (.i .u16 6))) 40 false,.o 44 40 43,.n 36 44]) (.cond (.t 36) (.seq (.r [.n 45 8,.n 6 45]) (.ret)) (.seq (.r [.f 47 0 3,.d 48 47,.q 49 (.bin .eql (.t 48) (.c (.i .u16 5))),.n 46 49]) (.cond (.t 46) (.seq (.r [.f 50 1 3,.d 51 50,.q 52 (.bin .eql (.t 51) (.c (.i .u32 0))),.n 53 52,.h 54 3 3 53 true,.j 55 54 53 true,.g 56 (.bin .eql (.t 55) (.k 0)) 53 true,.p 57 53 56,.n 58 57,.y 59 7 58,.h 60 2 3 58 true,.j 61 60 58 true,⟨(some 62),.callV (.t 59) [.t 61],(some (58,true))⟩,.p 63 58 62,.n 6 63]) (.ret)) (.skip)))))))) (.seq (.r [.f 64 0 3,.d 65 64,.l 66 c [.t 65],.n 67 66,.y 68 7 67,.h 69 2 3 67 true,.j 70 69 67 true,⟨(some 71),.callV (.t 68) [.t 70],(some (67,true))⟩,.p 72 67 71,.n 73 72,.y 74 7 73,.h 75 3 3 73 true,.j 76 75 73 true,⟨(some 77),.callV (.t 74) [.t 76],(some (73,true))⟩,.p 78 73 77,.n 6 78]) (.ret)))))⟩
theorem qBM{g1 g2 g3:Nat}(hc:qc P f (qfs g1 g2 g3)=true)(h1:∀x j n:Nat,j<x->x<n->qd P g1 [.i .i64 (x:Int),.pf [.i .i64 (j:Int)] 0,.pf [.i .i64 (n:Int)] 0] (.b true))(h2:qrJ P g2)(h3:∀c,qdh c->qd P g3 [.i .u16 c] (.b true))(s:Sy)(j n:Nat)(hs:qee s j n)(hn:n<=1000000)(hj:j<n) :
  qd P f [.agg (cSy s),.i .i64 (j:Int),.i .i64 (n:Int)] (.b true):=by
 refine qd.mk hc rfl ?_;simp only[qfs,cSy,vI,simprocAttr];obtain⟨code,sk,th,el⟩:=s;simp only[qee] at hs;rcases hs with⟨rfl,rfl,rfl,k4,k0,k64⟩|⟨hcd,rfl,rfl⟩|⟨rfl,rfl,rfl,j1,j2⟩|⟨hcd,j1,j2,j3,j4⟩
 ·have hw:=h2 ⟨0,0,0,0,0,0,0,0,0⟩ (by constructor<;>decide) sk k0 (by omega);have e:qlk ⟨0,0,0,0,0,0,0,0,0⟩ sk = .tup [.i .u32 ((xX ⟨0,0,0,0,0,0,0,0,0⟩).getD (sk / 4).toNat 0),.i .i64 0]:=by unfold qlk;rw[if_neg (by omega)]
  rw[e] at hw;simp only[qw] at hw;have z0:((0:Nat):Int)=0:=rfl;simp +decide only[↓vS,vT,simprocAttr,z0];refine hw.sc ?_;simp +decide only[↓vS,vT,simprocAttr];simp[vZ]
 ·have z0:((0:Nat):Int)=0:=rfl;rcases hcd with rfl|rfl
  ·simp +decide only[↓vS,vT,simprocAttr,z0];simp[vZ]
  ·simp +decide only[↓vS,vT,simprocAttr,z0];simp[vZ]
 ·have z0:((0:Nat):Int)=0:=rfl;have t0:¬(th:Int)=0:=by omega
  have t1:j<th:=j1;simp +decide only[↓vS,vT,simprocAttr,z0,t0];refine (h1 th j n j1 j2).lend (by simp[vZ,vP,Tr.get_set]) rfl ?_;simp +decide only[↓vS,vT,simprocAttr];simp[vZ]
 ·have t0:¬(th:Int)=0:=by omega
  have ha:=h3 code hcd;have n1:¬code=32:=by rcases hcd with h|h|h|h<;>omega
  have n2:¬code=84:=by rcases hcd with h|h|h|h<;>omega
  have n3:¬code=6:=by rcases hcd with h|h|h|h<;>omega
  have n4:¬code=5:=by rcases hcd with h|h|h|h<;>omega
  simp +decide only[↓vS,vT,simprocAttr,t0,n1,n2,n3,n4];refine ha.sc ?_;simp +decide only[↓vS,vT,simprocAttr];refine (h1 th j n j1 j2).lend (by simp[vZ,vP,Tr.get_set]) rfl ?_;simp +decide only[↓vS,vT,simprocAttr];refine (h1 el j n j3 j4).lend (by simp[vZ,vP,Tr.get_set]) rfl ?_;simp +decide only[↓vS,vT,simprocAttr];simp[vZ]
def qiz(a:Nat):IFn:=⟨[.tmp 2],.seq (.r [.m 2 .F]) (.seq (.seq (.r [.n 5 0,.e 6 5,.w 7 .lss 6 1,.n 8 7,.z 9 0 8,.g 10 (.len false (.t 9)) 8 false,.g 11 (.bin .gtr (.t 10) (.k 131072)) 8 false,.o 12 8 11,.n 13 12,.z 14 0 13,.z 15 0 13,.g 16 (.len false (.t 15)) 13 false,.g 17 (.bin .sub (.t 16) (.k 1)) 13 false,.g 18 (.iAddrS 4 (.t 14) (.t 17)) 13 false,.h 19 0 18 13 false,.j 20 19 13 false,.g 21 (.bin .neq (.t 20) (.c (.i .u16 6))) 13 false,.o 22 13 21]) (.cond (.t 22) (.seq (.r [.m 2 .F]) (.ret)) (.skip))) (.seq (.seq (.r [.n 23 0,.e 24 23,.m 25 (.k 0)]) (.blk 0 (.loop (.seq (.r [.s 26 25 24]) (.seq (.cond (.t 26) (.skip) (.exit 0)) (.seq (.blk 1 (.seq (.r [.n 27 25,.i 28 4 23 25,.v 29 4 28,.q 4 (.alloc [.i .u16 0,.i .u32 0,.i .i64 0,.i .i64 0]),.n 3 27,.u (.store 4 (.t 4) (.t 29))]) (.seq (.r [.v 30 4 4,.n 31 3,.n 32 0,.e 33 32,.l 34 a [.t 30,.t 31,.t 33],.q 35 (.un .not (.t 34))]) (.cond (.t 35) (.seq (.r [.m 2 .F]) (.ret)) (.skip))))) (.r [.a 36 25 1,.n 25 36]))))))) (.seq (.r [.m 2 .T]) (.ret))))⟩
theorem qEv{g:Nat}(hc:qc P f (qiz g)=true)(hg:∀(s:Sy) (j n:Nat),qee s j n->n<=1000000->j<n->qd P g [.agg (cSy s),.i .i64 (j:Int),.i .i64 (n:Int)] (.b true))(l:List Sy)(hl:MayL l):qd P f [.fz l.length (rSy l)] (.b true):=by
 refine qd.mk hc (by simp[qu,clo,qU]) ?_;obtain⟨z,hz,hz6⟩:=hl.last;have p1:=hl.pos;have p2:=hl.big;have n1:¬(l.length:Int)<1:=by omega
 have n2:¬131072<(l.length:Int):=by omega
 have e1:IntKind.wrap .i64 ((l.length:Int)-1)=((l.length-1:Nat):Int):=by rw[qq (by omega) (by omega)];omega
 have hlt:l.length-1<l.length:=by omega
 have gz:=qhN hz (i:=0) (by omega);have gz':(rSy l)[(l.length-1)*4]?=some (.i .u16 6):=by rw[← hz6];exact gz
 simp only[qiz,vI,simprocAttr];simp +decide only[↓vS,vT,simprocAttr,n1,n2,e1,hlt,gz'];refine SL.loopP (α:=Nat) (fun i=>[(0,.fz l.length (rSy l)),(23,.fz l.length (rSy l)),(24,.i .i64 (l.length:Int)),(25,.i .i64 (i:Int))]) (fun i h=>i<=l.length∧h.fl=0) (fun i=>l.length-i) ?_ 0 ?_ ?_
 ·rintro i ⟨s,fl,tr⟩ ⟨hi,rfl⟩ G ih;simp only[vI,simprocAttr]
  by_cases hi':i<l.length
  ·have hlt':(i:Int)<l.length:=by omega
   obtain⟨x,hx⟩:∃x,l[i]?=some x:=⟨_,zzE hi'⟩;have hel:=qem hx;have h4:i*4+4<=(rSy l).length:=by rw[qal];omega
   have hw1:IntKind.wrap .i64 ((i:Int)+1)=((i+1:Nat):Int):=by rw[qq (by omega) (by omega)];simp
   have hp:=hg x i l.length (hl.all i x hx) (by omega) hi';simp only[cSy] at hp;simp +decide only[↓vS,vT,simprocAttr,hlt',hi',h4,hel,cSy];refine hp.sc ?_;simp +decide only[↓vS,vT,simprocAttr,hw1];exact ih (i+1) _ _ (by omega) (by simp[qf,qi,Tr.get_set]) ⟨by omega,rfl⟩
  ·obtain rfl:i=l.length:=by omega
   have hlt':¬((l.length:Int)<l.length):=by omega
   simp +decide only[↓vS,vT,simprocAttr,hlt'];simp[vZ]
 ·simp[qf,qi,Tr.get_set]
 ·exact⟨Nat.zero_le _,rfl⟩
def zq:IFn:=⟨[.tmp 2],.seq (.r [.m 2 .N]) (.seq (.seq (.r [.n 3 0,.q 4 (.eqN false .slice (.t 3))]) (.cond (.t 4) (.seq (.r [.m 2 .N]) (.ret)) (.skip))) (.seq (.r [.q 5 (.buildS 0 [.i .u16 0,.i .u32 0,.i .i64 0,.i .i64 0] []),.n 6 0,.q 7 (.app 4 24 true (.t 5) (.t 6)),.n 2 7]) (.ret)))⟩
theorem qBp(hc:qc P f zq=true):qcU P f 4 24:=by
 intro n rows hlen hcl hok hr1 hr2;refine Own.of_SC (by simp[qu,clo]) ?_;cases n with
 | zero =>
  obtain rfl:rows=[]:=by cases rows with|nil=>rfl|cons=>simp at hlen
  refine SC.nil0 (SC.mk hc (qj ?_)) (SC.mk hc (qj ?_))
  ·simp only[zq,vI,simprocAttr];simp only[↓vS,vT,simprocAttr];intro _;refine⟨[1],?_⟩;simp[vw]
  ·simp only[zq,vI,simprocAttr];simp only[↓vS,vT,simprocAttr,if_true];intro _;refine⟨[1],?_⟩;simp[vw]
 | succ n =>
  refine SC.mk hc (qj ?_);simp only[zq,vI,simprocAttr];have h1:1<=n+1:=by omega
  have h2:(n+1)*4<=rows.length:=by omega
  have h3:rows.take ((n+1)*4)=rows:=List.take_of_length_le (by omega);have h4:¬(n+1<=0):=by omega
  simp only[↓vS,vT,simprocAttr,h1,h2,h3,h4,hr1,hr2,hok,Nat.mul_one,Nat.zero_mul];intro _;refine⟨[1],?_⟩;simp[vw,qh,hcl]
def qbj(s:Sy):Prop:=ql s.code=4
def qcf(s:Sy):Prop:=ql s.code=4∧s.code≠5
instance (s:Sy):Decidable (qbj s):=by unfold qbj;infer_instance
instance (s:Sy):Decidable (qcf s):=by unfold qcf;infer_instance
def qiC(a:Nat):IFn:=⟨[.tmp 2],.seq (.r [.q 1 (.box (.t 0)),.m 2 .F]) (.seq (.r [.f 3 0 1,.d 4 3,.l 5 a [.t 4],.q 6 (.bin .eql (.t 5) (.c (.i .u8 4))),.n 7 6,.h 8 0 1 7 true,.j 9 8 7 true,.g 10 (.bin .neq (.t 9) (.c (.i .u16 5))) 7 true,.p 11 7 10,.n 2 11]) (.ret))⟩
def qfd(P:Program)(f:Nat):Prop:=∀s:Sy,qd P f [.agg (cSy s)] (.b (decide (qcf s)))
theorem qD3{g:Nat}(hc:qc P f (qiC g)=true)(hg:cOf P g):qfd P f:=by
 intro s;refine qd.mk hc rfl ?_;simp only[qiC,cSy,vI,simprocAttr];simp +decide only[↓vS,vT,simprocAttr];refine (hg s.code).sc ?_
 by_cases h1:ql s.code=4
 ·by_cases h2:s.code=5
  ·simp +decide only[↓vS,vT,simprocAttr,h1,h2];simp[vZ,qcf,h2]
  ·simp +decide only[↓vS,vT,simprocAttr,h1,h2];simp[vZ,qcf,h1,h2]
 ·simp +decide only[↓vS,vT,simprocAttr,h1];simp[vZ,qcf,h1]
def qa2(to:Nat->Nat)(s:Sy):Sy:=⟨s.code,s.k,if qbj s then to s.th else s.th,if qcf s then to s.el else s.el⟩
theorem qw0{α:Type}{A B:List α}{x y:α}:(A++x::B).set A.length y=A++y::B:=by
 rw[List.set_append];simp
def xQ(a b c:Nat):IFn:=⟨[.tmp 4],.seq (.r [.m 4 .N]) (.seq (.r [.n 8 0,.l 9 a [.t 8],.n 5 9]) (.seq (.seq (.r [.n 10 5,.e 11 10,.m 12 (.k 0)]) (.blk 0 (.loop (.seq (.r [.s 13 12 11]) (.seq (.cond (.t 13) (.skip) (.exit 0)) (.seq (.blk 1 (.seq (.r [.n 14 12,.i 15 4 10 12,.v 16 4 15,.q 7 (.alloc [.i .u16 0,.i .u32 0,.i .i64 0,.i .i64 0]),.n 6 14,.u (.store 4 (.t 7) (.t 16))]) (.seq (.seq (.r [.f 17 0 7,.d 18 17,.l 19 b [.t 18],.q 20 (.bin .eql (.t 19) (.c (.i .u8 4)))]) (.cond (.t 20) (.r [.n 21 5,.n 22 6,.n 23 1,.f 24 2 7,.d 25 24,⟨(some 26),.callV (.t 23) [.t 25],none⟩,.i 27 4 21 22,.f 28 2 27,.u (.store 1 (.t 28) (.t 26))]) (.skip))) (.seq (.r [.v 29 4 7,.l 30 c [.t 29]]) (.cond (.t 30) (.r [.n 31 5,.n 32 6,.n 33 1,.f 34 3 7,.d 35 34,⟨(some 36),.callV (.t 33) [.t 35],none⟩,.i 37 4 31 32,.f 38 3 37,.u (.store 1 (.t 38) (.t 36))]) (.skip)))))) (.r [.a 39 12 1,.n 12 39]))))))) (.seq (.r [.n 40 5,.n 4 40]) (.ret))))⟩
theorem qjV{g1 g2 g3 gt s fl:Nat}{tr:Tr Blk}{caps:List AV}{k:AV->Hp->Prop}(hc:qc P f (xQ g1 g2 g3)=true)(h1:qcU P g1 4 24)(h2:cOf P g2)(h3:qfd P g3)(l:List Sy)(hl:l.length<=200000)(hfl:fl<=s)(to:Nat->Nat)
  (hto:∀x ∈ l,∀j:Nat,(qbj x∧j=x.th)∨(qcf x∧j=x.el)->∀(s':Nat) (tr':Tr Blk) (k':AV->Hp->Prop),s<=s'->(∀b,b<s->tr'.get b=tr.get b)->k' (.i .i64 ((to j:Nat):Int)) ⟨s',fl,tr'⟩->SC P gt (.i .i64 (j:Int)::caps) ⟨s',fl,tr'⟩ k')
  (hk:∀s' tr' b,s<=s'->(∀c,c<s->tr'.get c=tr.get c)->s<=b->b<s'->tr'.get b=some (.cells 4 true true (rSy (l.map (qa2 to))))->k (.own b l.length) ⟨s',fl,tr'⟩):SC P f [.fz l.length (rSy l),.fn gt [] caps] ⟨s,fl,tr⟩ k:=by
 refine SC.mk hc (qj ?_);simp only[xQ,vI,simprocAttr];simp +decide only[↓vS,vT,simprocAttr];refine (h1 l.length (rSy l) qal qU qt0 (by simp only[qg];omega) (by simp only[qg];omega)).sc ?_;simp only[vJ,simprocAttr];simp +decide only[↓vS,vT,simprocAttr,jh qU]
 refine SL.loopP (α:=Nat) (fun i=>[(1,.fn gt [] caps),(5,.own s l.length),(10,.own s l.length),(11,.i .i64 (l.length:Int)),(12,.i .i64 (i:Int))])
  (fun i h=>i<=l.length∧∃s' tr',h=⟨s',fl,tr'⟩∧s<s'∧(∀b,b<s->tr'.get b=tr.get b)∧tr'.get s=some (.cells 4 true true (rSy ((l.take i).map (qa2 to)++l.drop i)))) (fun i=>l.length-i) ?_ 0 ?_ ?_
 ·rintro i h1 ⟨hi,s',tr',rfl,hs,hold,hrow⟩ G ih;simp only[vI,simprocAttr]
  by_cases hlt:i<l.length
  ·have hlt':(i:Int)<l.length:=by omega
   obtain⟨x,hx⟩:∃x,l[i]?=some x:=⟨_,zzE hlt⟩;have hxm:=zzM hx;have hd:l.drop i=x::l.drop (i+1):=by rw[← (zzS.1 hx).2,List.getElem_cons_drop]
   have hAl:((l.take i).map (qa2 to)).length=i:=by simp;omega
   rw[hd] at hrow;obtain⟨A,hA⟩:∃A,A=(l.take i).map (qa2 to):=⟨_,rfl⟩;obtain⟨B,hB⟩:∃B,B=l.drop (i+1):=⟨_,rfl⟩;rw[← hA,← hB] at hrow;rw[← hA] at hAl;have hrl:(A++x::B).length=l.length:=by rw[List.length_append,hAl,hB];simp;omega
   have hget:(A++x::B)[i]?=some x:=by rw[← hAl];simp
   have hel:=qem hget;have h4:i*4+4<=(rSy (A++x::B)).length:=by rw[qal,hrl];omega
   have hw1:IntKind.wrap .i64 ((i:Int)+1)=((i+1:Nat):Int):=by rw[qq (by omega) (by omega)];simp
   have n1:¬s=s':=by omega
   have n2:¬s'=s:=by omega
   have hf2:fl<=s':=by omega
   have hset:∀(y y':Sy) (j:Nat) (v:AV),j<4->cSy y'=(cSy y).take j++([v]++(cSy y).drop (j+1))->(rSy (A++y::B)).take (i*4+j)++v::(rSy (A++y::B)).drop (i*4+j+1)=rSy (A++y'::B):=fun y y' j v hj he=>by
    have:=qfm (f:=cSy) (v:=v) (xs:=A++y::B) (j:=i) qdj (by rw[← hAl];simp) hj he;rw[show (A++y::B).set i y'=A++y'::B by rw[← hAl];exact qw0] at this
    exact this
   have hlen:∀y,(rSy (A++y::B)).length=l.length*4:=fun y=>by rw[qal];simp at hrl ⊢;omega
   have b3:∀y,i*4+2+1<=(rSy (A++y::B)).length:=fun y=>by rw[hlen];omega
   have b4:∀y,i*4+3+1<=(rSy (A++y::B)).length:=fun y=>by rw[hlen];omega
   have fin:∀(s2:Nat) (t2:Tr Blk),s<s2->(∀b,b<s->t2.get b=tr.get b)->t2.get s=some (.cells 4 true true (rSy (A++qa2 to x::B)))->∀tt,Has tt [(1,.fn gt [] caps),(5,.own s l.length),(10,.own s l.length),(11,.i .i64 (l.length:Int)),(12,.i .i64 ((i+1:Nat):Int))]->G tt ⟨s2,fl,t2⟩:=fun s2 t2 q1 q2 q3 tt htt=>by
    refine ih (i+1) _ _ (by omega) htt ⟨by omega,s2,t2,rfl,q1,q2,?_⟩
    rw[q3,qaG hx,List.map_append,← hA,← hB];simp
   have ho:=fun b (hb:b<s)=>hold b hb
   have old:∀(y:Blk) b,b<s->((tr'.set s' (.cells 0 true false [.i .u16 0,.i .u32 0,.i .i64 0,.i .i64 0])).set s' y).get b=tr.get b:=fun y b hb=>by
    rw[Tr.get_set,if_neg (by omega),Tr.get_set,if_neg (by omega)];exact hold b hb
   simp +decide only[↓vS,vT,simprocAttr,hlt',hlt,hrow,h4,hel,cSy,n1,n2,hf2];refine (h2 x.code).sc ?_;have ha:=h3 x;simp only[cSy] at ha
   by_cases hj:ql x.code=4
   ·simp +decide only[↓vS,vT,simprocAttr,hj,n1,n2];refine hto x hxm x.th (.inl ⟨hj,rfl⟩) _ _ _ (by omega) (fun b hb=>old _ b hb) ?_
    have e1:=hset x ⟨x.code,x.k,to x.th,x.el⟩ 2 (.i .i64 ((to x.th:Nat):Int)) (by omega) rfl;have hs2:s<=s:=Nat.le_refl _;simp +decide only[↓vS,vT,simprocAttr,hrow,n1,n2,hlt,b3,hfl,e1];refine ha.sc ?_
    by_cases hk5:x.code=5
    ·have hna:¬qcf x:=fun h=>h.2 hk5
     simp +decide only[↓vS,vT,simprocAttr,hna,hw1];refine fin _ _ (by omega) (fun b hb=>?_) ?_ _ (by simp[qf,qi,Tr.get_set])
     ·rw[Tr.get_set,if_neg (by omega)];exact old _ b hb
     ·have e:qa2 to x=⟨x.code,x.k,to x.th,x.el⟩:=by unfold qa2;rw[if_pos (show qbj x from hj),if_neg hna]
      rw[Tr.get_set,if_pos rfl,e]
    ·have hya:qcf x:=⟨hj,hk5⟩;simp +decide only[↓vS,vT,simprocAttr,hya,n1,n2];refine hto x hxm x.el (.inr ⟨hya,rfl⟩) _ _ _ (by omega) (fun b hb=>by rw[Tr.get_set,if_neg (by omega)];exact old _ b hb) ?_
     have e2:=hset ⟨x.code,x.k,to x.th,x.el⟩ ⟨x.code,x.k,to x.th,to x.el⟩ 3 (.i .i64 ((to x.el:Nat):Int)) (by omega) rfl;simp +decide only[↓vS,vT,simprocAttr,hrow,n1,n2,hlt,b4,hfl,e2,hw1];refine fin _ _ (by omega) (fun b hb=>?_) ?_ _ (by simp[qf,qi,Tr.get_set])
     ·rw[Tr.get_set,if_neg (by omega),Tr.get_set,if_neg (by omega)];exact old _ b hb
     ·rw[Tr.get_set,if_pos rfl];simp[qa2,qbj,qcf,hj,hk5]
   ·have hna:¬qcf x:=fun h=>hj h.1
    simp +decide only[↓vS,vT,simprocAttr,hj,n1,n2];refine ha.sc ?_;simp +decide only[↓vS,vT,simprocAttr,hna,hw1];refine fin _ _ (by omega) (fun b hb=>old _ b hb) ?_ _ (by simp[qf,qi,Tr.get_set])
    rw[Tr.get_set,if_neg n1,Tr.get_set,if_neg n1,hrow];simp[qa2,qbj,qcf,hj]
  ·obtain rfl:i=l.length:=by omega
   have hlt':¬((l.length:Int)<l.length):=by omega
   simp +decide only[↓vS,vT,simprocAttr,hlt'];rw[List.take_length,List.drop_length,List.append_nil] at hrow;exact hk _ _ s (by omega) hold (Nat.le_refl _) hs hrow
 ·simp[qf,qi,Tr.get_set]
 ·refine⟨Nat.zero_le _,_,_,rfl,by omega,fun b hb=>?_,?_⟩
  ·rw[Tr.get_set,if_neg (by omega)]
  ·rw[Tr.get_set,if_pos rfl];simp[jh qU]
theorem qix{α:Type}{f:α->List AV}(h:∀x,jo (f x)=true):∀l:List α,jo (l.flatMap f)=true
 | []=>rfl
 | x::l=>by
  have app:∀(a b:List AV),jo a=true->jo b=true->jo (a++b)=true:=by
   intro a
   induction a with
   | nil=>intro b _ hb;exact hb
   | cons v a ih =>
    intro b ha hb;simp only[jo,Bool.and_eq_true,List.cons_append] at ha ⊢;exact⟨ha.1,ih b ha.2 hb⟩
  rw[List.flatMap_cons];exact app _ _ (h x) (qix h l)
theorem qqQ{l:List Sy}:jo (rSy l)=true:=qix (fun _=>rfl) l
theorem qqv{g1 g2 g3 gt:Nat}{caps:List AV}(hc:qc P f (xQ g1 g2 g3)=true)(h1:qcU P g1 4 24)(h2:cOf P g2)(h3:qfd P g3)(l:List Sy)(hl:l.length<=200000)(to:Nat->Nat)
  (hto:∀x ∈ l,∀j:Nat,(qbj x∧j=x.th)∨(qcf x∧j=x.el)->qd P gt (.i .i64 (j:Int)::caps) (.i .i64 ((to j:Nat):Int))) :
  qg6 P f [.fz l.length (rSy l),.fn gt [] caps] (.own 0 l.length) [.cells 4 true true (rSy (l.map (qa2 to)))]:=by
 refine qg6.of_SC rfl (by simp[qmK,qqQ]) ?_;refine qjV hc h1 h2 h3 l hl (Nat.le_refl 0) to (fun x hx j hj s' tr' k' _ _ hk=>(hto x hx j hj).sc hk) fun s' tr' b _ _ _ hb hg=>?_
 intro _;refine⟨[b],?_⟩;simp[vw,hg,hb,qh,qU]
def qoo:List (Int×Nat)->Int->Nat->List (Int×Nat)
 | [],x,v=>[(x,v)]
 | (a,u)::L,x,v=>if x=a then (x,v)::L else (a,u)::qoo L x v
def qgB:List (Int×Nat)->Int->Option Nat
 | [],_=>none
 | (a,u)::L,x=>if x=a then some u else qgB L x
def mkE(L:List (Int×Nat)):List (AV×AV):=L.map fun p=>(.i .u32 p.1,.i .i64 (p.2:Int))
theorem qoT{L:List (Int×Nat)}{p:Prop}:qdL (mkE L) p↔p:=by cases L<;>exact Iff.rfl
theorem qx2{x:Int}{v:Nat}:∀{L:List (Int×Nat)} {k:List (AV×AV)->Prop},qfM qy (.i .u32 x) (.i .i64 (v:Int)) (mkE L) k↔k (mkE (qoo L x v))
 | [],k=>qpv
 | (a,u)::L,k=>by
  refine qx3.trans ?_;unfold qoo
  by_cases h:x=a
  ·rw[if_pos h,if_pos h];exact Iff.rfl
  ·rw[if_neg h,if_neg h];exact qx2
theorem qsj{x:Int}:∀{L:List (Int×Nat)} {k:Option AV->Prop},qb1 qy (.i .u32 x) (mkE L) k↔k ((qgB L x).map fun v=>.i .i64 (v:Int))
 | [],k=>qmI
 | (a,u)::L,k=>by
  refine qsk.trans ?_;unfold qgB
  by_cases h:x=a
  ·rw[if_pos h,if_pos h];exact Iff.rfl
  ·rw[if_neg h,if_neg h];exact qsj
theorem quK{z:AV}{o:Option Nat}{v:Nat}{k:AV->Prop}(h:o=some v):qf8 false z (o.map fun v=>.i .i64 (v:Int)) k↔k (.i .i64 (v:Int)):=by subst h;exact qmj
def qhC(l:List Sy):List (Int×Nat):=(l.zipIdx).foldl (fun L p=>if p.1.code=6 then qoo L p.1.k p.2 else L) []
theorem qjP{l:List Sy}{x:Sy}:qhC (l++[x])=if x.code=6 then qoo (qhC l) x.k l.length else qhC l:=by
 simp[qhC,List.zipIdx_append]
theorem qnc{L:List (Int×Nat)}{x y:Int}{v:Nat}:qgB (qoo L x v) y=if y=x then some v else qgB L y:=by
 induction L with
 | nil=>rfl
 | cons p L ih =>
  obtain⟨a,u⟩:=p;unfold qoo
  by_cases h:x=a
  ·rw[if_pos h];subst h;unfold qgB
   by_cases h2:y=x
   ·rw[if_pos h2,if_pos h2]
   ·simp only[if_neg h2]
  ·rw[if_neg h];unfold qgB;rw[ih]
   by_cases h2:y=a
   ·subst h2;rw[if_pos rfl,if_neg (Ne.symm h),if_pos rfl]
   ·rw[if_neg h2,if_neg h2]
theorem qid{l:List Sy}{j:Nat}{x:Sy}(h:l[j]?=some x)(h6:x.code=6):∃i y,qgB (qhC l) x.k=some i∧j<=i∧l[i]?=some y∧y.code=6∧y.k=x.k:=by
 have main:∀(n:Nat) (l:List Sy),l.length=n->∀{j:Nat} {x:Sy},l[j]?=some x->x.code=6->∃i y,qgB (qhC l) x.k=some i∧j<=i∧l[i]?=some y∧y.code=6∧y.k=x.k:=by
  intro n
  induction n with
  | zero=>intro l hl j x h;rw[List.eq_nil_of_length_eq_zero hl] at h;simp at h
  | succ n ih =>
   intro l hl j x h h6;have e:l=l.dropLast++[l.getLast (by intro h;rw[h] at hl;simp at hl)]:=(List.dropLast_concat_getLast _).symm;generalize l.getLast _=z at e;generalize l.dropLast=l0 at e;subst e;have hl0:l0.length=n:=by simp at hl;exact hl
   rw[qjP];rcases Nat.lt_or_ge j l0.length with hj|hj
   ·rw[List.getElem?_append_left hj] at h;obtain⟨i,y,q1,q2,q3,q4,q5⟩:=ih l0 hl0 h h6;have hi:=(zzS.1 q3).1
    by_cases hz:z.code=6
    ·rw[if_pos hz,qnc]
     by_cases hk:x.k=z.k
     ·exact⟨l0.length,z,by rw[if_pos hk],by omega,by simp,hz,hk.symm⟩
     ·exact⟨i,y,by rw[if_neg hk];exact q1,q2,by rw[List.getElem?_append_left hi];exact q3,q4,q5⟩
    ·rw[if_neg hz];exact⟨i,y,q1,q2,by rw[List.getElem?_append_left hi];exact q3,q4,q5⟩
   ·have hj2:j=l0.length:=by have:=(zzS.1 h).1;simp at this;omega
    subst hj2;simp at h;subst h;rw[if_pos h6,qnc,if_pos rfl];exact⟨l0.length,z,rfl,Nat.le_refl _,by simp,h6,rfl⟩
 exact main _ l rfl h h6
def qdc(l:List Sy)(j:Nat):Nat:=match l[j]? with|some x=>if x.code=6 then (qgB (qhC l) x.k).getD 0 else j|none=>j
def qen(l:List Sy):List Sy:=l.map (qa2 (qdc l))
def qkD(l:List Sy):Prop:=∀x ∈ l,∀j:Nat,(qbj x∧j=x.th)∨(qcf x∧j=x.el)->j<l.length
def qcl:IFn:=⟨[.tmp 4],.seq (.r [.m 4 (.k 0)]) (.seq (.seq (.r [.d 5 1,.n 6 0,.i 7 4 5 6,.f 8 0 7,.d 9 8,.q 10 (.bin .eql (.t 9) (.c (.i .u16 6)))]) (.cond (.t 10) (.reg true [.d 11 2,.d 12 1,.n 13 0,.i 14 4 12 13,.f 15 1 14,.d 16 15,.q 17 (.lookM (some .u32) false (.i .i64 0) (.t 11) (.t 16)),.n 0 17]) (.skip))) (.seq (.r [.n 18 0,.n 4 18]) (.ret)))⟩
def qdI(a b:Nat):IFn:=⟨[.tmp 2],.seq (.r [.q 1 (.box (.t 0)),.m 2 .N]) (.seq (.r [.q 6 (.mkM),.q 3 (.alloc [.nilm]),.u (.store 1 (.t 3) (.t 6))]) (.seq (.seq (.r [.d 7 1,.e 8 7,.m 9 (.k 0)]) (.blk 0 (.loop (.seq (.r [.s 10 9 8]) (.seq (.cond (.t 10) (.skip) (.exit 0)) (.seq (.blk 1 (.seq (.r [.n 11 9,.i 12 4 7 9,.v 13 4 12,.q 5 (.alloc [.i .u16 0,.i .u32 0,.i .i64 0,.i .i64 0]),.n 4 11,.u (.store 4 (.t 5) (.t 13))]) (.seq (.r [.f 14 0 5,.d 15 14,.q 16 (.bin .eql (.t 15) (.c (.i .u16 6)))]) (.cond (.t 16) (.r [.d 17 3,.f 18 1 5,.d 19 18,.n 20 4,.u (.updM (some .u32) (.t 17) (.t 19) (.t 20))]) (.skip))))) (.r [.a 21 9 1,.n 9 21]))))))) (.seq (.r [.d 22 1,.q 23 (.mkF a [] [.t 1,.t 3]),.l 24 b [.t 22,.t 23],.n 2 24]) (.ret))))⟩
theorem qnw{g1 g2 h1 h2 h3:Nat}(hc:qc P f (qdI g1 g2)=true)(hc1:qc P g1 qcl=true)(hc2:qc P g2 (xQ h1 h2 h3)=true)(c1:qcU P h1 4 24)(c2:cOf P h2)(c3:qfd P h3)(l:List Sy)(hl:l.length<=200000)(hin:qkD l) :
  qd P f [.fz l.length (rSy l)] (.fz (qen l).length (rSy (qen l))):=by
 refine qd.mk hc (by simp[qu,clo,qU]) ?_;simp only[qdI,vI,simprocAttr];simp +decide only[↓vS,vT,simprocAttr]
 refine SL.loopP (α:=Nat) (fun i=>[(1,.ptr 0 0),(3,.ptr 2 0),(7,.fz l.length (rSy l)),(8,.i .i64 (l.length:Int)),(9,.i .i64 (i:Int))])
  (fun i h=>i<=l.length∧∃s tr,h=⟨s,0,tr⟩∧3<=s∧tr.get 0=some (.cells 0 true false [.fz l.length (rSy l)])∧tr.get 1=some (.map (mkE (qhC (l.take i))))∧tr.get 2=some (.cells 0 true false [.map 1])) (fun i=>l.length-i) ?_ 0 ?_ ?_
 ·rintro i h1 ⟨hi,s,tr,rfl,hs,t0,t1,t2⟩ G ih;simp only[vI,simprocAttr]
  by_cases hlt:i<l.length
  ·have hlt':(i:Int)<l.length:=by omega
   obtain⟨x,hx⟩:∃x,l[i]?=some x:=⟨_,zzE hlt⟩;have hel:=qem hx;have h4:i*4+4<=(rSy l).length:=by rw[qal];omega
   have hw1:IntKind.wrap .i64 ((i:Int)+1)=((i+1:Nat):Int):=by rw[qq (by omega) (by omega)];simp
   have n0:¬0=s:=by omega
   have n1:¬1=s:=by omega
   have n2:¬2=s:=by omega
   have hsn:=qjP (l:=l.take i) (x:=x);rw[← qaG hx,List.length_take,Nat.min_eq_left hi] at hsn
   by_cases h6:x.code=6
   ·rw[if_pos h6] at hsn;simp +decide only[↓vS,vT,simprocAttr,hlt',hlt,h4,hel,cSy,h6,n0,n1,n2,t2,t1,qoT,qx2,hw1];refine ih (i+1) _ _ (by omega) (by simp[qf,qi,Tr.get_set]) ⟨by omega,s+1,_,rfl,by omega,?_,?_,?_⟩
    ·simp only[Tr.get_set];rw[if_neg (by omega),if_neg n0,if_neg n0];exact t0
    ·rw[Tr.get_set,if_pos rfl,hsn]
    ·simp only[Tr.get_set];rw[if_neg (by omega),if_neg n2,if_neg n2];exact t2
   ·rw[if_neg h6] at hsn;simp +decide only[↓vS,vT,simprocAttr,hlt',hlt,h4,hel,cSy,h6,hw1];refine ih (i+1) _ _ (by omega) (by simp[qf,qi,Tr.get_set]) ⟨by omega,s+1,_,rfl,by omega,?_,?_,?_⟩
    ·simp only[Tr.get_set];rw[if_neg n0,if_neg n0];exact t0
    ·simp only[Tr.get_set];rw[if_neg n1,if_neg n1,hsn];exact t1
    ·simp only[Tr.get_set];rw[if_neg n2,if_neg n2];exact t2
  ·obtain rfl:i=l.length:=by omega
   have hlt':¬((l.length:Int)<l.length):=by omega
   rw[List.take_length] at t1;simp +decide only[↓vS,vT,simprocAttr,hlt',t0];refine qjV hc2 c1 c2 c3 l hl (Nat.zero_le _) (qdc l) (fun x hx j hj s' tr' k' hs' hold hk'=>?_) fun s' tr' b hs' hold hb1 hb2 hg=>?_
   ·have hjl:=hin x hx j hj;obtain⟨y,hy⟩:∃y,l[j]?=some y:=⟨_,zzE hjl⟩;have g0:=(hold 0 (by omega)).trans t0;have g1:=(hold 1 (by omega)).trans t1;have g2:=(hold 2 (by omega)).trans t2;have gc:=qhN hy (i:=0) (by omega);have gc':(rSy l)[j*4]?=some (.i .u16 y.code):=gc;have gk:=qhN hy (i:=1) (by omega);have gk':(rSy l)[j*4+1]?=some (.i .u32 y.k):=gk;refine SC.mk hc1 (qj ?_);simp only[qcl,vI,simprocAttr]
    by_cases h6:y.code=6
    ·obtain⟨i,z,q1,q2,q3,q4,q5⟩:=qid hy h6;have e:qdc l j=i:=by unfold qdc;rw[hy];simp[h6,q1]
     rw[e] at hk';simp +decide only[↓vS,vT,simprocAttr,g0,gc',hjl,h6];refine zD ?_;simp +decide only[↓vS,vT,simprocAttr,g0,g1,g2,gk',hjl,qoT,qsj,quK q1];exact hk'
    ·have e:qdc l j=j:=by unfold qdc;rw[hy];simp[h6]
     rw[e] at hk';simp +decide only[↓vS,vT,simprocAttr,g0,gc',hjl,h6];exact hk'
   ·simp +decide only[↓vS,vT,simprocAttr];have e:(qen l).length=l.length:=by simp[qen]
    simp[vZ,vP,hg,e,zp qU];refine⟨fun h=>?_,?_⟩
    ·rw[h];rfl
    ·exact Frzs.self qU
 ·simp[qf,qi,Tr.get_set]
 ·refine⟨Nat.zero_le _,_,_,rfl,by omega,?_,?_,?_⟩<;>simp[Tr.get_set,mkE,qhC]
end Go.Kc
end
