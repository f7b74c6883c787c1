/- Walks, part 10. Conditions: with each theorem. -/
import Derived.Test.YtgaodkfneooonaaGreatCK9
set_option maxHeartbeats 4000000
set_option linter.defProp false
set_option linter.unusedSectionVars false
set_option linter.unusedSimpArgs false
set_option linter.unusedVariables false
set_option linter.unnecessarySimpa false
section
namespace Go.Kc
variable {P:Program} {f:Nat}
def qkQ:List Sp->Int->Bool
 | [],nx=>decide (nx=4294967296)
 | s::l,nx=>if s.fr≠nx\/s.to<s.fr then false else qkQ l (s.to+1)
def SpR(l:List Sp):Prop:=∀s ∈ l,0<=s.fr/\s.fr<4294967296/\0<=s.to/\s.to<4294967296
def qeN:IFn:=⟨[.tmp 2],sq [.r [.m 2 .F],.r [.m 3 (.c (.x 0))],sq [.r [.n 6 0,.e 7 6,.m 8 (.k 0)],.blk 0 (.loop (sq [.r [.s 9 8 7],.cond (.t 9) (.skip) (.exit 0),.blk 1 (sq [.r [.i 10 3 6 8,.v 11 3 10,.q 5 (.alloc [.w 0,.w 0,.j 0]),.u (.store 3 (.t 5) (.t 11))],sq [.r [.f 12 0 5,.d 13 12,.q 14 (.cvInt .u64 (.t 13)),.n 15 3,.b 16 .neq 14 15,.n 17 16,.h 18 1 5 17 false,.j 19 18 17 false,.h 20 0 5 17 false,.j 21 20 17 false,.g 22 (.bin .lss (.t 19) (.t 21)) 17 false,.o 23 17 22],.cond (.t 23) (sq [.r [.m 2 .F],.ret]) (.skip)],.r [.f 24 1 5,.d 25 24,.q 26 (.cvInt .u64 (.t 25)),.q 27 (.bin .add (.t 26) (.c (.x 1))),.n 3 27]]),.r [.a 28 8 1,.n 8 28]]))],.r [.n 29 3,.q 30 (.bin .eql (.t 29) (.c (.x 4294967296))),.n 2 30],.ret]⟩
def qra(hc:qc P f qeN=true)(l:List Sp)(hl:l.length<=1000000)(hr:SpR l):qa P f [.fz l.length (rSp l)] (.b (qkQ l 0)):=by
 refine qa.mk hc (by simp[qt,clo,qfw]) ?_;simp only[qeN,vI,simprocAttr];simp +decide only[↓vS,vT,simprocAttr];refine SL.loopP (α:=Nat×Int) (λi=>[(3,.x i.2),(6,.fz l.length (rSp l)),(7,.j (l.length:Int)),(8,.j (i.1:Int))]) (λi h=>i.1<=l.length/\h.fl=0/\qkQ (l.drop i.1) i.2=qkQ l 0) (λi=>l.length-i.1) ?_ (0,0) ?_ ?_
 .rintro⟨i,nx⟩ ⟨s,fl,tr⟩ ⟨hi,rfl,hE⟩ G ih;simp only at hi hE;simp only[vI,simprocAttr]
  by_cases hlt:i<l.length
  .have hlt':(i:Int)<l.length:=by omega
   obtain⟨x,hx⟩:∃x,l[i]?=some x:=⟨_,zzE hlt⟩;have hd:l.drop i=x::l.drop (i+1):=by rw[<- (zzS.1 hx).2,List.getElem_cons_drop]
   obtain⟨x0,x1,x2,x3⟩:=hr x (by grind);have hel:=qxf hx;have h3:i*3+3<=(rSp l).length:=by rw[qfT];omega
   have hw1:IntKind.wrap .i64 ((i:Int)+1)=((i+1:Nat):Int):=by rw[qm (by omega) (by omega)];simp
   have hw2:IntKind.wrap .u64 x.fr=x.fr:=by grind[qeF]
   have hw3:IntKind.wrap .u64 x.to=x.to:=by grind[qeF]
   have hw4:IntKind.wrap .u64 (x.to+1)=x.to+1:=by grind[qeF]
   rw[hd,qkQ]at hE
   by_cases c1:x.fr=nx
   .subst c1
    by_cases c2:x.to<x.fr
    .rw[if_pos (.inr c2)]at hE;simp +decide only[↓vS,vT,simprocAttr,hlt',hlt,h3,hel,cSp,hw2,c2,<- hE];simp[vZ]
    .rw[if_neg (by simp[c2])]at hE;simp +decide only[↓vS,vT,simprocAttr,hlt',hlt,h3,hel,cSp,hw2,hw3,hw4,c2,hw1];exact ih (i+1,x.to+1) _ _ (by simp only;omega) (by simp[qh,ql,Tr.get_set]) (by grind)
   .rw[if_pos (.inl c1)]at hE;simp +decide only[↓vS,vT,simprocAttr,hlt',hlt,h3,hel,cSp,hw2,c1,<- hE];simp[vZ]
  .obtain rfl:i=l.length:=by omega
   have hlt':¬((l.length:Int)<l.length):=by omega
   rw[List.drop_length,qkQ]at hE;simp +decide only[↓vS,vT,simprocAttr,hlt',hE];simp[vZ]
 all_goals grind[qh,ql,Tr.get_set]
def xd(l:List Sp)(at':Nat):List Nd :=
 if _h:l.length / 2=0 then [⟨true,(l.headD ⟨0,0,0⟩).way,0,0,0⟩]else
  ⟨false,0,(l.getD (l.length / 2) ⟨0,0,0⟩).fr,at'+1,at'+1+(xd (l.take (l.length / 2)) (at'+1)).length⟩::(xd (l.take (l.length / 2)) (at'+1)++xd (l.drop (l.length / 2)) (at'+1+(xd (l.take (l.length / 2)) (at'+1)).length))
termination_by l.length
decreasing_by all_goals grind
def qdA(n:Nat):∀(l:List Sp) (a:Nat),l.length<=n->0<l.length->(xd l a).length+1=2*l.length:=by
 induction n<;>grind[xd.eq_1]
def qxg{l:List Sp}{k:Nat}:(rSp l).take (k*3)=rSp (l.take k):=qhx qhs l k
def qxe{l:List Sp}{k:Nat}:(rSp l).drop (k*3)=rSp (l.drop k):=qfe qhs l k
def qr4{l m:List Nd}:rNd l++rNd m=rNd (l++m):=by simp[rNd]
def qxa{l:List Nd}:qt (rNd l)=true:=xT λ_=>rfl
def wi:IFn:=⟨[],sq [.r [.n 6 0,.e 7 6,.w 8 .quo 7 2,.n 4 8],sq [.r [.n 9 4,.w 10 .eql 9 0],.cond (.t 10) (sq [.reg true [.d 11 1,.n 12 0,.q 13 (.iAddrS 3 (.t 12) (.k 0)),.f 14 2 13,.d 15 14,.q 16 (.build [.b false,.j 0,.w 0,.j 0,.j 0] [(0,1,.T),(1,1,(.t 15))]),.q 17 (.buildS 1 [.b false,.j 0,.w 0,.j 0,.j 0] [(0,5,(.t 16))]),.q 18 (.app 5 40 true (.t 11) (.t 17)),.u (.store 1 (.t 1) (.t 18))],.ret]) (.skip)],.r [.d 19 1,.e 20 19,.n 5 20],.reg true [.d 21 1,.n 22 0,.n 23 4,.i 24 3 22 23,.f 25 0 24,.d 26 25,.n 27 5,.a 28 27 1,.q 29 (.build [.b false,.j 0,.w 0,.j 0,.j 0] [(2,1,(.t 26)),(3,1,(.t 28))]),.q 30 (.buildS 1 [.b false,.j 0,.w 0,.j 0,.j 0] [(0,5,(.t 29))]),.q 31 (.app 5 40 true (.t 21) (.t 30)),.u (.store 1 (.t 1) (.t 31))],.reg true [.d 32 2,.n 33 0,.n 34 4,.n 35 4,.q 36 (.slcS 3 (.t 33) none (some (.t 34)) (some (.t 35))),⟨(some 37),.callVW (.t 32) [.t 36],none⟩],.r [.d 38 1,.n 39 5,.d 40 1,.e 41 40,.i 42 5 38 39,.f 43 4 42,.u (.store 1 (.t 43) (.t 41))],.reg true [.d 44 2,.n 45 0,.n 46 4,.n 47 0,.e 48 47,.n 49 0,.e 50 49,.q 51 (.slcS 3 (.t 45) (some (.t 46)) (some (.t 48)) (some (.t 50))),⟨(some 52),.callVW (.t 44) [.t 51],none⟩]]⟩
def qsm{h:Hp}{esz n c:Nat}{q2 q3:IntKind}{cs:List AV}{k:AV->Prop}(h1:0<c)(h2:c<=n)(h3:c*esz<=cs.length):slK esz none (some (.i q2 (c:Int))) (some (.i q3 (c:Int))) (.fz n cs) h k↔evA (.fz c (cs.take (c*esz))) k:=by
 have hne:Nat.beq c 0=false:=by
  grind[Nat.eq_of_beq_eq_true]
 simp only[slK,qkV,qkS];show(ifK (c<=n) (ifK (c<=c) _))↔_;simp only[ifK,h2,zzL,true_and,Option.isSome_some,hne,Bool.true_and,Bool.false_eq_true,if_false];show(0*esz<=cs.length/\(c-0)*esz<=(cs.drop (0*esz)).length/\_)↔_;simp only[Nat.zero_mul,Nat.zero_le,Nat.sub_zero,List.drop_zero,h3,true_and];exact Iff.rfl
def qAf{l:List Nd}{j:Nat}{x:Nd}(m:Nat)(h:l[j]?=some x):(rNd l).take (j*5+4) ++ .j (m:Int)::(rNd l).drop (j*5+4+1)=rNd (l.set j ⟨x.leaf,x.way,x.at',x.less,m⟩) :=
 qgA (f:=cNd) (x':=⟨x.leaf,x.way,x.at',x.less,m⟩) (v:=.j (m:Int)) (i:=4) qkW h (by omega) rfl
noncomputable def qjU(tr:Tr Blk)(s bt b1:Nat)(T:List Nd)(x:Nd):Tr Blk:=(((tr.set s (.v (cNd x))).set bt .dead).set (s+1) (.cells 5 true true (rNd T++cNd x))).set b1 (.v [.own (s+1) (T.length+1)])
def qC3{g:Nat}(hc:qc P g wi=true):∀(n:Nat) (l:List Sp),l.length<=n->0<l.length->∀(s:Nat) (tr:Tr Blk) (b1 b2 bt:Nat) (T:List Nd),tr.get b1=some (.v [.own bt T.length])->tr.get bt=some (.cells 5 true true (rNd T))->
  tr.get b2=some (.v [.fn g [] [.ptr b1 0,.ptr b2 0]])->b1≠bt->b2≠bt->b1≠b2->b1<s->b2<s->bt<s->T.length+2*l.length<=1000000->
  ∃s' tr' bt',s<=s'/\(∀b,b<s->b≠b1->b≠bt->tr'.get b=tr.get b)/\tr'.get b1=some (.v [.own bt' (T++xd l T.length).length])/\tr'.get bt'=some (.cells 5 true true (rNd (T++xd l T.length)))/\(bt'=bt\/s<=bt')/\bt'<s' /\
   ∀k:AV->Hp->Prop,k (.tup []) ⟨s',0,tr'⟩->SC P g [.fz l.length (rSp l),.ptr b1 0,.ptr b2 0] ⟨s,0,tr⟩ k:=by
 intro n
 induction n with
 | zero=>omega
 | succ n ih =>
  intro l hn h0 s tr b1 b2 bt T g1 gt g2 n1 n2 n3 l1 l2 l3 hm
  have e2:((l.length:Nat):Int).tdiv 2=((l.length / 2:Nat):Int):=by
   rw[Int.tdiv_eq_ediv_of_nonneg (by omega)];omega
  have ew:IntKind.wrap .i64 ((l.length / 2:Nat):Int)=((l.length / 2:Nat):Int):=by grind[qm]
  have h20:(2:Int)≠0:=by decide
  have r1:T.length+1<=qf:=by simp only[qf];omega
  have r2:(T.length+1)*40<=qf:=by simp only[qf];omega
  have m1:¬b1=s:=by omega
  have m2:¬b2=s:=by omega
  have m3:¬bt=s:=by omega
  have m4:¬s=bt:=by omega
  have m5:¬b1=bt:=n1;have m6:¬b1=s+1:=by omega
  have hTl:(rNd T).length=T.length*5:=qlb
  by_cases hk:l.length / 2=0
  .have hl1:l.length=1:=by omega
   obtain⟨x,rfl⟩:∃x,l=[x]:=List.length_eq_one_iff.1 hl1;have hT:xd [x] T.length=[⟨true,x.way,0,0,0⟩]:=by rw[xd];simp
   rw[hT];refine⟨s+1+1,qjU tr s bt b1 T ⟨true,x.way,0,0,0⟩,s+1,by omega,?_,?_,?_,.inr (by omega),by omega,λk hk=>?_⟩
   .intro b q1 q2 q3;simp only[qjU,Tr.get_set];repeat rw[if_neg (by omega)]
   .rw[qjU,Tr.get_set,if_pos rfl];simp
   .rw[qjU,Tr.get_set,if_neg (by omega),Tr.get_set,if_pos rfl,<- qr4];rfl
   .refine SC.mk hc (qk ?_);simp only[wi,vI,simprocAttr];simp +decide only[↓vS,vT,simprocAttr,↓qkT h20,e2,ew];refine zg ?_;simp +decide only[↓vS,vT,simprocAttr,rSp,cSp,List.flatMap_cons,List.flatMap_nil,g1,gt,m1,m2,m3,m4,m5,m6,r1,r2,hTl];exact hk
  .have hk0:¬(((l.length / 2:Nat)):Int)=0:=by omega
   obtain⟨x,hx⟩:∃x,l[l.length / 2]?=some x:=⟨_,zzE (by omega)⟩;have hxD:l.getD (l.length / 2) ⟨0,0,0⟩=x:=by rw[List.getD_eq_getElem?_getD,hx];rfl
   have gx:=qsc hx (i:=0) (by omega);have gx':(rSp l)[l.length / 2*3]?=some (.w x.fr):=gx;have hlk:l.length / 2<l.length:=by omega
   have hw1:IntKind.wrap .i64 ((T.length:Int)+1)=((T.length+1:Nat):Int):=by rw[qm (by omega) (by omega)];simp
   obtain⟨nd,hnd⟩:∃nd:Nd,nd=⟨false,0,x.fr,T.length+1,0⟩:=⟨_,rfl⟩;have a1:(qjU tr s bt b1 T nd).get b1=some (.v [.own (s+1) (T++[nd]).length]):=by rw[qjU,Tr.get_set,if_pos rfl];simp
   have at1:(qjU tr s bt b1 T nd).get (s+1)=some (.cells 5 true true (rNd (T++[nd]))):=by rw[qjU,Tr.get_set,if_neg (by omega),Tr.get_set,if_pos rfl,<- qr4];simp[rNd]
   have ae:∀b,b<s->b≠b1->b≠bt->(qjU tr s bt b1 T nd).get b=tr.get b:=λb q1 q2 q3=>by
    simp only[qjU,Tr.get_set];repeat rw[if_neg (by omega)]
   obtain⟨s2,tr2,bt2,q1,q2,q3,q4,q5,q6,q7⟩:=ih (l.take (l.length / 2)) (by simp;omega) (by simp;omega) (s+1+1) (qjU tr s bt b1 T nd) b1 b2 (s+1) (T++[nd]) a1 at1 ((ae b2 l2 (Ne.symm n3) n2).trans g2) (by omega) (by omega) n3 (by omega) (by omega) (by omega) (by simp;omega);have hlt:(l.take (l.length / 2)).length=l.length / 2:=by simp;omega
   rw[show(T++[nd]).length=T.length+1 by simp]at q3 q4
   have htl:=qdA l.length (l.take (l.length / 2)) (T.length+1) (by omega) (by omega);rw[hlt]at q7 htl;obtain⟨L,hL⟩:∃L,L=xd (l.take (l.length / 2)) (T.length+1):=⟨_,rfl⟩;rw[<- hL]at q3 q4 htl;have hget:(T++[nd]++L)[T.length]?=some nd:=by simp
   have hT3:(T++[nd]++L).set T.length ⟨nd.leaf,nd.way,nd.at',nd.less,(T++[nd]++L).length⟩=T++[⟨false,0,x.fr,T.length+1,T.length+1+L.length⟩]++L:=by
    rw[hnd];simp[List.set_append];omega
   have hset:=qAf (T++[nd]++L).length hget;rw[hT3]at hset;have hl3:T.length*5+4+1<=(rNd (T++[nd]++L)).length:=by rw[qlb];simp;omega
   have hn5:b1≠bt2:=by omega
   have hn6:b2≠bt2:=by omega
   obtain⟨T3,hT3e⟩:∃T3:List Nd,T3=T++[⟨false,0,x.fr,T.length+1,T.length+1+L.length⟩]++L:=⟨_,rfl⟩;have hT3l:T3.length=(T++[nd]++L).length:=by rw[hT3e];simp
   have b2g:=(q2 b2 (by omega) (Ne.symm n3) (by omega)).trans ((ae b2 l2 (Ne.symm n3) n2).trans g2)
   obtain⟨s4,tr4,bt4,p1,p2,p3,p4,p5,p6,p7⟩:=ih (l.drop (l.length / 2)) (by simp;omega) (by simp;omega) s2 (tr2.set bt2 (.cells 5 true true (rNd T3))) b1 b2 bt2 T3 (by rw[Tr.get_set,if_neg hn5,q3,hT3l]) (by rw[Tr.get_set,if_pos rfl])
    (by rw[Tr.get_set,if_neg hn6];omega) hn5 hn6 n3 (by omega) (by omega) (by omega) (by rw[hT3l];simp;omega)
   have hld:(l.drop (l.length / 2)).length=l.length-l.length / 2:=by simp
   rw[hld]at p7
   have hfin:T++xd l T.length=T3++xd (l.drop (l.length / 2)) T3.length:=by
    have e3:T3.length=T.length+1+L.length:=by rw[hT3l];simp;omega
    conv=>lhs;rw[xd,dif_neg hk]
    rw[hxD,<- hL,e3,hT3e];simp
   refine⟨s4,tr4,bt4,by omega,?_,?_,?_,by omega,p6,λk hkk=>?_⟩
   .intro b e1 e2 e3;rw[p2 b (by omega) e2 (by omega),Tr.get_set,if_neg (by omega),q2 b (by omega) e2 (by omega)];exact ae b e1 e2 e3
   .rw[hfin];exact p3
   .rw[hfin];exact p4
   .have v1:(qjU tr s bt b1 T nd).get b2=some (.v [.fn g [] [.ptr b1 0,.ptr b2 0]]):=(ae b2 l2 (Ne.symm n3) n2).trans g2;have k1:0<l.length / 2:=by omega
    have k2:l.length / 2<=l.length:=by omega
    have k3:l.length / 2*3<=(rSp l).length:=by rw[qfT];omega
    have k4:l.length / 2<l.length:=hlk;have k5:l.length<=l.length:=zzL _;have k6:l.length*3<=(rSp l).length:=by rw[qfT];omega
    have hsl1:(rSp l).take (l.length / 2*3)=rSp (l.take (l.length / 2)):=qxg
    have hsl2:((rSp l).drop (l.length / 2*3)).take ((l.length-l.length / 2)*3)=rSp (l.drop (l.length / 2)):=by
     rw[qxe,List.take_of_length_le (by rw[qfT,hld];omega)]
    refine SC.mk hc (qk ?_);simp only[wi,vI,simprocAttr];simp +decide only[↓vS,vT,simprocAttr,↓qkT h20,e2,ew,hk0,g1];refine zg ?_;simp +decide only[↓vS,vT,simprocAttr,g1,gt,gx',hlk,hw1,m1,m2,m3,m4,m5,m6,r1,r2,hTl];refine zg ?_;rw[hnd]at q7;simp only[qjU,cNd]at q7;have m7:¬b2=b1:=Ne.symm n3;have m8:¬b2=s+1:=by omega
    have m9:¬b2=bt:=n2;simp +decide only[↓vS,vT,simprocAttr,m7,m8,m9,m2,g2,↓qsm k1 k2 k3,hsl1];refine⟨.tup [],_,q7,?_⟩;obtain⟨A,hA⟩:∃A,A=T++[nd]++L:=⟨_,rfl⟩;have k7:T.length<A.length:=by rw[hA];simp
    rw[<- hA]at q3 q4 hl3 hset;rw[<- hT3e]at hset;have k8:¬b1=bt2:=hn5;have k9:¬b2=bt2:=hn6;simp +decide only[↓vS,vT,simprocAttr,q3,q4,k7,k8,hl3,hset];refine zg ?_;simp +decide only[↓vS,vT,simprocAttr,k9,b2g,↓qxz k4 k5 k6,hsl2];exact⟨.tup [],_,p7,hkk⟩
def qfk(a b:Nat):ICode:=sq [.r [.d 10 5,.n 11 0,⟨(some 12),.callV (.t 10) [.t 11],none⟩],.r [.d 13 4,.n 2 13,.m 3 (.k 0)],.ret]
def qeP(a b:Nat):IFn:=⟨[.tmp 2,.tmp 3],sq [.r [.m 2 .N,.m 3 (.k 0)],sq [.r [.n 6 0,.l 7 a [.t 6],.q 8 (.un .not (.t 7))],.cond (.t 8) (sq [.r [.m 2 .N,.m 3 (.k 240)],.ret]) (.skip)],.r [.q 4 (.alloc [.nils])],.r [.q 5 (.alloc [.nilf])],.r [.q 9 (.mkF b [] [.t 4,.t 5]),.u (.store 1 (.t 5) (.t 9))],.cut (qfk a b)]⟩
def qrg(l:List Sp):AV:=if qkQ l 0=true then .tup [.fz (xd l 0).length (rNd (xd l 0)),.j 0]else .tup [.fz 0 [],.j 240]
def qua{g1 g2:Nat}(hc:qc P f (qeP g1 g2)=true)(h2:qc P g2 wi=true)(l:List Sp)(h1:qa P g1 [.fz l.length (rSp l)] (.b (qkQ l 0)))(hl:l.length<=400000)(h0:0<l.length):qa P f [.fz l.length (rSp l)] (qrg l):=by
 refine qa.mk hc (by simp[qt,clo,qfw]) ?_;simp only[qeP,vI,simprocAttr];simp +decide only[↓vS,vT,simprocAttr];refine h1.sc ?_;unfold qrg;cases hw:qkQ l 0 with
 | false =>
  simp +decide only[↓vS,vT,simprocAttr];simp[vZ]
 | true =>
  simp +decide only[↓vS,vT,simprocAttr];refine S.weak (Wk.mk [(0,.fz l.length (rSp l)),(4,.ptr 0 0),(5,.ptr 1 0)] [.v [.own 2 0],.v [.fn g2 [] [.ptr 0 0,.ptr 1 0]],.cells 5 true true []] [0,1,99] ?_ ?_ ?_ rfl) (qk ?_)
  .simp[vw,qfw]
  .simp[vw]
  .simp
  simp only[qfk,vI,simprocAttr];simp +decide only[↓vS,vT,simprocAttr]
  obtain⟨s',tr',bt',q1,q2,q3,q4,q5,q6,q7⟩:=qC3 h2 l.length l (zzL _) h0 3 (((Tr.leaf.set 0 (.v [.own 2 0])).set 1 (.v [.fn g2 [] [.ptr 0 0,.ptr 1 0]])).set 2 (.cells 5 true true [])) 0 1 2 []
   (by simp[Tr.get_set]) (by simp[Tr.get_set,rNd]) (by simp[Tr.get_set]) (by decide) (by decide) (by decide) (by decide) (by decide) (by decide) (by grind)
  refine q7 _ ?_;simp +decide only[↓vS,vT,simprocAttr,q3];simp[vZ,vP,q4,qJ qxa];intro h;rw[h];rfl
def qc6:List GTest->Nat
 | []=>1
 | t::ts=>qb3 t+if t.mask=0 then 0 else qc6 ts
def qmq:∀{ts:List GTest} {a:Int} {p:Nat},(qd5 ts a p).length=qc6 ts
 | [],_,_=>rfl
 | t::ts,a,p=>by
  unfold qd5 qc6;rw[zzP,qhI];split
  .rfl
  .rw[qmq]
def qp3(r:GRule):Nat:=qc6 r.tests
def qp2{r:GRule}{p:Nat}:(qxs r p).length=qp3 r:=qmq
def qnx:∀{ts:List GTest},qc6 ts<=ts.length*7+1
 | []=>by simp[qc6]
 | t::ts=>by
  unfold qc6;have:=qqe (t:=t);have:=qnx (ts:=ts)
  grind
def xF:List GRule->Nat->List Sy
 | [],_=>[]
 | r::rs,p=>qxs r p++xF rs (p+qp3 r)
def zY(rs:List GRule):Nat:=(rs.map qp3).sum
theorem qcn:∀{rs:List GRule} {p:Nat},(xF rs p).length=zY rs
 | [],_=>rfl
 | r::rs,p=>by unfold xF;rw[zzP,qp2,qcn];simp[zY]
def qkH:∀{rs:List GRule} {r:GRule} {p:Nat},xF (rs++[r]) p=xF rs p++qxs r (p+zY rs)
 | [],r,p=>by simp[xF,zY]
 | x::rs,r,p=>by rw[zzC,xF,xF,qkH,List.append_assoc];simp[zY];grind
def qkj:∀{rs:List GRule},(∀r ∈ rs,r.tests.length<=32)->zY rs<=rs.length*225
 | [],_=>by simp[zY]
 | r::rs,h=>by
  have:=qnx (ts:=r.tests);have:=h r (by simp);have:=qkj (rs:=rs) λx hx=>h x (by grind)
  simp[zY,qp3]at this ⊢;omega
def qkI{rs:List GRule}{i:Nat}:zY (rs.take i)<=zY rs:=by
 have h:zY rs=zY (rs.take i)+zY (rs.drop i):=by
  conv=>lhs;rw[<- List.take_append_drop i rs]
  simp only[zY,List.map_append,List.sum_append]
 omega
def qR(rs:List GRule):List (Int×Nat):=rs.mapIdx λi r=>(r.nr,i+1)
theorem qcl{rs:List GRule}:(qR rs).length=rs.length:=by simp[qR]
theorem qdx{rs:List GRule}{j:Nat}:(qR rs)[j]?=(rs[j]?).map λr=>(r.nr,j+1):=by simp[qR]
def zo(x:GFil):List Nd:=xd (xb (pcs 0 (qR x.rules) 0)) 0
def jaN:List Nd->Nat
 | n::_=>if n.leaf=true then 1 else 0
 | []=>0
def qrG{FW:Nat->Nat}{T:List Nd}:(jaE FW T).length=jaN T:=by
 cases T with
 | nil=>rfl
 | cons n T=>simp only[jaE,jaN];split<;>rfl
theorem qcw{FW:Nat->Nat}{T:List Nd}{p:Nat}:(jM FW T p).length=jaN T+jo T:=by
 unfold jM;rw[zzP,qrG,qrn]
def qbv(x:GFil):Nat:=qdZ x.arch+(jaN (zo x)+jo (zo x))
def qaH(x:GFil)(j:Nat):Nat:=if j=0 then qbv x else qbv x+1+zY (x.rules.take (j-1))
def jR(x:GFil):Nat:=qbv x+1+zY x.rules
def zN(x:GFil):List Sy:=qc3 x.arch 0 (jR x)++jM (qaH x) (zo x) (qdZ x.arch)++[⟨6,x.dflt,0,0⟩]++xF x.rules (qbv x+1)++[⟨6,2147418112,0,0⟩]
def qs2{x:GFil}:(zN x).length=jR x+1:=by
 unfold zN jR qbv
 grind[qcH,qcw,qcn]
structure FilR (x:GFil):Prop where
 nr:∀r ∈ x.rules,0<=r.nr/\r.nr<4294967296
 ts:∀r ∈ x.rules,∀t ∈ r.tests,0<=t.mask/\t.mask<18446744073709551616/\0<=t.val/\t.val<18446744073709551616
def Stp.kd'{L L':List Nat}{U U1:Nat->Kd}{s s1:Nat}{tr t1 t2:Tr Blk}(a:Stp L U s tr U1 s1 t1){b F':Nat}(hb:U b = .no)(hf:∀c,U1 c = .fr->t2.get c=t1.get c)(hx:∀c,U1 c = .box->t2.get c=t1.get c)(hL:∀c ∈ L,c=b\/c ∈ L'):Stp L' U s tr (kdS U1 b (.lab F' true)) s1 t2:=by
 have ne:∀{c},U c≠.no->c≠b:=by grind
 refine⟨a.le,λc hc=>?_,λc hc=>?_,λc F p hc=>?_,λc F hc=>?_⟩
 .rw[qj (by simp_all)];exact by grind[Stp.fr]
 .rw[qj (by simp_all)];exact by grind[Stp.box]
 .rw[qj (by simp_all)];exact a.lab c F p hc
 grind[qI,qj,Stp.nw]
def qiA(n b:Nat):AV:=if n=0 then .sl b 0 1 1 false else .own b (n+1)
def qrH{n b:Nat}:qiA n b = .sl b 0 (n+1) (n+1) false\/qiA n b = .own b (n+1):=by
 unfold qiA;grind
section
variable {g w s gl gp gj gh gr g1 g2 g3 g4 g5:Nat} {U:Nat->Kd} {tr:Tr Blk} {RV:List Sy} {N:List Nat} {k:AV->Hp->Prop}
def qaI(a b c d e g h i j:Nat):ICode:=sq [sq [.r [.f 88 1 1,.d 89 88,.e 90 89,.m 91 (.k 0)],.blk 2 (.loop (sq [.r [.s 92 91 90],.cond (.t 92) (.skip) (.exit 2),.blk 3 (sq [.r [.n 93 91,.i 94 3 89 91,.v 95 3 94,.q 16 (.alloc [.w 0,.nils,.w 0]),.n 15 93,.u (.store 3 (.t 16) (.t 95))],.r [.n 96 4,.n 97 8,.n 98 15,.a 99 98 1,.i 100 1 97 99,.d 101 100,.l 102 g [.t 96,.t 101]],.r [.n 103 4,.v 104 3 16,.l 105 i [.t 103,.t 104]]]),.r [.a 106 91 1,.n 91 106]]))],.r [.n 107 4,.n 108 5,.l 109 g [.t 107,.t 108]],.r [.n 110 4,.l 111 h [.t 110,(.c (.w 2147418112))]],.r [.n 112 4,.l 113 j [.t 112],.n 2 113,.m 3 (.k 0)],.ret]
def qcV(a b c d e g h i j:Nat):ICode:=sq [.r [.n 65 6,.n 66 7,.l 67 c [.t 65,.t 66,.k 0],.n 64 67,.x 68 64 0,.x 69 64 1,.n 11 68,.n 12 69],.r [.n 71 11,.l 72 d [.t 71],.n 70 72,.x 73 70 0,.x 74 70 1,.n 13 73,.n 14 74],.r [.n 75 4,.n 76 13,.n 77 8,.l 78 e [.t 75,.t 76,.t 77]],.r [.n 79 4,.n 80 8,.q 81 (.iAddrS 1 (.t 80) (.k 0)),.d 82 81,.l 83 g [.t 79,.t 82]],.r [.n 84 4,.f 85 2 1,.d 86 85,.l 87 h [.t 84,.t 86]],.cut (qaI a b c d e g h i j)]
def qcU(a b c d e g h i j:Nat):ICode:=sq [.r [.n 24 4,.f 25 0 1,.d 26 25,.n 27 5,.l 28 b [.t 24,.t 26,.t 27]],.reg true [.f 29 1 1,.d 30 29,.e 31 30,.q 32 (.mkS 1 4 [.w 0] (.t 31) (.t 31)),.f 33 1 1,.d 34 33,.e 35 34,.q 36 (.mkS 1 8 [.j 0] (.t 35) (.t 35)),.n 6 32,.n 7 36],.r [.q 37 (.build [.j 0] []),.q 38 (.box (.t 37)),.q 39 (.buildS 1 [.nilp] [(0,1,(.t 38))]),.n 8 39],sq [.r [.f 40 1 1,.d 41 40,.e 42 41,.m 43 (.k 0)],.blk 0 (.loop (sq [.r [.s 44 43 42],.cond (.t 44) (.skip) (.exit 0),.blk 1 (sq [.r [.n 45 43,.i 46 3 41 43,.v 47 3 46,.q 10 (.alloc [.w 0,.nils,.w 0]),.n 9 45,.u (.store 3 (.t 10) (.t 47))],.r [.n 48 6,.n 49 9,.n 50 7,.n 51 9,.f 52 0 10,.d 53 52,.n 54 9,.a 55 54 1,.i 56 1 48 49,.u (.store 1 (.t 56) (.t 53)),.i 57 1 50 51,.u (.store 1 (.t 57) (.t 55))],.r [.n 58 8,.q 59 (.build [.j 0] []),.q 60 (.box (.t 59)),.q 61 (.buildS 1 [.nilp] [(0,1,(.t 60))]),.q 62 (.app 1 8 true (.t 58) (.t 61)),.n 8 62]]),.r [.a 63 43 1,.n 43 63]]))],.cut (qcV a b c d e g h i j)]
def qfH(a b c d e g h i j:Nat):IFn:=⟨[.tmp 2,.tmp 3],sq [.r [.q 1 (.box (.t 0)),.m 2 .N,.m 3 (.k 0)],sq [.r [.v 17 3 1,.l 18 a [.t 17],.q 19 (.un .not (.t 18))],.cond (.t 19) (sq [.r [.m 2 .N,.m 3 (.k 210)],.ret]) (.skip)],.r [.q 20 (.build [.nils,.nils] []),.q 21 (.box (.t 20)),.q 22 (.build [.j 0] []),.q 23 (.box (.t 22)),.n 4 21,.n 5 23],.cut (qcU a b c d e g h i j)]⟩
structure EFn (P:Program) (g gl gp gj gh gr go gb gR gd gt gH gA gB gC gD:Nat):Prop where
 W:WFn P g gl gp gj gh gr
 own:qc P go (qbb gD gl gj gh)=true
 br:qc P gb (qab gj gh)=true
 rule:qc P gR (qaX gt gr)=true
 test:qc P gt (jB gA gB gC gH gr gh)=true
 half:qc P gH (xJ gl gp gj gh)=true
 done:qc P gd zi=true
 dj:qc P g qQ=true
 lo:qsN P gA 0
 hi:qsN P gB 4
 hal:qyB P gC
 tok:qqz P gD
def qnv{t:GTest}(h:qb2 t=true):0<=t.arg/\t.arg<6:=by
 simp only[qb2,zzB,decide_eq_true_eq]at h;omega
def qj1:∀{rs:List GRule} {o:Option GRule},upR o rs=true->∀r ∈ rs,qb1 r=true
 | [],_,_,_,hr=>by cases hr
 | x::rs,o,h,r,hr=>by
  simp only[upR,zzB]at h;rcases List.mem_cons.1 hr with rfl|hr
  .simp_all
  .exact qj1 h.2 r hr
variable {go gb gR gd gt gH gA gB gC gD gM gS gT:Nat}
def qve{n0 sb bf bN bL e:Nat}{wf a:Bool}{Ub:Nat->Kd}{tb:Tr Blk}{L:List Nat}(E:EFn P g gl gp gj gh gr go gb gR gd gt gH gA gB gC gD)(x:GFil)(hx:FilR x)(hK:∀r ∈ x.rules,qb1 r=true)(hn:x.rules.length<=400){pre:List Sy}(hpre:pre.length=qbv x+1)(hd1:qbv x<=10000)
  (h:WI g w U s tr pre []) (st:Stp L Ub sb tb U s tr) (xs:List Nat) (hxl:xs.length=x.rules.length+1) (hxs:∀(j:Nat) c,xs[j]?=some c->∃p,U c = .lab (qaH x j) p) (hL0:U bL = .fr) (gL:tr.get bL=some (.cells e wf a (rPt xs)))
  (hf0:U bf = .fr) (gf:tr.get bf=some (.v (zr x))) {pN:Bool} (hN:U bN = .lab (jR x) pN) (hbN:Ub bN = .no) (hL:∀c ∈ L,c=bN\/∃j:Nat,1<=j/\xs[j]?=some c) (hnew:∀(j:Nat) c,xs[j]?=some c->Ub c = .no) (hno:∀b F,Ub b≠.lab F false)
  {t:Tr AV} (ht:Has t [(1,.ptr bf 0),(4,.ptr w 0),(5,.ptr bN 0),(8,qiA x.rules.length bL)]) :
  S P n0 (qaI gM go gS gT gb gh gr gR gd) (xk [.tmp 2,.tmp 3] λv' h'=>Frz h' v' (.tup [.fz (pre++xF x.rules (qbv x+1)++([⟨6,2147418112,0,0⟩]:List Sy)).length (rSy (pre++xF x.rules (qbv x+1)++[⟨6,2147418112,0,0⟩])),.j 0])) t ⟨s,0,tr⟩:=by
 refine S.has _ ht (qk ?_)
 have hts:∀r ∈ x.rules,r.tests.length<=32:=λr hr=>by
  have:=hK r hr;simp only[qb1,zzB,decide_eq_true_eq]at this;omega
 have hrN:=qkj hts;simp only[qaI,vI,simprocAttr];simp +decide only[↓vS,vT,simprocAttr,gf,zr]
 refine SL.loopP (α:=Nat) (λi=>[(1,.ptr bf 0),(4,.ptr w 0),(5,.ptr bN 0),(8,qiA x.rules.length bL),(89,.fz x.rules.length (rR x.rules)),(90,.j (x.rules.length:Int)),(91,.j (i:Int))])
  (λi h=>i<=x.rules.length/\∃L' U' s' tr',h=⟨s',0,tr'⟩/\Stp L' Ub sb tb U' s' tr'/\WI g w U' s' tr' (pre++xF (x.rules.take i) (qbv x+1)) []/\(∀(j:Nat) c,xs[j]?=some c->∃p,U' c = .lab (qaH x j) p)/\U' bL = .fr/\tr'.get bL=some (.cells e wf a (rPt xs)) /\
   (∃p,U' bN = .lab (jR x) p)/\(∀c ∈ L',c=bN\/∃j:Nat,i+1<=j/\xs[j]?=some c)) (λi=>x.rules.length-i) ?_ 0 ?_ ?_
 .rintro i h1 ⟨hi,L',U',s',tr',rfl,st',w',hxs',hL0',gL',⟨pN',hN'⟩,hL'⟩ G ih;simp only[vI,simprocAttr]
  by_cases hlt:i<x.rules.length
  .have hlt':(i:Int)<x.rules.length:=by omega
   obtain⟨r,hr⟩:∃r,x.rules[i]?=some r:=⟨_,zzE hlt⟩;obtain⟨c,hc⟩:∃c,xs[i+1]?=some c:=⟨_,zzE (by omega)⟩;have hrm:=zzM hr;have hel:((rR x.rules).drop (i*3)).take 3=zw r:=qG qb5 hr;have h3:i*3+3<=(rR x.rules).length:=by rw[show(rR x.rules).length=x.rules.length*3 from qV qb5 _];omega
   have hw1:IntKind.wrap .i64 ((i:Int)+1)=((i+1:Nat):Int):=by rw[qm (by omega) (by omega)];simp
   obtain⟨wv,sv⟩:=w'.var (.v [.w 0,.nils,.w 0]) (.v (zw r));have hbs:bL<s':=w'.dom bL (by rw[hL0'];simp);have hbs':¬bL=s':=by omega
   have hge:(rPt xs)[i+1]?=some (.ptr c 0):=by rw[qfS,hc];rfl
   have hlt1:i+1<x.rules.length+1:=by omega
   have hT:zY (x.rules.take i)<=zY x.rules:=qkI
   have hlen:(pre++xF (x.rules.take i) (qbv x+1)).length=qaH x (i+1):=by
    rw[zzP,qcn,hpre];simp[qaH]
   obtain⟨pc,hpc⟩:=hxs' (i+1) c hc;rw[<- hlen]at hpc;have hpc:=sv.lab _ _ _ hpc
   have hcN:c≠bN:=λe=>by
    rw[e]at hpc;have:=(Kd.lab.inj (hpc.symm.trans (sv.lab _ _ _ hN'))).1;rw[hlen]at this;simp[qaH,jR]at this
    have h2:zY x.rules=zY (x.rules.take i)+zY (x.rules.drop i):=by
     conv=>lhs;rw[<- List.take_append_drop i x.rules]
     simp only[zY,List.map_append,List.sum_append]
    have h3:x.rules.drop i=r::x.rules.drop (i+1):=by rw[<- (zzS.1 hr).2,List.getElem_cons_drop]
    have h4:0<qp3 r:=by unfold qp3;cases r.tests with
     | nil=>simp[qc6]
     | cons t ts=>simp[qc6,qb3];omega
    rw[h3]at h2;simp[zY]at h2 this;omega
   -- behind the label
   have go:∀(k:AV->Hp->Prop),(∀U3 s3 t3 L3,Stp L3 Ub sb tb U3 s3 t3->WI g w U3 s3 t3 (pre++xF (x.rules.take (i+1)) (qbv x+1)) []->(∀(j:Nat) c,xs[j]?=some c->∃p,U3 c = .lab (qaH x j) p)->U3 bL = .fr->t3.get bL=some (.cells e wf a (rPt xs))->(∃p,U3 bN = .lab (jR x) p)->
     (∀c ∈ L3,c=bN\/∃j:Nat,i+1+1<=j/\xs[j]?=some c)->k (.tup []) ⟨s3,0,t3⟩)->∀k2:AV->Hp->Prop,(∀t4,t4.get s'=some (.v (zw r))->(∀k',(∀v h,k v h->k' v h)->SC P gR [.ptr w 0,.agg (zw r)] ⟨s'+1,0,t4⟩ k')->k2 (.tup []) ⟨s'+1,0,t4⟩)->
     SC P gh [.ptr w 0,.ptr c 0] ⟨s'+1,0,(tr'.set s' (.v [.w 0,.nils,.w 0])).set s' (.v (zw r))⟩ k2:=by
    intro k hk k2 hk2;refine qaW E.W.here wv hpc λt4 q1 q2 w4=>hk2 t4 ?_ λk' hkk=>?_
    .rw[q1 s' qI,Tr.get_set,if_pos rfl]
    have hkl4:∀(j:Nat) c',xs[j]?=some c'->∃p,kdS (kdS U' s' .fr) c (.lab (pre++xF (x.rules.take i) (qbv x+1)).length true) c' = .lab (qaH x j) p:=λj c' hj=>by
     obtain⟨p,hp⟩:=hxs' j c' hj;have hp:=sv.lab _ _ _ hp
     by_cases e:c'=c
     .rw[e]at hp;have hF:=(Kd.lab.inj (hpc.symm.trans hp)).1;exact⟨true,by rw[e,qI,hF]⟩
     .exact⟨p,by rw[qj e];exact hp⟩
    have st4:Stp (L'.filter λy=>decide (y≠c)) Ub sb tb (kdS (kdS U' s' .fr) c (.lab (pre++xF (x.rules.take i) (qbv x+1)).length true)) (s'+1) t4 :=
     (st'.trans sv).kd' (hnew _ _ hc) q1 q2 (by grind)
    have hbLc:bL≠c:=by grind
    refine qEM E.rule E.W E.test E.lo E.hi E.hal E.half w4 r (λt ht=>?_) (by rw[hlen];have:=hts r hrm;simp only[qaH];simp;omega) λU5 s5 t5 st5 w5=>hkk _ _ (hk U5 s5 t5 _ (st4.trans st5) ?_ ?_ ?_ ?_ ?_ ?_)
    .have q:=hx.ts r hrm t ht;have q2:=qnv (t:=t) (by have:=hK r hrm;simp only[qb1,zzB,List.all_eq_true]at this;exact this.1.2 t ht)
     exact⟨q2.1,q2.2,q.1,q.2.1,q.2.2.1,q.2.2.2⟩
    .rw[qbu hr,qkH,<- List.append_assoc];rw[zzP,qcn,hpre]at w5;exact w5
    .intro j c' hj;obtain⟨p,hp⟩:=hkl4 j c' hj;exact⟨p,st5.lab _ _ _ hp⟩
    .exact (st5.fr bL (by rw[qj hbLc];exact(sv.fr bL hL0').1)).1
    .rw[(st5.fr bL (by rw[qj hbLc];exact(sv.fr bL hL0').1)).2,q1 bL (sv.fr bL hL0').1,(sv.fr bL hL0').2];exact gL'
    .exact⟨pN',st5.lab _ _ _ (by rw[qj (Ne.symm hcN)];exact sv.lab _ _ _ hN')⟩
    grind
   let K0:AV->Hp->Prop:=λv h=>∃U3 s3 t3 L3,v = .tup []/\h=⟨s3,0,t3⟩/\Stp L3 Ub sb tb U3 s3 t3/\WI g w U3 s3 t3 (pre++xF (x.rules.take (i+1)) (qbv x+1)) []/\(∀(j:Nat) c,xs[j]?=some c->∃p,U3 c = .lab (qaH x j) p)/\U3 bL = .fr/\t3.get bL=some (.cells e wf a (rPt xs))/\(∃p,U3 bN = .lab (jR x) p) /\
     (∀c ∈ L3,c=bN\/∃j:Nat,i+1+1<=j/\xs[j]?=some c)
   have fin:∀(v:AV) (h:Hp),K0 v h->∀tt,Has tt [(1,.ptr bf 0),(4,.ptr w 0),(5,.ptr bN 0),(8,qiA x.rules.length bL),(89,.fz x.rules.length (rR x.rules)),(90,.j (x.rules.length:Int)),(91,.j ((i+1:Nat):Int))]->G tt h:=by
    rintro v h ⟨U3,s3,t3,L3,rfl,rfl,q1,q2,q3,q4,q5,q6,q7⟩ tt htt;exact ih (i+1) _ _ (by omega) htt (by grind)
   rcases qrH (n:=x.rules.length) (b:=bL)with hV|hV
   .rw[hV]at fin ⊢;simp +decide only[↓vS,vT,simprocAttr,hlt',hlt,h3,hel,zw,hw1,hbs',gL',hge,hlt1,zzU];refine go K0 (by grind) _ λt4 h4 hcall=>?_
    simp +decide only[↓vS,vT,simprocAttr,h4,zw];refine hcall _ λv h hv=>?_
    simp +decide only[↓vS,vT,simprocAttr,hw1];exact fin v h hv _ (by simp[qh,ql,Tr.get_set])
   .rw[hV]at fin ⊢;simp +decide only[↓vS,vT,simprocAttr,hlt',hlt,h3,hel,zw,hw1,hbs',gL',hge,hlt1,zzU];refine go K0 (by grind) _ λt4 h4 hcall=>?_
    simp +decide only[↓vS,vT,simprocAttr,h4,zw];refine hcall _ λv h hv=>?_
    simp +decide only[↓vS,vT,simprocAttr,hw1];exact fin v h hv _ (by simp[qh,ql,Tr.get_set])
  .obtain rfl:i=x.rules.length:=by omega
   have hlt':¬((x.rules.length:Int)<x.rules.length):=by omega
   rw[List.take_length]at w';have hlen:(pre++xF x.rules (qbv x+1)).length=jR x:=by rw[zzP,qcn,hpre];rfl
   simp +decide only[↓vS,vT,simprocAttr,hlt'];refine qaW E.W.here w' (b:=bN) (p:=pN') (by rw[hlen];omega) λt4 q1 q2 w4=>?_
   simp +decide only[↓vS,vT,simprocAttr]
   have st4:Stp [] Ub sb tb _ _ t4:=st'.kd' (L':=[]) (F':=(pre++xF x.rules (qbv x+1)).length) hbN q1 q2 λc hc=>by
    grind
   refine qnk E.W.ret E.W.put w4 2147418112 (by rw[hlen];unfold jR;omega) λU5 s5 t5 st5 w5=>?_
   simp +decide only[↓vS,vT,simprocAttr];have st6:=st4.trans st5;refine qvc E.done E.dj w5 (λb F p hb=>?_) (by rw[zzP,hlen];unfold jR;grind) λt6 b6 q3 q4=>?_
   .cases p with
    | true=>rfl
    | false =>
     rcases st6.nw b F hb with q|q
     all_goals grind
   .simp +decide only[↓vS,vT,simprocAttr];simp[vZ,vP,q3];exact Frzs.self (xT λ_=>rfl)
 .simp[qh,ql,Tr.get_set]
 .refine⟨Nat.zero_le _,L,U,s,tr,rfl,st,?_,hxs,hL0,gL,⟨pN,hN⟩,?_⟩
  .simpa[xF]using h
  omega
def Stp.mod'{L:List Nat}{U1:Nat->Kd}{s1:Nat}{t1:Tr Blk}(h:Stp L U s tr U1 s1 t1){b:Nat}(hb:U b = .no)(x:Blk):Stp L U s tr (kdS U1 b .fr) s1 (t1.set b x):=by
 have ne:∀{c},U c≠.no->c≠b:=by grind
 refine⟨h.le,λc hc=>?_,λc hc=>?_,λc F p hc=>?_,λc F hc=>?_⟩
 .have e:=ne (c:=c) (by rw[hc];simp);rw[qj e,Tr.get_set,if_neg e];exact h.fr c hc
 .have e:=ne (c:=c) (by rw[hc];simp);rw[qj e,Tr.get_set,if_neg e];exact h.box c hc
 .rw[qj (by simp_all)];exact h.lab c F p hc
 grind[qI,qj,Stp.nw]
def qHd{s fl b c:Nat}{t:Tr Blk}{x y:Blk}:qeU ⟨s,fl,t⟩ [(b,x),(c,y)]=⟨s,fl,(t.set b .dead).set c .dead⟩:=rfl
def qyW{n0 sb bf bN bL bn bw e:Nat}{wf a:Bool}{Ub:Nat->Kd}{tb:Tr Blk}{L:List Nat}(E:EFn P g gl gp gj gh gr go gb gR gd gt gH gA gB gC gD)(x:GFil)(hx:FilR x)(hK:∀r ∈ x.rules,qb1 r=true)(hn:x.rules.length<=400)(hd1:qbv x<=10000)
  (hS:qa P gS [.fz (qR x.rules).length (qaM (qR x.rules)),.fz (qR x.rules).length (qbg (qR x.rules)),.j 0] (.tup [.fz (xb (pcs 0 (qR x.rules) 0)).length (rSp (xb (pcs 0 (qR x.rules) 0))),.j 0]))
  (hB:qa P gT [.fz (xb (pcs 0 (qR x.rules) 0)).length (rSp (xb (pcs 0 (qR x.rules) 0)))] (.tup [.fz (zo x).length (rNd (zo x)),.j 0])) (hT1:zo x≠[]) (hT2:∀nd ∈ zo x,NdOk (x.rules.length+1) (zo x).length nd) (hT3:(zo x).length<=10000)
  (h:WI g w U s tr (qc3 x.arch 0 (jR x)) []) (st:Stp L Ub sb tb U s tr) (xs:List Nat) (hxl:xs.length=x.rules.length+1) (hxs:∀(j:Nat) c,xs[j]?=some c->∃p,U c = .lab (qaH x j) p) (hL0:U bL = .fr) (gL:tr.get bL=some (.cells e wf a (rPt xs)))
  (hf0:U bf = .fr) (gf:tr.get bf=some (.v (zr x))) {pN:Bool} (hN:U bN = .lab (jR x) pN) (hbN:Ub bN = .no) (hL:∀c ∈ L,c=bN\/∃j:Nat,xs[j]?=some c) (hnew:∀(j:Nat) c,xs[j]?=some c->Ub c = .no) (hno:∀b F,Ub b≠.lab F false)
  (hn0:U bn = .fr) (gn:tr.get bn=some (.v (qaM (qR x.rules)))) (hbn:Ub bn = .no) (hw0:U bw = .fr) (gw:tr.get bw=some (.v (qbg (qR x.rules)))) (hbw:Ub bw = .no) (hne:bn≠bw/\bn≠bL/\bw≠bL/\bn≠bf/\bw≠bf)
  {t:Tr AV} (ht:Has t [(1,.ptr bf 0),(4,.ptr w 0),(5,.ptr bN 0),(6,.sl bn 0 x.rules.length x.rules.length false),(7,.sl bw 0 x.rules.length x.rules.length false),(8,qiA x.rules.length bL)]) :
  S P n0 (qcV gM go gS gT gb gh gr gR gd) (xk [.tmp 2,.tmp 3] λv' h'=>Frz h' v' (.tup [.fz (zN x).length (rSy (zN x)),.j 0])) t ⟨s,0,tr⟩:=by
 obtain⟨e1,e2,e3,e4,e5⟩:=hne;refine S.has _ ht (qk ?_);simp only[qcV,vI,simprocAttr];simp +decide only[↓vS,vT,simprocAttr];have hnl:(qR x.rules).length=x.rules.length:=qcl;rw[hnl]at hS;refine hS.give [(bn,.v (qaM (qR x.rules))),(bw,.v (qbg (qR x.rules)))] ?_ (by simp[qt,clo,qfw]) ?_ ?_
 .simp_all
 .refine qa1.2 ⟨Frz.cut 1 rfl (zzL _) ?_,qa1.2 ⟨Frz.cut 1 rfl (zzL _) ?_,by grind[qa1,qG1,qfG]⟩⟩
  .simp[trP,Tr.get_set,vP,qjA,hnl];rw[List.take_of_length_le (by rw[qjA,hnl];omega)];exact Frzs.self qdy
  .simp[trP,Tr.get_set,vP,qjB,hnl,Ne.symm e1];rw[List.take_of_length_le (by rw[qjB,hnl];omega)];exact Frzs.self qdz
 rw[qHd];have w1:=(h.chg (b:=bn) .fr .dead (.inl hn0) (h.dom bn (by rw[hn0];simp)) (.inr (.inl rfl))).chg (b:=bw) .fr .dead (.inl (by rw[qj (Ne.symm e1)];omega)) (h.dom bw (by rw[hw0];simp)) (.inr (.inl rfl))
 have s1:=(st.mod' hbn .dead).mod' hbw .dead
 have kk:∀b,U b≠.fr->kdS (kdS U bn .fr) bw .fr b=U b:=λb hb=>by
  rw[qj (c:=b) (λe=>hb (by rw[e];omega)),qj (c:=b) (λe=>hb (by rw[e];omega))]
 have kf:∀b,U b = .fr->kdS (kdS U bn .fr) bw .fr b = .fr:=λb hb=>by
  simp only[kdS];simp_all
 have gg:∀b,b≠bn->b≠bw->((tr.set bn .dead).set bw .dead).get b=tr.get b:=λb h1 h2=>by
  rw[Tr.get_set,if_neg h2,Tr.get_set,if_neg h1]
 simp +decide only[↓vS,vT,simprocAttr];refine hB.sc ?_;simp +decide only[↓vS,vT,simprocAttr];have hV:=qrH (n:=x.rules.length) (b:=bL);refine quF E.br E.W (zo x) hT1 xs (by rw[hxl];omega) (qaH x) (qiA x.rules.length bL) (by rw[hxl];exact hV) w1 (kf bL hL0) ((gg bL (Ne.symm e2) (Ne.symm e3)).trans gL) (by grind) (by rw[qcH];have:=qrW (a:=x.arch);omega) λU2 s2 t2 st2 w2=>?_
 simp +decide only[↓vS,vT,simprocAttr];obtain⟨c0,hc0⟩:∃c,xs[0]?=some c:=⟨_,zzE (by omega)⟩;have hge:(rPt xs)[0]?=some (.ptr c0 0):=by rw[qfS,hc0];rfl
 have hL2:=st2.fr bL (kf bL hL0);have gL2:=hL2.2.trans ((gg bL (Ne.symm e2) (Ne.symm e3)).trans gL);have hf2:=st2.fr bf (kf bf hf0);have gf2:=hf2.2.trans ((gg bf (Ne.symm e4) (Ne.symm e5)).trans gf)
 have hlen:(qc3 x.arch 0 (jR x)++jM (qaH x) (zo x) (qc3 x.arch 0 (jR x)).length).length=qaH x 0:=by
  rw[zzP,qcw,qcH];rfl
 have hk2:∀(j:Nat) c,xs[j]?=some c->∃p,U2 c = .lab (qaH x j) p:=λj c hj=>let ⟨p,hp⟩:=hxs j c hj;⟨p,st2.lab _ _ _ (by rw[kk c (by rw[hp];simp)];exact hp)⟩
 obtain⟨p0,hp0⟩:=hk2 0 c0 hc0;have hN2:U2 bN = .lab (jR x) pN:=st2.lab _ _ _ (by rw[kk bN (by rw[hN];simp)];exact hN)
 have hcN:c0≠bN:=λe=>by
  rw[e]at hp0;have:=(Kd.lab.inj (hp0.symm.trans hN2)).1;simp[qaH,jR]at this;omega
 have hV0:(0:Nat)<x.rules.length+1:=by omega
 -- the label of the others has its place
 have rest:∀k2:AV->Hp->Prop,(∀t3:Tr Blk,t3.get bf=some (.v (zr x))->(∀k':AV->Hp->Prop,(∀(U4:Nat->Kd) (s4:Nat) (t4:Tr Blk) (L4:List Nat),Stp L4 Ub sb tb U4 s4 t4->WI g w U4 s4 t4 (qc3 x.arch 0 (jR x)++jM (qaH x) (zo x) (qdZ x.arch)++[⟨6,x.dflt,0,0⟩]) []->
   (∀(j:Nat) c,xs[j]?=some c->∃p,U4 c = .lab (qaH x j) p)->U4 bL = .fr->t4.get bL=some (.cells e wf a (rPt xs))->U4 bf = .fr->t4.get bf=some (.v (zr x))->U4 bN = .lab (jR x) pN->(∀c ∈ L4,c=bN\/∃j:Nat,1<=j/\xs[j]?=some c)->k' (.tup []) ⟨s4,0,t4⟩)->SC P gr [.ptr w 0,.w x.dflt] ⟨s2,0,t3⟩ k')->k2 (.tup []) ⟨s2,0,t3⟩)->SC P gh [.ptr w 0,.ptr c0 0] ⟨s2,0,t2⟩ k2:=by
  intro k2 hk2';refine qaW E.W.here w2 (b:=c0) (p:=p0) (by rw[hlen];omega) λt3 q1 q2 w3=>hk2' t3 (by grind) λk' hk'=>?_
  have st3:Stp (L.filter λy=>decide (y≠c0)) Ub sb tb _ _ t3:=(s1.trans st2).kd' (F':=(qc3 x.arch 0 (jR x)++jM (qaH x) (zo x) (qc3 x.arch 0 (jR x)).length).length) (hnew 0 c0 hc0) q1 q2 λy hy=>by
   grind
  have nb:∀b,U2 b = .fr->b≠c0:=by grind
  refine qnk E.W.ret E.W.put w3 x.dflt (by rw[hlen];simp[qaH];omega) λU4 s4 t4 st4 w4=>hk' U4 s4 t4 _ (st3.trans st4) ?_ ?_ ?_ ?_ ?_ ?_ ?_ ?_
  .rw[qcH]at w4;exact w4
  .intro j c hj;obtain⟨p,hp⟩:=hk2 j c hj
   by_cases ec:c=c0
   .rw[ec]at hp ⊢;have hF:=(Kd.lab.inj (hp0.symm.trans hp)).1;exact⟨true,st4.lab _ _ _ (by rw[qI,hlen,hF])⟩
   .exact⟨p,st4.lab _ _ _ (by rw[qj ec];exact hp)⟩
  .exact (st4.fr bL (by rw[qj (nb _ hL2.1)];grind)).1
  .rw[(st4.fr bL (by rw[qj (nb _ hL2.1)];exact hL2.1)).2,q1 bL hL2.1];exact gL2
  .exact (st4.fr bf (by rw[qj (nb _ hf2.1)];grind)).1
  .rw[(st4.fr bf (by rw[qj (nb _ hf2.1)];exact hf2.1)).2,q1 bf hf2.1];exact gf2
  .exact st4.lab _ _ _ (by rw[qj (Ne.symm hcN)];omega)
  .intro c hc;rw[List.append_nil,List.mem_filter,decide_eq_true_eq]at hc
   grind
 have fin:∀(U4:Nat->Kd) (s4:Nat) (t4:Tr Blk) (L4:List Nat),Stp L4 Ub sb tb U4 s4 t4->WI g w U4 s4 t4 (qc3 x.arch 0 (jR x)++jM (qaH x) (zo x) (qdZ x.arch)++[⟨6,x.dflt,0,0⟩]) []->
   (∀(j:Nat) c,xs[j]?=some c->∃p,U4 c = .lab (qaH x j) p)->U4 bL = .fr->t4.get bL=some (.cells e wf a (rPt xs))->U4 bf = .fr->t4.get bf=some (.v (zr x))->U4 bN = .lab (jR x) pN->(∀c ∈ L4,c=bN\/∃j:Nat,1<=j/\xs[j]?=some c)->
   ∀(tt:Tr AV),Has tt [(1,.ptr bf 0),(4,.ptr w 0),(5,.ptr bN 0),(8,qiA x.rules.length bL)]->S P n0 (qaI gM go gS gT gb gh gr gR gd) (xk [.tmp 2,.tmp 3] λv' h'=>Frz h' v' (.tup [.fz (zN x).length (rSy (zN x)),.j 0])) tt ⟨s4,0,t4⟩:=λU4 s4 t4 L4 q1 q2 q3 q4 q5 q6 q7 q8 q9 tt htt =>
  qve E x hx hK hn (by simp only[zzP,qcH,qcw,List.length_singleton];rfl) hd1 q2 q1 xs hxl q3 q4 q5 q6 q7 q8 hbN q9 hnew hno htt
 rcases hV with hV|hV
 .rw[hV]at fin ⊢;simp +decide only[↓vS,vT,simprocAttr,gL2,hge,hV0];refine rest _ λt3 g3 hcall=>?_
  simp +decide only[↓vS,vT,simprocAttr,g3,zr];refine hcall _ λU4 s4 t4 L4 q1 q2 q3 q4 q5 q6 q7 q8 q9=>?_
  simp +decide only[↓vS,vT,simprocAttr];exact fin U4 s4 t4 L4 q1 q2 q3 q4 q5 q6 q7 q8 q9 _ (by simp[qh,ql,Tr.get_set])
 .rw[hV]at fin ⊢;simp +decide only[↓vS,vT,simprocAttr,gL2,hge,hV0];refine rest _ λt3 g3 hcall=>?_
  simp +decide only[↓vS,vT,simprocAttr,g3,zr];refine hcall _ λU4 s4 t4 L4 q1 q2 q3 q4 q5 q6 q7 q8 q9=>?_
  simp +decide only[↓vS,vT,simprocAttr];exact fin U4 s4 t4 L4 q1 q2 q3 q4 q5 q6 q7 q8 q9 _ (by simp[qh,ql,Tr.get_set])
end
def qmk{A:List AV}{n i:Nat}{v z:AV}(hA:A.length=n)(hv:A[i]?=some v):(A.take i++List.replicate (n-i) z).take i++v::(A.take i++List.replicate (n-i) z).drop (i+1)=A.take (i+1)++List.replicate (n-(i+1)) z:=by
 have hi:i<n:=by rw[<- hA];grind
 have hl:(A.take i).length=i:=by rw[List.length_take];omega
 rw[List.take_left' hl]
 have:(A.take i++List.replicate (n-i) z).drop (i+1)=List.replicate (n-(i+1)) z:=by
  have e:i+1=(A.take i).length+1:=by rw[hl]
  rw[e,List.drop_length_add_append,List.drop_replicate,hl];congr 1
 rw[this,qbu hv];simp
section
variable {g w s gl gp gj gh gr g1 g2 g3 g4 g5:Nat} {U:Nat->Kd} {tr:Tr Blk} {RV:List Sy} {N:List Nat} {k:AV->Hp->Prop} {go gb gR gd gt gH gA gB gC gD gM gS gT:Nat}
def qyV{n0 sb bf bN:Nat}{Ub:Nat->Kd}{tb:Tr Blk}(E:EFn P g gl gp gj gh gr go gb gR gd gt gH gA gB gC gD)(x:GFil)(hx:FilR x)(ha0:0<=x.arch)(ha6:x.arch<6)(hK:∀r ∈ x.rules,qb1 r=true)(hn:x.rules.length<=400)(hd1:qbv x<=10000)
  (hS:qa P gS [.fz (qR x.rules).length (qaM (qR x.rules)),.fz (qR x.rules).length (qbg (qR x.rules)),.j 0] (.tup [.fz (xb (pcs 0 (qR x.rules) 0)).length (rSp (xb (pcs 0 (qR x.rules) 0))),.j 0]))
  (hB:qa P gT [.fz (xb (pcs 0 (qR x.rules) 0)).length (rSp (xb (pcs 0 (qR x.rules) 0)))] (.tup [.fz (zo x).length (rNd (zo x)),.j 0])) (hT1:zo x≠[]) (hT2:∀nd ∈ zo x,NdOk (x.rules.length+1) (zo x).length nd) (hT3:(zo x).length<=10000)
  (h:WI g w U s tr [] []) (st:Stp [bN] Ub sb tb U s tr) (hd:∀b,Ub b≠.no->b<sb) (hf0:U bf = .fr) (gf:tr.get bf=some (.v (zr x))) {pN:Bool} (hN:U bN = .lab (jR x) pN) (hbN:Ub bN = .no) (hno:∀b F,Ub b≠.lab F false)
  {t:Tr AV} (ht:Has t [(1,.ptr bf 0),(4,.ptr w 0),(5,.ptr bN 0)]) :
  S P n0 (qcU gM go gS gT gb gh gr gR gd) (xk [.tmp 2,.tmp 3] λv' h'=>Frz h' v' (.tup [.fz (zN x).length (rSy (zN x)),.j 0])) t ⟨s,0,tr⟩:=by
 refine S.has _ ht (qk ?_);simp only[qcU,vI,simprocAttr];simp +decide only[↓vS,vT,simprocAttr,gf,zr];refine qHH E.own E.W E.tok h x.arch ha0 ha6 hN (by simp) λU1 s1 t1 st1 w1=>?_
 rw[zzN,List.length_nil]at w1;have sa:=st.trans st1;have hf1:=st1.fr bf hf0;have gf1:=hf1.2.trans gf;have hbs:bf<s1:=w1.dom bf (by rw[hf1.1];simp);have f1:¬bf=s1:=by omega
 have f2:¬bf=s1+1:=by omega
 have f3:¬bf=s1+1+1:=by omega
 have f4:¬bf=s1+1+1+1:=by omega
 have r1:x.rules.length<=qf:=by simp only[qf];omega
 have r2:4*x.rules.length<=qf:=by simp only[qf];omega
 have r3:8*x.rules.length<=qf:=by simp only[qf];omega
 simp +decide only[↓vS,vT,simprocAttr];refine zg ?_;simp +decide only[↓vS,vT,simprocAttr,gf1,zr,f1,f2,f3,f4,r1,r2,r3];have k1:U1 s1 = .no:=w1.fresh
 have nb:∀c:Nat,Ub (s1+c) = .no:=λc=>by
  cases hk:Ub (s1+c)with
  | no=>rfl
  | _ =>
   have:=hd (s1+c) (by rw[hk];simp);have:=sa.le;omega
 -- the four blocks
 have wa:=w1.new .fr (.v (List.replicate x.rules.length [AV.w 0]).flatten) (.inr (.inl rfl));have wb:=wa.new .fr (.v (List.replicate x.rules.length [AV.j 0]).flatten) (.inr (.inl rfl));have wc:=wb.new (.lab (qaH x 0) false) _ (.inr (.inr (.inr ⟨_,rfl,rfl⟩)));have wd:=wc.new .fr (.v [.ptr (s1+1+1) 0]) (.inr (.inl rfl));have sd:=(((sa.trans (w1.stpNew .fr (.v (List.replicate x.rules.length [AV.w 0]).flatten) (by simp))).trans (wa.stpNew .fr (.v (List.replicate x.rules.length [AV.j 0]).flatten) (by simp))).trans (wb.stpLab (.lab (qaH x 0) false) (.v [.j 0]))).trans (wc.stpNew .fr (.v [.ptr (s1+1+1) 0]) (by simp))
 refine SL.loopP (α:=Nat×Nat) (λi=>[(1,.ptr bf 0),(4,.ptr w 0),(5,.ptr bN 0),(6,.sl s1 0 x.rules.length x.rules.length false),(7,.sl (s1+1) 0 x.rules.length x.rules.length false),(8,qiA i.1 i.2),(41,.fz x.rules.length (rR x.rules)),(42,.j (x.rules.length:Int)),(43,.j (i.1:Int))])
  (λi h=>i.1<=x.rules.length/\∃L' U' s' tr' xs,h=⟨s',0,tr'⟩/\Stp L' Ub sb tb U' s' tr'/\WI g w U' s' tr' (qc3 x.arch 0 (jR x)) []/\xs.length=i.1+1/\(∀(j:Nat) c,xs[j]?=some c->∃p,U' c = .lab (qaH x j) p)/\U' i.2 = .fr/\tr'.get i.2=some (if i.1=0 then .v (rPt xs)else .cells 1 true true (rPt xs)) /\
   U' bf = .fr/\tr'.get bf=some (.v (zr x))/\U' bN = .lab (jR x) pN/\(∀c ∈ L',c=bN\/∃j:Nat,xs[j]?=some c)/\(∀(j:Nat) c,xs[j]?=some c->s1<=c)/\U' s1 = .fr/\U' (s1+1) = .fr/\tr'.get s1=some (.v ((qaM (qR x.rules)).take i.1++List.replicate (x.rules.length-i.1) (.w 0))) /\
   tr'.get (s1+1)=some (.v ((qbg (qR x.rules)).take i.1++List.replicate (x.rules.length-i.1) (.j 0)))/\s1+1<i.2/\i.2<s') (λi=>x.rules.length-i.1) ?_ (0,s1+1+1+1) ?_ ?_
 .rintro⟨i,bL⟩ h1 ⟨hi,L',U',s',tr',xs,rfl,st',w',hxl,hxs,hL0,gL,hbf,gbf,hbN',hL',hnew,hs1,hs2,gn,gw,hbl,hbl2⟩ G ih;simp only at hi hxl hL0 gL gn gw hbl hbl2;simp only[vI,simprocAttr]
  by_cases hlt:i<x.rules.length
  .have hlt':(i:Int)<x.rules.length:=by omega
   obtain⟨r,hr⟩:∃r,x.rules[i]?=some r:=⟨_,zzE hlt⟩;have hel:((rR x.rules).drop (i*3)).take 3=zw r:=qG qb5 hr;have h3:i*3+3<=(rR x.rules).length:=by rw[show(rR x.rules).length=x.rules.length*3 from qV qb5 _];omega
   have hw1:IntKind.wrap .i64 ((i:Int)+1)=((i+1:Nat):Int):=by rw[qm (by omega) (by omega)];simp
   have gnm:(qaM (qR x.rules))[i]?=some (.w r.nr):=by rw[qjz,qdx,hr];rfl
   have gwm:(qbg (qR x.rules))[i]?=some (.j ((i+1:Nat):Int)):=by rw[qpW,qdx,hr];rfl
   have fn:=qmk (n:=x.rules.length) (z:=.w 0) (by rw[qjA,qcl]) gnm;have fw:=qmk (n:=x.rules.length) (z:=.j 0) (by rw[qjB,qcl]) gwm;have ln:i+1<=((qaM (qR x.rules)).take i++List.replicate (x.rules.length-i) (AV.w 0)).length:=by grind
   have lw:i+1<=((qbg (qR x.rules)).take i++List.replicate (x.rules.length-i) (AV.j 0)).length:=by grind
   have q1:¬s1=s':=by omega
   have q2:¬s1+1=s':=by omega
   have q3:¬s'=s1:=by omega
   have q4:¬s1+1=s1:=by omega
   have q5:¬bL=s':=by omega
   have q6:¬bL=s1:=by omega
   have q7:¬bL=s1+1:=by omega
   have q8:¬bL=s'+1:=by omega
   have q9:¬bL=s'+1+1:=by omega
   have q10:¬s'=s1+1:=by omega
   have q11:¬s'+1+1=bL:=by omega
   have hfw0:IntKind.wrap .i64 ((i:Int)+1)=((i+1:Nat):Int):=hw1;obtain⟨wv,sv⟩:=w'.var (.v [.w 0,.nils,.w 0]) (.v (zw r));have v1:kdS U' s' .fr s1 = .fr:=(sv.fr s1 hs1).1;have w2:=wv.chg (b:=s1) .fr (.v ((qaM (qR x.rules)).take (i+1)++List.replicate (x.rules.length-(i+1)) (.w 0))) (.inl v1) (by omega) (.inr (.inl rfl));have w3:=w2.chg (b:=s1+1) .fr (.v ((qbg (qR x.rules)).take (i+1)++List.replicate (x.rules.length-(i+1)) (.j 0))) (.inl (by rw[qj q4];exact(sv.fr _ hs2).1)) (by omega) (.inr (.inl rfl))
   have s3:=((st'.trans sv).mod' (nb 0) (.v ((qaM (qR x.rules)).take (i+1)++List.replicate (x.rules.length-(i+1)) (.w 0)))).mod' (nb 1) (.v ((qbg (qR x.rules)).take (i+1)++List.replicate (x.rules.length-(i+1)) (.j 0)));have w4:=w3.new (.lab (qaH x (i+1)) false) _ (.inr (.inr (.inr ⟨_,rfl,rfl⟩)));have s4:=s3.trans (w3.stpLab (.lab (qaH x (i+1)) false) (.v [.j 0]));have w5:=w4.new .no (.v [.ptr (s'+1) 0]) (.inl rfl);have s5:=s4.trans (w4.stpNew .no (.v [.ptr (s'+1) 0]) (by simp))
   have nbL:Ub bL = .no:=by
    have e:bL=s1+(bL-s1):=by omega
    rw[e];grind
   have kb:kdS (kdS (kdS (kdS (kdS U' s' .fr) s1 .fr) (s1+1) .fr) (s'+1) (.lab (qaH x (i+1)) false)) (s'+1+1) .no bL = .fr:=by
    rw[qj q9,qj q8,qj q7,qj q6,qj q5];omega
   have w6:=w5.chg (b:=bL) .fr .dead (.inl kb) (by omega) (.inr (.inl rfl));have s6:=s5.mod' nbL .dead;have w7:=w6.new .fr (.cells 1 true true (rPt (xs++[s'+1]))) (.inr (.inl rfl));have s7:=s6.trans (w6.stpNew .fr (.cells 1 true true (rPt (xs++[s'+1]))) (by simp));have w7':=w5.new .fr (.cells 1 true true (rPt (xs++[s'+1]))) (.inr (.inl rfl));have s7':=s5.trans (w5.stpNew .fr (.cells 1 true true (rPt (xs++[s'+1]))) (by simp))
   have fin:∀(Uf:Nat->Kd) (tf:Tr Blk) (Lf:List Nat),Stp Lf Ub sb tb Uf (s'+1+1+1+1) tf->WI g w Uf (s'+1+1+1+1) tf (qc3 x.arch 0 (jR x)) []->Lf=L'++[s'+1]->(∀b,b<s'->b≠s1->b≠s1+1->b≠bL->Uf b=U' b/\tf.get b=tr'.get b)->Uf s1 = .fr->Uf (s1+1) = .fr->Uf (s'+1) = .lab (qaH x (i+1)) false->Uf (s'+1+1+1) = .fr->
     tf.get s1=some (.v ((qaM (qR x.rules)).take (i+1)++List.replicate (x.rules.length-(i+1)) (.w 0)))->tf.get (s1+1)=some (.v ((qbg (qR x.rules)).take (i+1)++List.replicate (x.rules.length-(i+1)) (.j 0)))->tf.get (s'+1+1+1)=some (.cells 1 true true (rPt (xs++[s'+1])))->
     ∀tt,Has tt [(1,.ptr bf 0),(4,.ptr w 0),(5,.ptr bN 0),(6,.sl s1 0 x.rules.length x.rules.length false),(7,.sl (s1+1) 0 x.rules.length x.rules.length false),(8,.own (s'+1+1+1) (i+1+1)),(41,.fz x.rules.length (rR x.rules)),(42,.j (x.rules.length:Int)),(43,.j ((i+1:Nat):Int))]->G tt ⟨s'+1+1+1+1,0,tf⟩:=by
    intro Uf tf Lf p1 p2 p3 p4 p5 p6 p7 p8 p9 p10 p11 tt htt;have hbfs:bf<s':=by omega
    have hbNs:bN<s1:=by
     have hb:=st1.lab _ _ _ hN;exact w1.dom bN (by rw[hb];simp)
    have hbfL:bf≠bL:=by omega
    refine ih (i+1,s'+1+1+1) _ _ (by omega) htt ⟨by omega,Lf,Uf,s'+1+1+1+1,tf,xs++[s'+1],rfl,p1,p2,by grind,λj c hj=>?_,p8,?_,?_,?_,?_,λc hc=>?_,λj c hj=>?_,p5,p6,p9,p10,by omega,by omega⟩
    .rw[List.getElem?_append]at hj;split at hj
     .obtain⟨p,hp⟩:=hxs j c hj;have:c<s':=by grind[WI.dom]
      have n1:c≠s1:=by grind
      have n2:c≠s1+1:=(by grind);have n3:c≠bL:=by grind
      grind
     .have hj0:j-xs.length=0:=by
       have:=(zzS.1 hj).1;simp at this;exact this
      rw[hj0]at hj;simp at hj;subst hj;obtain rfl:j=i+1:=by omega
      grind
    .rw[p11,if_neg (by simp)]
    .rw[(p4 bf hbfs (by omega) (by omega) hbfL).1];omega
    .rw[(p4 bf hbfs (by omega) (by omega) hbfL).2];omega
    .rw[(p4 bN (by omega) (by omega) (by omega) (by omega)).1];omega
    .rw[p3,List.mem_append,List.mem_singleton]at hc;rcases hc with hc|hc
     .rcases hL' c hc with q|⟨j,q⟩
      .omega
      .exact .inr ⟨j,by rw[List.getElem?_append_left (by grind)];exact q⟩
     .exact .inr ⟨xs.length,by rw[hc];simp⟩
    .rw[List.getElem?_append]at hj;split at hj
     .grind
     .have hj0:j-xs.length=0:=by
       have:=(zzS.1 hj).1;simp at this;exact this
      rw[hj0]at hj;grind
   have m1:¬s'+1+1+1=s'+1+1:=by omega
   have hap:rPt xs++[.ptr (s'+1) 0]=rPt (xs++[s'+1]):=by simp[rPt]
   have hlx:(rPt xs).length=i+1:=by rw[qhG,hxl]
   have m2:¬s1=s'+1:=by omega
   have m3:¬s1+1=s'+1:=by omega
   have m4:¬s'=s'+1:=by omega
   have m5:¬s'+1+1=s'+1:=by omega
   have hs1':s1<s':=by omega
   rcases Nat.eq_zero_or_pos i with h0|h0
   .rw[if_pos h0]at gL;have hV:qiA i bL = .sl bL 0 1 1 false:=by simp[qiA,h0]
    have htk:(rPt xs).take 1=rPt xs:=by grind
    have c2:1<=(rPt xs).length:=by omega
    rw[hV];have e2:(.own (s'+1+1+1) (i+1+1):AV) = .own (s'+1+1+1) 2:=by rw[h0]
    rw[e2]at fin;simp +decide only[↓vS,vT,simprocAttr,hlt',hlt,h3,hel,zw,hw1,gn,gw,gL,ln,lw,fn,fw,q1,q2,q3,q4,q5,q6,q7,q8,q9,q10,q11,m1,zzU,htk,c2,hap];refine fin _ _ _ s7' w7' (by simp) ?_ ?_ ?_ ?_ ?_ ?_ ?_ ?_ _ ?_
    .intro b hb n1 n2 n3;constructor
     .rw[qj (by omega),qj (by omega),qj (by omega),qj n2,qj n1,qj (by omega)]
     .simp only[Tr.get_set];rw[if_neg (by omega),if_neg (by omega),if_neg (by omega),if_neg n2,if_neg n1,if_neg (by omega),if_neg (by omega)]
    .rw[qj (by omega),qj (by omega),qj (by omega),qj (by omega),qI]
    .rw[qj (by omega),qj (by omega),qj (by omega),qI]
    .rw[qj (by omega),qj (by omega),qI]
    .rw[qI]
    .simp only[Tr.get_set];rw[if_neg (by omega),if_neg (by omega),if_neg (by omega),if_neg (by omega)];simp
    .simp only[Tr.get_set];rw[if_neg (by omega),if_neg (by omega),if_neg (by omega)];simp
    .rw[Tr.get_set,if_pos rfl]
    .simp[qh,ql,Tr.get_set]
   .rw[if_neg (by omega)]at gL;have hV:qiA i bL = .own bL (i+1):=by unfold qiA;rw[if_neg (by omega)]
    rw[hV];have rr1:i+1+1<=qf:=by omega
    have rr2:(i+1+1)*8<=qf:=by simp only[qf];omega
    simp +decide only[↓vS,vT,simprocAttr,hlt',hlt,h3,hel,zw,hw1,gn,gw,gL,ln,lw,fn,fw,q1,q2,q3,q4,q5,q6,q7,q8,q9,q10,q11,m1,rr1,rr2,zzU,hlx,hap];refine fin _ _ _ s7 w7 (by simp) ?_ ?_ ?_ ?_ ?_ ?_ ?_ ?_ _ ?_
    .intro b hb n1 n2 n3;constructor
     .rw[qj (by omega),qj n3,qj (by omega),qj (by omega),qj n2,qj n1,qj (by omega)]
     .simp only[Tr.get_set];rw[if_neg (by omega),if_neg n3,if_neg (by omega),if_neg (by omega),if_neg n2,if_neg n1,if_neg (by omega),if_neg (by omega)]
    .rw[qj (by omega),qj (by omega),qj (by omega),qj (by omega),qj (by omega),qI]
    .rw[qj (by omega),qj (by omega),qj (by omega),qj (by omega),qI]
    .rw[qj (by omega),qj (by omega),qj (by omega),qI]
    .rw[qI]
    .simp only[Tr.get_set];rw[if_neg (by omega),if_neg (by omega),if_neg (by omega),if_neg (by omega),if_neg (by omega)];simp
    .simp only[Tr.get_set];rw[if_neg (by omega),if_neg (by omega),if_neg (by omega),if_neg (by omega)];simp
    .rw[Tr.get_set,if_pos rfl]
    .simp[qh,ql,Tr.get_set]
  .obtain rfl:i=x.rules.length:=by omega
   have hlt':¬((x.rules.length:Int)<x.rules.length):=by omega
   simp +decide only[↓vS,vT,simprocAttr,hlt']
   have e1:(if x.rules.length=0 then Blk.v (rPt xs)else .cells 1 true true (rPt xs)) = .cells (if x.rules.length=0 then 0 else 1) true (decide (x.rules.length≠0)) (rPt xs):=by
    by_cases h:x.rules.length=0<;>simp[h]
   rw[e1]at gL;have hfb:bf≠s1:=f1;refine qyW (bn:=s1) (bw:=s1+1) E x hx hK hn hd1 hS hB hT1 hT2 hT3 w' st' xs hxl hxs hL0 gL hbf gbf hbN' hbN hL' (λj c hj=>?_) hno hs1 ?_ (nb 0) hs2 ?_ (nb 1) (by omega) ?_
   .have:=hnew j c hj;have e:c=s1+(c-s1):=by omega
    rw[e];grind
   .rw[gn];grind[qjA,qcl]
   .rw[gw];grind[qjB,qcl]
   .simp[qh,ql,Tr.get_set]
 .simp[qh,ql,Tr.get_set,qiA,zr]
 .refine⟨Nat.zero_le _,_,_,_,_,[s1+1+1],rfl,sd,wd,rfl,λj c hj=>?_,qI,?_,?_,?_,?_,λc hc=>?_,λj c hj=>?_,?_,?_,?_,?_,by simp only;omega,by simp only;omega⟩
  .have:j=0:=by have:=(zzS.1 hj).1;simpa using this
   subst this;simp at hj;subst hj;exact⟨false,by rw[qj (by omega),qI]⟩
  .simp[Tr.get_set,rPt]
  .rw[qj f4,qj f3,qj f2,qj f1];exact hf1.1
  .simp only[Tr.get_set];rw[if_neg f4,if_neg f3,if_neg f2,if_neg f1];exact gf1
  .have hb:=st1.lab _ _ _ hN;have:bN<s1:=w1.dom bN (by rw[hb];simp);rw[qj (by omega),qj (by omega),qj (by omega),qj (by omega)];exact hb
  .simp at hc;rcases hc with hc|hc
   .exact .inl hc
   .exact .inr ⟨0,by simp[hc]⟩
  .have:j=0:=by have:=(zzS.1 hj).1;simpa using this
   subst this;simp at hj;omega
  .rw[qj (by omega),qj (by omega),qj (by omega),qI]
  .rw[qj (by omega),qj (by omega),qI]
  .simp only[Tr.get_set];rw[if_neg (by omega),if_neg (by omega),if_neg (by omega)];simp
  simp_all[Tr.get_set]
noncomputable def qoF(x:GFil):AV:=if jY x=true then .tup [.fz (zN x).length (rSy (zN x)),.j 0]else .tup [.fz 0 [],.j 210]
def qs3(hc:qc P f (qfH gM go gS gT gb gh gr gR gd)=true)(E:EFn P g gl gp gj gh gr go gb gR gd gt gH gA gB gC gD)(x:GFil)(hx:FilR x)(hM:qa P gM [.agg (zr x)] (.b (jY x)))
  (hk:jY x=true->qbv x<=10000/\(zo x).length<=10000/\zo x≠[]/\(∀nd ∈ zo x,NdOk (x.rules.length+1) (zo x).length nd) /\
   qa P gS [.fz (qR x.rules).length (qaM (qR x.rules)),.fz (qR x.rules).length (qbg (qR x.rules)),.j 0] (.tup [.fz (xb (pcs 0 (qR x.rules) 0)).length (rSp (xb (pcs 0 (qR x.rules) 0))),.j 0]) /\
   qa P gT [.fz (xb (pcs 0 (qR x.rules) 0)).length (rSp (xb (pcs 0 (qR x.rules) 0)))] (.tup [.fz (zo x).length (rNd (zo x)),.j 0])) :
  qa P f [.agg (zr x)] (qoF x):=by
 have hcl:qt (rR x.rules)=true:=xT λr=>by simp[zw,qt,clo,zX]
 refine qa.mk hc (by simp[qt,clo,zr,hcl]) ?_;simp only[qfH,zr,vI,simprocAttr];simp +decide only[↓vS,vT,simprocAttr];simp only[zr]at hM;refine hM.sc ?_;unfold qoF;cases hK:jY x with
 | false =>
  simp +decide only[↓vS,vT,simprocAttr];simp[vZ]
 | true =>
  obtain⟨h1,h2,h3,h4,h5,h6⟩:=hk hK;simp only[jY,zzB,decide_eq_true_eq]at hK;obtain⟨⟨⟨⟨k1,k2⟩,k3⟩,k4⟩,k5⟩:=hK;simp +decide only[↓vS,vT,simprocAttr];refine S.weak (Wk.mk [(1,.ptr 0 0),(4,.ptr 1 0),(5,.ptr 2 0)] [.v (zr x),.v [.own 3 0,.own 4 0],.v [.j 0],.cells 4 true true [],.cells 1 true true []] [0,1,2,99,99] ?_ ?_ ?_ rfl) ?_
  .simp[vw]
  .simp[vw,zr,hcl]
  .simp
  simp only[vI,simprocAttr]
  have hW:∀kd:Kd,(kd = .no\/kd = .lab (jR x) false)->WI g 1 (λb=>if b=0 then .fr else if b=1 then .w else if b=2 then kd else if b=3 then .l else if b=4 then .t else .no) 5 (((((Tr.leaf.set 0 (.v (zr x))).set 1 (.v [.own 3 0,.own 4 0])).set 2 (.v [.j 0])).set 3 (.cells 4 true true [])).set 4 (.cells 1 true true [])) [] []:=λkd hkd=>by
   refine⟨λb hb=>?_,⟨3,4,[],[],rfl,rfl,rfl,?_,?_,?_,trivial,by simp,λj y hy=>by simp at hy⟩,λb F p hb=>?_⟩
   .by_cases e:b<5
    .exact e
    .rw[if_neg (by omega),if_neg (by omega),if_neg (by omega),if_neg (by omega),if_neg (by omega)]at hb;exact absurd rfl hb
   .simp[Tr.get_set]
   .simp[Tr.get_set,rSy]
   .simp[Tr.get_set]
   .split at hb
    .cases hb
    split at hb
    .cases hb
    split at hb
    .rename_i e;subst e;rcases hkd with rfl|rfl
     .cases hb
     .cases hb;exact by grind[Tr.get_set]
    split at hb
    .cases hb
    split at hb<;>cases hb
  refine qyV (bf:=0) (bN:=2) (pN:=false) (Ub:=λb=>if b=0 then .fr else if b=1 then .w else if b=2 then .no else if b=3 then .l else if b=4 then .t else .no) (sb:=5) (tb:=((((Tr.leaf.set 0 (.v (zr x))).set 1 (.v [.own 3 0,.own 4 0])).set 2 (.v [.j 0])).set 3 (.cells 4 true true [])).set 4 (.cells 1 true true []))
   E x hx k1 k2 (qj1 k5) k3 h1 h5 h6 h3 h4 h2 (hW (.lab (jR x) false) (.inr rfl)) ⟨zzL _,λb hb=>⟨?_,rfl⟩,λb hb=>⟨?_,rfl⟩,λb F p hb=>?_,λb F hb=>?_⟩ (by grind) rfl ?_ rfl rfl ?_ ?_
  .by_cases e:b=2
   .subst e;simp at hb
   .rw[if_neg e]at hb ⊢;exact hb
  .by_cases e:b=2
   .subst e;simp at hb
   .rw[if_neg e]at hb ⊢;exact hb
  all_goals grind[Tr.get_set,qh,ql]
end
def qfX(c:Int):Prop:=c=21\/c=37\/c=53\/c=69
def qfo(s:Sy)(j n:Nat):Prop :=
 (s.code=32/\s.th=0/\s.el=0/\s.k % 4=0/\0<=s.k/\s.k<64)\/((s.code=84\/s.code=6)/\s.th=0/\s.el=0)\/(s.code=5/\s.k=0/\s.el=0/\j<s.th/\s.th<n)\/(qfX s.code/\j<s.th/\s.th<n/\j<s.el/\s.el<n)
structure MayL (l:List Sy):Prop where
 pos:0<l.length
 big:l.length<=131072
 last:∃s,l[l.length-1]?=some s/\s.code=6
 all:∀(j:Nat) s,l[j]?=some s->qfo s j l.length
theorem qY{l:List Sy}:qt (rSy l)=true:=xT λ_=>rfl
def qxh{l:List Sy}:qF (rSy l)=true:=qlt λ_=>rfl
def qfx{T:List Sy}{j:Nat}{x:Sy}(h:T[j]?=some x):((rSy T).drop (j*4)).take 4=cSy x:=qG qec h
def qjy{T:List Sy}{j:Nat}{x:Sy}(h:T[j]?=some x){i:Nat}(hi:i<4):(rSy T)[j*4+i]?=(cSy x)[i]?:=qbE qec h hi
def qfj:IFn:=⟨[.tmp 4],sq [.r [.m 4 .F],.r [.n 5 0,.d 6 1,.b 7 .gtr 5 6,.n 8 7,.y 9 0 8,.j 10 2 8 true,.g 11 (.bin .lss (.t 9) (.t 10)) 8 true,.p 12 8 11,.n 4 12],.ret]⟩
def qFa(hc:qc P f qfj=true)(x j n:Nat)(h1:j<x)(h2:x<n):qa P f [.j (x:Int),.pf [.j (j:Int)] 0,.pf [.j (n:Int)] 0] (.b true):=by
 refine qa.mk hc rfl ?_;have h1':(j:Int)<x:=by omega
 have h2':(x:Int)<n:=by omega
 simp only[qfj,vI,simprocAttr];simp +decide only[↓vS,vT,simprocAttr,h1',h2'];simp[vZ]
def qjc:IFn:=⟨[.tmp 2],sq [.r [.m 2 .F],.r [.n 3 0,.q 4 (.bin .eql (.t 3) (.c (.h 21))),.n 5 4,.z 6 0 5,.g 7 (.bin .eql (.t 6) (.c (.h 37))) 5 false,.o 8 5 7,.n 9 8,.z 10 0 9,.g 11 (.bin .eql (.t 10) (.c (.h 53))) 9 false,.o 12 9 11,.n 13 12,.z 14 0 13,.g 15 (.bin .eql (.t 14) (.c (.h 69))) 13 false,.o 16 13 15,.n 2 16],.ret]⟩
def qFn(hc:qc P f qjc=true)(c:Int)(h:qfX c):qa P f [.h c] (.b true):=by
 refine qa.mk hc rfl ?_;simp only[qjc,vI,simprocAttr];rcases h with rfl|rfl|rfl|rfl
 all_goals
  simp +decide only[↓vS,vT,simprocAttr];simp[vZ]
def qgJ(a b c:Nat):IFn:=⟨[.tmp 6],sq [.r [.q 3 (.box (.t 0)),.q 4 (.box (.t 1)),.q 5 (.box (.t 2)),.m 6 .F],.r [.q 11 (.mkF a [] [.t 4,.t 5]),.n 7 11],.r [.f 12 2 3,.d 13 12,.w 14 .eql 13 0,.n 15 14,.h 16 3 3 15 true,.j 17 16 15 true,.g 18 (.bin .eql (.t 17) (.k 0)) 15 true,.p 19 15 18,.n 8 19],.blk 0 (sq [.r [.f 21 0 3,.d 22 21,.q 23 (.bin .eql (.t 22) (.c (.h 32))),.n 20 23],.cond (.t 20) (sq [.r [.q 25 (.build [.w 0,.w 0,.x 0,.x 0,.x 0,.x 0,.x 0,.x 0,.x 0] []),.f 26 1 3,.d 27 26,.l 28 b [.t 25,.t 27],.n 24 28,.x 29 24 0,.x 30 24 1,.n 9 29,.n 10 30],.r [.n 31 8,.n 32 31,.y 33 10 32,.g 34 (.bin .eql (.t 33) (.k 0)) 32 true,.p 35 32 34,.n 6 35],.ret]) (sq [.r [.f 37 0 3,.d 38 37,.q 39 (.bin .eql (.t 38) (.c (.h 84))),.n 40 39,.h 41 0 3 40 false,.j 42 41 40 false,.g 43 (.bin .eql (.t 42) (.c (.h 6))) 40 false,.o 44 40 43,.n 36 44],.cond (.t 36) (sq [.r [.n 45 8,.n 6 45],.ret]) (sq [.r [.f 47 0 3,.d 48 47,.q 49 (.bin .eql (.t 48) (.c (.h 5))),.n 46 49],.cond (.t 46) (sq [.r [.f 50 1 3,.d 51 50,.q 52 (.bin .eql (.t 51) (.c (.w 0))),.n 53 52,.h 54 3 3 53 true,.j 55 54 53 true,.g 56 (.bin .eql (.t 55) (.k 0)) 53 true,.p 57 53 56,.n 58 57,.y 59 7 58,.h 60 2 3 58 true,.j 61 60 58 true,⟨(some 62),.callV (.t 59) [.t 61],(some (58,true))⟩,.p 63 58 62,.n 6 63],.ret]) (.skip)])])]),.r [.f 64 0 3,.d 65 64,.l 66 c [.t 65],.n 67 66,.y 68 7 67,.h 69 2 3 67 true,.j 70 69 67 true,⟨(some 71),.callV (.t 68) [.t 70],(some (67,true))⟩,.p 72 67 71,.n 73 72,.y 74 7 73,.h 75 3 3 73 true,.j 76 75 73 true,⟨(some 77),.callV (.t 74) [.t 76],(some (73,true))⟩,.p 78 73 77,.n 6 78],.ret]⟩
def qFN{g1 g2 g3:Nat}(hc:qc P f (qgJ g1 g2 g3)=true)(h1:∀x j n:Nat,j<x->x<n->qa P g1 [.j (x:Int),.pf [.j (j:Int)] 0,.pf [.j (n:Int)] 0] (.b true))(h2:quS P g2)(h3:∀c,qfX c->qa P g3 [.h c] (.b true))(s:Sy)(j n:Nat)(hs:qfo s j n)(hn:n<=1000000)(hj:j<n) :
  qa P f [.agg (cSy s),.j (j:Int),.j (n:Int)] (.b true):=by
 refine qa.mk hc rfl ?_;simp only[qgJ,cSy,vI,simprocAttr];obtain⟨code,sk,th,el⟩:=s;simp only[qfo]at hs;rcases hs with⟨rfl,rfl,rfl,k4,k0,k64⟩|⟨hcd,rfl,rfl⟩|⟨rfl,rfl,rfl,j1,j2⟩|⟨hcd,j1,j2,j3,j4⟩
 .have hw:=h2 ⟨0,0,0,0,0,0,0,0,0⟩ (by constructor<;>decide) sk k0 (by omega);have e:qnB ⟨0,0,0,0,0,0,0,0,0⟩ sk = .tup [.w ((qad ⟨0,0,0,0,0,0,0,0,0⟩).getD (sk / 4).toNat 0),.j 0]:=by unfold qnB;rw[if_neg (by omega)]
  rw[e]at hw;simp only[zJ]at hw;have z0:((0:Nat):Int)=0:=rfl;simp +decide only[↓vS,vT,simprocAttr,z0];refine hw.sc ?_;simp +decide only[↓vS,vT,simprocAttr];simp[vZ]
 .have z0:((0:Nat):Int)=0:=rfl;rcases hcd with rfl|rfl
  .simp +decide only[↓vS,vT,simprocAttr,z0];simp[vZ]
  .simp +decide only[↓vS,vT,simprocAttr,z0];simp[vZ]
 .have z0:((0:Nat):Int)=0:=rfl;have t0:¬(th:Int)=0:=by omega
  have t1:j<th:=j1;simp +decide only[↓vS,vT,simprocAttr,z0,t0];refine(h1 th j n j1 j2).lend (by simp[vZ,vP,Tr.get_set]) rfl ?_;simp +decide only[↓vS,vT,simprocAttr];simp[vZ]
 .have t0:¬(th:Int)=0:=by omega
  have ha:=h3 code hcd;have n1:¬code=32:=by rcases hcd with h|h|h|h<;>omega
  have n2:¬code=84:=by rcases hcd with h|h|h|h<;>omega
  have n3:¬code=6:=by rcases hcd with h|h|h|h<;>omega
  have n4:¬code=5:=by rcases hcd with h|h|h|h<;>omega
  simp +decide only[↓vS,vT,simprocAttr,t0,n1,n2,n3,n4];refine ha.sc ?_;simp +decide only[↓vS,vT,simprocAttr];refine(h1 th j n j1 j2).lend (by simp[vZ,vP,Tr.get_set]) rfl ?_;simp +decide only[↓vS,vT,simprocAttr];refine(h1 el j n j3 j4).lend (by simp[vZ,vP,Tr.get_set]) rfl ?_;simp +decide only[↓vS,vT,simprocAttr];simp[vZ]
def qkq(a:Nat):IFn:=⟨[.tmp 2],sq [.r [.m 2 .F],sq [.r [.n 5 0,.e 6 5,.w 7 .lss 6 1,.n 8 7,.z 9 0 8,.g 10 (.len false (.t 9)) 8 false,.g 11 (.bin .gtr (.t 10) (.k 131072)) 8 false,.o 12 8 11,.n 13 12,.z 14 0 13,.z 15 0 13,.g 16 (.len false (.t 15)) 13 false,.g 17 (.bin .sub (.t 16) (.k 1)) 13 false,.g 18 (.iAddrS 4 (.t 14) (.t 17)) 13 false,.h 19 0 18 13 false,.j 20 19 13 false,.g 21 (.bin .neq (.t 20) (.c (.h 6))) 13 false,.o 22 13 21],.cond (.t 22) (sq [.r [.m 2 .F],.ret]) (.skip)],sq [.r [.n 23 0,.e 24 23,.m 25 (.k 0)],.blk 0 (.loop (sq [.r [.s 26 25 24],.cond (.t 26) (.skip) (.exit 0),.blk 1 (sq [.r [.n 27 25,.i 28 4 23 25,.v 29 4 28,.q 4 (.alloc [.h 0,.w 0,.j 0,.j 0]),.n 3 27,.u (.store 4 (.t 4) (.t 29))],.r [.v 30 4 4,.n 31 3,.n 32 0,.e 33 32,.l 34 a [.t 30,.t 31,.t 33],.q 35 (.un .not (.t 34))],.cond (.t 35) (sq [.r [.m 2 .F],.ret]) (.skip)]),.r [.a 36 25 1,.n 25 36]]))],.r [.m 2 .T],.ret]⟩
def qIT{g:Nat}(hc:qc P f (qkq g)=true)(hg:∀(s:Sy) (j n:Nat),qfo s j n->n<=1000000->j<n->qa P g [.agg (cSy s),.j (j:Int),.j (n:Int)] (.b true))(l:List Sy)(hl:MayL l):qa P f [.fz l.length (rSy l)] (.b true):=by
 refine qa.mk hc (by simp[qt,clo,qY]) ?_;obtain⟨z,hz,hz6⟩:=hl.last;have p1:=hl.pos;have p2:=hl.big;have n1:¬(l.length:Int)<1:=by omega
 have n2:¬131072<(l.length:Int):=by omega
 have e1:IntKind.wrap .i64 ((l.length:Int)-1)=((l.length-1:Nat):Int):=by rw[qm (by omega) (by omega)];omega
 have hlt:l.length-1<l.length:=by omega
 have gz:=qjy hz (i:=0) (by omega);have gz':(rSy l)[(l.length-1)*4]?=some (.h 6):=by rw[<- hz6];exact gz
 simp only[qkq,vI,simprocAttr];simp +decide only[↓vS,vT,simprocAttr,n1,n2,e1,hlt,gz'];refine SL.loopP (α:=Nat) (λi=>[(0,.fz l.length (rSy l)),(23,.fz l.length (rSy l)),(24,.j (l.length:Int)),(25,.j (i:Int))]) (λi h=>i<=l.length/\h.fl=0) (λi=>l.length-i) ?_ 0 ?_ ?_
 .rintro i ⟨s,fl,tr⟩ ⟨hi,rfl⟩ G ih;simp only[vI,simprocAttr]
  by_cases hi':i<l.length
  .have hlt':(i:Int)<l.length:=by omega
   obtain⟨x,hx⟩:∃x,l[i]?=some x:=⟨_,zzE hi'⟩;have hel:=qfx hx;have h4:i*4+4<=(rSy l).length:=by rw[qan];omega
   have hw1:IntKind.wrap .i64 ((i:Int)+1)=((i+1:Nat):Int):=by rw[qm (by omega) (by omega)];simp
   have hp:=hg x i l.length (hl.all i x hx) (by omega) hi';simp only[cSy]at hp;simp +decide only[↓vS,vT,simprocAttr,hlt',hi',h4,hel,cSy];refine hp.sc ?_;simp +decide only[↓vS,vT,simprocAttr,hw1];exact ih (i+1) _ _ (by omega) (by simp[qh,ql,Tr.get_set]) ⟨by omega,rfl⟩
  .obtain rfl:i=l.length:=by omega
   have hlt':¬((l.length:Int)<l.length):=by omega
   simp +decide only[↓vS,vT,simprocAttr,hlt'];simp[vZ]
 all_goals simp_all[qh,ql,Tr.get_set]
def zC:IFn:=⟨[.tmp 2],sq [.r [.m 2 .N],sq [.r [.n 3 0,.q 4 (.eqN false .slice (.t 3))],.cond (.t 4) (sq [.r [.m 2 .N],.ret]) (.skip)],.r [.q 5 (.buildS 0 [.h 0,.w 0,.j 0,.j 0] []),.n 6 0,.q 7 (.app 4 24 true (.t 5) (.t 6)),.n 2 7],.ret]⟩
def qFq(hc:qc P f zC=true):qbz P f 4 24:=by
 intro n rows hlen hcl hok hr1 hr2;refine Own.of_SC (by simp[qt,clo]) ?_;cases n with
 | zero =>
  obtain rfl:rows=[]:=by simp_all
  refine SC.nil0 (SC.mk hc (qk ?_)) (SC.mk hc (qk ?_))
  .simp only[zC,vI,simprocAttr];simp only[↓vS,vT,simprocAttr];intro _;refine⟨[1],?_⟩;simp[vw]
  .simp only[zC,vI,simprocAttr];simp only[↓vS,vT,simprocAttr,if_true];intro _;refine⟨[1],?_⟩;simp[vw]
 | succ n =>
  refine SC.mk hc (qk ?_);simp only[zC,vI,simprocAttr];have h1:1<=n+1:=by omega
  have h2:(n+1)*4<=rows.length:=by omega
  have h3:rows.take ((n+1)*4)=rows:=by grind
  have h4:¬(n+1<=0):=by omega
  simp only[↓vS,vT,simprocAttr,h1,h2,h3,h4,hr1,hr2,hok,zzU,Nat.zero_mul];intro _;refine⟨[1],?_⟩;simp[vw,qe,hcl]
def qbY(s:Sy):Prop:=qn s.code=4
def qcP(s:Sy):Prop:=qn s.code=4/\s.code≠5
instance (s:Sy):Decidable (qbY s):=by unfold qbY;infer_instance
instance (s:Sy):Decidable (qcP s):=by unfold qcP;infer_instance
def qkt(a:Nat):IFn:=⟨[.tmp 2],sq [.r [.q 1 (.box (.t 0)),.m 2 .F],.r [.f 3 0 1,.d 4 3,.l 5 a [.t 4],.q 6 (.bin .eql (.t 5) (.c (.y 4))),.n 7 6,.h 8 0 1 7 true,.j 9 8 7 true,.g 10 (.bin .neq (.t 9) (.c (.h 5))) 7 true,.p 11 7 10,.n 2 11],.ret]⟩
def qgt(P:Program)(f:Nat):Prop:=∀s:Sy,qa P f [.agg (cSy s)] (.b (decide (qcP s)))
def qIu{g:Nat}(hc:qc P f (qkt g)=true)(hg:cOf P g):qgt P f:=by
 intro s;refine qa.mk hc rfl ?_;simp only[qkt,cSy,vI,simprocAttr];simp +decide only[↓vS,vT,simprocAttr];refine(hg s.code).sc ?_
 by_cases h1:qn s.code=4
 .by_cases h2:s.code=5
  .simp +decide only[↓vS,vT,simprocAttr,h1,h2];simp[vZ,qcP,h2]
  .simp +decide only[↓vS,vT,simprocAttr,h1,h2];simp[vZ,qcP,h1,h2]
 .simp +decide only[↓vS,vT,simprocAttr,h1];simp[vZ,qcP,h1]
def qbw(to:Nat->Nat)(s:Sy):Sy:=⟨s.code,s.k,if qbY s then to s.th else s.th,if qcP s then to s.el else s.el⟩
def qAu{α:Type}{A B:List α}{x y:α}:(A++x::B).set A.length y=A++y::B:=by
 rw[List.set_append];simp
def jq(a b c:Nat):IFn:=⟨[.tmp 4],sq [.r [.m 4 .N],.r [.n 8 0,.l 9 a [.t 8],.n 5 9],sq [.r [.n 10 5,.e 11 10,.m 12 (.k 0)],.blk 0 (.loop (sq [.r [.s 13 12 11],.cond (.t 13) (.skip) (.exit 0),.blk 1 (sq [.r [.n 14 12,.i 15 4 10 12,.v 16 4 15,.q 7 (.alloc [.h 0,.w 0,.j 0,.j 0]),.n 6 14,.u (.store 4 (.t 7) (.t 16))],sq [.r [.f 17 0 7,.d 18 17,.l 19 b [.t 18],.q 20 (.bin .eql (.t 19) (.c (.y 4)))],.cond (.t 20) (.r [.n 21 5,.n 22 6,.n 23 1,.f 24 2 7,.d 25 24,⟨(some 26),.callV (.t 23) [.t 25],none⟩,.i 27 4 21 22,.f 28 2 27,.u (.store 1 (.t 28) (.t 26))]) (.skip)],.r [.v 29 4 7,.l 30 c [.t 29]],.cond (.t 30) (.r [.n 31 5,.n 32 6,.n 33 1,.f 34 3 7,.d 35 34,⟨(some 36),.callV (.t 33) [.t 35],none⟩,.i 37 4 31 32,.f 38 3 37,.u (.store 1 (.t 38) (.t 36))]) (.skip)]),.r [.a 39 12 1,.n 12 39]]))],.r [.n 40 5,.n 4 40],.ret]⟩
def ql0{g1 g2 g3 gt s fl:Nat}{tr:Tr Blk}{caps:List AV}{k:AV->Hp->Prop}(hc:qc P f (jq g1 g2 g3)=true)(h1:qbz P g1 4 24)(h2:cOf P g2)(h3:qgt P g3)(l:List Sy)(hl:l.length<=200000)(hfl:fl<=s)(to:Nat->Nat)
  (hto:∀x ∈ l,∀j:Nat,(qbY x/\j=x.th)\/(qcP x/\j=x.el)->∀(s':Nat) (tr':Tr Blk) (k':AV->Hp->Prop),s<=s'->(∀b,b<s->tr'.get b=tr.get b)->k' (.j ((to j:Nat):Int)) ⟨s',fl,tr'⟩->SC P gt (.j (j:Int)::caps) ⟨s',fl,tr'⟩ k')
  (hk:∀s' tr' b,s<=s'->(∀c,c<s->tr'.get c=tr.get c)->s<=b->b<s'->tr'.get b=some (.cells 4 true true (rSy (l.map (qbw to))))->k (.own b l.length) ⟨s',fl,tr'⟩):SC P f [.fz l.length (rSy l),.fn gt [] caps] ⟨s,fl,tr⟩ k:=by
 refine SC.mk hc (qk ?_);simp only[jq,vI,simprocAttr];simp +decide only[↓vS,vT,simprocAttr];refine(h1 l.length (rSy l) qan qY qxh (by simp only[qf];omega) (by simp only[qf];omega)).sc ?_;simp only[vJ,simprocAttr];simp +decide only[↓vS,vT,simprocAttr,xj qY]
 refine SL.loopP (α:=Nat) (λi=>[(1,.fn gt [] caps),(5,.own s l.length),(10,.own s l.length),(11,.j (l.length:Int)),(12,.j (i:Int))])
  (λi h=>i<=l.length/\∃s' tr',h=⟨s',fl,tr'⟩/\s<s'/\(∀b,b<s->tr'.get b=tr.get b)/\tr'.get s=some (.cells 4 true true (rSy ((l.take i).map (qbw to)++l.drop i)))) (λi=>l.length-i) ?_ 0 ?_ ?_
 .rintro i h1 ⟨hi,s',tr',rfl,hs,hold,hrow⟩ G ih;simp only[vI,simprocAttr]
  by_cases hlt:i<l.length
  .have hlt':(i:Int)<l.length:=by omega
   obtain⟨x,hx⟩:∃x,l[i]?=some x:=⟨_,zzE hlt⟩;have hxm:=zzM hx;have hd:l.drop i=x::l.drop (i+1):=by rw[<- (zzS.1 hx).2,List.getElem_cons_drop]
   have hAl:((l.take i).map (qbw to)).length=i:=by simp;omega
   rw[hd]at hrow;obtain⟨A,hA⟩:∃A,A=(l.take i).map (qbw to):=⟨_,rfl⟩;obtain⟨B,hB⟩:∃B,B=l.drop (i+1):=⟨_,rfl⟩;rw[<- hA,<- hB]at hrow;rw[<- hA]at hAl;have hrl:(A++x::B).length=l.length:=by rw[zzP,hAl,hB];simp;omega
   have hget:(A++x::B)[i]?=some x:=by rw[<- hAl];simp
   have hel:=qfx hget;have h4:i*4+4<=(rSy (A++x::B)).length:=by rw[qan,hrl];omega
   have hw1:IntKind.wrap .i64 ((i:Int)+1)=((i+1:Nat):Int):=by rw[qm (by omega) (by omega)];simp
   have n1:¬s=s':=by omega
   have n2:¬s'=s:=by omega
   have hf2:fl<=s':=by omega
   have hset:∀(y y':Sy) (j:Nat) (v:AV),j<4->cSy y'=(cSy y).take j++([v]++(cSy y).drop (j+1))->(rSy (A++y::B)).take (i*4+j)++v::(rSy (A++y::B)).drop (i*4+j+1)=rSy (A++y'::B):=λy y' j v hj he=>by
    have:=qgA (f:=cSy) (v:=v) (xs:=A++y::B) (j:=i) qec (by rw[<- hAl];simp) hj he;rw[show(A++y::B).set i y'=A++y'::B by rw[<- hAl];exact qAu]at this
    exact this
   have hlen:∀y,(rSy (A++y::B)).length=l.length*4:=λy=>by rw[qan];simp at hrl ⊢;omega
   have b3:∀y,i*4+2+1<=(rSy (A++y::B)).length:=by grind
   have b4:∀y,i*4+3+1<=(rSy (A++y::B)).length:=by grind
   have fin:∀(s2:Nat) (t2:Tr Blk),s<s2->(∀b,b<s->t2.get b=tr.get b)->t2.get s=some (.cells 4 true true (rSy (A++qbw to x::B)))->∀tt,Has tt [(1,.fn gt [] caps),(5,.own s l.length),(10,.own s l.length),(11,.j (l.length:Int)),(12,.j ((i+1:Nat):Int))]->G tt ⟨s2,fl,t2⟩:=λs2 t2 q1 q2 q3 tt htt=>by
    refine ih (i+1) _ _ (by omega) htt ⟨by omega,s2,t2,rfl,q1,q2,?_⟩
    rw[q3,qbu hx,List.map_append,<- hA,<- hB];simp
   have ho:=λb (hb:b<s)=>hold b hb
   have old:∀(y:Blk) b,b<s->((tr'.set s' (.v [.h 0,.w 0,.j 0,.j 0])).set s' y).get b=tr.get b:=λy b hb=>by
    rw[Tr.get_set,if_neg (by omega),Tr.get_set,if_neg (by omega)];exact hold b hb
   simp +decide only[↓vS,vT,simprocAttr,hlt',hlt,hrow,h4,hel,cSy,n1,n2,hf2];refine(h2 x.code).sc ?_;have ha:=h3 x;simp only[cSy]at ha
   by_cases hj:qn x.code=4
   .simp +decide only[↓vS,vT,simprocAttr,hj,n1,n2];refine hto x hxm x.th (.inl ⟨hj,rfl⟩) _ _ _ (by omega) (λb hb=>old _ b hb) ?_
    have e1:=hset x ⟨x.code,x.k,to x.th,x.el⟩ 2 (.j ((to x.th:Nat):Int)) (by omega) rfl;have hs2:s<=s:=zzL _;simp +decide only[↓vS,vT,simprocAttr,hrow,n1,n2,hlt,b3,hfl,e1];refine ha.sc ?_
    by_cases hk5:x.code=5
    .have hna:¬qcP x:=λh=>h.2 hk5
     simp +decide only[↓vS,vT,simprocAttr,hna,hw1];refine fin _ _ (by omega) (λb hb=>?_) ?_ _ (by simp[qh,ql,Tr.get_set])
     .rw[Tr.get_set,if_neg (by omega)];exact old _ b hb
     .have e:qbw to x=⟨x.code,x.k,to x.th,x.el⟩:=by unfold qbw;rw[if_pos (show qbY x from hj),if_neg hna]
      rw[Tr.get_set,if_pos rfl,e]
    .have hya:qcP x:=⟨hj,hk5⟩;simp +decide only[↓vS,vT,simprocAttr,hya,n1,n2];refine hto x hxm x.el (.inr ⟨hya,rfl⟩) _ _ _ (by omega) (λb hb=>by rw[Tr.get_set,if_neg (by omega)];exact old _ b hb) ?_
     have e2:=hset ⟨x.code,x.k,to x.th,x.el⟩ ⟨x.code,x.k,to x.th,to x.el⟩ 3 (.j ((to x.el:Nat):Int)) (by omega) rfl;simp +decide only[↓vS,vT,simprocAttr,hrow,n1,n2,hlt,b4,hfl,e2,hw1];refine fin _ _ (by omega) (λb hb=>?_) ?_ _ (by simp[qh,ql,Tr.get_set])
     .rw[Tr.get_set,if_neg (by omega),Tr.get_set,if_neg (by omega)];exact old _ b hb
     .rw[Tr.get_set,if_pos rfl];simp[qbw,qbY,qcP,hj,hk5]
   .have hna:¬qcP x:=λh=>hj h.1
    simp +decide only[↓vS,vT,simprocAttr,hj,n1,n2];refine ha.sc ?_;simp +decide only[↓vS,vT,simprocAttr,hna,hw1];refine fin _ _ (by omega) (λb hb=>old _ b hb) ?_ _ (by simp[qh,ql,Tr.get_set])
    rw[Tr.get_set,if_neg n1,Tr.get_set,if_neg n1,hrow];simp[qbw,qbY,qcP,hj]
  .obtain rfl:i=l.length:=by omega
   have hlt':¬((l.length:Int)<l.length):=by omega
   simp +decide only[↓vS,vT,simprocAttr,hlt'];rw[List.take_length,List.drop_length,List.append_nil]at hrow;exact by grind
 .simp[qh,ql,Tr.get_set]
 grind[Tr.get_set,xj,qY]
def qko{α:Type}{f:α->List AV}(h:∀x,jP (f x)=true):∀l:List α,jP (l.flatMap f)=true
 | []=>rfl
 | x::l=>by
  have app:∀(a b:List AV),jP a=true->jP b=true->jP (a++b)=true:=by
   intro a
   induction a with
   | nil=>simp_all
   | cons v a ih =>
    intro b ha hb;simp only[jP,zzB,zzC]at ha ⊢
    simp_all
  rw[List.flatMap_cons];exact app _ _ (h x) (qko h l)
def qtY{l:List Sy}:jP (rSy l)=true:=qko (λ_=>rfl) l
def qtD{g1 g2 g3 gt:Nat}{caps:List AV}(hc:qc P f (jq g1 g2 g3)=true)(h1:qbz P g1 4 24)(h2:cOf P g2)(h3:qgt P g3)(l:List Sy)(hl:l.length<=200000)(to:Nat->Nat)
  (hto:∀x ∈ l,∀j:Nat,(qbY x/\j=x.th)\/(qcP x/\j=x.el)->qa P gt (.j (j:Int)::caps) (.j ((to j:Nat):Int))) :
  qiN P f [.fz l.length (rSy l),.fn gt [] caps] (.own 0 l.length) [.cells 4 true true (rSy (l.map (qbw to)))]:=by
 refine qiN.of_SC rfl (by simp[qpd,qtY]) ?_;refine ql0 hc h1 h2 h3 l hl (zzL 0) to (λx hx j hj s' tr' k' _ _ hk=>(hto x hx j hj).sc hk) λs' tr' b _ _ _ hb hg=>?_
 intro _;refine⟨[b],?_⟩;simp[vw,hg,hb,qe,qY]
def qq8:List (Int×Nat)->Int->Nat->List (Int×Nat)
 | [],x,v=>[(x,v)]
 | (a,u)::L,x,v=>if x=a then(x,v)::L else(a,u)::qq8 L x v
def qim:List (Int×Nat)->Int->Option Nat
 | [],_=>none
 | (a,u)::L,x=>if x=a then some u else qim L x
def mkE(L:List (Int×Nat)):List (AV×AV):=L.map λp=>(.w p.1,.j (p.2:Int))
def qrF{L:List (Int×Nat)}{p:Prop}:qeQ (mkE L) p↔p:=by cases L<;>exact Iff.rfl
def qBE{x:Int}{v:Nat}:∀{L:List (Int×Nat)} {k:List (AV×AV)->Prop},qhn qL (.w x) (.j (v:Int)) (mkE L) k↔k (mkE (qq8 L x v))
 | [],k=>qss
 | (a,u)::L,k=>by
  refine qBF.trans ?_;unfold qq8
  by_cases h:x=a
  .rw[if_pos h,if_pos h];exact Iff.rfl
  .rw[if_neg h,if_neg h];exact qBE
def qvu{x:Int}:∀{L:List (Int×Nat)} {k:Option AV->Prop},qcA qL (.w x) (mkE L) k↔k ((qim L x).map λv=>.j (v:Int))
 | [],k=>qpb
 | (a,u)::L,k=>by
  refine qvv.trans ?_;unfold qim
  by_cases h:x=a
  .rw[if_pos h,if_pos h];simp_all
  .rw[if_neg h,if_neg h];exact qvu
def qyc{z:AV}{o:Option Nat}{v:Nat}{k:AV->Prop}(h:o=some v):qhK false z (o.map λv=>.j (v:Int)) k↔k (.j (v:Int)):=by simp_all[qoH]
def qjp(l:List Sy):List (Int×Nat):=(l.zipIdx).foldl (λL p=>if p.1.code=6 then qq8 L p.1.k p.2 else L) []
def qlS{l:List Sy}{x:Sy}:qjp (l++[x])=if x.code=6 then qq8 (qjp l) x.k l.length else qjp l:=by
 simp[qjp,List.zipIdx_append]
def qpE{L:List (Int×Nat)}{x y:Int}{v:Nat}:qim (qq8 L x v) y=if y=x then some v else qim L y:=by
 induction L with
 | nil=>rfl
 | cons p L ih =>
  obtain⟨a,u⟩:=p;unfold qq8
  by_cases h:x=a
  .rw[if_pos h];subst h;unfold qim
   simp_all
  .rw[if_neg h];unfold qim;rw[ih]
   grind
def qm6{l:List Sy}{j:Nat}{x:Sy}(h:l[j]?=some x)(h6:x.code=6):∃i y,qim (qjp l) x.k=some i/\j<=i/\l[i]?=some y/\y.code=6/\y.k=x.k:=by
 have main:∀(n:Nat) (l:List Sy),l.length=n->∀{j:Nat} {x:Sy},l[j]?=some x->x.code=6->∃i y,qim (qjp l) x.k=some i/\j<=i/\l[i]?=some y/\y.code=6/\y.k=x.k:=by
  intro n
  induction n with
  | zero=>intro l hl j x h;rw[List.eq_nil_of_length_eq_zero hl]at h;simp at h
  | succ n ih =>
   intro l hl j x h h6;have e:l=l.dropLast++[l.getLast (by intro h;rw[h]at hl;simp at hl)]:=(List.dropLast_concat_getLast _).symm;generalize l.getLast _=z at e;generalize l.dropLast=l0 at e;subst e;have hl0:l0.length=n:=by simp at hl;exact hl
   rw[qlS];rcases Nat.lt_or_ge j l0.length with hj|hj
   .rw[List.getElem?_append_left hj]at h;obtain⟨i,y,q1,q2,q3,q4,q5⟩:=ih l0 hl0 h h6;have hi:=(zzS.1 q3).1
    by_cases hz:z.code=6
    .rw[if_pos hz,qpE]
     by_cases hk:x.k=z.k
     .exact by grind
     .exact by grind
    .rw[if_neg hz];exact by grind
   .have hj2:j=l0.length:=by have:=(zzS.1 h).1;simp at this;omega
    subst hj2;simp at h;subst h;rw[if_pos h6,qpE,if_pos rfl];exact by simp_all
 simp_all
def qio(l:List Sy)(j:Nat):Nat:=match l[j]? with|some x=>if x.code=6 then(qim (qjp l) x.k).getD 0 else j|none=>j
def qhP(l:List Sy):List Sy:=l.map (qbw (qio l))
def qmF(l:List Sy):Prop:=∀x ∈ l,∀j:Nat,(qbY x/\j=x.th)\/(qcP x/\j=x.el)->j<l.length
def qcX:IFn:=⟨[.tmp 4],sq [.r [.m 4 (.k 0)],sq [.r [.d 5 1,.n 6 0,.i 7 4 5 6,.f 8 0 7,.d 9 8,.q 10 (.bin .eql (.t 9) (.c (.h 6)))],.cond (.t 10) (.reg true [.d 11 2,.d 12 1,.n 13 0,.i 14 4 12 13,.f 15 1 14,.d 16 15,.q 17 (.lookM (some .u32) false (.j 0) (.t 11) (.t 16)),.n 0 17]) (.skip)],.r [.n 18 0,.n 4 18],.ret]⟩
def qeM(a b:Nat):IFn:=⟨[.tmp 2],sq [.r [.q 1 (.box (.t 0)),.m 2 .N],.r [.q 6 (.mkM),.q 3 (.alloc [.nilm]),.u (.store 1 (.t 3) (.t 6))],sq [.r [.d 7 1,.e 8 7,.m 9 (.k 0)],.blk 0 (.loop (sq [.r [.s 10 9 8],.cond (.t 10) (.skip) (.exit 0),.blk 1 (sq [.r [.n 11 9,.i 12 4 7 9,.v 13 4 12,.q 5 (.alloc [.h 0,.w 0,.j 0,.j 0]),.n 4 11,.u (.store 4 (.t 5) (.t 13))],.r [.f 14 0 5,.d 15 14,.q 16 (.bin .eql (.t 15) (.c (.h 6)))],.cond (.t 16) (.r [.d 17 3,.f 18 1 5,.d 19 18,.n 20 4,.u (.updM (some .u32) (.t 17) (.t 19) (.t 20))]) (.skip)]),.r [.a 21 9 1,.n 9 21]]))],.r [.d 22 1,.q 23 (.mkF a [] [.t 1,.t 3]),.l 24 b [.t 22,.t 23],.n 2 24],.ret]⟩
def qp8{g1 g2 h1 h2 h3:Nat}(hc:qc P f (qeM g1 g2)=true)(hc1:qc P g1 qcX=true)(hc2:qc P g2 (jq h1 h2 h3)=true)(c1:qbz P h1 4 24)(c2:cOf P h2)(c3:qgt P h3)(l:List Sy)(hl:l.length<=200000)(hin:qmF l) :
  qa P f [.fz l.length (rSy l)] (.fz (qhP l).length (rSy (qhP l))):=by
 refine qa.mk hc (by simp[qt,clo,qY]) ?_;simp only[qeM,vI,simprocAttr];simp +decide only[↓vS,vT,simprocAttr]
 refine SL.loopP (α:=Nat) (λi=>[(1,.ptr 0 0),(3,.ptr 2 0),(7,.fz l.length (rSy l)),(8,.j (l.length:Int)),(9,.j (i:Int))])
  (λi h=>i<=l.length/\∃s tr,h=⟨s,0,tr⟩/\3<=s/\tr.get 0=some (.v [.fz l.length (rSy l)])/\tr.get 1=some (.map (mkE (qjp (l.take i))))/\tr.get 2=some (.v [.map 1])) (λi=>l.length-i) ?_ 0 ?_ ?_
 .rintro i h1 ⟨hi,s,tr,rfl,hs,t0,t1,t2⟩ G ih;simp only[vI,simprocAttr]
  by_cases hlt:i<l.length
  .have hlt':(i:Int)<l.length:=by omega
   obtain⟨x,hx⟩:∃x,l[i]?=some x:=⟨_,zzE hlt⟩;have hel:=qfx hx;have h4:i*4+4<=(rSy l).length:=by rw[qan];omega
   have hw1:IntKind.wrap .i64 ((i:Int)+1)=((i+1:Nat):Int):=by rw[qm (by omega) (by omega)];simp
   have n0:¬0=s:=by omega
   have n1:¬1=s:=by omega
   have n2:¬2=s:=by omega
   have hsn:=qlS (l:=l.take i) (x:=x);rw[<- qbu hx,List.length_take,Nat.min_eq_left hi]at hsn
   by_cases h6:x.code=6
   .rw[if_pos h6]at hsn;simp +decide only[↓vS,vT,simprocAttr,hlt',hlt,h4,hel,cSy,h6,n0,n1,n2,t2,t1,qrF,qBE,hw1];refine ih (i+1) _ _ (by omega) (by simp[qh,ql,Tr.get_set]) ⟨by omega,s+1,_,rfl,by omega,?_,?_,?_⟩
    all_goals grind[Tr.get_set]
   .rw[if_neg h6]at hsn;simp +decide only[↓vS,vT,simprocAttr,hlt',hlt,h4,hel,cSy,h6,hw1];refine ih (i+1) _ _ (by omega) (by simp[qh,ql,Tr.get_set]) ⟨by omega,s+1,_,rfl,by omega,?_,?_,?_⟩
    all_goals grind[Tr.get_set]
  .obtain rfl:i=l.length:=by omega
   have hlt':¬((l.length:Int)<l.length):=by omega
   rw[List.take_length]at t1;simp +decide only[↓vS,vT,simprocAttr,hlt',t0];refine ql0 hc2 c1 c2 c3 l hl (Nat.zero_le _) (qio l) (λx hx j hj s' tr' k' hs' hold hk'=>?_) λs' tr' b hs' hold hb1 hb2 hg=>?_
   .have hjl:=hin x hx j hj;obtain⟨y,hy⟩:∃y,l[j]?=some y:=⟨_,zzE hjl⟩;have g0:=(hold 0 (by omega)).trans t0;have g1:=(hold 1 (by omega)).trans t1;have g2:=(hold 2 (by omega)).trans t2;have gc:=qjy hy (i:=0) (by omega);have gc':(rSy l)[j*4]?=some (.h y.code):=gc;have gk:=qjy hy (i:=1) (by omega);have gk':(rSy l)[j*4+1]?=some (.w y.k):=gk;refine SC.mk hc1 (qk ?_);simp only[qcX,vI,simprocAttr]
    by_cases h6:y.code=6
    .obtain⟨i,z,q1,q2,q3,q4,q5⟩:=qm6 hy h6;have e:qio l j=i:=by unfold qio;rw[hy];simp[h6,q1]
     rw[e]at hk';simp +decide only[↓vS,vT,simprocAttr,g0,gc',hjl,h6];refine zg ?_;simp +decide only[↓vS,vT,simprocAttr,g0,g1,g2,gk',hjl,qrF,qvu,qyc q1];omega
    .have e:qio l j=j:=by unfold qio;rw[hy];simp[h6]
     rw[e]at hk';simp +decide only[↓vS,vT,simprocAttr,g0,gc',hjl,h6];omega
   .simp +decide only[↓vS,vT,simprocAttr];have e:(qhP l).length=l.length:=by simp[qhP]
    simp[vZ,vP,hg,e,qJ qY];refine⟨λh=>?_,?_⟩
    .rw[h];rfl
    .exact Frzs.self qY
 .simp[qh,ql,Tr.get_set]
 .refine⟨Nat.zero_le _,_,_,rfl,by omega,?_,?_,?_⟩<;>simp[Tr.get_set,mkE,qjp]
def x6(a:Nat):IFn:=⟨[.tmp 2],sq [.r [.q 1 (.box (.t 0)),.m 2 (.c (.nilf))],.r [.q 3 (.mkF a [] [.t 1]),.n 2 3],.ret]⟩
def qGA{g:Nat}(hc:qc P f (x6 g)=true)(l:List Sy):qa P f [.fz l.length (rSy l)] (.fn g [] [.pf [.fz l.length (rSy l)] 0]):=by
 refine qa.mk hc (by simp[qt,clo,qY]) ?_;simp only[x6,vI,simprocAttr];simp +decide only[↓vS,vT,simprocAttr];simp[vZ,vP,Tr.get_set,qJ qY]
def qH:IFn:=⟨[],sq [.r [.d 4 1,.e 5 4,.w 6 .sub 5 1,.n 3 6],.blk 0 (.loop (sq [sq [.r [.n 7 3,.w 8 .geq 7 0],.cond (.t 8) (.skip) (.exit 0)],.blk 1 (sq [.r [.n 11 0,.n 12 3,.d 13 1,.n 14 3,.i 15 4 13 14,.v 16 4 15,⟨(some 17),.callV (.t 11) [.t 12,.t 16],none⟩,.q 18 (.un .not (.t 17))],.cond (.t 18) (.ret) (.skip)]),.r [.n 9 3,.w 10 .sub 9 1,.n 3 10]]))]⟩
def xp{α:Type}{c:α->List AV}{l:List α}{lb:Nat}(hc:qc P f qH=true)(hm:∀x,(c x).length=4)(hn:l.length<=1000000)(J:Nat->Hp->Prop)
  (hy:∀(i:Nat) x h,l[i]?=some x->J (i+1) h->∀k:AV->Hp->Prop,(∀h',J i h'->k (.b true) h')->SY P lb [.j (i:Int),.agg (c x)] h k)
  {s:Nat} {tr:Tr Blk} {k:AV->Hp->Prop} (h0:J l.length ⟨s,0,tr⟩) (hk:∀h,J 0 h->k (.tup []) h):SC P f [.yl lb,.pf [.fz l.length (l.flatMap c)] 0] ⟨s,0,tr⟩ k:=by
 refine SC.mk hc (qk ?_);simp only[qH,vI,simprocAttr];have e1:IntKind.wrap .i64 ((l.length:Int)-1)=(l.length:Int)-1:=by grind[qm]
 simp +decide only[↓vS,vT,simprocAttr,e1];refine SL.loopP (α:=Nat) (λi=>[(0,.yl lb),(1,.pf [.fz l.length (l.flatMap c)] 0),(3,.j ((i:Int)-1))]) (λi h=>i<=l.length/\J i h) (λi=>i) ?_ l.length ?_ ?_
 .rintro i h1 ⟨hi,hj⟩ G ih;obtain⟨s',fl',tr'⟩:=h1;simp only[vI,simprocAttr];cases i with
  | zero =>
   have n0:¬(0:Int)<=((0:Nat):Int)-1:=by omega
   simp +decide only[↓vS,vT,simprocAttr,n0];exact hk _ hj
  | succ i =>
   have n0:(0:Int)<=((i+1:Nat):Int)-1:=by omega
   have e2:((i+1:Nat):Int)-1=(i:Int):=by omega
   obtain⟨x,hx⟩:∃x,l[i]?=some x:=⟨_,zzE (by omega)⟩;have hel:=qG (f:=c) (m:=4) hm hx;have hlt:i<l.length:=by omega
   have h4:i*4+4<=(l.flatMap c).length:=by rw[qV hm];omega
   have n1:(0:Int)<=(i:Int):=by omega
   have e3:IntKind.wrap .i64 ((i:Int)-1)=(i:Int)-1:=by grind[qm]
   rw[e2];simp +decide only[↓vS,vT,simprocAttr,n1,hlt,h4,hel];refine hy i x _ hx hj _ λh' hj'=>?_
   simp +decide only[↓vS,vT,simprocAttr,e3];exact ih i _ _ (by omega) (by simp[qh,ql,Tr.get_set]) ⟨by omega,hj'⟩
 all_goals simp_all[qh,ql,Tr.get_set]
def qP:IFn:=⟨[],sq [.r [.d 4 1,.e 5 4,.w 6 .sub 5 1,.n 3 6],.blk 0 (.loop (sq [sq [.r [.n 7 3,.w 8 .geq 7 0],.cond (.t 8) (.skip) (.exit 0)],.blk 1 (sq [.r [.n 11 0,.n 12 3,.d 13 1,.n 14 3,.i 15 4 13 14,.v 16 4 15,⟨(some 17),.callV (.t 11) [.t 12,.t 16],none⟩,.q 18 (.un .not (.t 17))],.cond (.t 18) (.ret) (.skip)]),.r [.n 9 3,.w 10 .sub 9 1,.n 3 10]]))]⟩
def qaa{α:Type}{c:α->List AV}{l:List α}{lb:Nat}(hc:qc P f qP=true)(hm:∀x,(c x).length=4)(hn:l.length<=1000000)(J:Nat->Hp->Prop)
  (hy:∀(i:Nat) x h,l[i]?=some x->J (i+1) h->∀k:AV->Hp->Prop,(∀h',J i h'->k (.b true) h')->SY P lb [.j (i:Int),.agg (c x)] h k)
  {s:Nat} {tr:Tr Blk} {k:AV->Hp->Prop} (h0:J l.length ⟨s,0,tr⟩) (hk:∀h,J 0 h->k (.tup []) h):SC P f [.yl lb,.pf [.fz l.length (l.flatMap c)] 0] ⟨s,0,tr⟩ k:=by
 refine SC.mk hc (qk ?_);simp only[qP,vI,simprocAttr];have e1:IntKind.wrap .i64 ((l.length:Int)-1)=(l.length:Int)-1:=by grind[qm]
 simp +decide only[↓vS,vT,simprocAttr,e1];refine SL.loopP (α:=Nat) (λi=>[(0,.yl lb),(1,.pf [.fz l.length (l.flatMap c)] 0),(3,.j ((i:Int)-1))]) (λi h=>i<=l.length/\J i h) (λi=>i) ?_ l.length ?_ ?_
 .rintro i h1 ⟨hi,hj⟩ G ih;obtain⟨s',fl',tr'⟩:=h1;simp only[vI,simprocAttr];cases i with
  | zero =>
   have n0:¬(0:Int)<=((0:Nat):Int)-1:=by omega
   simp +decide only[↓vS,vT,simprocAttr,n0];exact hk _ hj
  | succ i =>
   have n0:(0:Int)<=((i+1:Nat):Int)-1:=by omega
   have e2:((i+1:Nat):Int)-1=(i:Int):=by omega
   obtain⟨x,hx⟩:∃x,l[i]?=some x:=⟨_,zzE (by omega)⟩;have hel:=qG (f:=c) (m:=4) hm hx;have hlt:i<l.length:=by omega
   have h4:i*4+4<=(l.flatMap c).length:=by rw[qV hm];omega
   have n1:(0:Int)<=(i:Int):=by omega
   have e3:IntKind.wrap .i64 ((i:Int)-1)=(i:Int)-1:=by grind[qm]
   rw[e2];simp +decide only[↓vS,vT,simprocAttr,n1,hlt,h4,hel];refine hy i x _ hx hj _ λh' hj'=>?_
   simp +decide only[↓vS,vT,simprocAttr,e3];exact ih i _ _ (by omega) (by simp[qh,ql,Tr.get_set]) ⟨by omega,hj'⟩
 all_goals simp_all[qh,ql,Tr.get_set]
def qmW{α:Type}{f:α->List AV}{m:Nat}(h:∀x,(f x).length=m){xs:List α}{j:Nat}(x':α)(hj:j<xs.length):(xs.flatMap f).take (j*m)++(f x'++(xs.flatMap f).drop (j*m+m))=(xs.set j x').flatMap f:=by
 have e:xs=xs.take j++xs[j]::xs.drop (j+1):=by rw[List.getElem_cons_drop,List.take_append_drop]
 have e1:(xs.flatMap f).take (j*m)=(xs.take j).flatMap f:=qhx h xs j;have e2:(xs.flatMap f).drop (j*m+m)=(xs.drop (j+1)).flatMap f:=by rw[<- qfe h xs (j+1),Nat.add_mul];simp
 rw[e1,e2,List.set_eq_take_append_cons_drop,if_pos hj];simp
def qpV{l:List Sy}{j:Nat}(y:Sy)(hj:j<l.length):(rSy l).take (j*4)++(cSy y++(rSy l).drop (j*4+4))=rSy (l.set j y):=qmW qec y hj
def jk(out:List Sy)(j:Nat):Nat:=match out[j]? with|some x=>if x.code=5 then x.th else j|none=>j
def qbj(out:List Sy)(x:Sy):Sy:=if qcP (qbw (jk out) x)/\(qbw (jk out) x).th=(qbw (jk out) x).el then⟨5,0,(qbw (jk out) x).th,0⟩else qbw (jk out) x
def qfU(l:List Sy):Nat->List Sy
 | 0=>l
 | m+1=>match l[l.length-(m+1)]? with|some x=>(qfU l m).set (l.length-(m+1)) (qbj (qfU l m) x)|none=>qfU l m
def qhl{l:List Sy}:∀{m:Nat},(qfU l m).length=l.length
 | 0=>rfl
 | m+1=>by
  unfold qfU;split
  .rw[List.length_set,qhl]
  .exact qhl
def qq3(l:List Sy):List Sy:=qfU l l.length
def qaj:IFn:=⟨[.tmp 3],sq [.r [.m 3 (.k 0)],sq [.r [.d 4 1,.n 5 0,.i 6 4 4 5,.f 7 0 6,.d 8 7,.q 9 (.bin .eql (.t 8) (.c (.h 5)))],.cond (.t 9) (.r [.d 10 1,.n 11 0,.i 12 4 10 11,.f 13 2 12,.d 14 13,.n 0 14]) (.skip)],.r [.n 15 0,.n 3 15],.ret]⟩
def qou(hc:qc P f qaj=true)(out:List Sy)(j:Nat)(hj:j<out.length):qa P f [.j (j:Int),.pf [.fz out.length (rSy out)] 0] (.j ((jk out j:Nat):Int)):=by
 refine qa.mk hc (by simp[qt,clo,qY]) ?_;obtain⟨y,hy⟩:∃y,out[j]?=some y:=⟨_,zzE hj⟩;have gc:(rSy out)[j*4]?=some (.h y.code):=qjy hy (i:=0) (by omega);have gt:(rSy out)[j*4+2]?=some (.j (y.th:Int)):=qjy hy (i:=2) (by omega);simp only[qaj,vI,simprocAttr]
 by_cases h5:y.code=5
 .have e:jk out j=y.th:=by unfold jk;rw[hy];grind
  simp +decide only[↓vS,vT,simprocAttr,gc,gt,hj,h5];simp[vZ,e]
 .have e:jk out j=j:=by unfold jk;rw[hy];grind
  simp +decide only[↓vS,vT,simprocAttr,gc,gt,hj,h5];simp[vZ,e]
def qbf(a b c d e:Nat):ICode:=sq [.r [.d 42 3,.n 2 42],.ret]
def qcY(a b c d e:Nat):IFn:=⟨[.tmp 2],sq [.r [.m 2 .N],.r [.n 7 0,.l 8 a [.t 7],.q 3 (.alloc [.nils]),.u (.store 1 (.t 3) (.t 8))],.r [.q 9 (.mkF b [] [.t 3]),.q 4 (.alloc [.nilf]),.u (.store 1 (.t 4) (.t 9))],sq [.r [.n 10 0,.l 11 c [.t 10]],.blk 0 (.rangeF 0 (.t 11) [12,13] (.seq (.r [.n 5 12]) (.r [.q 6 (.alloc [.h 0,.w 0,.j 0,.j 0]),.u (.store 4 (.t 6) (.t 13))])) (.blk 1 (.seq (.reg true [.d 14 3,.n 15 5,.v 16 4 6,.q 17 (.buildS 1 [.h 0,.w 0,.j 0,.j 0] [(0,4,(.t 16))]),.d 18 4,.l 19 d [.t 17,.t 18],.q 20 (.iAddrS 4 (.t 19) (.k 0)),.v 21 4 20,.i 22 4 14 15,.u (.store 4 (.t 22) (.t 21))]) (.seq (.r [.d 23 3,.n 24 5,.i 25 4 23 24,.v 26 4 25,.u (.store 4 (.t 6) (.t 26))]) (.seq (.r [.v 27 4 6,.l 28 e [.t 27],.n 29 28,.h 30 2 6 29 true,.j 31 30 29 true,.h 32 3 6 29 true,.j 33 32 29 true,.g 34 (.bin .eql (.t 31) (.t 33)) 29 true,.p 35 29 34]) (.cond (.t 35) (.r [.d 36 3,.n 37 5,.f 38 2 6,.d 39 38,.q 40 (.build [.h 0,.w 0,.j 0,.j 0] [(0,1,(.c (.h 5))),(2,1,(.t 39))]),.i 41 4 36 37,.u (.store 4 (.t 41) (.t 40))]) (.skip)))))))],.cut (qbf a b c d e)]⟩
def thT(gB:Nat)(l:List Sy):List (Nat×AV):=[(3,.ptr 1 0),(4,.ptr 2 0),(11,.fn gB [] [.pf [.fz l.length (rSy l)] 0])]
def thA:ICode:=sq [.reg false [⟨some 5,.op (.mov (.t 12)),none⟩],.reg false [⟨some 6,.op (.alloc [.h 0,.w 0,.j 0,.j 0]),none⟩,⟨none,.op (.store 4 (.t 6) (.t 13)),none⟩]]
def thB(gM gA:Nat):ICode:=.blk 1 (sq [.reg true [.d 14 3,.n 15 5,.v 16 4 6,.q 17 (.buildS 1 [.h 0,.w 0,.j 0,.j 0] [(0,4,(.t 16))]),.d 18 4,.l 19 gM [.t 17,.t 18],.q 20 (.iAddrS 4 (.t 19) (.k 0)),.v 21 4 20,.i 22 4 14 15,.u (.store 4 (.t 22) (.t 21))],.r [.d 23 3,.n 24 5,.i 25 4 23 24,.v 26 4 25,.u (.store 4 (.t 6) (.t 26))],.r [.v 27 4 6,.l 28 gA [.t 27],.n 29 28,.h 30 2 6 29 true,.j 31 30 29 true,.h 32 3 6 29 true,.j 33 32 29 true,.g 34 (.bin .eql (.t 31) (.t 33)) 29 true,.p 35 29 34],.cond (.t 35) (.r [.d 36 3,.n 37 5,.f 38 2 6,.d 39 38,.q 40 (.build [.h 0,.w 0,.j 0,.j 0] [(0,1,(.c (.h 5))),(2,1,(.t 39))]),.i 41 4 36 37,.u (.store 4 (.t 41) (.t 40))]) (.skip)])
def thI(g1:Nat)(r0:Loop)(ts:List (Nat×AV))(n:Nat)(out:List Sy)(s:Nat)(tr:Tr Blk):Prop :=
 out.length=n/\4<=s/\tr.get 0=some (.cells 4 true true (rSy out))/\tr.get 1=some (.v [.own 0 n])/\tr.get 2=some (.v [.fn g1 [] [.ptr 1 0]])/\tr.get 3=some (.map (zz r0 ts))
def qxI{g1 gB gM gA s n:Nat}{r0:Loop}{l out:List Sy}{tr:Tr Blk}{k:AV->Hp->Prop}
  (hM:∀(x:Sy) (out:List Sy),out.length=n->(∀j:Nat,(qbY x/\j=x.th)\/(qcP x/\j=x.el)->j<n)->qiN P gM [.fz 1 (cSy x),.fn g1 [] [.pf [.fz out.length (rSy out)] 0]] (.own 0 1) [.cells 4 true true (cSy (qbw (jk out) x))])
  (hA:qgt P gA) (hr0:r0.state = .ready) (hp0:r0.pending=none) (hlo:LoopOk P r0 [12,13] thA (thB gM gA)) (hI:thI g1 r0 (thT gB l) n out s tr) (i:Nat) (hi:i<n) (x:Sy) (hx:∀j:Nat,(qbY x/\j=x.th)\/(qcP x/\j=x.el)->j<n)
  (hk:∀s' tr',thI g1 r0 (thT gB l) n (out.set i (qbj out x)) s' tr'->k (.b true) ⟨s',0,tr'⟩):SY P 3 [.j (i:Int),.agg (cSy x)] ⟨s,0,tr⟩ k:=by
 obtain⟨hn,h4,h0,h1,h2,h3⟩:=hI;refine SY.mk (r:=r0) (ts:=thT gB l) (ps:=[12,13]) h3 hr0 hlo (Nat.zero_le _) (by grind) rfl ?_;rw[show mkT (thT gB l)=((Tr.leaf.set 11 (.fn gB [] [.pf [.fz l.length (rSy l)] 0])).set 4 (.ptr 2 0)).set 3 (.ptr 1 0)from rfl]
 refine qk ?_;simp only[qjw,thA,cSy,vI,simprocAttr];simp +decide only[↓vS,vT,simprocAttr];have n3:¬3=s:=by omega
 have n0:¬0=s:=by omega
 have n1:¬1=s:=by omega
 have n2:¬2=s:=by omega
 have m0:¬0=s+1:=by omega
 have m1:¬1=s+1:=by omega
 have m2:¬2=s+1:=by omega
 have m3:¬3=s+1:=by omega
 have q1:¬s=s+1:=by omega
 have q2:¬s=s+1+1:=by omega
 have q3:¬0=s+1+1:=by omega
 have q4:¬1=s+1+1:=by omega
 have q5:¬2=s+1+1:=by omega
 have q6:¬3=s+1+1:=by omega
 have ns3:¬s=3:=by omega
 have ns0:¬s=0:=by omega
 refine⟨thT gB l,by simp_all[Tr.get_set],?_⟩
 refine qk ?_;simp only[qx,thB,vI,simprocAttr];simp +decide only[↓vS,vT,simprocAttr];refine zg ?_;have e1:¬(0:Nat)=3:=by decide
 have e2:¬(1:Nat)=3:=by decide
 have e3:¬(2:Nat)=3:=by decide
 simp +decide only[↓vS,vT,simprocAttr,h1,h2,e1,e2,e3,n0,n1,n2,ns3,m0,m1,m2,q1]
 have fr0:∀(f2:Nat) (t2:Tr Blk),t2.get (s+1)=some (.v (cSy x))->t2.get 1=some (.v [.own 0 n])->t2.get 0=some (.cells 4 true true (rSy out))->
   Frzs ⟨s+1+1,f2,t2⟩ [.sl (s+1) 0 1 1 false,.fn g1 [] [.ptr 1 0]] [.fz 1 (cSy x),.fn g1 [] [.pf [.fz out.length (rSy out)] 0]]:=λf2 t2 p1 p2 p3=>by
  refine qa1.2 ⟨Frz.cut 4 rfl (zzL _) ?_,qa1.2 ⟨qvE.2 ⟨rfl,qfG.2 trivial,qa1.2 ⟨qvC.2 ⟨rfl,?_⟩,qfG.2 trivial⟩⟩,qfG.2 trivial⟩⟩
  .rw[p1];simp[vP,cSy,vZ]
  .rw[p2];simp[vP,vZ,p3,hn]
   grind[Frzs.self,qY]
 refine(hM x out hn hx).pc (fr0 _ _ ?_ ?_ ?_) ?_
 .rw[Tr.get_set,if_pos rfl];rfl
 .rw[Tr.get_set,if_neg m1,Tr.get_set,if_neg (by decide),Tr.get_set,if_neg n1,Tr.get_set,if_neg n1];exact h1
 .rw[Tr.get_set,if_neg m0,Tr.get_set,if_neg (by decide),Tr.get_set,if_neg n0,Tr.get_set,if_neg n0];exact h0
 simp only[vJ,simprocAttr];obtain⟨y,hy⟩:∃y,y=qbw (jk out) x:=⟨_,rfl⟩;have hset:=qpV (l:=out) (j:=i) y (by omega);have h44:i*4+4<=(rSy out).length:=by rw[qan];omega
 have hget:(out.set i y)[i]?=some y:=by simp_all
 have hel:=qfx hget;have h45:i*4+4<=(rSy (out.set i y)).length:=by rw[qan,List.length_set];omega
 have hset2:=qpV (l:=out.set i y) (j:=i) ⟨5,0,y.th,0⟩ (by rw[List.length_set];omega);rw[List.set_set]at hset2;have hin:(i:Nat)<n:=hi;rw[<- hy];simp +decide only[↓vS,vT,simprocAttr,xj qY,h0,e1,e2,e3,n0,n1,n2,ns3,m0,m1,m2,q1,q2,q3,q4,q5,cSy,hin];simp only[cSy,zzC,zzN]at hset hset2 hel;have ha:=hA y;simp only[cSy]at ha;have hi0:i<n:=hi;simp +decide only[↓vS,vT,simprocAttr,h44,hset,h1,e1,e2,e3,n0,n1,n2,ns3,ns0,m0,m1,m2,q1,q2,q3,q4,q5,hi0,h45,hel];refine ha.sc ?_
 have fin:∀(s2:Nat) (t2:Tr Blk) (z:Sy),4<=s2->qbj out x=z->t2.get 0=some (.cells 4 true true (rSy (out.set i z)))->t2.get 1=tr.get 1->t2.get 2=tr.get 2->t2.get 3=some (.map (zz (Go.Kc.bsy r0) (thT gB l)))->∀tt,qCJ 3 k .normal tt ⟨s2,0,t2⟩:=by
  intro s2 t2 z p1 p2 p3 p4 p5 p6 tt;refine⟨Go.Kc.bsy r0,thT gB l,p6,?_⟩;rw[qct,qd0 hr0 hp0];simp only[qx];simp +decide only[↓vS,vT,simprocAttr];refine hk _ _ ⟨by rw[List.length_set];exact hn,p1,?_,?_,?_,?_⟩
  all_goals grind[Tr.get_set]
 have old:∀(b:Nat) (u1 u2 u3 u4 u5 u6:Blk),b<s->b≠0->b≠3->(((((((tr.set s u1).set s u2).set 3 u3).set (s+1) u4).set (s+1+1) u5).set 0 u6).set s u1).get b=tr.get b:=λb u1 u2 u3 u4 u5 u6 p1 p2 p3=>by
  simp only[Tr.get_set];repeat rw[if_neg (by omega)]
 have s0:¬0=s:=n0
 by_cases h4':qcP y
 .by_cases h5:y.th=y.el
  .have h5':(y.th:Int)=y.el:=by omega
   have he:qbj out x=⟨5,0,y.th,0⟩:=by unfold qbj;rw[<- hy,if_pos ⟨h4',h5⟩]
   have h46:i*4+4<=(rSy (out.set i y)).length:=h45;simp +decide only[↓vS,vT,simprocAttr,h4',eq_true h5',h44,hset,h1,e1,e2,e3,n0,n1,n2,ns3,ns0,m0,m1,m2,q1,q2,q3,q4,q5,hi0,h45,hel,hset2];refine fin _ _ _ (by omega) he ?_ ?_ ?_ ?_ _
   .rw[Tr.get_set,if_pos rfl,<- hset2];rfl
   .simp only[Tr.get_set];grind
   .simp only[Tr.get_set];grind
   .simp only[Tr.get_set];rw[if_neg (by omega),if_neg (by omega),if_neg (by omega),if_neg (by omega),if_neg (by omega)];simp
  .have h5':¬(y.th:Int)=y.el:=by omega
   have he:qbj out x=y:=by unfold qbj;rw[<- hy,if_neg λh=>h5 h.2]
   simp +decide only[↓vS,vT,simprocAttr,h4',h5',h44,hset,h1,e1,e2,e3,n0,n1,n2,ns3,ns0,m0,m1,m2,q1,q2,q3,q4,q5,hi0,h45,hel];refine fin _ _ _ (by omega) he ?_ ?_ ?_ ?_ _
   .rw[Tr.get_set,if_neg n0,Tr.get_set,if_pos rfl]
   .simp only[Tr.get_set];repeat rw[if_neg (by omega)]
   .simp only[Tr.get_set];repeat rw[if_neg (by omega)]
   grind[Tr.get_set]
 .have he:qbj out x=y:=by unfold qbj;rw[<- hy,if_neg λh=>h4' h.1]
  simp +decide only[↓vS,vT,simprocAttr,h4',h44,hset,h1,e1,e2,e3,n0,n1,n2,ns3,ns0,m0,m1,m2,q1,q2,q3,q4,q5,hi0,h45,hel];refine fin _ _ _ (by omega) he ?_ ?_ ?_ ?_ _
  .rw[Tr.get_set,if_neg n0,Tr.get_set,if_pos rfl]
  .simp only[Tr.get_set];repeat rw[if_neg (by omega)]
  .simp only[Tr.get_set];repeat rw[if_neg (by omega)]
  grind[Tr.get_set]
def qqh{n0 g1 g2 g3 g4 g5 s n:Nat}{tr:Tr Blk}{t:Tr AV}{out:List Sy}(ht:t.get 3=some (.ptr 1 0))(h1:tr.get 1=some (.v [.own 0 n]))(h0:tr.get 0=some (.cells 4 true true (rSy out)))(hn:out.length=n) :
  S P n0 (qbf g1 g2 g3 g4 g5) (xk [.tmp 2] λv' h'=>Frz h' v' (.fz n (rSy out))) t ⟨s,0,tr⟩:=by
 refine S.has [(3,.ptr 1 0)] (by grind[qh,ql]) (qk ?_);simp only[qbf,vI,simprocAttr];simp only[↓vS,vT,simprocAttr,h1];simp[vZ,vP,Tr.get_set,h0];refine⟨λh=>?_,Frzs.self qY⟩
 rw[List.eq_nil_of_length_eq_zero (hn.trans h)];rfl
def qmE{gC g1 gB gM gA gi h1 h2 h3:Nat}(hc:qc P f (qcY gC g1 gB gM gA)=true)(c0:qbz P gC 4 24)(hc1:qc P g1 qaj=true)(hB:∀l:List Sy,qa P gB [.fz l.length (rSy l)] (.fn gi [] [.pf [.fz l.length (rSy l)] 0]))
  (hi:qc P gi qH=true) (hM:qc P gM (jq h1 h2 h3)=true) (c1:qbz P h1 4 24) (c2:cOf P h2) (c3:qgt P h3) (hA:qgt P gA) (l:List Sy) (hl:l.length<=200000) (hin:qmF l) :
  qa P f [.fz l.length (rSy l)] (.fz (qq3 l).length (rSy (qq3 l))):=by
 have hMo:∀(x:Sy) (out:List Sy),out.length=l.length->(∀j:Nat,(qbY x/\j=x.th)\/(qcP x/\j=x.el)->j<l.length)->qiN P gM [.fz 1 (cSy x),.fn g1 [] [.pf [.fz out.length (rSy out)] 0]] (.own 0 1) [.cells 4 true true (cSy (qbw (jk out) x))]:=by
  intro x out ho hx
  have:=qtD (gt:=g1) (caps:=[.pf [.fz out.length (rSy out)] 0]) hM c1 c2 c3 [x] (by simp) (jk out) λy hy j hj=>by
   rw[List.mem_singleton]at hy;subst hy;exact qou hc1 out j (by rw[ho];simp_all)
  simpa[rSy]using this
 refine qa.mk hc (by simp[qt,clo,qY]) ?_;simp only[qcY,vI,simprocAttr];simp +decide only[↓vS,vT,simprocAttr];refine(c0 l.length (rSy l) qan qY qxh (by simp only[qf];omega) (by simp only[qf];omega)).sc ?_;simp only[vJ,simprocAttr];simp +decide only[↓vS,vT,simprocAttr,xj qY];refine(hB l).sc ?_;simp +decide only[↓vS,vT,simprocAttr];refine S.rangeFL (ts:=thT gi l) (Nat.zero_le _) (by intro p hp;simp only[thT,List.mem_cons,List.not_mem_nil,or_false]at hp;rcases hp with rfl|rfl|rfl<;>simp[Tr.get_set]) ⟨rfl,rfl⟩ ?_;refine qhT.2 ⟨.fn gi [] [.pf [.fz l.length (rSy l)] 0],by simp[Tr.get_set],?_⟩
 refine⟨qbC hi,λr0 hr0 hp0 hlo=>⟨r0,.inl ⟨rfl,hlo.real⟩,?_⟩⟩
 have hlo:LoopOk P r0 [12,13] thA (thB gM gA):=hlo;refine xp (c:=cSy) hi qec (by omega) (λi h=>∃s tr,h=⟨s,0,tr⟩/\thI g1 r0 (thT gi l) l.length (qfU l (l.length-i)) s tr/\i<=l.length) ?_ ?_ ?_
 .rintro i x h hx ⟨s,tr,rfl,hI,hil⟩ k hk;have hi':i<l.length:=by omega
  refine qxI hMo hA hr0 hp0 hlo hI i hi' x (hin x (by grind)) λs' tr' hI'=>hk _ ⟨s',tr',rfl,?_,by omega⟩
  have e:l.length-i=(l.length-(i+1))+1:=by omega
  have e2:l.length-(l.length-(i+1)+1)=i:=by omega
  have e3:qfU l (l.length-i)=(qfU l (l.length-(i+1))).set i (qbj (qfU l (l.length-(i+1))) x):=by
   rw[e,qfU,e2,hx]
  rw[e3];omega
 .refine⟨_,_,rfl,⟨qhl,by simp,?_,?_,?_,?_⟩,zzL _⟩<;>simp[Tr.get_set,qlI,Hp.push,qfU,xj qY]
 .rintro h ⟨s,tr,rfl,⟨hn,h4,q0,q1,q2,q3⟩,_⟩;rw[Nat.sub_zero]at q0;refine⟨r0,thT gi l,q3,by rw[hr0];decide,?_⟩
  rw[hp0];simp only[qx];simp only[↓vS,vT,simprocAttr];have e:(qq3 l).length=l.length:=qhl;rw[e];refine qqh (by simp[Tr.get_set]) ?_ ?_ qhl
  .rw[Tr.get_set,if_neg (by decide)];exact q1
  .rw[Tr.get_set,if_neg (by decide)];exact q0
def rBo(l:List Bool):List AV:=l.map .b
def qk9{l:List Bool}:(rBo l).length=l.length:=by simp[rBo]
def qod{l:List Bool}{j:Nat}:(rBo l)[j]?=(l[j]?).map .b:=by simp[rBo]
def qw8{l:List Bool}:qt (rBo l)=true:=qbB λ_=>rfl
def qla{l:List Bool}{j:Nat}(hj:j<l.length):(rBo l).take j ++ .b true::(rBo l).drop (j+1)=rBo (l.set j true):=by
 rw[List.set_eq_take_append_cons_drop,if_pos hj];simp[rBo,List.map_take,List.map_drop]
def qe6(A:List Bool)(j:Nat)(x:Sy):List Bool :=
 if A[j]?≠some true\/x.code=6 then A else if qn x.code≠4 then A.set (j+1) true else if qcP x then(A.set x.th true).set x.el true else A.set x.th true
def wo(l:List Sy):Nat->List Bool
 | 0=>(List.replicate l.length false).set 0 true
 | m+1=>match l[m]? with|some x=>qe6 (wo l m) m x|none=>wo l m
def qul{A:List Bool}{j:Nat}{x:Sy}:(qe6 A j x).length=A.length:=by
 unfold qe6;grind
def qbx{l:List Sy}:∀{m:Nat},(wo l m).length=l.length
 | 0=>by simp[wo]
 | m+1=>by
  unfold wo;split
  .rw[qul,qbx]
  .exact qbx
def zT(l:List Sy):List Bool:=wo l l.length
def qAT(l:List Sy):Prop:=∀(j:Nat) x,l[j]?=some x->x.code≠6->qn x.code≠4->j+1<l.length
def qfK(a b:Nat):IFn:=⟨[.tmp 2],sq [.r [.m 2 .N],.r [.n 6 0,.e 7 6,.q 8 (.mkS 1 1 [.b false] (.t 7) (.t 7)),.n 3 8],.r [.n 9 3,.q 10 (.iAddrS 1 (.t 9) (.k 0)),.u (.store 1 (.t 10) .T)],sq [.r [.n 11 0,.e 12 11,.m 13 (.k 0)],.blk 0 (.loop (sq [.r [.s 14 13 12],.cond (.t 14) (.skip) (.exit 0),.blk 1 (sq [.r [.n 15 13,.i 16 4 11 13,.v 17 4 16,.q 5 (.alloc [.h 0,.w 0,.j 0,.j 0]),.n 4 15,.u (.store 4 (.t 5) (.t 17))],.blk 2 (sq [.r [.n 29 3,.n 30 4,.i 31 1 29 30,.d 32 31,.q 33 (.un .not (.t 32)),.n 34 33,.h 35 0 5 34 false,.j 36 35 34 false,.g 37 (.bin .eql (.t 36) (.c (.h 6))) 34 false,.o 38 34 37,.n 28 38],.cond (.t 28) (.skip) (sq [.r [.f 40 0 5,.d 41 40,.l 42 a [.t 41],.q 43 (.bin .neq (.t 42) (.c (.y 4))),.n 39 43],.cond (.t 39) (.r [.n 44 3,.n 45 4,.a 46 45 1,.i 47 1 44 46,.u (.store 1 (.t 47) .T)]) (sq [.r [.n 18 3,.f 19 2 5,.d 20 19,.i 21 1 18 20,.u (.store 1 (.t 21) .T)],.r [.v 22 4 5,.l 23 b [.t 22]],.cond (.t 23) (.r [.n 24 3,.f 25 3 5,.d 26 25,.i 27 1 24 26,.u (.store 1 (.t 27) .T)]) (.skip)])])])]),.r [.a 48 13 1,.n 13 48]]))],.r [.n 49 3,.n 2 49],.ret]⟩
def qqo{g1 g2:Nat}(hc:qc P f (qfK g1 g2)=true)(h1:cOf P g1)(h2:qgt P g2)(l:List Sy)(hl:l.length<=200000)(h0:0<l.length)(hin:qmF l)(hon:qAT l):qa P f [.fz l.length (rSy l)] (.fz l.length (rBo (zT l))):=by
 refine qa.mk hc (by simp[qt,clo,qY]) ?_;have r1:l.length<=qf:=by simp only[qf];omega
 have r2:1*l.length<=qf:=by omega
 have hz:(List.replicate l.length [AV.b false]).flatten=rBo (List.replicate l.length false):=by simp[rBo]
 have hz0:=qla (l:=List.replicate l.length false) (j:=0) (by simp_all);have hzl:0+1<=(rBo (List.replicate l.length false)).length:=by rw[qk9];grind
 rw[List.take_zero,zzN]at hz0;simp only[qfK,vI,simprocAttr];simp +decide only[↓vS,vT,simprocAttr,r1,r2,hz,h0,Nat.one_mul,Nat.zero_mul,hzl,hz0]
 refine SL.loopP (α:=Nat) (λi=>[(3,.sl 0 0 l.length l.length false),(11,.fz l.length (rSy l)),(12,.j (l.length:Int)),(13,.j (i:Int))])
  (λi h=>i<=l.length/\∃s tr,h=⟨s,0,tr⟩/\1<=s/\tr.get 0=some (.v (rBo (wo l i)))) (λi=>l.length-i) ?_ 0 ?_ ?_
 .rintro i h1' ⟨hi,s,tr,rfl,hs,t0⟩ G ih;simp only[vI,simprocAttr]
  by_cases hlt:i<l.length
  .have hlt':(i:Int)<l.length:=by omega
   obtain⟨x,hx⟩:∃x,l[i]?=some x:=⟨_,zzE hlt⟩;have hel:=qfx hx;have h4:i*4+4<=(rSy l).length:=by rw[qan];omega
   have hw1:IntKind.wrap .i64 ((i:Int)+1)=((i+1:Nat):Int):=by rw[qm (by omega) (by omega)];simp
   have n0:¬0=s:=by omega
   have n0s:¬s=0:=by omega
   have hAl:(wo l i).length=l.length:=qbx;obtain⟨b,hb⟩:∃b,(wo l i)[i]?=some b:=⟨_,zzE (by omega)⟩;have hgb:(rBo (wo l i))[i]?=some (.b b):=by rw[qod,hb];rfl
   have hst:wo l (i+1)=qe6 (wo l i) i x:=by rw[wo,hx]
   have fin:∀(t2:Tr Blk) tt,t2.get 0=some (.v (rBo (wo l (i+1))))->Has tt [(3,.sl 0 0 l.length l.length false),(11,.fz l.length (rSy l)),(12,.j (l.length:Int)),(13,.j ((i+1:Nat):Int))]->G tt ⟨s+1,0,t2⟩:=by grind
   have ha:=h2 x;simp only[cSy]at ha;have sl:∀(A:List Bool) (j:Nat),A.length=l.length->j<l.length->j+1<=(rBo A).length:=λA j h1 h2=>by rw[qk9];omega
   cases b with
   | false =>
    have e:qe6 (wo l i) i x=wo l i:=by unfold qe6;rw[hb];simp
    rw[hst,e]at fin;simp +decide only[↓vS,vT,simprocAttr,hlt',hlt,h4,hel,cSy,n0,t0,hgb,zzU,hw1];exact fin _ _ (by grind[Tr.get_set]) (by simp[qh,ql,Tr.get_set])
   | true =>
    by_cases h6:x.code=6
    .have e:qe6 (wo l i) i x=wo l i:=by unfold qe6;grind
     rw[hst,e]at fin;simp +decide only[↓vS,vT,simprocAttr,hlt',hlt,h4,hel,cSy,n0,t0,hgb,zzU,hw1,eq_true h6];exact fin _ _ (by grind[Tr.get_set]) (by simp[qh,ql,Tr.get_set])
    .simp +decide only[↓vS,vT,simprocAttr,hlt',hlt,h4,hel,cSy,n0,t0,hgb,zzU,hw1,h6];refine(h1 x.code).sc ?_
     by_cases hj:qn x.code=4
     .have hth:=hin x (by grind) x.th (.inl ⟨hj,rfl⟩);have b1:=qla (l:=wo l i) (j:=x.th) (by omega);have b2:=sl (wo l i) x.th hAl hth;simp +decide only[↓vS,vT,simprocAttr,hj,n0,n0s,t0,hth,b1,b2,zzU];refine ha.sc ?_
      by_cases hk:qcP x
      .have hel2:=hin x (by grind) x.el (by grind);have b3:=qla (l:=(wo l i).set x.th true) (j:=x.el) (by rw[List.length_set];omega);have b4:=sl ((wo l i).set x.th true) x.el (by rw[List.length_set];omega) hel2;have e:qe6 (wo l i) i x=((wo l i).set x.th true).set x.el true:=by unfold qe6;grind
       rw[hst,e]at fin;simp +decide only[↓vS,vT,simprocAttr,hk,n0,n0s,hel2,b3,b4,zzU,hw1];exact fin _ _ (by rw[Tr.get_set,if_pos rfl]) (by simp[qh,ql,Tr.get_set])
      .have e:qe6 (wo l i) i x=(wo l i).set x.th true:=by unfold qe6;grind
       rw[hst,e]at fin;simp +decide only[↓vS,vT,simprocAttr,hk,hw1];exact fin _ _ (by rw[Tr.get_set,if_pos rfl]) (by simp[qh,ql,Tr.get_set])
     .have hnx:=hon i x hx h6 hj;have b1:=qla (l:=wo l i) (j:=i+1) (by omega);have b2:=sl (wo l i) (i+1) hAl hnx;have e:qe6 (wo l i) i x=(wo l i).set (i+1) true:=by unfold qe6;grind
      rw[hst,e]at fin;simp +decide only[↓vS,vT,simprocAttr,hj,n0,t0,hnx,b1,b2,zzU,hw1];exact fin _ _ (by rw[Tr.get_set,if_pos rfl]) (by simp[qh,ql,Tr.get_set])
  .obtain rfl:i=l.length:=by omega
   have hlt':¬((l.length:Int)<l.length):=by omega
   simp +decide only[↓vS,vT,simprocAttr,hlt'];have hAl:(wo l l.length).length=l.length:=qbx;show Frz _ _ _;refine Frz.cut 1 rfl (zzL _) ?_;rw[t0];simp[vP,qk9,hAl];rw[List.take_of_length_le (by rw[qk9,hAl];omega)];exact Frzs.self qw8
 .simp[qh,ql,Tr.get_set]
 .refine⟨Nat.zero_le _,_,_,rfl,by omega,?_⟩
  simp[Tr.get_set,wo]
def xH(A:List Bool)(j:Nat):Nat:=(A.take j).countP (· = true)
def rPl(A:List Bool)(n:Nat):List AV:=(List.range n).map λj=>.j (xH A j:Int)
theorem qoi{A:List Bool}{n:Nat}:(rPl A n).length=n:=by simp[rPl]
def qr9{A:List Bool}{n j:Nat}(h:j<n):(rPl A n)[j]?=some (.j (xH A j:Int)):=by simp[rPl,h]
def qjY{A:List Bool}{j:Nat}{b:Bool}(h:A[j]?=some b):xH A (j+1)=xH A j+if b=true then 1 else 0:=by
 unfold xH;rw[qbu h,List.countP_append];cases b<;>simp
def qnS{A:List Bool}{j:Nat}:xH A j<=j:=by
 unfold xH;grind[List.length_take]
def qd1{α:Type}:List Bool->List α->List α
 | b::A,x::l=>if b=true then x::qd1 A l else qd1 A l
 | _,_=>[]
def qnq{α:Type}:∀{A:List Bool} {l:List α} {j:Nat} {b:Bool} {x:α},A[j]?=some b->l[j]?=some x->qd1 (A.take (j+1)) (l.take (j+1))=qd1 (A.take j) (l.take j)++if b=true then [x]else []
 | [],_,_,_,_,h,_=>by grind
 | _::_,[],_,_,_,_,h=>by grind
 | c::A,y::l,0,b,x,h1,h2=>by
  simp at h1 h2;subst h1 h2;cases c<;>simp[qd1]
 | c::A,y::l,j+1,b,x,h1,h2=>by
  have:=qnq (A:=A) (l:=l) (j:=j) (b:=b) (x:=x) (by simp_all) (by simp_all);rw[List.take_succ_cons,List.take_succ_cons,List.take_succ_cons,List.take_succ_cons];simp only[qd1,this];cases c<;>simp
def qp6{α:Type}:∀{A:List Bool} {l:List α},A.length=l.length->(qd1 A l).length=A.countP (· = true)
 | [],[],_=>rfl
 | b::A,x::l,h=>by
  have:=qp6 (A:=A) (l:=l) (by simp_all);cases b<;>simp[qd1,this]
 | [],_::_,h=>by grind
 | _::_,[],h=>by grind
def qiB(l:List Sy):List Sy:=qd1 (zT l) (l.map (qbw (xH (zT l))))
def qc2(n b:Nat):AV:=if n=0 then .nils else .own b n
def qa7:IFn:=⟨[.tmp 3],sq [.r [.m 3 (.k 0)],.r [.d 4 1,.n 5 0,.i 6 1 4 5,.d 7 6,.n 3 7],.ret]⟩
def qcg(a b c:Nat):ICode:=sq [.r [.m 7 .N],sq [.r [.n 31 0,.q 32 (.mkF b [] [.t 4]),.l 33 c [.t 31,.t 32],.e 34 33,.m 35 (.k 0)],.blk 2 (.loop (sq [.r [.s 36 35 34],.cond (.t 36) (.skip) (.exit 2),.blk 3 (sq [.r [.n 37 35,.i 38 4 33 35,.v 39 4 38,.q 9 (.alloc [.h 0,.w 0,.j 0,.j 0]),.n 8 37,.u (.store 4 (.t 9) (.t 39))],.r [.n 40 3,.n 41 8,.i 42 1 40 41,.d 43 42],.cond (.t 43) (.r [.n 44 7,.v 45 4 9,.q 46 (.buildS 1 [.h 0,.w 0,.j 0,.j 0] [(0,4,(.t 45))]),.q 47 (.app 4 24 true (.t 44) (.t 46)),.n 7 47]) (.skip)]),.r [.a 48 35 1,.n 35 48]]))],.r [.n 49 7,.n 2 49],.ret]
def qeK(a b c:Nat):IFn:=⟨[.tmp 2],sq [.r [.m 2 .N],.r [.n 10 0,.l 11 a [.t 10],.n 3 11],.r [.n 12 0,.e 13 12,.q 14 (.mkS 1 8 [.j 0] (.t 13) (.t 13)),.q 4 (.alloc [.nils]),.u (.store 1 (.t 4) (.t 14))],.r [.m 5 (.k 0)],sq [.r [.n 15 0,.e 16 15,.m 17 (.k 0)],.blk 0 (.loop (sq [.r [.s 18 17 16],.cond (.t 18) (.skip) (.exit 0),.blk 1 (sq [.r [.n 19 17,.n 6 19],.r [.d 20 4,.n 21 6,.n 22 5,.i 23 1 20 21,.u (.store 1 (.t 23) (.t 22))],.r [.n 24 3,.n 25 6,.i 26 1 24 25,.d 27 26],.cond (.t 27) (.r [.n 28 5,.a 29 28 1,.n 5 29]) (.skip)]),.r [.a 30 17 1,.n 17 30]]))],.cut (qcg a b c)]⟩
def qty{n0 g1 g2 g3 h1 h2 h3 s:Nat}{tr:Tr Blk}{t:Tr AV}(hc1:qc P g2 qa7=true)(hc3:qc P g3 (jq h1 h2 h3)=true)(c1:qbz P h1 4 24)(c2:cOf P h2)(c3:qgt P h3)(l:List Sy)(hl:l.length<=200000)(hin:qmF l)
  (hs:2<=s) (t0:tr.get 0=some (.v (rPl (zT l) l.length))) (t1:tr.get 1=some (.v [.sl 0 0 l.length l.length false]))
  (ht:Has t [(0,.fz l.length (rSy l)),(3,.fz l.length (rBo (zT l))),(4,.ptr 1 0)]) :
  S P n0 (qcg g1 g2 g3) (xk [.tmp 2] λv' h'=>Frz h' v' (.fz (qiB l).length (rSy (qiB l)))) t ⟨s,0,tr⟩:=by
 have hAl:(zT l).length=l.length:=qbx;refine S.has _ ht (qk ?_);simp only[qcg,vI,simprocAttr];simp +decide only[↓vS,vT,simprocAttr];refine ql0 hc3 c1 c2 c3 l hl (Nat.zero_le _) (xH (zT l)) (λx hx j hj s' tr' k' hs' hold hk'=>?_) λs' tr' bm hs' hold hb1 hb2 hg=>?_
 .have hjl:=hin x hx j hj;have g0:=(hold 0 (by omega)).trans t0;have g1:=(hold 1 (by omega)).trans t1;have gp:=qr9 (A:=zT l) hjl;refine SC.mk hc1 (qk ?_);simp only[qa7,vI,simprocAttr];simp +decide only[↓vS,vT,simprocAttr,g0,g1,gp,hjl,zzU];omega
 obtain⟨M,hM⟩:∃M,M=l.map (qbw (xH (zT l))):=⟨_,rfl⟩;have hMl:M.length=l.length:=by rw[hM];simp
 have hliv:qiB l=qd1 (zT l) M:=by rw[hM];rfl
 rw[<- hM]at hg;simp +decide only[↓vS,vT,simprocAttr]
 refine SL.loopP (α:=Nat×Nat) (λi=>[(3,.fz l.length (rBo (zT l))),(7,qc2 (xH (zT l) i.1) i.2),(33,.own bm l.length),(34,.j (l.length:Int)),(35,.j (i.1:Int))])
  (λi h=>i.1<=l.length/\∃s2 t2,h=⟨s2,0,t2⟩/\bm<s2/\t2.get bm=some (.cells 4 true true (rSy M))/\(xH (zT l) i.1≠0->t2.get i.2=some (.cells 4 true true (rSy (qd1 ((zT l).take i.1) (M.take i.1))))/\i.2<s2/\i.2≠bm)) (λi=>l.length-i.1) ?_ (0,0) ?_ ?_
 .rintro⟨i,bo⟩ h1 ⟨hi,s2,t2,rfl,hb,gm,go⟩ G ih;simp only at hi go;simp only[vI,simprocAttr];have hsel:(qd1 ((zT l).take i) (M.take i)).length=xH (zT l) i:=qp6 (by grind)
  by_cases hlt:i<l.length
  .have hlt':(i:Int)<l.length:=by omega
   obtain⟨x,hx⟩:∃x,M[i]?=some x:=⟨_,zzE (by omega)⟩;obtain⟨b,hbb⟩:∃b,(zT l)[i]?=some b:=⟨_,zzE (by omega)⟩;have hgb:(rBo (zT l))[i]?=some (.b b):=by rw[qod,hbb];rfl
   have hel:=qfx hx;have h4:i*4+4<=(rSy M).length:=by rw[qan];omega
   have hw1:IntKind.wrap .i64 ((i:Int)+1)=((i+1:Nat):Int):=by rw[qm (by omega) (by omega)];simp
   have hsn:=qnq hbb hx;have hcn:=qjY hbb;have n1:¬bm=s2:=by omega
   have n2:¬s2=s2+1:=by omega
   have n3:¬s2+1=s2:=by omega
   have n4:¬bm=s2+1:=by omega
   have n5:¬bm=s2+1+1:=by omega
   have hci:=qnS (A:=zT l) (j:=i);cases b with
   | false =>
    simp at hcn hsn;simp +decide only[↓vS,vT,simprocAttr,hlt',hlt,h4,hel,cSy,gm,hgb,n1,zzU,hw1];refine ih (i+1,bo) _ _ (by simp only;omega) ?_ ⟨by simp only;omega,s2+1,_,rfl,by omega,?_,λh0=>?_⟩
    .simp only[hcn];simp[qh,ql,Tr.get_set]
    all_goals grind[Tr.get_set]
   | true =>
    simp at hcn hsn
    by_cases hz:xH (zT l) i=0
    .have hV:qc2 (xH (zT l) i) bo = .nils:=by simp[qc2,hz]
     have hnil:qd1 ((zT l).take i) (M.take i)=[]:=by grind
     rw[hV];simp +decide only[↓vS,vT,simprocAttr,hlt',hlt,h4,hel,cSy,gm,hgb,n1,n2,n3,zzU,hw1];refine ih (i+1,s2+1+1) _ _ (by omega) ?_ ⟨by omega,s2+1+1+1,_,rfl,by omega,?_,λh0=>⟨?_,by omega,by omega⟩⟩
     .have e:qc2 (xH (zT l) (i+1)) (s2+1+1) = .own (s2+1+1) 1:=by rw[hcn,hz];rfl
      simp only[e];simp[qh,ql,Tr.get_set]
     .grind[Tr.get_set]
     .simp only[Tr.get_set];rw[hsn,hnil];simp[rSy,cSy]
    .obtain⟨q1,q2,q3⟩:=go hz;have hV:qc2 (xH (zT l) i) bo = .own bo (xH (zT l) i):=by simp[qc2,hz]
     rw[hV];have n6:¬bo=s2:=by omega
     have n7:¬bo=s2+1:=by omega
     have n8:¬s2+1=bo:=by omega
     have hr1:xH (zT l) i+1<=qf:=by simp only[qf];omega
     have hr2:(xH (zT l) i+1)*24<=qf:=by simp only[qf];omega
     have hql:(rSy (qd1 ((zT l).take i) (M.take i))).length=xH (zT l) i*4:=by rw[qan,hsel]
     simp +decide only[↓vS,vT,simprocAttr,hlt',hlt,h4,hel,cSy,gm,hgb,n1,n2,n3,n6,n7,n8,q1,hr1,hr2,hql,zzU,hw1];refine ih (i+1,s2+1+1) _ _ (by omega) ?_ ⟨by omega,s2+1+1+1,_,rfl,by omega,?_,λh0=>⟨?_,by omega,by omega⟩⟩
     .have e:qc2 (xH (zT l) (i+1)) (s2+1+1) = .own (s2+1+1) (xH (zT l) i+1):=by rw[hcn];simp[qc2]
      simp only[e];simp[qh,ql,Tr.get_set]
     .grind[Tr.get_set]
     .simp only[Tr.get_set];rw[hsn,<- qsd];simp[rSy,cSy]
  .obtain rfl:i=l.length:=by omega
   have hlt':¬((l.length:Int)<l.length):=by omega
   have e1:(zT l).take l.length=zT l:=by grind
   have e2:M.take l.length=M:=by grind
   rw[e1,e2]at hsel go;simp +decide only[↓vS,vT,simprocAttr,hlt'];rw[hliv]
   by_cases hz:xH (zT l) l.length=0
   .have hV:qc2 (xH (zT l) l.length) bo = .nils:=by simp[qc2,hz]
    have hnil:qd1 (zT l) M=[]:=by grind
    rw[hV,hnil];exact .nilz
   .obtain⟨q1,q2,q3⟩:=go hz;have hV:qc2 (xH (zT l) l.length) bo = .own bo (xH (zT l) l.length):=by simp[qc2,hz]
    rw[hV];show Frz _ _ _;refine qvB.2 ⟨hsel.symm,?_⟩;rw[q1];simp[vP,hz];exact Frzs.self qY
 .have e:qc2 (xH (zT l) 0) 0 = .nils:=by simp[qc2,xH]
  simp_all[qh,ql,Tr.get_set]
 .exact⟨Nat.zero_le _,s',tr',rfl,hb2,hg,λh=>absurd (by simp[xH]) h⟩
def qpB{g1 g2 g3 h1 h2 h3:Nat}(hc:qc P f (qeK g1 g2 g3)=true)(hc1:qc P g2 qa7=true)(hc3:qc P g3 (jq h1 h2 h3)=true)(c1:qbz P h1 4 24)(c2:cOf P h2)(c3:qgt P h3)(l:List Sy)(ha:qa P g1 [.fz l.length (rSy l)] (.fz l.length (rBo (zT l))))
  (hl:l.length<=200000) (hin:qmF l):qa P f [.fz l.length (rSy l)] (.fz (qiB l).length (rSy (qiB l))):=by
 have hAl:(zT l).length=l.length:=qbx;refine qa.mk hc (by simp[qt,clo,qY]) ?_;have r1:l.length<=qf:=by simp only[qf];omega
 have r2:8*l.length<=qf:=by simp only[qf];omega
 simp only[qeK,vI,simprocAttr];simp +decide only[↓vS,vT,simprocAttr];refine ha.sc ?_;simp +decide only[↓vS,vT,simprocAttr,r1,r2]
 refine SL.loopP (α:=Nat) (λi=>[(0,.fz l.length (rSy l)),(3,.fz l.length (rBo (zT l))),(4,.ptr 1 0),(5,.j (xH (zT l) i:Int)),(16,.j (l.length:Int)),(17,.j (i:Int))])
  (λi h=>i<=l.length/\∃s tr,h=⟨s,0,tr⟩/\2<=s/\tr.get 0=some (.v ((rPl (zT l) l.length).take i++List.replicate (l.length-i) (.j 0)))/\tr.get 1=some (.v [.sl 0 0 l.length l.length false])) (λi=>l.length-i) ?_ 0 ?_ ?_
 .rintro i h1' ⟨hi,s,tr,rfl,hs,t0,t1⟩ G ih;simp only[vI,simprocAttr]
  by_cases hlt:i<l.length
  .have hlt':(i:Int)<l.length:=by omega
   obtain⟨b,hbb⟩:∃b,(zT l)[i]?=some b:=⟨_,zzE (by omega)⟩;have hgb:(rBo (zT l))[i]?=some (.b b):=by rw[qod,hbb];rfl
   have hcn:=qjY hbb;have hci:=qnS (A:=zT l) (j:=i);have hw1:IntKind.wrap .i64 ((i:Int)+1)=((i+1:Nat):Int):=by rw[qm (by omega) (by omega)];simp
   have hw2:IntKind.wrap .i64 ((xH (zT l) i:Int)+1)=((xH (zT l) i+1:Nat):Int):=by rw[qm (by omega) (by omega)];simp
   have hfill:=qmk (n:=l.length) (z:=.j 0) qoi (qr9 (A:=zT l) hlt);have hb4:i+1<=((rPl (zT l) l.length).take i++List.replicate (l.length-i) (AV.j 0)).length:=by grind[qoi]
   cases b with
   | false =>
    simp at hcn;simp +decide only[↓vS,vT,simprocAttr,hlt',hlt,t0,t1,hgb,hb4,hfill,zzU,hw1];refine ih (i+1) _ _ (by omega) ?_ (by grind[Tr.get_set]);rw[hcn];simp[qh,ql,Tr.get_set]
   | true =>
    simp at hcn;simp +decide only[↓vS,vT,simprocAttr,hlt',hlt,t0,t1,hgb,hb4,hfill,zzU,hw1,hw2];refine ih (i+1) _ _ (by omega) ?_ (by grind[Tr.get_set]);rw[hcn];simp[qh,ql,Tr.get_set]
  .obtain rfl:i=l.length:=by omega
   have hlt':¬((l.length:Int)<l.length):=by omega
   simp +decide only[↓vS,vT,simprocAttr,hlt'];refine qty hc1 hc3 c1 c2 c3 l hl hin hs ?_ t1 ?_
   all_goals grind[qoi,qh,ql,Tr.get_set]
 .simp[qh,ql,Tr.get_set,xH]
 .refine⟨Nat.zero_le _,_,_,rfl,by omega,?_,?_⟩<;>simp[Tr.get_set]
def qCp(P:Program)(g:Nat)(l m:List Sy):Prop:=qa P g [.fz l.length (rSy l)] (.fz m.length (rSy m))
def qgT(a:Nat):IFn:=⟨[.tmp 4,.tmp 5],sq [.r [.m 4 .N,.m 5 (.k 0)],sq [.r [.n 8 0,.l 9 a [.t 8],.q 10 (.un .not (.t 9))],.cond (.t 10) (sq [.r [.m 4 .N,.m 5 (.k 250)],.ret]) (.skip)],sq [.r [.n 11 1,.e 12 11,.m 13 (.k 0)],.blk 0 (.loop (sq [.r [.s 14 13 12],.cond (.t 14) (.skip) (.exit 0),.blk 1 (sq [.r [.i 15 1 11 13,.d 16 15,.n 7 16],.r [.n 17 7,.n 18 0,⟨(some 19),.callV (.t 17) [.t 18],none⟩,.n 0 19]]),.r [.a 20 13 1,.n 13 20]]))],.r [.n 21 0,.n 4 21,.m 5 (.k 0)],.ret]⟩
def qz6{gM a b c:Nat}(hc:qc P f (qgT gM)=true)(l0 l1 l2 l3:List Sy)(hm:qa P gM [.fz l0.length (rSy l0)] (.b true))(h1:qCp P a l0 l1)(h2:qCp P b l1 l2)(h3:qCp P c l2 l3) :
  qa P f [.fz l0.length (rSy l0),.fz 3 [.fn a [] [],.fn b [] [],.fn c [] []]] (.tup [.fz l3.length (rSy l3),.j 0]):=by
 refine qa.mk hc (by simp[qt,clo,qY]) ?_;simp only[qgT,vI,simprocAttr];simp +decide only[↓vS,vT,simprocAttr];refine hm.sc ?_;simp +decide only[↓vS,vT,simprocAttr]
 refine SL.loopP (α:=Nat) (λi=>[(0,match i with|0=>.fz l0.length (rSy l0)|1=>.fz l1.length (rSy l1)|2=>.fz l2.length (rSy l2)|_=>.fz l3.length (rSy l3)),(11,.fz 3 [.fn a [] [],.fn b [] [],.fn c [] []]),(12,.j 3),(13,.j (i:Int))])
  (λi h=>i<=3/\h.fl=0) (λi=>3-i) ?_ 0 ?_ ?_
 .rintro i ⟨s,fl,tr⟩ ⟨hi,rfl⟩ G ih;simp only[vI,simprocAttr];have hi4:i=0\/i=1\/i=2\/i=3:=by omega
  rcases hi4 with rfl|rfl|rfl|rfl
  .simp +decide only[↓vS,vT,simprocAttr];refine h1.sc ?_;simp +decide only[↓vS,vT,simprocAttr];exact ih 1 _ _ (by omega) (by simp[qh,ql,Tr.get_set];decide) ⟨by omega,rfl⟩
  .simp +decide only[↓vS,vT,simprocAttr];refine h2.sc ?_;simp +decide only[↓vS,vT,simprocAttr];exact ih 2 _ _ (by omega) (by simp[qh,ql,Tr.get_set];decide) ⟨by omega,rfl⟩
  .simp +decide only[↓vS,vT,simprocAttr];refine h3.sc ?_;simp +decide only[↓vS,vT,simprocAttr];exact ih 3 _ _ (by omega) (by simp[qh,ql,Tr.get_set];decide) ⟨by omega,rfl⟩
  .simp +decide only[↓vS,vT,simprocAttr];simp[vZ,qJ qY]
 all_goals simp_all[qh,ql,Tr.get_set]
def qeL(a b c:Nat):IFn:=⟨[.cell 0 3 true],sq [.r [.q 0 (.alloc [.nilf,.nilf,.nilf])],.r [.q 1 (.build [.nilf,.nilf,.nilf] [(0,1,(.c (.fn a [] []))),(1,1,(.c (.fn b [] []))),(2,1,(.c (.fn c [] [])))]),.u (.store 3 (.t 0) (.t 1))],.ret]⟩
def qpR{a b c:Nat}(hc:qc P f (qeL a b c)=true):qa P f [] (.agg [.fn a [] [],.fn b [] [],.fn c [] []]):=by
 refine qa.mk hc rfl ?_;simp only[qeL,vI,simprocAttr];simp +decide only[↓vS,vT,simprocAttr];simp[vZ,vP,Tr.get_set]
def qix(a b:Nat):IFn:=⟨[.tmp 2,.tmp 3],sq [.r [.m 2 .N,.m 3 (.k 0)],.r [.l 5 a [],.q 4 (.alloc [.nilf,.nilf,.nilf]),.u (.store 3 (.t 4) (.t 5))],.r [.n 6 0,.q 7 (.slcA 3 1 (.t 4) none none none),.l 8 b [.t 6,.t 7],.x 9 8 0,.x 10 8 1,.n 2 9,.n 3 10],.ret]⟩
def qwU{g1 g2 a b c:Nat}(hc:qc P f (qix g1 g2)=true)(h1:qa P g1 [] (.agg [.fn a [] [],.fn b [] [],.fn c [] []]))(l m:List Sy)(h2:qa P g2 [.fz l.length (rSy l),.fz 3 [.fn a [] [],.fn b [] [],.fn c [] []]] (.tup [.fz m.length (rSy m),.j 0])) :
  qa P f [.fz l.length (rSy l)] (.tup [.fz m.length (rSy m),.j 0]):=by
 refine qa.mk hc (by simp[qt,clo,qY]) ?_;simp only[qix,vI,simprocAttr];simp +decide only[↓vS,vT,simprocAttr];refine h1.sc ?_;simp +decide only[↓vS,vT,simprocAttr];refine h2.give [(0,.v [.fn a [] [],.fn b [] [],.fn c [] []])] ?_ (by simp[qt,clo,qY]) ?_ ?_
 .grind[Tr.get_set]
 .refine qa1.2 ⟨Frz.self (by simp[clo,qY]),qa1.2 ⟨Frz.cut 1 rfl (zzL _) ?_,qfG.2 trivial⟩⟩;simp[trP,Tr.get_set,vP,vZ]
 .simp +decide only[↓vS,vT,simprocAttr,qW,zp,qx];simp[vZ,vP,qJ qY]
def qgn(p:List Ins)(i:Nat):List Ins:=p.mapIdx λt x=>if t<i\/p.length-i<=t then p.getD (p.length-1-t) x else x
theorem qcI{p:List Ins}{i:Nat}:(qgn p i).length=p.length:=by simp[qgn]
theorem qjE{p:List Ins}{i t:Nat}:(qgn p i)[t]?=(p[t]?).map λx=>if t<i\/p.length-i<=t then p.getD (p.length-1-t) x else x:=by simp[qgn]
def qEJ{p:List Ins}:qgn p 0=p:=by
 apply List.ext_getElem?;grind[qjE]
def qxo{p:List Ins}{i:Nat}(h:p.length<=2*i+1):qgn p i=p.reverse:=by
 apply List.ext_getElem?;grind[qjE]
def qtZ{p:List Ins}{i:Nat}{x y:Ins}(h:2*i+1<p.length)(hx:(qgn p i)[i]?=some x)(hy:(qgn p i)[p.length-1-i]?=some y):((qgn p i).set i y).set (p.length-1-i) x=qgn p (i+1):=by
 rw[qjE,zzE (by omega)]at hx hy;simp only[Option.map_some,Option.some.injEq]at hx hy;rw[if_neg (by omega)]at hx hy;apply List.ext_getElem?;grind[qcI,qjE]
def qr7{T:List Ins}{j:Nat}{x:Ins}(h:T[j]?=some x):((rP T).drop (j*4)).take 4=qC x:=qG jC h
def qr8{l:List Ins}{j:Nat}(y:Ins)(hj:j<l.length):(rP l).take (j*4)++(qC y++(rP l).drop (j*4+4))=rP (l.set j y):=qmW jC y hj
def zO:IFn:=⟨[],sq [.r [.n 4 0,.e 5 4,.w 6 .sub 5 1,.m 2 (.k 0),.n 3 6],.blk 0 (.loop (sq [sq [.r [.n 7 2,.n 8 3,.s 9 7 8],.cond (.t 9) (.skip) (.exit 0)],.blk 1 (.reg true [.n 14 0,.n 15 2,.n 16 0,.n 17 3,.n 18 0,.n 19 3,.i 20 4 18 19,.v 21 4 20,.n 22 0,.n 23 2,.i 24 4 22 23,.v 25 4 24,.i 26 4 14 15,.u (.store 4 (.t 26) (.t 21)),.i 27 4 16 17,.u (.store 4 (.t 27) (.t 25))]),.r [.n 10 2,.a 11 10 1,.n 12 3,.w 13 .sub 12 1,.n 2 11,.n 3 13]]))]⟩
def qqY(hc:qc P f zO=true){s b:Nat}{tr:Tr Blk}(p:List Ins)(hp:p.length<=1000000){k:AV->Hp->Prop}(hb:tr.get b=some (.cells 4 true true (rP p)))(hk:∀tr',(∀c,c≠b->tr'.get c=tr.get c)->tr'.get b=some (.cells 4 true true (rP p.reverse))->k (.tup []) ⟨s,0,tr'⟩) :
  SC P f [.own b p.length] ⟨s,0,tr⟩ k:=by
 refine SC.mk hc (qk ?_);have e1:IntKind.wrap .i64 ((p.length:Int)-1)=(p.length:Int)-1:=by grind[qm]
 simp only[zO,vI,simprocAttr];simp +decide only[↓vS,vT,simprocAttr,e1]
 refine SL.loopP (α:=Nat) (λi=>[(0,.own b p.length),(2,.j (i:Int)),(3,.j ((p.length:Int)-1-i))])
  (λi h=>2*i<=p.length/\∃tr',h=⟨s,0,tr'⟩/\(∀c,c≠b->tr'.get c=tr.get c)/\tr'.get b=some (.cells 4 true true (rP (qgn p i)))) (λi=>p.length-i) ?_ 0 ?_ ?_
 .rintro i h1 ⟨hi,tr',rfl,hold,hrow⟩ G ih;simp only[vI,simprocAttr]
  by_cases hlt:2*i+1<p.length
  .have hlt':(i:Int)<(p.length:Int)-1-i:=by omega
   have ej:(p.length:Int)-1-i=((p.length-1-i:Nat):Int):=by omega
   obtain⟨x,hx⟩:∃x,(qgn p i)[i]?=some x:=⟨_,zzE (by rw[qcI];omega)⟩;obtain⟨y,hy⟩:∃x,(qgn p i)[p.length-1-i]?=some x:=⟨_,zzE (by rw[qcI];omega)⟩;have hst:=qtZ hlt hx hy;have elx:=qr7 hx;have ely:=qr7 hy;have lx:i*4+4<=(rP (qgn p i)).length:=by rw[qbS,qcI];omega
   have ly:(p.length-1-i)*4+4<=(rP (qgn p i)).length:=by rw[qbS,qcI];omega
   have lx2:i<p.length:=by omega
   have ly2:p.length-1-i<p.length:=by omega
   have s1:=qr8 (l:=qgn p i) (j:=i) y (by rw[qcI];omega);have s2:=qr8 (l:=(qgn p i).set i y) (j:=p.length-1-i) x (by rw[List.length_set,qcI];omega);rw[hst]at s2;have ly3:(p.length-1-i)*4+4<=(rP ((qgn p i).set i y)).length:=by rw[qbS,List.length_set,qcI];omega
   simp only[qC,zzC,zzN]at s1 s2 elx ely;have w1:IntKind.wrap .i64 ((i:Int)+1)=((i+1:Nat):Int):=by rw[qm (by omega) (by omega)];simp
   have w2:IntKind.wrap .i64 (((p.length-1-i:Nat):Int)-1)=(p.length:Int)-1-((i+1:Nat):Int):=by rw[qm (by omega) (by omega)];omega
   rw[ej]at hlt' ⊢;simp +decide only[↓vS,vT,simprocAttr,hlt'];refine zg ?_;simp +decide only[↓vS,vT,simprocAttr,lx2,ly2,hrow,elx,ely,lx,ly,s1,ly3,s2,w1,w2];refine ih (i+1) _ _ (by omega) (by simp[qh,ql,Tr.get_set]) ⟨by omega,_,rfl,λc hc=>?_,by rw[Tr.get_set,if_pos rfl]⟩
   rw[Tr.get_set,if_neg hc,Tr.get_set,if_neg hc];exact hold c hc
  .have hlt':¬(i:Int)<(p.length:Int)-1-i:=by omega
   simp +decide only[↓vS,vT,simprocAttr,hlt'];rw[qxo (by omega)]at hrow;exact hk _ hold hrow
 all_goals simp_all[qh,ql,Tr.get_set,qEJ]
end Go.Kc
end
