/- Part 9 of the abstract machine and of the functions' walks. Conditions: with each theorem. -/
import Derived.Test.YtpgbjeabmkbmbaaGK8
set_option maxHeartbeats 4000000
set_option linter.unusedSectionVars false
set_option linter.unusedSimpArgs false
set_option linter.unusedVariables false
set_option linter.unnecessarySimpa false
section
namespace Go.Kc
variable {P:Program} {f:Nat}
def qt3(P:Program)(g:Nat)(l m:List Sy):Prop:=qg P g [.fz l.length (rSy l)] (.fz m.length (rSy m))
def qd8(a:Nat):IFn:=⟨[.tmp 4,.tmp 5],.seq (.r [.m 4 .N,.m 5 (.k 0)]) (.seq (.seq (.r [.n 8 0,.l 9 a [.t 8],.q 10 (.un .not (.t 9))]) (.cond (.t 10) (.seq (.r [.m 4 .N,.m 5 (.k 250)]) (.ret)) (.skip))) (.seq (.seq (.r [.n 11 1,.e 12 11,.m 13 (.k 0)]) (.blk 0 (.loop (.seq (.r [.s 14 13 12]) (.seq (.cond (.t 14) (.skip) (.exit 0)) (.seq (.blk 1 (.seq (.r [.i 15 1 11 13,.d 16 15,.n 7 16]) (.r [.n 17 7,.n 18 0,⟨(some 19),.callV (.t 17) [.t 18],none⟩,.n 0 19]))) (.r [.a 20 13 1,.n 13 20]))))))) (.seq (.r [.n 21 0,.n 4 21,.m 5 (.k 0)]) (.ret))))⟩
theorem qsk{gM a b c:Nat}(hc:qd P f (qd8 gM)=true)(l0 l1 l2 l3:List Sy)(hm:qg P gM [.fz l0.length (rSy l0)] (.b true))(h1:qt3 P a l0 l1)(h2:qt3 P b l1 l2)(h3:qt3 P c l2 l3) :
  qg P f [.fz l0.length (rSy l0),.fz 3 [.fn a [] [],.fn b [] [],.fn c [] []]] (.tup [.fz l3.length (rSy l3),.i .i64 0]):=by
 refine qg.mk hc (by simp[qF,clo,qK]) ?_;simp only[qd8,vI,simprocAttr];simp +decide only[↓vS,vT,simprocAttr];refine hm.sc ?_;simp +decide only[↓vS,vT,simprocAttr]
 refine SL.loopP (α:=Nat) (fun i=>[(0,match i with|0=>.fz l0.length (rSy l0)|1=>.fz l1.length (rSy l1)|2=>.fz l2.length (rSy l2)|_=>.fz l3.length (rSy l3)),(11,.fz 3 [.fn a [] [],.fn b [] [],.fn c [] []]),(12,.i .i64 3),(13,.i .i64 (i:Int))])
  (fun i h=>i<=3∧h.fl=0) (fun i=>3-i) ?_ 0 ?_ ?_
 ·rintro i ⟨s,fl,tr⟩ ⟨hi,rfl⟩ G ih;simp only[vI,simprocAttr];have hi4:i=0∨i=1∨i=2∨i=3:=by omega
  rcases hi4 with rfl|rfl|rfl|rfl
  ·simp +decide only[↓vS,vT,simprocAttr];refine h1.sc ?_;simp +decide only[↓vS,vT,simprocAttr];exact ih 1 _ _ (by omega) (by simp[ql,qr,Tr.get_set];decide) ⟨by omega,rfl⟩
  ·simp +decide only[↓vS,vT,simprocAttr];refine h2.sc ?_;simp +decide only[↓vS,vT,simprocAttr];exact ih 2 _ _ (by omega) (by simp[ql,qr,Tr.get_set];decide) ⟨by omega,rfl⟩
  ·simp +decide only[↓vS,vT,simprocAttr];refine h3.sc ?_;simp +decide only[↓vS,vT,simprocAttr];exact ih 3 _ _ (by omega) (by simp[ql,qr,Tr.get_set];decide) ⟨by omega,rfl⟩
  ·simp +decide only[↓vS,vT,simprocAttr];simp[vZ,zn qK]
 ·simp[ql,qr,Tr.get_set]
 ·exact⟨Nat.zero_le _,rfl⟩
def qcQ(a b c:Nat):IFn:=⟨[.cell 0 3 true],.seq (.r [.q 0 (.alloc [.nilf,.nilf,.nilf])]) (.seq (.r [.q 1 (.build [.nilf,.nilf,.nilf] [(0,1,(.c (.fn a [] []))),(1,1,(.c (.fn b [] []))),(2,1,(.c (.fn c [] [])))]),.u (.store 3 (.t 0) (.t 1))]) (.ret))⟩
theorem qkm{a b c:Nat}(hc:qd P f (qcQ a b c)=true):qg P f [] (.agg [.fn a [] [],.fn b [] [],.fn c [] []]):=by
 refine qg.mk hc rfl ?_;simp only[qcQ,vI,simprocAttr];simp +decide only[↓vS,vT,simprocAttr];simp[vZ,vP,Tr.get_set]
def qe1(a b:Nat):IFn:=⟨[.tmp 2,.tmp 3],.seq (.r [.m 2 .N,.m 3 (.k 0)]) (.seq (.r [.l 5 a [],.q 4 (.alloc [.nilf,.nilf,.nilf]),.u (.store 3 (.t 4) (.t 5))]) (.seq (.r [.n 6 0,.q 7 (.slcA 3 1 (.t 4) none none none),.l 8 b [.t 6,.t 7],.x 9 8 0,.x 10 8 1,.n 2 9,.n 3 10]) (.ret)))⟩
theorem qpR{g1 g2 a b c:Nat}(hc:qd P f (qe1 g1 g2)=true)(h1:qg P g1 [] (.agg [.fn a [] [],.fn b [] [],.fn c [] []]))(l m:List Sy)(h2:qg P g2 [.fz l.length (rSy l),.fz 3 [.fn a [] [],.fn b [] [],.fn c [] []]] (.tup [.fz m.length (rSy m),.i .i64 0])) :
  qg P f [.fz l.length (rSy l)] (.tup [.fz m.length (rSy m),.i .i64 0]):=by
 refine qg.mk hc (by simp[qF,clo,qK]) ?_;simp only[qe1,vI,simprocAttr];simp +decide only[↓vS,vT,simprocAttr];refine h1.sc ?_;simp +decide only[↓vS,vT,simprocAttr];refine h2.give [(0,.cells 0 true false [.fn a [] [],.fn b [] [],.fn c [] []])] ?_ (by simp[qF,clo,qK]) ?_ ?_
 ·intro p hp;rw[List.mem_singleton] at hp;subst hp;exact⟨by simp[Tr.get_set],Nat.zero_le _⟩
 ·refine qco.2 ⟨Frz.self (by simp[clo,qK]),qco.2 ⟨Frz.cut 1 rfl (Nat.le_refl _) ?_,qeq.2 trivial⟩⟩;simp[trP,Tr.get_set,vP,vZ]
 ·simp +decide only[↓vS,vT,simprocAttr,qig,qj9,qar];simp[vZ,vP,zn qK]
def qdS(p:List Ins)(i:Nat):List Ins:=p.mapIdx fun t x=>if t<i∨p.length-i<=t then p.getD (p.length-1-t) x else x
theorem qap{p:List Ins}{i:Nat}:(qdS p i).length=p.length:=by simp[qdS]
theorem qef{p:List Ins}{i t:Nat}:(qdS p i)[t]?=(p[t]?).map fun x=>if t<i∨p.length-i<=t then p.getD (p.length-1-t) x else x:=by simp[qdS]
theorem qvT{p:List Ins}:qdS p 0=p:=by
 apply List.ext_getElem?;intro t;rw[qef];cases h:p[t]? with
 | none=>rfl
 | some x =>
  have:=(zzS.1 h).1;simp;intro h2;omega
theorem qp1{p:List Ins}{i:Nat}(h:p.length<=2*i+1):qdS p i=p.reverse:=by
 apply List.ext_getElem?;intro t;rw[qef]
 by_cases ht:t<p.length
 ·rw[List.getElem?_reverse ht,zzE ht,zzE (by omega)];simp only[Option.map_some,Option.some.injEq]
  by_cases h1:t<i∨p.length-i<=t
  ·rw[if_pos h1,List.getD_eq_getElem?_getD,zzE (by omega)];rfl
  ·rw[if_neg h1];have:p.length-1-t=t:=by omega
   simp only[this]
 ·rw[List.getElem?_eq_none (by omega),List.getElem?_eq_none (by simp;omega)];rfl
theorem qnv{p:List Ins}{i:Nat}{x y:Ins}(h:2*i+1<p.length)(hx:(qdS p i)[i]?=some x)(hy:(qdS p i)[p.length-1-i]?=some y):((qdS p i).set i y).set (p.length-1-i) x=qdS p (i+1):=by
 rw[qef,zzE (by omega)] at hx hy;simp only[Option.map_some,Option.some.injEq] at hx hy;rw[if_neg (by omega)] at hx hy;apply List.ext_getElem?;intro t
 by_cases ht:t<p.length
 ·rw[List.getElem?_set,List.length_set,qap,List.getElem?_set,qap,qef,qef,zzE ht];simp only[Option.map_some]
  by_cases e1:p.length-1-i=t
  ·subst e1;rw[if_pos rfl,if_pos ht,if_pos (by omega),List.getD_eq_getElem?_getD,← hx];have:p.length-1-(p.length-1-i)=i:=by omega
   rw[this,zzE (by omega)];rfl
  ·rw[if_neg e1]
   by_cases e2:i=t
   ·subst e2;rw[if_pos rfl,if_pos ht,if_pos (by omega),List.getD_eq_getElem?_getD,zzE (by omega),← hy];rfl
   ·rw[if_neg e2]
    congr 1
    by_cases h3:t<i∨p.length-i<=t
    ·rw[if_pos h3,if_pos (by omega)]
    ·rw[if_neg h3,if_neg (by omega)]
 ·rw[List.getElem?_eq_none (by simp[qap];omega),List.getElem?_eq_none (by rw[qap];omega)]
theorem qlY{T:List Ins}{j:Nat}{x:Ins}(h:T[j]?=some x):((rP T).drop (j*4)).take 4=zl x:=qaW zP h
theorem qlZ{l:List Ins}{j:Nat}(y:Ins)(hj:j<l.length):(rP l).take (j*4)++(zl y++(rP l).drop (j*4+4))=rP (l.set j y):=qia zP y hj
def zj:IFn:=⟨[],.seq (.r [.n 4 0,.e 5 4,.w 6 .sub 5 1,.m 2 (.k 0),.n 3 6]) (.blk 0 (.loop (.seq (.seq (.r [.n 7 2,.n 8 3,.s 9 7 8]) (.cond (.t 9) (.skip) (.exit 0))) (.seq (.blk 1 (.reg true [.n 14 0,.n 15 2,.n 16 0,.n 17 3,.n 18 0,.n 19 3,.i 20 4 18 19,.v 21 4 20,.n 22 0,.n 23 2,.i 24 4 22 23,.v 25 4 24,.i 26 4 14 15,.u (.store 4 (.t 26) (.t 21)),.i 27 4 16 17,.u (.store 4 (.t 27) (.t 25))])) (.r [.n 10 2,.a 11 10 1,.n 12 3,.w 13 .sub 12 1,.n 2 11,.n 3 13])))))⟩
theorem qlg(hc:qd P f zj=true){s b:Nat}{tr:Tr Blk}(p:List Ins)(hp:p.length<=1000000){k:AV->Hp->Prop}(hb:tr.get b=some (.cells 4 true true (rP p)))(hk:∀tr',(∀c,c≠b->tr'.get c=tr.get c)->tr'.get b=some (.cells 4 true true (rP p.reverse))->k (.tup []) ⟨s,0,tr'⟩) :
  SC P f [.own b p.length] ⟨s,0,tr⟩ k:=by
 refine SC.mk hc (qp ?_);have e1:IntKind.wrap .i64 ((p.length:Int)-1)=(p.length:Int)-1:=qv (by omega) (by omega);simp only[zj,vI,simprocAttr];simp +decide only[↓vS,vT,simprocAttr,e1]
 refine SL.loopP (α:=Nat) (fun i=>[(0,.own b p.length),(2,.i .i64 (i:Int)),(3,.i .i64 ((p.length:Int)-1-i))])
  (fun i h=>2*i<=p.length∧∃tr',h=⟨s,0,tr'⟩∧(∀c,c≠b->tr'.get c=tr.get c)∧tr'.get b=some (.cells 4 true true (rP (qdS p i)))) (fun i=>p.length-i) ?_ 0 ?_ ?_
 ·rintro i h1 ⟨hi,tr',rfl,hold,hrow⟩ G ih;simp only[vI,simprocAttr]
  by_cases hlt:2*i+1<p.length
  ·have hlt':(i:Int)<(p.length:Int)-1-i:=by omega
   have ej:(p.length:Int)-1-i=((p.length-1-i:Nat):Int):=by omega
   obtain⟨x,hx⟩:∃x,(qdS p i)[i]?=some x:=⟨_,zzE (by rw[qap];omega)⟩;obtain⟨y,hy⟩:∃x,(qdS p i)[p.length-1-i]?=some x:=⟨_,zzE (by rw[qap];omega)⟩;have hst:=qnv hlt hx hy;have elx:=qlY hx;have ely:=qlY hy;have lx:i*4+4<=(rP (qdS p i)).length:=by rw[qed,qap];omega
   have ly:(p.length-1-i)*4+4<=(rP (qdS p i)).length:=by rw[qed,qap];omega
   have lx2:i<p.length:=by omega
   have ly2:p.length-1-i<p.length:=by omega
   have s1:=qlZ (l:=qdS p i) (j:=i) y (by rw[qap];omega);have s2:=qlZ (l:=(qdS p i).set i y) (j:=p.length-1-i) x (by rw[List.length_set,qap];omega);rw[hst] at s2;have ly3:(p.length-1-i)*4+4<=(rP ((qdS p i).set i y)).length:=by rw[qed,List.length_set,qap];omega
   simp only[zl,List.cons_append,List.nil_append] at s1 s2 elx ely;have w1:IntKind.wrap .i64 ((i:Int)+1)=((i+1:Nat):Int):=by rw[qv (by omega) (by omega)];simp
   have w2:IntKind.wrap .i64 (((p.length-1-i:Nat):Int)-1)=(p.length:Int)-1-((i+1:Nat):Int):=by rw[qv (by omega) (by omega)];omega
   rw[ej] at hlt' ⊢;simp +decide only[↓vS,vT,simprocAttr,hlt'];refine qaB ?_;simp +decide only[↓vS,vT,simprocAttr,lx2,ly2,hrow,elx,ely,lx,ly,s1,ly3,s2,w1,w2];refine ih (i+1) _ _ (by omega) (by simp[ql,qr,Tr.get_set]) ⟨by omega,_,rfl,fun c hc=>?_,by rw[Tr.get_set,if_pos rfl]⟩
   rw[Tr.get_set,if_neg hc,Tr.get_set,if_neg hc];exact hold c hc
  ·have hlt':¬(i:Int)<(p.length:Int)-1-i:=by omega
   simp +decide only[↓vS,vT,simprocAttr,hlt'];rw[qp1 (by omega)] at hrow;exact hk _ hold hrow
 ·simp[ql,qr,Tr.get_set]
 ·exact⟨by omega,tr,rfl,fun _ _=>rfl,by rw[qvT];exact hb⟩
structure LI (kb n:Nat) (back:List Ins) (pl:List Nat) (s:Nat) (tr:Tr Blk) (bb bp:Nat) (far:Int):Prop where
 k:tr.get kb=some (.cells 0 true false [.own bb back.length,.sl bp 0 n n false,.i .i64 far])
 b:tr.get bb=some (.cells 4 true true (rP back))
 p:tr.get bp=some (.cells 0 true false (rNt pl))
 len:pl.length=n
 kb':kb≠bb
 kp:kb≠bp
 bp':bb≠bp
 ks:kb<s
 bs:bb<s
 ps:bp<s
theorem LI.keep{kb n bb bp s s':Nat}{back:List Ins}{pl:List Nat}{tr tr':Tr Blk}{far:Int}(h:LI kb n back pl s tr bb bp far)(hs:s<=s')(e:∀c,c=kb∨c=bb∨c=bp->tr'.get c=tr.get c):LI kb n back pl s' tr' bb bp far :=
 ⟨(e kb (.inl rfl)).trans h.k,(e bb (.inr (.inl rfl))).trans h.b,(e bp (.inr (.inr rfl))).trans h.p,h.len,h.kb',h.kp,h.bp',Nat.lt_of_lt_of_le h.ks hs,Nat.lt_of_lt_of_le h.bs hs,Nat.lt_of_lt_of_le h.ps hs⟩
def zL:IFn:=⟨[.tmp 4],.seq (.r [.m 4 (.k 0)]) (.seq (.reg true [.n 5 0,.q 6 (.nilChk (.t 5)),.f 7 0 6,.d 8 7,.e 9 8,.n 10 0,.q 11 (.nilChk (.t 10)),.f 12 1 11,.d 13 12,.n 14 1,.i 15 1 13 14,.d 16 15,.b 17 .sub 9 16,.n 4 17]) (.ret))⟩
theorem qiJ(hc:qd P f zL=true){kb n s fl bb bp:Nat}{back:List Ins}{pl:List Nat}{tr:Tr Blk}{far:Int}{k:AV->Hp->Prop}(h:LI kb n back pl s tr bb bp far){j q:Nat}(hj:pl[j]?=some q)(hq:q<=back.length)(hb:back.length<=1000000)
  (hk:k (.i .i64 ((back.length-q:Nat):Int)) ⟨s,fl,tr⟩):SC P f [.ptr kb 0,.i .i64 (j:Int)] ⟨s,fl,tr⟩ k:=by
 refine SC.mk hc (qp ?_);have hjl:j<n:=by rw[← h.len];exact (zzS.1 hj).1
 have hg:(rNt pl)[j]?=some (.i .i64 (q:Int)):=by rw[qi1,hj];rfl
 have e:IntKind.wrap .i64 ((back.length:Int)-q)=((back.length-q:Nat):Int):=by rw[qv (by omega) (by omega)];omega
 simp only[zL,vI,simprocAttr];simp +decide only[↓vS,vT,simprocAttr];refine qaB ?_;simp +decide only[↓vS,vT,simprocAttr,h.k,h.p,hjl,hg,Nat.mul_one,e];exact hk
def zQ(a:Nat):IFn:=⟨[.tmp 2],.seq (.r [.q 1 (.box (.t 0)),.m 2 (.c (.nilf))]) (.seq (.r [.q 3 (.mkF a [] [.t 1]),.n 2 3]) (.ret))⟩
theorem qxr{g:Nat}(hc:qd P f (zQ g)=true)(l:List Ins):qg P f [.fz l.length (rP l)] (.fn g [] [.pf [.fz l.length (rP l)] 0]):=by
 refine qg.mk hc (by simp[qF,clo,qm]) ?_;simp only[zQ,vI,simprocAttr];simp +decide only[↓vS,vT,simprocAttr];simp[vZ,vP,Tr.get_set,zn (qm l)]
def xL(a:Nat):IFn:=⟨[],.seq (.r [.q 2 (.box (.t 0))]) (.seq (.r [.n 6 1,.l 7 a [.t 6]]) (.blk 0 (.rangeF 0 (.t 7) [8,9] (.r [.q 5 (.alloc [.i .u16 0,.i .u8 0,.i .u8 0,.i .u32 0]),.u (.store 4 (.t 5) (.t 9))]) (.blk 1 (.reg true [.d 10 2,.d 11 2,.q 12 (.nilChk (.t 11)),.f 13 0 12,.d 14 13,.v 15 4 5,.q 16 (.buildS 1 [.i .u16 0,.i .u8 0,.i .u8 0,.i .u32 0] [(0,4,(.t 15))]),.q 17 (.appD 4 8 (.t 14) (.t 16) [2]),.q 18 (.nilChk (.t 10)),.f 19 0 18,.u (.store 1 (.t 19) (.t 17))])))))⟩
def puT(s gi:Nat)(l:List Ins):List (Nat×AV):=[(2,.ptr s 0),(7,.fn gi [] [.pf [.fz l.length (rP l)] 0])]
def puA:ICode:=.reg false [⟨some 5,.op (.alloc [.i .u16 0,.i .u8 0,.i .u8 0,.i .u32 0]),none⟩,⟨none,.op (.store 4 (.t 5) (.t 9)),none⟩]
def puB:ICode:=.blk 1 (.reg true [.d 10 2,.d 11 2,.q 12 (.nilChk (.t 11)),.f 13 0 12,.d 14 13,.v 15 4 5,.q 16 (.buildS 1 [.i .u16 0,.i .u8 0,.i .u8 0,.i .u32 0] [(0,4,(.t 15))]),.q 17 (.appD 4 8 (.t 14) (.t 16) [2]),.q 18 (.nilChk (.t 10)),.f 19 0 18,.u (.store 1 (.t 19) (.t 17))])
theorem qpV{kb n s0 s gi bb bp lb:Nat}{back l:List Ins}{pl:List Nat}{r0:Loop}{tr:Tr Blk}{far:Int}{k:AV->Hp->Prop}(hr0:r0.state = .ready)(hp0:r0.pending=none)(hlo:LoopOk P r0 [8,9] puA puB)
  (h:LI kb n back pl s tr bb bp far) (g0:tr.get s0=some (.cells 0 true false [.ptr kb 0])) (gl:tr.get lb=some (.map (zD r0 (puT s0 gi l)))) (hlb:lb<s) (hs0:s0<s) (hn:kb≠lb∧bb≠lb∧bp≠lb∧s0≠lb∧s0≠kb∧s0≠bb) (i:Int) (x:Ins) (hb:back.length<=1000000)
  (hk:∀s' tr' bb',s<=s'->(∀c,c<s->c≠kb->c≠bb->tr'.get c=tr.get c)->s<=bb'->LI kb n (back++[x]) pl s' tr' bb' bp far->k (.b true) ⟨s',0,tr'⟩):SY P lb [.i .i64 i,.agg (zl x)] ⟨s,0,tr⟩ k:=by
 obtain⟨e1,e2,e3,e4,e5,e6⟩:=hn;have hks:=h.ks;have hbs:=h.bs;have hps:=h.ps;have hkb:=h.kb';have hkp:=h.kp;have hbp:=h.bp';refine SY.mk (r:=r0) (ts:=puT s0 gi l) (ps:=[8,9]) gl hr0 hlo (Nat.zero_le _) hlb rfl ?_;rw[show mkT (puT s0 gi l)=(Tr.leaf.set 7 (.fn gi [] [.pf [.fz l.length (rP l)] 0])).set 2 (.ptr s0 0) from rfl]
 refine qp ?_;simp only[qkn,puA,zl,vI,simprocAttr];simp +decide only[↓vS,vT,simprocAttr];have n1:¬lb=s:=by omega
 have n2:¬s0=s:=by omega
 have n3:¬kb=s:=by omega
 have n4:¬bb=s:=by omega
 have n5:¬s=lb:=by omega
 have n6:¬s=s+1:=by omega
 have n7:¬s0=s+1:=by omega
 have n8:¬kb=s+1:=by omega
 have n9:¬bb=s+1:=by omega
 have n10:¬s+1=bb:=by omega
 have n11:¬kb=s+1+1:=by omega
 have n12:¬s0=bb:=e6;have n13:¬s=bb:=by omega
 have n14:¬s0=s+1+1:=by omega
 have r1:back.length+1<=qe:=by simp only[qe];omega
 have r2:(back.length+1)*8<=qe:=by simp only[qe];omega
 refine⟨puT s0 gi l,by simp[Tr.get_set,n1,gl],?_⟩
 refine qp ?_;simp only[qar,puB,vI,simprocAttr];simp +decide only[↓vS,vT,simprocAttr];refine qaB ?_;simp +decide only[↓vS,vT,simprocAttr,g0,h.k,h.b,e1,e2,e4,n1,n2,n3,n4,n5,n6,n7,n8,n9,n10,n11,n12,n13,n14,hkb,r1,r2,qed,hbs,e5,e6];refine⟨Go.Kc.bsy r0,puT s0 gi l,?_,?_⟩
 ·simp only[Tr.get_set];rw[if_neg (by omega),if_neg (by omega),if_neg (by omega),if_neg (by omega)];simp
 rw[qi4,qla hr0 hp0];simp only[qar];simp +decide only[↓vS,vT,simprocAttr];refine hk _ _ (s+1+1) (by omega) (fun c q1 q2 q3=>?_) (by omega) ⟨?_,?_,?_,h.len,by omega,hkp,by omega,by omega,by omega,by omega⟩
 ·by_cases hcl:c=lb
  ·subst hcl;rw[Tr.get_set,if_pos rfl,gl]
  ·simp only[Tr.get_set];repeat rw[if_neg (by omega)]
 ·simp only[Tr.get_set];rw[if_neg e1];simp
 ·simp only[Tr.get_set];rw[if_neg (by omega),if_neg (by omega)];simp[rP,zl]
 ·simp only[Tr.get_set];repeat rw[if_neg (by omega)]
  exact h.p
theorem qlI{gB gi kb n s bb bp bx:Nat}{back l:List Ins}{pl:List Nat}{tr:Tr Blk}{far:Int}{k:AV->Hp->Prop}(hc:qd P f (xL gB)=true)(hB:∀l:List Ins,qg P gB [.fz l.length (rP l)] (.fn gi [] [.pf [.fz l.length (rP l)] 0]))(hi:qd P gi qz=true)
  (h:LI kb n back pl s tr bb bp far) (hx:tr.get bx=some (.cells 0 true false (rP l))) (hn:bx≠kb∧bx≠bb∧bx≠bp) (hxs:bx<s) (hl:l.length<=10) (hb:back.length<=900000)
  (hk:∀s' tr' bb',s<=s'->(∀c,c<s->c≠kb->c≠bb->c≠bx->tr'.get c=tr.get c)->(bb'=bb∨s<=bb')->LI kb n (back++l.reverse) pl s' tr' bb' bp far->k (.tup []) ⟨s',0,tr'⟩):SC P f [.ptr kb 0,.sl bx 0 l.length l.length false] ⟨s,0,tr⟩ k:=by
 obtain⟨x1,x2,x3⟩:=hn;have hks:=h.ks;have hbs:=h.bs;have hps:=h.ps;refine SC.mk hc (qp ?_);simp only[xL,vI,simprocAttr];simp +decide only[↓vS,vT,simprocAttr];refine (hB l).give [(bx,.cells 0 true false (rP l))] ?_ (by simp[clo,qF,qm]) ?_ ?_
 ·intro p hp;rw[List.mem_singleton] at hp;subst hp;refine⟨?_,Nat.zero_le _⟩;rw[Tr.get_set,if_neg (by show ¬bx=s;omega)];exact hx
 ·refine qco.2 ⟨Frz.cut 4 rfl (Nat.le_refl _) ?_,qeq.2 trivial⟩;simp[trP,Tr.get_set,vP,qed];rw[List.take_of_length_le (by rw[qed];omega)];exact Frzs.self (qm l)
 simp only[qig,qj9,qar];simp +decide only[↓vS,vT,simprocAttr];refine S.rangeFL (ts:=puT s gi l) (Nat.zero_le _) (by intro p hp;simp only[puT,List.mem_cons,List.not_mem_nil,or_false] at hp;rcases hp with rfl|rfl<;>simp[Tr.get_set]) ⟨rfl,rfl⟩ ?_;refine qlz.2 ⟨.fn gi [] [.pf [.fz l.length (rP l)] 0],by simp[Tr.get_set],?_⟩
 refine⟨qhd hi,fun r0 hr0 hp0 hlo=>⟨r0,.inl ⟨rfl,hlo.real⟩,?_⟩⟩
 have hlo:LoopOk P r0 [8,9] puA puB:=hlo
 have old:∀c,c<s->c≠bx->((((tr.set s (.cells 0 true false [.ptr kb 0])).set bx .dead).set (s+1) (.map (zD r0 (puT s gi l))))).get c=tr.get c:=fun c h1 h2=>by
  simp only[Tr.get_set];repeat rw[if_neg (by omega)]
 refine qaa (c:=zl) hi zP (by omega) (fun i h=>i<=l.length∧∃s' tr' bb',h=⟨s',0,tr'⟩∧s+2<=s'∧(∀c,c<s->c≠kb->c≠bb->c≠bx->tr'.get c=tr.get c)∧(bb'=bb∨s+2<=bb')∧LI kb n (back++(l.drop i).reverse) pl s' tr' bb' bp far∧tr'.get s=some (.cells 0 true false [.ptr kb 0])∧tr'.get (s+1)=some (.map (zD r0 (puT s gi l)))) ?_ ?_ ?_
 ·rintro i x hh hx ⟨hil,s',tr',bb',rfl,q1,q2,q3,q4,q5,q6⟩ k hk;have hd:l.drop i=x::l.drop (i+1):=by rw[← (zzS.1 hx).2,List.getElem_cons_drop]
  refine qpV (s0:=s) (lb:=s+1) hr0 hp0 hlo q4 q5 q6 (by omega) (by omega) ⟨by omega,by omega,by omega,by omega,by omega,by omega⟩ _ x (by simp;omega) fun s2 t2 b2 p1 p2 p3 p4=>hk _ ⟨by omega,s2,t2,b2,rfl,by omega,fun c c1 c2 c3 c4=>?_,by omega,?_,?_,?_⟩
  ·rw[p2 c (by omega) c2 (by omega)];exact q2 c c1 c2 c3 c4
  ·rw[hd,List.reverse_cons,← List.append_assoc];exact p4
  ·rw[p2 s (by omega) (by omega) (by omega)];exact q5
  ·rw[p2 (s+1) (by omega) (by omega) (by omega)];exact q6
 ·refine⟨Nat.le_refl _,s+1+1,_,bb,rfl,by omega,fun c c1 c2 c3 c4=>old c c1 c4,.inl rfl,?_,?_,?_⟩
  ·rw[List.drop_length];simp only[List.reverse_nil,List.append_nil];refine h.keep (by omega) fun c hc=>old c ?_ ?_
   ·rcases hc with rfl|rfl|rfl<;>omega
   ·rcases hc with rfl|rfl|rfl<;>omega
  ·show ((((tr.set s (.cells 0 true false [.ptr kb 0])).set bx .dead).set (s+1) (.map (zD r0 (puT s gi l))))).get s=_;simp only[Tr.get_set];rw[if_neg (by omega),if_neg (by omega)];simp
  ·show ((((tr.set s (.cells 0 true false [.ptr kb 0])).set bx .dead).set (s+1) (.map (zD r0 (puT s gi l))))).get (s+1)=_;rw[Tr.get_set,if_pos rfl]
 ·rintro hh ⟨_,s',tr',bb',rfl,q1,q2,q3,q4,q5,q6⟩;refine⟨r0,puT s gi l,q6,by rw[hr0];decide,?_⟩
  rw[hp0];simp only[qar];simp only[↓vS,vT,simprocAttr];refine hk _ _ bb' (by omega) (fun c c1 c2 c3 c4=>?_) (by omega) ?_
  ·rw[Tr.get_set,if_neg (by show ¬c=s+1;omega)];exact q2 c c1 c2 c3 c4
  ·have hq:=q4;rw[List.drop_zero] at hq;refine hq.keep (Nat.le_refl _) fun c hc=>?_
   have:c≠s+1:=by rcases hc with rfl|rfl|rfl<;>omega
   rw[Tr.get_set,if_neg this]
def xQ(n:Nat)(pl:List Nat)(x:Sy):List Ins :=
 if x.code=5 then [⟨5,0,0,(n-pl.getD x.th 0:Nat)⟩] else if qh x.code≠4 then [⟨x.code,0,0,x.k⟩] else
  if max (n-pl.getD x.th 0) (n-pl.getD x.el 0)<=255 then [⟨x.code,(n-pl.getD x.th 0:Nat),(n-pl.getD x.el 0:Nat),x.k⟩] else
   [⟨x.code,0,1,x.k⟩,⟨5,0,0,(n-pl.getD x.th 0+1:Nat)⟩,⟨5,0,0,(n-pl.getD x.el 0:Nat)⟩]
theorem qkc{n:Nat}{pl:List Nat}{x:Sy}:(xQ n pl x).length<=3∧1<=(xQ n pl x).length:=by
 unfold xQ;repeat' split
 all_goals simp
def qaP(a b c:Nat):IFn:=⟨[],.seq (.r [.q 3 (.box (.t 1))]) (.blk 0 (.seq (.r [.f 53 0 3,.d 54 53,.q 55 (.bin .eql (.t 54) (.c (.i .u16 5))),.n 52 55]) (.cond (.t 52) (.r [.n 56 0,.n 57 0,.f 58 2 3,.d 59 58,.l 60 a [.t 57,.t 59],.q 61 (.cvInt .u32 (.t 60)),.q 62 (.build [.i .u16 0,.i .u8 0,.i .u8 0,.i .u32 0] [(0,1,(.c (.i .u16 5))),(3,1,(.t 61))]),.q 63 (.buildS 1 [.i .u16 0,.i .u8 0,.i .u8 0,.i .u32 0] [(0,4,(.t 62))]),.l 64 b [.t 56,.t 63]]) (.seq (.r [.f 66 0 3,.d 67 66,.l 68 c [.t 67],.q 69 (.bin .neq (.t 68) (.c (.i .u8 4))),.n 65 69]) (.cond (.t 65) (.r [.n 70 0,.f 71 0 3,.d 72 71,.f 73 1 3,.d 74 73,.q 75 (.build [.i .u16 0,.i .u8 0,.i .u8 0,.i .u32 0] [(0,1,(.t 72)),(3,1,(.t 74))]),.q 76 (.buildS 1 [.i .u16 0,.i .u8 0,.i .u8 0,.i .u32 0] [(0,4,(.t 75))]),.l 77 b [.t 70,.t 76]]) (.seq (.reg true [.n 6 0,.f 7 2 3,.d 8 7,.l 9 a [.t 6,.t 8],.n 10 0,.f 11 3 3,.d 12 11,.l 13 a [.t 10,.t 12],.n 4 9,.n 5 13]) (.seq (.seq (.r [.n 14 4,.n 15 5,.q 16 (.max (.t 14) (.t 15)),.w 17 .leq 16 255]) (.cond (.t 17) (.seq (.r [.n 18 0,.f 19 0 3,.d 20 19,.n 21 4,.q 22 (.cvInt .u8 (.t 21)),.n 23 5,.q 24 (.cvInt .u8 (.t 23)),.f 25 1 3,.d 26 25,.q 27 (.build [.i .u16 0,.i .u8 0,.i .u8 0,.i .u32 0] [(0,1,(.t 20)),(1,1,(.t 22)),(2,1,(.t 24)),(3,1,(.t 26))]),.q 28 (.buildS 1 [.i .u16 0,.i .u8 0,.i .u8 0,.i .u32 0] [(0,4,(.t 27))]),.l 29 b [.t 18,.t 28]]) (.ret)) (.skip))) (.seq (.r [.n 30 0,.q 31 (.nilChk (.t 30)),.f 32 2 31,.d 33 32,.a 34 33 1,.q 35 (.nilChk (.t 30)),.f 36 2 35,.u (.store 1 (.t 36) (.t 34))]) (.r [.n 37 0,.f 38 0 3,.d 39 38,.f 40 1 3,.d 41 40,.q 42 (.build [.i .u16 0,.i .u8 0,.i .u8 0,.i .u32 0] [(0,1,(.t 39)),(2,1,(.c (.i .u8 1))),(3,1,(.t 41))]),.n 43 4,.q 44 (.cvInt .u32 (.t 43)),.q 45 (.bin .add (.t 44) (.c (.i .u32 1))),.q 46 (.build [.i .u16 0,.i .u8 0,.i .u8 0,.i .u32 0] [(0,1,(.c (.i .u16 5))),(3,1,(.t 45))]),.n 47 5,.q 48 (.cvInt .u32 (.t 47)),.q 49 (.build [.i .u16 0,.i .u8 0,.i .u8 0,.i .u32 0] [(0,1,(.c (.i .u16 5))),(3,1,(.t 48))]),.q 50 (.buildS 3 [.i .u16 0,.i .u8 0,.i .u8 0,.i .u32 0] [(0,4,(.t 42)),(4,4,(.t 46)),(8,4,(.t 49))]),.l 51 b [.t 37,.t 50]])))))))))⟩
theorem qvm{gD gO gP gB gi kb n s bb bp:Nat}{back:List Ins}{pl:List Nat}{tr:Tr Blk}{far:Int}{k:AV->Hp->Prop}(hc:qd P f (qaP gD gP gO)=true)(hD:qd P gD zL=true)(hO:cOf P gO)(hP:qd P gP (xL gB)=true)
  (hB:∀l:List Ins,qg P gB [.fz l.length (rP l)] (.fn gi [] [.pf [.fz l.length (rP l)] 0])) (hi:qd P gi qz=true)
  (h:LI kb n back pl s tr bb bp far) (x:Sy) (hb:back.length<=800000) (hj:∀j:Nat,(x.code=5∨qh x.code=4)∧j=x.th∨(qh x.code=4∧x.code≠5)∧j=x.el->∃q,pl[j]?=some q∧q<=back.length)
  (hk:∀s' tr' bb' far',s<=s'->(∀c,c<s->c≠kb->c≠bb->tr'.get c=tr.get c)->(bb'=bb∨s<=bb')->LI kb n (back++(xQ back.length pl x).reverse) pl s' tr' bb' bp far'->k (.tup []) ⟨s',0,tr'⟩):SC P f [.ptr kb 0,.agg (cSy x)] ⟨s,0,tr⟩ k:=by
 have hks:=h.ks;have hbs:=h.bs;have hps:=h.ps;have hkb:=h.kb';have hkp:=h.kp;have hbp:=h.bp'
 have h1:∀(y:Blk),LI kb n back pl (s+1) (tr.set s y) bb bp far:=fun y=>h.keep (by omega) fun c hc=>by
  rw[Tr.get_set,if_neg (by rcases hc with rfl|rfl|rfl<;>omega)]
 have h2:∀(y z:Blk),LI kb n back pl (s+1+1) ((tr.set s y).set (s+1) z) bb bp far:=fun y z=>(h1 y).keep (by omega) fun c hc=>by
  rw[Tr.get_set,if_neg (by rcases hc with rfl|rfl|rfl<;>omega)]
 have n1:¬s=s+1:=by omega
 have put:∀(y z:Blk) (l:List Ins),z = .cells 0 true false (rP l)->l.length<=10->xQ back.length pl x=l->∀k2:AV->Hp->Prop,(∀h,k (.tup []) h->k2 (.tup []) h)->SC P gP [.ptr kb 0,.sl (s+1) 0 l.length l.length false] ⟨s+1+1,0,(tr.set s y).set (s+1) z⟩ k2:=fun y z l hz hl he k2 hk2=>by
  refine qlI hP hB hi (h2 y z) (by rw[Tr.get_set,if_pos rfl,hz]) ⟨by omega,by omega,by omega⟩ (by omega) hl (by omega) fun s' tr' bb' q1 q2 q3 q4=>hk2 _ (hk s' tr' bb' far (by omega) (fun c c1 c2 c3=>?_) (by omega) (by rw[he];exact q4))
  rw[q2 c (by omega) c2 c3 (by omega)];simp only[Tr.get_set];rw[if_neg (by omega),if_neg (by omega)]
 refine SC.mk hc (qp ?_);simp only[qaP,cSy,vI,simprocAttr]
 by_cases h5:x.code=5
 ·obtain⟨q,hq,hql⟩:=hj x.th (.inl ⟨.inl h5,rfl⟩);have hqD:pl.getD x.th 0=q:=by rw[List.getD_eq_getElem?_getD,hq];rfl
  have he:xQ back.length pl x=[⟨5,0,0,((back.length-q:Nat):Int)⟩]:=by unfold xQ;rw[if_pos h5,hqD]
  have hw:IntKind.wrap .u32 ((back.length-q:Nat):Int)=((back.length-q:Nat):Int):=qdJ (by omega) (by omega);simp +decide only[↓vS,vT,simprocAttr,eq_true h5];refine qiJ hD (h1 _) hq hql (by omega) ?_;simp +decide only[↓vS,vT,simprocAttr,hw];exact put _ _ [⟨5,0,0,((back.length-q:Nat):Int)⟩] (by simp[rP,zl]) (by simp) he _ fun h hv=>by simp +decide only[↓vS,vT,simprocAttr];exact hv
 ·by_cases hc4:qh x.code=4
  ·obtain⟨q,hq,hql⟩:=hj x.th (.inl ⟨.inr hc4,rfl⟩);obtain⟨r,hr,hrl⟩:=hj x.el (.inr ⟨⟨hc4,h5⟩,rfl⟩);have hqD:pl.getD x.th 0=q:=by rw[List.getD_eq_getElem?_getD,hq];rfl
   have hrD:pl.getD x.el 0=r:=by rw[List.getD_eq_getElem?_getD,hr];rfl
   simp +decide only[↓vS,vT,simprocAttr,h5];refine (hO x.code).sc ?_;simp +decide only[↓vS,vT,simprocAttr,hc4];refine qaB ?_;simp +decide only[↓vS,vT,simprocAttr];refine⟨_,_,fun k' hk'=>qiJ hD (h1 _) hq hql (by omega) hk',?_⟩
   simp +decide only[↓vS,vT,simprocAttr];refine⟨_,_,fun k' hk'=>qiJ hD (h1 _) hr hrl (by omega) hk',?_⟩
   have he:xQ back.length pl x=if max (back.length-q) (back.length-r)<=255 then [⟨x.code,((back.length-q:Nat):Int),((back.length-r:Nat):Int),x.k⟩] else [⟨x.code,0,1,x.k⟩,⟨5,0,0,((back.length-q+1:Nat):Int)⟩,⟨5,0,0,((back.length-r:Nat):Int)⟩]:=by
    unfold xQ;rw[if_neg h5,if_neg (by simp[hc4]),hqD,hrD]
   obtain⟨a,ha⟩:∃a,a=back.length-q:=⟨_,rfl⟩;obtain⟨b,hb'⟩:∃b,b=back.length-r:=⟨_,rfl⟩;rw[← ha,← hb'] at he ⊢;have hal:a<=800000:=by omega
   have hbl:b<=800000:=by omega
   simp +decide only[↓vS,vT,simprocAttr];have hmx:(if a<b then (b:Int) else a)=((max a b:Nat):Int):=by split<;>omega
   rw[hmx]
   by_cases hm:max a b<=255
   ·have hm':((max a b:Nat):Int)<=255:=by omega
    rw[if_pos hm] at he;have w1:IntKind.wrap .u8 (a:Int)=a:=qql (by omega) (by omega);have w2:IntKind.wrap .u8 (b:Int)=b:=qql (by omega) (by omega);simp +decide only[↓vS,vT,simprocAttr,hm'];rw[w1,w2];exact put _ _ [⟨x.code,(a:Int),(b:Int),x.k⟩] (by simp[rP,zl]) (by simp) he _ fun h hv=>by simp +decide only[↓vS,vT,simprocAttr];exact hv
   ·have hm':¬((max a b:Nat):Int)<=255:=by omega
    rw[if_neg hm] at he;have w1:IntKind.wrap .u32 (a:Int)=a:=qdJ (by omega) (by omega);have w2:IntKind.wrap .u32 (b:Int)=b:=qdJ (by omega) (by omega);have w3:IntKind.wrap .u32 ((a:Int)+1)=((a+1:Nat):Int):=by rw[qdJ (by omega) (by omega)];simp
    have n2:¬kb=s:=by omega
    have n3:¬s=kb:=by omega
    simp +decide only[↓vS,vT,simprocAttr,hm',w1,w2,w3,h.k,n2,n3,n1];refine qlI hP hB hi (l:=[⟨x.code,0,1,x.k⟩,⟨5,0,0,((a+1:Nat):Int)⟩,⟨5,0,0,((b:Nat):Int)⟩]) (far:=IntKind.wrap .i64 (far+1)) (s:=s+1+1) (bb:=bb) (bp:=bp) (n:=n) (pl:=pl) (back:=back) ⟨?_,?_,?_,h.len,hkb,hkp,hbp,by omega,by omega,by omega⟩ ?_ ⟨by omega,by omega,by omega⟩ (by omega) (by simp) (by omega) fun s' tr' bb' q1 q2 q3 q4=>?_
    ·simp only[Tr.get_set];rw[if_neg (by omega)];simp
    ·simp only[Tr.get_set];rw[if_neg (by omega),if_neg (by omega),if_neg (by omega)];exact h.b
    ·simp only[Tr.get_set];rw[if_neg (by omega),if_neg (by omega),if_neg (by omega)];exact h.p
    ·rw[Tr.get_set,if_pos rfl];simp[rP,zl]
    ·simp +decide only[↓vS,vT,simprocAttr];refine hk s' tr' bb' _ (by omega) (fun c c1 c2 c3=>?_) (by omega) (by rw[he];exact q4)
     rw[q2 c (by omega) c2 c3 (by omega)];simp only[Tr.get_set];rw[if_neg (by omega),if_neg c2,if_neg (by omega)]
  ·have he:xQ back.length pl x=[⟨x.code,0,0,x.k⟩]:=by unfold xQ;rw[if_neg h5,if_pos hc4]
   simp +decide only[↓vS,vT,simprocAttr,h5];refine (hO x.code).sc ?_;simp +decide only[↓vS,vT,simprocAttr,hc4];exact put _ _ [⟨x.code,0,0,x.k⟩] (by simp[rP,zl]) (by simp) he _ fun h hv=>by simp +decide only[↓vS,vT,simprocAttr];exact hv
def qT(l:List Sy):Nat->List Ins×List Nat
 | 0=>([],List.replicate l.length 0)
 | m+1=>match l[l.length-(m+1)]? with
  | some x=>((qT l m).1++(xQ (qT l m).1.length (qT l m).2 x).reverse,(qT l m).2.set (l.length-(m+1)) ((qT l m).1++(xQ (qT l m).1.length (qT l m).2 x).reverse).length)
  | none=>qT l m
theorem qeu{l:List Sy}:∀m,(qT l m).2.length=l.length∧(∀q ∈ (qT l m).2,q<=(qT l m).1.length)∧(qT l m).1.length<=3*m
 | 0=>by
  refine⟨by simp[qT],fun q hq=>?_,by simp[qT]⟩
  simp only[qT,List.mem_replicate] at hq;omega
 | m+1=>by
  obtain⟨h1,h2,h3⟩:=qeu (l:=l) m;unfold qT;split
  ·rename_i x hx;refine⟨by simp[h1],fun q hq=>?_,?_⟩
   ·rcases List.mem_or_eq_of_mem_set hq with hq|hq
    ·have:=h2 q hq;simp;omega
    ·rw[hq];exact Nat.le_refl _
   ·have:=(qkc (n:=(qT l m).1.length) (pl:=(qT l m).2) (x:=x)).1;simp;omega
  ·exact⟨h1,h2,by omega⟩
def zW(l:List Sy):List Ins:=(qT l l.length).1.reverse
theorem qss{l:List Nat}{j v:Nat}(hj:j<l.length):(rNt l).take j ++ .i .i64 (v:Int)::(rNt l).drop (j+1)=rNt (l.set j v):=by
 rw[List.set_eq_take_append_cons_drop,if_pos hj];simp[rNt,List.map_take,List.map_drop]
def qbe(a b c:Nat):ICode:=.seq (.r [.d 33 4,.n 2 33,.m 3 .T]) (.ret)
def qcp(a b c:Nat):IFn:=⟨[.tmp 2,.tmp 3],.seq (.r [.m 2 (.c (.nilp)),.m 3 .F]) (.seq (.seq (.r [.n 7 0,.l 8 a [.t 7],.q 9 (.un .not (.t 8))]) (.cond (.t 9) (.seq (.r [.m 2 (.c (.nilp)),.m 3 .F]) (.ret)) (.skip))) (.seq (.r [.n 10 0,.e 11 10,.q 12 (.mkS 1 8 [.i .i64 0] (.t 11) (.t 11)),.q 13 (.build [.nils,.nils,.i .i64 0] [(1,1,(.t 12))]),.q 14 (.box (.t 13)),.q 4 (.alloc [.nilp]),.u (.store 1 (.t 4) (.t 14))]) (.seq (.seq (.r [.n 15 0,.l 16 b [.t 15]]) (.blk 0 (.rangeF 0 (.t 16) [17,18] (.seq (.r [.n 5 17]) (.r [.q 6 (.alloc [.i .u16 0,.i .u32 0,.i .i64 0,.i .i64 0]),.u (.store 4 (.t 6) (.t 18))])) (.blk 1 (.seq (.r [.d 19 4,.v 20 4 6,.l 21 c [.t 19,.t 20]]) (.reg true [.d 22 4,.q 23 (.nilChk (.t 22)),.f 24 1 23,.d 25 24,.n 26 5,.d 27 4,.q 28 (.nilChk (.t 27)),.f 29 0 28,.d 30 29,.e 31 30,.i 32 1 25 26,.u (.store 1 (.t 32) (.t 31))])))))) (.cut (qbe a b c)))))⟩
def liT(gi:Nat)(l:List Sy):List (Nat×AV):=[(4,.ptr 2 0),(16,.fn gi [] [.pf [.fz l.length (rSy l)] 0])]
def liA:ICode:=.seq (.reg false [⟨some 5,.op (.mov (.t 17)),none⟩]) (.reg false [⟨some 6,.op (.alloc [.i .u16 0,.i .u32 0,.i .i64 0,.i .i64 0]),none⟩,⟨none,.op (.store 4 (.t 6) (.t 18)),none⟩])
def liB(g1:Nat):ICode:=.blk 1 (.seq (.r [.d 19 4,.v 20 4 6,.l 21 g1 [.t 19,.t 20]]) (.reg true [.d 22 4,.q 23 (.nilChk (.t 22)),.f 24 1 23,.d 25 24,.n 26 5,.d 27 4,.q 28 (.nilChk (.t 27)),.f 29 0 28,.d 30 29,.e 31 30,.i 32 1 25 26,.u (.store 1 (.t 32) (.t 31))]))
def qqV(P:Program)(g:Nat):Prop:=∀(kb n s bb bp:Nat) (back:List Ins) (pl:List Nat) (tr:Tr Blk) (far:Int) (k:AV->Hp->Prop),LI kb n back pl s tr bb bp far->∀x:Sy,back.length<=800000->(∀j:Nat,(x.code=5∨qh x.code=4)∧j=x.th∨(qh x.code=4∧x.code≠5)∧j=x.el->∃q,pl[j]?=some q∧q<=back.length)->
 (∀s' tr' bb' far',s<=s'->(∀c,c<s->c≠kb->c≠bb->tr'.get c=tr.get c)->(bb'=bb∨s<=bb')->LI kb n (back++(xQ back.length pl x).reverse) pl s' tr' bb' bp far'->k (.tup []) ⟨s',0,tr'⟩)->SC P g [.ptr kb 0,.agg (cSy x)] ⟨s,0,tr⟩ k
theorem qo9{gi g1 s bb n:Nat}{back:List Ins}{pl:List Nat}{l:List Sy}{r0:Loop}{tr:Tr Blk}{far:Int}{k:AV->Hp->Prop}(h1:qqV P g1)(hr0:r0.state = .ready)(hp0:r0.pending=none)(hlo:LoopOk P r0 [17,18] liA (liB g1))
  (h:LI 1 n back pl s tr bb 0 far) (g2:tr.get 2=some (.cells 0 true false [.ptr 1 0])) (g4:tr.get 4=some (.map (zD r0 (liT gi l)))) (hs:5<=s) (hb3:3<=bb) (hb4:bb≠4) (hb:back.length<=800000) (i:Nat) (hi:i<n) (x:Sy)
  (hj:∀j:Nat,(x.code=5∨qh x.code=4)∧j=x.th∨(qh x.code=4∧x.code≠5)∧j=x.el->∃q,pl[j]?=some q∧q<=back.length)
  (hk:∀s' tr' bb' far',5<=s'->LI 1 n (back++(xQ back.length pl x).reverse) (pl.set i (back++(xQ back.length pl x).reverse).length) s' tr' bb' 0 far'->tr'.get 2=some (.cells 0 true false [.ptr 1 0])->tr'.get 4=some (.map (zD r0 (liT gi l)))->3<=bb'->bb'≠4->k (.b true) ⟨s',0,tr'⟩) :
  SY P 4 [.i .i64 (i:Int),.agg (cSy x)] ⟨s,0,tr⟩ k:=by
 have hbs:=h.bs;refine SY.mk (r:=r0) (ts:=liT gi l) (ps:=[17,18]) g4 hr0 hlo (Nat.zero_le _) (by show 4<s;omega) rfl ?_;rw[show mkT (liT gi l)=(Tr.leaf.set 16 (.fn gi [] [.pf [.fz l.length (rSy l)] 0])).set 4 (.ptr 2 0) from rfl]
 refine qp ?_;simp only[qkn,liA,cSy,vI,simprocAttr];simp +decide only[↓vS,vT,simprocAttr];have n1:¬4=s:=by omega
 have n2:¬2=s:=by omega
 have n3:¬s=4:=by omega
 refine⟨liT gi l,by simp[Tr.get_set,n1,g4],?_⟩
 refine qp ?_;simp only[qar,liB,vI,simprocAttr];have e24:¬(2:Nat)=4:=by decide
 simp +decide only[↓vS,vT,simprocAttr,g2,e24,n2,n3]
 have old:∀c,c<s->c≠4->(((tr.set s (.cells 0 true false [.i .u16 0,.i .u32 0,.i .i64 0,.i .i64 0])).set s (.cells 0 true false [.i .u16 x.code,.i .u32 x.k,.i .i64 (x.th:Int),.i .i64 (x.el:Int)])).set 4 (.map (zD (Go.Kc.bsy r0) (liT gi l)))).get c=tr.get c:=fun c h1 h2=>by
  simp only[Tr.get_set];repeat rw[if_neg (by omega)]
 refine h1 1 n (s+1) bb 0 back pl _ far _ (h.keep (by omega) fun c hc=>old c (by rcases hc with rfl|rfl|rfl<;>omega) (by rcases hc with rfl|rfl|rfl<;>omega)) x hb hj fun s' tr' bb' far' q1 q2 q3 q4=>?_
 have g2':tr'.get 2=some (.cells 0 true false [.ptr 1 0]):=by rw[q2 2 (by omega) (by omega) (by omega),old 2 (by omega) (by omega)];exact g2
 have g4':tr'.get 4=some (.map (zD (Go.Kc.bsy r0) (liT gi l))):=by rw[q2 4 (by omega) (by omega) (by omega),Tr.get_set,if_pos rfl]
 obtain⟨B,hB⟩:∃B,B=back++(xQ back.length pl x).reverse:=⟨_,rfl⟩;rw[← hB] at q4 hk;have hset:=qss (l:=pl) (j:=i) (v:=B.length) (by rw[q4.len];exact hi);have hpl:i+1<=(rNt pl).length:=by rw[qi2,q4.len];omega
 have hbs':=q4.bs;simp +decide only[↓vS,vT,simprocAttr];refine qaB ?_;simp +decide only[↓vS,vT,simprocAttr,g2',q4.k,q4.p,hi,hpl,hset,Nat.mul_one];refine⟨Go.Kc.bsy r0,liT gi l,by rw[Tr.get_set,if_neg (by decide)];exact g4',?_⟩
 rw[qi4,qla hr0 hp0];simp only[qar];simp +decide only[↓vS,vT,simprocAttr];have hb':bb'≠4:=by omega
 refine hk s' _ bb' far' (by omega) ⟨?_,?_,?_,?_,by omega,by omega,by omega,by omega,by omega,by omega⟩ ?_ ?_ (by omega) hb'
 ·rw[Tr.get_set,if_neg (by decide),Tr.get_set,if_neg (by decide)];exact q4.k
 ·rw[Tr.get_set,if_neg hb',Tr.get_set,if_neg (by omega)];exact q4.b
 ·rw[Tr.get_set,if_neg (by decide),Tr.get_set,if_pos rfl]
 ·rw[List.length_set];exact q4.len
 ·rw[Tr.get_set,if_neg (by decide),Tr.get_set,if_neg (by decide)];exact g2'
 ·rw[Tr.get_set,if_pos rfl]
theorem qm5{n0 g1 g2 g3 s:Nat}{tr:Tr Blk}{t:Tr AV}{k:AV->Hp->Prop}(ht:t.get 4=some (.ptr 2 0))(h2:tr.get 2=some (.cells 0 true false [.ptr 1 0]))(hk:k (.tup [.ptr 1 0,.b true]) ⟨s,0,tr⟩) :
  S P n0 (qbe g1 g2 g3) (qcm [.tmp 2,.tmp 3] k) t ⟨s,0,tr⟩:=by
 refine S.has [(4,.ptr 2 0)] (by simp[ql,qr,ht]) (qp ?_);simp only[qbe,vI,simprocAttr];simp +decide only[↓vS,vT,simprocAttr,h2];exact hk
theorem qm6{gM gB g1 gi:Nat}(hc:qd P f (qcp gM gB g1)=true)(l:List Sy)(hm:qg P gM [.fz l.length (rSy l)] (.b true))(hB:∀l:List Sy,qg P gB [.fz l.length (rSy l)] (.fn gi [] [.pf [.fz l.length (rSy l)] 0]))(hi:qd P gi qx=true)
  (h1:qqV P g1) (hl:l.length<=200000) (hin:∀x ∈ l,∀j:Nat,(x.code=5∨qh x.code=4)∧j=x.th∨(qh x.code=4∧x.code≠5)∧j=x.el->j<l.length) {k:AV->Hp->Prop}
  (hk:∀s tr bb far,LI 1 l.length (qT l l.length).1 (qT l l.length).2 s tr bb 0 far->k (.tup [.ptr 1 0,.b true]) ⟨s,0,tr⟩):SC P f [.fz l.length (rSy l)] ⟨0,0,.leaf⟩ k:=by
 refine SC.mk hc (qp ?_);have r1:l.length<=qe:=by simp only[qe];omega
 have r2:8*l.length<=qe:=by simp only[qe];omega
 have hz:(List.replicate l.length [AV.i .i64 0]).flatten=rNt (List.replicate l.length 0):=by simp[rNt]
 simp only[qcp,vI,simprocAttr];simp +decide only[↓vS,vT,simprocAttr];refine hm.sc ?_;simp +decide only[↓vS,vT,simprocAttr,r1,r2,hz];refine (hB l).sc ?_;simp +decide only[↓vS,vT,simprocAttr];refine S.weak (Wk.mk (liT gi l) [.cells 0 true false (rNt (List.replicate l.length 0)),.cells 0 true false [.own 3 0,.sl 0 0 l.length l.length false,.i .i64 0],.cells 0 true false [.ptr 1 0],.cells 4 true true []] [0,1,2,99] ?_ ?_ ?_ rfl) ?_
 ·simp[vw,liT,zn qK,qb,qK]
 ·simp[vw,qb,zb]
 ·simp
 refine S.rangeF (by simp[qpg]) (by simp[liT]) ⟨rfl,rfl⟩ ?_;refine qlz.2 ⟨.fn gi [] [.pf [.fz l.length (rSy l)] 0],by simp[liT,mkT,Tr.get_set],?_⟩
 refine⟨qhd hi,fun r0 hr0 hp0 hlo=>?_⟩
 have hlo:LoopOk P r0 [17,18] liA (liB g1):=hlo;refine zG (c:=cSy) hi qcA (by omega) (fun i h=>i<=l.length∧∃s tr bb far,h=⟨s,0,tr⟩∧5<=s∧LI 1 l.length (qT l (l.length-i)).1 (qT l (l.length-i)).2 s tr bb 0 far∧3<=bb∧bb≠4∧tr.get 2=some (.cells 0 true false [.ptr 1 0])∧tr.get 4=some (.map (zD r0 (liT gi l)))) ?_ ?_ ?_
 ·rintro i x h hx ⟨hil,s,tr,bb,far,rfl,q1,q2,q3,q4,q5,q6⟩ k' hk';have hi':i<l.length:=(zzS.1 hx).1;obtain⟨o1,o2,o3⟩:=qeu (l:=l) (l.length-(i+1));have e:l.length-i=(l.length-(i+1))+1:=by omega
  have e2:l.length-(l.length-(i+1)+1)=i:=by omega
  have e3:qT l (l.length-i)=((qT l (l.length-(i+1))).1++(xQ (qT l (l.length-(i+1))).1.length (qT l (l.length-(i+1))).2 x).reverse,(qT l (l.length-(i+1))).2.set i ((qT l (l.length-(i+1))).1++(xQ (qT l (l.length-(i+1))).1.length (qT l (l.length-(i+1))).2 x).reverse).length):=by
   rw[e,qT,e2,hx]
  refine qo9 h1 hr0 hp0 hlo q2 q5 q6 q1 q3 q4 (by omega) i hi' x (fun j hj=>?_) fun s' tr' bb' far' p1 p2 p3 p4 p5 p6=>hk' _ ⟨by omega,s',tr',bb',far',rfl,p1,by rw[e3];exact p2,p5,p6,p3,p4⟩
  have hjl:=hin x (zzM hx) j hj;obtain⟨q,hq⟩:∃q,(qT l (l.length-(i+1))).2[j]?=some q:=⟨_,zzE (by omega)⟩;exact⟨q,hq,o2 q (zzM hq)⟩
 ·refine⟨Nat.le_refl _,5,_,3,0,rfl,Nat.le_refl _,⟨?_,?_,?_,?_,by decide,by decide,by decide,by decide,by decide,by decide⟩,by decide,by decide,?_,?_⟩<;>simp[Tr.get_set,qjZ,mkH,trL,qT,rP,Hp.push]
 ·rintro h ⟨_,s,tr,bb,far,rfl,q1,q2,q3,q4,q5,q6⟩;rw[Nat.sub_zero] at q2;refine⟨r0,liT gi l,q6,by rw[hr0];decide,?_⟩
  rw[hp0];simp only[qar];simp only[↓vS,vT,simprocAttr];refine qm5 (by simp[liT,mkT,Tr.get_set]) ?_ (hk _ _ bb far ?_)
  ·show (tr.set 4 .dead).get 2=_;rw[Tr.get_set,if_neg (by decide)];exact q5
  ·refine q2.keep (Nat.le_refl _) fun c hc=>?_
   have:c≠4:=by rcases hc with rfl|rfl|rfl<;>omega
   rw[Tr.get_set,if_neg (by exact this)]
def qdA(a b:Nat):IFn:=⟨[.tmp 2,.tmp 3],.seq (.r [.m 2 .N,.m 3 (.k 0)]) (.seq (.r [.n 7 0,.l 8 a [.t 7],.n 6 8,.x 9 6 0,.x 10 6 1,.n 4 9,.n 5 10]) (.seq (.blk 0 (.seq (.r [.n 12 5,.q 13 (.un .not (.t 12)),.n 11 13]) (.cond (.t 11) (.seq (.r [.m 2 .N,.m 3 (.k 250)]) (.ret)) (.seq (.r [.n 15 4,.q 16 (.nilChk (.t 15)),.f 17 0 16,.d 18 17,.e 19 18,.w 20 .gtr 19 4096,.n 14 20]) (.cond (.t 14) (.seq (.r [.m 2 .N,.m 3 (.k 270)]) (.ret)) (.skip)))))) (.seq (.r [.n 21 4,.q 22 (.nilChk (.t 21)),.f 23 0 22,.d 24 23,.l 25 b [.t 24]]) (.seq (.r [.n 26 4,.q 27 (.nilChk (.t 26)),.f 28 0 27,.d 29 28,.n 2 29,.m 3 (.k 0)]) (.ret)))))⟩
def qg3(l:List Sy):AV:=if 4096<(zW l).length then .tup [.fz 0 [],.i .i64 270] else .tup [.fz (zW l).length (rP (zW l)),.i .i64 0]
theorem qm3{g1 g2:Nat}(hc:qd P f (qdA g1 g2)=true)(l:List Sy)(hl:l.length<=200000)
  (h1:∀k:AV->Hp->Prop,(∀s tr bb far,LI 1 l.length (qT l l.length).1 (qT l l.length).2 s tr bb 0 far->k (.tup [.ptr 1 0,.b true]) ⟨s,0,tr⟩)->SC P g1 [.fz l.length (rSy l)] ⟨0,0,.leaf⟩ k)
  (h2:∀(s b:Nat) (tr:Tr Blk) (p:List Ins),p.length<=1000000->∀k:AV->Hp->Prop,tr.get b=some (.cells 4 true true (rP p))->(∀tr',(∀c,c≠b->tr'.get c=tr.get c)->tr'.get b=some (.cells 4 true true (rP p.reverse))->k (.tup []) ⟨s,0,tr'⟩)->SC P g2 [.own b p.length] ⟨s,0,tr⟩ k) :
  qg P f [.fz l.length (rSy l)] (qg3 l):=by
 have hlen:=(qeu (l:=l) l.length).2.2;refine qg.mk hc (by simp[qF,clo,qK]) ?_;simp only[qdA,vI,simprocAttr];simp +decide only[↓vS,vT,simprocAttr];refine h1 _ fun s tr bb far h=>?_
 have hll:(zW l).length=(qT l l.length).1.length:=by simp[zW]
 unfold qg3;rw[hll]
 by_cases hbig:4096<(qT l l.length).1.length
 ·have hbig':(4096:Int)<((qT l l.length).1.length:Int):=by omega
  rw[if_pos hbig];simp +decide only[↓vS,vT,simprocAttr,h.k,hbig'];simp[vZ]
 ·have hbig':¬(4096:Int)<((qT l l.length).1.length:Int):=by omega
  rw[if_neg hbig];simp +decide only[↓vS,vT,simprocAttr,h.k,hbig'];refine h2 s bb tr _ (by omega) _ h.b fun tr' q1 q2=>?_
  have hk':=(q1 1 h.kb').trans h.k;simp +decide only[↓vS,vT,simprocAttr,hk'];simp[vZ,vP,q2,zW];refine⟨fun h=>?_,Frzs.self (qm _)⟩
  rw[h];rfl


def WkB(fl:List AV)(ar row prg:AV):Blk:=.cells 0 true false (fl++[ar,row,prg])
section
variable {b s:Nat} {tr:Tr Blk} {k:AV->Hp->Prop} {x:GFil} {ar row prg:AV}
def zi(a:Nat):IFn:=⟨[.tmp 2],.seq (.r [.m 2 (.k 0)]) (.seq (.r [.n 4 0,.n 5 0,.q 6 (.nilChk (.t 5)),.f 7 3 6,.d 8 7,.l 9 a [.t 8],.n 3 9,.x 10 3 0,.x 11 3 1,.q 12 (.nilChk (.t 4)),.f 13 4 12,.u (.store 1 (.t 13) (.t 10)),.n 2 11]) (.seq (.r [.n 14 2,.n 2 14]) (.ret)))⟩
theorem qeC{g:Nat}(hc:qd P f (zi g)=true)(fl:List AV)(hfl:fl.length=3)(h:tr.get b=some (WkB fl ar row prg))(r:AV)(e:Int)(hr:qV r=true∧qb6 r=true∧cellsOf r=[r])(hg:qg P g [ar] (.tup [r,.i .i64 e]))
  (hk:∀tr',(∀c,c≠b->tr'.get c=tr.get c)->tr'.get b=some (WkB fl ar r prg)->k (.i .i64 e) ⟨s,0,tr'⟩):SC P f [.ptr b 0] ⟨s,0,tr⟩ k:=by
 obtain⟨a1,a2,a3,rfl⟩:∃a1 a2 a3,fl=[a1,a2,a3]:=by
  match fl,hfl with
  | [a1,a2,a3],_=>exact⟨a1,a2,a3,rfl⟩
 obtain⟨r1,r2,r3⟩:=hr;simp only[WkB,List.cons_append,List.nil_append] at h hk;refine SC.mk hc (qp ?_);simp only[zi,vI,simprocAttr];simp +decide only[↓vS,vT,simprocAttr,h];refine hg.sc ?_;simp +decide only[↓vS,vT,simprocAttr,h,r1,r2,r3];refine hk _ (fun c hc=>?_) ?_
 ·rw[Tr.get_set,if_neg hc]
 ·rw[Tr.get_set,if_pos rfl]
def zu(a:Nat):IFn:=⟨[.tmp 2],.seq (.r [.m 2 (.k 0)]) (.seq (.r [.n 4 0,.n 5 0,.q 6 (.nilChk (.t 5)),.f 7 4 6,.d 8 7,.l 9 a [.t 8],.n 3 9,.x 10 3 0,.x 11 3 1,.q 12 (.nilChk (.t 4)),.f 13 4 12,.u (.store 1 (.t 13) (.t 10)),.n 2 11]) (.seq (.r [.n 14 2,.n 2 14]) (.ret)))⟩
theorem qln{g:Nat}(hc:qd P f (zu g)=true)(fl:List AV)(hfl:fl.length=3)(h:tr.get b=some (WkB fl ar row prg))(r:AV)(e:Int)(hr:qV r=true∧qb6 r=true∧cellsOf r=[r])(hg:qg P g [row] (.tup [r,.i .i64 e]))
  (hk:∀tr',(∀c,c≠b->tr'.get c=tr.get c)->tr'.get b=some (WkB fl ar r prg)->k (.i .i64 e) ⟨s,0,tr'⟩):SC P f [.ptr b 0] ⟨s,0,tr⟩ k:=by
 obtain⟨a1,a2,a3,rfl⟩:∃a1 a2 a3,fl=[a1,a2,a3]:=by
  match fl,hfl with
  | [a1,a2,a3],_=>exact⟨a1,a2,a3,rfl⟩
 obtain⟨r1,r2,r3⟩:=hr;simp only[WkB,List.cons_append,List.nil_append] at h hk;refine SC.mk hc (qp ?_);simp only[zu,vI,simprocAttr];simp +decide only[↓vS,vT,simprocAttr,h];refine hg.sc ?_;simp +decide only[↓vS,vT,simprocAttr,h,r1,r2,r3];refine hk _ (fun c hc=>?_) ?_
 ·rw[Tr.get_set,if_neg hc]
 ·rw[Tr.get_set,if_pos rfl]
def ze(a:Nat):IFn:=⟨[.tmp 2],.seq (.r [.m 2 (.k 0)]) (.seq (.r [.n 4 0,.n 5 0,.q 6 (.nilChk (.t 5)),.f 7 4 6,.d 8 7,.l 9 a [.t 8],.n 3 9,.x 10 3 0,.x 11 3 1,.q 12 (.nilChk (.t 4)),.f 13 5 12,.u (.store 1 (.t 13) (.t 10)),.n 2 11]) (.seq (.r [.n 14 2,.n 2 14]) (.ret)))⟩
theorem qhY{g:Nat}(hc:qd P f (ze g)=true)(fl:List AV)(hfl:fl.length=3)(h:tr.get b=some (WkB fl ar row prg))(r:AV)(e:Int)(hr:qV r=true∧qb6 r=true∧cellsOf r=[r])(hg:qg P g [row] (.tup [r,.i .i64 e]))
  (hk:∀tr',(∀c,c≠b->tr'.get c=tr.get c)->tr'.get b=some (WkB fl ar row r)->k (.i .i64 e) ⟨s,0,tr'⟩):SC P f [.ptr b 0] ⟨s,0,tr⟩ k:=by
 obtain⟨a1,a2,a3,rfl⟩:∃a1 a2 a3,fl=[a1,a2,a3]:=by
  match fl,hfl with
  | [a1,a2,a3],_=>exact⟨a1,a2,a3,rfl⟩
 obtain⟨r1,r2,r3⟩:=hr;simp only[WkB,List.cons_append,List.nil_append] at h hk;refine SC.mk hc (qp ?_);simp only[ze,vI,simprocAttr];simp +decide only[↓vS,vT,simprocAttr,h];refine hg.sc ?_;simp +decide only[↓vS,vT,simprocAttr,h,r1,r2,r3];refine hk _ (fun c hc=>?_) ?_
 ·rw[Tr.get_set,if_neg hc]
 ·rw[Tr.get_set,if_pos rfl]
def za:IFn:=⟨[.tmp 4,.tmp 5],.seq (.r [.m 4 .N,.m 5 (.k 0)]) (.seq (.seq (.r [.n 9 1,.e 10 9,.m 11 (.k 0)]) (.blk 0 (.loop (.seq (.r [.s 12 11 10]) (.seq (.cond (.t 12) (.skip) (.exit 0)) (.seq (.blk 1 (.seq (.r [.i 13 1 9 11,.d 14 13,.n 7 14]) (.seq (.r [.n 15 7,⟨(some 16),.callV (.t 15) [],none⟩,.n 8 16]) (.seq (.r [.n 17 8,.w 18 .neq 17 0]) (.cond (.t 18) (.seq (.r [.n 19 8,.m 4 .N,.n 5 19]) (.ret)) (.skip)))))) (.r [.a 20 11 1,.n 11 20]))))))) (.seq (.r [.n 21 0,.q 22 (.nilChk (.t 21)),.f 23 5 22,.d 24 23,.n 4 24,.m 5 (.k 0)]) (.ret)))⟩
theorem qqk(hc:qd P f za=true){bx e:Nat}{wf a:Bool}(gs:List Nat)(hx:tr.get bx=some (.cells e wf a (gs.map fun g=>.fn g [.ptr b 0] [])))(hbx:bx≠b)(J:Nat->AV->Blk->Prop)(n:Nat)(hn:gs.length=n)(hn9:n<=9)
  (B0:Blk) (h0:tr.get b=some B0) (hJ0:J 0 (.i .i64 0) B0)
  (step:∀(i:Nat) g B (s':Nat) (tr':Tr Blk) (k':AV->Hp->Prop),gs[i]?=some g->J i (.i .i64 0) B->tr'.get b=some B->(∀(v:Int) B' tr2,(∀c,c≠b->tr2.get c=tr'.get c)->tr2.get b=some B'->J (i+1) (.i .i64 v) B'->k' (.i .i64 v) ⟨s',0,tr2⟩)->SC P g [.ptr b 0] ⟨s',0,tr'⟩ k')
  (hbad:∀(i:Nat) (v:Int) B tr2,(∀c,c≠b->tr2.get c=tr.get c)->v≠0->J i (.i .i64 v) B->k (.tup [.nils,.i .i64 v]) ⟨s,0,tr2⟩)
  (hok:∀B tr2,(∀c,c≠b->tr2.get c=tr.get c)->J n (.i .i64 0) B->tr2.get b=some B->∃fl ar row prg,fl.length=3∧B=WkB fl ar row prg∧k (.tup [prg,.i .i64 0]) ⟨s,0,tr2⟩) :
  SC P f [.ptr b 0,.sl bx 0 n n false] ⟨s,0,tr⟩ k:=by
 refine SC.mk hc (qp ?_);simp only[za,vI,simprocAttr];simp +decide only[↓vS,vT,simprocAttr]
 refine SL.loopP (α:=Nat) (fun i=>[(0,.ptr b 0),(9,.sl bx 0 n n false),(10,.i .i64 (n:Int)),(11,.i .i64 (i:Int))])
  (fun i h=>i<=n∧∃tr' B,h=⟨s,0,tr'⟩∧(∀c,c≠b->tr'.get c=tr.get c)∧tr'.get bx=some (.cells e wf a (gs.map fun g=>.fn g [.ptr b 0] []))∧tr'.get b=some B∧J i (.i .i64 0) B) (fun i=>n-i) ?_ 0 ?_ ?_
 ·rintro i h ⟨hi,tr',B,rfl,gf,gx,gb,hj⟩ G ih;simp only[vI,simprocAttr]
  by_cases hlt:i<n
  ·have hlt':(i:Int)<n:=by omega
   obtain⟨g,hg⟩:∃g,gs[i]?=some g:=⟨_,zzE (by omega)⟩;have hgm:(gs.map fun g=>AV.fn g [.ptr b 0] [])[i]?=some (.fn g [.ptr b 0] []):=by simp[hg]
   have hw1:IntKind.wrap .i64 ((i:Int)+1)=((i+1:Nat):Int):=by rw[qv (by omega) (by omega)];simp
   simp +decide only[↓vS,vT,simprocAttr,hlt',hlt,gx,hgm,Nat.mul_one];refine step i g B s tr' _ hg hj gb fun v B' tr2 q1 q2 q3=>?_
   by_cases hv:v=0
   ·subst hv;simp +decide only[↓vS,vT,simprocAttr,hw1];exact ih (i+1) _ _ (by omega) (by simp[ql,qr,Tr.get_set]) ⟨by omega,tr2,B',rfl,fun c hc=>(q1 c hc).trans (gf c hc),(q1 bx hbx).trans gx,q2,q3⟩
   ·simp +decide only[↓vS,vT,simprocAttr,hv];exact hbad (i+1) v B' tr2 (fun c hc=>(q1 c hc).trans (gf c hc)) hv q3
  ·obtain rfl:i=n:=by omega
   have hlt':¬((i:Int)<i):=by omega
   obtain⟨fl,ar,row,prg,hfl,hB,hk⟩:=hok B tr' gf hj gb
   obtain⟨a1,a2,a3,rfl⟩:∃a1 a2 a3,fl=[a1,a2,a3]:=by
    match fl,hfl with
    | [a1,a2,a3],_=>exact⟨a1,a2,a3,rfl⟩
   rw[hB] at gb;simp only[WkB,List.cons_append,List.nil_append] at gb;simp +decide only[↓vS,vT,simprocAttr,hlt',gb];exact hk
 ·simp[ql,qr,Tr.get_set]
 ·exact⟨Nat.zero_le _,tr,B0,rfl,fun _ _=>rfl,hx,h0,hJ0⟩
theorem qjm(hc:qd P f za=true){bx e:Nat}{wf a:Bool}(gs:List Nat)(hx:tr.get bx=some (.cells e wf a (gs.map fun g=>.fn g [.ptr b 0] [])))(hbx:bx≠b)(Bs:Nat->Blk)(vs:Nat->Int)(n:Nat)(hn:gs.length=n)(hn9:n<=9)(h0:tr.get b=some (Bs 0))(hv0:vs 0=0)
  (step:∀(i:Nat) g (s':Nat) (tr':Tr Blk) (k':AV->Hp->Prop),gs[i]?=some g->(∀j,j<=i->vs j=0)->tr'.get b=some (Bs i)->(∀tr2,(∀c,c≠b->tr2.get c=tr'.get c)->tr2.get b=some (Bs (i+1))->k' (.i .i64 (vs (i+1))) ⟨s',0,tr2⟩)->SC P g [.ptr b 0] ⟨s',0,tr'⟩ k')
  (hbad:∀(i:Nat) tr2,(∀c,c≠b->tr2.get c=tr.get c)->vs i≠0->(∀j,j<i->vs j=0)->k (.tup [.nils,.i .i64 (vs i)]) ⟨s,0,tr2⟩)
  (hok:∀tr2,(∀c,c≠b->tr2.get c=tr.get c)->(∀j,j<=n->vs j=0)->tr2.get b=some (Bs n)->∃fl ar row prg,fl.length=3∧Bs n=WkB fl ar row prg∧k (.tup [prg,.i .i64 0]) ⟨s,0,tr2⟩) :
  SC P f [.ptr b 0,.sl bx 0 n n false] ⟨s,0,tr⟩ k:=by
 refine qqk hc gs hx hbx (fun i v B=>v = .i .i64 (vs i)∧B=Bs i∧∀j,j<i->vs j=0) n hn hn9 (Bs 0) h0 ⟨by rw[hv0],rfl,fun j hj=>by omega⟩ ?_ ?_ ?_
 ·rintro i g B s' tr' k' hg ⟨h1,rfl,h2⟩ hB hk';have hvi:vs i=0:=(AV.i.inj h1).2.symm;refine step i g s' tr' k' hg (fun j hj=>?_) hB fun tr2 q1 q2=>hk' _ _ _ q1 q2 ⟨rfl,rfl,fun j hj=>?_⟩
  ·rcases Nat.lt_or_ge j i with h|h
   ·exact h2 j h
   ·rw[show j=i by omega];exact hvi
  ·rcases Nat.lt_or_ge j i with h|h
   ·exact h2 j h
   ·rw[show j=i by omega];exact hvi
 ·rintro i v B tr2 hfr hv ⟨h1,rfl,h2⟩;have:v=vs i:=(AV.i.inj h1).2;rw[this] at hv ⊢;exact hbad i tr2 hfr hv h2
 ·rintro B tr2 hfr ⟨h1,rfl,h2⟩ hB;refine hok tr2 hfr (fun j hj=>?_) hB
  have hvn:vs n=0:=(AV.i.inj h1).2.symm;rcases Nat.lt_or_ge j n with h|h
  ·exact h2 j h
  ·rw[show j=n by omega];exact hvn
def xK:IFn:=⟨[.tmp 8,.tmp 9],.seq (.r [.m 8 .N,.m 9 (.k 0)]) (.seq (.seq (.r [.n 10 3,.w 11 .neq 10 0,.n 12 11,.z 13 1 12,.g 14 (.bin .eql (.t 13) (.k 0)) 12 false,.z 15 14 12,.y 16 0 15,.g 17 (.len false (.t 16)) 15 true,.y 18 2 15,.g 19 (.len false (.t 18)) 15 true,.g 20 (.bin .lss (.t 17) (.t 19)) 15 true,.g 21 (.pick (.t 15) (.t 20) .F) 12 false,.o 22 12 21]) (.cond (.t 22) (.seq (.r [.n 23 0,.n 24 1,.n 8 23,.n 9 24]) (.ret)) (.skip))) (.seq (.r [.n 25 2,.n 26 3,.n 8 25,.n 9 26]) (.ret)))⟩
def qiy(v:AV)(p:List Ins):Prop:=v = .fz p.length (rP p)∨v = .nils∧p=[]
def qfd(u v:List Ins×Int):List Ins×Int:=if v.2≠0∨(u.2=0∧u.1.length<v.1.length) then u else v
theorem qiy.clo{v:AV}{p:List Ins}(h:qiy v p):Go.Kc.clo v=true:=by
 rcases h with rfl|⟨rfl,_⟩
 ·simp[Go.Kc.clo,qm]
 ·rfl
theorem qi9(hc:qd P f xK=true)(u v:List Ins×Int)(x y:AV)(hx:qiy x u.1)(hy:qiy y v.1) :
  ∃z,qiy z (qfd u v).1∧qg P f [x,.i .i64 u.2,y,.i .i64 v.2] (.tup [z,.i .i64 (qfd u v).2]):=by
 have key:∀(h:Bool),(decide (v.2≠0∨(u.2=0∧u.1.length<v.1.length)))=h->qg P f [x,.i .i64 u.2,y,.i .i64 v.2] (.tup [if h=true then x else y,.i .i64 (if h=true then u.2 else v.2)]):=by
  intro h hh;refine qg.mk hc (by simp[qF,Go.Kc.clo,hx.clo,hy.clo]) ?_;simp only[xK,vI,simprocAttr]
  by_cases h1:v.2=0
  ·by_cases h2:u.2=0
   ·have e:h=decide (u.1.length<v.1.length):=by rw[← hh];simp[h1,h2]
    rw[e];rcases hx with rfl|⟨rfl,hx⟩<;>rcases hy with rfl|⟨rfl,hy⟩
    ·by_cases h3:u.1.length<v.1.length
     ·simp +decide only[↓vS,vT,simprocAttr,h1,h2,Int.ofNat_lt,h3];simp[vZ,zn (qm _)]
     ·simp +decide only[↓vS,vT,simprocAttr,h1,h2,Int.ofNat_lt,h3];simp[vZ,zn (qm _)]
    ·have h3:¬u.1.length<v.1.length:=by rw[hy];simp
     have h3':¬(u.1.length:Int)<0:=by omega
     simp +decide only[↓vS,vT,simprocAttr,h1,h2,h3',h3];simp[vZ]
    ·rw[hx]
     by_cases h3:0<v.1.length
     ·have h3':(0:Int)<v.1.length:=by omega
      simp +decide only[↓vS,vT,simprocAttr,h1,h2,h3',h3];simp[vZ]
     ·have h3':¬(0:Int)<v.1.length:=by omega
      simp +decide only[↓vS,vT,simprocAttr,h1,h2,h3',h3];simp[vZ,zn (qm _)]
    ·rw[hx,hy];simp +decide only[↓vS,vT,simprocAttr,h1,h2];simp[vZ]
   ·have e:h=false:=by rw[← hh];simp[h1,h2]
    rw[e];simp +decide only[↓vS,vT,simprocAttr,h1,h2];simp[vZ,h1,Frz.self hy.clo]
  ·have e:h=true:=by rw[← hh];simp[h1]
   rw[e];simp +decide only[↓vS,vT,simprocAttr,h1];simp[vZ,Frz.self hx.clo]
 unfold qfd
 by_cases h:v.2≠0∨(u.2=0∧u.1.length<v.1.length)
 ·rw[if_pos h];exact⟨x,hx,by simpa using key true (by simpa using h)⟩
 ·rw[if_neg h];exact⟨y,hy,by simpa using key false (by simpa using h)⟩
end
def xP(l:List Sy):List Ins×Int:=if 4096<(zW l).length then ([],270) else (zW l,0)
theorem qlr{l:List Sy}:qg3 l = .tup [.fz (xP l).1.length (rP (xP l).1),.i .i64 (xP l).2]:=by
 unfold qg3 xP;split<;>rfl
def qdf(l:List Sy):List Sy:=qea (qje (qdl l))
section
variable {gE gN gO gL b s:Nat} {tr:Tr Blk} {k:AV->Hp->Prop} {x:GFil}
theorem qkV{n:Nat}{cs:List AV}:qV (.fz n cs)=true∧qb6 (.fz n cs)=true∧cellsOf (.fz n cs)=[.fz n cs]:=⟨rfl,rfl,rfl⟩
theorem qiy.frz{v:AV}{p:List Ins}{h:Hp}(hv:qiy v p):Frz h v (.fz p.length (rP p)):=by
 rcases hv with rfl|⟨rfl,rfl⟩
 ·exact Frz.self (by simp[Go.Kc.clo,qm])
 ·exact .nilz
end
end Go.Kc
end
section
namespace Go.Kc
def qfh:List Sp->Int->Int->Prop
 | [],a,b=>a=b
 | s::l,a,b=>s.fr=a∧a<=s.to∧qfh l (s.to+1) b
theorem qfh.app:∀{l m:List Sp} {a b:Int},qfh (l++m) a b↔∃c,qfh l a c∧qfh m c b
 | [],m,a,b=>by simp[qfh]
 | s::l,m,a,b=>by
  simp only[List.cons_append,qfh];constructor
  ·rintro⟨h1,h2,h3⟩;obtain⟨c,h4,h5⟩:=qfh.app.1 h3;exact⟨c,⟨h1,h2,h4⟩,h5⟩
  ·rintro⟨c,⟨h1,h2,h4⟩,h5⟩;exact⟨h1,h2,qfh.app.2 ⟨c,h4,h5⟩⟩
def wdD(d:GData)(k:Int):Int:=(xi d).getD (k / 4).toNat 0
inductive Ev (R:List Sy) (d:GData):Nat->Int->Int->Prop where
 | ld (p:Nat) (a r:Int) (s:Sy) (h:R[p]?=some s) (hc:s.code=32) (hn:Ev R d (p+1) (wdD d s.k) r):Ev R d p a r
 | an (p:Nat) (a r:Int) (s:Sy) (h:R[p]?=some s) (hc:s.code=84) (hn:Ev R d (p+1) (qdp .u32 a s.k) r):Ev R d p a r
 | rt (p:Nat) (a:Int) (s:Sy) (h:R[p]?=some s) (hc:s.code=6):Ev R d p a s.k
 | ja (p:Nat) (a r:Int) (s:Sy) (h:R[p]?=some s) (hc:s.code=5) (hn:Ev R d s.th a r):Ev R d p a r
 | jc (p:Nat) (a r:Int) (s:Sy) (h:R[p]?=some s) (hc:qcz s.code) (hn:Ev R d (if qbN s.code a s.k=true then s.th else s.el) a r):Ev R d p a r
def AtL(R:List Sy)(p:Nat)(l:List Sy):Prop:=∀(j:Nat) s,l[j]?=some s->R[p+j]?=some s
theorem AtL.app{R:List Sy}{p:Nat}{l m:List Sy}(h:AtL R p (l++m)):AtL R p l∧AtL R (p+l.length) m:=by
 refine⟨fun j s hj=>h j s (by rw[List.getElem?_append_left (zzS.1 hj).1];exact hj),fun j s hj=>?_⟩
 have:=h (l.length+j) s (by rw[List.getElem?_append_right (by omega),Nat.add_sub_cancel_left];exact hj)
 rw[Nat.add_assoc];exact this
def qfk(l:List Sy)(p n:Nat):Prop:=∀(j:Nat) s,l[j]?=some s->qde s (p+j) n
theorem qfk.app{l m:List Sy}{p n:Nat}(h1:qfk l p n)(h2:qfk m (p+l.length) n):qfk (l++m) p n:=by
 intro j s hj;rw[List.getElem?_append] at hj;split at hj
 ·exact h1 j s hj
 ·rename_i hlt;have:=h2 _ s hj;rw[show p+l.length+(j-l.length)=p+j by omega] at this;exact this
theorem qfk.nil{p n:Nat}:qfk [] p n:=fun j s h=>by simp at h
theorem qfk.cons{s:Sy}{l:List Sy}{p n:Nat}(h1:qde s p n)(h2:qfk l (p+1) n):qfk (s::l) p n:=by
 intro j x hj;cases j with
 | zero=>simp at hj;subst hj;exact h1
 | succ j=>have:=h2 j x (by simpa using hj);rw[show p+1+j=p+(j+1) by omega] at this;exact this
theorem qkH{a b:Nat}(ha:a<4294967296)(hb:b<4294967296):qdp .u32 (a:Int) (b:Int)=((a &&& b:Nat):Int):=by
 have h:a &&& b<4294967296:=Nat.and_lt_two_pow a (n:=32) hb;show IntKind.wrap .u32 (((BitVec.ofInt 32 (a:Int)) &&& (BitVec.ofInt 32 (b:Int))).toNat:Int)=_;rw[BitVec.ofInt_natCast,BitVec.ofInt_natCast,BitVec.toNat_and,BitVec.toNat_ofNat,BitVec.toNat_ofNat,Nat.mod_eq_of_lt ha,Nat.mod_eq_of_lt hb,qdJ (by omega) (by omega)]
section
variable {R:List Sy} {d:GData} {p F:Nat} {r:Int}
end
section
variable {x:GFil}
end
section
variable {x:GFil}
end
section
variable {R:List Sy} {d:GData} {r:Int}
end
theorem qad{c:Int}(h:qcz c):qh c=4∧c≠5∧c≠6:=by
 rcases h with rfl|rfl|rfl|rfl<;>decide
theorem qc8:qh 32=1∧qh 84=3∧qh 6=5∧qh 5=4:=by decide
section
variable {l R:List Sy} {d:GData} {r:Int}
theorem qde.ja{s:Sy}{j n:Nat}(h:qde s j n)(h5:s.code=5):s.k=0∧s.el=0∧j<s.th∧s.th<n:=by
 rcases h with⟨q,_⟩|⟨q,_⟩|⟨_,q⟩|⟨q,_⟩
 ·omega
 ·omega
 ·exact q
 ·exact absurd h5 (qad q).2.1
theorem qde.jc{s:Sy}{j n:Nat}(h:qde s j n)(ha:qcz s.code):j<s.th∧s.th<n∧j<s.el∧s.el<n:=by
 have h5:=qad ha;unfold qcz at ha;rcases h with⟨q,_⟩|⟨q,_⟩|⟨q,_⟩|⟨_,q⟩
 ·omega
 ·omega
 ·omega
 ·exact q
theorem qde.jmp{s:Sy}{j n:Nat}(h:qde s j n)(hj:qa7 s):s.code=5∨qcz s.code:=by
 unfold qa7 at hj;obtain⟨c1,c2,c3,c4⟩:=qc8;rcases h with⟨q,_⟩|⟨q,_⟩|⟨q,_⟩|⟨q,_⟩
 ·rw[q,c1] at hj;omega
 ·rcases q with q|q
  ·rw[q,c2] at hj;omega
  ·rw[q,c3] at hj;omega
 ·exact .inl q
 ·exact .inr q
theorem qde.ask{s:Sy}{j n:Nat}(h:qde s j n)(hj:qbZ s):qcz s.code:=(h.jmp hj.1).resolve_left hj.2
theorem MayL.in(h:MayL l):qh3 l:=by
 intro x hx j hj;obtain⟨i,hi⟩:=List.getElem?_of_mem hx;have hm:=h.all i x hi;rcases hj with⟨q,rfl⟩|⟨q,rfl⟩
 ·rcases hm.jmp q with q|q
  ·exact (hm.ja q).2.2.2
  ·exact (hm.jc q).2.1
 ·exact (hm.jc (hm.ask q)).2.2.2
theorem MayL.on(h:MayL l):qsU l:=by
 intro j x hx h6 h4;have hj:=(zzS.1 hx).1;obtain⟨s,hs,hs6⟩:=h.last;rcases Nat.lt_or_ge (j+1) l.length with q|q
 ·exact q
 ·have e:l.length-1=j:=by omega
  rw[e,hx] at hs;cases hs;exact absurd hs6 h6
theorem MayL.hin(h:MayL l):∀x ∈ l,∀j:Nat,(x.code=5∨qh x.code=4)∧j=x.th∨(qh x.code=4∧x.code≠5)∧j=x.el->j<l.length:=by
 intro x hx j hj;refine h.in x hx j ?_
 rcases hj with⟨q,e⟩|q
 ·refine .inl ⟨?_,e⟩;rcases q with q|q
  ·unfold qa7;rw[q];exact qc8.2.2.2
  ·exact q
 ·exact .inr q
theorem Ev.at6{p:Nat}{a:Int}{s:Sy}(h:Ev R d p a r)(hs:R[p]?=some s)(h6:s.code=6):r=s.k:=by
 cases h with
 | ld _ _ _ x hx hc=>rw[hs] at hx;cases hx;omega
 | an _ _ _ x hx hc=>rw[hs] at hx;cases hx;omega
 | rt _ _ x hx hc=>rw[hs] at hx;cases hx;rfl
 | ja _ _ _ x hx hc=>rw[hs] at hx;cases hx;omega
 | jc _ _ _ x hx hc=>rw[hs] at hx;cases hx;exact absurd h6 (qad hc).2.2
theorem Ev.at5{p:Nat}{a:Int}{s:Sy}(h:Ev R d p a r)(hs:R[p]?=some s)(h5:s.code=5):Ev R d s.th a r:=by
 cases h with
 | ld _ _ _ x hx hc=>rw[hs] at hx;cases hx;omega
 | an _ _ _ x hx hc=>rw[hs] at hx;cases hx;omega
 | rt _ _ x hx hc=>rw[hs] at hx;cases hx;omega
 | ja _ _ _ x hx hc hn=>rw[hs] at hx;cases hx;exact hn
 | jc _ _ _ x hx hc=>rw[hs] at hx;cases hx;exact absurd h5 (qad hc).2.1
theorem xM{to:Nat->Nat}{s:Sy}(h:¬qa7 s):qaR to s=s:=by
 unfold qaR;rw[if_neg h,if_neg (fun q=>h q.1)]
theorem qfF{to:Nat->Nat}{s:Sy}(h:s.code=5):qaR to s=⟨s.code,s.k,to s.th,s.el⟩:=by
 have hj:qa7 s:=by unfold qa7;rw[h];exact qc8.2.2.2
 unfold qaR;rw[if_pos hj,if_neg (fun q=>q.2 h)]
theorem qfG{to:Nat->Nat}{s:Sy}(h:qcz s.code):qaR to s=⟨s.code,s.k,to s.th,to s.el⟩:=by
 have hj:=qad h;unfold qaR;rw[if_pos (show qa7 s from hj.1),if_pos (show qbZ s from⟨hj.1,hj.2.1⟩)]
theorem xh{s:Sy}(h:s.code=32∨s.code=84∨s.code=6):¬qa7 s:=by
 unfold qa7;rcases h with h|h|h<;>rw[h]<;>decide
theorem qkk{to:Nat->Nat}{s:Sy}{j n:Nat}(h:qde s j n)(ht:∀q,j<q->q<n->j<to q∧to q<n):qde (qaR to s) j n:=by
 rcases h with q|q|⟨q,q1,q2,q3,q4⟩|⟨q,q1,q2,q3,q4⟩
 ·rw[xM (xh (.inl q.1))];exact .inl q
 ·rw[xM (xh (.inr q.1))];exact .inr (.inl q)
 ·rw[qfF q];obtain⟨t1,t2⟩:=ht _ q3 q4;exact .inr (.inr (.inl ⟨q,q1,q2,t1,t2⟩))
 ·rw[qfG q];obtain⟨t1,t2⟩:=ht _ q1 q2;obtain⟨t3,t4⟩:=ht _ q3 q4;exact .inr (.inr (.inr ⟨q,t1,t2,t3,t4⟩))
-- shared
theorem qv0(h:MayL l){j:Nat}(hj:j<l.length):j<=qcu l j∧qcu l j<l.length:=by
 unfold qcu;rw[zzE hj];simp only;split
 ·rename_i h6;obtain⟨i,y,q1,q2,q3,_⟩:=qf4 (zzE hj) h6;rw[q1];exact⟨q2,(zzS.1 q3).1⟩
 ·exact⟨Nat.le_refl _,hj⟩
theorem qb8{j:Nat}:(qdl l)[j]?=(l[j]?).map (qaR (qcu l)):=by unfold qdl;rw[List.getElem?_map]
theorem qfQ:(qdl l).length=l.length:=by unfold qdl;rw[List.length_map]
theorem qfR(h:MayL l):MayL (qdl l):=by
 refine⟨by rw[qfQ];exact h.pos,by rw[qfQ];exact h.big,?_,fun j s hj=>?_⟩
 ·obtain⟨s,hs,h6⟩:=h.last;exact⟨s,by rw[qfQ,qb8,hs];simp[xM (xh (.inr (.inr h6)))],h6⟩
 ·rw[qb8] at hj;obtain⟨x,hx,rfl⟩:=Option.map_eq_some_iff.1 hj;rw[qfQ];exact qkk (h.all j x hx) fun q q1 q2=>by have:=qv0 h q2;omega
theorem qja(h:MayL l){j:Nat}{a:Int}(hj:j<l.length)(he:Ev (qdl l) d j a r):Ev (qdl l) d (qcu l j) a r:=by
 unfold qcu;rw[zzE hj];simp only;split
 ·rename_i h6;obtain⟨i,y,q1,q2,q3,q4,q5⟩:=qf4 (zzE hj) h6;rw[q1];have hg:(qdl l)[j]?=some l[j]:=by rw[qb8,zzE hj];simp[xM (xh (.inr (.inr h6)))]
  have hr:=he.at6 hg h6;rw[hr,← q5];exact Ev.rt i a y (by rw[qb8,q3];simp[xM (xh (.inr (.inr q4)))]) q4
 ·exact he
theorem qvZ(h:MayL l):∀{p:Nat} {a:Int},Ev l d p a r->Ev (qdl l) d p a r:=by
 intro p a he
 induction he with
 | ld p a r s hs hc _ ih=>exact .ld p a r s (by rw[qb8,hs];simp[xM (xh (.inl hc))]) hc ih
 | an p a r s hs hc _ ih=>exact .an p a r s (by rw[qb8,hs];simp[xM (xh (.inr (.inl hc)))]) hc ih
 | rt p a s hs hc=>exact .rt p a s (by rw[qb8,hs];simp[xM (xh (.inr (.inr hc)))]) hc
 | ja p a r s hs hc _ ih =>
  have hm:=(h.all p s hs).ja hc;exact .ja p a r ⟨s.code,s.k,qcu l s.th,s.el⟩ (by rw[qb8,hs,← qfF hc];rfl) hc (qja h hm.2.2.2 ih)
 | jc p a r s hs hc _ ih =>
  have hm:=(h.all p s hs).jc hc;refine .jc p a r ⟨s.code,s.k,qcu l s.th,qcu l s.el⟩ (by rw[qb8,hs,← qfG hc];rfl) hc ?_;simp only;split
  ·rename_i q;rw[if_pos q] at ih;exact qja h hm.2.1 ih
  ·rename_i q;rw[if_neg q] at ih;exact qja h hm.2.2.2 ih
-- threaded
theorem qwf(h:MayL R){j:Nat}(hj:j<R.length):j<=xf R j∧xf R j<R.length:=by
 unfold xf;rw[zzE hj];simp only;split
 ·rename_i h5;have:=(h.all j _ (zzE hj)).ja h5;omega
 ·exact⟨Nat.le_refl _,hj⟩
theorem qkz(h:MayL R){i:Nat}{x:Sy}(hx:R[i]?=some x):qde (qaU R x) i R.length∧((x.code=6)->qaU R x=x):=by
 have hm:=qkk (h.all i x hx) (to:=xf R) fun q q1 q2=>by have:=qwf h q2;omega
 refine⟨?_,fun h6=>?_⟩
 ·unfold qaU;split
  ·rename_i q;have ha:=hm.ask q.1;have:=hm.jc ha;exact .inr (.inr (.inl ⟨rfl,rfl,rfl,this.1,this.2.1⟩))
  ·exact hm
 ·have e:=xM (to:=xf R) (xh (s:=x) (.inr (.inr h6)));unfold qaU;rw[e,if_neg (fun q=>xh (.inr (.inr h6)) q.1.1)]
theorem qqd(h:MayL R){i:Nat}{x:Sy}(hx:R[i]?=some x):MayL (R.set i (qaU R x)):=by
 have hi:=(zzS.1 hx).1;refine⟨by rw[List.length_set];exact h.pos,by rw[List.length_set];exact h.big,?_,fun j s hj=>?_⟩
 ·obtain⟨s,hs,h6⟩:=h.last;refine⟨s,?_,h6⟩;rw[List.length_set,List.getElem?_set]
  by_cases e:i=R.length-1
  ·rw[← e,hx] at hs;cases hs;rw[if_pos e,if_pos (by omega),(qkz h hx).2 h6]
  ·rw[if_neg e];exact hs
 ·rw[List.length_set];rw[List.getElem?_set] at hj
  by_cases e:i=j
  ·subst e;rw[if_pos rfl,if_pos hi] at hj;cases hj;exact (qkz h hx).1
  ·rw[if_neg e] at hj;exact h.all j s hj
theorem qsO(h:MayL R){i:Nat}{x:Sy}(hx:R[i]?=some x):∀{p:Nat} {a:Int},Ev R d p a r->Ev (R.set i (qaU R x)) d p a r:=by
 have hi:=(zzS.1 hx).1;have g:∀{p:Nat} {s:Sy},R[p]?=some s->p≠i->(R.set i (qaU R x))[p]?=some s:=fun hs hp=>by rw[List.getElem?_set,if_neg (Ne.symm hp)];exact hs
 have gi:(R.set i (qaU R x))[i]?=some (qaU R x):=by rw[List.getElem?_set,if_pos rfl,if_pos hi]
 have hop:∀{t:Nat} {a:Int},i<t->t<R.length->Ev (R.set i (qaU R x)) d t a r->Ev (R.set i (qaU R x)) d (xf R t) a r:=fun {t a} h1 h2 he=>by
  unfold xf;rw[zzE h2];simp only;split
  ·rename_i h5;exact he.at5 (g (zzE h2) (by omega)) h5
  ·exact he
 have gn:¬qa7 x->(R.set i (qaU R x))[i]?=some x:=fun q=>by
  rw[gi];unfold qaU;rw[xM q,if_neg (fun z=>q z.1.1)]
 intro p a he
 induction he with
 | ld p a r s hs hc _ ih =>
  by_cases e:p=i
  ·subst e;rw[hx] at hs;cases hs;exact .ld _ _ _ x (gn (xh (.inl hc))) hc (ih hop)
  ·exact .ld _ _ _ s (g hs e) hc (ih hop)
 | an p a r s hs hc _ ih =>
  by_cases e:p=i
  ·subst e;rw[hx] at hs;cases hs;exact .an _ _ _ x (gn (xh (.inr (.inl hc)))) hc (ih hop)
  ·exact .an _ _ _ s (g hs e) hc (ih hop)
 | rt p a s hs hc =>
  by_cases e:p=i
  ·subst e;rw[hx] at hs;cases hs;exact .rt _ _ x (gn (xh (.inr (.inr hc)))) hc
  ·exact .rt _ _ s (g hs e) hc
 | ja p a r s hs hc _ ih =>
  by_cases e:p=i
  ·subst e;rw[hx] at hs;cases hs;have hm:=(h.all _ _ hx).ja hc
   have e1:qaU R x=⟨x.code,x.k,xf R x.th,x.el⟩:=by
    unfold qaU;rw[qfF hc,if_neg (fun z=>z.1.2 hc)]
   have gi2:=gi.trans (congrArg some e1);exact .ja _ _ _ _ gi2 hc (hop hm.2.2.1 hm.2.2.2 (ih hop))
  ·exact .ja _ _ _ s (g hs e) hc (ih hop)
 | jc p a r s hs hc _ ih =>
  by_cases e:p=i
  ·subst e;rw[hx] at hs;cases hs;have hm:=(h.all _ _ hx).jc hc;have ih:=ih hop
   have he:Ev (R.set p (qaU R x)) d (if qbN x.code a x.k=true then xf R x.th else xf R x.el) a r:=by
    split
    ·rename_i q;rw[if_pos q] at ih;exact hop hm.1 hm.2.1 ih
    ·rename_i q;rw[if_neg q] at ih;exact hop hm.2.2.1 hm.2.2.2 ih
   have e0:=qfG (to:=xf R) hc
   by_cases eq:xf R x.th=xf R x.el
   ·have e1:qaU R x=⟨5,0,xf R x.th,0⟩:=by
     unfold qaU;rw[e0];exact if_pos ⟨⟨(qad hc).1,(qad hc).2.1⟩,eq⟩
    rw[← eq,ite_self] at he;exact .ja _ _ _ _ (gi.trans (congrArg some e1)) rfl he
   ·have e1:qaU R x=⟨x.code,x.k,xf R x.th,xf R x.el⟩:=by
     unfold qaU;rw[e0];exact if_neg fun z=>eq z.2
    exact .jc _ _ _ _ (gi.trans (congrArg some e1)) hc he
  ·exact .jc _ _ _ s (g hs e) hc (ih hop)
theorem qhS:∀{m j:Nat},j+m<l.length->(qdm l m)[j]?=l[j]?
 | 0,_,_=>rfl
 | m+1,j,h=>by
  unfold qdm;split
  ·rw[List.getElem?_set,if_neg (by omega)];exact qhS (by omega)
  ·exact qhS (by omega)
theorem qjf(h:MayL l):∀m,m<=l.length->MayL (qdm l m)∧∀{p:Nat} {a:Int},Ev l d p a r->Ev (qdm l m) d p a r
 | 0,_=>⟨h,fun e=>e⟩
 | m+1,hm=>by
  obtain⟨h1,h2⟩:=qjf h m (by omega);have hx:l[l.length-(m+1)]?=some l[l.length-(m+1)]:=zzE (by omega);unfold qdm;rw[hx];simp only;have hx2:(qdm l m)[l.length-(m+1)]?=some l[l.length-(m+1)]:=by rw[qhS (by omega)];exact hx
  exact⟨qqd h1 hx2,fun e=>qsO h1 hx2 (h2 e)⟩
theorem qgZ(h:MayL l):MayL (qje l):=(qjf (d:=⟨0,0,0,0,0,0,0,0,0⟩) (r:=0) h _ (Nat.le_refl _)).1
theorem qwe(h:MayL l){p:Nat}{a:Int}:Ev l d p a r->Ev (qje l) d p a r:=(qjf h _ (Nat.le_refl _)).2
theorem qsP:(qje l).length=l.length:=qdn
end
def Suc(x:Sy)(j t:Nat):Prop:=(x.code≠6∧¬qa7 x∧t=j+1)∨(qa7 x∧t=x.th)∨(qbZ x∧t=x.el)
theorem qhP{A:List Bool}{i j:Nat}(h:A[j]?=some true):(A.set i true)[j]?=some true:=by
 rw[List.getElem?_set];split
 ·rename_i e;subst e;rw[if_pos (zzS.1 h).1]
 ·exact h
theorem qhO{A:List Bool}{i:Nat}(h:i<A.length):(A.set i true)[i]?=some true:=by
 rw[List.getElem?_set,if_pos rfl,if_pos h]
theorem qi8{A:List Bool}{i j:Nat}(h:j≠i):(A.set i true)[j]?=A[j]?:=by
 rw[List.getElem?_set,if_neg (Ne.symm h)]
theorem qh4{A:List Bool}{j m:Nat}{x:Sy}(h:A[j]?=some true):(qc1 A m x)[j]?=some true:=by
 unfold qc1;split
 ·exact h
 ·split
  ·exact qhP h
  ·split
   ·exact qhP (qhP h)
   ·exact qhP h
theorem qnN{A:List Bool}{j t:Nat}{x:Sy}(h:A[j]?=some true)(hs:Suc x j t)(ht:t<A.length):(qc1 A j x)[t]?=some true:=by
 have h6:x.code≠6:=by
  rcases hs with q|⟨q,_⟩|⟨q,_⟩
  ·exact q.1
  ·intro e;exact xh (.inr (.inr e)) q
  ·intro e;exact xh (.inr (.inr e)) q.1
 unfold qc1;rw[if_neg (by rintro (q|q);exact q h;exact h6 q)]
 rcases hs with⟨_,q,rfl⟩|⟨q,rfl⟩|⟨q,rfl⟩
 ·rw[if_pos (show qh x.code≠4 from q)];exact qhO ht
 ·rw[if_neg (fun z:qh x.code≠4=>z q)]
  split
  ·exact qhP (qhO ht)
  ·exact qhO ht
 ·rw[if_neg (fun z:qh x.code≠4=>z q.1),if_pos q]
  exact qhO (by rw[List.length_set];exact ht)
section
variable {l:List Sy} {d:GData} {r:Int}
theorem qmk(h:MayL l){A:List Bool}{j m:Nat}{x:Sy}(hx:l[m]?=some x)(hj:j<=m):(qc1 A m x)[j]?=A[j]?:=by
 unfold qc1;split
 ·rfl
 ·split
  ·exact qi8 (by omega)
  ·rename_i q;have hq:qa7 x:=Decidable.not_not.1 q;have hm:=h.all m x hx
   have hth:m<x.th:=by
    rcases hm.jmp hq with z|z
    ·exact (hm.ja z).2.2.1
    ·exact (hm.jc z).1
   split
   ·rename_i q2;have:=hm.jc (hm.ask q2);rw[qi8 (by omega),qi8 (by omega)]
   ·exact qi8 (by omega)
theorem qlj(h:MayL l){j t:Nat}{x:Sy}(hx:l[j]?=some x)(hs:Suc x j t):j<t∧t<l.length:=by
 have hm:=h.all j x hx;rcases hs with⟨q1,q2,rfl⟩|⟨q,rfl⟩|⟨q,rfl⟩
 ·exact⟨by omega,h.on j x hx q1 q2⟩
 ·rcases hm.jmp q with z|z
  ·exact (hm.ja z).2.2
  ·exact⟨(hm.jc z).1,(hm.jc z).2.1⟩
 ·exact (hm.jc (hm.ask q)).2.2
theorem qjp(h:MayL l):∀m,m<=l.length->∀(j t:Nat) x,j<m->l[j]?=some x->Suc x j t->(xU l m)[j]?=some true->(xU l m)[t]?=some true
 | 0,_,j,t,x,hj,_,_,_=>by omega
 | m+1,hm,j,t,x,hj,hx,hs,ha=>by
  have hy:l[m]?=some l[m]:=zzE (by omega);unfold xU at ha ⊢;rw[hy] at ha ⊢;simp only at ha ⊢;rw[qmk h hy (by omega)] at ha;rcases Nat.lt_or_ge j m with q|q
  ·exact qh4 (qjp h m (by omega) j t x q hx hs ha)
  ·have e:j=m:=by omega
   subst e;rw[hy] at hx;cases hx;exact qnN ha hs (by rw[qa9];exact (qlj h hy hs).2)
theorem qch(h:MayL l){j t:Nat}{x:Sy}(hx:l[j]?=some x)(hs:Suc x j t)(ha:(zh l)[j]?=some true):(zh l)[t]?=some true :=
 qjp h _ (Nat.le_refl _) j t x (zzS.1 hx).1 hx hs ha
theorem qnO(h:0<l.length):(zh l)[0]?=some true:=by
 have:∀m,(xU l m)[0]?=some true:=by
  intro m
  induction m with
  | zero=>exact qhO (by simpa using h)
  | succ m ih =>
   unfold xU;split
   ·exact qh4 ih
   ·exact ih
 exact this _
theorem qol{A:List Bool}{i j:Nat}(h:i<=j):zx A i<=zx A j:=by
 unfold zx;have e:A.take i=(A.take j).take i:=by rw[List.take_take,Nat.min_eq_left h]
 rw[e];exact List.Sublist.countP_le (List.take_sublist _ _)
theorem qhc{A:List Bool}{i j:Nat}(ha:A[i]?=some true)(h:i<j):zx A i<zx A j:=by
 have h1:=qc9 ha;have h2:=qol (A:=A) (i:=i+1) (j:=j) h;rw[if_pos rfl] at h1;omega
theorem ql4{α:Type}:∀{A:List Bool} {l:List α} {p:Nat} {x:α},A[p]?=some true->l[p]?=some x->(qbV A l)[zx A p]?=some x
 | [],_,_,_,h,_=>by simp at h
 | _::_,[],_,_,_,h=>by simp at h
 | c::A,y::l,0,x,h1,h2=>by
  simp at h1 h2;subst h1 h2;simp[qbV,zx]
 | c::A,y::l,p+1,x,h1,h2=>by
  have:=ql4 (A:=A) (l:=l) (p:=p) (x:=x) (by simpa using h1) (by simpa using h2);unfold zx at this ⊢;rw[List.take_succ_cons,List.countP_cons];cases c<;>simpa[qbV] using this
theorem qgY{α:Type}:∀{A:List Bool} {l:List α} {q:Nat} {x:α},(qbV A l)[q]?=some x->∃p,A[p]?=some true∧l[p]?=some x∧zx A p=q
 | [],_,_,_,h=>by simp[qbV] at h
 | _::_,[],_,_,h=>by simp[qbV] at h
 | c::A,y::l,q,x,h=>by
  cases c with
  | false =>
   obtain⟨p,h1,h2,h3⟩:=qgY (A:=A) (l:=l) (q:=q) (x:=x) (by simpa[qbV] using h);refine⟨p+1,by simpa using h1,by simpa using h2,?_⟩
   unfold zx at h3 ⊢;rw[List.take_succ_cons,List.countP_cons];simpa using h3
  | true =>
   cases q with
   | zero=>simp[qbV] at h;subst h;exact⟨0,rfl,rfl,by simp[zx]⟩
   | succ q =>
    obtain⟨p,h1,h2,h3⟩:=qgY (A:=A) (l:=l) (q:=q) (x:=x) (by simpa[qbV] using h);refine⟨p+1,by simpa using h1,by simpa using h2,?_⟩
    unfold zx at h3 ⊢;rw[List.take_succ_cons,List.countP_cons];simpa using h3
theorem ql5{α:Type}:∀{A:List Bool} {l:List α},A.length=l.length->(qbV A l).length=zx A A.length
 | [],[],_=>rfl
 | [],_::_,h=>by simp at h
 | _::_,[],h=>by simp at h
 | c::A,y::l,h=>by
  have:=ql5 (A:=A) (l:=l) (by simpa using h);unfold zx at this ⊢;rw[List.length_cons,List.take_succ_cons,List.countP_cons];cases c<;>simp[qbV,this]
theorem qgS:(qea l).length=zx (zh l) l.length:=by
 unfold qea;have hA:(zh l).length=l.length:=qa9;rw[ql5 (by rw[List.length_map,hA]),hA]
theorem qpf:(qea l).length<=l.length:=by rw[qgS];exact qiI
theorem qfC{p:Nat}{x:Sy}(ha:(zh l)[p]?=some true)(hx:l[p]?=some x):(qea l)[zx (zh l) p]?=some (qaR (zx (zh l)) x) :=
 ql4 ha (by rw[List.getElem?_map,hx];rfl)
theorem qrO(h:MayL l):MayL (qea l):=by
 have hA:(zh l).length=l.length:=qa9;have h0:=qnO h.pos;have hp:0<(qea l).length:=by rw[qgS];exact Nat.lt_of_le_of_lt (Nat.zero_le _) (qhc h0 h.pos)
 have idx:∀{q:Nat} {s:Sy},(qea l)[q]?=some s->∃p x,(zh l)[p]?=some true∧l[p]?=some x∧zx (zh l) p=q∧s=qaR (zx (zh l)) x:=fun {q s} hq=>by
  obtain⟨p,h1,h2,h3⟩:=qgY hq;rw[List.getElem?_map] at h2;obtain⟨x,hx,rfl⟩:=Option.map_eq_some_iff.1 h2;exact⟨p,x,h1,hx,h3,rfl⟩
 refine⟨hp,Nat.le_trans qpf h.big,?_,fun j s hj=>?_⟩
 ·obtain⟨p,x,q1,q2,q3,q4⟩:=idx (zzE (i:=(qea l).length-1) (by omega));refine⟨_,zzE (by omega),?_⟩;rw[q4];show x.code=6;apply Decidable.byContradiction;intro h6
  have hs:∃t,Suc x p t:=by
   by_cases hj:qa7 x
   ·exact⟨_,.inr (.inl ⟨hj,rfl⟩)⟩
   ·exact⟨_,.inl ⟨h6,hj,rfl⟩⟩
  obtain⟨t,ht⟩:=hs;have t1:=qlj h q2 ht;have t2:=qch h q2 ht q1;have t3:=qhc q1 t1.1;have t4:=qhc t2 t1.2;rw[← qgS] at t4;omega
 ·obtain⟨p,x,q1,q2,q3,rfl⟩:=idx hj;have hm:=h.all p x q2
  have go:∀t,Suc x p t->j<zx (zh l) t∧zx (zh l) t<(qea l).length:=fun t ht=>by
   have t1:=qlj h q2 ht;have t2:=qch h q2 ht q1;rw[qgS,← q3];exact⟨qhc q1 t1.1,qhc t2 t1.2⟩
  rcases hm with q|q|⟨q,z1,z2,z3,z4⟩|⟨q,z1,z2,z3,z4⟩
  ·rw[xM (xh (.inl q.1))];exact .inl q
  ·rw[xM (xh (.inr q.1))];exact .inr (.inl q)
  ·have hjm:qa7 x:=by unfold qa7;rw[q];exact qc8.2.2.2
   rw[qfF q];obtain⟨t1,t2⟩:=go x.th (.inr (.inl ⟨hjm,rfl⟩));exact .inr (.inr (.inl ⟨q,z1,z2,t1,t2⟩))
  ·have ha:=qad q;rw[qfG q];obtain⟨t1,t2⟩:=go x.th (.inr (.inl ⟨ha.1,rfl⟩));obtain⟨t3,t4⟩:=go x.el (.inr (.inr ⟨⟨ha.1,ha.2.1⟩,rfl⟩));exact .inr (.inr (.inr ⟨q,t1,t2,t3,t4⟩))
theorem quO(h:MayL l):∀{p:Nat} {a:Int},Ev l d p a r->(zh l)[p]?=some true->Ev (qea l) d (zx (zh l) p) a r:=by
 intro p a he
 induction he with
 | ld p a r s hs hc _ ih =>
  intro ha;have hn:=qch h hs (t:=p+1) (.inl ⟨by omega,xh (.inl hc),rfl⟩) ha
  have e:=qc9 ha;rw[if_pos rfl] at e;have ih:=ih hn;rw[e] at ih;have hg:=qfC ha hs;rw[xM (xh (.inl hc))] at hg;exact .ld _ _ _ s hg hc ih
 | an p a r s hs hc _ ih =>
  intro ha;have hn:=qch h hs (t:=p+1) (.inl ⟨by omega,xh (.inr (.inl hc)),rfl⟩) ha
  have e:=qc9 ha;rw[if_pos rfl] at e;have ih:=ih hn;rw[e] at ih;have hg:=qfC ha hs;rw[xM (xh (.inr (.inl hc)))] at hg;exact .an _ _ _ s hg hc ih
 | rt p a s hs hc =>
  intro ha;have hg:=qfC ha hs;rw[xM (xh (.inr (.inr hc)))] at hg;exact .rt _ _ s hg hc
 | ja p a r s hs hc _ ih =>
  intro ha;have hjm:qa7 s:=by unfold qa7;rw[hc];exact qc8.2.2.2
  have hg:=qfC ha hs;rw[qfF hc] at hg;exact .ja _ _ _ _ hg hc (ih (qch h hs (.inr (.inl ⟨hjm,rfl⟩)) ha))
 | jc p a r s hs hc _ ih =>
  intro ha;have hk:=qad hc;have h1:=qch h hs (t:=s.th) (.inr (.inl ⟨hk.1,rfl⟩)) ha;have h2:=qch h hs (t:=s.el) (.inr (.inr ⟨⟨hk.1,hk.2.1⟩,rfl⟩)) ha;have hg:=qfC ha hs;rw[qfG hc] at hg;refine .jc _ _ _ _ hg hc ?_;simp only;split
  ·rename_i q;rw[if_pos q] at ih;exact ih h1
  ·rename_i q;rw[if_neg q] at ih;exact ih h2
theorem qlR(h:MayL l):MayL (qdf l):=qrO (qgZ (qfR h))
theorem qsm:(qdf l).length<=l.length:=by
 unfold qdf;refine Nat.le_trans qpf ?_;rw[qsP,qfQ];exact Nat.le_refl _
theorem qvI(h:MayL l){a:Int}(he:Ev l d 0 a r):Ev (qdf l) d 0 a r:=by
 have h1:=qwe (qfR h) (qvZ h he);have h2:=quO (qgZ (qfR h)) h1 (qnO (qgZ (qfR h)).pos);unfold qdf;simpa[zx] using h2
end
def Go1(p:List Ins)(d:GData)(at':Nat)(a r:Int):Prop:=∀(n:Nat) (m:Mac) (bh:Int) (L:List Nat),m.a=a->m.over=false->p.length<at'+n->(qeI p d n m at' bh L).1=r∧(qeI p d n m at' bh L).2.2.2=0
section
variable {p:List Ins} {d:GData} {q:Nat} {a r k:Int}
theorem qju{i:Ins}(h:p[q]?=some i):q<p.length:=(zzS.1 h).1
theorem qgP{i:Ins}(h:p[q]?=some i){m:Mac}{n:Nat}{bh:Int}{L:List Nat}(he:(doR m i d).2.2=0)(ho:(doR m i d).1.over=false) :
  qeI p d (n+1) m q bh L=qeI p d n (doR m i d).1 (q+1+(doR m i d).2.1.toNat) (if qh i.code=4 then 42 else 46) (L++[q]):=by
 rw[qgc,h];simp only[he,ho,ne_eq,not_true,if_false,Bool.false_eq_true]
theorem qxS(h:p[q]?=some ⟨32,0,0,k⟩)(hk:k % 4=0∧0<=k∧k<64)(hn:Go1 p d (q+1) (wdD d k) r):Go1 p d q a r:=by
 intro n m bh L ha ho hl;have hq:=qju h;obtain⟨n,rfl⟩:∃n',n=n'+1:=⟨n-1,by omega⟩
 have e:doR m ⟨32,0,0,k⟩ d=({ m with a:=wdD d k },0,0):=by
  have e1:zI 32=true:=by decide
  have e2:qh 32=1:=by decide
  simp only[doR,e1,e2,qeS,qiP];simp[hk.1,show ¬64<=k from by omega,wdD]
 rw[qgP h (by rw[e]) (by rw[e];exact ho),e];exact hn n _ _ _ rfl ho (by omega)
theorem qxR(h:p[q]?=some ⟨84,0,0,k⟩)(hn:Go1 p d (q+1) (qdp .u32 a k) r):Go1 p d q a r:=by
 intro n m bh L ha ho hl;have hq:=qju h;obtain⟨n,rfl⟩:∃n',n=n'+1:=⟨n-1,by omega⟩
 have e:doR m ⟨84,0,0,k⟩ d=({ m with a:=qdp .u32 a k },0,0):=by
  have e1:zI 84=true:=by decide
  have e2:qh 84=3:=by decide
  have e3:zB 84=false:=by decide
  simp only[doR,e1,e2,nuM,qJ,zk,e3];simp[opM,ha]
 rw[qgP h (by rw[e]) (by rw[e];exact ho),e];exact hn n _ _ _ rfl ho (by omega)
theorem qxT(h:p[q]?=some ⟨6,0,0,k⟩):Go1 p d q a k:=by
 intro n m bh L ha ho hl;have hq:=qju h;obtain⟨n,rfl⟩:∃n',n=n'+1:=⟨n-1,by omega⟩
 have e:doR m ⟨6,0,0,k⟩ d=({ m with over:=true,told:=k },0,0):=by
  have e1:zI 6=true:=by decide
  have e2:qh 6=5:=by decide
  simp only[doR,e1,e2,qma];simp
 rw[qgc,h];simp[e]
theorem qoO(h:p[q]?=some ⟨5,0,0,k⟩)(hn:Go1 p d (q+1+k.toNat) a r):Go1 p d q a r:=by
 intro n m bh L ha ho hl;have hq:=qju h;obtain⟨n,rfl⟩:∃n',n=n'+1:=⟨n-1,by omega⟩
 have e:doR m ⟨5,0,0,k⟩ d=(m,k,0):=by
  have e1:zI 5=true:=by decide
  have e2:qh 5=4:=by decide
  simp only[doR,e1,e2,qgu];simp
 rw[qgP h (by rw[e]) (by rw[e];exact ho),e];exact hn n _ _ _ ha ho (by omega)
theorem qs8{c jt jf:Int}(hc:qcz c)(h:p[q]?=some ⟨c,jt,jf,k⟩)(hn:Go1 p d (q+1+(if qbN c a k=true then jt else jf).toNat) a r):Go1 p d q a r:=by
 intro n m bh L ha ho hl;have hq:=qju h;obtain⟨n,rfl⟩:∃n',n=n'+1:=⟨n-1,by omega⟩
 have e:doR m ⟨c,jt,jf,k⟩ d=(m,if qbN c a k=true then jt else jf,0):=by
  have e1:zI c=true:=by rcases hc with rfl|rfl|rfl|rfl<;>decide
  have e2:=(qad hc).1;have e3:zB c=false:=by rcases hc with rfl|rfl|rfl|rfl<;>decide
  have e4:=(qad hc).2.1;simp only[doR,e1,e2,qgu,e4,qJ,zk,e3,ha];simp
 rw[qgP h (by rw[e]) (by rw[e];exact ho),e];exact hn n _ _ _ ha ho (by omega)
end
section
variable {l:List Sy} {d:GData} {r:Int}
def bl(l:List Sy)(m:Nat):Nat:=(qT l m).1.length
theorem qfD{m:Nat}{x:Sy}(h:l[l.length-(m+1)]?=some x):qT l (m+1)=((qT l m).1++(xQ (bl l m) (qT l m).2 x).reverse,(qT l m).2.set (l.length-(m+1)) (bl l (m+1))):=by
 have e:qT l (m+1)=((qT l m).1++(xQ (qT l m).1.length (qT l m).2 x).reverse,(qT l m).2.set (l.length-(m+1)) ((qT l m).1++(xQ (qT l m).1.length (qT l m).2 x).reverse).length):=by
  conv=>lhs;unfold qT
  rw[h]
 have e2:bl l (m+1)=((qT l m).1++(xQ (qT l m).1.length (qT l m).2 x).reverse).length:=by unfold bl;rw[e]
 rw[e2];exact e
theorem qn3{m m':Nat}(h:m<=m'):∃R,(qT l m').1=(qT l m).1++R:=by
 induction m' with
 | zero=>rw[Nat.le_zero.1 h];exact⟨[],by simp⟩
 | succ m' ih =>
  rcases Nat.lt_or_ge m' m with q|q
  ·rw[show m=m'+1 by omega];exact⟨[],by simp⟩
  ·obtain⟨R,hR⟩:=ih q;cases hx:l[l.length-(m'+1)]? with
   | none =>
    refine⟨R,?_⟩
    conv=>lhs;unfold qT
    rw[hx];exact hR
   | some x=>rw[qfD hx];exact⟨R++_,by rw[hR,List.append_assoc]⟩
theorem qfm{m m':Nat}(h:m<=m'):bl l m<=bl l m':=by
 obtain⟨R,hR⟩:=qn3 (l:=l) h;unfold bl;rw[hR,List.length_append];omega
theorem qxv{m:Nat}(hm:m<=l.length){j:Nat}(h1:l.length-m<=j)(h2:j<l.length):(qT l m).2.getD j 0=bl l (l.length-j):=by
 induction m with
 | zero=>omega
 | succ m ih =>
  have hx:l[l.length-(m+1)]?=some l[l.length-(m+1)]:=zzE (by omega);rw[qfD hx,List.getD_eq_getElem?_getD,List.getElem?_set]
  by_cases e:l.length-(m+1)=j
  ·rw[if_pos e,if_pos (by rw[(qeu m).1];omega)]
   rw[show l.length-j=m+1 by omega];rfl
  ·rw[if_neg e,← List.getD_eq_getElem?_getD];exact ih (by omega) (by omega)
def plL(l:List Sy)(j:Nat):Nat:=bl l l.length-bl l (l.length-j)
def cdL(l:List Sy)(j:Nat)(x:Sy):List Ins:=xQ (bl l (l.length-(j+1))) (qT l (l.length-(j+1))).2 x
theorem qhu:(zW l).length=bl l l.length:=by unfold zW bl;rw[List.length_reverse]
theorem qet{j:Nat}{x:Sy}(hx:l[j]?=some x):bl l (l.length-j)=bl l (l.length-(j+1))+(cdL l j x).length∧∃A B,zW l=A++cdL l j x++B∧A.length=plL l j∧B.length=bl l (l.length-(j+1)):=by
 have hj:=(zzS.1 hx).1;have hx2:l[l.length-(l.length-(j+1)+1)]?=some x:=by rw[show l.length-(l.length-(j+1)+1)=j by omega];exact hx
 have h:=qfD hx2;have hm:l.length-(j+1)+1=l.length-j:=by omega
 rw[hm] at h;have h1:(qT l (l.length-j)).1=(qT l (l.length-(j+1))).1++(cdL l j x).reverse:=by rw[h];rfl
 obtain⟨R,hR⟩:=qn3 (l:=l) (m:=l.length-j) (m':=l.length) (by omega);have hb:bl l (l.length-j)=bl l (l.length-(j+1))+(cdL l j x).length:=by unfold bl;rw[h1,List.length_append,List.length_reverse]
 refine⟨hb,R.reverse,(qT l (l.length-(j+1))).1.reverse,?_,?_,?_⟩
 ·unfold zW;rw[hR,h1];simp
 ·unfold plL bl;rw[hR,List.length_append,List.length_reverse];omega
 ·rw[List.length_reverse];rfl
theorem qbT{j:Nat}{x:Sy}(hx:l[j]?=some x){i:Nat}{y:Ins}(hy:(cdL l j x)[i]?=some y):(zW l)[plL l j+i]?=some y:=by
 obtain⟨_,A,B,h1,h2,_⟩:=qet hx;rw[h1,← h2,List.append_assoc,List.getElem?_append_right (by omega),Nat.add_sub_cancel_left,List.getElem?_append_left (zzS.1 hy).1];exact hy
def dsL(l:List Sy)(j t:Nat):Nat:=bl l (l.length-(j+1))-bl l (l.length-t)
theorem qeM{j t:Nat}(h1:j<t)(h2:t<l.length):bl l (l.length-(j+1))-(qT l (l.length-(j+1))).2.getD t 0=dsL l j t:=by
 rw[qxv (by omega) (by omega) h2];rfl
theorem qfI{j:Nat}{x:Sy}(hx:l[j]?=some x){t:Nat}(h1:j<t):plL l j+(cdL l j x).length+dsL l j t=plL l t:=by
 have hb:=(qet hx).1;have b1:=qfm (l:=l) (m:=l.length-j) (m':=l.length) (by omega);have b2:=qfm (l:=l) (m:=l.length-t) (m':=l.length-(j+1)) (by omega);unfold plL dsL;omega
theorem qxG{j:Nat}:dsL l j (j+1)=0:=by unfold dsL;omega
theorem qrN(h:MayL l):∀{j:Nat} {a:Int},Ev l d j a r->Go1 (zW l) d (plL l j) a r:=by
 intro j a he
 induction he with
 | ld j a r x hx hc _ ih =>
  have hm:=h.all j x hx
  have hk:x.k % 4=0∧0<=x.k∧x.k<64:=by
   rcases hm with q|⟨q,_⟩|⟨q,_⟩|⟨q,_⟩
   ·exact q.2.2.2
   ·omega
   ·omega
   ·unfold qcz at q;omega
  have e:cdL l j x=[⟨32,0,0,x.k⟩]:=by unfold cdL xQ;rw[hc,if_neg (by decide),if_pos (by decide)]
  have hn:=qfI hx (t:=j+1) (by omega);rw[qxG,e] at hn;simp only[List.length_singleton,Nat.add_zero] at hn;exact qxS (qbT hx (i:=0) (by rw[e];rfl)) hk (by rw[Nat.add_zero,hn];exact ih)
 | an j a r x hx hc _ ih =>
  have e:cdL l j x=[⟨84,0,0,x.k⟩]:=by unfold cdL xQ;rw[hc,if_neg (by decide),if_pos (by decide)]
  have hn:=qfI hx (t:=j+1) (by omega);rw[qxG,e] at hn;simp only[List.length_singleton,Nat.add_zero] at hn;exact qxR (qbT hx (i:=0) (by rw[e];rfl)) (by rw[Nat.add_zero,hn];exact ih)
 | rt j a x hx hc =>
  have e:cdL l j x=[⟨6,0,0,x.k⟩]:=by unfold cdL xQ;rw[hc,if_neg (by decide),if_pos (by decide)]
  exact qxT (qbT hx (i:=0) (by rw[e];rfl))
 | ja j a r x hx hc _ ih =>
  have hm:=(h.all j x hx).ja hc;have e:cdL l j x=[⟨5,0,0,(dsL l j x.th:Nat)⟩]:=by unfold cdL xQ;rw[if_pos hc,qeM hm.2.2.1 hm.2.2.2]
  have hn:=qfI hx hm.2.2.1;rw[e] at hn;simp only[List.length_singleton] at hn;exact qoO (qbT hx (i:=0) (by rw[e];rfl)) (by rw[Nat.add_zero,Int.toNat_natCast,hn];exact ih)
 | jc j a r x hx hc _ ih =>
  have hm:=(h.all j x hx).jc hc;have hk:=qad hc;have n1:=qfI hx hm.1;have n2:=qfI hx hm.2.2.1
  by_cases hf:max (dsL l j x.th) (dsL l j x.el)<=255
  ·have e:cdL l j x=[⟨x.code,(dsL l j x.th:Nat),(dsL l j x.el:Nat),x.k⟩]:=by
    unfold cdL xQ;rw[if_neg hk.2.1,if_neg (fun q=>q hk.1),qeM hm.1 hm.2.1,qeM hm.2.2.1 hm.2.2.2,if_pos hf]
   rw[e] at n1 n2;simp only[List.length_singleton] at n1 n2;refine qs8 hc (qbT hx (i:=0) (by rw[e];rfl)) ?_
   by_cases q:qbN x.code a x.k=true
   ·rw[if_pos q] at ih ⊢;rw[Nat.add_zero,Int.toNat_natCast,n1];exact ih
   ·rw[if_neg q] at ih ⊢;rw[Nat.add_zero,Int.toNat_natCast,n2];exact ih
  ·have e:cdL l j x=[⟨x.code,0,1,x.k⟩,⟨5,0,0,(dsL l j x.th+1:Nat)⟩,⟨5,0,0,(dsL l j x.el:Nat)⟩]:=by
    unfold cdL xQ;rw[if_neg hk.2.1,if_neg (fun q=>q hk.1),qeM hm.1 hm.2.1,qeM hm.2.2.1 hm.2.2.2,if_neg hf]
   rw[e] at n1 n2;simp only[List.length_cons,List.length_nil] at n1 n2;refine qs8 hc (qbT hx (i:=0) (by rw[e];rfl)) ?_
   by_cases q:qbN x.code a x.k=true
   ·rw[if_pos q] at ih ⊢;refine qoO (k:=((dsL l j x.th+1:Nat):Int)) (qbT hx (i:=1) (y:=⟨5,0,0,(dsL l j x.th+1:Nat)⟩) (by rw[e];rfl)) ?_;rw[Int.toNat_natCast];have e2:plL l j+0+1+(0:Int).toNat+1+(dsL l j x.th+1)=plL l x.th:=by simp;omega
    rw[e2];exact ih
   ·rw[if_neg q] at ih ⊢;refine qoO (k:=((dsL l j x.el:Nat):Int)) (qbT hx (i:=2) (y:=⟨5,0,0,(dsL l j x.el:Nat)⟩) (by rw[e];rfl)) ?_;rw[Int.toNat_natCast];have e2:plL l j+0+1+(1:Int).toNat+1+dsL l j x.el=plL l x.el:=by simp;omega
    rw[e2];exact ih
theorem qm4(h:MayL l)(he:Ev l d 0 0 r):(qhM (zW l) d).1=r∧(qhM (zW l) d).2.2.2=0:=by
 have:=qrN h he;have e:plL l 0=0:=by unfold plL;rw[Nat.sub_zero];omega
 rw[e] at this;exact this _ _ _ _ rfl rfl (by omega)
end
def qc0(l:List Sy):Prop:=∀x ∈ l,0<=x.k∧x.k<=4294967295
section
variable {l:List Sy}
theorem qsG(h:qc0 l):qc0 (qdl l):=by
 intro x hx;unfold qdl at hx;obtain⟨y,hy,rfl⟩:=List.mem_map.1 hx;exact h y hy
theorem qjg(h:qc0 l):∀m,qc0 (qdm l m)
 | 0=>h
 | m+1=>by
  unfold qdm;split
  ·rename_i x hx;intro y hy;rcases List.mem_or_eq_of_mem_set hy with hy|rfl
   ·exact qjg h m y hy
   ·have hk:=h x (zzM hx);unfold qaU;split
    ·exact⟨Int.le_refl 0,show (0:Int)<=4294967295 by decide⟩
    ·exact hk
  ·exact qjg h m
theorem qsn(h:qc0 l):qc0 (qdf l):=by
 intro x hx;unfold qdf qea at hx;obtain⟨q,hq⟩:=List.getElem?_of_mem hx;obtain⟨p,_,h2,_⟩:=qgY hq;rw[List.getElem?_map] at h2;obtain⟨y,hy,rfl⟩:=Option.map_eq_some_iff.1 h2;exact qjg (qsG h) _ y (zzM hy)
theorem qlt(h:MayL l):∀{m:Nat},m<=l.length->∀{b:Nat} {i:Ins},(qT l m).1[b]?=some i->∃(j:Nat) (x:Sy) (e:Nat),l[j]?=some x∧(cdL l j x)[e]?=some i∧b+e+1=bl l (l.length-j)
 | 0,_,b,i,hb=>by simp[qT] at hb
 | m+1,hm,b,i,hb=>by
  have hx:l[l.length-(m+1)]?=some l[l.length-(m+1)]:=zzE (by omega);have hs:=qfD hx;have hcd:cdL l (l.length-(m+1)) l[l.length-(m+1)]=xQ (bl l m) (qT l m).2 l[l.length-(m+1)]:=by unfold cdL;rw[show l.length-(l.length-(m+1)+1)=m by omega]
  have h1:(qT l (m+1)).1=(qT l m).1++(cdL l (l.length-(m+1)) l[l.length-(m+1)]).reverse:=by rw[hs,hcd]
  rw[h1,List.getElem?_append] at hb;split at hb
  ·exact qlt h (by omega) hb
  ·rename_i hlt;have hbl:(qT l m).1.length=bl l m:=rfl;rw[hbl] at hlt hb;have hc:=(qet hx).1;rw[show l.length-(l.length-(m+1))=m+1 by omega,show l.length-(l.length-(m+1)+1)=m by omega] at hc
   have hlen:=(zzS.1 hb).1;rw[List.length_reverse] at hlen;rw[List.getElem?_reverse hlen] at hb;exact⟨_,_,_,hx,hb,by rw[show l.length-(l.length-(m+1))=m+1 by omega];omega⟩
theorem qpb(h:MayL l){k:Nat}{i:Ins}(hk:(zW l)[k]?=some i):∃(j:Nat) (x:Sy) (e:Nat),l[j]?=some x∧(cdL l j x)[e]?=some i∧(zW l).length-1-k+e+1=bl l (l.length-j):=by
 have hl:=(zzS.1 hk).1;have e:=hk;unfold zW at e;rw[List.getElem?_reverse (by unfold zW at hl;simpa using hl)] at e;obtain⟨j,x,e,h1,h2,h3⟩:=qlt h (Nat.le_refl _) e;refine⟨j,x,e,h1,h2,?_⟩;rw[qhu];exact h3
structure LkOk (i:Ins) (n:Nat):Prop where
 ok:InsOk i
 one:qe8 i n=0
 c:i.code≠96∧i.code≠97
theorem qiB(h:MayL l){t:Nat}(ht:t<l.length):0<bl l (l.length-t):=by
 have hx:l[t]?=some l[t]:=zzE ht;have h1:=(qet hx).1;have h2:=(qkc (n:=bl l (l.length-(t+1))) (pl:=(qT l (l.length-(t+1))).2) (x:=l[t])).2;have:(cdL l t l[t]).length=(xQ (bl l (l.length-(t+1))) (qT l (l.length-(t+1))).2 l[t]).length:=rfl;omega
theorem qlH{c k:Int}{n:Nat}(hc:c=32∧k % 4=0∧k<64∨c=84∨c=6)(hk:0<=k∧k<=4294967295):LkOk ⟨c,0,0,k⟩ n:=by
 have hc2:c=32∨c=84∨c=6:=by rcases hc with h|h|h<;>simp[h]
 have b1:zI c=true:=by rcases hc2 with rfl|rfl|rfl<;>decide
 have b2:qh c≠2∧qh c≠4:=by rcases hc2 with rfl|rfl|rfl<;>decide
 refine⟨⟨show (0:Int)<=c by omega,show c<=65535 by omega,Int.le_refl 0,show (0:Int)<=255 by decide,Int.le_refl 0,show (0:Int)<=255 by decide,hk.1,hk.2⟩,?_,show c≠96∧c≠97 by omega⟩
 have a1:qg5 ⟨c,0,0,k⟩=false:=by simp[qg5,b1]
 have a2:qaM ⟨c,0,0,k⟩=false:=by
  rcases hc with⟨h1,h2,h3⟩|h|h
  ·simp[qaM,h2,show ¬64<=k from by omega]
  ·simp[qaM,h]
  ·simp[qaM,h]
 have a3:qbF ⟨c,0,0,k⟩=false:=by simp[qbF,b2.1,show c≠96 from by omega,show c≠97 from by omega]
 have a4:qbG ⟨c,0,0,k⟩=false:=by simp[qbG,show c≠52 from by omega]
 have a5:qbH ⟨c,0,0,k⟩=false:=by simp[qbH,show c≠100 from by omega,show c≠116 from by omega]
 have a6:qbI ⟨c,0,0,k⟩ n=false:=by simp[qbI,b2.2,show c≠5 from by omega]
 simp[qe8,a1,a2,a3,a4,a5,a6]
theorem qph{k n:Nat}(h:k<n)(hn:k<=1000000):LkOk ⟨5,0,0,(k:Int)⟩ n:=by
 refine⟨⟨show (0:Int)<=5 by decide,show (5:Int)<=65535 by decide,Int.le_refl 0,show (0:Int)<=255 by decide,Int.le_refl 0,show (0:Int)<=255 by decide,show (0:Int)<=k by omega,show (k:Int)<=4294967295 by omega⟩,?_,show (5:Int)≠96∧(5:Int)≠97 by decide⟩
 have a1:qg5 ⟨5,0,0,k⟩=false:=by
  have:zI 5=true:=by decide
  simp[qg5,this]
 have a2:qaM ⟨5,0,0,k⟩=false:=by simp[qaM]
 have a3:qbF ⟨5,0,0,k⟩=false:=by
  have:qh 5≠2:=by decide
  simp[qbF,this]
 have a4:qbG ⟨5,0,0,k⟩=false:=by simp[qbG]
 have a5:qbH ⟨5,0,0,k⟩=false:=by simp[qbH]
 have a6:qbI ⟨5,0,0,k⟩ n=false:=by simp[qbI];omega
 simp[qe8,a1,a2,a3,a4,a5,a6]
theorem qtd{c k:Int}{jt jf n:Nat}(hc:qcz c)(hk:0<=k∧k<=4294967295)(h1:jt<=255)(h2:jf<=255)(h3:jt<n)(h4:jf<n):LkOk ⟨c,jt,jf,k⟩ n:=by
 have b1:zI c=true:=by rcases hc with rfl|rfl|rfl|rfl<;>decide
 have b2:qh c≠2:=by rw[(qad hc).1];decide
 have b3:c≠32∧c≠96∧c≠97∧c≠52∧c≠100∧c≠116∧c≠5∧0<=c∧c<=65535:=by rcases hc with rfl|rfl|rfl|rfl<;>decide
 refine⟨⟨b3.2.2.2.2.2.2.2.1,b3.2.2.2.2.2.2.2.2,by simp only;omega,by simp only;omega,by simp only;omega,by simp only;omega,hk.1,hk.2⟩,?_,⟨b3.2.1,b3.2.2.1⟩⟩
 have a1:qg5 ⟨c,jt,jf,k⟩=false:=by simp[qg5,b1]
 have a2:qaM ⟨c,jt,jf,k⟩=false:=by simp[qaM,b3.1]
 have a3:qbF ⟨c,jt,jf,k⟩=false:=by simp[qbF,b2,b3.2.1,b3.2.2.1]
 have a4:qbG ⟨c,jt,jf,k⟩=false:=by simp[qbG,b3.2.2.2.1]
 have a5:qbH ⟨c,jt,jf,k⟩=false:=by simp[qbH,b3.2.2.2.2.1,b3.2.2.2.2.2.1]
 have a6:qbI ⟨c,jt,jf,k⟩ n=false:=by
  have:¬(n:Int)<=hiM ⟨c,jt,jf,k⟩:=by unfold hiM;simp only;split<;>omega
  simp only[qbI,if_neg b3.2.2.2.2.2.2.1,this,decide_false,Bool.and_false]
 simp[qe8,a1,a2,a3,a4,a5,a6]
theorem qiW(h:MayL l)(hr:qc0 l){k:Nat}{i:Ins}(hk:(zW l)[k]?=some i):LkOk i ((zW l).length-1-k):=by
 obtain⟨j,x,e,hx,he,hb⟩:=qpb h hk;have hm:=h.all j x hx;have hxr:=hr x (zzM hx);have hbl:=(qet hx).1;have hbig:bl l (l.length-j)<=3*l.length:=Nat.le_trans (qeu (l:=l) (l.length-j)).2.2 (by omega);have hbig2:=h.big
 have one:∀{y:Ins},cdL l j x=[y]->i=y∧(zW l).length-1-k=bl l (l.length-(j+1)):=fun {y} hy=>by
  rw[hy] at he hbl;cases e with
  | zero=>simp at he;simp at hbl;exact⟨he.symm,by omega⟩
  | succ e=>simp at he
 rcases hm with⟨q,_,_,q1,q2,q3⟩|⟨q,_⟩|⟨q,_,_,q3,q4⟩|⟨q,q1,q2,q3,q4⟩
 ·obtain⟨e1,_⟩:=one (y:=⟨x.code,0,0,x.k⟩) (by unfold cdL xQ;rw[q,if_neg (by decide),if_pos (by decide)])
  rw[e1];exact qlH (.inl ⟨q,q1,q3⟩) hxr
 ·obtain⟨e1,_⟩:=one (y:=⟨x.code,0,0,x.k⟩) (by unfold cdL xQ;rcases q with q|q<;>rw[q,if_neg (by decide),if_pos (by decide)])
  rw[e1];exact qlH (.inr q) hxr
 ·obtain⟨e1,e2⟩:=one (y:=⟨5,0,0,(dsL l j x.th:Nat)⟩) (by unfold cdL xQ;rw[if_pos q,qeM q3 q4]);have hp:=qiB h q4;have hmn:=qfm (l:=l) (m:=l.length-x.th) (m':=l.length-(j+1)) (by omega);rw[e1,e2];unfold dsL;exact qph (by omega) (by omega)
 ·have hp:=qiB h q2;have hp2:=qiB h q4;have hmn:=qfm (l:=l) (m:=l.length-x.th) (m':=l.length-(j+1)) (by omega);have hmn2:=qfm (l:=l) (m:=l.length-x.el) (m':=l.length-(j+1)) (by omega);have hkk:=qad q;have d1:dsL l j x.th<bl l (l.length-(j+1)):=by unfold dsL;omega
  have d2:dsL l j x.el<bl l (l.length-(j+1)):=by unfold dsL;omega
  by_cases hf:max (dsL l j x.th) (dsL l j x.el)<=255
  ·obtain⟨e1,e2⟩:=one (y:=⟨x.code,(dsL l j x.th:Nat),(dsL l j x.el:Nat),x.k⟩) (by
    unfold cdL xQ;rw[if_neg hkk.2.1,if_neg (fun z=>z hkk.1),qeM q1 q2,qeM q3 q4,if_pos hf])
   rw[e1,e2];exact qtd q hxr (by omega) (by omega) d1 d2
  ·have e3:cdL l j x=[⟨x.code,0,1,x.k⟩,⟨5,0,0,(dsL l j x.th+1:Nat)⟩,⟨5,0,0,(dsL l j x.el:Nat)⟩]:=by
    unfold cdL xQ;rw[if_neg hkk.2.1,if_neg (fun z=>z hkk.1),qeM q1 q2,qeM q3 q4,if_neg hf]
   rw[e3] at he hbl;simp only[List.length_cons,List.length_nil] at hbl
   match e,he,hb with
   | 0,he,hb =>
    simp at he;subst he;exact qtd (jt:=0) (jf:=1) q hxr (by omega) (by omega) (by omega) (by omega)
   | 1,he,hb =>
    simp only[List.getElem?_cons_succ,List.getElem?_cons_zero,Option.some.injEq] at he;subst he;exact qph (by omega) (by omega)
   | 2,he,hb =>
    simp only[List.getElem?_cons_succ,List.getElem?_cons_zero,Option.some.injEq] at he;subst he;exact qph (by omega) (by omega)
   | e+3,he,hb=>simp at he
theorem qm2(h:MayL l):qih (zW l)=6:=by
 obtain⟨s,hs,h6⟩:=h.last;have hp:=h.pos;obtain⟨hb,A,B,h1,h2,h3⟩:=qet hs;have e:cdL l (l.length-1) s=[⟨6,0,0,s.k⟩]:=by unfold cdL xQ;rw[h6,if_neg (by decide),if_pos (by decide)]
 have hB:B=[]:=by
  apply List.eq_nil_of_length_eq_zero;rw[h3,show l.length-(l.length-1+1)=0 by omega];rfl
 rw[e,hB,List.append_nil] at h1;unfold qih;rw[h1];simp
theorem qpd(h:MayL l):0<(zW l).length:=by
 rw[qhu];have:=qiB h h.pos;simpa using this
theorem qpc:(zW l).length<=3*l.length:=by rw[qhu];exact (qeu (l:=l) l.length).2.2
theorem qm1(h:MayL l)(hr:qc0 l)(hl:(zW l).length<=4096):PrgGood (zW l) :=
 ⟨hl,by have:=qpd h;omega,fun i hi=>by obtain⟨k,hk⟩:=List.getElem?_of_mem hi;exact (qiW h hr hk).ok,fun k i hk=>(qiW h hr hk).one,by rw[qm2 h];decide⟩
-- no cell is read
theorem qwm{i:Ins}(hi:i.code≠96∧i.code≠97){x:BitVec 16}{j:Nat}{L:List Nat}:qwl i x j L=L:=by
 unfold qwl;simp[rdM,hi.1,hi.2]
theorem qtv{n:Nat}:∀{p:List Ins} {j:Nat} {st:WSt},(∀i ∈ p,i.code≠96∧i.code≠97)->(wkM n j p st).1=st.1
 | [],_,_,_=>rfl
 | i::p,j,st,h=>by
  unfold wkM;rw[qtv (fun y hy=>h y (List.mem_cons_of_mem _ hy))]
  unfold stM;split
  ·exact qwm (h i (List.mem_cons_self ..))
  ·rfl
theorem qqh{rch:List Bool}{sur:List (BitVec 16)}:∀{p:List Ins} {j:Nat} {L:List Nat},(∀i ∈ p,i.code≠96∧i.code≠97)->qgh rch sur j p L=L
 | [],_,_,_=>rfl
 | i::p,j,L,h=>by
  unfold qgh;have hi:=h i (List.mem_cons_self ..);rw[qqh (fun y hy=>h y (List.mem_cons_of_mem _ hy)),if_neg (by simp[unC,rdC,hi.1,hi.2])]
theorem qjw{n:Nat}:∀{p:List Ins} {j:Nat},(∀(k:Nat) i,p[k]?=some i->qe8 i (n-1-(j+k))=0)->qgi n j p=none
 | [],_,_=>rfl
 | i::p,j,h=>by
  rw[qg6,if_pos (by simpa using h 0 i rfl)];exact qjw fun k i hk=>by have:=h (k+1) i (by simpa using hk);rw[show j+1+k=j+(k+1) by omega];exact this
theorem qrt{p:List Ins}(h:PrgGood p):atU p []=(0,0):=by
 unfold atU;rw[if_neg (by have:=h.ne;have:=h.len;omega),qjw (fun k i hk=>by rw[Nat.zero_add];exact h.one k i hk)]
 simp[h.last]
theorem qpe(h:MayL l)(hr:qc0 l):qyz (zW l)=[]∧qgg (zW l)=[]:=by
 have hc:∀i ∈ zW l,i.code≠96∧i.code≠97:=fun i hi=>by obtain⟨k,hk⟩:=List.getElem?_of_mem hi;exact (qiW h hr hk).c
 exact⟨qtv hc,qqh hc⟩
end
structure FilU (x:GFil):Prop where
 d:0<=x.dflt∧x.dflt<=4294967295
 r:∀r ∈ x.rules,0<=r.act∧r.act<=4294967295
 t:∀r ∈ x.rules,∀t ∈ r.tests,0<=t.act∧t.act<=4294967295
theorem qc0.app{a b:List Sy}(h1:qc0 a)(h2:qc0 b):qc0 (a++b):=fun x hx=>by
 rcases List.mem_append.1 hx with h|h
 ·exact h1 x h
 ·exact h2 x h
theorem qc0.nil:qc0 []:=fun x hx=>by cases hx
theorem qc0.cons{s:Sy}{l:List Sy}(h1:0<=s.k∧s.k<=4294967295)(h2:qc0 l):qc0 (s::l):=fun x hx=>by
 rcases List.mem_cons.1 hx with rfl|h
 ·exact h1
 ·exact h2 x h
theorem r0:(0:Int)<=0∧(0:Int)<=4294967295:=⟨by decide,by decide⟩
section
variable {x:GFil}
end
section
variable {x:GFil}
end
structure PrgT (p:List Ins) (n:Nat) (den:GData->Int):Prop where
 good:PrgGood p
 um:qyz p=[]
 ud:qgg p=[]
 len:p.length<=3*n
 tells:∀d,DatOk d->(qhM p d).1=den d∧(qhM p d).2.2.2=0
def qkD(a:List Ins×Int)(n:Nat)(den:GData->Int):Prop:=(a.2=270∧a.1=[]∧1365<n)∨(a.2=0∧PrgT a.1 n den)
theorem qpa{l:List Sy}{n:Nat}{den:GData->Int}(h:MayL l)(hr:qc0 l)(hl:l.length<=n)(he:∀d,DatOk d->Ev l d 0 0 (den d)):qkD (xP l) n den:=by
 have h3:=qpc (l:=l);unfold xP
 by_cases hb:4096<(zW l).length
 ·rw[if_pos hb];exact .inl ⟨rfl,rfl,by omega⟩
 ·rw[if_neg hb];have hu:=qpe h hr;exact .inr ⟨rfl,qm1 h hr (by omega),hu.1,hu.2,by simp only;omega,fun d hd=>qm4 h (he d hd)⟩
section
variable {x:GFil}
theorem qsF{u v:List Ins×Int}{n:Nat}{den:GData->Int}(hu:qkD u n den)(hv:qkD v n den):qkD (qfd u v) n den:=by
 unfold qfd;split
 ·exact hu
 ·exact hv
end
end Go.Kc
end
section
namespace Go.Kc
variable {P:Program} {f:Nat}
def qsX(P:Program)(g:Nat):Prop:=∀l,MayL l->qg P g [.fz l.length (rSy l)] (qg3 l)
def qxz(P:Program)(g:Nat):Prop:=∀l,MayL l->qg P g [.fz l.length (rSy l)] (.tup [.fz (qdf l).length (rSy (qdf l)),.i .i64 0])
theorem qy7{g1 g2 gM gB gi go:Nat}(hc:qd P f (qdA g1 g2)=true)(h1:qd P g1 (qcp gM gB go)=true)(h2:qd P g2 zj=true)(hM:∀l,MayL l->qg P gM [.fz l.length (rSy l)] (.b true))
  (hB1:∀l:List Sy,qg P gB [.fz l.length (rSy l)] (.fn gi [] [.pf [.fz l.length (rSy l)] 0])) (hi1:qd P gi qx=true) (ho:qqV P go):qsX P f:=fun l hl =>
 qm3 hc l (by have:=hl.big;omega) (fun k hk=>qm6 h1 l (hM l hl) hB1 hi1 ho (by have:=hl.big;omega) hl.hin hk) fun s b tr p hp k hb hk=>qlg h2 p hp hb hk
theorem qzG{gD gO gP gB gi:Nat}(hc:qd P f (qaP gD gP gO)=true)(hD:qd P gD zL=true)(hO:cOf P gO)(hP:qd P gP (xL gB)=true)
  (hB:∀l:List Ins,qg P gB [.fz l.length (rP l)] (.fn gi [] [.pf [.fz l.length (rP l)] 0])) (hi:qd P gi qz=true):qqV P f:=fun kb n s bb bp back pl tr far k h x hb hj hk =>
 qvm hc hD hO hP hB hi h x hb hj hk
theorem qzH{g1 g2 gM gs gt gl s1 s2 t1 t2 ti v1 v2 h1 h2 h3:Nat}(hc:qd P f (qe1 g1 g2)=true)(hp:qd P g1 (qcQ gs gt gl)=true)(hd:qd P g2 (qd8 gM)=true)(hM:∀l,MayL l->qg P gM [.fz l.length (rSy l)] (.b true))
  (hs:qd P gs (qcR s1 s2)=true) (hs1:qd P s1 qb1=true) (hm:qd P s2 (xn h1 h2 h3)=true) (c1:qdt P h1 4 24) (c2:cOf P h2) (c3:qd1 P h3)
  (ht:qd P gt (qb2 h1 t1 t2 s2 h3)=true) (ht1:qd P t1 qag=true) (hB:∀l:List Sy,qg P t2 [.fz l.length (rSy l)] (.fn ti [] [.pf [.fz l.length (rSy l)] 0])) (hi:qd P ti qx=true)
  (hl:qd P gl (qcP v1 v2 s2)=true) (hv1:qd P v1 (qdB h2 h3)=true) (hv2:qd P v2 qaK=true):qxz P f:=fun l h=>by
 have m1:=qfR h;have m2:=qgZ m1;have b0:=h.big;have b1:=m1.big;have b2:=m2.big
 exact qpR hc (qkm hp) l (qdf l) (qsk hd l (qdl l) (qje (qdl l)) (qdf l) (hM l h) (qkt hs hs1 hm c1 c2 c3 l (by omega) h.in)
  (qh2 ht c1 ht1 hB hi hm c1 c2 c3 c3 (qdl l) (by omega) m1.in) (qkb hl hv2 hm c1 c2 c3 (qje (qdl l)) (qkG hv1 c2 c3 _ (by omega) m2.pos m2.in m2.on) (by omega) m2.in))
structure FilB (x:GFil):Prop where
 l:x.rules.length<=4398046511104
 t:∀r ∈ x.rules,r.tests.length<=4398046511104
def qa3(a:Nat):IFn:=⟨[.tmp 2],.seq (.r [.m 2 .F]) (.seq (.r [.n 6 0,.l 7 a [.t 6],.n 5 7,.x 8 5 0,.x 9 5 1,.n 3 8,.n 4 9]) (.seq (.r [.n 10 4,.w 11 .eql 10 0,.n 2 11]) (.ret)))⟩
theorem qwb{g:Nat}(hc:qd P f (qa3 g)=true)(hg:qsW P g)(p:List Ins)(hp:PrgGood p)(hu:qgg p=[]):qg P f [.fz p.length (rP p)] (.b true):=by
 have h:=hg p hp.ins (by have:=hp.len;omega)
 rw[hu,qrt hp] at h;refine qg.mk hc (by simp[qF,clo,qm]) ?_;simp only[qa3,vI,simprocAttr];simp +decide only[↓vS,vT,simprocAttr];refine h.sc ?_;simp +decide only[↓vS,vT,simprocAttr];simp[vZ]
def qa4(a:Nat):IFn:=⟨[.tmp 6],.seq (.r [.q 4 (.box (.t 1)),.m 6 .F]) (.seq (.r [.n 12 0,.v 13 9 4,.l 14 a [.t 12,.t 13],.n 11 14,.x 15 11 0,.x 16 11 1,.x 17 11 2,.x 18 11 3,.n 7 15,.n 8 16,.n 9 17,.n 10 18]) (.seq (.r [.n 19 10,.w 20 .eql 19 0,.n 21 20,.y 22 7 21,.y 23 2 21,.g 24 (.bin .eql (.t 22) (.t 23)) 21 true,.p 25 21 24,.n 6 25]) (.ret)))⟩
def qt4(P:Program)(g:Nat):Prop:=∀p:List Ins,p.length<=4096->(∀i ∈ p,InsOk i)->∀d,DatOk d->qg P g [.fz p.length (rP p),.agg (qL d)] (qsz p d)
theorem qwc{g:Nat}(hc:qd P f (qa4 g)=true)(hg:qt4 P g)(p:List Ins)(hp:PrgGood p)(d:GData)(hd:DatOk d)(w:Int)(h1:(qhM p d).1=w)(h2:(qhM p d).2.2.2=0):qg P f [.fz p.length (rP p),.agg (qL d),.i .u32 w] (.b true):=by
 have h:=hg p hp.len hp.ins d hd;unfold qsz at h;rw[show qeI p d (p.length+1) qhv 0 46 []=qhM p d from rfl,h1,h2] at h
 refine qg.mk hc (by simp[qF,clo,qm,qcC]) ?_;simp only[qa4,qL,vI,simprocAttr] at h ⊢;simp +decide only[↓vS,vT,simprocAttr];refine h.sc ?_;simp +decide only[↓vS,vT,simprocAttr];simp[vZ]
def qaE:IFn:=⟨[.tmp 0],.seq (.r [.m 0 .N]) (.seq (.r [.q 1 (.buildS 6 [.i .u32 0] [(0,1,(.c (.i .u32 3221225534))),(1,1,(.c (.i .u32 1073741827))),(2,1,(.c (.i .u32 3221225534))),(3,1,(.c (.i .u32 1073741864))),(4,1,(.c (.i .u32 3221225655))),(5,1,(.c (.i .u32 3221225715)))]),.n 0 1]) (.ret))⟩
def qei:List Int:=[3221225534,1073741827,3221225534,1073741864,3221225655,3221225715]
theorem qyt(hc:qd P f qaE=true):qg P f [] (.fz 6 (rI .u32 qei)):=by
 refine qg.mk hc rfl ?_;simp only[qaE,vI,simprocAttr];simp only[↓vS,vT,simprocAttr];refine .cut 1 rfl (Nat.le_refl _) ?_;simp[vw,rI,qei]
def qvj(t n:Int):Int×Bool:=if t=3221225534 then (if n / 1073741824 % 2=1 then (2,true) else (0,true)) else if qbO (fun c=>decide (c=t)) qei 0<0 then (0,false) else (qbO (fun c=>decide (c=t)) qei 0,true)
theorem qvk{t n:Int}(h0:0<=n)(h1:n<=4294967295):qvj t n=ofM t n:=by
 have hz:(qdp .u32 n 1073741824≠0)↔n / 1073741824 % 2=1:=by
  obtain⟨a,rfl⟩:=Int.eq_ofNat_of_zero_le h0;have:=qkH (a:=a) (b:=1073741824) (by omega) (by decide);rw[show ((1073741824:Nat):Int)=1073741824 from rfl] at this
  rw[this];have ht:a.testBit 30=decide (a / 1073741824 % 2=1):=by rw[Nat.testBit_eq_decide_div_mod_eq]
  have e:a &&& 1073741824≠0↔a / 1073741824 % 2=1:=by
   have hb:∀i,(a &&& 1073741824).testBit i=(a.testBit i&&decide (30=i)):=fun i=>by
    rw[Nat.testBit_and,show (1073741824:Nat)=2 ^ 30 from rfl,Nat.testBit_two_pow]
   constructor
   ·intro h;apply Decidable.byContradiction;intro hn;refine h (Nat.eq_of_testBit_eq fun i=>?_)
    rw[hb,Nat.zero_testBit]
    by_cases hi:30=i
    ·subst hi;rw[ht];simp[hn]
    ·simp[hi]
   ·intro h h0;have:=hb 30;rw[h0,ht] at this;simp[h] at this
  omega
 unfold qvj ofM
 by_cases k1:t=3221225534
 ·subst k1;have e:qbO (fun x:List UInt8×Int=>decide (x.2=3221225534)) zJ 0=0:=by decide
  rw[if_pos rfl,e]
  by_cases hb:n / 1073741824 % 2=1
  ·rw[if_pos hb,if_neg (by decide),if_pos ⟨rfl,hz.2 hb⟩]
  ·rw[if_neg hb,if_neg (by decide),if_neg (fun z=>hb (hz.1 z.2))]
 by_cases k2:t=1073741827
 ·subst k2;rfl
 by_cases k3:t=1073741864
 ·subst k3;rfl
 by_cases k4:t=3221225655
 ·subst k4;rfl
 by_cases k5:t=3221225715
 ·subst k5;rfl
 rw[if_neg k1];simp only[qei,zJ,qbO,decide_eq_true_eq,eq_comm (b:=t),k1,k2,k3,k4,k5,if_false];simp
def qbR(a:Nat):IFn:=⟨[.tmp 4,.tmp 5],.seq (.r [.m 4 (.k 0),.m 5 .F]) (.seq (.r [.l 8 a [],.n 6 8]) (.seq (.seq (.r [.n 9 0,.n 10 6,.q 11 (.iAddrS 1 (.t 10) (.k 0)),.d 12 11,.b 13 .eql 9 12]) (.cond (.t 13) (.seq (.seq (.r [.n 14 1,.q 15 (.bin .quo (.t 14) (.c (.i .u32 1073741824))),.q 16 (.bin .rem (.t 15) (.c (.i .u32 2))),.q 17 (.bin .eql (.t 16) (.c (.i .u32 1)))]) (.cond (.t 17) (.seq (.r [.m 4 (.k 2),.m 5 .T]) (.ret)) (.skip))) (.seq (.r [.m 4 (.k 0),.m 5 .T]) (.ret))) (.skip))) (.seq (.seq (.r [.m 7 (.k 0)]) (.blk 0 (.loop (.seq (.seq (.r [.n 18 7,.n 19 6,.e 20 19,.s 21 18 20]) (.cond (.t 21) (.skip) (.exit 0))) (.seq (.blk 1 (.seq (.r [.n 24 6,.n 25 7,.i 26 1 24 25,.d 27 26,.n 28 0,.b 29 .eql 27 28]) (.cond (.t 29) (.seq (.r [.n 30 7,.n 4 30,.m 5 .T]) (.ret)) (.skip)))) (.r [.n 22 7,.a 23 22 1,.n 7 23])))))) (.seq (.r [.m 4 (.k 0),.m 5 .F]) (.ret)))))⟩
theorem qwU{g:Nat}(hc:qd P f (qbR g)=true)(hg:qg P g [] (.fz 6 (rI .u32 qei)))(t n:Int)(h0:0<=n)(h1:n<=4294967295):qg P f [.i .u32 t,.i .u32 n] (.tup [.i .i64 (ofM t n).1,.b (ofM t n).2]):=by
 rw[← qvk h0 h1];refine qg.mk hc rfl ?_;have h6:(1073741824:Int)≠0:=by decide
 have h7:(2:Int)≠0:=by decide
 have ht:n.tdiv 1073741824=n / 1073741824:=Int.tdiv_eq_ediv_of_nonneg h0;have hw:IntKind.wrap .u32 (n / 1073741824)=n / 1073741824:=qdJ (by omega) (by omega);have ht2:(n / 1073741824).tmod 2=n / 1073741824 % 2:=Int.tmod_eq_emod_of_nonneg (by omega);have hw2:IntKind.wrap .u32 (n / 1073741824 % 2)=n / 1073741824 % 2:=qdJ (by omega) (by omega);have hg0:(rI .u32 qei)[0]?=some (.i .u32 3221225534):=rfl;have hl8:(rI .u32 qei).length=6:=rfl;simp only[qbR,vI,simprocAttr];simp +decide only[↓vS,vT,simprocAttr];refine hg.sc ?_;unfold qvj
 by_cases he:t=3221225534
 ·by_cases hb:n / 1073741824 % 2=1
  ·simp +decide only[↓vS,vT,simprocAttr,hg0,eq_true he,↓zr h6,↓xl h7,ht,hw,ht2,hw2,eq_true hb];simp[vZ]
  ·simp +decide only[↓vS,vT,simprocAttr,hg0,eq_true he,↓zr h6,↓xl h7,ht,hw,ht2,hw2,hb];simp[vZ]
 ·simp +decide only[↓vS,vT,simprocAttr,hg0,he];rw[if_neg he];refine SL.loopP (α:=Nat) (fun j=>[(0,.i .u32 t),(6,.fz 6 (rI .u32 qei)),(7,.i .i64 (j:Int))]) (fun j h=>j<=6∧h.fl=0∧qbO (fun c=>decide (c=t)) (qei.drop j) j=qbO (fun c=>decide (c=t)) qei 0) (fun j=>6-j) ?_ 0 ?_ ?_
  ·rintro j ⟨s,fl,tr⟩ ⟨hj,rfl,hI⟩ G ih;simp only[vI,simprocAttr];have hw1:IntKind.wrap .i64 ((j:Int)+1)=((j+1:Nat):Int):=by rw[qv (by omega) (by omega)];simp
   by_cases hlt:j<6
   ·have hlt':(j:Int)<6:=by omega
    obtain⟨c,hr⟩:∃c,qei[j]?=some c:=⟨_,zzE (show j<qei.length from hlt)⟩
    have hg:(rI .u32 qei)[j]?=some (.i .u32 c):=by rw[qct,hr];rfl
    have hdr:qei.drop j=c::qei.drop (j+1):=by rw[← (zzS.1 hr).2,List.getElem_cons_drop]
    rw[hdr] at hI;simp only[qbO,decide_eq_true_eq] at hI
    by_cases he2:c=t
    ·rw[if_pos he2] at hI;rw[← hI];have hn:¬((j:Int)<0):=by omega
     simp +decide only[↓vS,vT,simprocAttr,hlt,hlt',hg,eq_true he2,Nat.mul_one,Nat.zero_add];simp[vZ,hn]
    ·rw[if_neg he2] at hI;simp +decide only[↓vS,vT,simprocAttr,hlt,hlt',hg,he2,hw1,Nat.mul_one,Nat.zero_add];exact ih (j+1) _ _ (by omega) (by simp[ql,qr,Tr.get_set]) ⟨by omega,rfl,hI⟩
   ·obtain rfl:j=6:=by omega
    have hI:(-1:Int)=qbO (fun c=>decide (c=t)) qei 0:=hI
    rw[← hI];simp +decide only[↓vS,vT,simprocAttr];simp[vZ]
  ·simp[ql,qr,Tr.get_set]
  ·exact⟨by omega,rfl,rfl⟩




theorem SC.args{vs vs':List AV}{h:Hp}{k:AV->Hp->Prop}(hs:SC P f vs' h k)(ha:∀(ρ:Ren) (a:List Value),VRs σ0 ρ vs a->VRs σ0 ρ vs' a):SC P f vs h k :=
 ⟨hs.1,fun ρ B w args r hv=>hs.2 ρ B w args r (ha ρ _ hv)⟩
section
variable {g1 g2 g3:Nat}
end
noncomputable def qf3(l:List Sy)(e:Int):List Ins×Int:=if e=0 then xP l else ([],e)
noncomputable def qgG(l:List Sy)(e:Int):List Ins×Int:=if e=0 then xP (qdf l) else ([],e)
noncomputable def qjU(l:List Sy)(e:Int)(o:Bool):List Ins×Int:=if o=true then qfd (qf3 l e) (qgG l e) else qf3 l e
structure GrdFn (P:Program) (gG gO gL:Nat) (ar:AV) (l:List Sy) (e:Int):Prop where
 gu:qg P gG [ar] (.tup [.fz l.length (rSy l),.i .i64 e])
 lk:e=0->qg P gL [.fz l.length (rSy l)] (qg3 l)
 op:e=0->qg P gO [.fz l.length (rSy l)] (.tup [.fz (qdf l).length (rSy (qdf l)),.i .i64 0])
 lk2:e=0->qg P gL [.fz (qdf l).length (rSy (qdf l))] (qg3 (qdf l))
section
variable {gG gO gL b s:Nat} {tr:Tr Blk} {k:AV->Hp->Prop} {ar:AV} {l:List Sy} {er:Int}
def zF:List AV:=[.i .i64 0,.nils,.i .u32 0]
theorem qka{m:List Sy}(h:(xP m).2≠0):(xP m).1=[]:=by
 unfold xP at h ⊢;split at h
 ·rename_i h2;rw[if_pos h2]
 ·exact absurd rfl h
theorem qoQ{gd gwG gwL bx:Nat}{e:Nat}{wf a:Bool}(hc:qd P gd za=true)(hG:qd P gwG (zi gG)=true)(hL:qd P gwL (ze gL)=true)(C:GrdFn P gG gO gL ar l er)
  (hx:tr.get bx=some (.cells e wf a [.fn gwG [.ptr b 0] [],.fn gwL [.ptr b 0] []])) (hbx:bx≠b) (h0:tr.get b=some (WkB zF ar .nils .nils))
  (hk:∀v tr2,qiy v (qf3 l er).1->(∀c,c≠b->tr2.get c=tr.get c)->k (.tup [v,.i .i64 (qf3 l er).2]) ⟨s,0,tr2⟩):SC P gd [.ptr b 0,.sl bx 0 2 2 false] ⟨s,0,tr⟩ k:=by
 have hG':=C.gu
 by_cases hz:er=0
 ·have hL':=C.lk hz;rw[qlr] at hL';have e1:qf3 l er=xP l:=by unfold qf3;rw[if_pos hz]
  rw[e1] at hk
  refine qjm hc [gwG,gwL] (by simpa using hx) hbx (fun i=>if i=0 then WkB zF ar .nils .nils else if i=1 then WkB zF ar (.fz l.length (rSy l)) .nils else WkB zF ar (.fz l.length (rSy l)) (.fz (xP l).1.length (rP (xP l).1)))
   (fun i=>if i=0 then 0 else if i=1 then er else (xP l).2) 2 rfl (by omega) h0 rfl ?_ ?_ ?_
  ·intro i g s' tr' k' hg hj hB hk';have hi:i<2:=by have:=(zzS.1 hg).1;simpa using this
   have hi2:i=0∨i=1:=by omega
   rcases hi2 with rfl|rfl
   ·simp at hg;subst hg;exact qeC hG zF rfl hB _ _ qkV hG' hk'
   ·simp at hg;subst hg;exact qhY hL zF rfl hB _ _ qkV hL' hk'
  ·intro i tr2 hf hv hj;have h0':i≠0:=fun h=>hv (by simp[h])
   have h1':i≠1:=fun h=>hv (by simp[h,hz])
   simp only[if_neg h0',if_neg h1'] at hv ⊢;exact hk _ _ (.inr ⟨rfl,qka hv⟩) hf
  ·intro tr2 hf hj hB;have hz2:=hj 2 (by omega);simp at hz2;refine⟨zF,ar,_,_,rfl,rfl,?_⟩;have:=hk (.fz (xP l).1.length (rP (xP l).1)) tr2 (.inl rfl) hf;rw[hz2] at this;exact this
 ·have e1:qf3 l er=([],er):=by unfold qf3;rw[if_neg hz]
  rw[e1] at hk;refine qjm hc [gwG,gwL] (by simpa using hx) hbx (fun i=>if i=0 then WkB zF ar .nils .nils else WkB zF ar (.fz l.length (rSy l)) .nils) (fun i=>if i=0 then 0 else er) 2 rfl (by omega) h0 rfl ?_ ?_ ?_
  ·intro i g s' tr' k' hg hj hB hk'
   have hi:i=0:=by
    by_cases hi:i=0
    ·exact hi
    ·have:=hj i (Nat.le_refl _);simp[hi] at this;exact absurd this hz
   subst hi;simp at hg;subst hg;exact qeC hG zF rfl hB _ _ qkV hG' hk'
  ·intro i tr2 hf hv hj;have hi:i≠0:=fun h=>hv (by simp[h])
   simp only[if_neg hi];exact hk _ _ (.inr ⟨rfl,rfl⟩) hf
  ·intro tr2 _ hj _;have:=hj 1 (by omega);simp at this;exact absurd this hz
theorem qoP{gd gwG gwO gwL bx:Nat}{e:Nat}{wf a:Bool}(hc:qd P gd za=true)(hG:qd P gwG (zi gG)=true)(hO:qd P gwO (zu gO)=true)(hL:qd P gwL (ze gL)=true)(C:GrdFn P gG gO gL ar l er)
  (hx:tr.get bx=some (.cells e wf a [.fn gwG [.ptr b 0] [],.fn gwO [.ptr b 0] [],.fn gwL [.ptr b 0] []])) (hbx:bx≠b) (h0:tr.get b=some (WkB zF ar .nils .nils))
  (hk:∀v tr2,qiy v (qgG l er).1->(∀c,c≠b->tr2.get c=tr.get c)->k (.tup [v,.i .i64 (qgG l er).2]) ⟨s,0,tr2⟩):SC P gd [.ptr b 0,.sl bx 0 3 3 false] ⟨s,0,tr⟩ k:=by
 have hG':=C.gu
 by_cases hz:er=0
 ·have hL':=C.lk2 hz;have hO':=C.op hz;have e1:qgG l er=xP (qdf l):=by unfold qgG;rw[if_pos hz]
  rw[e1] at hk;obtain⟨m,hm⟩:∃m,m=qdf l:=⟨_,rfl⟩;rw[← hm] at hL' hO' hk;rw[qlr] at hL'
  refine qjm hc [gwG,gwO,gwL] (by simpa using hx) hbx (fun i=>if i=0 then WkB zF ar .nils .nils else if i=1 then WkB zF ar (.fz l.length (rSy l)) .nils else if i=2 then WkB zF ar (.fz m.length (rSy m)) .nils else WkB zF ar (.fz m.length (rSy m)) (.fz (xP m).1.length (rP (xP m).1)))
   (fun i=>if i=0 then 0 else if i=1 then er else if i=2 then 0 else (xP m).2) 3 rfl (by omega) h0 rfl ?_ ?_ ?_
  ·intro i g s' tr' k' hg hj hB hk';have hi:i<3:=by have:=(zzS.1 hg).1;simpa using this
   have hi2:i=0∨i=1∨i=2:=by omega
   rcases hi2 with rfl|rfl|rfl
   ·simp at hg;subst hg;exact qeC hG zF rfl hB _ _ qkV hG' hk'
   ·simp at hg;subst hg;exact qln hO zF rfl hB _ _ qkV hO' hk'
   ·simp at hg;subst hg;exact qhY hL zF rfl hB _ _ qkV hL' hk'
  ·intro i tr2 hf hv hj;have h0':i≠0:=fun h=>hv (by simp[h])
   have h1':i≠1:=fun h=>hv (by simp[h,hz])
   have h2':i≠2:=fun h=>hv (by simp[h])
   simp only[if_neg h0',if_neg h1',if_neg h2'] at hv ⊢;exact hk _ _ (.inr ⟨rfl,qka hv⟩) hf
  ·intro tr2 hf hj hB;have hz2:=hj 3 (by omega);simp at hz2;refine⟨zF,ar,_,_,rfl,rfl,?_⟩;have:=hk (.fz (xP m).1.length (rP (xP m).1)) tr2 (.inl rfl) hf;rw[hz2] at this;exact this
 ·have e1:qgG l er=([],er):=by unfold qgG;rw[if_neg hz]
  rw[e1] at hk;refine qjm hc [gwG,gwO,gwL] (by simpa using hx) hbx (fun i=>if i=0 then WkB zF ar .nils .nils else WkB zF ar (.fz l.length (rSy l)) .nils) (fun i=>if i=0 then 0 else er) 3 rfl (by omega) h0 rfl ?_ ?_ ?_
  ·intro i g s' tr' k' hg hj hB hk'
   have hi:i=0:=by
    by_cases hi:i=0
    ·exact hi
    ·have:=hj i (Nat.le_refl _);simp[hi] at this;exact absurd this hz
   subst hi;simp at hg;subst hg;exact qeC hG zF rfl hB _ _ qkV hG' hk'
  ·intro i tr2 hf hv hj;have hi:i≠0:=fun h=>hv (by simp[h])
   simp only[if_neg hi];exact hk _ _ (.inr ⟨rfl,rfl⟩) hf
  ·intro tr2 _ hj _;have:=hj 1 (by omega);simp at this;exact absurd this hz
def qbA(a b c d e:Nat):IFn:=⟨[.tmp 4,.tmp 5],.seq (.r [.m 4 .N,.m 5 (.k 0)]) (.seq (.r [.n 12 0,.q 13 (.build [.i .i64 0,.nils,.i .u32 0,.nils,.nils,.nils] [(3,1,(.t 12))]),.q 14 (.box (.t 13)),.n 15 0,.q 16 (.build [.i .i64 0,.nils,.i .u32 0,.nils,.nils,.nils] [(3,1,(.t 15))]),.q 17 (.box (.t 16)),.n 6 14,.n 7 17]) (.seq (.r [.n 19 6,.n 20 6,.q 21 (.mkF a [.t 20] []),.n 22 6,.q 23 (.mkF b [.t 22] []),.q 24 (.buildS 2 [.nilf] [(0,1,(.t 21)),(1,1,(.t 23))]),.l 25 c [.t 19,.t 24],.n 18 25,.x 26 18 0,.x 27 18 1,.n 8 26,.n 9 27]) (.seq (.seq (.r [.n 28 1,.q 29 (.un .not (.t 28))]) (.cond (.t 29) (.seq (.r [.n 30 8,.n 31 9,.n 4 30,.n 5 31]) (.ret)) (.skip))) (.seq (.r [.n 33 7,.n 34 7,.q 35 (.mkF a [.t 34] []),.n 36 7,.q 37 (.mkF d [.t 36] []),.n 38 7,.q 39 (.mkF b [.t 38] []),.q 40 (.buildS 3 [.nilf] [(0,1,(.t 35)),(1,1,(.t 37)),(2,1,(.t 39))]),.l 41 c [.t 33,.t 40],.n 32 41,.x 42 32 0,.x 43 32 1,.n 10 42,.n 11 43]) (.seq (.r [.n 44 8,.n 45 9,.n 46 10,.n 47 11,.l 48 e [.t 44,.t 45,.t 46,.t 47],.x 49 48 0,.x 50 48 1,.n 4 49,.n 5 50]) (.ret))))))⟩
theorem qkX{gd gwG gwO gwL gs:Nat}(hc:qd P f (qbA gwG gwL gd gwO gs)=true)(hd:qd P gd za=true)(hG:qd P gwG (zi gG)=true)(hO:qd P gwO (zu gO)=true)(hL:qd P gwL (ze gL)=true)
  (hs:qd P gs xK=true) (har:clo ar=true∧qV ar=true∧qb6 ar=true∧cellsOf ar=[ar]) (C:GrdFn P gG gO gL ar l er) (o:Bool) :
  qg P f [ar,.b o] (.tup [.fz (qjU l er o).1.length (rP (qjU l er o).1),.i .i64 (qjU l er o).2]):=by
 obtain⟨a1,a2,a3,a4⟩:=har;refine qg.mk hc (by simp[qF,Go.Kc.clo,a1]) ?_;simp only[qbA,vI,simprocAttr];simp +decide only[↓vS,vT,simprocAttr,a2,a3,a4];refine qoQ hd hG hL C (b:=0) (bx:=2) (by simp[Tr.get_set];exact⟨rfl,rfl,rfl⟩) (by decide) (by simp[Tr.get_set,WkB,zF]) fun v tr2 hv hf=>?_
 cases o with
 | false =>
  simp +decide only[↓vS,vT,simprocAttr,qjU];simp[vZ];exact hv.frz
 | true =>
  simp +decide only[↓vS,vT,simprocAttr,qjU];refine qoP hd hG hO hL C (b:=1) (bx:=3) (by simp[Tr.get_set];exact⟨rfl,rfl,rfl⟩) (by decide) (by rw[Tr.get_set,if_neg (by decide),hf 1 (by decide)];simp[Tr.get_set,WkB,zF]) fun w tr3 hw _=>?_
  obtain⟨z,hz1,hz2⟩:=qi9 hs (qf3 l er) (qgG l er) v w hv hw;simp +decide only[↓vS,vT,simprocAttr];refine hz2.sc ?_;simp +decide only[↓vS,vT,simprocAttr];simp[vZ];exact⟨hz1.frz,rfl⟩
end
end Go.Kc
end
