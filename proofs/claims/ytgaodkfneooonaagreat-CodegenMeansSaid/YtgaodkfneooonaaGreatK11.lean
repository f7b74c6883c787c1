/- Part 11 of the abstract machine and of the functions' walks. Conditions: with each theorem. -/
import Derived.Test.YtgaodkfneooonaaGreatK10
set_option maxHeartbeats 4000000
set_option linter.unusedSectionVars false
set_option linter.unusedSimpArgs false
set_option linter.unusedVariables false
set_option linter.unnecessarySimpa false
section
namespace Go.Kc
variable {P:Program} {f:Nat}
def qxU(P:Program)(g:Nat):Prop:=∀l:List GTest,l.length<=100000->qf P g [.fz l.length (rT l)] (.fz l.length (rT l))
theorem qzd{g:Nat}(h:qb8 P g 4 32):qxU P g:=by
 intro l hl;refine (h l.length (rT l) qgX xW qDW (by simp only[qh];omega) (by simp only[qh];omega)).pure (by simp[qw,clo,xW]) ?_;refine .own 0 _ 4 true _ _ ?_ (fun h0=>?_) (Frzs.self xW)
 ·simp[ju,Hp.push,shb,H0,Tr.get_set,zK xW]
 ·rw[List.eq_nil_of_length_eq_zero h0];rfl
def qjH(a:Nat):IFn:=⟨[.cell 2 3 true],.seq (.r [.q 1 (.box (.t 0)),.q 2 (.alloc [.i .u32 0,.nils,.i .u32 0])]) (.seq (.r [.f 3 1 1,.d 4 3,.l 5 a [.t 4],.f 6 1 1,.u (.store 1 (.t 6) (.t 5))]) (.seq (.r [.v 7 3 1,.u (.store 3 (.t 2) (.t 7))]) (.ret)))⟩
theorem qCn{g:Nat}(hc:qd P f (qjH g)=true)(hg:qxU P g)(r:GRule)(hl:r.tests.length<=100000):qf P f [.agg (qB r)] (.agg (qB r)):=by
 refine qf.mk hc (by simp[qw,clo,qB,xW]) ?_;simp only[qjH,qB,vI,simprocAttr];simp +decide only[↓vS,vT,simprocAttr];refine (hg r.tests hl).sc ?_;simp +decide only[↓vS,vT,simprocAttr];simp[vZ,vP,Tr.get_set,qQ xW]
def qfx:IFn:=⟨[.tmp 2],.seq (.r [.q 1 (.box (.t 0)),.m 2 .F]) (.seq (.r [.f 3 1 1,.d 4 3,.q 5 (.bin .eql (.t 4) (.c (.i .u64 0))),.n 2 5]) (.ret))⟩
theorem qDI(hc:qd P f qfx=true)(t:GTest):qf P f [.agg (zA t)] (.b (decide (t.mask=0))):=by
 refine qf.mk hc rfl ?_;simp only[qfx,zA,vI,simprocAttr];simp +decide only[↓vS,vT,simprocAttr];simp[vZ]
def qfa(a:Int)(ts:List GTest):List GTest:=(ts.reverse.dropWhile fun t=>decide (t.act=a)).reverse
theorem qkj{a:Int}{ts:List GTest}{t:GTest}:qfa a (ts++[t])=if t.act=a then qfa a ts else ts++[t]:=by
 unfold qfa;rw[List.reverse_append,List.reverse_singleton,List.singleton_append,List.dropWhile_cons]
 by_cases h:t.act=a<;>simp[h]
def qeC:List GTest->Int->List GTest×Int
 | [],a=>([],a)
 | t::ts,a=>if t.mask=0 then ([],t.act) else (t::(qeC ts a).1,(qeC ts a).2)
def xv(r:GRule):GRule:=⟨r.nr,qfa (qeC r.tests r.act).2 (qeC r.tests r.act).1,(qeC r.tests r.act).2⟩
theorem qsq:∀(ts:List GTest) (a:Int),(xM (fun t=>decide (t.mask=0)) ts 0 = -1∧qeC ts a=(ts,a))∨∃(i:Nat) (t:GTest),xM (fun t=>decide (t.mask=0)) ts 0=(i:Int)∧ts[i]?=some t∧qeC ts a=(ts.take i,t.act):=by
 have main:∀(ts:List GTest) (a:Int) (j:Nat),(xM (fun t=>decide (t.mask=0)) ts j = -1∧qeC ts a=(ts,a))∨∃(i:Nat) (t:GTest),xM (fun t=>decide (t.mask=0)) ts j=((j+i:Nat):Int)∧ts[i]?=some t∧qeC ts a=(ts.take i,t.act):=by
  intro ts
  induction ts with
  | nil=>intro a j;exact .inl ⟨rfl,rfl⟩
  | cons t ts ih =>
   intro a j
   by_cases h:t.mask=0
   ·exact .inr ⟨0,t,by simp[xM,h],rfl,by simp[qeC,h]⟩
   ·rcases ih a (j+1) with⟨e1,e2⟩|⟨i,x,e1,e2,e3⟩
    ·exact .inl ⟨by simp[xM,h,e1],by simp[qeC,h,e2]⟩
    ·exact .inr ⟨i+1,x,by simp[xM,h,e1];omega,by simpa using e2,by simp[qeC,h,e3]⟩
 intro ts a;rcases main ts a 0 with h|⟨i,t,h1,h2,h3⟩
 ·exact .inl h
 ·exact .inr ⟨i,t,by rw[h1];simp,h2,h3⟩
theorem qxs{h:Hp}{esz n c:Nat}{q:IntKind}{cs:List AV}{k:AV->Prop}(h2:c<=n)(h3:c*esz<=cs.length):slK esz none (some (.i q (c:Int))) none (.fz n cs) h k↔evA (.fz c (cs.take (c*esz))) k:=by
 simp only[slK,qoK,qiT];show (ifK (c<=n) _)↔_;simp only[ifK,h2,true_and,Option.isSome_none,Bool.false_and,Bool.false_eq_true,if_false];show (0*esz<=cs.length∧(c-0)*esz<=(cs.drop (0*esz)).length∧_)↔_;simp only[Nat.zero_mul,Nat.zero_le,Nat.sub_zero,List.drop_zero,h3,true_and];exact Iff.rfl
theorem qpD{l:List GTest}{k:Nat}:(rT l).take (k*4)=rT (l.take k):=qfX qcW l k
def qcK(a b c:Nat):ICode:=.seq (.seq (.r [.f 25 1 1,.d 26 25,.e 27 26,.n 4 27]) (.blk 0 (.loop (.seq (.seq (.reg true [.n 28 4,.w 29 .gtr 28 0,.n 30 29,.h 31 1 1 30 true,.j 32 31 30 true,.y 33 4 30,.g 34 (.bin .sub (.t 33) (.k 1)) 30 true,.g 35 (.iAddrS 4 (.t 32) (.t 34)) 30 true,.h 36 3 35 30 true,.j 37 36 30 true,.h 38 2 1 30 true,.j 39 38 30 true,.g 40 (.bin .eql (.t 37) (.t 39)) 30 true,.p 41 30 40]) (.cond (.t 41) (.skip) (.exit 0))) (.seq (.blk 1 (.r [.f 44 1 1,.d 45 44,.n 46 4,.w 47 .sub 46 1,.q 48 (.slcS 4 (.t 45) none (some (.t 47)) none),.f 49 1 1,.u (.store 1 (.t 49) (.t 48))])) (.r [.n 42 4,.w 43 .sub 42 1,.n 4 43])))))) (.seq (.r [.v 50 3 1,.u (.store 3 (.t 2) (.t 50))]) (.ret))
def qhp(a b c:Nat):IFn:=⟨[.cell 2 3 true],.seq (.r [.q 1 (.box (.t 0)),.q 2 (.alloc [.i .u32 0,.nils,.i .u32 0])]) (.seq (.r [.v 5 3 1,.l 6 a [.t 5],.u (.store 3 (.t 1) (.t 6))]) (.seq (.seq (.r [.f 7 1 1,.d 8 7,.l 9 b [.t 8,(.c (.fn c [] []))],.n 3 9]) (.seq (.r [.n 10 3,.w 11 .geq 10 0]) (.cond (.t 11) (.seq (.r [.f 12 1 1,.d 13 12,.n 14 3,.i 15 4 13 14,.f 16 3 15,.d 17 16,.f 18 2 1,.u (.store 1 (.t 18) (.t 17))]) (.r [.f 19 1 1,.d 20 19,.n 21 3,.n 22 3,.q 23 (.slcS 4 (.t 20) none (some (.t 21)) (some (.t 22))),.f 24 1 1,.u (.store 1 (.t 24) (.t 23))])) (.skip)))) (.cut (qcK a b c))))⟩
theorem qh6{n0 g1 g2 g3 s:Nat}{tr:Tr Blk}{t:Tr AV}(nr a:Int)(ts:List GTest)(V:AV)(hV:V = .fz ts.length (rT ts)∨V = .e0∧ts=[])(hl:ts.length<=100000)(h0:tr.get 0=some (.cells 0 true false [.i .u32 nr,V,.i .u32 a]))(h1:∃x y z,tr.get 1=some (.cells 0 true false [x,y,z]))(ht:Has t [(1,.ptr 0 0),(2,.ptr 1 0)]) :
  S P n0 (qcK g1 g2 g3) (qb9 [.cell 2 3 true] fun v' h'=>Frz h' v' (.agg (qB ⟨nr,qfa a ts,a⟩))) t ⟨s,0,tr⟩:=by
 refine S.has _ ht (ql ?_);simp only[qcK,vI,simprocAttr];have hlen:∀k:AV->Prop,k (.i .i64 (ts.length:Int))->True:=fun _ _=>trivial
 have loop:∀tt,Has tt [(1,.ptr 0 0),(2,.ptr 1 0),(4,.i .i64 (ts.length:Int))]->∀(x:ICode) (Q:X->Tr AV->Hp->Prop),True:=fun _ _ _ _=>trivial
 rcases hV with rfl|⟨rfl,rfl⟩
 ·simp +decide only[↓vS,vT,simprocAttr,h0]
  refine SL.loopP (α:=List GTest) (fun u=>[(1,.ptr 0 0),(2,.ptr 1 0),(4,.i .i64 (u.length:Int))])
   (fun u h=>u.length<=ts.length∧qfa a u=qfa a ts∧∃tr',h=⟨s,0,tr'⟩∧tr'.get 0=some (.cells 0 true false [.i .u32 nr,.fz u.length (rT u),.i .u32 a])∧∃x y z,tr'.get 1=some (.cells 0 true false [x,y,z])) (fun u=>u.length) ?_ ts ?_ ?_
  ·rintro u h1 ⟨hu,he,tr',rfl,g0,x,y,z,g1⟩ G ih;simp only[vI,simprocAttr];rcases List.eq_nil_or_concat u with rfl|⟨u0,t0,rfl⟩
   ·have hz:¬(0:Int)<(([]:List GTest).length:Int):=by simp
    simp +decide only[↓vS,vT,simprocAttr];refine zg ?_;simp +decide only[↓vS,vT,simprocAttr,hz,g0,g1];have e0:qfa a ts=[]:=by rw[← he];rfl
    simp[vZ,vP,Tr.get_set,qB,e0,rT]
   ·rw[List.concat_eq_append] at hu he g0 ih ⊢;have hul:(u0++[t0]).length=u0.length+1:=by simp
    have hget:(u0++[t0])[u0.length]?=some t0:=by simp
    rw[hul] at hu g0 ⊢;have hz:(0:Int)<((u0.length+1:Nat):Int):=by omega
    have e1:IntKind.wrap .i64 (((u0.length+1:Nat):Int)-1)=(u0.length:Int):=by rw[qm (by omega) (by omega)];omega
    have hg3:(rT (u0++[t0]))[u0.length*4+3]?=some (.i .u32 t0.act):=qol hget (by omega);have hlt:u0.length<u0.length+1:=by omega
    rw[qkj] at he;simp +decide only[↓vS,vT,simprocAttr];refine zg ?_
    by_cases ha:t0.act=a
    ·rw[if_pos ha] at he;have k1:u0.length<=u0.length+1:=by omega
     have k2:u0.length*4<=(rT (u0++[t0])).length:=by rw[qgX,hul];omega
     have k3:(rT (u0++[t0])).take (u0.length*4)=rT u0:=by rw[qpD];simp
     simp +decide only[↓vS,vT,simprocAttr,hz,g0,e1,hlt,hg3,eq_true ha,↓qxs k1 k2,k3];refine ih u0 _ _ (by simp) (by simp[qe,qi,Tr.get_set]) ⟨by omega,he,_,rfl,by rw[Tr.get_set,if_pos rfl],x,y,z,by rw[Tr.get_set,if_neg (by decide)];exact g1⟩
    ·rw[if_neg ha] at he;simp +decide only[↓vS,vT,simprocAttr,hz,g0,g1,e1,hlt,hg3,ha];simp[vZ,vP,Tr.get_set,qB,← he,qQ xW]
  ·simp[qe,qi,Tr.get_set]
  ·exact⟨Nat.le_refl _,rfl,tr,rfl,h0,h1⟩
 ·simp +decide only[↓vS,vT,simprocAttr,h0];refine SL.loopP (α:=Unit) (fun u=>[(1,.ptr 0 0),(2,.ptr 1 0),(4,.i .i64 0)]) (fun u h=>h=⟨s,0,tr⟩) (fun u=>0) ?_ () ?_ rfl
  ·rintro u h2 rfl G ih;obtain⟨x,y,z,g1⟩:=h1;simp only[vI,simprocAttr];simp +decide only[↓vS,vT,simprocAttr];refine zg ?_;simp +decide only[↓vS,vT,simprocAttr,h0,g1];simp[vZ,vP,Tr.get_set,qB,qfa,rT]
  ·simp[qe,qi,Tr.get_set]
theorem qyg{g1 g2 g3:Nat}(hc:qd P f (qhp g1 g2 g3)=true)(h1:∀r:GRule,r.tests.length<=100000->qf P g1 [.agg (qB r)] (.agg (qB r)))(h2:qn3 4 P g2)(h3:∀t:GTest,qf P g3 [.agg (zA t)] (.b (decide (t.mask=0))))(r:GRule)(hl:r.tests.length<=100000) :
  qf P f [.agg (qB r)] (.agg (qB (xv r))):=by
 have e1:=h1 r hl;have e2:=h2 zA (fun t=>decide (t.mask=0)) g3 [] [] r.tests qcW rfl rfl (by simp only[qh];omega) fun t _=>by simpa using h3 t
 simp only[show r.tests.flatMap zA=rT r.tests from rfl] at e2
 refine qf.mk hc (by simp[qw,clo,qB,xW]) ?_;simp only[qhp,qB,vI,simprocAttr];simp only[qB] at e1;simp +decide only[↓vS,vT,simprocAttr];refine e1.sc ?_;simp +decide only[↓vS,vT,simprocAttr];refine e2.sc ?_;unfold xv;rcases qsq r.tests r.act with⟨q1,q2⟩|⟨i,t,q1,q2,q3⟩
 ·rw[q1,q2];simp +decide only[↓vS,vT,simprocAttr];refine qh6 r.nr r.act r.tests _ (.inl rfl) hl ?_ ?_ ?_
  ·simp[Tr.get_set]
  ·exact⟨_,_,_,by simp[Tr.get_set];exact⟨rfl,rfl,rfl⟩⟩
  ·simp[qe,qi,Tr.get_set]
 ·rw[q1,q3];have hi:i<r.tests.length:=(zzS.1 q2).1;have n0:(0:Int)<=(i:Int):=by omega
  have g3':(rT r.tests)[i*4+3]?=some (.i .u32 t.act):=qol q2 (by omega);have k2:i<=r.tests.length:=by omega
  have k3:i*4<=(rT r.tests).length:=by rw[qgX];omega
  have hlen:(r.tests.take i).length=i:=by simp;omega
  rcases Nat.eq_zero_or_pos i with hz|hz
  ·have es:∀(h:Hp) (k:AV->Prop),slK 4 none (some (.i .i64 (i:Int))) (some (.i .i64 (i:Int))) (.fz r.tests.length (rT r.tests)) h k↔evA .e0 k:=fun h k=>by
    rw[hz];simp only[slK,qiV,qiT];show (ifK (0<=r.tests.length) (ifK (0<=0) _))↔_;simp only[ifK,Nat.zero_le,true_and,Option.isSome_some];exact Iff.rfl
   have htk:r.tests.take i=[]:=by rw[hz];rfl
   rw[htk];simp +decide only[↓vS,vT,simprocAttr,n0,hi,g3',↓es];refine qh6 r.nr t.act [] .e0 (.inr ⟨rfl,rfl⟩) (by simp) ?_ ?_ ?_
   ·simp[Tr.get_set]
   ·exact⟨_,_,_,by simp[Tr.get_set];exact⟨rfl,rfl,rfl⟩⟩
   ·simp[qe,qi,Tr.get_set]
  ·simp +decide only[↓vS,vT,simprocAttr,n0,hi,g3',↓qpL hz k2 k3,qpD];refine qh6 r.nr t.act (r.tests.take i) _ (.inl (by rw[hlen])) (by omega) ?_ ?_ ?_
   ·simp[Tr.get_set]
   ·exact⟨_,_,_,by simp[Tr.get_set];exact⟨rfl,rfl,rfl⟩⟩
   ·simp[qe,qi,Tr.get_set]
def qbp(d:Int)(r:GRule):Bool:=decide (0<r.tests.length)||decide (r.act≠d)
def jH(x:GFil):GFil:=⟨x.arch,(x.rules.map xv).filter (qbp x.dflt),x.dflt⟩
noncomputable def qp1(x:GFil):AV:=if xp x=true then .tup [.agg (qz (jH x)),.i .i64 0] else .tup [.agg [.i .i64 0,.fz 0 [],.i .u32 0],.i .i64 210]
def qeI(a b:Nat):IFn:=⟨[.cell 2 3 true,.tmp 3],.seq (.r [.q 1 (.box (.t 0)),.q 2 (.alloc [.i .i64 0,.nils,.i .u32 0]),.m 3 (.k 0)]) (.seq (.seq (.r [.v 7 3 1,.l 8 a [.t 7],.q 9 (.un .not (.t 8))]) (.cond (.t 9) (.seq (.r [.q 10 (.build [.i .i64 0,.nils,.i .u32 0] []),.u (.store 3 (.t 2) (.t 10)),.m 3 (.k 210)]) (.ret)) (.skip))) (.seq (.r [.f 11 0 1,.d 12 11,.f 13 2 1,.d 14 13,.q 15 (.build [.i .i64 0,.nils,.i .u32 0] [(0,1,(.t 12)),(2,1,(.t 14))]),.q 4 (.alloc [.i .i64 0,.nils,.i .u32 0]),.u (.store 3 (.t 4) (.t 15))]) (.seq (.seq (.r [.f 16 1 1,.d 17 16,.e 18 17,.m 19 (.k 0)]) (.blk 0 (.loop (.seq (.r [.s 20 19 18]) (.seq (.cond (.t 20) (.skip) (.exit 0)) (.seq (.blk 1 (.seq (.r [.i 21 3 17 19,.v 22 3 21,.q 6 (.alloc [.i .u32 0,.nils,.i .u32 0]),.u (.store 3 (.t 6) (.t 22))]) (.seq (.r [.v 23 3 6,.l 24 b [.t 23],.u (.store 3 (.t 6) (.t 24))]) (.seq (.r [.f 25 1 6,.d 26 25,.e 27 26,.w 28 .gtr 27 0,.n 29 28,.h 30 2 6 29 false,.j 31 30 29 false,.h 32 2 1 29 false,.j 33 32 29 false,.g 34 (.bin .neq (.t 31) (.t 33)) 29 false,.o 35 29 34]) (.cond (.t 35) (.r [.f 36 1 4,.d 37 36,.v 38 3 6,.q 39 (.buildS 1 [.i .u32 0,.nils,.i .u32 0] [(0,3,(.t 38))]),.q 40 (.app 3 40 true (.t 37) (.t 39)),.f 41 1 4,.u (.store 1 (.t 41) (.t 40))]) (.skip)))))) (.r [.a 42 19 1,.n 19 42]))))))) (.seq (.r [.v 43 3 4,.u (.store 3 (.t 2) (.t 43)),.m 3 (.k 0)]) (.ret)))))⟩
theorem qmo{g1 g2:Nat}(hc:qd P f (qeI g1 g2)=true)(x:GFil)(h1:qf P g1 [.agg (qz x)] (.b (xp x)))(h2:∀r:GRule,r.tests.length<=100000->qf P g2 [.agg (qB r)] (.agg (qB (xv r))))(hl:x.rules.length<=100000)(ht:∀r ∈ x.rules,r.tests.length<=100000) :
  qf P f [.agg (qz x)] (qp1 x):=by
 refine qf.mk hc (by simp[qw,clo,qz,xt]) ?_;simp only[qeI,qz,vI,simprocAttr];simp only[qz] at h1;simp +decide only[↓vS,vT,simprocAttr];refine h1.sc ?_;unfold qp1;cases hK:xp x with
 | false =>
  simp +decide only[↓vS,vT,simprocAttr];simp[vZ,vP,Tr.get_set]
 | true =>
  simp +decide only[↓vS,vT,simprocAttr]
  refine SL.loopP (α:=Nat×Nat) (fun i=>[(1,.ptr 0 0),(2,.ptr 1 0),(4,.ptr 2 0),(17,.fz x.rules.length (rR x.rules)),(18,.i .i64 (x.rules.length:Int)),(19,.i .i64 (i.1:Int))])
   (fun i h=>i.1<=x.rules.length∧∃s tr,h=⟨s,0,tr⟩∧3<=s∧tr.get 0=some (.cells 0 true false [.i .i64 x.arch,.fz x.rules.length (rR x.rules),.i .u32 x.dflt])∧(∃a b c,tr.get 1=some (.cells 0 true false [a,b,c])) ∧
    tr.get 2=some (.cells 0 true false [.i .i64 x.arch,qam (((x.rules.take i.1).map xv).filter (qbp x.dflt)).length i.2,.i .u32 x.dflt])∧((((x.rules.take i.1).map xv).filter (qbp x.dflt)).length≠0->tr.get i.2=some (.cells 3 true true (rR (((x.rules.take i.1).map xv).filter (qbp x.dflt))))∧3<=i.2∧i.2<s)) (fun i=>x.rules.length-i.1) ?_ (0,0) ?_ ?_
  ·rintro⟨i,bo⟩ h ⟨hi,s,tr,rfl,hs,t0,⟨a,b,c,t1⟩,t2,to⟩ G ih;simp only at hi t2 to;simp only[vI,simprocAttr];obtain⟨A,hA⟩:∃A,A=((x.rules.take i).map xv).filter (qbp x.dflt):=⟨_,rfl⟩;rw[← hA] at t2 to
   have hAl:A.length<=i:=by
    rw[hA];exact Nat.le_trans (List.length_filter_le _ _) (by simp;omega)
   by_cases hlt:i<x.rules.length
   ·have hlt':(i:Int)<x.rules.length:=by omega
    obtain⟨r,hr⟩:∃r,x.rules[i]?=some r:=⟨_,zzE hlt⟩;have hel:=qeT hr;have h3:i*3+3<=(rR x.rules).length:=by rw[qgW];omega
    have hw1:IntKind.wrap .i64 ((i:Int)+1)=((i+1:Nat):Int):=by rw[qm (by omega) (by omega)];simp
    have hn:=h2 r (ht r (zzM hr))
    have hA2:((x.rules.take (i+1)).map xv).filter (qbp x.dflt)=A++if qbp x.dflt (xv r)=true then [xv r] else []:=by
     rw[jp hr,List.map_append,List.filter_append,← hA]
     by_cases hk:qbp x.dflt (xv r)=true<;>simp[hk]
    obtain⟨q,hq⟩:∃q,q=xv r:=⟨_,rfl⟩;rw[← hq] at hn hA2;simp only[qB] at hn;have n0:¬0=s:=by omega
    have n1:¬1=s:=by omega
    have n2:¬2=s:=by omega
    have n3:¬s=s+1:=by omega
    have n4:¬2=s+1:=by omega
    have n5:¬2=s+1+1:=by omega
    have n6:¬s=2:=by omega
    simp +decide only[↓vS,vT,simprocAttr,hlt',hlt,h3,hel,qB,n0,n1,n2,n3];refine hn.sc ?_
    have e0:∀(tf:Tr Blk),(∀c,c<s->c≠2->c≠bo->tf.get c=tr.get c)->bo≠0∧bo≠1∨A.length=0->(A.length=0->∀c,c<s->c≠2->tf.get c=tr.get c)->tf.get 0=some (.cells 0 true false [.i .i64 x.arch,.fz x.rules.length (rR x.rules),.i .u32 x.dflt])∧∃a b c,tf.get 1=some (.cells 0 true false [a,b,c]):=fun tf q1 q2 q3=>by
     by_cases hz:A.length=0
     ·exact⟨(q3 hz 0 (by omega) (by decide)).trans t0,a,b,c,(q3 hz 1 (by omega) (by decide)).trans t1⟩
     ·have:=q2.resolve_right hz;exact⟨(q1 0 (by omega) (by decide) (Ne.symm this.1)).trans t0,a,b,c,(q1 1 (by omega) (by decide) (Ne.symm this.2)).trans t1⟩
    by_cases hk:qbp x.dflt q=true
    ·rw[if_pos hk] at hA2;have app:∀k:Prop,(∀(u:IntKind),True)->k->k:=fun _ _ h=>h
     have hcond:(0:Int)<(q.tests.length:Int)∨¬(0:Int)<(q.tests.length:Int)∧¬q.act=x.dflt:=by
      simp only[qbp,Bool.or_eq_true,decide_eq_true_eq] at hk;rcases Nat.eq_zero_or_pos q.tests.length with h|h
      ·exact .inr ⟨by omega,by rcases hk with hk|hk;omega;exact hk⟩
      ·exact .inl (by omega)
     by_cases hz:A.length=0
     ·have hV:qam A.length bo = .nils:=by simp[qam,hz]
      have hAn:A=[]:=List.eq_nil_of_length_eq_zero hz;rw[hV] at t2
      have fin:∀tf tt,(∀c,c<s->c≠2->tf.get c=tr.get c)->tf.get 2=some (.cells 0 true false [.i .i64 x.arch,.own (s+1+1) 1,.i .u32 x.dflt])->tf.get (s+1+1)=some (.cells 3 true true [.i .u32 q.nr,.fz q.tests.length (rT q.tests),.i .u32 q.act])->Has tt [(1,.ptr 0 0),(2,.ptr 1 0),(4,.ptr 2 0),(17,.fz x.rules.length (rR x.rules)),(18,.i .i64 (x.rules.length:Int)),(19,.i .i64 ((i+1:Nat):Int))]->G tt ⟨s+1+1+1,0,tf⟩:=fun tf tt q1 q2 q3 q4=>by
       refine ih (i+1,s+1+1) _ _ (by simp only;omega) q4 ⟨by simp only;omega,_,tf,rfl,by omega,(q1 0 (by omega) (by decide)).trans t0,⟨a,b,c,(q1 1 (by omega) (by decide)).trans t1⟩,?_,fun _=>⟨?_,by simp only;omega,by simp only;omega⟩⟩
       ·simp only[hA2,hAn];rw[q2];rfl
       ·simp only[hA2,hAn];rw[q3];simp[rR,qB]
      rcases hcond with hc1|⟨hc1,hc2⟩
      ·simp +decide only[↓vS,vT,simprocAttr,hc1,t2,n0,n1,n2,n3,n4,n5,n6,hw1];refine fin _ _ (fun c c1 c2=>?_) (by rw[Tr.get_set,if_pos rfl]) ?_ (by simp[qe,qi,Tr.get_set])
       ·simp only[Tr.get_set];repeat rw[if_neg (by omega)]
       ·simp only[Tr.get_set];rw[if_neg (by omega)];simp
      ·simp +decide only[↓vS,vT,simprocAttr,hc1,hc2,t0,t2,n0,n1,n2,n3,n4,n5,n6,hw1];refine fin _ _ (fun c c1 c2=>?_) (by rw[Tr.get_set,if_pos rfl]) ?_ (by simp[qe,qi,Tr.get_set])
       ·simp only[Tr.get_set];repeat rw[if_neg (by omega)]
       ·simp only[Tr.get_set];rw[if_neg (by omega)];simp
     ·obtain⟨o1,o2,o3⟩:=to hz;have hV:qam A.length bo = .own bo A.length:=by simp[qam,hz]
      rw[hV] at t2;have m1:¬bo=s:=by omega
      have m2:¬bo=s+1:=by omega
      have m3:¬s+1=bo:=by omega
      have m4:¬2=bo:=by omega
      have rr1:A.length+1<=qh:=by simp only[qh];omega
      have rr2:(A.length+1)*40<=qh:=by simp only[qh];omega
      have hrl:(rR A).length=A.length*3:=qgW
      have fin:∀tf tt,(∀c,c<s->c≠2->c≠bo->tf.get c=tr.get c)->tf.get 2=some (.cells 0 true false [.i .i64 x.arch,.own (s+1+1) (A.length+1),.i .u32 x.dflt])->tf.get (s+1+1)=some (.cells 3 true true (rR A++[.i .u32 q.nr,.fz q.tests.length (rT q.tests),.i .u32 q.act]))->Has tt [(1,.ptr 0 0),(2,.ptr 1 0),(4,.ptr 2 0),(17,.fz x.rules.length (rR x.rules)),(18,.i .i64 (x.rules.length:Int)),(19,.i .i64 ((i+1:Nat):Int))]->G tt ⟨s+1+1+1,0,tf⟩:=fun tf tt q1 q2 q3 q4=>by
       refine ih (i+1,s+1+1) _ _ (by simp only;omega) q4 ⟨by simp only;omega,_,tf,rfl,by omega,(q1 0 (by omega) (by decide) (by omega)).trans t0,⟨a,b,c,(q1 1 (by omega) (by decide) (by omega)).trans t1⟩,?_,fun _=>⟨?_,by simp only;omega,by simp only;omega⟩⟩
       ·simp only[hA2];rw[q2];simp[qam]
       ·simp only[hA2];rw[q3,← qA1];simp[rR,qB]
      rcases hcond with hc1|⟨hc1,hc2⟩
      ·simp +decide only[↓vS,vT,simprocAttr,hc1,t2,o1,m1,m2,m3,m4,rr1,rr2,hrl,n0,n1,n2,n3,n4,n5,n6,hw1];refine fin _ _ (fun c c1 c2 c3=>?_) (by rw[Tr.get_set,if_pos rfl]) ?_ (by simp[qe,qi,Tr.get_set])
       ·simp only[Tr.get_set];repeat rw[if_neg (by omega)]
       ·simp only[Tr.get_set];rw[if_neg (by omega)];simp
      ·simp +decide only[↓vS,vT,simprocAttr,hc1,hc2,t0,t2,o1,m1,m2,m3,m4,rr1,rr2,hrl,n0,n1,n2,n3,n4,n5,n6,hw1];refine fin _ _ (fun c c1 c2 c3=>?_) (by rw[Tr.get_set,if_pos rfl]) ?_ (by simp[qe,qi,Tr.get_set])
       ·simp only[Tr.get_set];repeat rw[if_neg (by omega)]
       ·simp only[Tr.get_set];rw[if_neg (by omega)];simp
    ·rw[if_neg hk,List.append_nil] at hA2;have hc1:¬(0:Int)<(q.tests.length:Int):=fun h=>hk (by simp only[qbp,Bool.or_eq_true,decide_eq_true_eq];left;omega)
     have hc2:q.act=x.dflt:=by
      rcases Classical.em (q.act=x.dflt) with h|h
      ·exact h
      ·exact absurd (by simp[qbp,h]) hk
     simp +decide only[↓vS,vT,simprocAttr,hc1,eq_true hc2,t0,n0,n1,n2,n3,hw1];refine ih (i+1,bo) _ _ (by simp only;omega) (by simp[qe,qi,Tr.get_set]) ⟨by simp only;omega,s+1,_,rfl,by omega,?_,⟨a,b,c,?_⟩,?_,fun hz=>?_⟩
     ·simp only[Tr.get_set];repeat rw[if_neg (by omega)]
      exact t0
     ·simp only[Tr.get_set];repeat rw[if_neg (by omega)]
      exact t1
     ·simp only[hA2,Tr.get_set];repeat rw[if_neg (by omega)]
      exact t2
     ·simp only[hA2] at hz ⊢;obtain⟨o1,o2,o3⟩:=to hz;refine⟨?_,o2,by omega⟩
      simp only[Tr.get_set];repeat rw[if_neg (by omega)]
      exact o1
   ·obtain rfl:i=x.rules.length:=by omega
    have hlt':¬((x.rules.length:Int)<x.rules.length):=by omega
    rw[List.take_length] at hA;have hnF:(jH x).rules=A:=hA.symm
    by_cases hz:A.length=0
    ·have hV:qam A.length bo = .nils:=by simp[qam,hz]
     have hAn:A=[]:=List.eq_nil_of_length_eq_zero hz;rw[hV] at t2;simp +decide only[↓vS,vT,simprocAttr,hlt',t2,t1];simp only[qz,hnF,hAn];simp[vZ,vP,Tr.get_set,rR,jH]
    ·obtain⟨o1,o2,o3⟩:=to hz;have hV:qam A.length bo = .own bo A.length:=by simp[qam,hz]
     have m1:¬bo=1:=by omega
     rw[hV] at t2;simp +decide only[↓vS,vT,simprocAttr,hlt',t2,t1];simp only[qz,hnF];have hA0:¬A=[]:=fun h=>hz (by rw[h];rfl)
     simp[vZ,vP,Tr.get_set,o1,m1,qQ xt,hA0,jH]
  ·simp[qe,qi,Tr.get_set]
  ·refine⟨Nat.zero_le _,_,_,rfl,by omega,?_,⟨.i .i64 0,.nils,.i .u32 0,?_⟩,?_,fun h=>absurd rfl h⟩
   ·simp[Tr.get_set]
   ·simp[Tr.get_set]
   ·simp[Tr.get_set,qam]
def WkB(fl:List AV)(ar row prg:AV):Blk:=.cells 0 true false (fl++[ar,row,prg])
section
variable {b s:Nat} {tr:Tr Blk} {k:AV->Hp->Prop} {x:GFil} {ar row prg:AV}
def zC(a:Nat):IFn:=⟨[.tmp 2],.seq (.r [.m 2 (.k 0)]) (.seq (.r [.n 4 0,.n 5 0,.q 6 (.nilChk (.t 5)),.f 7 0 6,.v 8 3 7,.l 9 a [.t 8],.n 3 9,.x 10 3 0,.x 11 3 1,.q 12 (.nilChk (.t 4)),.f 13 4 12,.u (.store 1 (.t 13) (.t 10)),.n 2 11]) (.seq (.r [.n 14 2,.n 2 14]) (.ret)))⟩
theorem qkp{g:Nat}(hc:qd P f (zC g)=true)(fl:List AV)(hfl:fl.length=3)(h:tr.get b=some (WkB fl ar row prg))(r:AV)(e:Int)(hr:zh r=true∧qde r=true∧cellsOf r=[r])(hg:qf P g [.agg fl] (.tup [r,.i .i64 e]))
  (hk:∀tr',(∀c,c≠b->tr'.get c=tr.get c)->tr'.get b=some (WkB fl ar r prg)->k (.i .i64 e) ⟨s,0,tr'⟩):SC P f [.ptr b 0] ⟨s,0,tr⟩ k:=by
 obtain⟨a1,a2,a3,rfl⟩:∃a1 a2 a3,fl=[a1,a2,a3]:=by
  match fl,hfl with
  | [a1,a2,a3],_=>exact⟨a1,a2,a3,rfl⟩
 obtain⟨r1,r2,r3⟩:=hr;simp only[WkB,List.cons_append,List.nil_append] at h hk;refine SC.mk hc (ql ?_);simp only[zC,vI,simprocAttr];simp +decide only[↓vS,vT,simprocAttr,h];refine hg.sc ?_;simp +decide only[↓vS,vT,simprocAttr,h,r1,r2,r3];refine hk _ (fun c hc=>?_) ?_
 ·rw[Tr.get_set,if_neg hc]
 ·rw[Tr.get_set,if_pos rfl]
def zI(a:Nat):IFn:=⟨[.tmp 2],.seq (.r [.m 2 (.k 0)]) (.seq (.r [.n 4 0,.n 5 0,.q 6 (.nilChk (.t 5)),.f 7 0 6,.v 8 3 7,.l 9 a [.t 8],.n 3 9,.x 10 3 0,.x 11 3 1,.q 12 (.nilChk (.t 4)),.f 13 0 12,.u (.store 3 (.t 13) (.t 10)),.n 2 11]) (.seq (.r [.n 14 2,.n 2 14]) (.ret)))⟩
theorem qkr{g:Nat}(hc:qd P f (zI g)=true)(fl:List AV)(hfl:fl.length=3)(h:tr.get b=some (WkB fl ar row prg))(fl2:List AV)(hf2:fl2.length=3)(e:Int)(hr:qD fl2=true)(hg:qf P g [.agg fl] (.tup [.agg fl2,.i .i64 e]))
  (hk:∀tr',(∀c,c≠b->tr'.get c=tr.get c)->tr'.get b=some (WkB fl2 ar row prg)->k (.i .i64 e) ⟨s,0,tr'⟩):SC P f [.ptr b 0] ⟨s,0,tr⟩ k:=by
 obtain⟨a1,a2,a3,rfl⟩:∃a1 a2 a3,fl=[a1,a2,a3]:=by
  match fl,hfl with
  | [a1,a2,a3],_=>exact⟨a1,a2,a3,rfl⟩
 obtain⟨c1,c2,c3,rfl⟩:∃a1 a2 a3,fl2=[a1,a2,a3]:=by
  match fl2,hf2 with
  | [a1,a2,a3],_=>exact⟨a1,a2,a3,rfl⟩
 simp only[WkB,List.cons_append,List.nil_append] at h hk;refine SC.mk hc (ql ?_);simp only[zI,vI,simprocAttr];simp +decide only[↓vS,vT,simprocAttr,h];refine hg.sc ?_;simp +decide only[↓vS,vT,simprocAttr,h,hr];refine hk _ (fun c hc=>?_) ?_
 ·rw[Tr.get_set,if_neg hc]
 ·rw[Tr.get_set,if_pos rfl]
def zH(a:Nat):IFn:=⟨[.tmp 2],.seq (.r [.m 2 (.k 0)]) (.seq (.r [.n 4 0,.n 5 0,.q 6 (.nilChk (.t 5)),.f 7 4 6,.d 8 7,.l 9 a [.t 8],.n 3 9,.x 10 3 0,.x 11 3 1,.q 12 (.nilChk (.t 4)),.f 13 4 12,.u (.store 1 (.t 13) (.t 10)),.n 2 11]) (.seq (.r [.n 14 2,.n 2 14]) (.ret)))⟩
theorem qoB{g:Nat}(hc:qd P f (zH g)=true)(fl:List AV)(hfl:fl.length=3)(h:tr.get b=some (WkB fl ar row prg))(r:AV)(e:Int)(hr:zh r=true∧qde r=true∧cellsOf r=[r])(hg:qf P g [row] (.tup [r,.i .i64 e]))
  (hk:∀tr',(∀c,c≠b->tr'.get c=tr.get c)->tr'.get b=some (WkB fl ar r prg)->k (.i .i64 e) ⟨s,0,tr'⟩):SC P f [.ptr b 0] ⟨s,0,tr⟩ k:=by
 obtain⟨a1,a2,a3,rfl⟩:∃a1 a2 a3,fl=[a1,a2,a3]:=by
  match fl,hfl with
  | [a1,a2,a3],_=>exact⟨a1,a2,a3,rfl⟩
 obtain⟨r1,r2,r3⟩:=hr;simp only[WkB,List.cons_append,List.nil_append] at h hk;refine SC.mk hc (ql ?_);simp only[zH,vI,simprocAttr];simp +decide only[↓vS,vT,simprocAttr,h];refine hg.sc ?_;simp +decide only[↓vS,vT,simprocAttr,h,r1,r2,r3];refine hk _ (fun c hc=>?_) ?_
 ·rw[Tr.get_set,if_neg hc]
 ·rw[Tr.get_set,if_pos rfl]
def zo(a:Nat):IFn:=⟨[.tmp 2],.seq (.r [.m 2 (.k 0)]) (.seq (.r [.n 4 0,.n 5 0,.q 6 (.nilChk (.t 5)),.f 7 4 6,.d 8 7,.l 9 a [.t 8],.n 3 9,.x 10 3 0,.x 11 3 1,.q 12 (.nilChk (.t 4)),.f 13 5 12,.u (.store 1 (.t 13) (.t 10)),.n 2 11]) (.seq (.r [.n 14 2,.n 2 14]) (.ret)))⟩
theorem qkq{g:Nat}(hc:qd P f (zo g)=true)(fl:List AV)(hfl:fl.length=3)(h:tr.get b=some (WkB fl ar row prg))(r:AV)(e:Int)(hr:zh r=true∧qde r=true∧cellsOf r=[r])(hg:qf P g [row] (.tup [r,.i .i64 e]))
  (hk:∀tr',(∀c,c≠b->tr'.get c=tr.get c)->tr'.get b=some (WkB fl ar row r)->k (.i .i64 e) ⟨s,0,tr'⟩):SC P f [.ptr b 0] ⟨s,0,tr⟩ k:=by
 obtain⟨a1,a2,a3,rfl⟩:∃a1 a2 a3,fl=[a1,a2,a3]:=by
  match fl,hfl with
  | [a1,a2,a3],_=>exact⟨a1,a2,a3,rfl⟩
 obtain⟨r1,r2,r3⟩:=hr;simp only[WkB,List.cons_append,List.nil_append] at h hk;refine SC.mk hc (ql ?_);simp only[zo,vI,simprocAttr];simp +decide only[↓vS,vT,simprocAttr,h];refine hg.sc ?_;simp +decide only[↓vS,vT,simprocAttr,h,r1,r2,r3];refine hk _ (fun c hc=>?_) ?_
 ·rw[Tr.get_set,if_neg hc]
 ·rw[Tr.get_set,if_pos rfl]
def zj:IFn:=⟨[.tmp 4,.tmp 5],.seq (.r [.m 4 .N,.m 5 (.k 0)]) (.seq (.seq (.r [.n 9 1,.e 10 9,.m 11 (.k 0)]) (.blk 0 (.loop (.seq (.r [.s 12 11 10]) (.seq (.cond (.t 12) (.skip) (.exit 0)) (.seq (.blk 1 (.seq (.r [.i 13 1 9 11,.d 14 13,.n 7 14]) (.seq (.r [.n 15 7,⟨(some 16),.callV (.t 15) [],none⟩,.n 8 16]) (.seq (.r [.n 17 8,.w 18 .neq 17 0]) (.cond (.t 18) (.seq (.r [.n 19 8,.m 4 .N,.n 5 19]) (.ret)) (.skip)))))) (.r [.a 20 11 1,.n 11 20]))))))) (.seq (.r [.n 21 0,.q 22 (.nilChk (.t 21)),.f 23 5 22,.d 24 23,.n 4 24,.m 5 (.k 0)]) (.ret)))⟩
theorem quK(hc:qd P f zj=true){bx e:Nat}{wf a:Bool}(gs:List Nat)(hx:tr.get bx=some (.cells e wf a (gs.map fun g=>.fn g [.ptr b 0] [])))(hbx:bx≠b)(J:Nat->AV->Blk->Prop)(n:Nat)(hn:gs.length=n)(hn9:n<=9)
  (B0:Blk) (h0:tr.get b=some B0) (hJ0:J 0 (.i .i64 0) B0)
  (step:∀(i:Nat) g B (s':Nat) (tr':Tr Blk) (k':AV->Hp->Prop),gs[i]?=some g->J i (.i .i64 0) B->tr'.get b=some B->(∀(v:Int) B' tr2,(∀c,c≠b->tr2.get c=tr'.get c)->tr2.get b=some B'->J (i+1) (.i .i64 v) B'->k' (.i .i64 v) ⟨s',0,tr2⟩)->SC P g [.ptr b 0] ⟨s',0,tr'⟩ k')
  (hbad:∀(i:Nat) (v:Int) B tr2,(∀c,c≠b->tr2.get c=tr.get c)->v≠0->J i (.i .i64 v) B->k (.tup [.nils,.i .i64 v]) ⟨s,0,tr2⟩)
  (hok:∀B tr2,(∀c,c≠b->tr2.get c=tr.get c)->J n (.i .i64 0) B->tr2.get b=some B->∃fl ar row prg,fl.length=3∧B=WkB fl ar row prg∧k (.tup [prg,.i .i64 0]) ⟨s,0,tr2⟩) :
  SC P f [.ptr b 0,.sl bx 0 n n false] ⟨s,0,tr⟩ k:=by
 refine SC.mk hc (ql ?_);simp only[zj,vI,simprocAttr];simp +decide only[↓vS,vT,simprocAttr]
 refine SL.loopP (α:=Nat) (fun i=>[(0,.ptr b 0),(9,.sl bx 0 n n false),(10,.i .i64 (n:Int)),(11,.i .i64 (i:Int))])
  (fun i h=>i<=n∧∃tr' B,h=⟨s,0,tr'⟩∧(∀c,c≠b->tr'.get c=tr.get c)∧tr'.get bx=some (.cells e wf a (gs.map fun g=>.fn g [.ptr b 0] []))∧tr'.get b=some B∧J i (.i .i64 0) B) (fun i=>n-i) ?_ 0 ?_ ?_
 ·rintro i h ⟨hi,tr',B,rfl,gf,gx,gb,hj⟩ G ih;simp only[vI,simprocAttr]
  by_cases hlt:i<n
  ·have hlt':(i:Int)<n:=by omega
   obtain⟨g,hg⟩:∃g,gs[i]?=some g:=⟨_,zzE (by omega)⟩;have hgm:(gs.map fun g=>AV.fn g [.ptr b 0] [])[i]?=some (.fn g [.ptr b 0] []):=by simp[hg]
   have hw1:IntKind.wrap .i64 ((i:Int)+1)=((i+1:Nat):Int):=by rw[qm (by omega) (by omega)];simp
   simp +decide only[↓vS,vT,simprocAttr,hlt',hlt,gx,hgm,Nat.mul_one];refine step i g B s tr' _ hg hj gb fun v B' tr2 q1 q2 q3=>?_
   by_cases hv:v=0
   ·subst hv;simp +decide only[↓vS,vT,simprocAttr,hw1];exact ih (i+1) _ _ (by omega) (by simp[qe,qi,Tr.get_set]) ⟨by omega,tr2,B',rfl,fun c hc=>(q1 c hc).trans (gf c hc),(q1 bx hbx).trans gx,q2,q3⟩
   ·simp +decide only[↓vS,vT,simprocAttr,hv];exact hbad (i+1) v B' tr2 (fun c hc=>(q1 c hc).trans (gf c hc)) hv q3
  ·obtain rfl:i=n:=by omega
   have hlt':¬((i:Int)<i):=by omega
   obtain⟨fl,ar,row,prg,hfl,hB,hk⟩:=hok B tr' gf hj gb
   obtain⟨a1,a2,a3,rfl⟩:∃a1 a2 a3,fl=[a1,a2,a3]:=by
    match fl,hfl with
    | [a1,a2,a3],_=>exact⟨a1,a2,a3,rfl⟩
   rw[hB] at gb;simp only[WkB,List.cons_append,List.nil_append] at gb;simp +decide only[↓vS,vT,simprocAttr,hlt',gb];exact hk
 ·simp[qe,qi,Tr.get_set]
 ·exact⟨Nat.zero_le _,tr,B0,rfl,fun _ _=>rfl,hx,h0,hJ0⟩
theorem qmn(hc:qd P f zj=true){bx e:Nat}{wf a:Bool}(gs:List Nat)(hx:tr.get bx=some (.cells e wf a (gs.map fun g=>.fn g [.ptr b 0] [])))(hbx:bx≠b)(Bs:Nat->Blk)(vs:Nat->Int)(n:Nat)(hn:gs.length=n)(hn9:n<=9)(h0:tr.get b=some (Bs 0))(hv0:vs 0=0)
  (step:∀(i:Nat) g (s':Nat) (tr':Tr Blk) (k':AV->Hp->Prop),gs[i]?=some g->(∀j,j<=i->vs j=0)->tr'.get b=some (Bs i)->(∀tr2,(∀c,c≠b->tr2.get c=tr'.get c)->tr2.get b=some (Bs (i+1))->k' (.i .i64 (vs (i+1))) ⟨s',0,tr2⟩)->SC P g [.ptr b 0] ⟨s',0,tr'⟩ k')
  (hbad:∀(i:Nat) tr2,(∀c,c≠b->tr2.get c=tr.get c)->vs i≠0->(∀j,j<i->vs j=0)->k (.tup [.nils,.i .i64 (vs i)]) ⟨s,0,tr2⟩)
  (hok:∀tr2,(∀c,c≠b->tr2.get c=tr.get c)->(∀j,j<=n->vs j=0)->tr2.get b=some (Bs n)->∃fl ar row prg,fl.length=3∧Bs n=WkB fl ar row prg∧k (.tup [prg,.i .i64 0]) ⟨s,0,tr2⟩) :
  SC P f [.ptr b 0,.sl bx 0 n n false] ⟨s,0,tr⟩ k:=by
 refine quK hc gs hx hbx (fun i v B=>v = .i .i64 (vs i)∧B=Bs i∧∀j,j<i->vs j=0) n hn hn9 (Bs 0) h0 ⟨by rw[hv0],rfl,fun j hj=>by omega⟩ ?_ ?_ ?_
 ·rintro i g B s' tr' k' hg ⟨h1,rfl,h2⟩ hB hk';have hvi:vs i=0:=(AV.i.inj h1).2.symm;refine step i g s' tr' k' hg (fun j hj=>?_) hB fun tr2 q1 q2=>hk' _ _ _ q1 q2 ⟨rfl,rfl,fun j hj=>?_⟩
  ·rcases Nat.lt_or_ge j i with h|h
   ·exact h2 j h
   ·rw[show j=i by omega];exact hvi
  ·rcases Nat.lt_or_ge j i with h|h
   ·exact h2 j h
   ·rw[show j=i by omega];exact hvi
 ·rintro i v B tr2 hfr hv ⟨h1,rfl,h2⟩;have:v=vs i:=(AV.i.inj h1).2;rw[this] at hv ⊢;exact hbad i tr2 hfr hv h2
 ·rintro B tr2 hfr ⟨h1,rfl,h2⟩ hB;refine hok tr2 hfr (fun j hj=>?_) hB
  have hvn:vs n=0:=(AV.i.inj h1).2.symm;rcases Nat.lt_or_ge j n with h|h
  ·exact h2 j h
  ·rw[show j=n by omega];exact hvn
def qa5:IFn:=⟨[.tmp 8,.tmp 9],.seq (.r [.m 8 .N,.m 9 (.k 0)]) (.seq (.seq (.r [.n 10 3,.w 11 .neq 10 0,.n 12 11,.z 13 1 12,.g 14 (.bin .eql (.t 13) (.k 0)) 12 false,.z 15 14 12,.y 16 0 15,.g 17 (.len false (.t 16)) 15 true,.y 18 2 15,.g 19 (.len false (.t 18)) 15 true,.g 20 (.bin .lss (.t 17) (.t 19)) 15 true,.g 21 (.pick (.t 15) (.t 20) .F) 12 false,.o 22 12 21]) (.cond (.t 22) (.seq (.r [.n 23 0,.n 24 1,.n 8 23,.n 9 24]) (.ret)) (.skip))) (.seq (.r [.n 25 2,.n 26 3,.n 8 25,.n 9 26]) (.ret)))⟩
def qiK(v:AV)(p:List Ins):Prop:=v = .fz p.length (rP p)∨v = .nils∧p=[]
def qeW(u v:List Ins×Int):List Ins×Int:=if v.2≠0∨(u.2=0∧u.1.length<v.1.length) then u else v
theorem qiK.clo{v:AV}{p:List Ins}(h:qiK v p):Go.Kc.clo v=true:=by
 rcases h with rfl|⟨rfl,_⟩
 ·simp[Go.Kc.clo,qu]
 ·rfl
theorem ql7(hc:qd P f qa5=true)(u v:List Ins×Int)(x y:AV)(hx:qiK x u.1)(hy:qiK y v.1) :
  ∃z,qiK z (qeW u v).1∧qf P f [x,.i .i64 u.2,y,.i .i64 v.2] (.tup [z,.i .i64 (qeW u v).2]):=by
 have key:∀(h:Bool),(decide (v.2≠0∨(u.2=0∧u.1.length<v.1.length)))=h->qf P f [x,.i .i64 u.2,y,.i .i64 v.2] (.tup [if h=true then x else y,.i .i64 (if h=true then u.2 else v.2)]):=by
  intro h hh;refine qf.mk hc (by simp[qw,Go.Kc.clo,hx.clo,hy.clo]) ?_;simp only[qa5,vI,simprocAttr]
  by_cases h1:v.2=0
  ·by_cases h2:u.2=0
   ·have e:h=decide (u.1.length<v.1.length):=by rw[← hh];simp[h1,h2]
    rw[e];rcases hx with rfl|⟨rfl,hx⟩<;>rcases hy with rfl|⟨rfl,hy⟩
    ·by_cases h3:u.1.length<v.1.length
     ·simp +decide only[↓vS,vT,simprocAttr,h1,h2,Int.ofNat_lt,h3];simp[vZ,qQ (qu _)]
     ·simp +decide only[↓vS,vT,simprocAttr,h1,h2,Int.ofNat_lt,h3];simp[vZ,qQ (qu _)]
    ·have h3:¬u.1.length<v.1.length:=by rw[hy];simp
     have h3':¬(u.1.length:Int)<0:=by omega
     simp +decide only[↓vS,vT,simprocAttr,h1,h2,h3',h3];simp[vZ]
    ·rw[hx]
     by_cases h3:0<v.1.length
     ·have h3':(0:Int)<v.1.length:=by omega
      simp +decide only[↓vS,vT,simprocAttr,h1,h2,h3',h3];simp[vZ]
     ·have h3':¬(0:Int)<v.1.length:=by omega
      simp +decide only[↓vS,vT,simprocAttr,h1,h2,h3',h3];simp[vZ,qQ (qu _)]
    ·rw[hx,hy];simp +decide only[↓vS,vT,simprocAttr,h1,h2];simp[vZ]
   ·have e:h=false:=by rw[← hh];simp[h1,h2]
    rw[e];simp +decide only[↓vS,vT,simprocAttr,h1,h2];simp[vZ,h1,Frz.self hy.clo]
  ·have e:h=true:=by rw[← hh];simp[h1]
   rw[e];simp +decide only[↓vS,vT,simprocAttr,h1];simp[vZ,Frz.self hx.clo]
 unfold qeW
 by_cases h:v.2≠0∨(u.2=0∧u.1.length<v.1.length)
 ·rw[if_pos h];exact⟨x,hx,by simpa using key true (by simpa using h)⟩
 ·rw[if_neg h];exact⟨y,hy,by simpa using key false (by simpa using h)⟩
end
def qai(l:List Sy):List Ins×Int:=if 4096<(xu l).length then ([],270) else (xu l,0)
theorem qoF{l:List Sy}:qjg l = .tup [.fz (qai l).1.length (rP (qai l).1),.i .i64 (qai l).2]:=by
 unfold qjg qai;split<;>rfl
def qeO(l:List Sy):List Sy:=qfC (qmf (qeq l))
noncomputable def qe0(x:GFil):List Ins×Int:=if xp x=true then qai (qW x) else ([],210)
noncomputable def qfm(x:GFil):List Ins×Int:=if xp x=true then qai (qeO (qW (jH x))) else ([],210)
noncomputable def qed(x:GFil)(o:Bool):List Ins×Int:=if o=true then qeW (qe0 x) (qfm x) else qe0 x
structure CmpFn (P:Program) (gE gN gO gL:Nat) (x:GFil):Prop where
 em:qf P gE [.agg (qz x)] (qmr x)
 nm:qf P gN [.agg (qz x)] (qp1 x)
 lk:xp x=true->qf P gL [.fz (qW x).length (rSy (qW x))] (qjg (qW x))
 em2:xp x=true->qf P gE [.agg (qz (jH x))] (qmr (jH x))
 ok2:xp x=true->xp (jH x)=true
 op:xp x=true->qf P gO [.fz (qW (jH x)).length (rSy (qW (jH x)))] (.tup [.fz (qeO (qW (jH x))).length (rSy (qeO (qW (jH x)))),.i .i64 0])
 lk2:xp x=true->qf P gL [.fz (qeO (qW (jH x))).length (rSy (qeO (qW (jH x))))] (qjg (qeO (qW (jH x))))
section
variable {gE gN gO gL b s:Nat} {tr:Tr Blk} {k:AV->Hp->Prop} {x:GFil}
theorem qqB{n:Nat}{cs:List AV}:zh (.fz n cs)=true∧qde (.fz n cs)=true∧cellsOf (.fz n cs)=[.fz n cs]:=⟨rfl,rfl,rfl⟩
theorem qxB{gd gwE gwL bx:Nat}{e:Nat}{wf a:Bool}(hc:qd P gd zj=true)(hE:qd P gwE (zC gE)=true)(hL:qd P gwL (zo gL)=true)(C:CmpFn P gE gN gO gL x)
  (hx:tr.get bx=some (.cells e wf a [.fn gwE [.ptr b 0] [],.fn gwL [.ptr b 0] []])) (hbx:bx≠b) (h0:tr.get b=some (WkB (qz x) .nils .nils .nils))
  (hk:∀v tr2,qiK v (qe0 x).1->(∀c,c≠b->tr2.get c=tr.get c)->k (.tup [v,.i .i64 (qe0 x).2]) ⟨s,0,tr2⟩):SC P gd [.ptr b 0,.sl bx 0 2 2 false] ⟨s,0,tr⟩ k:=by
 have hE':=C.em;cases hK:xp x with
 | false =>
  have e1:qe0 x=([],210):=by unfold qe0;simp[hK]
  rw[e1] at hk;unfold qmr at hE';rw[hK,if_neg (by simp)] at hE';refine qmn hc [gwE,gwL] (by simpa using hx) hbx (fun i=>if i=0 then WkB (qz x) .nils .nils .nils else WkB (qz x) .nils (.fz 0 []) .nils) (fun i=>if i=0 then 0 else 210) 2 rfl (by omega) h0 rfl ?_ ?_ ?_
  ·intro i g s' tr' k' hg hj hB hk'
   have hi:i=0:=by
    by_cases hi:i=0
    ·exact hi
    ·have:=hj i (Nat.le_refl _);simp[hi] at this
   subst hi;simp at hg;subst hg;exact qkp hE (qz x) rfl hB _ _ qqB hE' hk'
  ·intro i tr2 hf hv hj;have hi:i≠0:=fun h=>hv (by simp[h])
   simp only[if_neg hi];exact hk _ _ (.inr ⟨rfl,rfl⟩) hf
  ·intro tr2 _ hj _;have:=hj 1 (by omega);simp at this
 | true =>
  have hL':=C.lk hK;rw[qoF] at hL';have e1:qe0 x=qai (qW x):=by unfold qe0;simp[hK]
  rw[e1] at hk;unfold qmr at hE';rw[hK,if_pos rfl] at hE'
  refine qmn hc [gwE,gwL] (by simpa using hx) hbx (fun i=>if i=0 then WkB (qz x) .nils .nils .nils else if i=1 then WkB (qz x) .nils (.fz (qW x).length (rSy (qW x))) .nils else WkB (qz x) .nils (.fz (qW x).length (rSy (qW x))) (.fz (qai (qW x)).1.length (rP (qai (qW x)).1)))
   (fun i=>if i=0 then 0 else if i=1 then 0 else (qai (qW x)).2) 2 rfl (by omega) h0 rfl ?_ ?_ ?_
  ·intro i g s' tr' k' hg hj hB hk';have hi:i<2:=by have:=(zzS.1 hg).1;simpa using this
   have hi2:i=0∨i=1:=by omega
   rcases hi2 with rfl|rfl
   ·simp at hg;subst hg;exact qkp hE (qz x) rfl hB _ _ qqB hE' hk'
   ·simp at hg;subst hg;exact qkq hL (qz x) rfl hB _ _ qqB hL' hk'
  ·intro i tr2 hf hv hj;have h0':i≠0:=fun h=>hv (by simp[h])
   have h1':i≠1:=fun h=>hv (by simp[h])
   simp only[if_neg h0',if_neg h1'] at hv ⊢
   have e2:(qai (qW x)).1=[]:=by
    unfold qai at hv ⊢;split at hv
    ·rename_i h;rw[if_pos h]
    ·exact absurd rfl hv
   exact hk _ _ (.inr ⟨rfl,e2⟩) hf
  ·intro tr2 hf hj hB;have hz:=hj 2 (by omega);simp at hz;refine⟨qz x,.nils,_,_,rfl,rfl,?_⟩;have:=hk (.fz (qai (qW x)).1.length (rP (qai (qW x)).1)) tr2 (.inl rfl) hf;rw[hz] at this;exact this
theorem qxA{gd gwN gwE gwO gwL bx:Nat}{e:Nat}{wf a:Bool}(hc:qd P gd zj=true)(hN:qd P gwN (zI gN)=true)(hE:qd P gwE (zC gE)=true)(hO:qd P gwO (zH gO)=true)(hL:qd P gwL (zo gL)=true)(C:CmpFn P gE gN gO gL x)
  (hx:tr.get bx=some (.cells e wf a [.fn gwN [.ptr b 0] [],.fn gwE [.ptr b 0] [],.fn gwO [.ptr b 0] [],.fn gwL [.ptr b 0] []])) (hbx:bx≠b) (h0:tr.get b=some (WkB (qz x) .nils .nils .nils))
  (hk:∀v tr2,qiK v (qfm x).1->(∀c,c≠b->tr2.get c=tr.get c)->k (.tup [v,.i .i64 (qfm x).2]) ⟨s,0,tr2⟩):SC P gd [.ptr b 0,.sl bx 0 4 4 false] ⟨s,0,tr⟩ k:=by
 have hN':=C.nm;cases hK:xp x with
 | false =>
  have e1:qfm x=([],210):=by unfold qfm;simp[hK]
  rw[e1] at hk;unfold qp1 at hN';rw[hK,if_neg (by simp)] at hN';refine qmn hc [gwN,gwE,gwO,gwL] (by simpa using hx) hbx (fun i=>if i=0 then WkB (qz x) .nils .nils .nils else WkB [.i .i64 0,.fz 0 [],.i .u32 0] .nils .nils .nils) (fun i=>if i=0 then 0 else 210) 4 rfl (by omega) h0 rfl ?_ ?_ ?_
  ·intro i g s' tr' k' hg hj hB hk'
   have hi:i=0:=by
    by_cases hi:i=0
    ·exact hi
    ·have:=hj i (Nat.le_refl _);simp[hi] at this
   subst hi;simp at hg;subst hg;exact qkr hN (qz x) rfl hB [.i .i64 0,.fz 0 [],.i .u32 0] rfl _ rfl hN' hk'
  ·intro i tr2 hf hv hj;have hi:i≠0:=fun h=>hv (by simp[h])
   simp only[if_neg hi];exact hk _ _ (.inr ⟨rfl,rfl⟩) hf
  ·intro tr2 _ hj _;have:=hj 1 (by omega);simp at this
 | true =>
  obtain⟨y,hy⟩:∃y,y=jH x:=⟨_,rfl⟩;obtain⟨m,hm⟩:∃m,m=qeO (qW y):=⟨_,rfl⟩;have hL':=C.lk2 hK;have hE':=C.em2 hK;have hO':=C.op hK;have hK2:=C.ok2 hK;have e1:qfm x=qai (qeO (qW (jH x))):=by unfold qfm;simp[hK]
  rw[e1] at hk;unfold qp1 at hN';rw[hK,if_pos rfl] at hN';rw[← hy] at hL' hE' hO' hK2 hN' hk;unfold qmr at hE';rw[hK2,if_pos rfl] at hE';rw[← hm] at hL' hO' hk;rw[qoF] at hL'
  refine qmn hc [gwN,gwE,gwO,gwL] (by simpa using hx) hbx (fun i=>if i=0 then WkB (qz x) .nils .nils .nils else if i=1 then WkB (qz y) .nils .nils .nils else if i=2 then WkB (qz y) .nils (.fz (qW y).length (rSy (qW y))) .nils else if i=3 then WkB (qz y) .nils (.fz m.length (rSy m)) .nils else WkB (qz y) .nils (.fz m.length (rSy m)) (.fz (qai m).1.length (rP (qai m).1)))
   (fun i=>if i=0 then 0 else if i=1 then 0 else if i=2 then 0 else if i=3 then 0 else (qai m).2) 4 rfl (by omega) h0 rfl ?_ ?_ ?_
  ·intro i g s' tr' k' hg hj hB hk';have hi:i<4:=by have:=(zzS.1 hg).1;simpa using this
   have hi2:i=0∨i=1∨i=2∨i=3:=by omega
   rcases hi2 with rfl|rfl|rfl|rfl
   ·simp at hg;subst hg;exact qkr hN (qz x) rfl hB (qz y) rfl _ rfl hN' hk'
   ·simp at hg;subst hg;exact qkp hE (qz y) rfl hB _ _ qqB hE' hk'
   ·simp at hg;subst hg;exact qoB hO (qz y) rfl hB _ _ qqB hO' hk'
   ·simp at hg;subst hg;exact qkq hL (qz y) rfl hB _ _ qqB hL' hk'
  ·intro i tr2 hf hv hj;have h0':i≠0:=fun h=>hv (by simp[h])
   have h1':i≠1:=fun h=>hv (by simp[h])
   have h2':i≠2:=fun h=>hv (by simp[h])
   have h3':i≠3:=fun h=>hv (by simp[h])
   simp only[if_neg h0',if_neg h1',if_neg h2',if_neg h3'] at hv ⊢
   have e2:(qai m).1=[]:=by
    unfold qai at hv ⊢;split at hv
    ·rename_i h;rw[if_pos h]
    ·exact absurd rfl hv
   exact hk _ _ (.inr ⟨rfl,e2⟩) hf
  ·intro tr2 hf hj hB;have hz:=hj 4 (by omega);simp at hz;refine⟨qz y,.nils,_,_,rfl,rfl,?_⟩;have:=hk (.fz (qai m).1.length (rP (qai m).1)) tr2 (.inl rfl) hf;rw[hz] at this;exact this
def qa4(a b c d e g:Nat):IFn:=⟨[.tmp 4,.tmp 5],.seq (.r [.q 2 (.box (.t 0)),.m 4 .N,.m 5 (.k 0)]) (.seq (.reg true [.v 12 3 2,.q 13 (.build [.i .i64 0,.nils,.i .u32 0,.nils,.nils,.nils] [(0,3,(.t 12))]),.q 14 (.box (.t 13)),.v 15 3 2,.q 16 (.build [.i .i64 0,.nils,.i .u32 0,.nils,.nils,.nils] [(0,3,(.t 15))]),.q 17 (.box (.t 16)),.n 6 14,.n 7 17]) (.seq (.r [.n 19 6,.n 20 6,.q 21 (.mkF a [.t 20] []),.n 22 6,.q 23 (.mkF b [.t 22] []),.q 24 (.buildS 2 [.nilf] [(0,1,(.t 21)),(1,1,(.t 23))]),.l 25 c [.t 19,.t 24],.n 18 25,.x 26 18 0,.x 27 18 1,.n 8 26,.n 9 27]) (.seq (.seq (.r [.n 28 1,.q 29 (.un .not (.t 28))]) (.cond (.t 29) (.seq (.r [.n 30 8,.n 31 9,.n 4 30,.n 5 31]) (.ret)) (.skip))) (.seq (.r [.n 33 7,.n 34 7,.q 35 (.mkF d [.t 34] []),.n 36 7,.q 37 (.mkF a [.t 36] []),.n 38 7,.q 39 (.mkF e [.t 38] []),.n 40 7,.q 41 (.mkF b [.t 40] []),.q 42 (.buildS 4 [.nilf] [(0,1,(.t 35)),(1,1,(.t 37)),(2,1,(.t 39)),(3,1,(.t 41))]),.l 43 c [.t 33,.t 42],.n 32 43,.x 44 32 0,.x 45 32 1,.n 10 44,.n 11 45]) (.seq (.r [.n 46 8,.n 47 9,.n 48 10,.n 49 11,.l 50 g [.t 46,.t 47,.t 48,.t 49],.x 51 50 0,.x 52 50 1,.n 4 51,.n 5 52]) (.ret))))))⟩
theorem qiK.frz{v:AV}{p:List Ins}{h:Hp}(hv:qiK v p):Frz h v (.fz p.length (rP p)):=by
 rcases hv with rfl|⟨rfl,rfl⟩
 ·exact Frz.self (by simp[Go.Kc.clo,qu])
 ·exact .nilz
theorem qlB{gd gwN gwE gwO gwL gs:Nat}(hc:qd P f (qa4 gwE gwL gd gwN gwO gs)=true)(hd:qd P gd zj=true)(hN:qd P gwN (zI gN)=true)(hE:qd P gwE (zC gE)=true)(hO:qd P gwO (zH gO)=true)(hL:qd P gwL (zo gL)=true)
  (hs:∀(u v:List Ins×Int) (x y:AV),qiK x u.1->qiK y v.1->∃z,qiK z (qeW u v).1∧qf P gs [x,.i .i64 u.2,y,.i .i64 v.2] (.tup [z,.i .i64 (qeW u v).2])) (C:CmpFn P gE gN gO gL x) (o:Bool) :
  qf P f [.agg (qz x),.b o] (.tup [.fz (qed x o).1.length (rP (qed x o).1),.i .i64 (qed x o).2]):=by
 refine qf.mk hc (by simp[qw,Go.Kc.clo,qz,xt]) ?_;simp only[qa4,qz,vI,simprocAttr];simp +decide only[↓vS,vT,simprocAttr];refine zg ?_;simp +decide only[↓vS,vT,simprocAttr];refine qxB hd hE hL C (b:=1) (bx:=3) (by simp[Tr.get_set];exact⟨rfl,rfl,rfl⟩) (by decide) (by simp[Tr.get_set,WkB,qz]) fun v tr2 hv hf=>?_
 cases o with
 | false =>
  simp +decide only[↓vS,vT,simprocAttr,qed];simp[vZ];exact hv.frz
 | true =>
  simp +decide only[↓vS,vT,simprocAttr,qed];refine qxA hd hN hE hO hL C (b:=2) (bx:=4) (by simp[Tr.get_set];exact⟨rfl,rfl,rfl⟩) (by decide) (by rw[Tr.get_set,if_neg (by decide),hf 2 (by decide)];simp[Tr.get_set,WkB,qz]) fun w tr3 hw _=>?_
  obtain⟨z,hz1,hz2⟩:=hs (qe0 x) (qfm x) v w hv hw;simp +decide only[↓vS,vT,simprocAttr];refine hz2.sc ?_;simp +decide only[↓vS,vT,simprocAttr];simp[vZ];exact⟨hz1.frz,rfl⟩
end
end Go.Kc
end
section
namespace Go.Kc
def zR:List Sp->Int->Int->Prop
 | [],a,b=>a=b
 | s::l,a,b=>s.fr=a∧a<=s.to∧zR l (s.to+1) b
theorem zR.le:∀{l:List Sp} {a b:Int},zR l a b->a<=b
 | [],_,_,h=>by simp[zR] at h;omega
 | s::l,a,b,h=>by obtain⟨h1,h2,h3⟩:=h;have:=h3.le;omega
theorem zR.app:∀{l m:List Sp} {a b:Int},zR (l++m) a b↔∃c,zR l a c∧zR m c b
 | [],m,a,b=>by simp[zR]
 | s::l,m,a,b=>by
  simp only[List.cons_append,zR];constructor
  ·rintro⟨h1,h2,h3⟩;obtain⟨c,h4,h5⟩:=zR.app.1 h3;exact⟨c,⟨h1,h2,h4⟩,h5⟩
  ·rintro⟨c,⟨h1,h2,h4⟩,h5⟩;exact⟨h1,h2,zR.app.2 ⟨c,h4,h5⟩⟩
def Cov(l:List Sp)(n:Int)(w:Nat):Prop:=∃s ∈ l,s.fr<=n∧n<=s.to∧s.way=w
theorem qqn{l:List Sp}{s:Sp}{a:Int}(h:zR l a s.fr)(hs:s.fr<=s.to):zR (jv l s) a (s.to+1)∧∀n w,Cov l n w∨(s.fr<=n∧n<=s.to∧s.way=w)->Cov (jv l s) n w:=by
 rcases List.eq_nil_or_concat l with rfl|⟨l0,z,rfl⟩
 ·refine⟨?_,?_⟩
  ·simp only[zR] at h;simp only[jv,List.getElem?_nil,List.nil_append,zR];exact⟨h.symm,by omega,trivial⟩
  ·rintro n w (⟨x,hx,_⟩|h)
   ·cases hx
   ·exact⟨s,by simp[jv],h⟩
 ·rw[List.concat_eq_append] at h ⊢;have hz:(l0++[z])[(l0++[z]).length-1]?=some z:=by simp
  unfold jv;rw[hz];obtain⟨c,h1,h2⟩:=zR.app.1 h;simp only[zR] at h2;obtain⟨h2,h3,h4⟩:=h2;simp only
  by_cases hw:z.way=s.way
  ·rw[if_pos hw];have e:(l0++[z]).set ((l0++[z]).length-1) ⟨z.fr,s.to,z.way⟩=l0++[⟨z.fr,s.to,z.way⟩]:=by simp
   rw[e];refine⟨zR.app.2 ⟨c,h1,h2,by simp only;omega,rfl⟩,?_⟩
   rintro n w (⟨x,hx,q1,q2,q3⟩|⟨q1,q2,q3⟩)
   ·rcases List.mem_append.1 hx with hx|hx
    ·exact⟨x,List.mem_append_left _ hx,q1,q2,q3⟩
    ·rw[List.mem_singleton] at hx;subst hx;exact⟨_,List.mem_append_right _ (List.mem_singleton.2 rfl),q1,by simp only;omega,q3⟩
   ·exact⟨_,List.mem_append_right _ (List.mem_singleton.2 rfl),by simp only;omega,q2,by simp only;omega⟩
  ·rw[if_neg hw];refine⟨zR.app.2 ⟨s.fr,h,rfl,hs,rfl⟩,?_⟩;rintro n w (⟨x,hx,q⟩|q)
   ·exact⟨x,List.mem_append_left _ hx,q⟩
   ·exact⟨s,List.mem_append_right _ (List.mem_singleton.2 rfl),q⟩
theorem qjr:∀{m l:List Sp} {a b c:Int},zR l a b->zR m b c->zR (m.foldl jv l) a c∧∀n w,Cov l n w∨Cov m n w->Cov (m.foldl jv l) n w
 | [],l,a,b,c,h1,h2=>by
  simp only[zR] at h2;subst h2;refine⟨h1,?_⟩;rintro n w (h|⟨x,hx,_⟩)
  ·exact h
  ·cases hx
 | s::m,l,a,b,c,h1,h2=>by
  obtain⟨h3,h4,h5⟩:=h2;obtain⟨p1,p2⟩:=qqn (s:=s) (by rw[h3];exact h1) (by omega);obtain⟨q1,q2⟩:=qjr p1 h5;refine⟨q1,?_⟩;rintro n w (h|⟨x,hx,hq⟩)
  ·exact q2 n w (.inl (p2 n w (.inl h)))
  ·rcases List.mem_cons.1 hx with rfl|hx
   ·exact q2 n w (.inl (p2 n w (.inr hq)))
   ·exact q2 n w (.inr ⟨x,hx,hq⟩)
def Ups:List (Int×Nat)->Int->Prop
 | [],_=>True
 | x::l,a=>a<=x.1∧x.1<4294967296∧Ups l (x.1+1)
theorem qk8{o:Nat}:∀{l:List (Int×Nat)} {a:Int},Ups l a->0<=a->a<=4294967296->zR (pcs o l a) a 4294967296∧(∀x ∈ l,Cov (pcs o l a) x.1 x.2)∧∀n:Int,a<=n->n<4294967296->(∀x ∈ l,x.1≠n)->Cov (pcs o l a) n o
 | [],a,_,h0,h1=>by
  unfold pcs;refine⟨?_,fun x hx=>(by cases hx),fun n h2 h3 _=>?_⟩
  ·split
   ·exact⟨rfl,by simp only;omega,by simp only[zR];omega⟩
   ·simp only[zR];omega
  ·rw[if_pos (by omega)];exact⟨_,List.mem_singleton.2 rfl,h2,by simp only;omega,rfl⟩
 | x::l,a,hu,h0,h1=>by
  obtain⟨u1,u2,u3⟩:=hu;obtain⟨c1,c2,c3⟩:=qk8 (o:=o) u3 (by omega) (by omega);unfold pcs
  have app:∀(b:Bool),(b=true↔a<x.1)->zR ((if a<x.1 then [⟨a,x.1-1,o⟩] else [])++⟨x.1,x.1,x.2⟩::pcs o l (x.1+1)) a 4294967296:=fun _ _=>by
   by_cases h:a<x.1
   ·rw[if_pos h];exact⟨rfl,by simp only;omega,by simp only;omega,by simp only;omega,c1⟩
   ·rw[if_neg h];exact⟨by simp only;omega,by simp only;omega,c1⟩
  refine⟨app (decide (a<x.1)) (by simp),fun y hy=>?_,fun n h2 h3 h4=>?_⟩
  ·rcases List.mem_cons.1 hy with rfl|hy
   ·exact⟨_,List.mem_append_right _ (List.mem_cons_self ..),Int.le_refl _,Int.le_refl _,rfl⟩
   ·obtain⟨s,hs,hq⟩:=c2 y hy;exact⟨s,List.mem_append_right _ (List.mem_cons_of_mem _ hs),hq⟩
  ·have hx:=h4 x (List.mem_cons_self ..);rcases Int.lt_or_gt_of_ne hx with h|h
   ·obtain⟨s,hs,hq⟩:=c3 n (by omega) h3 fun y hy=>h4 y (List.mem_cons_of_mem _ hy)
    exact⟨s,List.mem_append_right _ (List.mem_cons_of_mem _ hs),hq⟩
   ·rw[if_pos (by omega)];exact⟨_,List.mem_append_left _ (List.mem_singleton.2 rfl),h2,by simp only;omega,rfl⟩
theorem qnu{o:Nat}{m:Nat}(ho:o<m):∀{l:List (Int×Nat)} {a:Int},(∀x ∈ l,x.2<m)->∀s ∈ pcs o l a,s.way<m
 | [],a,_,s,hs=>by
  unfold pcs at hs;split at hs
  ·rw[List.mem_singleton] at hs;subst hs;exact ho
  ·cases hs
 | x::l,a,h,s,hs=>by
  unfold pcs at hs;rcases List.mem_append.1 hs with hs|hs
  ·split at hs
   ·rw[List.mem_singleton] at hs;subst hs;exact ho
   ·cases hs
  ·rcases List.mem_cons.1 hs with rfl|hs
   ·exact h x (List.mem_cons_self ..)
   ·exact qnu ho (fun y hy=>h y (List.mem_cons_of_mem _ hy)) s hs
theorem qpr{o:Nat}:∀{l:List (Int×Nat)} {a:Int},(pcs o l a).length<=2*l.length+1
 | [],a=>by unfold pcs;split<;>simp
 | x::l,a=>by
  have:=qpr (o:=o) (l:=l) (a:=x.1+1);unfold pcs;split<;>simp<;>omega
theorem qt6{m:Nat}{l:List Sp}{s:Sp}(h:∀x ∈ l,x.way<m)(hs:s.way<m):∀x ∈ jv l s,x.way<m:=by
 intro x hx;unfold jv at hx;split at hx
 ·rename_i z hz;split at hx
  ·rcases List.mem_or_eq_of_mem_set hx with hx|rfl
   ·exact h x hx
   ·exact h z (zzM hz)
  ·rcases List.mem_append.1 hx with hx|hx
   ·exact h x hx
   ·rw[List.mem_singleton] at hx;subst hx;exact hs
 ·rcases List.mem_append.1 hx with hx|hx
  ·exact h x hx
  ·rw[List.mem_singleton] at hx;subst hx;exact hs
theorem qkQ{m:Nat}:∀{k l:List Sp},(∀x ∈ l,x.way<m)->(∀x ∈ k,x.way<m)->(∀x ∈ k.foldl jv l,x.way<m)∧(k.foldl jv l).length<=l.length+k.length
 | [],l,h,_=>⟨h,by simp⟩
 | s::k,l,h,hk=>by
  obtain⟨q1,q2⟩:=qkQ (k:=k) (qt6 h (hk s (List.mem_cons_self ..))) fun x hx=>hk x (List.mem_cons_of_mem _ hx)
  have:=qkb (l:=l) (s:=s);exact⟨q1,by simp only[List.foldl_cons,List.length_cons];omega⟩
theorem qkK:∀{l:List Sp} {a:Int},zR l a 4294967296->qiR l a=true
 | [],a,h=>by simp[zR] at h;simp[qiR,h]
 | s::l,a,h=>by
  obtain⟨h1,h2,h3⟩:=h;unfold qiR;rw[if_neg (by omega)];exact qkK h3
theorem qhS:∀{l:List Sp} {a b:Int},zR l a b->0<=a->b<=4294967296->SpR l
 | [],_,_,_,_,_=>fun s hs=>by cases hs
 | s::l,a,b,h,h0,hb=>by
  obtain⟨h1,h2,h3⟩:=h;have:=h3.le;intro x hx;rcases List.mem_cons.1 hx with rfl|hx
  ·exact⟨by omega,by omega,by omega,by omega⟩
  ·exact qhS h3 (by omega) hb x hx
theorem qxJ{m:Nat}(n:Nat):∀(l:List Sp) (a:Nat),l.length<=n->0<l.length->(∀s ∈ l,s.way<m)->∀nd ∈ zq l a,(nd.leaf=true->nd.way<m)∧(nd.leaf=false->a<nd.less∧a<nd.more∧nd.less<a+(zq l a).length∧nd.more<a+(zq l a).length)∧nd.less<a+(zq l a).length∧nd.more<a+(zq l a).length:=by
 induction n with
 | zero=>intro l a h1 h2;omega
 | succ n ih =>
  intro l a h1 h2 hw nd hnd;have hlen:=qc4 (n+1) l a h1 h2;rw[zq] at hnd
  by_cases hk:l.length / 2=0
  ·rw[dif_pos hk] at hnd;rw[List.mem_singleton] at hnd;subst hnd;cases l with
   | nil=>simp at h2
   | cons s l =>
    refine⟨fun _=>hw s (List.mem_cons_self ..),fun h=>(by simp at h),?_,?_⟩<;>simp only<;>omega
  ·rw[dif_neg hk] at hnd
   have e0:(zq l a).length=1+(zq (l.take (l.length / 2)) (a+1)).length+(zq (l.drop (l.length / 2)) (a+1+(zq (l.take (l.length / 2)) (a+1)).length)).length:=by
    conv=>lhs;rw[zq,dif_neg hk]
    simp;omega
   have hl1:=qc4 n (l.take (l.length / 2)) (a+1) (by simp;omega) (by simp;omega);have hl2:=qc4 n (l.drop (l.length / 2)) (a+1+(zq (l.take (l.length / 2)) (a+1)).length) (by simp;omega) (by simp;omega);simp at hl1 hl2;rcases List.mem_cons.1 hnd with rfl|hnd
   ·refine⟨fun h=>by simp at h,fun _=>?_,?_,?_⟩<;>simp only<;>(try refine⟨?_,?_,?_,?_⟩)<;>omega
   ·rcases List.mem_append.1 hnd with hnd|hnd
    ·obtain⟨q1,q2,q3,q4⟩:=ih (l.take (l.length / 2)) (a+1) (by simp;omega) (by simp;omega) (fun s hs=>hw s (List.mem_of_mem_take hs)) nd hnd
     exact⟨q1,fun h=>by obtain⟨p1,p2,p3,p4⟩:=q2 h;omega,by omega,by omega⟩
    ·obtain⟨q1,q2,q3,q4⟩:=ih (l.drop (l.length / 2)) _ (by simp;omega) (by simp;omega) (fun s hs=>hw s (List.mem_of_mem_drop hs)) nd hnd
     exact⟨q1,fun h=>by obtain⟨p1,p2,p3,p4⟩:=q2 h;omega,by omega,by omega⟩
def wdD(d:GData)(k:Int):Int:=(xe d).getD (k / 4).toNat 0
inductive Ev (R:List Sy) (d:GData):Nat->Int->Int->Prop where
 | ld (p:Nat) (a r:Int) (s:Sy) (h:R[p]?=some s) (hc:s.code=32) (hn:Ev R d (p+1) (wdD d s.k) r):Ev R d p a r
 | an (p:Nat) (a r:Int) (s:Sy) (h:R[p]?=some s) (hc:s.code=84) (hn:Ev R d (p+1) (jq .u32 a s.k) r):Ev R d p a r
 | rt (p:Nat) (a:Int) (s:Sy) (h:R[p]?=some s) (hc:s.code=6):Ev R d p a s.k
 | ja (p:Nat) (a r:Int) (s:Sy) (h:R[p]?=some s) (hc:s.code=5) (hn:Ev R d s.th a r):Ev R d p a r
 | jc (p:Nat) (a r:Int) (s:Sy) (h:R[p]?=some s) (hc:qd3 s.code) (hn:Ev R d (if qaI s.code a s.k=true then s.th else s.el) a r):Ev R d p a r
def AtL(R:List Sy)(p:Nat)(l:List Sy):Prop:=∀(j:Nat) s,l[j]?=some s->R[p+j]?=some s
theorem AtL.self{R:List Sy}:AtL R 0 R:=fun j s h=>by rw[Nat.zero_add];exact h
theorem AtL.app{R:List Sy}{p:Nat}{l m:List Sy}(h:AtL R p (l++m)):AtL R p l∧AtL R (p+l.length) m:=by
 refine⟨fun j s hj=>h j s (by rw[List.getElem?_append_left (zzS.1 hj).1];exact hj),fun j s hj=>?_⟩
 have:=h (l.length+j) s (by rw[List.getElem?_append_right (by omega),Nat.add_sub_cancel_left];exact hj)
 rw[Nat.add_assoc];exact this
theorem AtL.hd{R:List Sy}{p:Nat}{s:Sy}{l:List Sy}(h:AtL R p (s::l)):R[p]?=some s∧AtL R (p+1) l:=by
 refine⟨by simpa using h 0 s rfl,fun j x hj=>?_⟩
 have:=h (j+1) x (by simpa using hj);rw[show p+1+j=p+(j+1) by omega];exact this
def qcm(l:List Sy)(p n:Nat):Prop:=∀(j:Nat) s,l[j]?=some s->qfD s (p+j) n
theorem qcm.app{l m:List Sy}{p n:Nat}(h1:qcm l p n)(h2:qcm m (p+l.length) n):qcm (l++m) p n:=by
 intro j s hj;rw[List.getElem?_append] at hj;split at hj
 ·exact h1 j s hj
 ·rename_i hlt;have:=h2 _ s hj;rw[show p+l.length+(j-l.length)=p+j by omega] at this;exact this
theorem qcm.nil{p n:Nat}:qcm [] p n:=fun j s h=>by simp at h
theorem qcm.cons{s:Sy}{l:List Sy}{p n:Nat}(h1:qfD s p n)(h2:qcm l (p+1) n):qcm (s::l) p n:=by
 intro j x hj;cases j with
 | zero=>simp at hj;subst hj;exact h1
 | succ j=>have:=h2 j x (by simpa using hj);rw[show p+1+j=p+(j+1) by omega] at this;exact this
theorem quB(n:Nat):∀(l:List Sp) (a:Nat),l.length<=n->0<l.length->∀(i:Nat) nd,(zq l a)[i]?=some nd->nd.leaf=false->a+i<nd.less∧a+i<nd.more:=by
 induction n with
 | zero=>intro l a h1 h2;omega
 | succ n ih =>
  intro l a h1 h2 i nd hnd hl;rw[zq] at hnd
  by_cases hk:l.length / 2=0
  ·rw[dif_pos hk] at hnd;cases i with
   | zero=>simp at hnd;subst hnd;simp at hl
   | succ i=>simp at hnd
  ·rw[dif_neg hk] at hnd;have hl1:=qc4 n (l.take (l.length / 2)) (a+1) (by simp;omega) (by simp;omega);cases i with
   | zero=>simp at hnd;subst hnd;simp only;omega
   | succ i =>
    rw[List.getElem?_cons_succ,List.getElem?_append] at hnd;split at hnd
    ·have:=ih (l.take (l.length / 2)) (a+1) (by simp;omega) (by simp;omega) i nd hnd hl;omega
    ·rename_i hge;have:=ih (l.drop (l.length / 2)) _ (by simp;omega) (by simp;omega) _ nd hnd hl;omega
theorem qxI{T:List Nd}{FW:Nat->Nat}{b:Nat}{n:Int}{Q:Nat->Prop}(hQ:∀(i:Nat) nd,T[i]?=some nd->nd.leaf=false->Q (if nd.at'<=n then plc FW T b nd.more else plc FW T b nd.less)->Q (plc FW T b i))(m:Nat) :
  ∀(l:List Sp) (a:Nat) (c e:Int),l.length<=m->0<l.length->zR l c e->(∀(j:Nat) nd,(zq l a)[j]?=some nd->T[a+j]?=some nd)->∀w,Cov l n w->Q (FW w)->Q (plc FW T b a):=by
 induction m with
 | zero=>intro l a c e h1 h2;omega
 | succ m ih =>
  intro l a c e h1 h2 hc hT w hw hq;rw[zq] at hT
  by_cases hk:l.length / 2=0
  ·rw[dif_pos hk] at hT;obtain⟨s,rfl⟩:∃s,l=[s]:=List.length_eq_one_iff.1 (by omega);have h0:=hT 0 _ rfl;rw[Nat.add_zero] at h0;obtain⟨x,hx,_,_,rfl⟩:=hw;rw[List.mem_singleton] at hx;subst hx;unfold plc;rw[h0];simpa using hq
  ·rw[dif_neg hk] at hT;have h0:=hT 0 _ rfl;rw[Nat.add_zero] at h0;obtain⟨z,hz⟩:∃z,l[l.length / 2]?=some z:=⟨_,zzE (by omega)⟩;have hzD:l.getD (l.length / 2) ⟨0,0,0⟩=z:=by rw[List.getD_eq_getElem?_getD,hz];rfl
   rw[hzD] at h0;have hsplit:l=l.take (l.length / 2)++l.drop (l.length / 2):=(List.take_append_drop _ _).symm;rw[hsplit] at hc;obtain⟨q,hc1,hc2⟩:=zR.app.1 hc;have hd:l.drop (l.length / 2)=z::l.drop (l.length / 2+1):=by rw[← (zzS.1 hz).2,List.getElem_cons_drop]
   have hq0:z.fr=q:=by rw[hd] at hc2;exact hc2.1
   -- what lies ahead ends below q;what lies behind begins at q
   have lo:∀{l:List Sp} {c e:Int},zR l c e->∀s ∈ l,c<=s.fr∧s.to<e:=by
    intro l
    induction l with
    | nil=>intro c e _ s hs;cases hs
    | cons y l ihl =>
     intro c e h s hs;obtain⟨p1,p2,p3⟩:=h;have:=p3.le;rcases List.mem_cons.1 hs with rfl|hs
     ·omega
     ·have:=ihl p3 s hs;omega
   refine hQ a _ h0 rfl ?_;simp only;obtain⟨s,hs,s1,s2,s3⟩:=hw;rw[hsplit] at hs;rcases List.mem_append.1 hs with hs|hs
   ·have:=lo hc1 s hs;rw[if_neg (by omega)];refine ih (l.take (l.length / 2)) (a+1) c q (by simp;omega) (by simp;omega) hc1 (fun j nd hj=>?_) w ⟨s,hs,s1,s2,s3⟩ hq
    have:=hT (j+1) nd (by rw[List.getElem?_cons_succ,List.getElem?_append_left (zzS.1 hj).1];exact hj)
    rw[show a+1+j=a+(j+1) by omega];exact this
   ·have:=lo hc2 s hs;rw[if_pos (by omega)];refine ih (l.drop (l.length / 2)) _ q e (by simp;omega) (by simp;omega) hc2 (fun j nd hj=>?_) w ⟨s,hs,s1,s2,s3⟩ hq
    have:=hT ((zq (l.take (l.length / 2)) (a+1)).length+j+1) nd (by rw[List.getElem?_cons_succ,List.getElem?_append_right (by omega),Nat.add_sub_cancel_left];exact hj)
    rw[show a+1+(zq (l.take (l.length / 2)) (a+1)).length+j=a+((zq (l.take (l.length / 2)) (a+1)).length+j+1) by omega];exact this
theorem qji{T:List Nd}:∀{i:Nat} {nd:Nd},T[i]?=some nd->zW (T.take (i+1))=zW (T.take i)+if nd.leaf=true then 0 else 1:=by
 intro i nd h;unfold zW;rw[jp h,List.countP_append];cases h2:nd.leaf<;>simp[h2]
theorem qjh{T:List Nd}{i j:Nat}(h:i<=j):zW (T.take i)<=zW (T.take j):=by
 have:T.take i=(T.take j).take i:=by rw[List.take_take,Nat.min_eq_left h]
 rw[this];unfold zW
 conv=>rhs;rw[← List.take_append_drop i (T.take j)]
 rw[List.countP_append];omega
theorem qvc{FW:Nat->Nat}{T:List Nd}{b i:Nat}{nd:Nd}(h:T[i]?=some nd)(hl:nd.leaf=false):(brE FW T b T)[zW (T.take i)]?=some ⟨53,nd.at',plc FW T b nd.more,plc FW T b nd.less⟩:=by
 have main:∀(u:List Nd) (i:Nat),u[i]?=some nd->(brE FW T b u)[zW (u.take i)]?=some ⟨53,nd.at',plc FW T b nd.more,plc FW T b nd.less⟩:=by
  intro u
  induction u with
  | nil=>intro i h;simp at h
  | cons y u ih =>
   intro i h;cases i with
   | zero=>simp at h;subst h;simp[brE,qh5,hl,zW]
   | succ i =>
    have:=ih i (by simpa using h);simp only[brE,List.flatMap_cons,List.take_succ_cons,zW,List.countP_cons] at this ⊢;cases hy:y.leaf with
    | true=>simp[qh5,hy];exact this
    | false=>simp[qh5,hy];exact this
 exact main T i h
theorem qc7{a b:Nat}(ha:a<18446744073709551616)(hb:b<18446744073709551616):jq .u64 (a:Int) (b:Int)=((a &&& b:Nat):Int):=by
 have h:a &&& b<18446744073709551616:=Nat.and_lt_two_pow a (n:=64) hb;show IntKind.wrap .u64 (((BitVec.ofInt 64 (a:Int)) &&& (BitVec.ofInt 64 (b:Int))).toNat:Int)=_;rw[BitVec.ofInt_natCast,BitVec.ofInt_natCast,BitVec.toNat_and,BitVec.toNat_ofNat,BitVec.toNat_ofNat,Nat.mod_eq_of_lt ha,Nat.mod_eq_of_lt hb,qaX (by omega) (by omega)]
theorem qb7{a b:Nat}(ha:a<4294967296)(hb:b<4294967296):jq .u32 (a:Int) (b:Int)=((a &&& b:Nat):Int):=by
 have h:a &&& b<4294967296:=Nat.and_lt_two_pow a (n:=32) hb;show IntKind.wrap .u32 (((BitVec.ofInt 32 (a:Int)) &&& (BitVec.ofInt 32 (b:Int))).toNat:Int)=_;rw[BitVec.ofInt_natCast,BitVec.ofInt_natCast,BitVec.toNat_and,BitVec.toNat_ofNat,BitVec.toNat_ofNat,Nat.mod_eq_of_lt ha,Nat.mod_eq_of_lt hb,qaC (by omega) (by omega)]
theorem qnU{a b c:Nat}:a &&& b=c↔(a % 4294967296) &&& (b % 4294967296)=c % 4294967296∧(a / 4294967296) &&& (b / 4294967296)=c / 4294967296:=by
 have e1:(a % 4294967296) &&& (b % 4294967296)=(a &&& b) % 4294967296:=(Nat.and_mod_two_pow (n:=32)).symm;have e2:(a / 4294967296) &&& (b / 4294967296)=(a &&& b) / 4294967296:=(Nat.and_div_two_pow (n:=32)).symm;rw[e1,e2];constructor
 ·intro h;rw[h];exact⟨rfl,rfl⟩
 ·rintro⟨h1,h2⟩;rw[← Nat.div_add_mod (a &&& b) 4294967296,h1,h2,Nat.div_add_mod]
theorem qik{x m v:Int}(hx:0<=x∧x<18446744073709551616)(hm:0<=m∧m<18446744073709551616)(hv:0<=v∧v<18446744073709551616):jq .u64 x m=v↔jq .u32 (loW x) (loW m)=loW v∧jq .u32 (hiW x) (hiW m)=hiW v:=by
 obtain⟨a,rfl⟩:=Int.eq_ofNat_of_zero_le hx.1;obtain⟨b,rfl⟩:=Int.eq_ofNat_of_zero_le hm.1;obtain⟨c,rfl⟩:=Int.eq_ofNat_of_zero_le hv.1;have ha:a<18446744073709551616:=by omega
 have hb:b<18446744073709551616:=by omega
 rw[qc7 ha hb];have e1:loW (a:Int)=((a % 4294967296:Nat):Int):=by unfold loW;omega
 have e2:loW (b:Int)=((b % 4294967296:Nat):Int):=by unfold loW;omega
 have e3:loW (c:Int)=((c % 4294967296:Nat):Int):=by unfold loW;omega
 have e4:hiW (a:Int)=((a / 4294967296:Nat):Int):=by unfold hiW;omega
 have e5:hiW (b:Int)=((b / 4294967296:Nat):Int):=by unfold hiW;omega
 have e6:hiW (c:Int)=((c / 4294967296:Nat):Int):=by unfold hiW;omega
 rw[e1,e2,e3,e4,e5,e6,qb7 (by omega) (by omega),qb7 (by omega) (by omega)];have:=qnU (a:=a) (b:=b) (c:=c);constructor
 ·intro h;have h':a &&& b=c:=by omega
  obtain⟨p,q⟩:=this.1 h';exact⟨by rw[p],by rw[q]⟩
 ·rintro⟨p,q⟩;have h':a &&& b=c:=this.2 ⟨by omega,by omega⟩
  rw[h']
theorem qp0{x:Int}(hx:0<=x∧x<4294967296):jq .u32 x 4294967295=x:=by
 obtain⟨a,rfl⟩:=Int.eq_ofNat_of_zero_le hx.1;have:=qb7 (a:=a) (b:=4294967295) (by omega) (by decide);rw[show ((4294967295:Nat):Int)=4294967295 from rfl] at this
 have e:a &&& 4294967295=a:=by
  have:=Nat.and_two_pow_sub_one_eq_mod a 32;rw[show 2 ^ 32-1=4294967295 from rfl] at this
  rw[this];omega
 rw[this,e]
theorem qhR{x:Int}(hx:0<=x∧x<4294967296):jq .u32 x 0=0:=by
 obtain⟨a,rfl⟩:=Int.eq_ofNat_of_zero_le hx.1;have:=qb7 (a:=a) (b:=0) (by omega) (by decide);simpa using this
def EvA(R:List Sy)(d:GData)(p:Nat)(r:Int):Prop:=∀a,Ev R d p a r
section
variable {R:List Sy} {d:GData} {p F:Nat} {r:Int}
theorem qo5{k m v:Int}(h:AtL R p (qdh k m v p F))(hw:0<=wdD d k∧wdD d k<4294967296)(hmv:m=0->v=0)(h1:jq .u32 (wdD d k) m=v->EvA R d (p+qbY m) r)(h2:jq .u32 (wdD d k) m≠v->EvA R d F r):EvA R d p r:=by
 intro a;unfold qdh qbY at *
 by_cases m0:m=0
 ·rw[if_pos m0] at h1;have:=h1 (by rw[m0,hmv m0];exact qhR hw);simpa using this a
 rw[if_neg m0] at h h1
 by_cases m1:m=4294967295
 ·rw[if_pos m1] at h h1;obtain⟨g1,h⟩:=h.hd;obtain⟨g2,_⟩:=h.hd;refine .ld p a r _ g1 rfl (.jc _ _ r _ g2 (.inl rfl) ?_);rw[m1,qp0 hw] at h1 h2;simp only[qaI]
  by_cases e:wdD d k=v
  ·rw[if_pos (by simp[e])];exact h1 e _
  ·rw[if_neg (by simp[e])];exact h2 e _
 ·rw[if_neg m1] at h h1;obtain⟨g1,h⟩:=h.hd;obtain⟨g2,h⟩:=h.hd;obtain⟨g3,_⟩:=h.hd;refine .ld p a r _ g1 rfl (.an _ _ r _ g2 rfl (.jc _ _ r _ g3 (.inl rfl) ?_));simp only[qaI]
  by_cases e:jq .u32 (wdD d k) m=v
  ·rw[if_pos (by simp[e])];exact h1 e _
  ·rw[if_neg (by simp[e])];exact h2 e _
theorem qks{d:GData}(hd:DatOk d)(j:Nat):0<=(xe d).getD j 0∧(xe d).getD j 0<4294967296:=by
 have:=qhh (l:=xe d) (fun c hc=>qkt hd hc) j
 exact⟨this.1,by have:=this.2;omega⟩
theorem qBI{d:GData}{k:Int}(h0:0<=k)(h6:k<6):wdD d (16+8*k)=loW (qkv d k)∧wdD d (16+8*k+4)=hiW (qkv d k):=by
 have:k=0∨k=1∨k=2∨k=3∨k=4∨k=5:=by omega
 rcases this with rfl|rfl|rfl|rfl|rfl|rfl<;>exact⟨rfl,rfl⟩
theorem qls{d:GData}(hd:DatOk d){k:Int}(h0:0<=k)(h6:k<6):0<=qkv d k∧qkv d k<18446744073709551616:=by
 have:k=0∨k=1∨k=2∨k=3∨k=4∨k=5:=by omega
 have hm:qkv d k ∈ qeu d:=by rcases this with rfl|rfl|rfl|rfl|rfl|rfl<;>simp[qkv,qeu]
 exact hd.wid _ hm
theorem qoR{v m:Int}(hv:0<=v∧v<18446744073709551616)(h:qfd .u64 v m=0):jq .u64 v m=v:=by
 obtain⟨a,rfl⟩:=Int.eq_ofNat_of_zero_le hv.1;have h1:IntKind.wrap .u64 (((BitVec.ofInt 64 (a:Int)) &&& ~~~ (BitVec.ofInt 64 m)).toNat:Int)=0:=h;have hlt:=((BitVec.ofInt 64 (a:Int)) &&& ~~~ (BitVec.ofInt 64 m)).isLt;rw[qaX (by omega) (by omega)] at h1;have h2:(BitVec.ofInt 64 (a:Int)) &&& ~~~ (BitVec.ofInt 64 m)=0#64:=BitVec.eq_of_toNat_eq (by simpa using h1)
 have bv:∀X Y:BitVec 64,X &&& ~~~ Y=0#64->X &&& Y=X:=fun X Y h2=>by
  apply BitVec.eq_of_getLsbD_eq;intro i hi;have:=congrArg (fun b=>b.getLsbD i) h2
  simp only[BitVec.getLsbD_and,BitVec.getLsbD_not,hi,decide_true,Bool.true_and,BitVec.getLsbD_zero] at this;rw[BitVec.getLsbD_and];revert this;cases X.getLsbD i<;>cases Y.getLsbD i<;>simp
 have h3:=bv _ _ h2;show IntKind.wrap .u64 (((BitVec.ofInt 64 (a:Int)) &&& (BitVec.ofInt 64 m)).toNat:Int)=_;rw[h3,BitVec.ofInt_natCast,BitVec.toNat_ofNat,Nat.mod_eq_of_lt (by omega),qaX (by omega) (by omega)]
structure TstG (t:GTest):Prop where
 ok:TstOk t
 sub:jq .u64 t.val t.mask=t.val
theorem TstG.lo{t:GTest}(h:TstG t):(loW t.mask=0->loW t.val=0)∧(hiW t.mask=0->hiW t.val=0):=by
 obtain⟨h1,h2⟩:=(qik ⟨h.ok.v0,h.ok.v1⟩ ⟨h.ok.m0,h.ok.m1⟩ ⟨h.ok.v0,h.ok.v1⟩).1 h.sub;have e1:0<=loW t.val∧loW t.val<4294967296:=by unfold loW;omega
 have e2:0<=hiW t.val∧hiW t.val<4294967296:=by have:=h.ok.v0;have:=h.ok.v1;unfold hiW;omega
 exact⟨fun h0=>by rw[h0,qhR e1] at h1;exact h1.symm,fun h0=>by rw[h0,qhR e2] at h2;exact h2.symm⟩
theorem qxD{t:GTest}(ht:TstG t)(hd:DatOk d)(h:AtL R p (qgA t p))(h1:xZ t d=true->r=t.act)(h2:xZ t d=false->EvA R d (p+qbU t) r):EvA R d p r:=by
 obtain⟨g1,g2⟩:=h.app;obtain⟨g1,g3⟩:=g1.app;rw[qcb] at g3;rw[List.length_append,qcb,qcb] at g2;obtain⟨w1,w2⟩:=qBI (d:=d) ht.ok.a0 ht.ok.a1
 have hh:xZ t d=decide (jq .u64 (qkv d t.arg) t.mask=t.val):=by
  unfold xZ;simp[ht.ok.a0,ht.ok.a1]
 have hsp:=qik (qls hd ht.ok.a0 ht.ok.a1) ⟨ht.ok.m0,ht.ok.m1⟩ ⟨ht.ok.v0,ht.ok.v1⟩;refine qo5 g1 (qks hd _) ht.lo.1 (fun c1=>?_) (fun c1=>h2 ?_)
 ·refine qo5 g3 (qks hd _) ht.lo.2 (fun c2=>?_) (fun c2=>h2 ?_)
  ·intro a;obtain⟨g4,_⟩:=g2.hd
   have hc:xZ t d=true:=by
    rw[hh,decide_eq_true_eq,hsp];rw[w1] at c1;rw[w2] at c2;exact⟨c1,c2⟩
   have:=Ev.rt (d:=d) (p+qbY (loW t.mask)+qbY (hiW t.mask)) a _ (by rw[Nat.add_assoc];exact g4) rfl;rw[h1 hc];exact this
  ·rw[hh,decide_eq_false_iff_not,hsp];rw[w2] at c2;exact fun q=>c2 q.2
 ·rw[hh,decide_eq_false_iff_not,hsp];rw[w1] at c1;exact fun q=>c1 q.1
theorem qnL(hd:DatOk d):∀{ts:List GTest} {a:Int} {p:Nat},(∀t ∈ ts,TstG t)->AtL R p (qch ts a p)->EvA R d p (fnd (fun t=>xZ t d) a ts)
 | [],a,p,_,h=>fun b=>by
  rw[qhe];exact Ev.rt p b _ h.hd.1 rfl
 | t::ts,a,p,ht,h=>by
  rw[qcv];have h1:=ht t (List.mem_cons_self ..);unfold qch at h;obtain⟨g1,g2⟩:=h.app;rw[qc3] at g2;refine qxD h1 hd g1 (fun hc=>by rw[if_pos hc]) fun hc=>?_
  by_cases hm:t.mask=0
  ·exfalso
   have hv:t.val=0:=by
    have:=h1.sub;rw[hm] at this;obtain⟨a,e⟩:=Int.eq_ofNat_of_zero_le h1.ok.v0;have:=qc7 (a:=a) (b:=0) (by have:=h1.ok.v1;omega) (by decide)
    rw[← e] at this;simp at this;omega
   have hx:=qls hd h1.ok.a0 h1.ok.a1;obtain⟨a,e⟩:=Int.eq_ofNat_of_zero_le hx.1;have:=qc7 (a:=a) (b:=0) (by omega) (by decide);rw[← e] at this;unfold xZ at hc;simp[h1.ok.a0,h1.ok.a1,hm,hv] at hc this;exact hc this
  ·rw[if_neg hm] at g2;rw[if_neg (by simp[hc])];exact qnL hd (fun x hx=>ht x (List.mem_cons_of_mem _ hx)) g2
theorem qm4{k m v:Int}{n:Nat}(hk:k % 4=0∧0<=k∧k<64)(h1:p+qbY m<n)(h2:p+qbY m<=F)(h3:F<n):qcm (qdh k m v p F) p n:=by
 unfold qdh qbY at *;split
 ·exact .nil
 ·rename_i m0;rw[if_neg m0] at h1 h2;split
  ·rename_i m1;rw[if_pos m1] at h1 h2;refine .cons (.inl ⟨rfl,rfl,rfl,hk⟩) (.cons (.inr (.inr (.inr ⟨.inl rfl,?_,?_,?_,?_⟩))) .nil)<;>simp only<;>omega
  ·rename_i m1;rw[if_neg m1] at h1 h2;refine .cons (.inl ⟨rfl,rfl,rfl,hk⟩) (.cons (.inr (.inl ⟨.inl rfl,rfl,rfl⟩)) (.cons (.inr (.inr (.inr ⟨.inl rfl,?_,?_,?_,?_⟩))) .nil))<;>simp only<;>omega
theorem quw{t:GTest}{n:Nat}(ht:TstOk t)(h:p+qbU t<n):qcm (qgA t p) p n:=by
 have h0:=ht.a0;have h6:=ht.a1;unfold qgA;have e:qbU t=qbY (loW t.mask)+qbY (hiW t.mask)+1:=rfl;refine .app (.app (qm4 ⟨by omega,by omega,by omega⟩ (by omega) (by omega) h) ?_) ?_
 ·rw[qcb];exact qm4 ⟨by omega,by omega,by omega⟩ (by omega) (by omega) h
 ·exact .cons (.inr (.inl ⟨.inr rfl,rfl,rfl⟩)) .nil
theorem qlk:∀{ts:List GTest} {a:Int} {p n:Nat},(∀t ∈ ts,TstOk t)->p+qcO ts<n->qcm (qch ts a p) p n
 | [],_,_,_,_,_=>.cons (.inr (.inl ⟨.inr rfl,rfl,rfl⟩)) .nil
 | t::ts,a,p,n,ht,h=>by
  unfold qcO at h;unfold qch;refine .app (quw (ht t (List.mem_cons_self ..)) (by omega)) ?_;rw[qc3]
  by_cases hm:t.mask=0
  ·rw[if_pos hm];exact .nil
  ·rw[if_neg hm] at h ⊢;exact qlk (fun x hx=>ht x (List.mem_cons_of_mem _ hx)) (by omega)
theorem qlc:∀{rs:List GRule} {p n:Nat},(∀r ∈ rs,∀t ∈ r.tests,TstOk t)->p+qY rs<n->qcm (zJ rs p) p n
 | [],_,_,_,_=>.nil
 | r::rs,p,n,ht,h=>by
  have e:qY (r::rs)=ql2 r+qY rs:=by simp[qY]
  unfold zJ;refine .app (qlk (ht r (List.mem_cons_self ..)) (by have:qcO r.tests=ql2 r:=rfl;omega)) ?_;rw[qj7];exact qlc (fun x hx=>ht x (List.mem_cons_of_mem _ hx)) (by omega)
end
structure FilG (x:GFil):Prop where
 a0:0<=x.arch
 a6:x.arch<6
 n:x.rules.length<=400
 t32:∀r ∈ x.rules,r.tests.length<=32
 ts:∀r ∈ x.rules,∀t ∈ r.tests,TstG t
 nr:∀r ∈ x.rules,0<=r.nr∧r.nr<4294967296
 up:∃o,o=(none:Option GRule)∧upR o x.rules=true
theorem qrx{t:GTest}(h:zS t=true)(hm:0<=t.mask∧t.mask<18446744073709551616)(hv:0<=t.val∧t.val<18446744073709551616):TstG t:=by
 have ha:=qlj h;simp only[zS,Bool.and_eq_true,decide_eq_true_eq] at h;exact⟨⟨ha.1,ha.2,hm.1,hm.2,hv.1,hv.2⟩,qoR hv h.1.2⟩
theorem FilG.of{x:GFil}(hK:xp x=true)(hx:FilR x):FilG x:=by
 simp only[xp,Bool.and_eq_true,decide_eq_true_eq] at hK;obtain⟨⟨⟨⟨k1,k2⟩,k3⟩,k4⟩,k5⟩:=hK;have hr:=qhT k5;refine⟨k1,k2,k3,fun r h=>?_,fun r h t ht=>?_,hx.nr,none,rfl,k5⟩
 ·have:=hr r h;simp only[qak,Bool.and_eq_true,decide_eq_true_eq] at this;exact this.1.1
 ·have:=hr r h;simp only[qak,Bool.and_eq_true,List.all_eq_true] at this;have q:=hx.ts r h t ht;exact qrx (this.1.2 t ht) ⟨q.1,q.2.1⟩ ⟨q.2.2.1,q.2.2.2⟩
theorem qln:∀{rs:List GRule} {o:Option GRule} {k:Nat} {a:Int},upR o rs=true->(∀r ∈ rs,0<=r.nr∧r.nr<4294967296)->(match o with|none=>a=0|some b=>a=b.nr+1)->Ups (rs.mapIdx fun i r=>(r.nr,i+k)) a
 | [],_,_,_,_,_,_=>by simp[Ups]
 | r::rs,o,k,a,h,hn,ha=>by
  simp only[upR,Bool.and_eq_true] at h;obtain⟨⟨_,h1⟩,h2⟩:=h;rw[List.mapIdx_cons];have hr:=hn r (List.mem_cons_self ..);refine⟨?_,hr.2,?_⟩
  ·cases o with
   | none=>simp only at ha;simp only;omega
   | some b=>simp only[Option.elim,decide_eq_true_eq] at h1;simp only at ha ⊢;omega
  ·have:=qln (o:=some r) (k:=k+1) (a:=r.nr+1) h2 (fun x hx=>hn x (List.mem_cons_of_mem _ hx)) rfl
   simpa[Nat.add_assoc,Nat.add_comm 1 k] using this
theorem FilG.ups{x:GFil}(h:FilG x):Ups (qG x.rules) 0:=by
 obtain⟨o,rfl,hu⟩:=h.up;exact qln hu h.nr rfl
theorem qlm:∀{l:List (Int×Nat)} {a:Int},Ups l a->quj l
 | [],_,_,i,x,y,h,_=>by simp at h
 | [x],_,_,i,y,z,h1,h2=>by simp at h2
 | x::y::l,a,⟨h1,h2,h3⟩,i,u,v,hu,hv=>by
  cases i with
  | zero=>simp at hu hv;subst hu hv;have:=h3.1;omega
  | succ i=>exact qlm h3 i u v (by simpa using hu) (by simpa using hv)
section
variable {x:GFil}
theorem FilG.spans(h:FilG x):zR (zx (pcs 0 (qG x.rules) 0)) 0 4294967296∧(∀(i:Nat) r,x.rules[i]?=some r->Cov (zx (pcs 0 (qG x.rules) 0)) r.nr (i+1))∧(∀n:Int,0<=n->n<4294967296->(∀r ∈ x.rules,r.nr≠n)->Cov (zx (pcs 0 (qG x.rules) 0)) n 0) ∧
  (∀s ∈ zx (pcs 0 (qG x.rules) 0),s.way<x.rules.length+1)∧(zx (pcs 0 (qG x.rules) 0)).length<=2*x.rules.length+1:=by
 obtain⟨c1,c2,c3⟩:=qk8 (o:=0) h.ups (by omega) (by omega);obtain⟨f1,f2⟩:=qjr (l:=[]) (a:=0) rfl c1
 have hw:∀y ∈ qG x.rules,y.2<x.rules.length+1:=fun y hy=>by
  obtain⟨i,hi⟩:=List.getElem?_of_mem hy;rw[qc0] at hi;obtain⟨r,hr,rfl⟩:=Option.map_eq_some_iff.1 hi;have:=(zzS.1 hr).1;simp only;omega
 obtain⟨g1,g2⟩:=qkQ (m:=x.rules.length+1) (k:=pcs 0 (qG x.rules) 0) (l:=[]) (fun y hy=>by cases hy) (qnu (by omega) hw)
 have hl:=qpr (o:=0) (l:=qG x.rules) (a:=0);refine⟨f1,fun i r hr=>?_,fun n h0 h1 hn=>?_,g1,?_⟩
 ·have hm:(r.nr,i+1) ∈ qG x.rules:=zzM (i:=i) (by rw[qc0,hr];rfl);exact f2 _ _ (.inr (c2 _ hm))
 ·refine f2 _ _ (.inr (c3 n h0 h1 fun y hy=>?_))
  obtain⟨i,hi⟩:=List.getElem?_of_mem hy;rw[qc0] at hi;obtain⟨r,hr,rfl⟩:=Option.map_eq_some_iff.1 hi;exact hn r (zzM hr)
 ·rw[qay] at hl;simp only[List.length_nil] at g2;show (List.foldl jv [] (pcs 0 (qG x.rules) 0)).length<=_;omega
theorem FilG.pos(h:FilG x):0<(zx (pcs 0 (qG x.rules) 0)).length:=by
 obtain⟨c,_⟩:=h.spans;rcases Nat.eq_zero_or_pos (zx (pcs 0 (qG x.rules) 0)).length with h0|h0
 ·rw[List.eq_nil_of_length_eq_zero h0] at c;simp[zR] at c
 ·exact h0
theorem FilG.tlen(h:FilG x):(qL x).length+1=2*(zx (pcs 0 (qG x.rules) 0)).length:=qc4 _ _ 0 (Nat.le_refl _) h.pos
theorem qkF(n:Nat):∀(l:List Sp) (a:Nat),l.length<=n->0<l.length->zW (zq l a)+1=l.length:=by
 induction n with
 | zero=>intro l a h1 h2;omega
 | succ n ih =>
  intro l a h1 h2;rw[zq]
  by_cases hk:l.length / 2=0
  ·rw[dif_pos hk];simp[zW];omega
  ·rw[dif_neg hk];have e1:=ih (l.take (l.length / 2)) (a+1) (by simp;omega) (by simp;omega);have e2:=ih (l.drop (l.length / 2)) (a+1+(zq (l.take (l.length / 2)) (a+1)).length) (by simp;omega) (by simp;omega);simp only[zW,List.countP_cons,List.countP_append] at e1 e2 ⊢;simp at e1 e2 ⊢;omega
theorem FilG.dfl(h:FilG x):jz x<=4+max 1 (2*x.rules.length)∧(qL x).length<=4*x.rules.length+1:=by
 have ha:=qkF _ (zx (pcs 0 (qG x.rules) 0)) 0 (Nat.le_refl _) h.pos;have ht:=h.tlen;have hl:=h.spans.2.2.2.2;have ho:=qpp (a:=x.arch);have e:zW (qL x)+1=(zx (pcs 0 (qG x.rules) 0)).length:=ha
 have hj:jaN (qL x)+zW (qL x)<=max 1 (2*x.rules.length):=by
  have hj1:jaN (qL x)<=1:=by cases qL x with
   | nil=>simp[jaN]
   | cons n T=>simp only[jaN];split<;>omega
  have hj2:2<=(zx (pcs 0 (qG x.rules) 0)).length->jaN (qL x)=0:=fun h2=>by
   unfold qL;rw[zq,dif_neg (by omega)];rfl
  by_cases h2:2<=(zx (pcs 0 (qG x.rules) 0)).length
  ·rw[hj2 h2];omega
  ·omega
 unfold jz;omega
theorem FilG.tne(h:FilG x):qL x≠[]:=fun e=>by have:=h.tlen;rw[e] at this;simp at this;omega
theorem FilG.nodes(h:FilG x):∀nd ∈ qL x,NdOk (x.rules.length+1) (qL x).length nd:=fun nd hnd=>by
 obtain⟨q1,q2,q3,q4⟩:=qxJ _ _ 0 (Nat.le_refl _) h.pos h.spans.2.2.2.1 nd hnd;rw[Nat.zero_add] at q3 q4;exact⟨q1,q3,q4⟩
end
section
variable {x:GFil}
theorem qko{j:Nat}:jz x<=xJ x j∧xJ x j<=xG x:=by
 unfold xJ xG;have:=qiG (rs:=x.rules) (i:=j-1);split<;>omega
theorem qAS{a:Int}{F n:Nat}(h1:4<n)(h2:4<=F)(h3:F<n):qcm (qa9 a 0 F) 0 n:=by
 unfold qa9;refine .app (.cons (.inl ⟨rfl,rfl,rfl,by decide,by decide,by decide⟩) (.cons (.inr (.inr (.inr ⟨.inl rfl,?_,?_,?_,?_⟩))) (.cons (.inl ⟨rfl,rfl,rfl,by decide,by decide,by decide⟩) .nil))) ?_
 ·simp only;omega
 ·simp only;omega
 ·simp only;omega
 ·simp only;omega
 ·show qcm _ (0+3) n;split
  ·refine .cons (.inr (.inr (.inr ⟨.inr (.inr (.inr rfl)),?_,?_,?_,?_⟩))) .nil<;>simp only<;>omega
  ·split
   ·refine .cons (.inr (.inr (.inr ⟨.inr (.inr (.inr rfl)),?_,?_,?_,?_⟩))) .nil<;>simp only<;>omega
   ·exact .nil
theorem qr0{FW:Nat->Nat}{T:List Nd}{b n:Nat}(hF:∀j,b+zW T<=FW j∧FW j<n)(hfw:∀(i:Nat) nd,T[i]?=some nd->nd.leaf=false->i<nd.less∧i<nd.more∧nd.less<T.length∧nd.more<T.length)(hbn:b+zW T<n) :
  ∀(u:List Nd) (k:Nat),T.drop k=u->qcm (u.flatMap (qh5 FW T b)) (b+zW (T.take k)) n
 | [],_,_=>.nil
 | nd::u,k,h=>by
  have hk:T[k]?=some nd:=by rw[← List.head?_drop,h];rfl
  have hu:T.drop (k+1)=u:=by rw[← List.tail_drop,h];rfl
  have ih:=qr0 hF hfw hbn u (k+1) hu;rw[qji hk] at ih;rw[List.flatMap_cons];cases hl:nd.leaf with
  | true =>
   have e:qh5 FW T b nd=[]:=by simp[qh5,hl]
   rw[hl] at ih;rw[e];simpa using ih
  | false =>
   have e:qh5 FW T b nd=[⟨53,nd.at',plc FW T b nd.more,plc FW T b nd.less⟩]:=by simp[qh5,hl]
   rw[hl] at ih;simp only[Bool.false_eq_true,if_false] at ih ⊢;rw[e,List.singleton_append]
   have key:∀j,k<j->j<T.length->b+zW (T.take k)<plc FW T b j∧plc FW T b j<n:=fun j h1 h2=>by
    have h3:zW (T.take (k+1))<=zW (T.take j):=qjh h1
    have h4:zW (T.take j)<=zW T:=by
     have:=qjh (T:=T) (i:=j) (j:=T.length) (by omega);rwa [List.take_length] at this
    rw[qji hk,hl] at h3;simp only[Bool.false_eq_true,if_false] at h3;unfold plc;rw[zzE h2];simp only;split
    ·have:=hF T[j].way;omega
    ·omega
   obtain⟨f1,f2,f3,f4⟩:=hfw k nd hk hl;obtain⟨m1,m2⟩:=key nd.more f2 f4;obtain⟨l1,l2⟩:=key nd.less f1 f3;exact .cons (.inr (.inr (.inr ⟨.inr (.inr (.inl rfl)),m1,m2,l1,l2⟩))) (by rw[Nat.add_assoc];exact ih)
theorem FilG.fwd(h:FilG x):∀(i:Nat) nd,(qL x)[i]?=some nd->nd.leaf=false->i<nd.less∧i<nd.more∧nd.less<(qL x).length∧nd.more<(qL x).length:=fun i nd hi hl=>by
 obtain⟨q1,q2⟩:=quB _ _ 0 (Nat.le_refl _) h.pos i nd hi hl;have:=h.nodes nd (zzM hi);exact⟨by omega,by omega,this.less,this.more⟩
theorem qsv(h:FilG x):qcm (qW x) 0 (xG x+1):=by
 have hd:jz x=jD x.arch+(jaN (qL x)+zW (qL x)):=rfl;have hN:xG x=jz x+1+qY x.rules:=rfl;have ho:3<=jD x.arch∧jD x.arch<=4:=by unfold jD;split;omega;split<;>omega
 have hpos:0<jaN (qL x)+zW (qL x):=by
  have ha:=qkF _ (zx (pcs 0 (qG x.rules) 0)) 0 (Nat.le_refl _) h.pos;have e:zW (qL x)+1=(zx (pcs 0 (qG x.rules) 0)).length:=ha
  by_cases h2:2<=(zx (pcs 0 (qG x.rules) 0)).length
  ·omega
  ·have hj:jaN (qL x)=1:=by unfold qL;rw[zq,dif_pos (by have:=h.pos;omega)];rfl
   omega
 have ht:∀r ∈ x.rules,∀t ∈ r.tests,TstOk t:=fun r hr t ht=>(h.ts r hr t ht).ok
 unfold qW;refine .app (.app (.app (.app (qAS (by omega) (by omega) (by omega)) ?_) ?_) ?_) ?_
 ·rw[jI,Nat.zero_add];unfold z7;refine .app ?_ ?_
  ·cases hT:qL x with
   | nil=>exact .nil
   | cons nd T =>
    simp only[jaE];split
    ·rename_i hl;rw[hT] at hd;simp only[jaN,if_pos hl] at hd;have:=(qko (x:=x) (j:=nd.way)).1;have:=(qko (x:=x) (j:=nd.way)).2;exact .cons (.inr (.inr (.inl ⟨rfl,rfl,rfl,by simp only;omega,by simp only;omega⟩))) .nil
    ·exact .nil
  ·rw[qlJ];have:=qr0 (FW:=xJ x) (T:=qL x) (b:=jD x.arch+jaN (qL x)) (n:=xG x+1) (fun j=>by have:=qko (x:=x) (j:=j);omega) h.fwd (by omega) (qL x) 0 rfl
   unfold brE;simpa[zW] using this
 ·refine .cons (.inr (.inl ⟨.inr rfl,rfl,rfl⟩)) .nil
 ·have e:0+(qa9 x.arch 0 (xG x)++z7 (xJ x) (qL x) (jD x.arch)++[(⟨6,x.dflt,0,0⟩:Sy)]).length=jz x+1:=by
   simp only[List.length_append,jI,jr,List.length_singleton];unfold jz;omega
  rw[e];exact qlc ht (by omega)
 ·refine .cons (.inr (.inl ⟨.inr rfl,rfl,rfl⟩)) .nil
theorem FilG.rN(h:FilG x):qY x.rules<=x.rules.length*225:=qia h.t32
theorem qfn(h:FilG x):MayL (qW x):=by
 have hl:=qkL (x:=x);have hd:=h.dfl.1;have hr:=h.rN;have hn:=h.n;have hN:xG x=jz x+1+qY x.rules:=rfl;refine⟨by omega,by omega,⟨⟨6,2147418112,0,0⟩,?_,rfl⟩,fun j s hj=>?_⟩
 ·rw[hl]
  have e:xG x+1-1=(qa9 x.arch 0 (xG x)++z7 (xJ x) (qL x) (jD x.arch)++[(⟨6,x.dflt,0,0⟩:Sy)]++zJ x.rules (jz x+1)).length:=by
   simp only[List.length_append,jI,jr,List.length_singleton,qbb];unfold xG jz;omega
  rw[e];unfold qW;simp
 ·have:=qsv h j s hj;rw[hl,Nat.zero_add] at *;exact this
end
def qo8(a:Int)(d:GData):Prop:=d.arch=qhL a∧(a=0->jq .u32 d.nr 1073741824=0)∧(a=2->jq .u32 d.nr 1073741824≠0)
theorem qt0{a:Int}(h0:0<=a)(h6:a<6)(d:GData):((ofM d.arch d.nr).2=false∨(ofM d.arch d.nr).1≠a)↔¬qo8 a d:=by
 unfold qo8 ofM;generalize d.arch=t;generalize jq .u32 d.nr 1073741824=z;have ha:a=0∨a=1∨a=2∨a=3∨a=4∨a=5:=by omega
 have e:∀c:Int,xM (fun x:List UInt8×Int=>decide (x.2=t)) xn 0=c↔(if t=3221225534 then 0 else if t=1073741827 then 1 else if t=1073741864 then 3 else if t=3221225655 then 4 else if t=3221225715 then 5 else -1)=c:=by
  intro c
  have:xM (fun x:List UInt8×Int=>decide (x.2=t)) xn 0=(if t=3221225534 then 0 else if t=1073741827 then 1 else if t=1073741864 then 3 else if t=3221225655 then 4 else if t=3221225715 then 5 else -1):=by
   simp only[xn,xM,decide_eq_true_eq]
   by_cases h1:t=3221225534
   ·simp[h1]
   by_cases h2:t=1073741827
   ·simp[h2]
   by_cases h3:t=1073741864
   ·simp[h3]
   by_cases h4:t=3221225655
   ·simp[h4]
   by_cases h5:t=3221225715
   ·simp[h5]
   simp only[h1,h2,h3,h4,h5,eq_comm (b:=t),if_false]
  rw[this]
 have e0:=(e _).2 rfl;rw[e0];rcases ha with rfl|rfl|rfl|rfl|rfl|rfl
 all_goals
  simp only[qhL,xn]
  by_cases h1:t=3221225534
  ·by_cases hz:z=0<;>simp[h1,hz]
  by_cases h2:t=1073741827
  ·simp[h2]
  by_cases h3:t=1073741864
  ·simp[h3]
  by_cases h4:t=3221225655
  ·simp[h4]
  by_cases h5:t=3221225715
  ·simp[h5]
  simp[h1,h2,h3,h4,h5]
section
variable {R:List Sy} {d:GData} {r:Int}
theorem qAR{a:Int}{N:Nat}(h0:0<=a)(h6:a<6)(hd:DatOk d)(h:AtL R 0 (qa9 a 0 N))(h1:qo8 a d->Ev R d (jD a) d.nr r)(h2:¬qo8 a d->EvA R d N r):EvA R d 0 r:=by
 intro b;unfold qa9 at h;obtain⟨g,h3⟩:=h.app;obtain⟨g1,g⟩:=g.hd;obtain⟨g2,g⟩:=g.hd;obtain⟨g3,_⟩:=g.hd;have w4:wdD d 4=d.arch:=rfl;have w0:wdD d 0=d.nr:=rfl;refine .ld 0 b r _ g1 rfl (.jc _ _ r _ g2 (.inl rfl) ?_);simp only[qaI,w4]
 by_cases ht:d.arch=qhL a
 ·rw[if_pos (by simp[ht])];refine .ld _ _ r _ g3 rfl ?_;simp only[w0];have h3:AtL R 3 _:=h3
  have hz:∀z:Int,(0<jq .u32 d.nr 1073741824)↔jq .u32 d.nr 1073741824≠0:=fun _=>by
   obtain⟨n,e⟩:=Int.eq_ofNat_of_zero_le hd.nr0;have hn:=hd.nr1;have:=qb7 (a:=n) (b:=1073741824) (by omega) (by decide);rw[← e] at this;rw[show ((1073741824:Nat):Int)=1073741824 from rfl] at this
   rw[this];omega
  by_cases a0:a=0
  ·rw[if_pos a0] at h3;have hoN:jD a=4:=by simp[jD,a0]
   rw[hoN] at h1;refine .jc _ _ r _ h3.hd.1 (.inr (.inr (.inr rfl))) ?_;simp only[qaI]
   by_cases hb:jq .u32 d.nr 1073741824=0
   ·have e:¬(0:Int)<jq .u32 d.nr 1073741824:=by omega
    rw[if_neg (by simp[hb])];exact h1 ⟨ht,fun _=>hb,fun h=>by omega⟩
   ·have e:=(hz 0).2 hb;rw[if_pos (by simp[e])];exact h2 (fun q=>hb (q.2.1 a0)) _
  ·rw[if_neg a0] at h3
   by_cases a2:a=2
   ·rw[if_pos a2] at h3;have hoN:jD a=4:=by simp[jD,a2]
    rw[hoN] at h1;refine .jc _ _ r _ h3.hd.1 (.inr (.inr (.inr rfl))) ?_;simp only[qaI]
    by_cases hb:jq .u32 d.nr 1073741824=0
    ·rw[if_neg (by simp[hb])];exact h2 (fun q=>q.2.2 a2 hb) _
    ·have e:=(hz 0).2 hb;rw[if_pos (by simp[e])];exact h1 ⟨ht,fun h=>absurd h a0,fun _=>hb⟩
   ·have hoN:jD a=3:=by simp[jD,a0,a2]
    rw[hoN] at h1;exact h1 ⟨ht,fun h=>absurd h a0,fun h=>absurd h a2⟩
 ·rw[if_neg (by simp[ht])];exact h2 (fun q=>ht q.1) _
theorem qlb:∀{rs:List GRule} {p:Nat} {i:Nat} {q:GRule},AtL R p (zJ rs p)->rs[i]?=some q->AtL R (p+qY (rs.take i)) (qrm q (p+qY (rs.take i)))
 | [],_,_,_,_,h=>by simp at h
 | y::rs,p,i,q,h,hi=>by
  unfold zJ at h;obtain⟨g1,g2⟩:=h.app;rw[qj7] at g2;cases i with
  | zero=>simp at hi;subst hi;simpa[qY] using g1
  | succ i =>
   have:=qlb g2 (by simpa using hi);simpa[qY,Nat.add_assoc] using this
theorem qhb{x:GFil}:qkw x d=if (ofM d.arch d.nr).2=false∨(ofM d.arch d.nr).1≠x.arch then 2147418112 else match x.rules.find? (fun r=>decide (r.nr=d.nr)) with|none=>x.dflt|some r=>fnd (fun t=>xZ t d) r.act r.tests:=by
 unfold qkw fnd;rfl
theorem qoW{x:GFil}(h:FilG x)(hd:DatOk d):EvA (qW x) d 0 (qkw x d):=by
 have hR:=AtL.self (R:=qW x);have hR0:AtL (qW x) 0 (qW x):=hR;unfold qW at hR;obtain⟨hR,hA5⟩:=hR.app;obtain⟨hR,hA4⟩:=hR.app;obtain⟨hR,hA3⟩:=hR.app;obtain⟨hA1,hA2⟩:=hR.app;rw[show (qa9 x.arch 0 (xG x)++z7 (xJ x) (qL x) (jD x.arch)++[(⟨6,x.dflt,0,0⟩:Sy)]++zJ x.rules (jz x+1)++[(⟨6,2147418112,0,0⟩:Sy)])=qW x from rfl] at hA1 hA2 hA3 hA4 hA5
 have e3:0+(qa9 x.arch 0 (xG x)++z7 (xJ x) (qL x) (jD x.arch)).length=jz x:=by simp only[List.length_append,jI,jr];unfold jz;omega
 have e4:0+(qa9 x.arch 0 (xG x)++z7 (xJ x) (qL x) (jD x.arch)++[(⟨6,x.dflt,0,0⟩:Sy)]).length=jz x+1:=by simp only[List.length_append,jI,jr,List.length_singleton];unfold jz;omega
 have e5:0+(qa9 x.arch 0 (xG x)++z7 (xJ x) (qL x) (jD x.arch)++[(⟨6,x.dflt,0,0⟩:Sy)]++zJ x.rules (jz x+1)).length=xG x:=by simp only[List.length_append,jI,jr,List.length_singleton,qbb];unfold xG jz;omega
 rw[jI,Nat.zero_add] at hA2;rw[e3] at hA3;rw[e4] at hA4;rw[e5] at hA5;rw[qhb];refine qAR h.a0 h.a6 hd hA1 (fun hown=>?_) (fun hown=>?_)
 ·rw[if_neg (fun q=>(qt0 h.a0 h.a6 d).1 q hown)]
  obtain⟨c1,c2,c3,_,_⟩:=h.spans
  -- the code of a way
  have way:∀w,Cov (zx (pcs 0 (qG x.rules) 0)) d.nr w->Ev (qW x) d (xJ x w) d.nr (match x.rules.find? (fun r=>decide (r.nr=d.nr)) with|none=>x.dflt|some r=>fnd (fun t=>xZ t d) r.act r.tests)->Ev (qW x) d (jD x.arch) d.nr (match x.rules.find? (fun r=>decide (r.nr=d.nr)) with|none=>x.dflt|some r=>fnd (fun t=>xZ t d) r.act r.tests):=by
   intro w hw he;unfold z7 at hA2;obtain⟨j1,j2⟩:=hA2.app
   have ht:=qxI (T:=qL x) (FW:=xJ x) (b:=jD x.arch+jaN (qL x)) (n:=d.nr) (Q:=fun i=>Ev (qW x) d i d.nr (match x.rules.find? (fun r=>decide (r.nr=d.nr)) with|none=>x.dflt|some r=>fnd (fun t=>xZ t d) r.act r.tests)) (fun i nd hi hl hq=>by
    have hp:plc (xJ x) (qL x) (jD x.arch+jaN (qL x)) i=jD x.arch+jaN (qL x)+zW ((qL x).take i):=by unfold plc;rw[hi];simp[hl]
    have hg:=j2 _ _ (qvc (FW:=xJ x) (b:=jD x.arch+(jaE (xJ x) (qL x)).length) hi hl);rw[qlJ] at hg;rw[hp];refine .jc _ _ _ _ hg (.inr (.inr (.inl rfl))) ?_;simp only[qaI]
    by_cases hn:nd.at'<=d.nr
    ·rw[if_pos hn] at hq;rw[if_pos (by simp[hn])];exact hq
    ·rw[if_neg hn] at hq;rw[if_neg (by simp[hn])];exact hq) _ (zx (pcs 0 (qG x.rules) 0)) 0 0 4294967296 (Nat.le_refl _) h.pos c1 (fun j nd hj=>by rw[Nat.zero_add];exact hj) w hw he
   cases hT:qL x with
   | nil=>exact absurd hT h.tne
   | cons nd T =>
    rw[hT] at ht j1;cases hl:nd.leaf with
    | true =>
     simp only[jaE,if_pos hl] at j1;refine .ja _ _ _ _ j1.hd.1 rfl ?_;simp only[plc,List.getElem?_cons_zero,if_pos hl] at ht;exact ht
    | false =>
     simp only[plc,List.getElem?_cons_zero,hl,Bool.false_eq_true,if_false,jaN,List.take_zero,zW,List.countP_nil,Nat.add_zero] at ht;exact ht
  cases hf:x.rules.find? (fun r=>decide (r.nr=d.nr)) with
  | none =>
   rw[hf] at way
   have hnone:∀q ∈ x.rules,q.nr≠d.nr:=fun q hq he=>by
    have:=List.find?_eq_none.1 hf q hq;simp[he] at this
   refine way 0 (c3 d.nr hd.nr0 (by have:=hd.nr1;omega) hnone) ?_;exact Ev.rt (jz x) d.nr _ hA3.hd.1 rfl
  | some q =>
   rw[hf] at way;have hqm:=List.mem_of_find?_eq_some hf;have hqn:q.nr=d.nr:=by have:=List.find?_some hf;simpa using this
   obtain⟨i,hi⟩:=List.getElem?_of_mem hqm;have hc:=c2 i q hi;rw[hqn] at hc;refine way (i+1) hc ?_;have ha:=qlb hA4 hi;have hw:xJ x (i+1)=jz x+1+qY (x.rules.take i):=by simp[xJ]
   rw[hw];exact qnL hd (h.ts q hqm) ha _
 ·rw[if_pos ((qt0 h.a0 h.a6 d).2 hown)];intro a;exact Ev.rt (xG x) a _ hA5.hd.1 rfl
end
theorem qae{c:Int}(h:qd3 c):qn c=4∧c≠5∧c≠6:=by
 rcases h with rfl|rfl|rfl|rfl<;>decide
theorem qea:qn 32=1∧qn 84=3∧qn 6=5∧qn 5=4:=by decide
section
variable {l R:List Sy} {d:GData} {r:Int}
theorem qfD.ja{s:Sy}{j n:Nat}(h:qfD s j n)(h5:s.code=5):s.k=0∧s.el=0∧j<s.th∧s.th<n:=by
 rcases h with⟨q,_⟩|⟨q,_⟩|⟨_,q⟩|⟨q,_⟩
 ·omega
 ·omega
 ·exact q
 ·exact absurd h5 (qae q).2.1
theorem qfD.jc{s:Sy}{j n:Nat}(h:qfD s j n)(ha:qd3 s.code):j<s.th∧s.th<n∧j<s.el∧s.el<n:=by
 have h5:=qae ha;unfold qd3 at ha;rcases h with⟨q,_⟩|⟨q,_⟩|⟨q,_⟩|⟨_,q⟩
 ·omega
 ·omega
 ·omega
 ·exact q
theorem qfD.jmp{s:Sy}{j n:Nat}(h:qfD s j n)(hj:qbw s):s.code=5∨qd3 s.code:=by
 unfold qbw at hj;obtain⟨c1,c2,c3,c4⟩:=qea;rcases h with⟨q,_⟩|⟨q,_⟩|⟨q,_⟩|⟨q,_⟩
 ·rw[q,c1] at hj;omega
 ·rcases q with q|q
  ·rw[q,c2] at hj;omega
  ·rw[q,c3] at hj;omega
 ·exact .inl q
 ·exact .inr q
theorem qfD.ask{s:Sy}{j n:Nat}(h:qfD s j n)(hj:qcG s):qd3 s.code:=(h.jmp hj.1).resolve_left hj.2
theorem MayL.in(h:MayL l):qkB l:=by
 intro x hx j hj;obtain⟨i,hi⟩:=List.getElem?_of_mem hx;have hm:=h.all i x hi;rcases hj with⟨q,rfl⟩|⟨q,rfl⟩
 ·rcases hm.jmp q with q|q
  ·exact (hm.ja q).2.2.2
  ·exact (hm.jc q).2.1
 ·exact (hm.jc (hm.ask q)).2.2.2
theorem MayL.on(h:MayL l):qxO l:=by
 intro j x hx h6 h4;have hj:=(zzS.1 hx).1;obtain⟨s,hs,hs6⟩:=h.last;rcases Nat.lt_or_ge (j+1) l.length with q|q
 ·exact q
 ·have e:l.length-1=j:=by omega
  rw[e,hx] at hs;cases hs;exact absurd hs6 h6
theorem MayL.hin(h:MayL l):∀x ∈ l,∀j:Nat,(x.code=5∨qn x.code=4)∧j=x.th∨(qn x.code=4∧x.code≠5)∧j=x.el->j<l.length:=by
 intro x hx j hj;refine h.in x hx j ?_
 rcases hj with⟨q,e⟩|q
 ·refine .inl ⟨?_,e⟩;rcases q with q|q
  ·unfold qbw;rw[q];exact qea.2.2.2
  ·exact q
 ·exact .inr q
theorem Ev.at6{p:Nat}{a:Int}{s:Sy}(h:Ev R d p a r)(hs:R[p]?=some s)(h6:s.code=6):r=s.k:=by
 cases h with
 | ld _ _ _ x hx hc=>rw[hs] at hx;cases hx;omega
 | an _ _ _ x hx hc=>rw[hs] at hx;cases hx;omega
 | rt _ _ x hx hc=>rw[hs] at hx;cases hx;rfl
 | ja _ _ _ x hx hc=>rw[hs] at hx;cases hx;omega
 | jc _ _ _ x hx hc=>rw[hs] at hx;cases hx;exact absurd h6 (qae hc).2.2
theorem Ev.at5{p:Nat}{a:Int}{s:Sy}(h:Ev R d p a r)(hs:R[p]?=some s)(h5:s.code=5):Ev R d s.th a r:=by
 cases h with
 | ld _ _ _ x hx hc=>rw[hs] at hx;cases hx;omega
 | an _ _ _ x hx hc=>rw[hs] at hx;cases hx;omega
 | rt _ _ x hx hc=>rw[hs] at hx;cases hx;omega
 | ja _ _ _ x hx hc hn=>rw[hs] at hx;cases hx;exact hn
 | jc _ _ _ x hx hc=>rw[hs] at hx;cases hx;exact absurd h5 (qae hc).2.1
theorem jC{to:Nat->Nat}{s:Sy}(h:¬qbw s):qa8 to s=s:=by
 unfold qa8;rw[if_neg h,if_neg (fun q=>h q.1)]
theorem qhx{to:Nat->Nat}{s:Sy}(h:s.code=5):qa8 to s=⟨s.code,s.k,to s.th,s.el⟩:=by
 have hj:qbw s:=by unfold qbw;rw[h];exact qea.2.2.2
 unfold qa8;rw[if_pos hj,if_neg (fun q=>q.2 h)]
theorem qhy{to:Nat->Nat}{s:Sy}(h:qd3 s.code):qa8 to s=⟨s.code,s.k,to s.th,to s.el⟩:=by
 have hj:=qae h;unfold qa8;rw[if_pos (show qbw s from hj.1),if_pos (show qcG s from⟨hj.1,hj.2.1⟩)]
theorem xO{s:Sy}(h:s.code=32∨s.code=84∨s.code=6):¬qbw s:=by
 unfold qbw;rcases h with h|h|h<;>rw[h]<;>decide
theorem qnr{to:Nat->Nat}{s:Sy}{j n:Nat}(h:qfD s j n)(ht:∀q,j<q->q<n->j<to q∧to q<n):qfD (qa8 to s) j n:=by
 rcases h with q|q|⟨q,q1,q2,q3,q4⟩|⟨q,q1,q2,q3,q4⟩
 ·rw[jC (xO (.inl q.1))];exact .inl q
 ·rw[jC (xO (.inr q.1))];exact .inr (.inl q)
 ·rw[qhx q];obtain⟨t1,t2⟩:=ht _ q3 q4;exact .inr (.inr (.inl ⟨q,q1,q2,t1,t2⟩))
 ·rw[qhy q];obtain⟨t1,t2⟩:=ht _ q1 q2;obtain⟨t3,t4⟩:=ht _ q3 q4;exact .inr (.inr (.inr ⟨q,t1,t2,t3,t4⟩))
-- shared
theorem qBg(h:MayL l){j:Nat}(hj:j<l.length):j<=qdr l j∧qdr l j<l.length:=by
 unfold qdr;rw[zzE hj];simp only;split
 ·rename_i h6;obtain⟨i,y,q1,q2,q3,_⟩:=qhZ (zzE hj) h6;rw[q1];exact⟨q2,(zzS.1 q3).1⟩
 ·exact⟨Nat.le_refl _,hj⟩
theorem qcU{j:Nat}:(qeq l)[j]?=(l[j]?).map (qa8 (qdr l)):=by unfold qeq;rw[List.getElem?_map]
theorem qhI:(qeq l).length=l.length:=by unfold qeq;rw[List.length_map]
theorem qhJ(h:MayL l):MayL (qeq l):=by
 refine⟨by rw[qhI];exact h.pos,by rw[qhI];exact h.big,?_,fun j s hj=>?_⟩
 ·obtain⟨s,hs,h6⟩:=h.last;exact⟨s,by rw[qhI,qcU,hs];simp[jC (xO (.inr (.inr h6)))],h6⟩
 ·rw[qcU] at hj;obtain⟨x,hx,rfl⟩:=Option.map_eq_some_iff.1 hj;rw[qhI];exact qnr (h.all j x hx) fun q q1 q2=>by have:=qBg h q2;omega
theorem ql8(h:MayL l){j:Nat}{a:Int}(hj:j<l.length)(he:Ev (qeq l) d j a r):Ev (qeq l) d (qdr l j) a r:=by
 unfold qdr;rw[zzE hj];simp only;split
 ·rename_i h6;obtain⟨i,y,q1,q2,q3,q4,q5⟩:=qhZ (zzE hj) h6;rw[q1];have hg:(qeq l)[j]?=some l[j]:=by rw[qcU,zzE hj];simp[jC (xO (.inr (.inr h6)))]
  have hr:=he.at6 hg h6;rw[hr,← q5];exact Ev.rt i a y (by rw[qcU,q3];simp[jC (xO (.inr (.inr q4)))]) q4
 ·exact he
theorem qBf(h:MayL l):∀{p:Nat} {a:Int},Ev l d p a r->Ev (qeq l) d p a r:=by
 intro p a he
 induction he with
 | ld p a r s hs hc _ ih=>exact .ld p a r s (by rw[qcU,hs];simp[jC (xO (.inl hc))]) hc ih
 | an p a r s hs hc _ ih=>exact .an p a r s (by rw[qcU,hs];simp[jC (xO (.inr (.inl hc)))]) hc ih
 | rt p a s hs hc=>exact .rt p a s (by rw[qcU,hs];simp[jC (xO (.inr (.inr hc)))]) hc
 | ja p a r s hs hc _ ih =>
  have hm:=(h.all p s hs).ja hc;exact .ja p a r ⟨s.code,s.k,qdr l s.th,s.el⟩ (by rw[qcU,hs,← qhx hc];rfl) hc (ql8 h hm.2.2.2 ih)
 | jc p a r s hs hc _ ih =>
  have hm:=(h.all p s hs).jc hc;refine .jc p a r ⟨s.code,s.k,qdr l s.th,qdr l s.el⟩ (by rw[qcU,hs,← qhy hc];rfl) hc ?_;simp only;split
  ·rename_i q;rw[if_pos q] at ih;exact ql8 h hm.2.1 ih
  ·rename_i q;rw[if_neg q] at ih;exact ql8 h hm.2.2.2 ih
-- threaded
theorem qBz(h:MayL R){j:Nat}(hj:j<R.length):j<=xL R j∧xL R j<R.length:=by
 unfold xL;rw[zzE hj];simp only;split
 ·rename_i h5;have:=(h.all j _ (zzE hj)).ja h5;omega
 ·exact⟨Nat.le_refl _,hj⟩
theorem qnM(h:MayL R){i:Nat}{x:Sy}(hx:R[i]?=some x):qfD (qbd R x) i R.length∧((x.code=6)->qbd R x=x):=by
 have hm:=qnr (h.all i x hx) (to:=xL R) fun q q1 q2=>by have:=qBz h q2;omega
 refine⟨?_,fun h6=>?_⟩
 ·unfold qbd;split
  ·rename_i q;have ha:=hm.ask q.1;have:=hm.jc ha;exact .inr (.inr (.inl ⟨rfl,rfl,rfl,this.1,this.2.1⟩))
  ·exact hm
 ·have e:=jC (to:=xL R) (xO (s:=x) (.inr (.inr h6)));unfold qbd;rw[e,if_neg (fun q=>xO (.inr (.inr h6)) q.1.1)]
theorem quz(h:MayL R){i:Nat}{x:Sy}(hx:R[i]?=some x):MayL (R.set i (qbd R x)):=by
 have hi:=(zzS.1 hx).1;refine⟨by rw[List.length_set];exact h.pos,by rw[List.length_set];exact h.big,?_,fun j s hj=>?_⟩
 ·obtain⟨s,hs,h6⟩:=h.last;refine⟨s,?_,h6⟩;rw[List.length_set,List.getElem?_set]
  by_cases e:i=R.length-1
  ·rw[← e,hx] at hs;cases hs;rw[if_pos e,if_pos (by omega),(qnM h hx).2 h6]
  ·rw[if_neg e];exact hs
 ·rw[List.length_set];rw[List.getElem?_set] at hj
  by_cases e:i=j
  ·subst e;rw[if_pos rfl,if_pos hi] at hj;cases hj;exact (qnM h hx).1
  ·rw[if_neg e] at hj;exact h.all j s hj
theorem qxE(h:MayL R){i:Nat}{x:Sy}(hx:R[i]?=some x):∀{p:Nat} {a:Int},Ev R d p a r->Ev (R.set i (qbd R x)) d p a r:=by
 have hi:=(zzS.1 hx).1;have g:∀{p:Nat} {s:Sy},R[p]?=some s->p≠i->(R.set i (qbd R x))[p]?=some s:=fun hs hp=>by rw[List.getElem?_set,if_neg (Ne.symm hp)];exact hs
 have gi:(R.set i (qbd R x))[i]?=some (qbd R x):=by rw[List.getElem?_set,if_pos rfl,if_pos hi]
 have hop:∀{t:Nat} {a:Int},i<t->t<R.length->Ev (R.set i (qbd R x)) d t a r->Ev (R.set i (qbd R x)) d (xL R t) a r:=fun {t a} h1 h2 he=>by
  unfold xL;rw[zzE h2];simp only;split
  ·rename_i h5;exact he.at5 (g (zzE h2) (by omega)) h5
  ·exact he
 have gn:¬qbw x->(R.set i (qbd R x))[i]?=some x:=fun q=>by
  rw[gi];unfold qbd;rw[jC q,if_neg (fun z=>q z.1.1)]
 intro p a he
 induction he with
 | ld p a r s hs hc _ ih =>
  by_cases e:p=i
  ·subst e;rw[hx] at hs;cases hs;exact .ld _ _ _ x (gn (xO (.inl hc))) hc (ih hop)
  ·exact .ld _ _ _ s (g hs e) hc (ih hop)
 | an p a r s hs hc _ ih =>
  by_cases e:p=i
  ·subst e;rw[hx] at hs;cases hs;exact .an _ _ _ x (gn (xO (.inr (.inl hc)))) hc (ih hop)
  ·exact .an _ _ _ s (g hs e) hc (ih hop)
 | rt p a s hs hc =>
  by_cases e:p=i
  ·subst e;rw[hx] at hs;cases hs;exact .rt _ _ x (gn (xO (.inr (.inr hc)))) hc
  ·exact .rt _ _ s (g hs e) hc
 | ja p a r s hs hc _ ih =>
  by_cases e:p=i
  ·subst e;rw[hx] at hs;cases hs;have hm:=(h.all _ _ hx).ja hc
   have e1:qbd R x=⟨x.code,x.k,xL R x.th,x.el⟩:=by
    unfold qbd;rw[qhx hc,if_neg (fun z=>z.1.2 hc)]
   have gi2:=gi.trans (congrArg some e1);exact .ja _ _ _ _ gi2 hc (hop hm.2.2.1 hm.2.2.2 (ih hop))
  ·exact .ja _ _ _ s (g hs e) hc (ih hop)
 | jc p a r s hs hc _ ih =>
  by_cases e:p=i
  ·subst e;rw[hx] at hs;cases hs;have hm:=(h.all _ _ hx).jc hc;have ih:=ih hop
   have he:Ev (R.set p (qbd R x)) d (if qaI x.code a x.k=true then xL R x.th else xL R x.el) a r:=by
    split
    ·rename_i q;rw[if_pos q] at ih;exact hop hm.1 hm.2.1 ih
    ·rename_i q;rw[if_neg q] at ih;exact hop hm.2.2.1 hm.2.2.2 ih
   have e0:=qhy (to:=xL R) hc
   by_cases eq:xL R x.th=xL R x.el
   ·have e1:qbd R x=⟨5,0,xL R x.th,0⟩:=by
     unfold qbd;rw[e0];exact if_pos ⟨⟨(qae hc).1,(qae hc).2.1⟩,eq⟩
    rw[← eq,ite_self] at he;exact .ja _ _ _ _ (gi.trans (congrArg some e1)) rfl he
   ·have e1:qbd R x=⟨x.code,x.k,xL R x.th,xL R x.el⟩:=by
     unfold qbd;rw[e0];exact if_neg fun z=>eq z.2
    exact .jc _ _ _ _ (gi.trans (congrArg some e1)) hc he
  ·exact .jc _ _ _ s (g hs e) hc (ih hop)
theorem qkh:∀{m j:Nat},j+m<l.length->(qer l m)[j]?=l[j]?
 | 0,_,_=>rfl
 | m+1,j,h=>by
  unfold qer;split
  ·rw[List.getElem?_set,if_neg (by omega)];exact qkh (by omega)
  ·exact qkh (by omega)
theorem qmg(h:MayL l):∀m,m<=l.length->MayL (qer l m)∧∀{p:Nat} {a:Int},Ev l d p a r->Ev (qer l m) d p a r
 | 0,_=>⟨h,fun e=>e⟩
 | m+1,hm=>by
  obtain⟨h1,h2⟩:=qmg h m (by omega);have hx:l[l.length-(m+1)]?=some l[l.length-(m+1)]:=zzE (by omega);unfold qer;rw[hx];simp only;have hx2:(qer l m)[l.length-(m+1)]?=some l[l.length-(m+1)]:=by rw[qkh (by omega)];exact hx
  exact⟨quz h1 hx2,fun e=>qxE h1 hx2 (h2 e)⟩
theorem qjd(h:MayL l):MayL (qmf l):=(qmg (d:=⟨0,0,0,0,0,0,0,0,0⟩) (r:=0) h _ (Nat.le_refl _)).1
theorem qBy(h:MayL l){p:Nat}{a:Int}:Ev l d p a r->Ev (qmf l) d p a r:=(qmg h _ (Nat.le_refl _)).2
theorem qxF:(qmf l).length=l.length:=qes
end
def Suc(x:Sy)(j t:Nat):Prop:=(x.code≠6∧¬qbw x∧t=j+1)∨(qbw x∧t=x.th)∨(qcG x∧t=x.el)
theorem qka{A:List Bool}{i j:Nat}(h:A[j]?=some true):(A.set i true)[j]?=some true:=by
 rw[List.getElem?_set];split
 ·rename_i e;subst e;rw[if_pos (zzS.1 h).1]
 ·exact h
theorem qj9{A:List Bool}{i:Nat}(h:i<A.length):(A.set i true)[i]?=some true:=by
 rw[List.getElem?_set,if_pos rfl,if_pos h]
theorem ql6{A:List Bool}{i j:Nat}(h:j≠i):(A.set i true)[j]?=A[j]?:=by
 rw[List.getElem?_set,if_neg (Ne.symm h)]
theorem qkC{A:List Bool}{j m:Nat}{x:Sy}(h:A[j]?=some true):(qd2 A m x)[j]?=some true:=by
 unfold qd2;split
 ·exact h
 ·split
  ·exact qka h
  ·split
   ·exact qka (qka h)
   ·exact qka h
theorem qrI{A:List Bool}{j t:Nat}{x:Sy}(h:A[j]?=some true)(hs:Suc x j t)(ht:t<A.length):(qd2 A j x)[t]?=some true:=by
 have h6:x.code≠6:=by
  rcases hs with q|⟨q,_⟩|⟨q,_⟩
  ·exact q.1
  ·intro e;exact xO (.inr (.inr e)) q
  ·intro e;exact xO (.inr (.inr e)) q.1
 unfold qd2;rw[if_neg (by rintro (q|q);exact q h;exact h6 q)]
 rcases hs with⟨_,q,rfl⟩|⟨q,rfl⟩|⟨q,rfl⟩
 ·rw[if_pos (show qn x.code≠4 from q)];exact qj9 ht
 ·rw[if_neg (fun z:qn x.code≠4=>z q)]
  split
  ·exact qka (qj9 ht)
  ·exact qj9 ht
 ·rw[if_neg (fun z:qn x.code≠4=>z q.1),if_pos q]
  exact qj9 (by rw[List.length_set];exact ht)
section
variable {l:List Sy} {d:GData} {r:Int}
theorem qpZ(h:MayL l){A:List Bool}{j m:Nat}{x:Sy}(hx:l[m]?=some x)(hj:j<=m):(qd2 A m x)[j]?=A[j]?:=by
 unfold qd2;split
 ·rfl
 ·split
  ·exact ql6 (by omega)
  ·rename_i q;have hq:qbw x:=Decidable.not_not.1 q;have hm:=h.all m x hx
   have hth:m<x.th:=by
    rcases hm.jmp hq with z|z
    ·exact (hm.ja z).2.2.1
    ·exact (hm.jc z).1
   split
   ·rename_i q2;have:=hm.jc (hm.ask q2);rw[ql6 (by omega),ql6 (by omega)]
   ·exact ql6 (by omega)
theorem qox(h:MayL l){j t:Nat}{x:Sy}(hx:l[j]?=some x)(hs:Suc x j t):j<t∧t<l.length:=by
 have hm:=h.all j x hx;rcases hs with⟨q1,q2,rfl⟩|⟨q,rfl⟩|⟨q,rfl⟩
 ·exact⟨by omega,h.on j x hx q1 q2⟩
 ·rcases hm.jmp q with z|z
  ·exact (hm.ja z).2.2
  ·exact⟨(hm.jc z).1,(hm.jc z).2.1⟩
 ·exact (hm.jc (hm.ask q)).2.2
theorem qmq(h:MayL l):∀m,m<=l.length->∀(j t:Nat) x,j<m->l[j]?=some x->Suc x j t->(jN l m)[j]?=some true->(jN l m)[t]?=some true
 | 0,_,j,t,x,hj,_,_,_=>by omega
 | m+1,hm,j,t,x,hj,hx,hs,ha=>by
  have hy:l[m]?=some l[m]:=zzE (by omega);unfold jN at ha ⊢;rw[hy] at ha ⊢;simp only at ha ⊢;rw[qpZ h hy (by omega)] at ha;rcases Nat.lt_or_ge j m with q|q
  ·exact qkC (qmq h m (by omega) j t x q hx hs ha)
  ·have e:j=m:=by omega
   subst e;rw[hy] at hx;cases hx;exact qrI ha hs (by rw[qbx];exact (qox h hy hs).2)
theorem qc6(h:MayL l){j t:Nat}{x:Sy}(hx:l[j]?=some x)(hs:Suc x j t)(ha:(zr l)[j]?=some true):(zr l)[t]?=some true :=
 qmq h _ (Nat.le_refl _) j t x (zzS.1 hx).1 hx hs ha
theorem qrJ(h:0<l.length):(zr l)[0]?=some true:=by
 have:∀m,(jN l m)[0]?=some true:=by
  intro m
  induction m with
  | zero=>exact qj9 (by simpa using h)
  | succ m ih =>
   unfold jN;split
   ·exact qkC ih
   ·exact ih
 exact this _
theorem qsn{A:List Bool}{i j:Nat}(h:i<=j):zN A i<=zN A j:=by
 unfold zN;have e:A.take i=(A.take j).take i:=by rw[List.take_take,Nat.min_eq_left h]
 rw[e];exact List.Sublist.countP_le (List.take_sublist _ _)
theorem qjt{A:List Bool}{i j:Nat}(ha:A[i]?=some true)(h:i<j):zN A i<zN A j:=by
 have h1:=qeb ha;have h2:=qsn (A:=A) (i:=i+1) (j:=j) h;rw[if_pos rfl] at h1;omega
theorem qpH{α:Type}:∀{A:List Bool} {l:List α} {p:Nat} {x:α},A[p]?=some true->l[p]?=some x->(qcD A l)[zN A p]?=some x
 | [],_,_,_,h,_=>by simp at h
 | _::_,[],_,_,_,h=>by simp at h
 | c::A,y::l,0,x,h1,h2=>by
  simp at h1 h2;subst h1 h2;simp[qcD,zN]
 | c::A,y::l,p+1,x,h1,h2=>by
  have:=qpH (A:=A) (l:=l) (p:=p) (x:=x) (by simpa using h1) (by simpa using h2);unfold zN at this ⊢;rw[List.take_succ_cons,List.countP_cons];cases c<;>simpa[qcD] using this
theorem qjc{α:Type}:∀{A:List Bool} {l:List α} {q:Nat} {x:α},(qcD A l)[q]?=some x->∃p,A[p]?=some true∧l[p]?=some x∧zN A p=q
 | [],_,_,_,h=>by simp[qcD] at h
 | _::_,[],_,_,h=>by simp[qcD] at h
 | c::A,y::l,q,x,h=>by
  cases c with
  | false =>
   obtain⟨p,h1,h2,h3⟩:=qjc (A:=A) (l:=l) (q:=q) (x:=x) (by simpa[qcD] using h);refine⟨p+1,by simpa using h1,by simpa using h2,?_⟩
   unfold zN at h3 ⊢;rw[List.take_succ_cons,List.countP_cons];simpa using h3
  | true =>
   cases q with
   | zero=>simp[qcD] at h;subst h;exact⟨0,rfl,rfl,by simp[zN]⟩
   | succ q =>
    obtain⟨p,h1,h2,h3⟩:=qjc (A:=A) (l:=l) (q:=q) (x:=x) (by simpa[qcD] using h);refine⟨p+1,by simpa using h1,by simpa using h2,?_⟩
    unfold zN at h3 ⊢;rw[List.take_succ_cons,List.countP_cons];simpa using h3
theorem qpI{α:Type}:∀{A:List Bool} {l:List α},A.length=l.length->(qcD A l).length=zN A A.length
 | [],[],_=>rfl
 | [],_::_,h=>by simp at h
 | _::_,[],h=>by simp at h
 | c::A,y::l,h=>by
  have:=qpI (A:=A) (l:=l) (by simpa using h);unfold zN at this ⊢;rw[List.length_cons,List.take_succ_cons,List.countP_cons];cases c<;>simp[qcD,this]
theorem qi3:(qfC l).length=zN (zr l) l.length:=by
 unfold qfC;have hA:(zr l).length=l.length:=qbx;rw[qpI (by rw[List.length_map,hA]),hA]
theorem qtj:(qfC l).length<=l.length:=by rw[qi3];exact qlA
theorem qht{p:Nat}{x:Sy}(ha:(zr l)[p]?=some true)(hx:l[p]?=some x):(qfC l)[zN (zr l) p]?=some (qa8 (zN (zr l)) x) :=
 qpH ha (by rw[List.getElem?_map,hx];rfl)
theorem qwk(h:MayL l):MayL (qfC l):=by
 have hA:(zr l).length=l.length:=qbx;have h0:=qrJ h.pos;have hp:0<(qfC l).length:=by rw[qi3];exact Nat.lt_of_le_of_lt (Nat.zero_le _) (qjt h0 h.pos)
 have idx:∀{q:Nat} {s:Sy},(qfC l)[q]?=some s->∃p x,(zr l)[p]?=some true∧l[p]?=some x∧zN (zr l) p=q∧s=qa8 (zN (zr l)) x:=fun {q s} hq=>by
  obtain⟨p,h1,h2,h3⟩:=qjc hq;rw[List.getElem?_map] at h2;obtain⟨x,hx,rfl⟩:=Option.map_eq_some_iff.1 h2;exact⟨p,x,h1,hx,h3,rfl⟩
 refine⟨hp,Nat.le_trans qtj h.big,?_,fun j s hj=>?_⟩
 ·obtain⟨p,x,q1,q2,q3,q4⟩:=idx (zzE (i:=(qfC l).length-1) (by omega));refine⟨_,zzE (by omega),?_⟩;rw[q4];show x.code=6;apply Decidable.byContradiction;intro h6
  have hs:∃t,Suc x p t:=by
   by_cases hj:qbw x
   ·exact⟨_,.inr (.inl ⟨hj,rfl⟩)⟩
   ·exact⟨_,.inl ⟨h6,hj,rfl⟩⟩
  obtain⟨t,ht⟩:=hs;have t1:=qox h q2 ht;have t2:=qc6 h q2 ht q1;have t3:=qjt q1 t1.1;have t4:=qjt t2 t1.2;rw[← qi3] at t4;omega
 ·obtain⟨p,x,q1,q2,q3,rfl⟩:=idx hj;have hm:=h.all p x q2
  have go:∀t,Suc x p t->j<zN (zr l) t∧zN (zr l) t<(qfC l).length:=fun t ht=>by
   have t1:=qox h q2 ht;have t2:=qc6 h q2 ht q1;rw[qi3,← q3];exact⟨qjt q1 t1.1,qjt t2 t1.2⟩
  rcases hm with q|q|⟨q,z1,z2,z3,z4⟩|⟨q,z1,z2,z3,z4⟩
  ·rw[jC (xO (.inl q.1))];exact .inl q
  ·rw[jC (xO (.inr q.1))];exact .inr (.inl q)
  ·have hjm:qbw x:=by unfold qbw;rw[q];exact qea.2.2.2
   rw[qhx q];obtain⟨t1,t2⟩:=go x.th (.inr (.inl ⟨hjm,rfl⟩));exact .inr (.inr (.inl ⟨q,z1,z2,t1,t2⟩))
  ·have ha:=qae q;rw[qhy q];obtain⟨t1,t2⟩:=go x.th (.inr (.inl ⟨ha.1,rfl⟩));obtain⟨t3,t4⟩:=go x.el (.inr (.inr ⟨⟨ha.1,ha.2.1⟩,rfl⟩));exact .inr (.inr (.inr ⟨q,t1,t2,t3,t4⟩))
theorem qzV(h:MayL l):∀{p:Nat} {a:Int},Ev l d p a r->(zr l)[p]?=some true->Ev (qfC l) d (zN (zr l) p) a r:=by
 intro p a he
 induction he with
 | ld p a r s hs hc _ ih =>
  intro ha;have hn:=qc6 h hs (t:=p+1) (.inl ⟨by omega,xO (.inl hc),rfl⟩) ha
  have e:=qeb ha;rw[if_pos rfl] at e;have ih:=ih hn;rw[e] at ih;have hg:=qht ha hs;rw[jC (xO (.inl hc))] at hg;exact .ld _ _ _ s hg hc ih
 | an p a r s hs hc _ ih =>
  intro ha;have hn:=qc6 h hs (t:=p+1) (.inl ⟨by omega,xO (.inr (.inl hc)),rfl⟩) ha
  have e:=qeb ha;rw[if_pos rfl] at e;have ih:=ih hn;rw[e] at ih;have hg:=qht ha hs;rw[jC (xO (.inr (.inl hc)))] at hg;exact .an _ _ _ s hg hc ih
 | rt p a s hs hc =>
  intro ha;have hg:=qht ha hs;rw[jC (xO (.inr (.inr hc)))] at hg;exact .rt _ _ s hg hc
 | ja p a r s hs hc _ ih =>
  intro ha;have hjm:qbw s:=by unfold qbw;rw[hc];exact qea.2.2.2
  have hg:=qht ha hs;rw[qhx hc] at hg;exact .ja _ _ _ _ hg hc (ih (qc6 h hs (.inr (.inl ⟨hjm,rfl⟩)) ha))
 | jc p a r s hs hc _ ih =>
  intro ha;have hk:=qae hc;have h1:=qc6 h hs (t:=s.th) (.inr (.inl ⟨hk.1,rfl⟩)) ha;have h2:=qc6 h hs (t:=s.el) (.inr (.inr ⟨⟨hk.1,hk.2.1⟩,rfl⟩)) ha;have hg:=qht ha hs;rw[qhy hc] at hg;refine .jc _ _ _ _ hg hc ?_;simp only;split
  ·rename_i q;rw[if_pos q] at ih;exact ih h1
  ·rename_i q;rw[if_neg q] at ih;exact ih h2
theorem qpo(h:MayL l):MayL (qeO l):=qwk (qjd (qhJ h))
theorem qwV:(qeO l).length<=l.length:=by
 unfold qeO;refine Nat.le_trans qtj ?_;rw[qxF,qhI];exact Nat.le_refl _
theorem qAQ(h:MayL l){a:Int}(he:Ev l d 0 a r):Ev (qeO l) d 0 a r:=by
 have h1:=qBy (qhJ h) (qBf h he);have h2:=qzV (qjd (qhJ h)) h1 (qrJ (qjd (qhJ h)).pos);unfold qeO;simpa[zN] using h2
end
def Go1(p:List Ins)(d:GData)(at':Nat)(a r:Int):Prop:=∀(n:Nat) (m:Mac) (bh:Int) (L:List Nat),m.a=a->m.over=false->p.length<at'+n->(qgj p d n m at' bh L).1=r∧(qgj p d n m at' bh L).2.2.2=0
section
variable {p:List Ins} {d:GData} {q:Nat} {a r k:Int}
theorem qmw{i:Ins}(h:p[q]?=some i):q<p.length:=(zzS.1 h).1
theorem qi0{i:Ins}(h:p[q]?=some i){m:Mac}{n:Nat}{bh:Int}{L:List Nat}(he:(doR m i d).2.2=0)(ho:(doR m i d).1.over=false) :
  qgj p d (n+1) m q bh L=qgj p d n (doR m i d).1 (q+1+(doR m i d).2.1.toNat) (if qn i.code=4 then 42 else 46) (L++[q]):=by
 rw[qib,h];simp only[he,ho,ne_eq,not_true,if_false,Bool.false_eq_true]
theorem qDk(h:p[q]?=some ⟨32,0,0,k⟩)(hk:k % 4=0∧0<=k∧k<64)(hn:Go1 p d (q+1) (wdD d k) r):Go1 p d q a r:=by
 intro n m bh L ha ho hl;have hq:=qmw h;obtain⟨n,rfl⟩:∃n',n=n'+1:=⟨n-1,by omega⟩
 have e:doR m ⟨32,0,0,k⟩ d=({ m with a:=wdD d k },0,0):=by
  have e1:z5 32=true:=by decide
  have e2:qn 32=1:=by decide
  simp only[doR,e1,e2,qgv,qlI];simp[hk.1,show ¬64<=k from by omega,wdD]
 rw[qi0 h (by rw[e]) (by rw[e];exact ho),e];exact hn n _ _ _ rfl ho (by omega)
theorem qDj(h:p[q]?=some ⟨84,0,0,k⟩)(hn:Go1 p d (q+1) (jq .u32 a k) r):Go1 p d q a r:=by
 intro n m bh L ha ho hl;have hq:=qmw h;obtain⟨n,rfl⟩:∃n',n=n'+1:=⟨n-1,by omega⟩
 have e:doR m ⟨84,0,0,k⟩ d=({ m with a:=jq .u32 a k },0,0):=by
  have e1:z5 84=true:=by decide
  have e2:qn 84=3:=by decide
  have e3:zT 84=false:=by decide
  simp only[doR,e1,e2,nuM,qO,zw,e3];simp[opM,ha]
 rw[qi0 h (by rw[e]) (by rw[e];exact ho),e];exact hn n _ _ _ rfl ho (by omega)
theorem qDl(h:p[q]?=some ⟨6,0,0,k⟩):Go1 p d q a k:=by
 intro n m bh L ha ho hl;have hq:=qmw h;obtain⟨n,rfl⟩:∃n',n=n'+1:=⟨n-1,by omega⟩
 have e:doR m ⟨6,0,0,k⟩ d=({ m with over:=true,told:=k },0,0):=by
  have e1:z5 6=true:=by decide
  have e2:qn 6=5:=by decide
  simp only[doR,e1,e2,qpO];simp
 rw[qib,h];simp[e]
theorem qsW(h:p[q]?=some ⟨5,0,0,k⟩)(hn:Go1 p d (q+1+k.toNat) a r):Go1 p d q a r:=by
 intro n m bh L ha ho hl;have hq:=qmw h;obtain⟨n,rfl⟩:∃n',n=n'+1:=⟨n-1,by omega⟩
 have e:doR m ⟨5,0,0,k⟩ d=(m,k,0):=by
  have e1:z5 5=true:=by decide
  have e2:qn 5=4:=by decide
  simp only[doR,e1,e2,qix];simp
 rw[qi0 h (by rw[e]) (by rw[e];exact ho),e];exact hn n _ _ _ ha ho (by omega)
theorem qx7{c jt jf:Int}(hc:qd3 c)(h:p[q]?=some ⟨c,jt,jf,k⟩)(hn:Go1 p d (q+1+(if qaI c a k=true then jt else jf).toNat) a r):Go1 p d q a r:=by
 intro n m bh L ha ho hl;have hq:=qmw h;obtain⟨n,rfl⟩:∃n',n=n'+1:=⟨n-1,by omega⟩
 have e:doR m ⟨c,jt,jf,k⟩ d=(m,if qaI c a k=true then jt else jf,0):=by
  have e1:z5 c=true:=by rcases hc with rfl|rfl|rfl|rfl<;>decide
  have e2:=(qae hc).1;have e3:zT c=false:=by rcases hc with rfl|rfl|rfl|rfl<;>decide
  have e4:=(qae hc).2.1;simp only[doR,e1,e2,qix,e4,qO,zw,e3,ha];simp
 rw[qi0 h (by rw[e]) (by rw[e];exact ho),e];exact hn n _ _ _ ha ho (by omega)
end
section
variable {l:List Sy} {d:GData} {r:Int}
def bl(l:List Sy)(m:Nat):Nat:=(zb l m).1.length
theorem qhu{m:Nat}{x:Sy}(h:l[l.length-(m+1)]?=some x):zb l (m+1)=((zb l m).1++(jG (bl l m) (zb l m).2 x).reverse,(zb l m).2.set (l.length-(m+1)) (bl l (m+1))):=by
 have e:zb l (m+1)=((zb l m).1++(jG (zb l m).1.length (zb l m).2 x).reverse,(zb l m).2.set (l.length-(m+1)) ((zb l m).1++(jG (zb l m).1.length (zb l m).2 x).reverse).length):=by
  conv=>lhs;unfold zb
  rw[h]
 have e2:bl l (m+1)=((zb l m).1++(jG (zb l m).1.length (zb l m).2 x).reverse).length:=by unfold bl;rw[e]
 rw[e2];exact e
theorem qrZ{m m':Nat}(h:m<=m'):∃R,(zb l m').1=(zb l m).1++R:=by
 induction m' with
 | zero=>rw[Nat.le_zero.1 h];exact⟨[],by simp⟩
 | succ m' ih =>
  rcases Nat.lt_or_ge m' m with q|q
  ·rw[show m=m'+1 by omega];exact⟨[],by simp⟩
  ·obtain⟨R,hR⟩:=ih q;cases hx:l[l.length-(m'+1)]? with
   | none =>
    refine⟨R,?_⟩
    conv=>lhs;unfold zb
    rw[hx];exact hR
   | some x=>rw[qhu hx];exact⟨R++_,by rw[hR,List.append_assoc]⟩
theorem qg6{m m':Nat}(h:m<=m'):bl l m<=bl l m':=by
 obtain⟨R,hR⟩:=qrZ (l:=l) h;unfold bl;rw[hR,List.length_append];omega
theorem qCT{m:Nat}(hm:m<=l.length){j:Nat}(h1:l.length-m<=j)(h2:j<l.length):(zb l m).2.getD j 0=bl l (l.length-j):=by
 induction m with
 | zero=>omega
 | succ m ih =>
  have hx:l[l.length-(m+1)]?=some l[l.length-(m+1)]:=zzE (by omega);rw[qhu hx,List.getD_eq_getElem?_getD,List.getElem?_set]
  by_cases e:l.length-(m+1)=j
  ·rw[if_pos e,if_pos (by rw[(qf1 m).1];omega)]
   rw[show l.length-j=m+1 by omega];rfl
  ·rw[if_neg e,← List.getD_eq_getElem?_getD];exact ih (by omega) (by omega)
def plL(l:List Sy)(j:Nat):Nat:=bl l l.length-bl l (l.length-j)
def cdL(l:List Sy)(j:Nat)(x:Sy):List Ins:=jG (bl l (l.length-(j+1))) (zb l (l.length-(j+1))).2 x
theorem qjK:(xu l).length=bl l l.length:=by unfold xu bl;rw[List.length_reverse]
theorem qf0{j:Nat}{x:Sy}(hx:l[j]?=some x):bl l (l.length-j)=bl l (l.length-(j+1))+(cdL l j x).length∧∃A B,xu l=A++cdL l j x++B∧A.length=plL l j∧B.length=bl l (l.length-(j+1)):=by
 have hj:=(zzS.1 hx).1;have hx2:l[l.length-(l.length-(j+1)+1)]?=some x:=by rw[show l.length-(l.length-(j+1)+1)=j by omega];exact hx
 have h:=qhu hx2;have hm:l.length-(j+1)+1=l.length-j:=by omega
 rw[hm] at h;have h1:(zb l (l.length-j)).1=(zb l (l.length-(j+1))).1++(cdL l j x).reverse:=by rw[h];rfl
 obtain⟨R,hR⟩:=qrZ (l:=l) (m:=l.length-j) (m':=l.length) (by omega);have hb:bl l (l.length-j)=bl l (l.length-(j+1))+(cdL l j x).length:=by unfold bl;rw[h1,List.length_append,List.length_reverse]
 refine⟨hb,R.reverse,(zb l (l.length-(j+1))).1.reverse,?_,?_,?_⟩
 ·unfold xu;rw[hR,h1];simp
 ·unfold plL bl;rw[hR,List.length_append,List.length_reverse];omega
 ·rw[List.length_reverse];rfl
theorem qcB{j:Nat}{x:Sy}(hx:l[j]?=some x){i:Nat}{y:Ins}(hy:(cdL l j x)[i]?=some y):(xu l)[plL l j+i]?=some y:=by
 obtain⟨_,A,B,h1,h2,_⟩:=qf0 hx;rw[h1,← h2,List.append_assoc,List.getElem?_append_right (by omega),Nat.add_sub_cancel_left,List.getElem?_append_left (zzS.1 hy).1];exact hy
def dsL(l:List Sy)(j t:Nat):Nat:=bl l (l.length-(j+1))-bl l (l.length-t)
theorem qgo{j t:Nat}(h1:j<t)(h2:t<l.length):bl l (l.length-(j+1))-(zb l (l.length-(j+1))).2.getD t 0=dsL l j t:=by
 rw[qCT (by omega) (by omega) h2];rfl
theorem qhz{j:Nat}{x:Sy}(hx:l[j]?=some x){t:Nat}(h1:j<t):plL l j+(cdL l j x).length+dsL l j t=plL l t:=by
 have hb:=(qf0 hx).1;have b1:=qg6 (l:=l) (m:=l.length-j) (m':=l.length) (by omega);have b2:=qg6 (l:=l) (m:=l.length-t) (m':=l.length-(j+1)) (by omega);unfold plL dsL;omega
theorem qC7{j:Nat}:dsL l j (j+1)=0:=by unfold dsL;omega
theorem qwj(h:MayL l):∀{j:Nat} {a:Int},Ev l d j a r->Go1 (xu l) d (plL l j) a r:=by
 intro j a he
 induction he with
 | ld j a r x hx hc _ ih =>
  have hm:=h.all j x hx
  have hk:x.k % 4=0∧0<=x.k∧x.k<64:=by
   rcases hm with q|⟨q,_⟩|⟨q,_⟩|⟨q,_⟩
   ·exact q.2.2.2
   ·omega
   ·omega
   ·unfold qd3 at q;omega
  have e:cdL l j x=[⟨32,0,0,x.k⟩]:=by unfold cdL jG;rw[hc,if_neg (by decide),if_pos (by decide)]
  have hn:=qhz hx (t:=j+1) (by omega);rw[qC7,e] at hn;simp only[List.length_singleton,Nat.add_zero] at hn;exact qDk (qcB hx (i:=0) (by rw[e];rfl)) hk (by rw[Nat.add_zero,hn];exact ih)
 | an j a r x hx hc _ ih =>
  have e:cdL l j x=[⟨84,0,0,x.k⟩]:=by unfold cdL jG;rw[hc,if_neg (by decide),if_pos (by decide)]
  have hn:=qhz hx (t:=j+1) (by omega);rw[qC7,e] at hn;simp only[List.length_singleton,Nat.add_zero] at hn;exact qDj (qcB hx (i:=0) (by rw[e];rfl)) (by rw[Nat.add_zero,hn];exact ih)
 | rt j a x hx hc =>
  have e:cdL l j x=[⟨6,0,0,x.k⟩]:=by unfold cdL jG;rw[hc,if_neg (by decide),if_pos (by decide)]
  exact qDl (qcB hx (i:=0) (by rw[e];rfl))
 | ja j a r x hx hc _ ih =>
  have hm:=(h.all j x hx).ja hc;have e:cdL l j x=[⟨5,0,0,(dsL l j x.th:Nat)⟩]:=by unfold cdL jG;rw[if_pos hc,qgo hm.2.2.1 hm.2.2.2]
  have hn:=qhz hx hm.2.2.1;rw[e] at hn;simp only[List.length_singleton] at hn;exact qsW (qcB hx (i:=0) (by rw[e];rfl)) (by rw[Nat.add_zero,Int.toNat_natCast,hn];exact ih)
 | jc j a r x hx hc _ ih =>
  have hm:=(h.all j x hx).jc hc;have hk:=qae hc;have n1:=qhz hx hm.1;have n2:=qhz hx hm.2.2.1
  by_cases hf:max (dsL l j x.th) (dsL l j x.el)<=255
  ·have e:cdL l j x=[⟨x.code,(dsL l j x.th:Nat),(dsL l j x.el:Nat),x.k⟩]:=by
    unfold cdL jG;rw[if_neg hk.2.1,if_neg (fun q=>q hk.1),qgo hm.1 hm.2.1,qgo hm.2.2.1 hm.2.2.2,if_pos hf]
   rw[e] at n1 n2;simp only[List.length_singleton] at n1 n2;refine qx7 hc (qcB hx (i:=0) (by rw[e];rfl)) ?_
   by_cases q:qaI x.code a x.k=true
   ·rw[if_pos q] at ih ⊢;rw[Nat.add_zero,Int.toNat_natCast,n1];exact ih
   ·rw[if_neg q] at ih ⊢;rw[Nat.add_zero,Int.toNat_natCast,n2];exact ih
  ·have e:cdL l j x=[⟨x.code,0,1,x.k⟩,⟨5,0,0,(dsL l j x.th+1:Nat)⟩,⟨5,0,0,(dsL l j x.el:Nat)⟩]:=by
    unfold cdL jG;rw[if_neg hk.2.1,if_neg (fun q=>q hk.1),qgo hm.1 hm.2.1,qgo hm.2.2.1 hm.2.2.2,if_neg hf]
   rw[e] at n1 n2;simp only[List.length_cons,List.length_nil] at n1 n2;refine qx7 hc (qcB hx (i:=0) (by rw[e];rfl)) ?_
   by_cases q:qaI x.code a x.k=true
   ·rw[if_pos q] at ih ⊢;refine qsW (k:=((dsL l j x.th+1:Nat):Int)) (qcB hx (i:=1) (y:=⟨5,0,0,(dsL l j x.th+1:Nat)⟩) (by rw[e];rfl)) ?_;rw[Int.toNat_natCast];have e2:plL l j+0+1+(0:Int).toNat+1+(dsL l j x.th+1)=plL l x.th:=by simp;omega
    rw[e2];exact ih
   ·rw[if_neg q] at ih ⊢;refine qsW (k:=((dsL l j x.el:Nat):Int)) (qcB hx (i:=2) (y:=⟨5,0,0,(dsL l j x.el:Nat)⟩) (by rw[e];rfl)) ?_;rw[Int.toNat_natCast];have e2:plL l j+0+1+(1:Int).toNat+1+dsL l j x.el=plL l x.el:=by simp;omega
    rw[e2];exact ih
theorem qqQ(h:MayL l)(he:Ev l d 0 0 r):(ql3 (xu l) d).1=r∧(ql3 (xu l) d).2.2.2=0:=by
 have:=qwj h he;have e:plL l 0=0:=by unfold plL;rw[Nat.sub_zero];omega
 rw[e] at this;exact this _ _ _ _ rfl rfl (by omega)
end
def qbv(l:List Sy):Prop:=∀x ∈ l,0<=x.k∧x.k<=4294967295
section
variable {l:List Sy}
theorem qxr(h:qbv l):qbv (qeq l):=by
 intro x hx;unfold qeq at hx;obtain⟨y,hy,rfl⟩:=List.mem_map.1 hx;exact h y hy
theorem qmh(h:qbv l):∀m,qbv (qer l m)
 | 0=>h
 | m+1=>by
  unfold qer;split
  ·rename_i x hx;intro y hy;rcases List.mem_or_eq_of_mem_set hy with hy|rfl
   ·exact qmh h m y hy
   ·have hk:=h x (zzM hx);unfold qbd;split
    ·exact⟨Int.le_refl 0,show (0:Int)<=4294967295 by decide⟩
    ·exact hk
  ·exact qmh h m
theorem qwW(h:qbv l):qbv (qeO l):=by
 intro x hx;unfold qeO qfC at hx;obtain⟨q,hq⟩:=List.getElem?_of_mem hx;obtain⟨p,_,h2,_⟩:=qjc hq;rw[List.getElem?_map] at h2;obtain⟨y,hy,rfl⟩:=Option.map_eq_some_iff.1 h2;exact qmh (qxr h) _ y (zzM hy)
theorem qoI(h:MayL l):∀{m:Nat},m<=l.length->∀{b:Nat} {i:Ins},(zb l m).1[b]?=some i->∃(j:Nat) (x:Sy) (e:Nat),l[j]?=some x∧(cdL l j x)[e]?=some i∧b+e+1=bl l (l.length-j)
 | 0,_,b,i,hb=>by simp[zb] at hb
 | m+1,hm,b,i,hb=>by
  have hx:l[l.length-(m+1)]?=some l[l.length-(m+1)]:=zzE (by omega);have hs:=qhu hx;have hcd:cdL l (l.length-(m+1)) l[l.length-(m+1)]=jG (bl l m) (zb l m).2 l[l.length-(m+1)]:=by unfold cdL;rw[show l.length-(l.length-(m+1)+1)=m by omega]
  have h1:(zb l (m+1)).1=(zb l m).1++(cdL l (l.length-(m+1)) l[l.length-(m+1)]).reverse:=by rw[hs,hcd]
  rw[h1,List.getElem?_append] at hb;split at hb
  ·exact qoI h (by omega) hb
  ·rename_i hlt;have hbl:(zb l m).1.length=bl l m:=rfl;rw[hbl] at hlt hb;have hc:=(qf0 hx).1;rw[show l.length-(l.length-(m+1))=m+1 by omega,show l.length-(l.length-(m+1)+1)=m by omega] at hc
   have hlen:=(zzS.1 hb).1;rw[List.length_reverse] at hlen;rw[List.getElem?_reverse hlen] at hb;exact⟨_,_,_,hx,hb,by rw[show l.length-(l.length-(m+1))=m+1 by omega];omega⟩
theorem qtf(h:MayL l){k:Nat}{i:Ins}(hk:(xu l)[k]?=some i):∃(j:Nat) (x:Sy) (e:Nat),l[j]?=some x∧(cdL l j x)[e]?=some i∧(xu l).length-1-k+e+1=bl l (l.length-j):=by
 have hl:=(zzS.1 hk).1;have e:=hk;unfold xu at e;rw[List.getElem?_reverse (by unfold xu at hl;simpa using hl)] at e;obtain⟨j,x,e,h1,h2,h3⟩:=qoI h (Nat.le_refl _) e;refine⟨j,x,e,h1,h2,?_⟩;rw[qjK];exact h3
structure LkOk (i:Ins) (n:Nat):Prop where
 ok:InsOk i
 one:qgT i n=0
 c:i.code≠96∧i.code≠97
theorem qlt(h:MayL l){t:Nat}(ht:t<l.length):0<bl l (l.length-t):=by
 have hx:l[t]?=some l[t]:=zzE ht;have h1:=(qf0 hx).1;have h2:=(qni (n:=bl l (l.length-(t+1))) (pl:=(zb l (l.length-(t+1))).2) (x:=l[t])).2;have:(cdL l t l[t]).length=(jG (bl l (l.length-(t+1))) (zb l (l.length-(t+1))).2 l[t]).length:=rfl;omega
theorem qpc{c k:Int}{n:Nat}(hc:c=32∧k % 4=0∧k<64∨c=84∨c=6)(hk:0<=k∧k<=4294967295):LkOk ⟨c,0,0,k⟩ n:=by
 have hc2:c=32∨c=84∨c=6:=by rcases hc with h|h|h<;>simp[h]
 have b1:z5 c=true:=by rcases hc2 with rfl|rfl|rfl<;>decide
 have b2:qn c≠2∧qn c≠4:=by rcases hc2 with rfl|rfl|rfl<;>decide
 refine⟨⟨show (0:Int)<=c by omega,show c<=65535 by omega,Int.le_refl 0,show (0:Int)<=255 by decide,Int.le_refl 0,show (0:Int)<=255 by decide,hk.1,hk.2⟩,?_,show c≠96∧c≠97 by omega⟩
 have a1:qjk ⟨c,0,0,k⟩=false:=by simp[qjk,b1]
 have a2:qaZ ⟨c,0,0,k⟩=false:=by
  rcases hc with⟨h1,h2,h3⟩|h|h
  ·simp[qaZ,h2,show ¬64<=k from by omega]
  ·simp[qaZ,h]
  ·simp[qaZ,h]
 have a3:qcn ⟨c,0,0,k⟩=false:=by simp[qcn,b2.1,show c≠96 from by omega,show c≠97 from by omega]
 have a4:qco ⟨c,0,0,k⟩=false:=by simp[qco,show c≠52 from by omega]
 have a5:qcp ⟨c,0,0,k⟩=false:=by simp[qcp,show c≠100 from by omega,show c≠116 from by omega]
 have a6:qcq ⟨c,0,0,k⟩ n=false:=by simp[qcq,b2.2,show c≠5 from by omega]
 simp[qgT,a1,a2,a3,a4,a5,a6]
theorem qtk{k n:Nat}(h:k<n)(hn:k<=1000000):LkOk ⟨5,0,0,(k:Int)⟩ n:=by
 refine⟨⟨show (0:Int)<=5 by decide,show (5:Int)<=65535 by decide,Int.le_refl 0,show (0:Int)<=255 by decide,Int.le_refl 0,show (0:Int)<=255 by decide,show (0:Int)<=k by omega,show (k:Int)<=4294967295 by omega⟩,?_,show (5:Int)≠96∧(5:Int)≠97 by decide⟩
 have a1:qjk ⟨5,0,0,k⟩=false:=by
  have:z5 5=true:=by decide
  simp[qjk,this]
 have a2:qaZ ⟨5,0,0,k⟩=false:=by simp[qaZ]
 have a3:qcn ⟨5,0,0,k⟩=false:=by
  have:qn 5≠2:=by decide
  simp[qcn,this]
 have a4:qco ⟨5,0,0,k⟩=false:=by simp[qco]
 have a5:qcp ⟨5,0,0,k⟩=false:=by simp[qcp]
 have a6:qcq ⟨5,0,0,k⟩ n=false:=by simp[qcq];omega
 simp[qgT,a1,a2,a3,a4,a5,a6]
theorem qyc{c k:Int}{jt jf n:Nat}(hc:qd3 c)(hk:0<=k∧k<=4294967295)(h1:jt<=255)(h2:jf<=255)(h3:jt<n)(h4:jf<n):LkOk ⟨c,jt,jf,k⟩ n:=by
 have b1:z5 c=true:=by rcases hc with rfl|rfl|rfl|rfl<;>decide
 have b2:qn c≠2:=by rw[(qae hc).1];decide
 have b3:c≠32∧c≠96∧c≠97∧c≠52∧c≠100∧c≠116∧c≠5∧0<=c∧c<=65535:=by rcases hc with rfl|rfl|rfl|rfl<;>decide
 refine⟨⟨b3.2.2.2.2.2.2.2.1,b3.2.2.2.2.2.2.2.2,by simp only;omega,by simp only;omega,by simp only;omega,by simp only;omega,hk.1,hk.2⟩,?_,⟨b3.2.1,b3.2.2.1⟩⟩
 have a1:qjk ⟨c,jt,jf,k⟩=false:=by simp[qjk,b1]
 have a2:qaZ ⟨c,jt,jf,k⟩=false:=by simp[qaZ,b3.1]
 have a3:qcn ⟨c,jt,jf,k⟩=false:=by simp[qcn,b2,b3.2.1,b3.2.2.1]
 have a4:qco ⟨c,jt,jf,k⟩=false:=by simp[qco,b3.2.2.2.1]
 have a5:qcp ⟨c,jt,jf,k⟩=false:=by simp[qcp,b3.2.2.2.2.1,b3.2.2.2.2.2.1]
 have a6:qcq ⟨c,jt,jf,k⟩ n=false:=by
  have:¬(n:Int)<=hiM ⟨c,jt,jf,k⟩:=by unfold hiM;simp only;split<;>omega
  simp only[qcq,if_neg b3.2.2.2.2.2.2.1,this,decide_false,Bool.and_false]
 simp[qgT,a1,a2,a3,a4,a5,a6]
theorem qlO(h:MayL l)(hr:qbv l){k:Nat}{i:Ins}(hk:(xu l)[k]?=some i):LkOk i ((xu l).length-1-k):=by
 obtain⟨j,x,e,hx,he,hb⟩:=qtf h hk;have hm:=h.all j x hx;have hxr:=hr x (zzM hx);have hbl:=(qf0 hx).1;have hbig:bl l (l.length-j)<=3*l.length:=Nat.le_trans (qf1 (l:=l) (l.length-j)).2.2 (by omega);have hbig2:=h.big
 have one:∀{y:Ins},cdL l j x=[y]->i=y∧(xu l).length-1-k=bl l (l.length-(j+1)):=fun {y} hy=>by
  rw[hy] at he hbl;cases e with
  | zero=>simp at he;simp at hbl;exact⟨he.symm,by omega⟩
  | succ e=>simp at he
 rcases hm with⟨q,_,_,q1,q2,q3⟩|⟨q,_⟩|⟨q,_,_,q3,q4⟩|⟨q,q1,q2,q3,q4⟩
 ·obtain⟨e1,_⟩:=one (y:=⟨x.code,0,0,x.k⟩) (by unfold cdL jG;rw[q,if_neg (by decide),if_pos (by decide)])
  rw[e1];exact qpc (.inl ⟨q,q1,q3⟩) hxr
 ·obtain⟨e1,_⟩:=one (y:=⟨x.code,0,0,x.k⟩) (by unfold cdL jG;rcases q with q|q<;>rw[q,if_neg (by decide),if_pos (by decide)])
  rw[e1];exact qpc (.inr q) hxr
 ·obtain⟨e1,e2⟩:=one (y:=⟨5,0,0,(dsL l j x.th:Nat)⟩) (by unfold cdL jG;rw[if_pos q,qgo q3 q4]);have hp:=qlt h q4;have hmn:=qg6 (l:=l) (m:=l.length-x.th) (m':=l.length-(j+1)) (by omega);rw[e1,e2];unfold dsL;exact qtk (by omega) (by omega)
 ·have hp:=qlt h q2;have hp2:=qlt h q4;have hmn:=qg6 (l:=l) (m:=l.length-x.th) (m':=l.length-(j+1)) (by omega);have hmn2:=qg6 (l:=l) (m:=l.length-x.el) (m':=l.length-(j+1)) (by omega);have hkk:=qae q;have d1:dsL l j x.th<bl l (l.length-(j+1)):=by unfold dsL;omega
  have d2:dsL l j x.el<bl l (l.length-(j+1)):=by unfold dsL;omega
  by_cases hf:max (dsL l j x.th) (dsL l j x.el)<=255
  ·obtain⟨e1,e2⟩:=one (y:=⟨x.code,(dsL l j x.th:Nat),(dsL l j x.el:Nat),x.k⟩) (by
    unfold cdL jG;rw[if_neg hkk.2.1,if_neg (fun z=>z hkk.1),qgo q1 q2,qgo q3 q4,if_pos hf])
   rw[e1,e2];exact qyc q hxr (by omega) (by omega) d1 d2
  ·have e3:cdL l j x=[⟨x.code,0,1,x.k⟩,⟨5,0,0,(dsL l j x.th+1:Nat)⟩,⟨5,0,0,(dsL l j x.el:Nat)⟩]:=by
    unfold cdL jG;rw[if_neg hkk.2.1,if_neg (fun z=>z hkk.1),qgo q1 q2,qgo q3 q4,if_neg hf]
   rw[e3] at he hbl;simp only[List.length_cons,List.length_nil] at hbl
   match e,he,hb with
   | 0,he,hb =>
    simp at he;subst he;exact qyc (jt:=0) (jf:=1) q hxr (by omega) (by omega) (by omega) (by omega)
   | 1,he,hb =>
    simp only[List.getElem?_cons_succ,List.getElem?_cons_zero,Option.some.injEq] at he;subst he;exact qtk (by omega) (by omega)
   | 2,he,hb =>
    simp only[List.getElem?_cons_succ,List.getElem?_cons_zero,Option.some.injEq] at he;subst he;exact qtk (by omega) (by omega)
   | e+3,he,hb=>simp at he
theorem qqO(h:MayL l):qkX (xu l)=6:=by
 obtain⟨s,hs,h6⟩:=h.last;have hp:=h.pos;obtain⟨hb,A,B,h1,h2,h3⟩:=qf0 hs;have e:cdL l (l.length-1) s=[⟨6,0,0,s.k⟩]:=by unfold cdL jG;rw[h6,if_neg (by decide),if_pos (by decide)]
 have hB:B=[]:=by
  apply List.eq_nil_of_length_eq_zero;rw[h3,show l.length-(l.length-1+1)=0 by omega];rfl
 rw[e,hB,List.append_nil] at h1;unfold qkX;rw[h1];simp
theorem qth(h:MayL l):0<(xu l).length:=by
 rw[qjK];have:=qlt h h.pos;simpa using this
theorem qtg:(xu l).length<=3*l.length:=by rw[qjK];exact (qf1 (l:=l) l.length).2.2
theorem qqN(h:MayL l)(hr:qbv l)(hl:(xu l).length<=4096):PrgGood (xu l) :=
 ⟨hl,by have:=qth h;omega,fun i hi=>by obtain⟨k,hk⟩:=List.getElem?_of_mem hi;exact (qlO h hr hk).ok,fun k i hk=>(qlO h hr hk).one,by rw[qqO h];decide⟩
-- no cell is read
theorem qBG{i:Ins}(hi:i.code≠96∧i.code≠97){x:BitVec 16}{j:Nat}{L:List Nat}:qBF i x j L=L:=by
 unfold qBF;simp[rdM,hi.1,hi.2]
theorem qyt{n:Nat}:∀{p:List Ins} {j:Nat} {st:WSt},(∀i ∈ p,i.code≠96∧i.code≠97)->(wkM n j p st).1=st.1
 | [],_,_,_=>rfl
 | i::p,j,st,h=>by
  unfold wkM;rw[qyt (fun y hy=>h y (List.mem_cons_of_mem _ hy))]
  unfold stM;split
  ·exact qBG (h i (List.mem_cons_self ..))
  ·rfl
theorem quH{rch:List Bool}{sur:List (BitVec 16)}:∀{p:List Ins} {j:Nat} {L:List Nat},(∀i ∈ p,i.code≠96∧i.code≠97)->qig rch sur j p L=L
 | [],_,_,_=>rfl
 | i::p,j,L,h=>by
  unfold qig;have hi:=h i (List.mem_cons_self ..);rw[quH (fun y hy=>h y (List.mem_cons_of_mem _ hy)),if_neg (by simp[unC,rdC,hi.1,hi.2])]
theorem qmy{n:Nat}:∀{p:List Ins} {j:Nat},(∀(k:Nat) i,p[k]?=some i->qgT i (n-1-(j+k))=0)->qil n j p=none
 | [],_,_=>rfl
 | i::p,j,h=>by
  rw[qjl,if_pos (by simpa using h 0 i rfl)];exact qmy fun k i hk=>by have:=h (k+1) i (by simpa using hk);rw[show j+1+k=j+(k+1) by omega];exact this
theorem qvW{p:List Ins}(h:PrgGood p):atU p []=(0,0):=by
 unfold atU;rw[if_neg (by have:=h.ne;have:=h.len;omega),qmy (fun k i hk=>by rw[Nat.zero_add];exact h.one k i hk)]
 simp[h.last]
theorem qti(h:MayL l)(hr:qbv l):qEd (xu l)=[]∧qiQ (xu l)=[]:=by
 have hc:∀i ∈ xu l,i.code≠96∧i.code≠97:=fun i hi=>by obtain⟨k,hk⟩:=List.getElem?_of_mem hi;exact (qlO h hr hk).c
 exact⟨qyt hc,quH hc⟩
end
structure FilU (x:GFil):Prop where
 d:0<=x.dflt∧x.dflt<=4294967295
 r:∀r ∈ x.rules,0<=r.act∧r.act<=4294967295
 t:∀r ∈ x.rules,∀t ∈ r.tests,0<=t.act∧t.act<=4294967295
theorem qbv.app{a b:List Sy}(h1:qbv a)(h2:qbv b):qbv (a++b):=fun x hx=>by
 rcases List.mem_append.1 hx with h|h
 ·exact h1 x h
 ·exact h2 x h
theorem qbv.nil:qbv []:=fun x hx=>by cases hx
theorem qbv.cons{s:Sy}{l:List Sy}(h1:0<=s.k∧s.k<=4294967295)(h2:qbv l):qbv (s::l):=fun x hx=>by
 rcases List.mem_cons.1 hx with rfl|h
 ·exact h1
 ·exact h2 x h
theorem r0:(0:Int)<=0∧(0:Int)<=4294967295:=⟨by decide,by decide⟩
theorem qm5{a m v:Int}{p F:Nat}(ha:0<=a∧a<=4294967295)(hm:0<=m∧m<=4294967295)(hv:0<=v∧v<=4294967295):qbv (qdh a m v p F):=by
 unfold qdh;split
 ·exact .nil
 ·split
  ·exact .cons ha (.cons hv .nil)
  ·exact .cons ha (.cons hm (.cons hv .nil))
theorem qDD{x:Int}(h0:0<=x)(h1:x<18446744073709551616):(0<=loW x∧loW x<=4294967295)∧0<=hiW x∧hiW x<=4294967295:=by
 unfold loW hiW;omega
theorem qux{t:GTest}{p:Nat}(ht:TstOk t)(ha:0<=t.act∧t.act<=4294967295):qbv (qgA t p):=by
 have h1:=qDD ht.m0 ht.m1;have h2:=qDD ht.v0 ht.v1;have a0:=ht.a0;have a1:=ht.a1;exact ((qm5 (by omega) h1.1 h2.1).app (qm5 (by omega) h1.2 h2.2)).app (.cons ha .nil)
theorem qll:∀{ts:List GTest} {a:Int} {p:Nat},(∀t ∈ ts,TstOk t∧0<=t.act∧t.act<=4294967295)->(0<=a∧a<=4294967295)->qbv (qch ts a p)
 | [],a,p,_,ha=>.cons ha .nil
 | t::ts,a,p,h,ha=>by
  have ht:=h t (List.mem_cons_self ..);unfold qch;refine (qux ht.1 ht.2).app ?_;split
  ·exact .nil
  ·exact qll (fun y hy=>h y (List.mem_cons_of_mem _ hy)) ha
theorem qld:∀{rs:List GRule} {p:Nat},(∀r ∈ rs,(0<=r.act∧r.act<=4294967295)∧∀t ∈ r.tests,TstOk t∧0<=t.act∧t.act<=4294967295)->qbv (zJ rs p)
 | [],_,_=>.nil
 | r::rs,p,h=>by
  have hr:=h r (List.mem_cons_self ..);unfold zJ;exact (qll hr.2 hr.1).app (qld fun y hy=>h y (List.mem_cons_of_mem _ hy))
theorem qxG{a:Int}(h0:0<=a)(h6:a<6):0<=qhL a∧qhL a<=4294967295:=by
 have:a=0∨a=1∨a=2∨a=3∨a=4∨a=5:=by omega
 rcases this with rfl|rfl|rfl|rfl|rfl|rfl<;>decide
theorem qwX{a:Int}{p F:Nat}(h0:0<=a)(h6:a<6):qbv (qa9 a p F):=by
 unfold qa9;have hb:(0:Int)<=1073741824∧(1073741824:Int)<=4294967295:=⟨by decide,by decide⟩
 refine qbv.app (.cons ⟨show (0:Int)<=4 by decide,show (4:Int)<=4294967295 by decide⟩ (.cons (qxG h0 h6) (.cons r0 .nil))) ?_
 split
 ·exact .cons hb .nil
 ·split
  ·exact .cons hb .nil
  ·exact .nil
theorem qn1{FW:Nat->Nat}{T:List Nd}{p:Nat}(h:∀n ∈ T,0<=n.at'∧n.at'<=4294967295):qbv (z7 FW T p):=by
 unfold z7;refine qbv.app ?_ ?_
 ·cases T with
  | nil=>exact .nil
  | cons n T =>
   show qbv (if n.leaf=true then [⟨5,0,FW n.way,0⟩] else [])
   split
   ·exact .cons (s:=⟨5,0,_,0⟩) r0 .nil
   ·exact .nil
 ·unfold brE;intro x hx;obtain⟨n,hn,hx⟩:=List.mem_flatMap.1 hx;unfold qh5 at hx;split at hx
  ·cases hx
  ·rw[List.mem_singleton] at hx;rw[hx];exact h n hn
theorem qxH(n:Nat):∀(l:List Sp) (a:Nat),l.length<=n->SpR l->∀nd ∈ zq l a,0<=nd.at'∧nd.at'<4294967296:=by
 induction n with
 | zero =>
  intro l a h1 _ nd hnd;rw[List.eq_nil_of_length_eq_zero (Nat.le_zero.1 h1),zq,dif_pos (show ([]:List Sp).length / 2=0 from rfl),List.mem_singleton] at hnd
  subst hnd;exact⟨Int.le_refl 0,show (0:Int)<4294967296 by decide⟩
 | succ n ih =>
  intro l a h1 hr nd hnd;rw[zq] at hnd
  by_cases hk:l.length / 2=0
  ·rw[dif_pos hk,List.mem_singleton] at hnd;subst hnd;exact⟨Int.le_refl 0,show (0:Int)<4294967296 by decide⟩
  ·rw[dif_neg hk] at hnd;rcases List.mem_cons.1 hnd with rfl|hnd
   ·have hlt:l.length / 2<l.length:=by omega
    have:=hr _ (List.getElem_mem hlt);simp only[List.getD_eq_getElem?_getD,zzE hlt,Option.getD_some];exact⟨this.1,this.2.1⟩
   ·rcases List.mem_append.1 hnd with hnd|hnd
    ·exact ih (l.take (l.length / 2)) _ (by simp;omega) (fun s hs=>hr s (List.mem_of_mem_take hs)) nd hnd
    ·exact ih (l.drop (l.length / 2)) _ (by simp;omega) (fun s hs=>hr s (List.mem_of_mem_drop hs)) nd hnd
section
variable {x:GFil}
theorem qmK(h:FilG x)(hu:FilU x):qbv (qW x):=by
 unfold qW;refine (((qbv.app (qwX h.a0 h.a6) (qn1 fun n hn=>?_)).app (.cons hu.d .nil)).app (qld fun r hr=>⟨hu.r r hr,fun t ht=>⟨(h.ts r hr t ht).ok,hu.t r hr t ht⟩⟩)).app (.cons ⟨show (0:Int)<=2147418112 by decide,show (2147418112:Int)<=4294967295 by decide⟩ .nil)
 have:=qxH _ _ 0 (Nat.le_refl _) (qhS h.spans.1 (Int.le_refl 0) (Int.le_refl _)) n hn;omega
def szF(x:GFil):Nat:=10+(x.rules.map fun r=>3+7*r.tests.length).sum
theorem qrn{rs:List GRule}:qY rs+2*rs.length<=(rs.map fun r=>3+7*r.tests.length).sum:=by
 induction rs with
 | nil=>simp[qY]
 | cons r rs ih =>
  have:=qif (ts:=r.tests);simp[qY,ql2] at ih ⊢;omega
theorem qoX(h:FilG x):(qW x).length<=szF x:=by
 have h1:=h.dfl.1;have h2:=qrn (rs:=x.rules);rw[qkL];unfold xG szF;omega
end
end Go.Kc
end
