/- Part 12 of the abstract machine and of the functions' walks. Conditions: with each theorem. -/
import Derived.Test.YtgaodkfneooonaaGreatK11
set_option maxHeartbeats 4000000
set_option linter.unusedSectionVars false
set_option linter.unusedSimpArgs false
set_option linter.unusedVariables false
set_option linter.unnecessarySimpa false
section
namespace Go.Kc
theorem qlD:∀{ts:List GTest} {a:Int},(qeC ts a).1.Sublist ts∧((qeC ts a).2=a∨∃t ∈ ts,(qeC ts a).2=t.act)
 | [],_=>⟨.slnil,.inl rfl⟩
 | t::ts,a=>by
  unfold qeC;split
  ·exact⟨List.nil_sublist _,.inr ⟨t,List.mem_cons_self ..,rfl⟩⟩
  ·obtain⟨h1,h2⟩:=qlD (ts:=ts) (a:=a);refine⟨h1.cons_cons t,?_⟩;rcases h2 with h2|⟨y,hy,h2⟩
   ·exact .inl h2
   ·exact .inr ⟨y,List.mem_cons_of_mem _ hy,h2⟩
theorem quD{a:Int}{ts:List GTest}:(qfa a ts).Sublist ts:=by
 unfold qfa;have:=List.dropWhile_sublist (fun t:GTest=>decide (t.act=a)) (l:=ts.reverse)
 have:=this.reverse;rwa [List.reverse_reverse] at this
theorem qoT{q:GTest->Bool}:∀{ts:List GTest} {a:Int},(∀t ∈ ts,t.mask=0->q t=true)->fnd q (qeC ts a).2 (qeC ts a).1=fnd q a ts
 | [],_,_=>rfl
 | t::ts,a,h=>by
  unfold qeC;split
  ·rename_i h0;rw[qhe,qcv,if_pos (h t (List.mem_cons_self ..) h0)]
  ·rw[qcv,qcv,qoT fun y hy=>h y (List.mem_cons_of_mem _ hy)]
theorem qmT{q:GTest->Bool}{a:Int}{t:GTest}(h:t.act=a):∀{ts:List GTest},fnd q a (ts++[t])=fnd q a ts
 | []=>by rw[List.nil_append,qcv,qhe,h];split<;>rfl
 | y::ts=>by rw[List.cons_append,qcv,qcv,qmT h]
theorem quC{q:GTest->Bool}{a:Int}(n:Nat):∀(ts:List GTest),ts.length=n->fnd q a (qfa a ts)=fnd q a ts:=by
 induction n with
 | zero=>intro ts h;rw[List.eq_nil_of_length_eq_zero h];rfl
 | succ n ih =>
  intro ts h;have e:ts=ts.dropLast++[ts.getLast (by intro h0;rw[h0] at h;simp at h)]:=(List.dropLast_concat_getLast _).symm;generalize ts.getLast _=z at e;generalize ts.dropLast=l0 at e;subst e;have hl0:l0.length=n:=by simpa using h
  rw[qkj];split
  ·rename_i hz;rw[ih l0 hl0,qmT hz]
  ·rfl
theorem qml:∀{l:List GRule} {o:Option GRule},upR o l=true↔(∀r ∈ l,qak r=true)∧(∀b,o=some b->∀r ∈ l,b.nr<r.nr)∧l.Pairwise fun a b=>a.nr<b.nr
 | [],o=>by simp[upR]
 | r::l,o=>by
  have ih:=qml (l:=l) (o:=some r);simp only[upR,Bool.and_eq_true,ih,List.forall_mem_cons,List.pairwise_cons];constructor
  ·rintro⟨⟨h1,h2⟩,h3,h4,h5⟩;refine⟨⟨h1,h3⟩,fun b hb=>?_,h4 r rfl,h5⟩
   subst hb;have h2:b.nr<r.nr:=by simpa using h2
   exact⟨h2,fun y hy=>Int.lt_trans h2 (h4 r rfl y hy)⟩
  ·rintro⟨⟨h1,h3⟩,h2,h4,h5⟩;refine⟨⟨h1,?_⟩,h3,fun b hb=>by cases hb;exact h4,h5⟩
   cases o with
   | none=>rfl
   | some b=>simpa using (h2 b rfl).1
section
variable {x:GFil}
theorem qjS{r:GRule}:(xv r).nr=r.nr:=rfl
theorem qce{r:GRule}:(xv r).tests.Sublist r.tests:=quD.trans qlD.1
theorem qns{r:GRule}:(xv r).act=r.act∨∃t ∈ r.tests,(xv r).act=t.act:=qlD.2
theorem qtH{q:GTest->Bool}{r:GRule}(h:∀t ∈ r.tests,t.mask=0->q t=true):fnd q (xv r).act (xv r).tests=fnd q r.act r.tests :=
 (quC _ _ rfl).trans (qoT h)
theorem qej{r:GRule}(h:r ∈ (jH x).rules):∃r0 ∈ x.rules,r=xv r0:=by
 obtain⟨h1,_⟩:=List.mem_filter.1 h;obtain⟨r0,h0,e⟩:=List.mem_map.1 h1;exact⟨r0,h0,e.symm⟩
theorem qoi{r:GRule}(h:qak r=true):qak (xv r)=true:=by
 simp only[qak,Bool.and_eq_true,decide_eq_true_eq,List.all_eq_true] at h ⊢;obtain⟨⟨h1,h2⟩,h3⟩:=h;refine⟨⟨Nat.le_trans qce.length_le h1,fun t ht=>h2 t (qce.subset ht)⟩,?_⟩
 rcases qns (r:=r) with e|⟨t,ht,e⟩
 ·rw[e];exact h3
 ·rw[e];have:=h2 t ht;simp only[zS,Bool.and_eq_true] at this;exact this.2
theorem qf4(h:xp x=true):xp (jH x)=true:=by
 simp only[xp,Bool.and_eq_true,decide_eq_true_eq] at h ⊢;obtain⟨⟨⟨⟨k1,k2⟩,k3⟩,k4⟩,k5⟩:=h;obtain⟨u1,_,u3⟩:=qml.1 k5;refine⟨⟨⟨⟨k1,k2⟩,?_⟩,k4⟩,qml.2 ⟨fun r hr=>?_,fun b hb=>(by cases hb),?_⟩⟩
 ·have:=List.length_filter_le (qbp x.dflt) (x.rules.map xv);rw[List.length_map] at this;exact Nat.le_trans this k3
 ·obtain⟨r0,h0,rfl⟩:=qej hr;exact qoi (u1 r0 h0)
 ·exact ((List.pairwise_map (f:=xv) (R:=fun a b:GRule=>a.nr<b.nr)).2 u3).filter _
theorem qlQ(h:FilR x):FilR (jH x):=by
 refine⟨fun r hr=>?_,fun r hr t ht=>?_⟩
 ·obtain⟨r0,h0,rfl⟩:=qej hr;exact h.nr r0 h0
 ·obtain⟨r0,h0,rfl⟩:=qej hr;exact h.ts r0 h0 t (qce.subset ht)
theorem qAh(h:FilU x):FilU (jH x):=by
 refine⟨h.d,fun r hr=>?_,fun r hr t ht=>?_⟩
 ·obtain⟨r0,h0,rfl⟩:=qej hr;rcases qns (r:=r0) with e|⟨t,ht,e⟩
  ·rw[e];exact h.r r0 h0
  ·rw[e];exact h.t r0 h0 t ht
 ·obtain⟨r0,h0,rfl⟩:=qej hr;exact h.t r0 h0 t (qce.subset ht)
theorem qwv:szF (jH x)<=szF x:=by
 have:∀l:List GRule,(((l.map xv).filter (qbp x.dflt)).map fun r=>3+7*r.tests.length).sum<=(l.map fun r=>3+7*r.tests.length).sum:=fun l=>by
  induction l with
  | nil=>exact Nat.le_refl _
  | cons r l ih =>
   have hl:=(qce (r:=r)).length_le;rw[List.map_cons,List.filter_cons];split
   ·simp only[List.map_cons,List.sum_cons];omega
   ·simp only[List.map_cons,List.sum_cons];omega
 have:=this x.rules;exact Nat.add_le_add_left this 10
theorem qkO{d n:Int}{q:GTest->Bool}:∀{l:List GRule},(∀r ∈ l,∀t ∈ r.tests,t.mask=0->q t=true)->l.Pairwise (fun a b=>a.nr<b.nr)->
  (match ((l.map xv).filter (qbp d)).find? (fun r=>decide (r.nr=n)) with|none=>d|some r=>fnd q r.act r.tests)=(match l.find? (fun r=>decide (r.nr=n)) with|none=>d|some r=>fnd q r.act r.tests)
 | [],_,_=>rfl
 | r::l,h,hp=>by
  obtain⟨p1,p2⟩:=List.pairwise_cons.1 hp;have hr:=qtH (h r (List.mem_cons_self ..));have ih:=qkO (d:=d) (n:=n) (q:=q) (l:=l) (fun y hy=>h y (List.mem_cons_of_mem _ hy)) p2
  rw[List.map_cons,List.filter_cons,List.find?_cons]
  by_cases hn:r.nr=n
  ·have no:((l.map xv).filter (qbp d)).find? (fun r=>decide (r.nr=n))=none:=by
    refine List.find?_eq_none.2 fun y hy=>?_
    obtain⟨y1,_⟩:=List.mem_filter.1 hy;obtain⟨z,hz,rfl⟩:=List.mem_map.1 y1;have:=p1 z hz;rw[qjS];simp;omega
   simp only[hn,decide_true]
   by_cases hk:qbp d (xv r)=true
   ·rw[if_pos hk,List.find?_cons];simp only[qjS,hn,decide_true];exact hr
   ·rw[if_neg hk,no];simp only[qbp,Bool.or_eq_true,decide_eq_true_eq] at hk;have h0:(xv r).tests=[]:=List.eq_nil_of_length_eq_zero (by omega);have h1:(xv r).act=d:=Decidable.byContradiction fun z=>hk (.inr z)
    rw[h0,h1,qhe] at hr;exact hr
  ·simp only[hn,decide_false]
   by_cases hk:qbp d (xv r)=true
   ·rw[if_pos hk,List.find?_cons];simp only[qjS,hn,decide_false];exact ih
   ·rw[if_neg hk];exact ih
theorem qtG(h:FilG x)(hp:x.rules.Pairwise fun a b=>a.nr<b.nr){d:GData}(hd:DatOk d):qkw (jH x) d=qkw x d:=by
 rw[qhb,qhb];rw[show (jH x).arch=x.arch from rfl]
 by_cases hc:(ofM d.arch d.nr).2=false∨(ofM d.arch d.nr).1≠x.arch
 ·rw[if_pos hc,if_pos hc]
 ·rw[if_neg hc,if_neg hc];refine qkO (fun r hr t ht h0=>?_) hp
  have hg:=h.ts r hr t ht
  have hv:t.val=0:=by
   have:=hg.sub;rw[h0] at this;have e:=qc7 (a:=t.val.toNat) (b:=0) (by have:=hg.ok.v1;omega) (by decide)
   rw[Int.toNat_of_nonneg hg.ok.v0] at e;rw[← this];simpa using e
  have ha:=qls hd hg.ok.a0 hg.ok.a1;have e:=qc7 (a:=(qkv d t.arg).toNat) (b:=0) (by omega) (by decide);rw[Int.toNat_of_nonneg ha.1] at e;unfold xZ;rw[h0,hv];simp only[hg.ok.a0,hg.ok.a1,decide_true,Bool.true_and,decide_eq_true_eq];simpa using e
end
structure PrgT (p:List Ins) (n:Nat) (den:GData->Int):Prop where
 good:PrgGood p
 um:qEd p=[]
 ud:qiQ p=[]
 len:p.length<=3*n
 tells:∀d,DatOk d->(ql3 p d).1=den d∧(ql3 p d).2.2.2=0
def qnQ(a:List Ins×Int)(n:Nat)(den:GData->Int):Prop:=(a.2=270∧a.1=[]∧1365<n)∨(a.2=0∧PrgT a.1 n den)
theorem qte{l:List Sy}{n:Nat}{den:GData->Int}(h:MayL l)(hr:qbv l)(hl:l.length<=n)(he:∀d,DatOk d->Ev l d 0 0 (den d)):qnQ (qai l) n den:=by
 have h3:=qtg (l:=l);unfold qai
 by_cases hb:4096<(xu l).length
 ·rw[if_pos hb];exact .inl ⟨rfl,rfl,by omega⟩
 ·rw[if_neg hb];have hu:=qti h hr;exact .inr ⟨rfl,qqN h hr (by omega),hu.1,hu.2,by simp only;omega,fun d hd=>qqQ h (he d hd)⟩
section
variable {x:GFil}
theorem qso(hK:xp x=true)(hR:FilR x)(hU:FilU x):qnQ (qe0 x) (szF x) (qkw x):=by
 have hG:=FilG.of hK hR;unfold qe0;rw[if_pos hK];exact qte (qfn hG) (qmK hG hU) (qoX hG) fun d hd=>qoW hG hd 0
theorem qzh(hK:xp x=true)(hR:FilR x)(hU:FilU x):qnQ (qfm x) (szF x) (qkw x):=by
 have hG:=FilG.of hK hR;have hG2:=FilG.of (qf4 hK) (qlQ hR);have hm:=qfn hG2
 have hp:x.rules.Pairwise fun a b=>a.nr<b.nr:=by
  simp only[xp,Bool.and_eq_true] at hK;exact (qml.1 hK.2).2.2
 unfold qfm;rw[if_pos hK];refine qte (qpo hm) (qwW (qmK hG2 (qAh hU))) (Nat.le_trans qwV (Nat.le_trans (qoX hG2) qwv)) fun d hd=>?_
 rw[← qtG hG hp hd];exact qAQ hm (qoW hG2 hd 0)
theorem qxq{u v:List Ins×Int}{n:Nat}{den:GData->Int}(hu:qnQ u n den)(hv:qnQ v n den):qnQ (qeW u v) n den:=by
 unfold qeW;split
 ·exact hu
 ·exact hv
theorem qzg(hK:xp x=true)(hR:FilR x)(hU:FilU x)(o:Bool):qnQ (qed x o) (szF x) (qkw x):=by
 unfold qed;split
 ·exact qxq (qso hK hR hU) (qzh hK hR hU)
 ·exact qso hK hR hU
theorem qvr(hK:xp x=false)(o:Bool):qed x o=([],210):=by
 unfold qed qe0 qfm qeW;simp[hK]
end
end Go.Kc
end
section
namespace Go.Kc
variable {P:Program} {f:Nat}
def qdH(x:GFil):Prop:=x.rules.length<=100000∧∀r ∈ x.rules,r.tests.length<=100000
def qxT(P:Program)(g:Nat):Prop:=∀x,qdH x->qf P g [.agg (qz x)] (.b (xp x))
def qr5(P:Program)(g:Nat):Prop:=∀x,FilR x->qdH x->qf P g [.agg (qz x)] (qmr x)
def qr7(P:Program)(g:Nat):Prop:=∀l,MayL l->qf P g [.fz l.length (rSy l)] (qjg l)
def qy2(P:Program)(g:Nat):Prop:=∀l,MayL l->qf P g [.fz l.length (rSy l)] (.tup [.fz (qeO l).length (rSy (qeO l)),.i .i64 0])
def qr8(P:Program)(g:Nat):Prop:=∀x,qdH x->qf P g [.agg (qz x)] (qp1 x)
def qxV(P:Program)(g:Nat):Prop:=∀l:List (Int×Nat),l.length<=100000->(∀y ∈ l,0<=y.1∧y.1<4294967296)->quj l->qf P g [.fz l.length (qaA l),.fz l.length (qba l),.i .i64 0] (.tup [.fz (zx (pcs 0 l 0)).length (rSp (zx (pcs 0 l 0))),.i .i64 0])
def qxW(P:Program)(g:Nat):Prop:=∀l:List Sp,l.length<=400000->0<l.length->SpR l->qf P g [.fz l.length (rSp l)] (qoG l)
theorem qFx{g1 g2 g3 h1:Nat}(hc:qd P f (qgK g1 g2)=true)(hp:qd P g1 (qdl g3)=true)(hm:qd P g2 (qdk h1)=true)(hm1:qd P h1 jj=true)(hp1:qd P g3 qcd=true):qxV P f:=fun l hl hr hu =>
 qBl hc l 0 (qrf hp l 0) (qnp hm hm1 hp1 l 0 hl hr) hl hu
theorem qFA{g1 g2:Nat}(hc:qd P f (qdQ g1 g2)=true)(h1:qd P g1 qdP=true)(h2:qd P g2 jE=true):qxW P f:=fun l hl h0 hr =>
 qry hc h2 l (qoC h1 l (by omega) hr) hl h0
theorem qEI{g gl gp gj gh gr go gb gR gd gt gH gA gB gC gD gM gS gT:Nat}(hc:qd P f (qeH gM go gS gT gb gh gr gR gd)=true)(E:EFn P g gl gp gj gh gr go gb gR gd gt gH gA gB gC gD)(hM:qxT P gM)(hS:qxV P gS)(hT:qxW P gT):qr5 P f:=fun x hR hL =>
 qqt hc E x hR (hM x hL) fun hK=>by
  have hG:=FilG.of hK hR;have hd:=hG.dfl;have hn:=hG.n;have hs:=hG.spans;have hT:=hT (zx (pcs 0 (qG x.rules) 0)) (by have:=hs.2.2.2.2;omega) hG.pos (qhS hs.1 (Int.le_refl 0) (Int.le_refl _))
  unfold qoG at hT;rw[if_pos (qkK hs.1)] at hT;refine⟨by have:=hd.1;omega,by have:=hd.2;omega,hG.tne,hG.nodes,hS (qG x.rules) (by rw[qay];omega) (fun y hy=>?_) (qlm hG.ups),hT⟩
  obtain⟨i,hi⟩:=List.getElem?_of_mem hy;rw[qc0] at hi;obtain⟨r,hr,rfl⟩:=Option.map_eq_some_iff.1 hi;exact hR.nr r (zzM hr)
theorem qEX{g1 g2 gM gB gi go:Nat}(hc:qd P f (qeJ g1 g2)=true)(h1:qd P g1 (qdj gM gB go)=true)(h2:qd P g2 zu=true)(hM:∀l,MayL l->qf P gM [.fz l.length (rSy l)] (.b true))
  (hB1:∀l:List Sy,qf P gB [.fz l.length (rSy l)] (.fn gi [] [.pf [.fz l.length (rSy l)] 0])) (hi1:qd P gi qA=true) (ho:qvh P go):qr7 P f:=fun l hl =>
 qqP hc l (by have:=hl.big;omega) (fun k hk=>qqS h1 l (hM l hl) hB1 hi1 ho (by have:=hl.big;omega) hl.hin hk) fun s b tr p hp k hb hk=>qot h2 p hp hb hk
theorem qFG{gD gO gP gB gi:Nat}(hc:qd P f (qa6 gD gP gO)=true)(hD:qd P gD z8=true)(hO:cOf P gO)(hP:qd P gP (jB gB)=true)
  (hB:∀l:List Ins,qf P gB [.fz l.length (rP l)] (.fn gi [] [.pf [.fz l.length (rP l)] 0])) (hi:qd P gi qF=true):qvh P f:=fun kb n s bb bp back pl tr far k h x hb hj hk =>
 qAu hc hD hO hP hB hi h x hb hj hk
theorem qFH{g1 g2 gM gs gt gl s1 s2 t1 t2 ti v1 v2 h1 h2 h3:Nat}(hc:qd P f (qgJ g1 g2)=true)(hp:qd P g1 (qdN gs gt gl)=true)(hd:qd P g2 (qfy gM)=true)(hM:∀l,MayL l->qf P gM [.fz l.length (rSy l)] (.b true))
  (hs:qd P gs (qdO s1 s2)=true) (hs1:qd P s1 qcL=true) (hm:qd P s2 (xU h1 h2 h3)=true) (c1:qb8 P h1 4 24) (c2:cOf P h2) (c3:qfk P h3)
  (ht:qd P gt (qcM h1 t1 t2 s2 h3)=true) (ht1:qd P t1 qah=true) (hB:∀l:List Sy,qf P t2 [.fz l.length (rSy l)] (.fn ti [] [.pf [.fz l.length (rSy l)] 0])) (hi:qd P ti qA=true)
  (hl:qd P gl (qdM v1 v2 s2)=true) (hv1:qd P v1 (qeK h2 h3)=true) (hv2:qd P v2 qaW=true):qy2 P f:=fun l h=>by
 have m1:=qhJ h;have m2:=qjd m1;have b0:=h.big;have b1:=m1.big;have b2:=m2.big
 exact qtZ hc (qnt hp) l (qeO l) (qwT hd l (qeq l) (qmf (qeq l)) (qeO l) (hM l h) (qnD hs hs1 hm c1 c2 c3 l (by omega) h.in)
  (qkA ht c1 ht1 hB hi hm c1 c2 c3 c3 (qeq l) (by omega) m1.in) (qnh hl hv2 hm c1 c2 c3 (qmf (qeq l)) (qnT hv1 c2 c3 _ (by omega) m2.pos m2.in m2.on) (by omega) m2.in))
theorem qE3{g1 g2:Nat}(hc:qd P f (qeI g1 g2)=true)(hM:qxT P g1)(h2:∀r:GRule,r.tests.length<=100000->qf P g2 [.agg (qB r)] (.agg (qB (xv r)))):qr8 P f:=fun x hL =>
 qmo hc x (hM x hL) h2 hL.1 hL.2
theorem qAg{x:GFil}(h:qdH x):qdH (jH x):=by
 refine⟨?_,fun r hr=>?_⟩
 ·have:=List.length_filter_le (qbp x.dflt) (x.rules.map xv);rw[List.length_map] at this;exact Nat.le_trans this h.1
 ·obtain⟨r0,h0,rfl⟩:=qej hr;exact Nat.le_trans qce.length_le (h.2 r0 h0)
theorem qC2{gE gN gO gL:Nat}(hE:qr5 P gE)(hN:qr8 P gN)(hO:qy2 P gO)(hL:qr7 P gL){x:GFil}(hR:FilR x)(hl:qdH x):CmpFn P gE gN gO gL x where
 em:=hE x hR hl
 nm:=hN x hl
 lk:=fun hK=>hL _ (qfn (FilG.of hK hR))
 em2:=fun _=>hE _ (qlQ hR) (qAg hl)
 ok2:=qf4
 op:=fun hK=>hO _ (qfn (FilG.of (qf4 hK) (qlQ hR)))
 lk2:=fun hK=>hL _ (qpo (qfn (FilG.of (qf4 hK) (qlQ hR))))
def qxR(P:Program)(g:Nat):Prop:=∀x,FilR x->qdH x->∀o:Bool,qf P g [.agg (qz x),.b o] (.tup [.fz (qed x o).1.length (rP (qed x o).1),.i .i64 (qed x o).2])
theorem qEE{gd gwN gwE gwO gwL gs gE gN gO gL:Nat}(hc:qd P f (qa4 gwE gwL gd gwN gwO gs)=true)(hd:qd P gd zj=true)(hN:qd P gwN (zI gN)=true)(hE:qd P gwE (zC gE)=true)(hO:qd P gwO (zH gO)=true)(hL:qd P gwL (zo gL)=true)
  (hs:qd P gs qa5=true) (c1:qr5 P gE) (c2:qr8 P gN) (c3:qy2 P gO) (c4:qr7 P gL):qxR P f:=fun x hR hl o =>
 qlB hc hd hN hE hO hL (fun u v x y hx hy=>ql7 hs u v x y hx hy) (qC2 c1 c2 c3 c4 hR hl) o
structure FilB (x:GFil):Prop where
 l:x.rules.length<=4398046511104
 t:∀r ∈ x.rules,r.tests.length<=4398046511104
def qkx:Nat->List GRule->Bool
 | _,[]=>false
 | n,r::l=>if 1000<n+1+r.tests.length then true else qkx (n+1+r.tests.length) l
theorem qo4:∀{l:List GRule} {n:Nat},n<=1000->qkx n l=false->n+l.length<=1000∧∀r ∈ l,r.tests.length<=1000
 | [],n,h,_=>⟨by simpa using h,fun r hr=>by cases hr⟩
 | r::l,n,_,h=>by
  unfold qkx at h;split at h
  ·cases h
  ·rename_i hn;obtain⟨h1,h2⟩:=qo4 (by omega) h;refine⟨by simp only[List.length_cons];omega,fun y hy=>?_⟩
   rcases List.mem_cons.1 hy with rfl|hy
   ·omega
   ·exact h2 y hy
theorem qj8{rs:List GRule}{j:Nat}{r:GRule}(h:rs[j]?=some r):(rR rs)[j*3+1]?=some (.fz r.tests.length (rT r.tests)):=by
 have:=zZ (f:=qB) (m:=3) qbf h (i:=1) (by omega);rw[show rs.flatMap qB=rR rs from rfl] at this
 simpa[qB] using this
def qbh:IFn:=⟨[.tmp 2],.seq (.r [.q 1 (.box (.t 0)),.m 2 .F]) (.seq (.r [.m 3 (.k 0)]) (.seq (.seq (.r [.m 4 (.k 0)]) (.blk 0 (.loop (.seq (.seq (.r [.n 5 4,.f 6 1 1,.d 7 6,.e 8 7,.s 9 5 8]) (.cond (.t 9) (.skip) (.exit 0))) (.seq (.blk 1 (.seq (.r [.n 12 3,.a 13 12 1,.f 14 1 1,.d 15 14,.n 16 4,.i 17 3 15 16,.f 18 1 17,.d 19 18,.e 20 19,.b 21 .add 13 20,.n 3 21]) (.seq (.r [.n 22 3,.w 23 .gtr 22 1000]) (.cond (.t 23) (.seq (.r [.m 2 .T]) (.ret)) (.skip))))) (.r [.n 10 4,.a 11 10 1,.n 4 11])))))) (.seq (.r [.m 2 .F]) (.ret))))⟩
theorem qvX(hc:qd P f qbh=true)(x:GFil)(hx:FilB x):qf P f [.agg (qz x)] (.b (qkx 0 x.rules)):=by
 refine qf.mk hc (by simp[qw,clo,qz,xt]) ?_;simp only[qbh,qz,vI,simprocAttr];simp +decide only[↓vS,vT,simprocAttr];refine SL.loopP (α:=Nat×Nat) (fun s=>[(1,.ptr 0 0),(3,.i .i64 (s.2:Int)),(4,.i .i64 (s.1:Int))]) (fun s h=>s.1<=x.rules.length∧s.2<=1000∧qkx s.2 (x.rules.drop s.1)=qkx 0 x.rules∧∃n tr,h=⟨n,0,tr⟩∧tr.get 0=some (.cells 0 true false [.i .i64 x.arch,.fz x.rules.length (rR x.rules),.i .u32 x.dflt])) (fun s=>x.rules.length-s.1) ?_ (0,0) ?_ ?_
 ·rintro⟨j,n⟩ h ⟨hj,hn,hI,s,tr,rfl,t0⟩ G ih;simp only at hj hn hI;simp only[vI,simprocAttr];have hxl:=hx.l
  by_cases hlt:j<x.rules.length
  ·obtain⟨r,hr⟩:∃r,x.rules[j]?=some r:=⟨_,zzE hlt⟩;have hrt:=hx.t r (zzM hr);have g1:=qj8 hr;have hw1:IntKind.wrap .i64 ((j:Int)+1)=((j+1:Nat):Int):=by rw[qm (by omega) (by omega)];simp
   have hw2:IntKind.wrap .i64 ((n:Int)+1)=((n+1:Nat):Int):=by rw[qm (by omega) (by omega)];simp
   have hw3:IntKind.wrap .i64 (((n+1:Nat):Int)+(r.tests.length:Int))=((n+1+r.tests.length:Nat):Int):=by rw[qm (by omega) (by omega)];simp
   have hdr:x.rules.drop j=r::x.rules.drop (j+1):=by rw[← (zzS.1 hr).2,List.getElem_cons_drop]
   rw[hdr,qkx] at hI
   by_cases hg:1000<n+1+r.tests.length
   ·have hg':(1000:Int)<((n+1+r.tests.length:Nat):Int):=by omega
    rw[if_pos hg] at hI;simp +decide only[↓vS,vT,simprocAttr,t0,hlt,g1,hw1,hw2,hw3,hg'];simp[vZ,← hI]
   ·have hg':¬(1000:Int)<((n+1+r.tests.length:Nat):Int):=by omega
    rw[if_neg hg] at hI;simp +decide only[↓vS,vT,simprocAttr,t0,hlt,g1,hw1,hw2,hw3,hg'];exact ih (j+1,n+1+r.tests.length) _ _ (by simp only;omega) (by simp[qe,qi,Tr.get_set]) ⟨by simp only;omega,by simp only;omega,hI,s,tr,rfl,t0⟩
  ·have hd:x.rules.drop j=[]:=List.drop_eq_nil_of_le (by omega);rw[hd,qkx] at hI;simp +decide only[↓vS,vT,simprocAttr,t0,hlt];simp[vZ,← hI]
 ·simp[qe,qi,Tr.get_set]
 ·exact⟨Nat.zero_le _,by simp,rfl,1,_,rfl,by simp[Tr.get_set]⟩
def szT(rs:List GRule):Nat:=(rs.map fun r=>3+7*r.tests.length).sum
theorem qnJ{rs:List GRule}{r:GRule}:szT (rs++[r])=szT rs+(3+7*r.tests.length):=by simp[szT]
theorem qme:∀{rs:List GRule},(∀r ∈ rs,r.tests.length<=100000)->szT rs<=rs.length*700003
 | [],_=>by simp[szT]
 | r::rs,h=>by
  have h1:=h r (List.mem_cons_self ..);have h2:=qme (rs:=rs) fun y hy=>h y (List.mem_cons_of_mem _ hy)
  simp only[szT,List.map_cons,List.sum_cons,List.length_cons] at h2 ⊢;omega
theorem quv{x:GFil}:szF x=10+szT x.rules:=rfl
def qe3:IFn:=⟨[.tmp 2],.seq (.r [.q 1 (.box (.t 0)),.m 2 (.k 0)]) (.seq (.r [.m 3 (.k 10)]) (.seq (.seq (.r [.f 6 1 1,.d 7 6,.e 8 7,.m 9 (.k 0)]) (.blk 0 (.loop (.seq (.r [.s 10 9 8]) (.seq (.cond (.t 10) (.skip) (.exit 0)) (.seq (.blk 1 (.seq (.r [.i 11 3 7 9,.v 12 3 11,.q 5 (.alloc [.i .u32 0,.nils,.i .u32 0]),.u (.store 3 (.t 5) (.t 12))]) (.r [.n 13 3,.f 14 1 5,.d 15 14,.e 16 15,.q 17 (.bin .mul (.k 7) (.t 16)),.q 18 (.bin .add (.k 3) (.t 17)),.b 19 .add 13 18,.n 3 19]))) (.r [.a 20 9 1,.n 9 20]))))))) (.seq (.r [.n 21 3,.n 2 21]) (.ret))))⟩
theorem qCi(hc:qd P f qe3=true)(x:GFil)(hx:qdH x):qf P f [.agg (qz x)] (.i .i64 (szF x:Int)):=by
 refine qf.mk hc (by simp[qw,clo,qz,xt]) ?_;simp only[qe3,qz,vI,simprocAttr];simp +decide only[↓vS,vT,simprocAttr];refine SL.loopP (α:=Nat) (fun j=>[(3,.i .i64 ((10+szT (x.rules.take j):Nat):Int)),(7,.fz x.rules.length (rR x.rules)),(8,.i .i64 (x.rules.length:Int)),(9,.i .i64 (j:Int))]) (fun j h=>j<=x.rules.length∧h.fl=0) (fun j=>x.rules.length-j) ?_ 0 ?_ ?_
 ·rintro j ⟨s,fl,tr⟩ ⟨hj,rfl⟩ G ih;simp only[vI,simprocAttr];have hxl:=hx.1;have hle:=qme (rs:=x.rules.take j) fun r hr=>hx.2 r (List.mem_of_mem_take hr)
  rw[List.length_take] at hle
  by_cases hlt:j<x.rules.length
  ·have hlt':(j:Int)<x.rules.length:=by omega
   obtain⟨r,hr⟩:∃r,x.rules[j]?=some r:=⟨_,zzE hlt⟩;have hrt:=hx.2 r (zzM hr);have hel:=qeT hr;have h3:j*3+3<=(rR x.rules).length:=by rw[qgW];omega
   have hw1:IntKind.wrap .i64 ((j:Int)+1)=((j+1:Nat):Int):=by rw[qm (by omega) (by omega)];simp
   have hw2:IntKind.wrap .i64 (7*(r.tests.length:Int))=7*(r.tests.length:Int):=qm (by omega) (by omega);have hw3:IntKind.wrap .i64 (3+7*(r.tests.length:Int))=3+7*(r.tests.length:Int):=qm (by omega) (by omega);have hT:=qnJ (rs:=x.rules.take j) (r:=r);rw[← jp hr] at hT;have hw4:IntKind.wrap .i64 (((10+szT (x.rules.take j):Nat):Int)+(3+7*(r.tests.length:Int)))=((10+szT (x.rules.take (j+1)):Nat):Int):=by rw[qm (by omega) (by omega),hT];omega
   simp +decide only[↓vS,vT,simprocAttr,hlt',hlt,h3,hel,qB,hw1,hw2,hw3,hw4];exact ih (j+1) _ _ (by omega) (by simp[qe,qi,Tr.get_set]) ⟨by omega,rfl⟩
  ·have hlt':¬(j:Int)<x.rules.length:=by omega
   obtain rfl:j=x.rules.length:=by omega
   simp +decide only[↓vS,vT,simprocAttr,hlt',hlt];simp[vZ,quv]
 ·simp[qe,qi,Tr.get_set,szT]
 ·exact⟨Nat.zero_le _,rfl⟩
def qbL:IFn:=⟨[.tmp 2],.seq (.r [.q 1 (.box (.t 0)),.m 2 (.k 0)]) (.seq (.r [.m 3 (.k 10)]) (.seq (.seq (.r [.m 4 (.k 0)]) (.blk 0 (.loop (.seq (.seq (.r [.n 6 4,.f 7 1 1,.d 8 7,.e 9 8,.s 10 6 9]) (.cond (.t 10) (.skip) (.exit 0))) (.seq (.blk 1 (.seq (.r [.n 13 3,.a 14 13 3,.n 3 14]) (.seq (.r [.m 5 (.k 0)]) (.blk 2 (.loop (.seq (.seq (.r [.n 15 5,.f 16 1 1,.d 17 16,.n 18 4,.i 19 3 17 18,.f 20 1 19,.d 21 20,.e 22 21,.s 23 15 22]) (.cond (.t 23) (.skip) (.exit 2))) (.seq (.blk 3 (.r [.n 26 3,.a 27 26 7,.n 3 27])) (.r [.n 24 5,.a 25 24 1,.n 5 25])))))))) (.r [.n 11 4,.a 12 11 1,.n 4 12])))))) (.seq (.r [.n 28 3,.n 2 28]) (.ret))))⟩
theorem qxd(hc:qd P f qbL=true)(x:GFil)(hx:qdH x):qf P f [.agg (qz x)] (.i .i64 (szF x:Int)):=by
 refine qf.mk hc (by simp[qw,clo,qz,xt]) ?_;simp only[qbL,qz,vI,simprocAttr];simp +decide only[↓vS,vT,simprocAttr];refine SL.loopP (α:=Nat) (fun j=>[(1,.ptr 0 0),(3,.i .i64 ((10+szT (x.rules.take j):Nat):Int)),(4,.i .i64 (j:Int))]) (fun j h=>j<=x.rules.length∧∃n tr,h=⟨n,0,tr⟩∧tr.get 0=some (.cells 0 true false [.i .i64 x.arch,.fz x.rules.length (rR x.rules),.i .u32 x.dflt])) (fun j=>x.rules.length-j) ?_ 0 ?_ ?_
 ·rintro j h ⟨hj,s,tr,rfl,t0⟩ G ih;simp only[vI,simprocAttr];have hxl:=hx.1;have hle:=qme (rs:=x.rules.take j) fun r hr=>hx.2 r (List.mem_of_mem_take hr)
  rw[List.length_take] at hle
  by_cases hlt:j<x.rules.length
  ·obtain⟨r,hr⟩:∃r,x.rules[j]?=some r:=⟨_,zzE hlt⟩;have hrt:=hx.2 r (zzM hr);have g1:=qj8 hr;have hw1:IntKind.wrap .i64 ((j:Int)+1)=((j+1:Nat):Int):=by rw[qm (by omega) (by omega)];simp
   have hw2:IntKind.wrap .i64 (((10+szT (x.rules.take j):Nat):Int)+3)=((10+szT (x.rules.take j)+3:Nat):Int):=by rw[qm (by omega) (by omega)];simp
   have hT:=qnJ (rs:=x.rules.take j) (r:=r);rw[← jp hr] at hT;simp +decide only[↓vS,vT,simprocAttr,t0,hlt,hw1,hw2];refine SL.loopP (α:=Nat) (fun i=>[(1,.ptr 0 0),(3,.i .i64 ((10+szT (x.rules.take j)+3+7*i:Nat):Int)),(4,.i .i64 (j:Int)),(5,.i .i64 (i:Int))]) (fun i h=>i<=r.tests.length∧∃n tr,h=⟨n,0,tr⟩∧tr.get 0=some (.cells 0 true false [.i .i64 x.arch,.fz x.rules.length (rR x.rules),.i .u32 x.dflt])) (fun i=>r.tests.length-i) ?_ 0 ?_ ?_
   ·rintro i h ⟨hi,s',tr',rfl,t0'⟩ G' ih';simp only[vI,simprocAttr]
    by_cases hlt2:i<r.tests.length
    ·have hw3:IntKind.wrap .i64 ((i:Int)+1)=((i+1:Nat):Int):=by rw[qm (by omega) (by omega)];simp
     have hw4:IntKind.wrap .i64 (((10+szT (x.rules.take j)+3+7*i:Nat):Int)+7)=((10+szT (x.rules.take j)+3+7*(i+1):Nat):Int):=by rw[qm (by omega) (by omega)];omega
     simp +decide only[↓vS,vT,simprocAttr,t0',hlt,hlt2,g1,hw3,hw4];exact ih' (i+1) _ _ (by omega) (by simp[qe,qi,Tr.get_set]) ⟨by omega,s',tr',rfl,t0'⟩
    ·obtain rfl:i=r.tests.length:=by omega
     simp +decide only[↓vS,vT,simprocAttr,t0',hlt,hlt2,g1,hw1];refine ih (j+1) _ _ (by omega) ?_ ⟨by omega,s',tr',rfl,t0'⟩
     simp[qe,qi,Tr.get_set,hT];omega
   ·simp[qe,qi,Tr.get_set]
   ·exact⟨Nat.zero_le _,s,tr,rfl,t0⟩
  ·obtain rfl:j=x.rules.length:=by omega
   simp +decide only[↓vS,vT,simprocAttr,t0,hlt];simp[vZ,quv]
 ·simp[qe,qi,Tr.get_set,szT]
 ·exact⟨Nat.zero_le _,1,_,rfl,by simp[Tr.get_set]⟩
def qbn(a:Nat):IFn:=⟨[.tmp 2],.seq (.r [.m 2 .F]) (.seq (.r [.n 6 0,.l 7 a [.t 6],.n 5 7,.x 8 5 0,.x 9 5 1,.n 3 8,.n 4 9]) (.seq (.r [.n 10 4,.w 11 .eql 10 0,.n 2 11]) (.ret)))⟩
theorem qBu{g:Nat}(hc:qd P f (qbn g)=true)(hg:qxQ P g)(p:List Ins)(hp:PrgGood p)(hu:qiQ p=[]):qf P f [.fz p.length (rP p)] (.b true):=by
 have h:=hg p hp.ins (by have:=hp.len;omega)
 rw[hu,qvW hp] at h;refine qf.mk hc (by simp[qw,clo,qu]) ?_;simp only[qbn,vI,simprocAttr];simp +decide only[↓vS,vT,simprocAttr];refine h.sc ?_;simp +decide only[↓vS,vT,simprocAttr];simp[vZ]
def qbo(a:Nat):IFn:=⟨[.tmp 6],.seq (.r [.q 4 (.box (.t 1)),.m 6 .F]) (.seq (.r [.n 12 0,.v 13 9 4,.l 14 a [.t 12,.t 13],.n 11 14,.x 15 11 0,.x 16 11 1,.x 17 11 2,.x 18 11 3,.n 7 15,.n 8 16,.n 9 17,.n 10 18]) (.seq (.r [.n 19 10,.w 20 .eql 19 0,.n 21 20,.y 22 7 21,.y 23 2 21,.g 24 (.bin .eql (.t 22) (.t 23)) 21 true,.p 25 21 24,.n 6 25]) (.ret)))⟩
def qy5(P:Program)(g:Nat):Prop:=∀p:List Ins,p.length<=4096->(∀i ∈ p,InsOk i)->∀d,DatOk d->qf P g [.fz p.length (rP p),.agg (qX d)] (qxj p d)
theorem qBv{g:Nat}(hc:qd P f (qbo g)=true)(hg:qy5 P g)(p:List Ins)(hp:PrgGood p)(d:GData)(hd:DatOk d)(w:Int)(h1:(ql3 p d).1=w)(h2:(ql3 p d).2.2.2=0):qf P f [.fz p.length (rP p),.agg (qX d),.i .u32 w] (.b true):=by
 have h:=hg p hp.len hp.ins d hd;unfold qxj at h;rw[show qgj p d (p.length+1) qjM 0 46 []=ql3 p d from rfl,h1,h2] at h
 refine qf.mk hc (by simp[qw,clo,qu,qdy]) ?_;simp only[qbo,qX,vI,simprocAttr] at h ⊢;simp +decide only[↓vS,vT,simprocAttr];refine h.sc ?_;simp +decide only[↓vS,vT,simprocAttr];simp[vZ]
def qfM:List Int:=[32768,0,3,5,32704,32752,32764,32767]
def qrk(n:Int):Int:=xM (fun c=>decide (n / 65536=c)) qfM 0
def qbH:IFn:=⟨[.tmp 2],.seq (.r [.m 2 (.k 0)]) (.seq (.r [.q 5 (.buildS 8 [.i .u32 0] [(0,1,(.c (.i .u32 32768))),(1,1,(.c (.i .u32 0))),(2,1,(.c (.i .u32 3))),(3,1,(.c (.i .u32 5))),(4,1,(.c (.i .u32 32704))),(5,1,(.c (.i .u32 32752))),(6,1,(.c (.i .u32 32764))),(7,1,(.c (.i .u32 32767)))]),.n 3 5]) (.seq (.seq (.r [.m 4 (.k 0)]) (.blk 0 (.loop (.seq (.seq (.r [.n 6 4,.n 7 3,.e 8 7,.s 9 6 8]) (.cond (.t 9) (.skip) (.exit 0))) (.seq (.blk 1 (.seq (.r [.n 12 0,.q 13 (.bin .quo (.t 12) (.c (.i .u32 65536))),.n 14 3,.n 15 4,.i 16 1 14 15,.d 17 16,.b 18 .eql 13 17]) (.cond (.t 18) (.seq (.r [.n 19 4,.n 2 19]) (.ret)) (.skip)))) (.r [.n 10 4,.a 11 10 1,.n 4 11])))))) (.seq (.r [.q 2 (.mov (.c (.i .i64 (-1))))]) (.ret))))⟩
theorem qFs(hc:qd P f qbH=true)(n:Int)(h0:0<=n)(h1:n<=4294967295):qf P f [.i .u32 n] (.i .i64 (qrk n)):=by
 refine qf.mk hc rfl ?_;have h6:(65536:Int)≠0:=by decide
 have ht:n.tdiv 65536=n / 65536:=Int.tdiv_eq_ediv_of_nonneg h0;have hw:IntKind.wrap .u32 (n / 65536)=n / 65536:=qaC (by omega) (by omega);simp only[qbH,vI,simprocAttr];simp +decide only[↓vS,vT,simprocAttr];refine SL.loopP (α:=Nat) (fun j=>[(0,.i .u32 n),(3,.sl 0 0 8 8 false),(4,.i .i64 (j:Int))]) (fun j h=>j<=8∧(∃s tr,h=⟨s,0,tr⟩∧tr.get 0=some (.cells 0 true false (rI .u32 qfM)))∧xM (fun c=>decide (n / 65536=c)) (qfM.drop j) j=qrk n) (fun j=>8-j) ?_ 0 ?_ ?_
 ·rintro j h ⟨hj,⟨s,tr,rfl,t0⟩,hI⟩ G ih;simp only[vI,simprocAttr];have hl8:(rI .u32 qfM).length=8:=rfl;have hw1:IntKind.wrap .i64 ((j:Int)+1)=((j+1:Nat):Int):=by rw[qm (by omega) (by omega)];simp
  by_cases hlt:j<8
  ·have hlt':(j:Int)<8:=by omega
   obtain⟨c,hr⟩:∃c,qfM[j]?=some c:=⟨_,zzE (show j<qfM.length from hlt)⟩
   have hg:(rI .u32 qfM)[j]?=some (.i .u32 c):=by rw[qh8,hr];rfl
   have hdr:qfM.drop j=c::qfM.drop (j+1):=by rw[← (zzS.1 hr).2,List.getElem_cons_drop]
   rw[hdr] at hI;simp only[xM,decide_eq_true_eq] at hI
   by_cases he:n / 65536=c
   ·rw[if_pos he] at hI;simp +decide only[↓vS,vT,simprocAttr,t0,hlt,hlt',hg,↓zn h6,ht,hw,eq_true he,Nat.mul_one,Nat.zero_add];simp[vZ,← hI]
   ·rw[if_neg he] at hI;simp +decide only[↓vS,vT,simprocAttr,t0,hlt,hlt',hg,↓zn h6,ht,hw,he,hw1,Nat.mul_one,Nat.zero_add];exact ih (j+1) _ _ (by omega) (by simp[qe,qi,Tr.get_set]) ⟨by omega,⟨s,tr,rfl,t0⟩,hI⟩
  ·obtain rfl:j=8:=by omega
   have hI:(-1:Int)=qrk n:=hI;simp +decide only[↓vS,vT,simprocAttr,t0];simp[vZ,← hI]
 ·simp[qe,qi,Tr.get_set]
 ·exact⟨by omega,⟨1,_,rfl,by simp[Tr.get_set,rI,qfM]⟩,rfl⟩
theorem qxg{n:Int}(h0:0<=n)(h1:n<=4294967295):decide (0<=qrk n)=knA n:=by
 have hc:qfd .u32 n 65535=65536*(n / 65536):=by
  obtain⟨a,rfl⟩:=Int.eq_ofNat_of_zero_le h0;show IntKind.wrap .u32 (((BitVec.ofInt 32 (a:Int)) &&& ~~~ (BitVec.ofInt 32 65535)).toNat:Int)=_
  have e:((BitVec.ofInt 32 (a:Int)) &&& ~~~ (BitVec.ofInt 32 65535)).toNat=65536*(a / 65536):=by
   have h2:(BitVec.ofInt 32 (a:Int)) &&& ~~~ (BitVec.ofInt 32 65535)=((BitVec.ofInt 32 (a:Int)) >>> 16) <<< 16:=by
    generalize BitVec.ofInt 32 (a:Int)=X;apply BitVec.eq_of_getLsbD_eq;intro i hi;have key:∀i:Fin 32,(BitVec.ofInt 32 65535).getLsbD i.val=decide (i.val<16):=by decide
    have:=key ⟨i,hi⟩;simp only at this;simp only[BitVec.getLsbD_and,BitVec.getLsbD_not,hi,decide_true,Bool.true_and,this,BitVec.getLsbD_shiftLeft,BitVec.getLsbD_ushiftRight]
    by_cases hl:i<16
    ·simp[hl]
    ·simp[hl,show 16+(i-16)=i by omega]
   rw[h2,BitVec.toNat_shiftLeft,BitVec.toNat_ushiftRight,BitVec.ofInt_natCast,BitVec.toNat_ofNat,Nat.mod_eq_of_lt (by omega),Nat.shiftRight_eq_div_pow,Nat.shiftLeft_eq];rw[Nat.mod_eq_of_lt (by omega)];omega
  rw[e,qaC (by omega) (by omega)];omega
 unfold knA;rw[hc];unfold qrk;generalize n / 65536=q
 by_cases h1:q=32768
 ·subst h1;decide
 by_cases h2:q=0
 ·subst h2;decide
 by_cases h3:q=3
 ·subst h3;decide
 by_cases h4:q=5
 ·subst h4;decide
 by_cases h5:q=32704
 ·subst h5;decide
 by_cases h6:q=32752
 ·subst h6;decide
 by_cases h7:q=32764
 ·subst h7;decide
 by_cases h8:q=32767
 ·subst h8;decide
 have e1:¬(2147483648=65536*q):=by omega
 have e2:¬(0=65536*q):=by omega
 have e3:¬(196608=65536*q):=by omega
 have e4:¬(327680=65536*q):=by omega
 have e5:¬(2143289344=65536*q):=by omega
 have e6:¬(2146435072=65536*q):=by omega
 have e7:¬(2147221504=65536*q):=by omega
 have e8:¬(2147418112=65536*q):=by omega
 simp only[xM,qfM,qb4,zV,h1,h2,h3,h4,h5,h6,h7,h8,if_neg e1,if_neg e2,if_neg e3,if_neg e4,if_neg e5,if_neg e6,if_neg e7,if_neg e8,decide_false,Bool.false_eq_true,if_false];decide
def qbl(a:Nat):IFn:=⟨[.tmp 2],.seq (.r [.m 2 .F]) (.seq (.r [.n 3 0,.l 4 a [.t 3],.w 5 .geq 4 0,.n 2 5]) (.ret))⟩
theorem qEp{g:Nat}(hc:qd P f (qbl g)=true)(hg:∀n:Int,0<=n->n<=4294967295->qf P g [.i .u32 n] (.i .i64 (qrk n)))(n:Int)(h0:0<=n)(h1:n<=4294967295):qf P f [.i .u32 n] (.b (knA n)):=by
 refine qf.mk hc rfl ?_;simp only[qbl,vI,simprocAttr];simp +decide only[↓vS,vT,simprocAttr];refine (hg n h0 h1).sc ?_;simp +decide only[↓vS,vT,simprocAttr];simp[vZ,← qxg h0 h1]
def qaP:IFn:=⟨[.tmp 0],.seq (.r [.m 0 .N]) (.seq (.r [.q 1 (.buildS 6 [.i .u32 0] [(0,1,(.c (.i .u32 3221225534))),(1,1,(.c (.i .u32 1073741827))),(2,1,(.c (.i .u32 3221225534))),(3,1,(.c (.i .u32 1073741864))),(4,1,(.c (.i .u32 3221225655))),(5,1,(.c (.i .u32 3221225715)))]),.n 0 1]) (.ret))⟩
def qfP:List Int:=[3221225534,1073741827,3221225534,1073741864,3221225655,3221225715]
theorem qD7(hc:qd P f qaP=true):qf P f [] (.fz 6 (rI .u32 qfP)):=by
 refine qf.mk hc rfl ?_;simp only[qaP,vI,simprocAttr];simp only[↓vS,vT,simprocAttr];refine .cut 1 rfl (Nat.le_refl _) ?_;simp[vw,rI,qfP]
def qAs(t n:Int):Int×Bool:=if t=3221225534 then (if n / 1073741824 % 2=1 then (2,true) else (0,true)) else if xM (fun c=>decide (c=t)) qfP 0<0 then (0,false) else (xM (fun c=>decide (c=t)) qfP 0,true)
theorem qAt{t n:Int}(h0:0<=n)(h1:n<=4294967295):qAs t n=ofM t n:=by
 have hz:(jq .u32 n 1073741824≠0)↔n / 1073741824 % 2=1:=by
  obtain⟨a,rfl⟩:=Int.eq_ofNat_of_zero_le h0;have:=qb7 (a:=a) (b:=1073741824) (by omega) (by decide);rw[show ((1073741824:Nat):Int)=1073741824 from rfl] at this
  rw[this];have ht:a.testBit 30=decide (a / 1073741824 % 2=1):=by rw[Nat.testBit_eq_decide_div_mod_eq]
  have e:a &&& 1073741824≠0↔a / 1073741824 % 2=1:=by
   have hb:∀i,(a &&& 1073741824).testBit i=(a.testBit i&&decide (30=i)):=fun i=>by
    rw[Nat.testBit_and,show (1073741824:Nat)=2 ^ 30 from rfl,Nat.testBit_two_pow]
   constructor
   ·intro h;apply Decidable.byContradiction;intro hn;refine h (Nat.eq_of_testBit_eq fun i=>?_)
    rw[hb,Nat.zero_testBit]
    by_cases hi:30=i
    ·subst hi;rw[ht];simp[hn]
    ·simp[hi]
   ·intro h h0;have:=hb 30;rw[h0,ht] at this;simp[h] at this
  omega
 unfold qAs ofM
 by_cases k1:t=3221225534
 ·subst k1;have e:xM (fun x:List UInt8×Int=>decide (x.2=3221225534)) xn 0=0:=by decide
  rw[if_pos rfl,e]
  by_cases hb:n / 1073741824 % 2=1
  ·rw[if_pos hb,if_neg (by decide),if_pos ⟨rfl,hz.2 hb⟩]
  ·rw[if_neg hb,if_neg (by decide),if_neg (fun z=>hb (hz.1 z.2))]
 by_cases k2:t=1073741827
 ·subst k2;rfl
 by_cases k3:t=1073741864
 ·subst k3;rfl
 by_cases k4:t=3221225655
 ·subst k4;rfl
 by_cases k5:t=3221225715
 ·subst k5;rfl
 rw[if_neg k1];simp only[qfP,xn,xM,decide_eq_true_eq,eq_comm (b:=t),k1,k2,k3,k4,k5,if_false];simp
def qcz(a:Nat):IFn:=⟨[.tmp 4,.tmp 5],.seq (.r [.m 4 (.k 0),.m 5 .F]) (.seq (.r [.l 8 a [],.n 6 8]) (.seq (.seq (.r [.n 9 0,.n 10 6,.q 11 (.iAddrS 1 (.t 10) (.k 0)),.d 12 11,.b 13 .eql 9 12]) (.cond (.t 13) (.seq (.seq (.r [.n 14 1,.q 15 (.bin .quo (.t 14) (.c (.i .u32 1073741824))),.q 16 (.bin .rem (.t 15) (.c (.i .u32 2))),.q 17 (.bin .eql (.t 16) (.c (.i .u32 1)))]) (.cond (.t 17) (.seq (.r [.m 4 (.k 2),.m 5 .T]) (.ret)) (.skip))) (.seq (.r [.m 4 (.k 0),.m 5 .T]) (.ret))) (.skip))) (.seq (.seq (.r [.m 7 (.k 0)]) (.blk 0 (.loop (.seq (.seq (.r [.n 18 7,.n 19 6,.e 20 19,.s 21 18 20]) (.cond (.t 21) (.skip) (.exit 0))) (.seq (.blk 1 (.seq (.r [.n 24 6,.n 25 7,.i 26 1 24 25,.d 27 26,.n 28 0,.b 29 .eql 27 28]) (.cond (.t 29) (.seq (.r [.n 30 7,.n 4 30,.m 5 .T]) (.ret)) (.skip)))) (.r [.n 22 7,.a 23 22 1,.n 7 23])))))) (.seq (.r [.m 4 (.k 0),.m 5 .F]) (.ret)))))⟩
theorem qCe{g:Nat}(hc:qd P f (qcz g)=true)(hg:qf P g [] (.fz 6 (rI .u32 qfP)))(t n:Int)(h0:0<=n)(h1:n<=4294967295):qf P f [.i .u32 t,.i .u32 n] (.tup [.i .i64 (ofM t n).1,.b (ofM t n).2]):=by
 rw[← qAt h0 h1];refine qf.mk hc rfl ?_;have h6:(1073741824:Int)≠0:=by decide
 have h7:(2:Int)≠0:=by decide
 have ht:n.tdiv 1073741824=n / 1073741824:=Int.tdiv_eq_ediv_of_nonneg h0;have hw:IntKind.wrap .u32 (n / 1073741824)=n / 1073741824:=qaC (by omega) (by omega);have ht2:(n / 1073741824).tmod 2=n / 1073741824 % 2:=Int.tmod_eq_emod_of_nonneg (by omega);have hw2:IntKind.wrap .u32 (n / 1073741824 % 2)=n / 1073741824 % 2:=qaC (by omega) (by omega);have hg0:(rI .u32 qfP)[0]?=some (.i .u32 3221225534):=rfl;have hl8:(rI .u32 qfP).length=6:=rfl;simp only[qcz,vI,simprocAttr];simp +decide only[↓vS,vT,simprocAttr];refine hg.sc ?_;unfold qAs
 by_cases he:t=3221225534
 ·by_cases hb:n / 1073741824 % 2=1
  ·simp +decide only[↓vS,vT,simprocAttr,hg0,eq_true he,↓zn h6,↓xR h7,ht,hw,ht2,hw2,eq_true hb];simp[vZ]
  ·simp +decide only[↓vS,vT,simprocAttr,hg0,eq_true he,↓zn h6,↓xR h7,ht,hw,ht2,hw2,hb];simp[vZ]
 ·simp +decide only[↓vS,vT,simprocAttr,hg0,he];rw[if_neg he];refine SL.loopP (α:=Nat) (fun j=>[(0,.i .u32 t),(6,.fz 6 (rI .u32 qfP)),(7,.i .i64 (j:Int))]) (fun j h=>j<=6∧h.fl=0∧xM (fun c=>decide (c=t)) (qfP.drop j) j=xM (fun c=>decide (c=t)) qfP 0) (fun j=>6-j) ?_ 0 ?_ ?_
  ·rintro j ⟨s,fl,tr⟩ ⟨hj,rfl,hI⟩ G ih;simp only[vI,simprocAttr];have hw1:IntKind.wrap .i64 ((j:Int)+1)=((j+1:Nat):Int):=by rw[qm (by omega) (by omega)];simp
   by_cases hlt:j<6
   ·have hlt':(j:Int)<6:=by omega
    obtain⟨c,hr⟩:∃c,qfP[j]?=some c:=⟨_,zzE (show j<qfP.length from hlt)⟩
    have hg:(rI .u32 qfP)[j]?=some (.i .u32 c):=by rw[qh8,hr];rfl
    have hdr:qfP.drop j=c::qfP.drop (j+1):=by rw[← (zzS.1 hr).2,List.getElem_cons_drop]
    rw[hdr] at hI;simp only[xM,decide_eq_true_eq] at hI
    by_cases he2:c=t
    ·rw[if_pos he2] at hI;rw[← hI];have hn:¬((j:Int)<0):=by omega
     simp +decide only[↓vS,vT,simprocAttr,hlt,hlt',hg,eq_true he2,Nat.mul_one,Nat.zero_add];simp[vZ,hn]
    ·rw[if_neg he2] at hI;simp +decide only[↓vS,vT,simprocAttr,hlt,hlt',hg,he2,hw1,Nat.mul_one,Nat.zero_add];exact ih (j+1) _ _ (by omega) (by simp[qe,qi,Tr.get_set]) ⟨by omega,rfl,hI⟩
   ·obtain rfl:j=6:=by omega
    have hI:(-1:Int)=xM (fun c=>decide (c=t)) qfP 0:=hI
    rw[← hI];simp +decide only[↓vS,vT,simprocAttr];simp[vZ]
  ·simp[qe,qi,Tr.get_set]
  ·exact⟨by omega,rfl,rfl⟩
def qbm:IFn:=⟨[.tmp 4],.seq (.r [.q 2 (.box (.t 0)),.q 3 (.box (.t 1)),.m 4 .F]) (.seq (.reg true [.f 5 0 2,.d 6 5,.w 7 .geq 6 0,.n 8 7,.h 9 0 2 8 true,.j 10 9 8 true,.g 11 (.bin .leq (.t 10) (.k 5)) 8 true,.p 12 8 11,.n 13 12,.h 14 0 2 13 true,.j 15 14 13 true,.h 16 3 3 13 true,.g 17 (.iAddrA 6 1 (.t 16) (.t 15)) 13 true,.j 18 17 13 true,.h 19 1 2 13 true,.j 20 19 13 true,.g 21 (.bin .and (.t 18) (.t 20)) 13 true,.h 22 2 2 13 true,.j 23 22 13 true,.g 24 (.bin .eql (.t 21) (.t 23)) 13 true,.p 25 13 24,.n 4 25]) (.ret))⟩
theorem qEl(hc:qd P f qbm=true)(t:GTest)(d:GData):qf P f [.agg (zA t),.agg (qX d)] (.b (xZ t d)):=by
 refine qf.mk hc rfl ?_;simp only[qbm,zA,qX,vI,simprocAttr]
 by_cases h0:0<=t.arg
 ·by_cases h6:t.arg<=5
  ·have h3:t.arg=0∨t.arg=1∨t.arg=2∨t.arg=3∨t.arg=4∨t.arg=5:=by omega
   rcases h3 with e|e|e|e|e|e <;>
   ·simp +decide only[↓vS,vT,simprocAttr,e];refine zg ?_;simp +decide only[↓vS,vT,simprocAttr,e];simp[vZ,xZ,qkv,e]
  ·have h6':¬t.arg<6:=by omega
   simp only[↓vS,vT,simprocAttr,h0,h6];refine zg ?_;simp only[↓vS,vT,simprocAttr,h0,h6];simp[vZ,xZ,h6']
 ·simp only[↓vS,vT,simprocAttr,h0];refine zg ?_;simp only[↓vS,vT,simprocAttr,h0];simp[vZ,xZ,h0]
def qhU(rs:List GRule)(n:Int):Int:=xM (fun r=>decide (r.nr=n)) rs 0
def qbJ:IFn:=⟨[.tmp 4],.seq (.r [.q 2 (.box (.t 0)),.m 4 (.k 0)]) (.seq (.seq (.r [.m 5 (.k 0)]) (.blk 0 (.loop (.seq (.seq (.r [.n 6 5,.f 7 1 2,.d 8 7,.e 9 8,.s 10 6 9]) (.cond (.t 10) (.skip) (.exit 0))) (.seq (.blk 1 (.seq (.r [.f 13 1 2,.d 14 13,.n 15 5,.i 16 3 14 15,.f 17 0 16,.d 18 17,.n 19 1,.b 20 .eql 18 19]) (.cond (.t 20) (.seq (.r [.n 21 5,.n 4 21]) (.ret)) (.skip)))) (.r [.n 11 5,.a 12 11 1,.n 5 12])))))) (.seq (.r [.q 4 (.mov (.c (.i .i64 (-1))))]) (.ret)))⟩
theorem qx5(hc:qd P f qbJ=true)(x:GFil)(hx:qdH x)(n:Int):qf P f [.agg (qz x),.i .u32 n] (.i .i64 (qhU x.rules n)):=by
 refine qf.mk hc (by simp[qw,clo,qz,xt]) ?_;simp only[qbJ,qz,vI,simprocAttr];simp +decide only[↓vS,vT,simprocAttr];have hxl:=hx.1;refine SL.loopP (α:=Nat) (fun j=>[(1,.i .u32 n),(2,.ptr 0 0),(5,.i .i64 (j:Int))]) (fun j h=>j<=x.rules.length∧(∃s tr,h=⟨s,0,tr⟩∧tr.get 0=some (.cells 0 true false [.i .i64 x.arch,.fz x.rules.length (rR x.rules),.i .u32 x.dflt]))∧xM (fun r=>decide (r.nr=n)) (x.rules.drop j) j=qhU x.rules n) (fun j=>x.rules.length-j) ?_ 0 ?_ ?_
 ·rintro j h ⟨hj,⟨s,tr,rfl,t0⟩,hI⟩ G ih;simp only[vI,simprocAttr];have hw1:IntKind.wrap .i64 ((j:Int)+1)=((j+1:Nat):Int):=by rw[qm (by omega) (by omega)];simp
  by_cases hlt:j<x.rules.length
  ·obtain⟨r,hr⟩:∃r,x.rules[j]?=some r:=⟨_,zzE hlt⟩;have g0:(rR x.rules)[j*3]?=some (.i .u32 r.nr):=qlY hr (i:=0) (by omega);have hdr:x.rules.drop j=r::x.rules.drop (j+1):=by rw[← (zzS.1 hr).2,List.getElem_cons_drop]
   rw[hdr] at hI;simp only[xM,decide_eq_true_eq] at hI
   by_cases he:r.nr=n
   ·rw[if_pos he] at hI;simp +decide only[↓vS,vT,simprocAttr,t0,hlt,g0,eq_true he];simp[vZ,← hI]
   ·rw[if_neg he] at hI;simp +decide only[↓vS,vT,simprocAttr,t0,hlt,g0,he,hw1];exact ih (j+1) _ _ (by omega) (by simp[qe,qi,Tr.get_set]) ⟨by omega,⟨s,tr,rfl,t0⟩,hI⟩
  ·have hd:x.rules.drop j=[]:=List.drop_eq_nil_of_le (by omega);rw[hd,xM] at hI;simp +decide only[↓vS,vT,simprocAttr,t0,hlt];simp[vZ,← hI]
 ·simp[qe,qi,Tr.get_set]
 ·exact⟨Nat.zero_le _,⟨1,_,rfl,by simp[Tr.get_set]⟩,rfl⟩
theorem qqz{rs:List GRule}{n:Int}:(qhU rs n = -1∧rs.find? (fun r=>decide (r.nr=n))=none)∨∃(i:Nat) (r:GRule),qhU rs n=(i:Int)∧rs[i]?=some r∧rs.find? (fun r=>decide (r.nr=n))=some r:=by
 have main:∀(rs:List GRule) (k:Nat),(xM (fun r:GRule=>decide (r.nr=n)) rs k = -1∧rs.find? (fun r=>decide (r.nr=n))=none)∨∃(i:Nat) (r:GRule),xM (fun r:GRule=>decide (r.nr=n)) rs k=((k+i:Nat):Int)∧rs[i]?=some r∧rs.find? (fun r=>decide (r.nr=n))=some r:=by
  intro rs
  induction rs with
  | nil=>intro k;exact .inl ⟨rfl,rfl⟩
  | cons r rs ih =>
   intro k
   by_cases h:r.nr=n
   ·exact .inr ⟨0,r,by simp[xM,h],rfl,by simp[h]⟩
   ·rcases ih (k+1) with⟨e1,e2⟩|⟨i,y,e1,e2,e3⟩
    ·exact .inl ⟨by simp[xM,h,e1],by simp[h,e2]⟩
    ·exact .inr ⟨i+1,y,by simp[xM,h,e1];omega,by simpa using e2,by simp[h,e3]⟩
 have:=main rs 0;simpa[qhU] using this
def qaQ(a b c:Nat):IFn:=⟨[.tmp 4],.seq (.r [.q 2 (.box (.t 0)),.q 3 (.box (.t 1)),.m 4 (.c (.i .u32 0))]) (.seq (.r [.f 11 1 3,.d 12 11,.f 13 0 3,.d 14 13,.l 15 a [.t 12,.t 14],.n 10 15,.x 16 10 0,.x 17 10 1,.n 5 16,.n 6 17]) (.seq (.seq (.r [.n 18 6,.q 19 (.un .not (.t 18)),.n 20 19,.z 21 5 20,.h 22 0 2 20 false,.j 23 22 20 false,.g 24 (.bin .neq (.t 21) (.t 23)) 20 false,.o 25 20 24]) (.cond (.t 25) (.seq (.r [.m 4 (.c (.i .u32 2147418112))]) (.ret)) (.skip))) (.seq (.r [.v 26 3 2,.f 27 0 3,.d 28 27,.l 29 b [.t 26,.t 28],.n 7 29]) (.seq (.seq (.r [.n 30 7,.w 31 .lss 30 0]) (.cond (.t 31) (.seq (.r [.f 32 2 2,.d 33 32,.n 4 33]) (.ret)) (.skip))) (.seq (.r [.f 34 1 2,.d 35 34,.n 36 7,.i 37 3 35 36,.v 38 3 37,.q 8 (.alloc [.i .u32 0,.nils,.i .u32 0]),.u (.store 3 (.t 8) (.t 38))]) (.seq (.seq (.r [.m 9 (.k 0)]) (.blk 0 (.loop (.seq (.seq (.r [.n 39 9,.f 40 1 8,.d 41 40,.e 42 41,.s 43 39 42]) (.cond (.t 43) (.skip) (.exit 0))) (.seq (.blk 1 (.seq (.reg true [.f 46 1 8,.d 47 46,.n 48 9,.i 49 4 47 48,.v 50 4 49,.v 51 9 3,.l 52 c [.t 50,.t 51]]) (.cond (.t 52) (.seq (.r [.f 53 1 8,.d 54 53,.n 55 9,.i 56 4 54 55,.f 57 3 56,.d 58 57,.n 4 58]) (.ret)) (.skip)))) (.r [.n 44 9,.a 45 44 1,.n 9 45])))))) (.seq (.r [.f 59 2 8,.d 60 59,.n 4 60]) (.ret))))))))⟩
set_option maxRecDepth 8000 in
theorem qC6{g1 g2 g3:Nat}(hc:qd P f (qaQ g1 g2 g3)=true)(h1:∀t n:Int,0<=n->n<=4294967295->qf P g1 [.i .u32 t,.i .u32 n] (.tup [.i .i64 (ofM t n).1,.b (ofM t n).2]))(h2:∀x,qdH x->∀n:Int,qf P g2 [.agg (qz x),.i .u32 n] (.i .i64 (qhU x.rules n)))(h3:∀t d,qf P g3 [.agg (zA t),.agg (qX d)] (.b (xZ t d)))
  (x:GFil) (hx:qdH x) (d:GData) (hd:DatOk d):qf P f [.agg (qz x),.agg (qX d)] (.i .u32 (qkw x d)):=by
 refine qf.mk hc (by simp[qw,clo,qz,qX,xt]) ?_;have hof:=h1 d.arch d.nr hd.nr0 hd.nr1;have hfi:=h2 x hx d.nr;simp only[qaQ,qz,qX,vI,simprocAttr] at hfi ⊢;simp +decide only[↓vS,vT,simprocAttr];refine hof.sc ?_;rw[qhb];generalize ofM d.arch d.nr=q;obtain⟨a,b⟩:=q;cases b with
 | false =>
  simp +decide only[↓vS,vT,simprocAttr];simp[vZ]
 | true =>
  by_cases ha:a=x.arch
  ·rw[if_neg (show ¬(((a,true):Int×Bool).2=false∨((a,true):Int×Bool).1≠x.arch) from by simp[ha])]
   simp +decide only[↓vS,vT,simprocAttr,eq_true ha];refine hfi.sc ?_;rcases qqz (rs:=x.rules) (n:=d.nr) with⟨e1,e2⟩|⟨i,r,e1,e2,e3⟩
   ·rw[e1,e2];simp +decide only[↓vS,vT,simprocAttr];simp[vZ]
   ·rw[e1,e3];have hi:=(zzS.1 e2).1;have hn:¬((i:Int)<0):=by omega
    have hel:=qeT e2;have h3':i*3+3<=(rR x.rules).length:=by rw[qgW];omega
    have hrt:=hx.2 r (zzM e2);dsimp only;generalize hF:fnd (fun t=>xZ t d) r.act r.tests=F
    simp +decide only[↓vS,vT,simprocAttr,hn,hi,hel,h3',qB];refine SL.loopP (α:=Nat) (fun j=>[(3,.ptr 1 0),(8,.ptr 2 0),(9,.i .i64 (j:Int))]) (fun j h=>j<=r.tests.length∧(∃s tr,h=⟨s,0,tr⟩∧tr.get 1=some (.cells 0 true false (qX d))∧tr.get 2=some (.cells 0 true false [.i .u32 r.nr,.fz r.tests.length (rT r.tests),.i .u32 r.act]))∧fnd (fun t=>xZ t d) r.act (r.tests.drop j)=F) (fun j=>r.tests.length-j) ?_ 0 ?_ ?_
    ·rintro j h ⟨hj,⟨s,tr,rfl,t1,t2⟩,hI⟩ G ih;simp only[vI,simprocAttr];have hw1:IntKind.wrap .i64 ((j:Int)+1)=((j+1:Nat):Int):=by rw[qm (by omega) (by omega)];simp
     by_cases hlt:j<r.tests.length
     ·obtain⟨t,hr⟩:∃t,r.tests[j]?=some t:=⟨_,zzE hlt⟩;have hte:=qf8 hr;have hb:=qfH hlt;have g3:(rT r.tests)[j*4+3]?=some (.i .u32 t.act):=qol hr (i:=3) (by omega);have hdr:r.tests.drop j=t::r.tests.drop (j+1):=by rw[← (zzS.1 hr).2,List.getElem_cons_drop]
      have hh:=h3 t d;simp only[zA] at hh;rw[hdr,qcv] at hI;simp +decide only[↓vS,vT,simprocAttr,t2,hlt];refine zg ?_;simp +decide only[↓vS,vT,simprocAttr,t1,t2,hlt,hte,hb,zA,qsc,qxX];refine hh.pc ?_;cases hq:xZ t d with
      | true =>
       rw[hq,if_pos rfl] at hI;simp +decide only[↓vS,vT,simprocAttr,t2,hlt,g3];simp[vZ,hI]
      | false =>
       rw[hq,if_neg (by decide)] at hI;simp +decide only[↓vS,vT,simprocAttr,t2,hlt,hw1];exact ih (j+1) _ _ (by omega) (by simp[qe,qi,Tr.get_set]) ⟨by omega,⟨s,tr,rfl,t1,t2⟩,hI⟩
     ·have hdn:r.tests.drop j=[]:=List.drop_eq_nil_of_le (by omega);rw[hdn,qhe] at hI;simp +decide only[↓vS,vT,simprocAttr,t2,hlt];simp[vZ,hI]
    ·simp[qe,qi,Tr.get_set]
    ·refine⟨Nat.zero_le _,⟨3,_,rfl,?_,?_⟩,hF⟩<;>simp[Tr.get_set,qX]
  ·simp +decide only[↓vS,vT,simprocAttr,ha];simp[vZ,ha]
def TV(s bo:Nat)(tr:Tr Blk)(ts:List GTest)(v:AV):Prop:=∃b,v = .own b ts.length∧3<=b∧b<s∧b≠bo∧tr.get b=some (.cells 4 true true (rT ts))
def cCp(p:GRule×AV):List AV:=[.i .u32 p.1.nr,p.2,.i .u32 p.1.act]
theorem qvf(p:GRule×AV):(cCp p).length=3:=rfl
def rCp(l:List (GRule×AV)):List AV:=l.flatMap cCp
theorem qw3{l:List (GRule×AV)}:(rCp l).length=l.length*3:=zt qvf l
def CpI(s bo:Nat)(tr:Tr Blk)(l:List (GRule×AV)):Prop:=(∀p ∈ l,TV s bo tr p.1.tests p.2)∧(l.length≠0->tr.get bo=some (.cells 3 true true (rCp l))∧3<=bo∧bo<s)
theorem TV.keep{s s' bo bo':Nat}{tr tr':Tr Blk}{ts:List GTest}{v:AV}(h:TV s bo tr ts v)(hs:s<=s')(hb:s<=bo'∨bo'=bo)(hk:∀c,c<s->c≠bo->3<=c->tr'.get c=tr.get c):TV s' bo' tr' ts v:=by
 obtain⟨b,h1,h3,h4,h5,h6⟩:=h;exact⟨b,h1,h3,by omega,by omega,by rw[hk b h4 h5 h3];exact h6⟩
theorem qsp{s bo:Nat}{fl:Nat}{tr:Tr Blk}:∀{l:List (GRule×AV)},(∀p ∈ l,TV s bo tr p.1.tests p.2)->Frzs ⟨s,fl,tr⟩ (rCp l) (rR (l.map (·.1)))
 | [],_=>.nil
 | p::l,h=>by
  have hp:=h p (List.mem_cons_self ..);have ih:=qsp (fl:=fl) fun q hq=>h q (List.mem_cons_of_mem _ hq)
  have hv:Frz ⟨s,fl,tr⟩ p.2 (.fz p.1.tests.length (rT p.1.tests)):=by
   obtain⟨b,e,_,_,_,e3⟩:=hp;rw[e];exact .own b _ 4 true _ _ e3 (fun z=>by rw[List.eq_nil_of_length_eq_zero z];rfl) (Frzs.self xW)
  exact .cons _ _ _ _ (.i _ _) (.cons _ _ _ _ hv (.cons _ _ _ _ (.i _ _) ih))
def qbI:IFn:=⟨[.cell 2 3 true],.seq (.r [.q 1 (.box (.t 0)),.q 2 (.alloc [.i .i64 0,.nils,.i .u32 0])]) (.seq (.r [.f 7 0 1,.d 8 7,.f 9 2 1,.d 10 9,.q 11 (.build [.i .i64 0,.nils,.i .u32 0] [(0,1,(.t 8)),(2,1,(.t 10))]),.q 3 (.alloc [.i .i64 0,.nils,.i .u32 0]),.u (.store 3 (.t 3) (.t 11))]) (.seq (.seq (.r [.m 4 (.k 0)]) (.blk 0 (.loop (.seq (.seq (.r [.n 12 4,.f 13 1 1,.d 14 13,.e 15 14,.s 16 12 15]) (.cond (.t 16) (.skip) (.exit 0))) (.seq (.blk 1 (.seq (.r [.f 19 1 1,.d 20 19,.n 21 4,.i 22 3 20 21,.v 23 3 22,.q 5 (.alloc [.i .u32 0,.nils,.i .u32 0]),.u (.store 3 (.t 5) (.t 23))]) (.seq (.r [.m 6 .N]) (.seq (.r [.n 24 6,.f 25 1 1,.d 26 25,.n 27 4,.i 28 3 26 27,.f 29 1 28,.d 30 29,.q 31 (.app 4 32 true (.t 24) (.t 30)),.n 6 31]) (.seq (.r [.n 32 6,.f 33 1 5,.u (.store 1 (.t 33) (.t 32))]) (.r [.f 34 1 3,.d 35 34,.v 36 3 5,.q 37 (.buildS 1 [.i .u32 0,.nils,.i .u32 0] [(0,3,(.t 36))]),.q 38 (.app 3 40 true (.t 35) (.t 37)),.f 39 1 3,.u (.store 1 (.t 39) (.t 38))])))))) (.r [.n 17 4,.a 18 17 1,.n 4 18])))))) (.seq (.r [.v 40 3 3,.u (.store 3 (.t 2) (.t 40))]) (.ret))))⟩
theorem qEF(hc:qd P f qbI=true)(x:GFil)(hx:qdH x):qf P f [.agg (qz x)] (.agg (qz x)):=by
 refine qf.mk hc (by simp[qw,clo,qz,xt]) ?_;have hxl:=hx.1;simp only[qbI,qz,vI,simprocAttr];simp +decide only[↓vS,vT,simprocAttr]
 refine SL.loopP (α:=Nat×Nat×List (GRule×AV)) (fun i=>[(1,.ptr 0 0),(2,.ptr 1 0),(3,.ptr 2 0),(4,.i .i64 (i.1:Int))])
  (fun i h=>i.1<=x.rules.length∧i.2.2.map (fun p:GRule×AV=>p.1)=x.rules.take i.1∧∃s tr,h=⟨s,0,tr⟩∧3<=s∧tr.get 0=some (.cells 0 true false [.i .i64 x.arch,.fz x.rules.length (rR x.rules),.i .u32 x.dflt])∧(∃a b c,tr.get 1=some (.cells 0 true false [a,b,c])) ∧
   tr.get 2=some (.cells 0 true false [.i .i64 x.arch,qam i.2.2.length i.2.1,.i .u32 x.dflt])∧CpI s i.2.1 tr i.2.2∧(i.2.2.length=0->i.2.1=2)) (fun i=>x.rules.length-i.1) ?_ (0,2,[]) ?_ ?_
 ·rintro⟨i,bo,l⟩ h ⟨hi,hlm,s,tr,rfl,hs,t0,⟨a,b,c,t1⟩,t2,⟨hv,hrow⟩,hbo⟩ G ih;simp only at hi hlm t2 hv hrow hbo;simp only[vI,simprocAttr];have hll:l.length=i:=by have:=congrArg List.length hlm;rw[List.length_map,List.length_take] at this;omega
  by_cases hlt:i<x.rules.length
  ·obtain⟨r,hr⟩:∃r,x.rules[i]?=some r:=⟨_,zzE hlt⟩;have hrt:=hx.2 r (zzM hr);have hel:=qeT hr;have h3:i*3+3<=(rR x.rules).length:=by rw[qgW];omega
   have g1:=qj8 hr;have hw1:IntKind.wrap .i64 ((i:Int)+1)=((i+1:Nat):Int):=by rw[qm (by omega) (by omega)];simp
   have n0:¬0=s:=by omega
   have n1:¬1=s:=by omega
   have n2:¬2=s:=by omega
   have b0:bo≠0∧bo≠1:=by
    by_cases hz:l.length=0
    ·rw[hbo hz];decide
    ·have q:3<=bo:=(hrow hz).2.1;omega
   have hlm2:∀v:AV,(l++[(r,v)]).map (fun p:GRule×AV=>p.1)=x.rules.take (i+1):=fun v=>by rw[List.map_append,hlm,jp hr];rfl
   have fin:∀(s2:Nat) (v:AV) tf tt,s<s2->(∀c,c<s->c≠2->c≠bo->tf.get c=tr.get c)->tf.get 2=some (.cells 0 true false [.i .i64 x.arch,.own s2 (l.length+1),.i .u32 x.dflt])->tf.get s2=some (.cells 3 true true (rCp l++[.i .u32 r.nr,v,.i .u32 r.act]))->TV (s2+1) s2 tf r.tests v->Has tt [(1,.ptr 0 0),(2,.ptr 1 0),(3,.ptr 2 0),(4,.i .i64 ((i+1:Nat):Int))]->G tt ⟨s2+1,0,tf⟩:=fun s2 v tf tt hs2 q1 q2 q3 q4 q5=>by
    refine ih (i+1,s2,l++[(r,v)]) _ _ (by simp only;omega) q5 ⟨by simp only;omega,hlm2 v,_,tf,rfl,by omega,(q1 0 (by omega) (by decide) (Ne.symm b0.1)).trans t0,⟨a,b,c,(q1 1 (by omega) (by decide) (Ne.symm b0.2)).trans t1⟩,?_,⟨fun p hp=>?_,fun _=>⟨?_,by simp only;omega,by simp only;omega⟩⟩,fun h=>?_⟩
    ·simp only[List.length_append,List.length_singleton];rw[q2];simp[qam]
    ·rcases List.mem_append.1 hp with hp|hp
     ·exact (hv p hp).keep (by omega) (by simp only;omega) fun c c1 c2 c3=>q1 c c1 (by omega) c2
     ·rw[List.mem_singleton] at hp;subst hp;exact q4
    ·simp only;rw[q3];simp[rCp,cCp]
    ·simp at h
   have n3:¬s=s+1:=by omega
   have n4:¬2=s+1:=by omega
   have n5:¬2=s+1+1:=by omega
   have n6:¬s=2:=by omega
   have n7:¬s=s+1+1:=by omega
   have n8:¬2=s+1+1+1:=by omega
   have n9:¬s+1=s+1+1:=by omega
   have m0:¬0=s+1:=by omega
   have k1:r.tests.length<=qh:=by simp only[qh];omega
   have k2:r.tests.length*32<=qh:=by simp only[qh];omega
   have htl:(rT r.tests).length=r.tests.length*4:=qgX;have htk:List.take (r.tests.length*4) (rT r.tests)=rT r.tests:=List.take_of_length_le (by rw[qgX];omega)
   by_cases hz:l.length=0
   ·have hV:qam l.length bo = .nils:=by simp[qam,hz]
    have hln:l=[]:=List.eq_nil_of_length_eq_zero hz;rw[hV] at t2;simp +decide only[↓vS,vT,simprocAttr,t0,t2,hlt,hel,h3,g1,qB,k1,k2,htl,htk,n0,n1,n2,n3,n4,n5,n6,n7,n8,n9,m0,hw1];refine fin (s+1+1+1) (.own (s+1) r.tests.length) _ _ (by omega) (fun c c1 c2 c3=>?_) ?_ ?_ ⟨s+1,rfl,by omega,by omega,by omega,?_⟩ (by simp[qe,qi,Tr.get_set])
    ·simp only[Tr.get_set];repeat rw[if_neg (by omega)]
    ·rw[Tr.get_set,if_pos rfl,hz]
    ·simp only[Tr.get_set];rw[if_neg (by omega)];simp[hln,rCp]
    ·simp only[Tr.get_set];repeat rw[if_neg (by omega)]
     simp
   ·obtain⟨o1,o2,o3⟩:=hrow hz;have hV:qam l.length bo = .own bo l.length:=by simp[qam,hz]
    rw[hV] at t2;have p1:¬bo=s:=by omega
    have p2:¬bo=s+1:=by omega
    have p3:¬s+1=bo:=by omega
    have p4:¬2=bo:=by omega
    have p5:¬bo=s+1+1:=by omega
    have p6:¬s+1+1=bo:=by omega
    have p7:¬s=bo:=by omega
    have rr1:l.length+1<=qh:=by simp only[qh];omega
    have rr2:(l.length+1)*40<=qh:=by simp only[qh];omega
    have hrl:(rCp l).length=l.length*3:=qw3;simp +decide only[↓vS,vT,simprocAttr,t0,t2,hlt,hel,h3,g1,qB,k1,k2,htl,htk,o1,p1,p2,p3,p4,p5,p6,p7,rr1,rr2,hrl,n0,n1,n2,n3,n4,n5,n6,n7,n8,n9,m0,hw1];refine fin (s+1+1+1) (.own (s+1) r.tests.length) _ _ (by omega) (fun c c1 c2 c3=>?_) ?_ ?_ ⟨s+1,rfl,by omega,by omega,by omega,?_⟩ (by simp[qe,qi,Tr.get_set])
    ·simp only[Tr.get_set];repeat rw[if_neg (by omega)]
    ·rw[Tr.get_set,if_pos rfl]
    ·simp only[Tr.get_set];rw[if_neg (by omega)];simp
    ·simp only[Tr.get_set];repeat rw[if_neg (by omega)]
     simp
  ·obtain rfl:i=x.rules.length:=by omega
   rw[List.take_length] at hlm
   by_cases hz:l.length=0
   ·have hV:qam l.length bo = .nils:=by simp[qam,hz]
    have hln:l=[]:=List.eq_nil_of_length_eq_zero hz;rw[hV] at t2;rw[hln,List.map_nil] at hlm;simp +decide only[↓vS,vT,simprocAttr,t0,t1,t2,hlt];simp[vZ,vP,Tr.get_set,rR,← hlm]
   ·obtain⟨o1,o2,o3⟩:=hrow hz;have hV:qam l.length bo = .own bo l.length:=by simp[qam,hz]
    have hfr:=fun B=>qsp (s:=s) (bo:=bo) (fl:=0) (tr:=tr.set 1 B) fun p hp=>(hv p hp).keep (Nat.le_refl _) (.inr rfl) fun c _ _ c3=>by rw[Tr.get_set,if_neg (by omega)]
    rw[hlm] at hfr;rw[hV,hll] at t2;simp +decide only[↓vS,vT,simprocAttr,t0,t1,t2,hlt];exact .agg _ _ (.cons _ _ _ _ (.i _ _) (.cons _ _ _ _ (.own bo _ 3 true _ _ (by rw[Tr.get_set,if_neg (by omega)];exact o1) (fun z=>absurd (hll.trans z) hz) (hfr _)) (.cons _ _ _ _ (.i _ _) .nil)))
 ·simp[qe,qi,Tr.get_set]
 ·refine⟨Nat.zero_le _,rfl,3,_,rfl,by omega,?_,⟨.i .i64 0,.nils,.i .u32 0,?_⟩,?_,⟨fun p hp=>(by cases hp),fun h=>absurd rfl h⟩,fun _=>rfl⟩<;>simp[Tr.get_set,qam]
theorem qoS{v m:Int}(hv:0<=v∧v<18446744073709551616):qfd .u64 v m=0↔jq .u64 v m=v:=by
 refine⟨qoR hv,fun h=>?_⟩
 obtain⟨a,rfl⟩:=Int.eq_ofNat_of_zero_le hv.1;have h1:IntKind.wrap .u64 (((BitVec.ofInt 64 (a:Int)) &&& (BitVec.ofInt 64 m)).toNat:Int)=(a:Int):=h;have hlt:=((BitVec.ofInt 64 (a:Int)) &&& (BitVec.ofInt 64 m)).isLt;rw[qaX (by omega) (by omega)] at h1
 have h2:(BitVec.ofInt 64 (a:Int)) &&& (BitVec.ofInt 64 m)=BitVec.ofInt 64 (a:Int):=BitVec.eq_of_toNat_eq (by
  rw[BitVec.ofInt_natCast,BitVec.toNat_ofNat,Nat.mod_eq_of_lt (by omega)];rw[BitVec.ofInt_natCast] at h1;omega)
 have bv:∀X Y:BitVec 64,X &&& Y=X->X &&& ~~~ Y=0#64:=fun X Y h2=>by
  apply BitVec.eq_of_getLsbD_eq;intro i hi;have:=congrArg (fun b=>b.getLsbD i) h2
  simp only[BitVec.getLsbD_and] at this;simp only[BitVec.getLsbD_and,BitVec.getLsbD_not,hi,decide_true,Bool.true_and,BitVec.getLsbD_zero];revert this;cases X.getLsbD i<;>cases Y.getLsbD i<;>simp
 have h3:=bv _ _ h2;show IntKind.wrap .u64 (((BitVec.ofInt 64 (a:Int)) &&& ~~~ (BitVec.ofInt 64 m)).toNat:Int)=0;rw[h3];rfl
def qb3(a:Nat):IFn:=⟨[.tmp 2],.seq (.r [.q 1 (.box (.t 0)),.m 2 .F]) (.seq (.seq (.r [.f 7 0 1,.d 8 7,.w 9 .lss 8 0,.n 10 9,.h 11 0 1 10 false,.j 12 11 10 false,.g 13 (.bin .gtr (.t 12) (.k 5)) 10 false,.o 14 10 13,.n 15 14,.h 16 1 1 15 false,.j 17 16 15 false,.g 18 (.len false (.t 17)) 15 false,.g 19 (.bin .gtr (.t 18) (.k 400)) 15 false,.o 20 15 19,.n 21 20,.h 22 2 1 21 false,.j 23 22 21 false,⟨(some 24),.callF a [.t 23],(some (21,false))⟩,.g 25 (.un .not (.t 24)) 21 false,.o 26 21 25]) (.cond (.t 26) (.seq (.r [.m 2 .F]) (.ret)) (.skip))) (.seq (.seq (.r [.m 3 (.k 0)]) (.blk 0 (.loop (.seq (.seq (.r [.n 27 3,.f 28 1 1,.d 29 28,.e 30 29,.s 31 27 30]) (.cond (.t 31) (.skip) (.exit 0))) (.seq (.blk 1 (.seq (.r [.f 34 1 1,.d 35 34,.n 36 3,.i 37 3 35 36,.v 38 3 37,.q 4 (.alloc [.i .u32 0,.nils,.i .u32 0]),.u (.store 3 (.t 4) (.t 38))]) (.seq (.seq (.reg true [.n 39 3,.w 40 .gtr 39 0,.n 41 40,.h 42 1 1 41 true,.j 43 42 41 true,.y 44 3 41,.g 45 (.bin .sub (.t 44) (.k 1)) 41 true,.g 46 (.iAddrS 3 (.t 43) (.t 45)) 41 true,.h 47 0 46 41 true,.j 48 47 41 true,.h 49 0 4 41 true,.j 50 49 41 true,.g 51 (.bin .geq (.t 48) (.t 50)) 41 true,.p 52 41 51,.n 53 52,.h 54 1 4 53 false,.j 55 54 53 false,.g 56 (.len false (.t 55)) 53 false,.g 57 (.bin .gtr (.t 56) (.k 32)) 53 false,.o 58 53 57,.n 59 58,.h 60 2 4 59 false,.j 61 60 59 false,⟨(some 62),.callF a [.t 61],(some (59,false))⟩,.g 63 (.un .not (.t 62)) 59 false,.o 64 59 63]) (.cond (.t 64) (.seq (.r [.m 2 .F]) (.ret)) (.skip))) (.seq (.r [.m 5 (.k 0)]) (.blk 2 (.loop (.seq (.seq (.r [.n 65 5,.f 66 1 4,.d 67 66,.e 68 67,.s 69 65 68]) (.cond (.t 69) (.skip) (.exit 2))) (.seq (.blk 3 (.seq (.r [.f 72 1 4,.d 73 72,.n 74 5,.i 75 4 73 74,.v 76 4 75,.q 6 (.alloc [.i .i64 0,.i .u64 0,.i .u64 0,.i .u32 0]),.u (.store 4 (.t 6) (.t 76))]) (.seq (.r [.f 77 0 6,.d 78 77,.w 79 .lss 78 0,.n 80 79,.h 81 0 6 80 false,.j 82 81 80 false,.g 83 (.bin .gtr (.t 82) (.k 5)) 80 false,.o 84 80 83,.n 85 84,.h 86 2 6 85 false,.j 87 86 85 false,.h 88 1 6 85 false,.j 89 88 85 false,.g 90 (.bin .and (.t 87) (.t 89)) 85 false,.h 91 2 6 85 false,.j 92 91 85 false,.g 93 (.bin .neq (.t 90) (.t 92)) 85 false,.o 94 85 93,.n 95 94,.h 96 3 6 95 false,.j 97 96 95 false,⟨(some 98),.callF a [.t 97],(some (95,false))⟩,.g 99 (.un .not (.t 98)) 95 false,.o 100 95 99]) (.cond (.t 100) (.seq (.r [.m 2 .F]) (.ret)) (.skip))))) (.r [.n 70 5,.a 71 70 1,.n 5 71]))))))))) (.r [.n 32 3,.a 33 32 1,.n 3 33])))))) (.seq (.r [.m 2 .T]) (.ret))))⟩
theorem qFE{g:Nat}(hc:qd P f (qb3 g)=true)(hg:∀n:Int,0<=n->n<=4294967295->qf P g [.i .u32 n] (.b (knA n)))(x:GFil)(hx:qdH x)(hR:FilR x)(hU:FilU x):qf P f [.agg (qz x)] (.b (xp x)):=by
 refine qf.mk hc (by simp[qw,clo,qz,xt]) ?_;have hxl:=hx.1;have hkd:=hg x.dflt hU.d.1 hU.d.2;generalize hF:xp x=F;simp only[qb3,qz,vI,simprocAttr]
 by_cases k1:x.arch<0
 ·have hw:F=false:=by rw[← hF];simp only[xp,decide_eq_false (by omega:¬0<=x.arch)];simp
  simp +decide only[↓vS,vT,simprocAttr,k1];simp[vZ,hw]
 by_cases k2:5<x.arch
 ·have hw:F=false:=by rw[← hF];simp only[xp,decide_eq_false (by omega:¬x.arch<6)];simp
  simp +decide only[↓vS,vT,simprocAttr,k1,k2];simp[vZ,hw]
 by_cases k3:400<x.rules.length
 ·have hw:F=false:=by rw[← hF];simp only[xp,decide_eq_false (by omega:¬x.rules.length<=400)];simp
  have k3':(400:Int)<x.rules.length:=by omega
  simp +decide only[↓vS,vT,simprocAttr,k1,k2,k3'];simp[vZ,hw]
 have k3':¬(400:Int)<x.rules.length:=by omega
 simp +decide only[↓vS,vT,simprocAttr,k1,k2,k3'];refine hkd.sc ?_;cases k4:knA x.dflt with
 | false =>
  have hw:F=false:=by rw[← hF];simp[xp,k4]
  simp +decide only[↓vS,vT,simprocAttr];simp[vZ,hw]
 | true =>
  have hup:upR none x.rules=F:=by
   rw[← hF];simp only[xp,k4,decide_eq_true (by omega:0<=x.arch),decide_eq_true (by omega:x.arch<6),decide_eq_true (by omega:x.rules.length<=400),Bool.true_and]
  simp +decide only[↓vS,vT,simprocAttr];refine SL.loopP (α:=Nat×Option GRule) (fun j=>[(1,.ptr 0 0),(3,.i .i64 (j.1:Int))]) (fun j h=>j.1<=x.rules.length∧(∃s tr,h=⟨s,0,tr⟩∧1<=s∧tr.get 0=some (.cells 0 true false [.i .i64 x.arch,.fz x.rules.length (rR x.rules),.i .u32 x.dflt]))∧upR j.2 (x.rules.drop j.1)=F∧((j.1=0∧j.2=none)∨∃i b,j.1=i+1∧j.2=some b∧x.rules[i]?=some b)) (fun j=>x.rules.length-j.1) ?_ (0,none) ?_ ?_
  ·rintro⟨j,o⟩ h ⟨hj,⟨s,tr,rfl,hs,t0⟩,hI,ho⟩ G ih;simp only at hj hI ho;simp only[vI,simprocAttr];have hw1:IntKind.wrap .i64 ((j:Int)+1)=((j+1:Nat):Int):=by rw[qm (by omega) (by omega)];simp
   by_cases hlt:j<x.rules.length
   ·obtain⟨r,hr⟩:∃r,x.rules[j]?=some r:=⟨_,zzE hlt⟩;have hrm:=zzM hr;have hrt:=hx.2 r hrm;have hel:=qeT hr;have h3:j*3+3<=(rR x.rules).length:=by rw[qgW];omega
    have hdr:x.rules.drop j=r::x.rules.drop (j+1):=by rw[← (zzS.1 hr).2,List.getElem_cons_drop]
    have hkr:=hg r.act (hU.r r hrm).1 (hU.r r hrm).2;rw[hdr,upR] at hI;have n0:¬0=s:=by omega
    have n1:¬s=0:=by omega
    rcases ho with⟨e0,rfl⟩|⟨i0,b,e0,rfl,hb⟩
    simp only[Option.elim,Bool.and_true] at hI;have j0:¬(0:Int)<(j:Int):=by omega
    have jw:=hlt;have gb:=hlt;have ob:=hlt;have hi0:=hlt;have ob2:=hlt
    rotate_left
    have j0:(0:Int)<(j:Int):=by omega
    have hi0:i0<x.rules.length:=by omega
    have jw:IntKind.wrap .i64 ((j:Int)-1)=(i0:Int):=by rw[qm (by omega) (by omega)];omega
    have gb:(rR x.rules)[i0*3]?=some (.i .u32 b.nr):=qlY hb (i:=0) (by omega);simp only[Option.elim] at hI
    by_cases ob:r.nr<=b.nr
    ·have hw:F=false:=by rw[← hI];simp[show ¬b.nr<r.nr from by omega]
     simp +decide only[↓vS,vT,simprocAttr,t0,hlt,h3,hel,qB,n0,n1,j0,hi0,jw,gb,ob];refine zg ?_;simp +decide only[↓vS,vT,simprocAttr,t0,hlt,h3,hel,qB,n0,n1,j0,hi0,jw,gb,ob];simp[vZ,hw]
    have ob2:b.nr<r.nr:=by omega
    all_goals
     by_cases q1:32<r.tests.length
     ·have hw:F=false:=by rw[← hI];simp[qak,show ¬r.tests.length<=32 from by omega]
      have q1':(32:Int)<r.tests.length:=by omega
      simp +decide only[↓vS,vT,simprocAttr,t0,hlt,h3,hel,qB,n0,n1,j0,hi0,jw,gb,ob];refine zg ?_;simp +decide only[↓vS,vT,simprocAttr,t0,hlt,h3,hel,qB,n0,n1,q1',j0,hi0,jw,gb,ob];simp[vZ,hw]
     have q1':¬(32:Int)<r.tests.length:=by omega
     simp +decide only[↓vS,vT,simprocAttr,t0,hlt,h3,hel,qB,n0,n1,j0,hi0,jw,gb,ob];refine zg ?_;simp +decide only[↓vS,vT,simprocAttr,t0,hlt,h3,hel,qB,n0,n1,q1',j0,hi0,jw,gb,ob];refine hkr.pc ?_;cases q2:knA r.act with
     | false =>
      have hw:F=false:=by rw[← hI];simp[qak,q2]
      simp +decide only[↓vS,vT,simprocAttr];simp[vZ,hw]
     | true =>
      have hI2:(r.tests.all zS&&upR (some r) (x.rules.drop (j+1)))=F:=by
       rw[← hI];simp[qak,q2,decide_eq_true (by omega:r.tests.length<=32),ob2]
      simp +decide only[↓vS,vT,simprocAttr];refine SL.loopP (α:=Nat) (fun i=>[(1,.ptr 0 0),(3,.i .i64 (j:Int)),(4,.ptr s 0),(5,.i .i64 (i:Int))]) (fun i h=>i<=r.tests.length∧(∃s' tr',h=⟨s',0,tr'⟩∧s<s'∧tr'.get 0=some (.cells 0 true false [.i .i64 x.arch,.fz x.rules.length (rR x.rules),.i .u32 x.dflt])∧tr'.get s=some (.cells 0 true false [.i .u32 r.nr,.fz r.tests.length (rT r.tests),.i .u32 r.act]))∧((r.tests.drop i).all zS&&upR (some r) (x.rules.drop (j+1)))=F) (fun i=>r.tests.length-i) ?_ 0 ?_ ?_
      ·rintro i h ⟨hi,⟨s',tr',rfl,hs',u0,u1⟩,hJ⟩ G' ih';simp only[vI,simprocAttr];have hw2:IntKind.wrap .i64 ((i:Int)+1)=((i+1:Nat):Int):=by rw[qm (by omega) (by omega)];simp
       by_cases hlt2:i<r.tests.length
       ·obtain⟨t,ht⟩:∃t,r.tests[i]?=some t:=⟨_,zzE hlt2⟩;have htm:=zzM ht;have hte:=qf8 ht;have hb4:=qfH hlt2;have htr:=hR.ts r hrm t htm;have hkt:=hg t.act (hU.t r hrm t htm).1 (hU.t r hrm t htm).2;have hdt:r.tests.drop i=t::r.tests.drop (i+1):=by rw[← (zzS.1 ht).2,List.getElem_cons_drop]
        have hci:=qoS (v:=t.val) (m:=t.mask) ⟨htr.2.2.1,htr.2.2.2⟩;rw[hdt,List.all_cons] at hJ;have m0:¬0=s':=by omega
        have m1:¬s=s':=by omega
        have m2:¬s'=s:=by omega
        by_cases z1:t.arg<0
        ·have hw:F=false:=by rw[← hJ];simp[zS,show ¬0<=t.arg from by omega]
         simp +decide only[↓vS,vT,simprocAttr,u0,u1,hlt2,hte,hb4,zA,m0,m1,z1];simp[vZ,hw]
        by_cases z2:5<t.arg
        ·have hw:F=false:=by rw[← hJ];simp[zS,show ¬t.arg<6 from by omega]
         simp +decide only[↓vS,vT,simprocAttr,u0,u1,hlt2,hte,hb4,zA,m0,m1,z1,z2];simp[vZ,hw]
        by_cases z3:jq .u64 t.val t.mask=t.val
        ·simp +decide only[↓vS,vT,simprocAttr,u0,u1,hlt2,hte,hb4,zA,m0,m1,z1,z2,eq_true z3];refine hkt.sc ?_;cases z4:knA t.act with
         | false =>
          have hw:F=false:=by rw[← hJ];simp[zS,z4]
          simp +decide only[↓vS,vT,simprocAttr];simp[vZ,hw]
         | true =>
          have hK:zS t=true:=by simp[zS,z4,hci.2 z3,show 0<=t.arg from by omega,show t.arg<6 from by omega]
          rw[hK,Bool.true_and] at hJ;simp +decide only[↓vS,vT,simprocAttr,hw2];refine ih' (i+1) _ _ (by omega) (by simp[qe,qi,Tr.get_set]) ⟨by omega,⟨s'+1,_,rfl,by omega,?_,?_⟩,hJ⟩
          ·simp only[Tr.get_set];repeat rw[if_neg (by omega)]
           exact u0
          ·simp only[Tr.get_set];repeat rw[if_neg (by omega)]
           exact u1
        ·have hK:zS t=false:=by simp only[zS,decide_eq_false (fun z=>z3 (hci.1 z)),Bool.and_false,Bool.false_and]
         have hw:F=false:=by rw[← hJ,hK];rfl
         simp +decide only[↓vS,vT,simprocAttr,u0,u1,hlt2,hte,hb4,zA,m0,m1,z1,z2,z3];simp[vZ,hw]
       ·have hd:r.tests.drop i=[]:=List.drop_eq_nil_of_le (by omega);rw[hd,List.all_nil,Bool.true_and] at hJ;simp +decide only[↓vS,vT,simprocAttr,u0,u1,hlt2,hw1];refine ih (j+1,some r) _ _ (by simp only;omega) (by simp[qe,qi,Tr.get_set]) ⟨by simp only;omega,⟨s',tr',rfl,by omega,u0⟩,hJ,.inr ⟨j,r,rfl,rfl,hr⟩⟩
      ·simp[qe,qi,Tr.get_set]
      ·refine⟨Nat.zero_le _,⟨s+1,_,rfl,by omega,?_,?_⟩,by simpa using hI2⟩
       ·simp only[Tr.get_set];repeat rw[if_neg (by omega)]
        exact t0
       ·rw[Tr.get_set,if_pos rfl]
   ·have hd:x.rules.drop j=[]:=List.drop_eq_nil_of_le (by omega);have hI:true=F:=by rw[hd] at hI;cases o<;>exact hI
    simp +decide only[↓vS,vT,simprocAttr,t0,hlt];simp[vZ,← hI]
  ·simp[qe,qi,Tr.get_set]
  ·exact⟨Nat.zero_le _,⟨1,_,rfl,by omega,by simp[Tr.get_set]⟩,by simpa using hup,.inl ⟨rfl,rfl⟩⟩
def jk(a b c d e g h i j k:Nat):IFn:=⟨[.tmp 10],.seq (.r [.q 5 (.box (.t 0)),.q 7 (.box (.t 2)),.m 10 .F]) (.seq (.seq (.r [.v 15 3 5,.l 16 a [.t 15]]) (.cond (.t 16) (.seq (.r [.m 10 .T]) (.ret)) (.skip))) (.seq (.r [.v 17 3 5,.l 18 b [.t 17],.q 11 (.alloc [.i .i64 0,.nils,.i .u32 0]),.u (.store 3 (.t 11) (.t 18))]) (.seq (.r [.v 20 3 11,.n 21 1,.l 22 c [.t 20,.t 21],.n 19 22,.x 23 19 0,.x 24 19 1,.n 12 23,.n 13 24]) (.seq (.r [.v 25 3 5,.l 26 d [.t 25],.n 14 26]) (.seq (.seq (.r [.v 27 3 11,.v 28 3 5,.l 29 e [.t 27,.t 28],.q 30 (.un .not (.t 29)),.n 31 30,.g 32 (.loadN 3 (.t 11)) 31 false,⟨(some 33),.callF g [.t 32],(some (31,false))⟩,.z 34 14 31,.g 35 (.bin .neq (.t 33) (.t 34)) 31 false,.o 36 31 35]) (.cond (.t 36) (.seq (.r [.m 10 .F]) (.ret)) (.skip))) (.seq (.seq (.r [.v 37 3 5,.l 38 h [.t 37],.q 39 (.un .not (.t 38))]) (.cond (.t 39) (.seq (.r [.n 40 13,.w 41 .eql 40 210,.n 42 41,.y 43 12 42,.g 44 (.len false (.t 43)) 42 true,.g 45 (.bin .eql (.t 44) (.k 0)) 42 true,.p 46 42 45,.n 10 46]) (.ret)) (.skip))) (.seq (.seq (.r [.n 47 14,.w 48 .gtr 47 1365,.n 49 48,.y 50 13 49,.g 51 (.bin .eql (.t 50) (.k 270)) 49 true,.p 52 49 51]) (.cond (.t 52) (.seq (.r [.n 53 12,.e 54 53,.w 55 .eql 54 0,.n 10 55]) (.ret)) (.skip))) (.seq (.seq (.r [.n 56 13,.w 57 .neq 56 0,.n 58 57,.z 59 12 58,⟨(some 60),.callF i [.t 59],(some (58,false))⟩,.g 61 (.un .not (.t 60)) 58 false,.o 62 58 61,.n 63 62,.z 64 12 63,.g 65 (.len false (.t 64)) 63 false,.z 66 14 63,.g 67 (.bin .mul (.k 3) (.t 66)) 63 false,.g 68 (.bin .gtr (.t 65) (.t 67)) 63 false,.o 69 63 68]) (.cond (.t 69) (.seq (.r [.m 10 .F]) (.ret)) (.skip))) (.seq (.seq (.r [.n 70 3,.w 71 .geq 70 0,.n 72 71,.y 73 3 72,.h 74 1 5 72 true,.j 75 74 72 true,.g 76 (.len false (.t 75)) 72 true,.g 77 (.bin .lss (.t 73) (.t 76)) 72 true,.p 78 72 77,.n 79 78,.y 80 4 79,.g 81 (.bin .geq (.t 80) (.c (.i .i64 (-1)))) 79 true,.p 82 79 81,.n 83 82,.y 84 4 83,.g 85 (.bin .leq (.t 84) (.k 1)) 83 true,.p 86 83 85]) (.cond (.t 86) (.r [.f 87 1 5,.d 88 87,.n 89 3,.i 90 3 88 89,.f 91 0 90,.d 92 91,.q 93 (.cvInt .i64 (.t 92)),.n 94 4,.b 95 .add 93 94,.q 96 (.cvInt .u32 (.t 95)),.f 97 0 7,.u (.store 1 (.t 97) (.t 96))]) (.skip))) (.seq (.reg true [.n 98 12,.v 99 9 7,.v 100 3 5,.v 101 9 7,.l 102 j [.t 100,.t 101],.l 103 k [.t 98,.t 99,.t 102],.n 10 103]) (.ret)))))))))))⟩
set_option maxRecDepth 10000 in
theorem qqK{g1 g2 g3 g4 g5 g6 g7 g8 g9 g10:Nat}(hc:qd P f (jk g1 g2 g3 g4 g5 g6 g7 g8 g9 g10)=true)
  (h1:∀x,FilB x->qf P g1 [.agg (qz x)] (.b (qkx 0 x.rules))) (h2:∀x,qdH x->qf P g2 [.agg (qz x)] (.agg (qz x))) (h3:qxR P g3) (h4:∀x,qdH x->qf P g4 [.agg (qz x)] (.i .i64 (szF x:Int)))
  (h5:∀x,qdH x->qf P g5 [.agg (qz x),.agg (qz x)] (.b true)) (h6:∀x,qdH x->qf P g6 [.agg (qz x)] (.i .i64 (szF x:Int))) (h7:∀x,qdH x->FilR x->FilU x->qf P g7 [.agg (qz x)] (.b (xp x)))
  (h8:∀p,PrgGood p->qiQ p=[]->qf P g8 [.fz p.length (rP p)] (.b true)) (h9:∀x,qdH x->∀d,DatOk d->qf P g9 [.agg (qz x),.agg (qX d)] (.i .u32 (qkw x d)))
  (h10:∀p,PrgGood p->∀d,DatOk d->∀w:Int,(ql3 p d).1=w->(ql3 p d).2.2.2=0->qf P g10 [.fz p.length (rP p),.agg (qX d),.i .u32 w] (.b true))
  (x:GFil) (hB:FilB x) (hR:FilR x) (hU:FilU x) (o:Bool) (d:GData) (hd:DatOk d) (i b:Int):qf P f [.agg (qz x),.b o,.agg (qX d),.i .i64 i,.i .i64 b] (.b true):=by
 refine qf.mk hc (by simp[qw,clo,qz,qX,xt]) ?_;have e1:=h1 x hB;simp only[jk,qz,qX,vI,simprocAttr] at e1 ⊢;simp +decide only[↓vS,vT,simprocAttr];refine e1.sc ?_;cases hG:qkx 0 x.rules with
 | true =>
  simp +decide only[↓vS,vT,simprocAttr];simp[vZ]
 | false =>
  obtain⟨l1,l2⟩:=qo4 (by omega) hG;have hL:qdH x:=⟨by omega,fun r hr=>by have:=l2 r hr;omega⟩
  have e2:=h2 x hL;have e3:=h3 x hR hL o;have e4:=h4 x hL;have e5:=h5 x hL;have e6:=h6 x hL;have e7:=h7 x hL hR hU;have hT:=fun hK=>qzg (x:=x) hK hR hU o
  have hN:=fun hK=>qvr (x:=x) hK o
  have hsz:szF x<=10+x.rules.length*700003:=by rw[quv];have:=qme (rs:=x.rules) hL.2;omega
  have hw3:IntKind.wrap .i64 (3*(szF x:Int))=3*(szF x:Int):=qm (by omega) (by omega);generalize szF x=z at e4 e6 hT hsz hw3;generalize qed x o=q at e3 hT hN;obtain⟨p,e⟩:=q;simp only[qz] at e2 e3 e4 e5 e6 e7;simp +decide only[↓vS,vT,simprocAttr];refine e2.sc ?_;simp +decide only[↓vS,vT,simprocAttr];refine e3.sc ?_;simp +decide only[↓vS,vT,simprocAttr];refine e4.sc ?_;simp +decide only[↓vS,vT,simprocAttr];refine e5.sc ?_;simp +decide only[↓vS,vT,simprocAttr];refine e6.sc ?_;simp +decide only[↓vS,vT,simprocAttr];refine e7.sc ?_;cases hK:xp x with
  | false =>
   have:=hN hK;cases this;simp +decide only[↓vS,vT,simprocAttr];simp[vZ]
  | true =>
   rcases hT hK with⟨t1,t2,t3⟩|⟨t1,hP⟩
   ·simp only at t1 t2;subst t1;subst t2;have hz:(1365:Int)<z:=by omega
    simp +decide only[↓vS,vT,simprocAttr,hz];simp[vZ]
   ·simp only at t1 hP;subst t1;have e8:=h8 p hP.good hP.ud;have hlen:¬(3*(z:Int)<(p.length:Int)):=by have:=hP.len;omega
    have fin:∀(d':GData) (h:Hp) (k:AV->Hp->Prop),DatOk d'->True:=fun _ _ _ _=>trivial
    have e9:=fun d' hd'=>h9 x hL d' hd'
    have e10:=fun d' hd'=>h10 p hP.good d' hd' _ (hP.tells d' hd').1 (hP.tells d' hd').2
    simp only[qz,qX] at e9 e10;have main:∀hz:Bool,decide ((1365:Int)<z)=hz->True:=fun _ _=>trivial
    by_cases hz:(1365:Int)<z
    all_goals
     simp +decide only[↓vS,vT,simprocAttr,hz];refine e8.sc ?_
     by_cases hC:(0<=i∧i<(x.rules.length:Int))∧-1<=b∧b<=1
     ·obtain⟨⟨c1,c2⟩,c3,c4⟩:=hC;obtain⟨j,rfl⟩:=Int.eq_ofNat_of_zero_le c1;have hj:j<x.rules.length:=by omega
      obtain⟨r,hr⟩:∃r,x.rules[j]?=some r:=⟨_,zzE hj⟩;have hrn:=hR.nr r (zzM hr);have g0:(rR x.rules)[j*3]?=some (.i .u32 r.nr):=qlY hr (i:=0) (by omega);have w1:IntKind.wrap .i64 r.nr=r.nr:=qm (by omega) (by omega);have w2:IntKind.wrap .i64 (r.nr+b)=r.nr+b:=qm (by omega) (by omega);obtain⟨m,hm⟩:∃m,IntKind.wrap .u32 (r.nr+b)=m:=⟨_,rfl⟩;have hm0:0<=m∧m<=4294967295:=by rw[← hm];show (0:Int)<=(r.nr+b) % 4294967296∧(r.nr+b) % 4294967296<=4294967295;omega
      have hd':DatOk { d with nr:=m }:=⟨hm0.1,hm0.2,hd.ar0,hd.ar1,hd.wid⟩;have a9:=e9 _ hd';have a10:=e10 _ hd';simp +decide only[↓vS,vT,simprocAttr,hlen,hw3,c1,c2,c3,c4,hj,g0,w1,w2,hm];refine zg ?_;simp +decide only[↓vS,vT,simprocAttr];refine a9.pc ?_;simp +decide only[↓vS,vT,simprocAttr];refine a10.pc ?_;simp +decide only[↓vS,vT,simprocAttr];simp[vZ]
     ·have a9:=e9 _ hd;have a10:=e10 _ hd;have hD:¬0<=i∨(0<=i∧¬i<(x.rules.length:Int))∨((0<=i∧i<(x.rules.length:Int))∧¬ -1<=b)∨((0<=i∧i<(x.rules.length:Int))∧-1<=b∧¬b<=1):=by omega
      rcases hD with c|c|c|c
      all_goals
       simp +decide only[↓vS,vT,simprocAttr,hlen,hw3,c];refine zg ?_;simp +decide only[↓vS,vT,simprocAttr];refine a9.pc ?_;simp +decide only[↓vS,vT,simprocAttr];refine a10.pc ?_;simp +decide only[↓vS,vT,simprocAttr];simp[vZ]
end Go.Kc
end
