/- Part 11 of the abstract machine and of the functions' walks. Conditions: with each theorem. -/
import Derived.Test.YtgaodkfneooonaaGreatK10
set_option maxHeartbeats 4000000
set_option linter.unusedSectionVars false
set_option linter.unusedSimpArgs false
set_option linter.unusedVariables false
set_option linter.unnecessarySimpa false
section
namespace Go.Kc
def qoW(a:Int)(d:GData):Prop:=d.arch=qhB a∧(a=0->x9 .u32 d.nr 1073741824=0)∧(a=2->x9 .u32 d.nr 1073741824≠0)
theorem qtY{a:Int}(h0:0<=a)(h6:a<6)(d:GData):((ofM d.arch d.nr).2=false∨(ofM d.arch d.nr).1≠a)↔¬qoW a d:=by
 unfold qoW ofM;generalize d.arch=t;generalize x9 .u32 d.nr 1073741824=z;have ha:a=0∨a=1∨a=2∨a=3∨a=4∨a=5:=by omega
 have e:∀c:Int,qbz (fun x:List UInt8×Int=>decide (x.2=t)) xC 0=c↔(if t=3221225534 then 0 else if t=1073741827 then 1 else if t=1073741864 then 3 else if t=3221225655 then 4 else if t=3221225715 then 5 else -1)=c:=by
  intro c
  have:qbz (fun x:List UInt8×Int=>decide (x.2=t)) xC 0=(if t=3221225534 then 0 else if t=1073741827 then 1 else if t=1073741864 then 3 else if t=3221225655 then 4 else if t=3221225715 then 5 else -1):=by
   simp only[xC,qbz,decide_eq_true_eq]
   by_cases h1:t=3221225534
   ·simp[h1]
   by_cases h2:t=1073741827
   ·simp[h2]
   by_cases h3:t=1073741864
   ·simp[h3]
   by_cases h4:t=3221225655
   ·simp[h4]
   by_cases h5:t=3221225715
   ·simp[h5]
   simp only[h1,h2,h3,h4,h5,eq_comm (b:=t),if_false]
  rw[this]
 have e0:=(e _).2 rfl;rw[e0];rcases ha with rfl|rfl|rfl|rfl|rfl|rfl
 all_goals
  simp only[qhB,xC]
  by_cases h1:t=3221225534
  ·by_cases hz:z=0<;>simp[h1,hz]
  by_cases h2:t=1073741827
  ·simp[h2]
  by_cases h3:t=1073741864
  ·simp[h3]
  by_cases h4:t=3221225655
  ·simp[h4]
  by_cases h5:t=3221225715
  ·simp[h5]
  simp[h1,h2,h3,h4,h5]
section
variable {R:List Sy} {d:GData} {r:Int}
theorem qAU{a:Int}{N:Nat}(h0:0<=a)(h6:a<6)(hd:DatOk d)(h:AtL R 0 (qa0 a 0 N))(h1:qoW a d->Ev R d (x8 a) d.nr r)(h2:¬qoW a d->EvA R d N r):EvA R d 0 r:=by
 intro b;unfold qa0 at h;obtain⟨g,h3⟩:=h.app;obtain⟨g1,g⟩:=g.hd;obtain⟨g2,g⟩:=g.hd;obtain⟨g3,_⟩:=g.hd;have w4:wdD d 4=d.arch:=rfl;have w0:wdD d 0=d.nr:=rfl;refine .ld 0 b r _ g1 rfl (.jc _ _ r _ g2 (.inl rfl) ?_);simp only[qbL,w4]
 by_cases ht:d.arch=qhB a
 ·rw[if_pos (by simp[ht])];refine .ld _ _ r _ g3 rfl ?_;simp only[w0];have h3:AtL R 3 _:=h3
  have hz:∀z:Int,(0<x9 .u32 d.nr 1073741824)↔x9 .u32 d.nr 1073741824≠0:=fun _=>by
   obtain⟨n,e⟩:=Int.eq_ofNat_of_zero_le hd.nr0;have hn:=hd.nr1;have:=qcN (a:=n) (b:=1073741824) (by omega) (by decide);rw[← e] at this;rw[show ((1073741824:Nat):Int)=1073741824 from rfl] at this
   rw[this];omega
  by_cases a0:a=0
  ·rw[if_pos a0] at h3;have hoN:x8 a=4:=by simp[x8,a0]
   rw[hoN] at h1;refine .jc _ _ r _ h3.hd.1 (.inr (.inr (.inr rfl))) ?_;simp only[qbL]
   by_cases hb:x9 .u32 d.nr 1073741824=0
   ·have e:¬(0:Int)<x9 .u32 d.nr 1073741824:=by omega
    rw[if_neg (by simp[hb])];exact h1 ⟨ht,fun _=>hb,fun h=>by omega⟩
   ·have e:=(hz 0).2 hb;rw[if_pos (by simp[e])];exact h2 (fun q=>hb (q.2.1 a0)) _
  ·rw[if_neg a0] at h3
   by_cases a2:a=2
   ·rw[if_pos a2] at h3;have hoN:x8 a=4:=by simp[x8,a2]
    rw[hoN] at h1;refine .jc _ _ r _ h3.hd.1 (.inr (.inr (.inr rfl))) ?_;simp only[qbL]
    by_cases hb:x9 .u32 d.nr 1073741824=0
    ·rw[if_neg (by simp[hb])];exact h2 (fun q=>q.2.2 a2 hb) _
    ·have e:=(hz 0).2 hb;rw[if_pos (by simp[e])];exact h1 ⟨ht,fun h=>absurd h a0,fun _=>hb⟩
   ·have hoN:x8 a=3:=by simp[x8,a0,a2]
    rw[hoN] at h1;exact h1 ⟨ht,fun h=>absurd h a0,fun h=>absurd h a2⟩
 ·rw[if_neg (by simp[ht])];exact h2 (fun q=>ht q.1) _
theorem qk4:∀{rs:List GRule} {p:Nat} {i:Nat} {q:GRule},AtL R p (zA rs p)->rs[i]?=some q->AtL R (p+qY (rs.take i)) (qq4 q (p+qY (rs.take i)))
 | [],_,_,_,_,h=>by simp at h
 | y::rs,p,i,q,h,hi=>by
  unfold zA at h;obtain⟨g1,g2⟩:=h.app;rw[qj1] at g2;cases i with
  | zero=>simp at hi;subst hi;simpa[qY] using g1
  | succ i =>
   have:=qk4 g2 (by simpa using hi);simpa[qY,Nat.add_assoc] using this
theorem qdV{x:GFil}:qhL x d=if (ofM d.arch d.nr).2=false∨(ofM d.arch d.nr).1≠x.arch then 2147418112 else match x.rules.find? (fun r=>decide (r.nr=d.nr)) with|none=>x.dflt|some r=>fnd (fun t=>qbM t d) r.act r.tests:=by
 unfold qhL fnd;rfl
theorem qoK{x:GFil}(h:FilG x)(hd:DatOk d):EvA (qW x) d 0 (qhL x d):=by
 have hR:=AtL.self (R:=qW x);have hR0:AtL (qW x) 0 (qW x):=hR;unfold qW at hR;obtain⟨hR,hA5⟩:=hR.app;obtain⟨hR,hA4⟩:=hR.app;obtain⟨hR,hA3⟩:=hR.app;obtain⟨hA1,hA2⟩:=hR.app;rw[show (qa0 x.arch 0 (xl x)++zN (xo x) (qL x) (x8 x.arch)++[(⟨6,x.dflt,0,0⟩:Sy)]++zA x.rules (x4 x+1)++[(⟨6,2147418112,0,0⟩:Sy)])=qW x from rfl] at hA1 hA2 hA3 hA4 hA5
 have e3:0+(qa0 x.arch 0 (xl x)++zN (xo x) (qL x) (x8 x.arch)).length=x4 x:=by simp only[List.length_append,ji,xU];unfold x4;omega
 have e4:0+(qa0 x.arch 0 (xl x)++zN (xo x) (qL x) (x8 x.arch)++[(⟨6,x.dflt,0,0⟩:Sy)]).length=x4 x+1:=by simp only[List.length_append,ji,xU,List.length_singleton];unfold x4;omega
 have e5:0+(qa0 x.arch 0 (xl x)++zN (xo x) (qL x) (x8 x.arch)++[(⟨6,x.dflt,0,0⟩:Sy)]++zA x.rules (x4 x+1)).length=xl x:=by simp only[List.length_append,ji,xU,List.length_singleton,qa3];unfold xl x4;omega
 rw[ji,Nat.zero_add] at hA2;rw[e3] at hA3;rw[e4] at hA4;rw[e5] at hA5;rw[qdV];refine qAU h.a0 h.a6 hd hA1 (fun hown=>?_) (fun hown=>?_)
 ·rw[if_neg (fun q=>(qtY h.a0 h.a6 d).1 q hown)]
  obtain⟨c1,c2,c3,_,_⟩:=h.spans
  -- the code of a way
  have way:∀w,Cov (zp (pcs 0 (qG x.rules) 0)) d.nr w->Ev (qW x) d (xo x w) d.nr (match x.rules.find? (fun r=>decide (r.nr=d.nr)) with|none=>x.dflt|some r=>fnd (fun t=>qbM t d) r.act r.tests)->Ev (qW x) d (x8 x.arch) d.nr (match x.rules.find? (fun r=>decide (r.nr=d.nr)) with|none=>x.dflt|some r=>fnd (fun t=>qbM t d) r.act r.tests):=by
   intro w hw he;unfold zN at hA2;obtain⟨j1,j2⟩:=hA2.app
   have ht:=qxI (T:=qL x) (FW:=xo x) (b:=x8 x.arch+jaN (qL x)) (n:=d.nr) (Q:=fun i=>Ev (qW x) d i d.nr (match x.rules.find? (fun r=>decide (r.nr=d.nr)) with|none=>x.dflt|some r=>fnd (fun t=>qbM t d) r.act r.tests)) (fun i nd hi hl hq=>by
    have hp:plc (xo x) (qL x) (x8 x.arch+jaN (qL x)) i=x8 x.arch+jaN (qL x)+zJ ((qL x).take i):=by unfold plc;rw[hi];simp[hl]
    have hg:=j2 _ _ (qvi (FW:=xo x) (b:=x8 x.arch+(jaE (xo x) (qL x)).length) hi hl);rw[qlH] at hg;rw[hp];refine .jc _ _ _ _ hg (.inr (.inr (.inl rfl))) ?_;simp only[qbL]
    by_cases hn:nd.at'<=d.nr
    ·rw[if_pos hn] at hq;rw[if_pos (by simp[hn])];exact hq
    ·rw[if_neg hn] at hq;rw[if_neg (by simp[hn])];exact hq) _ (zp (pcs 0 (qG x.rules) 0)) 0 0 4294967296 (Nat.le_refl _) h.pos c1 (fun j nd hj=>by rw[Nat.zero_add];exact hj) w hw he
   cases hT:qL x with
   | nil=>exact absurd hT h.tne
   | cons nd T =>
    rw[hT] at ht j1;cases hl:nd.leaf with
    | true =>
     simp only[jaE,if_pos hl] at j1;refine .ja _ _ _ _ j1.hd.1 rfl ?_;simp only[plc,List.getElem?_cons_zero,if_pos hl] at ht;exact ht
    | false =>
     simp only[plc,List.getElem?_cons_zero,hl,Bool.false_eq_true,if_false,jaN,List.take_zero,zJ,List.countP_nil,Nat.add_zero] at ht;exact ht
  cases hf:x.rules.find? (fun r=>decide (r.nr=d.nr)) with
  | none =>
   rw[hf] at way
   have hnone:∀q ∈ x.rules,q.nr≠d.nr:=fun q hq he=>by
    have:=List.find?_eq_none.1 hf q hq;simp[he] at this
   refine way 0 (c3 d.nr hd.nr0 (by have:=hd.nr1;omega) hnone) ?_;exact Ev.rt (x4 x) d.nr _ hA3.hd.1 rfl
  | some q =>
   rw[hf] at way;have hqm:=List.mem_of_find?_eq_some hf;have hqn:q.nr=d.nr:=by have:=List.find?_some hf;simpa using this
   obtain⟨i,hi⟩:=List.getElem?_of_mem hqm;have hc:=c2 i q hi;rw[hqn] at hc;refine way (i+1) hc ?_;have ha:=qk4 hA4 hi;have hw:xo x (i+1)=x4 x+1+qY (x.rules.take i):=by simp[xo]
   rw[hw];exact qnC hd (h.ts q hqm) ha _
 ·rw[if_pos ((qtY h.a0 h.a6 d).2 hown)];intro a;exact Ev.rt (xl x) a _ hA5.hd.1 rfl
end
theorem qae{c:Int}(h:qdN c):qk c=4∧c≠5∧c≠6:=by
 rcases h with rfl|rfl|rfl|rfl<;>decide
theorem qdT:qk 32=1∧qk 84=3∧qk 6=5∧qk 5=4:=by decide
section
variable {l R:List Sy} {d:GData} {r:Int}
theorem qfp.ja{s:Sy}{j n:Nat}(h:qfp s j n)(h5:s.code=5):s.k=0∧s.el=0∧j<s.th∧s.th<n:=by
 rcases h with⟨q,_⟩|⟨q,_⟩|⟨_,q⟩|⟨q,_⟩
 ·omega
 ·omega
 ·exact q
 ·exact absurd h5 (qae q).2.1
theorem qfp.jc{s:Sy}{j n:Nat}(h:qfp s j n)(ha:qdN s.code):j<s.th∧s.th<n∧j<s.el∧s.el<n:=by
 have h5:=qae ha;unfold qdN at ha;rcases h with⟨q,_⟩|⟨q,_⟩|⟨q,_⟩|⟨_,q⟩
 ·omega
 ·omega
 ·omega
 ·exact q
theorem qfp.jmp{s:Sy}{j n:Nat}(h:qfp s j n)(hj:qbf s):s.code=5∨qdN s.code:=by
 unfold qbf at hj;obtain⟨c1,c2,c3,c4⟩:=qdT;rcases h with⟨q,_⟩|⟨q,_⟩|⟨q,_⟩|⟨q,_⟩
 ·rw[q,c1] at hj;omega
 ·rcases q with q|q
  ·rw[q,c2] at hj;omega
  ·rw[q,c3] at hj;omega
 ·exact .inl q
 ·exact .inr q
theorem qfp.ask{s:Sy}{j n:Nat}(h:qfp s j n)(hj:qcg s):qdN s.code:=(h.jmp hj.1).resolve_left hj.2
theorem MayL.in(h:MayL l):qkx l:=by
 intro x hx j hj;obtain⟨i,hi⟩:=List.getElem?_of_mem hx;have hm:=h.all i x hi;rcases hj with⟨q,rfl⟩|⟨q,rfl⟩
 ·rcases hm.jmp q with q|q
  ·exact (hm.ja q).2.2.2
  ·exact (hm.jc q).2.1
 ·exact (hm.jc (hm.ask q)).2.2.2
theorem MayL.on(h:MayL l):qxP l:=by
 intro j x hx h6 h4;have hj:=(zzS.1 hx).1;obtain⟨s,hs,hs6⟩:=h.last;rcases Nat.lt_or_ge (j+1) l.length with q|q
 ·exact q
 ·have e:l.length-1=j:=by omega
  rw[e,hx] at hs;cases hs;exact absurd hs6 h6
theorem MayL.hin(h:MayL l):∀x ∈ l,∀j:Nat,(x.code=5∨qk x.code=4)∧j=x.th∨(qk x.code=4∧x.code≠5)∧j=x.el->j<l.length:=by
 intro x hx j hj;refine h.in x hx j ?_
 rcases hj with⟨q,e⟩|q
 ·refine .inl ⟨?_,e⟩;rcases q with q|q
  ·unfold qbf;rw[q];exact qdT.2.2.2
  ·exact q
 ·exact .inr q
theorem Ev.at6{p:Nat}{a:Int}{s:Sy}(h:Ev R d p a r)(hs:R[p]?=some s)(h6:s.code=6):r=s.k:=by
 cases h with
 | ld _ _ _ x hx hc=>rw[hs] at hx;cases hx;omega
 | an _ _ _ x hx hc=>rw[hs] at hx;cases hx;omega
 | rt _ _ x hx hc=>rw[hs] at hx;cases hx;rfl
 | ja _ _ _ x hx hc=>rw[hs] at hx;cases hx;omega
 | jc _ _ _ x hx hc=>rw[hs] at hx;cases hx;exact absurd h6 (qae hc).2.2
theorem Ev.at5{p:Nat}{a:Int}{s:Sy}(h:Ev R d p a r)(hs:R[p]?=some s)(h5:s.code=5):Ev R d s.th a r:=by
 cases h with
 | ld _ _ _ x hx hc=>rw[hs] at hx;cases hx;omega
 | an _ _ _ x hx hc=>rw[hs] at hx;cases hx;omega
 | rt _ _ x hx hc=>rw[hs] at hx;cases hx;omega
 | ja _ _ _ x hx hc hn=>rw[hs] at hx;cases hx;exact hn
 | jc _ _ _ x hx hc=>rw[hs] at hx;cases hx;exact absurd h5 (qae hc).2.1
theorem x7{to:Nat->Nat}{s:Sy}(h:¬qbf s):qaZ to s=s:=by
 unfold qaZ;rw[if_neg h,if_neg (fun q=>h q.1)]
theorem qhm{to:Nat->Nat}{s:Sy}(h:s.code=5):qaZ to s=⟨s.code,s.k,to s.th,s.el⟩:=by
 have hj:qbf s:=by unfold qbf;rw[h];exact qdT.2.2.2
 unfold qaZ;rw[if_pos hj,if_neg (fun q=>q.2 h)]
theorem qhn{to:Nat->Nat}{s:Sy}(h:qdN s.code):qaZ to s=⟨s.code,s.k,to s.th,to s.el⟩:=by
 have hj:=qae h;unfold qaZ;rw[if_pos (show qbf s from hj.1),if_pos (show qcg s from⟨hj.1,hj.2.1⟩)]
theorem xt{s:Sy}(h:s.code=32∨s.code=84∨s.code=6):¬qbf s:=by
 unfold qbf;rcases h with h|h|h<;>rw[h]<;>decide
theorem qni{to:Nat->Nat}{s:Sy}{j n:Nat}(h:qfp s j n)(ht:∀q,j<q->q<n->j<to q∧to q<n):qfp (qaZ to s) j n:=by
 rcases h with q|q|⟨q,q1,q2,q3,q4⟩|⟨q,q1,q2,q3,q4⟩
 ·rw[x7 (xt (.inl q.1))];exact .inl q
 ·rw[x7 (xt (.inr q.1))];exact .inr (.inl q)
 ·rw[qhm q];obtain⟨t1,t2⟩:=ht _ q3 q4;exact .inr (.inr (.inl ⟨q,q1,q2,t1,t2⟩))
 ·rw[qhn q];obtain⟨t1,t2⟩:=ht _ q1 q2;obtain⟨t3,t4⟩:=ht _ q3 q4;exact .inr (.inr (.inr ⟨q,t1,t2,t3,t4⟩))
-- shared
theorem qBg(h:MayL l){j:Nat}(hj:j<l.length):j<=qda l j∧qda l j<l.length:=by
 unfold qda;rw[zzE hj];simp only;split
 ·rename_i h6;obtain⟨i,y,q1,q2,q3,_⟩:=qhU (zzE hj) h6;rw[q1];exact⟨q2,(zzS.1 q3).1⟩
 ·exact⟨Nat.le_refl _,hj⟩
theorem qcy{j:Nat}:(qea l)[j]?=(l[j]?).map (qaZ (qda l)):=by unfold qea;rw[List.getElem?_map]
theorem qhy:(qea l).length=l.length:=by unfold qea;rw[List.length_map]
theorem qhz(h:MayL l):MayL (qea l):=by
 refine⟨by rw[qhy];exact h.pos,by rw[qhy];exact h.big,?_,fun j s hj=>?_⟩
 ·obtain⟨s,hs,h6⟩:=h.last;exact⟨s,by rw[qhy,qcy,hs];simp[x7 (xt (.inr (.inr h6)))],h6⟩
 ·rw[qcy] at hj;obtain⟨x,hx,rfl⟩:=Option.map_eq_some_iff.1 hj;rw[qhy];exact qni (h.all j x hx) fun q q1 q2=>by have:=qBg h q2;omega
theorem ql1(h:MayL l){j:Nat}{a:Int}(hj:j<l.length)(he:Ev (qea l) d j a r):Ev (qea l) d (qda l j) a r:=by
 unfold qda;rw[zzE hj];simp only;split
 ·rename_i h6;obtain⟨i,y,q1,q2,q3,q4,q5⟩:=qhU (zzE hj) h6;rw[q1];have hg:(qea l)[j]?=some l[j]:=by rw[qcy,zzE hj];simp[x7 (xt (.inr (.inr h6)))]
  have hr:=he.at6 hg h6;rw[hr,← q5];exact Ev.rt i a y (by rw[qcy,q3];simp[x7 (xt (.inr (.inr q4)))]) q4
 ·exact he
theorem qBf(h:MayL l):∀{p:Nat} {a:Int},Ev l d p a r->Ev (qea l) d p a r:=by
 intro p a he
 induction he with
 | ld p a r s hs hc _ ih=>exact .ld p a r s (by rw[qcy,hs];simp[x7 (xt (.inl hc))]) hc ih
 | an p a r s hs hc _ ih=>exact .an p a r s (by rw[qcy,hs];simp[x7 (xt (.inr (.inl hc)))]) hc ih
 | rt p a s hs hc=>exact .rt p a s (by rw[qcy,hs];simp[x7 (xt (.inr (.inr hc)))]) hc
 | ja p a r s hs hc _ ih =>
  have hm:=(h.all p s hs).ja hc;exact .ja p a r ⟨s.code,s.k,qda l s.th,s.el⟩ (by rw[qcy,hs,← qhm hc];rfl) hc (ql1 h hm.2.2.2 ih)
 | jc p a r s hs hc _ ih =>
  have hm:=(h.all p s hs).jc hc;refine .jc p a r ⟨s.code,s.k,qda l s.th,qda l s.el⟩ (by rw[qcy,hs,← qhn hc];rfl) hc ?_;simp only;split
  ·rename_i q;rw[if_pos q] at ih;exact ql1 h hm.2.1 ih
  ·rename_i q;rw[if_neg q] at ih;exact ql1 h hm.2.2.2 ih
-- threaded
theorem qBx(h:MayL R){j:Nat}(hj:j<R.length):j<=xq R j∧xq R j<R.length:=by
 unfold xq;rw[zzE hj];simp only;split
 ·rename_i h5;have:=(h.all j _ (zzE hj)).ja h5;omega
 ·exact⟨Nat.le_refl _,hj⟩
theorem qnD(h:MayL R){i:Nat}{x:Sy}(hx:R[i]?=some x):qfp (qa5 R x) i R.length∧((x.code=6)->qa5 R x=x):=by
 have hm:=qni (h.all i x hx) (to:=xq R) fun q q1 q2=>by have:=qBx h q2;omega
 refine⟨?_,fun h6=>?_⟩
 ·unfold qa5;split
  ·rename_i q;have ha:=hm.ask q.1;have:=hm.jc ha;exact .inr (.inr (.inl ⟨rfl,rfl,rfl,this.1,this.2.1⟩))
  ·exact hm
 ·have e:=x7 (to:=xq R) (xt (s:=x) (.inr (.inr h6)));unfold qa5;rw[e,if_neg (fun q=>xt (.inr (.inr h6)) q.1.1)]
theorem quF(h:MayL R){i:Nat}{x:Sy}(hx:R[i]?=some x):MayL (R.set i (qa5 R x)):=by
 have hi:=(zzS.1 hx).1;refine⟨by rw[List.length_set];exact h.pos,by rw[List.length_set];exact h.big,?_,fun j s hj=>?_⟩
 ·obtain⟨s,hs,h6⟩:=h.last;refine⟨s,?_,h6⟩;rw[List.length_set,List.getElem?_set]
  by_cases e:i=R.length-1
  ·rw[← e,hx] at hs;cases hs;rw[if_pos e,if_pos (by omega),(qnD h hx).2 h6]
  ·rw[if_neg e];exact hs
 ·rw[List.length_set];rw[List.getElem?_set] at hj
  by_cases e:i=j
  ·subst e;rw[if_pos rfl,if_pos hi] at hj;cases hj;exact (qnD h hx).1
  ·rw[if_neg e] at hj;exact h.all j s hj
theorem qxE(h:MayL R){i:Nat}{x:Sy}(hx:R[i]?=some x):∀{p:Nat} {a:Int},Ev R d p a r->Ev (R.set i (qa5 R x)) d p a r:=by
 have hi:=(zzS.1 hx).1;have g:∀{p:Nat} {s:Sy},R[p]?=some s->p≠i->(R.set i (qa5 R x))[p]?=some s:=fun hs hp=>by rw[List.getElem?_set,if_neg (Ne.symm hp)];exact hs
 have gi:(R.set i (qa5 R x))[i]?=some (qa5 R x):=by rw[List.getElem?_set,if_pos rfl,if_pos hi]
 have hop:∀{t:Nat} {a:Int},i<t->t<R.length->Ev (R.set i (qa5 R x)) d t a r->Ev (R.set i (qa5 R x)) d (xq R t) a r:=fun {t a} h1 h2 he=>by
  unfold xq;rw[zzE h2];simp only;split
  ·rename_i h5;exact he.at5 (g (zzE h2) (by omega)) h5
  ·exact he
 have gn:¬qbf x->(R.set i (qa5 R x))[i]?=some x:=fun q=>by
  rw[gi];unfold qa5;rw[x7 q,if_neg (fun z=>q z.1.1)]
 intro p a he
 induction he with
 | ld p a r s hs hc _ ih =>
  by_cases e:p=i
  ·subst e;rw[hx] at hs;cases hs;exact .ld _ _ _ x (gn (xt (.inl hc))) hc (ih hop)
  ·exact .ld _ _ _ s (g hs e) hc (ih hop)
 | an p a r s hs hc _ ih =>
  by_cases e:p=i
  ·subst e;rw[hx] at hs;cases hs;exact .an _ _ _ x (gn (xt (.inr (.inl hc)))) hc (ih hop)
  ·exact .an _ _ _ s (g hs e) hc (ih hop)
 | rt p a s hs hc =>
  by_cases e:p=i
  ·subst e;rw[hx] at hs;cases hs;exact .rt _ _ x (gn (xt (.inr (.inr hc)))) hc
  ·exact .rt _ _ s (g hs e) hc
 | ja p a r s hs hc _ ih =>
  by_cases e:p=i
  ·subst e;rw[hx] at hs;cases hs;have hm:=(h.all _ _ hx).ja hc
   have e1:qa5 R x=⟨x.code,x.k,xq R x.th,x.el⟩:=by
    unfold qa5;rw[qhm hc,if_neg (fun z=>z.1.2 hc)]
   have gi2:=gi.trans (congrArg some e1);exact .ja _ _ _ _ gi2 hc (hop hm.2.2.1 hm.2.2.2 (ih hop))
  ·exact .ja _ _ _ s (g hs e) hc (ih hop)
 | jc p a r s hs hc _ ih =>
  by_cases e:p=i
  ·subst e;rw[hx] at hs;cases hs;have hm:=(h.all _ _ hx).jc hc;have ih:=ih hop
   have he:Ev (R.set p (qa5 R x)) d (if qbL x.code a x.k=true then xq R x.th else xq R x.el) a r:=by
    split
    ·rename_i q;rw[if_pos q] at ih;exact hop hm.1 hm.2.1 ih
    ·rename_i q;rw[if_neg q] at ih;exact hop hm.2.2.1 hm.2.2.2 ih
   have e0:=qhn (to:=xq R) hc
   by_cases eq:xq R x.th=xq R x.el
   ·have e1:qa5 R x=⟨5,0,xq R x.th,0⟩:=by
     unfold qa5;rw[e0];exact if_pos ⟨⟨(qae hc).1,(qae hc).2.1⟩,eq⟩
    rw[← eq,ite_self] at he;exact .ja _ _ _ _ (gi.trans (congrArg some e1)) rfl he
   ·have e1:qa5 R x=⟨x.code,x.k,xq R x.th,xq R x.el⟩:=by
     unfold qa5;rw[e0];exact if_neg fun z=>eq z.2
    exact .jc _ _ _ _ (gi.trans (congrArg some e1)) hc he
  ·exact .jc _ _ _ s (g hs e) hc (ih hop)
theorem qj9:∀{m j:Nat},j+m<l.length->(qeb l m)[j]?=l[j]?
 | 0,_,_=>rfl
 | m+1,j,h=>by
  unfold qeb;split
  ·rw[List.getElem?_set,if_neg (by omega)];exact qj9 (by omega)
  ·exact qj9 (by omega)
theorem ql7(h:MayL l):∀m,m<=l.length->MayL (qeb l m)∧∀{p:Nat} {a:Int},Ev l d p a r->Ev (qeb l m) d p a r
 | 0,_=>⟨h,fun e=>e⟩
 | m+1,hm=>by
  obtain⟨h1,h2⟩:=ql7 h m (by omega);have hx:l[l.length-(m+1)]?=some l[l.length-(m+1)]:=zzE (by omega);unfold qeb;rw[hx];simp only;have hx2:(qeb l m)[l.length-(m+1)]?=some l[l.length-(m+1)]:=by rw[qj9 (by omega)];exact hx
  exact⟨quF h1 hx2,fun e=>qxE h1 hx2 (h2 e)⟩
theorem qi8(h:MayL l):MayL (ql6 l):=(ql7 (d:=⟨0,0,0,0,0,0,0,0,0⟩) (r:=0) h _ (Nat.le_refl _)).1
theorem qBw(h:MayL l){p:Nat}{a:Int}:Ev l d p a r->Ev (ql6 l) d p a r:=(ql7 h _ (Nat.le_refl _)).2
theorem qxF:(ql6 l).length=l.length:=qec
end
def Suc(x:Sy)(j t:Nat):Prop:=(x.code≠6∧¬qbf x∧t=j+1)∨(qbf x∧t=x.th)∨(qcg x∧t=x.el)
theorem qj4{A:List Bool}{i j:Nat}(h:A[j]?=some true):(A.set i true)[j]?=some true:=by
 rw[List.getElem?_set];split
 ·rename_i e;subst e;rw[if_pos (zzS.1 h).1]
 ·exact h
theorem qj3{A:List Bool}{i:Nat}(h:i<A.length):(A.set i true)[i]?=some true:=by
 rw[List.getElem?_set,if_pos rfl,if_pos h]
theorem ql0{A:List Bool}{i j:Nat}(h:j≠i):(A.set i true)[j]?=A[j]?:=by
 rw[List.getElem?_set,if_neg (Ne.symm h)]
theorem qky{A:List Bool}{j m:Nat}{x:Sy}(h:A[j]?=some true):(qdM A m x)[j]?=some true:=by
 unfold qdM;split
 ·exact h
 ·split
  ·exact qj4 h
  ·split
   ·exact qj4 (qj4 h)
   ·exact qj4 h
theorem qrp{A:List Bool}{j t:Nat}{x:Sy}(h:A[j]?=some true)(hs:Suc x j t)(ht:t<A.length):(qdM A j x)[t]?=some true:=by
 have h6:x.code≠6:=by
  rcases hs with q|⟨q,_⟩|⟨q,_⟩
  ·exact q.1
  ·intro e;exact xt (.inr (.inr e)) q
  ·intro e;exact xt (.inr (.inr e)) q.1
 unfold qdM;rw[if_neg (by rintro (q|q);exact q h;exact h6 q)]
 rcases hs with⟨_,q,rfl⟩|⟨q,rfl⟩|⟨q,rfl⟩
 ·rw[if_pos (show qk x.code≠4 from q)];exact qj3 ht
 ·rw[if_neg (fun z:qk x.code≠4=>z q)]
  split
  ·exact qj4 (qj3 ht)
  ·exact qj3 ht
 ·rw[if_neg (fun z:qk x.code≠4=>z q.1),if_pos q]
  exact qj3 (by rw[List.length_set];exact ht)
section
variable {l:List Sy} {d:GData} {r:Int}
theorem qpL(h:MayL l){A:List Bool}{j m:Nat}{x:Sy}(hx:l[m]?=some x)(hj:j<=m):(qdM A m x)[j]?=A[j]?:=by
 unfold qdM;split
 ·rfl
 ·split
  ·exact ql0 (by omega)
  ·rename_i q;have hq:qbf x:=Decidable.not_not.1 q;have hm:=h.all m x hx
   have hth:m<x.th:=by
    rcases hm.jmp hq with z|z
    ·exact (hm.ja z).2.2.1
    ·exact (hm.jc z).1
   split
   ·rename_i q2;have:=hm.jc (hm.ask q2);rw[ql0 (by omega),ql0 (by omega)]
   ·exact ql0 (by omega)
theorem qoo(h:MayL l){j t:Nat}{x:Sy}(hx:l[j]?=some x)(hs:Suc x j t):j<t∧t<l.length:=by
 have hm:=h.all j x hx;rcases hs with⟨q1,q2,rfl⟩|⟨q,rfl⟩|⟨q,rfl⟩
 ·exact⟨by omega,h.on j x hx q1 q2⟩
 ·rcases hm.jmp q with z|z
  ·exact (hm.ja z).2.2
  ·exact⟨(hm.jc z).1,(hm.jc z).2.1⟩
 ·exact (hm.jc (hm.ask q)).2.2
theorem qmg(h:MayL l):∀m,m<=l.length->∀(j t:Nat) x,j<m->l[j]?=some x->Suc x j t->(jm l m)[j]?=some true->(jm l m)[t]?=some true
 | 0,_,j,t,x,hj,_,_,_=>by omega
 | m+1,hm,j,t,x,hj,hx,hs,ha=>by
  have hy:l[m]?=some l[m]:=zzE (by omega);unfold jm at ha ⊢;rw[hy] at ha ⊢;simp only at ha ⊢;rw[qpL h hy (by omega)] at ha;rcases Nat.lt_or_ge j m with q|q
  ·exact qky (qmg h m (by omega) j t x q hx hs ha)
  ·have e:j=m:=by omega
   subst e;rw[hy] at hx;cases hx;exact qrp ha hs (by rw[qbh];exact (qoo h hy hs).2)
theorem qcM(h:MayL l){j t:Nat}{x:Sy}(hx:l[j]?=some x)(hs:Suc x j t)(ha:(zk l)[j]?=some true):(zk l)[t]?=some true :=
 qmg h _ (Nat.le_refl _) j t x (zzS.1 hx).1 hx hs ha
theorem qrq(h:0<l.length):(zk l)[0]?=some true:=by
 have:∀m,(jm l m)[0]?=some true:=by
  intro m
  induction m with
  | zero=>exact qj3 (by simpa using h)
  | succ m ih =>
   unfold jm;split
   ·exact qky ih
   ·exact ih
 exact this _
theorem qsb{A:List Bool}{i j:Nat}(h:i<=j):zD A i<=zD A j:=by
 unfold zD;have e:A.take i=(A.take j).take i:=by rw[List.take_take,Nat.min_eq_left h]
 rw[e];exact List.Sublist.countP_le (List.take_sublist _ _)
theorem qjm{A:List Bool}{i j:Nat}(ha:A[i]?=some true)(h:i<j):zD A i<zD A j:=by
 have h1:=qdU ha;have h2:=qsb (A:=A) (i:=i+1) (j:=j) h;rw[if_pos rfl] at h1;omega
theorem qpt{α:Type}:∀{A:List Bool} {l:List α} {p:Nat} {x:α},A[p]?=some true->l[p]?=some x->(qcc A l)[zD A p]?=some x
 | [],_,_,_,h,_=>by simp at h
 | _::_,[],_,_,_,h=>by simp at h
 | c::A,y::l,0,x,h1,h2=>by
  simp at h1 h2;subst h1 h2;simp[qcc,zD]
 | c::A,y::l,p+1,x,h1,h2=>by
  have:=qpt (A:=A) (l:=l) (p:=p) (x:=x) (by simpa using h1) (by simpa using h2);unfold zD at this ⊢;rw[List.take_succ_cons,List.countP_cons];cases c<;>simpa[qcc] using this
theorem qi7{α:Type}:∀{A:List Bool} {l:List α} {q:Nat} {x:α},(qcc A l)[q]?=some x->∃p,A[p]?=some true∧l[p]?=some x∧zD A p=q
 | [],_,_,_,h=>by simp[qcc] at h
 | _::_,[],_,_,h=>by simp[qcc] at h
 | c::A,y::l,q,x,h=>by
  cases c with
  | false =>
   obtain⟨p,h1,h2,h3⟩:=qi7 (A:=A) (l:=l) (q:=q) (x:=x) (by simpa[qcc] using h);refine⟨p+1,by simpa using h1,by simpa using h2,?_⟩
   unfold zD at h3 ⊢;rw[List.take_succ_cons,List.countP_cons];simpa using h3
  | true =>
   cases q with
   | zero=>simp[qcc] at h;subst h;exact⟨0,rfl,rfl,by simp[zD]⟩
   | succ q =>
    obtain⟨p,h1,h2,h3⟩:=qi7 (A:=A) (l:=l) (q:=q) (x:=x) (by simpa[qcc] using h);refine⟨p+1,by simpa using h1,by simpa using h2,?_⟩
    unfold zD at h3 ⊢;rw[List.take_succ_cons,List.countP_cons];simpa using h3
theorem qpu{α:Type}:∀{A:List Bool} {l:List α},A.length=l.length->(qcc A l).length=zD A A.length
 | [],[],_=>rfl
 | [],_::_,h=>by simp at h
 | _::_,[],h=>by simp at h
 | c::A,y::l,h=>by
  have:=qpu (A:=A) (l:=l) (by simpa using h);unfold zD at this ⊢;rw[List.length_cons,List.take_succ_cons,List.countP_cons];cases c<;>simp[qcc,this]
theorem qiY:(qfo l).length=zD (zk l) l.length:=by
 unfold qfo;have hA:(zk l).length=l.length:=qbh;rw[qpu (by rw[List.length_map,hA]),hA]
theorem qtd:(qfo l).length<=l.length:=by rw[qiY];exact qlx
theorem qhi{p:Nat}{x:Sy}(ha:(zk l)[p]?=some true)(hx:l[p]?=some x):(qfo l)[zD (zk l) p]?=some (qaZ (zD (zk l)) x) :=
 qpt ha (by rw[List.getElem?_map,hx];rfl)
theorem qwn(h:MayL l):MayL (qfo l):=by
 have hA:(zk l).length=l.length:=qbh;have h0:=qrq h.pos;have hp:0<(qfo l).length:=by rw[qiY];exact Nat.lt_of_le_of_lt (Nat.zero_le _) (qjm h0 h.pos)
 have idx:∀{q:Nat} {s:Sy},(qfo l)[q]?=some s->∃p x,(zk l)[p]?=some true∧l[p]?=some x∧zD (zk l) p=q∧s=qaZ (zD (zk l)) x:=fun {q s} hq=>by
  obtain⟨p,h1,h2,h3⟩:=qi7 hq;rw[List.getElem?_map] at h2;obtain⟨x,hx,rfl⟩:=Option.map_eq_some_iff.1 h2;exact⟨p,x,h1,hx,h3,rfl⟩
 refine⟨hp,Nat.le_trans qtd h.big,?_,fun j s hj=>?_⟩
 ·obtain⟨p,x,q1,q2,q3,q4⟩:=idx (zzE (i:=(qfo l).length-1) (by omega));refine⟨_,zzE (by omega),?_⟩;rw[q4];show x.code=6;apply Decidable.byContradiction;intro h6
  have hs:∃t,Suc x p t:=by
   by_cases hj:qbf x
   ·exact⟨_,.inr (.inl ⟨hj,rfl⟩)⟩
   ·exact⟨_,.inl ⟨h6,hj,rfl⟩⟩
  obtain⟨t,ht⟩:=hs;have t1:=qoo h q2 ht;have t2:=qcM h q2 ht q1;have t3:=qjm q1 t1.1;have t4:=qjm t2 t1.2;rw[← qiY] at t4;omega
 ·obtain⟨p,x,q1,q2,q3,rfl⟩:=idx hj;have hm:=h.all p x q2
  have go:∀t,Suc x p t->j<zD (zk l) t∧zD (zk l) t<(qfo l).length:=fun t ht=>by
   have t1:=qoo h q2 ht;have t2:=qcM h q2 ht q1;rw[qiY,← q3];exact⟨qjm q1 t1.1,qjm t2 t1.2⟩
  rcases hm with q|q|⟨q,z1,z2,z3,z4⟩|⟨q,z1,z2,z3,z4⟩
  ·rw[x7 (xt (.inl q.1))];exact .inl q
  ·rw[x7 (xt (.inr q.1))];exact .inr (.inl q)
  ·have hjm:qbf x:=by unfold qbf;rw[q];exact qdT.2.2.2
   rw[qhm q];obtain⟨t1,t2⟩:=go x.th (.inr (.inl ⟨hjm,rfl⟩));exact .inr (.inr (.inl ⟨q,z1,z2,t1,t2⟩))
  ·have ha:=qae q;rw[qhn q];obtain⟨t1,t2⟩:=go x.th (.inr (.inl ⟨ha.1,rfl⟩));obtain⟨t3,t4⟩:=go x.el (.inr (.inr ⟨⟨ha.1,ha.2.1⟩,rfl⟩));exact .inr (.inr (.inr ⟨q,t1,t2,t3,t4⟩))
theorem qzY(h:MayL l):∀{p:Nat} {a:Int},Ev l d p a r->(zk l)[p]?=some true->Ev (qfo l) d (zD (zk l) p) a r:=by
 intro p a he
 induction he with
 | ld p a r s hs hc _ ih =>
  intro ha;have hn:=qcM h hs (t:=p+1) (.inl ⟨by omega,xt (.inl hc),rfl⟩) ha
  have e:=qdU ha;rw[if_pos rfl] at e;have ih:=ih hn;rw[e] at ih;have hg:=qhi ha hs;rw[x7 (xt (.inl hc))] at hg;exact .ld _ _ _ s hg hc ih
 | an p a r s hs hc _ ih =>
  intro ha;have hn:=qcM h hs (t:=p+1) (.inl ⟨by omega,xt (.inr (.inl hc)),rfl⟩) ha
  have e:=qdU ha;rw[if_pos rfl] at e;have ih:=ih hn;rw[e] at ih;have hg:=qhi ha hs;rw[x7 (xt (.inr (.inl hc)))] at hg;exact .an _ _ _ s hg hc ih
 | rt p a s hs hc =>
  intro ha;have hg:=qhi ha hs;rw[x7 (xt (.inr (.inr hc)))] at hg;exact .rt _ _ s hg hc
 | ja p a r s hs hc _ ih =>
  intro ha;have hjm:qbf s:=by unfold qbf;rw[hc];exact qdT.2.2.2
  have hg:=qhi ha hs;rw[qhm hc] at hg;exact .ja _ _ _ _ hg hc (ih (qcM h hs (.inr (.inl ⟨hjm,rfl⟩)) ha))
 | jc p a r s hs hc _ ih =>
  intro ha;have hk:=qae hc;have h1:=qcM h hs (t:=s.th) (.inr (.inl ⟨hk.1,rfl⟩)) ha;have h2:=qcM h hs (t:=s.el) (.inr (.inr ⟨⟨hk.1,hk.2.1⟩,rfl⟩)) ha;have hg:=qhi ha hs;rw[qhn hc] at hg;refine .jc _ _ _ _ hg hc ?_;simp only;split
  ·rename_i q;rw[if_pos q] at ih;exact ih h1
  ·rename_i q;rw[if_neg q] at ih;exact ih h2
theorem qpb(h:MayL l):MayL (qbR l):=qwn (qi8 (qhz h))
theorem qwZ:(qbR l).length<=l.length:=by
 unfold qbR;refine Nat.le_trans qtd ?_;rw[qxF,qhy];exact Nat.le_refl _
theorem qAT(h:MayL l){a:Int}(he:Ev l d 0 a r):Ev (qbR l) d 0 a r:=by
 have h1:=qBw (qhz h) (qBf h he);have h2:=qzY (qi8 (qhz h)) h1 (qrq (qi8 (qhz h)).pos);unfold qbR;simpa[zD] using h2
end
def Go1(p:List Ins)(d:GData)(at':Nat)(a r:Int):Prop:=∀(n:Nat) (m:Mac) (bh:Int) (L:List Nat),m.a=a->m.over=false->p.length<at'+n->(qj2 p d n m at' bh L).1=r∧(qj2 p d n m at' bh L).2.2.2=0
section
variable {p:List Ins} {d:GData} {q:Nat} {a r k:Int}
theorem qmn{i:Ins}(h:p[q]?=some i):q<p.length:=(zzS.1 h).1
theorem qiV{i:Ins}(h:p[q]?=some i){m:Mac}{n:Nat}{bh:Int}{L:List Nat}(he:(doR m i d).2.2=0)(ho:(doR m i d).1.over=false) :
  qj2 p d (n+1) m q bh L=qj2 p d n (doR m i d).1 (q+1+(doR m i d).2.1.toNat) (if qk i.code=4 then 42 else 46) (L++[q]):=by
 rw[qh6,h];simp only[he,ho,ne_eq,not_true,if_false,Bool.false_eq_true]
theorem qDf(h:p[q]?=some ⟨32,0,0,k⟩)(hk:k % 4=0∧0<=k∧k<64)(hn:Go1 p d (q+1) (wdD d k) r):Go1 p d q a r:=by
 intro n m bh L ha ho hl;have hq:=qmn h;obtain⟨n,rfl⟩:∃n',n=n'+1:=⟨n-1,by omega⟩
 have e:doR m ⟨32,0,0,k⟩ d=({ m with a:=wdD d k },0,0):=by
  have e1:z9 32=true:=by decide
  have e2:qk 32=1:=by decide
  simp only[doR,e1,e2,qdg,qfk];simp[hk.1,show ¬64<=k from by omega,wdD]
 rw[qiV h (by rw[e]) (by rw[e];exact ho),e];exact hn n _ _ _ rfl ho (by omega)
theorem qDe(h:p[q]?=some ⟨84,0,0,k⟩)(hn:Go1 p d (q+1) (x9 .u32 a k) r):Go1 p d q a r:=by
 intro n m bh L ha ho hl;have hq:=qmn h;obtain⟨n,rfl⟩:∃n',n=n'+1:=⟨n-1,by omega⟩
 have e:doR m ⟨84,0,0,k⟩ d=({ m with a:=x9 .u32 a k },0,0):=by
  have e1:z9 84=true:=by decide
  have e2:qk 84=3:=by decide
  have e3:xX 84=false:=by decide
  simp only[doR,e1,e2,nuM,qM,qcv,e3];simp[opM,ha]
 rw[qiV h (by rw[e]) (by rw[e];exact ho),e];exact hn n _ _ _ rfl ho (by omega)
theorem qDg(h:p[q]?=some ⟨6,0,0,k⟩):Go1 p d q a k:=by
 intro n m bh L ha ho hl;have hq:=qmn h;obtain⟨n,rfl⟩:∃n',n=n'+1:=⟨n-1,by omega⟩
 have e:doR m ⟨6,0,0,k⟩ d=({ m with over:=true,told:=k },0,0):=by
  have e1:z9 6=true:=by decide
  have e2:qk 6=5:=by decide
  simp only[doR,e1,e2,qpz];simp
 rw[qh6,h];simp[e]
theorem qsK(h:p[q]?=some ⟨5,0,0,k⟩)(hn:Go1 p d (q+1+k.toNat) a r):Go1 p d q a r:=by
 intro n m bh L ha ho hl;have hq:=qmn h;obtain⟨n,rfl⟩:∃n',n=n'+1:=⟨n-1,by omega⟩
 have e:doR m ⟨5,0,0,k⟩ d=(m,k,0):=by
  have e1:z9 5=true:=by decide
  have e2:qk 5=4:=by decide
  simp only[doR,e1,e2,qgm];simp
 rw[qiV h (by rw[e]) (by rw[e];exact ho),e];exact hn n _ _ _ ha ho (by omega)
theorem qx6{c jt jf:Int}(hc:qdN c)(h:p[q]?=some ⟨c,jt,jf,k⟩)(hn:Go1 p d (q+1+(if qbL c a k=true then jt else jf).toNat) a r):Go1 p d q a r:=by
 intro n m bh L ha ho hl;have hq:=qmn h;obtain⟨n,rfl⟩:∃n',n=n'+1:=⟨n-1,by omega⟩
 have e:doR m ⟨c,jt,jf,k⟩ d=(m,if qbL c a k=true then jt else jf,0):=by
  have e1:z9 c=true:=by rcases hc with rfl|rfl|rfl|rfl<;>decide
  have e2:=(qae hc).1;have e3:xX c=false:=by rcases hc with rfl|rfl|rfl|rfl<;>decide
  have e4:=(qae hc).2.1;simp only[doR,e1,e2,qgm,e4,qM,qcv,e3,ha];simp
 rw[qiV h (by rw[e]) (by rw[e];exact ho),e];exact hn n _ _ _ ha ho (by omega)
end
section
variable {l:List Sy} {d:GData} {r:Int}
def bl(l:List Sy)(m:Nat):Nat:=(zb l m).1.length
theorem qhj{m:Nat}{x:Sy}(h:l[l.length-(m+1)]?=some x):zb l (m+1)=((zb l m).1++(jg (bl l m) (zb l m).2 x).reverse,(zb l m).2.set (l.length-(m+1)) (bl l (m+1))):=by
 have e:zb l (m+1)=((zb l m).1++(jg (zb l m).1.length (zb l m).2 x).reverse,(zb l m).2.set (l.length-(m+1)) ((zb l m).1++(jg (zb l m).1.length (zb l m).2 x).reverse).length):=by
  conv=>lhs;unfold zb
  rw[h]
 have e2:bl l (m+1)=((zb l m).1++(jg (zb l m).1.length (zb l m).2 x).reverse).length:=by unfold bl;rw[e]
 rw[e2];exact e
theorem qrG{m m':Nat}(h:m<=m'):∃R,(zb l m').1=(zb l m).1++R:=by
 induction m' with
 | zero=>rw[Nat.le_zero.1 h];exact⟨[],by simp⟩
 | succ m' ih =>
  rcases Nat.lt_or_ge m' m with q|q
  ·rw[show m=m'+1 by omega];exact⟨[],by simp⟩
  ·obtain⟨R,hR⟩:=ih q;cases hx:l[l.length-(m'+1)]? with
   | none =>
    refine⟨R,?_⟩
    conv=>lhs;unfold zb
    rw[hx];exact hR
   | some x=>rw[qhj hx];exact⟨R++_,by rw[hR,List.append_assoc]⟩
theorem qgV{m m':Nat}(h:m<=m'):bl l m<=bl l m':=by
 obtain⟨R,hR⟩:=qrG (l:=l) h;unfold bl;rw[hR,List.length_append];omega
theorem qCO{m:Nat}(hm:m<=l.length){j:Nat}(h1:l.length-m<=j)(h2:j<l.length):(zb l m).2.getD j 0=bl l (l.length-j):=by
 induction m with
 | zero=>omega
 | succ m ih =>
  have hx:l[l.length-(m+1)]?=some l[l.length-(m+1)]:=zzE (by omega);rw[qhj hx,List.getD_eq_getElem?_getD,List.getElem?_set]
  by_cases e:l.length-(m+1)=j
  ·rw[if_pos e,if_pos (by rw[(qfN m).1];omega)]
   rw[show l.length-j=m+1 by omega];rfl
  ·rw[if_neg e,← List.getD_eq_getElem?_getD];exact ih (by omega) (by omega)
def plL(l:List Sy)(j:Nat):Nat:=bl l l.length-bl l (l.length-j)
def cdL(l:List Sy)(j:Nat)(x:Sy):List Ins:=jg (bl l (l.length-(j+1))) (zb l (l.length-(j+1))).2 x
theorem qjH:(xc l).length=bl l l.length:=by unfold xc bl;rw[List.length_reverse]
theorem qfM{j:Nat}{x:Sy}(hx:l[j]?=some x):bl l (l.length-j)=bl l (l.length-(j+1))+(cdL l j x).length∧∃A B,xc l=A++cdL l j x++B∧A.length=plL l j∧B.length=bl l (l.length-(j+1)):=by
 have hj:=(zzS.1 hx).1;have hx2:l[l.length-(l.length-(j+1)+1)]?=some x:=by rw[show l.length-(l.length-(j+1)+1)=j by omega];exact hx
 have h:=qhj hx2;have hm:l.length-(j+1)+1=l.length-j:=by omega
 rw[hm] at h;have h1:(zb l (l.length-j)).1=(zb l (l.length-(j+1))).1++(cdL l j x).reverse:=by rw[h];rfl
 obtain⟨R,hR⟩:=qrG (l:=l) (m:=l.length-j) (m':=l.length) (by omega);have hb:bl l (l.length-j)=bl l (l.length-(j+1))+(cdL l j x).length:=by unfold bl;rw[h1,List.length_append,List.length_reverse]
 refine⟨hb,R.reverse,(zb l (l.length-(j+1))).1.reverse,?_,?_,?_⟩
 ·unfold xc;rw[hR,h1];simp
 ·unfold plL bl;rw[hR,List.length_append,List.length_reverse];omega
 ·rw[List.length_reverse];rfl
theorem qb9{j:Nat}{x:Sy}(hx:l[j]?=some x){i:Nat}{y:Ins}(hy:(cdL l j x)[i]?=some y):(xc l)[plL l j+i]?=some y:=by
 obtain⟨_,A,B,h1,h2,_⟩:=qfM hx;rw[h1,← h2,List.append_assoc,List.getElem?_append_right (by omega),Nat.add_sub_cancel_left,List.getElem?_append_left (zzS.1 hy).1];exact hy
def dsL(l:List Sy)(j t:Nat):Nat:=bl l (l.length-(j+1))-bl l (l.length-t)
theorem qf4{j t:Nat}(h1:j<t)(h2:t<l.length):bl l (l.length-(j+1))-(zb l (l.length-(j+1))).2.getD t 0=dsL l j t:=by
 rw[qCO (by omega) (by omega) h2];rfl
theorem qho{j:Nat}{x:Sy}(hx:l[j]?=some x){t:Nat}(h1:j<t):plL l j+(cdL l j x).length+dsL l j t=plL l t:=by
 have hb:=(qfM hx).1;have b1:=qgV (l:=l) (m:=l.length-j) (m':=l.length) (by omega);have b2:=qgV (l:=l) (m:=l.length-t) (m':=l.length-(j+1)) (by omega);unfold plL dsL;omega
theorem qC2{j:Nat}:dsL l j (j+1)=0:=by unfold dsL;omega
theorem qwm(h:MayL l):∀{j:Nat} {a:Int},Ev l d j a r->Go1 (xc l) d (plL l j) a r:=by
 intro j a he
 induction he with
 | ld j a r x hx hc _ ih =>
  have hm:=h.all j x hx
  have hk:x.k % 4=0∧0<=x.k∧x.k<64:=by
   rcases hm with q|⟨q,_⟩|⟨q,_⟩|⟨q,_⟩
   ·exact q.2.2.2
   ·omega
   ·omega
   ·unfold qdN at q;omega
  have e:cdL l j x=[⟨32,0,0,x.k⟩]:=by unfold cdL jg;rw[hc,if_neg (by decide),if_pos (by decide)]
  have hn:=qho hx (t:=j+1) (by omega);rw[qC2,e] at hn;simp only[List.length_singleton,Nat.add_zero] at hn;exact qDf (qb9 hx (i:=0) (by rw[e];rfl)) hk (by rw[Nat.add_zero,hn];exact ih)
 | an j a r x hx hc _ ih =>
  have e:cdL l j x=[⟨84,0,0,x.k⟩]:=by unfold cdL jg;rw[hc,if_neg (by decide),if_pos (by decide)]
  have hn:=qho hx (t:=j+1) (by omega);rw[qC2,e] at hn;simp only[List.length_singleton,Nat.add_zero] at hn;exact qDe (qb9 hx (i:=0) (by rw[e];rfl)) (by rw[Nat.add_zero,hn];exact ih)
 | rt j a x hx hc =>
  have e:cdL l j x=[⟨6,0,0,x.k⟩]:=by unfold cdL jg;rw[hc,if_neg (by decide),if_pos (by decide)]
  exact qDg (qb9 hx (i:=0) (by rw[e];rfl))
 | ja j a r x hx hc _ ih =>
  have hm:=(h.all j x hx).ja hc;have e:cdL l j x=[⟨5,0,0,(dsL l j x.th:Nat)⟩]:=by unfold cdL jg;rw[if_pos hc,qf4 hm.2.2.1 hm.2.2.2]
  have hn:=qho hx hm.2.2.1;rw[e] at hn;simp only[List.length_singleton] at hn;exact qsK (qb9 hx (i:=0) (by rw[e];rfl)) (by rw[Nat.add_zero,Int.toNat_natCast,hn];exact ih)
 | jc j a r x hx hc _ ih =>
  have hm:=(h.all j x hx).jc hc;have hk:=qae hc;have n1:=qho hx hm.1;have n2:=qho hx hm.2.2.1
  by_cases hf:max (dsL l j x.th) (dsL l j x.el)<=255
  ·have e:cdL l j x=[⟨x.code,(dsL l j x.th:Nat),(dsL l j x.el:Nat),x.k⟩]:=by
    unfold cdL jg;rw[if_neg hk.2.1,if_neg (fun q=>q hk.1),qf4 hm.1 hm.2.1,qf4 hm.2.2.1 hm.2.2.2,if_pos hf]
   rw[e] at n1 n2;simp only[List.length_singleton] at n1 n2;refine qx6 hc (qb9 hx (i:=0) (by rw[e];rfl)) ?_
   by_cases q:qbL x.code a x.k=true
   ·rw[if_pos q] at ih ⊢;rw[Nat.add_zero,Int.toNat_natCast,n1];exact ih
   ·rw[if_neg q] at ih ⊢;rw[Nat.add_zero,Int.toNat_natCast,n2];exact ih
  ·have e:cdL l j x=[⟨x.code,0,1,x.k⟩,⟨5,0,0,(dsL l j x.th+1:Nat)⟩,⟨5,0,0,(dsL l j x.el:Nat)⟩]:=by
    unfold cdL jg;rw[if_neg hk.2.1,if_neg (fun q=>q hk.1),qf4 hm.1 hm.2.1,qf4 hm.2.2.1 hm.2.2.2,if_neg hf]
   rw[e] at n1 n2;simp only[List.length_cons,List.length_nil] at n1 n2;refine qx6 hc (qb9 hx (i:=0) (by rw[e];rfl)) ?_
   by_cases q:qbL x.code a x.k=true
   ·rw[if_pos q] at ih ⊢;refine qsK (k:=((dsL l j x.th+1:Nat):Int)) (qb9 hx (i:=1) (y:=⟨5,0,0,(dsL l j x.th+1:Nat)⟩) (by rw[e];rfl)) ?_;rw[Int.toNat_natCast];have e2:plL l j+0+1+(0:Int).toNat+1+(dsL l j x.th+1)=plL l x.th:=by simp;omega
    rw[e2];exact ih
   ·rw[if_neg q] at ih ⊢;refine qsK (k:=((dsL l j x.el:Nat):Int)) (qb9 hx (i:=2) (y:=⟨5,0,0,(dsL l j x.el:Nat)⟩) (by rw[e];rfl)) ?_;rw[Int.toNat_natCast];have e2:plL l j+0+1+(1:Int).toNat+1+dsL l j x.el=plL l x.el:=by simp;omega
    rw[e2];exact ih
theorem qqy(h:MayL l)(he:Ev l d 0 0 r):(qeA (xc l) d).1=r∧(qeA (xc l) d).2.2.2=0:=by
 have:=qwm h he;have e:plL l 0=0:=by unfold plL;rw[Nat.sub_zero];omega
 rw[e] at this;exact this _ _ _ _ rfl rfl (by omega)
end
def qbe(l:List Sy):Prop:=∀x ∈ l,0<=x.k∧x.k<=4294967295
section
variable {l:List Sy}
theorem qxs(h:qbe l):qbe (qea l):=by
 intro x hx;unfold qea at hx;obtain⟨y,hy,rfl⟩:=List.mem_map.1 hx;exact h y hy
theorem ql8(h:qbe l):∀m,qbe (qeb l m)
 | 0=>h
 | m+1=>by
  unfold qeb;split
  ·rename_i x hx;intro y hy;rcases List.mem_or_eq_of_mem_set hy with hy|rfl
   ·exact ql8 h m y hy
   ·have hk:=h x (zzM hx);unfold qa5;split
    ·exact⟨Int.le_refl 0,show (0:Int)<=4294967295 by decide⟩
    ·exact hk
  ·exact ql8 h m
theorem qw0(h:qbe l):qbe (qbR l):=by
 intro x hx;unfold qbR qfo at hx;obtain⟨q,hq⟩:=List.getElem?_of_mem hx;obtain⟨p,_,h2,_⟩:=qi7 hq;rw[List.getElem?_map] at h2;obtain⟨y,hy,rfl⟩:=Option.map_eq_some_iff.1 h2;exact ql8 (qxs h) _ y (zzM hy)
theorem qox(h:MayL l):∀{m:Nat},m<=l.length->∀{b:Nat} {i:Ins},(zb l m).1[b]?=some i->∃(j:Nat) (x:Sy) (e:Nat),l[j]?=some x∧(cdL l j x)[e]?=some i∧b+e+1=bl l (l.length-j)
 | 0,_,b,i,hb=>by simp[zb] at hb
 | m+1,hm,b,i,hb=>by
  have hx:l[l.length-(m+1)]?=some l[l.length-(m+1)]:=zzE (by omega);have hs:=qhj hx;have hcd:cdL l (l.length-(m+1)) l[l.length-(m+1)]=jg (bl l m) (zb l m).2 l[l.length-(m+1)]:=by unfold cdL;rw[show l.length-(l.length-(m+1)+1)=m by omega]
  have h1:(zb l (m+1)).1=(zb l m).1++(cdL l (l.length-(m+1)) l[l.length-(m+1)]).reverse:=by rw[hs,hcd]
  rw[h1,List.getElem?_append] at hb;split at hb
  ·exact qox h (by omega) hb
  ·rename_i hlt;have hbl:(zb l m).1.length=bl l m:=rfl;rw[hbl] at hlt hb;have hc:=(qfM hx).1;rw[show l.length-(l.length-(m+1))=m+1 by omega,show l.length-(l.length-(m+1)+1)=m by omega] at hc
   have hlen:=(zzS.1 hb).1;rw[List.length_reverse] at hlen;rw[List.getElem?_reverse hlen] at hb;exact⟨_,_,_,hx,hb,by rw[show l.length-(l.length-(m+1))=m+1 by omega];omega⟩
theorem qs9(h:MayL l){k:Nat}{i:Ins}(hk:(xc l)[k]?=some i):∃(j:Nat) (x:Sy) (e:Nat),l[j]?=some x∧(cdL l j x)[e]?=some i∧(xc l).length-1-k+e+1=bl l (l.length-j):=by
 have hl:=(zzS.1 hk).1;have e:=hk;unfold xc at e;rw[List.getElem?_reverse (by unfold xc at hl;simpa using hl)] at e;obtain⟨j,x,e,h1,h2,h3⟩:=qox h (Nat.le_refl _) e;refine⟨j,x,e,h1,h2,?_⟩;rw[qjH];exact h3
structure LkOk (i:Ins) (n:Nat):Prop where
 ok:InsOk i
 one:qlP i n=0
 c:i.code≠96∧i.code≠97
theorem qln(h:MayL l){t:Nat}(ht:t<l.length):0<bl l (l.length-t):=by
 have hx:l[t]?=some l[t]:=zzE ht;have h1:=(qfM hx).1;have h2:=(qna (n:=bl l (l.length-(t+1))) (pl:=(zb l (l.length-(t+1))).2) (x:=l[t])).2;have:(cdL l t l[t]).length=(jg (bl l (l.length-(t+1))) (zb l (l.length-(t+1))).2 l[t]).length:=rfl;omega
theorem qo0{c k:Int}{n:Nat}(hc:c=32∧k % 4=0∧k<64∨c=84∨c=6)(hk:0<=k∧k<=4294967295):LkOk ⟨c,0,0,k⟩ n:=by
 have hc2:c=32∨c=84∨c=6:=by rcases hc with h|h|h<;>simp[h]
 have b1:z9 c=true:=by rcases hc2 with rfl|rfl|rfl<;>decide
 have b2:qk c≠2∧qk c≠4:=by rcases hc2 with rfl|rfl|rfl<;>decide
 refine⟨⟨show (0:Int)<=c by omega,show c<=65535 by omega,Int.le_refl 0,show (0:Int)<=255 by decide,Int.le_refl 0,show (0:Int)<=255 by decide,hk.1,hk.2⟩,?_,show c≠96∧c≠97 by omega⟩
 have a1:qjd ⟨c,0,0,k⟩=false:=by simp[qjd,b1]
 have a2:qiC ⟨c,0,0,k⟩=false:=by
  rcases hc with⟨h1,h2,h3⟩|h|h
  ·simp[qiC,h2,show ¬64<=k from by omega]
  ·simp[qiC,h]
  ·simp[qiC,h]
 have a3:qkn ⟨c,0,0,k⟩=false:=by simp[qkn,b2.1,show c≠96 from by omega,show c≠97 from by omega]
 have a4:qko ⟨c,0,0,k⟩=false:=by simp[qko,show c≠52 from by omega]
 have a5:qkp ⟨c,0,0,k⟩=false:=by simp[qkp,show c≠100 from by omega,show c≠116 from by omega]
 have a6:qkq ⟨c,0,0,k⟩ n=false:=by simp[qkq,b2.2,show c≠5 from by omega]
 simp[qlP,a1,a2,a3,a4,a5,a6]
theorem qte{k n:Nat}(h:k<n)(hn:k<=1000000):LkOk ⟨5,0,0,(k:Int)⟩ n:=by
 refine⟨⟨show (0:Int)<=5 by decide,show (5:Int)<=65535 by decide,Int.le_refl 0,show (0:Int)<=255 by decide,Int.le_refl 0,show (0:Int)<=255 by decide,show (0:Int)<=k by omega,show (k:Int)<=4294967295 by omega⟩,?_,show (5:Int)≠96∧(5:Int)≠97 by decide⟩
 have a1:qjd ⟨5,0,0,k⟩=false:=by
  have:z9 5=true:=by decide
  simp[qjd,this]
 have a2:qiC ⟨5,0,0,k⟩=false:=by simp[qiC]
 have a3:qkn ⟨5,0,0,k⟩=false:=by
  have:qk 5≠2:=by decide
  simp[qkn,this]
 have a4:qko ⟨5,0,0,k⟩=false:=by simp[qko]
 have a5:qkp ⟨5,0,0,k⟩=false:=by simp[qkp]
 have a6:qkq ⟨5,0,0,k⟩ n=false:=by simp[qkq];omega
 simp[qlP,a1,a2,a3,a4,a5,a6]
theorem qyb{c k:Int}{jt jf n:Nat}(hc:qdN c)(hk:0<=k∧k<=4294967295)(h1:jt<=255)(h2:jf<=255)(h3:jt<n)(h4:jf<n):LkOk ⟨c,jt,jf,k⟩ n:=by
 have b1:z9 c=true:=by rcases hc with rfl|rfl|rfl|rfl<;>decide
 have b2:qk c≠2:=by rw[(qae hc).1];decide
 have b3:c≠32∧c≠96∧c≠97∧c≠52∧c≠100∧c≠116∧c≠5∧0<=c∧c<=65535:=by rcases hc with rfl|rfl|rfl|rfl<;>decide
 refine⟨⟨b3.2.2.2.2.2.2.2.1,b3.2.2.2.2.2.2.2.2,by simp only;omega,by simp only;omega,by simp only;omega,by simp only;omega,hk.1,hk.2⟩,?_,⟨b3.2.1,b3.2.2.1⟩⟩
 have a1:qjd ⟨c,jt,jf,k⟩=false:=by simp[qjd,b1]
 have a2:qiC ⟨c,jt,jf,k⟩=false:=by simp[qiC,b3.1]
 have a3:qkn ⟨c,jt,jf,k⟩=false:=by simp[qkn,b2,b3.2.1,b3.2.2.1]
 have a4:qko ⟨c,jt,jf,k⟩=false:=by simp[qko,b3.2.2.2.1]
 have a5:qkp ⟨c,jt,jf,k⟩=false:=by simp[qkp,b3.2.2.2.2.1,b3.2.2.2.2.2.1]
 have a6:qkq ⟨c,jt,jf,k⟩ n=false:=by
  have:¬(n:Int)<=hiM ⟨c,jt,jf,k⟩:=by unfold hiM;simp only;split<;>omega
  simp only[qkq,if_neg b3.2.2.2.2.2.2.1,this,decide_false,Bool.and_false]
 simp[qlP,a1,a2,a3,a4,a5,a6]
theorem qlM(h:MayL l)(hr:qbe l){k:Nat}{i:Ins}(hk:(xc l)[k]?=some i):LkOk i ((xc l).length-1-k):=by
 obtain⟨j,x,e,hx,he,hb⟩:=qs9 h hk;have hm:=h.all j x hx;have hxr:=hr x (zzM hx);have hbl:=(qfM hx).1;have hbig:bl l (l.length-j)<=3*l.length:=Nat.le_trans (qfN (l:=l) (l.length-j)).2.2 (by omega);have hbig2:=h.big
 have one:∀{y:Ins},cdL l j x=[y]->i=y∧(xc l).length-1-k=bl l (l.length-(j+1)):=fun {y} hy=>by
  rw[hy] at he hbl;cases e with
  | zero=>simp at he;simp at hbl;exact⟨he.symm,by omega⟩
  | succ e=>simp at he
 rcases hm with⟨q,_,_,q1,q2,q3⟩|⟨q,_⟩|⟨q,_,_,q3,q4⟩|⟨q,q1,q2,q3,q4⟩
 ·obtain⟨e1,_⟩:=one (y:=⟨x.code,0,0,x.k⟩) (by unfold cdL jg;rw[q,if_neg (by decide),if_pos (by decide)])
  rw[e1];exact qo0 (.inl ⟨q,q1,q3⟩) hxr
 ·obtain⟨e1,_⟩:=one (y:=⟨x.code,0,0,x.k⟩) (by unfold cdL jg;rcases q with q|q<;>rw[q,if_neg (by decide),if_pos (by decide)])
  rw[e1];exact qo0 (.inr q) hxr
 ·obtain⟨e1,e2⟩:=one (y:=⟨5,0,0,(dsL l j x.th:Nat)⟩) (by unfold cdL jg;rw[if_pos q,qf4 q3 q4]);have hp:=qln h q4;have hmn:=qgV (l:=l) (m:=l.length-x.th) (m':=l.length-(j+1)) (by omega);rw[e1,e2];unfold dsL;exact qte (by omega) (by omega)
 ·have hp:=qln h q2;have hp2:=qln h q4;have hmn:=qgV (l:=l) (m:=l.length-x.th) (m':=l.length-(j+1)) (by omega);have hmn2:=qgV (l:=l) (m:=l.length-x.el) (m':=l.length-(j+1)) (by omega);have hkk:=qae q;have d1:dsL l j x.th<bl l (l.length-(j+1)):=by unfold dsL;omega
  have d2:dsL l j x.el<bl l (l.length-(j+1)):=by unfold dsL;omega
  by_cases hf:max (dsL l j x.th) (dsL l j x.el)<=255
  ·obtain⟨e1,e2⟩:=one (y:=⟨x.code,(dsL l j x.th:Nat),(dsL l j x.el:Nat),x.k⟩) (by
    unfold cdL jg;rw[if_neg hkk.2.1,if_neg (fun z=>z hkk.1),qf4 q1 q2,qf4 q3 q4,if_pos hf])
   rw[e1,e2];exact qyb q hxr (by omega) (by omega) d1 d2
  ·have e3:cdL l j x=[⟨x.code,0,1,x.k⟩,⟨5,0,0,(dsL l j x.th+1:Nat)⟩,⟨5,0,0,(dsL l j x.el:Nat)⟩]:=by
    unfold cdL jg;rw[if_neg hkk.2.1,if_neg (fun z=>z hkk.1),qf4 q1 q2,qf4 q3 q4,if_neg hf]
   rw[e3] at he hbl;simp only[List.length_cons,List.length_nil] at hbl
   match e,he,hb with
   | 0,he,hb =>
    simp at he;subst he;exact qyb (jt:=0) (jf:=1) q hxr (by omega) (by omega) (by omega) (by omega)
   | 1,he,hb =>
    simp only[List.getElem?_cons_succ,List.getElem?_cons_zero,Option.some.injEq] at he;subst he;exact qte (by omega) (by omega)
   | 2,he,hb =>
    simp only[List.getElem?_cons_succ,List.getElem?_cons_zero,Option.some.injEq] at he;subst he;exact qte (by omega) (by omega)
   | e+3,he,hb=>simp at he
theorem qqw(h:MayL l):qkS (xc l)=6:=by
 obtain⟨s,hs,h6⟩:=h.last;have hp:=h.pos;obtain⟨hb,A,B,h1,h2,h3⟩:=qfM hs;have e:cdL l (l.length-1) s=[⟨6,0,0,s.k⟩]:=by unfold cdL jg;rw[h6,if_neg (by decide),if_pos (by decide)]
 have hB:B=[]:=by
  apply List.eq_nil_of_length_eq_zero;rw[h3,show l.length-(l.length-1+1)=0 by omega];rfl
 rw[e,hB,List.append_nil] at h1;unfold qkS;rw[h1];simp
theorem qtb(h:MayL l):0<(xc l).length:=by
 rw[qjH];have:=qln h h.pos;simpa using this
theorem qta:(xc l).length<=3*l.length:=by rw[qjH];exact (qfN (l:=l) l.length).2.2
theorem qqv(h:MayL l)(hr:qbe l)(hl:(xc l).length<=4096):PrgGood (xc l) :=
 ⟨hl,by have:=qtb h;omega,fun i hi=>by obtain⟨k,hk⟩:=List.getElem?_of_mem hi;exact (qlM h hr hk).ok,fun k i hk=>(qlM h hr hk).one,by rw[qqw h];decide⟩
-- no cell is read
theorem qBE{i:Ins}(hi:i.code≠96∧i.code≠97){x:BitVec 16}{j:Nat}{L:List Nat}:qBD i x j L=L:=by
 unfold qBD;simp[rdM,hi.1,hi.2]
theorem qyt{n:Nat}:∀{p:List Ins} {j:Nat} {st:WSt},(∀i ∈ p,i.code≠96∧i.code≠97)->(wkM n j p st).1=st.1
 | [],_,_,_=>rfl
 | i::p,j,st,h=>by
  unfold wkM;rw[qyt (fun y hy=>h y (List.mem_cons_of_mem _ hy))]
  unfold stM;split
  ·exact qBE (h i (List.mem_cons_self ..))
  ·rfl
theorem quN{rch:List Bool}{sur:List (BitVec 16)}:∀{p:List Ins} {j:Nat} {L:List Nat},(∀i ∈ p,i.code≠96∧i.code≠97)->qxN rch sur j p L=L
 | [],_,_,_=>rfl
 | i::p,j,L,h=>by
  unfold qxN;have hi:=h i (List.mem_cons_self ..);rw[quN (fun y hy=>h y (List.mem_cons_of_mem _ hy)),if_neg (by simp[unC,rdC,hi.1,hi.2])]
theorem qtc(h:MayL l)(hr:qbe l):qEa (xc l)=[]∧qD9 (xc l)=[]:=by
 have hc:∀i ∈ xc l,i.code≠96∧i.code≠97:=fun i hi=>by obtain⟨k,hk⟩:=List.getElem?_of_mem hi;exact (qlM h hr hk).c
 exact⟨qyt hc,quN hc⟩
end
structure FilU (x:GFil):Prop where
 d:0<=x.dflt∧x.dflt<=4294967295
 r:∀r ∈ x.rules,0<=r.act∧r.act<=4294967295
 t:∀r ∈ x.rules,∀t ∈ r.tests,0<=t.act∧t.act<=4294967295
theorem qbe.app{a b:List Sy}(h1:qbe a)(h2:qbe b):qbe (a++b):=fun x hx=>by
 rcases List.mem_append.1 hx with h|h
 ·exact h1 x h
 ·exact h2 x h
theorem qbe.nil:qbe []:=fun x hx=>by cases hx
theorem qbe.cons{s:Sy}{l:List Sy}(h1:0<=s.k∧s.k<=4294967295)(h2:qbe l):qbe (s::l):=fun x hx=>by
 rcases List.mem_cons.1 hx with rfl|h
 ·exact h1
 ·exact h2 x h
theorem r0:(0:Int)<=0∧(0:Int)<=4294967295:=⟨by decide,by decide⟩
theorem qmW{a m v:Int}{p F:Nat}(ha:0<=a∧a<=4294967295)(hm:0<=m∧m<=4294967295)(hv:0<=v∧v<=4294967295):qbe (qcW a m v p F):=by
 unfold qcW;split
 ·exact .nil
 ·split
  ·exact .cons ha (.cons hv .nil)
  ·exact .cons ha (.cons hm (.cons hv .nil))
theorem qDx{x:Int}(h0:0<=x)(h1:x<18446744073709551616):(0<=loW x∧loW x<=4294967295)∧0<=hiW x∧hiW x<=4294967295:=by
 unfold loW hiW;omega
theorem quD{t:GTest}{p:Nat}(ht:TstOk t)(ha:0<=t.act∧t.act<=4294967295):qbe (qgr t p):=by
 have h1:=qDx ht.m0 ht.m1;have h2:=qDx ht.v0 ht.v1;have a0:=ht.a0;have a1:=ht.a1;exact ((qmW (by omega) h1.1 h2.1).app (qmW (by omega) h1.2 h2.2)).app (.cons ha .nil)
theorem qld:∀{ts:List GTest} {a:Int} {p:Nat},(∀t ∈ ts,TstOk t∧0<=t.act∧t.act<=4294967295)->(0<=a∧a<=4294967295)->qbe (qbU ts a p)
 | [],a,p,_,ha=>.cons ha .nil
 | t::ts,a,p,h,ha=>by
  have ht:=h t (List.mem_cons_self ..);unfold qbU;refine (quD ht.1 ht.2).app ?_;split
  ·exact .nil
  ·exact qld (fun y hy=>h y (List.mem_cons_of_mem _ hy)) ha
theorem qk6:∀{rs:List GRule} {p:Nat},(∀r ∈ rs,(0<=r.act∧r.act<=4294967295)∧∀t ∈ r.tests,TstOk t∧0<=t.act∧t.act<=4294967295)->qbe (zA rs p)
 | [],_,_=>.nil
 | r::rs,p,h=>by
  have hr:=h r (List.mem_cons_self ..);unfold zA;exact (qld hr.2 hr.1).app (qk6 fun y hy=>h y (List.mem_cons_of_mem _ hy))
theorem qxG{a:Int}(h0:0<=a)(h6:a<6):0<=qhB a∧qhB a<=4294967295:=by
 have:a=0∨a=1∨a=2∨a=3∨a=4∨a=5:=by omega
 rcases this with rfl|rfl|rfl|rfl|rfl|rfl<;>decide
theorem qw1{a:Int}{p F:Nat}(h0:0<=a)(h6:a<6):qbe (qa0 a p F):=by
 unfold qa0;have hb:(0:Int)<=1073741824∧(1073741824:Int)<=4294967295:=⟨by decide,by decide⟩
 refine qbe.app (.cons ⟨show (0:Int)<=4 by decide,show (4:Int)<=4294967295 by decide⟩ (.cons (qxG h0 h6) (.cons r0 .nil))) ?_
 split
 ·exact .cons hb .nil
 ·split
  ·exact .cons hb .nil
  ·exact .nil
theorem qnS{FW:Nat->Nat}{T:List Nd}{p:Nat}(h:∀n ∈ T,0<=n.at'∧n.at'<=4294967295):qbe (zN FW T p):=by
 unfold zN;refine qbe.app ?_ ?_
 ·cases T with
  | nil=>exact .nil
  | cons n T =>
   show qbe (if n.leaf=true then [⟨5,0,FW n.way,0⟩] else [])
   split
   ·exact .cons (s:=⟨5,0,_,0⟩) r0 .nil
   ·exact .nil
 ·unfold brE;intro x hx;obtain⟨n,hn,hx⟩:=List.mem_flatMap.1 hx;unfold qh0 at hx;split at hx
  ·cases hx
  ·rw[List.mem_singleton] at hx;rw[hx];exact h n hn
theorem qxH(n:Nat):∀(l:List Sp) (a:Nat),l.length<=n->SpR l->∀nd ∈ zj l a,0<=nd.at'∧nd.at'<4294967296:=by
 induction n with
 | zero =>
  intro l a h1 _ nd hnd;rw[List.eq_nil_of_length_eq_zero (Nat.le_zero.1 h1),zj,dif_pos (show ([]:List Sp).length / 2=0 from rfl),List.mem_singleton] at hnd
  subst hnd;exact⟨Int.le_refl 0,show (0:Int)<4294967296 by decide⟩
 | succ n ih =>
  intro l a h1 hr nd hnd;rw[zj] at hnd
  by_cases hk:l.length / 2=0
  ·rw[dif_pos hk,List.mem_singleton] at hnd;subst hnd;exact⟨Int.le_refl 0,show (0:Int)<4294967296 by decide⟩
  ·rw[dif_neg hk] at hnd;rcases List.mem_cons.1 hnd with rfl|hnd
   ·have hlt:l.length / 2<l.length:=by omega
    have:=hr _ (List.getElem_mem hlt);simp only[List.getD_eq_getElem?_getD,zzE hlt,Option.getD_some];exact⟨this.1,this.2.1⟩
   ·rcases List.mem_append.1 hnd with hnd|hnd
    ·exact ih (l.take (l.length / 2)) _ (by simp;omega) (fun s hs=>hr s (List.mem_of_mem_take hs)) nd hnd
    ·exact ih (l.drop (l.length / 2)) _ (by simp;omega) (fun s hs=>hr s (List.mem_of_mem_drop hs)) nd hnd
section
variable {x:GFil}
theorem qmC(h:FilG x)(hu:FilU x):qbe (qW x):=by
 unfold qW;refine (((qbe.app (qw1 h.a0 h.a6) (qnS fun n hn=>?_)).app (.cons hu.d .nil)).app (qk6 fun r hr=>⟨hu.r r hr,fun t ht=>⟨(h.ts r hr t ht).ok,hu.t r hr t ht⟩⟩)).app (.cons ⟨show (0:Int)<=2147418112 by decide,show (2147418112:Int)<=4294967295 by decide⟩ .nil)
 have:=qxH _ _ 0 (Nat.le_refl _) (qhK h.spans.1 (Int.le_refl 0) (Int.le_refl _)) n hn;omega
def szF(x:GFil):Nat:=10+(x.rules.map fun r=>3+7*r.tests.length).sum
theorem qq6{rs:List GRule}:qY rs+2*rs.length<=(rs.map fun r=>3+7*r.tests.length).sum:=by
 induction rs with
 | nil=>simp[qY]
 | cons r rs ih =>
  have:=qia (ts:=r.tests);simp[qY,qlX] at ih ⊢;omega
theorem qoL(h:FilG x):(qW x).length<=szF x:=by
 have h1:=h.dfl.1;have h2:=qq6 (rs:=x.rules);rw[qkF];unfold xl szF;omega
end
theorem qlA:∀{ts:List GTest} {a:Int},(qej ts a).1.Sublist ts∧((qej ts a).2=a∨∃t ∈ ts,(qej ts a).2=t.act)
 | [],_=>⟨.slnil,.inl rfl⟩
 | t::ts,a=>by
  unfold qej;split
  ·exact⟨List.nil_sublist _,.inr ⟨t,List.mem_cons_self ..,rfl⟩⟩
  ·obtain⟨h1,h2⟩:=qlA (ts:=ts) (a:=a);refine⟨h1.cons_cons t,?_⟩;rcases h2 with h2|⟨y,hy,h2⟩
   ·exact .inl h2
   ·exact .inr ⟨y,List.mem_cons_of_mem _ hy,h2⟩
theorem quJ{a:Int}{ts:List GTest}:(qeP a ts).Sublist ts:=by
 unfold qeP;have:=List.dropWhile_sublist (fun t:GTest=>decide (t.act=a)) (l:=ts.reverse)
 have:=this.reverse;rwa [List.reverse_reverse] at this
theorem qoH{q:GTest->Bool}:∀{ts:List GTest} {a:Int},(∀t ∈ ts,t.mask=0->q t=true)->fnd q (qej ts a).2 (qej ts a).1=fnd q a ts
 | [],_,_=>rfl
 | t::ts,a,h=>by
  unfold qej;split
  ·rename_i h0;rw[qiU,qcU,if_pos (h t (List.mem_cons_self ..) h0)]
  ·rw[qcU,qcU,qoH fun y hy=>h y (List.mem_cons_of_mem _ hy)]
theorem qmJ{q:GTest->Bool}{a:Int}{t:GTest}(h:t.act=a):∀{ts:List GTest},fnd q a (ts++[t])=fnd q a ts
 | []=>by rw[List.nil_append,qcU,qiU,h];split<;>rfl
 | y::ts=>by rw[List.cons_append,qcU,qcU,qmJ h]
theorem quI{q:GTest->Bool}{a:Int}(n:Nat):∀(ts:List GTest),ts.length=n->fnd q a (qeP a ts)=fnd q a ts:=by
 induction n with
 | zero=>intro ts h;rw[List.eq_nil_of_length_eq_zero h];rfl
 | succ n ih =>
  intro ts h;have e:ts=ts.dropLast++[ts.getLast (by intro h0;rw[h0] at h;simp at h)]:=(List.dropLast_concat_getLast _).symm;generalize ts.getLast _=z at e;generalize ts.dropLast=l0 at e;subst e;have hl0:l0.length=n:=by simpa using h
  rw[qkb];split
  ·rename_i hz;rw[ih l0 hl0,qmJ hz]
  ·rfl
theorem qib:∀{l:List GRule} {o:Option GRule},upR o l=true↔(∀r ∈ l,qbD r=true)∧(∀b,o=some b->∀r ∈ l,b.nr<r.nr)∧l.Pairwise fun a b=>a.nr<b.nr
 | [],o=>by simp[upR]
 | r::l,o=>by
  have ih:=qib (l:=l) (o:=some r);simp only[upR,Bool.and_eq_true,ih,List.forall_mem_cons,List.pairwise_cons];constructor
  ·rintro⟨⟨h1,h2⟩,h3,h4,h5⟩;refine⟨⟨h1,h3⟩,fun b hb=>?_,h4 r rfl,h5⟩
   subst hb;have h2:b.nr<r.nr:=by simpa using h2
   exact⟨h2,fun y hy=>Int.lt_trans h2 (h4 r rfl y hy)⟩
  ·rintro⟨⟨h1,h3⟩,h2,h4,h5⟩;refine⟨⟨h1,?_⟩,h3,fun b hb=>by cases hb;exact h4,h5⟩
   cases o with
   | none=>rfl
   | some b=>simpa using (h2 b rfl).1
section
variable {x:GFil}
theorem qjN{r:GRule}:(xd r).nr=r.nr:=rfl
theorem qbQ{r:GRule}:(xd r).tests.Sublist r.tests:=quJ.trans qlA.1
theorem qnj{r:GRule}:(xd r).act=r.act∨∃t ∈ r.tests,(xd r).act=t.act:=qlA.2
theorem qtD{q:GTest->Bool}{r:GRule}(h:∀t ∈ r.tests,t.mask=0->q t=true):fnd q (xd r).act (xd r).tests=fnd q r.act r.tests :=
 (quI _ _ rfl).trans (qoH h)
theorem qd3{r:GRule}(h:r ∈ (jh x).rules):∃r0 ∈ x.rules,r=xd r0:=by
 obtain⟨h1,_⟩:=List.mem_filter.1 h;obtain⟨r0,h0,e⟩:=List.mem_map.1 h1;exact⟨r0,h0,e.symm⟩
theorem qoc{r:GRule}(h:qbD r=true):qbD (xd r)=true:=by
 simp only[qbD,Bool.and_eq_true,decide_eq_true_eq,List.all_eq_true] at h ⊢;obtain⟨⟨h1,h2⟩,h3⟩:=h;refine⟨⟨Nat.le_trans qbQ.length_le h1,fun t ht=>h2 t (qbQ.subset ht)⟩,?_⟩
 rcases qnj (r:=r) with e|⟨t,ht,e⟩
 ·rw[e];exact h3
 ·rw[e];have:=h2 t ht;simp only[qbE,Bool.and_eq_true] at this;exact this.2
theorem qfP(h:z7 x=true):z7 (jh x)=true:=by
 simp only[z7,Bool.and_eq_true,decide_eq_true_eq] at h ⊢;obtain⟨⟨⟨⟨k1,k2⟩,k3⟩,k4⟩,k5⟩:=h;obtain⟨u1,_,u3⟩:=qib.1 k5;refine⟨⟨⟨⟨k1,k2⟩,?_⟩,k4⟩,qib.2 ⟨fun r hr=>?_,fun b hb=>(by cases hb),?_⟩⟩
 ·have:=List.length_filter_le (qba x.dflt) (x.rules.map xd);rw[List.length_map] at this;exact Nat.le_trans this k3
 ·obtain⟨r0,h0,rfl⟩:=qd3 hr;exact qoc (u1 r0 h0)
 ·exact ((List.pairwise_map (f:=xd) (R:=fun a b:GRule=>a.nr<b.nr)).2 u3).filter _
theorem qlO(h:FilR x):FilR (jh x):=by
 refine⟨fun r hr=>?_,fun r hr t ht=>?_⟩
 ·obtain⟨r0,h0,rfl⟩:=qd3 hr;exact h.nr r0 h0
 ·obtain⟨r0,h0,rfl⟩:=qd3 hr;exact h.ts r0 h0 t (qbQ.subset ht)
theorem qAl(h:FilU x):FilU (jh x):=by
 refine⟨h.d,fun r hr=>?_,fun r hr t ht=>?_⟩
 ·obtain⟨r0,h0,rfl⟩:=qd3 hr;rcases qnj (r:=r0) with e|⟨t,ht,e⟩
  ·rw[e];exact h.r r0 h0
  ·rw[e];exact h.t r0 h0 t ht
 ·obtain⟨r0,h0,rfl⟩:=qd3 hr;exact h.t r0 h0 t (qbQ.subset ht)
theorem qwx:szF (jh x)<=szF x:=by
 have:∀l:List GRule,(((l.map xd).filter (qba x.dflt)).map fun r=>3+7*r.tests.length).sum<=(l.map fun r=>3+7*r.tests.length).sum:=fun l=>by
  induction l with
  | nil=>exact Nat.le_refl _
  | cons r l ih =>
   have hl:=(qbQ (r:=r)).length_le;rw[List.map_cons,List.filter_cons];split
   ·simp only[List.map_cons,List.sum_cons];omega
   ·simp only[List.map_cons,List.sum_cons];omega
 have:=this x.rules;exact Nat.add_le_add_left this 10
theorem qkI{d n:Int}{q:GTest->Bool}:∀{l:List GRule},(∀r ∈ l,∀t ∈ r.tests,t.mask=0->q t=true)->l.Pairwise (fun a b=>a.nr<b.nr)->
  (match ((l.map xd).filter (qba d)).find? (fun r=>decide (r.nr=n)) with|none=>d|some r=>fnd q r.act r.tests)=(match l.find? (fun r=>decide (r.nr=n)) with|none=>d|some r=>fnd q r.act r.tests)
 | [],_,_=>rfl
 | r::l,h,hp=>by
  obtain⟨p1,p2⟩:=List.pairwise_cons.1 hp;have hr:=qtD (h r (List.mem_cons_self ..));have ih:=qkI (d:=d) (n:=n) (q:=q) (l:=l) (fun y hy=>h y (List.mem_cons_of_mem _ hy)) p2
  rw[List.map_cons,List.filter_cons,List.find?_cons]
  by_cases hn:r.nr=n
  ·have no:((l.map xd).filter (qba d)).find? (fun r=>decide (r.nr=n))=none:=by
    refine List.find?_eq_none.2 fun y hy=>?_
    obtain⟨y1,_⟩:=List.mem_filter.1 hy;obtain⟨z,hz,rfl⟩:=List.mem_map.1 y1;have:=p1 z hz;rw[qjN];simp;omega
   simp only[hn,decide_true]
   by_cases hk:qba d (xd r)=true
   ·rw[if_pos hk,List.find?_cons];simp only[qjN,hn,decide_true];exact hr
   ·rw[if_neg hk,no];simp only[qba,Bool.or_eq_true,decide_eq_true_eq] at hk;have h0:(xd r).tests=[]:=List.eq_nil_of_length_eq_zero (by omega);have h1:(xd r).act=d:=Decidable.byContradiction fun z=>hk (.inr z)
    rw[h0,h1,qiU] at hr;exact hr
  ·simp only[hn,decide_false]
   by_cases hk:qba d (xd r)=true
   ·rw[if_pos hk,List.find?_cons];simp only[qjN,hn,decide_false];exact ih
   ·rw[if_neg hk];exact ih
theorem qtC(h:FilG x)(hp:x.rules.Pairwise fun a b=>a.nr<b.nr){d:GData}(hd:DatOk d):qhL (jh x) d=qhL x d:=by
 rw[qdV,qdV];rw[show (jh x).arch=x.arch from rfl]
 by_cases hc:(ofM d.arch d.nr).2=false∨(ofM d.arch d.nr).1≠x.arch
 ·rw[if_pos hc,if_pos hc]
 ·rw[if_neg hc,if_neg hc];refine qkI (fun r hr t ht h0=>?_) hp
  have hg:=h.ts r hr t ht
  have hv:t.val=0:=by
   have:=hg.sub;rw[h0] at this;have e:=qcO (a:=t.val.toNat) (b:=0) (by have:=hg.ok.v1;omega) (by decide)
   rw[Int.toNat_of_nonneg hg.ok.v0] at e;rw[← this];simpa using e
  have ha:=qlm hd hg.ok.a0 hg.ok.a1;have e:=qcO (a:=(qll d t.arg).toNat) (b:=0) (by omega) (by decide);rw[Int.toNat_of_nonneg ha.1] at e;unfold qbM;rw[h0,hv];simp only[hg.ok.a0,hg.ok.a1,decide_true,Bool.true_and,decide_eq_true_eq];simpa using e
end
structure PrgT (p:List Ins) (n:Nat) (den:GData->Int):Prop where
 good:PrgGood p
 um:qEa p=[]
 ud:qD9 p=[]
 len:p.length<=3*n
 tells:∀d,DatOk d->(qeA p d).1=den d∧(qeA p d).2.2.2=0
def qnH(a:List Ins×Int)(n:Nat)(den:GData->Int):Prop:=(a.2=270∧a.1=[]∧1365<n)∨(a.2=0∧PrgT a.1 n den)
theorem qs8{l:List Sy}{n:Nat}{den:GData->Int}(h:MayL l)(hr:qbe l)(hl:l.length<=n)(he:∀d,DatOk d->Ev l d 0 0 (den d)):qnH (zu l) n den:=by
 have h3:=qta (l:=l);unfold zu
 by_cases hb:4096<(xc l).length
 ·rw[if_pos hb];exact .inl ⟨rfl,rfl,by omega⟩
 ·rw[if_neg hb];have hu:=qtc h hr;exact .inr ⟨rfl,qqv h hr (by omega),hu.1,hu.2,by simp only;omega,fun d hd=>qqy h (he d hd)⟩
section
variable {x:GFil}
theorem qsc(hK:z7 x=true)(hR:FilR x)(hU:FilU x):qnH (qeG x) (szF x) (qhL x):=by
 have hG:=FilG.of hK hR;unfold qeG;rw[if_pos hK];exact qs8 (qe2 hG) (qmC hG hU) (qoL hG) fun d hd=>qoK hG hd 0
theorem qzh(hK:z7 x=true)(hR:FilR x)(hU:FilU x):qnH (qe1 x) (szF x) (qhL x):=by
 have hG:=FilG.of hK hR;have hG2:=FilG.of (qfP hK) (qlO hR);have hm:=qe2 hG2
 have hp:x.rules.Pairwise fun a b=>a.nr<b.nr:=by
  simp only[z7,Bool.and_eq_true] at hK;exact (qib.1 hK.2).2.2
 unfold qe1;rw[if_pos hK];refine qs8 (qpb hm) (qw0 (qmC hG2 (qAl hU))) (Nat.le_trans qwZ (Nat.le_trans (qoL hG2) qwx)) fun d hd=>?_
 rw[← qtC hG hp hd];exact qAT hm (qoK hG2 hd 0)
theorem qxr{u v:List Ins×Int}{n:Nat}{den:GData->Int}(hu:qnH u n den)(hv:qnH v n den):qnH (qc9 u v) n den:=by
 unfold qc9;split
 ·exact hu
 ·exact hv
theorem qnX(hK:z7 x=true)(hR:FilR x)(hU:FilU x)(o:Bool):qnH (qag x o) (szF x) (qhL x):=by
 unfold qag;split
 ·exact qxr (qsc hK hR hU) (qzh hK hR hU)
 ·exact qsc hK hR hU
theorem qvy(hK:z7 x=false)(o:Bool):qag x o=([],210):=by
 unfold qag qeG qe1 qc9;simp[hK]
end
end Go.Kc
end
section
namespace Go.Kc
variable {P:Program} {f:Nat}
def qfW(x:GFil):Prop:=x.rules.length<=100000∧∀r ∈ x.rules,r.tests.length<=100000
def qrQ(P:Program)(g:Nat):Prop:=∀x,qfW x->qd P g [.agg (qD x)] (.b (z7 x))
def qrN(P:Program)(g:Nat):Prop:=∀x,FilR x->qfW x->qd P g [.agg (qD x)] (qmh x)
def qrP(P:Program)(g:Nat):Prop:=∀l,MayL l->qd P g [.fz l.length (rSy l)] (qgT l)
def qy4(P:Program)(g:Nat):Prop:=∀l,MayL l->qd P g [.fz l.length (rSy l)] (.tup [.fz (qbR l).length (rSy (qbR l)),.i .i64 0])
def qrR(P:Program)(g:Nat):Prop:=∀x,qfW x->qd P g [.agg (qD x)] (qpN x)
def qxU(P:Program)(g:Nat):Prop:=∀l:List (Int×Nat),l.length<=100000->(∀y ∈ l,0<=y.1∧y.1<4294967296)->qul l->qd P g [.fz l.length (qaB l),.fz l.length (qa2 l),.i .i64 0] (.tup [.fz (zp (pcs 0 l 0)).length (rSp (zp (pcs 0 l 0))),.i .i64 0])
def qxV(P:Program)(g:Nat):Prop:=∀l:List Sp,l.length<=400000->0<l.length->SpR l->qd P g [.fz l.length (rSp l)] (qov l)
theorem qFt{g1 g2 g3 h1:Nat}(hc:qc P f (qgA g1 g2)=true)(hp:qc P g1 (qc0 g3)=true)(hm:qc P g2 (qcZ h1)=true)(hm1:qc P h1 xQ=true)(hp1:qc P g3 qbP=true):qxU P f:=fun l hl hr hu =>
 qBl hc l 0 (qqY hp l 0) (qnh hm hm1 hp1 l 0 hl hr) hl hu
theorem qFx{g1 g2:Nat}(hc:qc P f (qdy g1 g2)=true)(h1:qc P g1 qdx=true)(h2:qc P g2 je=true):qxV P f:=fun l hl h0 hr =>
 qre hc h2 l (qos h1 l (by omega) hr) hl h0
theorem qEC{g gl gp gj gh gr go gb gR gd gt gH gA gB gC gD gM gS gT:Nat}(hc:qc P f (qeo gM go gS gT gb gh gr gR gd)=true)(E:EFn P g gl gp gj gh gr go gb gR gd gt gH gA gB gC gD)(hM:qrQ P gM)(hS:qxU P gS)(hT:qxV P gT):qrN P f:=fun x hR hL =>
 qqc hc E x hR (hM x hL) fun hK=>by
  have hG:=FilG.of hK hR;have hd:=hG.dfl;have hn:=hG.n;have hs:=hG.spans;have hT:=hT (zp (pcs 0 (qG x.rules) 0)) (by have:=hs.2.2.2.2;omega) hG.pos (qhK hs.1 (Int.le_refl 0) (Int.le_refl _))
  unfold qov at hT;rw[if_pos (qkE hs.1)] at hT;refine⟨by have:=hd.1;omega,by have:=hd.2;omega,hG.tne,hG.nodes,hS (qG x.rules) (by rw[qaA];omega) (fun y hy=>?_) (qle hG.ups),hT⟩
  obtain⟨i,hi⟩:=List.getElem?_of_mem hy;rw[qcG] at hi;obtain⟨r,hr,rfl⟩:=Option.map_eq_some_iff.1 hi;exact hR.nr r (zzM hr)
theorem qEU{g1 g2 gM gB gi go:Nat}(hc:qc P f (qeq g1 g2)=true)(h1:qc P g1 (qcY gM gB go)=true)(h2:qc P g2 zn=true)(hM:∀l,MayL l->qd P gM [.fz l.length (rSy l)] (.b true))
  (hB1:∀l:List Sy,qd P gB [.fz l.length (rSy l)] (.fn gi [] [.pf [.fz l.length (rSy l)] 0])) (hi1:qc P gi qz=true) (ho:qvm P go):qrP P f:=fun l hl =>
 qqx hc l (by have:=hl.big;omega) (fun k hk=>qqA h1 l (hM l hl) hB1 hi1 ho (by have:=hl.big;omega) hl.hin hk) fun s b tr p hp k hb hk=>qok h2 p hp hb hk
theorem qFC{gD gO gP gB gi:Nat}(hc:qc P f (qaX gD gP gO)=true)(hD:qc P gD zO=true)(hO:cOf P gO)(hP:qc P gP (x6 gB)=true)
  (hB:∀l:List Ins,qd P gB [.fz l.length (rP l)] (.fn gi [] [.pf [.fz l.length (rP l)] 0])) (hi:qc P gi qF=true):qvm P f:=fun kb n s bb bp back pl tr far k h x hb hj hk =>
 qAx hc hD hO hP hB hi h x hb hj hk
theorem qFD{g1 g2 gM gs gt gl s1 s2 t1 t2 ti v1 v2 h1 h2 h3:Nat}(hc:qc P f (qgz g1 g2)=true)(hp:qc P g1 (qdv gs gt gl)=true)(hd:qc P g2 (qfd gM)=true)(hM:∀l,MayL l->qd P gM [.fz l.length (rSy l)] (.b true))
  (hs:qc P gs (qdw s1 s2)=true) (hs1:qc P s1 qcl=true) (hm:qc P s2 (xz h1 h2 h3)=true) (c1:qbH P h1 4 24) (c2:cOf P h2) (c3:qeY P h3)
  (ht:qc P gt (qcm h1 t1 t2 s2 h3)=true) (ht1:qc P t1 qai=true) (hB:∀l:List Sy,qd P t2 [.fz l.length (rSy l)] (.fn ti [] [.pf [.fz l.length (rSy l)] 0])) (hi:qc P ti qz=true)
  (hl:qc P gl (qdu v1 v2 s2)=true) (hv1:qc P v1 (qer h2 h3)=true) (hv2:qc P v2 qaR=true):qy4 P f:=fun l h=>by
 have m1:=qhz h;have m2:=qi8 m1;have b0:=h.big;have b1:=m1.big;have b2:=m2.big
 exact qtX hc (qnk hp) l (qbR l) (qwX hd l (qea l) (ql6 (qea l)) (qbR l) (hM l h) (qnw hs hs1 hm c1 c2 c3 l (by omega) h.in)
  (qkv ht c1 ht1 hB hi hm c1 c2 c3 c3 (qea l) (by omega) m1.in) (qm9 hl hv2 hm c1 c2 c3 (ql6 (qea l)) (qnK hv1 c2 c3 _ (by omega) m2.pos m2.in m2.on) (by omega) m2.in))
theorem qEY{g1 g2:Nat}(hc:qc P f (qep g1 g2)=true)(hM:qrQ P g1)(h2:∀r:GRule,r.tests.length<=100000->qd P g2 [.agg (qw r)] (.agg (qw (xd r)))):qrR P f:=fun x hL =>
 qme hc x (hM x hL) h2 hL.1 hL.2
theorem qAk{x:GFil}(h:qfW x):qfW (jh x):=by
 refine⟨?_,fun r hr=>?_⟩
 ·have:=List.length_filter_le (qba x.dflt) (x.rules.map xd);rw[List.length_map] at this;exact Nat.le_trans this h.1
 ·obtain⟨r0,h0,rfl⟩:=qd3 hr;exact Nat.le_trans qbQ.length_le (h.2 r0 h0)
theorem qCY{gE gN gO gL:Nat}(hE:qrN P gE)(hN:qrR P gN)(hO:qy4 P gO)(hL:qrP P gL){x:GFil}(hR:FilR x)(hl:qfW x):CmpFn P gE gN gO gL x where
 em:=hE x hR hl
 nm:=hN x hl
 lk:=fun hK=>hL _ (qe2 (FilG.of hK hR))
 em2:=fun _=>hE _ (qlO hR) (qAk hl)
 ok2:=qfP
 op:=fun hK=>hO _ (qe2 (FilG.of (qfP hK) (qlO hR)))
 lk2:=fun hK=>hL _ (qpb (qe2 (FilG.of (qfP hK) (qlO hR))))
def qoC(P:Program)(g:Nat):Prop:=∀x,FilR x->qfW x->∀o:Bool,qd P g [.agg (qD x),.b o] (.tup [.fz (qag x o).1.length (rP (qag x o).1),.i .i64 (qag x o).2])
theorem qEz{gd gwN gwE gwO gwL gs gE gN gO gL:Nat}(hc:qc P f (qaW gwE gwL gd gwN gwO gs)=true)(hd:qc P gd qE=true)(hN:qc P gwN (zz gN)=true)(hE:qc P gwE (zt gE)=true)(hO:qc P gwO (qP gO)=true)(hL:qc P gwL (qC gL)=true)
  (hs:qc P gs xi=true) (c1:qrN P gE) (c2:qrR P gN) (c3:qy4 P gO) (c4:qrP P gL):qoC P f:=fun x hR hl o =>
 qly hc hd hN hE hO hL (fun u v x y hx hy=>qhx hs u v x y hx hy) (qCY c1 c2 c3 c4 hR hl) o
structure FilB (x:GFil):Prop where
 l:x.rules.length<=4398046511104
 t:∀r ∈ x.rules,r.tests.length<=4398046511104
def qkr:Nat->List GRule->Bool
 | _,[]=>false
 | n,r::l=>if 1000<n+1+r.tests.length then true else qkr (n+1+r.tests.length) l
theorem qoR:∀{l:List GRule} {n:Nat},n<=1000->qkr n l=false->n+l.length<=1000∧∀r ∈ l,r.tests.length<=1000
 | [],n,h,_=>⟨by simpa using h,fun r hr=>by cases hr⟩
 | r::l,n,_,h=>by
  unfold qkr at h;split at h
  ·cases h
  ·rename_i hn;obtain⟨h1,h2⟩:=qoR (by omega) h;refine⟨by simp only[List.length_cons];omega,fun y hy=>?_⟩
   rcases List.mem_cons.1 hy with rfl|hy
   ·omega
   ·exact h2 y hy
theorem quq{rs:List GRule}{j:Nat}{r:GRule}(h:rs[j]?=some r):(rR rs)[j*3+1]?=some (.fz r.tests.length (rT r.tests)):=by
 have:=qcT (f:=qw) (m:=3) qax h (i:=1) (by omega);rw[show rs.flatMap qw=rR rs from rfl] at this
 simpa[qw] using this
def qa7:IFn:=⟨[.tmp 2],.seq (.r [.q 1 (.box (.t 0)),.m 2 .F]) (.seq (.r [.m 3 (.k 0)]) (.seq (.seq (.r [.m 4 (.k 0)]) (.blk 0 (.loop (.seq (.seq (.r [.n 5 4,.f 6 1 1,.d 7 6,.e 8 7,.s 9 5 8]) (.cond (.t 9) (.skip) (.exit 0))) (.seq (.blk 1 (.seq (.r [.n 12 3,.a 13 12 1,.f 14 1 1,.d 15 14,.n 16 4,.i 17 3 15 16,.f 18 1 17,.d 19 18,.e 20 19,.b 21 .add 13 20,.n 3 21]) (.seq (.r [.n 22 3,.w 23 .gtr 22 1000]) (.cond (.t 23) (.seq (.r [.m 2 .T]) (.ret)) (.skip))))) (.r [.n 10 4,.a 11 10 1,.n 4 11])))))) (.seq (.r [.m 2 .F]) (.ret))))⟩
theorem qv1(hc:qc P f qa7=true)(x:GFil)(hx:FilB x):qd P f [.agg (qD x)] (.b (qkr 0 x.rules)):=by
 refine qd.mk hc (by simp[qu,clo,qD,xa]) ?_;simp only[qa7,qD,vI,simprocAttr];simp +decide only[↓vS,vT,simprocAttr];refine SL.loopP (α:=Nat×Nat) (fun s=>[(1,.ptr 0 0),(3,.i .i64 (s.2:Int)),(4,.i .i64 (s.1:Int))]) (fun s h=>s.1<=x.rules.length∧s.2<=1000∧qkr s.2 (x.rules.drop s.1)=qkr 0 x.rules∧∃n tr,h=⟨n,0,tr⟩∧tr.get 0=some (.cells 0 true false [.i .i64 x.arch,.fz x.rules.length (rR x.rules),.i .u32 x.dflt])) (fun s=>x.rules.length-s.1) ?_ (0,0) ?_ ?_
 ·rintro⟨j,n⟩ h ⟨hj,hn,hI,s,tr,rfl,t0⟩ G ih;simp only at hj hn hI;simp only[vI,simprocAttr];have hxl:=hx.l
  by_cases hlt:j<x.rules.length
  ·obtain⟨r,hr⟩:∃r,x.rules[j]?=some r:=⟨_,zzE hlt⟩;have hrt:=hx.t r (zzM hr);have g1:=quq hr;have hw1:IntKind.wrap .i64 ((j:Int)+1)=((j+1:Nat):Int):=by rw[qy (by omega) (by omega)];simp
   have hw2:IntKind.wrap .i64 ((n:Int)+1)=((n+1:Nat):Int):=by rw[qy (by omega) (by omega)];simp
   have hw3:IntKind.wrap .i64 (((n+1:Nat):Int)+(r.tests.length:Int))=((n+1+r.tests.length:Nat):Int):=by rw[qy (by omega) (by omega)];simp
   have hdr:x.rules.drop j=r::x.rules.drop (j+1):=by rw[← (zzS.1 hr).2,List.getElem_cons_drop]
   rw[hdr,qkr] at hI
   by_cases hg:1000<n+1+r.tests.length
   ·have hg':(1000:Int)<((n+1+r.tests.length:Nat):Int):=by omega
    rw[if_pos hg] at hI;simp +decide only[↓vS,vT,simprocAttr,t0,hlt,g1,hw1,hw2,hw3,hg'];simp[vZ,← hI]
   ·have hg':¬(1000:Int)<((n+1+r.tests.length:Nat):Int):=by omega
    rw[if_neg hg] at hI;simp +decide only[↓vS,vT,simprocAttr,t0,hlt,g1,hw1,hw2,hw3,hg'];exact ih (j+1,n+1+r.tests.length) _ _ (by simp only;omega) (by simp[qf,qi,Tr.get_set]) ⟨by simp only;omega,by simp only;omega,hI,s,tr,rfl,t0⟩
  ·have hd:x.rules.drop j=[]:=List.drop_eq_nil_of_le (by omega);rw[hd,qkr] at hI;simp +decide only[↓vS,vT,simprocAttr,t0,hlt];simp[vZ,← hI]
 ·simp[qf,qi,Tr.get_set]
 ·exact⟨Nat.zero_le _,by simp,rfl,1,_,rfl,by simp[Tr.get_set]⟩
def szT(rs:List GRule):Nat:=(rs.map fun r=>3+7*r.tests.length).sum
theorem quz{rs:List GRule}{r:GRule}:szT (rs++[r])=szT rs+(3+7*r.tests.length):=by simp[szT]
theorem quy:∀{rs:List GRule},(∀r ∈ rs,r.tests.length<=100000)->szT rs<=rs.length*700003
 | [],_=>by simp[szT]
 | r::rs,h=>by
  have h1:=h r (List.mem_cons_self ..);have h2:=quy (rs:=rs) fun y hy=>h y (List.mem_cons_of_mem _ hy)
  simp only[szT,List.map_cons,List.sum_cons,List.length_cons] at h2 ⊢;omega
theorem qD2{x:GFil}:szF x=10+szT x.rules:=rfl
def qeJ:IFn:=⟨[.tmp 2],.seq (.r [.q 1 (.box (.t 0)),.m 2 (.k 0)]) (.seq (.r [.m 3 (.k 10)]) (.seq (.seq (.r [.f 6 1 1,.d 7 6,.e 8 7,.m 9 (.k 0)]) (.blk 0 (.loop (.seq (.r [.s 10 9 8]) (.seq (.cond (.t 10) (.skip) (.exit 0)) (.seq (.blk 1 (.seq (.r [.i 11 3 7 9,.v 12 3 11,.q 5 (.alloc [.i .u32 0,.nils,.i .u32 0]),.u (.store 3 (.t 5) (.t 12))]) (.r [.n 13 3,.f 14 1 5,.d 15 14,.e 16 15,.q 17 (.bin .mul (.k 7) (.t 16)),.q 18 (.bin .add (.k 3) (.t 17)),.b 19 .add 13 18,.n 3 19]))) (.r [.a 20 9 1,.n 9 20]))))))) (.seq (.r [.n 21 3,.n 2 21]) (.ret))))⟩
theorem qCf(hc:qc P f qeJ=true)(x:GFil)(hx:qfW x):qd P f [.agg (qD x)] (.i .i64 (szF x:Int)):=by
 refine qd.mk hc (by simp[qu,clo,qD,xa]) ?_;simp only[qeJ,qD,vI,simprocAttr];simp +decide only[↓vS,vT,simprocAttr];refine SL.loopP (α:=Nat) (fun j=>[(3,.i .i64 ((10+szT (x.rules.take j):Nat):Int)),(7,.fz x.rules.length (rR x.rules)),(8,.i .i64 (x.rules.length:Int)),(9,.i .i64 (j:Int))]) (fun j h=>j<=x.rules.length∧h.fl=0) (fun j=>x.rules.length-j) ?_ 0 ?_ ?_
 ·rintro j ⟨s,fl,tr⟩ ⟨hj,rfl⟩ G ih;simp only[vI,simprocAttr];have hxl:=hx.1;have hle:=quy (rs:=x.rules.take j) fun r hr=>hx.2 r (List.mem_of_mem_take hr)
  rw[List.length_take] at hle
  by_cases hlt:j<x.rules.length
  ·have hlt':(j:Int)<x.rules.length:=by omega
   obtain⟨r,hr⟩:∃r,x.rules[j]?=some r:=⟨_,zzE hlt⟩;have hrt:=hx.2 r (zzM hr);have hel:=qi4 hr;have h3:j*3+3<=(rR x.rules).length:=by rw[qlU];omega
   have hw1:IntKind.wrap .i64 ((j:Int)+1)=((j+1:Nat):Int):=by rw[qy (by omega) (by omega)];simp
   have hw2:IntKind.wrap .i64 (7*(r.tests.length:Int))=7*(r.tests.length:Int):=qy (by omega) (by omega);have hw3:IntKind.wrap .i64 (3+7*(r.tests.length:Int))=3+7*(r.tests.length:Int):=qy (by omega) (by omega);have hT:=quz (rs:=x.rules.take j) (r:=r);rw[← qaE hr] at hT;have hw4:IntKind.wrap .i64 (((10+szT (x.rules.take j):Nat):Int)+(3+7*(r.tests.length:Int)))=((10+szT (x.rules.take (j+1)):Nat):Int):=by rw[qy (by omega) (by omega),hT];omega
   simp +decide only[↓vS,vT,simprocAttr,hlt',hlt,h3,hel,qw,hw1,hw2,hw3,hw4];exact ih (j+1) _ _ (by omega) (by simp[qf,qi,Tr.get_set]) ⟨by omega,rfl⟩
  ·have hlt':¬(j:Int)<x.rules.length:=by omega
   obtain rfl:j=x.rules.length:=by omega
   simp +decide only[↓vS,vT,simprocAttr,hlt',hlt];simp[vZ,qD2]
 ·simp[qf,qi,Tr.get_set,szT]
 ·exact⟨Nat.zero_le _,rfl⟩
theorem SC.args{vs vs':List AV}{h:Hp}{k:AV->Hp->Prop}(hs:SC P f vs' h k)(ha:∀(ρ:Ren) (a:List Value),VRs σ0 ρ vs a->VRs σ0 ρ vs' a):SC P f vs h k :=
 ⟨hs.1,fun ρ B w args r hv=>hs.2 ρ B w args r (ha ρ _ hv)⟩
theorem qsw{a d:Int}{vs:List AV}{ρ:Ren}{as:List Value}(h:VRs σ0 ρ (.agg [.i .i64 a,.nils,.i .u32 d]::vs) as):VRs σ0 ρ (.agg (qD ⟨a,[],d⟩)::vs) as:=by
 cases h with
 | cons _ _ _ _ h1 hs =>
  refine .cons _ _ _ _ ?_ hs;cases h1 with
  | agg _ arr h1 =>
   obtain⟨l⟩:=arr;refine .agg _ _ ?_;change VRs σ0 ρ _ l at h1;change VRs σ0 ρ _ l;cases h1 with
   | cons _ _ _ _ q1 h1 =>
    cases h1 with
    | cons _ _ _ _ q2 h1 =>
     refine .cons _ _ _ _ q1 (.cons _ _ _ _ ?_ h1);cases q2 with
     | nils=>exact .fz0 none
theorem qd.filNil{a d:Int}{vs:List AV}{v:AV}(h:qd P f (.agg (qD ⟨a,[],d⟩)::vs) v):qd P f (.agg [.i .i64 a,.nils,.i .u32 d]::vs) v:=fun hp k hk =>
 SC.args (h hp k hk) fun _ _=>qsw
def qa9(a:Nat):IFn:=⟨[.tmp 6],.seq (.r [.q 4 (.box (.t 1)),.m 6 .F]) (.seq (.r [.n 11 0,.v 12 9 4,.l 13 a [.t 11,.t 12],.n 10 13,.x 14 10 0,.x 15 10 1,.x 16 10 2,.n 7 14,.n 8 15,.n 9 16]) (.seq (.r [.n 17 9,.w 18 .eql 17 0,.n 19 18,.y 20 7 19,.y 21 2 19,.g 22 (.bin .eql (.t 20) (.t 21)) 19 true,.p 23 19 22,.n 6 23]) (.ret)))⟩
theorem qEq{g:Nat}(hc:qc P f (qa9 g)=true)(hg:qrS P g)(p:List Ins)(hp:PrgGood p)(d:GData)(hd:DatOk d)(w:Int)(h1:(qeA p d).1=w):qd P f [.fz p.length (rP p),.agg (qT d),.i .u32 w] (.b true):=by
 obtain⟨n,h⟩:=hg p hp d hd;rw[h1] at h;refine qd.mk hc (by simp[qu,clo,xL,qls]) ?_;simp only[qa9,qT,vI,simprocAttr] at h ⊢;simp +decide only[↓vS,vT,simprocAttr];refine h.sc ?_;simp +decide only[↓vS,vT,simprocAttr];simp[vZ]
def qhd:IFn:=⟨[.tmp 3],.seq (.r [.q 2 (.box (.t 0)),.m 3 .F]) (.seq (.r [.f 4 0 2,.d 5 4,.d 6 1,.b 7 .eql 5 6,.n 3 7]) (.ret))⟩
theorem qEM(hc:qc P f qhd=true)(n:Int)(r:GRule):qd P f [.agg (qw r),.pf [.i .u32 n] 0] (.b (decide (r.nr=n))):=by
 refine qd.mk hc (by simp[qu,clo,qw,zR]) ?_;simp only[qhd,qw,vI,simprocAttr];simp +decide only[↓vS,vT,simprocAttr];simp[vZ]
def qmi(x:GFil)(n:Int):AV:=match x.rules.find? (fun r=>decide (r.nr=n)) with|some r=>.tup [.agg (qw r),.b true]|none=>.tup [.agg (qw ⟨0,[],0⟩),.b false]
theorem qq5{a d:Int}{ρ:Ren}{as:List Value}(h:VRs σ0 ρ [.agg [.i .u32 a,.nils,.i .u32 d]] as):VRs σ0 ρ [.agg (qw ⟨a,[],d⟩)] as:=by
 cases h with
 | cons _ _ _ _ h1 hs =>
  refine .cons _ _ _ _ ?_ hs;cases h1 with
  | agg _ arr h1 =>
   obtain⟨l⟩:=arr;refine .agg _ _ ?_;change VRs σ0 ρ _ l at h1;change VRs σ0 ρ _ l;cases h1 with
   | cons _ _ _ _ q1 h1 =>
    cases h1 with
    | cons _ _ _ _ q2 h1 =>
     refine .cons _ _ _ _ q1 (.cons _ _ _ _ ?_ h1);cases q2 with
     | nils=>exact .fz0 none
theorem qd.ruleNil{a d:Int}{v:AV}(h:qd P f [.agg (qw ⟨a,[],d⟩)] v):qd P f [.agg [.i .u32 a,.nils,.i .u32 d]] v:=fun hp k hk =>
 SC.args (h hp k hk) fun _ _=>qq5
def qdt(a b c:Nat):ICode:=.seq (.r [.f 9 1 2,.d 10 9,.q 11 (.mkF a [] [.t 3]),.l 12 b [.t 10,.t 11],.n 8 12,.x 13 8 0,.x 14 8 1,.q 6 (.alloc [.i .u32 0,.nils,.i .u32 0]),.u (.store 3 (.t 6) (.t 13)),.n 7 14]) (.seq (.r [.v 15 3 6,.l 16 c [.t 15],.n 17 7,.u (.store 3 (.t 4) (.t 16)),.n 5 17]) (.ret))
def qjA(a b c:Nat):IFn:=⟨[.cell 4 3 true,.tmp 5],.seq (.r [.q 2 (.box (.t 0)),.q 3 (.box (.t 1)),.q 4 (.alloc [.i .u32 0,.nils,.i .u32 0]),.m 5 .F]) (.cut (qdt a b c))⟩
section
variable {g1 g2 g3:Nat}
theorem qqn(h1:∀n r,qd P g1 [.agg (qw r),.pf [.i .u32 n] 0] (.b (decide (r.nr=n))))
  (h2:∀(l:List GRule) (k:Nat) (a c:List AV) (p:GRule->Bool),qu a=true->qu c=true->(∀t ∈ l,qd P k (a++([.agg (qw t)]++c)) (.b (p t)))->l.length<=100000->qd P g2 [.fz l.length (rR l),.fn k a c] (qpO p l))
  (h3:∀r:GRule,r.tests.length<=100000->qd P g3 [.agg (qw r)] (.agg (qw r))) (x:GFil) (n:Int) (hL:qfW x) {t':Tr AV} {h':Hp}
  (hw:Wk 0 t' h' (mkT [(2,.ptr 0 0),(3,.pf [.i .u32 n] 0),(4,.ptr 2 0),(5,.b false)]) (mkH 0 [.cells 0 true false (qD x),.dead,.cells 0 true false [.i .u32 0,.nils,.i .u32 0]])) :
  S P 0 (qdt g1 g2 g3) (qby [.cell 4 3 true,.tmp 5] fun v' h'=>Frz h' v' (qmi x n)) t' h':=by
 refine S.weak hw (qj ?_);have e2:=h2 x.rules g1 [] [.pf [.i .u32 n] 0] (fun r=>decide (r.nr=n)) rfl rfl (fun t _=>h1 n t) hL.1
 simp only[qdt,qD,vI,simprocAttr];simp +decide only[↓vS,vT,simprocAttr];refine e2.sc ?_;unfold qpO qmi;cases hf:x.rules.find? (fun r=>decide (r.nr=n)) with
 | none =>
  simp +decide only[↓vS,vT,simprocAttr];refine ((h3 ⟨0,[],0⟩ (Nat.zero_le _)).ruleNil).sc ?_;simp only[qw];simp +decide only[↓vS,vT,simprocAttr];simp[vZ,vP,Tr.get_set]
 | some r =>
  have e3:=h3 r (hL.2 r (List.mem_of_find?_eq_some hf));simp only[qw] at e3 ⊢;simp +decide only[↓vS,vT,simprocAttr];refine e3.sc ?_;simp +decide only[↓vS,vT,simprocAttr];simp[vZ,vP,Tr.get_set,ze zR]
end
theorem qER{g1 g2 g3:Nat}(hc:qc P f (qjA g1 g2 g3)=true)(h1:∀n r,qd P g1 [.agg (qw r),.pf [.i .u32 n] 0] (.b (decide (r.nr=n))))
  (h2:∀(l:List GRule) (k:Nat) (a c:List AV) (p:GRule->Bool),qu a=true->qu c=true->(∀t ∈ l,qd P k (a++([.agg (qw t)]++c)) (.b (p t)))->l.length<=100000->qd P g2 [.fz l.length (rR l),.fn k a c] (qpO p l))
  (h3:∀r:GRule,r.tests.length<=100000->qd P g3 [.agg (qw r)] (.agg (qw r))) (x:GFil) (n:Int) (hL:qfW x):qd P f [.agg (qD x),.i .u32 n] (qmi x n):=by
 refine qd.mk hc (by simp[qu,clo,qD,xa]) ?_;simp only[qjA,qD,vI,simprocAttr];simp only[↓vS,vT,simprocAttr];refine S.weak (Wk.mk [(2,.ptr 0 0),(3,.ptr 1 0),(4,.ptr 2 0),(5,.b false)] [.cells 0 true false (qD x),.cells 0 true false [.i .u32 n],.cells 0 true false [.i .u32 0,.nils,.i .u32 0]] [0,1,2] ?_ ?_ ?_ rfl) ?_
 ·simp[vw]
 ·simp[vw,qD,qr,xa]
 ·simp
 refine S.weak (Wk.freeze 1 1 0 rfl (by simp[qu,clo]) (Nat.zero_le _) (by simp)) ?_;refine qqn h1 h2 h3 x n hL (Wk.mk _ _ [0,1,2] ?_ ?_ ?_ rfl)
 ·simp[vw,mkT,fzv,qdY]
 ·simp[vw,mkH,trL,fzB,qdY,fzv,qD,qr,xa]
 ·simp[mkH]
noncomputable def qks(l:List Sy)(e:Int):List Ins×Int:=if e=0 then zu l else ([],e)
noncomputable def qlG(l:List Sy)(e:Int):List Ins×Int:=if e=0 then zu (qbR l) else ([],e)
noncomputable def qn3(l:List Sy)(e:Int)(o:Bool):List Ins×Int:=if o=true then qc9 (qks l e) (qlG l e) else qks l e
structure GrdFn (P:Program) (gG gO gL:Nat) (ar:AV) (l:List Sy) (e:Int):Prop where
 gu:qd P gG [ar] (.tup [.fz l.length (rSy l),.i .i64 e])
 lk:e=0->qd P gL [.fz l.length (rSy l)] (qgT l)
 op:e=0->qd P gO [.fz l.length (rSy l)] (.tup [.fz (qbR l).length (rSy (qbR l)),.i .i64 0])
 lk2:e=0->qd P gL [.fz (qbR l).length (rSy (qbR l))] (qgT (qbR l))
section
variable {gG gO gL b s:Nat} {tr:Tr Blk} {k:AV->Hp->Prop} {ar:AV} {l:List Sy} {er:Int}
def zF:List AV:=[.i .i64 0,.nils,.i .u32 0]
theorem qm8{m:List Sy}(h:(zu m).2≠0):(zu m).1=[]:=by
 unfold zu at h ⊢;split at h
 ·rename_i h2;rw[if_pos h2]
 ·exact absurd rfl h
theorem qsM{gd gwG gwL bx:Nat}{e:Nat}{wf a:Bool}(hc:qc P gd qE=true)(hG:qc P gwG (zm gG)=true)(hL:qc P gwL (qC gL)=true)(C:GrdFn P gG gO gL ar l er)
  (hx:tr.get bx=some (.cells e wf a [.fn gwG [.ptr b 0] [],.fn gwL [.ptr b 0] []])) (hbx:bx≠b) (h0:tr.get b=some (WkB zF ar .nils .nils))
  (hk:∀v tr2,qgP v (qks l er).1->(∀c,c≠b->tr2.get c=tr.get c)->k (.tup [v,.i .i64 (qks l er).2]) ⟨s,0,tr2⟩):SC P gd [.ptr b 0,.sl bx 0 2 2 false] ⟨s,0,tr⟩ k:=by
 have hG':=C.gu
 by_cases hz:er=0
 ·have hL':=C.lk hz;rw[qiK] at hL';have e1:qks l er=zu l:=by unfold qks;rw[if_pos hz]
  rw[e1] at hk
  refine qfz hc [gwG,gwL] (by simpa using hx) hbx (fun i=>if i=0 then WkB zF ar .nils .nils else if i=1 then WkB zF ar (.fz l.length (rSy l)) .nils else WkB zF ar (.fz l.length (rSy l)) (.fz (zu l).1.length (rP (zu l).1)))
   (fun i=>if i=0 then 0 else if i=1 then er else (zu l).2) 2 rfl (by omega) h0 rfl ?_ ?_ ?_
  ·intro i g s' tr' k' hg hj hB hk';have hi:i<2:=by have:=(zzS.1 hg).1;simpa using this
   have hi2:i=0∨i=1:=by omega
   rcases hi2 with rfl|rfl
   ·simp at hg;subst hg;exact qfV hG zF rfl hB _ _ qhQ hG' hk'
   ·simp at hg;subst hg;exact qeD hL zF rfl hB _ _ qhQ hL' hk'
  ·intro i tr2 hf hv hj;have h0':i≠0:=fun h=>hv (by simp[h])
   have h1':i≠1:=fun h=>hv (by simp[h,hz])
   simp only[if_neg h0',if_neg h1'] at hv ⊢;exact hk _ _ (.inr ⟨rfl,qm8 hv⟩) hf
  ·intro tr2 hf hj hB;have hz2:=hj 2 (by omega);simp at hz2;refine⟨zF,ar,_,_,rfl,rfl,?_⟩;have:=hk (.fz (zu l).1.length (rP (zu l).1)) tr2 (.inl rfl) hf;rw[hz2] at this;exact this
 ·have e1:qks l er=([],er):=by unfold qks;rw[if_neg hz]
  rw[e1] at hk;refine qfz hc [gwG,gwL] (by simpa using hx) hbx (fun i=>if i=0 then WkB zF ar .nils .nils else WkB zF ar (.fz l.length (rSy l)) .nils) (fun i=>if i=0 then 0 else er) 2 rfl (by omega) h0 rfl ?_ ?_ ?_
  ·intro i g s' tr' k' hg hj hB hk'
   have hi:i=0:=by
    by_cases hi:i=0
    ·exact hi
    ·have:=hj i (Nat.le_refl _);simp[hi] at this;exact absurd this hz
   subst hi;simp at hg;subst hg;exact qfV hG zF rfl hB _ _ qhQ hG' hk'
  ·intro i tr2 hf hv hj;have hi:i≠0:=fun h=>hv (by simp[h])
   simp only[if_neg hi];exact hk _ _ (.inr ⟨rfl,rfl⟩) hf
  ·intro tr2 _ hj _;have:=hj 1 (by omega);simp at this;exact absurd this hz
theorem qsL{gd gwG gwO gwL bx:Nat}{e:Nat}{wf a:Bool}(hc:qc P gd qE=true)(hG:qc P gwG (zm gG)=true)(hO:qc P gwO (qP gO)=true)(hL:qc P gwL (qC gL)=true)(C:GrdFn P gG gO gL ar l er)
  (hx:tr.get bx=some (.cells e wf a [.fn gwG [.ptr b 0] [],.fn gwO [.ptr b 0] [],.fn gwL [.ptr b 0] []])) (hbx:bx≠b) (h0:tr.get b=some (WkB zF ar .nils .nils))
  (hk:∀v tr2,qgP v (qlG l er).1->(∀c,c≠b->tr2.get c=tr.get c)->k (.tup [v,.i .i64 (qlG l er).2]) ⟨s,0,tr2⟩):SC P gd [.ptr b 0,.sl bx 0 3 3 false] ⟨s,0,tr⟩ k:=by
 have hG':=C.gu
 by_cases hz:er=0
 ·have hL':=C.lk2 hz;have hO':=C.op hz;have e1:qlG l er=zu (qbR l):=by unfold qlG;rw[if_pos hz]
  rw[e1] at hk;obtain⟨m,hm⟩:∃m,m=qbR l:=⟨_,rfl⟩;rw[← hm] at hL' hO' hk;rw[qiK] at hL'
  refine qfz hc [gwG,gwO,gwL] (by simpa using hx) hbx (fun i=>if i=0 then WkB zF ar .nils .nils else if i=1 then WkB zF ar (.fz l.length (rSy l)) .nils else if i=2 then WkB zF ar (.fz m.length (rSy m)) .nils else WkB zF ar (.fz m.length (rSy m)) (.fz (zu m).1.length (rP (zu m).1)))
   (fun i=>if i=0 then 0 else if i=1 then er else if i=2 then 0 else (zu m).2) 3 rfl (by omega) h0 rfl ?_ ?_ ?_
  ·intro i g s' tr' k' hg hj hB hk';have hi:i<3:=by have:=(zzS.1 hg).1;simpa using this
   have hi2:i=0∨i=1∨i=2:=by omega
   rcases hi2 with rfl|rfl|rfl
   ·simp at hg;subst hg;exact qfV hG zF rfl hB _ _ qhQ hG' hk'
   ·simp at hg;subst hg;exact qkh hO zF rfl hB _ _ qhQ hO' hk'
   ·simp at hg;subst hg;exact qeD hL zF rfl hB _ _ qhQ hL' hk'
  ·intro i tr2 hf hv hj;have h0':i≠0:=fun h=>hv (by simp[h])
   have h1':i≠1:=fun h=>hv (by simp[h,hz])
   have h2':i≠2:=fun h=>hv (by simp[h])
   simp only[if_neg h0',if_neg h1',if_neg h2'] at hv ⊢;exact hk _ _ (.inr ⟨rfl,qm8 hv⟩) hf
  ·intro tr2 hf hj hB;have hz2:=hj 3 (by omega);simp at hz2;refine⟨zF,ar,_,_,rfl,rfl,?_⟩;have:=hk (.fz (zu m).1.length (rP (zu m).1)) tr2 (.inl rfl) hf;rw[hz2] at this;exact this
 ·have e1:qlG l er=([],er):=by unfold qlG;rw[if_neg hz]
  rw[e1] at hk;refine qfz hc [gwG,gwO,gwL] (by simpa using hx) hbx (fun i=>if i=0 then WkB zF ar .nils .nils else WkB zF ar (.fz l.length (rSy l)) .nils) (fun i=>if i=0 then 0 else er) 3 rfl (by omega) h0 rfl ?_ ?_ ?_
  ·intro i g s' tr' k' hg hj hB hk'
   have hi:i=0:=by
    by_cases hi:i=0
    ·exact hi
    ·have:=hj i (Nat.le_refl _);simp[hi] at this;exact absurd this hz
   subst hi;simp at hg;subst hg;exact qfV hG zF rfl hB _ _ qhQ hG' hk'
  ·intro i tr2 hf hv hj;have hi:i≠0:=fun h=>hv (by simp[h])
   simp only[if_neg hi];exact hk _ _ (.inr ⟨rfl,rfl⟩) hf
  ·intro tr2 _ hj _;have:=hj 1 (by omega);simp at this;exact absurd this hz
def qbN(a b c d e:Nat):IFn:=⟨[.tmp 4,.tmp 5],.seq (.r [.m 4 .N,.m 5 (.k 0)]) (.seq (.r [.n 12 0,.q 13 (.build [.i .i64 0,.nils,.i .u32 0,.nils,.nils,.nils] [(3,1,(.t 12))]),.q 14 (.box (.t 13)),.n 15 0,.q 16 (.build [.i .i64 0,.nils,.i .u32 0,.nils,.nils,.nils] [(3,1,(.t 15))]),.q 17 (.box (.t 16)),.n 6 14,.n 7 17]) (.seq (.r [.n 19 6,.n 20 6,.q 21 (.mkF a [.t 20] []),.n 22 6,.q 23 (.mkF b [.t 22] []),.q 24 (.buildS 2 [.nilf] [(0,1,(.t 21)),(1,1,(.t 23))]),.l 25 c [.t 19,.t 24],.n 18 25,.x 26 18 0,.x 27 18 1,.n 8 26,.n 9 27]) (.seq (.seq (.r [.n 28 1,.q 29 (.un .not (.t 28))]) (.cond (.t 29) (.seq (.r [.n 30 8,.n 31 9,.n 4 30,.n 5 31]) (.ret)) (.skip))) (.seq (.r [.n 33 7,.n 34 7,.q 35 (.mkF a [.t 34] []),.n 36 7,.q 37 (.mkF d [.t 36] []),.n 38 7,.q 39 (.mkF b [.t 38] []),.q 40 (.buildS 3 [.nilf] [(0,1,(.t 35)),(1,1,(.t 37)),(2,1,(.t 39))]),.l 41 c [.t 33,.t 40],.n 32 41,.x 42 32 0,.x 43 32 1,.n 10 42,.n 11 43]) (.seq (.r [.n 44 8,.n 45 9,.n 46 10,.n 47 11,.l 48 e [.t 44,.t 45,.t 46,.t 47],.x 49 48 0,.x 50 48 1,.n 4 49,.n 5 50]) (.ret))))))⟩
theorem qn4{gd gwG gwO gwL gs:Nat}(hc:qc P f (qbN gwG gwL gd gwO gs)=true)(hd:qc P gd qE=true)(hG:qc P gwG (zm gG)=true)(hO:qc P gwO (qP gO)=true)(hL:qc P gwL (qC gL)=true)
  (hs:qc P gs xi=true) (har:clo ar=true∧qX ar=true∧qch ar=true∧cellsOf ar=[ar]) (C:GrdFn P gG gO gL ar l er) (o:Bool) :
  qd P f [ar,.b o] (.tup [.fz (qn3 l er o).1.length (rP (qn3 l er o).1),.i .i64 (qn3 l er o).2]):=by
 obtain⟨a1,a2,a3,a4⟩:=har;refine qd.mk hc (by simp[qu,Go.Kc.clo,a1]) ?_;simp only[qbN,vI,simprocAttr];simp +decide only[↓vS,vT,simprocAttr,a2,a3,a4];refine qsM hd hG hL C (b:=0) (bx:=2) (by simp[Tr.get_set];exact⟨rfl,rfl,rfl⟩) (by decide) (by simp[Tr.get_set,WkB,zF]) fun v tr2 hv hf=>?_
 cases o with
 | false =>
  simp +decide only[↓vS,vT,simprocAttr,qn3];simp[vZ];exact hv.frz
 | true =>
  simp +decide only[↓vS,vT,simprocAttr,qn3];refine qsL hd hG hO hL C (b:=1) (bx:=3) (by simp[Tr.get_set];exact⟨rfl,rfl,rfl⟩) (by decide) (by rw[Tr.get_set,if_neg (by decide),hf 1 (by decide)];simp[Tr.get_set,WkB,zF]) fun w tr3 hw _=>?_
  obtain⟨z,hz1,hz2⟩:=qhx hs (qks l er) (qlG l er) v w hv hw;simp +decide only[↓vS,vT,simprocAttr];refine hz2.sc ?_;simp +decide only[↓vS,vT,simprocAttr];simp[vZ];exact⟨hz1.frz,rfl⟩
end
end Go.Kc
end
section
namespace Go.Kc
def qbg(x:GFil)(n:Int):GFil:=⟨x.arch,(x.rules.find? fun r=>decide (r.nr=n)).toList,x.dflt⟩
section
variable {x:GFil} {n:Int}
theorem qfQ{r:GRule}(h:r ∈ (qbg x n).rules):r ∈ x.rules∧r.nr=n:=by
 unfold qbg at h;have h1:x.rules.find? (fun r=>decide (r.nr=n))=some r:=by simpa using h
 exact⟨List.mem_of_find?_eq_some h1,by have:=List.find?_some h1;simpa using this⟩
theorem qo9:(qbg x n).rules.length<=1:=by
 unfold qbg;cases x.rules.find? _<;>simp
theorem qtJ:(qbg x n).rules.Pairwise fun a b=>a.nr<b.nr:=by
 unfold qbg;cases x.rules.find? _<;>simp
theorem qtI(h:z7 x=true):z7 (qbg x n)=true:=by
 have hl:=qo9 (x:=x) (n:=n);simp only[z7,Bool.and_eq_true,decide_eq_true_eq] at h ⊢;obtain⟨⟨⟨⟨k1,k2⟩,k3⟩,k4⟩,k5⟩:=h;exact⟨⟨⟨⟨k1,k2⟩,by omega⟩,k4⟩,qib.2 ⟨fun r hr=>(qib.1 k5).1 r (qfQ hr).1,fun b hb=>(by cases hb),qtJ⟩⟩
theorem qyg(h:FilR x):FilR (qbg x n):=⟨fun r hr=>h.nr r (qfQ hr).1,fun r hr=>h.ts r (qfQ hr).1⟩
theorem qDL(h:FilU x):FilU (qbg x n):=⟨h.d,fun r hr=>h.r r (qfQ hr).1,fun r hr=>h.t r (qfQ hr).1⟩
theorem qwI{d:GData}:qhL (qbg x d.nr) d=qhL x d:=by
 rw[qdV,qdV];rw[show (qbg x d.nr).arch=x.arch from rfl,show (qbg x d.nr).dflt=x.dflt from rfl]
 have:(qbg x d.nr).rules.find? (fun r=>decide (r.nr=d.nr))=x.rules.find? fun r=>decide (r.nr=d.nr):=by
  unfold qbg;cases h:x.rules.find? (fun r=>decide (r.nr=d.nr)) with
  | none=>rfl
  | some r =>
   have:=List.find?_some h;simp only[Option.toList];rw[List.find?_cons,this]
 rw[this]
theorem quA:∀{l:List GRule} {r:GRule},r ∈ l->3+7*r.tests.length<=(l.map fun r=>3+7*r.tests.length).sum
 | y::l,r,h=>by
  simp only[List.map_cons,List.sum_cons];rcases List.mem_cons.1 h with rfl|h
  ·omega
  ·have:=quA h;omega
theorem qAw:szF (qbg x n)<=szF x:=by
 unfold szF;cases h:x.rules.find? (fun r=>decide (r.nr=n)) with
 | none=>simp[qbg,h]
 | some r =>
  have:=quA (List.mem_of_find?_eq_some h);simp[qbg,h];omega
end
end Go.Kc
end
section
namespace Go.Kc
variable {P:Program} {f:Nat}
def fL:GFil:=⟨0,[],2147221504⟩
def f9:GFil:=⟨9,[],0⟩
def t0G:GTest:=⟨0,0,0,0⟩
def fG:GFil:=⟨0,[⟨0,[t0G,t0G],0⟩],0⟩
theorem qEK:z7 fL=true:=by
 have:knA 2147221504=true:=by decide
 simp[z7,fL,upR,this]
theorem qEJ:z7 f9=false:=by simp[z7,f9]
theorem qtx{a d:Int}:FilR ⟨a,[],d⟩:=⟨fun r hr=>(by cases hr),fun r hr=>(by cases hr)⟩
theorem qDC{a d:Int}(h:0<=d∧d<=4294967295):FilU ⟨a,[],d⟩:=⟨h,fun r hr=>(by cases hr),fun r hr=>(by cases hr)⟩
theorem qtw{a d:Int}:qfW ⟨a,[],d⟩:=⟨Nat.zero_le _,fun r hr=>(by cases hr)⟩
def dA(t:Int):GData:=⟨0,t,0,0,0,0,0,0,0⟩
theorem qx0{t:Int}(h:0<=t∧t<=4294967295):DatOk (dA t):=⟨Int.le_refl 0,show (0:Int)<=4294967295 by decide,h.1,h.2,fun x hx=>by
 simp only[qkw,dA,List.mem_cons,List.not_mem_nil,or_false,or_self] at hx;subst hx;exact⟨by decide,by decide⟩⟩
theorem qlF:qhL fL (dA 3221225534)=2147221504∧qhL fL (dA 1073741827)=2147418112:=by
 have e1:ofM 3221225534 0=(0,true):=by decide
 have e2:ofM 1073741827 0=(1,true):=by decide
 constructor<;>rw[qdV]<;>simp[fL,dA,e1,e2]
def qa8(a b c d:Nat):IFn:=⟨[.tmp 0],.seq (.r [.m 0 .F]) (.seq (.r [.q 13 (.build [.i .i64 0,.nils,.i .u32 0] [(0,1,(.k 0)),(2,1,(.c (.i .u32 2147221504)))]),.q 1 (.alloc [.i .i64 0,.nils,.i .u32 0]),.u (.store 3 (.t 1) (.t 13))]) (.seq (.r [.q 14 (.mkS 4 32 [.i .i64 0,.i .u64 0,.i .u64 0,.i .u32 0] (.k 2) (.k 2)),.q 15 (.build [.i .u32 0,.nils,.i .u32 0] [(1,1,(.t 14))]),.q 16 (.buildS 1 [.i .u32 0,.nils,.i .u32 0] [(0,3,(.t 15))]),.q 17 (.build [.i .i64 0,.nils,.i .u32 0] [(1,1,(.t 16))]),.q 2 (.alloc [.i .i64 0,.nils,.i .u32 0]),.u (.store 3 (.t 2) (.t 17))]) (.seq (.r [.v 19 3 1,.l 20 a [.t 19,.F],.n 18 20,.x 21 18 0,.x 22 18 1,.n 3 21,.n 4 22]) (.seq (.r [.v 24 3 1,.l 25 a [.t 24,.T],.n 23 25,.x 26 23 0,.x 27 23 1,.n 5 26,.n 6 27]) (.seq (.r [.q 29 (.build [.i .i64 0,.nils,.i .u32 0] [(0,1,(.k 9))]),.l 30 a [.t 29,.T],.n 28 30,.x 31 28 0,.x 32 28 1,.n 7 31,.n 8 32]) (.seq (.r [.l 34 b [.N,.T],.n 33 34,.x 35 33 0,.x 36 33 1,.n 9 35,.n 10 36]) (.seq (.r [.q 37 (.build [.i .u32 0,.i .u32 0,.i .u64 0,.i .u64 0,.i .u64 0,.i .u64 0,.i .u64 0,.i .u64 0,.i .u64 0] [(1,1,(.c (.i .u32 3221225534)))]),.q 38 (.build [.i .u32 0,.i .u32 0,.i .u64 0,.i .u64 0,.i .u64 0,.i .u64 0,.i .u64 0,.i .u64 0,.i .u64 0] [(1,1,(.c (.i .u32 1073741827)))]),.q 11 (.alloc [.i .u32 0,.i .u32 0,.i .u64 0,.i .u64 0,.i .u64 0,.i .u64 0,.i .u64 0,.i .u64 0,.i .u64 0]),.q 12 (.alloc [.i .u32 0,.i .u32 0,.i .u64 0,.i .u64 0,.i .u64 0,.i .u64 0,.i .u64 0,.i .u64 0,.i .u64 0]),.u (.store 9 (.t 11) (.t 37)),.u (.store 9 (.t 12) (.t 38))]) (.seq (.r [.n 39 4,.w 40 .eql 39 0,.n 41 40,.y 42 6 41,.g 43 (.bin .eql (.t 42) (.k 0)) 41 true,.p 44 41 43,.n 45 44,.y 46 3 45,.g 47 (.loadN 9 (.t 11)) 45 true,⟨(some 48),.callF c [.t 46,.t 47,(.c (.i .u32 2147221504))],(some (45,true))⟩,.p 49 45 48,.n 50 49,.y 51 5 50,.g 52 (.loadN 9 (.t 11)) 50 true,⟨(some 53),.callF c [.t 51,.t 52,(.c (.i .u32 2147221504))],(some (50,true))⟩,.p 54 50 53,.n 55 54,.y 56 3 55,.g 57 (.loadN 9 (.t 12)) 55 true,⟨(some 58),.callF c [.t 56,.t 57,(.c (.i .u32 2147418112))],(some (55,true))⟩,.p 59 55 58,.n 60 59,.y 61 5 60,.g 62 (.loadN 9 (.t 12)) 60 true,⟨(some 63),.callF c [.t 61,.t 62,(.c (.i .u32 2147418112))],(some (60,true))⟩,.p 64 60 63,.n 65 64,.g 66 (.loadN 3 (.t 1)) 65 true,⟨(some 67),.callF d [.t 66],(some (65,true))⟩,.g 68 (.bin .eql (.t 67) (.k 10)) 65 true,.p 69 65 68,.n 70 69,.g 71 (.loadN 3 (.t 2)) 70 true,⟨(some 72),.callF d [.t 71],(some (70,true))⟩,.g 73 (.bin .eql (.t 72) (.k 27)) 70 true,.p 74 70 73,.n 75 74,.y 76 8 75,.g 77 (.bin .eql (.t 76) (.k 210)) 75 true,.p 78 75 77,.n 79 78,.y 80 10 79,.g 81 (.bin .eql (.t 80) (.k 2)) 79 true,.p 82 79 81,.n 0 82]) (.ret)))))))))⟩
theorem qEj{g1 g2 g3 g4:Nat}(hc:qc P f (qa8 g1 g2 g3 g4)=true)(h1:qoC P g1)(h2:qd P g2 [.nils,.b true] (.tup [.fz 0 [],.i .i64 2]))
  (h3:∀p,PrgGood p->∀d,DatOk d->∀w:Int,(qeA p d).1=w->qd P g3 [.fz p.length (rP p),.agg (qT d),.i .u32 w] (.b true)) (h4:∀x,qfW x->qd P g4 [.agg (qD x)] (.i .i64 (szF x:Int))):qd P f [] (.b true):=by
 refine qd.mk hc rfl ?_;have c1:=fun o=>h1 fL qtx qtw o
 have c2:=h1 f9 qtx qtw true;rw[qvy qEJ true] at c2;have s1:=h4 fL qtw;have s2:=h4 fG ⟨by decide,fun r hr=>by simp[fG] at hr;subst hr;decide⟩
 have a1:=fun o=>qnX qEK qtx (qDC ⟨by decide,by decide⟩) o
 have nobig:¬1365<szF fL:=by decide
 have a2:∀o,(qag fL o).2=0∧PrgT (qag fL o).1 (szF fL) (qhL fL):=fun o=>(a1 o).resolve_left fun q=>nobig q.2.2
 obtain⟨p1,e1,hq1⟩:∃p e,qag fL false=(p,e):=⟨_,_,rfl⟩;obtain⟨p2,e2,hq2⟩:∃p e,qag fL true=(p,e):=⟨_,_,rfl⟩;have b1:=a2 false;have b2:=a2 true;have c1f:=c1 false;have c1t:=c1 true;rw[hq1] at b1 c1f;rw[hq2] at b2 c1t;obtain⟨z1,g1'⟩:=b1;obtain⟨z2,g2'⟩:=b2;simp only at z1 z2 g1' g2';subst z1;subst z2;have x64:=qx0 (t:=3221225534) ⟨by decide,by decide⟩
 have x86:=qx0 (t:=1073741827) ⟨by decide,by decide⟩
 have t1:=h3 p1 g1'.good _ x64 _ ((g1'.tells _ x64).1.trans qlF.1);have t2:=h3 p2 g2'.good _ x64 _ ((g2'.tells _ x64).1.trans qlF.1);have t3:=h3 p1 g1'.good _ x86 _ ((g1'.tells _ x86).1.trans qlF.2);have t4:=h3 p2 g2'.good _ x86 _ ((g2'.tells _ x86).1.trans qlF.2);simp only[qT,dA] at t1 t2 t3 t4;have c1f:=qd.filNil c1f;have c1t:=qd.filNil c1t;have c2:=qd.filNil c2;have s1:=qd.filNil s1;have q1:szF fL=10:=by decide
 have q2:szF fG=27:=by decide
 rw[q1] at s1;rw[q2] at s2;simp only[qa8,vI,simprocAttr];simp +decide only[↓vS,vT,simprocAttr];refine c1f.sc ?_;simp +decide only[↓vS,vT,simprocAttr];refine c1t.sc ?_;simp +decide only[↓vS,vT,simprocAttr];refine c2.sc ?_;simp +decide only[↓vS,vT,simprocAttr];refine h2.sc ?_;simp +decide only[↓vS,vT,simprocAttr];refine t1.sc ?_;simp +decide only[↓vS,vT,simprocAttr];refine t2.sc ?_;simp +decide only[↓vS,vT,simprocAttr];refine t3.sc ?_;simp +decide only[↓vS,vT,simprocAttr];refine t4.sc ?_;simp +decide only[↓vS,vT,simprocAttr];refine s1.sc ?_;simp +decide only[↓vS,vT,simprocAttr];refine s2.lend ?_ rfl ?_
 ·refine .cons _ _ _ _ (.agg _ _ (.cons _ _ _ _ (.i _ _) (.cons _ _ _ _ ?_ (.cons _ _ _ _ (.i _ _) .nil)))) .nil;refine .sl _ 0 1 1 false _ _ _ 3 _ rfl (by decide) (by decide) (fun h=>by omega) ?_
  refine .cons _ _ _ _ (.i _ _) (.cons _ _ _ _ ?_ (.cons _ _ _ _ (.i _ _) .nil));refine .sl _ 0 2 2 false _ _ _ 8 _ rfl (by decide) (by decide) (fun h=>by omega) ?_
  exact Frzs.self rfl
 simp +decide only[↓vS,vT,simprocAttr];simp[vZ]
def zx(a b c d e g h i:Nat):ICode:=.seq (.r [.v 48 3 3,.n 49 2,.l 50 g [.t 48,.t 49],.n 47 50,.x 51 47 0,.x 52 47 1,.n 10 51,.n 11 52]) (.seq (.r [.v 54 3 7,.n 55 2,.l 56 g [.t 54,.t 55],.n 53 56,.x 57 53 0,.x 58 53 1,.n 12 57,.n 13 58]) (.seq (.r [.n 60 10,.v 61 9 4,.l 62 h [.t 60,.t 61],.n 59 62,.x 63 59 0,.x 64 59 1,.x 65 59 2,.n 14 63,.n 15 64,.n 16 65]) (.seq (.r [.n 66 11,.w 67 .eql 66 0,.n 68 67,.y 69 13 68,.g 70 (.bin .eql (.t 69) (.k 0)) 68 true,.p 71 68 70,.n 72 71,.y 73 16 72,.g 74 (.bin .eql (.t 73) (.k 0)) 72 true,.p 75 72 74,.n 76 75,.y 77 12 76,.g 78 (.loadN 9 (.t 4)) 76 true,.y 79 14 76,⟨(some 80),.callF i [.t 77,.t 78,.t 79],(some (76,true))⟩,.p 81 76 80,.n 6 81]) (.ret))))
def xR(a b c d e g h i:Nat):IFn:=⟨[.tmp 6],.seq (.r [.q 3 (.box (.t 0)),.q 4 (.box (.t 1)),.m 6 .F]) (.seq (.seq (.r [.l 17 a [],.q 18 (.un .not (.t 17))]) (.cond (.t 18) (.seq (.r [.m 6 .F]) (.ret)) (.skip))) (.seq (.seq (.r [.v 19 3 3,.l 20 b [.t 19],.n 21 20,.g 22 (.loadN 3 (.t 3)) 21 false,⟨(some 23),.callF c [.t 22],(some (21,false))⟩,.g 24 (.un .not (.t 23)) 21 false,.o 25 21 24,.n 26 25,.g 27 (.loadN 3 (.t 3)) 26 false,⟨(some 28),.callF d [.t 27],(some (26,false))⟩,.g 29 (.bin .gtr (.t 28) (.k 1365)) 26 false,.o 30 26 29]) (.cond (.t 30) (.seq (.r [.m 6 .T]) (.ret)) (.skip))) (.seq (.r [.f 31 0 3,.d 32 31,.f 33 2 3,.d 34 33,.q 35 (.build [.i .i64 0,.nils,.i .u32 0] [(0,1,(.t 32)),(2,1,(.t 34))]),.q 7 (.alloc [.i .i64 0,.nils,.i .u32 0]),.u (.store 3 (.t 7) (.t 35))]) (.seq (.r [.v 37 3 3,.f 38 0 4,.d 39 38,.l 40 e [.t 37,.t 39],.n 36 40,.x 41 36 0,.x 42 36 1,.q 8 (.alloc [.i .u32 0,.nils,.i .u32 0]),.u (.store 3 (.t 8) (.t 41)),.n 9 42]) (.seq (.seq (.r [.n 43 9]) (.cond (.t 43) (.r [.v 44 3 8,.q 45 (.buildS 1 [.i .u32 0,.nils,.i .u32 0] [(0,3,(.t 44))]),.f 46 1 7,.u (.store 1 (.t 46) (.t 45))]) (.skip))) (.cut (zx a b c d e g h i)))))))⟩
section
variable {g1 g2 g3 g4 g5 g6 g7 g8:Nat}
theorem qr0(h6:qoC P g6)(h7:qrS P g7)(h8:∀p,PrgGood p->∀d,DatOk d->∀w:Int,(qeA p d).1=w->qd P g8 [.fz p.length (rP p),.agg (qT d),.i .u32 w] (.b true))
  (x:GFil) (o:Bool) (d:GData) (hd:DatOk d) (hL:qfW x) (hR:FilR x) (hU:FilU x) (hK:z7 x=true) (hz:szF x<=1365) (gv:AV)
  (hg:qd P g6 [.agg [.i .i64 x.arch,gv,.i .u32 x.dflt],.b o] (.tup [.fz (qag (qbg x d.nr) o).1.length (rP (qag (qbg x d.nr) o).1),.i .i64 (qag (qbg x d.nr) o).2])) {t':Tr AV} {h':Hp}
  (hw:Wk 0 t' h' (mkT [(2,.b o),(3,.ptr 0 0),(4,.ptr 1 0),(7,.ptr 2 0)]) (mkH 0 [.cells 0 true false (qD x),.cells 0 true false (qT d),.cells 0 true false [.i .i64 x.arch,gv,.i .u32 x.dflt]])) :
  S P 0 (zx g1 g2 g3 g4 g5 g6 g7 g8) (qby [.tmp 6] fun v' h'=>Frz h' v' (.b true)) t' h':=by
 refine S.weak hw (qj ?_);have c1:=h6 x hR hL o;have a1:=(qnX hK hR hU o).resolve_left fun q=>by have:=q.2.2;omega
 have a2:=(qnX (qtI (n:=d.nr) hK) (qyg hR) (qDL hU) o).resolve_left fun q=>by have:=q.2.2;have:=qAw (x:=x) (n:=d.nr);omega
 have hden:=qwI (x:=x) (d:=d);generalize qag x o=q1 at c1 a1;generalize qag (qbg x d.nr) o=q2 at hg a2;obtain⟨p1,e1⟩:=q1;obtain⟨p2,e2⟩:=q2;obtain⟨z1,b1⟩:=a1;obtain⟨z2,b2⟩:=a2;simp only at z1 z2 b1 b2;subst z1;subst z2;obtain⟨n,r1⟩:=h7 p1 b1.good d hd;have r2:=h8 p2 b2.good d hd (qeA p1 d).1 (by rw[(b2.tells d hd).1,(b1.tells d hd).1,hden])
 generalize (qeA p1 d).1=w at r1 r2;simp only[qD,qT] at c1 r1 r2;simp only[zx,qD,qT,vI,simprocAttr];simp +decide only[↓vS,vT,simprocAttr];refine c1.sc ?_;simp +decide only[↓vS,vT,simprocAttr];refine hg.sc ?_;simp +decide only[↓vS,vT,simprocAttr];refine r1.sc ?_;simp +decide only[↓vS,vT,simprocAttr];refine r2.sc ?_;simp +decide only[↓vS,vT,simprocAttr];simp[vZ]
theorem qqs(hc:qc P f (xR g1 g2 g3 g4 g5 g6 g7 g8)=true)(h1:qd P g1 [] (.b true))(h2:∀x,FilB x->qd P g2 [.agg (qD x)] (.b (qkr 0 x.rules)))(h3:qrQ P g3)(h4:∀x,qfW x->qd P g4 [.agg (qD x)] (.i .i64 (szF x:Int)))
  (h5:∀x,qfW x->∀n:Int,qd P g5 [.agg (qD x),.i .u32 n] (qmi x n)) (h6:qoC P g6) (h7:qrS P g7) (h8:∀p,PrgGood p->∀d,DatOk d->∀w:Int,(qeA p d).1=w->qd P g8 [.fz p.length (rP p),.agg (qT d),.i .u32 w] (.b true))
  (x:GFil) (hB:FilB x) (hR:FilR x) (hU:FilU x) (d:GData) (hd:DatOk d) (o:Bool):qd P f [.agg (qD x),.agg (qT d),.b o] (.b true):=by
 refine qd.mk hc (by simp[qu,clo,qD,qT,xa]) ?_;have e2:=h2 x hB;simp only[xR,qD,qT,vI,simprocAttr] at e2 ⊢;simp +decide only[↓vS,vT,simprocAttr];refine h1.sc ?_;simp +decide only[↓vS,vT,simprocAttr];refine e2.sc ?_;cases hG:qkr 0 x.rules with
 | true =>
  simp +decide only[↓vS,vT,simprocAttr];simp[vZ]
 | false =>
  obtain⟨l1,l2⟩:=qoR (by omega) hG;have hL:qfW x:=⟨by omega,fun r hr=>by have:=l2 r hr;omega⟩
  have e3:=h3 x hL;have e4:=h4 x hL;have e5:=h5 x hL d.nr;simp only[qD] at e3 e4 e5;simp +decide only[↓vS,vT,simprocAttr];refine e3.sc ?_;cases hK:z7 x with
  | false =>
   simp +decide only[↓vS,vT,simprocAttr];simp[vZ]
  | true =>
   simp +decide only[↓vS,vT,simprocAttr];refine e4.sc ?_
   by_cases hz:1365<szF x
   ·have hz':(1365:Int)<(szF x:Int):=by omega
    simp +decide only[↓vS,vT,simprocAttr,hz'];simp[vZ]
   have hz':¬(1365:Int)<(szF x:Int):=by omega
   simp +decide only[↓vS,vT,simprocAttr,hz'];refine e5.sc ?_;have main:=fun gv hg (t':Tr AV) (h':Hp)=>qr0 (P:=P) (g1:=g1) (g2:=g2) (g3:=g3) (g4:=g4) (g5:=g5) (g6:=g6) (g7:=g7) (g8:=g8) h6 h7 h8 x o d hd hL hR hU hK (by omega) gv hg (t':=t') (h':=h')
   have c1:=h6 (qbg x d.nr) (qyg hR) ⟨by have:=qo9 (x:=x) (n:=d.nr);omega,fun r hr=>hL.2 r (qfQ hr).1⟩ o
   unfold qmi;cases hf:x.rules.find? (fun r=>decide (r.nr=d.nr)) with
   | none =>
    have eo:qbg x d.nr=⟨x.arch,[],x.dflt⟩:=by simp[qbg,hf]
    rw[eo] at c1;have c2:=qd.filNil c1;rw[← eo] at c2;simp only[qw];simp only[↓vS,vT,simprocAttr];refine main .nils c2 _ _ (Wk.mk _ _ [0,1,2] ?_ ?_ ?_ rfl)
    ·simp[vw]
    ·simp[vw,qD,qT,qr,xa]
    ·simp
   | some r =>
    have eo:qbg x d.nr=⟨x.arch,[r],x.dflt⟩:=by simp[qbg,hf]
    have c2:qd P g6 [.agg [.i .i64 x.arch,.fz 1 (qw r),.i .u32 x.dflt],.b o] (.tup [.fz (qag (qbg x d.nr) o).1.length (rP (qag (qbg x d.nr) o).1),.i .i64 (qag (qbg x d.nr) o).2]):=by
     have c3:=c1;rw[eo] at c3;rw[← eo] at c3;have e:qD (qbg x d.nr)=[.i .i64 x.arch,.fz 1 (qw r),.i .u32 x.dflt]:=by rw[eo];simp[qD,rR]
     rw[e] at c1;exact c1
    simp only[qw];simp only[↓vS,vT,simprocAttr];refine S.weak (Wk.mk [(2,.b o),(3,.ptr 0 0),(4,.ptr 1 0),(7,.ptr 2 0)] [.cells 0 true false (qD x),.cells 0 true false (qT d),.cells 0 true false [.i .i64 x.arch,.sl 3 0 1 1 false,.i .u32 x.dflt],.cells 0 true false (qw r)] [0,1,2,4] ?_ ?_ ?_ rfl) ?_
    ·simp[vw]
    ·simp[vw,qD,qT,qw,qr,xa,zR]
    ·simp
    refine S.weak (Wk.freeze 3 3 0 rfl (by simp[qu,clo,qw,zR]) (Nat.zero_le _) (by simp)) ?_;refine main (.fz 1 (qw r)) c2 _ _ (Wk.mk _ _ [0,1,2] ?_ ?_ ?_ rfl)
    ·simp[vw,mkT,fzv,qdY]
    ·simp[vw,mkH,trL,fzB,qdY,fzv,qD,qT,qw,qr,xa,zR]
    ·simp[mkH]
end
def qhS(a b c d e g h i j k:Nat):ICode:=.seq (.r [.q 24 (.build [.nils,.nils] []),.q 25 (.box (.t 24)),.q 26 (.build [.i .i64 0] []),.q 27 (.box (.t 26)),.q 28 (.build [.i .i64 0] []),.q 29 (.box (.t 28)),.n 4 25,.n 5 27,.n 6 29]) (.seq (.r [.n 30 4,.l 31 c [.t 30,(.c (.i .u32 4))]]) (.seq (.r [.n 32 0,.l 33 d [.t 32,.k 0],.n 34 33,.y 35 0 34,⟨(some 36),.callF d [.t 35,.k 2],(some (34,true))⟩,.p 37 34 36,.n 7 37]) (.seq (.r [.q 8 (.mov (.c (.i .i64 (-1))))]) (.seq (.seq (.r [.l 38 e [],.e 39 38,.m 40 (.k 0)]) (.blk 0 (.loop (.seq (.r [.s 41 40 39]) (.seq (.cond (.t 41) (.skip) (.exit 0)) (.seq (.blk 1 (.seq (.r [.i 42 1 38 40,.d 43 42,.n 10 43]) (.seq (.seq (.r [.n 44 0,.n 45 10,.l 46 d [.t 44,.t 45],.q 47 (.un .not (.t 46))]) (.cond (.t 47) (.exit 1) (.skip))) (.seq (.r [.n 49 10,.l 50 g [.t 49],.n 48 50,.x 51 48 0,.x 52 48 1,.n 11 51,.n 12 52]) (.seq (.r [.q 53 (.build [.i .i64 0] []),.q 54 (.box (.t 53)),.n 13 54]) (.seq (.seq (.r [.n 55 10,.w 56 .neq 55 0,.n 57 56,.y 58 10 57,.g 59 (.bin .neq (.t 58) (.k 2)) 57 true,.p 60 57 59,.n 61 60,.z 62 7 61,.z 63 62 61,.y 64 10 63,.g 65 (.bin .eql (.t 64) (.k 0)) 63 true,.g 66 (.pick (.t 63) (.t 65) .F) 61 false,.o 67 61 66]) (.cond (.t 67) (.r [.n 68 4,.n 69 11,.n 70 6,.n 71 13,.l 72 h [.t 68,(.c (.i .u16 21)),.t 69,.t 70,.t 71]]) (.seq (.r [.n 73 7,.q 74 (.un .not (.t 73))]) (.cond (.t 74) (.seq (.r [.n 75 10,.n 8 75]) (.exit 1)) (.exit 1))))) (.r [.n 76 4,.n 77 13,.l 78 i [.t 76,.t 77]]))))))) (.r [.a 79 40 1,.n 40 79]))))))) (.seq (.seq (.r [.n 80 8,.w 81 .geq 80 0]) (.cond (.t 81) (.seq (.r [.q 82 (.build [.i .i64 0] []),.q 83 (.box (.t 82)),.n 14 83]) (.seq (.r [.n 85 8,.l 86 g [.t 85],.n 84 86,.x 87 84 0,.x 88 84 1,.n 15 87,.n 16 88]) (.seq (.r [.n 89 4,.n 90 15,.n 91 14,.n 92 5,.l 93 h [.t 89,(.c (.i .u16 21)),.t 90,.t 91,.t 92]]) (.seq (.r [.n 94 4,.n 95 14,.l 96 i [.t 94,.t 95]]) (.seq (.r [.n 97 4,.l 98 c [.t 97,(.c (.i .u32 0))]]) (.seq (.r [.n 99 8,.w 100 .eql 99 2]) (.cond (.t 100) (.r [.n 101 4,.n 102 6,.n 103 5,.l 104 h [.t 101,(.c (.i .u16 69)),(.c (.i .u32 1073741824)),.t 102,.t 103]]) (.r [.n 105 4,.n 106 5,.n 107 6,.l 108 h [.t 105,(.c (.i .u16 69)),(.c (.i .u32 1073741824)),.t 106,.t 107]])))))))) (.skip))) (.seq (.r [.n 109 4,.n 110 5,.l 111 i [.t 109,.t 110]]) (.seq (.r [.n 112 4,.l 113 j [.t 112,(.c (.i .u32 2147483648))]]) (.seq (.r [.n 114 4,.n 115 6,.l 116 i [.t 114,.t 115]]) (.seq (.r [.n 117 4,.l 118 j [.t 117,(.c (.i .u32 2147418112))]]) (.seq (.r [.n 119 4,.l 120 k [.t 119],.n 2 120,.m 3 (.k 0)]) (.ret)))))))))))
def qf7(a b c d e g h i j k:Nat):IFn:=⟨[.tmp 2,.tmp 3],.seq (.r [.m 2 .N,.m 3 (.k 0)]) (.seq (.seq (.r [.n 17 0,.e 18 17,.w 19 .eql 18 0,.n 20 19,.z 21 0 20,⟨(some 22),.callF a [.t 21,(.c (.fn b [] []))],(some (20,false))⟩,.o 23 20 22]) (.cond (.t 23) (.seq (.r [.m 2 .N,.m 3 (.k 2)]) (.ret)) (.skip))) (.cut (qhS a b c d e g h i j k)))⟩
section
variable {g1 g2 g3 g4 g5 g6 g7 g8 g9 g10 g11:Nat}
theorem quT(hc:qc P f (qf7 g1 g2 g3 g4 g5 g6 g7 g8 g9 g10)=true):qd P f [.nils] (.tup [.fz ([]:List Sy).length (rSy []),.i .i64 2]):=by
 refine qd.mk hc rfl ?_;simp only[qf7,vI,simprocAttr];simp +decide only[↓vS,vT,simprocAttr];simp[vZ,rSy]
theorem qB1{gd gwG gwO gwL gs gG gO gL:Nat}(hc:qc P f (qbN gwG gwL gd gwO gs)=true)(hd:qc P gd qE=true)(hG:qc P gwG (zm gG)=true)(hO:qc P gwO (qP gO)=true)(hL:qc P gwL (qC gL)=true)
  (hs:qc P gs xi=true) (h:qd P gG [.nils] (.tup [.fz ([]:List Sy).length (rSy []),.i .i64 2])):qd P f [.nils,.b true] (.tup [.fz 0 [],.i .i64 2]):=by
 have C:GrdFn P gG gO gL .nils [] 2:=⟨h,fun q=>absurd q (by decide),fun q=>absurd q (by decide),fun q=>absurd q (by decide)⟩
 have:=qn4 hc hd hG hO hL hs ⟨rfl,rfl,rfl,rfl⟩ C true;have e:qn3 ([]:List Sy) 2 true=([],2):=by simp[qn3,qks,qlG,qc9]
 rw[e] at this;exact this
end
end Go.Kc
end
