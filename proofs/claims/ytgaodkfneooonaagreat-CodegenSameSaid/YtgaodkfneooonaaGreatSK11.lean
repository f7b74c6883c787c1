/- Part 11 of the abstract machine and of the functions' walks. Conditions: with each theorem. -/
import Derived.Test.YtgaodkfneooonaaGreatSK10
import Derived.KernelRfl
set_option maxHeartbeats 4000000
set_option linter.unusedSectionVars false
set_option linter.unusedSimpArgs false
set_option linter.unusedVariables false
set_option linter.unnecessarySimpa false
section
namespace Go.Kc
def qoP(a:Int)(d:GData):Prop:=d.arch=qcA a∧(a=0->xP .u32 d.nr 1073741824=0)∧(a=2->xP .u32 d.nr 1073741824≠0)
theorem qtH{a:Int}(h0:0<=a)(h6:a<6)(d:GData):((ofM d.arch d.nr).2=false∨(ofM d.arch d.nr).1≠a)↔¬qoP a d:=by
 unfold qoP ofM;generalize d.arch=t;generalize xP .u32 d.nr 1073741824=z;have ha:a=0∨a=1∨a=2∨a=3∨a=4∨a=5:=by omega
 have e:∀c:Int,jm (fun x:List UInt8×Int=>decide (x.2=t)) zP 0=c↔(if t=3221225534 then 0 else if t=1073741827 then 1 else if t=1073741864 then 3 else if t=3221225655 then 4 else if t=3221225715 then 5 else -1)=c:=by
  intro c
  have:jm (fun x:List UInt8×Int=>decide (x.2=t)) zP 0=(if t=3221225534 then 0 else if t=1073741827 then 1 else if t=1073741864 then 3 else if t=3221225655 then 4 else if t=3221225715 then 5 else -1):=by
   simp only[zP,jm,decide_eq_true_eq]
   by_cases h1:t=3221225534
   ·simp[h1]
   by_cases h2:t=1073741827
   ·simp[h2]
   by_cases h3:t=1073741864
   ·simp[h3]
   by_cases h4:t=3221225655
   ·simp[h4]
   by_cases h5:t=3221225715
   ·simp[h5]
   simp only[h1,h2,h3,h4,h5,eq_comm (b:=t),if_false]
  rw[this]
 have e0:=(e _).2 rfl;rw[e0];rcases ha with rfl|rfl|rfl|rfl|rfl|rfl
 all_goals
  simp only[qcA,zP]
  by_cases h1:t=3221225534
  ·by_cases hz:z=0<;>simp[h1,hz]
  by_cases h2:t=1073741827
  ·simp[h2]
  by_cases h3:t=1073741864
  ·simp[h3]
  by_cases h4:t=3221225655
  ·simp[h4]
  by_cases h5:t=3221225715
  ·simp[h5]
  simp[h1,h2,h3,h4,h5]
section
variable {R:List Sy} {d:GData} {r:Int}
theorem qAs{a:Int}{N:Nat}(h0:0<=a)(h6:a<6)(hd:DatOk d)(h:AtL R 0 (qa2 a 0 N))(h1:qoP a d->Ev R d (jl a) d.nr r)(h2:¬qoP a d->EvA R d N r):EvA R d 0 r:=by
 intro b;unfold qa2 at h;obtain⟨g,h3⟩:=h.app;obtain⟨g1,g⟩:=g.hd;obtain⟨g2,g⟩:=g.hd;obtain⟨g3,_⟩:=g.hd;have w4:wdD d 4=d.arch:=rfl;have w0:wdD d 0=d.nr:=rfl;refine .ld 0 b r _ g1 rfl (.jc _ _ r _ g2 (.inl rfl) ?_);simp only[qbg,w4]
 by_cases ht:d.arch=qcA a
 ·rw[if_pos (by simp[ht])];refine .ld _ _ r _ g3 rfl ?_;simp only[w0];have h3:AtL R 3 _:=h3
  have hz:∀z:Int,(0<xP .u32 d.nr 1073741824)↔xP .u32 d.nr 1073741824≠0:=fun _=>by
   obtain⟨n,e⟩:=Int.eq_ofNat_of_zero_le hd.nr0;have hn:=hd.nr1;have:=qcQ (a:=n) (b:=1073741824) (by omega) (by decide);rw[← e] at this;rw[show ((1073741824:Nat):Int)=1073741824 from rfl] at this
   rw[this];omega
  by_cases a0:a=0
  ·rw[if_pos a0] at h3;have hoN:jl a=4:=by simp[jl,a0]
   rw[hoN] at h1;refine .jc _ _ r _ h3.hd.1 (.inr (.inr (.inr rfl))) ?_;simp only[qbg]
   by_cases hb:xP .u32 d.nr 1073741824=0
   ·have e:¬(0:Int)<xP .u32 d.nr 1073741824:=by omega
    rw[if_neg (by simp[hb])];exact h1 ⟨ht,fun _=>hb,fun h=>by omega⟩
   ·have e:=(hz 0).2 hb;rw[if_pos (by simp[e])];exact h2 (fun q=>hb (q.2.1 a0)) _
  ·rw[if_neg a0] at h3
   by_cases a2:a=2
   ·rw[if_pos a2] at h3;have hoN:jl a=4:=by simp[jl,a2]
    rw[hoN] at h1;refine .jc _ _ r _ h3.hd.1 (.inr (.inr (.inr rfl))) ?_;simp only[qbg]
    by_cases hb:xP .u32 d.nr 1073741824=0
    ·rw[if_neg (by simp[hb])];exact h2 (fun q=>q.2.2 a2 hb) _
    ·have e:=(hz 0).2 hb;rw[if_pos (by simp[e])];exact h1 ⟨ht,fun h=>absurd h a0,fun _=>hb⟩
   ·have hoN:jl a=3:=by simp[jl,a0,a2]
    rw[hoN] at h1;exact h1 ⟨ht,fun h=>absurd h a0,fun h=>absurd h a2⟩
 ·rw[if_neg (by simp[ht])];exact h2 (fun q=>ht q.1) _
theorem qk2:∀{rs:List GRule} {p:Nat} {i:Nat} {q:GRule},AtL R p (zO rs p)->rs[i]?=some q->AtL R (p+zg (rs.take i)) (qqS q (p+zg (rs.take i)))
 | [],_,_,_,_,h=>by simp at h
 | y::rs,p,i,q,h,hi=>by
  unfold zO at h;obtain⟨g1,g2⟩:=h.app;rw[qj2] at g2;cases i with
  | zero=>simp at hi;subst hi;simpa[zg] using g1
  | succ i =>
   have:=qk2 g2 (by simpa using hi);simpa[zg,Nat.add_assoc] using this
theorem qhg{x:GFil}:qiG x d=if (ofM d.arch d.nr).2=false∨(ofM d.arch d.nr).1≠x.arch then 2147418112 else match x.rules.find? (fun r=>decide (r.nr=d.nr)) with|none=>x.dflt|some r=>fnd (fun t=>qbL t d) r.act r.tests:=by
 unfold qiG fnd;rfl
theorem qoD{x:GFil}(h:FilG x)(hd:DatOk d):EvA (zd x) d 0 (qiG x d):=by
 have hR:=AtL.self (R:=zd x);have hR0:AtL (zd x) 0 (zd x):=hR;unfold zd at hR;obtain⟨hR,hA5⟩:=hR.app;obtain⟨hR,hA4⟩:=hR.app;obtain⟨hR,hA3⟩:=hR.app;obtain⟨hA1,hA2⟩:=hR.app;rw[show (qa2 x.arch 0 (xw x)++z8 (xz x) (qM x) (jl x.arch)++[(⟨6,x.dflt,0,0⟩:Sy)]++zO x.rules (jg x+1)++[(⟨6,2147418112,0,0⟩:Sy)])=zd x from rfl] at hA1 hA2 hA3 hA4 hA5
 have e3:0+(qa2 x.arch 0 (xw x)++z8 (xz x) (qM x) (jl x.arch)).length=jg x:=by simp only[List.length_append,jr,x5];unfold jg;omega
 have e4:0+(qa2 x.arch 0 (xw x)++z8 (xz x) (qM x) (jl x.arch)++[(⟨6,x.dflt,0,0⟩:Sy)]).length=jg x+1:=by simp only[List.length_append,jr,x5,List.length_singleton];unfold jg;omega
 have e5:0+(qa2 x.arch 0 (xw x)++z8 (xz x) (qM x) (jl x.arch)++[(⟨6,x.dflt,0,0⟩:Sy)]++zO x.rules (jg x+1)).length=xw x:=by simp only[List.length_append,jr,x5,List.length_singleton,qa4];unfold xw jg;omega
 rw[jr,Nat.zero_add] at hA2;rw[e3] at hA3;rw[e4] at hA4;rw[e5] at hA5;rw[qhg];refine qAs h.a0 h.a6 hd hA1 (fun hown=>?_) (fun hown=>?_)
 ·rw[if_neg (fun q=>(qtH h.a0 h.a6 d).1 q hown)]
  obtain⟨c1,c2,c3,_,_⟩:=h.spans
  -- the code of a way
  have way:∀w,Cov (zC (pcs 0 (qH x.rules) 0)) d.nr w->Ev (zd x) d (xz x w) d.nr (match x.rules.find? (fun r=>decide (r.nr=d.nr)) with|none=>x.dflt|some r=>fnd (fun t=>qbL t d) r.act r.tests)->Ev (zd x) d (jl x.arch) d.nr (match x.rules.find? (fun r=>decide (r.nr=d.nr)) with|none=>x.dflt|some r=>fnd (fun t=>qbL t d) r.act r.tests):=by
   intro w hw he;unfold z8 at hA2;obtain⟨j1,j2⟩:=hA2.app
   have ht:=qxi (T:=qM x) (FW:=xz x) (b:=jl x.arch+jaN (qM x)) (n:=d.nr) (Q:=fun i=>Ev (zd x) d i d.nr (match x.rules.find? (fun r=>decide (r.nr=d.nr)) with|none=>x.dflt|some r=>fnd (fun t=>qbL t d) r.act r.tests)) (fun i nd hi hl hq=>by
    have hp:plc (xz x) (qM x) (jl x.arch+jaN (qM x)) i=jl x.arch+jaN (qM x)+zY ((qM x).take i):=by unfold plc;rw[hi];simp[hl]
    have hg:=j2 _ _ (qu5 (FW:=xz x) (b:=jl x.arch+(jaE (xz x) (qM x)).length) hi hl);rw[qlA] at hg;rw[hp];refine .jc _ _ _ _ hg (.inr (.inr (.inl rfl))) ?_;simp only[qbg]
    by_cases hn:nd.at'<=d.nr
    ·rw[if_pos hn] at hq;rw[if_pos (by simp[hn])];exact hq
    ·rw[if_neg hn] at hq;rw[if_neg (by simp[hn])];exact hq) _ (zC (pcs 0 (qH x.rules) 0)) 0 0 4294967296 (Nat.le_refl _) h.pos c1 (fun j nd hj=>by rw[Nat.zero_add];exact hj) w hw he
   cases hT:qM x with
   | nil=>exact absurd hT h.tne
   | cons nd T =>
    rw[hT] at ht j1;cases hl:nd.leaf with
    | true =>
     simp only[jaE,if_pos hl] at j1;refine .ja _ _ _ _ j1.hd.1 rfl ?_;simp only[plc,List.getElem?_cons_zero,if_pos hl] at ht;exact ht
    | false =>
     simp only[plc,List.getElem?_cons_zero,hl,Bool.false_eq_true,if_false,jaN,List.take_zero,zY,List.countP_nil,Nat.add_zero] at ht;exact ht
  cases hf:x.rules.find? (fun r=>decide (r.nr=d.nr)) with
  | none =>
   rw[hf] at way
   have hnone:∀q ∈ x.rules,q.nr≠d.nr:=fun q hq he=>by
    have:=List.find?_eq_none.1 hf q hq;simp[he] at this
   refine way 0 (c3 d.nr hd.nr0 (by have:=hd.nr1;omega) hnone) ?_;exact Ev.rt (jg x) d.nr _ hA3.hd.1 rfl
  | some q =>
   rw[hf] at way;have hqm:=List.mem_of_find?_eq_some hf;have hqn:q.nr=d.nr:=by have:=List.find?_some hf;simpa using this
   obtain⟨i,hi⟩:=List.getElem?_of_mem hqm;have hc:=c2 i q hi;rw[hqn] at hc;refine way (i+1) hc ?_;have ha:=qk2 hA4 hi;have hw:xz x (i+1)=jg x+1+zg (x.rules.take i):=by simp[xz]
   rw[hw];exact qnx hd (h.ts q hqm) ha _
 ·rw[if_pos ((qtH h.a0 h.a6 d).2 hown)];intro a;exact Ev.rt (xw x) a _ hA5.hd.1 rfl
end
theorem qae{c:Int}(h:qde c):qk c=4∧c≠5∧c≠6:=by
 rcases h with rfl|rfl|rfl|rfl<;>decide
theorem qd0:qk 32=1∧qk 84=3∧qk 6=5∧qk 5=4:=by decide
section
variable {l R:List Sy} {d:GData} {r:Int}
theorem qd9.ja{s:Sy}{j n:Nat}(h:qd9 s j n)(h5:s.code=5):s.k=0∧s.el=0∧j<s.th∧s.th<n:=by
 rcases h with⟨q,_⟩|⟨q,_⟩|⟨_,q⟩|⟨q,_⟩
 ·omega
 ·omega
 ·exact q
 ·exact absurd h5 (qae q).2.1
theorem qd9.jc{s:Sy}{j n:Nat}(h:qd9 s j n)(ha:qde s.code):j<s.th∧s.th<n∧j<s.el∧s.el<n:=by
 have h5:=qae ha;unfold qde at ha;rcases h with⟨q,_⟩|⟨q,_⟩|⟨q,_⟩|⟨_,q⟩
 ·omega
 ·omega
 ·omega
 ·exact q
theorem qd9.jmp{s:Sy}{j n:Nat}(h:qd9 s j n)(hj:qbh s):s.code=5∨qde s.code:=by
 unfold qbh at hj;obtain⟨c1,c2,c3,c4⟩:=qd0;rcases h with⟨q,_⟩|⟨q,_⟩|⟨q,_⟩|⟨q,_⟩
 ·rw[q,c1] at hj;omega
 ·rcases q with q|q
  ·rw[q,c2] at hj;omega
  ·rw[q,c3] at hj;omega
 ·exact .inl q
 ·exact .inr q
theorem qd9.ask{s:Sy}{j n:Nat}(h:qd9 s j n)(hj:qcf s):qde s.code:=(h.jmp hj.1).resolve_left hj.2
theorem MayL.in(h:MayL l):qkw l:=by
 intro x hx j hj;obtain⟨i,hi⟩:=List.getElem?_of_mem hx;have hm:=h.all i x hi;rcases hj with⟨q,rfl⟩|⟨q,rfl⟩
 ·rcases hm.jmp q with q|q
  ·exact (hm.ja q).2.2.2
  ·exact (hm.jc q).2.1
 ·exact (hm.jc (hm.ask q)).2.2.2
theorem MayL.on(h:MayL l):qxo l:=by
 intro j x hx h6 h4;have hj:=(zzS.1 hx).1;obtain⟨s,hs,hs6⟩:=h.last;rcases Nat.lt_or_ge (j+1) l.length with q|q
 ·exact q
 ·have e:l.length-1=j:=by omega
  rw[e,hx] at hs;cases hs;exact absurd hs6 h6
theorem MayL.hin(h:MayL l):∀x ∈ l,∀j:Nat,(x.code=5∨qk x.code=4)∧j=x.th∨(qk x.code=4∧x.code≠5)∧j=x.el->j<l.length:=by
 intro x hx j hj;refine h.in x hx j ?_
 rcases hj with⟨q,e⟩|q
 ·refine .inl ⟨?_,e⟩;rcases q with q|q
  ·unfold qbh;rw[q];exact qd0.2.2.2
  ·exact q
 ·exact .inr q
theorem Ev.at6{p:Nat}{a:Int}{s:Sy}(h:Ev R d p a r)(hs:R[p]?=some s)(h6:s.code=6):r=s.k:=by
 cases h with
 | ld _ _ _ x hx hc=>rw[hs] at hx;cases hx;omega
 | an _ _ _ x hx hc=>rw[hs] at hx;cases hx;omega
 | rt _ _ x hx hc=>rw[hs] at hx;cases hx;rfl
 | ja _ _ _ x hx hc=>rw[hs] at hx;cases hx;omega
 | jc _ _ _ x hx hc=>rw[hs] at hx;cases hx;exact absurd h6 (qae hc).2.2
theorem Ev.at5{p:Nat}{a:Int}{s:Sy}(h:Ev R d p a r)(hs:R[p]?=some s)(h5:s.code=5):Ev R d s.th a r:=by
 cases h with
 | ld _ _ _ x hx hc=>rw[hs] at hx;cases hx;omega
 | an _ _ _ x hx hc=>rw[hs] at hx;cases hx;omega
 | rt _ _ x hx hc=>rw[hs] at hx;cases hx;omega
 | ja _ _ _ x hx hc hn=>rw[hs] at hx;cases hx;exact hn
 | jc _ _ _ x hx hc=>rw[hs] at hx;cases hx;exact absurd h5 (qae hc).2.1
theorem jk{to:Nat->Nat}{s:Sy}(h:¬qbh s):qa1 to s=s:=by
 unfold qa1;rw[if_neg h,if_neg (fun q=>h q.1)]
theorem qhz{to:Nat->Nat}{s:Sy}(h:s.code=5):qa1 to s=⟨s.code,s.k,to s.th,s.el⟩:=by
 have hj:qbh s:=by unfold qbh;rw[h];exact qd0.2.2.2
 unfold qa1;rw[if_pos hj,if_neg (fun q=>q.2 h)]
theorem qhA{to:Nat->Nat}{s:Sy}(h:qde s.code):qa1 to s=⟨s.code,s.k,to s.th,to s.el⟩:=by
 have hj:=qae h;unfold qa1;rw[if_pos (show qbh s from hj.1),if_pos (show qcf s from⟨hj.1,hj.2.1⟩)]
theorem xD{s:Sy}(h:s.code=32∨s.code=84∨s.code=6):¬qbh s:=by
 unfold qbh;rcases h with h|h|h<;>rw[h]<;>decide
theorem qnc{to:Nat->Nat}{s:Sy}{j n:Nat}(h:qd9 s j n)(ht:∀q,j<q->q<n->j<to q∧to q<n):qd9 (qa1 to s) j n:=by
 rcases h with q|q|⟨q,q1,q2,q3,q4⟩|⟨q,q1,q2,q3,q4⟩
 ·rw[jk (xD (.inl q.1))];exact .inl q
 ·rw[jk (xD (.inr q.1))];exact .inr (.inl q)
 ·rw[qhz q];obtain⟨t1,t2⟩:=ht _ q3 q4;exact .inr (.inr (.inl ⟨q,q1,q2,t1,t2⟩))
 ·rw[qhA q];obtain⟨t1,t2⟩:=ht _ q1 q2;obtain⟨t3,t4⟩:=ht _ q3 q4;exact .inr (.inr (.inr ⟨q,t1,t2,t3,t4⟩))
-- shared
theorem qAP(h:MayL l){j:Nat}(hj:j<l.length):j<=qc9 l j∧qc9 l j<l.length:=by
 unfold qc9;rw[zzE hj];simp only;split
 ·rename_i h6;obtain⟨i,y,q1,q2,q3,_⟩:=qh4 (zzE hj) h6;rw[q1];exact⟨q2,(zzS.1 q3).1⟩
 ·exact⟨Nat.le_refl _,hj⟩
theorem qcx{j:Nat}:(qek l)[j]?=(l[j]?).map (qa1 (qc9 l)):=by unfold qek;rw[List.getElem?_map]
theorem qhL:(qek l).length=l.length:=by unfold qek;rw[List.length_map]
theorem qhM(h:MayL l):MayL (qek l):=by
 refine⟨by rw[qhL];exact h.pos,by rw[qhL];exact h.big,?_,fun j s hj=>?_⟩
 ·obtain⟨s,hs,h6⟩:=h.last;exact⟨s,by rw[qhL,qcx,hs];simp[jk (xD (.inr (.inr h6)))],h6⟩
 ·rw[qcx] at hj;obtain⟨x,hx,rfl⟩:=Option.map_eq_some_iff.1 hj;rw[qhL];exact qnc (h.all j x hx) fun q q1 q2=>by have:=qAP h q2;omega
theorem qlW(h:MayL l){j:Nat}{a:Int}(hj:j<l.length)(he:Ev (qek l) d j a r):Ev (qek l) d (qc9 l j) a r:=by
 unfold qc9;rw[zzE hj];simp only;split
 ·rename_i h6;obtain⟨i,y,q1,q2,q3,q4,q5⟩:=qh4 (zzE hj) h6;rw[q1];have hg:(qek l)[j]?=some l[j]:=by rw[qcx,zzE hj];simp[jk (xD (.inr (.inr h6)))]
  have hr:=he.at6 hg h6;rw[hr,← q5];exact Ev.rt i a y (by rw[qcx,q3];simp[jk (xD (.inr (.inr q4)))]) q4
 ·exact he
theorem qAO(h:MayL l):∀{p:Nat} {a:Int},Ev l d p a r->Ev (qek l) d p a r:=by
 intro p a he
 induction he with
 | ld p a r s hs hc _ ih=>exact .ld p a r s (by rw[qcx,hs];simp[jk (xD (.inl hc))]) hc ih
 | an p a r s hs hc _ ih=>exact .an p a r s (by rw[qcx,hs];simp[jk (xD (.inr (.inl hc)))]) hc ih
 | rt p a s hs hc=>exact .rt p a s (by rw[qcx,hs];simp[jk (xD (.inr (.inr hc)))]) hc
 | ja p a r s hs hc _ ih =>
  have hm:=(h.all p s hs).ja hc;exact .ja p a r ⟨s.code,s.k,qc9 l s.th,s.el⟩ (by rw[qcx,hs,← qhz hc];rfl) hc (qlW h hm.2.2.2 ih)
 | jc p a r s hs hc _ ih =>
  have hm:=(h.all p s hs).jc hc;refine .jc p a r ⟨s.code,s.k,qc9 l s.th,qc9 l s.el⟩ (by rw[qcx,hs,← qhA hc];rfl) hc ?_;simp only;split
  ·rename_i q;rw[if_pos q] at ih;exact qlW h hm.2.1 ih
  ·rename_i q;rw[if_neg q] at ih;exact qlW h hm.2.2.2 ih
-- threaded
theorem qA5(h:MayL R){j:Nat}(hj:j<R.length):j<=xA R j∧xA R j<R.length:=by
 unfold xA;rw[zzE hj];simp only;split
 ·rename_i h5;have:=(h.all j _ (zzE hj)).ja h5;omega
 ·exact⟨Nat.le_refl _,hj⟩
theorem qny(h:MayL R){i:Nat}{x:Sy}(hx:R[i]?=some x):qd9 (qa6 R x) i R.length∧((x.code=6)->qa6 R x=x):=by
 have hm:=qnc (h.all i x hx) (to:=xA R) fun q q1 q2=>by have:=qA5 h q2;omega
 refine⟨?_,fun h6=>?_⟩
 ·unfold qa6;split
  ·rename_i q;have ha:=hm.ask q.1;have:=hm.jc ha;exact .inr (.inr (.inl ⟨rfl,rfl,rfl,this.1,this.2.1⟩))
  ·exact hm
 ·have e:=jk (to:=xA R) (xD (s:=x) (.inr (.inr h6)));unfold qa6;rw[e,if_neg (fun q=>xD (.inr (.inr h6)) q.1.1)]
theorem qup(h:MayL R){i:Nat}{x:Sy}(hx:R[i]?=some x):MayL (R.set i (qa6 R x)):=by
 have hi:=(zzS.1 hx).1;refine⟨by rw[List.length_set];exact h.pos,by rw[List.length_set];exact h.big,?_,fun j s hj=>?_⟩
 ·obtain⟨s,hs,h6⟩:=h.last;refine⟨s,?_,h6⟩;rw[List.length_set,List.getElem?_set]
  by_cases e:i=R.length-1
  ·rw[← e,hx] at hs;cases hs;rw[if_pos e,if_pos (by omega),(qny h hx).2 h6]
  ·rw[if_neg e];exact hs
 ·rw[List.length_set];rw[List.getElem?_set] at hj
  by_cases e:i=j
  ·subst e;rw[if_pos rfl,if_pos hi] at hj;cases hj;exact (qny h hx).1
  ·rw[if_neg e] at hj;exact h.all j s hj
theorem qxe(h:MayL R){i:Nat}{x:Sy}(hx:R[i]?=some x):∀{p:Nat} {a:Int},Ev R d p a r->Ev (R.set i (qa6 R x)) d p a r:=by
 have hi:=(zzS.1 hx).1;have g:∀{p:Nat} {s:Sy},R[p]?=some s->p≠i->(R.set i (qa6 R x))[p]?=some s:=fun hs hp=>by rw[List.getElem?_set,if_neg (Ne.symm hp)];exact hs
 have gi:(R.set i (qa6 R x))[i]?=some (qa6 R x):=by rw[List.getElem?_set,if_pos rfl,if_pos hi]
 have hop:∀{t:Nat} {a:Int},i<t->t<R.length->Ev (R.set i (qa6 R x)) d t a r->Ev (R.set i (qa6 R x)) d (xA R t) a r:=fun {t a} h1 h2 he=>by
  unfold xA;rw[zzE h2];simp only;split
  ·rename_i h5;exact he.at5 (g (zzE h2) (by omega)) h5
  ·exact he
 have gn:¬qbh x->(R.set i (qa6 R x))[i]?=some x:=fun q=>by
  rw[gi];unfold qa6;rw[jk q,if_neg (fun z=>q z.1.1)]
 intro p a he
 induction he with
 | ld p a r s hs hc _ ih =>
  by_cases e:p=i
  ·subst e;rw[hx] at hs;cases hs;exact .ld _ _ _ x (gn (xD (.inl hc))) hc (ih hop)
  ·exact .ld _ _ _ s (g hs e) hc (ih hop)
 | an p a r s hs hc _ ih =>
  by_cases e:p=i
  ·subst e;rw[hx] at hs;cases hs;exact .an _ _ _ x (gn (xD (.inr (.inl hc)))) hc (ih hop)
  ·exact .an _ _ _ s (g hs e) hc (ih hop)
 | rt p a s hs hc =>
  by_cases e:p=i
  ·subst e;rw[hx] at hs;cases hs;exact .rt _ _ x (gn (xD (.inr (.inr hc)))) hc
  ·exact .rt _ _ s (g hs e) hc
 | ja p a r s hs hc _ ih =>
  by_cases e:p=i
  ·subst e;rw[hx] at hs;cases hs;have hm:=(h.all _ _ hx).ja hc
   have e1:qa6 R x=⟨x.code,x.k,xA R x.th,x.el⟩:=by
    unfold qa6;rw[qhz hc,if_neg (fun z=>z.1.2 hc)]
   have gi2:=gi.trans (congrArg some e1);exact .ja _ _ _ _ gi2 hc (hop hm.2.2.1 hm.2.2.2 (ih hop))
  ·exact .ja _ _ _ s (g hs e) hc (ih hop)
 | jc p a r s hs hc _ ih =>
  by_cases e:p=i
  ·subst e;rw[hx] at hs;cases hs;have hm:=(h.all _ _ hx).jc hc;have ih:=ih hop
   have he:Ev (R.set p (qa6 R x)) d (if qbg x.code a x.k=true then xA R x.th else xA R x.el) a r:=by
    split
    ·rename_i q;rw[if_pos q] at ih;exact hop hm.1 hm.2.1 ih
    ·rename_i q;rw[if_neg q] at ih;exact hop hm.2.2.1 hm.2.2.2 ih
   have e0:=qhA (to:=xA R) hc
   by_cases eq:xA R x.th=xA R x.el
   ·have e1:qa6 R x=⟨5,0,xA R x.th,0⟩:=by
     unfold qa6;rw[e0];exact if_pos ⟨⟨(qae hc).1,(qae hc).2.1⟩,eq⟩
    rw[← eq,ite_self] at he;exact .ja _ _ _ _ (gi.trans (congrArg some e1)) rfl he
   ·have e1:qa6 R x=⟨x.code,x.k,xA R x.th,xA R x.el⟩:=by
     unfold qa6;rw[e0];exact if_neg fun z=>eq z.2
    exact .jc _ _ _ _ (gi.trans (congrArg some e1)) hc he
  ·exact .jc _ _ _ s (g hs e) hc (ih hop)
theorem qka:∀{m j:Nat},j+m<l.length->(qel l m)[j]?=l[j]?
 | 0,_,_=>rfl
 | m+1,j,h=>by
  unfold qel;split
  ·rw[List.getElem?_set,if_neg (by omega)];exact qka (by omega)
  ·exact qka (by omega)
theorem ql0(h:MayL l):∀m,m<=l.length->MayL (qel l m)∧∀{p:Nat} {a:Int},Ev l d p a r->Ev (qel l m) d p a r
 | 0,_=>⟨h,fun e=>e⟩
 | m+1,hm=>by
  obtain⟨h1,h2⟩:=ql0 h m (by omega);have hx:l[l.length-(m+1)]?=some l[l.length-(m+1)]:=zzE (by omega);unfold qel;rw[hx];simp only;have hx2:(qel l m)[l.length-(m+1)]?=some l[l.length-(m+1)]:=by rw[qka (by omega)];exact hx
  exact⟨qup h1 hx2,fun e=>qxe h1 hx2 (h2 e)⟩
theorem qje(h:MayL l):MayL (qlZ l):=(ql0 (d:=⟨0,0,0,0,0,0,0,0,0⟩) (r:=0) h _ (Nat.le_refl _)).1
theorem qA4(h:MayL l){p:Nat}{a:Int}:Ev l d p a r->Ev (qlZ l) d p a r:=(ql0 h _ (Nat.le_refl _)).2
theorem qxf:(qlZ l).length=l.length:=qem
end
def Suc(x:Sy)(j t:Nat):Prop:=(x.code≠6∧¬qbh x∧t=j+1)∨(qbh x∧t=x.th)∨(qcf x∧t=x.el)
theorem qj6{A:List Bool}{i j:Nat}(h:A[j]?=some true):(A.set i true)[j]?=some true:=by
 rw[List.getElem?_set];split
 ·rename_i e;subst e;rw[if_pos (zzS.1 h).1]
 ·exact h
theorem qj5{A:List Bool}{i:Nat}(h:i<A.length):(A.set i true)[i]?=some true:=by
 rw[List.getElem?_set,if_pos rfl,if_pos h]
theorem qlV{A:List Bool}{i j:Nat}(h:j≠i):(A.set i true)[j]?=A[j]?:=by
 rw[List.getElem?_set,if_neg (Ne.symm h)]
theorem qkx{A:List Bool}{j m:Nat}{x:Sy}(h:A[j]?=some true):(qdV A m x)[j]?=some true:=by
 unfold qdV;split
 ·exact h
 ·split
  ·exact qj6 h
  ·split
   ·exact qj6 (qj6 h)
   ·exact qj6 h
theorem qra{A:List Bool}{j t:Nat}{x:Sy}(h:A[j]?=some true)(hs:Suc x j t)(ht:t<A.length):(qdV A j x)[t]?=some true:=by
 have h6:x.code≠6:=by
  rcases hs with q|⟨q,_⟩|⟨q,_⟩
  ·exact q.1
  ·intro e;exact xD (.inr (.inr e)) q
  ·intro e;exact xD (.inr (.inr e)) q.1
 unfold qdV;rw[if_neg (by rintro (q|q);exact q h;exact h6 q)]
 rcases hs with⟨_,q,rfl⟩|⟨q,rfl⟩|⟨q,rfl⟩
 ·rw[if_pos (show qk x.code≠4 from q)];exact qj5 ht
 ·rw[if_neg (fun z:qk x.code≠4=>z q)]
  split
  ·exact qj6 (qj5 ht)
  ·exact qj5 ht
 ·rw[if_neg (fun z:qk x.code≠4=>z q.1),if_pos q]
  exact qj5 (by rw[List.length_set];exact ht)
section
variable {l:List Sy} {d:GData} {r:Int}
theorem qpC(h:MayL l){A:List Bool}{j m:Nat}{x:Sy}(hx:l[m]?=some x)(hj:j<=m):(qdV A m x)[j]?=A[j]?:=by
 unfold qdV;split
 ·rfl
 ·split
  ·exact qlV (by omega)
  ·rename_i q;have hq:qbh x:=Decidable.not_not.1 q;have hm:=h.all m x hx
   have hth:m<x.th:=by
    rcases hm.jmp hq with z|z
    ·exact (hm.ja z).2.2.1
    ·exact (hm.jc z).1
   split
   ·rename_i q2;have:=hm.jc (hm.ask q2);rw[qlV (by omega),qlV (by omega)]
   ·exact qlV (by omega)
theorem qog(h:MayL l){j t:Nat}{x:Sy}(hx:l[j]?=some x)(hs:Suc x j t):j<t∧t<l.length:=by
 have hm:=h.all j x hx;rcases hs with⟨q1,q2,rfl⟩|⟨q,rfl⟩|⟨q,rfl⟩
 ·exact⟨by omega,h.on j x hx q1 q2⟩
 ·rcases hm.jmp q with z|z
  ·exact (hm.ja z).2.2
  ·exact⟨(hm.jc z).1,(hm.jc z).2.1⟩
 ·exact (hm.jc (hm.ask q)).2.2
theorem qmb(h:MayL l):∀m,m<=l.length->∀(j t:Nat) x,j<m->l[j]?=some x->Suc x j t->(jw l m)[j]?=some true->(jw l m)[t]?=some true
 | 0,_,j,t,x,hj,_,_,_=>by omega
 | m+1,hm,j,t,x,hj,hx,hs,ha=>by
  have hy:l[m]?=some l[m]:=zzE (by omega);unfold jw at ha ⊢;rw[hy] at ha ⊢;simp only at ha ⊢;rw[qpC h hy (by omega)] at ha;rcases Nat.lt_or_ge j m with q|q
  ·exact qkx (qmb h m (by omega) j t x q hx hs ha)
  ·have e:j=m:=by omega
   subst e;rw[hy] at hx;cases hx;exact qra ha hs (by rw[qbi];exact (qog h hy hs).2)
theorem qcP(h:MayL l){j t:Nat}{x:Sy}(hx:l[j]?=some x)(hs:Suc x j t)(ha:(zw l)[j]?=some true):(zw l)[t]?=some true :=
 qmb h _ (Nat.le_refl _) j t x (zzS.1 hx).1 hx hs ha
theorem qrb(h:0<l.length):(zw l)[0]?=some true:=by
 have:∀m,(jw l m)[0]?=some true:=by
  intro m
  induction m with
  | zero=>exact qj5 (by simpa using h)
  | succ m ih =>
   unfold jw;split
   ·exact qkx ih
   ·exact ih
 exact this _
theorem qrQ{A:List Bool}{i j:Nat}(h:i<=j):zR A i<=zR A j:=by
 unfold zR;have e:A.take i=(A.take j).take i:=by rw[List.take_take,Nat.min_eq_left h]
 rw[e];exact List.Sublist.countP_le (List.take_sublist _ _)
theorem qjr{A:List Bool}{i j:Nat}(ha:A[i]?=some true)(h:i<j):zR A i<zR A j:=by
 have h1:=qd1 ha;have h2:=qrQ (A:=A) (i:=i+1) (j:=j) h;rw[if_pos rfl] at h1;omega
theorem qpk{α:Type}:∀{A:List Bool} {l:List α} {p:Nat} {x:α},A[p]?=some true->l[p]?=some x->(qca A l)[zR A p]?=some x
 | [],_,_,_,h,_=>by simp at h
 | _::_,[],_,_,_,h=>by simp at h
 | c::A,y::l,0,x,h1,h2=>by
  simp at h1 h2;subst h1 h2;simp[qca,zR]
 | c::A,y::l,p+1,x,h1,h2=>by
  have:=qpk (A:=A) (l:=l) (p:=p) (x:=x) (by simpa using h1) (by simpa using h2);unfold zR at this ⊢;rw[List.take_succ_cons,List.countP_cons];cases c<;>simpa[qca] using this
theorem qjd{α:Type}:∀{A:List Bool} {l:List α} {q:Nat} {x:α},(qca A l)[q]?=some x->∃p,A[p]?=some true∧l[p]?=some x∧zR A p=q
 | [],_,_,_,h=>by simp[qca] at h
 | _::_,[],_,_,h=>by simp[qca] at h
 | c::A,y::l,q,x,h=>by
  cases c with
  | false =>
   obtain⟨p,h1,h2,h3⟩:=qjd (A:=A) (l:=l) (q:=q) (x:=x) (by simpa[qca] using h);refine⟨p+1,by simpa using h1,by simpa using h2,?_⟩
   unfold zR at h3 ⊢;rw[List.take_succ_cons,List.countP_cons];simpa using h3
  | true =>
   cases q with
   | zero=>simp[qca] at h;subst h;exact⟨0,rfl,rfl,by simp[zR]⟩
   | succ q =>
    obtain⟨p,h1,h2,h3⟩:=qjd (A:=A) (l:=l) (q:=q) (x:=x) (by simpa[qca] using h);refine⟨p+1,by simpa using h1,by simpa using h2,?_⟩
    unfold zR at h3 ⊢;rw[List.take_succ_cons,List.countP_cons];simpa using h3
theorem qpl{α:Type}:∀{A:List Bool} {l:List α},A.length=l.length->(qca A l).length=zR A A.length
 | [],[],_=>rfl
 | [],_::_,h=>by simp at h
 | _::_,[],h=>by simp at h
 | c::A,y::l,h=>by
  have:=qpl (A:=A) (l:=l) (by simpa using h);unfold zR at this ⊢;rw[List.length_cons,List.take_succ_cons,List.countP_cons];cases c<;>simp[qca,this]
theorem qi4:(qfz l).length=zR (zw l) l.length:=by
 unfold qfz;have hA:(zw l).length=l.length:=qbi;rw[qpl (by rw[List.length_map,hA]),hA]
theorem qs1:(qfz l).length<=l.length:=by rw[qi4];exact qlq
theorem qhw{p:Nat}{x:Sy}(ha:(zw l)[p]?=some true)(hx:l[p]?=some x):(qfz l)[zR (zw l) p]?=some (qa1 (zR (zw l)) x) :=
 qpk ha (by rw[List.getElem?_map,hx];rfl)
theorem qv6(h:MayL l):MayL (qfz l):=by
 have hA:(zw l).length=l.length:=qbi;have h0:=qrb h.pos;have hp:0<(qfz l).length:=by rw[qi4];exact Nat.lt_of_le_of_lt (Nat.zero_le _) (qjr h0 h.pos)
 have idx:∀{q:Nat} {s:Sy},(qfz l)[q]?=some s->∃p x,(zw l)[p]?=some true∧l[p]?=some x∧zR (zw l) p=q∧s=qa1 (zR (zw l)) x:=fun {q s} hq=>by
  obtain⟨p,h1,h2,h3⟩:=qjd hq;rw[List.getElem?_map] at h2;obtain⟨x,hx,rfl⟩:=Option.map_eq_some_iff.1 h2;exact⟨p,x,h1,hx,h3,rfl⟩
 refine⟨hp,Nat.le_trans qs1 h.big,?_,fun j s hj=>?_⟩
 ·obtain⟨p,x,q1,q2,q3,q4⟩:=idx (zzE (i:=(qfz l).length-1) (by omega));refine⟨_,zzE (by omega),?_⟩;rw[q4];show x.code=6;apply Decidable.byContradiction;intro h6
  have hs:∃t,Suc x p t:=by
   by_cases hj:qbh x
   ·exact⟨_,.inr (.inl ⟨hj,rfl⟩)⟩
   ·exact⟨_,.inl ⟨h6,hj,rfl⟩⟩
  obtain⟨t,ht⟩:=hs;have t1:=qog h q2 ht;have t2:=qcP h q2 ht q1;have t3:=qjr q1 t1.1;have t4:=qjr t2 t1.2;rw[← qi4] at t4;omega
 ·obtain⟨p,x,q1,q2,q3,rfl⟩:=idx hj;have hm:=h.all p x q2
  have go:∀t,Suc x p t->j<zR (zw l) t∧zR (zw l) t<(qfz l).length:=fun t ht=>by
   have t1:=qog h q2 ht;have t2:=qcP h q2 ht q1;rw[qi4,← q3];exact⟨qjr q1 t1.1,qjr t2 t1.2⟩
  rcases hm with q|q|⟨q,z1,z2,z3,z4⟩|⟨q,z1,z2,z3,z4⟩
  ·rw[jk (xD (.inl q.1))];exact .inl q
  ·rw[jk (xD (.inr q.1))];exact .inr (.inl q)
  ·have hjm:qbh x:=by unfold qbh;rw[q];exact qd0.2.2.2
   rw[qhz q];obtain⟨t1,t2⟩:=go x.th (.inr (.inl ⟨hjm,rfl⟩));exact .inr (.inr (.inl ⟨q,z1,z2,t1,t2⟩))
  ·have ha:=qae q;rw[qhA q];obtain⟨t1,t2⟩:=go x.th (.inr (.inl ⟨ha.1,rfl⟩));obtain⟨t3,t4⟩:=go x.el (.inr (.inr ⟨⟨ha.1,ha.2.1⟩,rfl⟩));exact .inr (.inr (.inr ⟨q,t1,t2,t3,t4⟩))
theorem qzx(h:MayL l):∀{p:Nat} {a:Int},Ev l d p a r->(zw l)[p]?=some true->Ev (qfz l) d (zR (zw l) p) a r:=by
 intro p a he
 induction he with
 | ld p a r s hs hc _ ih =>
  intro ha;have hn:=qcP h hs (t:=p+1) (.inl ⟨by omega,xD (.inl hc),rfl⟩) ha
  have e:=qd1 ha;rw[if_pos rfl] at e;have ih:=ih hn;rw[e] at ih;have hg:=qhw ha hs;rw[jk (xD (.inl hc))] at hg;exact .ld _ _ _ s hg hc ih
 | an p a r s hs hc _ ih =>
  intro ha;have hn:=qcP h hs (t:=p+1) (.inl ⟨by omega,xD (.inr (.inl hc)),rfl⟩) ha
  have e:=qd1 ha;rw[if_pos rfl] at e;have ih:=ih hn;rw[e] at ih;have hg:=qhw ha hs;rw[jk (xD (.inr (.inl hc)))] at hg;exact .an _ _ _ s hg hc ih
 | rt p a s hs hc =>
  intro ha;have hg:=qhw ha hs;rw[jk (xD (.inr (.inr hc)))] at hg;exact .rt _ _ s hg hc
 | ja p a r s hs hc _ ih =>
  intro ha;have hjm:qbh s:=by unfold qbh;rw[hc];exact qd0.2.2.2
  have hg:=qhw ha hs;rw[qhz hc] at hg;exact .ja _ _ _ _ hg hc (ih (qcP h hs (.inr (.inl ⟨hjm,rfl⟩)) ha))
 | jc p a r s hs hc _ ih =>
  intro ha;have hk:=qae hc;have h1:=qcP h hs (t:=s.th) (.inr (.inl ⟨hk.1,rfl⟩)) ha;have h2:=qcP h hs (t:=s.el) (.inr (.inr ⟨⟨hk.1,hk.2.1⟩,rfl⟩)) ha;have hg:=qhw ha hs;rw[qhA hc] at hg;refine .jc _ _ _ _ hg hc ?_;simp only;split
  ·rename_i q;rw[if_pos q] at ih;exact ih h1
  ·rename_i q;rw[if_neg q] at ih;exact ih h2
theorem qi5(h:MayL l):MayL (qbC l):=qv6 (qje (qhM h))
theorem qo1:(qbC l).length<=l.length:=by
 unfold qbC;refine Nat.le_trans qs1 ?_;rw[qxf,qhL];exact Nat.le_refl _
theorem qtF(h:MayL l){a:Int}(he:Ev l d 0 a r):Ev (qbC l) d 0 a r:=by
 have h1:=qA4 (qhM h) (qAO h he);have h2:=qzx (qje (qhM h)) h1 (qrb (qje (qhM h)).pos);unfold qbC;simpa[zR] using h2
end
def Go1(p:List Ins)(d:GData)(at':Nat)(a r:Int):Prop:=∀(n:Nat) (m:Mac) (bh:Int) (L:List Nat),m.a=a->m.over=false->p.length<at'+n->(qj3 p d n m at' bh L).1=r∧(qj3 p d n m at' bh L).2.2.2=0
section
variable {p:List Ins} {d:GData} {q:Nat} {a r k:Int}
theorem qmg{i:Ins}(h:p[q]?=some i):q<p.length:=(zzS.1 h).1
theorem qi1{i:Ins}(h:p[q]?=some i){m:Mac}{n:Nat}{bh:Int}{L:List Nat}(he:(doR m i d).2.2=0)(ho:(doR m i d).1.over=false) :
  qj3 p d (n+1) m q bh L=qj3 p d n (doR m i d).1 (q+1+(doR m i d).2.1.toNat) (if qk i.code=4 then 42 else 46) (L++[q]):=by
 rw[qig,h];simp only[he,ho,ne_eq,not_true,if_false,Bool.false_eq_true]
theorem qCM(h:p[q]?=some ⟨32,0,0,k⟩)(hk:k % 4=0∧0<=k∧k<64)(hn:Go1 p d (q+1) (wdD d k) r):Go1 p d q a r:=by
 intro n m bh L ha ho hl;have hq:=qmg h;obtain⟨n,rfl⟩:∃n',n=n'+1:=⟨n-1,by omega⟩
 have e:doR m ⟨32,0,0,k⟩ d=({ m with a:=wdD d k },0,0):=by
  have e1:zI 32=true:=by decide
  have e2:qk 32=1:=by decide
  simp only[doR,e1,e2,qdp,qfy];simp[hk.1,show ¬64<=k from by omega,wdD]
 rw[qi1 h (by rw[e]) (by rw[e];exact ho),e];exact hn n _ _ _ rfl ho (by omega)
theorem qCL(h:p[q]?=some ⟨84,0,0,k⟩)(hn:Go1 p d (q+1) (xP .u32 a k) r):Go1 p d q a r:=by
 intro n m bh L ha ho hl;have hq:=qmg h;obtain⟨n,rfl⟩:∃n',n=n'+1:=⟨n-1,by omega⟩
 have e:doR m ⟨84,0,0,k⟩ d=({ m with a:=xP .u32 a k },0,0):=by
  have e1:zI 84=true:=by decide
  have e2:qk 84=3:=by decide
  have e3:x9 84=false:=by decide
  simp only[doR,e1,e2,nuM,qO,qcv,e3];simp[opM,ha]
 rw[qi1 h (by rw[e]) (by rw[e];exact ho),e];exact hn n _ _ _ rfl ho (by omega)
theorem qCN(h:p[q]?=some ⟨6,0,0,k⟩):Go1 p d q a k:=by
 intro n m bh L ha ho hl;have hq:=qmg h;obtain⟨n,rfl⟩:∃n',n=n'+1:=⟨n-1,by omega⟩
 have e:doR m ⟨6,0,0,k⟩ d=({ m with over:=true,told:=k },0,0):=by
  have e1:zI 6=true:=by decide
  have e2:qk 6=5:=by decide
  simp only[doR,e1,e2,qpr];simp
 rw[qig,h];simp[e]
theorem qsu(h:p[q]?=some ⟨5,0,0,k⟩)(hn:Go1 p d (q+1+k.toNat) a r):Go1 p d q a r:=by
 intro n m bh L ha ho hl;have hq:=qmg h;obtain⟨n,rfl⟩:∃n',n=n'+1:=⟨n-1,by omega⟩
 have e:doR m ⟨5,0,0,k⟩ d=(m,k,0):=by
  have e1:zI 5=true:=by decide
  have e2:qk 5=4:=by decide
  simp only[doR,e1,e2,qgz];simp
 rw[qi1 h (by rw[e]) (by rw[e];exact ho),e];exact hn n _ _ _ ha ho (by omega)
theorem qxI{c jt jf:Int}(hc:qde c)(h:p[q]?=some ⟨c,jt,jf,k⟩)(hn:Go1 p d (q+1+(if qbg c a k=true then jt else jf).toNat) a r):Go1 p d q a r:=by
 intro n m bh L ha ho hl;have hq:=qmg h;obtain⟨n,rfl⟩:∃n',n=n'+1:=⟨n-1,by omega⟩
 have e:doR m ⟨c,jt,jf,k⟩ d=(m,if qbg c a k=true then jt else jf,0):=by
  have e1:zI c=true:=by rcases hc with rfl|rfl|rfl|rfl<;>decide
  have e2:=(qae hc).1;have e3:x9 c=false:=by rcases hc with rfl|rfl|rfl|rfl<;>decide
  have e4:=(qae hc).2.1;simp only[doR,e1,e2,qgz,e4,qO,qcv,e3,ha];simp
 rw[qi1 h (by rw[e]) (by rw[e];exact ho),e];exact hn n _ _ _ ha ho (by omega)
end
section
variable {l:List Sy} {d:GData} {r:Int}
def bl(l:List Sy)(m:Nat):Nat:=(zj l m).1.length
theorem qhx{m:Nat}{x:Sy}(h:l[l.length-(m+1)]?=some x):zj l (m+1)=((zj l m).1++(jp (bl l m) (zj l m).2 x).reverse,(zj l m).2.set (l.length-(m+1)) (bl l (m+1))):=by
 have e:zj l (m+1)=((zj l m).1++(jp (zj l m).1.length (zj l m).2 x).reverse,(zj l m).2.set (l.length-(m+1)) ((zj l m).1++(jp (zj l m).1.length (zj l m).2 x).reverse).length):=by
  conv=>lhs;unfold zj
  rw[h]
 have e2:bl l (m+1)=((zj l m).1++(jp (zj l m).1.length (zj l m).2 x).reverse).length:=by unfold bl;rw[e]
 rw[e2];exact e
theorem qrr{m m':Nat}(h:m<=m'):∃R,(zj l m').1=(zj l m).1++R:=by
 induction m' with
 | zero=>rw[Nat.le_zero.1 h];exact⟨[],by simp⟩
 | succ m' ih =>
  rcases Nat.lt_or_ge m' m with q|q
  ·rw[show m=m'+1 by omega];exact⟨[],by simp⟩
  ·obtain⟨R,hR⟩:=ih q;cases hx:l[l.length-(m'+1)]? with
   | none =>
    refine⟨R,?_⟩
    conv=>lhs;unfold zj
    rw[hx];exact hR
   | some x=>rw[qhx hx];exact⟨R++_,by rw[hR,List.append_assoc]⟩
theorem qhb{m m':Nat}(h:m<=m'):bl l m<=bl l m':=by
 obtain⟨R,hR⟩:=qrr (l:=l) h;unfold bl;rw[hR,List.length_append];omega
theorem qCm{m:Nat}(hm:m<=l.length){j:Nat}(h1:l.length-m<=j)(h2:j<l.length):(zj l m).2.getD j 0=bl l (l.length-j):=by
 induction m with
 | zero=>omega
 | succ m ih =>
  have hx:l[l.length-(m+1)]?=some l[l.length-(m+1)]:=zzE (by omega);rw[qhx hx,List.getD_eq_getElem?_getD,List.getElem?_set]
  by_cases e:l.length-(m+1)=j
  ·rw[if_pos e,if_pos (by rw[(qfX m).1];omega)]
   rw[show l.length-j=m+1 by omega];rfl
  ·rw[if_neg e,← List.getD_eq_getElem?_getD];exact ih (by omega) (by omega)
def plL(l:List Sy)(j:Nat):Nat:=bl l l.length-bl l (l.length-j)
def cdL(l:List Sy)(j:Nat)(x:Sy):List Ins:=jp (bl l (l.length-(j+1))) (zj l (l.length-(j+1))).2 x
theorem qjI:(xl l).length=bl l l.length:=by unfold xl bl;rw[List.length_reverse]
theorem qfW{j:Nat}{x:Sy}(hx:l[j]?=some x):bl l (l.length-j)=bl l (l.length-(j+1))+(cdL l j x).length∧∃A B,xl l=A++cdL l j x++B∧A.length=plL l j∧B.length=bl l (l.length-(j+1)):=by
 have hj:=(zzS.1 hx).1;have hx2:l[l.length-(l.length-(j+1)+1)]?=some x:=by rw[show l.length-(l.length-(j+1)+1)=j by omega];exact hx
 have h:=qhx hx2;have hm:l.length-(j+1)+1=l.length-j:=by omega
 rw[hm] at h;have h1:(zj l (l.length-j)).1=(zj l (l.length-(j+1))).1++(cdL l j x).reverse:=by rw[h];rfl
 obtain⟨R,hR⟩:=qrr (l:=l) (m:=l.length-j) (m':=l.length) (by omega);have hb:bl l (l.length-j)=bl l (l.length-(j+1))+(cdL l j x).length:=by unfold bl;rw[h1,List.length_append,List.length_reverse]
 refine⟨hb,R.reverse,(zj l (l.length-(j+1))).1.reverse,?_,?_,?_⟩
 ·unfold xl;rw[hR,h1];simp
 ·unfold plL bl;rw[hR,List.length_append,List.length_reverse];omega
 ·rw[List.length_reverse];rfl
theorem qb8{j:Nat}{x:Sy}(hx:l[j]?=some x){i:Nat}{y:Ins}(hy:(cdL l j x)[i]?=some y):(xl l)[plL l j+i]?=some y:=by
 obtain⟨_,A,B,h1,h2,_⟩:=qfW hx;rw[h1,← h2,List.append_assoc,List.getElem?_append_right (by omega),Nat.add_sub_cancel_left,List.getElem?_append_left (zzS.1 hy).1];exact hy
def dsL(l:List Sy)(j t:Nat):Nat:=bl l (l.length-(j+1))-bl l (l.length-t)
theorem qge{j t:Nat}(h1:j<t)(h2:t<l.length):bl l (l.length-(j+1))-(zj l (l.length-(j+1))).2.getD t 0=dsL l j t:=by
 rw[qCm (by omega) (by omega) h2];rfl
theorem qhC{j:Nat}{x:Sy}(hx:l[j]?=some x){t:Nat}(h1:j<t):plL l j+(cdL l j x).length+dsL l j t=plL l t:=by
 have hb:=(qfW hx).1;have b1:=qhb (l:=l) (m:=l.length-j) (m':=l.length) (by omega);have b2:=qhb (l:=l) (m:=l.length-t) (m':=l.length-(j+1)) (by omega);unfold plL dsL;omega
theorem qCB{j:Nat}:dsL l j (j+1)=0:=by unfold dsL;omega
theorem qv5(h:MayL l):∀{j:Nat} {a:Int},Ev l d j a r->Go1 (xl l) d (plL l j) a r:=by
 intro j a he
 induction he with
 | ld j a r x hx hc _ ih =>
  have hm:=h.all j x hx
  have hk:x.k % 4=0∧0<=x.k∧x.k<64:=by
   rcases hm with q|⟨q,_⟩|⟨q,_⟩|⟨q,_⟩
   ·exact q.2.2.2
   ·omega
   ·omega
   ·unfold qde at q;omega
  have e:cdL l j x=[⟨32,0,0,x.k⟩]:=by unfold cdL jp;rw[hc,if_neg (by decide),if_pos (by decide)]
  have hn:=qhC hx (t:=j+1) (by omega);rw[qCB,e] at hn;simp only[List.length_singleton,Nat.add_zero] at hn;exact qCM (qb8 hx (i:=0) (by rw[e];rfl)) hk (by rw[Nat.add_zero,hn];exact ih)
 | an j a r x hx hc _ ih =>
  have e:cdL l j x=[⟨84,0,0,x.k⟩]:=by unfold cdL jp;rw[hc,if_neg (by decide),if_pos (by decide)]
  have hn:=qhC hx (t:=j+1) (by omega);rw[qCB,e] at hn;simp only[List.length_singleton,Nat.add_zero] at hn;exact qCL (qb8 hx (i:=0) (by rw[e];rfl)) (by rw[Nat.add_zero,hn];exact ih)
 | rt j a x hx hc =>
  have e:cdL l j x=[⟨6,0,0,x.k⟩]:=by unfold cdL jp;rw[hc,if_neg (by decide),if_pos (by decide)]
  exact qCN (qb8 hx (i:=0) (by rw[e];rfl))
 | ja j a r x hx hc _ ih =>
  have hm:=(h.all j x hx).ja hc;have e:cdL l j x=[⟨5,0,0,(dsL l j x.th:Nat)⟩]:=by unfold cdL jp;rw[if_pos hc,qge hm.2.2.1 hm.2.2.2]
  have hn:=qhC hx hm.2.2.1;rw[e] at hn;simp only[List.length_singleton] at hn;exact qsu (qb8 hx (i:=0) (by rw[e];rfl)) (by rw[Nat.add_zero,Int.toNat_natCast,hn];exact ih)
 | jc j a r x hx hc _ ih =>
  have hm:=(h.all j x hx).jc hc;have hk:=qae hc;have n1:=qhC hx hm.1;have n2:=qhC hx hm.2.2.1
  by_cases hf:max (dsL l j x.th) (dsL l j x.el)<=255
  ·have e:cdL l j x=[⟨x.code,(dsL l j x.th:Nat),(dsL l j x.el:Nat),x.k⟩]:=by
    unfold cdL jp;rw[if_neg hk.2.1,if_neg (fun q=>q hk.1),qge hm.1 hm.2.1,qge hm.2.2.1 hm.2.2.2,if_pos hf]
   rw[e] at n1 n2;simp only[List.length_singleton] at n1 n2;refine qxI hc (qb8 hx (i:=0) (by rw[e];rfl)) ?_
   by_cases q:qbg x.code a x.k=true
   ·rw[if_pos q] at ih ⊢;rw[Nat.add_zero,Int.toNat_natCast,n1];exact ih
   ·rw[if_neg q] at ih ⊢;rw[Nat.add_zero,Int.toNat_natCast,n2];exact ih
  ·have e:cdL l j x=[⟨x.code,0,1,x.k⟩,⟨5,0,0,(dsL l j x.th+1:Nat)⟩,⟨5,0,0,(dsL l j x.el:Nat)⟩]:=by
    unfold cdL jp;rw[if_neg hk.2.1,if_neg (fun q=>q hk.1),qge hm.1 hm.2.1,qge hm.2.2.1 hm.2.2.2,if_neg hf]
   rw[e] at n1 n2;simp only[List.length_cons,List.length_nil] at n1 n2;refine qxI hc (qb8 hx (i:=0) (by rw[e];rfl)) ?_
   by_cases q:qbg x.code a x.k=true
   ·rw[if_pos q] at ih ⊢;refine qsu (k:=((dsL l j x.th+1:Nat):Int)) (qb8 hx (i:=1) (y:=⟨5,0,0,(dsL l j x.th+1:Nat)⟩) (by rw[e];rfl)) ?_;rw[Int.toNat_natCast];have e2:plL l j+0+1+(0:Int).toNat+1+(dsL l j x.th+1)=plL l x.th:=by simp;omega
    rw[e2];exact ih
   ·rw[if_neg q] at ih ⊢;refine qsu (k:=((dsL l j x.el:Nat):Int)) (qb8 hx (i:=2) (y:=⟨5,0,0,(dsL l j x.el:Nat)⟩) (by rw[e];rfl)) ?_;rw[Int.toNat_natCast];have e2:plL l j+0+1+(1:Int).toNat+1+dsL l j x.el=plL l x.el:=by simp;omega
    rw[e2];exact ih
theorem qqm(h:MayL l)(he:Ev l d 0 0 r):(qej (xl l) d).1=r∧(qej (xl l) d).2.2.2=0:=by
 have:=qv5 h he;have e:plL l 0=0:=by unfold plL;rw[Nat.sub_zero];omega
 rw[e] at this;exact this _ _ _ _ rfl rfl (by omega)
end
def qaT(l:List Sy):Prop:=∀x ∈ l,0<=x.k∧x.k<=4294967295
section
variable {l:List Sy}
theorem qw3(h:qaT l):qaT (qek l):=by
 intro x hx;unfold qek at hx;obtain⟨y,hy,rfl⟩:=List.mem_map.1 hx;exact h y hy
theorem ql1(h:qaT l):∀m,qaT (qel l m)
 | 0=>h
 | m+1=>by
  unfold qel;split
  ·rename_i x hx;intro y hy;rcases List.mem_or_eq_of_mem_set hy with hy|rfl
   ·exact ql1 h m y hy
   ·have hk:=h x (zzM hx);unfold qa6;split
    ·exact⟨Int.le_refl 0,show (0:Int)<=4294967295 by decide⟩
    ·exact hk
  ·exact ql1 h m
theorem qo2(h:qaT l):qaT (qbC l):=by
 intro x hx;unfold qbC qfz at hx;obtain⟨q,hq⟩:=List.getElem?_of_mem hx;obtain⟨p,_,h2,_⟩:=qjd hq;rw[List.getElem?_map] at h2;obtain⟨y,hy,rfl⟩:=Option.map_eq_some_iff.1 h2;exact ql1 (qw3 h) _ y (zzM hy)
theorem qoq(h:MayL l):∀{m:Nat},m<=l.length->∀{b:Nat} {i:Ins},(zj l m).1[b]?=some i->∃(j:Nat) (x:Sy) (e:Nat),l[j]?=some x∧(cdL l j x)[e]?=some i∧b+e+1=bl l (l.length-j)
 | 0,_,b,i,hb=>by simp[zj] at hb
 | m+1,hm,b,i,hb=>by
  have hx:l[l.length-(m+1)]?=some l[l.length-(m+1)]:=zzE (by omega);have hs:=qhx hx;have hcd:cdL l (l.length-(m+1)) l[l.length-(m+1)]=jp (bl l m) (zj l m).2 l[l.length-(m+1)]:=by unfold cdL;rw[show l.length-(l.length-(m+1)+1)=m by omega]
  have h1:(zj l (m+1)).1=(zj l m).1++(cdL l (l.length-(m+1)) l[l.length-(m+1)]).reverse:=by rw[hs,hcd]
  rw[h1,List.getElem?_append] at hb;split at hb
  ·exact qoq h (by omega) hb
  ·rename_i hlt;have hbl:(zj l m).1.length=bl l m:=rfl;rw[hbl] at hlt hb;have hc:=(qfW hx).1;rw[show l.length-(l.length-(m+1))=m+1 by omega,show l.length-(l.length-(m+1)+1)=m by omega] at hc
   have hlen:=(zzS.1 hb).1;rw[List.length_reverse] at hlen;rw[List.getElem?_reverse hlen] at hb;exact⟨_,_,_,hx,hb,by rw[show l.length-(l.length-(m+1))=m+1 by omega];omega⟩
theorem qsX(h:MayL l){k:Nat}{i:Ins}(hk:(xl l)[k]?=some i):∃(j:Nat) (x:Sy) (e:Nat),l[j]?=some x∧(cdL l j x)[e]?=some i∧(xl l).length-1-k+e+1=bl l (l.length-j):=by
 have hl:=(zzS.1 hk).1;have e:=hk;unfold xl at e;rw[List.getElem?_reverse (by unfold xl at hl;simpa using hl)] at e;obtain⟨j,x,e,h1,h2,h3⟩:=qoq h (Nat.le_refl _) e;refine⟨j,x,e,h1,h2,?_⟩;rw[qjI];exact h3
structure LkOk (i:Ins) (n:Nat):Prop where
 ok:InsOk i
 one:qe5 i n=0
 c:i.code≠96∧i.code≠97
theorem qli(h:MayL l){t:Nat}(ht:t<l.length):0<bl l (l.length-t):=by
 have hx:l[t]?=some l[t]:=zzE ht;have h1:=(qfW hx).1;have h2:=(qm3 (n:=bl l (l.length-(t+1))) (pl:=(zj l (l.length-(t+1))).2) (x:=l[t])).2;have:(cdL l t l[t]).length=(jp (bl l (l.length-(t+1))) (zj l (l.length-(t+1))).2 l[t]).length:=rfl;omega
theorem qoS{c k:Int}{n:Nat}(hc:c=32∧k % 4=0∧k<64∨c=84∨c=6)(hk:0<=k∧k<=4294967295):LkOk ⟨c,0,0,k⟩ n:=by
 have hc2:c=32∨c=84∨c=6:=by rcases hc with h|h|h<;>simp[h]
 have b1:zI c=true:=by rcases hc2 with rfl|rfl|rfl<;>decide
 have b2:qk c≠2∧qk c≠4:=by rcases hc2 with rfl|rfl|rfl<;>decide
 refine⟨⟨show (0:Int)<=c by omega,show c<=65535 by omega,Int.le_refl 0,show (0:Int)<=255 by decide,Int.le_refl 0,show (0:Int)<=255 by decide,hk.1,hk.2⟩,?_,show c≠96∧c≠97 by omega⟩
 have a1:qgD ⟨c,0,0,k⟩=false:=by simp[qgD,b1]
 have a2:qf8 ⟨c,0,0,k⟩=false:=by
  rcases hc with⟨h1,h2,h3⟩|h|h
  ·simp[qf8,h2,show ¬64<=k from by omega]
  ·simp[qf8,h]
  ·simp[qf8,h]
 have a3:qg7 ⟨c,0,0,k⟩=false:=by simp[qg7,b2.1,show c≠96 from by omega,show c≠97 from by omega]
 have a4:qg8 ⟨c,0,0,k⟩=false:=by simp[qg8,show c≠52 from by omega]
 have a5:qg9 ⟨c,0,0,k⟩=false:=by simp[qg9,show c≠100 from by omega,show c≠116 from by omega]
 have a6:qha ⟨c,0,0,k⟩ n=false:=by simp[qha,b2.2,show c≠5 from by omega]
 simp[qe5,a1,a2,a3,a4,a5,a6]
theorem qs2{k n:Nat}(h:k<n)(hn:k<=1000000):LkOk ⟨5,0,0,(k:Int)⟩ n:=by
 refine⟨⟨show (0:Int)<=5 by decide,show (5:Int)<=65535 by decide,Int.le_refl 0,show (0:Int)<=255 by decide,Int.le_refl 0,show (0:Int)<=255 by decide,show (0:Int)<=k by omega,show (k:Int)<=4294967295 by omega⟩,?_,show (5:Int)≠96∧(5:Int)≠97 by decide⟩
 have a1:qgD ⟨5,0,0,k⟩=false:=by
  have:zI 5=true:=by decide
  simp[qgD,this]
 have a2:qf8 ⟨5,0,0,k⟩=false:=by simp[qf8]
 have a3:qg7 ⟨5,0,0,k⟩=false:=by
  have:qk 5≠2:=by decide
  simp[qg7,this]
 have a4:qg8 ⟨5,0,0,k⟩=false:=by simp[qg8]
 have a5:qg9 ⟨5,0,0,k⟩=false:=by simp[qg9]
 have a6:qha ⟨5,0,0,k⟩ n=false:=by simp[qha];omega
 simp[qe5,a1,a2,a3,a4,a5,a6]
theorem qxM{c k:Int}{jt jf n:Nat}(hc:qde c)(hk:0<=k∧k<=4294967295)(h1:jt<=255)(h2:jf<=255)(h3:jt<n)(h4:jf<n):LkOk ⟨c,jt,jf,k⟩ n:=by
 have b1:zI c=true:=by rcases hc with rfl|rfl|rfl|rfl<;>decide
 have b2:qk c≠2:=by rw[(qae hc).1];decide
 have b3:c≠32∧c≠96∧c≠97∧c≠52∧c≠100∧c≠116∧c≠5∧0<=c∧c<=65535:=by rcases hc with rfl|rfl|rfl|rfl<;>decide
 refine⟨⟨b3.2.2.2.2.2.2.2.1,b3.2.2.2.2.2.2.2.2,by simp only;omega,by simp only;omega,by simp only;omega,by simp only;omega,hk.1,hk.2⟩,?_,⟨b3.2.1,b3.2.2.1⟩⟩
 have a1:qgD ⟨c,jt,jf,k⟩=false:=by simp[qgD,b1]
 have a2:qf8 ⟨c,jt,jf,k⟩=false:=by simp[qf8,b3.1]
 have a3:qg7 ⟨c,jt,jf,k⟩=false:=by simp[qg7,b2,b3.2.1,b3.2.2.1]
 have a4:qg8 ⟨c,jt,jf,k⟩=false:=by simp[qg8,b3.2.2.2.1]
 have a5:qg9 ⟨c,jt,jf,k⟩=false:=by simp[qg9,b3.2.2.2.2.1,b3.2.2.2.2.2.1]
 have a6:qha ⟨c,jt,jf,k⟩ n=false:=by
  have:¬(n:Int)<=hiM ⟨c,jt,jf,k⟩:=by unfold hiM;simp only;split<;>omega
  simp only[qha,if_neg b3.2.2.2.2.2.2.1,this,decide_false,Bool.and_false]
 simp[qe5,a1,a2,a3,a4,a5,a6]
theorem qlH(h:MayL l)(hr:qaT l){k:Nat}{i:Ins}(hk:(xl l)[k]?=some i):LkOk i ((xl l).length-1-k):=by
 obtain⟨j,x,e,hx,he,hb⟩:=qsX h hk;have hm:=h.all j x hx;have hxr:=hr x (zzM hx);have hbl:=(qfW hx).1;have hbig:bl l (l.length-j)<=3*l.length:=Nat.le_trans (qfX (l:=l) (l.length-j)).2.2 (by omega);have hbig2:=h.big
 have one:∀{y:Ins},cdL l j x=[y]->i=y∧(xl l).length-1-k=bl l (l.length-(j+1)):=fun {y} hy=>by
  rw[hy] at he hbl;cases e with
  | zero=>simp at he;simp at hbl;exact⟨he.symm,by omega⟩
  | succ e=>simp at he
 rcases hm with⟨q,_,_,q1,q2,q3⟩|⟨q,_⟩|⟨q,_,_,q3,q4⟩|⟨q,q1,q2,q3,q4⟩
 ·obtain⟨e1,_⟩:=one (y:=⟨x.code,0,0,x.k⟩) (by unfold cdL jp;rw[q,if_neg (by decide),if_pos (by decide)])
  rw[e1];exact qoS (.inl ⟨q,q1,q3⟩) hxr
 ·obtain⟨e1,_⟩:=one (y:=⟨x.code,0,0,x.k⟩) (by unfold cdL jp;rcases q with q|q<;>rw[q,if_neg (by decide),if_pos (by decide)])
  rw[e1];exact qoS (.inr q) hxr
 ·obtain⟨e1,e2⟩:=one (y:=⟨5,0,0,(dsL l j x.th:Nat)⟩) (by unfold cdL jp;rw[if_pos q,qge q3 q4]);have hp:=qli h q4;have hmn:=qhb (l:=l) (m:=l.length-x.th) (m':=l.length-(j+1)) (by omega);rw[e1,e2];unfold dsL;exact qs2 (by omega) (by omega)
 ·have hp:=qli h q2;have hp2:=qli h q4;have hmn:=qhb (l:=l) (m:=l.length-x.th) (m':=l.length-(j+1)) (by omega);have hmn2:=qhb (l:=l) (m:=l.length-x.el) (m':=l.length-(j+1)) (by omega);have hkk:=qae q;have d1:dsL l j x.th<bl l (l.length-(j+1)):=by unfold dsL;omega
  have d2:dsL l j x.el<bl l (l.length-(j+1)):=by unfold dsL;omega
  by_cases hf:max (dsL l j x.th) (dsL l j x.el)<=255
  ·obtain⟨e1,e2⟩:=one (y:=⟨x.code,(dsL l j x.th:Nat),(dsL l j x.el:Nat),x.k⟩) (by
    unfold cdL jp;rw[if_neg hkk.2.1,if_neg (fun z=>z hkk.1),qge q1 q2,qge q3 q4,if_pos hf])
   rw[e1,e2];exact qxM q hxr (by omega) (by omega) d1 d2
  ·have e3:cdL l j x=[⟨x.code,0,1,x.k⟩,⟨5,0,0,(dsL l j x.th+1:Nat)⟩,⟨5,0,0,(dsL l j x.el:Nat)⟩]:=by
    unfold cdL jp;rw[if_neg hkk.2.1,if_neg (fun z=>z hkk.1),qge q1 q2,qge q3 q4,if_neg hf]
   rw[e3] at he hbl;simp only[List.length_cons,List.length_nil] at hbl
   match e,he,hb with
   | 0,he,hb =>
    simp at he;subst he;exact qxM (jt:=0) (jf:=1) q hxr (by omega) (by omega) (by omega) (by omega)
   | 1,he,hb =>
    simp only[List.getElem?_cons_succ,List.getElem?_cons_zero,Option.some.injEq] at he;subst he;exact qs2 (by omega) (by omega)
   | 2,he,hb =>
    simp only[List.getElem?_cons_succ,List.getElem?_cons_zero,Option.some.injEq] at he;subst he;exact qs2 (by omega) (by omega)
   | e+3,he,hb=>simp at he
theorem qqk(h:MayL l):qhv (xl l)=6:=by
 obtain⟨s,hs,h6⟩:=h.last;have hp:=h.pos;obtain⟨hb,A,B,h1,h2,h3⟩:=qfW hs;have e:cdL l (l.length-1) s=[⟨6,0,0,s.k⟩]:=by unfold cdL jp;rw[h6,if_neg (by decide),if_pos (by decide)]
 have hB:B=[]:=by
  apply List.eq_nil_of_length_eq_zero;rw[h3,show l.length-(l.length-1+1)=0 by omega];rfl
 rw[e,hB,List.append_nil] at h1;unfold qhv;rw[h1];simp
theorem qsZ(h:MayL l):0<(xl l).length:=by
 rw[qjI];have:=qli h h.pos;simpa using this
theorem qsY:(xl l).length<=3*l.length:=by rw[qjI];exact (qfX (l:=l) l.length).2.2
theorem qqj(h:MayL l)(hr:qaT l)(hl:(xl l).length<=4096):PrgGood (xl l) :=
 ⟨hl,by have:=qsZ h;omega,fun i hi=>by obtain⟨k,hk⟩:=List.getElem?_of_mem hi;exact (qlH h hr hk).ok,fun k i hk=>(qlH h hr hk).one,by rw[qqk h];decide⟩
-- no cell is read
theorem qBb{i:Ins}(hi:i.code≠96∧i.code≠97){x:BitVec 16}{j:Nat}{L:List Nat}:qik i x j L=L:=by
 unfold qik;simp[rdM,hi.1,hi.2]
theorem qx3{n:Nat}:∀{p:List Ins} {j:Nat} {st:WSt},(∀i ∈ p,i.code≠96∧i.code≠97)->(wkM n j p st).1=st.1
 | [],_,_,_=>rfl
 | i::p,j,st,h=>by
  unfold wkM;rw[qx3 (fun y hy=>h y (List.mem_cons_of_mem _ hy))]
  unfold stM;split
  ·exact qBb (h i (List.mem_cons_self ..))
  ·rfl
theorem quv{rch:List Bool}{sur:List (BitVec 16)}:∀{p:List Ins} {j:Nat} {L:List Nat},(∀i ∈ p,i.code≠96∧i.code≠97)->qxm rch sur j p L=L
 | [],_,_,_=>rfl
 | i::p,j,L,h=>by
  unfold qxm;have hi:=h i (List.mem_cons_self ..);rw[quv (fun y hy=>h y (List.mem_cons_of_mem _ hy)),if_neg (by simp[unC,rdC,hi.1,hi.2])]
theorem qmi{n:Nat}:∀{p:List Ins} {j:Nat},(∀(k:Nat) i,p[k]?=some i->qe5 i (n-1-(j+k))=0)->qim n j p=none
 | [],_,_=>rfl
 | i::p,j,h=>by
  rw[qjj,if_pos (by simpa using h 0 i rfl)];exact qmi fun k i hk=>by have:=h (k+1) i (by simpa using hk);rw[show j+1+k=j+(k+1) by omega];exact this
theorem qoL{p:List Ins}(h:PrgGood p):atU p []=(0,0):=by
 unfold atU;rw[if_neg (by have:=h.ne;have:=h.len;omega),qmi (fun k i hk=>by rw[Nat.zero_add];exact h.one k i hk)]
 simp[h.last]
theorem qs0(h:MayL l)(hr:qaT l):qfH (xl l)=[]∧qDB (xl l)=[]:=by
 have hc:∀i ∈ xl l,i.code≠96∧i.code≠97:=fun i hi=>by obtain⟨k,hk⟩:=List.getElem?_of_mem hi;exact (qlH h hr hk).c
 exact⟨qx3 hc,quv hc⟩
end
structure FilU (x:GFil):Prop where
 d:0<=x.dflt∧x.dflt<=4294967295
 r:∀r ∈ x.rules,0<=r.act∧r.act<=4294967295
 t:∀r ∈ x.rules,∀t ∈ r.tests,0<=t.act∧t.act<=4294967295
theorem qaT.app{a b:List Sy}(h1:qaT a)(h2:qaT b):qaT (a++b):=fun x hx=>by
 rcases List.mem_append.1 hx with h|h
 ·exact h1 x h
 ·exact h2 x h
theorem qaT.nil:qaT []:=fun x hx=>by cases hx
theorem qaT.cons{s:Sy}{l:List Sy}(h1:0<=s.k∧s.k<=4294967295)(h2:qaT l):qaT (s::l):=fun x hx=>by
 rcases List.mem_cons.1 hx with rfl|h
 ·exact h1
 ·exact h2 x h
theorem r0:(0:Int)<=0∧(0:Int)<=4294967295:=⟨by decide,by decide⟩
theorem qmP{a m v:Int}{p F:Nat}(ha:0<=a∧a<=4294967295)(hm:0<=m∧m<=4294967295)(hv:0<=v∧v<=4294967295):qaT (qcZ a m v p F):=by
 unfold qcZ;split
 ·exact .nil
 ·split
  ·exact .cons ha (.cons hv .nil)
  ·exact .cons ha (.cons hm (.cons hv .nil))
theorem qC2{x:Int}(h0:0<=x)(h1:x<18446744073709551616):(0<=loW x∧loW x<=4294967295)∧0<=hiW x∧hiW x<=4294967295:=by
 unfold loW hiW;omega
theorem qum{t:GTest}{p:Nat}(ht:TstOk t)(ha:0<=t.act∧t.act<=4294967295):qaT (qgC t p):=by
 have h1:=qC2 ht.m0 ht.m1;have h2:=qC2 ht.v0 ht.v1;have a0:=ht.a0;have a1:=ht.a1;exact ((qmP (by omega) h1.1 h2.1).app (qmP (by omega) h1.2 h2.2)).app (.cons ha .nil)
theorem qla:∀{ts:List GTest} {a:Int} {p:Nat},(∀t ∈ ts,TstOk t∧0<=t.act∧t.act<=4294967295)->(0<=a∧a<=4294967295)->qaT (qbV ts a p)
 | [],a,p,_,ha=>.cons ha .nil
 | t::ts,a,p,h,ha=>by
  have ht:=h t (List.mem_cons_self ..);unfold qbV;refine (qum ht.1 ht.2).app ?_;split
  ·exact .nil
  ·exact qla (fun y hy=>h y (List.mem_cons_of_mem _ hy)) ha
theorem qk4:∀{rs:List GRule} {p:Nat},(∀r ∈ rs,(0<=r.act∧r.act<=4294967295)∧∀t ∈ r.tests,TstOk t∧0<=t.act∧t.act<=4294967295)->qaT (zO rs p)
 | [],_,_=>.nil
 | r::rs,p,h=>by
  have hr:=h r (List.mem_cons_self ..);unfold zO;exact (qla hr.2 hr.1).app (qk4 fun y hy=>h y (List.mem_cons_of_mem _ hy))
theorem qxg{a:Int}(h0:0<=a)(h6:a<6):0<=qcA a∧qcA a<=4294967295:=by
 have:a=0∨a=1∨a=2∨a=3∨a=4∨a=5:=by omega
 rcases this with rfl|rfl|rfl|rfl|rfl|rfl<;>decide
theorem qwE{a:Int}{p F:Nat}(h0:0<=a)(h6:a<6):qaT (qa2 a p F):=by
 unfold qa2;have hb:(0:Int)<=1073741824∧(1073741824:Int)<=4294967295:=⟨by decide,by decide⟩
 refine qaT.app (.cons ⟨show (0:Int)<=4 by decide,show (4:Int)<=4294967295 by decide⟩ (.cons (qxg h0 h6) (.cons r0 .nil))) ?_
 split
 ·exact .cons hb .nil
 ·split
  ·exact .cons hb .nil
  ·exact .nil
theorem qnM{FW:Nat->Nat}{T:List Nd}{p:Nat}(h:∀n ∈ T,0<=n.at'∧n.at'<=4294967295):qaT (z8 FW T p):=by
 unfold z8;refine qaT.app ?_ ?_
 ·cases T with
  | nil=>exact .nil
  | cons n T =>
   show qaT (if n.leaf=true then [⟨5,0,FW n.way,0⟩] else [])
   split
   ·exact .cons (s:=⟨5,0,_,0⟩) r0 .nil
   ·exact .nil
 ·unfold brE;intro x hx;obtain⟨n,hn,hx⟩:=List.mem_flatMap.1 hx;unfold qia at hx;split at hx
  ·cases hx
  ·rw[List.mem_singleton] at hx;rw[hx];exact h n hn
theorem qxh(n:Nat):∀(l:List Sp) (a:Nat),l.length<=n->SpR l->∀nd ∈ zt l a,0<=nd.at'∧nd.at'<4294967296:=by
 induction n with
 | zero =>
  intro l a h1 _ nd hnd;rw[List.eq_nil_of_length_eq_zero (Nat.le_zero.1 h1),zt,dif_pos (show ([]:List Sp).length / 2=0 from rfl),List.mem_singleton] at hnd
  subst hnd;exact⟨Int.le_refl 0,show (0:Int)<4294967296 by decide⟩
 | succ n ih =>
  intro l a h1 hr nd hnd;rw[zt] at hnd
  by_cases hk:l.length / 2=0
  ·rw[dif_pos hk,List.mem_singleton] at hnd;subst hnd;exact⟨Int.le_refl 0,show (0:Int)<4294967296 by decide⟩
  ·rw[dif_neg hk] at hnd;rcases List.mem_cons.1 hnd with rfl|hnd
   ·have hlt:l.length / 2<l.length:=by omega
    have:=hr _ (List.getElem_mem hlt);simp only[List.getD_eq_getElem?_getD,zzE hlt,Option.getD_some];exact⟨this.1,this.2.1⟩
   ·rcases List.mem_append.1 hnd with hnd|hnd
    ·exact ih (l.take (l.length / 2)) _ (by simp;omega) (fun s hs=>hr s (List.mem_of_mem_take hs)) nd hnd
    ·exact ih (l.drop (l.length / 2)) _ (by simp;omega) (fun s hs=>hr s (List.mem_of_mem_drop hs)) nd hnd
section
variable {x:GFil}
theorem qmy(h:FilG x)(hu:FilU x):qaT (zd x):=by
 unfold zd;refine (((qaT.app (qwE h.a0 h.a6) (qnM fun n hn=>?_)).app (.cons hu.d .nil)).app (qk4 fun r hr=>⟨hu.r r hr,fun t ht=>⟨(h.ts r hr t ht).ok,hu.t r hr t ht⟩⟩)).app (.cons ⟨show (0:Int)<=2147418112 by decide,show (2147418112:Int)<=4294967295 by decide⟩ .nil)
 have:=qxh _ _ 0 (Nat.le_refl _) (qhW h.spans.1 (Int.le_refl 0) (Int.le_refl _)) n hn;omega
def szF(x:GFil):Nat:=10+(x.rules.map fun r=>3+7*r.tests.length).sum
theorem qqT{rs:List GRule}:zg rs+2*rs.length<=(rs.map fun r=>3+7*r.tests.length).sum:=by
 induction rs with
 | nil=>simp[zg]
 | cons r rs ih =>
  have:=qij (ts:=r.tests);simp[zg,qlT] at ih ⊢;omega
theorem qoE(h:FilG x):(zd x).length<=szF x:=by
 have h1:=h.dfl.1;have h2:=qqT (rs:=x.rules);rw[qkD];unfold xw szF;omega
end
theorem qls:∀{ts:List GTest} {a:Int},(qeu ts a).1.Sublist ts∧((qeu ts a).2=a∨∃t ∈ ts,(qeu ts a).2=t.act)
 | [],_=>⟨.slnil,.inl rfl⟩
 | t::ts,a=>by
  unfold qeu;split
  ·exact⟨List.nil_sublist _,.inr ⟨t,List.mem_cons_self ..,rfl⟩⟩
  ·obtain⟨h1,h2⟩:=qls (ts:=ts) (a:=a);refine⟨h1.cons_cons t,?_⟩;rcases h2 with h2|⟨y,hy,h2⟩
   ·exact .inl h2
   ·exact .inr ⟨y,List.mem_cons_of_mem _ hy,h2⟩
theorem qut{a:Int}{ts:List GTest}:(qe1 a ts).Sublist ts:=by
 unfold qe1;have:=List.dropWhile_sublist (fun t:GTest=>decide (t.act=a)) (l:=ts.reverse)
 have:=this.reverse;rwa [List.reverse_reverse] at this
theorem qoB{q:GTest->Bool}:∀{ts:List GTest} {a:Int},(∀t ∈ ts,t.mask=0->q t=true)->fnd q (qeu ts a).2 (qeu ts a).1=fnd q a ts
 | [],_,_=>rfl
 | t::ts,a,h=>by
  unfold qeu;split
  ·rename_i h0;rw[qi0,qcY,if_pos (h t (List.mem_cons_self ..) h0)]
  ·rw[qcY,qcY,qoB fun y hy=>h y (List.mem_cons_of_mem _ hy)]
theorem qmE{q:GTest->Bool}{a:Int}{t:GTest}(h:t.act=a):∀{ts:List GTest},fnd q a (ts++[t])=fnd q a ts
 | []=>by rw[List.nil_append,qcY,qi0,h];split<;>rfl
 | y::ts=>by rw[List.cons_append,qcY,qcY,qmE h]
theorem qus{q:GTest->Bool}{a:Int}(n:Nat):∀(ts:List GTest),ts.length=n->fnd q a (qe1 a ts)=fnd q a ts:=by
 induction n with
 | zero=>intro ts h;rw[List.eq_nil_of_length_eq_zero h];rfl
 | succ n ih =>
  intro ts h;have e:ts=ts.dropLast++[ts.getLast (by intro h0;rw[h0] at h;simp at h)]:=(List.dropLast_concat_getLast _).symm;generalize ts.getLast _=z at e;generalize ts.dropLast=l0 at e;subst e;have hl0:l0.length=n:=by simpa using h
  rw[qkc];split
  ·rename_i hz;rw[ih l0 hl0,qmE hz]
  ·rfl
theorem ql7:∀{l:List GRule} {o:Option GRule},upR o l=true↔(∀r ∈ l,qbF r=true)∧(∀b,o=some b->∀r ∈ l,b.nr<r.nr)∧l.Pairwise fun a b=>a.nr<b.nr
 | [],o=>by simp[upR]
 | r::l,o=>by
  have ih:=ql7 (l:=l) (o:=some r);simp only[upR,Bool.and_eq_true,ih,List.forall_mem_cons,List.pairwise_cons];constructor
  ·rintro⟨⟨h1,h2⟩,h3,h4,h5⟩;refine⟨⟨h1,h3⟩,fun b hb=>?_,h4 r rfl,h5⟩
   subst hb;have h2:b.nr<r.nr:=by simpa using h2
   exact⟨h2,fun y hy=>Int.lt_trans h2 (h4 r rfl y hy)⟩
  ·rintro⟨⟨h1,h3⟩,h2,h4,h5⟩;refine⟨⟨h1,?_⟩,h3,fun b hb=>by cases hb;exact h4,h5⟩
   cases o with
   | none=>rfl
   | some b=>simpa using (h2 b rfl).1
section
variable {x:GFil}
theorem qjN{r:GRule}:(xm r).nr=r.nr:=rfl
theorem qbU{r:GRule}:(xm r).tests.Sublist r.tests:=qut.trans qls.1
theorem qnd{r:GRule}:(xm r).act=r.act∨∃t ∈ r.tests,(xm r).act=t.act:=qls.2
theorem qto{q:GTest->Bool}{r:GRule}(h:∀t ∈ r.tests,t.mask=0->q t=true):fnd q (xm r).act (xm r).tests=fnd q r.act r.tests :=
 (qus _ _ rfl).trans (qoB h)
theorem qeb{r:GRule}(h:r ∈ (jq x).rules):∃r0 ∈ x.rules,r=xm r0:=by
 obtain⟨h1,_⟩:=List.mem_filter.1 h;obtain⟨r0,h0,e⟩:=List.mem_map.1 h1;exact⟨r0,h0,e.symm⟩
theorem qn6{r:GRule}(h:qbF r=true):qbF (xm r)=true:=by
 simp only[qbF,Bool.and_eq_true,decide_eq_true_eq,List.all_eq_true] at h ⊢;obtain⟨⟨h1,h2⟩,h3⟩:=h;refine⟨⟨Nat.le_trans qbU.length_le h1,fun t ht=>h2 t (qbU.subset ht)⟩,?_⟩
 rcases qnd (r:=r) with e|⟨t,ht,e⟩
 ·rw[e];exact h3
 ·rw[e];have:=h2 t ht;simp only[qbG,Bool.and_eq_true] at this;exact this.2
theorem qfZ(h:xB x=true):xB (jq x)=true:=by
 simp only[xB,Bool.and_eq_true,decide_eq_true_eq] at h ⊢;obtain⟨⟨⟨⟨k1,k2⟩,k3⟩,k4⟩,k5⟩:=h;obtain⟨u1,_,u3⟩:=ql7.1 k5;refine⟨⟨⟨⟨k1,k2⟩,?_⟩,k4⟩,ql7.2 ⟨fun r hr=>?_,fun b hb=>(by cases hb),?_⟩⟩
 ·have:=List.length_filter_le (qbd x.dflt) (x.rules.map xm);rw[List.length_map] at this;exact Nat.le_trans this k3
 ·obtain⟨r0,h0,rfl⟩:=qeb hr;exact qn6 (u1 r0 h0)
 ·exact ((List.pairwise_map (f:=xm) (R:=fun a b:GRule=>a.nr<b.nr)).2 u3).filter _
theorem qlJ(h:FilR x):FilR (jq x):=by
 refine⟨fun r hr=>?_,fun r hr t ht=>?_⟩
 ·obtain⟨r0,h0,rfl⟩:=qeb hr;exact h.nr r0 h0
 ·obtain⟨r0,h0,rfl⟩:=qeb hr;exact h.ts r0 h0 t (qbU.subset ht)
theorem qzV(h:FilU x):FilU (jq x):=by
 refine⟨h.d,fun r hr=>?_,fun r hr t ht=>?_⟩
 ·obtain⟨r0,h0,rfl⟩:=qeb hr;rcases qnd (r:=r0) with e|⟨t,ht,e⟩
  ·rw[e];exact h.r r0 h0
  ·rw[e];exact h.t r0 h0 t ht
 ·obtain⟨r0,h0,rfl⟩:=qeb hr;exact h.t r0 h0 t (qbU.subset ht)
theorem qwf:szF (jq x)<=szF x:=by
 have:∀l:List GRule,(((l.map xm).filter (qbd x.dflt)).map fun r=>3+7*r.tests.length).sum<=(l.map fun r=>3+7*r.tests.length).sum:=fun l=>by
  induction l with
  | nil=>exact Nat.le_refl _
  | cons r l ih =>
   have hl:=(qbU (r:=r)).length_le;rw[List.map_cons,List.filter_cons];split
   ·simp only[List.map_cons,List.sum_cons];omega
   ·simp only[List.map_cons,List.sum_cons];omega
 have:=this x.rules;exact Nat.add_le_add_left this 10
theorem qkF{d n:Int}{q:GTest->Bool}:∀{l:List GRule},(∀r ∈ l,∀t ∈ r.tests,t.mask=0->q t=true)->l.Pairwise (fun a b=>a.nr<b.nr)->
  (match ((l.map xm).filter (qbd d)).find? (fun r=>decide (r.nr=n)) with|none=>d|some r=>fnd q r.act r.tests)=(match l.find? (fun r=>decide (r.nr=n)) with|none=>d|some r=>fnd q r.act r.tests)
 | [],_,_=>rfl
 | r::l,h,hp=>by
  obtain⟨p1,p2⟩:=List.pairwise_cons.1 hp;have hr:=qto (h r (List.mem_cons_self ..));have ih:=qkF (d:=d) (n:=n) (q:=q) (l:=l) (fun y hy=>h y (List.mem_cons_of_mem _ hy)) p2
  rw[List.map_cons,List.filter_cons,List.find?_cons]
  by_cases hn:r.nr=n
  ·have no:((l.map xm).filter (qbd d)).find? (fun r=>decide (r.nr=n))=none:=by
    refine List.find?_eq_none.2 fun y hy=>?_
    obtain⟨y1,_⟩:=List.mem_filter.1 hy;obtain⟨z,hz,rfl⟩:=List.mem_map.1 y1;have:=p1 z hz;rw[qjN];simp;omega
   simp only[hn,decide_true]
   by_cases hk:qbd d (xm r)=true
   ·rw[if_pos hk,List.find?_cons];simp only[qjN,hn,decide_true];exact hr
   ·rw[if_neg hk,no];simp only[qbd,Bool.or_eq_true,decide_eq_true_eq] at hk;have h0:(xm r).tests=[]:=List.eq_nil_of_length_eq_zero (by omega);have h1:(xm r).act=d:=Decidable.byContradiction fun z=>hk (.inr z)
    rw[h0,h1,qi0] at hr;exact hr
  ·simp only[hn,decide_false]
   by_cases hk:qbd d (xm r)=true
   ·rw[if_pos hk,List.find?_cons];simp only[qjN,hn,decide_false];exact ih
   ·rw[if_neg hk];exact ih
theorem qtn(h:FilG x)(hp:x.rules.Pairwise fun a b=>a.nr<b.nr){d:GData}(hd:DatOk d):qiG (jq x) d=qiG x d:=by
 rw[qhg,qhg];rw[show (jq x).arch=x.arch from rfl]
 by_cases hc:(ofM d.arch d.nr).2=false∨(ofM d.arch d.nr).1≠x.arch
 ·rw[if_pos hc,if_pos hc]
 ·rw[if_neg hc,if_neg hc];refine qkF (fun r hr t ht h0=>?_) hp
  have hg:=h.ts r hr t ht
  have hv:t.val=0:=by
   have:=hg.sub;rw[h0] at this;have e:=qcR (a:=t.val.toNat) (b:=0) (by have:=hg.ok.v1;omega) (by decide)
   rw[Int.toNat_of_nonneg hg.ok.v0] at e;rw[← this];simpa using e
  have ha:=qlh hd hg.ok.a0 hg.ok.a1;have e:=qcR (a:=(qlg d t.arg).toNat) (b:=0) (by omega) (by decide);rw[Int.toNat_of_nonneg ha.1] at e;unfold qbL;rw[h0,hv];simp only[hg.ok.a0,hg.ok.a1,decide_true,Bool.true_and,decide_eq_true_eq];simpa using e
end
structure PrgT (p:List Ins) (n:Nat) (den:GData->Int):Prop where
 good:PrgGood p
 um:qfH p=[]
 ud:qDB p=[]
 len:p.length<=3*n
 tells:∀d,DatOk d->(qej p d).1=den d∧(qej p d).2.2.2=0
def qko(a:List Ins×Int)(n:Nat)(den:GData->Int):Prop:=(a.2=270∧a.1=[]∧1365<n)∨(a.2=0∧PrgT a.1 n den)
theorem qlG{l:List Sy}{n:Nat}{den:GData->Int}(h:MayL l)(hr:qaT l)(hl:l.length<=n)(he:∀d,DatOk d->Ev l d 0 0 (den d)):qko (zB l) n den:=by
 have h3:=qsY (l:=l);unfold zB
 by_cases hb:4096<(xl l).length
 ·rw[if_pos hb];exact .inl ⟨rfl,rfl,by omega⟩
 ·rw[if_neg hb];have hu:=qs0 h hr;exact .inr ⟨rfl,qqj h hr (by omega),hu.1,hu.2,by simp only;omega,fun d hd=>qqm h (he d hd)⟩
section
variable {x:GFil}
theorem qrR(hK:xB x=true)(hR:FilR x)(hU:FilU x):qko (qeN x) (szF x) (qiG x):=by
 have hG:=FilG.of hK hR;unfold qeN;rw[if_pos hK];exact qlG (qfh hG) (qmy hG hU) (qoE hG) fun d hd=>qoD hG hd 0
theorem qyS(hK:xB x=true)(hR:FilR x)(hU:FilU x):qko (qfg x) (szF x) (qiG x):=by
 have hG:=FilG.of hK hR;have hG2:=FilG.of (qfZ hK) (qlJ hR);have hm:=qfh hG2
 have hp:x.rules.Pairwise fun a b=>a.nr<b.nr:=by
  simp only[xB,Bool.and_eq_true] at hK;exact (ql7.1 hK.2).2.2
 unfold qfg;rw[if_pos hK];refine qlG (qi5 hm) (qo2 (qmy hG2 (qzV hU))) (Nat.le_trans qo1 (Nat.le_trans (qoE hG2) qwf)) fun d hd=>?_
 rw[← qtn hG hp hd];exact qtF hm (qoD hG2 hd 0)
theorem qpn{u v:List Ins×Int}{n:Nat}{den:GData->Int}(hu:qko u n den)(hv:qko v n den):qko (qbw u v) n den:=by
 unfold qbw;split
 ·exact hu
 ·exact hv
theorem qns{u v:List Ins×Int}(h:u.2=0):(qbw u v).2=0∧(qbw u v).1.length<=u.1.length:=by
 unfold qbw;split
 ·exact⟨h,Nat.le_refl _⟩
 ·rename_i hn;have h1:v.2=0:=Decidable.byContradiction fun z=>hn (.inl z)
  have h2:¬u.1.length<v.1.length:=fun z=>hn (.inr ⟨h,z⟩)
  exact⟨h1,by omega⟩
theorem qnT(hK:xB x=true)(hR:FilR x)(hU:FilU x)(o:Bool):qko (qaq x o) (szF x) (qiG x):=by
 unfold qaq;split
 ·exact qpn (qrR hK hR hU) (qyS hK hR hU)
 ·exact qrR hK hR hU
theorem qoA(hK:xB x=false)(o:Bool):qaq x o=([],210):=by
 unfold qaq qeN qfg qbw;simp[hK]
theorem qvl(h:(qaq x false).2=0):(qaq x true).2=0∧(qaq x true).1.length<=(qaq x false).1.length:=by
 unfold qaq at h ⊢;simp only[Bool.false_eq_true,if_false] at h;simp only[if_true,Bool.false_eq_true,if_false];exact qns h
end
end Go.Kc
end
section
namespace Go.Kc
variable {P:Program} {f:Nat}
def qf6(x:GFil):Prop:=x.rules.length<=100000∧∀r ∈ x.rules,r.tests.length<=100000
def qxt(P:Program)(g:Nat):Prop:=∀x,qf6 x->qd P g [.agg (qN x)] (.b (xB x))
def qrx(P:Program)(g:Nat):Prop:=∀x,FilR x->qf6 x->qd P g [.agg (qN x)] (qmc x)
def qow(P:Program)(g:Nat):Prop:=∀l,MayL l->qd P g [.fz l.length (rSy l)] (qg6 l)
def qvb(P:Program)(g:Nat):Prop:=∀l,MayL l->qd P g [.fz l.length (rSy l)] (.tup [.fz (qbC l).length (rSy (qbC l)),.i .i64 0])
def qrA(P:Program)(g:Nat):Prop:=∀x,qf6 x->qd P g [.agg (qN x)] (qpE x)
def qxv(P:Program)(g:Nat):Prop:=∀l:List (Int×Nat),l.length<=100000->(∀y ∈ l,0<=y.1∧y.1<4294967296)->qt5 l->qd P g [.fz l.length (qaD l),.fz l.length (qa3 l),.i .i64 0] (.tup [.fz (zC (pcs 0 l 0)).length (rSp (zC (pcs 0 l 0))),.i .i64 0])
def qxw(P:Program)(g:Nat):Prop:=∀l:List Sp,l.length<=400000->0<l.length->SpR l->qd P g [.fz l.length (rSp l)] (qop l)
theorem qEM{g1 g2 g3 h1:Nat}(hc:qc P f (qgL g1 g2)=true)(hp:qc P g1 (qc2 g3)=true)(hm:qc P g2 (qc1 h1)=true)(hm1:qc P h1 xY=true)(hp1:qc P g3 qbS=true):qxv P f:=fun l hl hr hu =>
 qAU hc l 0 (qqM hp l 0) (qnb hm hm1 hp1 l 0 hl hr) hl hu
theorem qEP{g1 g2:Nat}(hc:qc P f (qdG g1 g2)=true)(h1:qc P g1 qdF=true)(h2:qc P g2 jo=true):qxw P f:=fun l hl h0 hr =>
 qqZ hc h2 l (qok h1 l (by omega) hr) hl h0
theorem qD4{g gl gp gj gh gr go gb gR gd gt gH gA gB gC gD gM gS gT:Nat}(hc:qc P f (qez gM go gS gT gb gh gr gR gd)=true)(E:EFn P g gl gp gj gh gr go gb gR gd gt gH gA gB gC gD)(hM:qxt P gM)(hS:qxv P gS)(hT:qxw P gT):qrx P f:=fun x hR hL =>
 qp2 hc E x hR (hM x hL) fun hK=>by
  have hG:=FilG.of hK hR;have hd:=hG.dfl;have hn:=hG.n;have hs:=hG.spans;have hT:=hT (zC (pcs 0 (qH x.rules) 0)) (by have:=hs.2.2.2.2;omega) hG.pos (qhW hs.1 (Int.le_refl 0) (Int.le_refl _))
  unfold qop at hT;rw[if_pos (qkC hs.1)] at hT;refine⟨by have:=hd.1;omega,by have:=hd.2;omega,hG.tne,hG.nodes,hS (qH x.rules) (by rw[qaC];omega) (fun y hy=>?_) (qlb hG.ups),hT⟩
  obtain⟨i,hi⟩:=List.getElem?_of_mem hy;rw[qcI] at hi;obtain⟨r,hr,rfl⟩:=Option.map_eq_some_iff.1 hi;exact hR.nr r (zzM hr)
theorem qEf{g1 g2 gM gB gi go:Nat}(hc:qc P f (qeB g1 g2)=true)(h1:qc P g1 (qc0 gM gB go)=true)(h2:qc P g2 zA=true)(hM:∀l,MayL l->qd P gM [.fz l.length (rSy l)] (.b true))
  (hB1:∀l:List Sy,qd P gB [.fz l.length (rSy l)] (.fn gi [] [.pf [.fz l.length (rSy l)] 0])) (hi1:qc P gi qA=true) (ho:qva P go):qow P f:=fun l hl =>
 qql hc l (by have:=hl.big;omega) (fun k hk=>qqo h1 l (hM l hl) hB1 hi1 ho (by have:=hl.big;omega) hl.hin hk) fun s b tr p hp k hb hk=>qoc h2 p hp hb hk
theorem qE1{gD gO gP gB gi:Nat}(hc:qc P f (qaZ gD gP gO)=true)(hD:qc P gD z9=true)(hO:cOf P gO)(hP:qc P gP (ji gB)=true)
  (hB:∀l:List Ins,qd P gB [.fz l.length (rP l)] (.fn gi [] [.pf [.fz l.length (rP l)] 0])) (hi:qc P gi qG=true):qva P f:=fun kb n s bb bp back pl tr far k h x hb hj hk =>
 qz6 hc hD hO hP hB hi h x hb hj hk
theorem qE2{g1 g2 gM gs gt gl s1 s2 t1 t2 ti v1 v2 h1 h2 h3:Nat}(hc:qc P f (qgK g1 g2)=true)(hp:qc P g1 (qdD gs gt gl)=true)(hd:qc P g2 (qfr gM)=true)(hM:∀l,MayL l->qd P gM [.fz l.length (rSy l)] (.b true))
  (hs:qc P gs (qdE s1 s2)=true) (hs1:qc P s1 qck=true) (hm:qc P s2 (xG h1 h2 h3)=true) (c1:qcT P h1 4 24) (c2:cOf P h2) (c3:qfc P h3)
  (ht:qc P gt (qcl h1 t1 t2 s2 h3)=true) (ht1:qc P t1 qai=true) (hB:∀l:List Sy,qd P t2 [.fz l.length (rSy l)] (.fn ti [] [.pf [.fz l.length (rSy l)] 0])) (hi:qc P ti qA=true)
  (hl:qc P gl (qdC v1 v2 s2)=true) (hv1:qc P v1 (qeC h2 h3)=true) (hv2:qc P v2 qaR=true):qvb P f:=fun l h=>by
 have m1:=qhM h;have m2:=qje m1;have b0:=h.big;have b1:=m1.big;have b2:=m2.big
 exact qtG hc (qne hp) l (qbC l) (qwC hd l (qek l) (qlZ (qek l)) (qbC l) (hM l h) (qnq hs hs1 hm c1 c2 c3 l (by omega) h.in)
  (qku ht c1 ht1 hB hi hm c1 c2 c3 c3 (qek l) (by omega) m1.in) (qm2 hl hv2 hm c1 c2 c3 (qlZ (qek l)) (qnE hv1 c2 c3 _ (by omega) m2.pos m2.in m2.on) (by omega) m2.in))
theorem qEi{g1 g2:Nat}(hc:qc P f (qeA g1 g2)=true)(hM:qxt P g1)(h2:∀r:GRule,r.tests.length<=100000->qd P g2 [.agg (zc r)] (.agg (zc (xm r)))):qrA P f:=fun x hL =>
 ql9 hc x (hM x hL) h2 hL.1 hL.2
theorem qzU{x:GFil}(h:qf6 x):qf6 (jq x):=by
 refine⟨?_,fun r hr=>?_⟩
 ·have:=List.length_filter_le (qbd x.dflt) (x.rules.map xm);rw[List.length_map] at this;exact Nat.le_trans this h.1
 ·obtain⟨r0,h0,rfl⟩:=qeb hr;exact Nat.le_trans qbU.length_le (h.2 r0 h0)
theorem qCv{gE gN gO gL:Nat}(hE:qrx P gE)(hN:qrA P gN)(hO:qvb P gO)(hL:qow P gL){x:GFil}(hR:FilR x)(hl:qf6 x):CmpFn P gE gN gO gL x where
 em:=hE x hR hl
 nm:=hN x hl
 lk:=fun hK=>hL _ (qfh (FilG.of hK hR))
 em2:=fun _=>hE _ (qlJ hR) (qzU hl)
 ok2:=qfZ
 op:=fun hK=>hO _ (qfh (FilG.of (qfZ hK) (qlJ hR)))
 lk2:=fun hK=>hL _ (qi5 (qfh (FilG.of (qfZ hK) (qlJ hR))))
def qmn(P:Program)(g:Nat):Prop:=∀x,FilR x->qf6 x->∀o:Bool,qd P g [.agg (qN x),.b o] (.tup [.fz (qaq x o).1.length (rP (qaq x o).1),.i .i64 (qaq x o).2])
theorem qD2{gd gwN gwE gwO gwL gs gE gN gO gL:Nat}(hc:qc P f (qaY gwE gwL gd gwN gwO gs)=true)(hd:qc P gd qF=true)(hN:qc P gwN (zL gN)=true)(hE:qc P gwE (zG gE)=true)(hO:qc P gwO (qU gO)=true)(hL:qc P gwL (qE gL)=true)
  (hs:qc P gs xt=true) (c1:qrx P gE) (c2:qrA P gN) (c3:qvb P gO) (c4:qow P gL):qmn P f:=fun x hR hl o =>
 qlr hc hd hN hE hO hL (fun u v x y hx hy=>qhK hs u v x y hx hy) (qCv c1 c2 c3 c4 hR hl) o
structure FilB (x:GFil):Prop where
 l:x.rules.length<=4398046511104
 t:∀r ∈ x.rules,r.tests.length<=4398046511104
def qkq:Nat->List GRule->Bool
 | _,[]=>false
 | n,r::l=>if 1000<n+1+r.tests.length then true else qkq (n+1+r.tests.length) l
theorem qoM:∀{l:List GRule} {n:Nat},n<=1000->qkq n l=false->n+l.length<=1000∧∀r ∈ l,r.tests.length<=1000
 | [],n,h,_=>⟨by simpa using h,fun r hr=>by cases hr⟩
 | r::l,n,_,h=>by
  unfold qkq at h;split at h
  ·cases h
  ·rename_i hn;obtain⟨h1,h2⟩:=qoM (by omega) h;refine⟨by simp only[List.length_cons];omega,fun y hy=>?_⟩
   rcases List.mem_cons.1 hy with rfl|hy
   ·omega
   ·exact h2 y hy
theorem qt8{rs:List GRule}{j:Nat}{r:GRule}(h:rs[j]?=some r):(rR rs)[j*3+1]?=some (.fz r.tests.length (rT r.tests)):=by
 have:=qbm (f:=zc) (m:=3) qaz h (i:=1) (by omega);rw[show rs.flatMap zc=rR rs from rfl] at this
 simpa[zc] using this
def qba:IFn:=⟨[.tmp 2],.seq (.r [.q 1 (.box (.t 0)),.m 2 .F]) (.seq (.r [.m 3 (.k 0)]) (.seq (.seq (.r [.m 4 (.k 0)]) (.blk 0 (.loop (.seq (.seq (.r [.n 5 4,.f 6 1 1,.d 7 6,.e 8 7,.s 9 5 8]) (.cond (.t 9) (.skip) (.exit 0))) (.seq (.blk 1 (.seq (.r [.n 12 3,.a 13 12 1,.f 14 1 1,.d 15 14,.n 16 4,.i 17 3 15 16,.f 18 1 17,.d 19 18,.e 20 19,.b 21 .add 13 20,.n 3 21]) (.seq (.r [.n 22 3,.w 23 .gtr 22 1000]) (.cond (.t 23) (.seq (.r [.m 2 .T]) (.ret)) (.skip))))) (.r [.n 10 4,.a 11 10 1,.n 4 11])))))) (.seq (.r [.m 2 .F]) (.ret))))⟩
theorem qvM(hc:qc P f qba=true)(x:GFil)(hx:FilB x):qd P f [.agg (qN x)] (.b (qkq 0 x.rules)):=by
 refine qd.mk hc (by simp[qw,clo,qN,xI]) ?_;simp only[qba,qN,vI,simprocAttr];simp +decide only[↓vS,vT,simprocAttr];refine SL.loopP (α:=Nat×Nat) (fun s=>[(1,.ptr 0 0),(3,.i .i64 (s.2:Int)),(4,.i .i64 (s.1:Int))]) (fun s h=>s.1<=x.rules.length∧s.2<=1000∧qkq s.2 (x.rules.drop s.1)=qkq 0 x.rules∧∃n tr,h=⟨n,0,tr⟩∧tr.get 0=some (.cells 0 true false [.i .i64 x.arch,.fz x.rules.length (rR x.rules),.i .u32 x.dflt])) (fun s=>x.rules.length-s.1) ?_ (0,0) ?_ ?_
 ·rintro⟨j,n⟩ h ⟨hj,hn,hI,s,tr,rfl,t0⟩ G ih;simp only at hj hn hI;simp only[vI,simprocAttr];have hxl:=hx.l
  by_cases hlt:j<x.rules.length
  ·obtain⟨r,hr⟩:∃r,x.rules[j]?=some r:=⟨_,zzE hlt⟩;have hrt:=hx.t r (zzM hr);have g1:=qt8 hr;have hw1:IntKind.wrap .i64 ((j:Int)+1)=((j+1:Nat):Int):=by rw[qu (by omega) (by omega)];simp
   have hw2:IntKind.wrap .i64 ((n:Int)+1)=((n+1:Nat):Int):=by rw[qu (by omega) (by omega)];simp
   have hw3:IntKind.wrap .i64 (((n+1:Nat):Int)+(r.tests.length:Int))=((n+1+r.tests.length:Nat):Int):=by rw[qu (by omega) (by omega)];simp
   have hdr:x.rules.drop j=r::x.rules.drop (j+1):=by rw[← (zzS.1 hr).2,List.getElem_cons_drop]
   rw[hdr,qkq] at hI
   by_cases hg:1000<n+1+r.tests.length
   ·have hg':(1000:Int)<((n+1+r.tests.length:Nat):Int):=by omega
    rw[if_pos hg] at hI;simp +decide only[↓vS,vT,simprocAttr,t0,hlt,g1,hw1,hw2,hw3,hg'];simp[vZ,← hI]
   ·have hg':¬(1000:Int)<((n+1+r.tests.length:Nat):Int):=by omega
    rw[if_neg hg] at hI;simp +decide only[↓vS,vT,simprocAttr,t0,hlt,g1,hw1,hw2,hw3,hg'];exact ih (j+1,n+1+r.tests.length) _ _ (by simp only;omega) (by simp[qf,qh,Tr.get_set]) ⟨by simp only;omega,by simp only;omega,hI,s,tr,rfl,t0⟩
  ·have hd:x.rules.drop j=[]:=List.drop_eq_nil_of_le (by omega);rw[hd,qkq] at hI;simp +decide only[↓vS,vT,simprocAttr,t0,hlt];simp[vZ,← hI]
 ·simp[qf,qh,Tr.get_set]
 ·exact⟨Nat.zero_le _,by simp,rfl,1,_,rfl,by simp[Tr.get_set]⟩
def szT(rs:List GRule):Nat:=(rs.map fun r=>3+7*r.tests.length).sum
theorem quj{rs:List GRule}{r:GRule}:szT (rs++[r])=szT rs+(3+7*r.tests.length):=by simp[szT]
theorem qui:∀{rs:List GRule},(∀r ∈ rs,r.tests.length<=100000)->szT rs<=rs.length*700003
 | [],_=>by simp[szT]
 | r::rs,h=>by
  have h1:=h r (List.mem_cons_self ..);have h2:=qui (rs:=rs) fun y hy=>h y (List.mem_cons_of_mem _ hy)
  simp only[szT,List.map_cons,List.sum_cons,List.length_cons] at h2 ⊢;omega
theorem qDw{x:GFil}:szF x=10+szT x.rules:=rfl
def qeV:IFn:=⟨[.tmp 2],.seq (.r [.q 1 (.box (.t 0)),.m 2 (.k 0)]) (.seq (.r [.m 3 (.k 10)]) (.seq (.seq (.r [.f 6 1 1,.d 7 6,.e 8 7,.m 9 (.k 0)]) (.blk 0 (.loop (.seq (.r [.s 10 9 8]) (.seq (.cond (.t 10) (.skip) (.exit 0)) (.seq (.blk 1 (.seq (.r [.i 11 3 7 9,.v 12 3 11,.q 5 (.alloc [.i .u32 0,.nils,.i .u32 0]),.u (.store 3 (.t 5) (.t 12))]) (.r [.n 13 3,.f 14 1 5,.d 15 14,.e 16 15,.q 17 (.bin .mul (.k 7) (.t 16)),.q 18 (.bin .add (.k 3) (.t 17)),.b 19 .add 13 18,.n 3 19]))) (.r [.a 20 9 1,.n 9 20]))))))) (.seq (.r [.n 21 3,.n 2 21]) (.ret))))⟩
theorem qBM(hc:qc P f qeV=true)(x:GFil)(hx:qf6 x):qd P f [.agg (qN x)] (.i .i64 (szF x:Int)):=by
 refine qd.mk hc (by simp[qw,clo,qN,xI]) ?_;simp only[qeV,qN,vI,simprocAttr];simp +decide only[↓vS,vT,simprocAttr];refine SL.loopP (α:=Nat) (fun j=>[(3,.i .i64 ((10+szT (x.rules.take j):Nat):Int)),(7,.fz x.rules.length (rR x.rules)),(8,.i .i64 (x.rules.length:Int)),(9,.i .i64 (j:Int))]) (fun j h=>j<=x.rules.length∧h.fl=0) (fun j=>x.rules.length-j) ?_ 0 ?_ ?_
 ·rintro j ⟨s,fl,tr⟩ ⟨hj,rfl⟩ G ih;simp only[vI,simprocAttr];have hxl:=hx.1;have hle:=qui (rs:=x.rules.take j) fun r hr=>hx.2 r (List.mem_of_mem_take hr)
  rw[List.length_take] at hle
  by_cases hlt:j<x.rules.length
  ·have hlt':(j:Int)<x.rules.length:=by omega
   obtain⟨r,hr⟩:∃r,x.rules[j]?=some r:=⟨_,zzE hlt⟩;have hrt:=hx.2 r (zzM hr);have hel:=qlQ hr;have h3:j*3+3<=(rR x.rules).length:=by rw[qlR];omega
   have hw1:IntKind.wrap .i64 ((j:Int)+1)=((j+1:Nat):Int):=by rw[qu (by omega) (by omega)];simp
   have hw2:IntKind.wrap .i64 (7*(r.tests.length:Int))=7*(r.tests.length:Int):=qu (by omega) (by omega);have hw3:IntKind.wrap .i64 (3+7*(r.tests.length:Int))=3+7*(r.tests.length:Int):=qu (by omega) (by omega);have hT:=quj (rs:=x.rules.take j) (r:=r);rw[← qaF hr] at hT;have hw4:IntKind.wrap .i64 (((10+szT (x.rules.take j):Nat):Int)+(3+7*(r.tests.length:Int)))=((10+szT (x.rules.take (j+1)):Nat):Int):=by rw[qu (by omega) (by omega),hT];omega
   simp +decide only[↓vS,vT,simprocAttr,hlt',hlt,h3,hel,zc,hw1,hw2,hw3,hw4];exact ih (j+1) _ _ (by omega) (by simp[qf,qh,Tr.get_set]) ⟨by omega,rfl⟩
  ·have hlt':¬(j:Int)<x.rules.length:=by omega
   obtain rfl:j=x.rules.length:=by omega
   simp +decide only[↓vS,vT,simprocAttr,hlt',hlt];simp[vZ,qDw]
 ·simp[qf,qh,Tr.get_set,szT]
 ·exact⟨Nat.zero_le _,rfl⟩
theorem SC.args{vs vs':List AV}{h:Hp}{k:AV->Hp->Prop}(hs:SC P f vs' h k)(ha:∀(ρ:Ren) (a:List Value),VRs σ0 ρ vs a->VRs σ0 ρ vs' a):SC P f vs h k :=
 ⟨hs.1,fun ρ B w args r hv=>hs.2 ρ B w args r (ha ρ _ hv)⟩
theorem qsd{a d:Int}{vs:List AV}{ρ:Ren}{as:List Value}(h:VRs σ0 ρ (.agg [.i .i64 a,.nils,.i .u32 d]::vs) as):VRs σ0 ρ (.agg (qN ⟨a,[],d⟩)::vs) as:=by
 cases h with
 | cons _ _ _ _ h1 hs =>
  refine .cons _ _ _ _ ?_ hs;cases h1 with
  | agg _ arr h1 =>
   obtain⟨l⟩:=arr;refine .agg _ _ ?_;change VRs σ0 ρ _ l at h1;change VRs σ0 ρ _ l;cases h1 with
   | cons _ _ _ _ q1 h1 =>
    cases h1 with
    | cons _ _ _ _ q2 h1 =>
     refine .cons _ _ _ _ q1 (.cons _ _ _ _ ?_ h1);cases q2 with
     | nils=>exact .fz0 none
theorem qd.filNil{a d:Int}{vs:List AV}{v:AV}(h:qd P f (.agg (qN ⟨a,[],d⟩)::vs) v):qd P f (.agg [.i .i64 a,.nils,.i .u32 d]::vs) v:=fun hp k hk =>
 SC.args (h hp k hk) fun _ _=>qsd
def qbc(a:Nat):IFn:=⟨[.tmp 6],.seq (.r [.q 4 (.box (.t 1)),.m 6 .F]) (.seq (.r [.n 11 0,.v 12 9 4,.l 13 a [.t 11,.t 12],.n 10 13,.x 14 10 0,.x 15 10 1,.x 16 10 2,.n 7 14,.n 8 15,.n 9 16]) (.seq (.r [.n 17 9,.w 18 .eql 17 0,.n 19 18,.y 20 7 19,.y 21 2 19,.g 22 (.bin .eql (.t 20) (.t 21)) 19 true,.p 23 19 22,.n 6 23]) (.ret)))⟩
theorem qDU{g:Nat}(hc:qc P f (qbc g)=true)(hg:qox P g)(p:List Ins)(hp:PrgGood p)(d:GData)(hd:DatOk d)(w:Int)(h1:(qej p d).1=w):qd P f [.fz p.length (rP p),.agg (qT d),.i .u32 w] (.b true):=by
 obtain⟨n,h⟩:=hg p hp d hd;rw[h1] at h;refine qd.mk hc (by simp[qw,clo,qv,qll]) ?_;simp only[qbc,qT,vI,simprocAttr] at h ⊢;simp +decide only[↓vS,vT,simprocAttr];refine h.sc ?_;simp +decide only[↓vS,vT,simprocAttr];simp[vZ]
section
variable {g1 g2 g3:Nat}
end
noncomputable def qh3(l:List Sy)(e:Int):List Ins×Int:=if e=0 then zB l else ([],e)
noncomputable def qiI(l:List Sy)(e:Int):List Ins×Int:=if e=0 then zB (qbC l) else ([],e)
noncomputable def qly(l:List Sy)(e:Int)(o:Bool):List Ins×Int:=if o=true then qbw (qh3 l e) (qiI l e) else qh3 l e
structure GrdFn (P:Program) (gG gO gL:Nat) (ar:AV) (l:List Sy) (e:Int):Prop where
 gu:qd P gG [ar] (.tup [.fz l.length (rSy l),.i .i64 e])
 lk:e=0->qd P gL [.fz l.length (rSy l)] (qg6 l)
 op:e=0->qd P gO [.fz l.length (rSy l)] (.tup [.fz (qbC l).length (rSy (qbC l)),.i .i64 0])
 lk2:e=0->qd P gL [.fz (qbC l).length (rSy (qbC l))] (qg6 (qbC l))
section
variable {gG gO gL b s:Nat} {tr:Tr Blk} {k:AV->Hp->Prop} {ar:AV} {l:List Sy} {er:Int}
def zF:List AV:=[.i .i64 0,.nils,.i .u32 0]
theorem qm1{m:List Sy}(h:(zB m).2≠0):(zB m).1=[]:=by
 unfold zB at h ⊢;split at h
 ·rename_i h2;rw[if_pos h2]
 ·exact absurd rfl h
theorem qsw{gd gwG gwL bx:Nat}{e:Nat}{wf a:Bool}(hc:qc P gd qF=true)(hG:qc P gwG (zz gG)=true)(hL:qc P gwL (qE gL)=true)(C:GrdFn P gG gO gL ar l er)
  (hx:tr.get bx=some (.cells e wf a [.fn gwG [.ptr b 0] [],.fn gwL [.ptr b 0] []])) (hbx:bx≠b) (h0:tr.get b=some (WkB zF ar .nils .nils))
  (hk:∀v tr2,qg3 v (qh3 l er).1->(∀c,c≠b->tr2.get c=tr.get c)->k (.tup [v,.i .i64 (qh3 l er).2]) ⟨s,0,tr2⟩):SC P gd [.ptr b 0,.sl bx 0 2 2 false] ⟨s,0,tr⟩ k:=by
 have hG':=C.gu
 by_cases hz:er=0
 ·have hL':=C.lk hz;rw[qiQ] at hL';have e1:qh3 l er=zB l:=by unfold qh3;rw[if_pos hz]
  rw[e1] at hk
  refine qfJ hc [gwG,gwL] (by simpa using hx) hbx (fun i=>if i=0 then WkB zF ar .nils .nils else if i=1 then WkB zF ar (.fz l.length (rSy l)) .nils else WkB zF ar (.fz l.length (rSy l)) (.fz (zB l).1.length (rP (zB l).1)))
   (fun i=>if i=0 then 0 else if i=1 then er else (zB l).2) 2 rfl (by omega) h0 rfl ?_ ?_ ?_
  ·intro i g s' tr' k' hg hj hB hk';have hi:i<2:=by have:=(zzS.1 hg).1;simpa using this
   have hi2:i=0∨i=1:=by omega
   rcases hi2 with rfl|rfl
   ·simp at hg;subst hg;exact qf5 hG zF rfl hB _ _ qh2 hG' hk'
   ·simp at hg;subst hg;exact qeL hL zF rfl hB _ _ qh2 hL' hk'
  ·intro i tr2 hf hv hj;have h0':i≠0:=fun h=>hv (by simp[h])
   have h1':i≠1:=fun h=>hv (by simp[h,hz])
   simp only[if_neg h0',if_neg h1'] at hv ⊢;exact hk _ _ (.inr ⟨rfl,qm1 hv⟩) hf
  ·intro tr2 hf hj hB;have hz2:=hj 2 (by omega);simp at hz2;refine⟨zF,ar,_,_,rfl,rfl,?_⟩;have:=hk (.fz (zB l).1.length (rP (zB l).1)) tr2 (.inl rfl) hf;rw[hz2] at this;exact this
 ·have e1:qh3 l er=([],er):=by unfold qh3;rw[if_neg hz]
  rw[e1] at hk;refine qfJ hc [gwG,gwL] (by simpa using hx) hbx (fun i=>if i=0 then WkB zF ar .nils .nils else WkB zF ar (.fz l.length (rSy l)) .nils) (fun i=>if i=0 then 0 else er) 2 rfl (by omega) h0 rfl ?_ ?_ ?_
  ·intro i g s' tr' k' hg hj hB hk'
   have hi:i=0:=by
    by_cases hi:i=0
    ·exact hi
    ·have:=hj i (Nat.le_refl _);simp[hi] at this;exact absurd this hz
   subst hi;simp at hg;subst hg;exact qf5 hG zF rfl hB _ _ qh2 hG' hk'
  ·intro i tr2 hf hv hj;have hi:i≠0:=fun h=>hv (by simp[h])
   simp only[if_neg hi];exact hk _ _ (.inr ⟨rfl,rfl⟩) hf
  ·intro tr2 _ hj _;have:=hj 1 (by omega);simp at this;exact absurd this hz
theorem qsv{gd gwG gwO gwL bx:Nat}{e:Nat}{wf a:Bool}(hc:qc P gd qF=true)(hG:qc P gwG (zz gG)=true)(hO:qc P gwO (qU gO)=true)(hL:qc P gwL (qE gL)=true)(C:GrdFn P gG gO gL ar l er)
  (hx:tr.get bx=some (.cells e wf a [.fn gwG [.ptr b 0] [],.fn gwO [.ptr b 0] [],.fn gwL [.ptr b 0] []])) (hbx:bx≠b) (h0:tr.get b=some (WkB zF ar .nils .nils))
  (hk:∀v tr2,qg3 v (qiI l er).1->(∀c,c≠b->tr2.get c=tr.get c)->k (.tup [v,.i .i64 (qiI l er).2]) ⟨s,0,tr2⟩):SC P gd [.ptr b 0,.sl bx 0 3 3 false] ⟨s,0,tr⟩ k:=by
 have hG':=C.gu
 by_cases hz:er=0
 ·have hL':=C.lk2 hz;have hO':=C.op hz;have e1:qiI l er=zB (qbC l):=by unfold qiI;rw[if_pos hz]
  rw[e1] at hk;obtain⟨m,hm⟩:∃m,m=qbC l:=⟨_,rfl⟩;rw[← hm] at hL' hO' hk;rw[qiQ] at hL'
  refine qfJ hc [gwG,gwO,gwL] (by simpa using hx) hbx (fun i=>if i=0 then WkB zF ar .nils .nils else if i=1 then WkB zF ar (.fz l.length (rSy l)) .nils else if i=2 then WkB zF ar (.fz m.length (rSy m)) .nils else WkB zF ar (.fz m.length (rSy m)) (.fz (zB m).1.length (rP (zB m).1)))
   (fun i=>if i=0 then 0 else if i=1 then er else if i=2 then 0 else (zB m).2) 3 rfl (by omega) h0 rfl ?_ ?_ ?_
  ·intro i g s' tr' k' hg hj hB hk';have hi:i<3:=by have:=(zzS.1 hg).1;simpa using this
   have hi2:i=0∨i=1∨i=2:=by omega
   rcases hi2 with rfl|rfl|rfl
   ·simp at hg;subst hg;exact qf5 hG zF rfl hB _ _ qh2 hG' hk'
   ·simp at hg;subst hg;exact qki hO zF rfl hB _ _ qh2 hO' hk'
   ·simp at hg;subst hg;exact qeL hL zF rfl hB _ _ qh2 hL' hk'
  ·intro i tr2 hf hv hj;have h0':i≠0:=fun h=>hv (by simp[h])
   have h1':i≠1:=fun h=>hv (by simp[h,hz])
   have h2':i≠2:=fun h=>hv (by simp[h])
   simp only[if_neg h0',if_neg h1',if_neg h2'] at hv ⊢;exact hk _ _ (.inr ⟨rfl,qm1 hv⟩) hf
  ·intro tr2 hf hj hB;have hz2:=hj 3 (by omega);simp at hz2;refine⟨zF,ar,_,_,rfl,rfl,?_⟩;have:=hk (.fz (zB m).1.length (rP (zB m).1)) tr2 (.inl rfl) hf;rw[hz2] at this;exact this
 ·have e1:qiI l er=([],er):=by unfold qiI;rw[if_neg hz]
  rw[e1] at hk;refine qfJ hc [gwG,gwO,gwL] (by simpa using hx) hbx (fun i=>if i=0 then WkB zF ar .nils .nils else WkB zF ar (.fz l.length (rSy l)) .nils) (fun i=>if i=0 then 0 else er) 3 rfl (by omega) h0 rfl ?_ ?_ ?_
  ·intro i g s' tr' k' hg hj hB hk'
   have hi:i=0:=by
    by_cases hi:i=0
    ·exact hi
    ·have:=hj i (Nat.le_refl _);simp[hi] at this;exact absurd this hz
   subst hi;simp at hg;subst hg;exact qf5 hG zF rfl hB _ _ qh2 hG' hk'
  ·intro i tr2 hf hv hj;have hi:i≠0:=fun h=>hv (by simp[h])
   simp only[if_neg hi];exact hk _ _ (.inr ⟨rfl,rfl⟩) hf
  ·intro tr2 _ hj _;have:=hj 1 (by omega);simp at this;exact absurd this hz
def qbQ(a b c d e:Nat):IFn:=⟨[.tmp 4,.tmp 5],.seq (.r [.m 4 .N,.m 5 (.k 0)]) (.seq (.r [.n 12 0,.q 13 (.build [.i .i64 0,.nils,.i .u32 0,.nils,.nils,.nils] [(3,1,(.t 12))]),.q 14 (.box (.t 13)),.n 15 0,.q 16 (.build [.i .i64 0,.nils,.i .u32 0,.nils,.nils,.nils] [(3,1,(.t 15))]),.q 17 (.box (.t 16)),.n 6 14,.n 7 17]) (.seq (.r [.n 19 6,.n 20 6,.q 21 (.mkF a [.t 20] []),.n 22 6,.q 23 (.mkF b [.t 22] []),.q 24 (.buildS 2 [.nilf] [(0,1,(.t 21)),(1,1,(.t 23))]),.l 25 c [.t 19,.t 24],.n 18 25,.x 26 18 0,.x 27 18 1,.n 8 26,.n 9 27]) (.seq (.seq (.r [.n 28 1,.q 29 (.un .not (.t 28))]) (.cond (.t 29) (.seq (.r [.n 30 8,.n 31 9,.n 4 30,.n 5 31]) (.ret)) (.skip))) (.seq (.r [.n 33 7,.n 34 7,.q 35 (.mkF a [.t 34] []),.n 36 7,.q 37 (.mkF d [.t 36] []),.n 38 7,.q 39 (.mkF b [.t 38] []),.q 40 (.buildS 3 [.nilf] [(0,1,(.t 35)),(1,1,(.t 37)),(2,1,(.t 39))]),.l 41 c [.t 33,.t 40],.n 32 41,.x 42 32 0,.x 43 32 1,.n 10 42,.n 11 43]) (.seq (.r [.n 44 8,.n 45 9,.n 46 10,.n 47 11,.l 48 e [.t 44,.t 45,.t 46,.t 47],.x 49 48 0,.x 50 48 1,.n 4 49,.n 5 50]) (.ret))))))⟩
theorem qnZ{gd gwG gwO gwL gs:Nat}(hc:qc P f (qbQ gwG gwL gd gwO gs)=true)(hd:qc P gd qF=true)(hG:qc P gwG (zz gG)=true)(hO:qc P gwO (qU gO)=true)(hL:qc P gwL (qE gL)=true)
  (hs:qc P gs xt=true) (har:clo ar=true∧zf ar=true∧qcg ar=true∧cellsOf ar=[ar]) (C:GrdFn P gG gO gL ar l er) (o:Bool) :
  qd P f [ar,.b o] (.tup [.fz (qly l er o).1.length (rP (qly l er o).1),.i .i64 (qly l er o).2]):=by
 obtain⟨a1,a2,a3,a4⟩:=har;refine qd.mk hc (by simp[qw,Go.Kc.clo,a1]) ?_;simp only[qbQ,vI,simprocAttr];simp +decide only[↓vS,vT,simprocAttr,a2,a3,a4];refine qsw hd hG hL C (b:=0) (bx:=2) (by simp[Tr.get_set];exact⟨rfl,rfl,rfl⟩) (by decide) (by simp[Tr.get_set,WkB,zF]) fun v tr2 hv hf=>?_
 cases o with
 | false =>
  simp +decide only[↓vS,vT,simprocAttr,qly];simp[vZ];exact hv.frz
 | true =>
  simp +decide only[↓vS,vT,simprocAttr,qly];refine qsv hd hG hO hL C (b:=1) (bx:=3) (by simp[Tr.get_set];exact⟨rfl,rfl,rfl⟩) (by decide) (by rw[Tr.get_set,if_neg (by decide),hf 1 (by decide)];simp[Tr.get_set,WkB,zF]) fun w tr3 hw _=>?_
  obtain⟨z,hz1,hz2⟩:=qhK hs (qh3 l er) (qiI l er) v w hv hw;simp +decide only[↓vS,vT,simprocAttr];refine hz2.sc ?_;simp +decide only[↓vS,vT,simprocAttr];simp[vZ];exact⟨hz1.frz,rfl⟩
end
end Go.Kc
end
section
namespace Go.Kc
section
variable {x:GFil} {n:Int}
end
end Go.Kc
end
section
namespace Go.Kc
variable {P:Program} {f:Nat}
def fL:GFil:=⟨0,[],2147221504⟩
def f9:GFil:=⟨9,[],0⟩
def t0G:GTest:=⟨0,0,0,0⟩
def fG:GFil:=⟨0,[⟨0,[t0G,t0G],0⟩],0⟩
theorem qEb:xB fL=true:=by
 have:knA 2147221504=true:=by decide
 simp[xB,fL,upR,this]
theorem qD9:xB f9=false:=by simp[xB,f9]
theorem qti{a d:Int}:FilR ⟨a,[],d⟩:=⟨fun r hr=>(by cases hr),fun r hr=>(by cases hr)⟩
theorem qC6{a d:Int}(h:0<=d∧d<=4294967295):FilU ⟨a,[],d⟩:=⟨h,fun r hr=>(by cases hr),fun r hr=>(by cases hr)⟩
theorem qth{a d:Int}:qf6 ⟨a,[],d⟩:=⟨Nat.zero_le _,fun r hr=>(by cases hr)⟩
def dA(t:Int):GData:=⟨0,t,0,0,0,0,0,0,0⟩
theorem qxD{t:Int}(h:0<=t∧t<=4294967295):DatOk (dA t):=⟨Int.le_refl 0,show (0:Int)<=4294967295 by decide,h.1,h.2,fun x hx=>by
 simp only[qkv,dA,List.mem_cons,List.not_mem_nil,or_false,or_self] at hx;subst hx;exact⟨by decide,by decide⟩⟩
theorem qlw:qiG fL (dA 3221225534)=2147221504∧qiG fL (dA 1073741827)=2147418112:=by
 have e1:ofM 3221225534 0=(0,true):=by decide
 have e2:ofM 1073741827 0=(1,true):=by decide
 constructor<;>rw[qhg]<;>simp[fL,dA,e1,e2]
def qbb(a b c d:Nat):IFn:=⟨[.tmp 0],.seq (.r [.m 0 .F]) (.seq (.r [.q 13 (.build [.i .i64 0,.nils,.i .u32 0] [(0,1,(.k 0)),(2,1,(.c (.i .u32 2147221504)))]),.q 1 (.alloc [.i .i64 0,.nils,.i .u32 0]),.u (.store 3 (.t 1) (.t 13))]) (.seq (.r [.q 14 (.mkS 4 32 [.i .i64 0,.i .u64 0,.i .u64 0,.i .u32 0] (.k 2) (.k 2)),.q 15 (.build [.i .u32 0,.nils,.i .u32 0] [(1,1,(.t 14))]),.q 16 (.buildS 1 [.i .u32 0,.nils,.i .u32 0] [(0,3,(.t 15))]),.q 17 (.build [.i .i64 0,.nils,.i .u32 0] [(1,1,(.t 16))]),.q 2 (.alloc [.i .i64 0,.nils,.i .u32 0]),.u (.store 3 (.t 2) (.t 17))]) (.seq (.r [.v 19 3 1,.l 20 a [.t 19,.F],.n 18 20,.x 21 18 0,.x 22 18 1,.n 3 21,.n 4 22]) (.seq (.r [.v 24 3 1,.l 25 a [.t 24,.T],.n 23 25,.x 26 23 0,.x 27 23 1,.n 5 26,.n 6 27]) (.seq (.r [.q 29 (.build [.i .i64 0,.nils,.i .u32 0] [(0,1,(.k 9))]),.l 30 a [.t 29,.T],.n 28 30,.x 31 28 0,.x 32 28 1,.n 7 31,.n 8 32]) (.seq (.r [.l 34 b [.N,.T],.n 33 34,.x 35 33 0,.x 36 33 1,.n 9 35,.n 10 36]) (.seq (.r [.q 37 (.build [.i .u32 0,.i .u32 0,.i .u64 0,.i .u64 0,.i .u64 0,.i .u64 0,.i .u64 0,.i .u64 0,.i .u64 0] [(1,1,(.c (.i .u32 3221225534)))]),.q 38 (.build [.i .u32 0,.i .u32 0,.i .u64 0,.i .u64 0,.i .u64 0,.i .u64 0,.i .u64 0,.i .u64 0,.i .u64 0] [(1,1,(.c (.i .u32 1073741827)))]),.q 11 (.alloc [.i .u32 0,.i .u32 0,.i .u64 0,.i .u64 0,.i .u64 0,.i .u64 0,.i .u64 0,.i .u64 0,.i .u64 0]),.q 12 (.alloc [.i .u32 0,.i .u32 0,.i .u64 0,.i .u64 0,.i .u64 0,.i .u64 0,.i .u64 0,.i .u64 0,.i .u64 0]),.u (.store 9 (.t 11) (.t 37)),.u (.store 9 (.t 12) (.t 38))]) (.seq (.r [.n 39 4,.w 40 .eql 39 0,.n 41 40,.y 42 6 41,.g 43 (.bin .eql (.t 42) (.k 0)) 41 true,.p 44 41 43,.n 45 44,.y 46 3 45,.g 47 (.loadN 9 (.t 11)) 45 true,⟨(some 48),.callF c [.t 46,.t 47,(.c (.i .u32 2147221504))],(some (45,true))⟩,.p 49 45 48,.n 50 49,.y 51 5 50,.g 52 (.loadN 9 (.t 11)) 50 true,⟨(some 53),.callF c [.t 51,.t 52,(.c (.i .u32 2147221504))],(some (50,true))⟩,.p 54 50 53,.n 55 54,.y 56 3 55,.g 57 (.loadN 9 (.t 12)) 55 true,⟨(some 58),.callF c [.t 56,.t 57,(.c (.i .u32 2147418112))],(some (55,true))⟩,.p 59 55 58,.n 60 59,.y 61 5 60,.g 62 (.loadN 9 (.t 12)) 60 true,⟨(some 63),.callF c [.t 61,.t 62,(.c (.i .u32 2147418112))],(some (60,true))⟩,.p 64 60 63,.n 65 64,.g 66 (.loadN 3 (.t 1)) 65 true,⟨(some 67),.callF d [.t 66],(some (65,true))⟩,.g 68 (.bin .eql (.t 67) (.k 10)) 65 true,.p 69 65 68,.n 70 69,.g 71 (.loadN 3 (.t 2)) 70 true,⟨(some 72),.callF d [.t 71],(some (70,true))⟩,.g 73 (.bin .eql (.t 72) (.k 27)) 70 true,.p 74 70 73,.n 75 74,.y 76 8 75,.g 77 (.bin .eql (.t 76) (.k 210)) 75 true,.p 78 75 77,.n 79 78,.y 80 10 79,.g 81 (.bin .eql (.t 80) (.k 2)) 79 true,.p 82 79 81,.n 0 82]) (.ret)))))))))⟩
theorem qDL{g1 g2 g3 g4:Nat}(hc:qc P f (qbb g1 g2 g3 g4)=true)(h1:qmn P g1)(h2:qd P g2 [.nils,.b true] (.tup [.fz 0 [],.i .i64 2]))
  (h3:∀p,PrgGood p->∀d,DatOk d->∀w:Int,(qej p d).1=w->qd P g3 [.fz p.length (rP p),.agg (qT d),.i .u32 w] (.b true)) (h4:∀x,qf6 x->qd P g4 [.agg (qN x)] (.i .i64 (szF x:Int))):qd P f [] (.b true):=by
 refine qd.mk hc rfl ?_;have c1:=fun o=>h1 fL qti qth o
 have c2:=h1 f9 qti qth true;rw[qoA qD9 true] at c2;have s1:=h4 fL qth;have s2:=h4 fG ⟨by decide,fun r hr=>by simp[fG] at hr;subst hr;decide⟩
 have a1:=fun o=>qnT qEb qti (qC6 ⟨by decide,by decide⟩) o
 have nobig:¬1365<szF fL:=by decide
 have a2:∀o,(qaq fL o).2=0∧PrgT (qaq fL o).1 (szF fL) (qiG fL):=fun o=>(a1 o).resolve_left fun q=>nobig q.2.2
 obtain⟨p1,e1,hq1⟩:∃p e,qaq fL false=(p,e):=⟨_,_,rfl⟩;obtain⟨p2,e2,hq2⟩:∃p e,qaq fL true=(p,e):=⟨_,_,rfl⟩;have b1:=a2 false;have b2:=a2 true;have c1f:=c1 false;have c1t:=c1 true;rw[hq1] at b1 c1f;rw[hq2] at b2 c1t;obtain⟨z1,g1'⟩:=b1;obtain⟨z2,g2'⟩:=b2;simp only at z1 z2 g1' g2';subst z1;subst z2;have x64:=qxD (t:=3221225534) ⟨by decide,by decide⟩
 have x86:=qxD (t:=1073741827) ⟨by decide,by decide⟩
 have t1:=h3 p1 g1'.good _ x64 _ ((g1'.tells _ x64).1.trans qlw.1);have t2:=h3 p2 g2'.good _ x64 _ ((g2'.tells _ x64).1.trans qlw.1);have t3:=h3 p1 g1'.good _ x86 _ ((g1'.tells _ x86).1.trans qlw.2);have t4:=h3 p2 g2'.good _ x86 _ ((g2'.tells _ x86).1.trans qlw.2);simp only[qT,dA] at t1 t2 t3 t4;have c1f:=qd.filNil c1f;have c1t:=qd.filNil c1t;have c2:=qd.filNil c2;have s1:=qd.filNil s1;have q1:szF fL=10:=by decide
 have q2:szF fG=27:=by decide
 rw[q1] at s1;rw[q2] at s2;simp only[qbb,vI,simprocAttr];simp +decide only[↓vS,vT,simprocAttr];refine c1f.sc ?_;simp +decide only[↓vS,vT,simprocAttr];refine c1t.sc ?_;simp +decide only[↓vS,vT,simprocAttr];refine c2.sc ?_;simp +decide only[↓vS,vT,simprocAttr];refine h2.sc ?_;simp +decide only[↓vS,vT,simprocAttr];refine t1.sc ?_;simp +decide only[↓vS,vT,simprocAttr];refine t2.sc ?_;simp +decide only[↓vS,vT,simprocAttr];refine t3.sc ?_;simp +decide only[↓vS,vT,simprocAttr];refine t4.sc ?_;simp +decide only[↓vS,vT,simprocAttr];refine s1.sc ?_;simp +decide only[↓vS,vT,simprocAttr];refine s2.lend ?_ rfl ?_
 ·refine .cons _ _ _ _ (.agg _ _ (.cons _ _ _ _ (.i _ _) (.cons _ _ _ _ ?_ (.cons _ _ _ _ (.i _ _) .nil)))) .nil;refine .sl _ 0 1 1 false _ _ _ 3 _ rfl (by decide) (by decide) (fun h=>by omega) ?_
  refine .cons _ _ _ _ (.i _ _) (.cons _ _ _ _ ?_ (.cons _ _ _ _ (.i _ _) .nil));refine .sl _ 0 2 2 false _ _ _ 8 _ rfl (by decide) (by decide) (fun h=>by omega) ?_
  exact Frzs.self rfl
 simp +decide only[↓vS,vT,simprocAttr];simp[vZ]
def qhN(b:Bool)(i:Nat):Bool:=decide (i≠0∧i≠2)||(b&&decide (i=0))
def gdE(m:Nat->Bool)(b:Bool)(A:Nat):Nat->List Sy
 | 0=>[⟨32,4,0,0⟩]
 | i+1=>gdE m b A i++if (m i&&qhN b i)=true then [⟨21,qcA (i:Int),A,(gdE m b A i).length+1⟩] else []
def gdL(m:Nat->Bool)(b:Bool):Nat->Int
 | 0=>-1
 | i+1=>if (m i && !qhN b i && !b)=true then (i:Int) else gdL m b i
def gdZ(a:Int)(p K A:Nat):List Sy:=[⟨21,qcA a,p+1,K⟩,⟨32,0,0,0⟩,if a=2 then ⟨69,1073741824,A,K⟩ else ⟨69,1073741824,K,A⟩]
def gdK(m:Nat->Bool)(b:Bool):Nat:=(gdE m b 0 6).length+if 0<=gdL m b 6 then 3 else 0
def gdY(m:Nat->Bool)(b:Bool):List Sy:=gdE m b (gdK m b+1) 6++if 0<=gdL m b 6 then gdZ (gdL m b 6) (gdE m b 0 6).length (gdK m b) (gdK m b+1) else []
def gdF(l:List Sy):List Sy:=l++[⟨6,2147483648,0,0⟩]++[⟨6,2147418112,0,0⟩]
def gdR(m:Nat->Bool):List Sy:=gdF (gdY m (m 0&&m 2))
section
variable {m:Nat->Bool} {b:Bool}
theorem qlx{A:Nat}:∀{i:Nat},(gdE m b A i).length=(gdE m b 0 i).length
 | 0=>rfl
 | i+1=>by simp only[gdE,List.length_append,qlx (i:=i)];split<;>rfl
theorem qnX{A:Nat}:∀{i:Nat},(gdE m b A i).length<=1+i
 | 0=>Nat.le_refl _
 | i+1=>by
  have:=qnX (A:=A) (i:=i);simp only[gdE,List.length_append];split<;>simp<;>omega
theorem qoI:∀{i:Nat},-1<=gdL m b i∧gdL m b i<i
 | 0=>⟨Int.le_refl _,by simp only[gdL];decide⟩
 | i+1=>by
  have:=qoI (i:=i);unfold gdL;split<;>omega
theorem qvL{a:Int}{p K A:Nat}:(gdZ a p K A).length=3:=by simp[gdZ]
theorem qvK:(gdY m b).length=gdK m b:=by
 unfold gdY gdK;rw[List.length_append,qlx];split
 ·rw[qvL]
 ·rfl
end
section
variable {g w s gl gp gj gh gr gd g1 g2 g4 g5 g6:Nat} {κ:Nat->Kd} {tr:Tr Blk} {RV:List Sy} {N:List Nat} {k:AV->Hp->Prop}
def qaB(a b c d e g h i j k:Nat):ICode:=.seq (.r [.n 109 4,.n 110 5,.l 111 i [.t 109,.t 110]]) (.seq (.r [.n 112 4,.l 113 j [.t 112,(.c (.i .u32 2147483648))]]) (.seq (.r [.n 114 4,.n 115 6,.l 116 i [.t 114,.t 115]]) (.seq (.r [.n 117 4,.l 118 j [.t 117,(.c (.i .u32 2147418112))]]) (.seq (.r [.n 119 4,.l 120 k [.t 119],.n 2 120,.m 3 (.k 0)]) (.ret)))))
def qbP(a b c d e g h i j k:Nat):ICode:=.seq (.seq (.r [.n 80 8,.w 81 .geq 80 0]) (.cond (.t 81) (.seq (.r [.q 82 (.build [.i .i64 0] []),.q 83 (.box (.t 82)),.n 14 83]) (.seq (.r [.n 85 8,.l 86 g [.t 85],.n 84 86,.x 87 84 0,.x 88 84 1,.n 15 87,.n 16 88]) (.seq (.r [.n 89 4,.n 90 15,.n 91 14,.n 92 5,.l 93 h [.t 89,(.c (.i .u16 21)),.t 90,.t 91,.t 92]]) (.seq (.r [.n 94 4,.n 95 14,.l 96 i [.t 94,.t 95]]) (.seq (.r [.n 97 4,.l 98 c [.t 97,(.c (.i .u32 0))]]) (.seq (.r [.n 99 8,.w 100 .eql 99 2]) (.cond (.t 100) (.r [.n 101 4,.n 102 6,.n 103 5,.l 104 h [.t 101,(.c (.i .u16 69)),(.c (.i .u32 1073741824)),.t 102,.t 103]]) (.r [.n 105 4,.n 106 5,.n 107 6,.l 108 h [.t 105,(.c (.i .u16 69)),(.c (.i .u32 1073741824)),.t 106,.t 107]])))))))) (.skip))) (.cut (qaB a b c d e g h i j k))
def qbO(a b c d e g h i j k:Nat):ICode:=.seq (.seq (.r [.l 38 e [],.e 39 38,.m 40 (.k 0)]) (.blk 0 (.loop (.seq (.r [.s 41 40 39]) (.seq (.cond (.t 41) (.skip) (.exit 0)) (.seq (.blk 1 (.seq (.r [.i 42 1 38 40,.d 43 42,.n 10 43]) (.seq (.seq (.r [.n 44 0,.n 45 10,.l 46 d [.t 44,.t 45],.q 47 (.un .not (.t 46))]) (.cond (.t 47) (.exit 1) (.skip))) (.seq (.r [.n 49 10,.l 50 g [.t 49],.n 48 50,.x 51 48 0,.x 52 48 1,.n 11 51,.n 12 52]) (.seq (.r [.q 53 (.build [.i .i64 0] []),.q 54 (.box (.t 53)),.n 13 54]) (.seq (.seq (.r [.n 55 10,.w 56 .neq 55 0,.n 57 56,.y 58 10 57,.g 59 (.bin .neq (.t 58) (.k 2)) 57 true,.p 60 57 59,.n 61 60,.z 62 7 61,.z 63 62 61,.y 64 10 63,.g 65 (.bin .eql (.t 64) (.k 0)) 63 true,.g 66 (.pick (.t 63) (.t 65) .F) 61 false,.o 67 61 66]) (.cond (.t 67) (.r [.n 68 4,.n 69 11,.n 70 6,.n 71 13,.l 72 h [.t 68,(.c (.i .u16 21)),.t 69,.t 70,.t 71]]) (.seq (.r [.n 73 7,.q 74 (.un .not (.t 73))]) (.cond (.t 74) (.seq (.r [.n 75 10,.n 8 75]) (.exit 1)) (.exit 1))))) (.r [.n 76 4,.n 77 13,.l 78 i [.t 76,.t 77]]))))))) (.r [.a 79 40 1,.n 40 79]))))))) (.cut (qbP a b c d e g h i j k))
def qbN(a b c d e g h i j k:Nat):ICode:=.seq (.r [.n 30 4,.l 31 c [.t 30,(.c (.i .u32 4))]]) (.seq (.r [.n 32 0,.l 33 d [.t 32,.k 0],.n 34 33,.y 35 0 34,⟨(some 36),.callF d [.t 35,.k 2],(some (34,true))⟩,.p 37 34 36,.n 7 37]) (.seq (.r [.q 8 (.mov (.c (.i .i64 (-1))))]) (.cut (qbO a b c d e g h i j k))))
def qbM(a b c d e g h i j k:Nat):ICode:=.seq (.r [.q 24 (.build [.nils,.nils] []),.q 25 (.box (.t 24)),.q 26 (.build [.i .i64 0] []),.q 27 (.box (.t 26)),.q 28 (.build [.i .i64 0] []),.q 29 (.box (.t 28)),.n 4 25,.n 5 27,.n 6 29]) (.cut (qbN a b c d e g h i j k))
def qgj(a b c d e g h i j k:Nat):IFn:=⟨[.tmp 2,.tmp 3],.seq (.r [.m 2 .N,.m 3 (.k 0)]) (.seq (.seq (.r [.n 17 0,.e 18 17,.w 19 .eql 18 0,.n 20 19,.z 21 0 20,⟨(some 22),.callF a [.t 21,(.c (.fn b [] []))],(some (20,false))⟩,.o 23 20 22]) (.cond (.t 23) (.seq (.r [.m 2 .N,.m 3 (.k 2)]) (.ret)) (.skip))) (.cut (qbM a b c d e g h i j k)))⟩
def gdT(l:List Int)(i:Nat):Bool:=decide ((i:Int) ∈ l)
theorem qmM{n0 sb bK bA K:Nat}{κb:Nat->Kd}{tb:Tr Blk}(W:WFn P g gl gp gj gh gr)(hd:qc P gd qZ=true)(hj:qc P g qJ=true)(h:WI g w κ s tr RV [])(hK:RV.length=K)(hb:RV.length<=1000)(st:Stp [bK,bA] κb sb tb κ s tr)(hdm:∀b,κb b≠.no->b<sb)(hno:∀b F,κb b≠.lab F false)
  (kK:κ bK = .lab K false) (kA:κ bA = .lab (K+1) false) (nK:κb bK = .no) (nA:κb bA = .no) {t:Tr AV} (ht:Has t [(4,.ptr w 0),(5,.ptr bK 0),(6,.ptr bA 0)]) :
  S P n0 (qaB g1 g2 gl g4 g5 g6 gj gh gr gd) (qam [.tmp 2,.tmp 3] fun v' h'=>Frz h' v' (.tup [.fz (gdF RV).length (rSy (gdF RV)),.i .i64 0])) t ⟨s,0,tr⟩:=by
 refine S.has _ ht (ql ?_);subst hK;unfold gdF;have hne:bA≠bK:=fun e=>by rw[e,kK] at kA;have:=(Kd.lab.inj kA).1;omega
 simp only[qaB,vI,simprocAttr];simp +decide only[↓vS,vT,simprocAttr];refine qaI W.here h kK fun t1 q1 q2 w1=>?_
 simp +decide only[↓vS,vT,simprocAttr];have st1:Stp [bA] κb sb tb (kdS κ bK (.lab RV.length true)) s t1:=st.kd' nK q1 q2 fun c hc=>by simpa using hc
 refine qk0 W.ret W.put w1 2147483648 (by omega) fun κ2 s2 t2 st2 w2=>?_
 simp +decide only[↓vS,vT,simprocAttr];have st12:=st1.trans st2
 have kA2:κ2 bA = .lab (RV++[(⟨6,2147483648,0,0⟩:Sy)]).length false:=by
  rw[List.length_append];exact st2.lab _ _ _ (by rw[qe hne];exact kA)
 refine qaI W.here w2 kA2 fun t3 q3 q4 w3=>?_
 simp +decide only[↓vS,vT,simprocAttr];have st3:Stp [] κb sb tb (kdS κ2 bA (.lab (RV++[(⟨6,2147483648,0,0⟩:Sy)]).length true)) s2 t3:=st12.kd' nA q3 q4 fun c hc=>by simpa using hc
 refine qk0 W.ret W.put w3 2147418112 (by simp;omega) fun κ4 s4 t4 st4 w4=>?_
 simp +decide only[↓vS,vT,simprocAttr];have st34:=st3.trans st4;refine qrW hd hj w4 (fun b F p hb=>?_) (by simp;omega) fun t5 b hb hbs=>?_
 ·cases p with
  | true=>rfl
  | false => rcases st34.nw b F hb with q|q
             ·exact absurd q (hno b F)
             ·cases q
 simp +decide only[↓vS,vT,simprocAttr];simp[vZ,vP,hb];exact Frzs.self (xW fun _=>rfl)
theorem qsC{n0 sb bK bA:Nat}{κb:Nat->Kd}{tb:Tr Blk}{m:Nat->Bool}{b:Bool}(W:WFn P g gl gp gj gh gr)(hd:qc P gd qZ=true)(hj:qc P g qJ=true)(c6:qnP P g6)(h:WI g w κ s tr (gdE m b (gdK m b+1) 6) [])(st:Stp [bK,bA] κb sb tb κ s tr)(hdm:∀b,κb b≠.no->b<sb)(hno:∀b F,κb b≠.lab F false)
  (kK:κ bK = .lab (gdK m b) false) (kA:κ bA = .lab (gdK m b+1) false) (nK:κb bK = .no) (nA:κb bA = .no) {t:Tr AV} (ht:Has t [(4,.ptr w 0),(5,.ptr bK 0),(6,.ptr bA 0),(8,.i .i64 (gdL m b 6))]) :
  S P n0 (qbP g1 g2 gl g4 g5 g6 gj gh gr gd) (qam [.tmp 2,.tmp 3] fun v' h'=>Frz h' v' (.tup [.fz (gdF (gdY m b)).length (rSy (gdF (gdY m b))),.i .i64 0])) t ⟨s,0,tr⟩:=by
 have hlen:=qnX (m:=m) (b:=b) (A:=gdK m b+1) (i:=6);have hl0:=qlx (m:=m) (b:=b) (A:=gdK m b+1) (i:=6);have hr:=qoI (m:=m) (b:=b) (i:=6);have hY:=qvK (m:=m) (b:=b);refine S.has _ ht (ql ?_);simp only[qbP,vI,simprocAttr]
 by_cases hn:0<=gdL m b 6
 ·have eY:gdY m b=gdE m b (gdK m b+1) 6++gdZ (gdL m b 6) (gdE m b (gdK m b+1) 6).length (gdK m b) (gdK m b+1):=by unfold gdY;rw[if_pos hn,hl0]
  generalize gdL m b 6=la at *;generalize gdE m b (gdK m b+1) 6=RV at *;simp +decide only[↓vS,vT,simprocAttr,hn];have w1:=h.new (.lab (RV.length+1) false) _ (.inr (.inr (.inr ⟨_,rfl,rfl⟩)));have st1:=h.stpLab (.lab (RV.length+1) false) (.cells 0 true false [.i .i64 0]);have hon:=qz (κ:=κ) (b:=s) (x:=.lab (RV.length+1) false);refine (c6 la hn (by omega)).sc ?_;simp +decide only[↓vS,vT,simprocAttr];have hK1:=st1.lab _ _ _ kK;have hA1:=st1.lab _ _ _ kA;refine qdJ W.jmp W.put w1 ⟨21,qcA la,RV.length+1,gdK m b⟩ hon (.inr ⟨(by decide:(21:Int)≠5),bK,false,rfl,hK1⟩) (by omega) fun κ2 s2 t2 st2 w2=>?_
  simp +decide only[↓vS,vT,simprocAttr];have hon2:=st2.lab _ _ _ hon;have le1:=st.le;have st12:=(st.trans st1).trans st2
  have ns:κb s = .no:=by
   cases hk:κb s with
   | no=>rfl
   | _=>have:=hdm s (by rw[hk];simp);omega
  refine qaI W.here w2 (p:=false) (b:=s) (by rw[hon2];simp) fun t3 q1 q2 w3=>?_
  simp +decide only[↓vS,vT,simprocAttr];have st3:Stp [bK,bA] κb sb tb (kdS κ2 s (.lab (RV++[(⟨21,qcA la,RV.length+1,gdK m b⟩:Sy)]).length true)) s2 t3:=st12.kd' ns q1 q2 fun c hc=>by simp at hc;rcases hc with hc|hc|hc<;>simp[hc]
  have hsK:bK≠s:=fun e=>by rw[e] at kK;rw[h.fresh] at kK;cases kK
  have hsA:bA≠s:=fun e=>by rw[e] at kA;rw[h.fresh] at kA;cases kA
  refine qjJ W.ld W.put w3 0 (by simp;omega) fun κ4 s4 t4 st4 w4=>?_
  simp +decide only[↓vS,vT,simprocAttr];have hK4:=st4.lab _ _ _ ((qe (κ:=κ2) (x:=.lab (RV++[(⟨21,qcA la,RV.length+1,gdK m b⟩:Sy)]).length true) hsK).trans (st2.lab _ _ _ hK1));have hA4:=st4.lab _ _ _ ((qe (κ:=κ2) (x:=.lab (RV++[(⟨21,qcA la,RV.length+1,gdK m b⟩:Sy)]).length true) hsA).trans (st2.lab _ _ _ hA1));have st34:=st3.trans st4
  have fin:∀κ5 s5 t5 y,Stp [] κ4 s4 t4 κ5 s5 t5->WI g w κ5 s5 t5 (RV++[⟨21,qcA la,RV.length+1,gdK m b⟩]++[⟨32,0,0,0⟩]++[y]) []->y=(if la=2 then ⟨69,1073741824,gdK m b+1,gdK m b⟩ else ⟨69,1073741824,gdK m b,gdK m b+1⟩)->∀t,Has t [(4,.ptr w 0),(5,.ptr bK 0),(6,.ptr bA 0)]->
    S P n0 (qaB g1 g2 gl g4 g5 g6 gj gh gr gd) (qam [.tmp 2,.tmp 3] fun v' h'=>Frz h' v' (.tup [.fz (gdF (gdY m b)).length (rSy (gdF (gdY m b))),.i .i64 0])) t ⟨s5,0,t5⟩:=fun κ5 s5 t5 y st5 w5 hy t ht=>by
   have e:RV++[⟨21,qcA la,RV.length+1,gdK m b⟩]++[⟨32,0,0,0⟩]++[y]=gdY m b:=by rw[eY,hy];simp[gdZ]
   rw[e] at w5;exact qmM W hd hj w5 hY (by rw[← e];simp;omega) (st34.trans st5) hdm hno (st5.lab _ _ _ hK4) (st5.lab _ _ _ hA4) nK nA ht
  by_cases h2:la=2
  ·simp +decide only[↓vS,vT,simprocAttr,h2];subst h2;refine qdJ W.jmp W.put w4 ⟨69,1073741824,gdK m b+1,gdK m b⟩ hA4 (.inr ⟨(by decide:(69:Int)≠5),bK,false,rfl,hK4⟩) (by simp;omega) fun κ5 s5 t5 st5 w5=>?_
   simp +decide only[↓vS,vT,simprocAttr];exact fin _ _ _ _ st5 w5 (by simp) _ (by simp[qf,qh,Tr.get_set])
  ·simp +decide only[↓vS,vT,simprocAttr,h2];refine qdJ W.jmp W.put w4 ⟨69,1073741824,gdK m b,gdK m b+1⟩ hK4 (.inr ⟨(by decide:(69:Int)≠5),bA,false,rfl,hA4⟩) (by simp;omega) fun κ5 s5 t5 st5 w5=>?_
   simp +decide only[↓vS,vT,simprocAttr];exact fin _ _ _ _ st5 w5 (by simp[h2]) _ (by simp[qf,qh,Tr.get_set])
 ·have eY:gdY m b=gdE m b (gdK m b+1) 6:=by unfold gdY;rw[if_neg hn,List.append_nil]
  simp +decide only[↓vS,vT,simprocAttr,hn];rw[← eY] at h hlen;exact qmM W hd hj h hY (by omega) st hdm hno kK kA nK nA (by simp[qf,qh,Tr.get_set])
theorem qsB{n0 sb bK bA:Nat}{κb:Nat->Kd}{tb:Tr Blk}(l:List Int)(bb:Bool)(W:WFn P g gl gp gj gh gr)(hd:qc P gd qZ=true)(hj:qc P g qJ=true)(c6:qnP P g6)(c4:∀x,qd P g4 [.fz l.length (rI .i64 l),.i .i64 x] (.b (decide (x ∈ l))))(c5:qd P g5 [] (.fz 6 (rI .i64 [0,1,2,3,4,5])))
  (h:WI g w κ s tr [⟨32,4,0,0⟩] []) (st:Stp [bK,bA] κb sb tb κ s tr) (hdm:∀b,κb b≠.no->b<sb) (hno:∀b F,κb b≠.lab F false)
  (kK:κ bK = .lab (gdK (gdT l) bb) false) (kA:κ bA = .lab (gdK (gdT l) bb+1) false) (nK:κb bK = .no) (nA:κb bA = .no) {t:Tr AV} (ht:Has t [(0,.fz l.length (rI .i64 l)),(4,.ptr w 0),(5,.ptr bK 0),(6,.ptr bA 0),(7,.b bb),(8,.i .i64 (-1))]) :
  S P n0 (qbO g1 g2 gl g4 g5 g6 gj gh gr gd) (qam [.tmp 2,.tmp 3] fun v' h'=>Frz h' v' (.tup [.fz (gdF (gdY (gdT l) bb)).length (rSy (gdF (gdY (gdT l) bb))),.i .i64 0])) t ⟨s,0,tr⟩:=by
 refine S.has _ ht (ql ?_);simp only[qbO,vI,simprocAttr];simp +decide only[↓vS,vT,simprocAttr];refine c5.sc ?_;simp +decide only[↓vS,vT,simprocAttr]
 refine SL.loopP (α:=Nat) (fun i=>[(0,.fz l.length (rI .i64 l)),(4,.ptr w 0),(5,.ptr bK 0),(6,.ptr bA 0),(7,.b bb),(8,.i .i64 (gdL (gdT l) bb i)),(38,.fz 6 (rI .i64 [0,1,2,3,4,5])),(39,.i .i64 6),(40,.i .i64 (i:Int))])
  (fun i h=>i<=6∧∃κ' s' tr',h=⟨s',0,tr'⟩∧Stp [bK,bA] κb sb tb κ' s' tr'∧WI g w κ' s' tr' (gdE (gdT l) bb (gdK (gdT l) bb+1) i) []∧κ' bK = .lab (gdK (gdT l) bb) false∧κ' bA = .lab (gdK (gdT l) bb+1) false) (fun i=>6-i) ?_ 0 ?_ ?_
 ·rintro i h1 ⟨hi,κ',s',tr',rfl,st',w',kK',kA'⟩ G ih;simp only[vI,simprocAttr]
  by_cases hlt:i<6
  ·have hlt':(i:Int)<6:=by omega
   have hx:(rI .i64 [0,1,2,3,4,5])[i]?=some (.i .i64 (i:Int)):=by
    match i,hlt with
    | 0,_=>rfl
    | 1,_=>rfl
    | 2,_=>rfl
    | 3,_=>rfl
    | 4,_=>rfl
    | 5,_=>rfl
   have hw1:IntKind.wrap .i64 ((i:Int)+1)=((i+1:Nat):Int):=by rw[qu (by omega) (by omega)];simp
   have hle:=qnX (m:=gdT l) (b:=bb) (A:=gdK (gdT l) bb+1) (i:=i);have ci:qd P g4 [.fz l.length (rI .i64 l),.i .i64 (i:Int)] (.b (gdT l i)):=c4 i;have le1:=st'.le;simp +decide only[↓vS,vT,simprocAttr,hlt',hlt,hx,Nat.mul_one];refine ci.sc ?_;cases hm:gdT l i with
   | false =>
    simp +decide only[↓vS,vT,simprocAttr,hw1];refine ih (i+1) _ _ (by omega) ?_ ⟨by omega,κ',s',tr',rfl,st',?_,kK',kA'⟩
    ·simp[qf,qh,Tr.get_set,gdL,hm]
    ·simpa[gdE,hm] using w'
   | true =>
    simp +decide only[↓vS,vT,simprocAttr];refine (c6 i (by omega) hlt').sc ?_;simp +decide only[↓vS,vT,simprocAttr]
    have skip:qhN bb i=false->∀t',Has t' [(0,.fz l.length (rI .i64 l)),(4,.ptr w 0),(5,.ptr bK 0),(6,.ptr bA 0),(7,.b bb),(8,.i .i64 (gdL (gdT l) bb (i+1))),(38,.fz 6 (rI .i64 [0,1,2,3,4,5])),(39,.i .i64 6),(40,.i .i64 ((i+1:Nat):Int))]->G t' ⟨s'+1,0,tr'.set s' (.cells 0 true false [.i .i64 0])⟩:=fun hs t' ht'=>by
     have w1:=w'.new .no (.cells 0 true false [.i .i64 0]) (.inl rfl);have st1:=st'.trans (w'.stpNew .no (.cells 0 true false [.i .i64 0]) (by simp));refine ih (i+1) _ _ (by omega) ht' ⟨by omega,_,_,_,rfl,st1,?_,(w'.stpNew .no (.cells 0 true false [.i .i64 0]) (by simp)).lab _ _ _ kK',(w'.stpNew .no (.cells 0 true false [.i .i64 0]) (by simp)).lab _ _ _ kA'⟩
     simpa[gdE,hs] using w1
    have go:qhN bb i=true->∀Q:AV->Hp->Prop,(∀κ2 s2 t2,Stp [] (kdS κ' s' (.lab ((gdE (gdT l) bb (gdK (gdT l) bb+1) i).length+1) false)) (s'+1) (tr'.set s' (.cells 0 true false [.i .i64 0])) κ2 s2 t2->WI g w κ2 s2 t2 (gdE (gdT l) bb (gdK (gdT l) bb+1) (i+1)) []->Q (.tup []) ⟨s2,0,t2⟩)->SC P gj [.ptr w 0,.i .u16 21,.i .u32 (qcA (i:Int)),.ptr bA 0,.ptr s' 0] ⟨s'+1,0,tr'.set s' (.cells 0 true false [.i .i64 0])⟩ Q:=fun hs Q hQ=>by
     have w1:=w'.new (.lab ((gdE (gdT l) bb (gdK (gdT l) bb+1) i).length+1) false) _ (.inr (.inr (.inr ⟨_,rfl,rfl⟩)));have st1:=w'.stpLab (.lab ((gdE (gdT l) bb (gdK (gdT l) bb+1) i).length+1) false) (.cells 0 true false [.i .i64 0]);refine qdJ W.jmp W.put w1 ⟨21,qcA (i:Int),gdK (gdT l) bb+1,(gdE (gdT l) bb (gdK (gdT l) bb+1) i).length+1⟩ (st1.lab _ _ _ kA') (.inr ⟨(by decide:(21:Int)≠5),s',false,rfl,qz⟩) (by omega) fun κ2 s2 t2 st2 w2=>hQ κ2 s2 t2 st2 ?_
     simpa[gdE,hs,hm] using w2
    have ns:κb s' = .no:=by
     cases hk:κb s' with
     | no=>rfl
     | _=>have:=hdm s' (by rw[hk];simp);omega
    have nK':bK≠s':=fun e=>by rw[e] at kK';rw[w'.fresh] at kK';cases kK'
    have nA':bA≠s':=fun e=>by rw[e] at kA';rw[w'.fresh] at kA';cases kA'
    by_cases i0:i=0
    ·have j0:((i:Int)=0)=True:=eq_true (by omega);cases bb with
     | false =>
      simp +decide only[↓vS,vT,simprocAttr,j0,hw1];have hs:qhN false i=false:=by simp[qhN,i0]
      refine skip hs _ ?_;simp[qf,qh,Tr.get_set,gdL,hm,hs]
     | true =>
      have hs:qhN true i=true:=by simp[qhN,i0]
      simp +decide only[↓vS,vT,simprocAttr,j0];refine go hs _ fun κ2 s2 t2 st2 w2=>?_
      simp +decide only[↓vS,vT,simprocAttr];refine qaI W.here w2 (p:=false) (b:=s') (by rw[st2.lab _ _ _ qz];simp[gdE,hs,hm]) fun t3 q1 q2 w3=>?_
      simp +decide only[↓vS,vT,simprocAttr,hw1];refine ih (i+1) _ _ (by omega) ?_ ⟨by omega,_,_,_,rfl,((st'.trans (w'.stpLab (.lab ((gdE (gdT l) true (gdK (gdT l) true+1) i).length+1) false) (.cells 0 true false [.i .i64 0]))).trans st2).kd' ns q1 q2 (fun c hc=>by simp at hc;rcases hc with hc|hc|hc<;>simp[hc]),w3,?_,?_⟩
      ·simp[qf,qh,Tr.get_set,gdL,hm,hs]
      ·rw[qe nK'];exact st2.lab _ _ _ (((qe nK').trans kK'))
      ·rw[qe nA'];exact st2.lab _ _ _ (((qe nA').trans kA'))
    ·have j0:((i:Int)=0)=False:=eq_false (by omega)
     by_cases i2:i=2
     ·have j2:((i:Int)=2)=True:=eq_true (by omega);cases bb with
      | false =>
       simp +decide only[↓vS,vT,simprocAttr,j0,j2,hw1];have hs:qhN false i=false:=by simp[qhN,i2]
       refine skip hs _ ?_;simp[qf,qh,Tr.get_set,gdL,hm,hs]
      | true =>
       simp +decide only[↓vS,vT,simprocAttr,j0,j2,hw1];have hs:qhN true i=false:=by simp[qhN,i2]
       refine skip hs _ ?_;simp[qf,qh,Tr.get_set,gdL,hm,hs]
     ·have j2:((i:Int)=2)=False:=eq_false (by omega);have hs:qhN bb i=true:=by simp[qhN,i0,i2]
      simp +decide only[↓vS,vT,simprocAttr,j0,j2];refine go hs _ fun κ2 s2 t2 st2 w2=>?_
      simp +decide only[↓vS,vT,simprocAttr];refine qaI W.here w2 (p:=false) (b:=s') (by rw[st2.lab _ _ _ qz];simp[gdE,hs,hm]) fun t3 q1 q2 w3=>?_
      simp +decide only[↓vS,vT,simprocAttr,hw1];refine ih (i+1) _ _ (by omega) ?_ ⟨by omega,_,_,_,rfl,((st'.trans (w'.stpLab (.lab ((gdE (gdT l) bb (gdK (gdT l) bb+1) i).length+1) false) (.cells 0 true false [.i .i64 0]))).trans st2).kd' ns q1 q2 (fun c hc=>by simp at hc;rcases hc with hc|hc|hc<;>simp[hc]),w3,?_,?_⟩
      ·simp[qf,qh,Tr.get_set,gdL,hm,hs]
      ·rw[qe nK'];exact st2.lab _ _ _ (((qe nK').trans kK'))
      ·rw[qe nA'];exact st2.lab _ _ _ (((qe nA').trans kA'))
  ·obtain rfl:i=6:=by omega
   simp +decide only[↓vS,vT,simprocAttr];exact qsC W hd hj c6 w' st' hdm hno kK' kA' nK nA (by simp[qf,qh,Tr.get_set])
 ·simp[qf,qh,Tr.get_set,gdL]
 ·exact⟨Nat.zero_le _,κ,s,tr,rfl,st,h,kK,kA⟩
theorem qsA{n0 sb bK bA:Nat}{κb:Nat->Kd}{tb:Tr Blk}(l:List Int)(W:WFn P g gl gp gj gh gr)(hd:qc P gd qZ=true)(hj:qc P g qJ=true)(c6:qnP P g6)(c4:∀x,qd P g4 [.fz l.length (rI .i64 l),.i .i64 x] (.b (decide (x ∈ l))))(c5:qd P g5 [] (.fz 6 (rI .i64 [0,1,2,3,4,5])))
  (h:WI g w κ s tr [] []) (st:Stp [bK,bA] κb sb tb κ s tr) (hdm:∀b,κb b≠.no->b<sb) (hno:∀b F,κb b≠.lab F false)
  (kK:κ bK = .lab (gdK (gdT l) (gdT l 0&&gdT l 2)) false) (kA:κ bA = .lab (gdK (gdT l) (gdT l 0&&gdT l 2)+1) false) (nK:κb bK = .no) (nA:κb bA = .no) {t:Tr AV} (ht:Has t [(0,.fz l.length (rI .i64 l)),(4,.ptr w 0),(5,.ptr bK 0),(6,.ptr bA 0)]) :
  S P n0 (qbN g1 g2 gl g4 g5 g6 gj gh gr gd) (qam [.tmp 2,.tmp 3] fun v' h'=>Frz h' v' (.tup [.fz (gdR (gdT l)).length (rSy (gdR (gdT l))),.i .i64 0])) t ⟨s,0,tr⟩:=by
 refine S.has _ ht (ql ?_);have b0:qd P g4 [.fz l.length (rI .i64 l),.i .i64 0] (.b (gdT l 0)):=c4 0;have b2:qd P g4 [.fz l.length (rI .i64 l),.i .i64 2] (.b (gdT l 2)):=c4 2;simp only[qbN,vI,simprocAttr];simp +decide only[↓vS,vT,simprocAttr];refine qjJ W.ld W.put h 4 (by simp) fun κ1 s1 t1 st1 w1=>?_
 rw[List.nil_append] at w1;have kK1:=st1.lab _ _ _ kK;have kA1:=st1.lab _ _ _ kA;have fin:=fun bb (e:(gdT l 0&&gdT l 2)=bb) t ht=>qsB (n0:=n0) (g1:=g1) (g2:=g2) (t:=t) l bb W hd hj c6 c4 c5 w1 (st.trans st1) hdm hno (by rw[← e];exact kK1) (by rw[← e];exact kA1) nK nA ht
 unfold gdR;simp +decide only[↓vS,vT,simprocAttr];refine b0.sc ?_;cases e0:gdT l 0 with
 | false =>
  simp +decide only[↓vS,vT,simprocAttr];rw[e0] at fin;refine fin _ rfl _ ?_;simp[qf,qh,Tr.get_set]
 | true =>
  simp +decide only[↓vS,vT,simprocAttr];refine b2.sc ?_;cases e2:gdT l 2 with
  | false =>
   simp +decide only[↓vS,vT,simprocAttr];rw[e0,e2] at fin;refine fin _ rfl _ ?_;simp[qf,qh,Tr.get_set]
  | true =>
   simp +decide only[↓vS,vT,simprocAttr];rw[e0,e2] at fin;refine fin _ rfl _ ?_;simp[qf,qh,Tr.get_set]
def qkp(l:List Int):Bool:=decide (l=[])||l.any fun a=>decide (a<0)||decide (6<=a)
def gdA(l:List Int):List Sy×Int:=if qkp l=true then ([],2) else (gdR (gdT l),0)
theorem qsz{n0:Nat}(l:List Int)(W:WFn P g gl gp gj gh gr)(hd:qc P gd qZ=true)(hj:qc P g qJ=true)(c6:qnP P g6)(c4:∀x,qd P g4 [.fz l.length (rI .i64 l),.i .i64 x] (.b (decide (x ∈ l))))(c5:qd P g5 [] (.fz 6 (rI .i64 [0,1,2,3,4,5])))(hn:n0=0)
  {t':Tr AV} {h':Hp} (hw:Wk 0 t' h' (mkT [(0,.fz l.length (rI .i64 l))]) (mkH 0 [])) :
  S P n0 (qbM g1 g2 gl g4 g5 g6 gj gh gr gd) (qam [.tmp 2,.tmp 3] fun v' h'=>Frz h' v' (.tup [.fz (gdR (gdT l)).length (rSy (gdR (gdT l))),.i .i64 0])) t' h':=by
 subst hn;refine S.weak hw (ql ?_);simp only[qbM,vI,simprocAttr];simp +decide only[↓vS,vT,simprocAttr];refine S.weak (Wk.mk [(0,.fz l.length (rI .i64 l)),(4,.ptr 0 0),(5,.ptr 1 0),(6,.ptr 2 0)] [.cells 0 true false [.own 3 0,.own 4 0],.cells 0 true false [.i .i64 0],.cells 0 true false [.i .i64 0],.cells 4 true true [],.cells 1 true true []] [0,1,2,99,99] ?_ ?_ ?_ rfl) ?_
 ·simp[vw,xH]
 ·simp[vw]
 ·simp
 simp only[vI,simprocAttr];generalize hKp:gdK (gdT l) (gdT l 0&&gdT l 2)=Kp
 have hW:∀k1 k2:Kd,(k1 = .no∨k1 = .lab Kp false)->(k2 = .no∨k2 = .lab (Kp+1) false)->WI g 0 (fun b=>if b=0 then .w else if b=1 then k1 else if b=2 then k2 else if b=3 then .l else if b=4 then .t else .no) 5 (((((Tr.leaf.set 0 (.cells 0 true false [.own 3 0,.own 4 0])).set 1 (.cells 0 true false [.i .i64 0])).set 2 (.cells 0 true false [.i .i64 0])).set 3 (.cells 4 true true [])).set 4 (.cells 1 true true [])) [] []:=fun k1 k2 h1 h2=>by
  refine⟨fun b hb=>?_,⟨3,4,[],[],rfl,rfl,rfl,?_,?_,?_,trivial,by simp,fun j y hy=>by simp at hy⟩,fun b F p hb=>?_⟩
  ·by_cases e:b<5
   ·exact e
   ·rw[if_neg (by omega),if_neg (by omega),if_neg (by omega),if_neg (by omega),if_neg (by omega)] at hb;exact absurd rfl hb
  ·simp[Tr.get_set]
  ·simp[Tr.get_set,rSy]
  ·simp[Tr.get_set]
  ·split at hb
   ·cases hb
   split at hb
   ·rename_i e;subst e;rcases h1 with rfl|rfl
    ·cases hb
    ·cases hb;exact⟨0,by simp[Tr.get_set],by simp⟩
   split at hb
   ·rename_i e;subst e;rcases h2 with rfl|rfl
    ·cases hb
    ·cases hb;exact⟨0,by simp[Tr.get_set],by simp⟩
   split at hb
   ·cases hb
   split at hb<;>cases hb
 refine qsA (bK:=1) (bA:=2) (κb:=fun b=>if b=0 then .w else if b=1 then .no else if b=2 then .no else if b=3 then .l else if b=4 then .t else .no) (sb:=5) (tb:=(((((Tr.leaf.set 0 (.cells 0 true false [.own 3 0,.own 4 0])).set 1 (.cells 0 true false [.i .i64 0])).set 2 (.cells 0 true false [.i .i64 0])).set 3 (.cells 4 true true [])).set 4 (.cells 1 true true [])))
  l W hd hj c6 c4 c5 (hW (.lab Kp false) (.lab (Kp+1) false) (.inr rfl) (.inr rfl)) ⟨Nat.le_refl _,fun b hb=>⟨?_,rfl⟩,fun b hb=>⟨?_,rfl⟩,fun b F p hb=>?_,fun b F hb=>?_⟩ (hW .no .no (.inl rfl) (.inl rfl)).dom ?_ (by rw[hKp];rfl) (by rw[hKp];rfl) rfl rfl ?_
 all_goals first|(simp[qf,qh,Tr.get_set];done)|skip
 ·by_cases e:b=1
  ·subst e;simp at hb
  by_cases e2:b=2
  ·subst e2;simp at hb
  ·rw[if_neg e,if_neg e2] at hb ⊢;exact hb
 ·by_cases e:b=1
  ·subst e;simp at hb
  by_cases e2:b=2
  ·subst e2;simp at hb
  ·rw[if_neg e,if_neg e2] at hb ⊢;exact hb
 ·by_cases e:b=1
  ·subst e;simp at hb
  by_cases e2:b=2
  ·subst e2;simp at hb
  ·rw[if_neg e,if_neg e2] at hb ⊢;exact hb
 ·by_cases e:b=1
  ·exact .inr (by simp[e])
  by_cases e2:b=2
  ·exact .inr (by simp[e2])
  ·rw[if_neg e,if_neg e2] at hb ⊢;exact .inl hb
 ·intro b F hb
  repeat' split at hb
  all_goals cases hb
end
section
variable {g gl gp gj gh gr gd g1 g2 g4 g5 g6:Nat}
def qeU:IFn:=⟨[.tmp 2],.seq (.r [.m 2 .F]) (.seq (.r [.n 3 0,.w 4 .lss 3 0,.n 5 4,.z 6 0 5,.g 7 (.bin .geq (.t 6) (.k 6)) 5 false,.o 8 5 7,.n 2 8]) (.ret))⟩
theorem qDN(hc:qc P f qeU=true)(a:Int):qd P f [.i .i64 a] (.b (decide (a<0)||decide (6<=a))):=by
 refine qd.mk hc rfl ?_;simp only[qeU,vI,simprocAttr]
 by_cases h:a<0
 ·simp +decide only[↓vS,vT,simprocAttr,h];simp[vZ]
 ·simp +decide only[↓vS,vT,simprocAttr,h];simp[vZ]
def xX(a:Nat):IFn:=⟨[.tmp 4],.seq (.r [.m 4 .F]) (.seq (.r [.n 5 0,.n 6 1,.l 7 a [.t 5,.t 6],.w 8 .geq 7 0,.n 4 8]) (.ret))⟩
theorem quE{g:Nat}(hc:qc P f (xX g)=true)(h:qrz P g)(l:List Int)(k:Nat)(p:Int->Bool)(hk:∀c,qd P k [.i .i64 c] (.b (p c)))(hl:l.length<=qg):qd P f [.fz l.length (rI .i64 l),.fn k [] []] (.b (l.any p)):=by
 refine qd.mk hc (by simp[qw,clo,xH]) ?_;simp only[xX,vI,simprocAttr];simp only[↓vS,vT,simprocAttr];refine (h (fun x:Int=>.i .i64 x) p k [] [] l rfl rfl hl fun x _=>hk x).sc ?_
 simp only[↓vS,vT,simprocAttr];simp[vZ,← qmS p l 0]
theorem qBl(hc:qc P f (qgj g1 g2 gl g4 g5 g6 gj gh gr gd)=true)(W:WFn P g gl gp gj gh gr)(hd:qc P gd qZ=true)(hj:qc P g qJ=true)(c6:qnP P g6)(c1:∀l:List Int,l.length<=qg->qd P g1 [.fz l.length (rI .i64 l),.fn g2 [] []] (.b (l.any fun a=>decide (a<0)||decide (6<=a))))
  (c4:∀(l:List Int) (x:Int),l.length<=qg->qd P g4 [.fz l.length (rI .i64 l),.i .i64 x] (.b (decide (x ∈ l)))) (c5:qd P g5 [] (.fz 6 (rI .i64 [0,1,2,3,4,5]))) (l:List Int) (hl:l.length<=qg) :
  qd P f [.fz l.length (rI .i64 l)] (.tup [.fz (gdA l).1.length (rSy (gdA l).1),.i .i64 (gdA l).2]):=by
 refine qd.mk hc (by simp[qw,clo,xH]) ?_;have e1:=c1 l hl;simp only[qgj,vI,simprocAttr];unfold gdA qkp
 by_cases h:l.length=0
 ·have h':((l.length:Int)=0)=True:=eq_true (by omega);have hn:l=[]:=List.eq_nil_of_length_eq_zero h;rw[hn];simp +decide only[↓vS,vT,simprocAttr];simp[vZ,rSy]
 ·have h':((l.length:Int)=0)=False:=eq_false (by omega);have hn:decide (l=[])=false:=decide_eq_false fun hh=>h (by rw[hh];rfl)
  rw[hn,Bool.false_or];simp +decide only[↓vS,vT,simprocAttr,h'];refine e1.sc ?_;cases hb:l.any fun a=>decide (a<0)||decide (6<=a) with
  | true =>
   simp +decide only[↓vS,vT,simprocAttr];simp[vZ,rSy]
  | false =>
   simp +decide only[↓vS,vT,simprocAttr];refine qsz l W hd hj c6 (fun x=>c4 l x hl) c5 rfl (Wk.mk _ _ [] ?_ ?_ ?_ rfl)
   ·simp[vw,xH]
   ·trivial
   ·simp
end
end Go.Kc
end
section
namespace Go.Kc
def qhP:List Int:=[3221225534,1073741827,1073741864,3221225655,3221225715]
def evG(R:List Sy)(c:Int)(z:Bool):Nat->Nat->Nat->Option Int
 | 0,_,_=>none
 | n+1,p,w=>match R[p]? with
  | none=>none
  | some s=>if s.code=32 then (if s.k=4 then evG R c z n (p+1) 1 else if s.k=0 then evG R c z n (p+1) 2 else none)
   else if s.code=6 then some s.k
   else if s.code=21 then (if w=1∧qhP.contains s.k=true then evG R c z n (if c=s.k then s.th else s.el) w else none)
   else if s.code=69 then (if w=2∧s.k=1073741824 then evG R c z n (if z=true then s.th else s.el) w else none)
   else none
theorem qhX{R:List Sy}{d:GData}{c:Int}{z:Bool}(hc:∀K ∈ qhP,(d.arch=K↔c=K))(hz:z=decide (0<xP .u32 d.nr 1073741824)):∀(n p w:Nat) (a r:Int),(w=1->a=d.arch)->(w=2->a=d.nr)->evG R c z n p w=some r->Ev R d p a r
 | 0,p,w,a,r,_,_,h=>by simp[evG] at h
 | n+1,p,w,a,r,h1,h2,h=>by
  unfold evG at h;cases hs:R[p]? with
  | none=>rw[hs] at h;cases h
  | some s =>
   rw[hs] at h;simp only at h;split at h
   ·rename_i e;split at h
    ·rename_i e4;exact .ld p a r s hs e (qhX hc hz n _ 1 _ r (fun _=>by rw[e4];rfl) (fun q=>by cases q) h)
    split at h
    ·rename_i e0;exact .ld p a r s hs e (qhX hc hz n _ 2 _ r (fun q=>by cases q) (fun _=>by rw[e0];rfl) h)
    ·cases h
   split at h
   ·rename_i e;cases h;exact .rt p a s hs e
   split at h
   ·rename_i e;split at h
    ·rename_i hw
     have ek:qbg s.code a s.k=decide (c=s.k):=by
      rw[e,h1 hw.1];unfold qbg;rw[if_pos rfl];exact decide_eq_decide.2 (hc s.k (by simpa using hw.2))
     refine .jc p a r s hs (.inl e) ?_;rw[ek];simp only[decide_eq_true_eq];exact qhX hc hz n _ w a r h1 h2 h
    ·cases h
   split at h
   ·rename_i e;split at h
    ·rename_i hw
     have ek:qbg s.code a s.k=z:=by
      rw[e,h2 hw.1,hw.2,hz];rfl
     refine .jc p a r s hs (.inr (.inr (.inr e))) ?_;rw[ek];exact qhX hc hz n _ w a r h1 h2 h
    ·cases h
   ·cases h
instance {s:Sy} {j n:Nat}:Decidable (qd9 s j n):=by unfold qd9 qde;infer_instance
def qzE(R:List Sy):Bool:=decide (0<R.length)&&decide (R.length<=10)&&decide ((R.getD (R.length-1) ⟨0,0,0,0⟩).code=6)&&(List.range R.length).all (fun j=>decide (qd9 (R.getD j ⟨0,0,0,0⟩) j R.length))&&R.all fun x=>decide (0<=x.k∧x.k<=4294967295)
def qn7(c:Int)(z:Bool):Option Nat:=if c=3221225534 then some (if z=true then 2 else 0) else if c=1073741827 then some 1 else if c=1073741864 then some 3 else if c=3221225655 then some 4 else if c=3221225715 then some 5 else none
def qhJ(m:Nat->Bool)(o:Option Nat):Int:=match o with
 | some a=>if m a=true then 2147418112 else 2147483648
 | none=>2147483648
def okG(m:Nat->Bool):Bool:=qzE (gdR m)&&((-1)::qhP).all fun c=>[false,true].all fun z=>decide (evG (gdR m) c z 16 0 0=some (qhJ m (qn7 c z)))
def mkG(m0 m1 m2 m3 m4 m5:Bool)(i:Nat):Bool:=match i with|0=>m0|1=>m1|2=>m2|3=>m3|4=>m4|_=>m5
def qCi:Bool:=[false,true].all fun m0=>[false,true].all fun m1=>[false,true].all fun m2=>[false,true].all fun m3=>[false,true].all fun m4=>[false,true].all fun m5=>!(m0||m1||m2||m3||m4||m5)||okG (mkG m0 m1 m2 m3 m4 m5)
theorem quI:qCi=true:=by kernel_rfl
section
variable {m m':Nat->Bool}
theorem qkJ{b:Bool}{A:Nat}:∀{i:Nat},(∀j,j<i->m j=m' j)->gdE m b A i=gdE m' b A i∧gdL m b i=gdL m' b i
 | 0,_=>⟨rfl,rfl⟩
 | i+1,h=>by
  have h1:=qkJ (b:=b) (A:=A) (i:=i) fun j hj=>h j (by omega)
  have h2:=h i (by omega);unfold gdE gdL;rw[h1.1,h1.2,h2];exact⟨rfl,rfl⟩
theorem qp7(h:∀j,j<6->m j=m' j):gdR m=gdR m':=by
 have hb:(m 0&&m 2)=(m' 0&&m' 2):=by rw[h 0 (by omega),h 2 (by omega)]
 have e:∀b A,gdE m b A 6=gdE m' b A 6∧gdL m b 6=gdL m' b 6:=fun b A=>qkJ h
 unfold gdR gdY gdK;rw[hb];simp only[(e _ _).1,(e _ 0).2]
theorem qz5(h:(m 0||m 1||m 2||m 3||m 4||m 5)=true):qzE (gdR m)=true∧∀c ∈ (-1)::qhP,∀z:Bool,evG (gdR m) c z 16 0 0=some (qhJ m (qn7 c z)):=by
 have hb:∀b:Bool,b ∈ [false,true]:=by decide
 have h0:=quI;unfold qCi at h0;have h1:=List.all_eq_true.1 (List.all_eq_true.1 (List.all_eq_true.1 (List.all_eq_true.1 (List.all_eq_true.1 (List.all_eq_true.1 h0 (m 0) (hb _)) (m 1) (hb _)) (m 2) (hb _)) (m 3) (hb _)) (m 4) (hb _)) (m 5) (hb _);rw[h] at h1;have h2:okG (mkG (m 0) (m 1) (m 2) (m 3) (m 4) (m 5))=true:=by simpa using h1
 have em:∀j,j<6->mkG (m 0) (m 1) (m 2) (m 3) (m 4) (m 5) j=m j:=fun j hj=>by
  match j,hj with
  | 0,_=>rfl
  | 1,_=>rfl
  | 2,_=>rfl
  | 3,_=>rfl
  | 4,_=>rfl
  | 5,_=>rfl
 unfold okG at h2;rw[qp7 em,Bool.and_eq_true] at h2;refine⟨h2.1,fun c hc z=>?_⟩
 have h3:=List.all_eq_true.1 (List.all_eq_true.1 h2.2 c hc) z (hb z);rw[decide_eq_true_eq] at h3;rw[h3]
 have es:∀o:Option Nat,(∀a,o=some a->a<6)->qhJ (mkG (m 0) (m 1) (m 2) (m 3) (m 4) (m 5)) o=qhJ m o:=fun o ho=>by
  cases o with
  | none=>rfl
  | some a=>unfold qhJ;simp only;rw[em a (ho a rfl)]
 rw[es];intro a ha;unfold qn7 at ha
 repeat' split at ha
 all_goals first|(cases ha;omega)|(cases ha;done)|(cases ha;split<;>omega)
end
theorem qwn(t n:Int):ofM t n=if t=3221225534 then (if xP .u32 n 1073741824≠0 then (2,true) else (0,true)) else if t=1073741827 then (1,true) else if t=1073741864 then (3,true) else if t=3221225655 then (4,true) else if t=3221225715 then (5,true) else (0,false):=by
 unfold ofM
 by_cases h1:t=3221225534
 ·simp[h1,zP,jm]
 by_cases h2:t=1073741827
 ·simp[h2,zP,jm]
 by_cases h3:t=1073741864
 ·simp[h3,zP,jm]
 by_cases h4:t=3221225655
 ·simp[h4,zP,jm]
 by_cases h5:t=3221225715
 ·simp[h5,zP,jm]
 simp only[h1,h2,h3,h4,h5,zP,jm,eq_comm (b:=t),if_false];simp
def gdM(l:List Int)(d:GData):Int:=if (ofM d.arch d.nr).2=true∧(ofM d.arch d.nr).1 ∈ l then 2147418112 else 2147483648
theorem qoJ(l:List Int)(d:GData){c:Int}(hc:(d.arch=c∧c ∈ qhP)∨(c = -1∧d.arch ∉ qhP)):qhJ (gdT l) (qn7 c (decide (0<xP .u32 d.nr 1073741824)))=gdM l d:=by
 unfold gdM;rw[qwn];have hz:0<=xP .u32 d.nr 1073741824:=qoo _ _;generalize xP .u32 d.nr 1073741824=z at hz;rcases hc with⟨e,hm⟩|⟨rfl,hm⟩
 ·subst e;simp only[qhP,List.mem_cons,List.not_mem_nil,or_false] at hm
  by_cases h0:z=0
  ·rcases hm with e|e|e|e|e<;>simp[e,h0,qn7,qhJ,gdT]
  ·have h1:0<z:=by omega
   rcases hm with e|e|e|e|e<;>simp[e,h0,h1,qn7,qhJ,gdT]
 ·simp only[qhP,List.mem_cons,List.not_mem_nil,or_false,not_or] at hm;obtain⟨h1,h2,h3,h4,h5⟩:=hm;simp[h1,h2,h3,h4,h5,qn7,qhJ]
theorem qyl{l:List Int}(h:qkp l=false):(gdT l 0||gdT l 1||gdT l 2||gdT l 3||gdT l 4||gdT l 5)=true:=by
 cases l with
 | nil=>cases h
 | cons a l =>
  have h1:¬a<0∧¬6<=a:=by
   simp only[qkp,List.any_cons,Bool.or_eq_false_iff,decide_eq_false_iff_not] at h;exact h.2.1
  have e:∀i:Nat,(i:Int)=a->gdT (a::l) i=true:=fun i hi=>by unfold gdT;rw[hi];simp
  have ha:a=0∨a=1∨a=2∨a=3∨a=4∨a=5:=by omega
  rcases ha with q|q|q|q|q|q
  ·rw[e 0 q.symm];rfl
  ·rw[e 1 q.symm];simp
  ·rw[e 2 q.symm];simp
  ·rw[e 3 q.symm];simp
  ·rw[e 4 q.symm];simp
  ·rw[e 5 q.symm];simp
theorem qss{l:List Int}(h:qkp l=false):MayL (gdR (gdT l))∧qaT (gdR (gdT l))∧(gdR (gdT l)).length<=10∧∀d,DatOk d->Ev (gdR (gdT l)) d 0 0 (gdM l d):=by
 obtain⟨h1,h2⟩:=qz5 (qyl h);generalize hR:gdR (gdT l)=R at h1 h2;unfold qzE at h1;simp only[Bool.and_eq_true,decide_eq_true_eq,List.all_eq_true] at h1;obtain⟨⟨⟨⟨p1,p2⟩,p3⟩,p4⟩,p5⟩:=h1;have gd:∀(j:Nat) s,R[j]?=some s->R.getD j ⟨0,0,0,0⟩=s:=fun j s hj=>by rw[List.getD_eq_getElem?_getD,hj];rfl
 refine⟨⟨p1,by omega,⟨_,zzE (by omega),?_⟩,fun j s hj=>?_⟩,fun x hx=>p5 x hx,p2,fun d hd=>?_⟩
 ·rw[gd _ _ (zzE (by omega:R.length-1<R.length))] at p3;exact p3
 ·have:=p4 j (List.mem_range.2 (zzS.1 hj).1);rw[gd _ _ hj] at this;exact this
 ·by_cases hm:d.arch ∈ qhP
  ·rw[← qoJ l d (.inl ⟨rfl,hm⟩)];exact qhX (fun K _=>Iff.rfl) rfl 16 0 0 0 _ (fun q=>by cases q) (fun q=>by cases q) (h2 d.arch (List.mem_cons_of_mem _ hm) _)
  ·rw[← qoJ l d (.inr ⟨rfl,hm⟩)];refine qhX (c:=-1) (fun K hK=>⟨fun e=>absurd (e ▸ hK) hm,fun e=>?_⟩) rfl 16 0 0 0 _ (fun q=>by cases q) (fun q=>by cases q) (h2 (-1) (List.mem_cons_self ..) _)
   subst e;exact absurd hK (by decide)
end Go.Kc
end
section
namespace Go.Kc
variable {P:Program} {f:Nat}
noncomputable def gdC(l:List Int)(o:Bool):List Ins×Int:=qly (gdA l).1 (gdA l).2 o
section
variable {l:List Int}
theorem qsr(h:qkp l=true)(o:Bool):gdC l o=([],2):=by
 unfold gdC gdA qly qh3 qiI qbw;rw[if_pos h];simp
theorem qsq(h:qkp l=false)(o:Bool):(gdC l o).2=0∧PrgT (gdC l o).1 10 (gdM l):=by
 obtain⟨h1,h2,h3,h4⟩:=qss h;have e:gdA l=(gdR (gdT l),0):=by unfold gdA;rw[if_neg (by rw[h];simp)]
 have eu:qh3 (gdA l).1 (gdA l).2=zB (gdR (gdT l)):=by rw[e];simp only[qh3,if_true]
 have eo:qiI (gdA l).1 (gdA l).2=zB (qbC (gdR (gdT l))):=by rw[e];simp only[qiI,if_true]
 have tu:qko (qh3 (gdA l).1 (gdA l).2) 10 (gdM l):=by rw[eu];exact qlG h1 h2 h3 h4
 have to:qko (qiI (gdA l).1 (gdA l).2) 10 (gdM l):=by rw[eo];exact qlG (qi5 h1) (qo2 h2) (Nat.le_trans qo1 h3) fun d hd=>qtF h1 (h4 d hd)
 have:qko (gdC l o) 10 (gdM l):=by
  unfold gdC qly;split
  ·exact qpn tu to
  ·exact tu
 exact this.resolve_left fun q=>by have:=q.2.2;omega
theorem qzh(h:qkp l=false):(gdC l true).1.length<=(gdC l false).1.length:=by
 have:=(qsq h false).1;unfold gdC qly at this ⊢;simp only[Bool.false_eq_true,if_false] at this;simp only[if_true,Bool.false_eq_true,if_false];exact (qns this).2
end
def qu8(P:Program)(g:Nat):Prop:=∀l:List Int,l.length<=qg->∀o:Bool,qd P g [.fz l.length (rI .i64 l),.b o] (.tup [.fz (gdC l o).1.length (rP (gdC l o).1),.i .i64 (gdC l o).2])
theorem qEZ{gd gwG gwO gwL gs gG gO gL:Nat}(hc:qc P f (qbQ gwG gwL gd gwO gs)=true)(hd:qc P gd qF=true)(hG:qc P gwG (zz gG)=true)(hO:qc P gwO (qU gO)=true)(hL:qc P gwL (qE gL)=true)
  (hs:qc P gs xt=true) (c1:∀l:List Int,l.length<=qg->qd P gG [.fz l.length (rI .i64 l)] (.tup [.fz (gdA l).1.length (rSy (gdA l).1),.i .i64 (gdA l).2])) (c3:qvb P gO) (c4:qow P gL):qu8 P f:=fun l hl o=>by
 have ok:(gdA l).2=0->MayL (gdA l).1:=fun h=>by
  unfold gdA at h ⊢;cases hb:qkp l with
  | true=>rw[hb] at h;simp at h
  | false=>simpa using (qss hb).1
 exact qnZ hc hd hG hO hL hs ⟨by simp[clo,xH],rfl,rfl,rfl⟩ ⟨c1 l hl,fun h=>c4 _ (ok h),fun h=>c3 _ (ok h),fun h=>c4 _ (qi5 (ok h))⟩ o
theorem qqc{b:Bool}{ρ:Ren}{as:List Value}(h:VRs σ0 ρ [.nils,.b b] as):VRs σ0 ρ [.fz 0 [],.b b] as:=by
 cases h with
 | cons _ _ _ _ h1 hs=>cases h1 with
  | nils=>exact .cons _ _ _ _ (.fz0 none) hs
theorem qu8.nil{g:Nat}(h:qu8 P g)(o:Bool):qd P g [.nils,.b o] (.tup [.fz 0 [],.i .i64 2]):=fun hp k hk=>by
 have:=h [] (Nat.zero_le _) o;rw[qsr rfl o] at this;exact SC.args (this hp k hk) fun _ _=>qqc
end Go.Kc
end
