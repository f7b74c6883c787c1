/- Part 11 of the abstract machine and of the functions' walks. Conditions: with each theorem. -/
import Derived.Test.YtgaodkfneooonaaGreatBK10
set_option maxHeartbeats 4000000
set_option linter.unusedSectionVars false
set_option linter.unusedSimpArgs false
set_option linter.unusedVariables false
set_option linter.unnecessarySimpa false
section
namespace Go.Kc
def wdD(d:GData)(k:Int):Int:=(xX d).getD (k / 4).toNat 0
inductive Ev (R:List Sy) (d:GData):Nat->Int->Int->Prop where
 | ld (p:Nat) (a r:Int) (s:Sy) (h:R[p]?=some s) (hc:s.code=32) (hn:Ev R d (p+1) (wdD d s.k) r):Ev R d p a r
 | an (p:Nat) (a r:Int) (s:Sy) (h:R[p]?=some s) (hc:s.code=84) (hn:Ev R d (p+1) (xT .u32 a s.k) r):Ev R d p a r
 | rt (p:Nat) (a:Int) (s:Sy) (h:R[p]?=some s) (hc:s.code=6):Ev R d p a s.k
 | ja (p:Nat) (a r:Int) (s:Sy) (h:R[p]?=some s) (hc:s.code=5) (hn:Ev R d s.th a r):Ev R d p a r
 | jc (p:Nat) (a r:Int) (s:Sy) (h:R[p]?=some s) (hc:qdh s.code) (hn:Ev R d (if qbi s.code a s.k=true then s.th else s.el) a r):Ev R d p a r
def AtL(R:List Sy)(p:Nat)(l:List Sy):Prop:=∀(j:Nat) s,l[j]?=some s->R[p+j]?=some s
theorem AtL.self{R:List Sy}:AtL R 0 R:=fun j s h=>by rw[Nat.zero_add];exact h
theorem AtL.app{R:List Sy}{p:Nat}{l m:List Sy}(h:AtL R p (l++m)):AtL R p l∧AtL R (p+l.length) m:=by
 refine⟨fun j s hj=>h j s (by rw[List.getElem?_append_left (zzS.1 hj).1];exact hj),fun j s hj=>?_⟩
 have:=h (l.length+j) s (by rw[List.getElem?_append_right (by omega),Nat.add_sub_cancel_left];exact hj)
 rw[Nat.add_assoc];exact this
theorem AtL.hd{R:List Sy}{p:Nat}{s:Sy}{l:List Sy}(h:AtL R p (s::l)):R[p]?=some s∧AtL R (p+1) l:=by
 refine⟨by simpa using h 0 s rfl,fun j x hj=>?_⟩
 have:=h (j+1) x (by simpa using hj);rw[show p+1+j=p+(j+1) by omega];exact this
def qbW(l:List Sy)(p n:Nat):Prop:=∀(j:Nat) s,l[j]?=some s->qee s (p+j) n
theorem qbW.app{l m:List Sy}{p n:Nat}(h1:qbW l p n)(h2:qbW m (p+l.length) n):qbW (l++m) p n:=by
 intro j s hj;rw[List.getElem?_append] at hj;split at hj
 ·exact h1 j s hj
 ·rename_i hlt;have:=h2 _ s hj;rw[show p+l.length+(j-l.length)=p+j by omega] at this;exact this
theorem qbW.nil{p n:Nat}:qbW [] p n:=fun j s h=>by simp at h
theorem qbW.cons{s:Sy}{l:List Sy}{p n:Nat}(h1:qee s p n)(h2:qbW l (p+1) n):qbW (s::l) p n:=by
 intro j x hj;cases j with
 | zero=>simp at hj;subst hj;exact h1
 | succ j=>have:=h2 j x (by simpa using hj);rw[show p+1+j=p+(j+1) by omega] at this;exact this
theorem qus(n:Nat):∀(l:List Sp) (a:Nat),l.length<=n->0<l.length->∀(i:Nat) nd,(zw l a)[i]?=some nd->nd.leaf=false->a+i<nd.less∧a+i<nd.more:=by
 induction n with
 | zero=>intro l a h1 h2;omega
 | succ n ih =>
  intro l a h1 h2 i nd hnd hl;rw[zw] at hnd
  by_cases hk:l.length / 2=0
  ·rw[dif_pos hk] at hnd;cases i with
   | zero=>simp at hnd;subst hnd;simp at hl
   | succ i=>simp at hnd
  ·rw[dif_neg hk] at hnd;have hl1:=qcN n (l.take (l.length / 2)) (a+1) (by simp;omega) (by simp;omega);cases i with
   | zero=>simp at hnd;subst hnd;simp only;omega
   | succ i =>
    rw[List.getElem?_cons_succ,List.getElem?_append] at hnd;split at hnd
    ·have:=ih (l.take (l.length / 2)) (a+1) (by simp;omega) (by simp;omega) i nd hnd hl;omega
    ·rename_i hge;have:=ih (l.drop (l.length / 2)) _ (by simp;omega) (by simp;omega) _ nd hnd hl;omega
theorem qxi{T:List Nd}{FW:Nat->Nat}{b:Nat}{n:Int}{Q:Nat->Prop}(hQ:∀(i:Nat) nd,T[i]?=some nd->nd.leaf=false->Q (if nd.at'<=n then plc FW T b nd.more else plc FW T b nd.less)->Q (plc FW T b i))(m:Nat) :
  ∀(l:List Sp) (a:Nat) (c e:Int),l.length<=m->0<l.length->zY l c e->(∀(j:Nat) nd,(zw l a)[j]?=some nd->T[a+j]?=some nd)->∀w,Cov l n w->Q (FW w)->Q (plc FW T b a):=by
 induction m with
 | zero=>intro l a c e h1 h2;omega
 | succ m ih =>
  intro l a c e h1 h2 hc hT w hw hq;rw[zw] at hT
  by_cases hk:l.length / 2=0
  ·rw[dif_pos hk] at hT;obtain⟨s,rfl⟩:∃s,l=[s]:=List.length_eq_one_iff.1 (by omega);have h0:=hT 0 _ rfl;rw[Nat.add_zero] at h0;obtain⟨x,hx,_,_,rfl⟩:=hw;rw[List.mem_singleton] at hx;subst hx;unfold plc;rw[h0];simpa using hq
  ·rw[dif_neg hk] at hT;have h0:=hT 0 _ rfl;rw[Nat.add_zero] at h0;obtain⟨z,hz⟩:∃z,l[l.length / 2]?=some z:=⟨_,zzE (by omega)⟩;have hzD:l.getD (l.length / 2) ⟨0,0,0⟩=z:=by rw[List.getD_eq_getElem?_getD,hz];rfl
   rw[hzD] at h0;have hsplit:l=l.take (l.length / 2)++l.drop (l.length / 2):=(List.take_append_drop _ _).symm;rw[hsplit] at hc;obtain⟨q,hc1,hc2⟩:=zY.app.1 hc;have hd:l.drop (l.length / 2)=z::l.drop (l.length / 2+1):=by rw[← (zzS.1 hz).2,List.getElem_cons_drop]
   have hq0:z.fr=q:=by rw[hd] at hc2;exact hc2.1
   -- what lies ahead ends below q;what lies behind begins at q
   have lo:∀{l:List Sp} {c e:Int},zY l c e->∀s ∈ l,c<=s.fr∧s.to<e:=by
    intro l
    induction l with
    | nil=>intro c e _ s hs;cases hs
    | cons y l ihl =>
     intro c e h s hs;obtain⟨p1,p2,p3⟩:=h;have:=p3.le;rcases List.mem_cons.1 hs with rfl|hs
     ·omega
     ·have:=ihl p3 s hs;omega
   refine hQ a _ h0 rfl ?_;simp only;obtain⟨s,hs,s1,s2,s3⟩:=hw;rw[hsplit] at hs;rcases List.mem_append.1 hs with hs|hs
   ·have:=lo hc1 s hs;rw[if_neg (by omega)];refine ih (l.take (l.length / 2)) (a+1) c q (by simp;omega) (by simp;omega) hc1 (fun j nd hj=>?_) w ⟨s,hs,s1,s2,s3⟩ hq
    have:=hT (j+1) nd (by rw[List.getElem?_cons_succ,List.getElem?_append_left (zzS.1 hj).1];exact hj)
    rw[show a+1+j=a+(j+1) by omega];exact this
   ·have:=lo hc2 s hs;rw[if_pos (by omega)];refine ih (l.drop (l.length / 2)) _ q e (by simp;omega) (by simp;omega) hc2 (fun j nd hj=>?_) w ⟨s,hs,s1,s2,s3⟩ hq
    have:=hT ((zw (l.take (l.length / 2)) (a+1)).length+j+1) nd (by rw[List.getElem?_cons_succ,List.getElem?_append_right (by omega),Nat.add_sub_cancel_left];exact hj)
    rw[show a+1+(zw (l.take (l.length / 2)) (a+1)).length+j=a+((zw (l.take (l.length / 2)) (a+1)).length+j+1) by omega];exact this
theorem qjp{T:List Nd}:∀{i:Nat} {nd:Nd},T[i]?=some nd->z9 (T.take (i+1))=z9 (T.take i)+if nd.leaf=true then 0 else 1:=by
 intro i nd h;unfold z9;rw[qaG h,List.countP_append];cases h2:nd.leaf<;>simp[h2]
theorem qjo{T:List Nd}{i j:Nat}(h:i<=j):z9 (T.take i)<=z9 (T.take j):=by
 have:T.take i=(T.take j).take i:=by rw[List.take_take,Nat.min_eq_left h]
 rw[this];unfold z9
 conv=>rhs;rw[← List.take_append_drop i (T.take j)]
 rw[List.countP_append];omega
theorem qu6{FW:Nat->Nat}{T:List Nd}{b i:Nat}{nd:Nd}(h:T[i]?=some nd)(hl:nd.leaf=false):(brE FW T b T)[z9 (T.take i)]?=some ⟨53,nd.at',plc FW T b nd.more,plc FW T b nd.less⟩:=by
 have main:∀(u:List Nd) (i:Nat),u[i]?=some nd->(brE FW T b u)[z9 (u.take i)]?=some ⟨53,nd.at',plc FW T b nd.more,plc FW T b nd.less⟩:=by
  intro u
  induction u with
  | nil=>intro i h;simp at h
  | cons y u ih =>
   intro i h;cases i with
   | zero=>simp at h;subst h;simp[brE,qih,hl,z9]
   | succ i =>
    have:=ih i (by simpa using h);simp only[brE,List.flatMap_cons,List.take_succ_cons,z9,List.countP_cons] at this ⊢;cases hy:y.leaf with
    | true=>simp[qih,hy];exact this
    | false=>simp[qih,hy];exact this
 exact main T i h
theorem qcS{a b:Nat}(ha:a<18446744073709551616)(hb:b<18446744073709551616):xT .u64 (a:Int) (b:Int)=((a &&& b:Nat):Int):=by
 have h:a &&& b<18446744073709551616:=Nat.and_lt_two_pow a (n:=64) hb;show IntKind.wrap .u64 (((BitVec.ofInt 64 (a:Int)) &&& (BitVec.ofInt 64 (b:Int))).toNat:Int)=_;rw[BitVec.ofInt_natCast,BitVec.ofInt_natCast,BitVec.toNat_and,BitVec.toNat_ofNat,BitVec.toNat_ofNat,Nat.mod_eq_of_lt ha,Nat.mod_eq_of_lt hb,qdB (by omega) (by omega)]
theorem qcR{a b:Nat}(ha:a<4294967296)(hb:b<4294967296):xT .u32 (a:Int) (b:Int)=((a &&& b:Nat):Int):=by
 have h:a &&& b<4294967296:=Nat.and_lt_two_pow a (n:=32) hb;show IntKind.wrap .u32 (((BitVec.ofInt 32 (a:Int)) &&& (BitVec.ofInt 32 (b:Int))).toNat:Int)=_;rw[BitVec.ofInt_natCast,BitVec.ofInt_natCast,BitVec.toNat_and,BitVec.toNat_ofNat,BitVec.toNat_ofNat,Nat.mod_eq_of_lt ha,Nat.mod_eq_of_lt hb,qcD (by omega) (by omega)]
theorem qnL{a b c:Nat}:a &&& b=c↔(a % 4294967296) &&& (b % 4294967296)=c % 4294967296∧(a / 4294967296) &&& (b / 4294967296)=c / 4294967296:=by
 have e1:(a % 4294967296) &&& (b % 4294967296)=(a &&& b) % 4294967296:=(Nat.and_mod_two_pow (n:=32)).symm;have e2:(a / 4294967296) &&& (b / 4294967296)=(a &&& b) / 4294967296:=(Nat.and_div_two_pow (n:=32)).symm;rw[e1,e2];constructor
 ·intro h;rw[h];exact⟨rfl,rfl⟩
 ·rintro⟨h1,h2⟩;rw[← Nat.div_add_mod (a &&& b) 4294967296,h1,h2,Nat.div_add_mod]
theorem qit{x m v:Int}(hx:0<=x∧x<18446744073709551616)(hm:0<=m∧m<18446744073709551616)(hv:0<=v∧v<18446744073709551616):xT .u64 x m=v↔xT .u32 (loW x) (loW m)=loW v∧xT .u32 (hiW x) (hiW m)=hiW v:=by
 obtain⟨a,rfl⟩:=Int.eq_ofNat_of_zero_le hx.1;obtain⟨b,rfl⟩:=Int.eq_ofNat_of_zero_le hm.1;obtain⟨c,rfl⟩:=Int.eq_ofNat_of_zero_le hv.1;have ha:a<18446744073709551616:=by omega
 have hb:b<18446744073709551616:=by omega
 rw[qcS ha hb];have e1:loW (a:Int)=((a % 4294967296:Nat):Int):=by unfold loW;omega
 have e2:loW (b:Int)=((b % 4294967296:Nat):Int):=by unfold loW;omega
 have e3:loW (c:Int)=((c % 4294967296:Nat):Int):=by unfold loW;omega
 have e4:hiW (a:Int)=((a / 4294967296:Nat):Int):=by unfold hiW;omega
 have e5:hiW (b:Int)=((b / 4294967296:Nat):Int):=by unfold hiW;omega
 have e6:hiW (c:Int)=((c / 4294967296:Nat):Int):=by unfold hiW;omega
 rw[e1,e2,e3,e4,e5,e6,qcR (by omega) (by omega),qcR (by omega) (by omega)];have:=qnL (a:=a) (b:=b) (c:=c);constructor
 ·intro h;have h':a &&& b=c:=by omega
  obtain⟨p,q⟩:=this.1 h';exact⟨by rw[p],by rw[q]⟩
 ·rintro⟨p,q⟩;have h':a &&& b=c:=this.2 ⟨by omega,by omega⟩
  rw[h']
theorem qpC{x:Int}(hx:0<=x∧x<4294967296):xT .u32 x 4294967295=x:=by
 obtain⟨a,rfl⟩:=Int.eq_ofNat_of_zero_le hx.1;have:=qcR (a:=a) (b:=4294967295) (by omega) (by decide);rw[show ((4294967295:Nat):Int)=4294967295 from rfl] at this
 have e:a &&& 4294967295=a:=by
  have:=Nat.and_two_pow_sub_one_eq_mod a 32;rw[show 2 ^ 32-1=4294967295 from rfl] at this
  rw[this];omega
 rw[this,e]
theorem qh3{x:Int}(hx:0<=x∧x<4294967296):xT .u32 x 0=0:=by
 obtain⟨a,rfl⟩:=Int.eq_ofNat_of_zero_le hx.1;have:=qcR (a:=a) (b:=0) (by omega) (by decide);simpa using this
def EvA(R:List Sy)(d:GData)(p:Nat)(r:Int):Prop:=∀a,Ev R d p a r
section
variable {R:List Sy} {d:GData} {p F:Nat} {r:Int}
theorem qoP{k m v:Int}(h:AtL R p (qc0 k m v p F))(hw:0<=wdD d k∧wdD d k<4294967296)(hmv:m=0->v=0)(h1:xT .u32 (wdD d k) m=v->EvA R d (p+qbD m) r)(h2:xT .u32 (wdD d k) m≠v->EvA R d F r):EvA R d p r:=by
 intro a;unfold qc0 qbD at *
 by_cases m0:m=0
 ·rw[if_pos m0] at h1;have:=h1 (by rw[m0,hmv m0];exact qh3 hw);simpa using this a
 rw[if_neg m0] at h h1
 by_cases m1:m=4294967295
 ·rw[if_pos m1] at h h1;obtain⟨g1,h⟩:=h.hd;obtain⟨g2,_⟩:=h.hd;refine .ld p a r _ g1 rfl (.jc _ _ r _ g2 (.inl rfl) ?_);rw[m1,qpC hw] at h1 h2;simp only[qbi]
  by_cases e:wdD d k=v
  ·rw[if_pos (by simp[e])];exact h1 e _
  ·rw[if_neg (by simp[e])];exact h2 e _
 ·rw[if_neg m1] at h h1;obtain⟨g1,h⟩:=h.hd;obtain⟨g2,h⟩:=h.hd;obtain⟨g3,_⟩:=h.hd;refine .ld p a r _ g1 rfl (.an _ _ r _ g2 rfl (.jc _ _ r _ g3 (.inl rfl) ?_));simp only[qbi]
  by_cases e:xT .u32 (wdD d k) m=v
  ·rw[if_pos (by simp[e])];exact h1 e _
  ·rw[if_neg (by simp[e])];exact h2 e _
theorem qkt{d:GData}(hd:DatOk d)(j:Nat):0<=(xX d).getD j 0∧(xX d).getD j 0<4294967296:=by
 have:=qho (l:=xX d) (fun c hc=>qku hd hc) j
 exact⟨this.1,by have:=this.2;omega⟩
theorem qBh{d:GData}{k:Int}(h0:0<=k)(h6:k<6):wdD d (16+8*k)=loW (qkw d k)∧wdD d (16+8*k+4)=hiW (qkw d k):=by
 have:k=0∨k=1∨k=2∨k=3∨k=4∨k=5:=by omega
 rcases this with rfl|rfl|rfl|rfl|rfl|rfl<;>exact⟨rfl,rfl⟩
theorem qlo{d:GData}(hd:DatOk d){k:Int}(h0:0<=k)(h6:k<6):0<=qkw d k∧qkw d k<18446744073709551616:=by
 have:k=0∨k=1∨k=2∨k=3∨k=4∨k=5:=by omega
 have hm:qkw d k ∈ qkC d:=by rcases this with rfl|rfl|rfl|rfl|rfl|rfl<;>simp[qkw,qkC]
 exact hd.wid _ hm
theorem qvk{v m:Int}(hv:0<=v∧v<18446744073709551616)(h:qff .u64 v m=0):xT .u64 v m=v:=by
 obtain⟨a,rfl⟩:=Int.eq_ofNat_of_zero_le hv.1;have h1:IntKind.wrap .u64 (((BitVec.ofInt 64 (a:Int)) &&& ~~~ (BitVec.ofInt 64 m)).toNat:Int)=0:=h;have hlt:=((BitVec.ofInt 64 (a:Int)) &&& ~~~ (BitVec.ofInt 64 m)).isLt;rw[qdB (by omega) (by omega)] at h1;have h2:(BitVec.ofInt 64 (a:Int)) &&& ~~~ (BitVec.ofInt 64 m)=0#64:=BitVec.eq_of_toNat_eq (by simpa using h1)
 have bv:∀X Y:BitVec 64,X &&& ~~~ Y=0#64->X &&& Y=X:=fun X Y h2=>by
  apply BitVec.eq_of_getLsbD_eq;intro i hi;have:=congrArg (fun b=>b.getLsbD i) h2
  simp only[BitVec.getLsbD_and,BitVec.getLsbD_not,hi,decide_true,Bool.true_and,BitVec.getLsbD_zero] at this;rw[BitVec.getLsbD_and];revert this;cases X.getLsbD i<;>cases Y.getLsbD i<;>simp
 have h3:=bv _ _ h2;show IntKind.wrap .u64 (((BitVec.ofInt 64 (a:Int)) &&& (BitVec.ofInt 64 m)).toNat:Int)=_;rw[h3,BitVec.ofInt_natCast,BitVec.toNat_ofNat,Nat.mod_eq_of_lt (by omega),qdB (by omega) (by omega)]
structure TstG (t:GTest):Prop where
 ok:TstOk t
 sub:xT .u64 t.val t.mask=t.val
theorem TstG.lo{t:GTest}(h:TstG t):(loW t.mask=0->loW t.val=0)∧(hiW t.mask=0->hiW t.val=0):=by
 obtain⟨h1,h2⟩:=(qit ⟨h.ok.v0,h.ok.v1⟩ ⟨h.ok.m0,h.ok.m1⟩ ⟨h.ok.v0,h.ok.v1⟩).1 h.sub;have e1:0<=loW t.val∧loW t.val<4294967296:=by unfold loW;omega
 have e2:0<=hiW t.val∧hiW t.val<4294967296:=by have:=h.ok.v0;have:=h.ok.v1;unfold hiW;omega
 exact⟨fun h0=>by rw[h0,qh3 e1] at h1;exact h1.symm,fun h0=>by rw[h0,qh3 e2] at h2;exact h2.symm⟩
theorem qxd{t:GTest}(ht:TstG t)(hd:DatOk d)(h:AtL R p (qgD t p))(h1:xq t d=true->r=t.act)(h2:xq t d=false->EvA R d (p+qbz t) r):EvA R d p r:=by
 obtain⟨g1,g2⟩:=h.app;obtain⟨g1,g3⟩:=g1.app;rw[qbH] at g3;rw[List.length_append,qbH,qbH] at g2;obtain⟨w1,w2⟩:=qBh (d:=d) ht.ok.a0 ht.ok.a1
 have hh:xq t d=decide (xT .u64 (qkw d t.arg) t.mask=t.val):=by
  unfold xq;simp[ht.ok.a0,ht.ok.a1]
 have hsp:=qit (qlo hd ht.ok.a0 ht.ok.a1) ⟨ht.ok.m0,ht.ok.m1⟩ ⟨ht.ok.v0,ht.ok.v1⟩;refine qoP g1 (qkt hd _) ht.lo.1 (fun c1=>?_) (fun c1=>h2 ?_)
 ·refine qoP g3 (qkt hd _) ht.lo.2 (fun c2=>?_) (fun c2=>h2 ?_)
  ·intro a;obtain⟨g4,_⟩:=g2.hd
   have hc:xq t d=true:=by
    rw[hh,decide_eq_true_eq,hsp];rw[w1] at c1;rw[w2] at c2;exact⟨c1,c2⟩
   have:=Ev.rt (d:=d) (p+qbD (loW t.mask)+qbD (hiW t.mask)) a _ (by rw[Nat.add_assoc];exact g4) rfl;rw[h1 hc];exact this
  ·rw[hh,decide_eq_false_iff_not,hsp];rw[w2] at c2;exact fun q=>c2 q.2
 ·rw[hh,decide_eq_false_iff_not,hsp];rw[w1] at c1;exact fun q=>c1 q.1
theorem qnC(hd:DatOk d):∀{ts:List GTest} {a:Int} {p:Nat},(∀t ∈ ts,TstG t)->AtL R p (qbS ts a p)->EvA R d p (fnd (fun t=>xq t d) a ts)
 | [],a,p,_,h=>fun b=>by
  rw[qi8];exact Ev.rt p b _ h.hd.1 rfl
 | t::ts,a,p,ht,h=>by
  rw[qcZ];have h1:=ht t (List.mem_cons_self ..);unfold qbS at h;obtain⟨g1,g2⟩:=h.app;rw[qcM] at g2;refine qxd h1 hd g1 (fun hc=>by rw[if_pos hc]) fun hc=>?_
  by_cases hm:t.mask=0
  ·exfalso
   have hv:t.val=0:=by
    have:=h1.sub;rw[hm] at this;obtain⟨a,e⟩:=Int.eq_ofNat_of_zero_le h1.ok.v0;have:=qcS (a:=a) (b:=0) (by have:=h1.ok.v1;omega) (by decide)
    rw[← e] at this;simp at this;omega
   have hx:=qlo hd h1.ok.a0 h1.ok.a1;obtain⟨a,e⟩:=Int.eq_ofNat_of_zero_le hx.1;have:=qcS (a:=a) (b:=0) (by omega) (by decide);rw[← e] at this;unfold xq at hc;simp[h1.ok.a0,h1.ok.a1,hm,hv] at hc this;exact hc this
  ·rw[if_neg hm] at g2;rw[if_neg (by simp[hc])];exact qnC hd (fun x hx=>ht x (List.mem_cons_of_mem _ hx)) g2
theorem qmW{k m v:Int}{n:Nat}(hk:k % 4=0∧0<=k∧k<64)(h1:p+qbD m<n)(h2:p+qbD m<=F)(h3:F<n):qbW (qc0 k m v p F) p n:=by
 unfold qc0 qbD at *;split
 ·exact .nil
 ·rename_i m0;rw[if_neg m0] at h1 h2;split
  ·rename_i m1;rw[if_pos m1] at h1 h2;refine .cons (.inl ⟨rfl,rfl,rfl,hk⟩) (.cons (.inr (.inr (.inr ⟨.inl rfl,?_,?_,?_,?_⟩))) .nil)<;>simp only<;>omega
  ·rename_i m1;rw[if_neg m1] at h1 h2;refine .cons (.inl ⟨rfl,rfl,rfl,hk⟩) (.cons (.inr (.inl ⟨.inl rfl,rfl,rfl⟩)) (.cons (.inr (.inr (.inr ⟨.inl rfl,?_,?_,?_,?_⟩))) .nil))<;>simp only<;>omega
theorem qum{t:GTest}{n:Nat}(ht:TstOk t)(h:p+qbz t<n):qbW (qgD t p) p n:=by
 have h0:=ht.a0;have h6:=ht.a1;unfold qgD;have e:qbz t=qbD (loW t.mask)+qbD (hiW t.mask)+1:=rfl;refine .app (.app (qmW ⟨by omega,by omega,by omega⟩ (by omega) (by omega) h) ?_) ?_
 ·rw[qbH];exact qmW ⟨by omega,by omega,by omega⟩ (by omega) (by omega) h
 ·exact .cons (.inr (.inl ⟨.inr rfl,rfl,rfl⟩)) .nil
theorem qlg:∀{ts:List GTest} {a:Int} {p n:Nat},(∀t ∈ ts,TstOk t)->p+qcq ts<n->qbW (qbS ts a p) p n
 | [],_,_,_,_,_=>.cons (.inr (.inl ⟨.inr rfl,rfl,rfl⟩)) .nil
 | t::ts,a,p,n,ht,h=>by
  unfold qcq at h;unfold qbS;refine .app (qum (ht t (List.mem_cons_self ..)) (by omega)) ?_;rw[qcM]
  by_cases hm:t.mask=0
  ·rw[if_pos hm];exact .nil
  ·rw[if_neg hm] at h ⊢;exact qlg (fun x hx=>ht x (List.mem_cons_of_mem _ hx)) (by omega)
theorem qla:∀{rs:List GRule} {p n:Nat},(∀r ∈ rs,∀t ∈ r.tests,TstOk t)->p+zh rs<n->qbW (zT rs p) p n
 | [],_,_,_,_=>.nil
 | r::rs,p,n,ht,h=>by
  have e:zh (r::rs)=ql0 r+zh rs:=by simp[zh]
  unfold zT;refine .app (qlg (ht r (List.mem_cons_self ..)) (by have:qcq r.tests=ql0 r:=rfl;omega)) ?_;rw[qkb];exact qla (fun x hx=>ht x (List.mem_cons_of_mem _ hx)) (by omega)
end
structure FilG (x:GFil):Prop where
 a0:0<=x.arch
 a6:x.arch<6
 n:x.rules.length<=400
 t32:∀r ∈ x.rules,r.tests.length<=32
 ts:∀r ∈ x.rules,∀t ∈ r.tests,TstG t
 nr:∀r ∈ x.rules,0<=r.nr∧r.nr<4294967296
 up:∃o,o=(none:Option GRule)∧upR o x.rules=true
theorem qq0{t:GTest}(h:qbh t=true)(hm:0<=t.mask∧t.mask<18446744073709551616)(hv:0<=t.val∧t.val<18446744073709551616):TstG t:=by
 have ha:=qlf h;simp only[qbh,Bool.and_eq_true,decide_eq_true_eq] at h;exact⟨⟨ha.1,ha.2,hm.1,hm.2,hv.1,hv.2⟩,qvk hv h.1.2⟩
theorem FilG.of{x:GFil}(hK:xC x=true)(hx:FilR x):FilG x:=by
 simp only[xC,Bool.and_eq_true,decide_eq_true_eq] at hK;obtain⟨⟨⟨⟨k1,k2⟩,k3⟩,k4⟩,k5⟩:=hK;have hr:=qh7 k5;refine⟨k1,k2,k3,fun r h=>?_,fun r h t ht=>?_,hx.nr,none,rfl,k5⟩
 ·have:=hr r h;simp only[qbf,Bool.and_eq_true,decide_eq_true_eq] at this;exact this.1.1
 ·have:=hr r h;simp only[qbf,Bool.and_eq_true,List.all_eq_true] at this;have q:=hx.ts r h t ht;exact qq0 (this.1.2 t ht) ⟨q.1,q.2.1⟩ ⟨q.2.2.1,q.2.2.2⟩
theorem qlj:∀{rs:List GRule} {o:Option GRule} {k:Nat} {a:Int},upR o rs=true->(∀r ∈ rs,0<=r.nr∧r.nr<4294967296)->(match o with|none=>a=0|some b=>a=b.nr+1)->Ups (rs.mapIdx fun i r=>(r.nr,i+k)) a
 | [],_,_,_,_,_,_=>by simp[Ups]
 | r::rs,o,k,a,h,hn,ha=>by
  simp only[upR,Bool.and_eq_true] at h;obtain⟨⟨_,h1⟩,h2⟩:=h;rw[List.mapIdx_cons];have hr:=hn r (List.mem_cons_self ..);refine⟨?_,hr.2,?_⟩
  ·cases o with
   | none=>simp only at ha;simp only;omega
   | some b=>simp only[Option.elim,decide_eq_true_eq] at h1;simp only at ha ⊢;omega
  ·have:=qlj (o:=some r) (k:=k+1) (a:=r.nr+1) h2 (fun x hx=>hn x (List.mem_cons_of_mem _ hx)) rfl
   simpa[Nat.add_assoc,Nat.add_comm 1 k] using this
theorem FilG.ups{x:GFil}(h:FilG x):Ups (qI x.rules) 0:=by
 obtain⟨o,rfl,hu⟩:=h.up;exact qlj hu h.nr rfl
theorem qli:∀{l:List (Int×Nat)} {a:Int},Ups l a->qt6 l
 | [],_,_,i,x,y,h,_=>by simp at h
 | [x],_,_,i,y,z,h1,h2=>by simp at h2
 | x::y::l,a,⟨h1,h2,h3⟩,i,u,v,hu,hv=>by
  cases i with
  | zero=>simp at hu hv;subst hu hv;have:=h3.1;omega
  | succ i=>exact qli h3 i u v (by simpa using hu) (by simpa using hv)
section
variable {x:GFil}
theorem FilG.spans(h:FilG x):zY (zG (pcs 0 (qI x.rules) 0)) 0 4294967296∧(∀(i:Nat) r,x.rules[i]?=some r->Cov (zG (pcs 0 (qI x.rules) 0)) r.nr (i+1))∧(∀n:Int,0<=n->n<4294967296->(∀r ∈ x.rules,r.nr≠n)->Cov (zG (pcs 0 (qI x.rules) 0)) n 0) ∧
  (∀s ∈ zG (pcs 0 (qI x.rules) 0),s.way<x.rules.length+1)∧(zG (pcs 0 (qI x.rules) 0)).length<=2*x.rules.length+1:=by
 obtain⟨c1,c2,c3⟩:=qk5 (o:=0) h.ups (by omega) (by omega);obtain⟨f1,f2⟩:=qjx (l:=[]) (a:=0) rfl c1
 have hw:∀y ∈ qI x.rules,y.2<x.rules.length+1:=fun y hy=>by
  obtain⟨i,hi⟩:=List.getElem?_of_mem hy;rw[qcJ] at hi;obtain⟨r,hr,rfl⟩:=Option.map_eq_some_iff.1 hi;have:=(zzS.1 hr).1;simp only;omega
 obtain⟨g1,g2⟩:=qkQ (m:=x.rules.length+1) (k:=pcs 0 (qI x.rules) 0) (l:=[]) (fun y hy=>by cases hy) (qnk (by omega) hw)
 have hl:=qo5 (o:=0) (l:=qI x.rules) (a:=0);refine⟨f1,fun i r hr=>?_,fun n h0 h1 hn=>?_,g1,?_⟩
 ·have hm:(r.nr,i+1) ∈ qI x.rules:=zzM (i:=i) (by rw[qcJ,hr];rfl);exact f2 _ _ (.inr (c2 _ hm))
 ·refine f2 _ _ (.inr (c3 n h0 h1 fun y hy=>?_))
  obtain⟨i,hi⟩:=List.getElem?_of_mem hy;rw[qcJ] at hi;obtain⟨r,hr,rfl⟩:=Option.map_eq_some_iff.1 hi;exact hn r (zzM hr)
 ·rw[qaD] at hl;simp only[List.length_nil] at g2;show (List.foldl jj [] (pcs 0 (qI x.rules) 0)).length<=_;omega
theorem FilG.pos(h:FilG x):0<(zG (pcs 0 (qI x.rules) 0)).length:=by
 obtain⟨c,_⟩:=h.spans;rcases Nat.eq_zero_or_pos (zG (pcs 0 (qI x.rules) 0)).length with h0|h0
 ·rw[List.eq_nil_of_length_eq_zero h0] at c;simp[zY] at c
 ·exact h0
theorem FilG.tlen(h:FilG x):(qO x).length+1=2*(zG (pcs 0 (qI x.rules) 0)).length:=qcN _ _ 0 (Nat.le_refl _) h.pos
theorem qkF(n:Nat):∀(l:List Sp) (a:Nat),l.length<=n->0<l.length->z9 (zw l a)+1=l.length:=by
 induction n with
 | zero=>intro l a h1 h2;omega
 | succ n ih =>
  intro l a h1 h2;rw[zw]
  by_cases hk:l.length / 2=0
  ·rw[dif_pos hk];simp[z9];omega
  ·rw[dif_neg hk];have e1:=ih (l.take (l.length / 2)) (a+1) (by simp;omega) (by simp;omega);have e2:=ih (l.drop (l.length / 2)) (a+1+(zw (l.take (l.length / 2)) (a+1)).length) (by simp;omega) (by simp;omega);simp only[z9,List.countP_cons,List.countP_append] at e1 e2 ⊢;simp at e1 e2 ⊢;omega
theorem FilG.dfl(h:FilG x):jn x<=4+max 1 (2*x.rules.length)∧(qO x).length<=4*x.rules.length+1:=by
 have ha:=qkF _ (zG (pcs 0 (qI x.rules) 0)) 0 (Nat.le_refl _) h.pos;have ht:=h.tlen;have hl:=h.spans.2.2.2.2;have ho:=qo3 (a:=x.arch);have e:z9 (qO x)+1=(zG (pcs 0 (qI x.rules) 0)).length:=ha
 have hj:jaN (qO x)+z9 (qO x)<=max 1 (2*x.rules.length):=by
  have hj1:jaN (qO x)<=1:=by cases qO x with
   | nil=>simp[jaN]
   | cons n T=>simp only[jaN];split<;>omega
  have hj2:2<=(zG (pcs 0 (qI x.rules) 0)).length->jaN (qO x)=0:=fun h2=>by
   unfold qO;rw[zw,dif_neg (by omega)];rfl
  by_cases h2:2<=(zG (pcs 0 (qI x.rules) 0)).length
  ·rw[hj2 h2];omega
  ·omega
 unfold jn;omega
theorem FilG.tne(h:FilG x):qO x≠[]:=fun e=>by have:=h.tlen;rw[e] at this;simp at this;omega
theorem FilG.nodes(h:FilG x):∀nd ∈ qO x,NdOk (x.rules.length+1) (qO x).length nd:=fun nd hnd=>by
 obtain⟨q1,q2,q3,q4⟩:=qxj _ _ 0 (Nat.le_refl _) h.pos h.spans.2.2.2.1 nd hnd;rw[Nat.zero_add] at q3 q4;exact⟨q1,q3,q4⟩
end
section
variable {x:GFil}
theorem qkp{j:Nat}:jn x<=xK x j∧xK x j<=xH x:=by
 unfold xK xH;have:=qiO (rs:=x.rules) (i:=j-1);split<;>omega
theorem qAx{a:Int}{F n:Nat}(h1:4<n)(h2:4<=F)(h3:F<n):qbW (qa3 a 0 F) 0 n:=by
 unfold qa3;refine .app (.cons (.inl ⟨rfl,rfl,rfl,by decide,by decide,by decide⟩) (.cons (.inr (.inr (.inr ⟨.inl rfl,?_,?_,?_,?_⟩))) (.cons (.inl ⟨rfl,rfl,rfl,by decide,by decide,by decide⟩) .nil))) ?_
 ·simp only;omega
 ·simp only;omega
 ·simp only;omega
 ·simp only;omega
 ·show qbW _ (0+3) n;split
  ·refine .cons (.inr (.inr (.inr ⟨.inr (.inr (.inr rfl)),?_,?_,?_,?_⟩))) .nil<;>simp only<;>omega
  ·split
   ·refine .cons (.inr (.inr (.inr ⟨.inr (.inr (.inr rfl)),?_,?_,?_,?_⟩))) .nil<;>simp only<;>omega
   ·exact .nil
theorem qrw{FW:Nat->Nat}{T:List Nd}{b n:Nat}(hF:∀j,b+z9 T<=FW j∧FW j<n)(hfw:∀(i:Nat) nd,T[i]?=some nd->nd.leaf=false->i<nd.less∧i<nd.more∧nd.less<T.length∧nd.more<T.length)(hbn:b+z9 T<n) :
  ∀(u:List Nd) (k:Nat),T.drop k=u->qbW (u.flatMap (qih FW T b)) (b+z9 (T.take k)) n
 | [],_,_=>.nil
 | nd::u,k,h=>by
  have hk:T[k]?=some nd:=by rw[← List.head?_drop,h];rfl
  have hu:T.drop (k+1)=u:=by rw[← List.tail_drop,h];rfl
  have ih:=qrw hF hfw hbn u (k+1) hu;rw[qjp hk] at ih;rw[List.flatMap_cons];cases hl:nd.leaf with
  | true =>
   have e:qih FW T b nd=[]:=by simp[qih,hl]
   rw[hl] at ih;rw[e];simpa using ih
  | false =>
   have e:qih FW T b nd=[⟨53,nd.at',plc FW T b nd.more,plc FW T b nd.less⟩]:=by simp[qih,hl]
   rw[hl] at ih;simp only[Bool.false_eq_true,if_false] at ih ⊢;rw[e,List.singleton_append]
   have key:∀j,k<j->j<T.length->b+z9 (T.take k)<plc FW T b j∧plc FW T b j<n:=fun j h1 h2=>by
    have h3:z9 (T.take (k+1))<=z9 (T.take j):=qjo h1
    have h4:z9 (T.take j)<=z9 T:=by
     have:=qjo (T:=T) (i:=j) (j:=T.length) (by omega);rwa [List.take_length] at this
    rw[qjp hk,hl] at h3;simp only[Bool.false_eq_true,if_false] at h3;unfold plc;rw[zzE h2];simp only;split
    ·have:=hF T[j].way;omega
    ·omega
   obtain⟨f1,f2,f3,f4⟩:=hfw k nd hk hl;obtain⟨m1,m2⟩:=key nd.more f2 f4;obtain⟨l1,l2⟩:=key nd.less f1 f3;exact .cons (.inr (.inr (.inr ⟨.inr (.inr (.inl rfl)),m1,m2,l1,l2⟩))) (by rw[Nat.add_assoc];exact ih)
theorem FilG.fwd(h:FilG x):∀(i:Nat) nd,(qO x)[i]?=some nd->nd.leaf=false->i<nd.less∧i<nd.more∧nd.less<(qO x).length∧nd.more<(qO x).length:=fun i nd hi hl=>by
 obtain⟨q1,q2⟩:=qus _ _ 0 (Nat.le_refl _) h.pos i nd hi hl;have:=h.nodes nd (zzM hi);exact⟨by omega,by omega,this.less,this.more⟩
theorem qr4(h:FilG x):qbW (ze x) 0 (xH x+1):=by
 have hd:jn x=ju x.arch+(jaN (qO x)+z9 (qO x)):=rfl;have hN:xH x=jn x+1+zh x.rules:=rfl;have ho:3<=ju x.arch∧ju x.arch<=4:=by unfold ju;split;omega;split<;>omega
 have hpos:0<jaN (qO x)+z9 (qO x):=by
  have ha:=qkF _ (zG (pcs 0 (qI x.rules) 0)) 0 (Nat.le_refl _) h.pos;have e:z9 (qO x)+1=(zG (pcs 0 (qI x.rules) 0)).length:=ha
  by_cases h2:2<=(zG (pcs 0 (qI x.rules) 0)).length
  ·omega
  ·have hj:jaN (qO x)=1:=by unfold qO;rw[zw,dif_pos (by have:=h.pos;omega)];rfl
   omega
 have ht:∀r ∈ x.rules,∀t ∈ r.tests,TstOk t:=fun r hr t ht=>(h.ts r hr t ht).ok
 unfold ze;refine .app (.app (.app (.app (qAx (by omega) (by omega) (by omega)) ?_) ?_) ?_) ?_
 ·rw[jA,Nat.zero_add];unfold xd;refine .app ?_ ?_
  ·cases hT:qO x with
   | nil=>exact .nil
   | cons nd T =>
    simp only[jaE];split
    ·rename_i hl;rw[hT] at hd;simp only[jaN,if_pos hl] at hd;have:=(qkp (x:=x) (j:=nd.way)).1;have:=(qkp (x:=x) (j:=nd.way)).2;exact .cons (.inr (.inr (.inl ⟨rfl,rfl,rfl,by simp only;omega,by simp only;omega⟩))) .nil
    ·exact .nil
  ·rw[qlI];have:=qrw (FW:=xK x) (T:=qO x) (b:=ju x.arch+jaN (qO x)) (n:=xH x+1) (fun j=>by have:=qkp (x:=x) (j:=j);omega) h.fwd (by omega) (qO x) 0 rfl
   unfold brE;simpa[z9] using this
 ·refine .cons (.inr (.inl ⟨.inr rfl,rfl,rfl⟩)) .nil
 ·have e:0+(qa3 x.arch 0 (xH x)++xd (xK x) (qO x) (ju x.arch)++[(⟨6,x.dflt,0,0⟩:Sy)]).length=jn x+1:=by
   simp only[List.length_append,jA,ji,List.length_singleton];unfold jn;omega
  rw[e];exact qla ht (by omega)
 ·refine .cons (.inr (.inl ⟨.inr rfl,rfl,rfl⟩)) .nil
theorem FilG.rN(h:FilG x):zh x.rules<=x.rules.length*225:=qin h.t32
theorem qfk(h:FilG x):MayL (ze x):=by
 have hl:=qkM (x:=x);have hd:=h.dfl.1;have hr:=h.rN;have hn:=h.n;have hN:xH x=jn x+1+zh x.rules:=rfl;refine⟨by omega,by omega,⟨⟨6,2147418112,0,0⟩,?_,rfl⟩,fun j s hj=>?_⟩
 ·rw[hl]
  have e:xH x+1-1=(qa3 x.arch 0 (xH x)++xd (xK x) (qO x) (ju x.arch)++[(⟨6,x.dflt,0,0⟩:Sy)]++zT x.rules (jn x+1)).length:=by
   simp only[List.length_append,jA,ji,List.length_singleton,qa5];unfold xH jn;omega
  rw[e];unfold ze;simp
 ·have:=qr4 h j s hj;rw[hl,Nat.zero_add] at *;exact this
end
def qoS(a:Int)(d:GData):Prop:=d.arch=qcB a∧(a=0->xT .u32 d.nr 1073741824=0)∧(a=2->xT .u32 d.nr 1073741824≠0)
theorem qtJ{a:Int}(h0:0<=a)(h6:a<6)(d:GData):((ofM d.arch d.nr).2=false∨(ofM d.arch d.nr).1≠a)↔¬qoS a d:=by
 unfold qoS ofM;generalize d.arch=t;generalize xT .u32 d.nr 1073741824=z;have ha:a=0∨a=1∨a=2∨a=3∨a=4∨a=5:=by omega
 have e:∀c:Int,xy (fun x:List UInt8×Int=>decide (x.2=t)) qZ 0=c↔(if t=3221225534 then 0 else if t=1073741827 then 1 else if t=1073741864 then 3 else if t=3221225655 then 4 else if t=3221225715 then 5 else -1)=c:=by
  intro c
  have:xy (fun x:List UInt8×Int=>decide (x.2=t)) qZ 0=(if t=3221225534 then 0 else if t=1073741827 then 1 else if t=1073741864 then 3 else if t=3221225655 then 4 else if t=3221225715 then 5 else -1):=by
   simp only[qZ,xy,decide_eq_true_eq]
   by_cases h1:t=3221225534
   ·simp[h1]
   by_cases h2:t=1073741827
   ·simp[h2]
   by_cases h3:t=1073741864
   ·simp[h3]
   by_cases h4:t=3221225655
   ·simp[h4]
   by_cases h5:t=3221225715
   ·simp[h5]
   simp only[h1,h2,h3,h4,h5,eq_comm (b:=t),if_false]
  rw[this]
 have e0:=(e _).2 rfl;rw[e0];rcases ha with rfl|rfl|rfl|rfl|rfl|rfl
 all_goals
  simp only[qcB,qZ]
  by_cases h1:t=3221225534
  ·by_cases hz:z=0<;>simp[h1,hz]
  by_cases h2:t=1073741827
  ·simp[h2]
  by_cases h3:t=1073741864
  ·simp[h3]
  by_cases h4:t=3221225655
  ·simp[h4]
  by_cases h5:t=3221225715
  ·simp[h5]
  simp[h1,h2,h3,h4,h5]
section
variable {R:List Sy} {d:GData} {r:Int}
theorem qAw{a:Int}{N:Nat}(h0:0<=a)(h6:a<6)(hd:DatOk d)(h:AtL R 0 (qa3 a 0 N))(h1:qoS a d->Ev R d (ju a) d.nr r)(h2:¬qoS a d->EvA R d N r):EvA R d 0 r:=by
 intro b;unfold qa3 at h;obtain⟨g,h3⟩:=h.app;obtain⟨g1,g⟩:=g.hd;obtain⟨g2,g⟩:=g.hd;obtain⟨g3,_⟩:=g.hd;have w4:wdD d 4=d.arch:=rfl;have w0:wdD d 0=d.nr:=rfl;refine .ld 0 b r _ g1 rfl (.jc _ _ r _ g2 (.inl rfl) ?_);simp only[qbi,w4]
 by_cases ht:d.arch=qcB a
 ·rw[if_pos (by simp[ht])];refine .ld _ _ r _ g3 rfl ?_;simp only[w0];have h3:AtL R 3 _:=h3
  have hz:∀z:Int,(0<xT .u32 d.nr 1073741824)↔xT .u32 d.nr 1073741824≠0:=fun _=>by
   obtain⟨n,e⟩:=Int.eq_ofNat_of_zero_le hd.nr0;have hn:=hd.nr1;have:=qcR (a:=n) (b:=1073741824) (by omega) (by decide);rw[← e] at this;rw[show ((1073741824:Nat):Int)=1073741824 from rfl] at this
   rw[this];omega
  by_cases a0:a=0
  ·rw[if_pos a0] at h3;have hoN:ju a=4:=by simp[ju,a0]
   rw[hoN] at h1;refine .jc _ _ r _ h3.hd.1 (.inr (.inr (.inr rfl))) ?_;simp only[qbi]
   by_cases hb:xT .u32 d.nr 1073741824=0
   ·have e:¬(0:Int)<xT .u32 d.nr 1073741824:=by omega
    rw[if_neg (by simp[hb])];exact h1 ⟨ht,fun _=>hb,fun h=>by omega⟩
   ·have e:=(hz 0).2 hb;rw[if_pos (by simp[e])];exact h2 (fun q=>hb (q.2.1 a0)) _
  ·rw[if_neg a0] at h3
   by_cases a2:a=2
   ·rw[if_pos a2] at h3;have hoN:ju a=4:=by simp[ju,a2]
    rw[hoN] at h1;refine .jc _ _ r _ h3.hd.1 (.inr (.inr (.inr rfl))) ?_;simp only[qbi]
    by_cases hb:xT .u32 d.nr 1073741824=0
    ·rw[if_neg (by simp[hb])];exact h2 (fun q=>q.2.2 a2 hb) _
    ·have e:=(hz 0).2 hb;rw[if_pos (by simp[e])];exact h1 ⟨ht,fun h=>absurd h a0,fun _=>hb⟩
   ·have hoN:ju a=3:=by simp[ju,a0,a2]
    rw[hoN] at h1;exact h1 ⟨ht,fun h=>absurd h a0,fun h=>absurd h a2⟩
 ·rw[if_neg (by simp[ht])];exact h2 (fun q=>ht q.1) _
theorem qk9:∀{rs:List GRule} {p:Nat} {i:Nat} {q:GRule},AtL R p (zT rs p)->rs[i]?=some q->AtL R (p+zh (rs.take i)) (qqU q (p+zh (rs.take i)))
 | [],_,_,_,_,h=>by simp at h
 | y::rs,p,i,q,h,hi=>by
  unfold zT at h;obtain⟨g1,g2⟩:=h.app;rw[qkb] at g2;cases i with
  | zero=>simp at hi;subst hi;simpa[zh] using g1
  | succ i =>
   have:=qk9 g2 (by simpa using hi);simpa[zh,Nat.add_assoc] using this
theorem qhl{x:GFil}:qfj x d=if (ofM d.arch d.nr).2=false∨(ofM d.arch d.nr).1≠x.arch then 2147418112 else match x.rules.find? (fun r=>decide (r.nr=d.nr)) with|none=>x.dflt|some r=>fnd (fun t=>xq t d) r.act r.tests:=by
 unfold qfj fnd;rfl
theorem qoG{x:GFil}(h:FilG x)(hd:DatOk d):EvA (ze x) d 0 (qfj x d):=by
 have hR:=AtL.self (R:=ze x);have hR0:AtL (ze x) 0 (ze x):=hR;unfold ze at hR;obtain⟨hR,hA5⟩:=hR.app;obtain⟨hR,hA4⟩:=hR.app;obtain⟨hR,hA3⟩:=hR.app;obtain⟨hA1,hA2⟩:=hR.app;rw[show (qa3 x.arch 0 (xH x)++xd (xK x) (qO x) (ju x.arch)++[(⟨6,x.dflt,0,0⟩:Sy)]++zT x.rules (jn x+1)++[(⟨6,2147418112,0,0⟩:Sy)])=ze x from rfl] at hA1 hA2 hA3 hA4 hA5
 have e3:0+(qa3 x.arch 0 (xH x)++xd (xK x) (qO x) (ju x.arch)).length=jn x:=by simp only[List.length_append,jA,ji];unfold jn;omega
 have e4:0+(qa3 x.arch 0 (xH x)++xd (xK x) (qO x) (ju x.arch)++[(⟨6,x.dflt,0,0⟩:Sy)]).length=jn x+1:=by simp only[List.length_append,jA,ji,List.length_singleton];unfold jn;omega
 have e5:0+(qa3 x.arch 0 (xH x)++xd (xK x) (qO x) (ju x.arch)++[(⟨6,x.dflt,0,0⟩:Sy)]++zT x.rules (jn x+1)).length=xH x:=by simp only[List.length_append,jA,ji,List.length_singleton,qa5];unfold xH jn;omega
 rw[jA,Nat.zero_add] at hA2;rw[e3] at hA3;rw[e4] at hA4;rw[e5] at hA5;rw[qhl];refine qAw h.a0 h.a6 hd hA1 (fun hown=>?_) (fun hown=>?_)
 ·rw[if_neg (fun q=>(qtJ h.a0 h.a6 d).1 q hown)]
  obtain⟨c1,c2,c3,_,_⟩:=h.spans
  -- the code of a way
  have way:∀w,Cov (zG (pcs 0 (qI x.rules) 0)) d.nr w->Ev (ze x) d (xK x w) d.nr (match x.rules.find? (fun r=>decide (r.nr=d.nr)) with|none=>x.dflt|some r=>fnd (fun t=>xq t d) r.act r.tests)->Ev (ze x) d (ju x.arch) d.nr (match x.rules.find? (fun r=>decide (r.nr=d.nr)) with|none=>x.dflt|some r=>fnd (fun t=>xq t d) r.act r.tests):=by
   intro w hw he;unfold xd at hA2;obtain⟨j1,j2⟩:=hA2.app
   have ht:=qxi (T:=qO x) (FW:=xK x) (b:=ju x.arch+jaN (qO x)) (n:=d.nr) (Q:=fun i=>Ev (ze x) d i d.nr (match x.rules.find? (fun r=>decide (r.nr=d.nr)) with|none=>x.dflt|some r=>fnd (fun t=>xq t d) r.act r.tests)) (fun i nd hi hl hq=>by
    have hp:plc (xK x) (qO x) (ju x.arch+jaN (qO x)) i=ju x.arch+jaN (qO x)+z9 ((qO x).take i):=by unfold plc;rw[hi];simp[hl]
    have hg:=j2 _ _ (qu6 (FW:=xK x) (b:=ju x.arch+(jaE (xK x) (qO x)).length) hi hl);rw[qlI] at hg;rw[hp];refine .jc _ _ _ _ hg (.inr (.inr (.inl rfl))) ?_;simp only[qbi]
    by_cases hn:nd.at'<=d.nr
    ·rw[if_pos hn] at hq;rw[if_pos (by simp[hn])];exact hq
    ·rw[if_neg hn] at hq;rw[if_neg (by simp[hn])];exact hq) _ (zG (pcs 0 (qI x.rules) 0)) 0 0 4294967296 (Nat.le_refl _) h.pos c1 (fun j nd hj=>by rw[Nat.zero_add];exact hj) w hw he
   cases hT:qO x with
   | nil=>exact absurd hT h.tne
   | cons nd T =>
    rw[hT] at ht j1;cases hl:nd.leaf with
    | true =>
     simp only[jaE,if_pos hl] at j1;refine .ja _ _ _ _ j1.hd.1 rfl ?_;simp only[plc,List.getElem?_cons_zero,if_pos hl] at ht;exact ht
    | false =>
     simp only[plc,List.getElem?_cons_zero,hl,Bool.false_eq_true,if_false,jaN,List.take_zero,z9,List.countP_nil,Nat.add_zero] at ht;exact ht
  cases hf:x.rules.find? (fun r=>decide (r.nr=d.nr)) with
  | none =>
   rw[hf] at way
   have hnone:∀q ∈ x.rules,q.nr≠d.nr:=fun q hq he=>by
    have:=List.find?_eq_none.1 hf q hq;simp[he] at this
   refine way 0 (c3 d.nr hd.nr0 (by have:=hd.nr1;omega) hnone) ?_;exact Ev.rt (jn x) d.nr _ hA3.hd.1 rfl
  | some q =>
   rw[hf] at way;have hqm:=List.mem_of_find?_eq_some hf;have hqn:q.nr=d.nr:=by have:=List.find?_some hf;simpa using this
   obtain⟨i,hi⟩:=List.getElem?_of_mem hqm;have hc:=c2 i q hi;rw[hqn] at hc;refine way (i+1) hc ?_;have ha:=qk9 hA4 hi;have hw:xK x (i+1)=jn x+1+zh (x.rules.take i):=by simp[xK]
   rw[hw];exact qnC hd (h.ts q hqm) ha _
 ·rw[if_pos ((qtJ h.a0 h.a6 d).2 hown)];intro a;exact Ev.rt (xH x) a _ hA5.hd.1 rfl
end
theorem qaf{c:Int}(h:qdh c):ql c=4∧c≠5∧c≠6:=by
 rcases h with rfl|rfl|rfl|rfl<;>decide
theorem qd5:ql 32=1∧ql 84=3∧ql 6=5∧ql 5=4:=by decide
section
variable {l R:List Sy} {d:GData} {r:Int}
theorem qee.ja{s:Sy}{j n:Nat}(h:qee s j n)(h5:s.code=5):s.k=0∧s.el=0∧j<s.th∧s.th<n:=by
 rcases h with⟨q,_⟩|⟨q,_⟩|⟨_,q⟩|⟨q,_⟩
 ·omega
 ·omega
 ·exact q
 ·exact absurd h5 (qaf q).2.1
theorem qee.jc{s:Sy}{j n:Nat}(h:qee s j n)(ha:qdh s.code):j<s.th∧s.th<n∧j<s.el∧s.el<n:=by
 have h5:=qaf ha;unfold qdh at ha;rcases h with⟨q,_⟩|⟨q,_⟩|⟨q,_⟩|⟨_,q⟩
 ·omega
 ·omega
 ·omega
 ·exact q
theorem qee.jmp{s:Sy}{j n:Nat}(h:qee s j n)(hj:qbj s):s.code=5∨qdh s.code:=by
 unfold qbj at hj;obtain⟨c1,c2,c3,c4⟩:=qd5;rcases h with⟨q,_⟩|⟨q,_⟩|⟨q,_⟩|⟨q,_⟩
 ·rw[q,c1] at hj;omega
 ·rcases q with q|q
  ·rw[q,c2] at hj;omega
  ·rw[q,c3] at hj;omega
 ·exact .inl q
 ·exact .inr q
theorem qee.ask{s:Sy}{j n:Nat}(h:qee s j n)(hj:qcf s):qdh s.code:=(h.jmp hj.1).resolve_left hj.2
theorem MayL.in(h:MayL l):qkD l:=by
 intro x hx j hj;obtain⟨i,hi⟩:=List.getElem?_of_mem hx;have hm:=h.all i x hi;rcases hj with⟨q,rfl⟩|⟨q,rfl⟩
 ·rcases hm.jmp q with q|q
  ·exact (hm.ja q).2.2.2
  ·exact (hm.jc q).2.1
 ·exact (hm.jc (hm.ask q)).2.2.2
theorem MayL.on(h:MayL l):qxo l:=by
 intro j x hx h6 h4;have hj:=(zzS.1 hx).1;obtain⟨s,hs,hs6⟩:=h.last;rcases Nat.lt_or_ge (j+1) l.length with q|q
 ·exact q
 ·have e:l.length-1=j:=by omega
  rw[e,hx] at hs;cases hs;exact absurd hs6 h6
theorem MayL.hin(h:MayL l):∀x ∈ l,∀j:Nat,(x.code=5∨ql x.code=4)∧j=x.th∨(ql x.code=4∧x.code≠5)∧j=x.el->j<l.length:=by
 intro x hx j hj;refine h.in x hx j ?_
 rcases hj with⟨q,e⟩|q
 ·refine .inl ⟨?_,e⟩;rcases q with q|q
  ·unfold qbj;rw[q];exact qd5.2.2.2
  ·exact q
 ·exact .inr q
theorem Ev.at6{p:Nat}{a:Int}{s:Sy}(h:Ev R d p a r)(hs:R[p]?=some s)(h6:s.code=6):r=s.k:=by
 cases h with
 | ld _ _ _ x hx hc=>rw[hs] at hx;cases hx;omega
 | an _ _ _ x hx hc=>rw[hs] at hx;cases hx;omega
 | rt _ _ x hx hc=>rw[hs] at hx;cases hx;rfl
 | ja _ _ _ x hx hc=>rw[hs] at hx;cases hx;omega
 | jc _ _ _ x hx hc=>rw[hs] at hx;cases hx;exact absurd h6 (qaf hc).2.2
theorem Ev.at5{p:Nat}{a:Int}{s:Sy}(h:Ev R d p a r)(hs:R[p]?=some s)(h5:s.code=5):Ev R d s.th a r:=by
 cases h with
 | ld _ _ _ x hx hc=>rw[hs] at hx;cases hx;omega
 | an _ _ _ x hx hc=>rw[hs] at hx;cases hx;omega
 | rt _ _ x hx hc=>rw[hs] at hx;cases hx;omega
 | ja _ _ _ x hx hc hn=>rw[hs] at hx;cases hx;exact hn
 | jc _ _ _ x hx hc=>rw[hs] at hx;cases hx;exact absurd h5 (qaf hc).2.1
theorem jr{to:Nat->Nat}{s:Sy}(h:¬qbj s):qa2 to s=s:=by
 unfold qa2;rw[if_neg h,if_neg (fun q=>h q.1)]
theorem qhH{to:Nat->Nat}{s:Sy}(h:s.code=5):qa2 to s=⟨s.code,s.k,to s.th,s.el⟩:=by
 have hj:qbj s:=by unfold qbj;rw[h];exact qd5.2.2.2
 unfold qa2;rw[if_pos hj,if_neg (fun q=>q.2 h)]
theorem qhI{to:Nat->Nat}{s:Sy}(h:qdh s.code):qa2 to s=⟨s.code,s.k,to s.th,to s.el⟩:=by
 have hj:=qaf h;unfold qa2;rw[if_pos (show qbj s from hj.1),if_pos (show qcf s from⟨hj.1,hj.2.1⟩)]
theorem xN{s:Sy}(h:s.code=32∨s.code=84∨s.code=6):¬qbj s:=by
 unfold qbj;rcases h with h|h|h<;>rw[h]<;>decide
theorem qnh{to:Nat->Nat}{s:Sy}{j n:Nat}(h:qee s j n)(ht:∀q,j<q->q<n->j<to q∧to q<n):qee (qa2 to s) j n:=by
 rcases h with q|q|⟨q,q1,q2,q3,q4⟩|⟨q,q1,q2,q3,q4⟩
 ·rw[jr (xN (.inl q.1))];exact .inl q
 ·rw[jr (xN (.inr q.1))];exact .inr (.inl q)
 ·rw[qhH q];obtain⟨t1,t2⟩:=ht _ q3 q4;exact .inr (.inr (.inl ⟨q,q1,q2,t1,t2⟩))
 ·rw[qhI q];obtain⟨t1,t2⟩:=ht _ q1 q2;obtain⟨t3,t4⟩:=ht _ q3 q4;exact .inr (.inr (.inr ⟨q,t1,t2,t3,t4⟩))
-- shared
theorem qAT(h:MayL l){j:Nat}(hj:j<l.length):j<=qdc l j∧qdc l j<l.length:=by
 unfold qdc;rw[zzE hj];simp only;split
 ·rename_i h6;obtain⟨i,y,q1,q2,q3,_⟩:=qid (zzE hj) h6;rw[q1];exact⟨q2,(zzS.1 q3).1⟩
 ·exact⟨Nat.le_refl _,hj⟩
theorem qcz{j:Nat}:(qen l)[j]?=(l[j]?).map (qa2 (qdc l)):=by unfold qen;rw[List.getElem?_map]
theorem qhU:(qen l).length=l.length:=by unfold qen;rw[List.length_map]
theorem qhV(h:MayL l):MayL (qen l):=by
 refine⟨by rw[qhU];exact h.pos,by rw[qhU];exact h.big,?_,fun j s hj=>?_⟩
 ·obtain⟨s,hs,h6⟩:=h.last;exact⟨s,by rw[qhU,qcz,hs];simp[jr (xN (.inr (.inr h6)))],h6⟩
 ·rw[qcz] at hj;obtain⟨x,hx,rfl⟩:=Option.map_eq_some_iff.1 hj;rw[qhU];exact qnh (h.all j x hx) fun q q1 q2=>by have:=qAT h q2;omega
theorem ql3(h:MayL l){j:Nat}{a:Int}(hj:j<l.length)(he:Ev (qen l) d j a r):Ev (qen l) d (qdc l j) a r:=by
 unfold qdc;rw[zzE hj];simp only;split
 ·rename_i h6;obtain⟨i,y,q1,q2,q3,q4,q5⟩:=qid (zzE hj) h6;rw[q1];have hg:(qen l)[j]?=some l[j]:=by rw[qcz,zzE hj];simp[jr (xN (.inr (.inr h6)))]
  have hr:=he.at6 hg h6;rw[hr,← q5];exact Ev.rt i a y (by rw[qcz,q3];simp[jr (xN (.inr (.inr q4)))]) q4
 ·exact he
theorem qAS(h:MayL l):∀{p:Nat} {a:Int},Ev l d p a r->Ev (qen l) d p a r:=by
 intro p a he
 induction he with
 | ld p a r s hs hc _ ih=>exact .ld p a r s (by rw[qcz,hs];simp[jr (xN (.inl hc))]) hc ih
 | an p a r s hs hc _ ih=>exact .an p a r s (by rw[qcz,hs];simp[jr (xN (.inr (.inl hc)))]) hc ih
 | rt p a s hs hc=>exact .rt p a s (by rw[qcz,hs];simp[jr (xN (.inr (.inr hc)))]) hc
 | ja p a r s hs hc _ ih =>
  have hm:=(h.all p s hs).ja hc;exact .ja p a r ⟨s.code,s.k,qdc l s.th,s.el⟩ (by rw[qcz,hs,← qhH hc];rfl) hc (ql3 h hm.2.2.2 ih)
 | jc p a r s hs hc _ ih =>
  have hm:=(h.all p s hs).jc hc;refine .jc p a r ⟨s.code,s.k,qdc l s.th,qdc l s.el⟩ (by rw[qcz,hs,← qhI hc];rfl) hc ?_;simp only;split
  ·rename_i q;rw[if_pos q] at ih;exact ql3 h hm.2.1 ih
  ·rename_i q;rw[if_neg q] at ih;exact ql3 h hm.2.2.2 ih
-- threaded
theorem qA9(h:MayL R){j:Nat}(hj:j<R.length):j<=xL R j∧xL R j<R.length:=by
 unfold xL;rw[zzE hj];simp only;split
 ·rename_i h5;have:=(h.all j _ (zzE hj)).ja h5;omega
 ·exact⟨Nat.le_refl _,hj⟩
theorem qnD(h:MayL R){i:Nat}{x:Sy}(hx:R[i]?=some x):qee (qa7 R x) i R.length∧((x.code=6)->qa7 R x=x):=by
 have hm:=qnh (h.all i x hx) (to:=xL R) fun q q1 q2=>by have:=qA9 h q2;omega
 refine⟨?_,fun h6=>?_⟩
 ·unfold qa7;split
  ·rename_i q;have ha:=hm.ask q.1;have:=hm.jc ha;exact .inr (.inr (.inl ⟨rfl,rfl,rfl,this.1,this.2.1⟩))
  ·exact hm
 ·have e:=jr (to:=xL R) (xN (s:=x) (.inr (.inr h6)));unfold qa7;rw[e,if_neg (fun q=>xN (.inr (.inr h6)) q.1.1)]
theorem quq(h:MayL R){i:Nat}{x:Sy}(hx:R[i]?=some x):MayL (R.set i (qa7 R x)):=by
 have hi:=(zzS.1 hx).1;refine⟨by rw[List.length_set];exact h.pos,by rw[List.length_set];exact h.big,?_,fun j s hj=>?_⟩
 ·obtain⟨s,hs,h6⟩:=h.last;refine⟨s,?_,h6⟩;rw[List.length_set,List.getElem?_set]
  by_cases e:i=R.length-1
  ·rw[← e,hx] at hs;cases hs;rw[if_pos e,if_pos (by omega),(qnD h hx).2 h6]
  ·rw[if_neg e];exact hs
 ·rw[List.length_set];rw[List.getElem?_set] at hj
  by_cases e:i=j
  ·subst e;rw[if_pos rfl,if_pos hi] at hj;cases hj;exact (qnD h hx).1
  ·rw[if_neg e] at hj;exact h.all j s hj
theorem qxe(h:MayL R){i:Nat}{x:Sy}(hx:R[i]?=some x):∀{p:Nat} {a:Int},Ev R d p a r->Ev (R.set i (qa7 R x)) d p a r:=by
 have hi:=(zzS.1 hx).1;have g:∀{p:Nat} {s:Sy},R[p]?=some s->p≠i->(R.set i (qa7 R x))[p]?=some s:=fun hs hp=>by rw[List.getElem?_set,if_neg (Ne.symm hp)];exact hs
 have gi:(R.set i (qa7 R x))[i]?=some (qa7 R x):=by rw[List.getElem?_set,if_pos rfl,if_pos hi]
 have hop:∀{t:Nat} {a:Int},i<t->t<R.length->Ev (R.set i (qa7 R x)) d t a r->Ev (R.set i (qa7 R x)) d (xL R t) a r:=fun {t a} h1 h2 he=>by
  unfold xL;rw[zzE h2];simp only;split
  ·rename_i h5;exact he.at5 (g (zzE h2) (by omega)) h5
  ·exact he
 have gn:¬qbj x->(R.set i (qa7 R x))[i]?=some x:=fun q=>by
  rw[gi];unfold qa7;rw[jr q,if_neg (fun z=>q z.1.1)]
 intro p a he
 induction he with
 | ld p a r s hs hc _ ih =>
  by_cases e:p=i
  ·subst e;rw[hx] at hs;cases hs;exact .ld _ _ _ x (gn (xN (.inl hc))) hc (ih hop)
  ·exact .ld _ _ _ s (g hs e) hc (ih hop)
 | an p a r s hs hc _ ih =>
  by_cases e:p=i
  ·subst e;rw[hx] at hs;cases hs;exact .an _ _ _ x (gn (xN (.inr (.inl hc)))) hc (ih hop)
  ·exact .an _ _ _ s (g hs e) hc (ih hop)
 | rt p a s hs hc =>
  by_cases e:p=i
  ·subst e;rw[hx] at hs;cases hs;exact .rt _ _ x (gn (xN (.inr (.inr hc)))) hc
  ·exact .rt _ _ s (g hs e) hc
 | ja p a r s hs hc _ ih =>
  by_cases e:p=i
  ·subst e;rw[hx] at hs;cases hs;have hm:=(h.all _ _ hx).ja hc
   have e1:qa7 R x=⟨x.code,x.k,xL R x.th,x.el⟩:=by
    unfold qa7;rw[qhH hc,if_neg (fun z=>z.1.2 hc)]
   have gi2:=gi.trans (congrArg some e1);exact .ja _ _ _ _ gi2 hc (hop hm.2.2.1 hm.2.2.2 (ih hop))
  ·exact .ja _ _ _ s (g hs e) hc (ih hop)
 | jc p a r s hs hc _ ih =>
  by_cases e:p=i
  ·subst e;rw[hx] at hs;cases hs;have hm:=(h.all _ _ hx).jc hc;have ih:=ih hop
   have he:Ev (R.set p (qa7 R x)) d (if qbi x.code a x.k=true then xL R x.th else xL R x.el) a r:=by
    split
    ·rename_i q;rw[if_pos q] at ih;exact hop hm.1 hm.2.1 ih
    ·rename_i q;rw[if_neg q] at ih;exact hop hm.2.2.1 hm.2.2.2 ih
   have e0:=qhI (to:=xL R) hc
   by_cases eq:xL R x.th=xL R x.el
   ·have e1:qa7 R x=⟨5,0,xL R x.th,0⟩:=by
     unfold qa7;rw[e0];exact if_pos ⟨⟨(qaf hc).1,(qaf hc).2.1⟩,eq⟩
    rw[← eq,ite_self] at he;exact .ja _ _ _ _ (gi.trans (congrArg some e1)) rfl he
   ·have e1:qa7 R x=⟨x.code,x.k,xL R x.th,xL R x.el⟩:=by
     unfold qa7;rw[e0];exact if_neg fun z=>eq z.2
    exact .jc _ _ _ _ (gi.trans (congrArg some e1)) hc he
  ·exact .jc _ _ _ s (g hs e) hc (ih hop)
theorem qkj:∀{m j:Nat},j+m<l.length->(qeo l m)[j]?=l[j]?
 | 0,_,_=>rfl
 | m+1,j,h=>by
  unfold qeo;split
  ·rw[List.getElem?_set,if_neg (by omega)];exact qkj (by omega)
  ·exact qkj (by omega)
theorem ql7(h:MayL l):∀m,m<=l.length->MayL (qeo l m)∧∀{p:Nat} {a:Int},Ev l d p a r->Ev (qeo l m) d p a r
 | 0,_=>⟨h,fun e=>e⟩
 | m+1,hm=>by
  obtain⟨h1,h2⟩:=ql7 h m (by omega);have hx:l[l.length-(m+1)]?=some l[l.length-(m+1)]:=zzE (by omega);unfold qeo;rw[hx];simp only;have hx2:(qeo l m)[l.length-(m+1)]?=some l[l.length-(m+1)]:=by rw[qkj (by omega)];exact hx
  exact⟨quq h1 hx2,fun e=>qxe h1 hx2 (h2 e)⟩
theorem qjm(h:MayL l):MayL (ql6 l):=(ql7 (d:=⟨0,0,0,0,0,0,0,0,0⟩) (r:=0) h _ (Nat.le_refl _)).1
theorem qA8(h:MayL l){p:Nat}{a:Int}:Ev l d p a r->Ev (ql6 l) d p a r:=(ql7 h _ (Nat.le_refl _)).2
theorem qxf:(ql6 l).length=l.length:=qep
end
def Suc(x:Sy)(j t:Nat):Prop:=(x.code≠6∧¬qbj x∧t=j+1)∨(qbj x∧t=x.th)∨(qcf x∧t=x.el)
theorem qkf{A:List Bool}{i j:Nat}(h:A[j]?=some true):(A.set i true)[j]?=some true:=by
 rw[List.getElem?_set];split
 ·rename_i e;subst e;rw[if_pos (zzS.1 h).1]
 ·exact h
theorem qke{A:List Bool}{i:Nat}(h:i<A.length):(A.set i true)[i]?=some true:=by
 rw[List.getElem?_set,if_pos rfl,if_pos h]
theorem ql2{A:List Bool}{i j:Nat}(h:j≠i):(A.set i true)[j]?=A[j]?:=by
 rw[List.getElem?_set,if_neg (Ne.symm h)]
theorem qkE{A:List Bool}{j m:Nat}{x:Sy}(h:A[j]?=some true):(qd0 A m x)[j]?=some true:=by
 unfold qd0;split
 ·exact h
 ·split
  ·exact qkf h
  ·split
   ·exact qkf (qkf h)
   ·exact qkf h
theorem qrb{A:List Bool}{j t:Nat}{x:Sy}(h:A[j]?=some true)(hs:Suc x j t)(ht:t<A.length):(qd0 A j x)[t]?=some true:=by
 have h6:x.code≠6:=by
  rcases hs with q|⟨q,_⟩|⟨q,_⟩
  ·exact q.1
  ·intro e;exact xN (.inr (.inr e)) q
  ·intro e;exact xN (.inr (.inr e)) q.1
 unfold qd0;rw[if_neg (by rintro (q|q);exact q h;exact h6 q)]
 rcases hs with⟨_,q,rfl⟩|⟨q,rfl⟩|⟨q,rfl⟩
 ·rw[if_pos (show ql x.code≠4 from q)];exact qke ht
 ·rw[if_neg (fun z:ql x.code≠4=>z q)]
  split
  ·exact qkf (qke ht)
  ·exact qke ht
 ·rw[if_neg (fun z:ql x.code≠4=>z q.1),if_pos q]
  exact qke (by rw[List.length_set];exact ht)
section
variable {l:List Sy} {d:GData} {r:Int}
theorem qpB(h:MayL l){A:List Bool}{j m:Nat}{x:Sy}(hx:l[m]?=some x)(hj:j<=m):(qd0 A m x)[j]?=A[j]?:=by
 unfold qd0;split
 ·rfl
 ·split
  ·exact ql2 (by omega)
  ·rename_i q;have hq:qbj x:=Decidable.not_not.1 q;have hm:=h.all m x hx
   have hth:m<x.th:=by
    rcases hm.jmp hq with z|z
    ·exact (hm.ja z).2.2.1
    ·exact (hm.jc z).1
   split
   ·rename_i q2;have:=hm.jc (hm.ask q2);rw[ql2 (by omega),ql2 (by omega)]
   ·exact ql2 (by omega)
theorem qol(h:MayL l){j t:Nat}{x:Sy}(hx:l[j]?=some x)(hs:Suc x j t):j<t∧t<l.length:=by
 have hm:=h.all j x hx;rcases hs with⟨q1,q2,rfl⟩|⟨q,rfl⟩|⟨q,rfl⟩
 ·exact⟨by omega,h.on j x hx q1 q2⟩
 ·rcases hm.jmp q with z|z
  ·exact (hm.ja z).2.2
  ·exact⟨(hm.jc z).1,(hm.jc z).2.1⟩
 ·exact (hm.jc (hm.ask q)).2.2
theorem qmh(h:MayL l):∀m,m<=l.length->∀(j t:Nat) x,j<m->l[j]?=some x->Suc x j t->(jD l m)[j]?=some true->(jD l m)[t]?=some true
 | 0,_,j,t,x,hj,_,_,_=>by omega
 | m+1,hm,j,t,x,hj,hx,hs,ha=>by
  have hy:l[m]?=some l[m]:=zzE (by omega);unfold jD at ha ⊢;rw[hy] at ha ⊢;simp only at ha ⊢;rw[qpB h hy (by omega)] at ha;rcases Nat.lt_or_ge j m with q|q
  ·exact qkE (qmh h m (by omega) j t x q hx hs ha)
  ·have e:j=m:=by omega
   subst e;rw[hy] at hx;cases hx;exact qrb ha hs (by rw[qbk];exact (qol h hy hs).2)
theorem qcQ(h:MayL l){j t:Nat}{x:Sy}(hx:l[j]?=some x)(hs:Suc x j t)(ha:(zy l)[j]?=some true):(zy l)[t]?=some true :=
 qmh h _ (Nat.le_refl _) j t x (zzS.1 hx).1 hx hs ha
theorem qrc(h:0<l.length):(zy l)[0]?=some true:=by
 have:∀m,(jD l m)[0]?=some true:=by
  intro m
  induction m with
  | zero=>exact qke (by simpa using h)
  | succ m ih =>
   unfold jD;split
   ·exact qkE ih
   ·exact ih
 exact this _
theorem qrU{A:List Bool}{i j:Nat}(h:i<=j):zV A i<=zV A j:=by
 unfold zV;have e:A.take i=(A.take j).take i:=by rw[List.take_take,Nat.min_eq_left h]
 rw[e];exact List.Sublist.countP_le (List.take_sublist _ _)
theorem qjz{A:List Bool}{i j:Nat}(ha:A[i]?=some true)(h:i<j):zV A i<zV A j:=by
 have h1:=qd6 ha;have h2:=qrU (A:=A) (i:=i+1) (j:=j) h;rw[if_pos rfl] at h1;omega
theorem qpk{α:Type}:∀{A:List Bool} {l:List α} {p:Nat} {x:α},A[p]?=some true->l[p]?=some x->(qca A l)[zV A p]?=some x
 | [],_,_,_,h,_=>by simp at h
 | _::_,[],_,_,_,h=>by simp at h
 | c::A,y::l,0,x,h1,h2=>by
  simp at h1 h2;subst h1 h2;simp[qca,zV]
 | c::A,y::l,p+1,x,h1,h2=>by
  have:=qpk (A:=A) (l:=l) (p:=p) (x:=x) (by simpa using h1) (by simpa using h2);unfold zV at this ⊢;rw[List.take_succ_cons,List.countP_cons];cases c<;>simpa[qca] using this
theorem qjl{α:Type}:∀{A:List Bool} {l:List α} {q:Nat} {x:α},(qca A l)[q]?=some x->∃p,A[p]?=some true∧l[p]?=some x∧zV A p=q
 | [],_,_,_,h=>by simp[qca] at h
 | _::_,[],_,_,h=>by simp[qca] at h
 | c::A,y::l,q,x,h=>by
  cases c with
  | false =>
   obtain⟨p,h1,h2,h3⟩:=qjl (A:=A) (l:=l) (q:=q) (x:=x) (by simpa[qca] using h);refine⟨p+1,by simpa using h1,by simpa using h2,?_⟩
   unfold zV at h3 ⊢;rw[List.take_succ_cons,List.countP_cons];simpa using h3
  | true =>
   cases q with
   | zero=>simp[qca] at h;subst h;exact⟨0,rfl,rfl,by simp[zV]⟩
   | succ q =>
    obtain⟨p,h1,h2,h3⟩:=qjl (A:=A) (l:=l) (q:=q) (x:=x) (by simpa[qca] using h);refine⟨p+1,by simpa using h1,by simpa using h2,?_⟩
    unfold zV at h3 ⊢;rw[List.take_succ_cons,List.countP_cons];simpa using h3
theorem qpl{α:Type}:∀{A:List Bool} {l:List α},A.length=l.length->(qca A l).length=zV A A.length
 | [],[],_=>rfl
 | [],_::_,h=>by simp at h
 | _::_,[],h=>by simp at h
 | c::A,y::l,h=>by
  have:=qpl (A:=A) (l:=l) (by simpa using h);unfold zV at this ⊢;rw[List.length_cons,List.take_succ_cons,List.countP_cons];cases c<;>simp[qca,this]
theorem qjc:(qfE l).length=zV (zy l) l.length:=by
 unfold qfE;have hA:(zy l).length=l.length:=qbk;rw[qpl (by rw[List.length_map,hA]),hA]
theorem qs4:(qfE l).length<=l.length:=by rw[qjc];exact qlx
theorem qhE{p:Nat}{x:Sy}(ha:(zy l)[p]?=some true)(hx:l[p]?=some x):(qfE l)[zV (zy l) p]?=some (qa2 (zV (zy l)) x) :=
 qpk ha (by rw[List.getElem?_map,hx];rfl)
theorem qv7(h:MayL l):MayL (qfE l):=by
 have hA:(zy l).length=l.length:=qbk;have h0:=qrc h.pos;have hp:0<(qfE l).length:=by rw[qjc];exact Nat.lt_of_le_of_lt (Nat.zero_le _) (qjz h0 h.pos)
 have idx:∀{q:Nat} {s:Sy},(qfE l)[q]?=some s->∃p x,(zy l)[p]?=some true∧l[p]?=some x∧zV (zy l) p=q∧s=qa2 (zV (zy l)) x:=fun {q s} hq=>by
  obtain⟨p,h1,h2,h3⟩:=qjl hq;rw[List.getElem?_map] at h2;obtain⟨x,hx,rfl⟩:=Option.map_eq_some_iff.1 h2;exact⟨p,x,h1,hx,h3,rfl⟩
 refine⟨hp,Nat.le_trans qs4 h.big,?_,fun j s hj=>?_⟩
 ·obtain⟨p,x,q1,q2,q3,q4⟩:=idx (zzE (i:=(qfE l).length-1) (by omega));refine⟨_,zzE (by omega),?_⟩;rw[q4];show x.code=6;apply Decidable.byContradiction;intro h6
  have hs:∃t,Suc x p t:=by
   by_cases hj:qbj x
   ·exact⟨_,.inr (.inl ⟨hj,rfl⟩)⟩
   ·exact⟨_,.inl ⟨h6,hj,rfl⟩⟩
  obtain⟨t,ht⟩:=hs;have t1:=qol h q2 ht;have t2:=qcQ h q2 ht q1;have t3:=qjz q1 t1.1;have t4:=qjz t2 t1.2;rw[← qjc] at t4;omega
 ·obtain⟨p,x,q1,q2,q3,rfl⟩:=idx hj;have hm:=h.all p x q2
  have go:∀t,Suc x p t->j<zV (zy l) t∧zV (zy l) t<(qfE l).length:=fun t ht=>by
   have t1:=qol h q2 ht;have t2:=qcQ h q2 ht q1;rw[qjc,← q3];exact⟨qjz q1 t1.1,qjz t2 t1.2⟩
  rcases hm with q|q|⟨q,z1,z2,z3,z4⟩|⟨q,z1,z2,z3,z4⟩
  ·rw[jr (xN (.inl q.1))];exact .inl q
  ·rw[jr (xN (.inr q.1))];exact .inr (.inl q)
  ·have hjm:qbj x:=by unfold qbj;rw[q];exact qd5.2.2.2
   rw[qhH q];obtain⟨t1,t2⟩:=go x.th (.inr (.inl ⟨hjm,rfl⟩));exact .inr (.inr (.inl ⟨q,z1,z2,t1,t2⟩))
  ·have ha:=qaf q;rw[qhI q];obtain⟨t1,t2⟩:=go x.th (.inr (.inl ⟨ha.1,rfl⟩));obtain⟨t3,t4⟩:=go x.el (.inr (.inr ⟨⟨ha.1,ha.2.1⟩,rfl⟩));exact .inr (.inr (.inr ⟨q,t1,t2,t3,t4⟩))
theorem qzC(h:MayL l):∀{p:Nat} {a:Int},Ev l d p a r->(zy l)[p]?=some true->Ev (qfE l) d (zV (zy l) p) a r:=by
 intro p a he
 induction he with
 | ld p a r s hs hc _ ih =>
  intro ha;have hn:=qcQ h hs (t:=p+1) (.inl ⟨by omega,xN (.inl hc),rfl⟩) ha
  have e:=qd6 ha;rw[if_pos rfl] at e;have ih:=ih hn;rw[e] at ih;have hg:=qhE ha hs;rw[jr (xN (.inl hc))] at hg;exact .ld _ _ _ s hg hc ih
 | an p a r s hs hc _ ih =>
  intro ha;have hn:=qcQ h hs (t:=p+1) (.inl ⟨by omega,xN (.inr (.inl hc)),rfl⟩) ha
  have e:=qd6 ha;rw[if_pos rfl] at e;have ih:=ih hn;rw[e] at ih;have hg:=qhE ha hs;rw[jr (xN (.inr (.inl hc)))] at hg;exact .an _ _ _ s hg hc ih
 | rt p a s hs hc =>
  intro ha;have hg:=qhE ha hs;rw[jr (xN (.inr (.inr hc)))] at hg;exact .rt _ _ s hg hc
 | ja p a r s hs hc _ ih =>
  intro ha;have hjm:qbj s:=by unfold qbj;rw[hc];exact qd5.2.2.2
  have hg:=qhE ha hs;rw[qhH hc] at hg;exact .ja _ _ _ _ hg hc (ih (qcQ h hs (.inr (.inl ⟨hjm,rfl⟩)) ha))
 | jc p a r s hs hc _ ih =>
  intro ha;have hk:=qaf hc;have h1:=qcQ h hs (t:=s.th) (.inr (.inl ⟨hk.1,rfl⟩)) ha;have h2:=qcQ h hs (t:=s.el) (.inr (.inr ⟨⟨hk.1,hk.2.1⟩,rfl⟩)) ha;have hg:=qhE ha hs;rw[qhI hc] at hg;refine .jc _ _ _ _ hg hc ?_;simp only;split
  ·rename_i q;rw[if_pos q] at ih;exact ih h1
  ·rename_i q;rw[if_neg q] at ih;exact ih h2
theorem qlS(h:MayL l):MayL (qbR l):=qv7 (qjm (qhV h))
theorem qwE:(qbR l).length<=l.length:=by
 unfold qbR;refine Nat.le_trans qs4 ?_;rw[qxf,qhU];exact Nat.le_refl _
theorem qAv(h:MayL l){a:Int}(he:Ev l d 0 a r):Ev (qbR l) d 0 a r:=by
 have h1:=qA8 (qhV h) (qAS h he);have h2:=qzC (qjm (qhV h)) h1 (qrc (qjm (qhV h)).pos);unfold qbR;simpa[zV] using h2
end
def Go1(p:List Ins)(d:GData)(at':Nat)(a r:Int):Prop:=∀(n:Nat) (m:Mac) (bh:Int) (L:List Nat),m.a=a->m.over=false->p.length<at'+n->(qkc p d n m at' bh L).1=r∧(qkc p d n m at' bh L).2.2.2=0
section
variable {p:List Ins} {d:GData} {q:Nat} {a r k:Int}
theorem qmm{i:Ins}(h:p[q]?=some i):q<p.length:=(zzS.1 h).1
theorem qi9{i:Ins}(h:p[q]?=some i){m:Mac}{n:Nat}{bh:Int}{L:List Nat}(he:(doR m i d).2.2=0)(ho:(doR m i d).1.over=false) :
  qkc p d (n+1) m q bh L=qkc p d n (doR m i d).1 (q+1+(doR m i d).2.1.toNat) (if ql i.code=4 then 42 else 46) (L++[q]):=by
 rw[qio,h];simp only[he,ho,ne_eq,not_true,if_false,Bool.false_eq_true]
theorem qCV(h:p[q]?=some ⟨32,0,0,k⟩)(hk:k % 4=0∧0<=k∧k<64)(hn:Go1 p d (q+1) (wdD d k) r):Go1 p d q a r:=by
 intro n m bh L ha ho hl;have hq:=qmm h;obtain⟨n,rfl⟩:∃n',n=n'+1:=⟨n-1,by omega⟩
 have e:doR m ⟨32,0,0,k⟩ d=({ m with a:=wdD d k },0,0):=by
  have e1:zN 32=true:=by decide
  have e2:ql 32=1:=by decide
  simp only[doR,e1,e2,qdt,qfD];simp[hk.1,show ¬64<=k from by omega,wdD]
 rw[qi9 h (by rw[e]) (by rw[e];exact ho),e];exact hn n _ _ _ rfl ho (by omega)
theorem qCU(h:p[q]?=some ⟨84,0,0,k⟩)(hn:Go1 p d (q+1) (xT .u32 a k) r):Go1 p d q a r:=by
 intro n m bh L ha ho hl;have hq:=qmm h;obtain⟨n,rfl⟩:∃n',n=n'+1:=⟨n-1,by omega⟩
 have e:doR m ⟨84,0,0,k⟩ d=({ m with a:=xT .u32 a k },0,0):=by
  have e1:zN 84=true:=by decide
  have e2:ql 84=3:=by decide
  have e3:jk 84=false:=by decide
  simp only[doR,e1,e2,nuM,qP,qcx,e3];simp[opM,ha]
 rw[qi9 h (by rw[e]) (by rw[e];exact ho),e];exact hn n _ _ _ rfl ho (by omega)
theorem qCW(h:p[q]?=some ⟨6,0,0,k⟩):Go1 p d q a k:=by
 intro n m bh L ha ho hl;have hq:=qmm h;obtain⟨n,rfl⟩:∃n',n=n'+1:=⟨n-1,by omega⟩
 have e:doR m ⟨6,0,0,k⟩ d=({ m with over:=true,told:=k },0,0):=by
  have e1:zN 6=true:=by decide
  have e2:ql 6=5:=by decide
  simp only[doR,e1,e2,qpq];simp
 rw[qio,h];simp[e]
theorem qsv(h:p[q]?=some ⟨5,0,0,k⟩)(hn:Go1 p d (q+1+k.toNat) a r):Go1 p d q a r:=by
 intro n m bh L ha ho hl;have hq:=qmm h;obtain⟨n,rfl⟩:∃n',n=n'+1:=⟨n-1,by omega⟩
 have e:doR m ⟨5,0,0,k⟩ d=(m,k,0):=by
  have e1:zN 5=true:=by decide
  have e2:ql 5=4:=by decide
  simp only[doR,e1,e2,qgA];simp
 rw[qi9 h (by rw[e]) (by rw[e];exact ho),e];exact hn n _ _ _ ha ho (by omega)
theorem qxJ{c jt jf:Int}(hc:qdh c)(h:p[q]?=some ⟨c,jt,jf,k⟩)(hn:Go1 p d (q+1+(if qbi c a k=true then jt else jf).toNat) a r):Go1 p d q a r:=by
 intro n m bh L ha ho hl;have hq:=qmm h;obtain⟨n,rfl⟩:∃n',n=n'+1:=⟨n-1,by omega⟩
 have e:doR m ⟨c,jt,jf,k⟩ d=(m,if qbi c a k=true then jt else jf,0):=by
  have e1:zN c=true:=by rcases hc with rfl|rfl|rfl|rfl<;>decide
  have e2:=(qaf hc).1;have e3:jk c=false:=by rcases hc with rfl|rfl|rfl|rfl<;>decide
  have e4:=(qaf hc).2.1;simp only[doR,e1,e2,qgA,e4,qP,qcx,e3,ha];simp
 rw[qi9 h (by rw[e]) (by rw[e];exact ho),e];exact hn n _ _ _ ha ho (by omega)
end
section
variable {l:List Sy} {d:GData} {r:Int}
def bl(l:List Sy)(m:Nat):Nat:=(zm l m).1.length
theorem qhF{m:Nat}{x:Sy}(h:l[l.length-(m+1)]?=some x):zm l (m+1)=((zm l m).1++(jy (bl l m) (zm l m).2 x).reverse,(zm l m).2.set (l.length-(m+1)) (bl l (m+1))):=by
 have e:zm l (m+1)=((zm l m).1++(jy (zm l m).1.length (zm l m).2 x).reverse,(zm l m).2.set (l.length-(m+1)) ((zm l m).1++(jy (zm l m).1.length (zm l m).2 x).reverse).length):=by
  conv=>lhs;unfold zm
  rw[h]
 have e2:bl l (m+1)=((zm l m).1++(jy (zm l m).1.length (zm l m).2 x).reverse).length:=by unfold bl;rw[e]
 rw[e2];exact e
theorem qrt{m m':Nat}(h:m<=m'):∃R,(zm l m').1=(zm l m).1++R:=by
 induction m' with
 | zero=>rw[Nat.le_zero.1 h];exact⟨[],by simp⟩
 | succ m' ih =>
  rcases Nat.lt_or_ge m' m with q|q
  ·rw[show m=m'+1 by omega];exact⟨[],by simp⟩
  ·obtain⟨R,hR⟩:=ih q;cases hx:l[l.length-(m'+1)]? with
   | none =>
    refine⟨R,?_⟩
    conv=>lhs;unfold zm
    rw[hx];exact hR
   | some x=>rw[qhF hx];exact⟨R++_,by rw[hR,List.append_assoc]⟩
theorem qhg{m m':Nat}(h:m<=m'):bl l m<=bl l m':=by
 obtain⟨R,hR⟩:=qrt (l:=l) h;unfold bl;rw[hR,List.length_append];omega
theorem qCr{m:Nat}(hm:m<=l.length){j:Nat}(h1:l.length-m<=j)(h2:j<l.length):(zm l m).2.getD j 0=bl l (l.length-j):=by
 induction m with
 | zero=>omega
 | succ m ih =>
  have hx:l[l.length-(m+1)]?=some l[l.length-(m+1)]:=zzE (by omega);rw[qhF hx,List.getD_eq_getElem?_getD,List.getElem?_set]
  by_cases e:l.length-(m+1)=j
  ·rw[if_pos e,if_pos (by rw[(qf1 m).1];omega)]
   rw[show l.length-j=m+1 by omega];rfl
  ·rw[if_neg e,← List.getD_eq_getElem?_getD];exact ih (by omega) (by omega)
def plL(l:List Sy)(j:Nat):Nat:=bl l l.length-bl l (l.length-j)
def cdL(l:List Sy)(j:Nat)(x:Sy):List Ins:=jy (bl l (l.length-(j+1))) (zm l (l.length-(j+1))).2 x
theorem qjS:(xu l).length=bl l l.length:=by unfold xu bl;rw[List.length_reverse]
theorem qf0{j:Nat}{x:Sy}(hx:l[j]?=some x):bl l (l.length-j)=bl l (l.length-(j+1))+(cdL l j x).length∧∃A B,xu l=A++cdL l j x++B∧A.length=plL l j∧B.length=bl l (l.length-(j+1)):=by
 have hj:=(zzS.1 hx).1;have hx2:l[l.length-(l.length-(j+1)+1)]?=some x:=by rw[show l.length-(l.length-(j+1)+1)=j by omega];exact hx
 have h:=qhF hx2;have hm:l.length-(j+1)+1=l.length-j:=by omega
 rw[hm] at h;have h1:(zm l (l.length-j)).1=(zm l (l.length-(j+1))).1++(cdL l j x).reverse:=by rw[h];rfl
 obtain⟨R,hR⟩:=qrt (l:=l) (m:=l.length-j) (m':=l.length) (by omega);have hb:bl l (l.length-j)=bl l (l.length-(j+1))+(cdL l j x).length:=by unfold bl;rw[h1,List.length_append,List.length_reverse]
 refine⟨hb,R.reverse,(zm l (l.length-(j+1))).1.reverse,?_,?_,?_⟩
 ·unfold xu;rw[hR,h1];simp
 ·unfold plL bl;rw[hR,List.length_append,List.length_reverse];omega
 ·rw[List.length_reverse];rfl
theorem qb8{j:Nat}{x:Sy}(hx:l[j]?=some x){i:Nat}{y:Ins}(hy:(cdL l j x)[i]?=some y):(xu l)[plL l j+i]?=some y:=by
 obtain⟨_,A,B,h1,h2,_⟩:=qf0 hx;rw[h1,← h2,List.append_assoc,List.getElem?_append_right (by omega),Nat.add_sub_cancel_left,List.getElem?_append_left (zzS.1 hy).1];exact hy
def dsL(l:List Sy)(j t:Nat):Nat:=bl l (l.length-(j+1))-bl l (l.length-t)
theorem qgf{j t:Nat}(h1:j<t)(h2:t<l.length):bl l (l.length-(j+1))-(zm l (l.length-(j+1))).2.getD t 0=dsL l j t:=by
 rw[qCr (by omega) (by omega) h2];rfl
theorem qhL{j:Nat}{x:Sy}(hx:l[j]?=some x){t:Nat}(h1:j<t):plL l j+(cdL l j x).length+dsL l j t=plL l t:=by
 have hb:=(qf0 hx).1;have b1:=qhg (l:=l) (m:=l.length-j) (m':=l.length) (by omega);have b2:=qhg (l:=l) (m:=l.length-t) (m':=l.length-(j+1)) (by omega);unfold plL dsL;omega
theorem qCK{j:Nat}:dsL l j (j+1)=0:=by unfold dsL;omega
theorem qv6(h:MayL l):∀{j:Nat} {a:Int},Ev l d j a r->Go1 (xu l) d (plL l j) a r:=by
 intro j a he
 induction he with
 | ld j a r x hx hc _ ih =>
  have hm:=h.all j x hx
  have hk:x.k % 4=0∧0<=x.k∧x.k<64:=by
   rcases hm with q|⟨q,_⟩|⟨q,_⟩|⟨q,_⟩
   ·exact q.2.2.2
   ·omega
   ·omega
   ·unfold qdh at q;omega
  have e:cdL l j x=[⟨32,0,0,x.k⟩]:=by unfold cdL jy;rw[hc,if_neg (by decide),if_pos (by decide)]
  have hn:=qhL hx (t:=j+1) (by omega);rw[qCK,e] at hn;simp only[List.length_singleton,Nat.add_zero] at hn;exact qCV (qb8 hx (i:=0) (by rw[e];rfl)) hk (by rw[Nat.add_zero,hn];exact ih)
 | an j a r x hx hc _ ih =>
  have e:cdL l j x=[⟨84,0,0,x.k⟩]:=by unfold cdL jy;rw[hc,if_neg (by decide),if_pos (by decide)]
  have hn:=qhL hx (t:=j+1) (by omega);rw[qCK,e] at hn;simp only[List.length_singleton,Nat.add_zero] at hn;exact qCU (qb8 hx (i:=0) (by rw[e];rfl)) (by rw[Nat.add_zero,hn];exact ih)
 | rt j a x hx hc =>
  have e:cdL l j x=[⟨6,0,0,x.k⟩]:=by unfold cdL jy;rw[hc,if_neg (by decide),if_pos (by decide)]
  exact qCW (qb8 hx (i:=0) (by rw[e];rfl))
 | ja j a r x hx hc _ ih =>
  have hm:=(h.all j x hx).ja hc;have e:cdL l j x=[⟨5,0,0,(dsL l j x.th:Nat)⟩]:=by unfold cdL jy;rw[if_pos hc,qgf hm.2.2.1 hm.2.2.2]
  have hn:=qhL hx hm.2.2.1;rw[e] at hn;simp only[List.length_singleton] at hn;exact qsv (qb8 hx (i:=0) (by rw[e];rfl)) (by rw[Nat.add_zero,Int.toNat_natCast,hn];exact ih)
 | jc j a r x hx hc _ ih =>
  have hm:=(h.all j x hx).jc hc;have hk:=qaf hc;have n1:=qhL hx hm.1;have n2:=qhL hx hm.2.2.1
  by_cases hf:max (dsL l j x.th) (dsL l j x.el)<=255
  ·have e:cdL l j x=[⟨x.code,(dsL l j x.th:Nat),(dsL l j x.el:Nat),x.k⟩]:=by
    unfold cdL jy;rw[if_neg hk.2.1,if_neg (fun q=>q hk.1),qgf hm.1 hm.2.1,qgf hm.2.2.1 hm.2.2.2,if_pos hf]
   rw[e] at n1 n2;simp only[List.length_singleton] at n1 n2;refine qxJ hc (qb8 hx (i:=0) (by rw[e];rfl)) ?_
   by_cases q:qbi x.code a x.k=true
   ·rw[if_pos q] at ih ⊢;rw[Nat.add_zero,Int.toNat_natCast,n1];exact ih
   ·rw[if_neg q] at ih ⊢;rw[Nat.add_zero,Int.toNat_natCast,n2];exact ih
  ·have e:cdL l j x=[⟨x.code,0,1,x.k⟩,⟨5,0,0,(dsL l j x.th+1:Nat)⟩,⟨5,0,0,(dsL l j x.el:Nat)⟩]:=by
    unfold cdL jy;rw[if_neg hk.2.1,if_neg (fun q=>q hk.1),qgf hm.1 hm.2.1,qgf hm.2.2.1 hm.2.2.2,if_neg hf]
   rw[e] at n1 n2;simp only[List.length_cons,List.length_nil] at n1 n2;refine qxJ hc (qb8 hx (i:=0) (by rw[e];rfl)) ?_
   by_cases q:qbi x.code a x.k=true
   ·rw[if_pos q] at ih ⊢;refine qsv (k:=((dsL l j x.th+1:Nat):Int)) (qb8 hx (i:=1) (y:=⟨5,0,0,(dsL l j x.th+1:Nat)⟩) (by rw[e];rfl)) ?_;rw[Int.toNat_natCast];have e2:plL l j+0+1+(0:Int).toNat+1+(dsL l j x.th+1)=plL l x.th:=by simp;omega
    rw[e2];exact ih
   ·rw[if_neg q] at ih ⊢;refine qsv (k:=((dsL l j x.el:Nat):Int)) (qb8 hx (i:=2) (y:=⟨5,0,0,(dsL l j x.el:Nat)⟩) (by rw[e];rfl)) ?_;rw[Int.toNat_natCast];have e2:plL l j+0+1+(1:Int).toNat+1+dsL l j x.el=plL l x.el:=by simp;omega
    rw[e2];exact ih
theorem qqo(h:MayL l)(he:Ev l d 0 0 r):(qe8 (xu l) d).1=r∧(qe8 (xu l) d).2.2.2=0:=by
 have:=qv6 h he;have e:plL l 0=0:=by unfold plL;rw[Nat.sub_zero];omega
 rw[e] at this;exact this _ _ _ _ rfl rfl (by omega)
end
def qaU(l:List Sy):Prop:=∀x ∈ l,0<=x.k∧x.k<=4294967295
section
variable {l:List Sy}
theorem qw3(h:qaU l):qaU (qen l):=by
 intro x hx;unfold qen at hx;obtain⟨y,hy,rfl⟩:=List.mem_map.1 hx;exact h y hy
theorem ql8(h:qaU l):∀m,qaU (qeo l m)
 | 0=>h
 | m+1=>by
  unfold qeo;split
  ·rename_i x hx;intro y hy;rcases List.mem_or_eq_of_mem_set hy with hy|rfl
   ·exact ql8 h m y hy
   ·have hk:=h x (zzM hx);unfold qa7;split
    ·exact⟨Int.le_refl 0,show (0:Int)<=4294967295 by decide⟩
    ·exact hk
  ·exact ql8 h m
theorem qwF(h:qaU l):qaU (qbR l):=by
 intro x hx;unfold qbR qfE at hx;obtain⟨q,hq⟩:=List.getElem?_of_mem hx;obtain⟨p,_,h2,_⟩:=qjl hq;rw[List.getElem?_map] at h2;obtain⟨y,hy,rfl⟩:=Option.map_eq_some_iff.1 h2;exact ql8 (qw3 h) _ y (zzM hy)
theorem qov(h:MayL l):∀{m:Nat},m<=l.length->∀{b:Nat} {i:Ins},(zm l m).1[b]?=some i->∃(j:Nat) (x:Sy) (e:Nat),l[j]?=some x∧(cdL l j x)[e]?=some i∧b+e+1=bl l (l.length-j)
 | 0,_,b,i,hb=>by simp[zm] at hb
 | m+1,hm,b,i,hb=>by
  have hx:l[l.length-(m+1)]?=some l[l.length-(m+1)]:=zzE (by omega);have hs:=qhF hx;have hcd:cdL l (l.length-(m+1)) l[l.length-(m+1)]=jy (bl l m) (zm l m).2 l[l.length-(m+1)]:=by unfold cdL;rw[show l.length-(l.length-(m+1)+1)=m by omega]
  have h1:(zm l (m+1)).1=(zm l m).1++(cdL l (l.length-(m+1)) l[l.length-(m+1)]).reverse:=by rw[hs,hcd]
  rw[h1,List.getElem?_append] at hb;split at hb
  ·exact qov h (by omega) hb
  ·rename_i hlt;have hbl:(zm l m).1.length=bl l m:=rfl;rw[hbl] at hlt hb;have hc:=(qf0 hx).1;rw[show l.length-(l.length-(m+1))=m+1 by omega,show l.length-(l.length-(m+1)+1)=m by omega] at hc
   have hlen:=(zzS.1 hb).1;rw[List.length_reverse] at hlen;rw[List.getElem?_reverse hlen] at hb;exact⟨_,_,_,hx,hb,by rw[show l.length-(l.length-(m+1))=m+1 by omega];omega⟩
theorem qs0(h:MayL l){k:Nat}{i:Ins}(hk:(xu l)[k]?=some i):∃(j:Nat) (x:Sy) (e:Nat),l[j]?=some x∧(cdL l j x)[e]?=some i∧(xu l).length-1-k+e+1=bl l (l.length-j):=by
 have hl:=(zzS.1 hk).1;have e:=hk;unfold xu at e;rw[List.getElem?_reverse (by unfold xu at hl;simpa using hl)] at e;obtain⟨j,x,e,h1,h2,h3⟩:=qov h (Nat.le_refl _) e;refine⟨j,x,e,h1,h2,?_⟩;rw[qjS];exact h3
structure LkOk (i:Ins) (n:Nat):Prop where
 ok:InsOk i
 one:qe6 i n=0
 c:i.code≠96∧i.code≠97
theorem qlp(h:MayL l){t:Nat}(ht:t<l.length):0<bl l (l.length-t):=by
 have hx:l[t]?=some l[t]:=zzE ht;have h1:=(qf0 hx).1;have h2:=(qnb (n:=bl l (l.length-(t+1))) (pl:=(zm l (l.length-(t+1))).2) (x:=l[t])).2;have:(cdL l t l[t]).length=(jy (bl l (l.length-(t+1))) (zm l (l.length-(t+1))).2 l[t]).length:=rfl;omega
theorem qoW{c k:Int}{n:Nat}(hc:c=32∧k % 4=0∧k<64∨c=84∨c=6)(hk:0<=k∧k<=4294967295):LkOk ⟨c,0,0,k⟩ n:=by
 have hc2:c=32∨c=84∨c=6:=by rcases hc with h|h|h<;>simp[h]
 have b1:zN c=true:=by rcases hc2 with rfl|rfl|rfl<;>decide
 have b2:ql c≠2∧ql c≠4:=by rcases hc2 with rfl|rfl|rfl<;>decide
 refine⟨⟨show (0:Int)<=c by omega,show c<=65535 by omega,Int.le_refl 0,show (0:Int)<=255 by decide,Int.le_refl 0,show (0:Int)<=255 by decide,hk.1,hk.2⟩,?_,show c≠96∧c≠97 by omega⟩
 have a1:qgF ⟨c,0,0,k⟩=false:=by simp[qgF,b1]
 have a2:qf9 ⟨c,0,0,k⟩=false:=by
  rcases hc with⟨h1,h2,h3⟩|h|h
  ·simp[qf9,h2,show ¬64<=k from by omega]
  ·simp[qf9,h]
  ·simp[qf9,h]
 have a3:qhc ⟨c,0,0,k⟩=false:=by simp[qhc,b2.1,show c≠96 from by omega,show c≠97 from by omega]
 have a4:qhd ⟨c,0,0,k⟩=false:=by simp[qhd,show c≠52 from by omega]
 have a5:qhe ⟨c,0,0,k⟩=false:=by simp[qhe,show c≠100 from by omega,show c≠116 from by omega]
 have a6:qhf ⟨c,0,0,k⟩ n=false:=by simp[qhf,b2.2,show c≠5 from by omega]
 simp[qe6,a1,a2,a3,a4,a5,a6]
theorem qs5{k n:Nat}(h:k<n)(hn:k<=1000000):LkOk ⟨5,0,0,(k:Int)⟩ n:=by
 refine⟨⟨show (0:Int)<=5 by decide,show (5:Int)<=65535 by decide,Int.le_refl 0,show (0:Int)<=255 by decide,Int.le_refl 0,show (0:Int)<=255 by decide,show (0:Int)<=k by omega,show (k:Int)<=4294967295 by omega⟩,?_,show (5:Int)≠96∧(5:Int)≠97 by decide⟩
 have a1:qgF ⟨5,0,0,k⟩=false:=by
  have:zN 5=true:=by decide
  simp[qgF,this]
 have a2:qf9 ⟨5,0,0,k⟩=false:=by simp[qf9]
 have a3:qhc ⟨5,0,0,k⟩=false:=by
  have:ql 5≠2:=by decide
  simp[qhc,this]
 have a4:qhd ⟨5,0,0,k⟩=false:=by simp[qhd]
 have a5:qhe ⟨5,0,0,k⟩=false:=by simp[qhe]
 have a6:qhf ⟨5,0,0,k⟩ n=false:=by simp[qhf];omega
 simp[qe6,a1,a2,a3,a4,a5,a6]
theorem qxN{c k:Int}{jt jf n:Nat}(hc:qdh c)(hk:0<=k∧k<=4294967295)(h1:jt<=255)(h2:jf<=255)(h3:jt<n)(h4:jf<n):LkOk ⟨c,jt,jf,k⟩ n:=by
 have b1:zN c=true:=by rcases hc with rfl|rfl|rfl|rfl<;>decide
 have b2:ql c≠2:=by rw[(qaf hc).1];decide
 have b3:c≠32∧c≠96∧c≠97∧c≠52∧c≠100∧c≠116∧c≠5∧0<=c∧c<=65535:=by rcases hc with rfl|rfl|rfl|rfl<;>decide
 refine⟨⟨b3.2.2.2.2.2.2.2.1,b3.2.2.2.2.2.2.2.2,by simp only;omega,by simp only;omega,by simp only;omega,by simp only;omega,hk.1,hk.2⟩,?_,⟨b3.2.1,b3.2.2.1⟩⟩
 have a1:qgF ⟨c,jt,jf,k⟩=false:=by simp[qgF,b1]
 have a2:qf9 ⟨c,jt,jf,k⟩=false:=by simp[qf9,b3.1]
 have a3:qhc ⟨c,jt,jf,k⟩=false:=by simp[qhc,b2,b3.2.1,b3.2.2.1]
 have a4:qhd ⟨c,jt,jf,k⟩=false:=by simp[qhd,b3.2.2.2.1]
 have a5:qhe ⟨c,jt,jf,k⟩=false:=by simp[qhe,b3.2.2.2.2.1,b3.2.2.2.2.2.1]
 have a6:qhf ⟨c,jt,jf,k⟩ n=false:=by
  have:¬(n:Int)<=hiM ⟨c,jt,jf,k⟩:=by unfold hiM;simp only;split<;>omega
  simp only[qhf,if_neg b3.2.2.2.2.2.2.1,this,decide_false,Bool.and_false]
 simp[qe6,a1,a2,a3,a4,a5,a6]
theorem qlO(h:MayL l)(hr:qaU l){k:Nat}{i:Ins}(hk:(xu l)[k]?=some i):LkOk i ((xu l).length-1-k):=by
 obtain⟨j,x,e,hx,he,hb⟩:=qs0 h hk;have hm:=h.all j x hx;have hxr:=hr x (zzM hx);have hbl:=(qf0 hx).1;have hbig:bl l (l.length-j)<=3*l.length:=Nat.le_trans (qf1 (l:=l) (l.length-j)).2.2 (by omega);have hbig2:=h.big
 have one:∀{y:Ins},cdL l j x=[y]->i=y∧(xu l).length-1-k=bl l (l.length-(j+1)):=fun {y} hy=>by
  rw[hy] at he hbl;cases e with
  | zero=>simp at he;simp at hbl;exact⟨he.symm,by omega⟩
  | succ e=>simp at he
 rcases hm with⟨q,_,_,q1,q2,q3⟩|⟨q,_⟩|⟨q,_,_,q3,q4⟩|⟨q,q1,q2,q3,q4⟩
 ·obtain⟨e1,_⟩:=one (y:=⟨x.code,0,0,x.k⟩) (by unfold cdL jy;rw[q,if_neg (by decide),if_pos (by decide)])
  rw[e1];exact qoW (.inl ⟨q,q1,q3⟩) hxr
 ·obtain⟨e1,_⟩:=one (y:=⟨x.code,0,0,x.k⟩) (by unfold cdL jy;rcases q with q|q<;>rw[q,if_neg (by decide),if_pos (by decide)])
  rw[e1];exact qoW (.inr q) hxr
 ·obtain⟨e1,e2⟩:=one (y:=⟨5,0,0,(dsL l j x.th:Nat)⟩) (by unfold cdL jy;rw[if_pos q,qgf q3 q4]);have hp:=qlp h q4;have hmn:=qhg (l:=l) (m:=l.length-x.th) (m':=l.length-(j+1)) (by omega);rw[e1,e2];unfold dsL;exact qs5 (by omega) (by omega)
 ·have hp:=qlp h q2;have hp2:=qlp h q4;have hmn:=qhg (l:=l) (m:=l.length-x.th) (m':=l.length-(j+1)) (by omega);have hmn2:=qhg (l:=l) (m:=l.length-x.el) (m':=l.length-(j+1)) (by omega);have hkk:=qaf q;have d1:dsL l j x.th<bl l (l.length-(j+1)):=by unfold dsL;omega
  have d2:dsL l j x.el<bl l (l.length-(j+1)):=by unfold dsL;omega
  by_cases hf:max (dsL l j x.th) (dsL l j x.el)<=255
  ·obtain⟨e1,e2⟩:=one (y:=⟨x.code,(dsL l j x.th:Nat),(dsL l j x.el:Nat),x.k⟩) (by
    unfold cdL jy;rw[if_neg hkk.2.1,if_neg (fun z=>z hkk.1),qgf q1 q2,qgf q3 q4,if_pos hf])
   rw[e1,e2];exact qxN q hxr (by omega) (by omega) d1 d2
  ·have e3:cdL l j x=[⟨x.code,0,1,x.k⟩,⟨5,0,0,(dsL l j x.th+1:Nat)⟩,⟨5,0,0,(dsL l j x.el:Nat)⟩]:=by
    unfold cdL jy;rw[if_neg hkk.2.1,if_neg (fun z=>z hkk.1),qgf q1 q2,qgf q3 q4,if_neg hf]
   rw[e3] at he hbl;simp only[List.length_cons,List.length_nil] at hbl
   match e,he,hb with
   | 0,he,hb =>
    simp at he;subst he;exact qxN (jt:=0) (jf:=1) q hxr (by omega) (by omega) (by omega) (by omega)
   | 1,he,hb =>
    simp only[List.getElem?_cons_succ,List.getElem?_cons_zero,Option.some.injEq] at he;subst he;exact qs5 (by omega) (by omega)
   | 2,he,hb =>
    simp only[List.getElem?_cons_succ,List.getElem?_cons_zero,Option.some.injEq] at he;subst he;exact qs5 (by omega) (by omega)
   | e+3,he,hb=>simp at he
theorem qqm(h:MayL l):qhD (xu l)=6:=by
 obtain⟨s,hs,h6⟩:=h.last;have hp:=h.pos;obtain⟨hb,A,B,h1,h2,h3⟩:=qf0 hs;have e:cdL l (l.length-1) s=[⟨6,0,0,s.k⟩]:=by unfold cdL jy;rw[h6,if_neg (by decide),if_pos (by decide)]
 have hB:B=[]:=by
  apply List.eq_nil_of_length_eq_zero;rw[h3,show l.length-(l.length-1+1)=0 by omega];rfl
 rw[e,hB,List.append_nil] at h1;unfold qhD;rw[h1];simp
theorem qs2(h:MayL l):0<(xu l).length:=by
 rw[qjS];have:=qlp h h.pos;simpa using this
theorem qs1:(xu l).length<=3*l.length:=by rw[qjS];exact (qf1 (l:=l) l.length).2.2
theorem qql(h:MayL l)(hr:qaU l)(hl:(xu l).length<=4096):PrgGood (xu l) :=
 ⟨hl,by have:=qs2 h;omega,fun i hi=>by obtain⟨k,hk⟩:=List.getElem?_of_mem hi;exact (qlO h hr hk).ok,fun k i hk=>(qlO h hr hk).one,by rw[qqm h];decide⟩
-- no cell is read
theorem qBf{i:Ins}(hi:i.code≠96∧i.code≠97){x:BitVec 16}{j:Nat}{L:List Nat}:qis i x j L=L:=by
 unfold qis;simp[rdM,hi.1,hi.2]
theorem qx5{n:Nat}:∀{p:List Ins} {j:Nat} {st:WSt},(∀i ∈ p,i.code≠96∧i.code≠97)->(wkM n j p st).1=st.1
 | [],_,_,_=>rfl
 | i::p,j,st,h=>by
  unfold wkM;rw[qx5 (fun y hy=>h y (List.mem_cons_of_mem _ hy))]
  unfold stM;split
  ·exact qBf (h i (List.mem_cons_self ..))
  ·rfl
theorem quw{rch:List Bool}{sur:List (BitVec 16)}:∀{p:List Ins} {j:Nat} {L:List Nat},(∀i ∈ p,i.code≠96∧i.code≠97)->qxm rch sur j p L=L
 | [],_,_,_=>rfl
 | i::p,j,L,h=>by
  unfold qxm;have hi:=h i (List.mem_cons_self ..);rw[quw (fun y hy=>h y (List.mem_cons_of_mem _ hy)),if_neg (by simp[unC,rdC,hi.1,hi.2])]
theorem qmo{n:Nat}:∀{p:List Ins} {j:Nat},(∀(k:Nat) i,p[k]?=some i->qe6 i (n-1-(j+k))=0)->qiu n j p=none
 | [],_,_=>rfl
 | i::p,j,h=>by
  rw[qjr,if_pos (by simpa using h 0 i rfl)];exact qmo fun k i hk=>by have:=h (k+1) i (by simpa using hk);rw[show j+1+k=j+(k+1) by omega];exact this
theorem qvN{p:List Ins}(h:PrgGood p):atU p []=(0,0):=by
 unfold atU;rw[if_neg (by have:=h.ne;have:=h.len;omega),qmo (fun k i hk=>by rw[Nat.zero_add];exact h.one k i hk)]
 simp[h.last]
theorem qs3(h:MayL l)(hr:qaU l):qer (xu l)=[]∧qDK (xu l)=[]:=by
 have hc:∀i ∈ xu l,i.code≠96∧i.code≠97:=fun i hi=>by obtain⟨k,hk⟩:=List.getElem?_of_mem hi;exact (qlO h hr hk).c
 exact⟨qx5 hc,quw hc⟩
end
structure FilU (x:GFil):Prop where
 d:0<=x.dflt∧x.dflt<=4294967295
 r:∀r ∈ x.rules,0<=r.act∧r.act<=4294967295
 t:∀r ∈ x.rules,∀t ∈ r.tests,0<=t.act∧t.act<=4294967295
theorem qaU.app{a b:List Sy}(h1:qaU a)(h2:qaU b):qaU (a++b):=fun x hx=>by
 rcases List.mem_append.1 hx with h|h
 ·exact h1 x h
 ·exact h2 x h
theorem qaU.nil:qaU []:=fun x hx=>by cases hx
theorem qaU.cons{s:Sy}{l:List Sy}(h1:0<=s.k∧s.k<=4294967295)(h2:qaU l):qaU (s::l):=fun x hx=>by
 rcases List.mem_cons.1 hx with rfl|h
 ·exact h1
 ·exact h2 x h
theorem r0:(0:Int)<=0∧(0:Int)<=4294967295:=⟨by decide,by decide⟩
theorem qmX{a m v:Int}{p F:Nat}(ha:0<=a∧a<=4294967295)(hm:0<=m∧m<=4294967295)(hv:0<=v∧v<=4294967295):qaU (qc0 a m v p F):=by
 unfold qc0;split
 ·exact .nil
 ·split
  ·exact .cons ha (.cons hv .nil)
  ·exact .cons ha (.cons hm (.cons hv .nil))
theorem qDb{x:Int}(h0:0<=x)(h1:x<18446744073709551616):(0<=loW x∧loW x<=4294967295)∧0<=hiW x∧hiW x<=4294967295:=by
 unfold loW hiW;omega
theorem qun{t:GTest}{p:Nat}(ht:TstOk t)(ha:0<=t.act∧t.act<=4294967295):qaU (qgD t p):=by
 have h1:=qDb ht.m0 ht.m1;have h2:=qDb ht.v0 ht.v1;have a0:=ht.a0;have a1:=ht.a1;exact ((qmX (by omega) h1.1 h2.1).app (qmX (by omega) h1.2 h2.2)).app (.cons ha .nil)
theorem qlh:∀{ts:List GTest} {a:Int} {p:Nat},(∀t ∈ ts,TstOk t∧0<=t.act∧t.act<=4294967295)->(0<=a∧a<=4294967295)->qaU (qbS ts a p)
 | [],a,p,_,ha=>.cons ha .nil
 | t::ts,a,p,h,ha=>by
  have ht:=h t (List.mem_cons_self ..);unfold qbS;refine (qun ht.1 ht.2).app ?_;split
  ·exact .nil
  ·exact qlh (fun y hy=>h y (List.mem_cons_of_mem _ hy)) ha
theorem qlb:∀{rs:List GRule} {p:Nat},(∀r ∈ rs,(0<=r.act∧r.act<=4294967295)∧∀t ∈ r.tests,TstOk t∧0<=t.act∧t.act<=4294967295)->qaU (zT rs p)
 | [],_,_=>.nil
 | r::rs,p,h=>by
  have hr:=h r (List.mem_cons_self ..);unfold zT;exact (qlh hr.2 hr.1).app (qlb fun y hy=>h y (List.mem_cons_of_mem _ hy))
theorem qxg{a:Int}(h0:0<=a)(h6:a<6):0<=qcB a∧qcB a<=4294967295:=by
 have:a=0∨a=1∨a=2∨a=3∨a=4∨a=5:=by omega
 rcases this with rfl|rfl|rfl|rfl|rfl|rfl<;>decide
theorem qwG{a:Int}{p F:Nat}(h0:0<=a)(h6:a<6):qaU (qa3 a p F):=by
 unfold qa3;have hb:(0:Int)<=1073741824∧(1073741824:Int)<=4294967295:=⟨by decide,by decide⟩
 refine qaU.app (.cons ⟨show (0:Int)<=4 by decide,show (4:Int)<=4294967295 by decide⟩ (.cons (qxg h0 h6) (.cons r0 .nil))) ?_
 split
 ·exact .cons hb .nil
 ·split
  ·exact .cons hb .nil
  ·exact .nil
theorem qnU{FW:Nat->Nat}{T:List Nd}{p:Nat}(h:∀n ∈ T,0<=n.at'∧n.at'<=4294967295):qaU (xd FW T p):=by
 unfold xd;refine qaU.app ?_ ?_
 ·cases T with
  | nil=>exact .nil
  | cons n T =>
   show qaU (if n.leaf=true then [⟨5,0,FW n.way,0⟩] else [])
   split
   ·exact .cons (s:=⟨5,0,_,0⟩) r0 .nil
   ·exact .nil
 ·unfold brE;intro x hx;obtain⟨n,hn,hx⟩:=List.mem_flatMap.1 hx;unfold qih at hx;split at hx
  ·cases hx
  ·rw[List.mem_singleton] at hx;rw[hx];exact h n hn
theorem qxh(n:Nat):∀(l:List Sp) (a:Nat),l.length<=n->SpR l->∀nd ∈ zw l a,0<=nd.at'∧nd.at'<4294967296:=by
 induction n with
 | zero =>
  intro l a h1 _ nd hnd;rw[List.eq_nil_of_length_eq_zero (Nat.le_zero.1 h1),zw,dif_pos (show ([]:List Sp).length / 2=0 from rfl),List.mem_singleton] at hnd
  subst hnd;exact⟨Int.le_refl 0,show (0:Int)<4294967296 by decide⟩
 | succ n ih =>
  intro l a h1 hr nd hnd;rw[zw] at hnd
  by_cases hk:l.length / 2=0
  ·rw[dif_pos hk,List.mem_singleton] at hnd;subst hnd;exact⟨Int.le_refl 0,show (0:Int)<4294967296 by decide⟩
  ·rw[dif_neg hk] at hnd;rcases List.mem_cons.1 hnd with rfl|hnd
   ·have hlt:l.length / 2<l.length:=by omega
    have:=hr _ (List.getElem_mem hlt);simp only[List.getD_eq_getElem?_getD,zzE hlt,Option.getD_some];exact⟨this.1,this.2.1⟩
   ·rcases List.mem_append.1 hnd with hnd|hnd
    ·exact ih (l.take (l.length / 2)) _ (by simp;omega) (fun s hs=>hr s (List.mem_of_mem_take hs)) nd hnd
    ·exact ih (l.drop (l.length / 2)) _ (by simp;omega) (fun s hs=>hr s (List.mem_of_mem_drop hs)) nd hnd
section
variable {x:GFil}
theorem qmF(h:FilG x)(hu:FilU x):qaU (ze x):=by
 unfold ze;refine (((qaU.app (qwG h.a0 h.a6) (qnU fun n hn=>?_)).app (.cons hu.d .nil)).app (qlb fun r hr=>⟨hu.r r hr,fun t ht=>⟨(h.ts r hr t ht).ok,hu.t r hr t ht⟩⟩)).app (.cons ⟨show (0:Int)<=2147418112 by decide,show (2147418112:Int)<=4294967295 by decide⟩ .nil)
 have:=qxh _ _ 0 (Nat.le_refl _) (qh5 h.spans.1 (Int.le_refl 0) (Int.le_refl _)) n hn;omega
def szF(x:GFil):Nat:=10+(x.rules.map fun r=>3+7*r.tests.length).sum
theorem qqV{rs:List GRule}:zh rs+2*rs.length<=(rs.map fun r=>3+7*r.tests.length).sum:=by
 induction rs with
 | nil=>simp[zh]
 | cons r rs ih =>
  have:=qir (ts:=r.tests);simp[zh,ql0] at ih ⊢;omega
theorem qoH(h:FilG x):(ze x).length<=szF x:=by
 have h1:=h.dfl.1;have h2:=qqV (rs:=x.rules);rw[qkM];unfold xH szF;omega
end
theorem qlz:∀{ts:List GTest} {a:Int},(qex ts a).1.Sublist ts∧((qex ts a).2=a∨∃t ∈ ts,(qex ts a).2=t.act)
 | [],_=>⟨.slnil,.inl rfl⟩
 | t::ts,a=>by
  unfold qex;split
  ·exact⟨List.nil_sublist _,.inr ⟨t,List.mem_cons_self ..,rfl⟩⟩
  ·obtain⟨h1,h2⟩:=qlz (ts:=ts) (a:=a);refine⟨h1.cons_cons t,?_⟩;rcases h2 with h2|⟨y,hy,h2⟩
   ·exact .inl h2
   ·exact .inr ⟨y,List.mem_cons_of_mem _ hy,h2⟩
theorem quu{a:Int}{ts:List GTest}:(qe3 a ts).Sublist ts:=by
 unfold qe3;have:=List.dropWhile_sublist (fun t:GTest=>decide (t.act=a)) (l:=ts.reverse)
 have:=this.reverse;rwa [List.reverse_reverse] at this
theorem qoE{q:GTest->Bool}:∀{ts:List GTest} {a:Int},(∀t ∈ ts,t.mask=0->q t=true)->fnd q (qex ts a).2 (qex ts a).1=fnd q a ts
 | [],_,_=>rfl
 | t::ts,a,h=>by
  unfold qex;split
  ·rename_i h0;rw[qi8,qcZ,if_pos (h t (List.mem_cons_self ..) h0)]
  ·rw[qcZ,qcZ,qoE fun y hy=>h y (List.mem_cons_of_mem _ hy)]
theorem qmL{q:GTest->Bool}{a:Int}{t:GTest}(h:t.act=a):∀{ts:List GTest},fnd q a (ts++[t])=fnd q a ts
 | []=>by rw[List.nil_append,qcZ,qi8,h];split<;>rfl
 | y::ts=>by rw[List.cons_append,qcZ,qcZ,qmL h]
theorem qut{q:GTest->Bool}{a:Int}(n:Nat):∀(ts:List GTest),ts.length=n->fnd q a (qe3 a ts)=fnd q a ts:=by
 induction n with
 | zero=>intro ts h;rw[List.eq_nil_of_length_eq_zero h];rfl
 | succ n ih =>
  intro ts h;have e:ts=ts.dropLast++[ts.getLast (by intro h0;rw[h0] at h;simp at h)]:=(List.dropLast_concat_getLast _).symm;generalize ts.getLast _=z at e;generalize ts.dropLast=l0 at e;subst e;have hl0:l0.length=n:=by simpa using h
  rw[qkl];split
  ·rename_i hz;rw[ih l0 hl0,qmL hz]
  ·rfl
theorem qkn:∀{l:List GRule} {o:Option GRule},upR o l=true↔(∀r ∈ l,qbf r=true)∧(∀b,o=some b->∀r ∈ l,b.nr<r.nr)∧l.Pairwise fun a b=>a.nr<b.nr
 | [],o=>by simp[upR]
 | r::l,o=>by
  have ih:=qkn (l:=l) (o:=some r);simp only[upR,Bool.and_eq_true,ih,List.forall_mem_cons,List.pairwise_cons];constructor
  ·rintro⟨⟨h1,h2⟩,h3,h4,h5⟩;refine⟨⟨h1,h3⟩,fun b hb=>?_,h4 r rfl,h5⟩
   subst hb;have h2:b.nr<r.nr:=by simpa using h2
   exact⟨h2,fun y hy=>Int.lt_trans h2 (h4 r rfl y hy)⟩
  ·rintro⟨⟨h1,h3⟩,h2,h4,h5⟩;refine⟨⟨h1,?_⟩,h3,fun b hb=>by cases hb;exact h4,h5⟩
   cases o with
   | none=>rfl
   | some b=>simpa using (h2 b rfl).1
section
variable {x:GFil}
theorem qjX{r:GRule}:(xv r).nr=r.nr:=rfl
theorem qbQ{r:GRule}:(xv r).tests.Sublist r.tests:=quu.trans qlz.1
theorem qni{r:GRule}:(xv r).act=r.act∨∃t ∈ r.tests,(xv r).act=t.act:=qlz.2
theorem qtr{q:GTest->Bool}{r:GRule}(h:∀t ∈ r.tests,t.mask=0->q t=true):fnd q (xv r).act (xv r).tests=fnd q r.act r.tests :=
 (qut _ _ rfl).trans (qoE h)
theorem qef{r:GRule}(h:r ∈ (jz x).rules):∃r0 ∈ x.rules,r=xv r0:=by
 obtain⟨h1,_⟩:=List.mem_filter.1 h;obtain⟨r0,h0,e⟩:=List.mem_map.1 h1;exact⟨r0,h0,e.symm⟩
theorem qob{r:GRule}(h:qbf r=true):qbf (xv r)=true:=by
 simp only[qbf,Bool.and_eq_true,decide_eq_true_eq,List.all_eq_true] at h ⊢;obtain⟨⟨h1,h2⟩,h3⟩:=h;refine⟨⟨Nat.le_trans qbQ.length_le h1,fun t ht=>h2 t (qbQ.subset ht)⟩,?_⟩
 rcases qni (r:=r) with e|⟨t,ht,e⟩
 ·rw[e];exact h3
 ·rw[e];have:=h2 t ht;simp only[qbh,Bool.and_eq_true] at this;exact this.2
theorem qf2(h:xC x=true):xC (jz x)=true:=by
 simp only[xC,Bool.and_eq_true,decide_eq_true_eq] at h ⊢;obtain⟨⟨⟨⟨k1,k2⟩,k3⟩,k4⟩,k5⟩:=h;obtain⟨u1,_,u3⟩:=qkn.1 k5;refine⟨⟨⟨⟨k1,k2⟩,?_⟩,k4⟩,qkn.2 ⟨fun r hr=>?_,fun b hb=>(by cases hb),?_⟩⟩
 ·have:=List.length_filter_le (qbd x.dflt) (x.rules.map xv);rw[List.length_map] at this;exact Nat.le_trans this k3
 ·obtain⟨r0,h0,rfl⟩:=qef hr;exact qob (u1 r0 h0)
 ·exact ((List.pairwise_map (f:=xv) (R:=fun a b:GRule=>a.nr<b.nr)).2 u3).filter _
theorem qlR(h:FilR x):FilR (jz x):=by
 refine⟨fun r hr=>?_,fun r hr t ht=>?_⟩
 ·obtain⟨r0,h0,rfl⟩:=qef hr;exact h.nr r0 h0
 ·obtain⟨r0,h0,rfl⟩:=qef hr;exact h.ts r0 h0 t (qbQ.subset ht)
theorem qzY(h:FilU x):FilU (jz x):=by
 refine⟨h.d,fun r hr=>?_,fun r hr t ht=>?_⟩
 ·obtain⟨r0,h0,rfl⟩:=qef hr;rcases qni (r:=r0) with e|⟨t,ht,e⟩
  ·rw[e];exact h.r r0 h0
  ·rw[e];exact h.t r0 h0 t ht
 ·obtain⟨r0,h0,rfl⟩:=qef hr;exact h.t r0 h0 t (qbQ.subset ht)
theorem qwf:szF (jz x)<=szF x:=by
 have:∀l:List GRule,(((l.map xv).filter (qbd x.dflt)).map fun r=>3+7*r.tests.length).sum<=(l.map fun r=>3+7*r.tests.length).sum:=fun l=>by
  induction l with
  | nil=>exact Nat.le_refl _
  | cons r l ih =>
   have hl:=(qbQ (r:=r)).length_le;rw[List.map_cons,List.filter_cons];split
   ·simp only[List.map_cons,List.sum_cons];omega
   ·simp only[List.map_cons,List.sum_cons];omega
 have:=this x.rules;exact Nat.add_le_add_left this 10
theorem qkO{d n:Int}{q:GTest->Bool}:∀{l:List GRule},(∀r ∈ l,∀t ∈ r.tests,t.mask=0->q t=true)->l.Pairwise (fun a b=>a.nr<b.nr)->
  (match ((l.map xv).filter (qbd d)).find? (fun r=>decide (r.nr=n)) with|none=>d|some r=>fnd q r.act r.tests)=(match l.find? (fun r=>decide (r.nr=n)) with|none=>d|some r=>fnd q r.act r.tests)
 | [],_,_=>rfl
 | r::l,h,hp=>by
  obtain⟨p1,p2⟩:=List.pairwise_cons.1 hp;have hr:=qtr (h r (List.mem_cons_self ..));have ih:=qkO (d:=d) (n:=n) (q:=q) (l:=l) (fun y hy=>h y (List.mem_cons_of_mem _ hy)) p2
  rw[List.map_cons,List.filter_cons,List.find?_cons]
  by_cases hn:r.nr=n
  ·have no:((l.map xv).filter (qbd d)).find? (fun r=>decide (r.nr=n))=none:=by
    refine List.find?_eq_none.2 fun y hy=>?_
    obtain⟨y1,_⟩:=List.mem_filter.1 hy;obtain⟨z,hz,rfl⟩:=List.mem_map.1 y1;have:=p1 z hz;rw[qjX];simp;omega
   simp only[hn,decide_true]
   by_cases hk:qbd d (xv r)=true
   ·rw[if_pos hk,List.find?_cons];simp only[qjX,hn,decide_true];exact hr
   ·rw[if_neg hk,no];simp only[qbd,Bool.or_eq_true,decide_eq_true_eq] at hk;have h0:(xv r).tests=[]:=List.eq_nil_of_length_eq_zero (by omega);have h1:(xv r).act=d:=Decidable.byContradiction fun z=>hk (.inr z)
    rw[h0,h1,qi8] at hr;exact hr
  ·simp only[hn,decide_false]
   by_cases hk:qbd d (xv r)=true
   ·rw[if_pos hk,List.find?_cons];simp only[qjX,hn,decide_false];exact ih
   ·rw[if_neg hk];exact ih
theorem qtq(h:FilG x)(hp:x.rules.Pairwise fun a b=>a.nr<b.nr){d:GData}(hd:DatOk d):qfj (jz x) d=qfj x d:=by
 rw[qhl,qhl];rw[show (jz x).arch=x.arch from rfl]
 by_cases hc:(ofM d.arch d.nr).2=false∨(ofM d.arch d.nr).1≠x.arch
 ·rw[if_pos hc,if_pos hc]
 ·rw[if_neg hc,if_neg hc];refine qkO (fun r hr t ht h0=>?_) hp
  have hg:=h.ts r hr t ht
  have hv:t.val=0:=by
   have:=hg.sub;rw[h0] at this;have e:=qcS (a:=t.val.toNat) (b:=0) (by have:=hg.ok.v1;omega) (by decide)
   rw[Int.toNat_of_nonneg hg.ok.v0] at e;rw[← this];simpa using e
  have ha:=qlo hd hg.ok.a0 hg.ok.a1;have e:=qcS (a:=(qkw d t.arg).toNat) (b:=0) (by omega) (by decide);rw[Int.toNat_of_nonneg ha.1] at e;unfold xq;rw[h0,hv];simp only[hg.ok.a0,hg.ok.a1,decide_true,Bool.true_and,decide_eq_true_eq];simpa using e
end
structure PrgT (p:List Ins) (n:Nat) (den:GData->Int):Prop where
 good:PrgGood p
 um:qer p=[]
 ud:qDK p=[]
 len:p.length<=3*n
 tells:∀d,DatOk d->(qe8 p d).1=den d∧(qe8 p d).2.2.2=0
def qnH(a:List Ins×Int)(n:Nat)(den:GData->Int):Prop:=(a.2=270∧a.1=[]∧1365<n)∨(a.2=0∧PrgT a.1 n den)
theorem qsZ{l:List Sy}{n:Nat}{den:GData->Int}(h:MayL l)(hr:qaU l)(hl:l.length<=n)(he:∀d,DatOk d->Ev l d 0 0 (den d)):qnH (zL l) n den:=by
 have h3:=qs1 (l:=l);unfold zL
 by_cases hb:4096<(xu l).length
 ·rw[if_pos hb];exact .inl ⟨rfl,rfl,by omega⟩
 ·rw[if_neg hb];have hu:=qs3 h hr;exact .inr ⟨rfl,qql h hr (by omega),hu.1,hu.2,by simp only;omega,fun d hd=>qqo h (he d hd)⟩
section
variable {x:GFil}
theorem qrW(hK:xC x=true)(hR:FilR x)(hU:FilU x):qnH (qeP x) (szF x) (qfj x):=by
 have hG:=FilG.of hK hR;unfold qeP;rw[if_pos hK];exact qsZ (qfk hG) (qmF hG hU) (qoH hG) fun d hd=>qoG hG hd 0
theorem qyV(hK:xC x=true)(hR:FilR x)(hU:FilU x):qnH (qfi x) (szF x) (qfj x):=by
 have hG:=FilG.of hK hR;have hG2:=FilG.of (qf2 hK) (qlR hR);have hm:=qfk hG2
 have hp:x.rules.Pairwise fun a b=>a.nr<b.nr:=by
  simp only[xC,Bool.and_eq_true] at hK;exact (qkn.1 hK.2).2.2
 unfold qfi;rw[if_pos hK];refine qsZ (qlS hm) (qwF (qmF hG2 (qzY hU))) (Nat.le_trans qwE (Nat.le_trans (qoH hG2) qwf)) fun d hd=>?_
 rw[← qtq hG hp hd];exact qAv hm (qoG hG2 hd 0)
theorem qw2{u v:List Ins×Int}{n:Nat}{den:GData->Int}(hu:qnH u n den)(hv:qnH v n den):qnH (qdb u v) n den:=by
 unfold qdb;split
 ·exact hu
 ·exact hv
theorem qrV(hK:xC x=true)(hR:FilR x)(hU:FilU x)(o:Bool):qnH (qbX x o) (szF x) (qfj x):=by
 unfold qbX;split
 ·exact qw2 (qrW hK hR hU) (qyV hK hR hU)
 ·exact qrW hK hR hU
theorem qvl(hK:xC x=false)(o:Bool):qbX x o=([],210):=by
 unfold qbX qeP qfi qdb;simp[hK]
end
end Go.Kc
end
section
namespace Go.Kc
variable {P:Program} {f:Nat}
def qgE(x:GFil):Prop:=x.rules.length<=100000∧∀r ∈ x.rules,r.tests.length<=100000
def qxt(P:Program)(g:Nat):Prop:=∀x,qgE x->qd P g [.agg (qS x)] (.b (xC x))
def qrB(P:Program)(g:Nat):Prop:=∀x,FilR x->qgE x->qd P g [.agg (qS x)] (qmi x)
def qoB(P:Program)(g:Nat):Prop:=∀l,MayL l->qd P g [.fz l.length (rSy l)] (qha l)
def qvb(P:Program)(g:Nat):Prop:=∀l,MayL l->qd P g [.fz l.length (rSy l)] (.tup [.fz (qbR l).length (rSy (qbR l)),.i .i64 0])
def qrE(P:Program)(g:Nat):Prop:=∀x,qgE x->qd P g [.agg (qS x)] (qpD x)
def qxv(P:Program)(g:Nat):Prop:=∀l:List (Int×Nat),l.length<=100000->(∀y ∈ l,0<=y.1∧y.1<4294967296)->qt6 l->qd P g [.fz l.length (qaE l),.fz l.length (qa4 l),.i .i64 0] (.tup [.fz (zG (pcs 0 l 0)).length (rSp (zG (pcs 0 l 0))),.i .i64 0])
def qxw(P:Program)(g:Nat):Prop:=∀l:List Sp,l.length<=400000->0<l.length->SpR l->qd P g [.fz l.length (rSp l)] (qou l)
theorem qE0{g1 g2 g3 h1:Nat}(hc:qc P f (qgO g1 g2)=true)(hp:qc P g1 (qc3 g3)=true)(hm:qc P g2 (qc2 h1)=true)(hm1:qc P h1 je=true)(hp1:qc P g3 qbO=true):qxv P f:=fun l hl hr hu =>
 qAY hc l 0 (qqO hp l 0) (qng hm hm1 hp1 l 0 hl hr) hl hu
theorem qE3{g1 g2:Nat}(hc:qc P f (qdK g1 g2)=true)(h1:qc P g1 qdJ=true)(h2:qc P g2 jx=true):qxw P f:=fun l hl h0 hr =>
 qq1 hc h2 l (qop h1 l (by omega) hr) hl h0
theorem qEi{g gl gp gj gh gr go gb gR gd gt gH gA gB gC gD gM gS gT:Nat}(hc:qc P f (qeC gM go gS gT gb gh gr gR gd)=true)(E:EFn P g gl gp gj gh gr go gb gR gd gt gH gA gB gC gD)(hM:qxt P gM)(hS:qxv P gS)(hT:qxw P gT):qrB P f:=fun x hR hL =>
 qp4 hc E x hR (hM x hL) fun hK=>by
  have hG:=FilG.of hK hR;have hd:=hG.dfl;have hn:=hG.n;have hs:=hG.spans;have hT:=hT (zG (pcs 0 (qI x.rules) 0)) (by have:=hs.2.2.2.2;omega) hG.pos (qh5 hs.1 (Int.le_refl 0) (Int.le_refl _))
  unfold qou at hT;rw[if_pos (qkL hs.1)] at hT;refine⟨by have:=hd.1;omega,by have:=hd.2;omega,hG.tne,hG.nodes,hS (qI x.rules) (by rw[qaD];omega) (fun y hy=>?_) (qli hG.ups),hT⟩
  obtain⟨i,hi⟩:=List.getElem?_of_mem hy;rw[qcJ] at hi;obtain⟨r,hr,rfl⟩:=Option.map_eq_some_iff.1 hi;exact hR.nr r (zzM hr)
theorem qEt{g1 g2 gM gB gi go:Nat}(hc:qc P f (qeE g1 g2)=true)(h1:qc P g1 (qc1 gM gB go)=true)(h2:qc P g2 zC=true)(hM:∀l,MayL l->qd P gM [.fz l.length (rSy l)] (.b true))
  (hB1:∀l:List Sy,qd P gB [.fz l.length (rSy l)] (.fn gi [] [.pf [.fz l.length (rSy l)] 0])) (hi1:qc P gi qB=true) (ho:qva P go):qoB P f:=fun l hl =>
 qqn hc l (by have:=hl.big;omega) (fun k hk=>qqq h1 l (hM l hl) hB1 hi1 ho (by have:=hl.big;omega) hl.hin hk) fun s b tr p hp k hb hk=>qoh h2 p hp hb hk
theorem qFf{gD gO gP gB gi:Nat}(hc:qc P f (qa0 gD gP gO)=true)(hD:qc P gD xe=true)(hO:cOf P gO)(hP:qc P gP (jp gB)=true)
  (hB:∀l:List Ins,qd P gB [.fz l.length (rP l)] (.fn gi [] [.pf [.fz l.length (rP l)] 0])) (hi:qc P gi qH=true):qva P f:=fun kb n s bb bp back pl tr far k h x hb hj hk =>
 qz9 hc hD hO hP hB hi h x hb hj hk
theorem qFg{g1 g2 gM gs gt gl s1 s2 t1 t2 ti v1 v2 h1 h2 h3:Nat}(hc:qc P f (qgN g1 g2)=true)(hp:qc P g1 (qdH gs gt gl)=true)(hd:qc P g2 (qfw gM)=true)(hM:∀l,MayL l->qd P gM [.fz l.length (rSy l)] (.b true))
  (hs:qc P gs (qdI s1 s2)=true) (hs1:qc P s1 qcl=true) (hm:qc P s2 (xQ h1 h2 h3)=true) (c1:qcU P h1 4 24) (c2:cOf P h2) (c3:qfd P h3)
  (ht:qc P gt (qcm h1 t1 t2 s2 h3)=true) (ht1:qc P t1 qaj=true) (hB:∀l:List Sy,qd P t2 [.fz l.length (rSy l)] (.fn ti [] [.pf [.fz l.length (rSy l)] 0])) (hi:qc P ti qB=true)
  (hl:qc P gl (qdG v1 v2 s2)=true) (hv1:qc P v1 (qeF h2 h3)=true) (hv2:qc P v2 qaT=true):qvb P f:=fun l h=>by
 have m1:=qhV h;have m2:=qjm m1;have b0:=h.big;have b1:=m1.big;have b2:=m2.big
 exact qtI hc (qnj hp) l (qbR l) (qwC hd l (qen l) (ql6 (qen l)) (qbR l) (hM l h) (qnw hs hs1 hm c1 c2 c3 l (by omega) h.in)
  (qkB ht c1 ht1 hB hi hm c1 c2 c3 c3 (qen l) (by omega) m1.in) (qna hl hv2 hm c1 c2 c3 (ql6 (qen l)) (qnK hv1 c2 c3 _ (by omega) m2.pos m2.in m2.on) (by omega) m2.in))
theorem qEw{g1 g2:Nat}(hc:qc P f (qeD g1 g2)=true)(hM:qxt P g1)(h2:∀r:GRule,r.tests.length<=100000->qd P g2 [.agg (qM r)] (.agg (qM (xv r)))):qrE P f:=fun x hL =>
 qmf hc x (hM x hL) h2 hL.1 hL.2
theorem qzX{x:GFil}(h:qgE x):qgE (jz x):=by
 refine⟨?_,fun r hr=>?_⟩
 ·have:=List.length_filter_le (qbd x.dflt) (x.rules.map xv);rw[List.length_map] at this;exact Nat.le_trans this h.1
 ·obtain⟨r0,h0,rfl⟩:=qef hr;exact Nat.le_trans qbQ.length_le (h.2 r0 h0)
theorem qCD{gE gN gO gL:Nat}(hE:qrB P gE)(hN:qrE P gN)(hO:qvb P gO)(hL:qoB P gL){x:GFil}(hR:FilR x)(hl:qgE x):CmpFn P gE gN gO gL x where
 em:=hE x hR hl
 nm:=hN x hl
 lk:=fun hK=>hL _ (qfk (FilG.of hK hR))
 em2:=fun _=>hE _ (qlR hR) (qzX hl)
 ok2:=qf2
 op:=fun hK=>hO _ (qfk (FilG.of (qf2 hK) (qlR hR)))
 lk2:=fun hK=>hL _ (qlS (qfk (FilG.of (qf2 hK) (qlR hR))))
def qmu(P:Program)(g:Nat):Prop:=∀x,FilR x->qgE x->∀o:Bool,qd P g [.agg (qS x),.b o] (.tup [.fz (qbX x o).1.length (rP (qbX x o).1),.i .i64 (qbX x o).2])
theorem qEg{gd gwN gwE gwO gwL gs gE gN gO gL:Nat}(hc:qc P f (qaZ gwE gwL gd gwN gwO gs)=true)(hd:qc P gd qG=true)(hN:qc P gwN (zR gN)=true)(hE:qc P gwE (zK gE)=true)(hO:qc P gwO (qV gO)=true)(hL:qc P gwL (qF gL)=true)
  (hs:qc P gs xE=true) (c1:qrB P gE) (c2:qrE P gN) (c3:qvb P gO) (c4:qoB P gL):qmu P f:=fun x hR hl o =>
 qly hc hd hN hE hO hL (fun u v x y hx hy=>qhT hs u v x y hx hy) (qCD c1 c2 c3 c4 hR hl) o
structure FilB (x:GFil):Prop where
 l:x.rules.length<=4398046511104
 t:∀r ∈ x.rules,r.tests.length<=4398046511104
def szT(rs:List GRule):Nat:=(rs.map fun r=>3+7*r.tests.length).sum
theorem quk{rs:List GRule}{r:GRule}:szT (rs++[r])=szT rs+(3+7*r.tests.length):=by simp[szT]
theorem quj:∀{rs:List GRule},(∀r ∈ rs,r.tests.length<=100000)->szT rs<=rs.length*700003
 | [],_=>by simp[szT]
 | r::rs,h=>by
  have h1:=h r (List.mem_cons_self ..);have h2:=quj (rs:=rs) fun y hy=>h y (List.mem_cons_of_mem _ hy)
  simp only[szT,List.map_cons,List.sum_cons,List.length_cons] at h2 ⊢;omega
theorem qDF{x:GFil}:szF x=10+szT x.rules:=rfl
def qeX:IFn:=⟨[.tmp 2],.seq (.r [.q 1 (.box (.t 0)),.m 2 (.k 0)]) (.seq (.r [.m 3 (.k 10)]) (.seq (.seq (.r [.f 6 1 1,.d 7 6,.e 8 7,.m 9 (.k 0)]) (.blk 0 (.loop (.seq (.r [.s 10 9 8]) (.seq (.cond (.t 10) (.skip) (.exit 0)) (.seq (.blk 1 (.seq (.r [.i 11 3 7 9,.v 12 3 11,.q 5 (.alloc [.i .u32 0,.nils,.i .u32 0]),.u (.store 3 (.t 5) (.t 12))]) (.r [.n 13 3,.f 14 1 5,.d 15 14,.e 16 15,.q 17 (.bin .mul (.k 7) (.t 16)),.q 18 (.bin .add (.k 3) (.t 17)),.b 19 .add 13 18,.n 3 19]))) (.r [.a 20 9 1,.n 9 20]))))))) (.seq (.r [.n 21 3,.n 2 21]) (.ret))))⟩
theorem qBR(hc:qc P f qeX=true)(x:GFil)(hx:qgE x):qd P f [.agg (qS x)] (.i .i64 (szF x:Int)):=by
 refine qd.mk hc (by simp[qu,clo,qS,zS]) ?_;simp only[qeX,qS,vI,simprocAttr];simp +decide only[↓vS,vT,simprocAttr];refine SL.loopP (α:=Nat) (fun j=>[(3,.i .i64 ((10+szT (x.rules.take j):Nat):Int)),(7,.fz x.rules.length (rR x.rules)),(8,.i .i64 (x.rules.length:Int)),(9,.i .i64 (j:Int))]) (fun j h=>j<=x.rules.length∧h.fl=0) (fun j=>x.rules.length-j) ?_ 0 ?_ ?_
 ·rintro j ⟨s,fl,tr⟩ ⟨hj,rfl⟩ G ih;simp only[vI,simprocAttr];have hxl:=hx.1;have hle:=quj (rs:=x.rules.take j) fun r hr=>hx.2 r (List.mem_of_mem_take hr)
  rw[List.length_take] at hle
  by_cases hlt:j<x.rules.length
  ·have hlt':(j:Int)<x.rules.length:=by omega
   obtain⟨r,hr⟩:∃r,x.rules[j]?=some r:=⟨_,zzE hlt⟩;have hrt:=hx.2 r (zzM hr);have hel:=qjj hr;have h3:j*3+3<=(rR x.rules).length:=by rw[qj1];omega
   have hw1:IntKind.wrap .i64 ((j:Int)+1)=((j+1:Nat):Int):=by rw[qq (by omega) (by omega)];simp
   have hw2:IntKind.wrap .i64 (7*(r.tests.length:Int))=7*(r.tests.length:Int):=qq (by omega) (by omega);have hw3:IntKind.wrap .i64 (3+7*(r.tests.length:Int))=3+7*(r.tests.length:Int):=qq (by omega) (by omega);have hT:=quk (rs:=x.rules.take j) (r:=r);rw[← qaG hr] at hT;have hw4:IntKind.wrap .i64 (((10+szT (x.rules.take j):Nat):Int)+(3+7*(r.tests.length:Int)))=((10+szT (x.rules.take (j+1)):Nat):Int):=by rw[qq (by omega) (by omega),hT];omega
   simp +decide only[↓vS,vT,simprocAttr,hlt',hlt,h3,hel,qM,hw1,hw2,hw3,hw4];exact ih (j+1) _ _ (by omega) (by simp[qf,qi,Tr.get_set]) ⟨by omega,rfl⟩
  ·have hlt':¬(j:Int)<x.rules.length:=by omega
   obtain rfl:j=x.rules.length:=by omega
   simp +decide only[↓vS,vT,simprocAttr,hlt',hlt];simp[vZ,qDF]
 ·simp[qf,qi,Tr.get_set,szT]
 ·exact⟨Nat.zero_le _,rfl⟩
theorem SC.args{vs vs':List AV}{h:Hp}{k:AV->Hp->Prop}(hs:SC P f vs' h k)(ha:∀(ρ:Ren) (a:List Value),VRs σ0 ρ vs a->VRs σ0 ρ vs' a):SC P f vs h k :=
 ⟨hs.1,fun ρ B w args r hv=>hs.2 ρ B w args r (ha ρ _ hv)⟩
theorem qsh{a d:Int}{vs:List AV}{ρ:Ren}{as:List Value}(h:VRs σ0 ρ (.agg [.i .i64 a,.nils,.i .u32 d]::vs) as):VRs σ0 ρ (.agg (qS ⟨a,[],d⟩)::vs) as:=by
 cases h with
 | cons _ _ _ _ h1 hs =>
  refine .cons _ _ _ _ ?_ hs;cases h1 with
  | agg _ arr h1 =>
   obtain⟨l⟩:=arr;refine .agg _ _ ?_;change VRs σ0 ρ _ l at h1;change VRs σ0 ρ _ l;cases h1 with
   | cons _ _ _ _ q1 h1 =>
    cases h1 with
    | cons _ _ _ _ q2 h1 =>
     refine .cons _ _ _ _ q1 (.cons _ _ _ _ ?_ h1);cases q2 with
     | nils=>exact .fz0 none
theorem qd.filNil{a d:Int}{vs:List AV}{v:AV}(h:qd P f (.agg (qS ⟨a,[],d⟩)::vs) v):qd P f (.agg [.i .i64 a,.nils,.i .u32 d]::vs) v:=fun hp k hk =>
 SC.args (h hp k hk) fun _ _=>qsh
def qbc(a:Nat):IFn:=⟨[.tmp 6],.seq (.r [.q 4 (.box (.t 1)),.m 6 .F]) (.seq (.r [.n 11 0,.v 12 9 4,.l 13 a [.t 11,.t 12],.n 10 13,.x 14 10 0,.x 15 10 1,.x 16 10 2,.n 7 14,.n 8 15,.n 9 16]) (.seq (.r [.n 17 9,.w 18 .eql 17 0,.n 19 18,.y 20 7 19,.y 21 2 19,.g 22 (.bin .eql (.t 20) (.t 21)) 19 true,.p 23 19 22,.n 6 23]) (.ret)))⟩
theorem qD4{g:Nat}(hc:qc P f (qbc g)=true)(hg:qCz P g)(p:List Ins)(hp:PrgGood p)(d:GData)(hd:DatOk d)(w:Int)(h1:(qe8 p d).1=w):qd P f [.fz p.length (rP p),.agg (qw d),.i .u32 w] (.b true):=by
 obtain⟨n,h⟩:=hg p hp d hd;rw[h1] at h;refine qd.mk hc (by simp[qu,clo,qx,qls]) ?_;simp only[qbc,qw,vI,simprocAttr] at h ⊢;simp +decide only[↓vS,vT,simprocAttr];refine h.sc ?_;simp +decide only[↓vS,vT,simprocAttr];simp[vZ]
section
variable {g1 g2 g3:Nat}
end
noncomputable def qkx(l:List Sy)(e:Int):List Ins×Int:=if e=0 then zL l else ([],e)
noncomputable def qlG(l:List Sy)(e:Int):List Ins×Int:=if e=0 then zL (qbR l) else ([],e)
noncomputable def qn5(l:List Sy)(e:Int)(o:Bool):List Ins×Int:=if o=true then qdb (qkx l e) (qlG l e) else qkx l e
structure GrdFn (P:Program) (gG gO gL:Nat) (ar:AV) (l:List Sy) (e:Int):Prop where
 gu:qd P gG [ar] (.tup [.fz l.length (rSy l),.i .i64 e])
 lk:e=0->qd P gL [.fz l.length (rSy l)] (qha l)
 op:e=0->qd P gO [.fz l.length (rSy l)] (.tup [.fz (qbR l).length (rSy (qbR l)),.i .i64 0])
 lk2:e=0->qd P gL [.fz (qbR l).length (rSy (qbR l))] (qha (qbR l))
section
variable {gG gO gL b s:Nat} {tr:Tr Blk} {k:AV->Hp->Prop} {ar:AV} {l:List Sy} {er:Int}
def zF:List AV:=[.i .i64 0,.nils,.i .u32 0]
theorem qm9{m:List Sy}(h:(zL m).2≠0):(zL m).1=[]:=by
 unfold zL at h ⊢;split at h
 ·rename_i h2;rw[if_pos h2]
 ·exact absurd rfl h
theorem qsx{gd gwG gwL bx:Nat}{e:Nat}{wf a:Bool}(hc:qc P gd qG=true)(hG:qc P gwG (zB gG)=true)(hL:qc P gwL (qF gL)=true)(C:GrdFn P gG gO gL ar l er)
  (hx:tr.get bx=some (.cells e wf a [.fn gwG [.ptr b 0] [],.fn gwL [.ptr b 0] []])) (hbx:bx≠b) (h0:tr.get b=some (WkB zF ar .nils .nils))
  (hk:∀v tr2,qg7 v (qkx l er).1->(∀c,c≠b->tr2.get c=tr.get c)->k (.tup [v,.i .i64 (qkx l er).2]) ⟨s,0,tr2⟩):SC P gd [.ptr b 0,.sl bx 0 2 2 false] ⟨s,0,tr⟩ k:=by
 have hG':=C.gu
 by_cases hz:er=0
 ·have hL':=C.lk hz;rw[qiY] at hL';have e1:qkx l er=zL l:=by unfold qkx;rw[if_pos hz]
  rw[e1] at hk
  refine qfN hc [gwG,gwL] (by simpa using hx) hbx (fun i=>if i=0 then WkB zF ar .nils .nils else if i=1 then WkB zF ar (.fz l.length (rSy l)) .nils else WkB zF ar (.fz l.length (rSy l)) (.fz (zL l).1.length (rP (zL l).1)))
   (fun i=>if i=0 then 0 else if i=1 then er else (zL l).2) 2 rfl (by omega) h0 rfl ?_ ?_ ?_
  ·intro i g s' tr' k' hg hj hB hk';have hi:i<2:=by have:=(zzS.1 hg).1;simpa using this
   have hi2:i=0∨i=1:=by omega
   rcases hi2 with rfl|rfl
   ·simp at hg;subst hg;exact qf7 hG zF rfl hB _ _ qib hG' hk'
   ·simp at hg;subst hg;exact qeN hL zF rfl hB _ _ qib hL' hk'
  ·intro i tr2 hf hv hj;have h0':i≠0:=fun h=>hv (by simp[h])
   have h1':i≠1:=fun h=>hv (by simp[h,hz])
   simp only[if_neg h0',if_neg h1'] at hv ⊢;exact hk _ _ (.inr ⟨rfl,qm9 hv⟩) hf
  ·intro tr2 hf hj hB;have hz2:=hj 2 (by omega);simp at hz2;refine⟨zF,ar,_,_,rfl,rfl,?_⟩;have:=hk (.fz (zL l).1.length (rP (zL l).1)) tr2 (.inl rfl) hf;rw[hz2] at this;exact this
 ·have e1:qkx l er=([],er):=by unfold qkx;rw[if_neg hz]
  rw[e1] at hk;refine qfN hc [gwG,gwL] (by simpa using hx) hbx (fun i=>if i=0 then WkB zF ar .nils .nils else WkB zF ar (.fz l.length (rSy l)) .nils) (fun i=>if i=0 then 0 else er) 2 rfl (by omega) h0 rfl ?_ ?_ ?_
  ·intro i g s' tr' k' hg hj hB hk'
   have hi:i=0:=by
    by_cases hi:i=0
    ·exact hi
    ·have:=hj i (Nat.le_refl _);simp[hi] at this;exact absurd this hz
   subst hi;simp at hg;subst hg;exact qf7 hG zF rfl hB _ _ qib hG' hk'
  ·intro i tr2 hf hv hj;have hi:i≠0:=fun h=>hv (by simp[h])
   simp only[if_neg hi];exact hk _ _ (.inr ⟨rfl,rfl⟩) hf
  ·intro tr2 _ hj _;have:=hj 1 (by omega);simp at this;exact absurd this hz
theorem qsw{gd gwG gwO gwL bx:Nat}{e:Nat}{wf a:Bool}(hc:qc P gd qG=true)(hG:qc P gwG (zB gG)=true)(hO:qc P gwO (qV gO)=true)(hL:qc P gwL (qF gL)=true)(C:GrdFn P gG gO gL ar l er)
  (hx:tr.get bx=some (.cells e wf a [.fn gwG [.ptr b 0] [],.fn gwO [.ptr b 0] [],.fn gwL [.ptr b 0] []])) (hbx:bx≠b) (h0:tr.get b=some (WkB zF ar .nils .nils))
  (hk:∀v tr2,qg7 v (qlG l er).1->(∀c,c≠b->tr2.get c=tr.get c)->k (.tup [v,.i .i64 (qlG l er).2]) ⟨s,0,tr2⟩):SC P gd [.ptr b 0,.sl bx 0 3 3 false] ⟨s,0,tr⟩ k:=by
 have hG':=C.gu
 by_cases hz:er=0
 ·have hL':=C.lk2 hz;have hO':=C.op hz;have e1:qlG l er=zL (qbR l):=by unfold qlG;rw[if_pos hz]
  rw[e1] at hk;obtain⟨m,hm⟩:∃m,m=qbR l:=⟨_,rfl⟩;rw[← hm] at hL' hO' hk;rw[qiY] at hL'
  refine qfN hc [gwG,gwO,gwL] (by simpa using hx) hbx (fun i=>if i=0 then WkB zF ar .nils .nils else if i=1 then WkB zF ar (.fz l.length (rSy l)) .nils else if i=2 then WkB zF ar (.fz m.length (rSy m)) .nils else WkB zF ar (.fz m.length (rSy m)) (.fz (zL m).1.length (rP (zL m).1)))
   (fun i=>if i=0 then 0 else if i=1 then er else if i=2 then 0 else (zL m).2) 3 rfl (by omega) h0 rfl ?_ ?_ ?_
  ·intro i g s' tr' k' hg hj hB hk';have hi:i<3:=by have:=(zzS.1 hg).1;simpa using this
   have hi2:i=0∨i=1∨i=2:=by omega
   rcases hi2 with rfl|rfl|rfl
   ·simp at hg;subst hg;exact qf7 hG zF rfl hB _ _ qib hG' hk'
   ·simp at hg;subst hg;exact qkq hO zF rfl hB _ _ qib hO' hk'
   ·simp at hg;subst hg;exact qeN hL zF rfl hB _ _ qib hL' hk'
  ·intro i tr2 hf hv hj;have h0':i≠0:=fun h=>hv (by simp[h])
   have h1':i≠1:=fun h=>hv (by simp[h,hz])
   have h2':i≠2:=fun h=>hv (by simp[h])
   simp only[if_neg h0',if_neg h1',if_neg h2'] at hv ⊢;exact hk _ _ (.inr ⟨rfl,qm9 hv⟩) hf
  ·intro tr2 hf hj hB;have hz2:=hj 3 (by omega);simp at hz2;refine⟨zF,ar,_,_,rfl,rfl,?_⟩;have:=hk (.fz (zL m).1.length (rP (zL m).1)) tr2 (.inl rfl) hf;rw[hz2] at this;exact this
 ·have e1:qlG l er=([],er):=by unfold qlG;rw[if_neg hz]
  rw[e1] at hk;refine qfN hc [gwG,gwO,gwL] (by simpa using hx) hbx (fun i=>if i=0 then WkB zF ar .nils .nils else WkB zF ar (.fz l.length (rSy l)) .nils) (fun i=>if i=0 then 0 else er) 3 rfl (by omega) h0 rfl ?_ ?_ ?_
  ·intro i g s' tr' k' hg hj hB hk'
   have hi:i=0:=by
    by_cases hi:i=0
    ·exact hi
    ·have:=hj i (Nat.le_refl _);simp[hi] at this;exact absurd this hz
   subst hi;simp at hg;subst hg;exact qf7 hG zF rfl hB _ _ qib hG' hk'
  ·intro i tr2 hf hv hj;have hi:i≠0:=fun h=>hv (by simp[h])
   simp only[if_neg hi];exact hk _ _ (.inr ⟨rfl,rfl⟩) hf
  ·intro tr2 _ hj _;have:=hj 1 (by omega);simp at this;exact absurd this hz
def qbM(a b c d e:Nat):IFn:=⟨[.tmp 4,.tmp 5],.seq (.r [.m 4 .N,.m 5 (.k 0)]) (.seq (.r [.n 12 0,.q 13 (.build [.i .i64 0,.nils,.i .u32 0,.nils,.nils,.nils] [(3,1,(.t 12))]),.q 14 (.box (.t 13)),.n 15 0,.q 16 (.build [.i .i64 0,.nils,.i .u32 0,.nils,.nils,.nils] [(3,1,(.t 15))]),.q 17 (.box (.t 16)),.n 6 14,.n 7 17]) (.seq (.r [.n 19 6,.n 20 6,.q 21 (.mkF a [.t 20] []),.n 22 6,.q 23 (.mkF b [.t 22] []),.q 24 (.buildS 2 [.nilf] [(0,1,(.t 21)),(1,1,(.t 23))]),.l 25 c [.t 19,.t 24],.n 18 25,.x 26 18 0,.x 27 18 1,.n 8 26,.n 9 27]) (.seq (.seq (.r [.n 28 1,.q 29 (.un .not (.t 28))]) (.cond (.t 29) (.seq (.r [.n 30 8,.n 31 9,.n 4 30,.n 5 31]) (.ret)) (.skip))) (.seq (.r [.n 33 7,.n 34 7,.q 35 (.mkF a [.t 34] []),.n 36 7,.q 37 (.mkF d [.t 36] []),.n 38 7,.q 39 (.mkF b [.t 38] []),.q 40 (.buildS 3 [.nilf] [(0,1,(.t 35)),(1,1,(.t 37)),(2,1,(.t 39))]),.l 41 c [.t 33,.t 40],.n 32 41,.x 42 32 0,.x 43 32 1,.n 10 42,.n 11 43]) (.seq (.r [.n 44 8,.n 45 9,.n 46 10,.n 47 11,.l 48 e [.t 44,.t 45,.t 46,.t 47],.x 49 48 0,.x 50 48 1,.n 4 49,.n 5 50]) (.ret))))))⟩
theorem qn6{gd gwG gwO gwL gs:Nat}(hc:qc P f (qbM gwG gwL gd gwO gs)=true)(hd:qc P gd qG=true)(hG:qc P gwG (zB gG)=true)(hO:qc P gwO (qV gO)=true)(hL:qc P gwL (qF gL)=true)
  (hs:qc P gs xE=true) (har:clo ar=true∧zg ar=true∧qcg ar=true∧cellsOf ar=[ar]) (C:GrdFn P gG gO gL ar l er) (o:Bool) :
  qd P f [ar,.b o] (.tup [.fz (qn5 l er o).1.length (rP (qn5 l er o).1),.i .i64 (qn5 l er o).2]):=by
 obtain⟨a1,a2,a3,a4⟩:=har;refine qd.mk hc (by simp[qu,Go.Kc.clo,a1]) ?_;simp only[qbM,vI,simprocAttr];simp +decide only[↓vS,vT,simprocAttr,a2,a3,a4];refine qsx hd hG hL C (b:=0) (bx:=2) (by simp[Tr.get_set];exact⟨rfl,rfl,rfl⟩) (by decide) (by simp[Tr.get_set,WkB,zF]) fun v tr2 hv hf=>?_
 cases o with
 | false =>
  simp +decide only[↓vS,vT,simprocAttr,qn5];simp[vZ];exact hv.frz
 | true =>
  simp +decide only[↓vS,vT,simprocAttr,qn5];refine qsw hd hG hO hL C (b:=1) (bx:=3) (by simp[Tr.get_set];exact⟨rfl,rfl,rfl⟩) (by decide) (by rw[Tr.get_set,if_neg (by decide),hf 1 (by decide)];simp[Tr.get_set,WkB,zF]) fun w tr3 hw _=>?_
  obtain⟨z,hz1,hz2⟩:=qhT hs (qkx l er) (qlG l er) v w hv hw;simp +decide only[↓vS,vT,simprocAttr];refine hz2.sc ?_;simp +decide only[↓vS,vT,simprocAttr];simp[vZ];exact⟨hz1.frz,rfl⟩
end
end Go.Kc
end
section
namespace Go.Kc
section
variable {x:GFil} {n:Int}
end
end Go.Kc
end
section
namespace Go.Kc
variable {P:Program} {f:Nat}
def fL:GFil:=⟨0,[],2147221504⟩
def f9:GFil:=⟨9,[],0⟩
def t0G:GTest:=⟨0,0,0,0⟩
def fG:GFil:=⟨0,[⟨0,[t0G,t0G],0⟩],0⟩
theorem qEp:xC fL=true:=by
 have:knA 2147221504=true:=by decide
 simp[xC,fL,upR,this]
theorem qEn:xC f9=false:=by simp[xC,f9]
theorem qtl{a d:Int}:FilR ⟨a,[],d⟩:=⟨fun r hr=>(by cases hr),fun r hr=>(by cases hr)⟩
theorem qDf{a d:Int}(h:0<=d∧d<=4294967295):FilU ⟨a,[],d⟩:=⟨h,fun r hr=>(by cases hr),fun r hr=>(by cases hr)⟩
theorem qtk{a d:Int}:qgE ⟨a,[],d⟩:=⟨Nat.zero_le _,fun r hr=>(by cases hr)⟩
def dA(t:Int):GData:=⟨0,t,0,0,0,0,0,0,0⟩
theorem qxD{t:Int}(h:0<=t∧t<=4294967295):DatOk (dA t):=⟨Int.le_refl 0,show (0:Int)<=4294967295 by decide,h.1,h.2,fun x hx=>by
 simp only[qkC,dA,List.mem_cons,List.not_mem_nil,or_false,or_self] at hx;subst hx;exact⟨by decide,by decide⟩⟩
theorem qlD:qfj fL (dA 3221225534)=2147221504∧qfj fL (dA 1073741827)=2147418112:=by
 have e1:ofM 3221225534 0=(0,true):=by decide
 have e2:ofM 1073741827 0=(1,true):=by decide
 constructor<;>rw[qhl]<;>simp[fL,dA,e1,e2]
def qbb(a b c d:Nat):IFn:=⟨[.tmp 0],.seq (.r [.m 0 .F]) (.seq (.r [.q 13 (.build [.i .i64 0,.nils,.i .u32 0] [(0,1,(.k 0)),(2,1,(.c (.i .u32 2147221504)))]),.q 1 (.alloc [.i .i64 0,.nils,.i .u32 0]),.u (.store 3 (.t 1) (.t 13))]) (.seq (.r [.q 14 (.mkS 4 32 [.i .i64 0,.i .u64 0,.i .u64 0,.i .u32 0] (.k 2) (.k 2)),.q 15 (.build [.i .u32 0,.nils,.i .u32 0] [(1,1,(.t 14))]),.q 16 (.buildS 1 [.i .u32 0,.nils,.i .u32 0] [(0,3,(.t 15))]),.q 17 (.build [.i .i64 0,.nils,.i .u32 0] [(1,1,(.t 16))]),.q 2 (.alloc [.i .i64 0,.nils,.i .u32 0]),.u (.store 3 (.t 2) (.t 17))]) (.seq (.r [.v 19 3 1,.l 20 a [.t 19,.F],.n 18 20,.x 21 18 0,.x 22 18 1,.n 3 21,.n 4 22]) (.seq (.r [.v 24 3 1,.l 25 a [.t 24,.T],.n 23 25,.x 26 23 0,.x 27 23 1,.n 5 26,.n 6 27]) (.seq (.r [.q 29 (.build [.i .i64 0,.nils,.i .u32 0] [(0,1,(.k 9))]),.l 30 a [.t 29,.T],.n 28 30,.x 31 28 0,.x 32 28 1,.n 7 31,.n 8 32]) (.seq (.r [.l 34 b [.N,.T],.n 33 34,.x 35 33 0,.x 36 33 1,.n 9 35,.n 10 36]) (.seq (.r [.q 37 (.build [.i .u32 0,.i .u32 0,.i .u64 0,.i .u64 0,.i .u64 0,.i .u64 0,.i .u64 0,.i .u64 0,.i .u64 0] [(1,1,(.c (.i .u32 3221225534)))]),.q 38 (.build [.i .u32 0,.i .u32 0,.i .u64 0,.i .u64 0,.i .u64 0,.i .u64 0,.i .u64 0,.i .u64 0,.i .u64 0] [(1,1,(.c (.i .u32 1073741827)))]),.q 11 (.alloc [.i .u32 0,.i .u32 0,.i .u64 0,.i .u64 0,.i .u64 0,.i .u64 0,.i .u64 0,.i .u64 0,.i .u64 0]),.q 12 (.alloc [.i .u32 0,.i .u32 0,.i .u64 0,.i .u64 0,.i .u64 0,.i .u64 0,.i .u64 0,.i .u64 0,.i .u64 0]),.u (.store 9 (.t 11) (.t 37)),.u (.store 9 (.t 12) (.t 38))]) (.seq (.r [.n 39 4,.w 40 .eql 39 0,.n 41 40,.y 42 6 41,.g 43 (.bin .eql (.t 42) (.k 0)) 41 true,.p 44 41 43,.n 45 44,.y 46 3 45,.g 47 (.loadN 9 (.t 11)) 45 true,⟨(some 48),.callF c [.t 46,.t 47,(.c (.i .u32 2147221504))],(some (45,true))⟩,.p 49 45 48,.n 50 49,.y 51 5 50,.g 52 (.loadN 9 (.t 11)) 50 true,⟨(some 53),.callF c [.t 51,.t 52,(.c (.i .u32 2147221504))],(some (50,true))⟩,.p 54 50 53,.n 55 54,.y 56 3 55,.g 57 (.loadN 9 (.t 12)) 55 true,⟨(some 58),.callF c [.t 56,.t 57,(.c (.i .u32 2147418112))],(some (55,true))⟩,.p 59 55 58,.n 60 59,.y 61 5 60,.g 62 (.loadN 9 (.t 12)) 60 true,⟨(some 63),.callF c [.t 61,.t 62,(.c (.i .u32 2147418112))],(some (60,true))⟩,.p 64 60 63,.n 65 64,.g 66 (.loadN 3 (.t 1)) 65 true,⟨(some 67),.callF d [.t 66],(some (65,true))⟩,.g 68 (.bin .eql (.t 67) (.k 10)) 65 true,.p 69 65 68,.n 70 69,.g 71 (.loadN 3 (.t 2)) 70 true,⟨(some 72),.callF d [.t 71],(some (70,true))⟩,.g 73 (.bin .eql (.t 72) (.k 27)) 70 true,.p 74 70 73,.n 75 74,.y 76 8 75,.g 77 (.bin .eql (.t 76) (.k 210)) 75 true,.p 78 75 77,.n 79 78,.y 80 10 79,.g 81 (.bin .eql (.t 80) (.k 2)) 79 true,.p 82 79 81,.n 0 82]) (.ret)))))))))⟩
theorem qDU{g1 g2 g3 g4:Nat}(hc:qc P f (qbb g1 g2 g3 g4)=true)(h1:qmu P g1)(h2:qd P g2 [.nils,.b true] (.tup [.fz 0 [],.i .i64 2]))
  (h3:∀p,PrgGood p->∀d,DatOk d->∀w:Int,(qe8 p d).1=w->qd P g3 [.fz p.length (rP p),.agg (qw d),.i .u32 w] (.b true)) (h4:∀x,qgE x->qd P g4 [.agg (qS x)] (.i .i64 (szF x:Int))):qd P f [] (.b true):=by
 refine qd.mk hc rfl ?_;have c1:=fun o=>h1 fL qtl qtk o
 have c2:=h1 f9 qtl qtk true;rw[qvl qEn true] at c2;have s1:=h4 fL qtk;have s2:=h4 fG ⟨by decide,fun r hr=>by simp[fG] at hr;subst hr;decide⟩
 have a1:=fun o=>qrV qEp qtl (qDf ⟨by decide,by decide⟩) o
 have nobig:¬1365<szF fL:=by decide
 have a2:∀o,(qbX fL o).2=0∧PrgT (qbX fL o).1 (szF fL) (qfj fL):=fun o=>(a1 o).resolve_left fun q=>nobig q.2.2
 obtain⟨p1,e1,hq1⟩:∃p e,qbX fL false=(p,e):=⟨_,_,rfl⟩;obtain⟨p2,e2,hq2⟩:∃p e,qbX fL true=(p,e):=⟨_,_,rfl⟩;have b1:=a2 false;have b2:=a2 true;have c1f:=c1 false;have c1t:=c1 true;rw[hq1] at b1 c1f;rw[hq2] at b2 c1t;obtain⟨z1,g1'⟩:=b1;obtain⟨z2,g2'⟩:=b2;simp only at z1 z2 g1' g2';subst z1;subst z2;have x64:=qxD (t:=3221225534) ⟨by decide,by decide⟩
 have x86:=qxD (t:=1073741827) ⟨by decide,by decide⟩
 have t1:=h3 p1 g1'.good _ x64 _ ((g1'.tells _ x64).1.trans qlD.1);have t2:=h3 p2 g2'.good _ x64 _ ((g2'.tells _ x64).1.trans qlD.1);have t3:=h3 p1 g1'.good _ x86 _ ((g1'.tells _ x86).1.trans qlD.2);have t4:=h3 p2 g2'.good _ x86 _ ((g2'.tells _ x86).1.trans qlD.2);simp only[qw,dA] at t1 t2 t3 t4;have c1f:=qd.filNil c1f;have c1t:=qd.filNil c1t;have c2:=qd.filNil c2;have s1:=qd.filNil s1;have q1:szF fL=10:=by decide
 have q2:szF fG=27:=by decide
 rw[q1] at s1;rw[q2] at s2;simp only[qbb,vI,simprocAttr];simp +decide only[↓vS,vT,simprocAttr];refine c1f.sc ?_;simp +decide only[↓vS,vT,simprocAttr];refine c1t.sc ?_;simp +decide only[↓vS,vT,simprocAttr];refine c2.sc ?_;simp +decide only[↓vS,vT,simprocAttr];refine h2.sc ?_;simp +decide only[↓vS,vT,simprocAttr];refine t1.sc ?_;simp +decide only[↓vS,vT,simprocAttr];refine t2.sc ?_;simp +decide only[↓vS,vT,simprocAttr];refine t3.sc ?_;simp +decide only[↓vS,vT,simprocAttr];refine t4.sc ?_;simp +decide only[↓vS,vT,simprocAttr];refine s1.sc ?_;simp +decide only[↓vS,vT,simprocAttr];refine s2.lend ?_ rfl ?_
 ·refine .cons _ _ _ _ (.agg _ _ (.cons _ _ _ _ (.i _ _) (.cons _ _ _ _ ?_ (.cons _ _ _ _ (.i _ _) .nil)))) .nil;refine .sl _ 0 1 1 false _ _ _ 3 _ rfl (by decide) (by decide) (fun h=>by omega) ?_
  refine .cons _ _ _ _ (.i _ _) (.cons _ _ _ _ ?_ (.cons _ _ _ _ (.i _ _) .nil));refine .sl _ 0 2 2 false _ _ _ 8 _ rfl (by decide) (by decide) (fun h=>by omega) ?_
  exact Frzs.self rfl
 simp +decide only[↓vS,vT,simprocAttr];simp[vZ]
end Go.Kc
end
