/- Part 5 of the proof. No condition. -/
import Derived.Test.YtjllccjpflmjfaaGreatDoorVK4
set_option maxHeartbeats 4000000
set_option maxRecDepth 1000000
set_option linter.defProp false
set_option linter.unusedSectionVars false
set_option linter.unusedSimpArgs false
set_option linter.unusedVariables false
set_option linter.unnecessarySimpa false
namespace Go.Kc
section
variable [Cur]
variable {P:Program}{f:Nat}
def qwY{m:Mac}{d:GData}{k:Nat}(h:k<m.cl.length)(v:Int):List.take (2+k) (cVm m d)++(AV.w v::List.drop (2+k+1) (cVm m d))=cVm { m with cl:=m.cl.set k v } d:=by
 obtain⟨R,hR⟩:∃R,R=zT d++[AV.w m.told,AV.b m.over]:=⟨_,rfl⟩
 have e:List.take k (rI .u32 m.cl++R)++(AV.w v::List.drop (k+1) (rI .u32 m.cl++R))=rI .u32 (m.cl.set k v)++R:=by
  rw[List.take_append_of_le_length (by rw[qaf];exact Ac),List.drop_append_of_le_length (by rw[qaf];exact Ac),<- qsr h v,zzi];rfl
 rw[show 2+k=k+2 from Ac]
 subst hR;show AV.w m.a::AV.w m.x::(List.take k (rI .u32 m.cl++(zT d++[AV.w m.told,AV.b m.over]))++(AV.w v::List.drop (k+1) (rI .u32 m.cl++(zT d++[AV.w m.told,AV.b m.over]))))=_;exact Eq
def qqr{m:Mac}{d:GData}(h:m.cl.length=16)(v:Int):List.take 27 (cVm m d)++(AV.w v::List.drop 28 (cVm m d))=cVm { m with told:=v } d:=by
 have e:List.take 25 (rI .u32 m.cl++(zT d++[AV.w m.told,AV.b m.over]))++(AV.w v::List.drop 26 (rI .u32 m.cl++(zT d++[AV.w m.told,AV.b m.over])))=rI .u32 m.cl++(zT d++[AV.w v,AV.b m.over]):=by
  have hl:(rI .u32 m.cl).length=16:=by rw[qaf,h]
  rw[List.take_append,hl,zzt (by rw[hl];exact Af),List.drop_append,hl,zzk (by rw[hl];exact Af),zzi];rfl
 show AV.w m.a::AV.w m.x::(List.take 25 (rI .u32 m.cl++(zT d++[AV.w m.told,AV.b m.over]))++(AV.w v::List.drop 26 (rI .u32 m.cl++(zT d++[AV.w m.told,AV.b m.over]))))=_;exact Eq
def qDw:∀x ∈ qaK,(x.2.2=2->x.1=2\/x.1=3)/\(x.2.2=5->x.1=6\/x.1=22)/\(x.2.2=6->x.1=7\/x.1=135)/\1<=x.2.2/\x.2.2<=6:=Af
def qFh(P:Program)(g:Nat):Prop:=∀(m:Mac),MacOk m->∀d:GData,DatOk d->∀i:Ins,InsOk i->qm i.code=1->(qeF m i d).2=0->Upd P g [.ptr 0 0,.agg (qK i)] [.v (cVm m d)] (.tup []) [.v (cVm (qeF m i d).1 d)]
def qJz(P:Program)(g:Nat):Prop:=∀(m:Mac),MacOk m->∀(d:GData) (i:Ins),InsOk i->qm i.code=3->(nuM m i).2=0->Upd P g [.ptr 0 0,.agg (qK i)] [.v (cVm m d)] (.tup []) [.v (cVm (nuM m i).1 d)]
def qFf(P:Program)(g:Nat):Prop:=∀(m:Mac) (d:GData),m.cl.length=16->∀i:Ins,InsOk i->qm i.code=4->Upd P g [.ptr 0 0,.agg (qK i)] [.v (cVm m d)] (.j (qiT m i)) [.v (cVm m d)]
def qfx(a b c d e g:Nat):IFn:=irJ 132 [131,a,184,b,185,c,186,d,187,e,130,g]
def qML{g1 g2 g3 g4 g5 g6:Nat}(hc:Ck P f (qfx g1 g2 g3 g4 g5 g6))(h1:cOf P g1)(h2:qFh P g2)(h3:qwP P g3)(h4:qJz P g4)(h5:qFf P g5)(m:Mac)(hm:MacOk m)(d:GData)(hd:DatOk d)(i:Ins)(hi:InsOk i)(hz:(doR m i d).2.2=0) :
  Upd P f [.ptr 0 0,.agg (qK i)] [.v (cVm m d)] (.j (doR m i d).2.1) [.v (cVm (doR m i d).1 d)]:=by
 refine Upd.mk hc E6 (by simp) ?_;have hl:=qlU (d:=d) hm.len;have g0:(cVm m d)[0]?=some (.w m.a):=rfl;have g1':(cVm m d)[1]?=some (.w m.x):=rfl;have s0:∀v:Int,AV.w v::List.drop 1 (cVm m d)=cVm { m with a:=v } d:=λ_=>rfl
 have s1:∀v:Int,List.take 1 (cVm m d)++(AV.w v::List.drop 2 (cVm m d))=cVm { m with x:=v } d:=λ_=>rfl
 have hof:=h1 i.code;unfold doR at hz ⊢;have hkn:¬xf i.code=false:=Ah
 rw[if_neg hkn]at hz ⊢
 obtain⟨x,hcm⟩:∃x,qai i.code=some x:=by
  unfold xf at hkn;cases h:qai i.code<;>simp_all
 obtain⟨hxm,hxc⟩:=qdz hcm;have hcl:qm i.code=x.2.2:=by unfold qm;rw[hcm];rfl
 obtain⟨t2,t5,t6,t1a,t1b⟩:=qDw x hxm;rw[<- hcl,hxc]at t2 t5 t6;rw[<- hcl]at t1a t1b;have hcase:qm i.code=1\/qm i.code=2\/qm i.code=3\/qm i.code=4\/qm i.code=5\/qm i.code=6:=Ac
 simp only[qfx,qK,vI,simprocAttr];rcases hcase with c|c|c|c|c|c
 .rw[if_pos (.inl c)]at hz ⊢;have hu:=h2 m hm d hd i hi c hz;simp only[qK]at hu;refine Ab ?_;refine hof.sc ?_;refine Sa c ?_;refine hu.sc (vs:=[.ptr 0 0,.agg [.h i.code,.y i.jt,.y i.jf,.w i.k]]) [0] (Lent.of Af ?_) ?_
  .exact Cs
  refine Ds ?_;refine Ab ?_;intro _;exact B9
 .rw[if_pos (.inr (.inl c))]at hz ⊢;unfold qeF qhD at hz ⊢
  have hb:¬15<i.k:=Ah
  have k0:=hi.k0;obtain⟨n,hn⟩:∃n:Nat,i.k=(n:Int):=⟨i.k.toNat,Ac⟩
  have hk16:n<16:=Ac
  have sc:=λv=>qwY (m:=m) (d:=d) (k:=n) (by rw[hm.len];exact Ac) v
  have hle:2+n+1<=29:=Ac
  have hb':¬(15:Int)<(n:Int):=Ac
  rcases t2 c with e|e
  .refine Ab ?_;refine hof.sc ?_;simp +decide only[↓vS,vT,simprocAttr,c,e,hn,hl,g0,g1'];refine(h3 m d n hk16).sc (vs:=[.ptr 0 0,.w (n:Int)]) [0] (Lent.of Af ?_) ?_
   .exact Cs
   refine Ds ?_;exact Fa
  .refine Ab ?_;refine hof.sc ?_;simp +decide only[↓vS,vT,simprocAttr,c,e,hn,hl,g0,g1'];refine(h3 m d n hk16).sc (vs:=[.ptr 0 0,.w (n:Int)]) [0] (Lent.of Af ?_) ?_
   .exact Cs
   refine Ds ?_;exact Fa
 .rw[if_neg Ac,if_pos c]at hz ⊢;have hu:=h4 m hm d i hi c hz;simp only[qK]at hu;refine Ab ?_;refine hof.sc ?_;refine Sa c ?_;refine hu.sc (vs:=[.ptr 0 0,.agg [.h i.code,.y i.jt,.y i.jf,.w i.k]]) [0] (Lent.of Af ?_) ?_
  .exact Cs
  refine Ds ?_;refine Ab ?_;intro _;exact B9
 .rw[if_neg Ac,if_neg Ac,if_pos c];have hu:=h5 m d hm.len i hi c;simp only[qK]at hu;refine Ab ?_;refine hof.sc ?_;refine Sa c ?_;refine hu.sc (vs:=[.ptr 0 0,.agg [.h i.code,.y i.jt,.y i.jf,.w i.k]]) [0] (Lent.of Af ?_) ?_
  .exact Cs
  refine Ds ?_;refine Ab ?_;intro _;exact B9
 .rw[if_neg Ac,if_neg Ac,if_neg Ac];have tt:=λv=>qqr (d:=d) hm.len v
  obtain⟨m1,hm1⟩:∃m1,m1={ m with told:=i.k }:=⟨_,rfl⟩;have tk:=tt i.k;rw[<- hm1]at tk;have hl1:(cVm m1 d).length=29:=Ah
  have to:List.take 28 (cVm m1 d)++(AV.b true::List.drop 29 (cVm m1 d))=cVm { m1 with over:=true } d:=qqq (by rw[hm1];exact hm.len) true;obtain⟨m2,hm2⟩:∃m2,m2={ m1 with over:=true }:=⟨_,rfl⟩;rw[<- hm2]at to;have hl2:(cVm m2 d).length=29:=Ah
  have g02:(cVm m2 d)[0]?=some (.w m.a):=by rw[hm2,hm1];rfl
  have t3:List.take 27 (cVm m2 d)++(AV.w m.a::List.drop 28 (cVm m2 d))=cVm { m2 with told:=m.a } d:=qqr (by rw[hm2,hm1];exact hm.len) m.a;rcases t5 c with e|e
  .refine Ab ?_;refine hof.sc ?_;simp +decide only[↓vS,vT,simprocAttr,c,e,hl,tk,hl1,to];intro _;refine⟨[0],?_⟩;simp[vw,qd,qp,qud,e,hm2,hm1]
  .refine Ab ?_;refine hof.sc ?_;simp +decide only[↓vS,vT,simprocAttr,c,e,hl,tk,hl1,to,hl2,g02,t3];intro _;refine⟨[0],?_⟩;simp[vw,qd,qp,qud,e,hm2,hm1]
 .rw[if_pos (.inr (.inr c))]at hz ⊢;unfold qeF qhD at hz ⊢;rcases t6 c with e|e
  .refine Ab ?_;refine hof.sc ?_;refine Sa (zzA c (zzA e (zzA hl (zzA g0 s1)))) ?_;intro _;exact C7
  .refine Ab ?_;refine hof.sc ?_;refine Sa (zzA c (zzA e (zzA hl (zzA g1' s0)))) ?_;intro _;exact C7
end
section
variable [Cur]
def qmn{n:Nat}:∀{L:List Ins}{j:Nat},qgX n j L=none->∀(k:Nat) (i:Ins),L[k]?=some i->qej i (n-1-(j+k))=0
 | [],_,_,_,_,h=>by cases h
 | a::L,j,hb,k,i,h=>by
  rw[qfS]at hb
  by_cases h0:qej a (n-1-j)=0
  .rw[if_pos h0]at hb;cases k with
   | zero=>cases h;exact h0
   | succ k =>
    have:=qmn hb k i G0;rw[show j+(k+1)=j+1+k from Ac];exact this
  exact Ad
theorem qmo{n:Nat}:∀{L:List Ins}{j:Nat}{x:Nat×Int},qgX n j L=some x->x.2≠0
 | [],_,_,h=>by cases h
 | a::L,j,x,h=>by
  rw[qfS]at h
  by_cases h0:qej a (n-1-j)=0
  .rw[if_pos h0]at h;exact qmo h
  exact Ah
def qEZ{p:List Ins}{u:List Nat}(h:(atU p u).2=0):p.length≠0/\p.length<=4096/\(∀(k:Nat) (i:Ins),p[k]?=some i->qej i (p.length-1-k)=0)/\qm (qgJ p)=5/\u=[]:=by
 unfold atU at h
 by_cases hb:p.length=0\/4096<p.length
 .rw[if_pos hb]at h;cases h
 rw[if_neg hb]at h;cases hba:qgX p.length 0 p with
 | some x =>
  rw[hba]at h
  grind[qmo]
 | none =>
  rw[hba]at h;have h:(if qm (qgJ p)=5 then(match u with | []=>((0,0):Nat×Int)|a::_=>(a,61))else(p.length-1,46)).2=0:=h
  by_cases h5:qm (qgJ p)=5
  .rw[if_pos h5]at h;refine⟨Ac,Ac,λk i hk=>?_,h5,?_⟩
   .have:=qmn hba k i hk;rwa [Nat.zero_add]at this
   .cases u with
    | nil=>rfl
    | cons a u=>cases h
  exact Ad
def qtE{i:Ins}{n:Nat}(h:qej i n=0):qi1 i=false/\qim i=false/\qjD i=false/\qjE i=false/\qjF i=false/\qjG i n=false:=by
 unfold qej at h;revert h;cases qi1 i<;>cases qim i<;>cases qjD i<;>cases qjE i<;>cases qjF i<;>cases qjG i n<;>simp
def quR{m:Mac}{i:Ins}(hi:InsOk i){d:GData}{n:Nat}(h:qej i n=0):(doR m i d).2.2=0:=by
 obtain⟨b1,b2,b3,b4,b5,_⟩:=qtE h;have hkn:¬xf i.code=false:=by unfold qi1 at b1;simpa using b1
 unfold doR;rw[if_neg hkn]
 by_cases hA:qm i.code=1\/qm i.code=2\/qm i.code=6
 .rw[if_pos hA];show(qeF m i d).2=0;unfold qeF
  have hc:¬(qhD i=true/\15<i.k):=by
   rintro⟨h1,h2⟩;unfold qhD at h1;have h16:16<=i.k:=Ac
   unfold qjD at b3;have h2c:=qFo (c:=i.code);simp only[zzO,zzb]at h1
   have:(decide (i.code=96)||decide (i.code=97)||decide (qm i.code=2))=true:=by
    simp only[zzO,zzb];rw[h2c];rcases h1 with((h1|h1)|h1)|h1
    .exact .inl (.inl h1)
    .exact .inl (.inr h1)
    .exact .inr (.inl h1)
    .exact .inr (.inr h1)
   rw[this,Bool.true_and]at b3;simp[h16]at b3
  rw[if_neg hc]
  by_cases c32:i.code=32
  .rw[if_pos c32]
   have:¬(i.k % 4≠0\/64<=i.k):=by
    intro h';unfold qim at b2;rw[c32]at b2;rcases h' with h'|h'<;>simp[h']at b2
   rw[if_neg this]
  rw[if_neg c32]
  repeat' (first|rfl|(split))
 rw[if_neg hA]
 by_cases c3:qm i.code=3
 .rw[if_pos c3];show(nuM m i).2=0
  have hmem:c3L.contains i.code=true:=by
   have c3':=c3;unfold qm at c3';cases hcm:qai i.code with
   | none=>rw[hcm]at c3';cases c3'
   | some x =>
    rw[hcm]at c3';obtain⟨q1,q2⟩:=qdz hcm;rw[<- q2];exact qz1 x q1 c3'
  obtain⟨e52,e100,e116,eX⟩:=qsP i.code hmem;unfold nuM
  by_cases b52:za i.code=52
  .rw[if_pos b52]
   by_cases hy:0<qdr m i
   .rw[if_pos hy]
   .rw[if_neg hy]
    by_cases hX:qaC i.code=true
    .rw[if_pos hX]
    .exfalso
     have hc:i.code=52:=by
      rcases e52.1 b52 with h'|h'
      .exact h'
      .exact Ad
     unfold qjE at b4;unfold qdr at hy;rw[if_neg hX]at hy;have:i.k=0:=by have:=hi.k0;exact Ac
     simp[hc,this]at b4
  .rw[if_neg b52]
   by_cases bs:za i.code=100\/za i.code=116
   .rw[if_pos bs]
    by_cases hq:qaC i.code=false/\31<qdr m i
    .exfalso
     obtain⟨hX,h31⟩:=hq
     have hc:i.code=100\/i.code=116:=by
      rcases bs with bs|bs
      .rcases e100.1 bs with h'|h'
       .exact .inl h'
       .have:qaC i.code=true:=Ad
        rw[hX]at this;cases this
      .rcases e116.1 bs with h'|h'
       .exact .inr h'
       .have:qaC i.code=true:=Ad
        rw[hX]at this;cases this
     unfold qdr at h31;rw[hX,if_neg (by simp)]at h31;unfold qjF at b5;rcases hc with hc|hc<;>simp[hc]at b5<;>omega
    .rw[if_neg hq]
   .rw[if_neg bs]
 rw[if_neg c3]
 exact Ah
def qFC{p:List Ins}(hok:∀i ∈ p,InsOk i)(hall:∀(k:Nat) (i:Ins),p[k]?=some i->qej i (p.length-1-k)=0)(hlast:qm (qgJ p)=5){k:Nat}{i:Ins}(h:p[k]?=some i)(m:Mac)(d:GData) :
  (doR m i d).1.over=true\/k+1+(doR m i d).2.1.toNat<p.length:=by
 have hk:k<p.length:=Ah
 have hi:=hok i Ah;obtain⟨b1,_,_,_,_,b6⟩:=qtE (hall k i h);have hkn:¬xf i.code=false:=by unfold qi1 at b1;exact Ad
 have notlast:qm i.code≠5->k+1<p.length:=by
  intro hc
  by_cases e:k=p.length-1
  .exfalso
   apply hc;have:qgJ p=i.code:=by unfold qgJ;rw[zzs,<- e,h];rfl
   rw[<- this];exact Ac
  .exact Ac
 unfold doR;rw[if_neg hkn]
 by_cases hA:qm i.code=1\/qm i.code=2\/qm i.code=6
 .rw[if_pos hA]
  exact Ah
 rw[if_neg hA]
 by_cases c3:qm i.code=3
 .rw[if_pos c3]
  exact Ad
 rw[if_neg c3]
 by_cases c4:qm i.code=4
 .rw[if_pos c4];right;show k+1+(qiT m i).toNat<p.length;unfold qjG at b6;unfold qiT
  by_cases c5:i.code=5
  .rw[if_pos c5]at b6 ⊢;have hk0:=hi.k0;have:¬((p.length-1-k:Nat):Int)<=i.k:=Ad
   exact Ac
  .rw[if_neg c5]at b6 ⊢;rw[c4]at b6;have hh:¬((p.length-1-k:Nat):Int)<=hiM i:=Ad
   have h1:=hi.t0;have h2:=hi.f0;unfold hiM at hh;split at hh<;>split<;>omega
 rw[if_neg c4];left;rfl
end
section
variable [Cur]
variable {P:Program}{f:Nat}
def qLw(P:Program)(g:Nat):Prop:=∀(m:Mac),MacOk m->∀d:GData,DatOk d->∀i:Ins,InsOk i->(doR m i d).2.2=0->Upd P g [.ptr 0 0,.agg (qK i)] [.v (cVm m d)] (.j (doR m i d).2.1) [.v (cVm (doR m i d).1 d)]
structure PrgGood (p:List Ins):Prop where
 len:p.length<=4096
 ne:p.length≠0
 ins:∀i ∈ p,InsOk i
 one:∀(k:Nat) (i:Ins),p[k]?=some i->qej i (p.length-1-k)=0
 last:qm (qgJ p)=5
def qgR(p:List Ins)(d:GData):Int×Nat×List Nat×Int:=runR p d (p.length+1) qCe 0 46 []
def qAc:u32 0:=⟨Af,Af⟩
def qoO{p:List Ins}(hok:∀i ∈ p,InsOk i){d:GData}(hd:DatOk d):∀(n:Nat) (m:Mac) (a:Nat) (bh:Int) (l:List Nat),MacOk m->u32 (runR p d n m a bh l).1
 | 0,_,_,_,_,_=>qAc
 | n+1,m,a,bh,l,hm=>by
  rw[qii];cases hp:p[a]? with
  | none=>exact qAc
  | some i =>
   simp only;have h2:=(qxp hm (hok i (zzM hp)) hd).1;split
   .exact qAc
   .split
    .exact h2.told
    .exact qoO hok hd n _ _ _ _ h2
theorem qoN{p:List Ins}(hok:∀i ∈ p,InsOk i){d:GData}(hd:DatOk d):u32 (qgR p d).1:=qoO hok hd _ _ _ _ _ qtw
def Own.mkD{f fd:Nat}{i:IFn}{vs:List AV}{v:AV}{bs:List Blk}(hc:qdO P f fd i=true)(hcl:qu vs=true)(hV:VDf P 0 fd i.body (xG i.res (qv7 v bs)) (qaS vs 0 .leaf) H0):Own P f vs v bs:=Own.of_SC hcl (SC.mkD hc hV)
def qwX{m:Mac}{d:GData}(h:m.cl.length=16):(cVm m d)[28]?=some (.b m.over):=by
 show(rI .u32 m.cl++(zT d++[AV.w m.told,AV.b m.over]))[26]?=_;rw[zzr (by rw[qaf,h];exact Af),qaf,h];rfl
def qwZ{m:Mac}{d:GData}(h:m.cl.length=16):(cVm m d)[27]?=some (.w m.told):=by
 show(rI .u32 m.cl++(zT d++[AV.w m.told,AV.b m.over]))[25]?=_;rw[zzr (by rw[qaf,h];exact Af),qaf,h];rfl
def qol(a b c d:Nat):IFn:=irJ 102 [129,a,130,b,131,c,132,d]
def qI2{fd g1 g2 g3:Nat}(hc:qdO P f fd (qol fd g1 g2 g3)=true)(h2:cOf P g2)(h3:qLw P g3)(p:List Ins)(hp:PrgGood p)(d:GData)(hd:DatOk d) :
  ∃n:Int,Own P f [.fz p.length (rP p),.agg (zT d)] (.tup [.w (qgR p d).1,.j n,.own 0 (qgR p d).2.2.1.length,.j 0]) [.cells 1 true true (rNt (qgR p d).2.2.1)]:=by
 obtain⟨R,hR⟩:∃R,R=qgR p d:=⟨_,rfl⟩;rw[<- hR];refine⟨(R.2.2.1.length:Int),Own.mkD hc (by simp[qu,clo,qz,qh1]) ?_⟩;have hpl:=hp.len;have hne:=hp.ne;have e0:List.take 18 ([.w 0,.w 0,.w 0,.w 0,.w 0,.w 0,.w 0,.w 0,.w 0,.w 0,.w 0,.w 0,.w 0,.w 0,.w 0,.w 0,.w 0,.w 0,.w 0,.w 0,.x 0,.x 0,.x 0,.x 0,.x 0,.x 0,.x 0,.w 0,.b false]:List AV)++(zT d++List.drop 27 [.w 0,.w 0,.w 0,.w 0,.w 0,.w 0,.w 0,.w 0,.w 0,.w 0,.w 0,.w 0,.w 0,.w 0,.w 0,.w 0,.w 0,.w 0,.w 0,.w 0,.x 0,.x 0,.x 0,.x 0,.x 0,.x 0,.x 0,.w 0,.b false])=cVm qCe d:=rfl;have cd9:List.take 9 (zT d)=zT d:=rfl;have l9:(zT d).length=9:=rfl;simp only[qol,VDf,vI,simprocAttr];simp +decide only[↓vS,vT,simprocAttr,qr7,qw2,l9,cd9,e0];refine⟨⟨14,[.ptr 1 0,.ptr 2 0],rfl,Bn⟩,?_⟩
 refine Ab ?_
 refine SL.loop (α:=Nat×Mac×Nat×Int×List Nat) (λs=>[(0,.fz p.length (rP p)),(4,.ptr 0 0),(5,.j (s.2.2.2.2.length:Int)),(6,.own 3 s.2.2.2.2.length),(7,.ptr 1 0),(8,.ptr 2 0),(9,.j s.2.2.2.1),(10,.j (s.2.2.1:Int))])
  (λs=>[.v [.w 0],.v [.j 0],.v (cVm s.2.1 d),.cells 1 true true (rNt s.2.2.2.2)])
  (λs=>MacOk s.2.1/\s.2.2.1<=5000000000/\((s.2.1.over=false/\s.2.2.1<p.length/\p.length+1<=s.1+s.2.2.1/\s.2.2.2.2.length<=s.2.2.1/\runR p d s.1 s.2.1 s.2.2.1 s.2.2.2.1 s.2.2.2.2=R)\/(s.2.1.over=true/\s.2.2.2.2.length<=5000/\R=(s.2.1.told,s.2.2.2.2.length,s.2.2.2.2,0)))) (λs=>s.1) (p.length+1,qCe,0,46,[]) [1,2,3,99] ?_ ?_ ?_ rfl ?_ ?_
 .simp[vw,qz]
 .simp[vw,qd,qp]
  simp_all[NVs.refl,qp]
 .simp
 .exact⟨qtw,zzu _,.inl ⟨rfl,Ah,zzL _,zzu _,by rw[hR];rfl⟩⟩
 rintro⟨n,m,a,bh,l⟩ ⟨hm,ha,hI⟩ G ih;simp only at hm ha hI;have hl29:=qlU (d:=d) hm.len;have go:(cVm m d)[28]?=some (.b m.over):=qwX hm.len;have gt:(cVm m d)[27]?=some (.w m.told):=qwZ hm.len;refine Am ?_;rcases hI with⟨hov,hlt,hna,hla,hI⟩|⟨hov,hla,hI⟩
 .obtain⟨n,rfl⟩:∃n',n=n'+1:=⟨n-1,Ac⟩
  rw[qii]at hI;obtain⟨i,hpi⟩:∃i,p[a]?=some i:=⟨_,zzE hlt⟩;have hii:=hp.ins i Ah;rw[hpi]at hI;simp only at hI;have hz:=quR (m:=m) (d:=d) hii (hp.one a i hpi);rw[if_neg Ac]at hI;have hin:=qFC hp.ins hp.one hp.last hpi m d;have hel:=qI (f:=qK) (m:=4) qaT hpi;rw[show p.flatMap qK=rP p from rfl]at hel
  have h4:a*4+4<=(rP p).length:=by rw[qe7];exact Ac
  have g0:=qcP (f:=qK) (m:=4) qaT hpi (i:=0) Ac;rw[show p.flatMap qK=rP p from rfl]at g0
  simp only[qK,Nat.add_zero,zzn]at g0;have hge:¬(p.length:Int)<=(a:Int):=Ac
  obtain⟨hm2,hk0,hk1⟩:=qxp hm hii hd;have hdo:=h3 m hm d hd i hii hz;have hgc:=h2 i.code;generalize doR m i d=r at hI hin hm2 hk0 hk1 hdo;obtain⟨m2,k,e⟩:=r;simp only at hI hin hm2 hk0 hk1 hdo;have hr1:l.length+1<=qe:=by simp only[qe];exact Ac
  have hr2:(l.length+1)*8<=qe:=by simp only[qe];exact Ac
  have hap:rNt l++[.j (a:Int)]=rNt (l++[a]):=by rw[<- qtR];rfl
  have hll:(rNt l).length=l.length:=qma;have hla1:(l++[a]).length=l.length+1:=by simp
  have w1:IntKind.wrap .i64 (1+k)=1+k:=Dm
  have w2:IntKind.wrap .i64 ((a:Int)+(1+k))=((a+1+k.toNat:Nat):Int):=by rw[qE Ac Ac];exact Ac
  have w3:IntKind.wrap .i64 ((l.length:Int)+1)=((l.length+1:Nat):Int):=by rw[qE Ac Ac];exact Ac
  have fin:∀b2:Int,(m2.over=false->runR p d n m2 (a+1+k.toNat) b2 (l++[a])=R)->MacOk m2/\a+1+k.toNat<=5000000000/\((m2.over=false/\a+1+k.toNat<p.length/\p.length+1<=n+(a+1+k.toNat)/\(l++[a]).length<=a+1+k.toNat/\runR p d n m2 (a+1+k.toNat) b2 (l++[a])=R)\/(m2.over=true/\(l++[a]).length<=5000/\R=(m2.told,(l++[a]).length,l++[a],0))):=Ah
  rw[hov]at go;simp only[qK]at hdo hel;simp +decide only[↓vS,vT,simprocAttr,go,hge,hlt,hr1,hr2,hll,hap,zzU,g0];refine hgc.sc ?_
  by_cases c4:qm i.code=4
  .rw[if_pos c4]at hI;have fin2:=fin 42 (λho=>by rw[ho]at hI;exact Ah)
   refine Sa (zzA c4 (zzA hlt (zzA hel h4))) ?_;refine hdo.sc (vs:=[.ptr 0 0,.agg [.h i.code,.y i.jt,.y i.jf,.w i.k]]) [2] (Lent.of Af ?_) ?_
   .exact Cs
   refine Ds ?_;refine Sa (zzA w1 (zzA w2 w3)) ?_;refine ih (n,m2,a+1+k.toNat,42,l++[a]) fin2 Ac _ _ (Wk.mk _ _ [0,1,2,5] ?_ ?_ ?_ rfl)
   .simp[vw,qz]
   .simp[vw,qd,ze,qp]
   .simp
  .rw[if_neg c4]at hI;have fin2:=fin 46 (λho=>by rw[ho]at hI;exact Ah)
   refine Sa (zzA c4 (zzA hlt (zzA hel h4))) ?_;refine hdo.sc (vs:=[.ptr 0 0,.agg [.h i.code,.y i.jt,.y i.jf,.w i.k]]) [2] (Lent.of Af ?_) ?_
   .exact Cs
   refine Ds ?_;refine Sa (zzA w1 (zzA w2 w3)) ?_;refine ih (n,m2,a+1+k.toNat,46,l++[a]) fin2 Ac _ _ (Wk.mk _ _ [0,1,2,5] ?_ ?_ ?_ rfl)
   .simp[vw,qz]
   .simp[vw,qd,ze,qp]
   .simp
 .rw[hov]at go;rw[hI];refine Sa (zzA go gt) ?_;intro _;refine⟨[3],?_⟩;simp[vw,qd,ze]
def qok(a:Nat):IFn:=irJ 65 [102,a]
def qMG{g:Nat}(hc:Ck P f (qok g))(hg:∀p,PrgGood p->∀d,DatOk d->∃n:Int,Own P g [.fz p.length (rP p),.agg (zT d)] (.tup [.w (qgR p d).1,.j n,.own 0 (qgR p d).2.2.1.length,.j 0]) [.cells 1 true true (rNt (qgR p d).2.2.1)])(p:List Ins)(hp:PrgGood p)(d:GData)(hd:DatOk d) :
  ∃n:Int,qa P f [.fz p.length (rP p),.agg (zT d)] (.tup [.w (qgR p d).1,.j n,.j 0]):=by
 obtain⟨n,hn⟩:=hg p hp d hd;refine⟨n,qa.mk hc (by simp[qu,clo,qz,qh1]) ?_⟩;simp only[qok,vI,simprocAttr];refine Sa (zzA @qr7 @qw2) ?_;refine hn.sc ?_;simp only[vJ,simprocAttr,xt ze];refine Ab ?_;simp[vZ]
def qLN(x:BitVec 32):x &&& ~~~ 65535#32=(x >>> 16) <<< 16:=by
 apply BitVec.eq_of_getLsbD_eq;intro i hi;have h:∀i,i<32->(65535#32).getLsbD i=decide (i<16):=Af
 rw[BitVec.getLsbD_and,BitVec.getLsbD_not,h i hi,BitVec.getLsbD_shiftLeft,BitVec.getLsbD_ushiftRight]
 exact Ah
def qtF{a:Int}(h0:0<=a)(h1:a<=4294967295):qaN .u32 a 65535=a / 65536*65536:=by
 obtain⟨n,rfl⟩:∃n:Nat,a=n:=⟨a.toNat,Ac⟩
 have e:(BitVec.ofInt 32 (n:Int))=BitVec.ofNat 32 n:=by simp
 unfold qaN;show IntKind.wrap .u32 (((BitVec.ofInt 32 (n:Int)) &&& ~~~ (65535#32)).toNat:Int)=_;rw[e,qLN];have hn:n<2 ^ 32:=Ac
 have:((BitVec.ofNat 32 n >>> 16) <<< 16).toNat=n / 65536*65536:=by
  rw[BitVec.toNat_shiftLeft,BitVec.toNat_ushiftRight,BitVec.toNat_ofNat,Nat.mod_eq_of_lt hn,Nat.shiftLeft_eq,Nat.shiftRight_eq_div_pow];exact Ac
 rw[this];show((n / 65536*65536:Nat):Int) % 4294967296=_;exact Ac
def qrG(x:Int):Int:=if 32768<=x / 65536 then x / 65536-65536 else x / 65536
def qiU(a b:Int):Bool:=decide (qrG a<qrG b)
def qfY:List Int->Int
 | []=>2147418112
 | x::l=>if qiU x (qfY l)=true then x else qfY l
theorem qkN{x:Int}{l:List Int}:qfY (x::l)=if qiU x (qfY l)=true then x else qfY l:=rfl
def qmy:∀{l:List Int},(∀x ∈ l,u32 x)->u32 (qfY l)
 | [],_=>⟨Af,Af⟩
 | x::l,h=>by
  rw[qkN];split
  .exact Ad
  .exact qmy λy hy=>h y Ah
def qo0{a:Int}(h0:0<=a)(h1:a<=4294967295):IntKind.wrap .i32 (a / 65536*65536)=qrG a*65536:=by
 unfold qrG;simp only[IntKind.wrap,IntKind.bits,IntKind.signed,Bool.true_and,zzb,show(2:Int) ^ 32=4294967296 from rfl,show(2:Int) ^ (32-1)=2147483648 from rfl]
 exact Ac
def qhb(a:Nat):IFn:=irJ 189 [69,a]
def qK8{g:Nat}(hc:Ck P f (qhb g))(hg:∀n,qa P g [.w n] (.w (qaN .u32 n 65535)))(a b:Int)(ha:u32 a)(hb:u32 b):qa P f [.w a,.w b] (.b (qiU a b)):=by
 refine Al ?_;have w1:=qo0 ha.1 ha.2;have w2:=qo0 hb.1 hb.2;rw[<- qtF ha.1 ha.2]at w1;rw[<- qtF hb.1 hb.2]at w2;have hlt:(qrG a*65536<qrG b*65536)=(qrG a<qrG b):=Ad
 unfold qiU;simp only[qhb,vI,simprocAttr];refine Ab ?_;refine(hg a).sc ?_;refine Ab ?_;refine(hg b).sc ?_;refine Sa (zzA w1 (zzA w2 hlt)) ?_;simp[vZ]
def qJy(P:Program)(g:Nat):Prop:=∀a b:Int,u32 a->u32 b->qa P g [.w a,.w b] (.b (qiU a b))
def qgr(a:Nat):IFn:=irJ 134 [189,a]
def qJl{g:Nat}(hc:Ck P f (qgr g))(hg:qJy P g)(a b:Int)(ha:u32 a)(hb:u32 b):qa P f [.fz 2 (rI .u32 [a,b])] (.w (if qiU b a=true then b else a)):=by
 refine Bg ?_;have hl:=hg b a hb ha;have e0:(rI .u32 [a,b])[0]?=some (.w a):=rfl;have e1:(rI .u32 [b])[0]?=some (.w b):=rfl;simp only[qgr,vI,simprocAttr];refine Sa (zzA e0 (zzA @qHB @qtP)) ?_;refine SL.loop (α:=Nat) (λj=>[(3,.w (if j=0 then a else if qiU b a=true then b else a)),(10,.fz 1 [.w b]),(11,.j 1),(12,.j (j:Int))]) (λ_=>[]) (λj=>j<=1) (λj=>1-j) 0 [] ?_ ?_ ?_ rfl ?_ ?_
 .simp[vw]
 .trivial
 .simp
 .exact Ac
 rintro j hj G ih;refine Am ?_
 by_cases h0:j=0
 .subst h0;have ih2:=ih 1 Af Af;refine Ab ?_;refine hl.sc ?_;cases hls:qiU b a with
  | true =>
   rw[hls]at ih2;refine Ab ?_;exact E8
  | false =>
   rw[hls]at ih2;refine Ab ?_;exact E8
 .obtain rfl:j=1:=Ac
  refine Ab ?_;simp[vZ]
def qKG{k:IntKind}{l:List Int}{j:Nat}{x:Int}(h:l[j]?=some x):(rI k l)[j]?=some (.i k x):=by rw[qbd,h];rfl
def quN{l:List Int}{j:Nat}{x:Int}(h:l[j]?=some x):qfY (l.drop j)=if qiU x (qfY (l.drop (j+1)))=true then x else qfY (l.drop (j+1)):=by
 grind[List.drop_eq_getElem_cons,qkN]
instance:DecidableEq Ins:=λa b=>decidable_of_iff (a.code=b.code/\a.jt=b.jt/\a.jf=b.jf/\a.k=b.k) ⟨λh=>by cases a;cases b;simp only at h;obtain⟨rfl,rfl,rfl,rfl⟩:=h;rfl,λh=>by subst h;exact⟨rfl,rfl,rfl,rfl⟩⟩
instance:DecidableEq Prg:=λa b=>decidable_of_iff (a.dir=b.dir/\a.arch=b.arch/\a.ins=b.ins) ⟨λh=>by cases a;cases b;simp only at h;obtain⟨rfl,rfl,rfl⟩:=h;rfl,λh=>by subst h;exact⟨rfl,rfl,rfl⟩⟩
structure PrgIn (x:Prg):Prop where
 len:x.ins.length<=9223372036854775807
 ins:∀i ∈ x.ins,InsOk i
theorem qsk{x:Prg}(hx:∀i ∈ x.ins,InsOk i)(h:qfB x=true):PrgGood x.ins:=by
 unfold qfB at h;simp only[zzB,zzb]at h;obtain⟨h1,h2,h3,h4,_⟩:=qEZ h.1;exact⟨h2,h1,hx,h3,h4⟩
def qrl{l:List Prg}(hx:∀x ∈ l,∀i ∈ x.ins,InsOk i)(h:qd9 l=true):l.length<=48/\∀x ∈ l,PrgGood x.ins:=by
 unfold qd9 at h
 grind[qsk]
def qiZ(l:List Prg)(d:GData):List Int:=l.map λx=>(qgR x.ins d).1
def evS(l:List Prg)(d:GData):Int:=qfY (qiZ l d)
def qqb(l:List Prg)(d:GData):(qiZ l d).length=l.length:=by simp[qiZ]
def qur{l:List Prg}{d:GData}{j:Nat}{x:Prg}(h:l[j]?=some x):qiZ (l.take (j+1)) d=qiZ (l.take j) d++[(qgR x.ins d).1]:=by
 rw[zz2,h];simp[qiZ]
def qJA(P:Program)(g:Nat):Prop:=∀p,PrgGood p->∀d,DatOk d->∃n:Int,qa P g [.fz p.length (rP p),.agg (zT d)] (.tup [.w (qgR p d).1,.j n,.j 0])
def qDR(P:Program)(g:Nat):Prop:=∀l:List Prg,l.length<=100->(∀x ∈ l,PrgIn x)->qa P g [.fz l.length (rPr l)] (.b (qd9 l))
def qwQ(P:Program)(g:Nat):Prop:=∀l:List Int,(∀x ∈ l,u32 x)->l.length<=100000->qa P g [.fz l.length (rI .u32 l)] (.w (qfY l))
def qeE(a:Nat):IFn:=irJ 66 [103,a]
def qAo{g:Nat}(hc:Ck P f (qeE g))(hg:qwQ P g):qwQ P f:=by
 intro l hl hn;refine Bg ?_;simp only[qeE,vI,simprocAttr];refine Ab ?_;refine(hg l hl hn).sc ?_;refine Ab ?_;simp[vZ]
def qct(a b c:Nat):ICode:=icJ 43 [64,a,65,b,66,c] 31
def qeX(a b c:Nat):IFn:=irJ 43 [64,a,65,b,66,c] [31] [qct a b c]
def qBF{g1 g2 g3:Nat}(hg:qwQ P g3)(A:List Int)(hA:∀x ∈ A,u32 x)(hn:A.length<=100){t':Tr AV}{h':Hp}(hw:Wk 0 t' h' (mkT [(6,.own 0 A.length)]) (mkH 0 [.cells 1 true true (rI .u32 A)])) :
  S P 0 (qct g1 g2 g3) (xG [.tmp 4,.tmp 5] λv' h'=>Frz h' v' (.tup [.w (qfY A),.j 0])) t' h':=by
 refine B4 ?_;simp only[qct,vI,simprocAttr];refine Ab ?_;refine(hg A hA Ac).give [(0,.cells 1 true true (rI .u32 A))] Bn rfl ?_ ?_
 .simp[vZ,vP,zz4,zc qg,trP];intro h0;rw[h0];rfl
 refine Eu ?_;refine Ab ?_;simp[vZ]
def qIT{g1 g2 g3:Nat}(hc:Ck P f (qeX g1 g2 g3))(h1:qDR P g1)(h2:qJA P g2)(h3:qwQ P g3)(l:List Prg)(hl:l.length<=100)(hx:∀x ∈ l,PrgIn x)(d:GData)(hd:DatOk d) :
  qa P f [.fz l.length (rPr l),.agg (zT d)] (if qd9 l=true then .tup [.w (evS l d),.j 0]else .tup [.w 0,.j 290]):=by
 refine qa.mk hc (by simp[qu,clo,qbV,qh1]) ?_;have hmay:=h1 l hl hx
 by_cases hm:qd9 l=true
 .rw[if_pos hm];rw[hm]at hmay;obtain⟨h48,hgood⟩:=qrl (by grind[PrgIn.ins]) hm
  have hu:∀x ∈ qiZ l d,u32 x:=λx hxm=>by
   obtain⟨y,hy,rfl⟩:=zzl.1 hxm
   grind[qoN,PrgGood.ins]
  simp only[qeX,vI,simprocAttr];refine Ab ?_;refine hmay.sc ?_;refine Ab ?_;refine SL.loop (α:=Nat) (λj=>[(3,.ptr 0 0),(6,.own 1 (qiZ (l.take j) d).length),(15,.fz l.length (rPr l)),(16,.j l.length),(17,.j (j:Int))]) (λj=>[.v (zT d),.cells 1 true true (rI .u32 (qiZ (l.take j) d))]) (λj=>j<=l.length) (λj=>l.length-j) 0 [0,99] ?_ ?_ ?_ rfl ?_ ?_
  .simp[vw,qbV,qiZ]
  .simp[vw,qd,qh1,qiZ,rI];exact NVs.refl qh1
  .simp
  .exact Ac
  rintro j hj G ih;refine Am ?_
  by_cases hlt:j<l.length
  .obtain⟨x,hpx⟩:∃x,l[j]?=some x:=⟨_,zzE hlt⟩;have hxm:=zzM hpx;have ex:=qI (f:=cPr) (m:=3) qpc hpx;rw[show l.flatMap cPr=rPr l from rfl]at ex
   simp only[cPr]at ex;have bx:j*3+3<=(rPr l).length:=by rw[qtW];exact Ac
   have hw1:=wS j;obtain⟨n,hrun⟩:=h2 x.ins (hgood x hxm) d hd;have ih2:=ih (j+1) hlt Ac;have hal:(qiZ (l.take j) d).length<=100:=by rw[qqb,zzm];exact Ac
   rw[qur hpx]at ih2;generalize qiZ (l.take j) d=A at ih2 hal ⊢;have hr1:A.length+1<=qe:=by simp only[qe];exact Ac
   have hr2:(A.length+1)*4<=qe:=by simp only[qe];exact Ac
   have hap:rI .u32 A++[.w (qgR x.ins d).1]=rI .u32 (A++[(qgR x.ins d).1]):=by rw[<- qsq];rfl
   have hll:(rI .u32 A).length=A.length:=qaf;simp +decide only[↓vS,vT,simprocAttr,hlt,ex,bx,qr7,qw2];refine hrun.sc ?_;simp +decide only[↓vS,vT,simprocAttr,hr1,hr2,hap,hll,zzU,hw1];refine ih2 _ _ (Wk.mk _ _ [0,4] ?_ ?_ ?_ rfl)
   .simp[vw,qbV]
   .simp[vw,qd,qg];exact NVs.refl qh1
   .simp
  .obtain rfl:j=l.length:=Ac
   refine Ft ?_;refine qBF h3 (qiZ l d) hu (by rw[qqb];exact hl) (Wk.mk _ _ [1] ?_ ?_ ?_ rfl)
   .simp[vw]
   .simp[vw,qd,qg]
   .simp
 .have hf:qd9 l=false:=Ad
  rw[if_neg hm];rw[hf]at hmay;simp only[qeX,vI,simprocAttr];refine Ab ?_;refine hmay.sc ?_;refine Ab ?_;simp[vZ]
def qJv(P:Program)(g:Nat):Prop:=∀p:List Ins,(∀i ∈ p,InsOk i)->∃n:Int,qa P g [.fz p.length (rP p)] (.tup [.j n,.j (atU p (qfQ p)).2])
def qAG{p:List Ins}(u:List Nat)(h:4096<p.length):atU p u=(0,60):=by unfold atU;rw[if_pos (.inr h)]
def qDV{g1 g2 g3:Nat}(hc:Ck P f (qev g1 g2 g3))(h:cAt P f):qJv P f:=by
 intro p hi
 by_cases hb:p.length<=5000
 .exact⟨_,h p hi hb⟩
 .have hb4:4096<p.length:=Ac
  rw[qAG _ hb4];refine⟨0,qa.mk hc E5 ?_⟩;have hz':¬(p.length:Int)<1:=Ac
  have hb':(4096:Int)<p.length:=Ac
  simp only[qev,vI,simprocAttr];refine Sa (zzA hz' hb') ?_;simp[vZ]
def qIk{g:Nat}(hc:Ck P f (qhi g))(hg:qJv P g)(p:List Ins)(hi:∀i ∈ p,InsOk i):qa P f [.fz p.length (rP p)] (.j (atU p (qfQ p)).2):=by
 refine qa.mk hc E5 ?_;simp only[qhi,vI,simprocAttr];refine Ab ?_;obtain⟨n,hn⟩:=hg p hi;refine hn.sc ?_;refine Ab ?_;simp[vZ]
def qGv{g:Nat}(hc:Ck P f (qgH g))(hg:∀p:List Ins,(∀i ∈ p,InsOk i)->qa P g [.fz p.length (rP p)] (.j (atU p (qfQ p)).2))(x:Prg)(hx:PrgIn x):qa P f [.agg (cPr x)] (.b (qfB x)):=by
 refine qa.mk hc (by simp[qu,clo,cPr,qz]) ?_;have h:=hg x.ins hx.ins;unfold qfB;generalize(atU x.ins (qfQ x.ins)).2=e at h;simp only[qgH,cPr,vI,simprocAttr]
 by_cases h0:x.dir=0
 .rw[if_pos h0]
  by_cases h6:x.arch=6
  .refine Sa (zzA h0 h6) ?_;refine h.sc ?_;refine Ab ?_;simp[vZ,h6]
  .refine Sa (zzA h0 h6) ?_;simp[vZ,h6]
 rw[if_neg h0]
 by_cases h1:x.dir<0
 .have h1':¬0<=x.dir:=Ac
  refine Sa (zzA h0 h1) ?_;simp[vZ,h1']
 have h1':0<=x.dir:=Ac
 by_cases h2:8<=x.dir
 .have h2':¬x.dir<8:=Ac
  refine Sa (zzA h0 (zzA h1 h2)) ?_;simp[vZ,h2']
 have h2':x.dir<8:=Ac
 by_cases h3:x.arch<0
 .have h3':¬0<=x.arch:=Ac
  refine Sa (zzA h0 (zzA h1 (zzA h2 h3))) ?_;simp[vZ,h3']
 have h3':0<=x.arch:=Ac
 by_cases h4:6<=x.arch
 .have h4':¬x.arch<6:=Ac
  refine Sa (zzA h0 (zzA h1 (zzA h2 (zzA h3 h4)))) ?_;simp[vZ,h4']
 have h4':x.arch<6:=Ac
 refine Sa (zzA h0 (zzA h1 (zzA h2 (zzA h3 h4)))) ?_;refine h.sc ?_;refine Ab ?_;simp[vZ,h1',h2',h3',h4']
def qKg{g:Nat}(hc:Ck P f (qhv g))(hg:∀x,PrgIn x->qa P g [.agg (cPr x)] (.b (qfB x)))(x:Prg)(hx:PrgIn x):qa P f [.agg (cPr x)] (.b (!qfB x)):=by
 refine qa.mk hc (by simp[qu,clo,cPr,qz]) ?_;have h:=hg x hx;simp only[cPr]at h;simp only[qhv,cPr,vI,simprocAttr];refine Ab ?_;refine h.sc ?_;refine Ab ?_;simp[vZ]
def qDs{g1 g2:Nat}(hc:Ck P f (qj9 g1 g2))(h1:∀(l:List Prg) (k:Nat) (p:Prg->Bool),(∀c ∈ l,qa P k [.agg (cPr c)] (.b (p c)))->l.length<=qe->qa P g1 [.fz l.length (rPr l),.fn k [] []] (.b (l.any p)))
  (h2:∀x,PrgIn x->qa P g2 [.agg (cPr x)] (.b (!qfB x))):qDR P f:=by
 intro l hl hx;refine qa.mk hc (by simp[qu,clo,qbV]) ?_;have h:=h1 l g2 (λx=>!qfB x) (λc hc=>h2 c (hx c hc)) (by simp only[qe];exact Ac)
 have ha:(!l.any λx=>!qfB x)=l.all qfB:=by rw[List.not_any_eq_all_not];simp
 unfold qd9;simp only[qj9,vI,simprocAttr]
 by_cases h48:l.length<=48
 .have h48':(l.length:Int)<=48:=Ac
  refine Sa h48' ?_;refine h.sc ?_;refine Ab ?_;simp only[ha];simp[vZ,h48]
 .have h48':¬(l.length:Int)<=48:=Ac
  refine Sa h48' ?_;simp[vZ,h48]
def jz(a:Nat):IFn:=irJ 133 [188,a]
def qJr{g:Nat}(hc:Ck P f (jz g))(l:List Int):qa P f [.fz l.length (rI .u32 l)] (.fn g [] [.pf [.fz l.length (rI .u32 l)] 0]):=by
 refine Bg ?_;simp only[jz,vI,simprocAttr];refine Ab ?_;simp[vZ,vP,zz4,qg]
def jh:IFn:=irJ 188 []
def qau(a b:Nat):ICode:=icJ 103 [133,a,134,b] 15
def qes(a b:Nat):IFn:=irJ 103 [133,a,134,b] [15] [qau a b]
def cbT(g:Nat)(l:List Int):List (Nat×AV):=[(3,.ptr 0 0),(7,.fn g [] [.pf [.fz l.length (rI .u32 l)] 0])]
def qsa{g1 g2:Nat}(x:Int){t':Tr AV}{h':Hp}(hw:Wk 0 t' h' (mkT [(3,.ptr 0 0)]) (mkH 0 [.v [.w x]])) :
  S P 0 (qau g1 g2) (xG [.tmp 2] λv' h'=>Frz h' v' (.w x)) t' h':=by
 refine B4 ?_;simp only[qau,vI,simprocAttr];refine Ab ?_;simp[vZ]
def qEN{g1 g2 g3:Nat}(hc:Ck P f (qes g1 g2))(h1:∀l:List Int,qa P g1 [.fz l.length (rI .u32 l)] (.fn g3 [] [.pf [.fz l.length (rI .u32 l)] 0]))(hc3:Ck P g3 jh)
  (h2:∀a b:Int,u32 a->u32 b->qa P g2 [.fz 2 (rI .u32 [a,b])] (.w (if qiU b a=true then b else a))):qwQ P f:=by
 intro l hl hn;refine Bg ?_;simp only[qes,vI,simprocAttr];refine Ab ?_;refine(h1 l).sc ?_;refine Ab ?_;refine S.weak (Wk.mk (cbT g3 l) [.v [.w 2147418112]] [0] ?_ ?_ ?_ rfl) ?_
 .simp[vw,cbT,qg]
 .simp[vw]
 .simp
 refine S.rangeF (by simp[jR]) (by simp[cbT]) ⟨rfl,rfl⟩ ?_;refine qlk.2 ⟨.fn g3 [] [.pf [.fz l.length (rI .u32 l)] 0],by simp[cbT,mkT,zz4],?_⟩
 refine⟨qcK hc3,λr0 hr0 hp0 hlo=>SC.mk hc3 ?_⟩
 have hid:=qgg hr0 hp0;show S P 2 _ _ (qaS [.yl 1,.pf [.fz l.length (rI .u32 l)] 0] 0 .leaf) ⟨2,0,(Tr.leaf.set 0 (.v [.w 2147418112])).set 1 (.map (zu r0 (cbT g3 l)))⟩;refine qj ?_;have w0:IntKind.wrap .i64 ((l.length:Int)-1)=(l.length:Int)-1:=Dm
 simp only[jh,vI,simprocAttr];refine Sa w0 ?_;refine SL.loopn (α:=Nat) (λj=>[(0,.yl 1),(1,.pf [.fz l.length (rI .u32 l)] 0),(3,.j ((j:Int)-1))]) (λj=>[.v [.w (qfY (l.drop j))],.map (zu r0 (cbT g3 l))]) (λj=>j<=l.length) (λj=>j) l.length [0,1] ?_ ?_ ?_ rfl ?_ ?_ ?_ ?_
 .simp[vw,qg]
 .simp[vw,cbT,qg,qfY,qbG,qb1,qaB,jj]
 .simp
 .simp
 .intro x hx;have:x=0\/x=1:=Ac
  exact By
 .exact Ac
 rintro j hj G ih;refine Am ?_;cases j with
 | succ k =>
  have e:((k+1:Nat):Int)-1=(k:Int):=Ac
  have hk:k<l.length:=Ac
  obtain⟨x,hx⟩:∃x,l[k]?=some x:=⟨_,zzE hk⟩;have gx:=qKG (k:=.u32) hx;have hxu:=hl x Ah;have hcu:u32 (qfY (l.drop (k+1))):=qmy Ah;have hcd:=quN hx;have w2:IntKind.wrap .i64 ((k:Int)-1)=(k:Int)-1:=Dm
  have ih2:=ih k (Nat.le_of_lt hk) Ac;rw[hcd]at ih2;rw[e];generalize qfY (l.drop (k+1))=c at hcu ih2 ⊢;have hle:=h2 c x hcu hxu;have k0:(0:Int)<=(k:Int):=Ac
  simp +decide only[↓vS,vT,simprocAttr,k0,hk,gx,zzU];change SY P 1 [.j (k:Int),.w x] _ _;refine SY.mk (r:=r0) (ts:=cbT g3 l) (ps:=[8,9]) Bn hr0 hlo (zzu _) Ad rfl ?_;rw[show mkT (cbT g3 l)=(Tr.leaf.set 7 (.fn g3 [] [.pf [.fz l.length (rI .u32 l)] 0])).set 3 (.ptr 0 0)from rfl]
  refine qj ?_;simp only[qkp,vI,simprocAttr];refine Ae ?_;refine⟨cbT g3 l,Bn,?_⟩
  refine qj ?_;simp only[qC,vI,simprocAttr];refine Ab ?_;refine hle.give [(2,.v [.w c,.w x])] Bn rfl ?_ ?_
  .refine .cons _ _ _ _ (Frz.cut 1 rfl (zzL _) ?_) .nil;simp[vw,trP,rI]
  refine Eu ?_;refine Ab ?_;refine⟨bsy r0,cbT g3 l,Bn,?_⟩
  rw[qeL,hid];simp only[qC];refine Sa w2 ?_;refine ih2 _ _ (Wk.mkn _ _ [0,1] ?_ ?_ ?_ rfl ?_ ?_)
  .simp[vw,qg]
  .simp[vw,cbT,qg,qbG,qb1,qaB,jj]
  .simp
  .simp
  .intro x hx;have:x=0\/x=1:=Ac
   exact By
 | zero =>
  clear ih;have e:((0:Nat):Int)-1 = -1:=rfl;rw[e];refine Ab ?_;refine⟨r0,cbT g3 l,Bn,by rw[hr0];exact Af,?_⟩
  rw[hp0];simp only[qC];refine Ae ?_;refine qsa (qfY l) (Wk.mk _ _ [0] ?_ ?_ ?_ rfl)
  .simp[vw,cbT,mkT]
  .simp[vw]
  .simp
def qlC(ar:AV)(pe:Bool):List AV:=[ar,.y 0,.nils,.w 2147483648,.y 0,.nils,.nils,.y 0,.x 0,.b false,.b pe,.b false,.b false]
def qhr:IFn:=irJ 13 []
def qfw(a b:Nat):IFn:=⟨[.tmp 8],sq [.r [.q 4 (.box (.t 0)),.q 6 (.box (.t 2)),.m 8 (.c (.b false))],sq [.r [.m 9 (.k 0)],.blk 0 (.loop (sq [sq [.r [.m 14 (.t 9),.q 15 (.bin .lss (.t 14) (.k 2))],.cond (.t 15) (.skip) (.exit 0)],.blk 1 (sq [.r [.q 19 (.loadN 13 (.t 4)),.m 20 (.t 9),.q 21 (.bin .eql (.t 20) (.k 1)),.l 22 a [.t 19,.t 21],.m 18 (.t 22),.q 23 (.ext (.t 18) 0),.q 24 (.ext (.t 18) 1),.m 10 (.t 23),.m 11 (.t 24)],.r [.m 26 (.t 10),.q 27 (.loadN 9 (.t 6)),.l 28 b [.t 26,.t 27],.m 25 (.t 28),.q 29 (.ext (.t 25) 0),.q 30 (.ext (.t 25) 1),.m 12 (.t 29),.m 13 (.t 30)],.r [.m 31 (.t 11),.q 32 (.bin .neq (.t 31) (.k 0)),.m 33 (.t 32),.g 34 (.mov (.t 13)) 33 false,.g 35 (.bin .neq (.t 34) (.k 0)) 33 false,.q 36 (.pick (.t 33) (.c (.b true)) (.t 35)),.m 37 (.t 36),.g 38 (.mov (.t 10)) 37 false,.g 39 (.len false (.t 38)) 37 false,.g 40 (.mov (.t 1)) 37 false,.g 41 (.bin .neq (.t 39) (.t 40)) 37 false,.q 42 (.pick (.t 37) (.c (.b true)) (.t 41)),.m 43 (.t 42),.g 44 (.mov (.t 12)) 43 false,.g 45 (.mov (.t 3)) 43 false,.g 46 (.bin .neq (.t 44) (.t 45)) 43 false,.q 47 (.pick (.t 43) (.c (.b true)) (.t 46))],.cond (.t 47) (sq [.r [.m 8 (.c (.b false))],.ret]) (.skip)]),.r [.m 16 (.t 9),.q 17 (.bin .add (.t 16) (.k 1)),.m 9 (.t 17)]]))],.r [.m 8 (.c (.b true))],.ret]⟩
end
section
variable [Cur]
variable {P:Program}{n:Nat}
def Has(t:Tr AV)(l:List (Nat×AV)):Prop:=∀p ∈ l,t.get p.1=some p.2
theorem qk{t:Tr AV}:Has t []↔True:=iff_true_intro λp hp=>by cases hp
theorem qh{t:Tr AV}{p:Nat×AV}{l:List (Nat×AV)}:Has t (p::l)↔t.get p.1=some p.2/\Has t l:=by simp[Has]
def Has.tr{t:Tr AV}{l:List (Nat×AV)}(h:Has t l){Z:Ren}{tm:Array Value}(ht:TR σ0 Z t tm):TR σ0 Z (mkT l) tm:=λj v hj=>ht j v (h (j,v) (qeH hj))
def S.has{x:ICode}{Q:X->Tr AV->Hp->Prop}{t:Tr AV}{h:Hp}(l:List (Nat×AV))(hl:Has t l)(hs:S P n x Q (mkT l) h):S P n x Q t h :=
 λnt cx hc hn ro hro Z B w a ht hsz r=>hs nt cx hc hn ro hro Z B w a (hl.tr ht) hsz r
def SL.has{x:ICode}{Q:X->Tr AV->Hp->Prop}{t:Tr AV}{h:Hp}(l:List (Nat×AV))(hl:Has t l)(hs:SL P n x Q (mkT l) h):SL P n x Q t h :=
 λnt cx hc hn ro hro Z B w a ht hsz r=>hs nt cx hc hn ro hro Z B w a (hl.tr ht) hsz r
def SL.loopP{α:Type}{x:ICode}{Q:X->Tr AV->Hp->Prop}(T:α->List (Nat×AV))(I:α->Hp->Prop)(μ:α->Nat)
  (step:∀a h,I a h->∀G:Tr AV->Hp->Prop,(∀a' t' h',μ a'<μ a->Has t' (T a')->I a' h'->G t' h')->V P n x (λe t h=>onX e (G t h) (λid=>Q (.exit id) t h) (Q .ret t h)) (mkT (T a)) h)
  (a0:α) {t:Tr AV}{h:Hp}(ht:Has t (T a0)) (h0:I a0 h):SL P n x Q t h:=by
 have main:∀m a t h,μ a<=m->Has t (T a)->I a h->SL P n x Q t h:=by
  intro m
  induction m with
  | zero =>
   intro a t h hm ht hi;refine SL.has _ ht (qcz (step a h hi _ ?_));intro a' t' h' hlt _ _;exact Ac
  | succ m ih =>
   intro a t h hm ht hi;refine SL.has _ ht (qcz (step a h hi _ ?_));intro a' t' h' hlt ht' hi';exact ih a' t' h' Ac ht' hi'
 exact main _ a0 t h (zzL _) ht h0
end
section
variable [Cur]
variable {P:Program}{f:Nat}
structure Sy where
 code:Int
 k:Int
 th:Nat
 el:Nat
def cSy(s:Sy):List AV:=[.h s.code,.w s.k,.j (s.th:Int),.j (s.el:Int)]
def rSy(l:List Sy):List AV:=l.flatMap cSy
def qaq{l:List Sy}:(rSy l).length=l.length*4:=by
 induction l with
 | nil=>rfl
 | cons s l ih=>simp only[rSy,zzv,zzP,zze]at ih ⊢;rw[ih];simp[cSy];exact Ac
def qtZ{l m:List Sy}:rSy l++rSy m=rSy (l++m):=by simp[rSy]
def qC4{s:Sy}:cSy s=rSy [s]:=by simp[rSy]
def Sy.raw(s:Sy):Sy:=⟨s.code,s.k,0,0⟩
def zi:IFn:=irJ 228 []
def qHw(hc:Ck P f zi){w s fl bx bl m e:Nat}{tr:Tr Blk}{x:AV}{a:Bool}{ys:List AV}(y:Sy){k:AV->Hp->Prop}
  (hw:tr.get w=some (.v [.own bl m,x])) (hl:tr.get bl=some (.cells 4 true true ys)) (hy:ys.length=m*4) (hx:tr.get bx=some (.cells e true a (cSy y))) (hm:m<=1000000)
  (hwl:w≠bl) (hws:w<s) (hfw:fl<=w) (hfl:fl<=bl) (hxok:qc7 x=true/\zt x=true) (hk:k (.tup []) ⟨s+1,fl,((tr.set bl .dead).set s (.cells 4 true true (ys++cSy y))).set w (.v [.own s (m+1),x])⟩) :
  SC P f [.ptr w 0,.sl bx 0 1 1 false] ⟨s,fl,tr⟩ k:=by
 refine Bb ?_;have hr1:m+1<=qe:=by simp only[qe];exact Ac
 have hr2:(m+1)*24<=qe:=by simp only[qe];exact Ac
 have hws':¬w=s:=Ac
 simp only[zi,vI,simprocAttr];simp +decide only[↓vS,vT,simprocAttr,hw,hl,hy,hx,cSy,hr1,hr2,hwl,hws',hfw,hfl];exact hk
def xT:IFn:=irJ 168 []
def qBX(hc:Ck P f xT){w s fl bl m b:Nat}{tr:Tr Blk}{x:AV}{old:AV}{k:AV->Hp->Prop}
  (hw:tr.get w=some (.v [.own bl m,x])) (hb:tr.get b=some (.v [old]))
  (hfb:fl<=b) (hk:k (.tup []) ⟨s,fl,tr.set b (.v [.j (m:Int)])⟩) :
  SC P f [.ptr w 0,.ptr b 0] ⟨s,fl,tr⟩ k:=by
 refine Bb ?_;simp only[xT,vI,simprocAttr];refine Sa (zzA hw (zzA hb hfb)) ?_;exact hk
inductive Kd where
 | no|fr|w|l|t|box
 | lab (F:Nat) (p:Bool)
def kdS(U:Nat->Kd)(b:Nat)(x:Kd):Nat->Kd:=λc=>if c=b then x else U c
theorem qH{U:Nat->Kd}{b:Nat}{x:Kd}:kdS U b x b=x:=if_pos rfl
theorem qi{U:Nat->Kd}{b c:Nat}{x:Kd}(h:c≠b):kdS U b x c=U c:=if_neg h
def Bx(U:Nat->Kd)(tr:Tr Blk)(b:Nat)(v:AV):Prop:=U b = .box/\tr.get b=some (.v [v])
def JOk(g w:Nat)(U:Nat->Kd)(tr:Tr Blk)(RV:List Sy)(j:Nat)(c:AV):Prop :=
 ∃b5 b6 b8 b9 b10 X p o y,c = .fn g [] [.ptr b8 0,.ptr b5 0,.ptr b10 0,.ptr b6 0,.ptr b9 0]/\RV[j]?=some y/\Bx U tr b5 (.ptr w 0)/\Bx U tr b6 (.h y.code)/\Bx U tr b8 (.ptr X 0)/\Bx U tr b9 o/\Bx U tr b10 (.j (j:Int)) /\
  U X = .lab y.th p/\((y.code=5/\o = .nilp/\y.el=0)\/(y.code≠5/\∃Y p',o = .ptr Y 0/\U Y = .lab y.el p'))
def qgT(g w:Nat)(U:Nat->Kd)(tr:Tr Blk)(RV:List Sy):List Nat->List AV->Prop
 | [],[]=>True
 | j::js,c::cs=>JOk g w U tr RV j c/\qgT g w U tr RV js cs
 | _,_=>False
structure WI (g w:Nat) (U:Nat->Kd) (s:Nat) (tr:Tr Blk) (RV:List Sy) (N:List Nat):Prop where
 dom:∀b,U b≠.no->b<s
 rows:∃bl bt cs js,U w = .w/\U bl = .l/\U bt = .t/\tr.get w=some (.v [.own bl RV.length,.own bt cs.length])/\tr.get bl=some (.cells 4 true true (rSy (RV.map Sy.raw)))/\tr.get bt=some (.cells 1 true true cs) /\
  qgT g w U tr RV js cs/\cs.length+N.length<=RV.length/\∀(j:Nat) y,RV[j]?=some y->j ∉ js->j ∉ N->y.raw=y
 lab:∀b F p,U b = .lab F p->∃x:Int,tr.get b=some (.v [.j x])/\(p=true->x=F)
structure Stp (L:List Nat) (U:Nat->Kd) (s:Nat) (tr:Tr Blk) (U':Nat->Kd) (s':Nat) (tr':Tr Blk):Prop where
 le:s<=s'
 fr:∀b,U b = .fr->U' b = .fr/\tr'.get b=tr.get b
 box:∀b,U b = .box->U' b = .box/\tr'.get b=tr.get b
 lab:∀b F p,U b = .lab F p->U' b = .lab F p
 nw:∀b F,U' b = .lab F false->U b = .lab F false\/b ∈ L
theorem Stp.refl{U:Nat->Kd}{s:Nat}{tr:Tr Blk}:Stp [] U s tr U s tr:=⟨zzL _,Ad,Ad,λ_ _ _ h=>h,λ_ _ h=>.inl h⟩
theorem Stp.trans{L M:List Nat}{U U1 U2:Nat->Kd}{s s1 s2:Nat}{tr t1 t2:Tr Blk}(a:Stp L U s tr U1 s1 t1)(b:Stp M U1 s1 t1 U2 s2 t2):Stp (L++M) U s tr U2 s2 t2 :=
 ⟨zzg a.le b.le,λx h=>⟨(b.fr x (a.fr x h).1).1,(b.fr x (a.fr x h).1).2.trans (a.fr x h).2⟩,λx h=>⟨(b.box x (a.box x h).1).1,(b.box x (a.box x h).1).2.trans (a.box x h).2⟩,λx F p h=>b.lab x F p (a.lab x F p h),
  λx F h=>by
   grind[Stp.nw]⟩
theorem JOk.mono{g w:Nat}{U U':Nat->Kd}{tr tr':Tr Blk}{RV RV':List Sy}{j:Nat}{c:AV}(h:JOk g w U tr RV j c)(hb:∀b,U b = .box->U' b = .box/\tr'.get b=tr.get b)(hl:∀b F p,U b = .lab F p->∃p',U' b = .lab F p')
  (hr:∀(j:Nat) y,RV[j]?=some y->RV'[j]?=some y):JOk g w U' tr' RV' j c:=by
 obtain⟨b5,b6,b8,b9,b10,X,p,o,y,h0,h1,h2,h3,h4,h5,h6,h7,h8⟩:=h;have bx:∀b v,Bx U tr b v->Bx U' tr' b v:=λb v q=>⟨(hb b q.1).1,(hb b q.1).2.trans q.2⟩
 obtain⟨p1,h7'⟩:=hl X _ p h7;refine⟨b5,b6,b8,b9,b10,X,p1,o,y,h0,hr _ _ h1,bx _ _ h2,bx _ _ h3,bx _ _ h4,bx _ _ h5,bx _ _ h6,h7',?_⟩;rcases h8 with h8|⟨h8,Y,p',h9,h10⟩
 .exact .inl h8
 .obtain⟨p2,h10'⟩:=hl Y _ p' h10;exact .inr ⟨h8,Y,p2,h9,h10'⟩
theorem qgT.mono{g w:Nat}{U U':Nat->Kd}{tr tr':Tr Blk}{RV RV':List Sy}(hb:∀b,U b = .box->U' b = .box/\tr'.get b=tr.get b)(hl:∀b F p,U b = .lab F p->∃p',U' b = .lab F p')
  (hr:∀(j:Nat) y,RV[j]?=some y->RV'[j]?=some y):∀{js:List Nat}{cs:List AV},qgT g w U tr RV js cs->qgT g w U' tr' RV' js cs
 | [],[],_=>trivial
 | _::_,_::_,h=>⟨h.1.mono hb hl hr,qgT.mono hb hl hr h.2⟩
 | [],_::_,h=>h.elim
 | _::_,[],h=>h.elim
def qgT.app{g w:Nat}{U:Nat->Kd}{tr:Tr Blk}{RV:List Sy}{j:Nat}{c:AV}(hj:JOk g w U tr RV j c):∀{js:List Nat}{cs:List AV},qgT g w U tr RV js cs->qgT g w U tr RV (js++[j]) (cs++[c])
 | [],[],_=>⟨hj,trivial⟩
 | _::_,_::_,h=>⟨h.1,qgT.app hj h.2⟩
 | [],_::_,h=>h.elim
 | _::_,[],h=>h.elim
section
variable {g w s:Nat}{U:Nat->Kd}{tr:Tr Blk}{RV:List Sy}{N:List Nat}
def WI.fresh(h:WI g w U s tr RV N):U s = .no:=by
 cases hk:U s with
 | no=>rfl
 | _=>exact absurd (h.dom s (by rw[hk];simp)) (Nat.lt_irrefl _)
def WI.new(h:WI g w U s tr RV N)(kd:Kd)(x:Blk)(hk:kd = .no\/kd = .fr\/kd = .box\/∃F,kd = .lab F false/\x = .v [.j 0]):WI g w (kdS U s kd) (s+1) (tr.set s x) RV N:=by
 have hs:=h.fresh;have ne:∀{b},U b≠.no->b≠s:=Ah
 obtain⟨bl,bt,cs,js,r1,r2,r3,r4,r5,r6,r7,r8,r9⟩:=h.rows;refine⟨λb hb=>?_,⟨bl,bt,cs,js,?_,?_,?_,?_,?_,?_,r7.mono ?_ ?_ λ_ _ q=>q,r8,r9⟩,λb F p hb=>?_⟩
 .by_cases e:b=s
  .exact Ac
  .rw[qi e]at hb;have:=h.dom b hb;exact Ac
 .rw[qi Ad];exact r1
 .rw[qi Ad];exact r2
 .rw[qi Ad];exact r3
 .rw[zz4,if_neg Ad];exact r4
 .rw[zz4,if_neg Ad];exact r5
 .rw[zz4,if_neg Ad];exact r6
 .simp_all[qi,zz4]
 .simp_all[qi]
 .by_cases e:b=s
  .simp_all[qH,zz4]
  .rw[qi e]at hb;rw[zz4,if_neg e];exact h.lab b F p hb
def WI.stpLab(h:WI g w U s tr RV N)(kd:Kd)(x:Blk):Stp [s] U s tr (kdS U s kd) (s+1) (tr.set s x):=by
 have hs:=h.fresh;have ne:∀{b},U b≠.no->b≠s:=Ah
 refine⟨Ac,λb hb=>?_,λb hb=>?_,λb F p hb=>?_,λb F hb=>?_⟩
 all_goals grind[qi,Tr.get_set]
def WI.stpNew(h:WI g w U s tr RV N)(kd:Kd)(x:Blk)(hk:∀F,kd≠.lab F false):Stp [] U s tr (kdS U s kd) (s+1) (tr.set s x):=by
 refine { h.stpLab kd x with nw:=λb F hb=>?_ }
 grind[qH,qi]
def WI.chg(h:WI g w U s tr RV N){b:Nat}(kd:Kd)(x:Blk)(hb:U b = .fr\/U b = .no)(hbs:b<s)(hk:kd = .no\/kd = .fr\/kd = .box):WI g w (kdS U b kd) s (tr.set b x) RV N:=by
 have ne:∀{c},U c≠.no->U c≠.fr->c≠b:=λh1 h2 e=>Ad
 obtain⟨bl,bt,cs,js,r1,r2,r3,r4,r5,r6,r7,r8,r9⟩:=h.rows;refine⟨λc hc=>?_,⟨bl,bt,cs,js,?_,?_,?_,?_,?_,?_,r7.mono ?_ ?_ λ_ _ q=>q,r8,r9⟩,λc F p hc=>?_⟩
 .by_cases e:c=b
  .exact Ac
  .rw[qi e]at hc;exact h.dom c hc
 .rw[qi Ad];exact r1
 .rw[qi Ad];exact r2
 .rw[qi Ad];exact r3
 .rw[zz4,if_neg Ad];exact r4
 .rw[zz4,if_neg Ad];exact r5
 .rw[zz4,if_neg Ad];exact r6
 .simp_all[qi,zz4]
 .simp_all[qi]
 .by_cases e:c=b
  .simp_all[qH]
  .rw[qi e]at hc;rw[zz4,if_neg e];exact h.lab c F p hc
def qEp{bx e:Nat}{a:Bool}(hc:Ck P f zi)(h:WI g w U s tr RV N)(y:Sy)(hx:tr.get bx=some (.cells e true a (cSy y.raw)))(hm:RV.length<=1000000) :
  ∃U' s' tr',Stp [] U s tr U' s' tr'/\WI g w U' s' tr' (RV++[y]) (RV.length::N)/\∀k:AV->Hp->Prop,k (.tup []) ⟨s',0,tr'⟩->SC P f [.ptr w 0,.sl bx 0 1 1 false] ⟨s,0,tr⟩ k:=by
 obtain⟨bl,bt,cs,js,r1,r2,r3,r4,r5,r6,r7,r8,r9⟩:=h.rows;have hs:=h.fresh;have ne:∀{b c},U b≠U c->b≠c:=Ah
 have ns:∀{b},U b≠.no->b≠s:=Ad
 have wl:w≠bl:=Ad
 have tl:bt≠bl:=Ad
 have tw:bt≠w:=Ad
 have sw:s≠w:=Ad
 have sl:s≠bl:=Ad
 have st:bt≠s:=Ad
 have ge:∀b,U b≠.w->U b≠.l->U b≠.no->(((tr.set bl .dead).set s (.cells 4 true true (rSy (RV.map Sy.raw)++cSy y.raw))).set w (.v [.own s (RV.length+1),.own bt cs.length])).get b=tr.get b:=λb h1 h2 h3=>by
  rw[zz4,if_neg Ad,zz4,if_neg (ns h3),zz4,if_neg Ad]
 have gk:∀b,U b≠.l->U b≠.no->kdS (kdS U bl .no) s .l b=U b:=λb h1 h2=>by
  rw[qi (ns h2),qi Ad]
 refine⟨kdS (kdS U bl .no) s .l,s+1,((tr.set bl .dead).set s (.cells 4 true true (rSy (RV.map Sy.raw)++cSy y.raw))).set w (.v [.own s (RV.length+1),.own bt cs.length]),⟨Ac,λb hb=>?_,λb hb=>?_,λb F p hb=>?_,λb F hb=>.inl (by
  grind[qH,qi])⟩,⟨λb hb=>?_,⟨s,bt,cs,js,?_,?_,?_,?_,?_,?_,r7.mono ?_ ?_ ?_,?_,?_⟩,λb F p hb=>?_⟩,
  λk hk=>qHw hc y.raw r4 r5 (by rw[qaq,zzz]) hx hm wl (h.dom w Fb) (zzu _) (zzu _) ⟨rfl,rfl⟩ hk⟩
 .exact Ad
 .exact Ad
 .rw[gk b D1 D1];exact hb
 .by_cases e:b=s
  .exact Ac
  .rw[qi e]at hb
   by_cases e2:b=bl
   .rw[e2,qH]at hb;exact Ad
   .rw[qi e2]at hb;have:=h.dom b hb;exact Ac
 .rw[gk w Fb Fb];exact r1
 .rw[qH]
 .rw[gk bt Gj Gj];exact r3
 .rw[zz4,if_pos rfl];simp
 .rw[zz4,if_neg sw,zz4,if_pos rfl];rw[qC4,qtZ];simp
 .rw[ge bt Gj Gj Gj];exact r6
 .exact Ad
 .exact Ad
 .exact Ah
 .exact Ah
 .exact Ah
 .by_cases e:b=s
  .rw[e,qH]at hb;cases hb
  .rw[qi e]at hb
   by_cases e2:b=bl
   .rw[e2,qH]at hb;cases hb
   .rw[qi e2]at hb;obtain⟨x,q1,q2⟩:=h.lab b F p hb
    exact Ad
def qzl{k:AV->Hp->Prop}{bx e:Nat}{a:Bool}(hc:Ck P f zi)(h:WI g w U s tr RV N)(y:Sy)(hx:tr.get bx=some (.cells e true a (cSy y.raw)))(hm:RV.length<=1000000)
  (hk:∀U' s' tr',Stp [] U s tr U' s' tr'->WI g w U' s' tr' (RV++[y]) (RV.length::N)->k (.tup []) ⟨s',0,tr'⟩):SC P f [.ptr w 0,.sl bx 0 1 1 false] ⟨s,0,tr⟩ k:=by
 obtain⟨U',s',tr',q1,q2,q3⟩:=qEp hc h y hx hm;exact q3 k Ah
def WI.drop{n:Nat}(h:WI g w U s tr RV (n::N))(hn:∀y,RV[n]?=some y->y.raw=y):WI g w U s tr RV N:=by
 obtain⟨bl,bt,cs,js,r1,r2,r3,r4,r5,r6,r7,r8,r9⟩:=h.rows;refine⟨h.dom,⟨bl,bt,cs,js,r1,r2,r3,r4,r5,r6,r7,by simp at r8;exact Ac,λj y hy hj hN=>?_⟩,h.lab⟩
 by_cases e:j=n
 .subst e;exact hn y hy
 .exact r9 j y hy hj λq=>by rcases zzc.1 q with q|q<;>contradiction
def WI.add{n bl bt m:Nat}{c:AV}{cs:List AV}(h:WI g w U s tr RV (n::N))(hj:JOk g w U tr RV n c)(hw:tr.get w=some (.v [.own bl RV.length,.own bt m]))(ht:tr.get bt=some (.cells 1 true true cs)) :
  WI g w (kdS (kdS U bt .no) s .t) (s+1) (((tr.set bt .dead).set s (.cells 1 true true (cs++[c]))).set w (.v [.own bl RV.length,.own s (m+1)])) RV N /\
  Stp [] U s tr (kdS (kdS U bt .no) s .t) (s+1) (((tr.set bt .dead).set s (.cells 1 true true (cs++[c]))).set w (.v [.own bl RV.length,.own s (m+1)])):=by
 obtain⟨bl',bt',cs',js,r1,r2,r3,r4,r5,r6,r7,r8,r9⟩:=h.rows;rw[hw]at r4;cases r4;rw[ht]at r6;cases r6;have hs:=h.fresh;have ne:∀{b c},U b≠U c->b≠c:=Ah
 have ns:∀{b},U b≠.no->b≠s:=Ad
 have sw:s≠w:=Ad
 have sb:s≠bt:=Ad
 have ge:∀b,U b≠.w->U b≠.t->U b≠.no->(((tr.set bt .dead).set s (.cells 1 true true (cs++[c]))).set w (.v [.own bl RV.length,.own s (cs.length+1)])).get b=tr.get b:=λb h1 h2 h3=>by
  rw[zz4,if_neg Ad,zz4,if_neg (ns h3),zz4,if_neg Ad]
 have gk:∀b,U b≠.t->U b≠.no->kdS (kdS U bt .no) s .t b=U b:=λb h1 h2=>by
  rw[qi (ns h2),qi Ad]
 have hB:∀b,U b = .box->kdS (kdS U bt .no) s .t b = .box/\(((tr.set bt .dead).set s (.cells 1 true true (cs++[c]))).set w (.v [.own bl RV.length,.own s (cs.length+1)])).get b=tr.get b:=λb hb =>
  Ad
 have hL:∀b F p,U b = .lab F p->kdS (kdS U bt .no) s .t b = .lab F p:=Ad
 refine⟨⟨λb hb=>?_,⟨bl,s,cs++[c],js++[n],?_,?_,?_,?_,?_,?_,?_,?_,?_⟩,λb F p hb=>?_⟩,⟨Ac,λb hb=>?_,hB,hL,λb F hb=>.inl (by
  by_cases e:b=s
  .rw[e,qH]at hb;cases hb
  .rw[qi e]at hb
   by_cases e2:b=bt
   .rw[e2,qH]at hb;cases hb
   .rw[qi e2]at hb;exact hb)⟩⟩
 .by_cases e:b=s
  .exact Ac
  .rw[qi e]at hb
   by_cases e2:b=bt
   .rw[e2,qH]at hb;exact absurd rfl hb
   .rw[qi e2]at hb;have:=h.dom b hb;exact Ac
 .rw[gk w Fb Fb];exact r1
 .rw[gk bl Gk Gk];exact r2
 .rw[qH]
 .rw[zz4,if_pos rfl];simp
 .rw[ge bl Gk Gk Gk];exact r5
 .rw[zz4,if_neg sw,zz4,if_pos rfl]
 .exact qgT.app (hj.mono hB Ad λ_ _ q=>q) (r7.mono hB Ad λ_ _ q=>q)
 .simp at r8 ⊢;exact Ac
 .intro j y hy hj hN;exact Ah
 .by_cases e:b=s
  .rw[e,qH]at hb;cases hb
  .rw[qi e]at hb
   by_cases e2:b=bt
   .rw[e2,qH]at hb;cases hb
   .rw[qi e2]at hb;obtain⟨x,q1,q2⟩:=h.lab b F p hb;exact Ad
 exact Ad
end
section
variable {g w s gp:Nat}{U:Nat->Kd}{tr:Tr Blk}{RV:List Sy}{N:List Nat}{k:AV->Hp->Prop}
def WI.dropS{y:Sy}(h:WI g w U s tr (RV++[y]) (RV.length::N))(hy:y.raw=y):WI g w U s tr (RV++[y]) N:=h.drop λz hz=>Ad
def jJ(a:Nat):IFn:=irJ 166 [228,a]
def qm2(hc:Ck P f (jJ gp))(hp:Ck P gp zi)(h:WI g w U s tr RV N)(a:Int)(hm:RV.length<=1000000)
  (hk:∀U' s' tr',Stp [] U s tr U' s' tr'->WI g w U' s' tr' (RV++[⟨32,a,0,0⟩]) N->k (.tup []) ⟨s',0,tr'⟩):SC P f [.ptr w 0,.w a] ⟨s,0,tr⟩ k:=by
 refine Bb ?_;simp only[jJ,vI,simprocAttr];refine Ab ?_;refine qzl hp (h.new .no _ (.inl rfl)) ⟨32,a,0,0⟩ Ea hm ?_;intro U' s' tr' st hw;refine Ab ?_;exact Hd
def qa5(a:Nat):IFn:=irJ 169 [228,a]
def qoI(hc:Ck P f (qa5 gp))(hp:Ck P gp zi)(h:WI g w U s tr RV N)(a:Int)(hm:RV.length<=1000000)
  (hk:∀U' s' tr',Stp [] U s tr U' s' tr'->WI g w U' s' tr' (RV++[⟨6,a,0,0⟩]) N->k (.tup []) ⟨s',0,tr'⟩):SC P f [.ptr w 0,.w a] ⟨s,0,tr⟩ k:=by
 refine Bb ?_;simp only[qa5,vI,simprocAttr];refine Ab ?_;refine qzl hp (h.new .no _ (.inl rfl)) ⟨6,a,0,0⟩ Ea hm ?_;intro U' s' tr' st hw;refine Ab ?_;exact Hd
def qaP(hc:Ck P f xT)(h:WI g w U s tr RV N){b:Nat}{p:Bool}(hb:U b = .lab RV.length p)
  (hk:∀tr',(∀c,U c = .fr->tr'.get c=tr.get c)->(∀c,U c = .box->tr'.get c=tr.get c)->WI g w (kdS U b (.lab RV.length true)) s tr' RV N->k (.tup []) ⟨s,0,tr'⟩):SC P f [.ptr w 0,.ptr b 0] ⟨s,0,tr⟩ k:=by
 obtain⟨bl,bt,cs,js,r1,r2,r3,r4,r5,r6,r7,r8,r9⟩:=h.rows;obtain⟨x,q1,q2⟩:=h.lab _ _ _ hb;have ne:∀{b c},U b≠U c->b≠c:=Ah
 have nb:∀{c},(∀F p,U c≠.lab F p)->c≠b:=Ah
 refine qBX hc r4 q1 (zzu _) (hk _ (λc hc=>?_) (λc hc=>?_) ⟨λc hc=>?_,⟨bl,bt,cs,js,?_,?_,?_,?_,?_,?_,r7.mono ?_ ?_ λ_ _ q=>q,r8,r9⟩,λc F p hc=>?_⟩)
 .rw[zz4,if_neg Ad]
 .rw[zz4,if_neg Ad]
 .by_cases e:c=b
  .rw[e];exact h.dom b D1
  .rw[qi e]at hc;exact h.dom c hc
 .rw[qi Ad];exact r1
 .rw[qi Ad];exact r2
 .rw[qi Ad];exact r3
 .rw[zz4,if_neg Ad];exact r4
 .rw[zz4,if_neg Ad];exact r5
 .rw[zz4,if_neg Ad];exact r6
 .simp_all[qi,zz4]
 .grind[qH,qi]
 .by_cases e:c=b
  .rw[e,qH]at hc;exact Fw
  .rw[qi e]at hc;rw[zz4,if_neg e];exact h.lab c F p hc
def xU(a b:Nat):IFn:=irJ 167 [228,a,229,b]
def qyi(hc:Ck P f (xU gp g))(hp:Ck P gp zi)(h:WI g w U s tr RV N)(y:Sy){X:Nat}{p:Bool}{o:AV}(hX:U X = .lab y.th p)
  (ho:(y.code=5/\o = .nilp/\y.el=0)\/(y.code≠5/\∃Y p',o = .ptr Y 0/\U Y = .lab y.el p')) (hm:RV.length<=1000000) :
  ∃U' s' tr',Stp [] U s tr U' s' tr'/\WI g w U' s' tr' (RV++[y]) N/\∀k:AV->Hp->Prop,k (.tup []) ⟨s',0,tr'⟩->SC P f [.ptr w 0,.h y.code,.w y.k,.ptr X 0,o] ⟨s,0,tr⟩ k:=by
 obtain⟨bl,bt,cs,js,r1,r2,r3,r4,r5,r6,r7,r8,r9⟩:=h.rows;have hs:=h.fresh;have ws:w<s:=h.dom w Fb
 have hod:qc7 o=true/\cellsOf o=[o]/\zt o=true:=by
  rcases ho with⟨_,rfl,_⟩|⟨_,Y,_,rfl,_⟩<;>exact⟨rfl,rfl,rfl⟩
 obtain⟨o1,o2,o3⟩:=hod;have w0:¬w=s:=Ac
 have w1:¬w=s+1:=Ac
 have w2:¬w=s+1+1:=Ac
 have w3:¬w=s+1+1+1:=Ac
 have w4:¬w=s+1+1+1+1:=Ac
 have s1:¬s=s+1:=Ac
 have s2:¬s=s+1+1:=Ac
 have s3:¬s=s+1+1+1:=Ac
 have s4:¬s=s+1+1+1+1:=Ac
 have s0:¬s=s+1+1+1+1+1:=Ac
 have s5:¬s+1=s+1+1:=Ac
 have s6:¬s+1=s+1+1+1:=Ac
 have s7:¬s+1=s+1+1+1+1:=Ac
 have h1:=h.new .box (.v [.ptr w 0]) Ad;have h2:=h1.new .box (.v [.h y.code]) Ad;have h3:=h2.new .box (.v [.ptr X 0]) Ad;have h4:=h3.new .box (.v [o]) Ad;have h5:=h4.new .no (.v [.j 0]) (.inl rfl);have h6:=h5.chg (b:=s+1+1+1+1) .box (.v [.j (RV.length:Int)]) (.inr qH) Ac (.inr (.inr rfl));have h7:=h6.new .no (.v [.h y.code,.w y.k,.j 0,.j 0]) (.inl rfl);obtain⟨U',s',tr',st',hw,hput⟩:=qEp hp h7 y Ea hm;have d0:∀{b},b<s'->¬b=s':=λh e=>Ac
 obtain⟨bl',bt',cs',js',q1,q2,q3,q4,q5,q6,q7,q8,q9⟩:=hw.rows;have ne:∀{b c},U' b≠U' c->b≠c:=Ah
 have nn:∀a:Nat,¬s=s+a+1:=λa h=>Ac
 have ke:∀c:Nat,c<5->kdS (kdS (kdS (kdS (kdS (kdS (kdS U s .box) (s+1) .box) (s+1+1) .box) (s+1+1+1) .box) (s+1+1+1+1) .no) (s+1+1+1+1) .box) (s+1+1+1+1+1) .no (s+c) = .box:=by
  intro c hc;simp only[kdS];have:c=0\/c=1\/c=2\/c=3\/c=4:=Ac
  rcases this with rfl|rfl|rfl|rfl|rfl<;>simp[s0,s1,s2,s3,s4]
 have b0:=st'.box (s+0) (ke 0 Ac);have b1:=st'.box (s+1) (ke 1 Ac);have b2:=st'.box (s+2) (ke 2 Ac);have b3:=st'.box (s+3) (ke 3 Ac);have b4:=st'.box (s+4) (ke 4 Ac);have g0:tr'.get s=some (.v [.ptr w 0]):=by rw[show s=s+0 from rfl,b0.2];simp[zz4,s0,s1,s2,s3,s4]
 have g1:tr'.get (s+1)=some (.v [.h y.code]):=by rw[b1.2];exact Bn
 have g2:tr'.get (s+2)=some (.v [.ptr X 0]):=by rw[b2.2];exact Bn
 have g3:tr'.get (s+3)=some (.v [o]):=by rw[b3.2];exact Bn
 have g4:tr'.get (s+4)=some (.v [.j (RV.length:Int)]):=by rw[b4.2];exact Bn
 have ws':w<s':=hw.dom w (by rw[q1];simp);have bs':bt'<s':=hw.dom bt' (by rw[q3];simp);have le':s+6<=s':=st'.le;have l0:¬s=s':=Ac
 have l1:¬w=s':=Ac
 have l2:¬bt'=s':=Ac
 have l3:¬w=s'+1:=Ac
 have l4:¬w=bt':=Ah
 have l5:¬s=s'+1:=Ac
 have l6:¬s=bt':=Ah
 have hr1:cs'.length+1<=qe:=by simp only[qe];exact Ah
 have hr2:(cs'.length+1)*8<=qe:=by simp only[qe];exact Ah
 have hw1:=hw.new .no (.v [.fn g [] [.ptr (s+1+1) 0,.ptr s 0,.ptr (s+1+1+1+1) 0,.ptr (s+1) 0,.ptr (s+1+1+1) 0]]) (.inl rfl)
 have bx:∀c v,c<5->U' (s+c) = .box->tr'.get (s+c)=some (.v [v])->Bx (kdS U' s' .no) (tr'.set s' (.v [.fn g [] [.ptr (s+1+1) 0,.ptr s 0,.ptr (s+1+1+1+1) 0,.ptr (s+1) 0,.ptr (s+1+1+1) 0]])) (s+c) v:=λc v hc e1 e2=>by
  have:s+c≠s':=Ac
  exact⟨by rw[qi this];exact e1,by rw[zz4,if_neg this];exact e2⟩
 have lk:∀b F p,U b = .lab F p->kdS U' s' .no b = .lab F p:=λb F p hb=>by
  have hbs:b<s:=h.dom b D1;rw[qi Ac];refine st'.lab b F p ?_;simp only[kdS];rw[if_neg Ac,if_neg Ac,if_neg Ac,if_neg Ac,if_neg Ac,if_neg Ac,if_neg Ac];exact hb
 have hj:JOk g w (kdS U' s' .no) (tr'.set s' (.v [.fn g [] [.ptr (s+1+1) 0,.ptr s 0,.ptr (s+1+1+1+1) 0,.ptr (s+1) 0,.ptr (s+1+1+1) 0]])) (RV++[y]) RV.length (.fn g [] [.ptr (s+1+1) 0,.ptr s 0,.ptr (s+1+1+1+1) 0,.ptr (s+1) 0,.ptr (s+1+1+1) 0]):=by
  refine⟨s+0,s+1,s+2,s+3,s+4,X,p,o,y,rfl,by simp,bx 0 _ Ac b0.1 g0,Ah,Ah,Ah,Ah,lk _ _ _ hX,?_⟩
  rcases ho with ho|⟨h1,Y,p',h2,h3⟩
  all_goals grind
 obtain⟨e1,e2⟩:=hw1.add hj (by rw[zz4,if_neg l1];exact q4) (by rw[zz4,if_neg l2];exact q6);refine⟨_,_,_,?_,e1,λk hk=>?_⟩
 rotate_left
 .refine Bb ?_;simp only[xU,vI,simprocAttr];simp +decide only[↓vS,vT,simprocAttr,o1,o2,o3,r4,w0,w1,w2,w3,w4,s1,s2,s3,s4,s5,s6,s7];refine hput _ ?_;refine Ab ?_;refine zB ?_;simp +decide only[↓vS,vT,simprocAttr,g0,q4,q6,l0,l1,l2,l3,l4,l5,l6,ws',bs',hr1,hr2,zzU];exact hk
 refine Stp.trans (L:=[]) ?_ (st'.trans ((hw.stpNew .no _ (by simp)).trans e2));refine⟨Ac,λb hb=>?_,λb hb=>?_,λb F p hb=>?_,λb F hb=>.inl ?_⟩
 rotate_left 3
 .exact E0
 all_goals have hbs:b<s:=h.dom b D1
 .simp only[kdS,zz4]
  iterate 7 rw[if_neg Ac]
  iterate 7 rw[if_neg Ac]
  exact Ah
 .simp only[kdS,zz4]
  iterate 7 rw[if_neg Ac]
  iterate 7 rw[if_neg Ac]
  exact Ah
 .simp only[kdS]
  iterate 7 rw[if_neg Ac]
  exact hb
def qe1(hc:Ck P f (xU gp g))(hp:Ck P gp zi)(h:WI g w U s tr RV N)(y:Sy){X:Nat}{p:Bool}{o:AV}(hX:U X = .lab y.th p)
  (ho:(y.code=5/\o = .nilp/\y.el=0)\/(y.code≠5/\∃Y p',o = .ptr Y 0/\U Y = .lab y.el p')) (hm:RV.length<=1000000)
  (hk:∀U' s' tr',Stp [] U s tr U' s' tr'->WI g w U' s' tr' (RV++[y]) N->k (.tup []) ⟨s',0,tr'⟩):SC P f [.ptr w 0,.h y.code,.w y.k,.ptr X 0,o] ⟨s,0,tr⟩ k:=by
 obtain⟨U',s',tr',q1,q2,q3⟩:=qyi hc hp h y hX ho hm;exact q3 k Ah
end
def qg8{α:Type}{f:α->List AV}{m:Nat}(h:∀x,(f x).length=m){xs:List α}{j:Nat}{x x':α}{i:Nat}{v:AV}(hx:xs[j]?=some x)(hi:i<m)(hf:f x'=(f x).take i++([v]++(f x).drop (i+1))) :
  (xs.flatMap f).take (j*m+i)++([v]++(xs.flatMap f).drop (j*m+i+1))=(xs.set j x').flatMap f:=by
 obtain⟨hj,hx⟩:=zzS.1 hx;have e:xs=xs.take j++x::xs.drop (j+1):=by rw[<- hx,List.getElem_cons_drop,List.take_append_drop]
 have hl:(xs.take j).length=j:=by rw[zzm];exact Ac
 have hA:((xs.take j).flatMap f).length=j*m:=by rw[zb h,hl]
 have e1:xs.flatMap f=(xs.take j).flatMap f++(f x++(xs.drop (j+1)).flatMap f):=Ah
 have e2:(xs.set j x').flatMap f=(xs.take j).flatMap f++(f x'++(xs.drop (j+1)).flatMap f):=by
  rw[List.set_eq_take_append_cons_drop,if_pos hj];simp
 rw[e1,e2,hf,<- hA,List.take_length_add_append,show((xs.take j).flatMap f).length+i+1=((xs.take j).flatMap f).length+(i+1)from rfl,List.drop_length_add_append]
 rw[List.take_append_of_le_length (by rw[h];exact Ac),List.drop_append_of_le_length (by rw[h];exact Ac)];simp
def qeo(s:Sy):(cSy s).length=4:=rfl
def qS:IFn:=irJ 229 []
def qyg(hc:Ck P f qS){s w bl j b5 b6 b8 b9 b10 X F:Nat}{L:List Sy}{z:Sy}{x o:AV}{c:Int}{e:Nat}{tr:Tr Blk}{k:AV->Hp->Prop}
  (hw:tr.get w=some (.v [.own bl L.length,x])) (hl:tr.get bl=some (.cells 4 true true (rSy L))) (hz:L[j]?=some z)
  (g5:tr.get b5=some (.v [.ptr w 0])) (g6:tr.get b6=some (.v [.h c])) (g8:tr.get b8=some (.v [.ptr X 0])) (g9:tr.get b9=some (.v [o])) (g10:tr.get b10=some (.v [.j (j:Int)]))
  (gX:tr.get X=some (.v [.j (F:Int)])) (hn:w≠bl/\b5≠bl/\b6≠bl/\b8≠bl/\b9≠bl/\b10≠bl/\X≠bl) (hd:bl<s)
  (ho:(c=5/\e=z.el)\/(c≠5/\∃Y,o = .ptr Y 0/\Y≠bl/\tr.get Y=some (.v [.j (e:Int)])))
  (hk:∀tr',(∀b,tr'.get b=if b=bl then some (.cells 4 true true (rSy (L.set j ⟨z.code,z.k,F,e⟩)))else tr.get b)->k (.tup []) ⟨s,0,tr'⟩) :
  SC P f [.ptr b8 0,.ptr b5 0,.ptr b10 0,.ptr b6 0,.ptr b9 0] ⟨s,0,tr⟩ k:=by
 obtain⟨n1,n2,n3,n4,n5,n6,n7⟩:=hn;have hj:j<L.length:=Ah
 have hj4:j*4+2+1<=(rSy L).length:=by rw[qaq];exact Ac
 have h1:(rSy L).take (j*4+2) ++ .j (F:Int)::(rSy L).drop (j*4+2+1)=rSy (L.set j ⟨z.code,z.k,F,z.el⟩):=qg8 qeo hz Ac rfl;have hz2:(L.set j ⟨z.code,z.k,F,z.el⟩)[j]?=some ⟨z.code,z.k,F,z.el⟩:=Ah
 have h2:(rSy (L.set j ⟨z.code,z.k,F,z.el⟩)).take (j*4+3) ++ .j (e:Int)::(rSy (L.set j ⟨z.code,z.k,F,z.el⟩)).drop (j*4+3+1)=rSy (L.set j ⟨z.code,z.k,F,e⟩):=by
  have:=qg8 (x':=⟨z.code,z.k,F,e⟩) (v:=.j (e:Int)) (i:=3) qeo hz2 Ac rfl;rw[List.set_set]at this;exact this
 have hj5:j*4+3+1<=(rSy (L.set j ⟨z.code,z.k,F,z.el⟩)).length:=by rw[qaq,List.length_set];exact Ac
 refine Bb ?_;simp only[qS,vI,simprocAttr];refine zB ?_;simp +decide only[↓vS,vT,simprocAttr,g5,hw,g10,g8,gX,hl,n1,n2,n3,n4,n5,n6,n7,hj,hd,hj4,h1];rcases ho with⟨rfl,rfl⟩|⟨hc5,Y,rfl,nY,gY⟩
 .refine Sa g6 ?_
  exact Fw
 .refine Sa (zzA g6 hc5) ?_;refine zB ?_;have n1':¬w=bl:=n1;simp +decide only[↓vS,vT,simprocAttr,g5,hw,g10,g9,gY,hl,n1,n2,n3,n4,n5,n6,n7,nY,hj,hd,hj5,List.length_set,h2]
  exact Fw
def zj:IFn:=irJ 170 []
def qfH(js:List Nat)(RV:List Sy):List Sy:=RV.mapIdx λj y=>if j ∈ js then y else y.raw
theorem qvJ{RV:List Sy}:qfH [] RV=RV.map Sy.raw:=by
 apply List.ext_getElem?;intro i;simp[qfH]
theorem qoC{js:List Nat}{RV:List Sy}:(qfH js RV).length=RV.length:=by simp[qfH]
theorem qk5{js:List Nat}{RV:List Sy}{j:Nat}:(qfH js RV)[j]?=(RV[j]?).map λy=>if j ∈ js then y else y.raw:=by simp[qfH]
def qsn{js:List Nat}{RV:List Sy}{j:Nat}{y:Sy}(hy:RV[j]?=some y):(qfH js RV).set j y=qfH (js++[j]) RV:=by
 have hj:j<RV.length:=Ah
 apply List.ext_getElem?
 grind[qoC,qk5]
def qvI{js:List Nat}{RV:List Sy}(h:∀(j:Nat) y,RV[j]?=some y->j ∉ js->y.raw=y):qfH js RV=RV:=by
 apply List.ext_getElem?
 grind[qk5]
theorem qgT.get{g w:Nat}{U:Nat->Kd}{tr:Tr Blk}{RV:List Sy}:∀{js:List Nat}{cs:List AV},qgT g w U tr RV js cs->∀{i:Nat}{c:AV},cs[i]?=some c->∃j,js[i]?=some j/\JOk g w U tr RV j c
 | [],[],_,_,_,h=>Ah
 | j::js,c::cs,h,0,_,hi=>by simp at hi;subst hi;exact⟨j,rfl,h.1⟩
 | j::js,c::cs,h,i+1,_,hi=>by simpa using qgT.get h.2 Ad
 | [],_::_,h,_,_,_=>h.elim
 | _::_,[],h,_,_,_=>h.elim
theorem qgT.len{g w:Nat}{U:Nat->Kd}{tr:Tr Blk}{RV:List Sy}:∀{js:List Nat}{cs:List AV},qgT g w U tr RV js cs->js.length=cs.length
 | [],[],_=>rfl
 | _::_,_::_,h=>by simp[qgT.len h.2]
 | [],_::_,h=>h.elim
 | _::_,[],h=>h.elim
def qxq{g w s:Nat}{U:Nat->Kd}{tr:Tr Blk}{RV:List Sy}{k:AV->Hp->Prop}(hc:Ck P f zj)(hg:Ck P g qS)(h:WI g w U s tr RV [])(hp:∀b F p,U b = .lab F p->p=true)(hm:RV.length<=1000000)
  (hk:∀tr' b,tr'.get b=some (.cells 4 true true (rSy RV))->b<s->k (.own b RV.length) ⟨s,0,tr'⟩):SC P f [.ptr w 0] ⟨s,0,tr⟩ k:=by
 obtain⟨bl,bt,cs,js,r1,r2,r3,r4,r5,r6,r7,r8,r9⟩:=h.rows;have ne:∀{b c},U b≠U c->b≠c:=Ah
 have hjl:=r7.len;refine Bb ?_;simp only[zj,vI,simprocAttr];refine Sa r4 ?_;have wl:w≠bl:=Ad
 have tl:bt≠bl:=Ad
 refine SL.loopP (α:=Nat) (λi=>[(0,.ptr w 0),(2,.nils),(8,.own bt cs.length),(9,.j (cs.length:Int)),(10,.j (i:Int))])
  (λi h=>i<=cs.length/\∃tr',h=⟨s,0,tr'⟩/\∀b,tr'.get b=if b=bl then some (.cells 4 true true (rSy (qfH (js.take i) RV)))else tr.get b) (λi=>cs.length-i) ?_ 0 ?_ ?_
 .rintro i h1 ⟨hi,tr',rfl,hget⟩ G ih;refine Am ?_;have g4:tr'.get w=some (.v [.own bl RV.length,.own bt cs.length]):=by rw[hget,if_neg wl];exact r4
  have g5:tr'.get bl=some (.cells 4 true true (rSy (qfH (js.take i) RV))):=by rw[hget,if_pos rfl]
  have g6:tr'.get bt=some (.cells 1 true true cs):=by rw[hget,if_neg tl];exact r6
  by_cases hlt:i<cs.length
  .obtain⟨j,hj,b5,b6,b8,b9,b10,X,p,o,y,h0,h1,h2,h3,h4,h5,h6,h7,h8⟩:=r7.get (zzE hlt);have hci:cs[i]?=some (.fn g [] [.ptr b8 0,.ptr b5 0,.ptr b10 0,.ptr b6 0,.ptr b9 0]):=by rw[zzE hlt,h0]
   have nb:∀{b v},Bx U tr b v->b≠bl/\tr'.get b=some (.v [v]):=λ{b v} q=>by
    have e:b≠bl:=ne (by rw[q.1,r2];simp);exact⟨e,by rw[hget,if_neg e];exact q.2⟩
   have nl:∀{b F p},U b = .lab F p->b≠bl/\tr'.get b=some (.v [.j (F:Int)]):=λ{b F p} q=>by
    have e:b≠bl:=Ah
    obtain⟨x,q1,q2⟩:=h.lab b F p q;exact Ah
   have hlt':(i:Int)<cs.length:=Ac
   have hw1:=wS i;simp +decide only[↓vS,vT,simprocAttr,hlt',hlt,g6,hci,zzU];have hz:(qfH (js.take i) RV)[j]?=some (if j ∈ js.take i then y else y.raw):=by rw[qk5,h1];rfl
   refine qyg (F:=y.th) (e:=y.el) (c:=y.code) (L:=qfH (js.take i) RV) hg (by rw[qoC];exact g4) g5 hz (nb h2).2 (nb h3).2 (nb h4).2 (nb h5).2 (nb h6).2 (nl h7).2 Ah (by grind[WI.dom]) ?_ ?_
   .rcases h8 with⟨h8,rfl,h9⟩|⟨h8,Y,p',rfl,h9⟩
    .exact .inl ⟨h8,by split<;>simp[h9,Sy.raw]⟩
    .exact Ah
   .intro tr2 hget2;have ec:∀b:Bool,(⟨(if j ∈ js.take i then y else y.raw).code,(if j ∈ js.take i then y else y.raw).k,y.th,y.el⟩:Sy)=y:=λ_=>by split<;>rfl
    rw[ec true,qsn h1]at hget2;refine Sa hw1 ?_;refine ih (i+1) _ _ Ac ?_ ⟨Ac,tr2,rfl,λb=>?_⟩
    .exact Ak
    .rw[hget2,hget];have:js.take (i+1)=js.take i++[j]:=by rw[zz2,hj];rfl
     rw[this];split<;>rfl
  .obtain rfl:i=cs.length:=Ac
   have hlt':¬((cs.length:Int)<cs.length):=Ac
   refine Sa (zzA hlt' g4) ?_;rw[show js.take cs.length=js from by rw[<- hjl,zz0]]at g5
   rw[qvI Ah]at g5;exact by grind[WI.dom]
 .exact Ak
 grind[qvJ]
theorem Stp.kd{L L':List Nat}{U U1:Nat->Kd}{s s1:Nat}{tr t1 t2:Tr Blk}(a:Stp L U s tr U1 s1 t1)(hd:∀b,U b≠.no->b<s){b F':Nat}(hb:s<=b)(hf:∀c,U1 c = .fr->t2.get c=t1.get c)(hx:∀c,U1 c = .box->t2.get c=t1.get c)(hL:∀c ∈ L,c=b\/c ∈ L'):Stp L' U s tr (kdS U1 b (.lab F' true)) s1 t2:=by
 have ne:∀{c},U c≠.no->c≠b:=Ah
 refine⟨a.le,λc hc=>?_,λc hc=>?_,λc F p hc=>?_,λc F hc=>?_⟩
 .rw[qi Ad];exact by grind[Stp.fr]
 .rw[qi Ad];exact by grind[Stp.box]
 .rw[qi Ad];exact a.lab c F p hc
 grind[qH,qi,Stp.nw]
def qdU(a mask v:Int)(p F:Nat):List Sy :=
 if mask=0 then []else if mask=4294967295 then [⟨32,a,0,0⟩,⟨21,v,p+2,F⟩]else [⟨32,a,0,0⟩,⟨84,mask,0,0⟩,⟨21,v,p+3,F⟩]
def qb9(mask:Int):Nat:=if mask=0 then 0 else if mask=4294967295 then 2 else 3
theorem qci{a m v:Int}{p F:Nat}:(qdU a m v p F).length=qb9 m:=by
 unfold qdU qb9;exact Ah
section
variable {g w s gl gp gj gh:Nat}{U:Nat->Kd}{tr:Tr Blk}{RV:List Sy}{N:List Nat}{k:AV->Hp->Prop}
def xS(a b c d:Nat):IFn:=irJ 313 [166,a,228,b,167,c,168,d]
def qx2(hc:Ck P f (xS gl gp gj gh))(h1:Ck P gl (jJ gp))(h2:Ck P gp zi)(h3:Ck P gj (xU gp g))(h4:Ck P gh xT)
  (h:WI g w U s tr RV N) (a m v:Int) {X F:Nat}{p:Bool}(hX:U X = .lab F p) (hm:RV.length+3<=1000000)
  (hk:∀U' s' tr',Stp [] U s tr U' s' tr'->WI g w U' s' tr' (RV++qdU a m v RV.length F) N->k (.tup []) ⟨s',0,tr'⟩):SC P f [.ptr w 0,.w a,.w m,.w v,.ptr X 0] ⟨s,0,tr⟩ k:=by
 refine Bb ?_;simp only[xS,vI,simprocAttr];unfold qdU at hk
 by_cases m0:m=0
 .rw[if_pos m0]at hk;refine Sa m0 ?_
  grind[Stp.refl]
 rw[if_neg m0]at hk;refine Sa m0 ?_;refine qm2 h1 h2 h a Ac λU1 s1 t1 st1 w1=>?_
 by_cases m1:m=4294967295
 .rw[if_pos m1]at hk;refine Sa m1 ?_;have w2:=w1.new (.lab (RV.length+2) false) _ (.inr (.inr (.inr ⟨_,rfl,rfl⟩)));have st2:=st1.trans (w1.stpLab (.lab (RV.length+2) false) (.v [.j 0]));refine qe1 h3 h2 w2 ⟨21,v,RV.length+2,F⟩ qH (.inr ⟨(Af:(21:Int)≠5),X,p,rfl,st2.lab X F p hX⟩) Ah λU3 s3 t3 st3 w3=>?_
  refine Ab ?_
  have hb:U3 s1 = .lab (RV++[(⟨32,a,0,0⟩:Sy)]++[(⟨21,v,RV.length+2,F⟩:Sy)]).length false:=by
   rw[st3.lab s1 _ _ qH];simp
  refine qaP h4 w3 hb λt4 q1 q2 w4=>?_
  refine Ab ?_;rw[zzi]at w4;exact hk _ _ _ (((st2.trans st3)).kd h.dom st1.le q1 q2 (by simp)) w4
 .rw[if_neg m1]at hk;refine Sa m1 ?_;refine qzl h2 (w1.new .no _ (.inl rfl)) ⟨84,m,0,0⟩ Ea Ah λU2 s2 t2 st2 w2=>?_
  have w2:=w2.dropS rfl;have st2:=st1.trans ((w1.stpNew _ _ (by simp)).trans st2);refine Ab ?_;have w3:=w2.new (.lab (RV.length+3) false) _ (.inr (.inr (.inr ⟨_,rfl,rfl⟩)));have st3:=st2.trans (w2.stpLab (.lab (RV.length+3) false) (.v [.j 0]));refine qe1 h3 h2 w3 ⟨21,v,RV.length+3,F⟩ qH (.inr ⟨(Af:(21:Int)≠5),X,p,rfl,st3.lab X F p hX⟩) Ah λU4 s4 t4 st4 w4=>?_
  refine Ab ?_
  have hb:U4 s2 = .lab (RV++[(⟨32,a,0,0⟩:Sy)]++[(⟨84,m,0,0⟩:Sy)]++[(⟨21,v,RV.length+3,F⟩:Sy)]).length false:=by
   rw[st4.lab s2 _ _ qH];simp
  refine qaP h4 w4 hb λt5 q1 q2 w5=>?_
  refine Ab ?_;rw[zzi,zzi]at w5;exact hk _ _ _ ((st3.trans st4).kd h.dom st2.le q1 q2 (by simp)) w5
end
def qiB:IFn:=irJ 350 []
def qHo(hc:Ck P f qiB)(a b:Int)(h0:0<=a)(h6:a<6)(hb0:0<=b)(hb:b<=4):qa P f [.j a,.j b] (.tup [.w (16+8*a+b),.b true]):=by
 refine Al ?_;have n1:¬a<0:=Ac
 have n2:¬5<a:=Ac
 have e1:IntKind.wrap .i64 (8*a)=8*a:=Dm
 have e2:IntKind.wrap .i64 (16+8*a)=16+8*a:=Dm
 have e3:IntKind.wrap .i64 (16+8*a+b)=16+8*a+b:=Dm
 have e4:IntKind.wrap .u32 (16+8*a+b)=16+8*a+b:=Fv
 simp only[qiB,vI,simprocAttr];simp +decide only[↓vS,vT,simprocAttr,n1,n2,e1,e2,e3,e4];simp[vZ]
def qlp(a:Nat):IFn:=irJ 310 [350,a]
def qIG{g:Nat}(hc:Ck P f (qlp g))(hg:∀a b:Int,0<=a->a<6->0<=b->b<=4->qa P g [.j a,.j b] (.tup [.w (16+8*a+b),.b true]))(a:Int)(h0:0<=a)(h6:a<6):qa P f [.j a] (.tup [.w (16+8*a),.b true]):=by
 refine Al ?_;simp only[qlp,vI,simprocAttr];refine Ab ?_;refine(hg a 0 h0 h6 Ac Ac).sc ?_;refine Ab ?_;simp[vZ]
def qj3(a:Nat):IFn:=irJ 311 [350,a]
def qFY{g:Nat}(hc:Ck P f (qj3 g))(hg:∀a b:Int,0<=a->a<6->0<=b->b<=4->qa P g [.j a,.j b] (.tup [.w (16+8*a+b),.b true]))(a:Int)(h0:0<=a)(h6:a<6):qa P f [.j a] (.tup [.w (16+8*a+4),.b true]):=by
 refine Al ?_;simp only[qj3,vI,simprocAttr];refine Ab ?_;refine(hg a 4 h0 h6 Ac Ac).sc ?_;refine Ab ?_;simp[vZ]
def qb0(t:GTest):Nat:=qb9 (loW t.mask)+qb9 (hiW t.mask)+1
def qiX(t:GTest)(p:Nat):List Sy :=
 qdU (16+8*t.arg) (loW t.mask) (loW t.val) p (p+qb0 t)++qdU (16+8*t.arg+4) (hiW t.mask) (hiW t.val) (p+qb9 (loW t.mask)) (p+qb0 t)++[⟨6,t.act,0,0⟩]
theorem qfN{t:GTest}{p:Nat}:(qiX t p).length=qb0 t:=by simp[qiX,qb0,qci];exact Ac
def qjY{m:Int}:qb9 m<=3:=by unfold qb9;exact Ah
theorem qrM{t:GTest}:qb0 t<=7:=by have:=qjY (m:=loW t.mask);have:=qjY (m:=hiW t.mask);unfold qb0;exact Ac
structure TstOk (t:GTest):Prop where
 a0:0<=t.arg
 a1:t.arg<6
 m0:0<=t.mask
 m1:t.mask<18446744073709551616
 v0:0<=t.val
 v1:t.val<18446744073709551616
def quC(P:Program)(f:Nat)(b:Int):Prop:=∀a:Int,0<=a->a<6->qa P f [.j a] (.tup [.w (16+8*a+b),.b true])
structure WFn (P:Program) (g gl gp gj gh gr:Nat):Prop where
 ld:Ck P gl (jJ gp)
 put:Ck P gp zi
 jmp:Ck P gj (xU gp g)
 here:Ck P gh xT
 ret:Ck P gr (qa5 gp)
section
variable {g w s gl gp gj gh gr g1 g2 g3 g4 g5:Nat}{U:Nat->Kd}{tr:Tr Blk}{RV:List Sy}{N:List Nat}{k:AV->Hp->Prop}
def jK(a b c d e g:Nat):IFn:=irJ 242 [310,a,311,b,312,c,313,d,169,e,168,g]
def qH3(hc:Ck P f (jK g1 g2 g3 g4 gr gh))(W:WFn P g gl gp gj gh gr)(c1:quC P g1 0)(c2:quC P g2 4)(c3:qA4 P g3)(c4:Ck P g4 (xS gl gp gj gh))
  (h:WI g w U s tr RV N) (t:GTest) (ht:TstOk t) (hm:RV.length+7<=1000000)
  (hk:∀U' s' tr',Stp [] U s tr U' s' tr'->WI g w U' s' tr' (RV++qiX t RV.length) N->k (.tup []) ⟨s',0,tr'⟩):SC P f [.ptr w 0,.agg (jM t)] ⟨s,0,tr⟩ k:=by
 refine Bb ?_;simp only[jK,jM,vI,simprocAttr];refine Ab ?_;have s1:¬s=s+1:=Ac
 have w1:=h.new .fr (.v [.j t.arg,.x t.mask,.x t.val,.w t.act]) (.inr (.inl rfl));have w2:=w1.new (.lab (RV.length+qb0 t) false) _ (.inr (.inr (.inr ⟨_,rfl,rfl⟩)));have st2:=(h.stpNew .fr (.v [.j t.arg,.x t.mask,.x t.val,.w t.act]) (by simp)).trans (w1.stpLab (.lab (RV.length+qb0 t) false) (.v [.j 0]));have hX:=qH (U:=kdS U s .fr) (b:=s+1) (x:=.lab (RV.length+qb0 t) false);have hf:kdS (kdS U s .fr) (s+1) (.lab (RV.length+qb0 t) false) s = .fr:=by rw[qi Ac,qH]
 simp only[s1,↓vS,vT,simprocAttr];refine(c1 t.arg ht.a0 ht.a1).sc ?_;refine Sb s1 ?_;refine(c2 t.arg ht.a0 ht.a1).sc ?_;refine Sb s1 ?_;refine(c3 t.mask ht.m0 ht.m1).sc ?_;refine Sb s1 ?_;refine(c3 t.val ht.v0 ht.v1).sc ?_;refine Sb s1 ?_;refine qx2 c4 W.ld W.put W.jmp W.here w2 _ _ _ hX Ac λU3 s3 t3 st3 w3=>?_
 refine Ae ?_;have l3:(RV++qdU (16+8*t.arg+0) (loW t.mask) (loW t.val) RV.length (RV.length+qb0 t)).length=RV.length+qb9 (loW t.mask):=by rw[zzP,qci]
 have n1:=qjY (m:=loW t.mask);have n2:=qjY (m:=hiW t.mask);refine qx2 c4 W.ld W.put W.jmp W.here w3 _ _ _ (st3.lab _ _ _ hX) (by rw[l3];exact Ac) λU4 s4 t4 st4 w4=>?_
 rw[l3]at w4
 have g4:t4.get s=some (.v [.j t.arg,.x t.mask,.x t.val,.w t.act]):=by
  rw[((st3.trans st4).fr s hf).2,zz4,if_neg Ac,zz4,if_pos rfl]
 refine Sb g4 ?_;refine qoI W.ret W.put w4 t.act (by grind[qci]) λU5 s5 t5 st5 w5=>?_
 refine Ae ?_
 have e5:RV++qdU (16+8*t.arg+0) (loW t.mask) (loW t.val) RV.length (RV.length+qb0 t)++qdU (16+8*t.arg+4) (hiW t.mask) (hiW t.val) (RV.length+qb9 (loW t.mask)) (RV.length+qb0 t)++[⟨6,t.act,0,0⟩]=RV++qiX t RV.length:=by
  simp[qiX]
 rw[e5]at w5;refine qaP W.here w5 (p:=false) (by rw[zzP,qfN];exact((st3.trans st4).trans st5).lab _ _ _ hX) λt6 q1 q2 w6=>?_
 refine Ae ?_;exact hk _ _ _ ((((st2.trans st3).trans st4).trans st5).kd h.dom Ac q1 q2 (by simp)) w6
end
def qcy:List GTest->Int->Nat->List Sy
 | [],a,_=>[⟨6,a,0,0⟩]
 | t::ts,a,p=>qiX t p++if t.mask=0 then []else qcy ts a (p+qb0 t)
def qvR(r:GRule)(p:Nat):List Sy:=qcy r.tests r.act p
section
variable {g w s gl gp gj gh gr g1 g2 g3 g4 g5:Nat}{U:Nat->Kd}{tr:Tr Blk}{RV:List Sy}{N:List Nat}{k:AV->Hp->Prop}
def qaQ(a b:Nat):IFn:=irJ 180 [242,a,169,b]
def qHG(hc:Ck P f (qaQ g5 gr))(W:WFn P g gl gp gj gh gr)(h5:Ck P g5 (jK g1 g2 g3 g4 gr gh))(c1:quC P g1 0)(c2:quC P g2 4)(c3:qA4 P g3)(c4:Ck P g4 (xS gl gp gj gh))
  (h:WI g w U s tr RV N) (r:GRule) (ht:∀t ∈ r.tests,TstOk t) (hm:RV.length+r.tests.length*7+1<=1000000)
  (hk:∀U' s' tr',Stp [] U s tr U' s' tr'->WI g w U' s' tr' (RV++qvR r RV.length) N->k (.tup []) ⟨s',0,tr'⟩):SC P f [.ptr w 0,.agg (zx r)] ⟨s,0,tr⟩ k:=by
 refine Bb ?_;simp only[qaQ,zx,vI,simprocAttr];refine Ab ?_;have w1:=h.new .fr (.v [.w r.nr,.fz r.tests.length (rT r.tests),.w r.act]) (.inr (.inl rfl));have st1:=h.stpNew .fr (.v [.w r.nr,.fz r.tests.length (rT r.tests),.w r.act]) (by simp)
 refine SL.loopP (α:=Nat) (λi=>[(0,.ptr w 0),(3,.ptr s 0),(7,.fz r.tests.length (rT r.tests)),(8,.j (r.tests.length:Int)),(9,.j (i:Int))])
  (λi h=>i<=r.tests.length/\∃U' s' tr' RV',h=⟨s',0,tr'⟩/\Stp [] (kdS U s .fr) (s+1) (tr.set s (.v [.w r.nr,.fz r.tests.length (rT r.tests),.w r.act])) U' s' tr'/\WI g w U' s' tr' RV' N /\
   RV'++qcy (r.tests.drop i) r.act RV'.length=RV++qvR r RV.length/\RV'.length<=RV.length+i*7) (λi=>r.tests.length-i) ?_ 0 ?_ ?_
 .rintro i h1 ⟨hi,U',s',tr',RV',rfl,st,w',he,hl⟩ G ih;refine Am ?_
  have gs:tr'.get s=some (.v [.w r.nr,.fz r.tests.length (rT r.tests),.w r.act]):=by
   rw[(st.fr s qH).2,zz4,if_pos rfl]
  by_cases hlt:i<r.tests.length
  .have hlt':(i:Int)<r.tests.length:=Ac
   obtain⟨t,hti⟩:∃t,r.tests[i]?=some t:=⟨_,zzE hlt⟩;have hel:=qt0 hti;have h4:i*4+4<=(rT r.tests).length:=by rw[qe8];exact Ac
   have hd:r.tests.drop i=t::r.tests.drop (i+1):=by rw[<- (zzS.1 hti).2,List.getElem_cons_drop]
   rw[hd]at he;have hw1:=wS i;simp +decide only[↓vS,vT,simprocAttr,hlt',hlt,h4,hel,jM];have wa:=w'.new .fr (.v [.j 0,.x 0,.x 0,.w 0]) (.inr (.inl rfl));have wb:=wa.chg (b:=s') .fr (.v (jM t)) (.inl qH) Ac (.inr (.inl rfl));refine qH3 h5 W c1 c2 c3 c4 wb t Ah Ac λU2 s2 t2 st2 w2=>?_
   have fb:=st2.fr s' qH
   have gb:t2.get s'=some (.v [.j t.arg,.x t.mask,.x t.val,.w t.act]):=by
    rw[fb.2,zz4,if_pos rfl];rfl
   have ss:s<s':=by have:=st.le;exact Ac
   have st3:Stp [] U' s' tr' U2 s2 t2:=by
    refine Stp.trans (L:=[]) ?_ st2;refine⟨Ac,λb hb=>?_,λb hb=>?_,λb F p hb=>?_,λb F hb=>.inl ?_⟩
    rotate_left 3
    .exact E0
    all_goals have hbs:b<s':=w'.dom b D1
    all_goals grind[qi,Tr.get_set]
   refine Sa gb ?_;unfold qcy at he
   by_cases hm0:t.mask=0
   .rw[if_pos hm0,List.append_nil]at he;refine Sa hm0 ?_;rw[he]at w2;exact hk _ _ _ (st1.trans (st.trans st3)) w2
   .rw[if_neg hm0]at he;refine Sa (zzA hm0 hw1) ?_;refine ih (i+1) _ _ Ac ?_ ⟨Ac,U2,s2,t2,_,rfl,st.trans st3,w2,?_,?_⟩
    .exact Ak
    all_goals grind[qfN,qrM]
  .obtain rfl:i=r.tests.length:=Ac
   have hlt':¬((r.tests.length:Int)<r.tests.length):=Ac
   rw[List.drop_length]at he;refine Sa (zzA hlt' gs) ?_;refine qoI W.ret W.put w' r.act Ac λU2 s2 t2 st2 w2=>?_
   refine Ab ?_;unfold qcy at he;rw[he]at w2;exact hk _ _ _ (st1.trans (st.trans st2)) w2
 .exact Ak
 .exact⟨zzu _,_,_,_,RV,rfl,.refl,w1,rfl,by simp⟩
end
def wm(a:Int):Nat:=if a=0 then 4 else if a=2 then 4 else 3
def qbc(a:Int)(p F:Nat):List Sy :=
 [⟨32,4,0,0⟩,⟨21,qb7 a,p+2,F⟩,⟨32,0,0,0⟩]++if a=0 then [⟨69,1073741824,F,p+4⟩]else if a=2 then [⟨69,1073741824,p+4,F⟩]else []
theorem qay{a:Int}{p F:Nat}:(qbc a p F).length=wm a:=by unfold qbc wm;exact Ah
def qtI{a:Int}:wm a<=4:=by unfold wm;exact Ah
def qqo(P:Program)(f:Nat):Prop:=∀a:Int,0<=a->a<6->qa P f [.j a] (.tup [.w (qb7 a),.j 0])
section
variable {g w s gl gp gj gh gr g1 g2 g3 g4 g5:Nat}{U:Nat->Kd}{tr:Tr Blk}{RV:List Sy}{N:List Nat}{k:AV->Hp->Prop}
def qa4(a b c d:Nat):IFn:=irJ 176 [41,a,166,b,167,c,168,d]
def qKA(hc:Ck P f (qa4 g1 gl gj gh))(W:WFn P g gl gp gj gh gr)(c1:qqo P g1)
  (h:WI g w U s tr RV N) (a:Int) (h0:0<=a) (h6:a<6) {X F:Nat}{p:Bool}(hX:U X = .lab F p) (hm:RV.length+4<=1000000)
  (hk:∀U' s' tr',Stp [] U s tr U' s' tr'->WI g w U' s' tr' (RV++qbc a RV.length F) N->k (.tup []) ⟨s',0,tr'⟩):SC P f [.ptr w 0,.j a,.ptr X 0] ⟨s,0,tr⟩ k:=by
 refine Bb ?_;simp only[qa4,vI,simprocAttr];refine Ab ?_;have w1:=h.new (.lab (RV.length+2) false) _ (.inr (.inr (.inr ⟨_,rfl,rfl⟩)));have w2:=w1.new (.lab (RV.length+wm a) false) _ (.inr (.inr (.inr ⟨_,rfl,rfl⟩)));have st2:=(h.stpLab (.lab (RV.length+2) false) (.v [.j 0])).trans (w1.stpLab (.lab (RV.length+wm a) false) (.v [.j 0]));have hon:kdS (kdS U s (.lab (RV.length+2) false)) (s+1) (.lab (RV.length+wm a) false) s = .lab (RV.length+2) false:=by rw[qi Ac,qH]
 have hbit:=qH (U:=kdS U s (.lab (RV.length+2) false)) (b:=s+1) (x:=.lab (RV.length+wm a) false);have hX2:=st2.lab X F p hX;have hXs:X<s:=h.dom X (by rw[hX];simp);refine(c1 a h0 h6).sc ?_;refine Ae ?_;refine qm2 W.ld W.put w2 4 Ac λU3 s3 t3 st3 w3=>?_
 refine Ae ?_;refine qe1 W.jmp W.put w3 ⟨21,qb7 a,RV.length+2,F⟩ (st3.lab _ _ _ hon) (.inr ⟨(Af:(21:Int)≠5),X,p,rfl,st3.lab _ _ _ hX2⟩) Ah λU4 s4 t4 st4 w4=>?_
 refine Ae ?_;have st34:=st3.trans st4;refine qaP W.here w4 (p:=false) (b:=s) (by rw[st34.lab _ _ _ hon];simp) λt5 q1 q2 w5=>?_
 refine Ae ?_;have st5:=(st2.trans st34).kd h.dom (zzL s) (F':=(RV++[(⟨32,4,0,0⟩:Sy)]++[(⟨21,qb7 a,RV.length+2,F⟩:Sy)]).length) (L':=[s+1]) q1 q2 (by simp);refine qm2 W.ld W.put w5 0 Ah λU6 s6 t6 st6 w6=>?_
 refine Ae ?_;have hX6:U6 X = .lab F p:=(st5.trans st6).lab _ _ _ hX;have hb6:U6 (s+1) = .lab (RV.length+wm a) false:=st6.lab _ _ _ (by rw[qi Ac];exact st34.lab _ _ _ hbit)
 have st56:=st5.trans st6
 by_cases a0:a=0
 .subst a0;refine Ab ?_;refine qe1 W.jmp W.put w6 ⟨69,1073741824,F,RV.length+4⟩ hX6 (.inr ⟨(Af:(69:Int)≠5),s+1,false,rfl,hb6⟩) Ah λU7 s7 t7 st7 w7=>?_
  refine Ae ?_;refine qaP W.here w7 (p:=false) (by rw[st7.lab _ _ _ hb6];simp[wm]) λt8 q1 q2 w8=>?_
  refine Ae ?_;have e:RV++[⟨32,4,0,0⟩]++[⟨21,qb7 0,RV.length+2,F⟩]++[⟨32,0,0,0⟩]++[⟨69,1073741824,F,RV.length+4⟩]=RV++qbc 0 RV.length F:=by simp[qbc]
  rw[e]at w8;exact hk _ _ _ ((st56.trans st7).kd h.dom Ac q1 q2 (by simp)) w8
 .by_cases a2:a=2
  .subst a2;refine Ab ?_;refine qe1 W.jmp W.put w6 ⟨69,1073741824,RV.length+4,F⟩ hb6 Ad Ah λU7 s7 t7 st7 w7=>?_
   refine Ae ?_;refine qaP W.here w7 (p:=false) (by rw[st7.lab _ _ _ hb6];simp[wm]) λt8 q1 q2 w8=>?_
   refine Ae ?_;have e:RV++[⟨32,4,0,0⟩]++[⟨21,qb7 2,RV.length+2,F⟩]++[⟨32,0,0,0⟩]++[⟨69,1073741824,RV.length+4,F⟩]=RV++qbc 2 RV.length F:=by simp[qbc]
   rw[e]at w8;exact hk _ _ _ ((st56.trans st7).kd h.dom Ac q1 q2 (by simp)) w8
  .refine Sa (zzA a0 a2) ?_;refine qaP W.here w6 (p:=false) (by rw[hb6];simp[wm,a0,a2]) λt8 q1 q2 w8=>?_
   refine Ae ?_;have e:RV++[⟨32,4,0,0⟩]++[⟨21,qb7 a,RV.length+2,F⟩]++[⟨32,0,0,0⟩]=RV++qbc a RV.length F:=by simp[qbc,a0,a2]
   rw[e]at w8
   grind[Stp.kd,WI.dom]
end
structure Nd where
 leaf:Bool
 way:Nat
 at':Int
 less:Nat
 more:Nat
def cNd(n:Nd):List AV:=[.b n.leaf,.j (n.way:Int),.w n.at',.j (n.less:Int),.j (n.more:Int)]
def qlT(n:Nd):(cNd n).length=5:=rfl
def rNd(l:List Nd):List AV:=l.flatMap cNd
def ql9{l:List Nd}:(rNd l).length=l.length*5:=zb qlT l
def xC(T:List Nd):Nat:=T.countP λn=>!n.leaf
def plc(FW:Nat->Nat)(T:List Nd)(b i:Nat):Nat:=match T[i]? with|some n=>if n.leaf=true then FW n.way else b+xC (T.take i)|none=>0
def qk2(FW:Nat->Nat)(T:List Nd)(b:Nat)(n:Nd):List Sy:=if n.leaf=true then []else [⟨53,n.at',plc FW T b n.more,plc FW T b n.less⟩]
def brE(FW:Nat->Nat)(T:List Nd)(b:Nat)(l:List Nd):List Sy:=l.flatMap (qk2 FW T b)
def qsS{FW:Nat->Nat}{T:List Nd}{b:Nat}{l:List Nd}:(brE FW T b l).length=xC l:=by
 induction l with
 | nil=>rfl
 | cons n l ih =>
  simp only[brE,zzv,zzP,xC,List.countP_cons]at ih ⊢;rw[ih];unfold qk2;cases n.leaf<;>simp;exact Ac
def jaE(FW:Nat->Nat):List Nd->List Sy
 | n::_=>if n.leaf=true then [⟨5,0,FW n.way,0⟩]else []
 | []=>[]
def xL(FW:Nat->Nat)(T:List Nd)(p:Nat):List Sy:=jaE FW T++brE FW T (p+(jaE FW T).length) T
structure NdOk (m n:Nat) (x:Nd):Prop where
 way:x.leaf=true->x.way<m
 less:x.less<n
 more:x.more<n
def rPt(l:List Nat):List AV:=l.map λb=>.ptr b 0
def qge{l:List Nat}{j:Nat}:(rPt l)[j]?=(l[j]?).map λb=>.ptr b 0:=by simp[rPt]
theorem qig{l:List Nat}:(rPt l).length=l.length:=by simp[rPt]
section
variable {g w s gl gp gj gh gr g1 g2 g3 g4 g5:Nat}{U:Nat->Kd}{tr:Tr Blk}{RV:List Sy}{N:List Nat}{k:AV->Hp->Prop}
def WI.congr{t2:Tr Blk}(h:WI g w U s tr RV N)(e:∀b,t2.get b=tr.get b):WI g w U s t2 RV N:=by
 obtain⟨bl,bt,cs,js,r1,r2,r3,r4,r5,r6,r7,r8,r9⟩:=h.rows;exact⟨h.dom,⟨bl,bt,cs,js,r1,r2,r3,(e w).trans r4,(e bl).trans r5,(e bt).trans r6,r7.mono Ad Ad (λ_ _ q=>q),r8,r9⟩,λb F p hb=>by rw[e b];exact h.lab b F p hb⟩
def Stp.congr{L:List Nat}{U1:Nat->Kd}{s1:Nat}{t1 t2:Tr Blk}(h:Stp L U s tr U1 s1 t1)(e:∀b,t2.get b=t1.get b):Stp L U s tr U1 s1 t2 :=
 ⟨h.le,by grind[Stp.fr],by grind[Stp.box],h.lab,h.nw⟩
def qqS{t:Tr Blk}{b:Nat}{x y:Blk}(c:Nat):((t.set b x).set b y).get c=(t.set b y).get c:=Fw
def WI.var(h:WI g w U s tr RV N)(x y:Blk):WI g w (kdS U s .fr) (s+1) ((tr.set s x).set s y) RV N/\Stp [] U s tr (kdS U s .fr) (s+1) ((tr.set s x).set s y) :=
 ⟨(h.new .fr y (.inr (.inl rfl))).congr qqS,(h.stpNew .fr y (by simp)).congr qqS⟩
theorem Stp.nil{L:List Nat}{U1:Nat->Kd}{s1:Nat}{t1:Tr Blk}(h:Stp L U s tr U1 s1 t1)(hL:∀c,c ∉ L):Stp [] U s tr U1 s1 t1 :=
 { h with nw:=λb F hb=>(h.nw b F hb).imp id Ad }
def qbv{α:Type}{l:List α}{j:Nat}{x:α}(h:l[j]?=some x):l.take (j+1)=l.take j++[x]:=by rw[zz2,h];rfl
def qrw{T:List Nd}{j:Nat}{x:Nd}(h:T[j]?=some x):((rNd T).drop (j*5)).take 5=cNd x:=qI qlT h
def qCX{T:List Nd}{j:Nat}{x:Nd}(h:T[j]?=some x){i:Nat}(hi:i<5):(rNd T)[j*5+i]?=(cNd x)[i]?:=qcP qlT h hi
def jE(a b:Nat):ICode:=icJ 179 [167,a,168,b] 15 [] [] ⟨[167],false,[]⟩
def jD(a b:Nat):ICode:=icJ 179 [167,a,168,b] 7 [3] [jE a b] ⟨[167],false,[]⟩
def qab(a b:Nat):IFn:=irJ 179 [167,a,168,b] [7] [jD a b] ⟨[167],false,[]⟩
def qn0{n0 m s1 bp:Nat}{t1:Tr Blk}{U1:Nat->Kd}{L:List Nat}(W:WFn P g gl gp gj gh gr)(T:List Nd)(hok:∀x ∈ T,NdOk m T.length x)(FW:Nat->Nat)(pl:List Nat)(hpl:pl.length=T.length)
  (h:WI g w U1 s1 t1 RV N) (st:Stp L U s tr U1 s1 t1) (hd:∀b,U b≠.no->b<s) (hkl:∀(j:Nat) c,pl[j]?=some c->∃p,U1 c = .lab (plc FW T RV.length j) p)
  (hL:∀c ∈ L,∃(j:Nat) (nd:Nd),T[j]?=some nd/\nd.leaf=false/\pl[j]?=some c) (hnew:∀(j:Nat) c nd,T[j]?=some nd->nd.leaf=false->pl[j]?=some c->s<=c) (hbp:U1 bp = .fr) (gbp:t1.get bp=some (.v (rPt pl)))
  (hm:RV.length+T.length<=1000000) {t:Tr AV}(ht:Has t [(0,.ptr w 0),(1,.fz T.length (rNd T)),(6,.sl bp 0 T.length T.length false)])
  (hk:∀U' s' tr',Stp [] U s tr U' s' tr'->WI g w U' s' tr' (RV++brE FW T RV.length T) N->k (.tup []) ⟨s',0,tr'⟩):S P n0 (jE gj gh) (xG [] k) t ⟨s1,0,t1⟩:=by
 refine Ew ?_;simp only[jE,vI,simprocAttr];refine Ab ?_
 refine SL.loopP (α:=Nat) (λi=>[(0,.ptr w 0),(6,.sl bp 0 T.length T.length false),(46,.fz T.length (rNd T)),(47,.j (T.length:Int)),(48,.j (i:Int))])
  (λi h=>i<=T.length/\∃L' U' s' tr',h=⟨s',0,tr'⟩/\Stp L' U s tr U' s' tr'/\WI g w U' s' tr' (RV++brE FW T RV.length (T.take i)) N/\(∀(j:Nat) c,pl[j]?=some c->∃p,U' c = .lab (plc FW T RV.length j) p) /\
   (∀c ∈ L',∃(j:Nat) (nd:Nd),i<=j/\T[j]?=some nd/\nd.leaf=false/\pl[j]?=some c)/\U' bp = .fr/\tr'.get bp=some (.v (rPt pl))) (λi=>T.length-i) ?_ 0 ?_ ?_
 .rintro i h1 ⟨hi,L',U',s',tr',rfl,st',w',hkl',hL',hbp',gbp'⟩ G ih;refine Am ?_
  by_cases hlt:i<T.length
  .have hlt':(i:Int)<T.length:=Ac
   obtain⟨nd,hnd⟩:∃t,T[i]?=some t:=⟨_,zzE hlt⟩;obtain⟨c,hc⟩:∃t,pl[i]?=some t:=⟨_,zzE Ac⟩;have hel:=qrw hnd;have h5:i*5+5<=(rNd T).length:=by rw[ql9];exact Ac
   have hw1:=wS i;have hbs:bp<s':=w'.dom bp (by rw[hbp'];simp);have hbs':¬bp=s':=Ac
   obtain⟨wv,sv⟩:=w'.var (.v [.b false,.j 0,.w 0,.j 0,.j 0]) (.v (cNd nd));have hbpv:=sv.fr bp hbp';have hklv:∀(j:Nat) c,pl[j]?=some c->∃p,kdS U' s' .fr c = .lab (plc FW T RV.length j) p:=λj c hj=>let ⟨p,q⟩:=hkl' j c hj;⟨p,sv.lab c _ p q⟩
   have hok':=hok nd Ah;have hge:(rPt pl)[i]?=some (.ptr c 0):=by rw[qge,hc];rfl
   have hts:=qbv hnd;cases hl:nd.leaf with
   | true =>
    simp +decide only[↓vS,vT,simprocAttr,hlt',hlt,h5,hel,cNd,hl,hw1];refine ih (i+1) _ _ Ac ?_ ⟨Ac,L',kdS U' s' .fr,s'+1,_,rfl,?_,?_,hklv,?_,hbpv.1,?_⟩
    .exact Ak
    .have:=st'.trans sv;simp only[cNd,hl,List.append_nil]at this;exact Ac
    .rw[hts];have:brE FW T RV.length (T.take i++[nd])=brE FW T RV.length (T.take i):=by simp[brE,qk2,hl]
     rw[this];simp only[cNd,hl]at wv;exact wv
    .exact Ah
    .have:=hbpv.2.trans gbp';simp only[cNd,hl]at this;exact Ac
   | false =>
    simp only[cNd,hl]at wv sv
    have hpi:plc FW T RV.length i=(RV++brE FW T RV.length (T.take i)).length:=by
     rw[zzP,qsS];simp[plc,hnd,hl]
    obtain⟨pc,hpc⟩:=hklv i c hc;rw[hpi]at hpc;simp +decide only[↓vS,vT,simprocAttr,hlt',hlt,h5,hel,cNd,hl,hw1,hbs',gbp',hge,zzU];refine qaP W.here wv hpc λt4 q1 q2 w4=>?_
    have hsv:kdS U' s' .fr s' = .fr:=qH;have g4:=q1 s' hsv;rw[zz4,if_pos rfl]at g4;have g5:=(q1 bp hbpv.1).trans (sv.fr bp hbp').2;rw[gbp']at g5;obtain⟨cm,hcm⟩:∃t,pl[nd.more]?=some t:=⟨_,zzE (by rw[hpl];exact hok'.more)⟩;obtain⟨cl,hcl⟩:∃t,pl[nd.less]?=some t:=⟨_,zzE (by rw[hpl];exact hok'.less)⟩;have gm:(rPt pl)[nd.more]?=some (.ptr cm 0):=by rw[qge,hcm];rfl
    have gl':(rPt pl)[nd.less]?=some (.ptr cl 0):=by rw[qge,hcl];rfl
    have hcs:s<=c:=Ah
    -- the labels are zy before,but this one has its place
    have hkl4:∀(j:Nat) c',pl[j]?=some c'->∃p,kdS (kdS U' s' .fr) c (.lab (RV++brE FW T RV.length (T.take i)).length true) c' = .lab (plc FW T RV.length j) p:=λj c' hj=>by
     obtain⟨p,hp⟩:=hklv j c' hj
     by_cases e:c'=c
     .exact Fc
     grind[qi]
    have hbpc:bp≠c:=λe=>by rw[<- e,hbpv.1]at hpc;exact Ah
    have st4:Stp (L'.filter λx=>decide (x≠c)) U s tr (kdS (kdS U' s' .fr) c (.lab (RV++brE FW T RV.length (T.take i)).length true)) (s'+1) t4 :=
     (st'.trans sv).kd hd hcs q1 q2 λx hx=>Ah
    obtain⟨pm,hpm⟩:=hkl4 _ _ hcm;obtain⟨pq,hpq⟩:=hkl4 _ _ hcl
    obtain⟨U5,s5,t5,st5,w5,hj5⟩:=qyi W.jmp W.put w4 ⟨53,nd.at',plc FW T RV.length nd.more,plc FW T RV.length nd.less⟩ hpm (.inr ⟨(Af:(53:Int)≠5),cl,pq,rfl,hpq⟩) (by
     rw[<- hpi];have:xC (T.take i)<=T.length:=zzg List.countP_le_length (by rw[zzm];exact Ac);simp only[plc,hnd,hl];exact Ah)
    have hmT:nd.more<T.length:=hok'.more;have hlT:nd.less<T.length:=hok'.less;have hb4:=st5.fr bp (by rw[qi hbpc];exact Ah);simp +decide only[↓vS,vT,simprocAttr];refine zB ?_;simp +decide only[↓vS,vT,simprocAttr,g4,g5,gm,gl',hmT,hlT,zzU];refine⟨.tup [],_,hj5,?_⟩;simp +decide only[↓vS,vT,simprocAttr,hw1];refine ih (i+1) _ _ Ac ?_ ⟨Ac,_,U5,s5,t5,rfl,st4.trans st5,?_,λj c' hj=>?_,?_,hb4.1,hb4.2.trans g5⟩
    .simp[qh,qk,zz4]
    .rw[hts];have:brE FW T RV.length (T.take i++[nd])=brE FW T RV.length (T.take i)++[⟨53,nd.at',plc FW T RV.length nd.more,plc FW T RV.length nd.less⟩]:=by simp[brE,qk2,hl]
     rw[this,<- zzi];exact w5
    .obtain⟨p,hp⟩:=hkl4 j c' hj;exact⟨p,st5.lab _ _ _ hp⟩
    .intro c' hc';rw[List.append_nil,List.mem_filter,zzb]at hc';obtain⟨j,nd',q1,q2,q3,q4⟩:=hL' c' hc'.1
     grind
  .obtain rfl:i=T.length:=Ac
   have hlt':¬((T.length:Int)<T.length):=Ac
   simp +decide only[↓vS,vT,simprocAttr,hlt'];rw[zz0]at w'
   grind[Stp.nil]
 .simp[qh,qk,zz4]
 .refine⟨zzu _,L,U1,s1,t1,rfl,st,?_,hkl,λc hc=>?_,hbp,gbp⟩
  .simpa[brE]using h
  simp_all
def Stp.mod{L:List Nat}{U1:Nat->Kd}{s1:Nat}{t1:Tr Blk}(h:Stp L U s tr U1 s1 t1)(hd:∀b,U b≠.no->b<s){b:Nat}(hb:s<=b)(x:Blk):Stp L U s tr (kdS U1 b .fr) s1 (t1.set b x):=by
 have ne:∀{c},U c≠.no->c≠b:=Ah
 refine⟨h.le,λc hc=>?_,λc hc=>?_,λc F p hc=>?_,λc F hc=>?_⟩
 .exact Gl
 .exact Ge
 .rw[qi Ad];exact h.lab c F p hc
 grind[qH,qi,Stp.nw]
def quA{n0 m s1 bp:Nat}{t1:Tr Blk}{U1:Nat->Kd}{L:List Nat}(W:WFn P g gl gp gj gh gr)(T:List Nd)(hT:T≠[])(hok:∀x ∈ T,NdOk m T.length x)(FW:Nat->Nat)(pl:List Nat)(hpl:pl.length=T.length)
  (h:WI g w U1 s1 t1 RV N) (st:Stp L U s tr U1 s1 t1) (hd:∀b,U b≠.no->b<s) (hkl:∀(j:Nat) c,pl[j]?=some c->∃p,U1 c = .lab (plc FW T (RV.length+(jaE FW T).length) j) p)
  (hL:∀c ∈ L,∃(j:Nat) (nd:Nd),T[j]?=some nd/\nd.leaf=false/\pl[j]?=some c) (hnew:∀(j:Nat) c nd,T[j]?=some nd->nd.leaf=false->pl[j]?=some c->s<=c) (hbp:U1 bp = .fr) (gbp:t1.get bp=some (.v (rPt pl)))
  (hm:RV.length+T.length+1<=1000000) {t:Tr AV}(ht:Has t [(0,.ptr w 0),(1,.fz T.length (rNd T)),(6,.sl bp 0 T.length T.length false)])
  (hk:∀U' s' tr',Stp [] U s tr U' s' tr'->WI g w U' s' tr' (RV++xL FW T RV.length) N->k (.tup []) ⟨s',0,tr'⟩):S P n0 (jD gj gh) (xG [] k) t ⟨s1,0,t1⟩:=by
 refine Ew ?_;have hn0:0<T.length:=Ah
 obtain⟨x0,hx0⟩:∃x,T[0]?=some x:=⟨_,zzE hn0⟩;obtain⟨c0,hc0⟩:∃c,pl[0]?=some c:=⟨_,zzE Ac⟩
 have g0:(rNd T)[0]?=some (.b x0.leaf):=by
  have:=qCX hx0 (i:=0) Ac;rw[Nat.zero_mul]at this;exact this
 have ge0:(rPt pl)[0]?=some (.ptr c0 0):=by rw[qge,hc0];rfl
 have hja:jaE FW T=if x0.leaf=true then [⟨5,0,FW x0.way,0⟩]else []:=by
  cases T with
  | nil=>exact Ad
  | cons a l=>simp at hx0;subst hx0;rfl
 simp only[jD,vI,simprocAttr];refine Sa (zzA g0 hn0) ?_;cases hl0:x0.leaf with
 | true =>
  rw[hl0,if_pos rfl]at hja;refine Sa (zzA gbp (zzA ge0 (zzA hn0 hl0))) ?_;obtain⟨p,hp⟩:=hkl 0 c0 hc0;have hp':U1 c0 = .lab (FW x0.way) p:=by rw[hp];simp[plc,hx0,hl0]
  refine qe1 W.jmp W.put h ⟨5,0,FW x0.way,0⟩ hp' Ad Ac λU2 s2 t2 st2 w2=>?_
  refine Ab ?_;rw[<- hja]at w2;have hb2:=st2.fr bp hbp;refine qn0 W T hok FW pl hpl w2 (st.trans st2) hd (λj c hj=>?_) (by rw[List.append_nil];exact hL) hnew hb2.1 (hb2.2.trans gbp) (by rw[zzP,hja];exact Ah) ?_ λU' s' tr' q1 q2=>hk U' s' tr' q1 ?_
  .obtain⟨p,hp⟩:=hkl j c hj;rw[zzP];exact⟨p,st2.lab _ _ _ hp⟩
  .exact Ak
  .rw[zzP,zzi]at q2;exact q2
 | false =>
  rw[hl0,if_neg (by simp)]at hja;refine Sa (zzA gbp (zzA ge0 (zzA hn0 hl0))) ?_;rw[hja]at hkl;refine qn0 W T hok FW pl hpl h st hd hkl hL hnew hbp gbp Ac ?_ λU' s' tr' q1 q2=>hk U' s' tr' q1 ?_
  .exact Ak
  .unfold xL;rw[hja];exact q2
def qC1{pl:List Nat}{n c:Nat}(h:pl.length<n):(rPt pl++List.replicate (n-pl.length) AV.nilp).take pl.length ++ .ptr c 0::(rPt pl++List.replicate (n-pl.length) AV.nilp).drop (pl.length+1)=rPt (pl++[c])++List.replicate (n-(pl++[c]).length) AV.nilp:=by
 rw[List.take_left' qig,show pl.length+1=(rPt pl).length+1 by rw[qig],List.drop_length_add_append,List.drop_replicate]
 simp[rPt];exact Ac
def qzs{pl:List Nat}{n a c:Nat}:(rPt (pl++[a])++List.replicate (n-(pl++[a]).length) AV.nilp).take pl.length ++ .ptr c 0::(rPt (pl++[a])++List.replicate (n-(pl++[a]).length) AV.nilp).drop (pl.length+1)=rPt (pl++[c])++List.replicate (n-(pl++[c]).length) AV.nilp:=by
 have e:rPt (pl++[a])++List.replicate (n-(pl++[a]).length) AV.nilp=rPt pl++(.ptr a 0::List.replicate (n-(pl++[a]).length) AV.nilp):=by simp[rPt]
 rw[e,List.take_left' qig,show pl.length+1=(rPt pl).length+1 by rw[qig],List.drop_length_add_append]
 simp[rPt]
def qwK{e bw:Nat}{wf a:Bool}(hc:Ck P f (qab gj gh))(W:WFn P g gl gp gj gh gr)(T:List Nd)(hT:T≠[])(xs:List Nat)(hok:∀x ∈ T,NdOk xs.length T.length x)(FW:Nat->Nat)(V:AV)(hV:V = .sl bw 0 xs.length xs.length false\/V = .own bw xs.length)
  (h:WI g w U s tr RV N) (hbw:U bw = .fr) (gbw:tr.get bw=some (.cells e wf a (rPt xs))) (hx:∀(j:Nat) c,xs[j]?=some c->∃p,U c = .lab (FW j) p) (hm:RV.length+T.length+1<=1000000)
  (hk:∀U' s' tr',Stp [] U s tr U' s' tr'->WI g w U' s' tr' (RV++xL FW T RV.length) N->k (.tup []) ⟨s',0,tr'⟩):SC P f [.ptr w 0,.fz T.length (rNd T),V] ⟨s,0,tr⟩ k:=by
 refine Bb ?_;simp only[qab,vI,simprocAttr];have hr1:T.length<=qe:=by simp only[qe];exact Ac
 have hr2:8*T.length<=qe:=by simp only[qe];exact Ac
 refine Sa (zzA hr1 hr2) ?_
 refine SL.loopP (α:=Nat) (λi=>[(0,.ptr w 0),(1,.fz T.length (rNd T)),(2,V),(6,.sl s 0 T.length T.length false),(14,.fz T.length (rNd T)),(15,.j (T.length:Int)),(16,.j (i:Int))])
  (λi h=>i<=T.length/\∃pl L' U' s' tr',pl.length=i/\h=⟨s',0,tr'⟩/\Stp L' U s tr U' s' tr'/\WI g w U' s' tr' RV N/\s<s'/\(∀(j:Nat) c,pl[j]?=some c->∃p,U' c = .lab (plc FW T (RV.length+(jaE FW T).length) j) p) /\
   (∀c ∈ L',∃(j:Nat) (nd:Nd),T[j]?=some nd/\nd.leaf=false/\pl[j]?=some c)/\(∀(j:Nat) c nd,T[j]?=some nd->nd.leaf=false->pl[j]?=some c->s<=c)/\U' s = .fr/\tr'.get s=some (.v (rPt pl++List.replicate (T.length-pl.length) .nilp))) (λi=>T.length-i) ?_ 0 ?_ ?_
 .rintro i h1 ⟨hi,pl,L',U',s',tr',hpl,rfl,st',w',hss,hkl',hL',hnew',hbp',gbp'⟩ G ih;refine Am ?_
  by_cases hlt:i<T.length
  .have hlt':(i:Int)<T.length:=Ac
   obtain⟨nd,hnd⟩:∃t,T[i]?=some t:=⟨_,zzE hlt⟩;have hel:=qrw hnd;have h5:i*5+5<=(rNd T).length:=by rw[ql9];exact Ac
   have hw1:=wS i;have hok':=hok nd Ah;have n1:¬s=s':=Ac
   have n2:¬s=s'+1:=Ac
   have n3:¬s'=s'+1:=Ac
   have n4:¬s'=s:=Ac
   have n5:¬s'+1=s:=Ac
   have hll:i+1<=(rPt pl++List.replicate (T.length-pl.length) AV.nilp).length:=by grind[qig]
   have hp1:=qC1 (n:=T.length) (c:=s'+1) (pl:=pl) Ac;rw[hpl]at hp1 hll gbp';obtain⟨wv,sv⟩:=w'.var (.v [.b false,.j 0,.w 0,.j 0,.j 0]) (.v (cNd nd));cases hl:nd.leaf with
   | false =>
    simp only[cNd,hl]at wv sv;simp +decide only[↓vS,vT,simprocAttr,hlt',hlt,h5,hel,cNd,hl,hw1,n1,n2,n3,n4,n5,gbp',zzU,hll,hp1];have wl:=wv.new (.lab (plc FW T (RV.length+(jaE FW T).length) i) false) _ (.inr (.inr (.inr ⟨_,rfl,rfl⟩)));have sl:=wv.stpLab (.lab (plc FW T (RV.length+(jaE FW T).length) i) false) (.v [.j 0]);have hfs:kdS (kdS U' s' .fr) (s'+1) (.lab (plc FW T (RV.length+(jaE FW T).length) i) false) s = .fr:=by rw[qi Ac,qi Ac];exact hbp'
    refine ih (i+1) _ _ Ac ?_ ⟨Ac,pl++[s'+1],_,_,s'+1+1,_,by simp[hpl],rfl,((st'.trans sv).trans sl).mod h.dom (zzL s) _,wl.chg .fr _ (.inl hfs) Ac (.inr (.inl rfl)),Ac,λj c hj=>?_,λc hc=>?_,λj c nd' h1 h2 h3=>?_,qH,Br⟩
    .exact Ak
    .rw[List.getElem?_append]at hj;split at hj
     .obtain⟨p,hp⟩:=hkl' j c hj;have:c<s':=w'.dom c (by rw[hp];simp);have hcs:c≠s:=λe=>by rw[e,hbp']at hp;cases hp
      exact⟨p,by rw[qi hcs,qi Ac,qi Ac];exact hp⟩
     .have hj0:j-pl.length=0:=Dp
      rw[hj0]at hj;simp at hj;subst hj;obtain rfl:j=i:=Ac
      exact⟨false,by rw[qi n5,qH]⟩
    .simp only[List.append_nil,zzd,zz1]at hc;rcases hc with hc|hc
     .obtain⟨j,nd',q1,q2,q3⟩:=hL' c hc;exact⟨j,nd',q1,q2,by rw[zzj (zzS.1 q3).1];exact q3⟩
     .exact⟨i,nd,hnd,hl,by rw[hc,<- hpl];simp⟩
    exact Ah
   | true =>
    have hwl:=hok'.way hl;obtain⟨c0,hc0⟩:∃t,xs[nd.way]?=some t:=⟨_,zzE hwl⟩;have gc0:(rPt xs)[nd.way]?=some (.ptr c0 0):=by rw[qge,hc0];rfl
    obtain⟨p0,hp0⟩:=hx nd.way c0 hc0;have hbs:bw<s:=h.dom bw (by rw[hbw];simp);have gb':=(st'.fr bw hbw).2.trans gbw;have m1:¬bw=s:=Ac
    have m2:¬bw=s':=Ac
    have m3:¬bw=s'+1:=Ac
    have hp2:=qzs (n:=T.length) (pl:=pl) (a:=s'+1) (c:=c0);have hll2:i+1<=(rPt (pl++[s'+1])++List.replicate (T.length-(pl++[s'+1]).length) AV.nilp).length:=Ah
    rw[hpl]at hp2;have wl:=wv.new .fr (.v [.j 0]) (.inr (.inl rfl));have sl:=wv.stpNew .fr (.v [.j 0]) (by simp);have hfs:kdS (kdS U' s' .fr) (s'+1) .fr s = .fr:=by rw[qi Ac,qi Ac];exact Ac
    have wc:=wl.chg .fr (.v (rPt (pl++[s'+1])++List.replicate (T.length-(pl++[s'+1]).length) .nilp)) (.inl hfs) Ac (.inr (.inl rfl));have wd:=wc.chg (b:=s) .fr (.v (rPt (pl++[c0])++List.replicate (T.length-(pl++[c0]).length) .nilp)) (.inl qH) Ac (.inr (.inl rfl));have sd:=((((st'.trans sv).trans sl).mod h.dom (zzL s) (.v (rPt (pl++[s'+1])++List.replicate (T.length-(pl++[s'+1]).length) .nilp)))).mod h.dom (zzL s) (.v (rPt (pl++[c0])++List.replicate (T.length-(pl++[c0]).length) .nilp));simp only[cNd,hl]at wd sd
    have fin:∀tf,(∀b,tf.get b=((((((tr'.set s' (.v [.b false,.j 0,.w 0,.j 0,.j 0])).set s' (.v [.b true,.j (nd.way:Int),.w nd.at',.j (nd.less:Int),.j (nd.more:Int)])).set (s'+1) (.v [.j 0])).set s
      (.v (rPt (pl++[s'+1])++List.replicate (T.length-(pl++[s'+1]).length) .nilp))).set s (.v (rPt (pl++[c0])++List.replicate (T.length-(pl++[c0]).length) .nilp))).get b))->
      ∀tt,Has tt [(0,.ptr w 0),(1,.fz T.length (rNd T)),(2,V),(6,.sl s 0 T.length T.length false),(14,.fz T.length (rNd T)),(15,.j (T.length:Int)),(16,.j ((i+1:Nat):Int))]->G tt ⟨s'+1+1,0,tf⟩:=by
     intro tf hf tt ht;refine ih (i+1) _ _ Ac ht ⟨Ac,pl++[c0],_,_,s'+1+1,_,Ah,rfl,sd.congr hf,wd.congr hf,Ac,λj c hj=>?_,λc hc=>?_,λj c nd' h1 h2 h3=>?_,qH,by rw[hf,zz4,if_pos rfl]⟩
     .rw[List.getElem?_append]at hj;split at hj
      .obtain⟨p,hp⟩:=hkl' j c hj;have:c<s':=w'.dom c (by rw[hp];simp);have hcs:c≠s:=λe=>by rw[e,hbp']at hp;cases hp
       exact⟨p,by rw[qi hcs,qi hcs,qi Ac,qi Ac];exact hp⟩
      .have hj0:j-pl.length=0:=by
        have:=(zzS.1 hj).1
        exact Ah
       rw[hj0]at hj;simp at hj;subst hj;obtain rfl:j=i:=Ac
       have h1:=st'.lab _ _ _ hp0;have:c0<s:=h.dom c0 (by rw[hp0];simp);exact⟨p0,by rw[qi Ac,qi Ac,qi Ac,qi Ac,h1];simp[plc,hnd,hl]⟩
     .simp only[List.append_nil]at hc;obtain⟨j,nd',q1,q2,q3⟩:=hL' c hc
      exact Ah
     .rw[List.getElem?_append]at h3;split at h3
      .exact Ah
      .have hj0:j-pl.length=0:=by
        have:=(zzS.1 h3).1;simp at this;exact this
       exact Ah
    rcases hV with rfl|rfl
    .refine E2 ?_;exact fin _ (λb=>rfl) _ Ak
    .refine E2 ?_;exact fin _ (λb=>rfl) _ Ak
  .obtain rfl:i=T.length:=Ac
   have hlt':¬((T.length:Int)<T.length):=Ac
   refine Sa hlt' ?_;rw[hpl,Nat.sub_self]at gbp';refine quA W T hT hok FW pl hpl w' st' h.dom hkl' hL' hnew' hbp' (by rw[gbp'];simp) hm ?_ hk;exact Ak
 .exact Ak
 .refine⟨zzu _,[],[],kdS U s .fr,s+1,_,rfl,rfl,h.stpNew .fr _ (by simp),h.new .fr _ (.inr (.inl rfl)),Ac,λj c hj=>Ah,λc hc=>(by cases hc),λj c nd h1 h2 h3=>Ah,qH,?_⟩
  rw[zz4,if_pos rfl];simp[rPt]
end
structure Sp where
 fr:Int
 to:Int
 way:Nat
def cSp(s:Sp):List AV:=[.w s.fr,.w s.to,.j (s.way:Int)]
def qh0(s:Sp):(cSp s).length=3:=rfl
def rSp(l:List Sp):List AV:=l.flatMap cSp
def qgf{l:List Sp}:(rSp l).length=l.length*3:=zb qh0 l
def qC2{l m:List Sp}:rSp l++rSp m=rSp (l++m):=by simp[rSp]
def qC3{s:Sp}:cSp s=rSp [s]:=by simp[rSp]
def qtY{T:List Sp}{j:Nat}{x:Sp}(h:T[j]?=some x){i:Nat}(hi:i<3):(rSp T)[j*3+i]?=(cSp x)[i]?:=qcP qh0 h hi
def qzz{T:List Sp}{j:Nat}{x:Sp}(h:T[j]?=some x):((rSp T).drop (j*3)).take 3=cSp x:=qI qh0 h
def qfJ{l:List Sp}:qu (rSp l)=true:=x4 λ_=>rfl
def jV(l:List Sp)(s:Sp):List Sp:=match l[l.length-1]? with|some z=>if z.way=s.way then l.set (l.length-1) ⟨z.fr,s.to,z.way⟩else l++[s]|none=>l++[s]
def xd(l:List Sp):List Sp:=l.foldl jV []
def qnt{l:List Sp}{s:Sp}:(jV l s).length<=l.length+1:=by
 unfold jV;exact Ah
def jP:IFn:=irJ 308 []
def qzn(hc:Ck P f jP){s bo br:Nat}{tr:Tr Blk}{l:List Sp}(x:Sp){k:AV->Hp->Prop}(ho:tr.get bo=some (.v [.own br l.length]))(hr:tr.get br=some (.cells 3 true true (rSp l)))(hbr:bo≠br)(hos:bo<s)(hrs:br<s)(hm:l.length<=1000000)
  (hk:∀s' tr' br',s<=s'->(∀b,b<s->b≠bo->b≠br->tr'.get b=tr.get b)->tr'.get bo=some (.v [.own br' (jV l x).length])->tr'.get br'=some (.cells 3 true true (rSp (jV l x)))->(br'=br\/s<=br')->br'<s'->k (.tup []) ⟨s',0,tr'⟩) :
  SC P f [.agg (cSp x),.ptr bo 0] ⟨s,0,tr⟩ k:=by
 refine Bb ?_;have n1:¬bo=s:=Ac
 have n2:¬br=s:=Ac
 have n3:¬bo=br:=hbr;have n4:¬s=br:=Ac
 have n5:¬s+1=br:=Ac
 have n6:¬br=s+1:=Ac
 have n7:¬bo=s+1:=Ac
 have n8:¬bo=s+1+1:=Ac
 have n9:¬s=bo:=Ac
 have n10:¬s=s+1:=Ac
 have n11:¬s+1=s+1+1:=Ac
 have r1:l.length+1<=qe:=by simp only[qe];exact Ac
 have r2:(l.length+1)*16<=qe:=by simp only[qe];exact Ac
 have app:∀tf:Tr Blk,(∀b,b<s->b≠bo->b≠br->tf.get b=tr.get b)->tf.get bo=some (.v [.own (s+1+1) (l.length+1)])->tf.get (s+1+1)=some (.cells 3 true true (rSp l++cSp x))->jV l x=l++[x]->k (.tup []) ⟨s+1+1+1,0,tf⟩:=λtf h1 h2 h3 h4 =>
  hk _ _ (s+1+1) Ac h1 (by rw[h2,h4];simp) (by rw[h3,h4,qC3,qC2]) (.inr Ac) Ac
 simp only[jP,cSp,vI,simprocAttr];simp +decide only[↓vS,vT,simprocAttr,ho,hr,n1,n2,n3,n9];refine zB ?_;rcases Nat.eq_zero_or_pos l.length with h0|h0
 .have h0':¬(0:Int)<(l.length:Int):=Ac
  simp +decide only[↓vS,vT,simprocAttr,h0',ho,hr,n1,n2,n3,n4,n5,n6,n7,n8,n9,n10,n11,r1,r2,qgf];refine app _ ?_ ?_ ?_ ?_
  .exact Ay
  .exact Bn
  .simp only[zz4];rw[if_neg Ac];simp[cSp]
  .have:l=[]:=Ah
   subst this;rfl
 .have h0':(0:Int)<(l.length:Int):=Ac
  obtain⟨z,hz⟩:∃z,l[l.length-1]?=some z:=⟨_,zzE Ac⟩;have e1:IntKind.wrap .i64 ((l.length:Int)-1)=((l.length-1:Nat):Int):=by rw[qE Ac Ac];exact Ac
  have hlt:l.length-1<l.length:=Ac
  have hw:=qtY hz (i:=2) Ac;have hw':(rSp l)[(l.length-1)*3+2]?=some (.j (z.way:Int)):=hw
  by_cases hwy:z.way=x.way
  .have hwy':(z.way:Int)=x.way:=Ac
   have hset:=qg8 (f:=cSp) (x':=⟨z.fr,x.to,z.way⟩) (v:=.w x.to) (i:=1) qh0 hz Ac rfl;rw[show l.flatMap cSp=rSp l from rfl,List.singleton_append]at hset
   have h3:(l.length-1)*3+1+1<=(rSp l).length:=by rw[qgf];exact Ac
   simp +decide only[↓vS,vT,simprocAttr,h0',ho,hr,n1,n2,n3,n4,n5,n6,n7,n8,n9,n10,n11,e1,hlt,hw',hwy',h3,hset];have hp:jV l x=l.set (l.length-1) ⟨z.fr,x.to,z.way⟩:=by unfold jV;rw[hz];exact Ah
   refine hk _ _ br Ac ?_ ?_ ?_ (.inl rfl) Ac
   .exact Ay
   .rw[zz4,if_neg hbr,zz4,if_neg n1,ho,hp];simp
   .rw[zz4,if_pos rfl,hp];rfl
  .have hwy':¬(z.way:Int)=x.way:=Ac
   simp +decide only[↓vS,vT,simprocAttr,h0',ho,hr,n1,n2,n3,n4,n5,n6,n7,n8,n9,n10,n11,e1,hlt,hw',hwy',r1,r2,qgf];refine app _ ?_ ?_ ?_ ?_
   .exact Ay
   .exact Bn
   .simp only[zz4];rw[if_neg Ac];simp[cSp]
   .unfold jV;rw[hz];exact Ah
def qaI(l:List (Int×Nat)):List AV:=l.map λx=>.w x.1
def qbe(l:List (Int×Nat)):List AV:=l.map λx=>.j (x.2:Int)
theorem qkt{l:List (Int×Nat)}:(qaI l).length=l.length:=by simp[qaI]
theorem qku{l:List (Int×Nat)}:(qbe l).length=l.length:=by simp[qbe]
def qdE{l:List (Int×Nat)}:qu (qaI l)=true:=qcJ λ_=>rfl
def qdF{l:List (Int×Nat)}:qu (qbe l)=true:=qcJ λ_=>rfl
def qks{l:List (Int×Nat)}{j:Nat}:(qaI l)[j]?=(l[j]?).map λx=>.w x.1:=by simp[qaI]
def qry{l:List (Int×Nat)}{j:Nat}:(qbe l)[j]?=(l[j]?).map λx=>.j (x.2:Int):=by simp[qbe]
def pcs(o:Nat):List (Int×Nat)->Int->List Sp
 | [],nx=>if nx<4294967296 then [⟨nx,4294967295,o⟩]else []
 | x::l,nx=>(if nx<x.1 then [⟨nx,x.1-1,o⟩]else [])++⟨x.1,x.1,x.2⟩::pcs o l (x.1+1)
def qd1(a:Nat):IFn:=irJ 239 [309,a]
def qvL{g:Nat}(hc:Ck P f (qd1 g))(l:List (Int×Nat))(o:Nat):qa P f [.fz l.length (qaI l),.fz l.length (qbe l),.j (o:Int)] (.fn g [] [.pf [.fz l.length (qaI l)] 0,.pf [.j (o:Int)] 0,.pf [.fz l.length (qbe l)] 0]):=by
 refine qa.mk hc Hh ?_;simp only[qd1,vI,simprocAttr];refine Ab ?_;simp[vZ,vP,zz4,zc qdE,zc qdF]
def spT(g3:Nat)(l:List (Int×Nat))(o:Nat):List (Nat×AV):=[(3,.ptr 0 0),(4,.ptr 1 0),(7,.fn g3 [] [.pf [.fz l.length (qaI l)] 0,.pf [.j (o:Int)] 0,.pf [.fz l.length (qbe l)] 0])]
def spA:ICode:=.reg false [⟨some 5,.op (.alloc [.w 0,.w 0,.j 0]),none⟩,⟨none,.op (.store 3 (.t 5) (.t 8)),none⟩]
def spB:ICode:=.blk 1 (.reg false [⟨some 9,.op (.load1 (.t 4)),none⟩,⟨some 10,.op (.loadN 3 (.t 5)),none⟩,⟨some 11,.callV (.t 9) [.t 10],none⟩])
def SpI(g1:Nat)(r0:Loop)(ts:List (Nat×AV))(out:List Sp)(s:Nat)(tr:Tr Blk):Prop :=
 ∃br,4<=s/\tr.get 0=some (.v [.own br out.length])/\tr.get br=some (.cells 3 true true (rSp out))/\(br=2\/4<=br)/\br<s/\tr.get 1=some (.v [.fn g1 [] [.ptr 0 0]])/\tr.get 3=some (.map (zu r0 ts))
def qnu{g1 g3 s:Nat}{r0:Loop}{l:List (Int×Nat)}{o:Nat}{out:List Sp}{tr:Tr Blk}{k:AV->Hp->Prop}(hc1:Ck P g1 jP)(hr0:r0.state = .ready)(hp0:r0.pending=none)(hlo:LoopOk P r0 [8] spA spB)
  (hI:SpI g1 r0 (spT g3 l o) out s tr) (x:Sp) (hm:out.length<=1000000) (hk:∀s' tr',SpI g1 r0 (spT g3 l o) (jV out x) s' tr'->k (.b true) ⟨s',0,tr'⟩):SY P 3 [.agg (cSp x)] ⟨s,0,tr⟩ k:=by
 obtain⟨br,h4,h0,hb,hbr,hbs,h1,h3⟩:=hI;refine SY.mk (r:=r0) (ts:=spT g3 l o) (ps:=[8]) h3 hr0 hlo (zzu _) (by show 3<s;exact Ac) rfl ?_;rw[show mkT (spT g3 l o)=((Tr.leaf.set 7 (.fn g3 [] [.pf [.fz l.length (qaI l)] 0,.pf [.j (o:Int)] 0,.pf [.fz l.length (qbe l)] 0])).set 4 (.ptr 1 0)).set 3 (.ptr 0 0)from rfl]
 refine qj ?_;simp only[qkp,spA,cSp,vI,simprocAttr];refine Ab ?_;have n3:¬3=s:=Ac
 have n1:¬1=s:=Ac
 have n13:¬1=3:=Ac
 have n03:¬0=3:=Ac
 have ns3:¬s=3:=Ac
 refine⟨spT g3 l o,by simp[zz4,n3,h3],?_⟩
 refine qj ?_;simp only[qC,spB,vI,simprocAttr];refine Sa (zzA h1 (zzA n1 (zzA n13 ns3))) ?_
 have gb:∀b,b<s->b≠3->(((tr.set s (.v [.w 0,.w 0,.j 0])).set s (.v [.w x.fr,.w x.to,.j (x.way:Int)])).set 3 (.map (zu (Go.Kc.bsy r0) (spT g3 l o)))).get b=tr.get b:=λb h1 h2=>by
  simp only[zz4];repeat rw[if_neg Ac]
 refine qzn hc1 x ((gb 0 Ac Ac).trans h0) Ah Ac Ac Ac hm λs' tr' br' q1 q2 q3 q4 q5 q6=>?_
 refine Ab ?_;have g3':tr'.get 3=some (.map (zu (Go.Kc.bsy r0) (spT g3 l o))):=by rw[q2 3 Ac Ac Ac,zz4,if_pos rfl]
 refine⟨Go.Kc.bsy r0,spT g3 l o,g3',?_⟩;rw[qeL,qgg hr0 hp0];simp only[qC];refine Ab ?_;refine hk _ _ ⟨br',Ac,?_,?_,Ac,q6,?_,?_⟩
 all_goals grind[Tr.get_set]
def qcs:IFn:=irJ 309 []
def qbR(a:Nat):ICode:=icJ 238 [308,a] 31
def qd0(a:Nat):IFn:=irJ 238 [308,a] [31] [qbR a]
def qoy{n0 g1 br n:Nat}{s:Nat}{tr:Tr Blk}{t:Tr AV}{out:List Sp}(ht:t.get 3=some (.ptr 0 0))(h0:tr.get 0=some (.v [.own br out.length]))(hb:tr.get br=some (.cells 3 true true (rSp out)))(hn:n=out.length) :
  S P n0 (qbR g1) (xG [.tmp 2] λv' h'=>Frz h' v' (.fz n (rSp out))) t ⟨s,0,tr⟩:=by
 refine S.has [(3,.ptr 0 0)] (by grind[qh,qk]) (qj ?_);simp only[qbR,vI,simprocAttr];refine Sb h0 ?_;simp[vZ,vP,zz4,hb,hn,zc qfJ];intro h;rw[h];rfl
def qrm{g1 g3:Nat}(hc:Ck P f (qd0 g1))(hc1:Ck P g1 jP)(hc3:Ck P g3 qcs)(l:List (Int×Nat))(o:Nat)(hl:l.length<=100000)(hr:∀x ∈ l,0<=x.1/\x.1<4294967296) :
  qa P f [.fn g3 [] [.pf [.fz l.length (qaI l)] 0,.pf [.j (o:Int)] 0,.pf [.fz l.length (qbe l)] 0]] (.fz (xd (pcs o l 0)).length (rSp (xd (pcs o l 0)))):=by
 refine qa.mk hc Hh ?_;simp only[qd0,vI,simprocAttr];refine Ab ?_;refine S.weak (Wk.mk (spT g3 l o) [.v [.own 2 0],.v [.fn g1 [] [.ptr 0 0]],.cells 3 true true []] [0,1,99] ?_ ?_ ?_ rfl) ?_
 .simp[vw,spT,qdE,qdF,qd]
 .simp[vw]
 .simp
 refine S.rangeF (by simp[jR]) (by simp[spT]) ⟨rfl,rfl⟩ ?_;refine qlk.2 ⟨.fn g3 [] [.pf [.fz l.length (qaI l)] 0,.pf [.j (o:Int)] 0,.pf [.fz l.length (qbe l)] 0],by simp[spT,mkT,zz4],?_⟩
 refine⟨qcK hc3,λr0 hr0 hp0 hlo=>SC.mk hc3 ?_⟩
 have hlo:LoopOk P r0 [8] spA spB:=hlo;show S P 4 _ _ (qaS [.yl 3,.pf [.fz l.length (qaI l)] 0,.pf [.j (o:Int)] 0,.pf [.fz l.length (qbe l)] 0] 0 .leaf) ⟨4,0,(((Tr.leaf.set 0 (.v [.own 2 0])).set 1 (.v [.fn g1 [] [.ptr 0 0]])).set 2 (.cells 3 true true [])).set 3 (.map (zu r0 (spT g3 l o)))⟩;refine qj ?_;simp only[qcs,vI,simprocAttr];refine Ab ?_
 refine SL.loopP (α:=Nat×Int) (λi=>[(0,.yl 3),(1,.pf [.fz l.length (qaI l)] 0),(2,.pf [.j (o:Int)] 0),(3,.pf [.fz l.length (qbe l)] 0),(5,.x i.2),(8,.fz l.length (qaI l)),(9,.j (l.length:Int)),(10,.j (i.1:Int))])
  (λi h=>i.1<=l.length/\0<=i.2/\i.2<=4294967296/\∃s tr out,h=⟨s,0,tr⟩/\SpI g1 r0 (spT g3 l o) out s tr/\(pcs o (l.drop i.1) i.2).foldl jV out=xd (pcs o l 0)/\out.length<=2*i.1) (λi=>l.length-i.1) ?_ (0,0) ?_ ?_
 .rintro⟨i,nx⟩ h1 ⟨hi,hx0,hx1,s,tr,out,rfl,hI,hE,hol⟩ G ih;simp only at hi hx0 hx1 hI hE hol;refine Am ?_
  by_cases hlt:i<l.length
  .have hlt':(i:Int)<l.length:=Ac
   obtain⟨x,hx⟩:∃x,l[i]?=some x:=⟨_,zzE hlt⟩;have hd:l.drop i=x::l.drop (i+1):=C1
   obtain⟨x0,x1⟩:=hr x Ah;have g1':(qaI l)[i]?=some (.w x.1):=by rw[qks,hx];rfl
   have g2':(qbe l)[i]?=some (.j (x.2:Int)):=by rw[qry,hx];rfl
   have hw1:=wS i;have hw2:IntKind.wrap .u64 x.1=x.1:=G9
   have hw3:IntKind.wrap .u64 (x.1+1)=x.1+1:=G9
   rw[hd,pcs,List.foldl_append,List.foldl_cons]at hE
   -- the second yield
   have two:∀(s:Nat) (tr:Tr Blk) (out:List Sp),SpI g1 r0 (spT g3 l o) out s tr->out.length<=2*i+1->(pcs o (l.drop (i+1)) (x.1+1)).foldl jV (jV out ⟨x.1,x.1,x.2⟩)=xd (pcs o l 0)->∀k:AV->Hp->Prop,
     (∀s' tr' out',SpI g1 r0 (spT g3 l o) out' s' tr'->out'.length<=2*(i+1)->(pcs o (l.drop (i+1)) (x.1+1)).foldl jV out'=xd (pcs o l 0)->k (.b true) ⟨s',0,tr'⟩)->SY P 3 [.agg (cSp ⟨x.1,x.1,x.2⟩)] ⟨s,0,tr⟩ k:=λs tr out h1 h2 h3 k hk =>
    qnu hc1 hr0 hp0 hlo h1 _ Ac λs' tr' h4=>hk s' tr' _ h4 (by have:=qnt (l:=out) (s:=⟨x.1,x.1,x.2⟩);exact Ac) h3
   by_cases hn:nx<x.1
   .have hw4:IntKind.wrap .u32 nx=nx:=Fv
    have hw5:IntKind.wrap .u32 (x.1-1)=x.1-1:=Fv
    rw[if_pos hn,List.foldl_cons,List.foldl_nil]at hE;simp +decide only[↓vS,vT,simprocAttr,hlt',hlt,g1',hw2,hn,hw4,hw5,zzU];refine qnu (x:=⟨nx,x.1-1,o⟩) hc1 hr0 hp0 hlo hI Ac λs2 tr2 h2=>?_
    simp +decide only[↓vS,vT,simprocAttr,g2',hlt,zzU];refine two _ _ _ h2 (by have:=qnt (l:=out) (s:=⟨nx,x.1-1,o⟩);exact Ac) hE _ λs3 tr3 out3 h3 h4 h5=>?_
    refine Sa (zzA hw1 (zzA hw2 hw3)) ?_;refine ih (i+1,x.1+1) _ _ Ac ?_ ⟨Ac,Ac,Ac,s3,tr3,out3,rfl,h3,h5,h4⟩
    exact Ak
   .rw[if_neg hn,List.foldl_nil]at hE;simp +decide only[↓vS,vT,simprocAttr,hlt',hlt,g1',g2',hw2,hn,zzU];refine two _ _ _ hI Ac hE _ λs3 tr3 out3 h3 h4 h5=>?_
    refine Sa (zzA hw1 (zzA hw2 hw3)) ?_;refine ih (i+1,x.1+1) _ _ Ac ?_ ⟨Ac,Ac,Ac,s3,tr3,out3,rfl,h3,h5,h4⟩
    exact Ak
  .obtain rfl:i=l.length:=Ac
   have hlt':¬((l.length:Int)<l.length):=Ac
   rw[List.drop_length,pcs]at hE
   by_cases hn:nx<4294967296
   .have hw4:IntKind.wrap .u32 nx=nx:=Fv
    rw[if_pos hn,List.foldl_cons,List.foldl_nil]at hE;refine Sa (zzA hlt' (zzA hn hw4)) ?_;refine qnu (x:=⟨nx,4294967295,o⟩) hc1 hr0 hp0 hlo hI Ac λs2 tr2 h2=>?_
    refine Ab ?_;obtain⟨br,q4,q0,qb,qbr,qbs,q1,q3⟩:=h2;refine⟨r0,spT g3 l o,q3,by rw[hr0];exact Af,?_⟩
    rw[hp0];simp only[qC];refine Ae ?_;exact Er
   .rw[if_neg hn,List.foldl_nil]at hE;refine Sa (zzA hlt' hn) ?_;obtain⟨br,q4,q0,qb,qbr,qbs,q1,q3⟩:=hI;refine⟨r0,spT g3 l o,q3,by rw[hr0];exact Af,?_⟩
    rw[hp0];simp only[qC];refine Ae ?_;exact Er
 .exact Ak
 .refine⟨zzu _,by simp,by simp,4,_,[],rfl,⟨2,Ac,?_,?_,.inl rfl,Ac,?_,?_⟩,rfl,by simp⟩<;>simp[zz4,rSp]
def qjb(a b:Nat):IFn:=irJ 177 [239,a,238,b]
def qzJ(l:List (Int×Nat)):Prop:=∀(i:Nat) a b,l[i]?=some a->l[i+1]?=some b->a.1<b.1
def qHU{g1 g2 g3:Nat}(hc:Ck P f (qjb g1 g2))(l:List (Int×Nat))(o:Nat)(h1:qa P g1 [.fz l.length (qaI l),.fz l.length (qbe l),.j (o:Int)] (.fn g3 [] [.pf [.fz l.length (qaI l)] 0,.pf [.j (o:Int)] 0,.pf [.fz l.length (qbe l)] 0]))
  (h2:qa P g2 [.fn g3 [] [.pf [.fz l.length (qaI l)] 0,.pf [.j (o:Int)] 0,.pf [.fz l.length (qbe l)] 0]] (.fz (xd (pcs o l 0)).length (rSp (xd (pcs o l 0))))) (hl:l.length<=100000) (hr:qzJ l) :
  qa P f [.fz l.length (qaI l),.fz l.length (qbe l),.j (o:Int)] (.tup [.fz (xd (pcs o l 0)).length (rSp (xd (pcs o l 0))),.j 0]):=by
 refine qa.mk hc Hh ?_;simp only[qjb,vI,simprocAttr];have hne:¬¬(l.length:Int)=l.length:=λh=>h rfl
 refine Ab ?_;refine SL.loopP (α:=Nat) (λi=>[(0,.fz l.length (qaI l)),(1,.fz l.length (qbe l)),(2,.j (o:Int)),(15,.j (l.length:Int)),(16,.j (i:Int))]) (λi h=>i<=l.length/\h.fl=0) (λi=>l.length-i) ?_ 0 ?_ ?_
 .rintro i ⟨s,fl,tr⟩ ⟨hi,rfl⟩ G ih;refine Am ?_
  by_cases hlt:i<l.length
  .have hlt':(i:Int)<l.length:=Ac
   have hw1:=wS i;refine Sa hlt' ?_;refine zB ?_;rcases Nat.eq_zero_or_pos i with h0|h0
   .have h0':¬(0:Int)<(i:Int):=Ac
    refine Sa (zzA h0' hw1) ?_;exact ih (i+1) _ _ Ac Ak ⟨Ac,rfl⟩
   .have h0':(0:Int)<(i:Int):=Ac
    obtain⟨a,ha⟩:∃x,l[i-1]?=some x:=⟨_,zzE Ac⟩;obtain⟨b,hb⟩:∃x,l[i]?=some x:=⟨_,zzE hlt⟩;have hab:=hr (i-1) a b ha (by rw[Nat.sub_add_cancel h0];exact hb);have e1:IntKind.wrap .i64 ((i:Int)-1)=((i-1:Nat):Int):=by rw[qE Ac Ac];exact Ac
    have g1:(qaI l)[i-1]?=some (.w a.1):=by rw[qks,ha];rfl
    have g2:(qaI l)[i]?=some (.w b.1):=by rw[qks,hb];rfl
    have hlt2:i-1<l.length:=Ac
    have hle:¬b.1<=a.1:=Ac
    simp +decide only[↓vS,vT,simprocAttr,h0',hw1,e1,g1,g2,hlt,hlt2,hle,zzU];exact ih (i+1) _ _ Ac Ak ⟨Ac,rfl⟩
  .obtain rfl:i=l.length:=Ac
   have hlt':¬((l.length:Int)<l.length):=Ac
   refine Sa hlt' ?_;refine h1.sc ?_;refine Ab ?_;refine h2.sc ?_;refine Ab ?_;simp[vZ,zc qfJ]
 all_goals simp_all[qh,qk,zz4]
def qlN:List Sp->Int->Bool
 | [],nx=>decide (nx=4294967296)
 | s::l,nx=>if s.fr≠nx\/s.to<s.fr then false else qlN l (s.to+1)
def SpR(l:List Sp):Prop:=∀s ∈ l,0<=s.fr/\s.fr<4294967296/\0<=s.to/\s.to<4294967296
def qeW:IFn:=irJ 240 []
def qsI(hc:Ck P f qeW)(l:List Sp)(hl:l.length<=1000000)(hr:SpR l):qa P f [.fz l.length (rSp l)] (.b (qlN l 0)):=by
 refine qa.mk hc Ib ?_;simp only[qeW,vI,simprocAttr];refine Ab ?_;refine SL.loopP (α:=Nat×Int) (λi=>[(3,.x i.2),(6,.fz l.length (rSp l)),(7,.j (l.length:Int)),(8,.j (i.1:Int))]) (λi h=>i.1<=l.length/\h.fl=0/\qlN (l.drop i.1) i.2=qlN l 0) (λi=>l.length-i.1) ?_ (0,0) ?_ ?_
 .rintro⟨i,nx⟩ ⟨s,fl,tr⟩ ⟨hi,rfl,hE⟩ G ih;simp only at hi hE;refine Am ?_
  by_cases hlt:i<l.length
  .have hlt':(i:Int)<l.length:=Ac
   obtain⟨x,hx⟩:∃x,l[i]?=some x:=⟨_,zzE hlt⟩;have hd:l.drop i=x::l.drop (i+1):=C1
   obtain⟨x0,x1,x2,x3⟩:=hr x Ah;have hel:=qzz hx;have h3:i*3+3<=(rSp l).length:=by rw[qgf];exact Ac
   have hw1:=wS i;have hw2:IntKind.wrap .u64 x.fr=x.fr:=G9
   have hw3:IntKind.wrap .u64 x.to=x.to:=G9
   have hw4:IntKind.wrap .u64 (x.to+1)=x.to+1:=G9
   rw[hd,qlN]at hE
   by_cases c1:x.fr=nx
   .subst c1
    by_cases c2:x.to<x.fr
    .rw[if_pos (.inr c2)]at hE;simp +decide only[↓vS,vT,simprocAttr,hlt',hlt,h3,hel,cSp,hw2,c2,<- hE];simp[vZ]
    .rw[if_neg (by simp[c2])]at hE;simp +decide only[↓vS,vT,simprocAttr,hlt',hlt,h3,hel,cSp,hw2,hw3,hw4,c2,hw1];exact ih (i+1,x.to+1) _ _ (by simp only;exact Ac) Ak Ah
   .rw[if_pos (.inl c1)]at hE;simp +decide only[↓vS,vT,simprocAttr,hlt',hlt,h3,hel,cSp,hw2,c1,<- hE];simp[vZ]
  .obtain rfl:i=l.length:=Ac
   have hlt':¬((l.length:Int)<l.length):=Ac
   rw[List.drop_length,qlN]at hE;refine Sa (zzA hlt' hE) ?_;simp[vZ]
 all_goals grind[qh,qk,Tr.get_set]
def zV(l:List Sp)(at':Nat):List Nd :=
 if _h:l.length / 2=0 then [⟨true,(l.headD ⟨0,0,0⟩).way,0,0,0⟩]else
  ⟨false,0,(l.getD (l.length / 2) ⟨0,0,0⟩).fr,at'+1,at'+1+(zV (l.take (l.length / 2)) (at'+1)).length⟩::(zV (l.take (l.length / 2)) (at'+1)++zV (l.drop (l.length / 2)) (at'+1+(zV (l.take (l.length / 2)) (at'+1)).length))
termination_by l.length
decreasing_by all_goals grind
def qdG(n:Nat):∀(l:List Sp) (a:Nat),l.length<=n->0<l.length->(zV l a).length+1=2*l.length:=by
 induction n<;>grind[zV.eq_1]
def qzA{l:List Sp}{k:Nat}:(rSp l).take (k*3)=rSp (l.take k):=qfo qh0 l k
def qzy{l:List Sp}{k:Nat}:(rSp l).drop (k*3)=rSp (l.drop k):=qdB qh0 l k
def qtQ{l m:List Nd}:rNd l++rNd m=rNd (l++m):=by simp[rNd]
def qzr{l:List Nd}:qu (rNd l)=true:=x4 λ_=>rfl
def wC:IFn:=irJ 241 [] [] [] ⟨[],true,[]⟩
def qub{h:Hp}{esz n c:Nat}{q2 q3:IntKind}{cs:List AV}{k:AV->Prop}(h1:0<c)(h2:c<=n)(h3:c*esz<=cs.length):slK esz none (some (.i q2 (c:Int))) (some (.i q3 (c:Int))) (.fz n cs) h k↔evA (.fz c (cs.take (c*esz))) k:=by
 have hne:Nat.beq c 0=false:=by
  grind[Nat.eq_of_beq_eq_true]
 simp only[slK,qlS,qlP];show(ifK (c<=n) (ifK (c<=c) _))↔_;simp only[ifK,h2,zzL,true_and,Option.isSome_some,hne,Bool.true_and,Bool.false_eq_true,if_false];refine Ep ?_;exact Bm
def qCY{l:List Nd}{j:Nat}{x:Nd}(m:Nat)(h:l[j]?=some x):(rNd l).take (j*5+4) ++ .j (m:Int)::(rNd l).drop (j*5+4+1)=rNd (l.set j ⟨x.leaf,x.way,x.at',x.less,m⟩) :=
 qg8 (f:=cNd) (x':=⟨x.leaf,x.way,x.at',x.less,m⟩) (v:=.j (m:Int)) (i:=4) qlT h Ac rfl
noncomputable def qkJ(tr:Tr Blk)(s bt b1:Nat)(T:List Nd)(x:Nd):Tr Blk:=(((tr.set s (.v (cNd x))).set bt .dead).set (s+1) (.cells 5 true true (rNd T++cNd x))).set b1 (.v [.own (s+1) (T.length+1)])
def qFX{g:Nat}(hc:Ck P g wC):∀(n:Nat) (l:List Sp),l.length<=n->0<l.length->∀(s:Nat) (tr:Tr Blk) (b1 b2 bt:Nat) (T:List Nd),tr.get b1=some (.v [.own bt T.length])->tr.get bt=some (.cells 5 true true (rNd T))->
  tr.get b2=some (.v [.fn g [] [.ptr b1 0,.ptr b2 0]])->b1≠bt->b2≠bt->b1≠b2->b1<s->b2<s->bt<s->T.length+2*l.length<=1000000->
  ∃s' tr' bt',s<=s'/\(∀b,b<s->b≠b1->b≠bt->tr'.get b=tr.get b)/\tr'.get b1=some (.v [.own bt' (T++zV l T.length).length])/\tr'.get bt'=some (.cells 5 true true (rNd (T++zV l T.length)))/\(bt'=bt\/s<=bt')/\bt'<s' /\
   ∀k:AV->Hp->Prop,k (.tup []) ⟨s',0,tr'⟩->SC P g [.fz l.length (rSp l),.ptr b1 0,.ptr b2 0] ⟨s,0,tr⟩ k:=by
 intro n
 induction n with
 | zero=>exact Ac
 | succ n ih =>
  intro l hn h0 s tr b1 b2 bt T g1 gt g2 n1 n2 n3 l1 l2 l3 hm
  have e2:((l.length:Nat):Int).tdiv 2=((l.length / 2:Nat):Int):=by
   rw[Int.tdiv_eq_ediv_of_nonneg Ac];exact Ac
  have ew:IntKind.wrap .i64 ((l.length / 2:Nat):Int)=((l.length / 2:Nat):Int):=Dm
  have h20:(2:Int)≠0:=Af
  have r1:T.length+1<=qe:=by simp only[qe];exact Ac
  have r2:(T.length+1)*40<=qe:=by simp only[qe];exact Ac
  have m1:¬b1=s:=Ac
  have m2:¬b2=s:=Ac
  have m3:¬bt=s:=Ac
  have m4:¬s=bt:=Ac
  have m5:¬b1=bt:=n1;have m6:¬b1=s+1:=Ac
  have hTl:(rNd T).length=T.length*5:=ql9
  by_cases hk:l.length / 2=0
  .have hl1:l.length=1:=Ac
   obtain⟨x,rfl⟩:∃x,l=[x]:=List.length_eq_one_iff.1 hl1;have hT:zV [x] T.length=[⟨true,x.way,0,0,0⟩]:=by rw[zV];simp
   rw[hT];refine⟨s+1+1,qkJ tr s bt b1 T ⟨true,x.way,0,0,0⟩,s+1,Ac,?_,?_,?_,.inr Ac,Ac,λk hk=>?_⟩
   .intro b q1 q2 q3;simp only[qkJ,zz4];repeat rw[if_neg Ac]
   .rw[qkJ,zz4,if_pos rfl];simp
   .rw[qkJ,zz4,if_neg Ac,zz4,if_pos rfl,<- qtQ];rfl
   .refine Bb ?_;simp only[wC,vI,simprocAttr];simp +decide only[↓vS,vT,simprocAttr,↓qlQ h20,e2,ew];refine zB ?_;simp +decide only[↓vS,vT,simprocAttr,rSp,cSp,zzv,List.flatMap_nil,g1,gt,m1,m2,m3,m4,m5,m6,r1,r2,hTl];exact hk
  .have hk0:¬(((l.length / 2:Nat)):Int)=0:=Ac
   obtain⟨x,hx⟩:∃x,l[l.length / 2]?=some x:=⟨_,zzE Ac⟩;have hxD:l.getD (l.length / 2) ⟨0,0,0⟩=x:=by rw[zzs,hx];rfl
   have gx:=qtY hx (i:=0) Ac;have gx':(rSp l)[l.length / 2*3]?=some (.w x.fr):=gx;have hlk:l.length / 2<l.length:=Ac
   have hw1:IntKind.wrap .i64 ((T.length:Int)+1)=((T.length+1:Nat):Int):=by rw[qE Ac Ac];simp
   obtain⟨nd,hnd⟩:∃nd:Nd,nd=⟨false,0,x.fr,T.length+1,0⟩:=⟨_,rfl⟩;have a1:(qkJ tr s bt b1 T nd).get b1=some (.v [.own (s+1) (T++[nd]).length]):=by rw[qkJ,zz4,if_pos rfl];simp
   have at1:(qkJ tr s bt b1 T nd).get (s+1)=some (.cells 5 true true (rNd (T++[nd]))):=by rw[qkJ,zz4,if_neg Ac,zz4,if_pos rfl,<- qtQ];simp[rNd]
   have ae:∀b,b<s->b≠b1->b≠bt->(qkJ tr s bt b1 T nd).get b=tr.get b:=λb q1 q2 q3=>by
    simp only[qkJ,zz4];repeat rw[if_neg Ac]
   obtain⟨s2,tr2,bt2,q1,q2,q3,q4,q5,q6,q7⟩:=ih (l.take (l.length / 2)) (by simp;exact Ac) (by simp;exact Ac) (s+1+1) (qkJ tr s bt b1 T nd) b1 b2 (s+1) (T++[nd]) a1 at1 ((ae b2 l2 (Ne.symm n3) n2).trans g2) Ac Ac n3 Ac Ac Ac (by simp;exact Ac);have hlt:(l.take (l.length / 2)).length=l.length / 2:=by simp;exact Ac
   rw[show(T++[nd]).length=T.length+1 by simp]at q3 q4
   have htl:=qdG l.length (l.take (l.length / 2)) (T.length+1) Ac Ac;rw[hlt]at q7 htl;obtain⟨L,hL⟩:∃L,L=zV (l.take (l.length / 2)) (T.length+1):=⟨_,rfl⟩;rw[<- hL]at q3 q4 htl;have hget:(T++[nd]++L)[T.length]?=some nd:=by simp
   have hT3:(T++[nd]++L).set T.length ⟨nd.leaf,nd.way,nd.at',nd.less,(T++[nd]++L).length⟩=T++[⟨false,0,x.fr,T.length+1,T.length+1+L.length⟩]++L:=by
    rw[hnd];simp[List.set_append];exact Ac
   have hset:=qCY (T++[nd]++L).length hget;rw[hT3]at hset;have hl3:T.length*5+4+1<=(rNd (T++[nd]++L)).length:=by rw[ql9];simp;exact Ac
   have hn5:b1≠bt2:=Ac
   have hn6:b2≠bt2:=Ac
   obtain⟨T3,hT3e⟩:∃T3:List Nd,T3=T++[⟨false,0,x.fr,T.length+1,T.length+1+L.length⟩]++L:=⟨_,rfl⟩;have hT3l:T3.length=(T++[nd]++L).length:=by rw[hT3e];simp
   have b2g:=(q2 b2 Ac (Ne.symm n3) Ac).trans ((ae b2 l2 (Ne.symm n3) n2).trans g2)
   obtain⟨s4,tr4,bt4,p1,p2,p3,p4,p5,p6,p7⟩:=ih (l.drop (l.length / 2)) (by simp;exact Ac) (by simp;exact Ac) s2 (tr2.set bt2 (.cells 5 true true (rNd T3))) b1 b2 bt2 T3 (by rw[zz4,if_neg hn5,q3,hT3l]) Br
    (by rw[zz4,if_neg hn6];exact Ac) hn5 hn6 n3 Ac Ac Ac (by rw[hT3l];simp;exact Ac)
   have hld:(l.drop (l.length / 2)).length=l.length-l.length / 2:=by simp
   rw[hld]at p7
   have hfin:T++zV l T.length=T3++zV (l.drop (l.length / 2)) T3.length:=by
    have e3:T3.length=T.length+1+L.length:=by rw[hT3l];simp;exact Ac
    conv=>lhs;rw[zV,dif_neg hk]
    rw[hxD,<- hL,e3,hT3e];simp
   refine⟨s4,tr4,bt4,Ac,?_,?_,?_,Ac,p6,λk hkk=>?_⟩
   .intro b e1 e2 e3;rw[p2 b Ac e2 Ac,zz4,if_neg Ac,q2 b Ac e2 Ac];exact ae b e1 e2 e3
   .rw[hfin];exact p3
   .rw[hfin];exact p4
   .have v1:(qkJ tr s bt b1 T nd).get b2=some (.v [.fn g [] [.ptr b1 0,.ptr b2 0]]):=(ae b2 l2 (Ne.symm n3) n2).trans g2;have k1:0<l.length / 2:=Ac
    have k2:l.length / 2<=l.length:=Ac
    have k3:l.length / 2*3<=(rSp l).length:=by rw[qgf];exact Ac
    have k4:l.length / 2<l.length:=hlk;have k5:l.length<=l.length:=zzL _;have k6:l.length*3<=(rSp l).length:=by rw[qgf];exact Ac
    have hsl1:(rSp l).take (l.length / 2*3)=rSp (l.take (l.length / 2)):=qzA
    have hsl2:((rSp l).drop (l.length / 2*3)).take ((l.length-l.length / 2)*3)=rSp (l.drop (l.length / 2)):=by
     rw[qzy,zzt (by rw[qgf,hld];exact Ac)]
    refine Bb ?_;simp only[wC,vI,simprocAttr];simp +decide only[↓vS,vT,simprocAttr,↓qlQ h20,e2,ew,hk0,g1];refine zB ?_;simp +decide only[↓vS,vT,simprocAttr,g1,gt,gx',hlk,hw1,m1,m2,m3,m4,m5,m6,r1,r2,hTl];refine zB ?_;rw[hnd]at q7;simp only[qkJ,cNd]at q7;have m7:¬b2=b1:=Ne.symm n3;have m8:¬b2=s+1:=Ac
    have m9:¬b2=bt:=n2;simp +decide only[↓vS,vT,simprocAttr,m7,m8,m9,m2,g2,↓qub k1 k2 k3,hsl1];refine⟨.tup [],_,q7,?_⟩;obtain⟨A,hA⟩:∃A,A=T++[nd]++L:=⟨_,rfl⟩;have k7:T.length<A.length:=by rw[hA];simp
    rw[<- hA]at q3 q4 hl3 hset;rw[<- hT3e]at hset;have k8:¬b1=bt2:=hn5;have k9:¬b2=bt2:=hn6;simp +decide only[↓vS,vT,simprocAttr,q3,q4,k7,k8,hl3,hset];refine zB ?_;simp +decide only[↓vS,vT,simprocAttr,k9,b2g,↓qHP k4 k5 k6,hsl2];exact⟨.tup [],_,p7,hkk⟩
def qfv(a b:Nat):ICode:=icJ 178 [240,a,241,b] 63
def qeY(a b:Nat):IFn:=irJ 178 [240,a,241,b] [63] [qfv a b]
def qsM(l:List Sp):AV:=if qlN l 0=true then .tup [.fz (zV l 0).length (rNd (zV l 0)),.j 0]else .tup [.fz 0 [],.j 240]
def qv0{g1 g2:Nat}(hc:Ck P f (qeY g1 g2))(h2:Ck P g2 wC)(l:List Sp)(h1:qa P g1 [.fz l.length (rSp l)] (.b (qlN l 0)))(hl:l.length<=400000)(h0:0<l.length):qa P f [.fz l.length (rSp l)] (qsM l):=by
 refine qa.mk hc Ib ?_;simp only[qeY,vI,simprocAttr];refine Ab ?_;refine h1.sc ?_;unfold qsM;cases hw:qlN l 0 with
 | false =>
  refine Ab ?_;simp[vZ]
 | true =>
  refine Ab ?_;refine S.weak (Wk.mk [(0,.fz l.length (rSp l)),(4,.ptr 0 0),(5,.ptr 1 0)] [.v [.own 2 0],.v [.fn g2 [] [.ptr 0 0,.ptr 1 0]],.cells 5 true true []] [0,1,99] ?_ ?_ ?_ rfl) (qj ?_)
  .simp[vw,qfJ]
  .simp[vw]
  .simp
  simp only[qfv,vI,simprocAttr];refine Ab ?_
  obtain⟨s',tr',bt',q1,q2,q3,q4,q5,q6,q7⟩:=qFX h2 l.length l (zzL _) h0 3 (((Tr.leaf.set 0 (.v [.own 2 0])).set 1 (.v [.fn g2 [] [.ptr 0 0,.ptr 1 0]])).set 2 (.cells 5 true true [])) 0 1 2 []
   Bn (by simp[zz4,rNd]) Bn Af Af Af Af Af Af Ah
  refine q7 _ ?_;refine Sa q3 ?_;simp[vZ,vP,q4,zc qzr];intro h;rw[h];rfl
def qdi:List GTest->Nat
 | []=>1
 | t::ts=>qb0 t+if t.mask=0 then 0 else qdi ts
def qnv:∀{ts:List GTest}{a:Int}{p:Nat},(qcy ts a p).length=qdi ts
 | [],_,_=>rfl
 | t::ts,a,p=>by
  unfold qcy qdi;rw[zzP,qfN];split
  .rfl
  .rw[qnv]
def qpQ(r:GRule):Nat:=qdi r.tests
def qnq{r:GRule}{p:Nat}:(qvR r p).length=qpQ r:=qnv
def qlc:∀{ts:List GTest},qdi ts<=ts.length*7+1
 | []=>by simp[qdi]
 | t::ts=>by
  unfold qdi;have:=qrM (t:=t);have:=qlc (ts:=ts)
  exact Ah
def xj:List GRule->Nat->List Sy
 | [],_=>[]
 | r::rs,p=>qvR r p++xj rs (p+qpQ r)
def zy(rs:List GRule):Nat:=(rs.map qpQ).sum
theorem qbf:∀{rs:List GRule}{p:Nat},(xj rs p).length=zy rs
 | [],_=>rfl
 | r::rs,p=>by unfold xj;rw[zzP,qnq,qbf];simp[zy]
def qlD:∀{rs:List GRule}{r:GRule}{p:Nat},xj (rs++[r]) p=xj rs p++qvR r (p+zy rs)
 | [],r,p=>by simp[xj,zy]
 | x::rs,r,p=>by rw[zzC,xj,xj,qlD,zzi];simp[zy];exact Ah
def qk8:∀{rs:List GRule},(∀r ∈ rs,r.tests.length<=32)->zy rs<=rs.length*225
 | [],_=>by simp[zy]
 | r::rs,h=>by
  have:=qlc (ts:=r.tests);have:=h r (by simp);have:=qk8 (rs:=rs) λx hx=>h x Ah
  simp[zy,qpQ]at this ⊢;exact Ac
def qlE{rs:List GRule}{i:Nat}:zy (rs.take i)<=zy rs:=by
 have h:zy rs=zy (rs.take i)+zy (rs.drop i):=by
  conv=>lhs;rw[<- List.take_append_drop i rs]
  simp only[zy,List.map_append,List.sum_append]
 exact Ac
def qQ(rs:List GRule):List (Int×Nat):=rs.mapIdx λi r=>(r.nr,i+1)
theorem qcw{rs:List GRule}:(qQ rs).length=rs.length:=by simp[qQ]
theorem qdD{rs:List GRule}{j:Nat}:(qQ rs)[j]?=(rs[j]?).map λr=>(r.nr,j+1):=by simp[qQ]
def qW(x:GFil):List Nd:=zV (xd (pcs 0 (qQ x.rules) 0)) 0
def jaN:List Nd->Nat
 | n::_=>if n.leaf=true then 1 else 0
 | []=>0
def qpt{FW:Nat->Nat}{T:List Nd}:(jaE FW T).length=jaN T:=by
 cases T with
 | nil=>rfl
 | cons n T=>simp only[jaE,jaN];split<;>rfl
theorem qar{FW:Nat->Nat}{T:List Nd}{p:Nat}:(xL FW T p).length=jaN T+xC T:=by
 unfold xL;rw[zzP,qpt,qsS]
def wq(x:GFil):Nat:=wm x.arch+(jaN (qW x)+xC (qW x))
def jo(x:GFil)(j:Nat):Nat:=if j=0 then wq x else wq x+1+zy (x.rules.take (j-1))
def jm(x:GFil):Nat:=wq x+1+zy x.rules
def zp(x:GFil):List Sy:=qbc x.arch 0 (jm x)++xL (jo x) (qW x) (wm x.arch)++[⟨6,x.dflt,0,0⟩]++xj x.rules (wq x+1)++[⟨6,2147418112,0,0⟩]
def qn8{x:GFil}:(zp x).length=jm x+1:=by
 unfold zp jm wq
 grind[qay,qar,qbf]
structure FilR (x:GFil):Prop where
 nr:∀r ∈ x.rules,0<=r.nr/\r.nr<4294967296
 ts:∀r ∈ x.rules,∀t ∈ r.tests,0<=t.mask/\t.mask<18446744073709551616/\0<=t.val/\t.val<18446744073709551616
def Stp.kd'{L L':List Nat}{U U1:Nat->Kd}{s s1:Nat}{tr t1 t2:Tr Blk}(a:Stp L U s tr U1 s1 t1){b F':Nat}(hb:U b = .no)(hf:∀c,U1 c = .fr->t2.get c=t1.get c)(hx:∀c,U1 c = .box->t2.get c=t1.get c)(hL:∀c ∈ L,c=b\/c ∈ L'):Stp L' U s tr (kdS U1 b (.lab F' true)) s1 t2:=by
 have ne:∀{c},U c≠.no->c≠b:=Ah
 refine⟨a.le,λc hc=>?_,λc hc=>?_,λc F p hc=>?_,λc F hc=>?_⟩
 .rw[qi Ad];exact by grind[Stp.fr]
 .rw[qi Ad];exact by grind[Stp.box]
 .rw[qi Ad];exact a.lab c F p hc
 grind[qH,qi,Stp.nw]
def qjc(n b:Nat):AV:=if n=0 then .sl b 0 1 1 false else .own b (n+1)
def qto{n b:Nat}:qjc n b = .sl b 0 (n+1) (n+1) false\/qjc n b = .own b (n+1):=by
 unfold qjc;exact Ah
section
variable {g w s gl gp gj gh gr g1 g2 g3 g4 g5:Nat}{U:Nat->Kd}{tr:Tr Blk}{RV:List Sy}{N:List Nat}{k:AV->Hp->Prop}
def qaE(a b c d e g h i j:Nat):ICode:=icJ 125 [175,a,176,b,177,c,178,d,179,e,168,g,169,h,180,i,170,j] 8191
def qda(a b c d e g h i j:Nat):ICode:=icJ 125 [175,a,176,b,177,c,178,d,179,e,168,g,169,h,180,i,170,j] 255 [63] [qaE a b c d e g h i j]
def qc9(a b c d e g h i j:Nat):ICode:=icJ 125 [175,a,176,b,177,c,178,d,179,e,168,g,169,h,180,i,170,j] 15 [31] [qda a b c d e g h i j]
def qf4(a b c d e g h i j:Nat):IFn:=irJ 125 [175,a,176,b,177,c,178,d,179,e,168,g,169,h,180,i,170,j] [15] [qc9 a b c d e g h i j]
structure EFn (P:Program) (g gl gp gj gh gr go gb gR gd gt gH gA gB gC gD:Nat):Prop where
 W:WFn P g gl gp gj gh gr
 own:Ck P go (qa4 gD gl gj gh)
 br:Ck P gb (qab gj gh)
 rule:Ck P gR (qaQ gt gr)
 test:Ck P gt (jK gA gB gC gH gr gh)
 half:Ck P gH (xS gl gp gj gh)
 done:Ck P gd zj
 dj:Ck P g qS
 lo:quC P gA 0
 hi:quC P gB 4
 hal:qA4 P gC
 tok:qqo P gD
def qoT{t:GTest}(h:wM t=true):0<=t.arg/\t.arg<6:=by
 simp only[wM,zzB,zzb]at h;exact Ac
def qh4:∀{rs:List GRule}{o:Option GRule},upR o rs=true->∀r ∈ rs,qaZ r=true
 | [],_,_,_,hr=>by cases hr
 | x::rs,o,h,r,hr=>by
  simp only[upR,zzB]at h;rcases zzc.1 hr with rfl|hr
  .exact Ad
  .exact qh4 h.2 r hr
variable {go gb gR gd gt gH gA gB gC gD gM gS gT:Nat}
def qxr{n0 sb bf bN bL e:Nat}{wf a:Bool}{Ub:Nat->Kd}{tb:Tr Blk}{L:List Nat}(E:EFn P g gl gp gj gh gr go gb gR gd gt gH gA gB gC gD)(x:GFil)(hx:FilR x)(hK:∀r ∈ x.rules,qaZ r=true)(hn:x.rules.length<=400){pre:List Sy}(hpre:pre.length=wq x+1)(hd1:wq x<=10000)
  (h:WI g w U s tr pre []) (st:Stp L Ub sb tb U s tr) (xs:List Nat) (hxl:xs.length=x.rules.length+1) (hxs:∀(j:Nat) c,xs[j]?=some c->∃p,U c = .lab (jo x j) p) (hL0:U bL = .fr) (gL:tr.get bL=some (.cells e wf a (rPt xs)))
  (hf0:U bf = .fr) (gf:tr.get bf=some (.v (zn x))) {pN:Bool}(hN:U bN = .lab (jm x) pN) (hbN:Ub bN = .no) (hL:∀c ∈ L,c=bN\/∃j:Nat,1<=j/\xs[j]?=some c) (hnew:∀(j:Nat) c,xs[j]?=some c->Ub c = .no) (hno:∀b F,Ub b≠.lab F false)
  {t:Tr AV}(ht:Has t [(1,.ptr bf 0),(4,.ptr w 0),(5,.ptr bN 0),(8,qjc x.rules.length bL)]) :
  S P n0 (qaE gM go gS gT gb gh gr gR gd) (xG [.tmp 2,.tmp 3] λv' h'=>Frz h' v' (.tup [.fz (pre++xj x.rules (wq x+1)++([⟨6,2147418112,0,0⟩]:List Sy)).length (rSy (pre++xj x.rules (wq x+1)++[⟨6,2147418112,0,0⟩])),.j 0])) t ⟨s,0,tr⟩:=by
 refine Ew ?_
 have hts:∀r ∈ x.rules,r.tests.length<=32:=λr hr=>by
  have:=hK r hr;simp only[qaZ,zzB,zzb]at this;exact Ac
 have hrN:=qk8 hts;simp only[qaE,vI,simprocAttr];simp +decide only[↓vS,vT,simprocAttr,gf,zn]
 refine SL.loopP (α:=Nat) (λi=>[(1,.ptr bf 0),(4,.ptr w 0),(5,.ptr bN 0),(8,qjc x.rules.length bL),(89,.fz x.rules.length (rR x.rules)),(90,.j (x.rules.length:Int)),(91,.j (i:Int))])
  (λi h=>i<=x.rules.length/\∃L' U' s' tr',h=⟨s',0,tr'⟩/\Stp L' Ub sb tb U' s' tr'/\WI g w U' s' tr' (pre++xj (x.rules.take i) (wq x+1)) []/\(∀(j:Nat) c,xs[j]?=some c->∃p,U' c = .lab (jo x j) p)/\U' bL = .fr/\tr'.get bL=some (.cells e wf a (rPt xs)) /\
   (∃p,U' bN = .lab (jm x) p)/\(∀c ∈ L',c=bN\/∃j:Nat,i+1<=j/\xs[j]?=some c)) (λi=>x.rules.length-i) ?_ 0 ?_ ?_
 .rintro i h1 ⟨hi,L',U',s',tr',rfl,st',w',hxs',hL0',gL',⟨pN',hN'⟩,hL'⟩ G ih;refine Am ?_
  by_cases hlt:i<x.rules.length
  .have hlt':(i:Int)<x.rules.length:=Ac
   obtain⟨r,hr⟩:∃r,x.rules[i]?=some r:=⟨_,zzE hlt⟩;obtain⟨c,hc⟩:∃c,xs[i+1]?=some c:=⟨_,zzE Ac⟩;have hrm:=zzM hr;have hel:((rR x.rules).drop (i*3)).take 3=zx r:=qI qce hr;have h3:i*3+3<=(rR x.rules).length:=by rw[show(rR x.rules).length=x.rules.length*3 from zb qce _];exact Ac
   have hw1:=wS i;obtain⟨wv,sv⟩:=w'.var (.v [.w 0,.nils,.w 0]) (.v (zx r));have hbs:bL<s':=w'.dom bL (by rw[hL0'];simp);have hbs':¬bL=s':=Ac
   have hge:(rPt xs)[i+1]?=some (.ptr c 0):=by rw[qge,hc];rfl
   have hlt1:i+1<x.rules.length+1:=Ac
   have hT:zy (x.rules.take i)<=zy x.rules:=qlE
   have hlen:(pre++xj (x.rules.take i) (wq x+1)).length=jo x (i+1):=by
    rw[zzP,qbf,hpre];simp[jo]
   obtain⟨pc,hpc⟩:=hxs' (i+1) c hc;rw[<- hlen]at hpc;have hpc:=sv.lab _ _ _ hpc
   have hcN:c≠bN:=λe=>by
    rw[e]at hpc;have:=(Kd.lab.inj (hpc.symm.trans (sv.lab _ _ _ hN'))).1;rw[hlen]at this;simp[jo,jm]at this
    have h2:zy x.rules=zy (x.rules.take i)+zy (x.rules.drop i):=by
     conv=>lhs;rw[<- List.take_append_drop i x.rules]
     simp only[zy,List.map_append,List.sum_append]
    have h3:x.rules.drop i=r::x.rules.drop (i+1):=by rw[<- (zzS.1 hr).2,List.getElem_cons_drop]
    have h4:0<qpQ r:=by unfold qpQ;cases r.tests with
     | nil=>simp[qdi]
     | cons t ts=>simp[qdi,qb0];omega
    rw[h3]at h2;simp[zy]at h2 this;exact Ac
   -- behind the label
   have go:∀(k:AV->Hp->Prop),(∀U3 s3 t3 L3,Stp L3 Ub sb tb U3 s3 t3->WI g w U3 s3 t3 (pre++xj (x.rules.take (i+1)) (wq x+1)) []->(∀(j:Nat) c,xs[j]?=some c->∃p,U3 c = .lab (jo x j) p)->U3 bL = .fr->t3.get bL=some (.cells e wf a (rPt xs))->(∃p,U3 bN = .lab (jm x) p)->
     (∀c ∈ L3,c=bN\/∃j:Nat,i+1+1<=j/\xs[j]?=some c)->k (.tup []) ⟨s3,0,t3⟩)->∀k2:AV->Hp->Prop,(∀t4,t4.get s'=some (.v (zx r))->(∀k',(∀v h,k v h->k' v h)->SC P gR [.ptr w 0,.agg (zx r)] ⟨s'+1,0,t4⟩ k')->k2 (.tup []) ⟨s'+1,0,t4⟩)->
     SC P gh [.ptr w 0,.ptr c 0] ⟨s'+1,0,(tr'.set s' (.v [.w 0,.nils,.w 0])).set s' (.v (zx r))⟩ k2:=by
    intro k hk k2 hk2;refine qaP E.W.here wv hpc λt4 q1 q2 w4=>hk2 t4 ?_ λk' hkk=>?_
    .rw[q1 s' qH,zz4,if_pos rfl]
    have hkl4:∀(j:Nat) c',xs[j]?=some c'->∃p,kdS (kdS U' s' .fr) c (.lab (pre++xj (x.rules.take i) (wq x+1)).length true) c' = .lab (jo x j) p:=λj c' hj=>by
     obtain⟨p,hp⟩:=hxs' j c' hj;have hp:=sv.lab _ _ _ hp
     by_cases e:c'=c
     .exact Fc
     .exact⟨p,by rw[qi e];exact hp⟩
    have st4:Stp (L'.filter λy=>decide (y≠c)) Ub sb tb (kdS (kdS U' s' .fr) c (.lab (pre++xj (x.rules.take i) (wq x+1)).length true)) (s'+1) t4 :=
     (st'.trans sv).kd' (hnew _ _ hc) q1 q2 Ah
    have hbLc:bL≠c:=Ah
    refine qHG E.rule E.W E.test E.lo E.hi E.hal E.half w4 r (λt ht=>?_) (by rw[hlen];have:=hts r hrm;simp only[jo];simp;exact Ac) λU5 s5 t5 st5 w5=>hkk _ _ (hk U5 s5 t5 _ (st4.trans st5) ?_ ?_ ?_ ?_ ?_ ?_)
    .have q:=hx.ts r hrm t ht;have q2:=qoT (t:=t) (by have:=hK r hrm;simp only[qaZ,zzB,zzy]at this;exact this.1.2 t ht)
     exact⟨q2.1,q2.2,q.1,q.2.1,q.2.2.1,q.2.2.2⟩
    .rw[qbv hr,qlD,<- zzi];rw[zzP,qbf,hpre]at w5;exact w5
    .intro j c' hj;obtain⟨p,hp⟩:=hkl4 j c' hj;exact⟨p,st5.lab _ _ _ hp⟩
    .exact (st5.fr bL Ic).1
    .rw[(st5.fr bL Ic).2,q1 bL (sv.fr bL hL0').1,(sv.fr bL hL0').2];exact gL'
    .exact⟨pN',st5.lab _ _ _ (by rw[qi (Ne.symm hcN)];exact sv.lab _ _ _ hN')⟩
    exact Ah
   let K0:AV->Hp->Prop:=λv h=>∃U3 s3 t3 L3,v = .tup []/\h=⟨s3,0,t3⟩/\Stp L3 Ub sb tb U3 s3 t3/\WI g w U3 s3 t3 (pre++xj (x.rules.take (i+1)) (wq x+1)) []/\(∀(j:Nat) c,xs[j]?=some c->∃p,U3 c = .lab (jo x j) p)/\U3 bL = .fr/\t3.get bL=some (.cells e wf a (rPt xs))/\(∃p,U3 bN = .lab (jm x) p) /\
     (∀c ∈ L3,c=bN\/∃j:Nat,i+1+1<=j/\xs[j]?=some c)
   have fin:∀(v:AV) (h:Hp),K0 v h->∀tt,Has tt [(1,.ptr bf 0),(4,.ptr w 0),(5,.ptr bN 0),(8,qjc x.rules.length bL),(89,.fz x.rules.length (rR x.rules)),(90,.j (x.rules.length:Int)),(91,.j ((i+1:Nat):Int))]->G tt h:=by
    rintro v h ⟨U3,s3,t3,L3,rfl,rfl,q1,q2,q3,q4,q5,q6,q7⟩ tt htt;exact ih (i+1) _ _ Ac htt Ah
   rcases qto (n:=x.rules.length) (b:=bL)with hV|hV
   .rw[hV]at fin ⊢;simp +decide only[↓vS,vT,simprocAttr,hlt',hlt,h3,hel,zx,hw1,hbs',gL',hge,hlt1,zzU];refine go K0 Ah _ λt4 h4 hcall=>?_
    simp +decide only[↓vS,vT,simprocAttr,h4,zx];refine hcall _ λv h hv=>?_
    refine Sa hw1 ?_;exact fin v h hv _ Ak
   .rw[hV]at fin ⊢;simp +decide only[↓vS,vT,simprocAttr,hlt',hlt,h3,hel,zx,hw1,hbs',gL',hge,hlt1,zzU];refine go K0 Ah _ λt4 h4 hcall=>?_
    simp +decide only[↓vS,vT,simprocAttr,h4,zx];refine hcall _ λv h hv=>?_
    refine Sa hw1 ?_;exact fin v h hv _ Ak
  .obtain rfl:i=x.rules.length:=Ac
   have hlt':¬((x.rules.length:Int)<x.rules.length):=Ac
   rw[zz0]at w';have hlen:(pre++xj x.rules (wq x+1)).length=jm x:=by rw[zzP,qbf,hpre];rfl
   refine Sa hlt' ?_;refine qaP E.W.here w' (b:=bN) (p:=pN') (by rw[hlen];exact Ac) λt4 q1 q2 w4=>?_
   refine Ab ?_
   have st4:Stp [] Ub sb tb _ _ t4:=st'.kd' (L':=[]) (F':=(pre++xj x.rules (wq x+1)).length) hbN q1 q2 λc hc=>Ah
   refine qoI E.W.ret E.W.put w4 2147418112 (by rw[hlen];unfold jm;exact Ac) λU5 s5 t5 st5 w5=>?_
   refine Ab ?_;have st6:=st4.trans st5;refine qxq E.done E.dj w5 (λb F p hb=>?_) (by rw[zzP,hlen];unfold jm;exact Ah) λt6 b6 q3 q4=>?_
   .cases p with
    | true=>rfl
    | false =>
     rcases st6.nw b F hb with q|q
     all_goals grind
   .refine Ab ?_;simp[vZ,vP,q3];exact Frzs.self (x4 λ_=>rfl)
 .exact Ak
 .refine⟨zzu _,L,U,s,tr,rfl,st,?_,hxs,hL0,gL,⟨pN,hN⟩,?_⟩
  .simpa[xj]using h
  exact Ac
def Stp.mod'{L:List Nat}{U1:Nat->Kd}{s1:Nat}{t1:Tr Blk}(h:Stp L U s tr U1 s1 t1){b:Nat}(hb:U b = .no)(x:Blk):Stp L U s tr (kdS U1 b .fr) s1 (t1.set b x):=by
 have ne:∀{c},U c≠.no->c≠b:=Ah
 refine⟨h.le,λc hc=>?_,λc hc=>?_,λc F p hc=>?_,λc F hc=>?_⟩
 .exact Gl
 .exact Ge
 .rw[qi Ad];exact h.lab c F p hc
 grind[qH,qi,Stp.nw]
def qJ6{s fl b c:Nat}{t:Tr Blk}{x y:Blk}:qd6 ⟨s,fl,t⟩ [(b,x),(c,y)]=⟨s,fl,(t.set b .dead).set c .dead⟩:=rfl
def qBx{n0 sb bf bN bL bn bw e:Nat}{wf a:Bool}{Ub:Nat->Kd}{tb:Tr Blk}{L:List Nat}(E:EFn P g gl gp gj gh gr go gb gR gd gt gH gA gB gC gD)(x:GFil)(hx:FilR x)(hK:∀r ∈ x.rules,qaZ r=true)(hn:x.rules.length<=400)(hd1:wq x<=10000)
  (hS:qa P gS [.fz (qQ x.rules).length (qaI (qQ x.rules)),.fz (qQ x.rules).length (qbe (qQ x.rules)),.j 0] (.tup [.fz (xd (pcs 0 (qQ x.rules) 0)).length (rSp (xd (pcs 0 (qQ x.rules) 0))),.j 0]))
  (hB:qa P gT [.fz (xd (pcs 0 (qQ x.rules) 0)).length (rSp (xd (pcs 0 (qQ x.rules) 0)))] (.tup [.fz (qW x).length (rNd (qW x)),.j 0])) (hT1:qW x≠[]) (hT2:∀nd ∈ qW x,NdOk (x.rules.length+1) (qW x).length nd) (hT3:(qW x).length<=10000)
  (h:WI g w U s tr (qbc x.arch 0 (jm x)) []) (st:Stp L Ub sb tb U s tr) (xs:List Nat) (hxl:xs.length=x.rules.length+1) (hxs:∀(j:Nat) c,xs[j]?=some c->∃p,U c = .lab (jo x j) p) (hL0:U bL = .fr) (gL:tr.get bL=some (.cells e wf a (rPt xs)))
  (hf0:U bf = .fr) (gf:tr.get bf=some (.v (zn x))) {pN:Bool}(hN:U bN = .lab (jm x) pN) (hbN:Ub bN = .no) (hL:∀c ∈ L,c=bN\/∃j:Nat,xs[j]?=some c) (hnew:∀(j:Nat) c,xs[j]?=some c->Ub c = .no) (hno:∀b F,Ub b≠.lab F false)
  (hn0:U bn = .fr) (gn:tr.get bn=some (.v (qaI (qQ x.rules)))) (hbn:Ub bn = .no) (hw0:U bw = .fr) (gw:tr.get bw=some (.v (qbe (qQ x.rules)))) (hbw:Ub bw = .no) (hne:bn≠bw/\bn≠bL/\bw≠bL/\bn≠bf/\bw≠bf)
  {t:Tr AV}(ht:Has t [(1,.ptr bf 0),(4,.ptr w 0),(5,.ptr bN 0),(6,.sl bn 0 x.rules.length x.rules.length false),(7,.sl bw 0 x.rules.length x.rules.length false),(8,qjc x.rules.length bL)]) :
  S P n0 (qda gM go gS gT gb gh gr gR gd) (xG [.tmp 2,.tmp 3] λv' h'=>Frz h' v' (.tup [.fz (zp x).length (rSy (zp x)),.j 0])) t ⟨s,0,tr⟩:=by
 obtain⟨e1,e2,e3,e4,e5⟩:=hne;refine Ew ?_;simp only[qda,vI,simprocAttr];refine Ab ?_;have hnl:(qQ x.rules).length=x.rules.length:=qcw;rw[hnl]at hS;refine hS.give [(bn,.v (qaI (qQ x.rules))),(bw,.v (qbe (qQ x.rules)))] ?_ Ib ?_ ?_
 .exact Ad
 .refine qaU.2 ⟨Frz.cut 1 rfl (zzL _) ?_,qaU.2 ⟨Frz.cut 1 rfl (zzL _) ?_,by grind[qaU,qJR,qf2]⟩⟩
  .simp[trP,zz4,vP,qkt,hnl];rw[zzt (by rw[qkt,hnl];exact Ac)];exact Frzs.self qdE
  .simp[trP,zz4,vP,qku,hnl,Ne.symm e1];rw[zzt (by rw[qku,hnl];exact Ac)];exact Frzs.self qdF
 rw[qJ6];have w1:=(h.chg (b:=bn) .fr .dead (.inl hn0) (h.dom bn (by rw[hn0];simp)) (.inr (.inl rfl))).chg (b:=bw) .fr .dead (.inl (by rw[qi (Ne.symm e1)];exact Ac)) (h.dom bw (by rw[hw0];simp)) (.inr (.inl rfl))
 have s1:=(st.mod' hbn .dead).mod' hbw .dead
 have kk:∀b,U b≠.fr->kdS (kdS U bn .fr) bw .fr b=U b:=λb hb=>by
  rw[qi (c:=b) (λe=>hb (by rw[e];exact Ac)),qi (c:=b) (λe=>hb (by rw[e];exact Ac))]
 have kf:∀b,U b = .fr->kdS (kdS U bn .fr) bw .fr b = .fr:=λb hb=>by
  simp only[kdS];exact Ad
 have gg:∀b,b≠bn->b≠bw->((tr.set bn .dead).set bw .dead).get b=tr.get b:=λb h1 h2=>by
  rw[zz4,if_neg h2,zz4,if_neg h1]
 refine Ab ?_;refine hB.sc ?_;refine Ab ?_;have hV:=qto (n:=x.rules.length) (b:=bL);refine qwK E.br E.W (qW x) hT1 xs (by rw[hxl];exact Ac) (jo x) (qjc x.rules.length bL) (by rw[hxl];exact hV) w1 (kf bL hL0) ((gg bL (Ne.symm e2) (Ne.symm e3)).trans gL) Ah (by rw[qay];have:=qtI (a:=x.arch);exact Ac) λU2 s2 t2 st2 w2=>?_
 refine Ab ?_;obtain⟨c0,hc0⟩:∃c,xs[0]?=some c:=⟨_,zzE Ac⟩;have hge:(rPt xs)[0]?=some (.ptr c0 0):=by rw[qge,hc0];rfl
 have hL2:=st2.fr bL (kf bL hL0);have gL2:=hL2.2.trans ((gg bL (Ne.symm e2) (Ne.symm e3)).trans gL);have hf2:=st2.fr bf (kf bf hf0);have gf2:=hf2.2.trans ((gg bf (Ne.symm e4) (Ne.symm e5)).trans gf)
 have hlen:(qbc x.arch 0 (jm x)++xL (jo x) (qW x) (qbc x.arch 0 (jm x)).length).length=jo x 0:=by
  rw[zzP,qar,qay];rfl
 have hk2:∀(j:Nat) c,xs[j]?=some c->∃p,U2 c = .lab (jo x j) p:=λj c hj=>let ⟨p,hp⟩:=hxs j c hj;⟨p,st2.lab _ _ _ (by rw[kk c (by rw[hp];simp)];exact hp)⟩
 obtain⟨p0,hp0⟩:=hk2 0 c0 hc0;have hN2:U2 bN = .lab (jm x) pN:=st2.lab _ _ _ (by rw[kk bN (by rw[hN];simp)];exact hN)
 have hcN:c0≠bN:=λe=>by
  rw[e]at hp0;have:=(Kd.lab.inj (hp0.symm.trans hN2)).1;simp[jo,jm]at this;exact Ac
 have hV0:(0:Nat)<x.rules.length+1:=Ac
 -- the label of the others has its place
 have rest:∀k2:AV->Hp->Prop,(∀t3:Tr Blk,t3.get bf=some (.v (zn x))->(∀k':AV->Hp->Prop,(∀(U4:Nat->Kd) (s4:Nat) (t4:Tr Blk) (L4:List Nat),Stp L4 Ub sb tb U4 s4 t4->WI g w U4 s4 t4 (qbc x.arch 0 (jm x)++xL (jo x) (qW x) (wm x.arch)++[⟨6,x.dflt,0,0⟩]) []->
   (∀(j:Nat) c,xs[j]?=some c->∃p,U4 c = .lab (jo x j) p)->U4 bL = .fr->t4.get bL=some (.cells e wf a (rPt xs))->U4 bf = .fr->t4.get bf=some (.v (zn x))->U4 bN = .lab (jm x) pN->(∀c ∈ L4,c=bN\/∃j:Nat,1<=j/\xs[j]?=some c)->k' (.tup []) ⟨s4,0,t4⟩)->SC P gr [.ptr w 0,.w x.dflt] ⟨s2,0,t3⟩ k')->k2 (.tup []) ⟨s2,0,t3⟩)->SC P gh [.ptr w 0,.ptr c0 0] ⟨s2,0,t2⟩ k2:=by
  intro k2 hk2';refine qaP E.W.here w2 (b:=c0) (p:=p0) (by rw[hlen];exact Ac) λt3 q1 q2 w3=>hk2' t3 Ah λk' hk'=>?_
  have st3:Stp (L.filter λy=>decide (y≠c0)) Ub sb tb _ _ t3:=(s1.trans st2).kd' (F':=(qbc x.arch 0 (jm x)++xL (jo x) (qW x) (qbc x.arch 0 (jm x)).length).length) (hnew 0 c0 hc0) q1 q2 λy hy=>Ah
  have nb:∀b,U2 b = .fr->b≠c0:=Ah
  refine qoI E.W.ret E.W.put w3 x.dflt (by rw[hlen];simp[jo];exact Ac) λU4 s4 t4 st4 w4=>hk' U4 s4 t4 _ (st3.trans st4) ?_ ?_ ?_ ?_ ?_ ?_ ?_ ?_
  .rw[qay]at w4;exact w4
  .intro j c hj;obtain⟨p,hp⟩:=hk2 j c hj
   by_cases ec:c=c0
   .rw[ec]at hp ⊢;have hF:=(Kd.lab.inj (hp0.symm.trans hp)).1;exact⟨true,st4.lab _ _ _ (by rw[qH,hlen,hF])⟩
   .exact⟨p,st4.lab _ _ _ (by rw[qi ec];exact hp)⟩
  .exact (st4.fr bL (by rw[qi (nb _ hL2.1)];exact Ah)).1
  .rw[(st4.fr bL (by rw[qi (nb _ hL2.1)];exact hL2.1)).2,q1 bL hL2.1];exact gL2
  .exact (st4.fr bf (by rw[qi (nb _ hf2.1)];exact Ah)).1
  .rw[(st4.fr bf (by rw[qi (nb _ hf2.1)];exact hf2.1)).2,q1 bf hf2.1];exact gf2
  .exact st4.lab _ _ _ (by rw[qi (Ne.symm hcN)];exact Ac)
  .intro c hc;rw[List.append_nil,List.mem_filter,zzb]at hc
   exact Ah
 have fin:∀(U4:Nat->Kd) (s4:Nat) (t4:Tr Blk) (L4:List Nat),Stp L4 Ub sb tb U4 s4 t4->WI g w U4 s4 t4 (qbc x.arch 0 (jm x)++xL (jo x) (qW x) (wm x.arch)++[⟨6,x.dflt,0,0⟩]) []->
   (∀(j:Nat) c,xs[j]?=some c->∃p,U4 c = .lab (jo x j) p)->U4 bL = .fr->t4.get bL=some (.cells e wf a (rPt xs))->U4 bf = .fr->t4.get bf=some (.v (zn x))->U4 bN = .lab (jm x) pN->(∀c ∈ L4,c=bN\/∃j:Nat,1<=j/\xs[j]?=some c)->
   ∀(tt:Tr AV),Has tt [(1,.ptr bf 0),(4,.ptr w 0),(5,.ptr bN 0),(8,qjc x.rules.length bL)]->S P n0 (qaE gM go gS gT gb gh gr gR gd) (xG [.tmp 2,.tmp 3] λv' h'=>Frz h' v' (.tup [.fz (zp x).length (rSy (zp x)),.j 0])) tt ⟨s4,0,t4⟩:=λU4 s4 t4 L4 q1 q2 q3 q4 q5 q6 q7 q8 q9 tt htt =>
  qxr E x hx hK hn (by simp only[zzP,qay,qar,List.length_singleton];rfl) hd1 q2 q1 xs hxl q3 q4 q5 q6 q7 q8 hbN q9 hnew hno htt
 rcases hV with hV|hV
 .rw[hV]at fin ⊢;refine Sa (zzA gL2 (zzA hge hV0)) ?_;refine rest _ λt3 g3 hcall=>?_
  simp +decide only[↓vS,vT,simprocAttr,g3,zn];refine hcall _ λU4 s4 t4 L4 q1 q2 q3 q4 q5 q6 q7 q8 q9=>?_
  refine Ab ?_;exact fin U4 s4 t4 L4 q1 q2 q3 q4 q5 q6 q7 q8 q9 _ Ak
 .rw[hV]at fin ⊢;refine Sa (zzA gL2 (zzA hge hV0)) ?_;refine rest _ λt3 g3 hcall=>?_
  simp +decide only[↓vS,vT,simprocAttr,g3,zn];refine hcall _ λU4 s4 t4 L4 q1 q2 q3 q4 q5 q6 q7 q8 q9=>?_
  refine Ab ?_;exact fin U4 s4 t4 L4 q1 q2 q3 q4 q5 q6 q7 q8 q9 _ Ak
end
def qnp{A:List AV}{n i:Nat}{v z:AV}(hA:A.length=n)(hv:A[i]?=some v):(A.take i++List.replicate (n-i) z).take i++v::(A.take i++List.replicate (n-i) z).drop (i+1)=A.take (i+1)++List.replicate (n-(i+1)) z:=by
 have hi:i<n:=by rw[<- hA];exact Ah
 have hl:(A.take i).length=i:=by rw[zzm];exact Ac
 rw[List.take_left' hl]
 have:(A.take i++List.replicate (n-i) z).drop (i+1)=List.replicate (n-(i+1)) z:=by
  have e:i+1=(A.take i).length+1:=by rw[hl]
  rw[e,List.drop_length_add_append,List.drop_replicate,hl];congr 1
 rw[this,qbv hv];simp
section
variable {g w s gl gp gj gh gr g1 g2 g3 g4 g5:Nat}{U:Nat->Kd}{tr:Tr Blk}{RV:List Sy}{N:List Nat}{k:AV->Hp->Prop}{go gb gR gd gt gH gA gB gC gD gM gS gT:Nat}
def qBw{n0 sb bf bN:Nat}{Ub:Nat->Kd}{tb:Tr Blk}(E:EFn P g gl gp gj gh gr go gb gR gd gt gH gA gB gC gD)(x:GFil)(hx:FilR x)(ha0:0<=x.arch)(ha6:x.arch<6)(hK:∀r ∈ x.rules,qaZ r=true)(hn:x.rules.length<=400)(hd1:wq x<=10000)
  (hS:qa P gS [.fz (qQ x.rules).length (qaI (qQ x.rules)),.fz (qQ x.rules).length (qbe (qQ x.rules)),.j 0] (.tup [.fz (xd (pcs 0 (qQ x.rules) 0)).length (rSp (xd (pcs 0 (qQ x.rules) 0))),.j 0]))
  (hB:qa P gT [.fz (xd (pcs 0 (qQ x.rules) 0)).length (rSp (xd (pcs 0 (qQ x.rules) 0)))] (.tup [.fz (qW x).length (rNd (qW x)),.j 0])) (hT1:qW x≠[]) (hT2:∀nd ∈ qW x,NdOk (x.rules.length+1) (qW x).length nd) (hT3:(qW x).length<=10000)
  (h:WI g w U s tr [] []) (st:Stp [bN] Ub sb tb U s tr) (hd:∀b,Ub b≠.no->b<sb) (hf0:U bf = .fr) (gf:tr.get bf=some (.v (zn x))) {pN:Bool}(hN:U bN = .lab (jm x) pN) (hbN:Ub bN = .no) (hno:∀b F,Ub b≠.lab F false)
  {t:Tr AV}(ht:Has t [(1,.ptr bf 0),(4,.ptr w 0),(5,.ptr bN 0)]) :
  S P n0 (qc9 gM go gS gT gb gh gr gR gd) (xG [.tmp 2,.tmp 3] λv' h'=>Frz h' v' (.tup [.fz (zp x).length (rSy (zp x)),.j 0])) t ⟨s,0,tr⟩:=by
 refine Ew ?_;simp only[qc9,vI,simprocAttr];simp +decide only[↓vS,vT,simprocAttr,gf,zn];refine qKA E.own E.W E.tok h x.arch ha0 ha6 hN (by simp) λU1 s1 t1 st1 w1=>?_
 rw[zzN,List.length_nil]at w1;have sa:=st.trans st1;have hf1:=st1.fr bf hf0;have gf1:=hf1.2.trans gf;have hbs:bf<s1:=w1.dom bf (by rw[hf1.1];simp);have f1:¬bf=s1:=Ac
 have f2:¬bf=s1+1:=Ac
 have f3:¬bf=s1+1+1:=Ac
 have f4:¬bf=s1+1+1+1:=Ac
 have r1:x.rules.length<=qe:=by simp only[qe];exact Ac
 have r2:4*x.rules.length<=qe:=by simp only[qe];exact Ac
 have r3:8*x.rules.length<=qe:=by simp only[qe];exact Ac
 refine Ab ?_;refine zB ?_;simp +decide only[↓vS,vT,simprocAttr,gf1,zn,f1,f2,f3,f4,r1,r2,r3];have k1:U1 s1 = .no:=w1.fresh
 have nb:∀c:Nat,Ub (s1+c) = .no:=λc=>by
  cases hk:Ub (s1+c)with
  | no=>rfl
  | _ =>
   have:=hd (s1+c) (by rw[hk];simp);have:=sa.le;exact Ac
 -- the four blocks
 have wa:=w1.new .fr (.v (List.replicate x.rules.length [AV.w 0]).flatten) (.inr (.inl rfl));have wb:=wa.new .fr (.v (List.replicate x.rules.length [AV.j 0]).flatten) (.inr (.inl rfl));have wc:=wb.new (.lab (jo x 0) false) _ (.inr (.inr (.inr ⟨_,rfl,rfl⟩)));have wd:=wc.new .fr (.v [.ptr (s1+1+1) 0]) (.inr (.inl rfl));have sd:=(((sa.trans (w1.stpNew .fr (.v (List.replicate x.rules.length [AV.w 0]).flatten) (by simp))).trans (wa.stpNew .fr (.v (List.replicate x.rules.length [AV.j 0]).flatten) (by simp))).trans (wb.stpLab (.lab (jo x 0) false) (.v [.j 0]))).trans (wc.stpNew .fr (.v [.ptr (s1+1+1) 0]) (by simp))
 refine SL.loopP (α:=Nat×Nat) (λi=>[(1,.ptr bf 0),(4,.ptr w 0),(5,.ptr bN 0),(6,.sl s1 0 x.rules.length x.rules.length false),(7,.sl (s1+1) 0 x.rules.length x.rules.length false),(8,qjc i.1 i.2),(41,.fz x.rules.length (rR x.rules)),(42,.j (x.rules.length:Int)),(43,.j (i.1:Int))])
  (λi h=>i.1<=x.rules.length/\∃L' U' s' tr' xs,h=⟨s',0,tr'⟩/\Stp L' Ub sb tb U' s' tr'/\WI g w U' s' tr' (qbc x.arch 0 (jm x)) []/\xs.length=i.1+1/\(∀(j:Nat) c,xs[j]?=some c->∃p,U' c = .lab (jo x j) p)/\U' i.2 = .fr/\tr'.get i.2=some (if i.1=0 then .v (rPt xs)else .cells 1 true true (rPt xs)) /\
   U' bf = .fr/\tr'.get bf=some (.v (zn x))/\U' bN = .lab (jm x) pN/\(∀c ∈ L',c=bN\/∃j:Nat,xs[j]?=some c)/\(∀(j:Nat) c,xs[j]?=some c->s1<=c)/\U' s1 = .fr/\U' (s1+1) = .fr/\tr'.get s1=some (.v ((qaI (qQ x.rules)).take i.1++List.replicate (x.rules.length-i.1) (.w 0))) /\
   tr'.get (s1+1)=some (.v ((qbe (qQ x.rules)).take i.1++List.replicate (x.rules.length-i.1) (.j 0)))/\s1+1<i.2/\i.2<s') (λi=>x.rules.length-i.1) ?_ (0,s1+1+1+1) ?_ ?_
 .rintro⟨i,bL⟩ h1 ⟨hi,L',U',s',tr',xs,rfl,st',w',hxl,hxs,hL0,gL,hbf,gbf,hbN',hL',hnew,hs1,hs2,gn,gw,hbl,hbl2⟩ G ih;simp only at hi hxl hL0 gL gn gw hbl hbl2;refine Am ?_
  by_cases hlt:i<x.rules.length
  .have hlt':(i:Int)<x.rules.length:=Ac
   obtain⟨r,hr⟩:∃r,x.rules[i]?=some r:=⟨_,zzE hlt⟩;have hel:((rR x.rules).drop (i*3)).take 3=zx r:=qI qce hr;have h3:i*3+3<=(rR x.rules).length:=by rw[show(rR x.rules).length=x.rules.length*3 from zb qce _];exact Ac
   have hw1:=wS i;have gnm:(qaI (qQ x.rules))[i]?=some (.w r.nr):=by rw[qks,qdD,hr];rfl
   have gwm:(qbe (qQ x.rules))[i]?=some (.j ((i+1:Nat):Int)):=by rw[qry,qdD,hr];rfl
   have fn:=qnp (n:=x.rules.length) (z:=.w 0) (by rw[qkt,qcw]) gnm;have fw:=qnp (n:=x.rules.length) (z:=.j 0) (by rw[qku,qcw]) gwm;have ln:i+1<=((qaI (qQ x.rules)).take i++List.replicate (x.rules.length-i) (AV.w 0)).length:=Ah
   have lw:i+1<=((qbe (qQ x.rules)).take i++List.replicate (x.rules.length-i) (AV.j 0)).length:=Ah
   have q1:¬s1=s':=Ac
   have q2:¬s1+1=s':=Ac
   have q3:¬s'=s1:=Ac
   have q4:¬s1+1=s1:=Ac
   have q5:¬bL=s':=Ac
   have q6:¬bL=s1:=Ac
   have q7:¬bL=s1+1:=Ac
   have q8:¬bL=s'+1:=Ac
   have q9:¬bL=s'+1+1:=Ac
   have q10:¬s'=s1+1:=Ac
   have q11:¬s'+1+1=bL:=Ac
   have hfw0:IntKind.wrap .i64 ((i:Int)+1)=((i+1:Nat):Int):=hw1;obtain⟨wv,sv⟩:=w'.var (.v [.w 0,.nils,.w 0]) (.v (zx r));have v1:kdS U' s' .fr s1 = .fr:=(sv.fr s1 hs1).1;have w2:=wv.chg (b:=s1) .fr (.v ((qaI (qQ x.rules)).take (i+1)++List.replicate (x.rules.length-(i+1)) (.w 0))) (.inl v1) Ac (.inr (.inl rfl));have w3:=w2.chg (b:=s1+1) .fr (.v ((qbe (qQ x.rules)).take (i+1)++List.replicate (x.rules.length-(i+1)) (.j 0))) (.inl (by rw[qi q4];exact(sv.fr _ hs2).1)) Ac (.inr (.inl rfl))
   have s3:=((st'.trans sv).mod' (nb 0) (.v ((qaI (qQ x.rules)).take (i+1)++List.replicate (x.rules.length-(i+1)) (.w 0)))).mod' (nb 1) (.v ((qbe (qQ x.rules)).take (i+1)++List.replicate (x.rules.length-(i+1)) (.j 0)));have w4:=w3.new (.lab (jo x (i+1)) false) _ (.inr (.inr (.inr ⟨_,rfl,rfl⟩)));have s4:=s3.trans (w3.stpLab (.lab (jo x (i+1)) false) (.v [.j 0]));have w5:=w4.new .no (.v [.ptr (s'+1) 0]) (.inl rfl);have s5:=s4.trans (w4.stpNew .no (.v [.ptr (s'+1) 0]) (by simp))
   have nbL:Ub bL = .no:=by
    have e:bL=s1+(bL-s1):=Ac
    rw[e];exact Ah
   have kb:kdS (kdS (kdS (kdS (kdS U' s' .fr) s1 .fr) (s1+1) .fr) (s'+1) (.lab (jo x (i+1)) false)) (s'+1+1) .no bL = .fr:=by
    rw[qi q9,qi q8,qi q7,qi q6,qi q5];exact Ac
   have w6:=w5.chg (b:=bL) .fr .dead (.inl kb) Ac (.inr (.inl rfl));have s6:=s5.mod' nbL .dead;have w7:=w6.new .fr (.cells 1 true true (rPt (xs++[s'+1]))) (.inr (.inl rfl));have s7:=s6.trans (w6.stpNew .fr (.cells 1 true true (rPt (xs++[s'+1]))) (by simp));have w7':=w5.new .fr (.cells 1 true true (rPt (xs++[s'+1]))) (.inr (.inl rfl));have s7':=s5.trans (w5.stpNew .fr (.cells 1 true true (rPt (xs++[s'+1]))) (by simp))
   have fin:∀(Uf:Nat->Kd) (tf:Tr Blk) (Lf:List Nat),Stp Lf Ub sb tb Uf (s'+1+1+1+1) tf->WI g w Uf (s'+1+1+1+1) tf (qbc x.arch 0 (jm x)) []->Lf=L'++[s'+1]->(∀b,b<s'->b≠s1->b≠s1+1->b≠bL->Uf b=U' b/\tf.get b=tr'.get b)->Uf s1 = .fr->Uf (s1+1) = .fr->Uf (s'+1) = .lab (jo x (i+1)) false->Uf (s'+1+1+1) = .fr->
     tf.get s1=some (.v ((qaI (qQ x.rules)).take (i+1)++List.replicate (x.rules.length-(i+1)) (.w 0)))->tf.get (s1+1)=some (.v ((qbe (qQ x.rules)).take (i+1)++List.replicate (x.rules.length-(i+1)) (.j 0)))->tf.get (s'+1+1+1)=some (.cells 1 true true (rPt (xs++[s'+1])))->
     ∀tt,Has tt [(1,.ptr bf 0),(4,.ptr w 0),(5,.ptr bN 0),(6,.sl s1 0 x.rules.length x.rules.length false),(7,.sl (s1+1) 0 x.rules.length x.rules.length false),(8,.own (s'+1+1+1) (i+1+1)),(41,.fz x.rules.length (rR x.rules)),(42,.j (x.rules.length:Int)),(43,.j ((i+1:Nat):Int))]->G tt ⟨s'+1+1+1+1,0,tf⟩:=by
    intro Uf tf Lf p1 p2 p3 p4 p5 p6 p7 p8 p9 p10 p11 tt htt;have hbfs:bf<s':=Ac
    have hbNs:bN<s1:=by
     have hb:=st1.lab _ _ _ hN;exact w1.dom bN D1
    have hbfL:bf≠bL:=Ac
    refine ih (i+1,s'+1+1+1) _ _ Ac htt ⟨Ac,Lf,Uf,s'+1+1+1+1,tf,xs++[s'+1],rfl,p1,p2,Ah,λj c hj=>?_,p8,?_,?_,?_,?_,λc hc=>?_,λj c hj=>?_,p5,p6,p9,p10,Ac,Ac⟩
    .rw[List.getElem?_append]at hj;split at hj
     .obtain⟨p,hp⟩:=hxs j c hj;have:c<s':=by grind[WI.dom]
      have n1:c≠s1:=Ah
      have n2:c≠s1+1:=Ah;have n3:c≠bL:=Ah
      exact Ah
     .have hj0:j-xs.length=0:=Dp
      rw[hj0]at hj;simp at hj;subst hj;obtain rfl:j=i+1:=Ac
      exact Ah
    .rw[p11,if_neg (by simp)]
    .rw[(p4 bf hbfs Ac Ac hbfL).1];exact Ac
    .rw[(p4 bf hbfs Ac Ac hbfL).2];exact Ac
    .rw[(p4 bN Ac Ac Ac Ac).1];exact Ac
    .rw[p3,zzd,zz1]at hc;rcases hc with hc|hc
     .rcases hL' c hc with q|⟨j,q⟩
      .exact Ac
      .exact .inr ⟨j,by rw[zzj Ah];exact q⟩
     .exact .inr ⟨xs.length,by rw[hc];simp⟩
    .rw[List.getElem?_append]at hj;split at hj
     .exact Ah
     .have hj0:j-xs.length=0:=Dp
      rw[hj0]at hj;exact Ah
   have m1:¬s'+1+1+1=s'+1+1:=Ac
   have hap:rPt xs++[.ptr (s'+1) 0]=rPt (xs++[s'+1]):=by simp[rPt]
   have hlx:(rPt xs).length=i+1:=by rw[qig,hxl]
   have m2:¬s1=s'+1:=Ac
   have m3:¬s1+1=s'+1:=Ac
   have m4:¬s'=s'+1:=Ac
   have m5:¬s'+1+1=s'+1:=Ac
   have hs1':s1<s':=Ac
   rcases Nat.eq_zero_or_pos i with h0|h0
   .rw[if_pos h0]at gL;have hV:qjc i bL = .sl bL 0 1 1 false:=by simp[qjc,h0]
    have htk:(rPt xs).take 1=rPt xs:=Ah
    have c2:1<=(rPt xs).length:=Ac
    rw[hV];have e2:(.own (s'+1+1+1) (i+1+1):AV) = .own (s'+1+1+1) 2:=by rw[h0]
    rw[e2]at fin;simp +decide only[↓vS,vT,simprocAttr,hlt',hlt,h3,hel,zx,hw1,gn,gw,gL,ln,lw,fn,fw,q1,q2,q3,q4,q5,q6,q7,q8,q9,q10,q11,m1,zzU,htk,c2,hap];refine fin _ _ _ s7' w7' (by simp) ?_ ?_ ?_ ?_ ?_ ?_ ?_ ?_ _ ?_
    .intro b hb n1 n2 n3;constructor
     .rw[qi Ac,qi Ac,qi Ac,qi n2,qi n1,qi Ac]
     .simp only[zz4];rw[if_neg Ac,if_neg Ac,if_neg Ac,if_neg n2,if_neg n1,if_neg Ac,if_neg Ac]
    .rw[qi Ac,qi Ac,qi Ac,qi Ac,qH]
    .rw[qi Ac,qi Ac,qi Ac,qH]
    .rw[qi Ac,qi Ac,qH]
    .rw[qH]
    .simp only[zz4];rw[if_neg Ac,if_neg Ac,if_neg Ac,if_neg Ac];simp
    .simp only[zz4];rw[if_neg Ac,if_neg Ac,if_neg Ac];simp
    .exact Br
    .exact Ak
   .rw[if_neg Ac]at gL;have hV:qjc i bL = .own bL (i+1):=by unfold qjc;rw[if_neg Ac]
    rw[hV];have rr1:i+1+1<=qe:=Ac
    have rr2:(i+1+1)*8<=qe:=by simp only[qe];exact Ac
    simp +decide only[↓vS,vT,simprocAttr,hlt',hlt,h3,hel,zx,hw1,gn,gw,gL,ln,lw,fn,fw,q1,q2,q3,q4,q5,q6,q7,q8,q9,q10,q11,m1,rr1,rr2,zzU,hlx,hap];refine fin _ _ _ s7 w7 (by simp) ?_ ?_ ?_ ?_ ?_ ?_ ?_ ?_ _ ?_
    .intro b hb n1 n2 n3;constructor
     .rw[qi Ac,qi n3,qi Ac,qi Ac,qi n2,qi n1,qi Ac]
     .simp only[zz4];rw[if_neg Ac,if_neg n3,if_neg Ac,if_neg Ac,if_neg n2,if_neg n1,if_neg Ac,if_neg Ac]
    .rw[qi Ac,qi Ac,qi Ac,qi Ac,qi Ac,qH]
    .rw[qi Ac,qi Ac,qi Ac,qi Ac,qH]
    .rw[qi Ac,qi Ac,qi Ac,qH]
    .rw[qH]
    .simp only[zz4];rw[if_neg Ac,if_neg Ac,if_neg Ac,if_neg Ac,if_neg Ac];simp
    .simp only[zz4];rw[if_neg Ac,if_neg Ac,if_neg Ac,if_neg Ac];simp
    .exact Br
    .exact Ak
  .obtain rfl:i=x.rules.length:=Ac
   have hlt':¬((x.rules.length:Int)<x.rules.length):=Ac
   refine Sa hlt' ?_
   have e1:(if x.rules.length=0 then Blk.v (rPt xs)else .cells 1 true true (rPt xs)) = .cells (if x.rules.length=0 then 0 else 1) true (decide (x.rules.length≠0)) (rPt xs):=by
    by_cases h:x.rules.length=0<;>simp[h]
   rw[e1]at gL;have hfb:bf≠s1:=f1;refine qBx (bn:=s1) (bw:=s1+1) E x hx hK hn hd1 hS hB hT1 hT2 hT3 w' st' xs hxl hxs hL0 gL hbf gbf hbN' hbN hL' (λj c hj=>?_) hno hs1 ?_ (nb 0) hs2 ?_ (nb 1) Ac ?_
   .have:=hnew j c hj;have e:c=s1+(c-s1):=Ac
    rw[e];exact Ah
   .rw[gn];grind[qkt,qcw]
   .rw[gw];grind[qku,qcw]
   .exact Ak
 .simp[qh,qk,zz4,qjc,zn]
 .refine⟨zzu _,_,_,_,_,[s1+1+1],rfl,sd,wd,rfl,λj c hj=>?_,qH,?_,?_,?_,?_,λc hc=>?_,λj c hj=>?_,?_,?_,?_,?_,by simp only;exact Ac,by simp only;exact Ac⟩
  .have:j=0:=by have:=(zzS.1 hj).1;exact D0
   subst this;simp at hj;subst hj;exact⟨false,by rw[qi Ac,qH]⟩
  .simp[zz4,rPt]
  .rw[qi f4,qi f3,qi f2,qi f1];exact hf1.1
  .simp only[zz4];rw[if_neg f4,if_neg f3,if_neg f2,if_neg f1];exact gf1
  .have hb:=st1.lab _ _ _ hN;have:bN<s1:=w1.dom bN D1;rw[qi Ac,qi Ac,qi Ac,qi Ac];exact hb
  .simp at hc;rcases hc with hc|hc
   .exact .inl hc
   .exact .inr ⟨0,by simp[hc]⟩
  .have:j=0:=by have:=(zzS.1 hj).1;exact D0
   subst this;simp at hj;exact Ac
  .rw[qi Ac,qi Ac,qi Ac,qH]
  .rw[qi Ac,qi Ac,qH]
  .simp only[zz4];rw[if_neg Ac,if_neg Ac,if_neg Ac];simp
  exact Fw
noncomputable def qqa(x:GFil):AV:=if jr x=true then .tup [.fz (zp x).length (rSy (zp x)),.j 0]else .tup [.fz 0 [],.j 210]
def quU(hc:Ck P f (qf4 gM go gS gT gb gh gr gR gd))(E:EFn P g gl gp gj gh gr go gb gR gd gt gH gA gB gC gD)(x:GFil)(hx:FilR x)(hM:qa P gM [.agg (zn x)] (.b (jr x)))
  (hk:jr x=true->wq x<=10000/\(qW x).length<=10000/\qW x≠[]/\(∀nd ∈ qW x,NdOk (x.rules.length+1) (qW x).length nd) /\
   qa P gS [.fz (qQ x.rules).length (qaI (qQ x.rules)),.fz (qQ x.rules).length (qbe (qQ x.rules)),.j 0] (.tup [.fz (xd (pcs 0 (qQ x.rules) 0)).length (rSp (xd (pcs 0 (qQ x.rules) 0))),.j 0]) /\
   qa P gT [.fz (xd (pcs 0 (qQ x.rules) 0)).length (rSp (xd (pcs 0 (qQ x.rules) 0)))] (.tup [.fz (qW x).length (rNd (qW x)),.j 0])) :
  qa P f [.agg (zn x)] (qqa x):=by
 have hcl:qu (rR x.rules)=true:=x4 λr=>by simp[zx,qu,clo,xe]
 refine qa.mk hc (by simp[qu,clo,zn,hcl]) ?_;simp only[qf4,zn,vI,simprocAttr];refine Ab ?_;simp only[zn]at hM;refine hM.sc ?_;unfold qqa;cases hK:jr x with
 | false =>
  refine Ab ?_;simp[vZ]
 | true =>
  obtain⟨h1,h2,h3,h4,h5,h6⟩:=hk hK;simp only[jr,zzB,zzb]at hK;obtain⟨⟨⟨⟨k1,k2⟩,k3⟩,k4⟩,k5⟩:=hK;refine Ab ?_;refine S.weak (Wk.mk [(1,.ptr 0 0),(4,.ptr 1 0),(5,.ptr 2 0)] [.v (zn x),.v [.own 3 0,.own 4 0],.v [.j 0],.cells 4 true true [],.cells 1 true true []] [0,1,2,99,99] ?_ ?_ ?_ rfl) ?_
  .simp[vw]
  .simp[vw,zn,hcl]
  .simp
  refine Am ?_
  have hW:∀kd:Kd,(kd = .no\/kd = .lab (jm x) false)->WI g 1 (λb=>if b=0 then .fr else if b=1 then .w else if b=2 then kd else if b=3 then .l else if b=4 then .t else .no) 5 (((((Tr.leaf.set 0 (.v (zn x))).set 1 (.v [.own 3 0,.own 4 0])).set 2 (.v [.j 0])).set 3 (.cells 4 true true [])).set 4 (.cells 1 true true [])) [] []:=λkd hkd=>by
   refine⟨λb hb=>?_,⟨3,4,[],[],rfl,rfl,rfl,?_,?_,?_,trivial,by simp,λj y hy=>by simp at hy⟩,λb F p hb=>?_⟩
   .by_cases e:b<5
    .exact e
    .rw[if_neg Ac,if_neg Ac,if_neg Ac,if_neg Ac,if_neg Ac]at hb;exact absurd rfl hb
   .exact Bn
   .simp[zz4,rSy]
   .exact Bn
   .split at hb
    .cases hb
    split at hb
    .cases hb
    split at hb
    .rename_i e;subst e;rcases hkd with rfl|rfl
     .cases hb
     .cases hb;exact Ay
    exact Id
  refine qBw (bf:=0) (bN:=2) (pN:=false) (Ub:=λb=>if b=0 then .fr else if b=1 then .w else if b=2 then .no else if b=3 then .l else if b=4 then .t else .no) (sb:=5) (tb:=((((Tr.leaf.set 0 (.v (zn x))).set 1 (.v [.own 3 0,.own 4 0])).set 2 (.v [.j 0])).set 3 (.cells 4 true true [])).set 4 (.cells 1 true true []))
   E x hx k1 k2 (qh4 k5) k3 h1 h5 h6 h3 h4 h2 (hW (.lab (jm x) false) (.inr rfl)) ⟨zzL _,λb hb=>⟨?_,rfl⟩,λb hb=>⟨?_,rfl⟩,λb F p hb=>?_,λb F hb=>?_⟩ Ah rfl ?_ rfl rfl ?_ ?_
  .exact F1
  .exact F1
  all_goals grind[Tr.get_set,qh,qk]
end
def qem(c:Int):Prop:=c=21\/c=37\/c=53\/c=69
def qfC(s:Sy)(j n:Nat):Prop :=
 (s.code=32/\s.th=0/\s.el=0/\s.k % 4=0/\0<=s.k/\s.k<64)\/((s.code=84\/s.code=6)/\s.th=0/\s.el=0)\/(s.code=5/\s.k=0/\s.el=0/\j<s.th/\s.th<n)\/(qem s.code/\j<s.th/\s.th<n/\j<s.el/\s.el<n)
structure MayL (l:List Sy):Prop where
 pos:0<l.length
 big:l.length<=131072
 last:∃s,l[l.length-1]?=some s/\s.code=6
 all:∀(j:Nat) s,l[j]?=some s->qfC s j l.length
theorem zf{l:List Sy}:qu (rSy l)=true:=x4 λ_=>rfl
def qzB{l:List Sy}:qF (rSy l)=true:=qmu λ_=>rfl
def qfK{T:List Sy}{j:Nat}{x:Sy}(h:T[j]?=some x):((rSy T).drop (j*4)).take 4=cSy x:=qI qeo h
def qkr{T:List Sy}{j:Nat}{x:Sy}(h:T[j]?=some x){i:Nat}(hi:i<4):(rSy T)[j*4+i]?=(cSy x)[i]?:=qcP qeo h hi
def qft:IFn:=irJ 347 []
def qH4(hc:Ck P f qft)(x j n:Nat)(h1:j<x)(h2:x<n):qa P f [.j (x:Int),.pf [.j (j:Int)] 0,.pf [.j (n:Int)] 0] (.b true):=by
 refine Al ?_;have h1':(j:Int)<x:=Ac
 have h2':(x:Int)<n:=Ac
 simp only[qft,vI,simprocAttr];refine Sa (zzA h1' h2') ?_;simp[vZ]
def qj2:IFn:=irJ 348 []
def qIj(hc:Ck P f qj2)(c:Int)(h:qem c):qa P f [.h c] (.b true):=by
 refine Al ?_;simp only[qj2,vI,simprocAttr];rcases h with rfl|rfl|rfl|rfl
 all_goals
  simp +decide only[↓vS,vT,simprocAttr];simp[vZ]
def qhj(a b c:Nat):IFn:=irJ 294 [347,a,250,b,348,c]
def qIH{g1 g2 g3:Nat}(hc:Ck P f (qhj g1 g2 g3))(h1:∀x j n:Nat,j<x->x<n->qa P g1 [.j (x:Int),.pf [.j (j:Int)] 0,.pf [.j (n:Int)] 0] (.b true))(h2:qw0 P g2)(h3:∀c,qem c->qa P g3 [.h c] (.b true))(s:Sy)(j n:Nat)(hs:qfC s j n)(hn:n<=1000000)(hj:j<n) :
  qa P f [.agg (cSy s),.j (j:Int),.j (n:Int)] (.b true):=by
 refine Al ?_;simp only[qhj,cSy,vI,simprocAttr];obtain⟨code,sk,th,el⟩:=s;simp only[qfC]at hs;rcases hs with⟨rfl,rfl,rfl,k4,k0,k64⟩|⟨hcd,rfl,rfl⟩|⟨rfl,rfl,rfl,j1,j2⟩|⟨hcd,j1,j2,j3,j4⟩
 .have hw:=h2 ⟨0,0,0,0,0,0,0,0,0⟩ (by constructor<;>decide) sk k0 Ac;have e:qoZ ⟨0,0,0,0,0,0,0,0,0⟩ sk = .tup [.w ((jH ⟨0,0,0,0,0,0,0,0,0⟩).getD (sk / 4).toNat 0),.j 0]:=by unfold qoZ;rw[if_neg Ac]
  rw[e]at hw;simp only[zT]at hw;have z0:((0:Nat):Int)=0:=rfl;refine Sa z0 ?_;refine hw.sc ?_;refine Ab ?_;simp[vZ]
 .have z0:((0:Nat):Int)=0:=rfl;rcases hcd with rfl|rfl
  .refine Sa z0 ?_;simp[vZ]
  .refine Sa z0 ?_;simp[vZ]
 .have z0:((0:Nat):Int)=0:=rfl;have t0:¬(th:Int)=0:=Ac
  have t1:j<th:=j1;refine Sa (zzA z0 t0) ?_;refine(h1 th j n j1 j2).lend Fe rfl ?_;refine Ab ?_;simp[vZ]
 .have t0:¬(th:Int)=0:=Ac
  have ha:=h3 code hcd;have n1:¬code=32:=D3
  have n2:¬code=84:=D3
  have n3:¬code=6:=D3
  have n4:¬code=5:=D3
  refine Sa (zzA t0 (zzA n1 (zzA n2 (zzA n3 n4)))) ?_;refine ha.sc ?_;refine Ab ?_;refine(h1 th j n j1 j2).lend Fe rfl ?_;refine Ab ?_;refine(h1 el j n j3 j4).lend Fe rfl ?_;refine Ab ?_;simp[vZ]
def qlo(a:Nat):IFn:=irJ 230 [294,a]
def qLR{g:Nat}(hc:Ck P f (qlo g))(hg:∀(s:Sy) (j n:Nat),qfC s j n->n<=1000000->j<n->qa P g [.agg (cSy s),.j (j:Int),.j (n:Int)] (.b true))(l:List Sy)(hl:MayL l):qa P f [.fz l.length (rSy l)] (.b true):=by
 refine Bu ?_;obtain⟨z,hz,hz6⟩:=hl.last;have p1:=hl.pos;have p2:=hl.big;have n1:¬(l.length:Int)<1:=Ac
 have n2:¬131072<(l.length:Int):=Ac
 have e1:IntKind.wrap .i64 ((l.length:Int)-1)=((l.length-1:Nat):Int):=by rw[qE Ac Ac];exact Ac
 have hlt:l.length-1<l.length:=Ac
 have gz:=qkr hz (i:=0) Ac;have gz':(rSy l)[(l.length-1)*4]?=some (.h 6):=by rw[<- hz6];exact gz
 simp only[qlo,vI,simprocAttr];refine Sa (zzA n1 (zzA n2 (zzA e1 (zzA hlt gz')))) ?_;refine SL.loopP (α:=Nat) (λi=>[(0,.fz l.length (rSy l)),(23,.fz l.length (rSy l)),(24,.j (l.length:Int)),(25,.j (i:Int))]) (λi h=>i<=l.length/\h.fl=0) (λi=>l.length-i) ?_ 0 ?_ ?_
 .rintro i ⟨s,fl,tr⟩ ⟨hi,rfl⟩ G ih;refine Am ?_
  by_cases hi':i<l.length
  .have hlt':(i:Int)<l.length:=Ac
   obtain⟨x,hx⟩:∃x,l[i]?=some x:=⟨_,zzE hi'⟩;have hel:=qfK hx;have h4:i*4+4<=(rSy l).length:=by rw[qaq];exact Ac
   have hw1:=wS i;have hp:=hg x i l.length (hl.all i x hx) Ac hi';simp only[cSy]at hp;simp +decide only[↓vS,vT,simprocAttr,hlt',hi',h4,hel,cSy];refine hp.sc ?_;refine Sa hw1 ?_;exact ih (i+1) _ _ Ac Ak ⟨Ac,rfl⟩
  .obtain rfl:i=l.length:=Ac
   have hlt':¬((l.length:Int)<l.length):=Ac
   refine Sa hlt' ?_;simp[vZ]
 all_goals simp_all[qh,qk,zz4]
def zK:IFn:=irJ 300 []
def qIl(hc:Ck P f zK):qbB P f 4 24:=by
 intro n rows hlen hcl hok hr1 hr2;refine Own.of_SC E4 ?_;cases n with
 | zero =>
  obtain rfl:rows=[]:=Ad
  refine SC.nil0 (SC.mk hc (qj ?_)) (SC.mk hc (qj ?_))
  .simp only[zK,vI,simprocAttr];refine Ae ?_;intro _;refine⟨[1],?_⟩;simp[vw]
  .simp only[zK,vI,simprocAttr];exact F7
 | succ n =>
  refine Bb ?_;simp only[zK,vI,simprocAttr];have h1:1<=n+1:=Ac
  have h2:(n+1)*4<=rows.length:=Ac
  have h3:rows.take ((n+1)*4)=rows:=Ah
  have h4:¬(n+1<=0):=Ac
  exact Dx
def qbx(s:Sy):Prop:=qm s.code=4
def qc5(s:Sy):Prop:=qm s.code=4/\s.code≠5
instance (s:Sy):Decidable (qbx s):=by unfold qbx;infer_instance
instance (s:Sy):Decidable (qc5 s):=by unfold qc5;infer_instance
def qlr(a:Nat):IFn:=irJ 302 [131,a]
def qgZ(P:Program)(f:Nat):Prop:=∀s:Sy,qa P f [.agg (cSy s)] (.b (decide (qc5 s)))
def qLn{g:Nat}(hc:Ck P f (qlr g))(hg:cOf P g):qgZ P f:=by
 intro s;refine Al ?_;simp only[qlr,cSy,vI,simprocAttr];refine Ab ?_;refine(hg s.code).sc ?_
 by_cases h1:qm s.code=4
 .by_cases h2:s.code=5
  .refine Sa (zzA h1 h2) ?_;simp[vZ,qc5,h2]
  .refine Sa (zzA h1 h2) ?_;simp[vZ,qc5,h1,h2]
 .refine Sa h1 ?_;simp[vZ,qc5,h1]
def qba(to:Nat->Nat)(s:Sy):Sy:=⟨s.code,s.k,if qbx s then to s.th else s.th,if qc5 s then to s.el else s.el⟩
def qDi{α:Type}{A B:List α}{x y:α}:(A++x::B).set A.length y=A++y::B:=by
 rw[List.set_append];simp
def jy(a b c:Nat):IFn:=irJ 298 [300,a,131,b,302,c]
def qm6{g1 g2 g3 gt s fl:Nat}{tr:Tr Blk}{caps:List AV}{k:AV->Hp->Prop}(hc:Ck P f (jy g1 g2 g3))(h1:qbB P g1 4 24)(h2:cOf P g2)(h3:qgZ P g3)(l:List Sy)(hl:l.length<=200000)(hfl:fl<=s)(to:Nat->Nat)
  (hto:∀x ∈ l,∀j:Nat,(qbx x/\j=x.th)\/(qc5 x/\j=x.el)->∀(s':Nat) (tr':Tr Blk) (k':AV->Hp->Prop),s<=s'->(∀b,b<s->tr'.get b=tr.get b)->k' (.j ((to j:Nat):Int)) ⟨s',fl,tr'⟩->SC P gt (.j (j:Int)::caps) ⟨s',fl,tr'⟩ k')
  (hk:∀s' tr' b,s<=s'->(∀c,c<s->tr'.get c=tr.get c)->s<=b->b<s'->tr'.get b=some (.cells 4 true true (rSy (l.map (qba to))))->k (.own b l.length) ⟨s',fl,tr'⟩):SC P f [.fz l.length (rSy l),.fn gt [] caps] ⟨s,fl,tr⟩ k:=by
 refine Bb ?_;simp only[jy,vI,simprocAttr];refine Ab ?_;refine(h1 l.length (rSy l) qaq zf qzB (by simp only[qe];exact Ac) (by simp only[qe];exact Ac)).sc ?_;simp only[vJ,simprocAttr];simp +decide only[↓vS,vT,simprocAttr,xt zf]
 refine SL.loopP (α:=Nat) (λi=>[(1,.fn gt [] caps),(5,.own s l.length),(10,.own s l.length),(11,.j (l.length:Int)),(12,.j (i:Int))])
  (λi h=>i<=l.length/\∃s' tr',h=⟨s',fl,tr'⟩/\s<s'/\(∀b,b<s->tr'.get b=tr.get b)/\tr'.get s=some (.cells 4 true true (rSy ((l.take i).map (qba to)++l.drop i)))) (λi=>l.length-i) ?_ 0 ?_ ?_
 .rintro i h1 ⟨hi,s',tr',rfl,hs,hold,hrow⟩ G ih;refine Am ?_
  by_cases hlt:i<l.length
  .have hlt':(i:Int)<l.length:=Ac
   obtain⟨x,hx⟩:∃x,l[i]?=some x:=⟨_,zzE hlt⟩;have hxm:=zzM hx;have hd:l.drop i=x::l.drop (i+1):=C1
   have hAl:((l.take i).map (qba to)).length=i:=by simp;exact Ac
   rw[hd]at hrow;obtain⟨A,hA⟩:∃A,A=(l.take i).map (qba to):=⟨_,rfl⟩;obtain⟨B,hB⟩:∃B,B=l.drop (i+1):=⟨_,rfl⟩;rw[<- hA,<- hB]at hrow;rw[<- hA]at hAl;have hrl:(A++x::B).length=l.length:=by rw[zzP,hAl,hB];simp;exact Ac
   have hget:(A++x::B)[i]?=some x:=by rw[<- hAl];simp
   have hel:=qfK hget;have h4:i*4+4<=(rSy (A++x::B)).length:=by rw[qaq,hrl];exact Ac
   have hw1:=wS i;have n1:¬s=s':=Ac
   have n2:¬s'=s:=Ac
   have hf2:fl<=s':=Ac
   have hset:∀(y y':Sy) (j:Nat) (v:AV),j<4->cSy y'=(cSy y).take j++([v]++(cSy y).drop (j+1))->(rSy (A++y::B)).take (i*4+j)++v::(rSy (A++y::B)).drop (i*4+j+1)=rSy (A++y'::B):=λy y' j v hj he=>by
    have:=qg8 (f:=cSy) (v:=v) (xs:=A++y::B) (j:=i) qeo (by rw[<- hAl];simp) hj he;rw[show(A++y::B).set i y'=A++y'::B by rw[<- hAl];exact qDi]at this
    exact this
   have hlen:∀y,(rSy (A++y::B)).length=l.length*4:=λy=>by rw[qaq];simp at hrl ⊢;exact Ac
   have b3:∀y,i*4+2+1<=(rSy (A++y::B)).length:=Ah
   have b4:∀y,i*4+3+1<=(rSy (A++y::B)).length:=Ah
   have fin:∀(s2:Nat) (t2:Tr Blk),s<s2->(∀b,b<s->t2.get b=tr.get b)->t2.get s=some (.cells 4 true true (rSy (A++qba to x::B)))->∀tt,Has tt [(1,.fn gt [] caps),(5,.own s l.length),(10,.own s l.length),(11,.j (l.length:Int)),(12,.j ((i+1:Nat):Int))]->G tt ⟨s2,fl,t2⟩:=λs2 t2 q1 q2 q3 tt htt=>by
    refine ih (i+1) _ _ Ac htt ⟨Ac,s2,t2,rfl,q1,q2,?_⟩
    rw[q3,qbv hx,List.map_append,<- hA,<- hB];simp
   have ho:=λb (hb:b<s)=>hold b hb
   have old:∀(y:Blk) b,b<s->((tr'.set s' (.v [.h 0,.w 0,.j 0,.j 0])).set s' y).get b=tr.get b:=λy b hb=>by
    rw[zz4,if_neg Ac,zz4,if_neg Ac];exact hold b hb
   simp +decide only[↓vS,vT,simprocAttr,hlt',hlt,hrow,h4,hel,cSy,n1,n2,hf2];refine(h2 x.code).sc ?_;have ha:=h3 x;simp only[cSy]at ha
   by_cases hj:qm x.code=4
   .refine Sa (zzA hj (zzA n1 n2)) ?_;refine hto x hxm x.th (.inl ⟨hj,rfl⟩) _ _ _ Ac (λb hb=>old _ b hb) ?_
    have e1:=hset x ⟨x.code,x.k,to x.th,x.el⟩ 2 (.j ((to x.th:Nat):Int)) Ac rfl;have hs2:s<=s:=zzL _;simp +decide only[↓vS,vT,simprocAttr,hrow,n1,n2,hlt,b3,hfl,e1];refine ha.sc ?_
    by_cases hk5:x.code=5
    .have hna:¬qc5 x:=λh=>h.2 hk5
     refine Sa (zzA hna hw1) ?_;refine fin _ _ Ac (λb hb=>?_) ?_ _ Ak
     .rw[zz4,if_neg Ac];exact old _ b hb
     .have e:qba to x=⟨x.code,x.k,to x.th,x.el⟩:=by unfold qba;rw[if_pos (show qbx x from hj),if_neg hna]
      rw[zz4,if_pos rfl,e]
    .have hya:qc5 x:=⟨hj,hk5⟩;refine Sa (zzA hya (zzA n1 n2)) ?_;refine hto x hxm x.el (.inr ⟨hya,rfl⟩) _ _ _ Ac (λb hb=>by rw[zz4,if_neg Ac];exact old _ b hb) ?_
     have e2:=hset ⟨x.code,x.k,to x.th,x.el⟩ ⟨x.code,x.k,to x.th,to x.el⟩ 3 (.j ((to x.el:Nat):Int)) Ac rfl;simp +decide only[↓vS,vT,simprocAttr,hrow,n1,n2,hlt,b4,hfl,e2,hw1];refine fin _ _ Ac (λb hb=>?_) ?_ _ Ak
     .rw[zz4,if_neg Ac,zz4,if_neg Ac];exact old _ b hb
     .rw[zz4,if_pos rfl];simp[qba,qbx,qc5,hj,hk5]
   .have hna:¬qc5 x:=λh=>hj h.1
    refine Sa (zzA hj (zzA n1 n2)) ?_;refine ha.sc ?_;refine Sa (zzA hna hw1) ?_;refine fin _ _ Ac (λb hb=>old _ b hb) ?_ _ Ak
    rw[zz4,if_neg n1,zz4,if_neg n1,hrow];simp[qba,qbx,qc5,hj]
  .obtain rfl:i=l.length:=Ac
   have hlt':¬((l.length:Int)<l.length):=Ac
   refine Sa hlt' ?_;rw[zz0,List.drop_length,List.append_nil]at hrow;exact Ah
 .exact Ak
 grind[Tr.get_set,xt,zf]
def qll{α:Type}{f:α->List AV}(h:∀x,jZ (f x)=true):∀l:List α,jZ (l.flatMap f)=true
 | []=>rfl
 | x::l=>by
  have app:∀(a b:List AV),jZ a=true->jZ b=true->jZ (a++b)=true:=by
   intro a
   induction a with
   | nil=>exact Ad
   | cons v a ih =>
    intro b ha hb;simp only[jZ,zzB,zzC]at ha ⊢
    exact Ad
  rw[zzv];exact app _ _ (h x) (qll h l)
def qvN{l:List Sy}:jZ (rSy l)=true:=qll (λ_=>rfl) l
def qvq{g1 g2 g3 gt:Nat}{caps:List AV}(hc:Ck P f (jy g1 g2 g3))(h1:qbB P g1 4 24)(h2:cOf P g2)(h3:qgZ P g3)(l:List Sy)(hl:l.length<=200000)(to:Nat->Nat)
  (hto:∀x ∈ l,∀j:Nat,(qbx x/\j=x.th)\/(qc5 x/\j=x.el)->qa P gt (.j (j:Int)::caps) (.j ((to j:Nat):Int))) :
  qjv P f [.fz l.length (rSy l),.fn gt [] caps] (.own 0 l.length) [.cells 4 true true (rSy (l.map (qba to)))]:=by
 refine qjv.of_SC rfl (by simp[qqJ,qvN]) ?_;refine qm6 hc h1 h2 h3 l hl (zzL 0) to (λx hx j hj s' tr' k' _ _ hk=>(hto x hx j hj).sc hk) λs' tr' b _ _ _ hb hg=>?_
 intro _;refine⟨[b],?_⟩;simp[vw,hg,hb,qd,zf]
def qsH:List (Int×Nat)->Int->Nat->List (Int×Nat)
 | [],x,v=>[(x,v)]
 | (a,u)::L,x,v=>if x=a then(x,v)::L else(a,u)::qsH L x v
def qiV:List (Int×Nat)->Int->Option Nat
 | [],_=>none
 | (a,u)::L,x=>if x=a then some u else qiV L x
def mkE(L:List (Int×Nat)):List (AV×AV):=L.map λp=>(.w p.1,.j (p.2:Int))
def qtm{L:List (Int×Nat)}{p:Prop}:qeZ (mkE L) p↔p:=by cases L<;>exact Iff.rfl
def qEv{x:Int}{v:Nat}:∀{L:List (Int×Nat)}{k:List (AV×AV)->Prop},qhT qB (.w x) (.j (v:Int)) (mkE L) k↔k (mkE (qsH L x v))
 | [],k=>quh
 | (a,u)::L,k=>by
  refine qEw.trans ?_;unfold qsH
  by_cases h:x=a
  .rw[if_pos h,if_pos h];exact Bm
  .rw[if_neg h,if_neg h];exact qEv
def qxF{x:Int}:∀{L:List (Int×Nat)}{k:Option AV->Prop},qcO qB (.w x) (mkE L) k↔k ((qiV L x).map λv=>.j (v:Int))
 | [],k=>qqH
 | (a,u)::L,k=>by
  refine qxG.trans ?_;unfold qiV
  by_cases h:x=a
  .rw[if_pos h,if_pos h];exact Ad
  .rw[if_neg h,if_neg h];exact qxF
def qAD{z:AV}{o:Option Nat}{v:Nat}{k:AV->Prop}(h:o=some v):qik false z (o.map λv=>.j (v:Int)) k↔k (.j (v:Int)):=by simp_all[qqc]
def qkd(l:List Sy):List (Int×Nat):=(l.zipIdx).foldl (λL p=>if p.1.code=6 then qsH L p.1.k p.2 else L) []
def qmY{l:List Sy}{x:Sy}:qkd (l++[x])=if x.code=6 then qsH (qkd l) x.k l.length else qkd l:=by
 simp[qkd,List.zipIdx_append]
def qrg{L:List (Int×Nat)}{x y:Int}{v:Nat}:qiV (qsH L x v) y=if y=x then some v else qiV L y:=by
 induction L with
 | nil=>rfl
 | cons p L ih =>
  obtain⟨a,u⟩:=p;unfold qsH
  by_cases h:x=a
  .rw[if_pos h];subst h;unfold qiV
   exact Ad
  .rw[if_neg h];unfold qiV;rw[ih]
   exact Ah
def qkX{l:List Sy}{j:Nat}{x:Sy}(h:l[j]?=some x)(h6:x.code=6):∃i y,qiV (qkd l) x.k=some i/\j<=i/\l[i]?=some y/\y.code=6/\y.k=x.k:=by
 have main:∀(n:Nat) (l:List Sy),l.length=n->∀{j:Nat}{x:Sy},l[j]?=some x->x.code=6->∃i y,qiV (qkd l) x.k=some i/\j<=i/\l[i]?=some y/\y.code=6/\y.k=x.k:=by
  intro n
  induction n with
  | zero=>intro l hl j x h;rw[List.eq_nil_of_length_eq_zero hl]at h;simp at h
  | succ n ih =>
   intro l hl j x h h6;have e:l=l.dropLast++[l.getLast (by intro h;rw[h]at hl;simp at hl)]:=(List.dropLast_concat_getLast _).symm;generalize l.getLast _=z at e;generalize l.dropLast=l0 at e;subst e;have hl0:l0.length=n:=by simp at hl;exact hl
   rw[qmY];rcases Nat.lt_or_ge j l0.length with hj|hj
   .rw[zzj hj]at h;obtain⟨i,y,q1,q2,q3,q4,q5⟩:=ih l0 hl0 h h6;have hi:=(zzS.1 q3).1
    by_cases hz:z.code=6
    .rw[if_pos hz,qrg]
     by_cases hk:x.k=z.k
     .exact Ah
     .exact Ah
    .rw[if_neg hz];exact Ah
   .have hj2:j=l0.length:=by have:=(zzS.1 h).1;simp at this;exact Ac
    subst hj2;simp at h;subst h;rw[if_pos h6,qrg,if_pos rfl];exact Ad
 exact Ad
def qed(l:List Sy)(j:Nat):Nat:=match l[j]? with|some x=>if x.code=6 then(qiV (qkd l) x.k).getD 0 else j|none=>j
def qfM(l:List Sy):List Sy:=l.map (qba (qed l))
def qnU(l:List Sy):Prop:=∀x ∈ l,∀j:Nat,(qbx x/\j=x.th)\/(qc5 x/\j=x.el)->j<l.length
def qdc:IFn:=irJ 299 []
def qeV(a b:Nat):IFn:=irJ 233 [299,a,298,b]
def qrH{g1 g2 h1 h2 h3:Nat}(hc:Ck P f (qeV g1 g2))(hc1:Ck P g1 qdc)(hc2:Ck P g2 (jy h1 h2 h3))(c1:qbB P h1 4 24)(c2:cOf P h2)(c3:qgZ P h3)(l:List Sy)(hl:l.length<=200000)(hin:qnU l) :
  qa P f [.fz l.length (rSy l)] (.fz (qfM l).length (rSy (qfM l))):=by
 refine Bu ?_;simp only[qeV,vI,simprocAttr];refine Ab ?_
 refine SL.loopP (α:=Nat) (λi=>[(1,.ptr 0 0),(3,.ptr 2 0),(7,.fz l.length (rSy l)),(8,.j (l.length:Int)),(9,.j (i:Int))])
  (λi h=>i<=l.length/\∃s tr,h=⟨s,0,tr⟩/\3<=s/\tr.get 0=some (.v [.fz l.length (rSy l)])/\tr.get 1=some (.map (mkE (qkd (l.take i))))/\tr.get 2=some (.v [.map 1])) (λi=>l.length-i) ?_ 0 ?_ ?_
 .rintro i h1 ⟨hi,s,tr,rfl,hs,t0,t1,t2⟩ G ih;refine Am ?_
  by_cases hlt:i<l.length
  .have hlt':(i:Int)<l.length:=Ac
   obtain⟨x,hx⟩:∃x,l[i]?=some x:=⟨_,zzE hlt⟩;have hel:=qfK hx;have h4:i*4+4<=(rSy l).length:=by rw[qaq];exact Ac
   have hw1:=wS i;have n0:¬0=s:=Ac
   have n1:¬1=s:=Ac
   have n2:¬2=s:=Ac
   have hsn:=qmY (l:=l.take i) (x:=x);rw[<- qbv hx,zzm,Nat.min_eq_left hi]at hsn
   by_cases h6:x.code=6
   .rw[if_pos h6]at hsn;simp +decide only[↓vS,vT,simprocAttr,hlt',hlt,h4,hel,cSy,h6,n0,n1,n2,t2,t1,qtm,qEv,hw1];refine ih (i+1) _ _ Ac Ak ⟨Ac,s+1,_,rfl,Ac,?_,?_,?_⟩
    all_goals grind[Tr.get_set]
   .rw[if_neg h6]at hsn;simp +decide only[↓vS,vT,simprocAttr,hlt',hlt,h4,hel,cSy,h6,hw1];refine ih (i+1) _ _ Ac Ak ⟨Ac,s+1,_,rfl,Ac,?_,?_,?_⟩
    all_goals grind[Tr.get_set]
  .obtain rfl:i=l.length:=Ac
   have hlt':¬((l.length:Int)<l.length):=Ac
   rw[zz0]at t1;refine Sa (zzA hlt' t0) ?_;refine qm6 hc2 c1 c2 c3 l hl (zzu _) (qed l) (λx hx j hj s' tr' k' hs' hold hk'=>?_) λs' tr' b hs' hold hb1 hb2 hg=>?_
   .have hjl:=hin x hx j hj;obtain⟨y,hy⟩:∃y,l[j]?=some y:=⟨_,zzE hjl⟩;have g0:=(hold 0 Ac).trans t0;have g1:=(hold 1 Ac).trans t1;have g2:=(hold 2 Ac).trans t2;have gc:=qkr hy (i:=0) Ac;have gc':(rSy l)[j*4]?=some (.h y.code):=gc;have gk:=qkr hy (i:=1) Ac;have gk':(rSy l)[j*4+1]?=some (.w y.k):=gk;refine SC.mk hc1 (qj ?_);simp only[qdc,vI,simprocAttr]
    by_cases h6:y.code=6
    .obtain⟨i,z,q1,q2,q3,q4,q5⟩:=qkX hy h6;have e:qed l j=i:=by unfold qed;rw[hy];simp[h6,q1]
     rw[e]at hk';refine Sa (zzA g0 (zzA gc' (zzA hjl h6))) ?_;refine zB ?_;simp +decide only[↓vS,vT,simprocAttr,g0,g1,g2,gk',hjl,qtm,qxF,qAD q1];exact Ac
    .have e:qed l j=j:=by unfold qed;rw[hy];simp[h6]
     rw[e]at hk';refine Sa (zzA g0 (zzA gc' (zzA hjl h6))) ?_;exact Ac
   .refine Ab ?_;have e:(qfM l).length=l.length:=by simp[qfM]
    simp[vZ,vP,hg,e,zc zf];refine⟨λh=>?_,?_⟩
    .rw[h];rfl
    .exact Frzs.self zf
 .exact Ak
 .refine⟨zzu _,_,_,rfl,Ac,?_,?_,?_⟩<;>simp[zz4,mkE,qkd]
def jg(a:Nat):IFn:=irJ 231 [295,a]
def qJq{g:Nat}(hc:Ck P f (jg g))(l:List Sy):qa P f [.fz l.length (rSy l)] (.fn g [] [.pf [.fz l.length (rSy l)] 0]):=by
 refine Bu ?_;simp only[jg,vI,simprocAttr];refine Ab ?_;simp[vZ,vP,zz4,zc zf]
def qG:IFn:=irJ 295 []
def xD{α:Type}{c:α->List AV}{l:List α}{lb:Nat}(hc:Ck P f qG)(hm:∀x,(c x).length=4)(hn:l.length<=1000000)(J:Nat->Hp->Prop)
  (hy:∀(i:Nat) x h,l[i]?=some x->J (i+1) h->∀k:AV->Hp->Prop,(∀h',J i h'->k (.b true) h')->SY P lb [.j (i:Int),.agg (c x)] h k)
  {s:Nat}{tr:Tr Blk}{k:AV->Hp->Prop}(h0:J l.length ⟨s,0,tr⟩) (hk:∀h,J 0 h->k (.tup []) h):SC P f [.yl lb,.pf [.fz l.length (l.flatMap c)] 0] ⟨s,0,tr⟩ k:=by
 refine Bb ?_;simp only[qG,vI,simprocAttr];have e1:IntKind.wrap .i64 ((l.length:Int)-1)=(l.length:Int)-1:=Dm
 refine Sa e1 ?_;refine SL.loopP (α:=Nat) (λi=>[(0,.yl lb),(1,.pf [.fz l.length (l.flatMap c)] 0),(3,.j ((i:Int)-1))]) (λi h=>i<=l.length/\J i h) (λi=>i) ?_ l.length ?_ ?_
 .rintro i h1 ⟨hi,hj⟩ G ih;obtain⟨s',fl',tr'⟩:=h1;refine Am ?_;cases i with
  | zero =>
   have n0:¬(0:Int)<=((0:Nat):Int)-1:=Ac
   refine Sa n0 ?_;exact hk _ hj
  | succ i =>
   have n0:(0:Int)<=((i+1:Nat):Int)-1:=Ac
   have e2:((i+1:Nat):Int)-1=(i:Int):=Ac
   obtain⟨x,hx⟩:∃x,l[i]?=some x:=⟨_,zzE Ac⟩;have hel:=qI (f:=c) (m:=4) hm hx;have hlt:i<l.length:=Ac
   have h4:i*4+4<=(l.flatMap c).length:=by rw[zb hm];exact Ac
   have n1:(0:Int)<=(i:Int):=Ac
   have e3:IntKind.wrap .i64 ((i:Int)-1)=(i:Int)-1:=Dm
   rw[e2];refine Sa (zzA n1 (zzA hlt (zzA h4 hel))) ?_;refine hy i x _ hx hj _ λh' hj'=>?_
   refine Sa e3 ?_;exact ih i _ _ Ac Ak ⟨Ac,hj'⟩
 all_goals simp_all[qh,qk,zz4]
def qO:IFn:=irJ 409 []
def qaa{α:Type}{c:α->List AV}{l:List α}{lb:Nat}(hc:Ck P f qO)(hm:∀x,(c x).length=4)(hn:l.length<=1000000)(J:Nat->Hp->Prop)
  (hy:∀(i:Nat) x h,l[i]?=some x->J (i+1) h->∀k:AV->Hp->Prop,(∀h',J i h'->k (.b true) h')->SY P lb [.j (i:Int),.agg (c x)] h k)
  {s:Nat}{tr:Tr Blk}{k:AV->Hp->Prop}(h0:J l.length ⟨s,0,tr⟩) (hk:∀h,J 0 h->k (.tup []) h):SC P f [.yl lb,.pf [.fz l.length (l.flatMap c)] 0] ⟨s,0,tr⟩ k:=by
 refine Bb ?_;simp only[qO,vI,simprocAttr];have e1:IntKind.wrap .i64 ((l.length:Int)-1)=(l.length:Int)-1:=Dm
 refine Sa e1 ?_;refine SL.loopP (α:=Nat) (λi=>[(0,.yl lb),(1,.pf [.fz l.length (l.flatMap c)] 0),(3,.j ((i:Int)-1))]) (λi h=>i<=l.length/\J i h) (λi=>i) ?_ l.length ?_ ?_
 .rintro i h1 ⟨hi,hj⟩ G ih;obtain⟨s',fl',tr'⟩:=h1;refine Am ?_;cases i with
  | zero =>
   have n0:¬(0:Int)<=((0:Nat):Int)-1:=Ac
   refine Sa n0 ?_;exact hk _ hj
  | succ i =>
   have n0:(0:Int)<=((i+1:Nat):Int)-1:=Ac
   have e2:((i+1:Nat):Int)-1=(i:Int):=Ac
   obtain⟨x,hx⟩:∃x,l[i]?=some x:=⟨_,zzE Ac⟩;have hel:=qI (f:=c) (m:=4) hm hx;have hlt:i<l.length:=Ac
   have h4:i*4+4<=(l.flatMap c).length:=by rw[zb hm];exact Ac
   have n1:(0:Int)<=(i:Int):=Ac
   have e3:IntKind.wrap .i64 ((i:Int)-1)=(i:Int)-1:=Dm
   rw[e2];refine Sa (zzA n1 (zzA hlt (zzA h4 hel))) ?_;refine hy i x _ hx hj _ λh' hj'=>?_
   refine Sa e3 ?_;exact ih i _ _ Ac Ak ⟨Ac,hj'⟩
 all_goals simp_all[qh,qk,zz4]
def qod{α:Type}{f:α->List AV}{m:Nat}(h:∀x,(f x).length=m){xs:List α}{j:Nat}(x':α)(hj:j<xs.length):(xs.flatMap f).take (j*m)++(f x'++(xs.flatMap f).drop (j*m+m))=(xs.set j x').flatMap f:=by
 have e:xs=xs.take j++xs[j]::xs.drop (j+1):=by rw[List.getElem_cons_drop,List.take_append_drop]
 have e1:(xs.flatMap f).take (j*m)=(xs.take j).flatMap f:=qfo h xs j;have e2:(xs.flatMap f).drop (j*m+m)=(xs.drop (j+1)).flatMap f:=by rw[<- qdB h xs (j+1),Nat.add_mul];simp
 rw[e1,e2,List.set_eq_take_append_cons_drop,if_pos hj];simp
def qrx{l:List Sy}{j:Nat}(y:Sy)(hj:j<l.length):(rSy l).take (j*4)++(cSy y++(rSy l).drop (j*4+4))=rSy (l.set j y):=qod qeo y hj
def jp(out:List Sy)(j:Nat):Nat:=match out[j]? with|some x=>if x.code=5 then x.th else j|none=>j
def qbh(out:List Sy)(x:Sy):Sy:=if qc5 (qba (jp out) x)/\(qba (jp out) x).th=(qba (jp out) x).el then⟨5,0,(qba (jp out) x).th,0⟩else qba (jp out) x
def qgi(l:List Sy):Nat->List Sy
 | 0=>l
 | m+1=>match l[l.length-(m+1)]? with|some x=>(qgi l m).set (l.length-(m+1)) (qbh (qgi l m) x)|none=>qgi l m
def qfO{l:List Sy}:∀{m:Nat},(qgi l m).length=l.length
 | 0=>rfl
 | m+1=>by
  unfold qgi;split
  .rw[List.length_set,qfO]
  .exact qfO
def qpV(l:List Sy):List Sy:=qgi l l.length
def qal:IFn:=irJ 301 []
def qpY(hc:Ck P f qal)(out:List Sy)(j:Nat)(hj:j<out.length):qa P f [.j (j:Int),.pf [.fz out.length (rSy out)] 0] (.j ((jp out j:Nat):Int)):=by
 refine Bu ?_;obtain⟨y,hy⟩:∃y,out[j]?=some y:=⟨_,zzE hj⟩;have gc:(rSy out)[j*4]?=some (.h y.code):=qkr hy (i:=0) Ac;have gt:(rSy out)[j*4+2]?=some (.j (y.th:Int)):=qkr hy (i:=2) Ac;simp only[qal,vI,simprocAttr]
 by_cases h5:y.code=5
 .have e:jp out j=y.th:=by unfold jp;rw[hy];exact Ah
  refine Sa (zzA gc (zzA gt (zzA hj h5))) ?_;simp[vZ,e]
 .have e:jp out j=j:=by unfold jp;rw[hy];exact Ah
  refine Sa (zzA gc (zzA gt (zzA hj h5))) ?_;simp[vZ,e]
def qa8(a b c d e:Nat):ICode:=icJ 234 [300,a,301,b,231,c,298,d,302,e] 31
def qdd(a b c d e:Nat):IFn:=irJ 234 [300,a,301,b,231,c,298,d,302,e] [31] [qa8 a b c d e]
def thT(gB:Nat)(l:List Sy):List (Nat×AV):=[(3,.ptr 1 0),(4,.ptr 2 0),(11,.fn gB [] [.pf [.fz l.length (rSy l)] 0])]
def thA:ICode:=sq [.reg false [⟨some 5,.op (.mov (.t 12)),none⟩],.reg false [⟨some 6,.op (.alloc [.h 0,.w 0,.j 0,.j 0]),none⟩,⟨none,.op (.store 4 (.t 6) (.t 13)),none⟩]]
def thB(gM gA:Nat):ICode:=.blk 1 (sq [.reg true [.q 14 (.load1 (.t 3)),.m 15 (.t 5),.q 16 (.loadN 4 (.t 6)),.q 17 (.buildS 1 [.h 0,.w 0,.j 0,.j 0] [(0,4,(.t 16))]),.q 18 (.load1 (.t 4)),.l 19 gM [.t 17,.t 18],.q 20 (.iAddrS 4 (.t 19) (.k 0)),.q 21 (.loadN 4 (.t 20)),.q 22 (.iAddrS 4 (.t 14) (.t 15)),.u (.store 4 (.t 22) (.t 21))],.r [.q 23 (.load1 (.t 3)),.m 24 (.t 5),.q 25 (.iAddrS 4 (.t 23) (.t 24)),.q 26 (.loadN 4 (.t 25)),.u (.store 4 (.t 6) (.t 26))],.r [.q 27 (.loadN 4 (.t 6)),.l 28 gA [.t 27],.m 29 (.t 28),.g 30 (.fAddr 2 (.t 6)) 29 true,.g 31 (.load1 (.t 30)) 29 true,.g 32 (.fAddr 3 (.t 6)) 29 true,.g 33 (.load1 (.t 32)) 29 true,.g 34 (.bin .eql (.t 31) (.t 33)) 29 true,.q 35 (.pick (.t 29) (.t 34) (.c (.b false)))],.cond (.t 35) (.r [.q 36 (.load1 (.t 3)),.m 37 (.t 5),.q 38 (.fAddr 2 (.t 6)),.q 39 (.load1 (.t 38)),.q 40 (.build [.h 0,.w 0,.j 0,.j 0] [(0,1,(.c (.h 5))),(2,1,(.t 39))]),.q 41 (.iAddrS 4 (.t 36) (.t 37)),.u (.store 4 (.t 41) (.t 40))]) (.skip)])
def thI(g1:Nat)(r0:Loop)(ts:List (Nat×AV))(n:Nat)(out:List Sy)(s:Nat)(tr:Tr Blk):Prop :=
 out.length=n/\4<=s/\tr.get 0=some (.cells 4 true true (rSy out))/\tr.get 1=some (.v [.own 0 n])/\tr.get 2=some (.v [.fn g1 [] [.ptr 1 0]])/\tr.get 3=some (.map (zu r0 ts))
def qz4{g1 gB gM gA s n:Nat}{r0:Loop}{l out:List Sy}{tr:Tr Blk}{k:AV->Hp->Prop}
  (hM:∀(x:Sy) (out:List Sy),out.length=n->(∀j:Nat,(qbx x/\j=x.th)\/(qc5 x/\j=x.el)->j<n)->qjv P gM [.fz 1 (cSy x),.fn g1 [] [.pf [.fz out.length (rSy out)] 0]] (.own 0 1) [.cells 4 true true (cSy (qba (jp out) x))])
  (hA:qgZ P gA) (hr0:r0.state = .ready) (hp0:r0.pending=none) (hlo:LoopOk P r0 [12,13] thA (thB gM gA)) (hI:thI g1 r0 (thT gB l) n out s tr) (i:Nat) (hi:i<n) (x:Sy) (hx:∀j:Nat,(qbx x/\j=x.th)\/(qc5 x/\j=x.el)->j<n)
  (hk:∀s' tr',thI g1 r0 (thT gB l) n (out.set i (qbh out x)) s' tr'->k (.b true) ⟨s',0,tr'⟩):SY P 3 [.j (i:Int),.agg (cSy x)] ⟨s,0,tr⟩ k:=by
 obtain⟨hn,h4,h0,h1,h2,h3⟩:=hI;refine SY.mk (r:=r0) (ts:=thT gB l) (ps:=[12,13]) h3 hr0 hlo (zzu _) Ah rfl ?_;rw[show mkT (thT gB l)=((Tr.leaf.set 11 (.fn gB [] [.pf [.fz l.length (rSy l)] 0])).set 4 (.ptr 2 0)).set 3 (.ptr 1 0)from rfl]
 refine qj ?_;simp only[qkp,thA,cSy,vI,simprocAttr];refine Ab ?_;have n3:¬3=s:=Ac
 have n0:¬0=s:=Ac
 have n1:¬1=s:=Ac
 have n2:¬2=s:=Ac
 have m0:¬0=s+1:=Ac
 have m1:¬1=s+1:=Ac
 have m2:¬2=s+1:=Ac
 have m3:¬3=s+1:=Ac
 have q1:¬s=s+1:=Ac
 have q2:¬s=s+1+1:=Ac
 have q3:¬0=s+1+1:=Ac
 have q4:¬1=s+1+1:=Ac
 have q5:¬2=s+1+1:=Ac
 have q6:¬3=s+1+1:=Ac
 have ns3:¬s=3:=Ac
 have ns0:¬s=0:=Ac
 refine⟨thT gB l,Fw,?_⟩
 refine qj ?_;simp only[qC,thB,vI,simprocAttr];refine Ab ?_;refine zB ?_;have e1:¬(0:Nat)=3:=Af
 have e2:¬(1:Nat)=3:=Af
 have e3:¬(2:Nat)=3:=Af
 simp +decide only[↓vS,vT,simprocAttr,h1,h2,e1,e2,e3,n0,n1,n2,ns3,m0,m1,m2,q1]
 have fr0:∀(f2:Nat) (t2:Tr Blk),t2.get (s+1)=some (.v (cSy x))->t2.get 1=some (.v [.own 0 n])->t2.get 0=some (.cells 4 true true (rSy out))->
   Frzs ⟨s+1+1,f2,t2⟩ [.sl (s+1) 0 1 1 false,.fn g1 [] [.ptr 1 0]] [.fz 1 (cSy x),.fn g1 [] [.pf [.fz out.length (rSy out)] 0]]:=λf2 t2 p1 p2 p3=>by
  refine qaU.2 ⟨Frz.cut 4 rfl (zzL _) ?_,qaU.2 ⟨qxQ.2 ⟨rfl,qf2.2 trivial,qaU.2 ⟨qxO.2 ⟨rfl,?_⟩,qf2.2 trivial⟩⟩,qf2.2 trivial⟩⟩
  .rw[p1];simp[vP,cSy,vZ]
  .rw[p2];simp[vP,vZ,p3,hn]
   grind[Frzs.self,zf]
 refine(hM x out hn hx).pc (fr0 _ _ ?_ ?_ ?_) ?_
 .exact Ea
 .rw[zz4,if_neg m1,zz4,if_neg Af,zz4,if_neg n1,zz4,if_neg n1];exact h1
 .rw[zz4,if_neg m0,zz4,if_neg Af,zz4,if_neg n0,zz4,if_neg n0];exact h0
 simp only[vJ,simprocAttr];obtain⟨y,hy⟩:∃y,y=qba (jp out) x:=⟨_,rfl⟩;have hset:=qrx (l:=out) (j:=i) y Ac;have h44:i*4+4<=(rSy out).length:=by rw[qaq];exact Ac
 have hget:(out.set i y)[i]?=some y:=Ad
 have hel:=qfK hget;have h45:i*4+4<=(rSy (out.set i y)).length:=by rw[qaq,List.length_set];exact Ac
 have hset2:=qrx (l:=out.set i y) (j:=i) ⟨5,0,y.th,0⟩ (by rw[List.length_set];exact Ac);rw[List.set_set]at hset2;have hin:(i:Nat)<n:=hi;rw[<- hy];simp +decide only[↓vS,vT,simprocAttr,xt zf,h0,e1,e2,e3,n0,n1,n2,ns3,m0,m1,m2,q1,q2,q3,q4,q5,cSy,hin];simp only[cSy,zzC,zzN]at hset hset2 hel;have ha:=hA y;simp only[cSy]at ha;have hi0:i<n:=hi;simp +decide only[↓vS,vT,simprocAttr,h44,hset,h1,e1,e2,e3,n0,n1,n2,ns3,ns0,m0,m1,m2,q1,q2,q3,q4,q5,hi0,h45,hel];refine ha.sc ?_
 have fin:∀(s2:Nat) (t2:Tr Blk) (z:Sy),4<=s2->qbh out x=z->t2.get 0=some (.cells 4 true true (rSy (out.set i z)))->t2.get 1=tr.get 1->t2.get 2=tr.get 2->t2.get 3=some (.map (zu (Go.Kc.bsy r0) (thT gB l)))->∀tt,qFE 3 k .normal tt ⟨s2,0,t2⟩:=by
  intro s2 t2 z p1 p2 p3 p4 p5 p6 tt;refine⟨Go.Kc.bsy r0,thT gB l,p6,?_⟩;rw[qeL,qgg hr0 hp0];simp only[qC];refine Ab ?_;refine hk _ _ ⟨by rw[List.length_set];exact hn,p1,?_,?_,?_,?_⟩
  all_goals grind[Tr.get_set]
 have old:∀(b:Nat) (u1 u2 u3 u4 u5 u6:Blk),b<s->b≠0->b≠3->(((((((tr.set s u1).set s u2).set 3 u3).set (s+1) u4).set (s+1+1) u5).set 0 u6).set s u1).get b=tr.get b:=λb u1 u2 u3 u4 u5 u6 p1 p2 p3=>by
  simp only[zz4];repeat rw[if_neg Ac]
 have s0:¬0=s:=n0
 by_cases h4':qc5 y
 .by_cases h5:y.th=y.el
  .have h5':(y.th:Int)=y.el:=Ac
   have he:qbh out x=⟨5,0,y.th,0⟩:=by unfold qbh;rw[<- hy,if_pos ⟨h4',h5⟩]
   have h46:i*4+4<=(rSy (out.set i y)).length:=h45;simp +decide only[↓vS,vT,simprocAttr,h4',eq_true h5',h44,hset,h1,e1,e2,e3,n0,n1,n2,ns3,ns0,m0,m1,m2,q1,q2,q3,q4,q5,hi0,h45,hel,hset2];refine fin _ _ _ Ac he ?_ ?_ ?_ ?_ _
   .rw[zz4,if_pos rfl,<- hset2];rfl
   .simp only[zz4];exact Ah
   .simp only[zz4];exact Ah
   .simp only[zz4];rw[if_neg Ac,if_neg Ac,if_neg Ac,if_neg Ac,if_neg Ac];simp
  .have h5':¬(y.th:Int)=y.el:=Ac
   have he:qbh out x=y:=by unfold qbh;rw[<- hy,if_neg λh=>h5 h.2]
   simp +decide only[↓vS,vT,simprocAttr,h4',h5',h44,hset,h1,e1,e2,e3,n0,n1,n2,ns3,ns0,m0,m1,m2,q1,q2,q3,q4,q5,hi0,h45,hel];refine fin _ _ _ Ac he ?_ ?_ ?_ ?_ _
   .rw[zz4,if_neg n0,zz4,if_pos rfl]
   .simp only[zz4];repeat rw[if_neg Ac]
   .simp only[zz4];repeat rw[if_neg Ac]
   exact Ay
 .have he:qbh out x=y:=by unfold qbh;rw[<- hy,if_neg λh=>h4' h.1]
  simp +decide only[↓vS,vT,simprocAttr,h4',h44,hset,h1,e1,e2,e3,n0,n1,n2,ns3,ns0,m0,m1,m2,q1,q2,q3,q4,q5,hi0,h45,hel];refine fin _ _ _ Ac he ?_ ?_ ?_ ?_ _
  .rw[zz4,if_neg n0,zz4,if_pos rfl]
  .simp only[zz4];repeat rw[if_neg Ac]
  .simp only[zz4];repeat rw[if_neg Ac]
  exact Ay
def qrQ{n0 g1 g2 g3 g4 g5 s n:Nat}{tr:Tr Blk}{t:Tr AV}{out:List Sy}(ht:t.get 3=some (.ptr 1 0))(h1:tr.get 1=some (.v [.own 0 n]))(h0:tr.get 0=some (.cells 4 true true (rSy out)))(hn:out.length=n) :
  S P n0 (qa8 g1 g2 g3 g4 g5) (xG [.tmp 2] λv' h'=>Frz h' v' (.fz n (rSy out))) t ⟨s,0,tr⟩:=by
 refine S.has [(3,.ptr 1 0)] (by grind[qh,qk]) (qj ?_);simp only[qa8,vI,simprocAttr];refine Sb h1 ?_;simp[vZ,vP,zz4,h0];refine⟨λh=>?_,Frzs.self zf⟩
 rw[List.eq_nil_of_length_eq_zero (hn.trans h)];rfl
def qnS{gC g1 gB gM gA gi h1 h2 h3:Nat}(hc:Ck P f (qdd gC g1 gB gM gA))(c0:qbB P gC 4 24)(hc1:Ck P g1 qal)(hB:∀l:List Sy,qa P gB [.fz l.length (rSy l)] (.fn gi [] [.pf [.fz l.length (rSy l)] 0]))
  (hi:Ck P gi qG) (hM:Ck P gM (jy h1 h2 h3)) (c1:qbB P h1 4 24) (c2:cOf P h2) (c3:qgZ P h3) (hA:qgZ P gA) (l:List Sy) (hl:l.length<=200000) (hin:qnU l) :
  qa P f [.fz l.length (rSy l)] (.fz (qpV l).length (rSy (qpV l))):=by
 have hMo:∀(x:Sy) (out:List Sy),out.length=l.length->(∀j:Nat,(qbx x/\j=x.th)\/(qc5 x/\j=x.el)->j<l.length)->qjv P gM [.fz 1 (cSy x),.fn g1 [] [.pf [.fz out.length (rSy out)] 0]] (.own 0 1) [.cells 4 true true (cSy (qba (jp out) x))]:=by
  intro x out ho hx
  have:=qvq (gt:=g1) (caps:=[.pf [.fz out.length (rSy out)] 0]) hM c1 c2 c3 [x] (by simp) (jp out) λy hy j hj=>by
   rw[zz1]at hy;subst hy;exact qpY hc1 out j (by rw[ho];exact Ad)
  simpa[rSy]using this
 refine Bu ?_;simp only[qdd,vI,simprocAttr];refine Ab ?_;refine(c0 l.length (rSy l) qaq zf qzB (by simp only[qe];exact Ac) (by simp only[qe];exact Ac)).sc ?_;simp only[vJ,simprocAttr];simp +decide only[↓vS,vT,simprocAttr,xt zf];refine(hB l).sc ?_;refine Ab ?_;refine S.rangeFL (ts:=thT gi l) (zzu _) (by intro p hp;simp only[thT,zzc,List.not_mem_nil,or_false]at hp;rcases hp with rfl|rfl|rfl<;>simp[zz4]) ⟨rfl,rfl⟩ ?_;refine qlk.2 ⟨.fn gi [] [.pf [.fz l.length (rSy l)] 0],Bn,?_⟩
 refine⟨qcK hi,λr0 hr0 hp0 hlo=>⟨r0,.inl ⟨rfl,hlo.real⟩,?_⟩⟩
 have hlo:LoopOk P r0 [12,13] thA (thB gM gA):=hlo;refine xD (c:=cSy) hi qeo Ac (λi h=>∃s tr,h=⟨s,0,tr⟩/\thI g1 r0 (thT gi l) l.length (qgi l (l.length-i)) s tr/\i<=l.length) ?_ ?_ ?_
 .rintro i x h hx ⟨s,tr,rfl,hI,hil⟩ k hk;have hi':i<l.length:=Ac
  refine qz4 hMo hA hr0 hp0 hlo hI i hi' x (hin x Ah) λs' tr' hI'=>hk _ ⟨s',tr',rfl,?_,Ac⟩
  have e:l.length-i=(l.length-(i+1))+1:=Ac
  have e2:l.length-(l.length-(i+1)+1)=i:=Ac
  have e3:qgi l (l.length-i)=(qgi l (l.length-(i+1))).set i (qbh (qgi l (l.length-(i+1))) x):=by
   rw[e,qgi,e2,hx]
  rw[e3];exact Ac
 .refine⟨_,_,rfl,⟨qfO,by simp,?_,?_,?_,?_⟩,zzL _⟩<;>simp[zz4,qmM,Hp.push,qgi,xt zf]
 .rintro h ⟨s,tr,rfl,⟨hn,h4,q0,q1,q2,q3⟩,_⟩;rw[Nat.sub_zero]at q0;refine⟨r0,thT gi l,q3,by rw[hr0];exact Af,?_⟩
  rw[hp0];simp only[qC];refine Ae ?_;have e:(qpV l).length=l.length:=qfO;rw[e];refine qrQ Bn ?_ ?_ qfO
  .rw[zz4,if_neg Af];exact q1
  .rw[zz4,if_neg Af];exact q0
def rBo(l:List Bool):List AV:=l.map .b
def ql7{l:List Bool}:(rBo l).length=l.length:=by simp[rBo]
def qpG{l:List Bool}{j:Nat}:(rBo l)[j]?=(l[j]?).map .b:=by simp[rBo]
def qzq{l:List Bool}:qu (rBo l)=true:=qcJ λ_=>rfl
def ql8{l:List Bool}{j:Nat}(hj:j<l.length):(rBo l).take j ++ .b true::(rBo l).drop (j+1)=rBo (l.set j true):=by
 rw[List.set_eq_take_append_cons_drop,if_pos hj];simp[rBo,List.map_take,List.map_drop]
def qfe(A:List Bool)(j:Nat)(x:Sy):List Bool :=
 if A[j]?≠some true\/x.code=6 then A else if qm x.code≠4 then A.set (j+1) true else if qc5 x then(A.set x.th true).set x.el true else A.set x.th true
def wP(l:List Sy):Nat->List Bool
 | 0=>(List.replicate l.length false).set 0 true
 | m+1=>match l[m]? with|some x=>qfe (wP l m) m x|none=>wP l m
def qwj{A:List Bool}{j:Nat}{x:Sy}:(qfe A j x).length=A.length:=by
 unfold qfe;exact Ah
def qbz{l:List Sy}:∀{m:Nat},(wP l m).length=l.length
 | 0=>by simp[wP]
 | m+1=>by
  unfold wP;split
  .rw[qwj,qbz]
  .exact qbz
def zR(l:List Sy):List Bool:=wP l l.length
def qDJ(l:List Sy):Prop:=∀(j:Nat) x,l[j]?=some x->x.code≠6->qm x.code≠4->j+1<l.length
def qf7(a b:Nat):IFn:=irJ 303 [131,a,302,b]
def qrX{g1 g2:Nat}(hc:Ck P f (qf7 g1 g2))(h1:cOf P g1)(h2:qgZ P g2)(l:List Sy)(hl:l.length<=200000)(h0:0<l.length)(hin:qnU l)(hon:qDJ l):qa P f [.fz l.length (rSy l)] (.fz l.length (rBo (zR l))):=by
 refine Bu ?_;have r1:l.length<=qe:=by simp only[qe];exact Ac
 have r2:1*l.length<=qe:=Ac
 have hz:(List.replicate l.length [AV.b false]).flatten=rBo (List.replicate l.length false):=by simp[rBo]
 have hz0:=ql8 (l:=List.replicate l.length false) (j:=0) Ad;have hzl:0+1<=(rBo (List.replicate l.length false)).length:=by rw[ql7];exact Ah
 rw[List.take_zero,zzN]at hz0;simp only[qf7,vI,simprocAttr];simp +decide only[↓vS,vT,simprocAttr,r1,r2,hz,h0,Nat.one_mul,Nat.zero_mul,hzl,hz0]
 refine SL.loopP (α:=Nat) (λi=>[(3,.sl 0 0 l.length l.length false),(11,.fz l.length (rSy l)),(12,.j (l.length:Int)),(13,.j (i:Int))])
  (λi h=>i<=l.length/\∃s tr,h=⟨s,0,tr⟩/\1<=s/\tr.get 0=some (.v (rBo (wP l i)))) (λi=>l.length-i) ?_ 0 ?_ ?_
 .rintro i h1' ⟨hi,s,tr,rfl,hs,t0⟩ G ih;refine Am ?_
  by_cases hlt:i<l.length
  .have hlt':(i:Int)<l.length:=Ac
   obtain⟨x,hx⟩:∃x,l[i]?=some x:=⟨_,zzE hlt⟩;have hel:=qfK hx;have h4:i*4+4<=(rSy l).length:=by rw[qaq];exact Ac
   have hw1:=wS i;have n0:¬0=s:=Ac
   have n0s:¬s=0:=Ac
   have hAl:(wP l i).length=l.length:=qbz;obtain⟨b,hb⟩:∃b,(wP l i)[i]?=some b:=⟨_,zzE Ac⟩;have hgb:(rBo (wP l i))[i]?=some (.b b):=by rw[qpG,hb];rfl
   have hst:wP l (i+1)=qfe (wP l i) i x:=by rw[wP,hx]
   have fin:∀(t2:Tr Blk) tt,t2.get 0=some (.v (rBo (wP l (i+1))))->Has tt [(3,.sl 0 0 l.length l.length false),(11,.fz l.length (rSy l)),(12,.j (l.length:Int)),(13,.j ((i+1:Nat):Int))]->G tt ⟨s+1,0,t2⟩:=Ah
   have ha:=h2 x;simp only[cSy]at ha;have sl:∀(A:List Bool) (j:Nat),A.length=l.length->j<l.length->j+1<=(rBo A).length:=λA j h1 h2=>by rw[ql7];exact Ac
   cases b with
   | false =>
    have e:qfe (wP l i) i x=wP l i:=by unfold qfe;exact D1
    rw[hst,e]at fin;simp +decide only[↓vS,vT,simprocAttr,hlt',hlt,h4,hel,cSy,n0,t0,hgb,zzU,hw1];exact fin _ _ Ay Ak
   | true =>
    by_cases h6:x.code=6
    .have e:qfe (wP l i) i x=wP l i:=by unfold qfe;exact Ah
     rw[hst,e]at fin;simp +decide only[↓vS,vT,simprocAttr,hlt',hlt,h4,hel,cSy,n0,t0,hgb,zzU,hw1,eq_true h6];exact fin _ _ Ay Ak
    .simp +decide only[↓vS,vT,simprocAttr,hlt',hlt,h4,hel,cSy,n0,t0,hgb,zzU,hw1,h6];refine(h1 x.code).sc ?_
     by_cases hj:qm x.code=4
     .have hth:=hin x Ah x.th (.inl ⟨hj,rfl⟩);have b1:=ql8 (l:=wP l i) (j:=x.th) Ac;have b2:=sl (wP l i) x.th hAl hth;simp +decide only[↓vS,vT,simprocAttr,hj,n0,n0s,t0,hth,b1,b2,zzU];refine ha.sc ?_
      by_cases hk:qc5 x
      .have hel2:=hin x Ah x.el Ah;have b3:=ql8 (l:=(wP l i).set x.th true) (j:=x.el) (by rw[List.length_set];exact Ac);have b4:=sl ((wP l i).set x.th true) x.el (by rw[List.length_set];exact Ac) hel2;have e:qfe (wP l i) i x=((wP l i).set x.th true).set x.el true:=by unfold qfe;exact Ah
       rw[hst,e]at fin;simp +decide only[↓vS,vT,simprocAttr,hk,n0,n0s,hel2,b3,b4,zzU,hw1];exact fin _ _ Br Ak
      .have e:qfe (wP l i) i x=(wP l i).set x.th true:=by unfold qfe;exact Ah
       rw[hst,e]at fin;refine Sa (zzA hk hw1) ?_;exact fin _ _ Br Ak
     .have hnx:=hon i x hx h6 hj;have b1:=ql8 (l:=wP l i) (j:=i+1) Ac;have b2:=sl (wP l i) (i+1) hAl hnx;have e:qfe (wP l i) i x=(wP l i).set (i+1) true:=by unfold qfe;exact Ah
      rw[hst,e]at fin;simp +decide only[↓vS,vT,simprocAttr,hj,n0,t0,hnx,b1,b2,zzU,hw1];exact fin _ _ Br Ak
  .obtain rfl:i=l.length:=Ac
   have hlt':¬((l.length:Int)<l.length):=Ac
   refine Sa hlt' ?_;have hAl:(wP l l.length).length=l.length:=qbz;show Frz _ _ _;refine Frz.cut 1 rfl (zzL _) ?_;rw[t0];simp[vP,ql7,hAl];rw[zzt (by rw[ql7,hAl];exact Ac)];exact Frzs.self qzq
 .exact Ak
 .refine⟨zzu _,_,_,rfl,Ac,?_⟩
  simp[zz4,wP]
def xl(A:List Bool)(j:Nat):Nat:=(A.take j).countP (· = true)
def rPl(A:List Bool)(n:Nat):List AV:=(List.range n).map λj=>.j (xl A j:Int)
theorem qpK{A:List Bool}{n:Nat}:(rPl A n).length=n:=by simp[rPl]
def qtV{A:List Bool}{n j:Nat}(h:j<n):(rPl A n)[j]?=some (.j (xl A j:Int)):=by simp[rPl,h]
def qfk{A:List Bool}{j:Nat}{b:Bool}(h:A[j]?=some b):xl A (j+1)=xl A j+if b=true then 1 else 0:=by
 unfold xl;rw[qbv h,List.countP_append];cases b<;>simp
def qpk{A:List Bool}{j:Nat}:xl A j<=j:=by
 unfold xl;grind[List.length_take]
def qc0{α:Type}:List Bool->List α->List α
 | b::A,x::l=>if b=true then x::qc0 A l else qc0 A l
 | _,_=>[]
def qoQ{α:Type}:∀{A:List Bool}{l:List α}{j:Nat}{b:Bool}{x:α},A[j]?=some b->l[j]?=some x->qc0 (A.take (j+1)) (l.take (j+1))=qc0 (A.take j) (l.take j)++if b=true then [x]else []
 | [],_,_,_,_,h,_=>Ah
 | _::_,[],_,_,_,_,h=>Ah
 | c::A,y::l,0,b,x,h1,h2=>by
  simp at h1 h2;subst h1 h2;cases c<;>simp[qc0]
 | c::A,y::l,j+1,b,x,h1,h2=>by
  have:=qoQ (A:=A) (l:=l) (j:=j) (b:=b) (x:=x) Ad Ad;rw[List.take_succ_cons,List.take_succ_cons,List.take_succ_cons,List.take_succ_cons];simp only[qc0,this];cases c<;>simp
def qrF{α:Type}:∀{A:List Bool}{l:List α},A.length=l.length->(qc0 A l).length=A.countP (· = true)
 | [],[],_=>rfl
 | b::A,x::l,h=>by
  have:=qrF (A:=A) (l:=l) Ad;cases b<;>simp[qc0,this]
 | [],_::_,h=>Ah
 | _::_,[],h=>Ah
def qhF(l:List Sy):List Sy:=qc0 (zR l) (l.map (qba (xl (zR l))))
def qdg(n b:Nat):AV:=if n=0 then .nils else .own b n
def qa1:IFn:=irJ 304 []
def qcp(a b c:Nat):ICode:=icJ 235 [303,a,304,b,298,c] 63
def qeT(a b c:Nat):IFn:=irJ 235 [303,a,304,b,298,c] [63] [qcp a b c]
def qvm{n0 g1 g2 g3 h1 h2 h3 s:Nat}{tr:Tr Blk}{t:Tr AV}(hc1:Ck P g2 qa1)(hc3:Ck P g3 (jy h1 h2 h3))(c1:qbB P h1 4 24)(c2:cOf P h2)(c3:qgZ P h3)(l:List Sy)(hl:l.length<=200000)(hin:qnU l)
  (hs:2<=s) (t0:tr.get 0=some (.v (rPl (zR l) l.length))) (t1:tr.get 1=some (.v [.sl 0 0 l.length l.length false]))
  (ht:Has t [(0,.fz l.length (rSy l)),(3,.fz l.length (rBo (zR l))),(4,.ptr 1 0)]) :
  S P n0 (qcp g1 g2 g3) (xG [.tmp 2] λv' h'=>Frz h' v' (.fz (qhF l).length (rSy (qhF l)))) t ⟨s,0,tr⟩:=by
 have hAl:(zR l).length=l.length:=qbz;refine Ew ?_;simp only[qcp,vI,simprocAttr];refine Ab ?_;refine qm6 hc3 c1 c2 c3 l hl (zzu _) (xl (zR l)) (λx hx j hj s' tr' k' hs' hold hk'=>?_) λs' tr' bm hs' hold hb1 hb2 hg=>?_
 .have hjl:=hin x hx j hj;have g0:=(hold 0 Ac).trans t0;have g1:=(hold 1 Ac).trans t1;have gp:=qtV (A:=zR l) hjl;refine SC.mk hc1 (qj ?_);simp only[qa1,vI,simprocAttr];simp +decide only[↓vS,vT,simprocAttr,g0,g1,gp,hjl,zzU];exact Ac
 obtain⟨M,hM⟩:∃M,M=l.map (qba (xl (zR l))):=⟨_,rfl⟩;have hMl:M.length=l.length:=by rw[hM];simp
 have hliv:qhF l=qc0 (zR l) M:=by rw[hM];rfl
 rw[<- hM]at hg;refine Ab ?_
 refine SL.loopP (α:=Nat×Nat) (λi=>[(3,.fz l.length (rBo (zR l))),(7,qdg (xl (zR l) i.1) i.2),(33,.own bm l.length),(34,.j (l.length:Int)),(35,.j (i.1:Int))])
  (λi h=>i.1<=l.length/\∃s2 t2,h=⟨s2,0,t2⟩/\bm<s2/\t2.get bm=some (.cells 4 true true (rSy M))/\(xl (zR l) i.1≠0->t2.get i.2=some (.cells 4 true true (rSy (qc0 ((zR l).take i.1) (M.take i.1))))/\i.2<s2/\i.2≠bm)) (λi=>l.length-i.1) ?_ (0,0) ?_ ?_
 .rintro⟨i,bo⟩ h1 ⟨hi,s2,t2,rfl,hb,gm,go⟩ G ih;simp only at hi go;refine Am ?_;have hsel:(qc0 ((zR l).take i) (M.take i)).length=xl (zR l) i:=qrF Ah
  by_cases hlt:i<l.length
  .have hlt':(i:Int)<l.length:=Ac
   obtain⟨x,hx⟩:∃x,M[i]?=some x:=⟨_,zzE Ac⟩;obtain⟨b,hbb⟩:∃b,(zR l)[i]?=some b:=⟨_,zzE Ac⟩;have hgb:(rBo (zR l))[i]?=some (.b b):=by rw[qpG,hbb];rfl
   have hel:=qfK hx;have h4:i*4+4<=(rSy M).length:=by rw[qaq];exact Ac
   have hw1:=wS i;have hsn:=qoQ hbb hx;have hcn:=qfk hbb;have n1:¬bm=s2:=Ac
   have n2:¬s2=s2+1:=Ac
   have n3:¬s2+1=s2:=Ac
   have n4:¬bm=s2+1:=Ac
   have n5:¬bm=s2+1+1:=Ac
   have hci:=qpk (A:=zR l) (j:=i);cases b with
   | false =>
    simp at hcn hsn;simp +decide only[↓vS,vT,simprocAttr,hlt',hlt,h4,hel,cSy,gm,hgb,n1,zzU,hw1];refine ih (i+1,bo) _ _ (by simp only;exact Ac) ?_ ⟨by simp only;exact Ac,s2+1,_,rfl,Ac,?_,λh0=>?_⟩
    .simp only[hcn];exact Ak
    all_goals grind[Tr.get_set]
   | true =>
    simp at hcn hsn
    by_cases hz:xl (zR l) i=0
    .have hV:qdg (xl (zR l) i) bo = .nils:=Ek
     have hnil:qc0 ((zR l).take i) (M.take i)=[]:=Ah
     rw[hV];simp +decide only[↓vS,vT,simprocAttr,hlt',hlt,h4,hel,cSy,gm,hgb,n1,n2,n3,zzU,hw1];refine ih (i+1,s2+1+1) _ _ Ac ?_ ⟨Ac,s2+1+1+1,_,rfl,Ac,?_,λh0=>⟨?_,Ac,Ac⟩⟩
     .have e:qdg (xl (zR l) (i+1)) (s2+1+1) = .own (s2+1+1) 1:=by rw[hcn,hz];rfl
      simp only[e];exact Ak
     .exact Ay
     .simp only[zz4];rw[hsn,hnil];simp[rSy,cSy]
    .obtain⟨q1,q2,q3⟩:=go hz;have hV:qdg (xl (zR l) i) bo = .own bo (xl (zR l) i):=Ek
     rw[hV];have n6:¬bo=s2:=Ac
     have n7:¬bo=s2+1:=Ac
     have n8:¬s2+1=bo:=Ac
     have hr1:xl (zR l) i+1<=qe:=by simp only[qe];exact Ac
     have hr2:(xl (zR l) i+1)*24<=qe:=by simp only[qe];exact Ac
     have hql:(rSy (qc0 ((zR l).take i) (M.take i))).length=xl (zR l) i*4:=by rw[qaq,hsel]
     simp +decide only[↓vS,vT,simprocAttr,hlt',hlt,h4,hel,cSy,gm,hgb,n1,n2,n3,n6,n7,n8,q1,hr1,hr2,hql,zzU,hw1];refine ih (i+1,s2+1+1) _ _ Ac ?_ ⟨Ac,s2+1+1+1,_,rfl,Ac,?_,λh0=>⟨?_,Ac,Ac⟩⟩
     .have e:qdg (xl (zR l) (i+1)) (s2+1+1) = .own (s2+1+1) (xl (zR l) i+1):=by rw[hcn];simp[qdg]
      simp only[e];exact Ak
     .exact Ay
     .simp only[zz4];rw[hsn,<- qtZ];simp[rSy,cSy]
  .obtain rfl:i=l.length:=Ac
   have hlt':¬((l.length:Int)<l.length):=Ac
   have e1:(zR l).take l.length=zR l:=Ah
   have e2:M.take l.length=M:=Ah
   rw[e1,e2]at hsel go;refine Sa hlt' ?_;rw[hliv]
   by_cases hz:xl (zR l) l.length=0
   .have hV:qdg (xl (zR l) l.length) bo = .nils:=Ek
    have hnil:qc0 (zR l) M=[]:=Ah
    rw[hV,hnil];exact .nilz
   .obtain⟨q1,q2,q3⟩:=go hz;have hV:qdg (xl (zR l) l.length) bo = .own bo (xl (zR l) l.length):=Ek
    rw[hV];show Frz _ _ _;refine qxN.2 ⟨hsel.symm,?_⟩;rw[q1];simp[vP,hz];exact Frzs.self zf
 .have e:qdg (xl (zR l) 0) 0 = .nils:=by simp[qdg,xl]
  simp_all[qh,qk,zz4]
 .exact⟨zzu _,s',tr',rfl,hb2,hg,λh=>absurd (by simp[xl]) h⟩
def qrc{g1 g2 g3 h1 h2 h3:Nat}(hc:Ck P f (qeT g1 g2 g3))(hc1:Ck P g2 qa1)(hc3:Ck P g3 (jy h1 h2 h3))(c1:qbB P h1 4 24)(c2:cOf P h2)(c3:qgZ P h3)(l:List Sy)(ha:qa P g1 [.fz l.length (rSy l)] (.fz l.length (rBo (zR l))))
  (hl:l.length<=200000) (hin:qnU l):qa P f [.fz l.length (rSy l)] (.fz (qhF l).length (rSy (qhF l))):=by
 have hAl:(zR l).length=l.length:=qbz;refine Bu ?_;have r1:l.length<=qe:=by simp only[qe];exact Ac
 have r2:8*l.length<=qe:=by simp only[qe];exact Ac
 simp only[qeT,vI,simprocAttr];refine Ab ?_;refine ha.sc ?_;refine Sa (zzA r1 r2) ?_
 refine SL.loopP (α:=Nat) (λi=>[(0,.fz l.length (rSy l)),(3,.fz l.length (rBo (zR l))),(4,.ptr 1 0),(5,.j (xl (zR l) i:Int)),(16,.j (l.length:Int)),(17,.j (i:Int))])
  (λi h=>i<=l.length/\∃s tr,h=⟨s,0,tr⟩/\2<=s/\tr.get 0=some (.v ((rPl (zR l) l.length).take i++List.replicate (l.length-i) (.j 0)))/\tr.get 1=some (.v [.sl 0 0 l.length l.length false])) (λi=>l.length-i) ?_ 0 ?_ ?_
 .rintro i h1' ⟨hi,s,tr,rfl,hs,t0,t1⟩ G ih;refine Am ?_
  by_cases hlt:i<l.length
  .have hlt':(i:Int)<l.length:=Ac
   obtain⟨b,hbb⟩:∃b,(zR l)[i]?=some b:=⟨_,zzE Ac⟩;have hgb:(rBo (zR l))[i]?=some (.b b):=by rw[qpG,hbb];rfl
   have hcn:=qfk hbb;have hci:=qpk (A:=zR l) (j:=i);have hw1:=wS i;have hw2:IntKind.wrap .i64 ((xl (zR l) i:Int)+1)=((xl (zR l) i+1:Nat):Int):=by rw[qE Ac Ac];simp
   have hfill:=qnp (n:=l.length) (z:=.j 0) qpK (qtV (A:=zR l) hlt);have hb4:i+1<=((rPl (zR l) l.length).take i++List.replicate (l.length-i) (AV.j 0)).length:=by grind[qpK]
   cases b with
   | false =>
    simp at hcn;simp +decide only[↓vS,vT,simprocAttr,hlt',hlt,t0,t1,hgb,hb4,hfill,zzU,hw1];refine ih (i+1) _ _ Ac ?_ Ay;rw[hcn];exact Ak
   | true =>
    simp at hcn;simp +decide only[↓vS,vT,simprocAttr,hlt',hlt,t0,t1,hgb,hb4,hfill,zzU,hw1,hw2];refine ih (i+1) _ _ Ac ?_ Ay;rw[hcn];exact Ak
  .obtain rfl:i=l.length:=Ac
   have hlt':¬((l.length:Int)<l.length):=Ac
   refine Sa hlt' ?_;refine qvm hc1 hc3 c1 c2 c3 l hl hin hs ?_ t1 ?_
   all_goals grind[qpK,qh,qk,Tr.get_set]
 .simp[qh,qk,zz4,xl]
 .refine⟨zzu _,_,_,rfl,Ac,?_,?_⟩<;>simp[zz4]
def qFi(P:Program)(g:Nat)(l m:List Sy):Prop:=qa P g [.fz l.length (rSy l)] (.fz m.length (rSy m))
def qhq(a:Nat):IFn:=irJ 174 [230,a]
def qCM{gM a b c:Nat}(hc:Ck P f (qhq gM))(l0 l1 l2 l3:List Sy)(hm:qa P gM [.fz l0.length (rSy l0)] (.b true))(h1:qFi P a l0 l1)(h2:qFi P b l1 l2)(h3:qFi P c l2 l3) :
  qa P f [.fz l0.length (rSy l0),.fz 3 [.fn a [] [],.fn b [] [],.fn c [] []]] (.tup [.fz l3.length (rSy l3),.j 0]):=by
 refine Bu ?_;simp only[qhq,vI,simprocAttr];refine Ab ?_;refine hm.sc ?_;refine Ab ?_
 refine SL.loopP (α:=Nat) (λi=>[(0,match i with|0=>.fz l0.length (rSy l0)|1=>.fz l1.length (rSy l1)|2=>.fz l2.length (rSy l2)|_=>.fz l3.length (rSy l3)),(11,.fz 3 [.fn a [] [],.fn b [] [],.fn c [] []]),(12,.j 3),(13,.j (i:Int))])
  (λi h=>i<=3/\h.fl=0) (λi=>3-i) ?_ 0 ?_ ?_
 .rintro i ⟨s,fl,tr⟩ ⟨hi,rfl⟩ G ih;refine Am ?_;have hi4:i=0\/i=1\/i=2\/i=3:=Ac
  rcases hi4 with rfl|rfl|rfl|rfl
  .refine Ab ?_;refine h1.sc ?_;refine Ab ?_;exact ih 1 _ _ Ac (by simp[qh,qk,zz4];exact Af) ⟨Ac,rfl⟩
  .refine Ab ?_;refine h2.sc ?_;refine Ab ?_;exact ih 2 _ _ Ac (by simp[qh,qk,zz4];exact Af) ⟨Ac,rfl⟩
  .refine Ab ?_;refine h3.sc ?_;refine Ab ?_;exact ih 3 _ _ Ac (by simp[qh,qk,zz4];exact Af) ⟨Ac,rfl⟩
  .refine Ab ?_;simp[vZ,zc zf]
 all_goals simp_all[qh,qk,zz4]
def qeU(a b c:Nat):IFn:=irJ 173 [233,a,234,b,235,c]
def qrr{a b c:Nat}(hc:Ck P f (qeU a b c)):qa P f [] (.agg [.fn a [] [],.fn b [] [],.fn c [] []]):=by
 refine Al ?_;simp only[qeU,vI,simprocAttr];refine Ab ?_;exact Fe
def qja(a b:Nat):IFn:=irJ 124 [173,a,174,b]
def qzc{g1 g2 a b c:Nat}(hc:Ck P f (qja g1 g2))(h1:qa P g1 [] (.agg [.fn a [] [],.fn b [] [],.fn c [] []]))(l m:List Sy)(h2:qa P g2 [.fz l.length (rSy l),.fz 3 [.fn a [] [],.fn b [] [],.fn c [] []]] (.tup [.fz m.length (rSy m),.j 0])) :
  qa P f [.fz l.length (rSy l)] (.tup [.fz m.length (rSy m),.j 0]):=by
 refine Bu ?_;simp only[qja,vI,simprocAttr];refine Ab ?_;refine h1.sc ?_;refine Ab ?_;refine h2.give [(0,.v [.fn a [] [],.fn b [] [],.fn c [] []])] ?_ (by simp[qu,clo,zf]) ?_ ?_
 .exact Ay
 .refine qaU.2 ⟨Frz.self (by simp[clo,zf]),qaU.2 ⟨Frz.cut 1 rfl (zzL _) ?_,qf2.2 trivial⟩⟩;simp[trP,zz4,vP,vZ]
 .refine Sa (zzA @zr (zzA @zQ @qC)) ?_;simp[vZ,vP,zc zf]
def qgQ(p:List Ins)(i:Nat):List Ins:=p.mapIdx λt x=>if t<i\/p.length-i<=t then p.getD (p.length-1-t) x else x
theorem qcY{p:List Ins}{i:Nat}:(qgQ p i).length=p.length:=by simp[qgQ]
theorem qkx{p:List Ins}{i t:Nat}:(qgQ p i)[t]?=(p[t]?).map λx=>if t<i\/p.length-i<=t then p.getD (p.length-1-t) x else x:=by simp[qgQ]
def qHF{p:List Ins}:qgQ p 0=p:=by
 apply List.ext_getElem?;grind[qkx]
def qzI{p:List Ins}{i:Nat}(h:p.length<=2*i+1):qgQ p i=p.reverse:=by
 apply List.ext_getElem?;grind[qkx]
def qvP{p:List Ins}{i:Nat}{x y:Ins}(h:2*i+1<p.length)(hx:(qgQ p i)[i]?=some x)(hy:(qgQ p i)[p.length-1-i]?=some y):((qgQ p i).set i y).set (p.length-1-i) x=qgQ p (i+1):=by
 rw[qkx,zzE Ac]at hx hy;simp only[zza,Option.some.injEq]at hx hy;rw[if_neg Ac]at hx hy;apply List.ext_getElem?;grind[qcY,qkx]
def qtT{T:List Ins}{j:Nat}{x:Ins}(h:T[j]?=some x):((rP T).drop (j*4)).take 4=qK x:=qI qaT h
def qtU{l:List Ins}{j:Nat}(y:Ins)(hj:j<l.length):(rP l).take (j*4)++(qK y++(rP l).drop (j*4+4))=rP (l.set j y):=qod qaT y hj
def zX:IFn:=irJ 172 []
def qsz(hc:Ck P f zX){s b:Nat}{tr:Tr Blk}(p:List Ins)(hp:p.length<=1000000){k:AV->Hp->Prop}(hb:tr.get b=some (.cells 4 true true (rP p)))(hk:∀tr',(∀c,c≠b->tr'.get c=tr.get c)->tr'.get b=some (.cells 4 true true (rP p.reverse))->k (.tup []) ⟨s,0,tr'⟩) :
  SC P f [.own b p.length] ⟨s,0,tr⟩ k:=by
 refine Bb ?_;have e1:IntKind.wrap .i64 ((p.length:Int)-1)=(p.length:Int)-1:=Dm
 simp only[zX,vI,simprocAttr];refine Sa e1 ?_
 refine SL.loopP (α:=Nat) (λi=>[(0,.own b p.length),(2,.j (i:Int)),(3,.j ((p.length:Int)-1-i))])
  (λi h=>2*i<=p.length/\∃tr',h=⟨s,0,tr'⟩/\(∀c,c≠b->tr'.get c=tr.get c)/\tr'.get b=some (.cells 4 true true (rP (qgQ p i)))) (λi=>p.length-i) ?_ 0 ?_ ?_
 .rintro i h1 ⟨hi,tr',rfl,hold,hrow⟩ G ih;refine Am ?_
  by_cases hlt:2*i+1<p.length
  .have hlt':(i:Int)<(p.length:Int)-1-i:=Ac
   have ej:(p.length:Int)-1-i=((p.length-1-i:Nat):Int):=Ac
   obtain⟨x,hx⟩:∃x,(qgQ p i)[i]?=some x:=⟨_,zzE (by rw[qcY];exact Ac)⟩;obtain⟨y,hy⟩:∃x,(qgQ p i)[p.length-1-i]?=some x:=⟨_,zzE (by rw[qcY];exact Ac)⟩;have hst:=qvP hlt hx hy;have elx:=qtT hx;have ely:=qtT hy;have lx:i*4+4<=(rP (qgQ p i)).length:=by rw[qe7,qcY];exact Ac
   have ly:(p.length-1-i)*4+4<=(rP (qgQ p i)).length:=by rw[qe7,qcY];exact Ac
   have lx2:i<p.length:=Ac
   have ly2:p.length-1-i<p.length:=Ac
   have s1:=qtU (l:=qgQ p i) (j:=i) y (by rw[qcY];exact Ac);have s2:=qtU (l:=(qgQ p i).set i y) (j:=p.length-1-i) x (by rw[List.length_set,qcY];exact Ac);rw[hst]at s2;have ly3:(p.length-1-i)*4+4<=(rP ((qgQ p i).set i y)).length:=by rw[qe7,List.length_set,qcY];exact Ac
   simp only[qK,zzC,zzN]at s1 s2 elx ely;have w1:=wS i;have w2:IntKind.wrap .i64 (((p.length-1-i:Nat):Int)-1)=(p.length:Int)-1-((i+1:Nat):Int):=by rw[qE Ac Ac];exact Ac
   rw[ej]at hlt' ⊢;refine Sa hlt' ?_;refine zB ?_;simp +decide only[↓vS,vT,simprocAttr,lx2,ly2,hrow,elx,ely,lx,ly,s1,ly3,s2,w1,w2];refine ih (i+1) _ _ Ac Ak ⟨Ac,_,rfl,λc hc=>?_,Br⟩
   rw[zz4,if_neg hc,zz4,if_neg hc];exact hold c hc
  .have hlt':¬(i:Int)<(p.length:Int)-1-i:=Ac
   refine Sa hlt' ?_;rw[qzI Ac]at hrow;exact hk _ hold hrow
 all_goals simp_all[qh,qk,zz4,qHF]
structure LI (kb n:Nat) (back:List Ins) (pl:List Nat) (s:Nat) (tr:Tr Blk) (bb bp:Nat) (far:Int):Prop where
 k:tr.get kb=some (.v [.own bb back.length,.sl bp 0 n n false,.j far])
 b:tr.get bb=some (.cells 4 true true (rP back))
 p:tr.get bp=some (.v (rNt pl))
 len:pl.length=n
 kb':kb≠bb
 kp:kb≠bp
 bp':bb≠bp
 ks:kb<s
 bs:bb<s
 ps:bp<s
theorem LI.keep{kb n bb bp s s':Nat}{back:List Ins}{pl:List Nat}{tr tr':Tr Blk}{far:Int}(h:LI kb n back pl s tr bb bp far)(hs:s<=s')(e:∀c,c=kb\/c=bb\/c=bp->tr'.get c=tr.get c):LI kb n back pl s' tr' bb bp far :=
 ⟨by grind[LI.k],by grind[LI.b],by grind[LI.p],h.len,h.kb',h.kp,h.bp',zzh h.ks hs,zzh h.bs hs,zzh h.ps hs⟩
def xM:IFn:=irJ 297 []
def qpn(hc:Ck P f xM){kb n s fl bb bp:Nat}{back:List Ins}{pl:List Nat}{tr:Tr Blk}{far:Int}{k:AV->Hp->Prop}(h:LI kb n back pl s tr bb bp far){j q:Nat}(hj:pl[j]?=some q)(hq:q<=back.length)(hb:back.length<=1000000)
  (hk:k (.j ((back.length-q:Nat):Int)) ⟨s,fl,tr⟩):SC P f [.ptr kb 0,.j (j:Int)] ⟨s,fl,tr⟩ k:=by
 refine Bb ?_;have hjl:j<n:=by rw[<- h.len];exact Ah
 have hg:(rNt pl)[j]?=some (.j (q:Int)):=by rw[qtS,hj];rfl
 have e:IntKind.wrap .i64 ((back.length:Int)-q)=((back.length-q:Nat):Int):=by rw[qE Ac Ac];exact Ac
 simp only[xM,vI,simprocAttr];refine Ab ?_;refine zB ?_;simp +decide only[↓vS,vT,simprocAttr,h.k,h.p,hjl,hg,zzU,e];exact hk
def xV(a:Nat):IFn:=irJ 349 [409,a]
def qJp{g:Nat}(hc:Ck P f (xV g))(l:List Ins):qa P f [.fz l.length (rP l)] (.fn g [] [.pf [.fz l.length (rP l)] 0]):=by
 refine qa.mk hc E5 ?_;simp only[xV,vI,simprocAttr];refine Ab ?_;simp[vZ,vP,zz4,zc (qz l)]
def wg(a:Nat):IFn:=irJ 296 [349,a]
def puT(s gi:Nat)(l:List Ins):List (Nat×AV):=[(2,.ptr s 0),(7,.fn gi [] [.pf [.fz l.length (rP l)] 0])]
def puA:ICode:=.reg false [⟨some 5,.op (.alloc [.h 0,.y 0,.y 0,.w 0]),none⟩,⟨none,.op (.store 4 (.t 5) (.t 9)),none⟩]
def puB:ICode:=.blk 1 (.reg true [.q 10 (.load1 (.t 2)),.q 11 (.load1 (.t 2)),.q 12 (.nilChk (.t 11)),.q 13 (.fAddr 0 (.t 12)),.q 14 (.load1 (.t 13)),.q 15 (.loadN 4 (.t 5)),.q 16 (.buildS 1 [.h 0,.y 0,.y 0,.w 0] [(0,4,(.t 15))]),.q 17 (.appD 4 8 (.t 14) (.t 16) [2]),.q 18 (.nilChk (.t 10)),.q 19 (.fAddr 0 (.t 18)),.u (.store 1 (.t 19) (.t 17))])
def qzk{kb n s0 s gi bb bp lb:Nat}{back l:List Ins}{pl:List Nat}{r0:Loop}{tr:Tr Blk}{far:Int}{k:AV->Hp->Prop}(hr0:r0.state = .ready)(hp0:r0.pending=none)(hlo:LoopOk P r0 [8,9] puA puB)
  (h:LI kb n back pl s tr bb bp far) (g0:tr.get s0=some (.v [.ptr kb 0])) (gl:tr.get lb=some (.map (zu r0 (puT s0 gi l)))) (hlb:lb<s) (hs0:s0<s) (hn:kb≠lb/\bb≠lb/\bp≠lb/\s0≠lb/\s0≠kb/\s0≠bb) (i:Int) (x:Ins) (hb:back.length<=1000000)
  (hk:∀s' tr' bb',s<=s'->(∀c,c<s->c≠kb->c≠bb->tr'.get c=tr.get c)->s<=bb'->LI kb n (back++[x]) pl s' tr' bb' bp far->k (.b true) ⟨s',0,tr'⟩):SY P lb [.j i,.agg (qK x)] ⟨s,0,tr⟩ k:=by
 obtain⟨e1,e2,e3,e4,e5,e6⟩:=hn;have hks:=h.ks;have hbs:=h.bs;have hps:=h.ps;have hkb:=h.kb';have hkp:=h.kp;have hbp:=h.bp';refine SY.mk (r:=r0) (ts:=puT s0 gi l) (ps:=[8,9]) gl hr0 hlo (zzu _) hlb rfl ?_;rw[show mkT (puT s0 gi l)=(Tr.leaf.set 7 (.fn gi [] [.pf [.fz l.length (rP l)] 0])).set 2 (.ptr s0 0)from rfl]
 refine qj ?_;simp only[qkp,puA,qK,vI,simprocAttr];refine Ab ?_;have n1:¬lb=s:=Ac
 have n2:¬s0=s:=Ac
 have n3:¬kb=s:=Ac
 have n4:¬bb=s:=Ac
 have n5:¬s=lb:=Ac
 have n6:¬s=s+1:=Ac
 have n7:¬s0=s+1:=Ac
 have n8:¬kb=s+1:=Ac
 have n9:¬bb=s+1:=Ac
 have n10:¬s+1=bb:=Ac
 have n11:¬kb=s+1+1:=Ac
 have n12:¬s0=bb:=e6;have n13:¬s=bb:=Ac
 have n14:¬s0=s+1+1:=Ac
 have r1:back.length+1<=qe:=by simp only[qe];exact Ac
 have r2:(back.length+1)*8<=qe:=by simp only[qe];exact Ac
 refine⟨puT s0 gi l,Fw,?_⟩
 refine qj ?_;simp only[qC,puB,vI,simprocAttr];refine Ab ?_;refine zB ?_;simp +decide only[↓vS,vT,simprocAttr,g0,h.k,h.b,e1,e2,e4,n1,n2,n3,n4,n5,n6,n7,n8,n9,n10,n11,n12,n13,n14,hkb,r1,r2,qe7,hbs,e5,e6];refine⟨Go.Kc.bsy r0,puT s0 gi l,?_,?_⟩
 .exact Ay
 rw[qeL,qgg hr0 hp0];simp only[qC];refine Ab ?_;refine hk _ _ (s+1+1) Ac (λc q1 q2 q3=>?_) Ac ⟨?_,?_,?_,h.len,Ac,hkp,Ac,Ac,Ac,Ac⟩
 .exact Ay
 .exact Fw
 .simp only[zz4];rw[if_neg Ac,if_neg Ac];simp[rP,qK]
 .simp only[zz4];grind[LI.p]
def qtu{gB gi kb n s bb bp bx:Nat}{back l:List Ins}{pl:List Nat}{tr:Tr Blk}{far:Int}{k:AV->Hp->Prop}(hc:Ck P f (wg gB))(hB:∀l:List Ins,qa P gB [.fz l.length (rP l)] (.fn gi [] [.pf [.fz l.length (rP l)] 0]))(hi:Ck P gi qO)
  (h:LI kb n back pl s tr bb bp far) (hx:tr.get bx=some (.v (rP l))) (hn:bx≠kb/\bx≠bb/\bx≠bp) (hxs:bx<s) (hl:l.length<=10) (hb:back.length<=900000)
  (hk:∀s' tr' bb',s<=s'->(∀c,c<s->c≠kb->c≠bb->c≠bx->tr'.get c=tr.get c)->(bb'=bb\/s<=bb')->LI kb n (back++l.reverse) pl s' tr' bb' bp far->k (.tup []) ⟨s',0,tr'⟩):SC P f [.ptr kb 0,.sl bx 0 l.length l.length false] ⟨s,0,tr⟩ k:=by
 obtain⟨x1,x2,x3⟩:=hn;have hks:=h.ks;have hbs:=h.bs;have hps:=h.ps;refine Bb ?_;simp only[wg,vI,simprocAttr];refine Ab ?_;refine(hB l).give [(bx,.v (rP l))] ?_ (by simp[clo,qu,qz]) ?_ ?_
 .exact Ay
 .refine qaU.2 ⟨Frz.cut 4 rfl (zzL _) ?_,qf2.2 trivial⟩;simp[trP,zz4,vP,qe7];rw[zzt (by rw[qe7];exact Ac)];grind[Frzs.self,qz]
 refine Eu ?_;refine Ab ?_;refine S.rangeFL (ts:=puT s gi l) (zzu _) (by intro p hp;simp only[puT,zzc,List.not_mem_nil,or_false]at hp;rcases hp with rfl|rfl<;>simp[zz4]) ⟨rfl,rfl⟩ ?_;refine qlk.2 ⟨.fn gi [] [.pf [.fz l.length (rP l)] 0],Bn,?_⟩
 refine⟨qcK hi,λr0 hr0 hp0 hlo=>⟨r0,.inl ⟨rfl,hlo.real⟩,?_⟩⟩
 have hlo:LoopOk P r0 [8,9] puA puB:=hlo
 have old:∀c,c<s->c≠bx->((((tr.set s (.v [.ptr kb 0])).set bx .dead).set (s+1) (.map (zu r0 (puT s gi l))))).get c=tr.get c:=λc h1 h2=>Ay
 refine qaa (c:=qK) hi qaT Ac (λi h=>i<=l.length/\∃s' tr' bb',h=⟨s',0,tr'⟩/\s+2<=s'/\(∀c,c<s->c≠kb->c≠bb->c≠bx->tr'.get c=tr.get c)/\(bb'=bb\/s+2<=bb')/\LI kb n (back++(l.drop i).reverse) pl s' tr' bb' bp far/\tr'.get s=some (.v [.ptr kb 0])/\tr'.get (s+1)=some (.map (zu r0 (puT s gi l)))) ?_ ?_ ?_
 .rintro i x hh hx ⟨hil,s',tr',bb',rfl,q1,q2,q3,q4,q5,q6⟩ k hk;have hd:l.drop i=x::l.drop (i+1):=C1
  refine qzk (s0:=s) (lb:=s+1) hr0 hp0 hlo q4 q5 q6 Ac Ac ⟨Ac,Ac,Ac,Ac,Ac,Ac⟩ _ x (by simp;exact Ac) λs2 t2 b2 p1 p2 p3 p4=>hk _ ⟨Ac,s2,t2,b2,rfl,Ac,λc c1 c2 c3 c4=>?_,Ac,?_,?_,?_⟩
  .rw[p2 c Ac c2 Ac];exact q2 c c1 c2 c3 c4
  .rw[hd,List.reverse_cons,<- zzi];exact p4
  all_goals grind
 .refine⟨zzL _,s+1+1,_,bb,rfl,Ac,Ad,.inl rfl,?_,?_,?_⟩
  all_goals grind[LI.keep,Tr.get_set]
 .rintro hh ⟨_,s',tr',bb',rfl,q1,q2,q3,q4,q5,q6⟩;refine⟨r0,puT s gi l,q6,by rw[hr0];exact Af,?_⟩
  rw[hp0];simp only[qC];refine Ae ?_;refine hk _ _ bb' Ac (λc c1 c2 c3 c4=>?_) Ac ?_
  .rw[zz4,if_neg (by show¬c=s+1;exact Ac)];exact q2 c c1 c2 c3 c4
  grind[LI.keep,Tr.get_set]
end
end Go.Kc
