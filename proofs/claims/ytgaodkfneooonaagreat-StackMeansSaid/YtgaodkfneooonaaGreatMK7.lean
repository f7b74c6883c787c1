/- Part 7 of the proof. No condition. -/
import Derived.Test.YtgaodkfneooonaaGreatMK6
import Derived.KernelRfl
set_option maxHeartbeats 4000000
set_option maxRecDepth 1000000
set_option linter.defProp false
set_option linter.unusedSectionVars false
set_option linter.unusedSimpArgs false
set_option linter.unusedVariables false
set_option linter.unnecessarySimpa false
namespace Go.Kc
noncomputable section
section
variable {P:Program}{f:Nat}
def qbT:IFn:=irJ 56 []
def qLd(hc:Ck P f qbT)(t:GTest)(d:GData):qc P f [.agg (xg t),.agg (qq d)] (.b (xr t d)):=by
 refine Al ?_;simp only[qbT,xg,qq,vI,simprocAttr]
 by_cases h0:0<=t.arg
 .by_cases h6:t.arg<=5
  .have h3:t.arg=0\/t.arg=1\/t.arg=2\/t.arg=3\/t.arg=4\/t.arg=5:=Ab
   exact Fc
  .have h6':¬t.arg<6:=Ab
   refine Sb (zzA h0 h6) ?_;refine qX ?_;refine Sb (zzA h0 h6) ?_;simp[vZ,xr,h6']
 .exact Iu
def qkZ(rs:List GRule)(n:Int):Int:=zL (λr=>decide (r.nr=n)) rs 0
def qcm:IFn:=irJ 55 []
def qDN(hc:Ck P f qcm)(x:GFil)(hx:qd5 x)(n:Int):qc P f [.agg (ze x),.w n] (.j (qkZ x.rules n)):=by
 refine qc.mk hc (by simp[qt,clo,ze,qu]) ?_;simp only[qcm,ze,vI,simprocAttr];refine Aa ?_;have hxl:=hx.1;refine SL.loopP (α:=Nat) (λj=>[(1,.w n),(2,.ptr 0 0),(5,.j (j:Int))]) (λj h=>j<=x.rules.length/\(∃s tr,h=⟨s,0,tr⟩/\tr.get 0=some (.v [.j x.arch,.fz x.rules.length (rR x.rules),.w x.dflt]))/\zL (λr=>decide (r.nr=n)) (x.rules.drop j) j=qkZ x.rules n) (λj=>x.rules.length-j) ?_ 0 ?_ ?_
 .rintro j h ⟨hj,⟨s,tr,rfl,t0⟩,hI⟩ G ih;refine Ak ?_;have hw1:=wS j
  by_cases hlt:j<x.rules.length
  .obtain⟨r,hr⟩:∃r,x.rules[j]?=some r:=⟨_,zzE hlt⟩;have g0:(rR x.rules)[j*3]?=some (.w r.nr):=qpQ hr (i:=0) Ab;have hdr:x.rules.drop j=r::x.rules.drop (j+1):=Dh
   rw[hdr]at hI;simp only[zL,zzb]at hI
   by_cases he:r.nr=n
   .rw[if_pos he]at hI;refine Sa (zzA t0 (zzA hlt (zzA g0 (eq_true he)))) ?_;simp[vZ,<- hI]
   .rw[if_neg he]at hI;refine Sa (zzA t0 (zzA hlt (zzA g0 (zzA he hw1)))) ?_;exact ih (j+1) _ _ Ab Am Ag
  .have hd:x.rules.drop j=[]:=Ae
   rw[hd,zL]at hI;refine Sa (zzA t0 hlt) ?_;simp[vZ,<- hI]
 .exact Am
 .exact⟨zzu _,A5,rfl⟩
def qu4{rs:List GRule}{n:Int}:(qkZ rs n = -1/\rs.find? (λr=>decide (r.nr=n))=none)\/∃(i:Nat) (r:GRule),qkZ rs n=(i:Int)/\rs[i]?=some r/\rs.find? (λr=>decide (r.nr=n))=some r:=by
 have main:∀(rs:List GRule) (k:Nat),(zL (λr:GRule=>decide (r.nr=n)) rs k = -1/\rs.find? (λr=>decide (r.nr=n))=none)\/∃(i:Nat) (r:GRule),zL (λr:GRule=>decide (r.nr=n)) rs k=((k+i:Nat):Int)/\rs[i]?=some r/\rs.find? (λr=>decide (r.nr=n))=some r:=by
  intro rs
  induction rs with
  | nil=>intro k;exact .inl ⟨rfl,rfl⟩
  | cons r rs ih =>
   intro k
   by_cases h:r.nr=n
   .exact .inr ⟨0,r,by simp[zL,h],rfl,by simp[h]⟩
   .rcases ih (k+1)with⟨e1,e2⟩|⟨i,y,e1,e2,e3⟩
    .exact .inl ⟨by simp[zL,h,e1],Ae⟩
    .exact .inr ⟨i+1,y,by simp[zL,h,e1];exact Ab,Ae,Ae⟩
 have:=main rs 0;simpa[qkZ]using this
def qbd(a b c:Nat):IFn:=irJ 20 [54,a,55,b,56,c]
def qJH{g1 g2 g3:Nat}(hc:Ck P f (qbd g1 g2 g3))(h1:∀t n:Int,0<=n->n<=4294967295->qc P g1 [.w t,.w n] (.tup [.j (ofM t n).1,.b (ofM t n).2]))(h2:∀x,qd5 x->∀n:Int,qc P g2 [.agg (ze x),.w n] (.j (qkZ x.rules n)))(h3:∀t d,qc P g3 [.agg (xg t),.agg (qq d)] (.b (xr t d)))
  (x:GFil) (hx:qd5 x) (d:GData) (hd:DatOk d):qc P f [.agg (ze x),.agg (qq d)] (.w (qd8 x d)):=by
 refine qc.mk hc (by simp[qt,clo,ze,qq,qu]) ?_;have hof:=h1 d.arch d.nr hd.nr0 hd.nr1;have hfi:=h2 x hx d.nr;simp only[qbd,ze,qq,vI,simprocAttr]at hfi ⊢;refine Aa ?_;refine hof.sc ?_;rw[qjQ];generalize ofM d.arch d.nr=q;obtain⟨a,b⟩:=q;cases b with
 | false =>
  refine Aa ?_;simp[vZ]
 | true =>
  by_cases ha:a=x.arch
  .rw[if_neg (show¬(((a,true):Int×Bool).2=false\/((a,true):Int×Bool).1≠x.arch)from Ag)]
   refine Sa (eq_true ha) ?_;refine hfi.sc ?_;rcases qu4 (rs:=x.rules) (n:=d.nr)with⟨e1,e2⟩|⟨i,r,e1,e2,e3⟩
   .rw[e1,e2];refine Aa ?_;simp[vZ]
   .rw[e1,e3];have hi:=(zzS.1 e2).1;have hn:¬((i:Int)<0):=Ab
    have hel:=qmq e2;have h3':i*3+3<=(rR x.rules).length:=by rw[qfM];exact Ab
    have hrt:=hx.2 r Ag;dsimp only;generalize hF:fnd (λt=>xr t d) r.act r.tests=F
    simp +decide only[↓vS,vT,simprocAttr,hn,hi,hel,h3',zn];refine SL.loopP (α:=Nat) (λj=>[(3,.ptr 1 0),(8,.ptr 2 0),(9,.j (j:Int))]) (λj h=>j<=r.tests.length/\(∃s tr,h=⟨s,0,tr⟩/\tr.get 1=some (.v (qq d))/\tr.get 2=some (.v [.w r.nr,.fz r.tests.length (rT r.tests),.w r.act]))/\fnd (λt=>xr t d) r.act (r.tests.drop j)=F) (λj=>r.tests.length-j) ?_ 0 ?_ ?_
    .rintro j h ⟨hj,⟨s,tr,rfl,t1,t2⟩,hI⟩ G ih;refine Ak ?_;have hw1:=wS j
     by_cases hlt:j<r.tests.length
     .obtain⟨t,hr⟩:∃t,r.tests[j]?=some t:=⟨_,zzE hlt⟩;have hte:=qpS hr;have hb:=qry hlt;have g3:(rT r.tests)[j*4+3]?=some (.w t.act):=qsy hr (i:=3) Ab;have hdr:r.tests.drop j=t::r.tests.drop (j+1):=Dh
      have hh:=h3 t d;simp only[xg]at hh;rw[hdr,qdm]at hI;refine Sa (zzA t2 hlt) ?_;refine qX ?_;simp +decide only[↓vS,vT,simprocAttr,t1,t2,hlt,hte,hb,xg,qkU,qod];refine hh.pc ?_;cases hq:xr t d with
      | true =>
       rw[hq,if_pos rfl]at hI;refine Sa (zzA t2 (zzA hlt g3)) ?_;simp[vZ,hI]
      | false =>
       rw[hq,if_neg Af]at hI;refine Sa (zzA t2 (zzA hlt hw1)) ?_;exact ih (j+1) _ _ Ab Am Ag
     .have hdn:r.tests.drop j=[]:=Ae
      rw[hdn,qjV]at hI;refine Sa (zzA t2 hlt) ?_;simp[vZ,hI]
    .exact Am
    .refine⟨zzu _,⟨3,_,rfl,?_,?_⟩,hF⟩<;>simp[zz4,qq]
  .refine Sa ha ?_;simp[vZ,ha]
def qk4(l:List Sy)(e:Int):List Ins×Int:=if e=0 then xu l else([],e)
def qlX(l:List Sy)(e:Int):List Ins×Int:=if e=0 then xu (qcw l)else([],e)
def qqW(l:List Sy)(e:Int)(o:Bool):List Ins×Int:=if o=true then qeP (qk4 l e) (qlX l e)else qk4 l e
structure GrdFn (P:Program) (gG gO gL:Nat) (ar:AV) (l:List Sy) (e:Int):Prop where
 gu:qc P gG [ar] (.tup [.fz l.length (rSy l),.j e])
 lk:e=0->qc P gL [.fz l.length (rSy l)] (qjK l)
 op:e=0->qc P gO [.fz l.length (rSy l)] (.tup [.fz (qcw l).length (rSy (qcw l)),.j 0])
 lk2:e=0->qc P gL [.fz (qcw l).length (rSy (qcw l))] (qjK (qcw l))
section
variable {gG gO gL b s:Nat}{tr:Tr Blk}{k:AV->Hp->Prop}{ar:AV}{l:List Sy}{er:Int}
def zF:List AV:=[.j 0,.nils,.w 0]
def qrc{m:List Sy}(h:(xu m).2≠0):(xu m).1=[]:=by
 unfold xu at h ⊢
 exact Ag
def qxY{gd gwG gwL bx:Nat}{e:Nat}{wf a:Bool}(hc:Ck P gd za)(hG:Ck P gwG (xp gG))(hL:Ck P gwL (qZ gL))(C:GrdFn P gG gO gL ar l er)
  (hx:tr.get bx=some (.cells e wf a [.fn gwG [.ptr b 0] [],.fn gwL [.ptr b 0] []])) (hbx:bx≠b) (h0:tr.get b=some (WkB zF ar .nils .nils))
  (hk:∀v tr2,qjF v (qk4 l er).1->(∀c,c≠b->tr2.get c=tr.get c)->k (.tup [v,.j (qk4 l er).2]) ⟨s,0,tr2⟩):SC P gd [.ptr b 0,.sl bx 0 2 2 false] ⟨s,0,tr⟩ k:=by
 have hG':=C.gu
 by_cases hz:er=0
 .have hL':=C.lk hz;rw[ql5]at hL';have e1:qk4 l er=xu l:=by unfold qk4;rw[if_pos hz]
  rw[e1]at hk
  refine qil hc [gwG,gwL] Dm hbx (λi=>if i=0 then WkB zF ar .nils .nils else if i=1 then WkB zF ar (.fz l.length (rSy l)) .nils else WkB zF ar (.fz l.length (rSy l)) (.fz (xu l).1.length (rP (xu l).1)))
   (λi=>if i=0 then 0 else if i=1 then er else(xu l).2) 2 rfl Ab h0 rfl ?_ ?_ ?_
  .intro i g s' tr' k' hg hj hB hk';have hi:i<2:=by have:=(zzS.1 hg).1;exact Ab
   have hi2:i=0\/i=1:=Ab
   rcases hi2 with rfl|rfl
   .exact Cw
   .exact Iz
  .intro i tr2 hf hv hj;have h0':i≠0:=Ab
   have h1':i≠1:=λh=>hv Ab
   simp only[if_neg h0',if_neg h1']at hv ⊢;exact hk _ _ (.inr ⟨rfl,qrc hv⟩) hf
  .intro tr2 hf hj hB;have hz2:=hj 2 Ab;simp at hz2;refine⟨zF,ar,_,_,rfl,rfl,?_⟩;have:=hk (.fz (xu l).1.length (rP (xu l).1)) tr2 (.inl rfl) hf;rw[hz2]at this;exact Ab
 .have e1:qk4 l er=([],er):=by unfold qk4;rw[if_neg hz]
  rw[e1]at hk;refine qil hc [gwG,gwL] Dm hbx (λi=>if i=0 then WkB zF ar .nils .nils else WkB zF ar (.fz l.length (rSy l)) .nils) (λi=>if i=0 then 0 else er) 2 rfl Ab h0 rfl ?_ ?_ ?_
  .intro i g s' tr' k' hg hj hB hk'
   have hi:i=0:=Ae
   subst hi;exact Cw
  .intro i tr2 hf hv hj;have hi:i≠0:=Ab
   exact C0
  .intro tr2 _ hj _;have:=hj 1 Ab;exact Ab
def qxX{gd gwG gwO gwL bx:Nat}{e:Nat}{wf a:Bool}(hc:Ck P gd za)(hG:Ck P gwG (xp gG))(hO:Ck P gwO (zr gO))(hL:Ck P gwL (qZ gL))(C:GrdFn P gG gO gL ar l er)
  (hx:tr.get bx=some (.cells e wf a [.fn gwG [.ptr b 0] [],.fn gwO [.ptr b 0] [],.fn gwL [.ptr b 0] []])) (hbx:bx≠b) (h0:tr.get b=some (WkB zF ar .nils .nils))
  (hk:∀v tr2,qjF v (qlX l er).1->(∀c,c≠b->tr2.get c=tr.get c)->k (.tup [v,.j (qlX l er).2]) ⟨s,0,tr2⟩):SC P gd [.ptr b 0,.sl bx 0 3 3 false] ⟨s,0,tr⟩ k:=by
 have hG':=C.gu
 by_cases hz:er=0
 .have hL':=C.lk2 hz;have hO':=C.op hz;have e1:qlX l er=xu (qcw l):=by unfold qlX;rw[if_pos hz]
  rw[e1]at hk;obtain⟨m,hm⟩:∃m,m=qcw l:=⟨_,rfl⟩;rw[<- hm]at hL' hO' hk;rw[ql5]at hL'
  refine qil hc [gwG,gwO,gwL] Dm hbx (λi=>if i=0 then WkB zF ar .nils .nils else if i=1 then WkB zF ar (.fz l.length (rSy l)) .nils else if i=2 then WkB zF ar (.fz m.length (rSy m)) .nils else WkB zF ar (.fz m.length (rSy m)) (.fz (xu m).1.length (rP (xu m).1)))
   (λi=>if i=0 then 0 else if i=1 then er else if i=2 then 0 else(xu m).2) 3 rfl Ab h0 rfl ?_ ?_ ?_
  .intro i g s' tr' k' hg hj hB hk';have hi:i<3:=by have:=(zzS.1 hg).1;exact Ab
   have hi2:i=0\/i=1\/i=2:=Ab
   rcases hi2 with rfl|rfl|rfl
   .exact Cw
   .simp at hg;subst hg;exact qnN hO zF rfl hB _ _ qk3 hO' hk'
   .exact Iz
  .intro i tr2 hf hv hj;have h0':i≠0:=Ab
   have h1':i≠1:=λh=>hv Ab
   have h2':i≠2:=Ab
   simp only[if_neg h0',if_neg h1',if_neg h2']at hv ⊢;exact hk _ _ (.inr ⟨rfl,qrc hv⟩) hf
  .intro tr2 hf hj hB;have hz2:=hj 3 Ab;simp at hz2;refine⟨zF,ar,_,_,rfl,rfl,?_⟩;have:=hk (.fz (xu m).1.length (rP (xu m).1)) tr2 (.inl rfl) hf;rw[hz2]at this;exact Ab
 .have e1:qlX l er=([],er):=by unfold qlX;rw[if_neg hz]
  rw[e1]at hk;refine qil hc [gwG,gwO,gwL] Dm hbx (λi=>if i=0 then WkB zF ar .nils .nils else WkB zF ar (.fz l.length (rSy l)) .nils) (λi=>if i=0 then 0 else er) 3 rfl Ab h0 rfl ?_ ?_ ?_
  .intro i g s' tr' k' hg hj hB hk'
   have hi:i=0:=Ae
   subst hi;exact Cw
  .intro i tr2 hf hv hj;have hi:i≠0:=Ab
   exact C0
  .intro tr2 _ hj _;have:=hj 1 Ab;exact Ab
def qcW(a b c d e:Nat):IFn:=irJ 26 [63,a,47,b,45,c,49,d,50,e]
def qsn{gd gwG gwO gwL gs:Nat}(hc:Ck P f (qcW gwG gwL gd gwO gs))(hd:Ck P gd za)(hG:Ck P gwG (xp gG))(hO:Ck P gwO (zr gO))(hL:Ck P gwL (qZ gL))
  (hs:Ck P gs jP) (har:clo ar=true/\zM ar=true/\qdJ ar=true/\cellsOf ar=[ar]) (C:GrdFn P gG gO gL ar l er) (o:Bool) :
  qc P f [ar,.b o] (.tup [.fz (qqW l er o).1.length (rP (qqW l er o).1),.j (qqW l er o).2]):=by
 obtain⟨a1,a2,a3,a4⟩:=har;refine qc.mk hc (by simp[qt,Go.Kc.clo,a1]) ?_;simp only[qcW,vI,simprocAttr];refine Sa (zzA a2 (zzA a3 a4)) ?_;refine qxY hd hG hL C (b:=0) (bx:=2) D0 Af (by simp[zz4,WkB,zF]) λv tr2 hv hf=>?_
 cases o with
 | false =>
  simp +decide only[↓vS,vT,simprocAttr,qqW];simp[vZ];exact hv.frz
 | true =>
  simp +decide only[↓vS,vT,simprocAttr,qqW];refine qxX hd hG hO hL C (b:=1) (bx:=3) D0 Af (by rw[zz4,if_neg Af,hf 1 Af];simp[zz4,WkB,zF]) λw tr3 hw _=>?_
  obtain⟨z,hz1,hz2⟩:=qkD hs (qk4 l er) (qlX l er) v w hv hw;refine Aa ?_;refine hz2.sc ?_;refine Aa ?_;simp[vZ];exact⟨hz1.frz,rfl⟩
end
def qkF(b:Bool)(i:Nat):Bool:=decide (i≠0/\i≠2)||(b&&decide (i=0))
def gdE(m:Nat->Bool)(b:Bool)(A:Nat):Nat->List Sy
 | 0=>[⟨32,4,0,0⟩]
 | i+1=>gdE m b A i++if(m i&&qkF b i)=true then [⟨21,qeb (i:Int),A,(gdE m b A i).length+1⟩]else []
def gdL(m:Nat->Bool)(b:Bool):Nat->Int
 | 0=>-1
 | i+1=>if(m i && !qkF b i && !b)=true then(i:Int)else gdL m b i
def gdZ(a:Int)(p K A:Nat):List Sy:=[⟨21,qeb a,p+1,K⟩,⟨32,0,0,0⟩,if a=2 then⟨69,1073741824,A,K⟩else⟨69,1073741824,K,A⟩]
def gdK(m:Nat->Bool)(b:Bool):Nat:=(gdE m b 0 6).length+if 0<=gdL m b 6 then 3 else 0
def gdY(m:Nat->Bool)(b:Bool):List Sy:=gdE m b (gdK m b+1) 6++if 0<=gdL m b 6 then gdZ (gdL m b 6) (gdE m b 0 6).length (gdK m b) (gdK m b+1)else []
def gdF(l:List Sy):List Sy:=l++[⟨6,2147483648,0,0⟩]++[⟨6,2147418112,0,0⟩]
def gdR(m:Nat->Bool):List Sy:=gdF (gdY m (m 0&&m 2))
section
variable {m:Nat->Bool}{b:Bool}
def qpw{A:Nat}:∀{i:Nat},(gdE m b A i).length=(gdE m b 0 i).length
 | 0=>rfl
 | i+1=>by simp only[gdE,zzP,qpw (i:=i)];split<;>rfl
def qsm{A:Nat}:∀{i:Nat},(gdE m b A i).length<=1+i
 | 0=>zzL _
 | i+1=>by
  have:=qsm (A:=A) (i:=i);simp only[gdE,zzP];split<;>simp<;>omega
def qtg:∀{i:Nat},-1<=gdL m b i/\gdL m b i<i
 | 0=>⟨Int.le_refl _,by simp only[gdL];exact Af⟩
 | i+1=>by
  have:=qtg (i:=i);unfold gdL;exact Ga
theorem qBB{a:Int}{p K A:Nat}:(gdZ a p K A).length=3:=by simp[gdZ]
def qBA:(gdY m b).length=gdK m b:=by
 unfold gdY gdK;rw[zzP,qpw]
 grind[qBB]
end
section
variable {g w s gl gp gj gh gr gd g1 g2 g4 g5 g6:Nat}{U:Nat->Kd}{tr:Tr Blk}{RV:List Sy}{N:List Nat}{k:AV->Hp->Prop}
def qaK(a b c d e g h i j k:Nat):ICode:=icJ 114 [175,a,176,b,177,c,133,d,131,e,178,g,179,h,156,i,157,j,159,k] 511
def qcV(a b c d e g h i j k:Nat):ICode:=icJ 114 [175,a,176,b,177,c,133,d,131,e,178,g,179,h,156,i,157,j,159,k] 255 [3] [qaK a b c d e g h i j k]
def qcU(a b c d e g h i j k:Nat):ICode:=icJ 114 [175,a,176,b,177,c,133,d,131,e,178,g,179,h,156,i,157,j,159,k] 127 [3] [qcV a b c d e g h i j k]
def qcT(a b c d e g h i j k:Nat):ICode:=icJ 114 [175,a,176,b,177,c,133,d,131,e,178,g,179,h,156,i,157,j,159,k] 15 [15] [qcU a b c d e g h i j k]
def qcS(a b c d e g h i j k:Nat):ICode:=icJ 114 [175,a,176,b,177,c,133,d,131,e,178,g,179,h,156,i,157,j,159,k] 7 [3] [qcT a b c d e g h i j k]
def qiT(a b c d e g h i j k:Nat):IFn:=irJ 114 [175,a,176,b,177,c,133,d,131,e,178,g,179,h,156,i,157,j,159,k] [7] [qcS a b c d e g h i j k]
def gdT(l:List Int)(i:Nat):Bool:=decide ((i:Int) ∈ l)
def qqZ{n0 sb bK bA K:Nat}{Ub:Nat->Kd}{tb:Tr Blk}(W:WFn P g gl gp gj gh gr)(hd:Ck P gd zB)(hj:Ck P g zg)(h:WI g w U s tr RV [])(hK:RV.length=K)(hb:RV.length<=1000)(st:Stp [bK,bA] Ub sb tb U s tr)(hdm:∀b,Ub b≠.no->b<sb)(hno:∀b F,Ub b≠.lab F false)
  (kK:U bK = .lab K false) (kA:U bA = .lab (K+1) false) (nK:Ub bK = .no) (nA:Ub bA = .no) {t:Tr AV}(ht:Has t [(4,.ptr w 0),(5,.ptr bK 0),(6,.ptr bA 0)]) :
  S P n0 (qaK g1 g2 gl g4 g5 g6 gj gh gr gd) (zQ [.tmp 2,.tmp 3] λv' h'=>Frz h' v' (.tup [.fz (gdF RV).length (rSy (gdF RV)),.j 0])) t ⟨s,0,tr⟩:=by
 refine Ff ?_;subst hK;unfold gdF;have hne:bA≠bK:=Ag
 simp only[qaK,vI,simprocAttr];refine Aa ?_;refine qa2 W.here h kK λt1 q1 q2 w1=>?_
 refine Aa ?_;have st1:Stp [bA] Ub sb tb (kdS U bK (.lab RV.length true)) s t1:=st.kd' nK q1 q2 λc hc=>Ae
 refine qoO W.ret W.put w1 2147483648 Ab λU2 s2 t2 st2 w2=>?_
 refine Aa ?_;have st12:=st1.trans st2
 have kA2:U2 bA = .lab (RV++[(⟨6,2147483648,0,0⟩:Sy)]).length false:=by
  rw[zzP];exact st2.lab _ _ _ (by rw[qk hne];exact kA)
 refine qa2 W.here w2 kA2 λt3 q3 q4 w3=>?_
 refine Aa ?_;have st3:Stp [] Ub sb tb (kdS U2 bA (.lab (RV++[(⟨6,2147483648,0,0⟩:Sy)]).length true)) s2 t3:=st12.kd' nA q3 q4 λc hc=>Ae
 refine qoO W.ret W.put w3 2147418112 Ag λU4 s4 t4 st4 w4=>?_
 refine Aa ?_;have st34:=st3.trans st4;refine qxr hd hj w4 (λb F p hb=>?_) Ag λt5 b hb hbs=>?_
 .cases p with
  | true=>rfl
  | false => rcases st34.nw b F hb with q|q
             all_goals simp_all
 refine Aa ?_;simp[vZ,vP,hb];exact Frzs.self (jk λ_=>rfl)
def qx3{n0 sb bK bA:Nat}{Ub:Nat->Kd}{tb:Tr Blk}{m:Nat->Bool}{b:Bool}(W:WFn P g gl gp gj gh gr)(hd:Ck P gd zB)(hj:Ck P g zg)(c6:qr7 P g6)(h:WI g w U s tr (gdE m b (gdK m b+1) 6) [])(st:Stp [bK,bA] Ub sb tb U s tr)(hdm:∀b,Ub b≠.no->b<sb)(hno:∀b F,Ub b≠.lab F false)
  (kK:U bK = .lab (gdK m b) false) (kA:U bA = .lab (gdK m b+1) false) (nK:Ub bK = .no) (nA:Ub bA = .no) {t:Tr AV}(ht:Has t [(4,.ptr w 0),(5,.ptr bK 0),(6,.ptr bA 0),(8,.j (gdL m b 6))]) :
  S P n0 (qcV g1 g2 gl g4 g5 g6 gj gh gr gd) (zQ [.tmp 2,.tmp 3] λv' h'=>Frz h' v' (.tup [.fz (gdF (gdY m b)).length (rSy (gdF (gdY m b))),.j 0])) t ⟨s,0,tr⟩:=by
 have hlen:=qsm (m:=m) (b:=b) (A:=gdK m b+1) (i:=6);have hl0:=qpw (m:=m) (b:=b) (A:=gdK m b+1) (i:=6);have hr:=qtg (m:=m) (b:=b) (i:=6);have hY:=qBA (m:=m) (b:=b);refine Ff ?_;simp only[qcV,vI,simprocAttr]
 by_cases hn:0<=gdL m b 6
 .have eY:gdY m b=gdE m b (gdK m b+1) 6++gdZ (gdL m b 6) (gdE m b (gdK m b+1) 6).length (gdK m b) (gdK m b+1):=by unfold gdY;rw[if_pos hn,hl0]
  generalize gdL m b 6=la at *;generalize gdE m b (gdK m b+1) 6=RV at *;refine Sa hn ?_;have w1:=h.new (.lab (RV.length+1) false) _ (.inr (.inr (.inr ⟨_,rfl,rfl⟩)));have st1:=h.stpLab (.lab (RV.length+1) false) (.v [.j 0]);have hon:=qU (U:=U) (b:=s) (x:=.lab (RV.length+1) false);refine(c6 la hn Ab).sc ?_;refine Aa ?_;have hK1:=st1.lab _ _ _ kK;have hA1:=st1.lab _ _ _ kA;refine qfD W.jmp W.put w1 ⟨21,qeb la,RV.length+1,gdK m b⟩ hon Ae Ab λU2 s2 t2 st2 w2=>?_
  refine Aa ?_;have hon2:=st2.lab _ _ _ hon;have le1:=st.le;have st12:=(st.trans st1).trans st2
  have ns:Ub s = .no:=Ag
  refine qa2 W.here w2 (p:=false) (b:=s) (by rw[hon2];simp) λt3 q1 q2 w3=>?_
  refine Aa ?_;have st3:Stp [bK,bA] Ub sb tb (kdS U2 s (.lab (RV++[(⟨21,qeb la,RV.length+1,gdK m b⟩:Sy)]).length true)) s2 t3:=st12.kd' ns q1 q2 λc hc=>Ag
  have hsK:bK≠s:=λe=>by rw[e]at kK;rw[h.fresh]at kK;cases kK
  have hsA:bA≠s:=λe=>by rw[e]at kA;rw[h.fresh]at kA;cases kA
  refine qne W.ld W.put w3 0 Ag λU4 s4 t4 st4 w4=>?_
  refine Aa ?_;have hK4:=st4.lab _ _ _ ((qk (U:=U2) (x:=.lab (RV++[(⟨21,qeb la,RV.length+1,gdK m b⟩:Sy)]).length true) hsK).trans (st2.lab _ _ _ hK1));have hA4:=st4.lab _ _ _ ((qk (U:=U2) (x:=.lab (RV++[(⟨21,qeb la,RV.length+1,gdK m b⟩:Sy)]).length true) hsA).trans (st2.lab _ _ _ hA1));have st34:=st3.trans st4
  have fin:∀U5 s5 t5 y,Stp [] U4 s4 t4 U5 s5 t5->WI g w U5 s5 t5 (RV++[⟨21,qeb la,RV.length+1,gdK m b⟩]++[⟨32,0,0,0⟩]++[y]) []->y=(if la=2 then⟨69,1073741824,gdK m b+1,gdK m b⟩else⟨69,1073741824,gdK m b,gdK m b+1⟩)->∀t,Has t [(4,.ptr w 0),(5,.ptr bK 0),(6,.ptr bA 0)]->
    S P n0 (qaK g1 g2 gl g4 g5 g6 gj gh gr gd) (zQ [.tmp 2,.tmp 3] λv' h'=>Frz h' v' (.tup [.fz (gdF (gdY m b)).length (rSy (gdF (gdY m b))),.j 0])) t ⟨s5,0,t5⟩:=λU5 s5 t5 y st5 w5 hy t ht=>by
   have e:RV++[⟨21,qeb la,RV.length+1,gdK m b⟩]++[⟨32,0,0,0⟩]++[y]=gdY m b:=by rw[eY,hy];simp[gdZ]
   rw[e]at w5;exact qqZ W hd hj w5 hY (by rw[<- e];exact Ag) (st34.trans st5) hdm hno (st5.lab _ _ _ hK4) (st5.lab _ _ _ hA4) nK nA ht
  by_cases h2:la=2
  .refine Sa h2 ?_;subst h2;refine qfD W.jmp W.put w4 ⟨69,1073741824,gdK m b+1,gdK m b⟩ hA4 Ae Ag λU5 s5 t5 st5 w5=>?_
   refine Aa ?_;exact fin _ _ _ _ st5 w5 (by simp) _ Am
  .refine Sa h2 ?_;refine qfD W.jmp W.put w4 ⟨69,1073741824,gdK m b,gdK m b+1⟩ hK4 Ae Ag λU5 s5 t5 st5 w5=>?_
   refine Aa ?_;exact fin _ _ _ _ st5 w5 Ag _ Am
 .have eY:gdY m b=gdE m b (gdK m b+1) 6:=by unfold gdY;rw[if_neg hn,List.append_nil]
  refine Sa hn ?_;rw[<- eY]at h hlen;exact qqZ W hd hj h hY Ab st hdm hno kK kA nK nA Am
def qx2{n0 sb bK bA:Nat}{Ub:Nat->Kd}{tb:Tr Blk}(l:List Int)(bb:Bool)(W:WFn P g gl gp gj gh gr)(hd:Ck P gd zB)(hj:Ck P g zg)(c6:qr7 P g6)(c4:∀x,qc P g4 [.fz l.length (rI .i64 l),.j x] (.b (decide (x ∈ l))))(c5:qc P g5 [] (.fz 6 (rI .i64 [0,1,2,3,4,5])))
  (h:WI g w U s tr [⟨32,4,0,0⟩] []) (st:Stp [bK,bA] Ub sb tb U s tr) (hdm:∀b,Ub b≠.no->b<sb) (hno:∀b F,Ub b≠.lab F false)
  (kK:U bK = .lab (gdK (gdT l) bb) false) (kA:U bA = .lab (gdK (gdT l) bb+1) false) (nK:Ub bK = .no) (nA:Ub bA = .no) {t:Tr AV}(ht:Has t [(0,.fz l.length (rI .i64 l)),(4,.ptr w 0),(5,.ptr bK 0),(6,.ptr bA 0),(7,.b bb),(8,.j (-1))]) :
  S P n0 (qcU g1 g2 gl g4 g5 g6 gj gh gr gd) (zQ [.tmp 2,.tmp 3] λv' h'=>Frz h' v' (.tup [.fz (gdF (gdY (gdT l) bb)).length (rSy (gdF (gdY (gdT l) bb))),.j 0])) t ⟨s,0,tr⟩:=by
 refine Ff ?_;simp only[qcU,vI,simprocAttr];refine Aa ?_;refine c5.sc ?_;refine Aa ?_
 refine SL.loopP (α:=Nat) (λi=>[(0,.fz l.length (rI .i64 l)),(4,.ptr w 0),(5,.ptr bK 0),(6,.ptr bA 0),(7,.b bb),(8,.j (gdL (gdT l) bb i)),(38,.fz 6 (rI .i64 [0,1,2,3,4,5])),(39,.j 6),(40,.j (i:Int))])
  (λi h=>i<=6/\∃U' s' tr',h=⟨s',0,tr'⟩/\Stp [bK,bA] Ub sb tb U' s' tr'/\WI g w U' s' tr' (gdE (gdT l) bb (gdK (gdT l) bb+1) i) []/\U' bK = .lab (gdK (gdT l) bb) false/\U' bA = .lab (gdK (gdT l) bb+1) false) (λi=>6-i) ?_ 0 ?_ ?_
 .rintro i h1 ⟨hi,U',s',tr',rfl,st',w',kK',kA'⟩ G ih;refine Ak ?_
  by_cases hlt:i<6
  .have hlt':(i:Int)<6:=Ab
   have hx:(rI .i64 [0,1,2,3,4,5])[i]?=some (.j (i:Int)):=by
    match i,hlt with
    | 0,_=>rfl
    | 1,_=>rfl
    | 2,_=>rfl
    | 3,_=>rfl
    | 4,_=>rfl
    | 5,_=>rfl
   have hw1:=wS i;have hle:=qsm (m:=gdT l) (b:=bb) (A:=gdK (gdT l) bb+1) (i:=i);have ci:qc P g4 [.fz l.length (rI .i64 l),.j (i:Int)] (.b (gdT l i)):=c4 i;have le1:=st'.le;simp +decide only[↓vS,vT,simprocAttr,hlt',hlt,hx,zzU];refine ci.sc ?_;cases hm:gdT l i with
   | false =>
    refine Sa hw1 ?_;refine ih (i+1) _ _ Ab ?_ ⟨Ab,U',s',tr',rfl,st',?_,kK',kA'⟩
    .simp[qj,qn,zz4,gdL,hm]
    .simpa[gdE,hm]using w'
   | true =>
    refine Aa ?_;refine(c6 i Ab hlt').sc ?_;refine Aa ?_
    have skip:qkF bb i=false->∀t',Has t' [(0,.fz l.length (rI .i64 l)),(4,.ptr w 0),(5,.ptr bK 0),(6,.ptr bA 0),(7,.b bb),(8,.j (gdL (gdT l) bb (i+1))),(38,.fz 6 (rI .i64 [0,1,2,3,4,5])),(39,.j 6),(40,.j ((i+1:Nat):Int))]->G t' ⟨s'+1,0,tr'.set s' (.v [.j 0])⟩:=λhs t' ht'=>by
     have w1:=w'.new .no (.v [.j 0]) (.inl rfl);have st1:=st'.trans (w'.stpNew .no (.v [.j 0]) (by simp));refine ih (i+1) _ _ Ab ht' ⟨Ab,_,_,_,rfl,st1,?_,(w'.stpNew .no (.v [.j 0]) (by simp)).lab _ _ _ kK',(w'.stpNew .no (.v [.j 0]) (by simp)).lab _ _ _ kA'⟩
     simpa[gdE,hs]using w1
    have go:qkF bb i=true->∀Q:AV->Hp->Prop,(∀U2 s2 t2,Stp [] (kdS U' s' (.lab ((gdE (gdT l) bb (gdK (gdT l) bb+1) i).length+1) false)) (s'+1) (tr'.set s' (.v [.j 0])) U2 s2 t2->WI g w U2 s2 t2 (gdE (gdT l) bb (gdK (gdT l) bb+1) (i+1)) []->Q (.tup []) ⟨s2,0,t2⟩)->SC P gj [.ptr w 0,.h 21,.w (qeb (i:Int)),.ptr bA 0,.ptr s' 0] ⟨s'+1,0,tr'.set s' (.v [.j 0])⟩ Q:=λhs Q hQ=>by
     have w1:=w'.new (.lab ((gdE (gdT l) bb (gdK (gdT l) bb+1) i).length+1) false) _ (.inr (.inr (.inr ⟨_,rfl,rfl⟩)));have st1:=w'.stpLab (.lab ((gdE (gdT l) bb (gdK (gdT l) bb+1) i).length+1) false) (.v [.j 0]);refine qfD W.jmp W.put w1 ⟨21,qeb (i:Int),gdK (gdT l) bb+1,(gdE (gdT l) bb (gdK (gdT l) bb+1) i).length+1⟩ (st1.lab _ _ _ kA') (.inr ⟨(Af:(21:Int)≠5),s',false,rfl,qU⟩) Ab λU2 s2 t2 st2 w2=>hQ U2 s2 t2 st2 ?_
     simpa[gdE,hs,hm]using w2
    have ns:Ub s' = .no:=Ag
    have nK':bK≠s':=λe=>by rw[e]at kK';rw[w'.fresh]at kK';exact Ag
    have nA':bA≠s':=λe=>by rw[e]at kA';rw[w'.fresh]at kA';exact Ag
    by_cases i0:i=0
    .have j0:((i:Int)=0)=True:=eq_true Ab;cases bb with
     | false =>
      refine Sa (zzA j0 hw1) ?_;have hs:qkF false i=false:=by simp[qkF,i0]
      exact F9
     | true =>
      have hs:qkF true i=true:=by simp[qkF,i0]
      refine Sa j0 ?_;refine go hs _ λU2 s2 t2 st2 w2=>?_
      refine Aa ?_;refine qa2 W.here w2 (p:=false) (b:=s') I0 λt3 q1 q2 w3=>?_
      refine Sa hw1 ?_;refine ih (i+1) _ _ Ab ?_ ⟨Ab,_,_,_,rfl,((st'.trans (w'.stpLab (.lab ((gdE (gdT l) true (gdK (gdT l) true+1) i).length+1) false) (.v [.j 0]))).trans st2).kd' ns q1 q2 (λc hc=>Ag),w3,?_,?_⟩
      .simp[qj,qn,zz4,gdL,hm,hs]
      .exact Jr
      .exact Js
    .have j0:((i:Int)=0)=False:=eq_false Ab
     by_cases i2:i=2
     .have j2:((i:Int)=2)=True:=eq_true Ab;cases bb with
      | false =>
       refine Sa (zzA j0 (zzA j2 hw1)) ?_;have hs:qkF false i=false:=by simp[qkF,i2]
       exact F9
      | true =>
       refine Sa (zzA j0 (zzA j2 hw1)) ?_;have hs:qkF true i=false:=by simp[qkF,i2]
       exact F9
     .have j2:((i:Int)=2)=False:=eq_false Ab;have hs:qkF bb i=true:=by simp[qkF,i0,i2]
      refine Sa (zzA j0 j2) ?_;refine go hs _ λU2 s2 t2 st2 w2=>?_
      refine Aa ?_;refine qa2 W.here w2 (p:=false) (b:=s') I0 λt3 q1 q2 w3=>?_
      refine Sa hw1 ?_;refine ih (i+1) _ _ Ab ?_ ⟨Ab,_,_,_,rfl,((st'.trans (w'.stpLab (.lab ((gdE (gdT l) bb (gdK (gdT l) bb+1) i).length+1) false) (.v [.j 0]))).trans st2).kd' ns q1 q2 (λc hc=>Ag),w3,?_,?_⟩
      .simp[qj,qn,zz4,gdL,hm,hs]
      .exact Jr
      .exact Js
  .obtain rfl:i=6:=Ab
   refine Aa ?_;exact qx3 W hd hj c6 w' st' hdm hno kK' kA' nK nA Am
 .simp[qj,qn,zz4,gdL]
 .exact⟨zzu _,U,s,tr,rfl,st,h,kK,kA⟩
def qx1{n0 sb bK bA:Nat}{Ub:Nat->Kd}{tb:Tr Blk}(l:List Int)(W:WFn P g gl gp gj gh gr)(hd:Ck P gd zB)(hj:Ck P g zg)(c6:qr7 P g6)(c4:∀x,qc P g4 [.fz l.length (rI .i64 l),.j x] (.b (decide (x ∈ l))))(c5:qc P g5 [] (.fz 6 (rI .i64 [0,1,2,3,4,5])))
  (h:WI g w U s tr [] []) (st:Stp [bK,bA] Ub sb tb U s tr) (hdm:∀b,Ub b≠.no->b<sb) (hno:∀b F,Ub b≠.lab F false)
  (kK:U bK = .lab (gdK (gdT l) (gdT l 0&&gdT l 2)) false) (kA:U bA = .lab (gdK (gdT l) (gdT l 0&&gdT l 2)+1) false) (nK:Ub bK = .no) (nA:Ub bA = .no) {t:Tr AV}(ht:Has t [(0,.fz l.length (rI .i64 l)),(4,.ptr w 0),(5,.ptr bK 0),(6,.ptr bA 0)]) :
  S P n0 (qcT g1 g2 gl g4 g5 g6 gj gh gr gd) (zQ [.tmp 2,.tmp 3] λv' h'=>Frz h' v' (.tup [.fz (gdR (gdT l)).length (rSy (gdR (gdT l))),.j 0])) t ⟨s,0,tr⟩:=by
 refine Ff ?_;have b0:qc P g4 [.fz l.length (rI .i64 l),.j 0] (.b (gdT l 0)):=c4 0;have b2:qc P g4 [.fz l.length (rI .i64 l),.j 2] (.b (gdT l 2)):=c4 2;simp only[qcT,vI,simprocAttr];refine Aa ?_;refine qne W.ld W.put h 4 (by simp) λU1 s1 t1 st1 w1=>?_
 rw[zzN]at w1;have kK1:=st1.lab _ _ _ kK;have kA1:=st1.lab _ _ _ kA;have fin:=λbb (e:(gdT l 0&&gdT l 2)=bb) t ht=>qx2 (n0:=n0) (g1:=g1) (g2:=g2) (t:=t) l bb W hd hj c6 c4 c5 w1 (st.trans st1) hdm hno (by rw[<- e];exact Ab) (by rw[<- e];exact Ab) nK nA ht
 unfold gdR;refine Aa ?_;refine b0.sc ?_;cases e0:gdT l 0 with
 | false =>
  refine Aa ?_;rw[e0]at fin;refine fin _ rfl _ ?_;exact Am
 | true =>
  refine Aa ?_;refine b2.sc ?_;cases e2:gdT l 2 with
  | false =>
   refine Aa ?_;rw[e0,e2]at fin;refine fin _ rfl _ ?_;exact Am
  | true =>
   refine Aa ?_;rw[e0,e2]at fin;refine fin _ rfl _ ?_;exact Am
def qqm(l:List Int):Bool:=decide (l=[])||l.any λa=>decide (a<0)||decide (6<=a)
def gdA(l:List Int):List Sy×Int:=if qqm l=true then([],2)else(gdR (gdT l),0)
def qx0{n0:Nat}(l:List Int)(W:WFn P g gl gp gj gh gr)(hd:Ck P gd zB)(hj:Ck P g zg)(c6:qr7 P g6)(c4:∀x,qc P g4 [.fz l.length (rI .i64 l),.j x] (.b (decide (x ∈ l))))(c5:qc P g5 [] (.fz 6 (rI .i64 [0,1,2,3,4,5])))(hn:n0=0)
  {t':Tr AV}{h':Hp}(hw:Wk 0 t' h' (mkT [(0,.fz l.length (rI .i64 l))]) (mkH 0 [])) :
  S P n0 (qcS g1 g2 gl g4 g5 g6 gj gh gr gd) (zQ [.tmp 2,.tmp 3] λv' h'=>Frz h' v' (.tup [.fz (gdR (gdT l)).length (rSy (gdR (gdT l))),.j 0])) t' h':=by
 subst hn;refine Ay ?_;simp only[qcS,vI,simprocAttr];refine Aa ?_;refine S.weak (Wk.mk [(0,.fz l.length (rI .i64 l)),(4,.ptr 0 0),(5,.ptr 1 0),(6,.ptr 2 0)] [.v [.own 3 0,.own 4 0],.v [.j 0],.v [.j 0],.cells 4 true true [],.cells 1 true true []] [0,1,2,99,99] ?_ ?_ ?_ rfl) ?_
 .exact Jc
 .simp[vw]
 .simp
 refine Ak ?_;generalize hKp:gdK (gdT l) (gdT l 0&&gdT l 2)=Kp
 have hW:∀k1 k2:Kd,(k1 = .no\/k1 = .lab Kp false)->(k2 = .no\/k2 = .lab (Kp+1) false)->WI g 0 (λb=>if b=0 then .w else if b=1 then k1 else if b=2 then k2 else if b=3 then .l else if b=4 then .t else .no) 5 (((((Tr.leaf.set 0 (.v [.own 3 0,.own 4 0])).set 1 (.v [.j 0])).set 2 (.v [.j 0])).set 3 (.cells 4 true true [])).set 4 (.cells 1 true true [])) [] []:=λk1 k2 h1 h2=>by
  refine⟨λb hb=>?_,⟨3,4,[],[],rfl,rfl,rfl,?_,?_,?_,trivial,by simp,λj y hy=>by simp at hy⟩,λb F p hb=>?_⟩
  .by_cases e:b<5
   .exact e
   .rw[if_neg Ab,if_neg Ab,if_neg Ab,if_neg Ab,if_neg Ab]at hb;exact absurd rfl hb
  .exact Be
  .simp[zz4,rSy]
  .exact Be
  .split at hb
   .cases hb
   split at hb
   .rename_i e;subst e;rcases h1 with rfl|rfl
    .cases hb
    .cases hb;exact⟨0,Be,by simp⟩
   split at hb
   .rename_i e;subst e;rcases h2 with rfl|rfl
    .cases hb
    .cases hb;exact⟨0,Be,by simp⟩
   exact Jb
 refine qx1 (bK:=1) (bA:=2) (Ub:=λb=>if b=0 then .w else if b=1 then .no else if b=2 then .no else if b=3 then .l else if b=4 then .t else .no) (sb:=5) (tb:=(((((Tr.leaf.set 0 (.v [.own 3 0,.own 4 0])).set 1 (.v [.j 0])).set 2 (.v [.j 0])).set 3 (.cells 4 true true [])).set 4 (.cells 1 true true [])))
  l W hd hj c6 c4 c5 (hW (.lab Kp false) (.lab (Kp+1) false) (.inr rfl) (.inr rfl)) ⟨zzL _,λb hb=>⟨?_,rfl⟩,λb hb=>⟨?_,rfl⟩,λb F p hb=>?_,λb F hb=>?_⟩ Ag ?_ (by rw[hKp];rfl) (by rw[hKp];rfl) rfl rfl ?_
 all_goals first|(simp[qj,qn,zz4];done)|skip
 all_goals grind
end
section
variable {g gl gp gj gh gr gd g1 g2 g4 g5 g6:Nat}
def qg5:IFn:=irJ 176 []
def qLc(hc:Ck P f qg5)(a:Int):qc P f [.j a] (.b (decide (a<0)||decide (6<=a))):=by
 refine Al ?_;simp only[qg5,vI,simprocAttr]
 by_cases h:a<0
 .refine Sa h ?_;simp[vZ]
 .refine Sa h ?_;simp[vZ]
def w9(a:Nat):IFn:=irJ 175 [233,a]
def qAm{g:Nat}(hc:Ck P f (w9 g))(h:qwZ P g)(l:List Int)(k:Nat)(p:Int->Bool)(hk:∀c,qc P k [.j c] (.b (p c)))(hl:l.length<=qe):qc P f [.fz l.length (rI .i64 l),.fn k [] []] (.b (l.any p)):=by
 refine Bb ?_;simp only[w9,vI,simprocAttr];refine Ac ?_;refine(h (λx:Int=>.j x) p k [] [] l rfl rfl hl λx _=>hk x).sc ?_
 refine Ac ?_;simp[vZ,<- qmZ p l 0]
def qH4(hc:Ck P f (qiT g1 g2 gl g4 g5 g6 gj gh gr gd))(W:WFn P g gl gp gj gh gr)(hd:Ck P gd zB)(hj:Ck P g zg)(c6:qr7 P g6)(c1:∀l:List Int,l.length<=qe->qc P g1 [.fz l.length (rI .i64 l),.fn g2 [] []] (.b (l.any λa=>decide (a<0)||decide (6<=a))))
  (c4:∀(l:List Int) (x:Int),l.length<=qe->qc P g4 [.fz l.length (rI .i64 l),.j x] (.b (decide (x ∈ l)))) (c5:qc P g5 [] (.fz 6 (rI .i64 [0,1,2,3,4,5]))) (l:List Int) (hl:l.length<=qe) :
  qc P f [.fz l.length (rI .i64 l)] (.tup [.fz (gdA l).1.length (rSy (gdA l).1),.j (gdA l).2]):=by
 refine Bb ?_;have e1:=c1 l hl;simp only[qiT,vI,simprocAttr];unfold gdA qqm
 by_cases h:l.length=0
 .have h':((l.length:Int)=0)=True:=eq_true Ab;have hn:l=[]:=Ae
  rw[hn];refine Aa ?_;simp[vZ,rSy]
 .have h':((l.length:Int)=0)=False:=eq_false Ab;have hn:decide (l=[])=false:=Ae
  rw[hn,Bool.false_or];refine Sa h' ?_;refine e1.sc ?_;cases hb:l.any λa=>decide (a<0)||decide (6<=a)with
  | true =>
   refine Aa ?_;simp[vZ,rSy]
  | false =>
   refine Aa ?_;refine qx0 l W hd hj c6 (λx=>c4 l x hl) c5 rfl (Wk.mk _ _ [] ?_ ?_ ?_ rfl)
   .exact Jc
   .trivial
   .simp
end
end
section
def qkJ:List Int:=[3221225534,1073741827,1073741864,3221225655,3221225715]
def evG(R:List Sy)(c:Int)(z:Bool):Nat->Nat->Nat->Option Int
 | 0,_,_=>none
 | n+1,p,w=>match R[p]? with
  | none=>none
  | some s=>if s.code=32 then(if s.k=4 then evG R c z n (p+1) 1 else if s.k=0 then evG R c z n (p+1) 2 else none)
   else if s.code=6 then some s.k
   else if s.code=21 then(if w=1/\qkJ.contains s.k=true then evG R c z n (if c=s.k then s.th else s.el) w else none)
   else if s.code=69 then(if w=2/\s.k=1073741824 then evG R c z n (if z=true then s.th else s.el) w else none)
   else none
def qkX{R:List Sy}{d:GData}{c:Int}{z:Bool}(hc:∀K ∈ qkJ,(d.arch=K↔c=K))(hz:z=decide (0<xA .u32 d.nr 1073741824)):∀(n p w:Nat) (a r:Int),(w=1->a=d.arch)->(w=2->a=d.nr)->evG R c z n p w=some r->Ev R d p a r
 | 0,p,w,a,r,_,_,h=>by simp[evG]at h
 | n+1,p,w,a,r,h1,h2,h=>by
  unfold evG at h;cases hs:R[p]? with
  | none=>rw[hs]at h;cases h
  | some s =>
   rw[hs]at h;simp only at h;split at h
   .rename_i e;split at h
    .rename_i e4;exact .ld p a r s hs e (qkX hc hz n _ 1 _ r (λ_=>by rw[e4];rfl) Ab h)
    split at h
    .rename_i e0;exact .ld p a r s hs e (qkX hc hz n _ 2 _ r Ab (λ_=>by rw[e0];rfl) h)
    .cases h
   split at h
   .rename_i e;cases h;exact .rt p a s hs e
   split at h
   .rename_i e;split at h
    .rename_i hw
     have ek:ww s.code a s.k=decide (c=s.k):=by
      rw[e,h1 hw.1];unfold ww;rw[if_pos rfl];exact Ae
     refine .jc p a r s hs (.inl e) ?_;rw[ek];simp only[zzb];exact qkX hc hz n _ w a r h1 h2 h
    .cases h
   split at h
   .rename_i e;split at h
    .rename_i hw
     have ek:ww s.code a s.k=z:=by
      rw[e,h2 hw.1,hw.2,hz];rfl
     refine .jc p a r s hs (.inr (.inr (.inr e))) ?_;rw[ek];exact qkX hc hz n _ w a r h1 h2 h
    .cases h
   exact Ag
instance {s:Sy}{j n:Nat}:Decidable (qge s j n):=by unfold qge qeW;infer_instance
def qGh(R:List Sy):Bool:=decide (0<R.length)&&decide (R.length<=10)&&decide ((R.getD (R.length-1) ⟨0,0,0,0⟩).code=6)&&(List.range R.length).all (λj=>decide (qge (R.getD j ⟨0,0,0,0⟩) j R.length))&&R.all λx=>decide (0<=x.k/\x.k<=4294967295)
def qsu(c:Int)(z:Bool):Option Nat:=if c=3221225534 then some (if z=true then 2 else 0)else if c=1073741827 then some 1 else if c=1073741864 then some 3 else if c=3221225655 then some 4 else if c=3221225715 then some 5 else none
def qkC(m:Nat->Bool)(o:Option Nat):Int:=match o with
 | some a=>if m a=true then 2147418112 else 2147483648
 | none=>2147483648
def okG(m:Nat->Bool):Bool:=qGh (gdR m)&&((-1)::qkJ).all λc=>[false,true].all λz=>decide (evG (gdR m) c z 16 0 0=some (qkC m (qsu c z)))
def mkG(m0 m1 m2 m3 m4 m5:Bool)(i:Nat):Bool:=match i with|0=>m0|1=>m1|2=>m2|3=>m3|4=>m4|_=>m5
def qJd:Bool:=[false,true].all λm0=>[false,true].all λm1=>[false,true].all λm2=>[false,true].all λm3=>[false,true].all λm4=>[false,true].all λm5=>!(m0||m1||m2||m3||m4||m5)||okG (mkG m0 m1 m2 m3 m4 m5)
def qAv:qJd=true:=Ad
section
variable {m m':Nat->Bool}
def qos{b:Bool}{A:Nat}:∀{i:Nat},(∀j,j<i->m j=m' j)->gdE m b A i=gdE m' b A i/\gdL m b i=gdL m' b i
 | 0,_=>⟨rfl,rfl⟩
 | i+1,h=>by
  have h1:=qos (b:=b) (A:=A) (i:=i) Ag;have h2:=h i Ab;unfold gdE gdL;rw[h1.1,h1.2,h2];exact Ae
def qu7(h:∀j,j<6->m j=m' j):gdR m=gdR m':=by
 have hb:(m 0&&m 2)=(m' 0&&m' 2):=by rw[h 0 Ab,h 2 Ab]
 have e:∀b A,gdE m b A 6=gdE m' b A 6/\gdL m b 6=gdL m' b 6:=λb A=>qos h
 unfold gdR gdY gdK;rw[hb];simp only[(e _ _).1,(e _ 0).2]
def qGL(h:(m 0||m 1||m 2||m 3||m 4||m 5)=true):qGh (gdR m)=true/\∀c ∈ (-1)::qkJ,∀z:Bool,evG (gdR m) c z 16 0 0=some (qkC m (qsu c z)):=by
 have hb:∀b:Bool,b ∈ [false,true]:=Af
 have h0:=qAv;unfold qJd at h0;have h1:=zzy.1 (zzy.1 (zzy.1 (zzy.1 (zzy.1 (zzy.1 h0 (m 0) (hb _)) (m 1) (hb _)) (m 2) (hb _)) (m 3) (hb _)) (m 4) (hb _)) (m 5) (hb _);rw[h]at h1;have h2:okG (mkG (m 0) (m 1) (m 2) (m 3) (m 4) (m 5))=true:=Ex
 have em:∀j,j<6->mkG (m 0) (m 1) (m 2) (m 3) (m 4) (m 5) j=m j:=λj hj=>by
  match j,hj with
  | 0,_=>rfl
  | 1,_=>rfl
  | 2,_=>rfl
  | 3,_=>rfl
  | 4,_=>rfl
  | 5,_=>rfl
 unfold okG at h2;rw[qu7 em,zzB]at h2;refine⟨h2.1,λc hc z=>?_⟩
 have h3:=zzy.1 (zzy.1 h2.2 c hc) z (hb z);rw[zzb]at h3;rw[h3]
 have es:∀o:Option Nat,(∀a,o=some a->a<6)->qkC (mkG (m 0) (m 1) (m 2) (m 3) (m 4) (m 5)) o=qkC m o:=λo ho=>by
  cases o with
  | none=>rfl
  | some a=>unfold qkC;simp only;rw[em a (ho a rfl)]
 rw[es];intro a ha;unfold qsu at ha
 repeat' split at ha
 all_goals grind
end
def qCl(t n:Int):ofM t n=if t=3221225534 then(if xA .u32 n 1073741824≠0 then(2,true)else(0,true))else if t=1073741827 then(1,true)else if t=1073741864 then(3,true)else if t=3221225655 then(4,true)else if t=3221225715 then(5,true)else(0,false):=by
 unfold ofM
 by_cases h1:t=3221225534
 .simp[h1,zf,zL]
 by_cases h2:t=1073741827
 .simp[h2,zf,zL]
 by_cases h3:t=1073741864
 .simp[h3,zf,zL]
 by_cases h4:t=3221225655
 .simp[h4,zf,zL]
 by_cases h5:t=3221225715
 .simp[h5,zf,zL]
 simp only[h1,h2,h3,h4,h5,zf,zL,eq_comm (b:=t),if_false];simp
def gdM(l:List Int)(d:GData):Int:=if(ofM d.arch d.nr).2=true/\(ofM d.arch d.nr).1 ∈ l then 2147418112 else 2147483648
def qth(l:List Int)(d:GData){c:Int}(hc:(d.arch=c/\c ∈ qkJ)\/(c = -1/\d.arch ∉ qkJ)):qkC (gdT l) (qsu c (decide (0<xA .u32 d.nr 1073741824)))=gdM l d:=by
 unfold gdM;rw[qCl];have hz:0<=xA .u32 d.nr 1073741824:=qsR _ _;generalize xA .u32 d.nr 1073741824=z at hz;rcases hc with⟨e,hm⟩|⟨rfl,hm⟩
 .subst e;simp only[qkJ,zzc,List.not_mem_nil,or_false]at hm
  by_cases h0:z=0
  .rcases hm with e|e|e|e|e<;>simp[e,h0,qsu,qkC,gdT]
  .have h1:0<z:=Ab
   rcases hm with e|e|e|e|e<;>simp[e,h0,h1,qsu,qkC,gdT]
 .simp only[qkJ,zzc,List.not_mem_nil,or_false,not_or]at hm;obtain⟨h1,h2,h3,h4,h5⟩:=hm;simp[h1,h2,h3,h4,h5,qsu,qkC]
def qEE{l:List Int}(h:qqm l=false):(gdT l 0||gdT l 1||gdT l 2||gdT l 3||gdT l 4||gdT l 5)=true:=by
 cases l with
 | nil=>cases h
 | cons a l =>
  have h1:¬a<0/\¬6<=a:=by
   simp only[qqm,List.any_cons,Bool.or_eq_false_iff,decide_eq_false_iff_not]at h;exact h.2.1
  have e:∀i:Nat,(i:Int)=a->gdT (a::l) i=true:=λi hi=>by unfold gdT;rw[hi];simp
  have ha:a=0\/a=1\/a=2\/a=3\/a=4\/a=5:=Ab
  exact Ag
theorem qxT{l:List Int}(h:qqm l=false):MayL (gdR (gdT l))/\kj (gdR (gdT l))/\(gdR (gdT l)).length<=10/\∀d,DatOk d->Ev (gdR (gdT l)) d 0 0 (gdM l d):=by
 obtain⟨h1,h2⟩:=qGL (qEE h);generalize hR:gdR (gdT l)=R at h1 h2;unfold qGh at h1;simp only[zzB,zzb,zzy]at h1;obtain⟨⟨⟨⟨p1,p2⟩,p3⟩,p4⟩,p5⟩:=h1;have gd:∀(j:Nat) s,R[j]?=some s->R.getD j ⟨0,0,0,0⟩=s:=λj s hj=>by rw[zzs,hj];rfl
 refine⟨⟨p1,Ab,⟨_,zzE Ab,?_⟩,λj s hj=>?_⟩,λx hx=>p5 x hx,p2,λd hd=>?_⟩
 .rw[gd _ _ (zzE (Ab:R.length-1<R.length))]at p3;exact p3
 .have:=p4 j (List.mem_range.2 (zzS.1 hj).1);rw[gd _ _ hj]at this;exact this
 .by_cases hm:d.arch ∈ qkJ
  .rw[<- qth l d (.inl ⟨rfl,hm⟩)];exact qkX (λK _=>Iff.rfl) rfl 16 0 0 0 _ (λq=>by cases q) (λq=>by cases q) (h2 d.arch (List.mem_cons_of_mem _ hm) _)
  .rw[<- qth l d (.inr ⟨rfl,hm⟩)];refine qkX (c:=-1) (λK hK=>⟨λe=>absurd (e ▸ hK) hm,λe=>?_⟩) rfl 16 0 0 0 _ (λq=>by cases q) (λq=>by cases q) (h2 (-1) (List.mem_cons_self ..) _)
   subst e;exact absurd hK Af
end
section
variable {P:Program}{f:Nat}
def gdC(l:List Int)(o:Bool):List Ins×Int:=qqW (gdA l).1 (gdA l).2 o
section
variable {l:List Int}
def qFM(h:qqm l=true)(o:Bool):gdC l o=([],2):=by
 unfold gdC gdA qqW qk4 qlX qeP;rw[if_pos h];simp
def qJW(h:qqm l=false)(o:Bool):(gdC l o).2=0/\PrgT (gdC l o).1 10 (gdM l):=by
 obtain⟨h1,h2,h3,h4⟩:=qxT h;have e:gdA l=(gdR (gdT l),0):=by unfold gdA;rw[if_neg (by rw[h];simp)]
 have eu:qk4 (gdA l).1 (gdA l).2=xu (gdR (gdT l)):=by rw[e];simp only[qk4,if_true]
 have eo:qlX (gdA l).1 (gdA l).2=xu (qcw (gdR (gdT l))):=by rw[e];simp only[qlX,if_true]
 have tu:qnW (qk4 (gdA l).1 (gdA l).2) 10 (gdM l):=by rw[eu];simp_all[qpC]
 have to:qnW (qlX (gdA l).1 (gdA l).2) 10 (gdM l):=by rw[eo];grind[qpC,qmi,qtH,qtG,qzh]
 have:qnW (gdC l o) 10 (gdM l):=by
  unfold gdC qqW;grind[qt3]
 exact this.resolve_left Ab
end
def qEZ(P:Program)(g:Nat):Prop:=∀l:List Int,l.length<=qe->∀o:Bool,qc P g [.fz l.length (rI .i64 l),.b o] (.tup [.fz (gdC l o).1.length (rP (gdC l o).1),.j (gdC l o).2])
def qMC{gd gwG gwO gwL gs gG gO gL:Nat}(hc:Ck P f (qcW gwG gwL gd gwO gs))(hd:Ck P gd za)(hG:Ck P gwG (xp gG))(hO:Ck P gwO (zr gO))(hL:Ck P gwL (qZ gL))
  (hs:Ck P gs jP) (c1:∀l:List Int,l.length<=qe->qc P gG [.fz l.length (rI .i64 l)] (.tup [.fz (gdA l).1.length (rSy (gdA l).1),.j (gdA l).2])) (c3:qAX P gO) (c4:qs1 P gL):qEZ P f:=λl hl o=>by
 have ok:(gdA l).2=0->MayL (gdA l).1:=λh=>by
  unfold gdA at h ⊢
  grind[qxT]
 exact qsn hc hd hG hO hL hs ⟨by simp[clo,qd],rfl,rfl,rfl⟩ ⟨c1 l hl,λh=>c4 _ (ok h),λh=>c3 _ (ok h),λh=>c4 _ (qmi (ok h))⟩ o
abbrev Pt:=Int×Int×GFil
def qnU:GFil:=⟨0,[],0⟩
def qcI(p:Pol)(d a:Nat):List Pt:=match qby p (d:Int) (a:Int)with|some x=>[((d:Int),(a:Int),x)]|none=>[]
def qc4(p:Pol):List Pt:=if 0<p.arches.length then [(0,6,qnU)]else []
def jL(p:Pol)(d a:Nat):List Pt:=qc4 p++((List.range d).flatMap λd=>(List.range 6).flatMap λa=>qcI p d a)++(List.range a).flatMap λa=>qcI p d a
def qw(p:Pol):List Pt:=jL p 8 0
def qib(p:Pol)(d a:Nat):jL p d (a+1)=jL p d a++qcI p d a:=by
 unfold jL;rw[List.range_succ (n:=a),List.flatMap_append,<- zzi];simp
def qjx(p:Pol)(d:Nat):jL p (d+1) 0=jL p d 6:=by
 unfold jL;rw[List.range_succ (n:=d),List.flatMap_append];simp
def qoL(p:Pol)(d a:Nat):(qcI p d a).length<=1:=by unfold qcI;split<;>simp
theorem qic(p:Pol):∀d a,(jL p d a).length<=1+6*d+a
 | d,a+1=>by
  have h1:=qic p d a;have h2:=qoL p d a;rw[qib,zzP];exact Ab
 | d+1,0=>by
  have h1:=qic p d 6;rw[qjx];exact Ab
 | 0,0=>by
  unfold jL qc4;split<;>simp
def qCB{p:Pol}{d a:Nat}(hd:d<8)(ha:a<6){q:Pt}(h:q ∈ qcI p d a):q ∈ qw p:=by
 unfold qw jL
 exact Ag
def qBG{p:Pol}{q:Pt}(h:q ∈ qc4 p):q ∈ qw p:=List.mem_append_left _ Ae
def qfK(p:Pol)(o:Bool)(q:Pt):List Ins×Int:=if q.1=0 then gdC p.arches o else qes q.2.2 o
def toP(p:Pol)(o:Bool)(q:Pt):Prg:=⟨q.1,q.2.1,(qfK p o q).1⟩
def qbn(p:Pol)(o:Bool):List Prg×Int :=
 if qbz p=true then(if ∀q ∈ qw p,(qfK p o q).2=0 then((qw p).map (toP p o),0)else([],270))else([],2)
def qhX(a:Nat):IFn:=irJ 71 [130,a]
def qKC{g:Nat}(hc:Ck P f (qhX g))(p:Pol):qc P f [.agg (qm p)] (.fn g [] [.pf (qm p) 0]):=by
 refine qc.mk hc (by simp[qt,clo,qfX]) ?_;simp only[qhX,qm,vI,simprocAttr];refine Aa ?_;simp[vZ,vP,zz4,qP,qd,qg]
 done
def qa4(a b:Nat):ICode:=icJ 130 [131,a,132,b] 3
def qaN(a b:Nat):IFn:=irJ 130 [131,a,132,b] [3] [qa4 a b]
def qfd(a b c d:Nat):ICode:=icJ 30 [70,a,71,b,26,c,13,d] 31
def qhV(a b c d:Nat):IFn:=irJ 30 [70,a,71,b,26,c,13,d] [31] [qfd a b c d]
def buT(g:Nat)(p:Pol):List (Nat×AV):=[(2,.ptr 0 0),(3,.ptr 1 0),(4,.ptr 2 0),(5,.ptr 3 0),(6,.ptr 4 0),(14,.fn g [] [.pf (qm p) 0])]
def buA:ICode:=.r [.q 7 (.alloc [.j 0,.j 0,.j 0,.nils,.w 0]),.u (.store 5 (.t 7) (.t 15))]
def buB(a b:Nat):ICode:=.blk 1 (sq [.r [.m 8 (.c .nils)],.r [.m 9 (.k 0)],sq [.r [.q 16 (.fAddr 0 (.t 7)),.q 17 (.load1 (.t 16)),.q 18 (.bin .eql (.t 17) (.c (.j 0)))],.cond (.t 18) (.r [.q 20 (.fAddr 0 (.t 2)),.q 21 (.load1 (.t 20)),.q 22 (.load1 (.t 3)),.l 23 a [.t 21,.t 22],.m 19 (.t 23),.q 24 (.ext (.t 19) 0),.q 25 (.ext (.t 19) 1),.m 8 (.t 24),.m 9 (.t 25)]) (.r [.q 27 (.fAddr 2 (.t 7)),.q 28 (.loadN 3 (.t 27)),.q 29 (.load1 (.t 3)),.l 30 b [.t 28,.t 29],.m 26 (.t 30),.q 31 (.ext (.t 26) 0),.q 32 (.ext (.t 26) 1),.m 8 (.t 31),.m 9 (.t 32)])],sq [.r [.m 33 (.t 9),.q 34 (.bin .neq (.t 33) (.c (.j 0)))],.cond (.t 34) (sq [.r [.u (.store 1 (.t 4) (.c .nils)),.u (.store 1 (.t 5) (.k 270))],.ret]) (.skip)],.r [.q 35 (.load1 (.t 6)),.q 36 (.fAddr 0 (.t 7)),.q 37 (.load1 (.t 36)),.q 38 (.fAddr 1 (.t 7)),.q 39 (.load1 (.t 38)),.m 40 (.t 8),.q 41 (.build [.j 0,.j 0,.nils] [(0,1,(.t 37)),(1,1,(.t 39)),(2,1,(.t 40))]),.q 42 (.buildS 1 [.j 0,.j 0,.nils] [(0,3,(.t 41))]),.q 43 (.app 3 40 true (.t 35) (.t 42)),.u (.store 1 (.t 6) (.t 43))]])
def BuI(p:Pol)(o:Bool)(g:Nat)(r0:Loop)(out:List Prg)(s:Nat)(tr:Tr Blk):Prop :=
 ∃bb,7<=s/\tr.get 0=some (.v (qm p))/\tr.get 1=some (.v [.b o])/\tr.get 2=some (.v [.nils])/\tr.get 3=some (.v [.j 0])/\tr.get 4=some (.v [.own bb out.length])/\tr.get bb=some (.cells 3 true true (rPr out))/\(bb=5\/7<=bb)/\bb<s/\tr.get 6=some (.map (zV r0 (buT g p)))
theorem BuI.keep{p:Pol}{o:Bool}{g:Nat}{r0:Loop}{out:List Prg}{s s':Nat}{tr tr':Tr Blk}(h:BuI p o g r0 out s tr)(hs:s<=s')(ht:∀c,c<s->tr'.get c=tr.get c):BuI p o g r0 out s' tr':=by
 obtain⟨bb,h7,h0,h1,h2,h3,h4,hb,hb5,hbs,h6⟩:=h;exact⟨bb,Ab,(ht _ Ab).trans h0,(ht _ Ab).trans h1,(ht _ Ab).trans h2,(ht _ Ab).trans h3,(ht _ Ab).trans h4,(ht _ hbs).trans hb,hb5,Ab,(ht _ Ab).trans h6⟩
def BuE(p:Pol)(g:Nat)(r0:Loop)(s:Nat)(tr:Tr Blk):Prop :=
 7<=s/\tr.get 2=some (.v [.nils])/\tr.get 3=some (.v [.j 270])/\tr.get 6=some (.map (zV (dne r0 .ret) (buT g p)))
def qwQ{gG gC g s:Nat}{p:Pol}{o:Bool}{out:List Prg}{r0:Loop}{tr:Tr Blk}{k:AV->Hp->Prop}(hG:qEZ P gG)(hC:qwW P gC)(hr0:r0.state = .ready)(hp0:r0.pending=none)(hlo:LoopOk P r0 [15] buA (buB gG gC))(hp:PolOk p)
  (hI:BuI p o g r0 out s tr) (d a:Int) (x:GFil) {c:List AV}(hcc:c=ze x\/d=0/\c=[.j 0,.nils,.w 0]) (hR:FilR x) (hl:qd5 x) (hm:out.length<=1000)
  (hk:(qfK p o (d,a,x)).2=0->∀s' tr',BuI p o g r0 (out++[toP p o (d,a,x)]) s' tr'->k (.b true) ⟨s',0,tr'⟩)
  (hx:(qfK p o (d,a,x)).2≠0->∀s' tr',BuE p g r0 s' tr'->k (.b false) ⟨s',0,tr'⟩):SY P 6 [.agg (.j d :: .j a::c)] ⟨s,0,tr⟩ k:=by
 rcases hcc with rfl|⟨hd,rfl⟩
 all_goals
  obtain⟨bb,hs,h0,h1,h2,h3,h4,hb,hb5,hbs,h6⟩:=hI;have hpa:=hp.a;refine SY.mk (r:=r0) (ts:=buT g p) (ps:=[15]) h6 hr0 hlo (zzu _) (by show 6<s;exact Ab) rfl ?_;rw[show mkT (buT g p)=(((((Tr.leaf.set 14 (.fn g [] [.pf (qm p) 0])).set 6 (.ptr 4 0)).set 5 (.ptr 3 0)).set 4 (.ptr 2 0)).set 3 (.ptr 1 0)).set 2 (.ptr 0 0)from rfl]
  refine qh ?_;simp only[qlg,buA,ze,vI,simprocAttr];refine Aa ?_;have n6:¬6=s:=Ab
  have n0:¬0=s:=Ab
  have n1:¬1=s:=Ab
  have n2:¬2=s:=Ab
  have n3:¬3=s:=Ab
  have n4:¬4=s:=Ab
  have nb:¬bb=s:=Ab
  have ns6:¬s=6:=Ab
  have nb6:¬bb=6:=Ab
  have n4b:¬4=bb:=Ab
  refine⟨buT g p,by simp[zz4,n6,h6],?_⟩
  refine qh ?_;simp only[qI,buB,vI,simprocAttr];refine Sa ns6 ?_;obtain⟨L,e,hLe⟩:∃L e,qfK p o (d,a,x)=(L,e):=⟨_,_,rfl⟩;have eT:toP p o (d,a,x)=⟨d,a,L⟩:=by simp only[toP,hLe]
  rw[eT]at hk;simp only[hLe]at hk hx;have hlp:=qpP out;have hap:rPr out++[.j d,.j a,.fz L.length (rP L)]=rPr (out++[⟨d,a,L⟩]):=by rw[qCI];rfl
  have hr1:out.length+1<=qe:=by simp only[qe];exact Ab
  have hr2:(out.length+1)*40<=qe:=by simp only[qe];exact Ab
  have nb1:¬bb=s+1:=Ab
  have n41:¬4=s+1:=Ab
  have n61:¬6=s+1:=Ab
  have ns2:¬s=2:=Ab
  have ns4:¬s=4:=Ab
  by_cases k1:d=0
  .have h:=hG p.arches (by simp only[qe];exact Ab) o;rw[show gdC p.arches o=(L,e)by rw[<- hLe];exact(if_pos k1).symm]at h
   subst k1;simp +decide only[↓vS,vT,simprocAttr,h0,h1,n0,n1,qm];refine h.sc ?_
   by_cases he:e=0
   .subst he;refine Iw ?_;refine⟨Go.Kc.bsy r0,buT g p,I4,?_⟩
    rw[qc9,qeM hr0 hp0];simp only[qI];refine Aa ?_;refine hk rfl _ _ ⟨s+1+1,Ab,?_,?_,?_,?_,?_,?_,.inr Ab,Ab,?_⟩<;>simp (decide:=true) [zz4,zzP]
    all_goals (repeat rw[if_neg Ab])
    all_goals assumption
   .simp +decide only[↓vS,vT,simprocAttr,he,h2,h3,n2,n3,ns6];refine⟨Go.Kc.bsy r0,buT g p,by simp[zz4,n6],?_⟩
    simp only[qI];refine Aa ?_;refine hx he _ _ ⟨Ab,?_,?_,?_⟩<;>simp[zz4,Go.Kc.bsy,dne]
  .try exact absurd hd k1
   all_goals
    have h:=hC x hR hl o;rw[show qes x o=(L,e)by rw[<- hLe];exact(if_neg k1).symm]at h
    simp only[ze]at h;refine Sa (zzA h1 (zzA n1 k1)) ?_;refine h.sc ?_
    by_cases he:e=0
    .subst he;refine Iw ?_;refine⟨Go.Kc.bsy r0,buT g p,I4,?_⟩
     rw[qc9,qeM hr0 hp0];simp only[qI];refine Aa ?_;refine hk rfl _ _ ⟨s+1+1,Ab,?_,?_,?_,?_,?_,?_,.inr Ab,Ab,?_⟩<;>simp (decide:=true) [zz4,zzP]
     all_goals grind
    .simp +decide only[↓vS,vT,simprocAttr,he,h2,h3,n2,n3,ns6];refine⟨Go.Kc.bsy r0,buT g p,A5,?_⟩
     simp only[qI];refine Aa ?_;refine hx he _ _ ⟨Ab,?_,?_,?_⟩<;>simp[zz4,Go.Kc.bsy,dne]
def qKE(a:Nat):ICode:=sq [.r [.q 25 (.bin .lss (.t 24) (.t 23))],.cond (.t 25) (.skip) (.exit 2),.blk 3 (sq [.r [.q 26 (.iAddrS 1 (.t 22) (.t 24)),.q 27 (.load1 (.t 26)),.m 5 (.t 27)],.r [.q 29 (.loadN 13 (.t 1)),.m 30 (.t 3),.m 31 (.t 5),.l 32 a [.t 29,.t 30,.t 31],.m 28 (.t 32),.q 33 (.ext (.t 28) 0),.q 34 (.ext (.t 28) 1),.q 6 (.alloc [.j 0,.nils,.w 0]),.u (.store 3 (.t 6) (.t 33)),.m 7 (.t 34)],.r [.m 35 (.t 7),.m 36 (.t 35),.g 37 (.mov (.t 0)) 36 true,.g 38 (.mov (.t 3)) 36 true,.g 39 (.mov (.t 5)) 36 true,.g 40 (.loadN 3 (.t 6)) 36 true,.g 41 (.build [.j 0,.j 0,.j 0,.nils,.w 0] [(0,1,(.t 38)),(1,1,(.t 39)),(2,3,(.t 40))]) 36 true,⟨(some 42),.callV (.t 37) [.t 41],(some (36,true))⟩,.g 43 (.un .not (.t 42)) 36 true,.q 44 (.pick (.t 36) (.t 43) (.c (.b false)))],.cond (.t 44) (.ret) (.skip)]),.r [.q 45 (.bin .add (.t 24) (.c (.j 1))),.m 24 (.t 45)]]
def qEB(P:Program)(y:Nat)(I:List Pt->Nat->Tr Blk->Prop)(E:Nat->Tr Blk->Prop)(bd:Pt->Prop):Prop :=
 (∀l s s' tr tr',I l s tr->s<=s'->(∀c,c<s->tr'.get c=tr.get c)->I l s' tr') /\
 ∀(l:List Pt) (d a:Int) (x:GFil) (c:List AV) (s:Nat) (tr:Tr Blk) (k:AV->Hp->Prop),(c=ze x\/d=0/\c=[.j 0,.nils,.w 0])->FilR x->qd5 x->l.length<=1000->I l s tr->
  (¬bd (d,a,x)->∀s' tr',I (l++[(d,a,x)]) s' tr'->k (.b true) ⟨s',0,tr'⟩)->(bd (d,a,x)->∀s' tr',E s' tr'->k (.b false) ⟨s',0,tr'⟩)->SY P y [.agg (.j d :: .j a::c)] ⟨s,0,tr⟩ k
section
variable {y:Nat}{I:List Pt->Nat->Tr Blk->Prop}{E:Nat->Tr Blk->Prop}{bd:Pt->Prop}
def qHb{gL s n0:Nat}{p:Pol}{tr:Tr Blk}{t:Tr AV}{Q:X->Tr AV->Hp->Prop}(hL:qlU P gL)(hy:qEB P y I E bd)
  (hp:PolOk p) (hR:PolR p) (hF:∀d a x,qby p d a=some x->FilR x/\qd5 x) {d:Nat}(hlt:d<8) (ht:Has t [(0,.yl y),(1,.pf (qm p) 0),(3,.j (d:Int)),(19,.j (d:Int)),(22,.fz 6 (rI .i64 [0,1,2,3,4,5])),(23,.j 6),(24,.j 0)])
  (hh:∀q ∈ jL p d 0,¬bd q) (hI:I (jL p d 0) s tr)
  (hk:∀t' s' tr',Has t' [(0,.yl y),(1,.pf (qm p) 0),(19,.j (d:Int))]->(∀q ∈ jL p (d+1) 0,¬bd q)->I (jL p (d+1) 0) s' tr'->Q (.exit 2) t' ⟨s',0,tr'⟩)
  (hx:(¬∀q ∈ qw p,¬bd q)->∀t' s' tr',E s' tr'->Q .ret t' ⟨s',0,tr'⟩):SL P n0 (qKE gL) Q t ⟨s,0,tr⟩:=by
 refine SL.loopP (α:=Nat) (λa=>[(0,.yl y),(1,.pf (qm p) 0),(3,.j (d:Int)),(19,.j (d:Int)),(22,.fz 6 (rI .i64 [0,1,2,3,4,5])),(23,.j 6),(24,.j (a:Int))]) (λa h=>a<=6/\∃s tr,h=⟨s,0,tr⟩/\(∀q ∈ jL p d a,¬bd q)/\I (jL p d a) s tr) (λa=>6-a) ?_ 0 ht Ag
 rintro a h ⟨ha,s,tr,rfl,hq,hI⟩ G2 ih2;simp only[qKE,vI,simprocAttr]
 by_cases hla:a<6
 .have hla':(a:Int)<6:=Ab
  have hwa:=wS a
  have hax:([0,1,2,3,4,5]:List Int)[a]?=some (a:Int):=by
   have:a=0\/a=1\/a=2\/a=3\/a=4\/a=5:=Ab
   rcases this with rfl|rfl|rfl|rfl|rfl|rfl<;>rfl
  have h2:=hL p hp hR d a;simp only[qm]at h2;simp +decide only[↓vS,vT,simprocAttr,qm,hla,hla',zzU,xl,hax,zza];refine h2.sc ?_;have e2:=qib p d a;have hln:=qic p d a;have hin:=λq (h:q ∈ qcI p d a)=>qCB hlt hla h
  have hF':=hF d a;cases hlow:qby p d a with
  | none =>
   have e3:qcI p d a=[]:=by unfold qcI;rw[hlow]
   rw[e3,List.append_nil]at e2;simp +decide only[qhr,↓vS,vT,simprocAttr,hwa];refine ih2 (a+1) _ _ Ab Am ⟨Ab,_,_,rfl,by rw[e2];exact hq,by rw[e2];exact hy.1 _ _ _ _ _ hI Ab λc hc=>A5⟩
  | some x =>
   have e3:qcI p d a=[((d:Int),(a:Int),x)]:=by unfold qcI;rw[hlow]
   rw[e3]at e2 hin;obtain⟨f1,f2⟩:=hF' x hlow;simp +decide only[qhr,ze,↓vS,vT,simprocAttr];refine hy.2 _ d a x _ _ _ _ (.inl rfl) f1 f2 Ab (hy.1 _ _ _ _ _ hI Ab λc hc=>?_) (λhe s' tr' hI'=>?_) (λhe s' tr' hE=>?_)
   .exact A5
   .refine Sa hwa ?_;refine ih2 (a+1) _ _ Ab Am ⟨Ab,s',tr',rfl,by rw[e2];exact Ag,by rw[e2];exact Ab⟩
   .refine Aa ?_;exact hx Ag _ s' tr' hE
 .obtain rfl:a=6:=Ab
  have hla':¬(((6:Nat):Int)<6):=Af
  refine Sa hla' ?_;exact hk _ s tr Am (by rw[qjx];exact hq) (by rw[qjx];exact hI)
def qoH{gA gL s n0:Nat}{p:Pol}{tr:Tr Blk}{t:Tr AV}{k:AV->Hp->Prop}(hA:qc P gA [] (.fz 6 (rI .i64 [0,1,2,3,4,5])))(hL:qlU P gL)(hy:qEB P y I E bd)
  (hp:PolOk p) (hR:PolR p) (hF:∀d a x,qby p d a=some x->FilR x/\qd5 x) (t0:t.get 0=some (.yl y)) (t1:t.get 1=some (.pf (qm p) 0)) (hh:∀q ∈ qc4 p,¬bd q) (hI:I (qc4 p) s tr)
  (hk:(∀q ∈ qw p,¬bd q)->∀s' tr',I (qw p) s' tr'->k (.tup []) ⟨s',0,tr'⟩)
  (hx:(¬∀q ∈ qw p,¬bd q)->∀s' tr',E s' tr'->k (.tup []) ⟨s',0,tr'⟩):S P n0 (qa4 gA gL) (zQ [] k) t ⟨s,0,tr⟩:=by
 refine S.has [(0,.yl y),(1,.pf (qm p) 0)] (by simp_all[qj,qn]) (qh ?_);simp only[qa4,vI,simprocAttr];refine Aa ?_;refine SL.loopP (α:=Nat) (λd=>[(0,.yl y),(1,.pf (qm p) 0),(19,.j (d:Int))]) (λd h=>d<=8/\∃s tr,h=⟨s,0,tr⟩/\(∀q ∈ jL p d 0,¬bd q)/\I (jL p d 0) s tr) (λd=>8-d) ?_ 0 ?_ ?_
 .rintro d h ⟨hd,s,tr,rfl,hq,hI⟩ G ih;refine Ak ?_
  by_cases hlt:d<8
  .have hlt':(d:Int)<8:=Ab
   have hwd:=wS d;refine Sa hlt' ?_;refine hA.sc ?_;refine Aa ?_;refine qHb hL hy hp hR hF hlt Am hq hI (λt' s' tr' ht' hq' hI'=>?_) (λhb t' s' tr' hE=>?_)
   .obtain⟨q0,q1,q19⟩:t'.get 0=some (.yl y)/\t'.get 1=some (.pf (qm p) 0)/\t'.get 19=some (.j (d:Int)):=by grind[qj]
    refine Sa (zzA q19 hwd) ?_;exact ih (d+1) _ _ Ab (by grind[qj,qn,Tr.get_set]) Ag
   .refine Aa ?_
    exact Ag
  .obtain rfl:d=8:=Ab
   have hlt':¬(((8:Nat):Int)<8):=Af
   refine Sa hlt' ?_;exact hk hq s tr hI
 .exact Am
 .exact⟨zzu _,s,tr,rfl,by simpa[jL]using hh,by simpa[jL]using hI⟩
def qoI{gA gL g s:Nat}{p:Pol}{tr:Tr Blk}{k:AV->Hp->Prop}(hg:Ck P g (qaN gA gL))(hA:qc P gA [] (.fz 6 (rI .i64 [0,1,2,3,4,5])))(hL:qlU P gL)(hy:qEB P y I E bd)
  (hp:PolOk p) (hR:PolR p) (hF:∀d a x,qby p d a=some x->FilR x/\qd5 x) (hI:I [] s tr)
  (hk:(∀q ∈ qw p,¬bd q)->∀s' tr',I (qw p) s' tr'->k (.tup []) ⟨s',0,tr'⟩)
  (hx:(¬∀q ∈ qw p,¬bd q)->∀s' tr',E s' tr'->k (.tup []) ⟨s',0,tr'⟩):SC P g [.yl y,.pf (qm p) 0] ⟨s,0,tr⟩ k:=by
 refine SC.mk hg (qh ?_);simp only[qaN,vI,simprocAttr]
 by_cases h0:0<p.arches.length
 .have h0':(0:Int)<p.arches.length:=Ab
  have eh:qc4 p=[(0,6,qnU)]:=if_pos h0;simp +decide only[↓vS,vT,simprocAttr,qm,h0'];refine hy.2 [] 0 6 qnU _ _ _ _ Ae ⟨by simp[qnU],by simp[qnU]⟩ ⟨by simp[qnU],by simp[qnU]⟩ (by simp) hI (λhe s' tr' hI'=>?_) (λhe s' tr' hE=>?_)
  .refine Aa ?_;exact qoH hA hL hy hp hR hF Be Be (by rw[eh];exact Ae) (by rw[eh];exact Ag) hk hx
  .refine Aa ?_;exact hx (λhall=>hall _ (qBG (by rw[eh];simp)) he) s' tr' hE
 .have h0':¬(0:Int)<p.arches.length:=Ab
  have eh:qc4 p=[]:=if_neg h0;simp +decide only[↓vS,vT,simprocAttr,qm,h0'];exact qoH hA hL hy hp hR hF Be Be (by rw[eh];simp) (by rw[eh];exact hI) hk hx
end
def qJm(P:Program)(f:Nat):Prop:=∀p,PolOk p->PolR p->(∀d a x,qby p d a=some x->FilR x/\qd5 x)->∀o:Bool,qc P f [.agg (qm p),.b o] (.tup [.fz (qbn p o).1.length (rPr (qbn p o).1),.j (qbn p o).2])
def qEU{gM gP gG gC gA gL g:Nat}(hc:Ck P f (qhV gM gP gG gC))(hM:∀p,PolOk p->qc P gM [.agg (qm p)] (.b (qbz p)))(hP:∀p,qc P gP [.agg (qm p)] (.fn g [] [.pf (qm p) 0]))(hg:Ck P g (qaN gA gL))
  (hA:qc P gA [] (.fz 6 (rI .i64 [0,1,2,3,4,5]))) (hL:qlU P gL) (hG:qEZ P gG) (hC:qwW P gC):qJm P f:=by
 intro p hp hR hF o;refine Al ?_;simp only[qhV,vI,simprocAttr];have hM':=hM p hp;have hP':=hP p;simp only[qm]at hM' hP';simp +decide only[↓vS,vT,simprocAttr,qm];refine hM'.sc ?_;cases hmp:qbz p with
 | false =>
  have e:qbn p o=([],2):=by unfold qbn;rw[hmp];simp
  rw[e];refine Aa ?_;simp[vZ,vP,zz4];rfl
 | true =>
  refine Aa ?_;refine hP'.sc ?_;refine Aa ?_;refine S.weak (Wk.mk (buT g p) [.v (qm p),.v [.b o],.v [.nils],.v [.j 0],.v [.own 5 0],.cells 3 true true []] [0,1,2,3,4,99] ?_ ?_ ?_ rfl) ?_
  .simp[vw,buT,qm,qd,qg]
  .exact H7
  .simp
  refine S.rangeF Ir (by simp[buT]) ⟨rfl,rfl⟩ ?_;refine qjR.2 ⟨.fn g [] [.pf (qm p) 0],J0,?_⟩
  refine⟨qdi hg,λr0 hr0 hp0 hlo=>?_⟩
  have hlo:LoopOk P r0 [15] buA (buB gG gC):=hlo;refine qoI (y:=6) (I:=λl=>BuI p o g r0 (l.map (toP p o))) (E:=BuE p g r0) (bd:=λq=>(qfK p o q).2≠0) (s:=7) (g:=g) hg hA hL ⟨λ_ _ _ _ _ h hs ht=>h.keep hs ht,λl d a x c s tr k hcc hR hl hm hI hk hx=>qwQ hG hC hr0 hp0 hlo hp hI d a x hcc hR hl Ae (λhe s' tr' h=>hk (λh=>h he) s' tr' Ae) hx⟩ hp hR hF ⟨5,zzL _,?_,?_,?_,?_,?_,?_,.inl rfl,Af,?_⟩ (λhall s' tr' hI=>?_) (λhn s' tr' hE=>?_)
  iterate 7 (simp[zz4,qj1,mkH,trL,rPr,Hp.push])
  .replace hall:∀q ∈ qw p,(qfK p o q).2=0:=Ae
   obtain⟨bb,h7,h0,h1,h2,h3,h4,hb,hb5,hbs,h6⟩:=hI;refine⟨r0,buT g p,h6,by rw[hr0];exact Af,?_⟩
   rw[hp0];simp only[qI];refine Ac ?_;rw[show qbn p o=((qw p).map (toP p o),0)by unfold qbn;rw[if_pos hmp,if_pos hall]]
   have nb:¬bb=6:=Ab
   have nb2:¬bb=2:=Ab
   have nb3:¬bb=3:=Ab
   generalize(qw p).map (toP p o)=out at h4 hb ⊢;refine S.has [(4,.ptr 2 0),(5,.ptr 3 0),(6,.ptr 4 0)] (by simp[qj,qn,buT,mkT,zz4]) (qh ?_);simp only[qfd,vI,simprocAttr];refine Sa (zzA h2 (zzA h3 h4)) ?_;simp[vZ,vP,zz4,nb,nb2,nb3,hb,qP (jh _)];intro h;rw[h];rfl
  .replace hn:¬∀q ∈ qw p,(qfK p o q).2=0:=Ae
   obtain⟨h7,h2,h3,h6⟩:=hE;refine⟨dne r0 .ret,buT g p,h6,by simp[dne],?_⟩
   have e6:∀a b c d e f:Blk,(mkH 0 [a,b,c,d,e,f]).sz=6:=λ_ _ _ _ _ _=>rfl
   simp only[dne,qI,e6];refine Ac ?_;rw[show qbn p o=([],270)by unfold qbn;rw[if_pos hmp,if_neg hn]]
   have m4:(mkT (buT g p)).get 4=some (.ptr 2 0):=J0
   have m5:(mkT (buT g p)).get 5=some (.ptr 3 0):=J0
   refine Sa (zzA m4 (zzA m5 (zzA h2 h3))) ?_;simp[vZ,vP,zz4];rfl
end
section
def TeG(ts:List GTest):Prop:=ts.length<=100000/\∀t ∈ ts,(0<=t.mask/\t.mask<18446744073709551616/\0<=t.val/\t.val<18446744073709551616)/\0<=t.act/\t.act<=4294967295
def RuG(r:GRule):Prop:=(0<=r.nr/\r.nr<4294967296)/\(0<=r.act/\r.act<=4294967295)/\TeG r.tests
def qCd{a n:Int}{s:List UInt8}(h:qgH a s=some n):0<=n/\n<4294967296:=by
 have w:∀z:Int,0<=IntKind.wrap .u32 z/\IntKind.wrap .u32 z<4294967296:=λz=>by show 0<=z % 4294967296/\z % 4294967296<4294967296;exact Ab
 unfold qgH at h;obtain⟨x,_,h⟩:=Option.bind_eq_some_iff.1 h;unfold qgI at h;split at h
 .cases h
 .cases h;split
  .exact w _
  exact Ae
section
variable {a act:Int}{ts us:List GTest}{ns:List (List UInt8)}{l:List Int}
def qcr(ha:0<=act/\act<=4294967295)(ht:TeG ts):∀r ∈ zz a act ts ns,RuG r:=λr hr=>by
 obtain⟨s,_,h⟩:=List.mem_filterMap.1 hr;obtain⟨n,h1,h2⟩:=Option.map_eq_some_iff.1 h;cases h2;exact⟨qCd h1,ha,ht⟩
theorem TeG.nil:TeG []:=⟨zzu _,Ae⟩
def TeG.app(h1:TeG ts)(h2:TeG us)(h:ts.length+us.length<=100000):TeG (ts++us):=⟨by rw[zzP];exact h,λt ht=>by
 rcases zzd.1 ht with ht|ht
 .exact h1.2 t ht
 .exact h2.2 t ht⟩
def qmt{arg mask:Int}(hm:0<=mask/\mask<18446744073709551616)(ha:0<=act/\act<=4294967295)(hl:l.length<=100000)(hv:∀v ∈ l,0<=v/\v<18446744073709551616):TeG (qG arg mask act l):=⟨by simp[qG,hl],λt ht=>by
 obtain⟨v,h1,rfl⟩:=zzl.1 ht
 exact Ae⟩
def qpd{arg:Int}(ha:0<=act/\act<=4294967295)(hl:l.length<=100000)(hv:∀v ∈ l,0<=v/\v<18446744073709551616):TeG (qK arg act l):=⟨by simp[qK,hl],λt ht=>by
 obtain⟨v,h1,rfl⟩:=zzl.1 ht
 exact Ae⟩
end
def qu6{s x:Int}(h:x ∈ xq s):0<=x/\x<18446744073709551616:=by
 have h1:=(List.mem_filter.1 h).1;have all:∀y ∈ qx.map (·.2),0<=y/\y<18446744073709551616:=Af
 exact Ag
def qGj{p:Pol}{a d:Int}{F:Pol->Int->Bool×List GRule×Int}(h:qd3 d=some F)(hp:PolOk p)(hR:PolR p):(∀r ∈ (F p a).2.1,RuG r)/\0<=(F p a).2.2/\(F p a).2.2<=4294967295:=by
 have hA:(0:Int)<=2147418112/\(2147418112:Int)<=4294967295:=Af
 have hN:(0:Int)<=327681/\(327681:Int)<=4294967295:=Af
 have hf:∀c ∈ p.fams,0<=c/\c<18446744073709551616:=λc hc=>by have:=hR.fams c hc;exact Ab
 have hfl:(xq p.spaces).length<=8:=zzg (List.length_filter_le _ _) Af;have hpf:=hp.f;have hd:=hR.deny;unfold qd3 at h
 repeat' split at h
 all_goals first|(cases h;done)|skip
 all_goals cases h
 .refine⟨λr hr=>?_,by simp only[qlW];exact Ga⟩
  obtain⟨c,hc,hr⟩:=List.mem_flatMap.1 hr;refine qcr ?_ .nil r hr;have:=hR.filter c hc;exact Ab
 .refine⟨λr hr=>?_,by simp only[ql0];exact Ga⟩
  obtain⟨c,hc,hr⟩:=List.mem_flatMap.1 hr;refine qcr ?_ .nil r hr;exact Ga
 .exact⟨qcr Ga (qmt Af Ga Ab hf),by simp[fmM]⟩
 .refine⟨λr hr=>?_,by simp[nsM]⟩
  have hb:∀arg:Int,TeG (qK arg 327681 (xq p.spaces)):=λarg=>qpd hN Ab λv hv=>qu6 hv
  rcases zzd.1 hr with hr|hr
  .rcases zzd.1 hr with hr|hr
   .exact qcr hA (hb 0) r hr
   .exact qcr hA ((hb 1).app (qmt Af hN Af Af) (by simp only[qK,qG,zzz,List.length_singleton];exact Ab)) r hr
  .exact qcr Af .nil r hr
 .refine⟨λr hr=>?_,by simp[weM]⟩
  rcases zzd.1 hr with hr|hr
  .rcases zzd.1 hr with hr|hr
   .exact qcr hA (qpd hN Af Af) r hr
   .exact qcr hA (qpd hN Af Af) r hr
  .exact qcr hA (qpd hN Af Af) r hr
 .exact⟨qcr hN (qmt Af hA Af Af),by simp[peM]⟩
 .exact⟨qcr hN (qmt Af hA Af Af),by simp[rtM]⟩
def qtu{p:Pol}(hp:PolOk p)(hR:PolR p){d a:Int}{x:GFil}(h:qby p d a=some x):FilR x/\qd5 x/\FilU x/\d≠0/\0<=d/\d<8/\0<=a/\a<6:=by
 unfold qby at h;split at h
 .rename_i hok;obtain⟨F,h1,h2⟩:=Option.bind_eq_some_iff.1 h;split at h2
  .cases h2;obtain⟨g1,g2⟩:=qGj (a:=a) h1 hp hR;unfold qeI at hok;simp only[zzB,zzb]at hok;obtain⟨⟨⟨⟨d0,d8⟩,a0,a6⟩,hm⟩,_⟩:=hok;have hl:=(qB3 d F h1 p a hp hm a0 a6).1;have ms:∀r ∈ jE (F p a).2.1,RuG r:=λr hr=>g1 r (List.mem_mergeSort.1 hr)
   refine⟨⟨λr hr=>(ms r hr).1,λr hr t ht=>((ms r hr).2.2.2 t ht).1⟩,⟨by simpa[jE]using hl,λr hr=>(ms r hr).2.2.1⟩,⟨g2,λr hr=>(ms r hr).2.1,λr hr t ht=>((ms r hr).2.2.2 t ht).2⟩,λe=>?_,d0,d8,a0,a6⟩
   rw[e]at h1;cases h1
  .cases h2
 exact Ag
section
variable {p:Pol}{o:Bool}
def qnm{q:Pt}(h:q ∈ qw p):(q=(0,6,qnU)/\0<p.arches.length)\/∃d a x,qby p d a=some x/\q=(d,a,x):=by
 unfold qw jL at h;simp only[List.range_zero,List.flatMap_nil,List.append_nil]at h;rcases zzd.1 h with h|h
 .unfold qc4 at h
  exact Ae
 .obtain⟨d,_,h⟩:=List.mem_flatMap.1 h;obtain⟨a,_,h⟩:=List.mem_flatMap.1 h;unfold qcI at h
  exact Ag
def qb4(p:Pol)(d:GData)(q:Pt):Int:=if q.1=0 then gdM p.arches d else qd8 q.2.2 d
def qCC(hp:PolOk p)(hR:PolR p){q:Pt}(hq:q ∈ qw p)(he:(qfK p o q).2=0):∃n,PrgT (qfK p o q).1 n (λd=>qb4 p d q):=by
 rcases qnm hq with⟨rfl,_⟩|⟨d,a,x,hx,rfl⟩
 .have e:qfK p o (0,6,qnU)=gdC p.arches o:=if_pos rfl;rw[e]at he ⊢;cases hb:qqm p.arches with
  | true=>rw[qFM hb]at he;cases he
  | false =>
   refine⟨10,?_⟩;rw[show(λd=>qb4 p d (0,6,qnU))=gdM p.arches from funext λd=>if_pos rfl]
   simp_all[qJW]
 .obtain⟨f1,f2,f3,d0,_⟩:=qtu hp hR hx;have e:qfK p o (d,a,x)=qes x o:=if_neg d0;rw[e]at he ⊢;rw[show(λy=>qb4 p y (d,a,x))=qd8 x from funext λy=>if_neg d0]
  cases hK:wZ x with
  | false=>rw[qA9 hK]at he;cases he
  | true=>exact⟨szF x,((qFg hK f1 f3 o).resolve_left Ab).2⟩
theorem qsw(hp:PolOk p)(hR:PolR p){q:Pt}(hq:q ∈ qw p)(he:(qfK p o q).2=0):qd2 (toP p o q)=true:=by
 obtain⟨n,hT⟩:=qCC hp hR hq he;have h1:(atU (qfK p o q).1 (qdU (qfK p o q).1)).2=0:=by rw[hT.um,qBD hT.good]
 unfold qd2 toP;simp only[zzB,zzb];refine⟨h1,?_⟩;rcases qnm hq with⟨rfl,_⟩|⟨d,a,x,hx,rfl⟩
 .rfl
 .obtain⟨_,_,_,d0,g0,g8,a0,a6⟩:=qtu hp hR hx
  exact Ae
def qoK:∀a,(jL p 0 a).length<=1
 | 0=>by unfold jL qc4;split<;>simp
 | a+1=>by
  have h:=qoK a
  have e:qcI p 0 a=[]:=by
   unfold qcI
   have:qby p ((0:Nat):Int) (a:Int)=none:=by
    unfold qby;split
    .rfl
    .rfl
   rw[this]
  rw[qib,e,List.append_nil];exact h
def qlf:∀d a,(jL p (d+1) a).length<=1+6*d+a
 | d,a+1=>by
  have h1:=qlf d a;have h2:=qoL p (d+1) a;rw[qib,zzP];exact Ab
 | d+1,0=>by
  have h1:=qlf d 6;rw[qjx];exact Ab
 | 0,0=>by
  have:=qoK (p:=p) 6;rw[qjx];exact Ab
def qia:(qw p).length<=43:=qlf 7 0
variable (hp:PolOk p) (hR:PolR p) (hall:∀q ∈ qw p,(qfK p o q).2=0)
include hp hR hall
def qsX:qfH ((qw p).map (toP p o))=true:=by
 have:=qia (p:=p);unfold qfH
 grind[qsw]
def qpf:∀x ∈ (qw p).map (toP p o),PrgIn x:=λx hx=>by
 obtain⟨q,hq,rfl⟩:=zzl.1 hx;obtain⟨n,hT⟩:=qCC hp hR hq (hall q hq);have:=hT.good.len;exact⟨by unfold toP;exact Ag,hT.good.ins⟩
def qwM{d:GData}(hd:DatOk d):evS ((qw p).map (toP p o)) d=vy ((qw p).map (qb4 p d)):=by
 unfold evS qem;rw[List.map_map]
 congr 1
 refine List.map_congr_left λq hq=>?_
 obtain⟨n,hT⟩:=qCC hp hR hq (hall q hq);exact(hT.tells d hd).1
end
end
section
variable {P:Program}{f:Nat}
def qu9(p:Pol):Bool:=decide (50<p.arches.length)||decide (300<p.filter.calls.length)||decide (300<p.log.calls.length)||decide (100<p.fams.length)
def qbN:IFn:=irJ 29 []
def qLb(hc:Ck P f qbN)(p:Pol):qc P f [.agg (qm p)] (.b (qu9 p)):=by
 refine Al ?_;simp only[qbN,qm,vI,simprocAttr];unfold qu9
 by_cases h1:50<p.arches.length
 .have h1':(50:Int)<p.arches.length:=Ab
  refine Sa h1' ?_;simp[vZ,h1]
 have h1':¬(50:Int)<p.arches.length:=Ab
 by_cases h2:300<p.filter.calls.length
 .have h2':(300:Int)<p.filter.calls.length:=Ab
  refine Sa (zzA h1' h2') ?_;simp[vZ,h1,h2]
 have h2':¬(300:Int)<p.filter.calls.length:=Ab
 by_cases h3:300<p.log.calls.length
 .have h3':(300:Int)<p.log.calls.length:=Ab
  refine Sa (zzA h1' (zzA h2' h3')) ?_;simp[vZ,h1,h2,h3]
 have h3':¬(300:Int)<p.log.calls.length:=Ab
 by_cases h4:100<p.fams.length
 .have h4':(100:Int)<p.fams.length:=Ab
  exact H1
 have h4':¬(100:Int)<p.fams.length:=Ab
 exact H1
def qFP{p:Pol}(h:qu9 p=false):PolOk p:=by
 unfold qu9 at h;simp only[Bool.or_eq_false_iff,decide_eq_false_iff_not]at h;exact⟨Ab,Ab,Ab,Ab⟩
def quu(p:Pol)(o:Bool):(∃e:Int,e≠0/\qbn p o=([],e))\/((∀q ∈ qw p,(qfK p o q).2=0)/\qbn p o=((qw p).map (toP p o),0)):=by
 unfold qbn
 exact Ag
def qEY(P:Program)(g:Nat):Prop:=∀l:List Prg,l.length<=100->(∀x ∈ l,PrgIn x)->∀d,DatOk d->qc P g [.fz l.length (rPr l),.agg (qq d)] (if qfH l=true then .tup [.w (evS l d),.j 0]else .tup [.w 0,.j 290])
def qBp{g:Nat}(hE:qEY P g){p:Pol}{o:Bool}(hp:PolOk p)(hR:PolR p)(hall:∀q ∈ qw p,(qfK p o q).2=0){d:GData}(hd:DatOk d) :
  qc P g [.fz (qw p).length (rPr ((qw p).map (toP p o))),.agg (qq d)] (.tup [.w (vy ((qw p).map (qb4 p d))),.j 0]):=by
 have h:=hE ((qw p).map (toP p o)) (by have:=qia (p:=p);rw[zzz];exact Ab) (qpf hp hR hall) d hd
 rw[if_pos (qsX hp hR hall),qwM hp hR hall hd,zzz]at h;exact h
def qf7(a b:Nat):IFn:=irJ 72 [65,a,133,b]
def qBF{g1 g2:Nat}(hc:Ck P f (qf7 g1 g2))(h1:∀t n,qc P g1 [.w t,.w n] (.tup [.j (ofM t n).1,.b (ofM t n).2]))(h2:∀l:List Int,l.length<=qe->∀x,qc P g2 [.fz l.length (rI .i64 l),.j x] (.b (decide (x ∈ l))))
  (l:List Int) (hl:l.length<=qe) (d:GData):qc P f [.fz l.length (rI .i64 l),.agg (qq d)] (.w (gdM l d)):=by
 refine qc.mk hc (by simp[qt,clo,qq,qd]) ?_;simp only[qf7,qq,vI,simprocAttr];refine Aa ?_;refine(h1 d.arch d.nr).sc ?_;unfold gdM;cases ho:(ofM d.arch d.nr).2 with
 | false =>
  refine Sa ho ?_;simp[vZ]
 | true =>
  refine Sa ho ?_;refine(h2 l hl _).sc ?_
  by_cases hm:(ofM d.arch d.nr).1 ∈ l
  .refine Sa hm ?_;simp[vZ]
  .refine Sa hm ?_;simp[vZ]
def qeE(a b c d e:Nat):ICode:=icJ 31 [70,a,71,b,72,c,28,d,73,e] 31
def qhe(a b c d e:Nat):IFn:=irJ 31 [70,a,71,b,72,c,28,d,73,e] [31] [qeE a b c d e]
def deT(g:Nat)(p:Pol):List (Nat×AV):=[(2,.ptr 0 0),(3,.ptr 1 0),(6,.ptr 2 0),(12,.fn g [] [.pf (qm p) 0])]
def deA:ICode:=.r [.q 7 (.alloc [.j 0,.j 0,.j 0,.nils,.w 0]),.u (.store 5 (.t 7) (.t 13))]
def deB(a b:Nat):ICode:=.blk 1 (sq [.r [.q 14 (.fAddr 0 (.t 7)),.q 15 (.load1 (.t 14)),.q 16 (.bin .eql (.t 15) (.c (.j 0)))],.cond (.t 16) (.reg true [.q 17 (.load1 (.t 6)),.q 18 (.fAddr 0 (.t 2)),.q 19 (.load1 (.t 18)),.q 20 (.loadN 9 (.t 3)),.l 21 a [.t 19,.t 20],.q 22 (.buildS 1 [.w 0] [(0,1,(.t 21))]),.q 23 (.app 1 4 true (.t 17) (.t 22)),.u (.store 1 (.t 6) (.t 23))]) (.reg true [.q 24 (.load1 (.t 6)),.q 25 (.fAddr 2 (.t 7)),.q 26 (.loadN 3 (.t 25)),.q 27 (.loadN 9 (.t 3)),.l 28 b [.t 26,.t 27],.q 29 (.buildS 1 [.w 0] [(0,1,(.t 28))]),.q 30 (.app 1 4 true (.t 24) (.t 29)),.u (.store 1 (.t 6) (.t 30))])])
def DeI(p:Pol)(d:GData)(g:Nat)(r0:Loop)(A:List Int)(s:Nat)(tr:Tr Blk):Prop :=
 ∃bb,5<=s/\tr.get 0=some (.v (qm p))/\tr.get 1=some (.v (qq d))/\tr.get 2=some (.v [.own bb A.length])/\tr.get bb=some (.cells 1 true true (rI .u32 A))/\(bb=3\/5<=bb)/\bb<s/\tr.get 4=some (.map (zV r0 (deT g p)))
theorem DeI.keep{p:Pol}{d:GData}{g:Nat}{r0:Loop}{A:List Int}{s s':Nat}{tr tr':Tr Blk}(h:DeI p d g r0 A s tr)(hs:s<=s')(ht:∀c,c<s->tr'.get c=tr.get c):DeI p d g r0 A s' tr':=by
 obtain⟨bb,h5,h0,h1,h2,hb,hb3,hbs,h4⟩:=h;exact⟨bb,Ab,(ht _ Ab).trans h0,(ht _ Ab).trans h1,(ht _ Ab).trans h2,(ht _ hbs).trans hb,hb3,Ab,(ht _ Ab).trans h4⟩
def qJp(P:Program)(g:Nat):Prop:=∀x,qd5 x->∀d,qc P g [.agg (ze x),.agg (qq d)] (.w (qd8 x d))
def qJs(P:Program)(g:Nat):Prop:=∀l:List Int,l.length<=qe->∀d,qc P g [.fz l.length (rI .i64 l),.agg (qq d)] (.w (gdM l d))
def qxp{gG gD g s:Nat}{p:Pol}{y:GData}{A:List Int}{r0:Loop}{tr:Tr Blk}{k:AV->Hp->Prop}(hG:qJs P gG)(hD:qJp P gD)(hr0:r0.state = .ready)(hp0:r0.pending=none)(hlo:LoopOk P r0 [13] deA (deB gG gD))(hp:PolOk p)
  (hI:DeI p y g r0 A s tr) (d a:Int) (x:GFil) {c:List AV}(hcc:c=ze x\/d=0/\c=[.j 0,.nils,.w 0]) (hl:qd5 x) (hm:A.length<=1000)
  (hk:∀s' tr',DeI p y g r0 (A++[qb4 p y (d,a,x)]) s' tr'->k (.b true) ⟨s',0,tr'⟩):SY P 4 [.agg (.j d :: .j a::c)] ⟨s,0,tr⟩ k:=by
 rcases hcc with rfl|⟨hd,rfl⟩
 all_goals
  obtain⟨bb,hs,h0,h1,h2,hb,hb3,hbs,h4⟩:=hI;have hpa:=hp.a;refine SY.mk (r:=r0) (ts:=deT g p) (ps:=[13]) h4 hr0 hlo (zzu _) (by show 4<s;exact Ab) rfl ?_;rw[show mkT (deT g p)=(((Tr.leaf.set 12 (.fn g [] [.pf (qm p) 0])).set 6 (.ptr 2 0)).set 3 (.ptr 1 0)).set 2 (.ptr 0 0)from rfl]
  refine qh ?_;simp only[qlg,deA,ze,vI,simprocAttr];refine Aa ?_;have n4:¬4=s:=Ab
  have n0:¬0=s:=Ab
  have n1:¬1=s:=Ab
  have n2:¬2=s:=Ab
  have nb:¬bb=s:=Ab
  have ns4:¬s=4:=Ab
  have nb4:¬bb=4:=Ab
  have n2b:¬2=bb:=Ab
  have nb1:¬bb=s+1:=Ab
  have n21:¬2=s+1:=Ab
  have n41:¬4=s+1:=Ab
  have n11:¬1=s+1:=Ab
  have ns2:¬s=2:=Ab
  have n2s:¬4=bb:=Ab
  have ns0:¬s=0:=Ab
  refine⟨deT g p,by simp[zz4,n4,h4],?_⟩
  refine qh ?_;simp only[qI,deB,vI,simprocAttr];simp +decide only[↓vS,vT,simprocAttr,ns4];obtain⟨q,hq⟩:∃q,qb4 p y (d,a,x)=q:=⟨_,rfl⟩;rw[hq]at hk;have hlp:(rI .u32 A).length=A.length:=xv;have hap:rI .u32 A++[.w q]=rI .u32 (A++[q]):=by simp[rI]
  have hr1:A.length+1<=qe:=by simp only[qe];exact Ab
  have hr2:(A.length+1)*4<=qe:=by simp only[qe];exact Ab
  by_cases k1:d=0
  .have h:=hG p.arches (by simp only[qe];exact Ab) y;rw[show gdM p.arches y=q by rw[<- hq];exact(if_pos k1).symm]at h
   subst k1;simp only[qq]at h h1;simp +decide only[↓vS,vT,simprocAttr,h0,h1,h2,n0,n1,n2,qm];refine B5 ?_;refine⟨Go.Kc.bsy r0,deT g p,by simp[zz4,n4,h4,nb4,n2s,n41,ns2],?_⟩
   rw[qc9,qeM hr0 hp0];simp only[qI];refine Aa ?_;refine hk _ _ ⟨s+1+1,Ab,?_,?_,?_,?_,.inr Ab,Ab,?_⟩<;>simp (decide:=true) [zz4,zzP,qq]
   all_goals (repeat rw[if_neg Ab])
   all_goals assumption
  .try exact absurd hd k1
   all_goals
    have h:=hD x hl y;rw[show qd8 x y=q by rw[<- hq];exact(if_neg k1).symm]at h
    simp only[ze,qq]at h h1;simp +decide only[↓vS,vT,simprocAttr,h0,h1,h2,n0,n1,n2,qm,k1];refine B5 ?_;refine⟨Go.Kc.bsy r0,deT g p,by simp[zz4,n4,h4,nb4,n2s,n41,ns2],?_⟩
    rw[qc9,qeM hr0 hp0];simp only[qI];refine Aa ?_;refine hk _ _ ⟨s+1+1,Ab,?_,?_,?_,?_,.inr Ab,Ab,?_⟩<;>simp (decide:=true) [zz4,zzP,qq]
    all_goals grind
def qEf{gM gP gG gD gC gA gL g:Nat}(hc:Ck P f (qhe gM gP gG gD gC))(hM:∀p,PolOk p->qc P gM [.agg (qm p)] (.b (qbz p)))(hP:∀p,qc P gP [.agg (qm p)] (.fn g [] [.pf (qm p) 0]))(hg:Ck P g (qaN gA gL))
  (hA:qc P gA [] (.fz 6 (rI .i64 [0,1,2,3,4,5]))) (hL:qlU P gL) (hG:qJs P gG) (hD:qJp P gD) (hC:qnX P gC) (p:Pol) (hp:PolOk p) (hR:PolR p) (hF:∀d a x,qby p d a=some x->FilR x/\qd5 x) (y:GData) (hu:∀x ∈ (qw p).map (qb4 p y),u32 x) :
  qc P f [.agg (qm p),.agg (qq y)] (if qbz p=true then .tup [.w (vy ((qw p).map (qb4 p y))),.j 0]else .tup [.w 0,.j 2]):=by
 refine qc.mk hc (by simp[qt,clo,qfX,qq]) ?_;have hM':=hM p hp;have hP':=hP p;have hlen:((qw p).map (qb4 p y)).length<=100:=by rw[zzz];have:=qia (p:=p);exact Ab
 simp only[qhe,vI,simprocAttr];simp only[qm]at hM' hP';simp +decide only[↓vS,vT,simprocAttr,qm,qq];refine hM'.sc ?_;cases hmp:qbz p with
 | false =>
  refine Aa ?_;simp[vZ]
 | true =>
  refine Aa ?_;refine hP'.sc ?_;refine Aa ?_;refine S.weak (Wk.mk (deT g p) [.v (qm p),.v (qq y),.v [.own 3 0],.cells 1 true true []] [0,1,2,99] ?_ ?_ ?_ rfl) ?_
  .simp[vw,deT,qm,qd,qg]
  .simp[vw,qm,qq,qa,qg,qd]
  .simp
  refine S.rangeF Ir (by simp[deT]) ⟨rfl,rfl⟩ ?_;refine qjR.2 ⟨.fn g [] [.pf (qm p) 0],by simp[deT,mkT,zz4],?_⟩
  refine⟨qdi hg,λr0 hr0 hp0 hlo=>?_⟩
  have hlo:LoopOk P r0 [13] deA (deB gG gD):=hlo;refine qoI (y:=4) (I:=λl s tr=>DeI p y g r0 (l.map (qb4 p y)) s tr) (E:=λ_ _=>False) (bd:=λ_=>False) (s:=5) (g:=g) hg hA hL ⟨λl s s' tr tr' h=>h.keep,λl d a x c s tr k hcc _ hl hm hI hk _=>?_⟩ hp hR hF ⟨3,zzL _,?_,?_,?_,?_,.inl rfl,Af,?_⟩ (λ_ s' tr' hI=>?_) Ae
  .exact qxp hG hD hr0 hp0 hlo hp hI d a x hcc hl (by rw[zzz];exact hm) λs' tr' h=>hk (λh=>h) s' tr' Ae
  iterate 5 (simp[zz4,qj1,mkH,trL,rI,Hp.push])
  .obtain⟨bb,h5,h0,h1,h2,hb,hb3,hbs,h4⟩:=hI;refine⟨r0,deT g p,h4,by rw[hr0];exact Af,?_⟩
   rw[hp0];simp only[qI];refine Ac ?_;have nb4:¬bb=4:=Ab
   generalize(qw p).map (qb4 p y)=A at *;refine S.has [(6,.ptr 2 0)] (by simp[qj,qn,deT,mkT,zz4]) (qh ?_);simp only[qeE,vI,simprocAttr];refine Sa h2 ?_;refine qc.lend (hC A hu Ab) ?_ rfl ?_
   .simp[vZ,vP,zz4,nb4,hb,qP qd];intro h;rw[h];rfl
   .refine Aa ?_;simp[vZ]
def xz(a b c d e:Nat):ICode:=icJ 33 [54,a,78,b,79,c,20,d,80,e] 63
def v8(a b c d e:Nat):ICode:=icJ 33 [54,a,78,b,79,c,20,d,80,e] 1839
def jx(a b c d e:Nat):ICode:=icJ 33 [54,a,78,b,79,c,20,d,80,e] 2351
def xE(a b c d e:Nat):ICode:=icJ 33 [54,a,78,b,79,c,20,d,80,e] 47 [73,57] [jx a b c d e,v8 a b c d e]
def v7(a b c d e:Nat):ICode:=icJ 33 [54,a,78,b,79,c,20,d,80,e] 471
def jy(a b c d e:Nat):ICode:=icJ 33 [54,a,78,b,79,c,20,d,80,e] 343
def qbf(a b c d e:Nat):IFn:=irJ 33 [54,a,78,b,79,c,20,d,80,e] [343,471,47,63] [jy a b c d e,v7 a b c d e,xE a b c d e,xz a b c d e]
section
variable {g1 g2 g3 g4 g5:Nat}{p:Pol}{y:GData}
def qbq(p:Pol)(y:GData)(d a:Nat):List Int:=(jL p d a).map (qb4 p y)
def qqE(d a:Nat):(qbq p y d a).length<=1+6*d+a:=by unfold qbq;rw[zzz];grind[qic]
def quQ{d a:Nat}(h:qby p (d:Int) (a:Int)=none):qbq p y d (a+1)=qbq p y d a:=by
 unfold qbq;rw[qib];unfold qcI;rw[h];simp
def quR{d a:Nat}{x:GFil}(h:qby p (d:Int) (a:Int)=some x)(hd:(d:Int)≠0):qbq p y d (a+1)=qbq p y d a++[qd8 x y]:=by
 have hd':d≠0:=Ab
 unfold qbq;rw[qib];unfold qcI;rw[h,List.map_append];simp[qb4,hd']
def qFq(d:Nat):qbq p y (d+1) 0=qbq p y d 6:=by unfold qbq;rw[qjx]
def qw0(p:Pol):Prop:=∀d a x,qby p d a=some x->qd5 x/\d≠0
def quN(hL:qlU P g3)(hD:∀x,qd5 x->∀d,DatOk d->qc P g4 [.agg (ze x),.agg (qq d)] (.w (qd8 x d)))(hp:PolOk p)(hR:PolR p)(hF:qw0 p)(hy:DatOk y){k:Nat}(hk:k<8){Q:X->Tr AV->Hp->Prop}
  (hQ:∀t' h',Wk 0 t' h' (mkT [(2,.ptr 0 0),(3,.ptr 1 0),(5,.own 2 (qbq p y (k+1) 0).length),(9,.j (k:Int))]) (mkH 0 [.v (qm p),.v (qq y),.cells 1 true true (rI .u32 (qbq p y (k+1) 0))])->Q .normal t' h')
  {t':Tr AV}{h':Hp}(hw:Wk 0 t' h' (mkT [(2,.ptr 0 0),(3,.ptr 1 0),(5,.own 2 (qbq p y k 0).length),(9,.j (k:Int))]) (mkH 0 [.v (qm p),.v (qq y),.cells 1 true true (rI .u32 (qbq p y k 0))])) :
  S P 0 (jx g1 g2 g3 g4 g5) Q t' h':=by
 refine Ay ?_;simp only[jx,vI,simprocAttr];refine Aa ?_;refine SL.loop (α:=Nat) (λa=>[(2,.ptr 0 0),(3,.ptr 1 0),(5,.own 2 (qbq p y k a).length),(9,.j (k:Int)),(10,.j (a:Int))]) (λa=>[.v (qm p),.v (qq y),.cells 1 true true (rI .u32 (qbq p y k a))]) (λa=>a<=6) (λa=>6-a) 0 [0,1,2] ?_ ?_ ?_ rfl ?_ ?_
 .simp[vw]
 .exact D1
 .simp
 .exact Ab
 rintro a ha G ih;refine Ak ?_
 by_cases hla:a<6
 .have hla':(a:Int)<6:=Ab
  have hwa:=wS a;have h3:=hL p hp hR k a;have hF':=hF k a;have hT:qby p (k:Int) (a:Int)=none->_:=quQ (y:=y);have hS:∀x,qby p (k:Int) (a:Int)=some x->(k:Int)≠0->_:=λx=>quR (y:=y)
  have ih2:=ih (a+1) Ab Ab;have hln:=qqE (p:=p) (y:=y) k a;simp only[qm]at h3;simp +decide only[↓vS,vT,simprocAttr,qm,hla'];refine h3.sc ?_;cases hlow:qby p k a with
  | none =>
   rw[hT hlow]at ih2;simp +decide only[qhr,↓vS,vT,simprocAttr,hwa];refine ih2 _ _ (Wk.mk _ _ [0,1,2] ?_ ?_ ?_ rfl)
   .simp[vw]
   .exact D1
   .simp
  | some x =>
   obtain⟨hx,hd0⟩:=hF' x hlow;rw[hS x hlow hd0]at ih2;have h4:=hD x hx y hy;simp only[ze,qq]at h4;generalize qbq p y k a=A at *;have hlp:(rI .u32 A).length=A.length:=xv;have hap:rI .u32 A++[.w (qd8 x y)]=rI .u32 (A++[qd8 x y]):=by simp[rI]
   have hr1:A.length+1<=qe:=by simp only[qe];exact Ab
   have hr2:(A.length+1)*4<=qe:=by simp only[qe];exact Ab
   simp +decide only[qhr,ze,qq,↓vS,vT,simprocAttr];refine h4.sc ?_;simp +decide only[↓vS,vT,simprocAttr,hwa,hlp,hap,hr1,hr2,zzU];refine ih2 _ _ (Wk.mk _ _ [0,1,5] ?_ ?_ ?_ rfl)
   .simp[vw]
   .exact D1
   .simp
 .obtain rfl:a=6:=Ab
  have hla':¬(((6:Nat):Int)<6):=Af
  refine Sa hla' ?_;rw[<- qFq];refine hQ _ _ (Wk.mk _ _ [0,1,2] ?_ ?_ ?_ rfl)
  .simp[vw]
  .exact D1
  .simp
def qxq(hL:qlU P g3)(hD:∀x,qd5 x->∀d,DatOk d->qc P g4 [.agg (ze x),.agg (qq d)] (.w (qd8 x d)))(hp:PolOk p)(hR:PolR p)(hF:qw0 p)(hy:DatOk y){Q:X->Tr AV->Hp->Prop}
  (hQ:∀t' h',Wk 0 t' h' (mkT [(5,.own 0 (qbq p y 8 0).length)]) (mkH 0 [.cells 1 true true (rI .u32 (qbq p y 8 0))])->Q .normal t' h')
  {t':Tr AV}{h':Hp}(hw:Wk 0 t' h' (mkT [(2,.ptr 0 0),(3,.ptr 1 0),(5,.own 2 (qbq p y 0 0).length)]) (mkH 0 [.v (qm p),.v (qq y),.cells 1 true true (rI .u32 (qbq p y 0 0))])) :
  S P 0 (xE g1 g2 g3 g4 g5) Q t' h':=by
 refine Ay ?_;simp only[xE,vI,simprocAttr];refine Aa ?_;refine SL.loop (α:=Nat) (λk=>[(2,.ptr 0 0),(3,.ptr 1 0),(5,.own 2 (qbq p y k 0).length),(9,.j (k:Int))]) (λk=>[.v (qm p),.v (qq y),.cells 1 true true (rI .u32 (qbq p y k 0))]) (λk=>k<=8) (λk=>8-k) 0 [0,1,2] ?_ ?_ ?_ rfl ?_ ?_
 .simp[vw]
 .exact D1
 .simp
 .exact Ab
 rintro k hk G ih;refine Ak ?_
 by_cases hlk:k<8
 .have hlk':(k:Int)<8:=Ab
  have hwk:=wS k;refine Sa hlk' ?_;refine quN hL hD hp hR hF hy hlk (λt2 h2 hw2=>?_) (Wk.mk _ _ [0,1,2] ?_ ?_ ?_ rfl)
  .refine Ac ?_;refine S.weak hw2 (qh ?_);simp only[v8,vI,simprocAttr];refine Sa hwk ?_;refine ih (k+1) Ab Ab _ _ (Wk.mk _ _ [0,1,2] ?_ ?_ ?_ rfl)
   .simp[vw]
   .exact D1
   .simp
  .simp[vw]
  .exact D1
  .simp
 .obtain rfl:k=8:=Ab
  have hlk':¬(((8:Nat):Int)<8):=Af
  refine Sa hlk' ?_;refine hQ _ _ (Wk.mk _ _ [2] ?_ ?_ ?_ rfl)
  .simp[vw]
  .exact D1
  .simp
def quO(h2:∀(xs:List Int) (x:Int),xs.length<=qe->qc P g2 [.fz xs.length (rI .i64 xs),.j x] (.b (inA xs x)))(hp:PolOk p)(h0:0<p.arches.length){Q:X->Tr AV->Hp->Prop}
  (hQ:∀t' h',Wk 0 t' h' (mkT [(2,.ptr 0 0),(3,.ptr 1 0),(5,.nils),(8,.w (gdM p.arches y))]) (mkH 0 [.v (qm p),.v (qq y)])->Q .normal t' h')
  {t':Tr AV}{h':Hp}(hw:Wk 0 t' h' (mkT [(2,.ptr 0 0),(3,.ptr 1 0),(5,.nils),(6,.j (ofM y.arch y.nr).1),(7,.b (ofM y.arch y.nr).2),(8,.w 2147483648)]) (mkH 0 [.v (qm p),.v (qq y)])) :
  S P 0 (jy g1 g2 g3 g4 g5) Q t' h':=by
 refine Ay ?_;have hpa:=hp.a;have hn:p.arches≠[]:=Ag
 have hi:=h2 p.arches (ofM y.arch y.nr).1 (by simp only[qe];exact Ab);rw[show inA p.arches (ofM y.arch y.nr).1=decide ((ofM y.arch y.nr).1 ∈ p.arches)by simp[inA,hn]]at hi
 unfold gdM at hQ;simp only[jy,vI,simprocAttr];cases ho:(ofM y.arch y.nr).2 with
 | false =>
  rw[ho]at hQ;refine Aa ?_;exact Cf
 | true =>
  rw[ho]at hQ;simp +decide only[↓vS,vT,simprocAttr,qm];refine hi.sc ?_
  by_cases hm:(ofM y.arch y.nr).1 ∈ p.arches
  .rw[if_pos ⟨rfl,hm⟩]at hQ;refine Sa hm ?_;exact Cf
  .rw[if_neg (λh=>hm h.2)]at hQ
   refine Sa hm ?_;exact Cf
def quP(hg:qnX P g5)(A:List Int)(hA:∀x ∈ A,u32 x)(hn:A.length<=100){t':Tr AV}{h':Hp}(hw:Wk 0 t' h' (mkT [(5,.own 0 A.length)]) (mkH 0 [.cells 1 true true (rI .u32 A)])) :
  S P 0 (xz g1 g2 g3 g4 g5) (zQ [.tmp 4] λv' h'=>Frz h' v' (.w (vy A))) t' h':=by
 refine Ay ?_;simp only[xz,vI,simprocAttr];refine Aa ?_;refine(hg A hA Ab).give [(0,.cells 1 true true (rI .u32 A))] Be rfl ?_ ?_
 .exact F7
 refine El ?_;refine Aa ?_;simp[vZ]
def qFo(hc:Ck P f (qbf g1 g2 g3 g4 g5))(h1:∀t n:Int,0<=n->n<=4294967295->qc P g1 [.w t,.w n] (.tup [.j (ofM t n).1,.b (ofM t n).2]))(h2:∀(xs:List Int) (x:Int),xs.length<=qe->qc P g2 [.fz xs.length (rI .i64 xs),.j x] (.b (inA xs x)))
  (hL:qlU P g3) (hD:∀x,qd5 x->∀d,DatOk d->qc P g4 [.agg (ze x),.agg (qq d)] (.w (qd8 x d))) (h5:qnX P g5) (hp:PolOk p) (hR:PolR p) (hF:qw0 p) (hy:DatOk y) (hu:∀x ∈ (qw p).map (qb4 p y),u32 x) :
  qc P f [.agg (qm p),.agg (qq y)] (.w (vy ((qw p).map (qb4 p y)))):=by
 refine qc.mk hc (by simp[qt,clo,qfX,qq]) ?_;have hof:=h1 y.arch y.nr hy.nr0 hy.nr1;have hln:=qqE (p:=p) (y:=y) 8 0
 have fin:∀{t' h'},Wk 0 t' h' (mkT [(2,.ptr 0 0),(3,.ptr 1 0),(5,.own 2 (qbq p y 0 0).length)]) (mkH 0 [.v (qm p),.v (qq y),.cells 1 true true (rI .u32 (qbq p y 0 0))])->S P 0 (xE g1 g2 g3 g4 g5) (λe t h=>onX e (S P 0 (xz g1 g2 g3 g4 g5) (zQ [.tmp 4] λv' h'=>Frz h' v' (.w (vy ((qw p).map (qb4 p y))))) t h) (λid=>(zQ [.tmp 4] λv' h'=>Frz h' v' (.w (vy ((qw p).map (qb4 p y))))) (.exit id) t h) ((zQ [.tmp 4] λv' h'=>Frz h' v' (.w (vy ((qw p).map (qb4 p y))))) .ret t h)) t' h':=λhw =>
  qxq hL hD hp hR hF hy (λt2 h2 hw2=>quP h5 _ hu (by show(qbq p y 8 0).length<=100;exact Ab) hw2) hw
 simp only[qbf,qm,qq,vI,simprocAttr];refine Aa ?_;refine hof.sc ?_;refine Aa ?_
 by_cases h0:0<p.arches.length
 .have h0':(0:Int)<p.arches.length:=Ab
  have e0:qbq p y 0 0=[gdM p.arches y]:=by simp[qbq,jL,qc4,h0,qb4]
  rw[e0]at fin;refine Sa h0' ?_;refine quO (y:=y) h2 hp h0 (λt2 h3 hw2=>?_) (Wk.mk _ _ [0,1] ?_ ?_ ?_ rfl)
  .refine Ac ?_;refine S.weak hw2 (qh ?_);simp only[v7,vI,simprocAttr];refine Aa ?_;refine fin (Wk.mk _ _ [0,1,3] ?_ ?_ ?_ rfl)
   .simp[vw]
   .simp[vw,qm,qq,qa,qd,qg,rI]
   .simp
  .simp[vw]
  .exact D1
  .simp
 .have h0':¬(0:Int)<p.arches.length:=Ab
  have e0:qbq p y 0 0=[]:=by simp[qbq,jL,qc4,h0]
  rw[e0]at fin;refine Sa h0' ?_;refine fin (Wk.mk _ _ [0,1,99] ?_ ?_ ?_ rfl)
  .simp[vw]
  .simp[vw,qm,qq,qa,qd,qg,rI]
  .simp
end
def xd(a:Nat):ICode:=icJ 34 [79,a] 31
def vd(a:Nat):ICode:=icJ 34 [79,a] 919
def je(a:Nat):ICode:=icJ 34 [79,a] 1175
def xm(a:Nat):ICode:=icJ 34 [79,a] 23 [73,57] [je a,vd a]
def qaz(a:Nat):IFn:=irJ 34 [79,a] [23,31] [xm a,xd a]
def cPq(q:Pt):List AV:=[.j q.1,.j q.2.1,.nils]
def rPq(l:List Pt):List AV:=l.flatMap cPq
def qCH{l:List Pt}:(rPq l).length=l.length*3:=by unfold rPq;induction l with
 | nil=>rfl
 | cons x l ih=>rw[zzv,zzP,ih];simp[cPq];omega
def kh(l:List Pt):qt (rPq l)=true:=by unfold rPq;induction l with
 | nil=>rfl
 | cons x l ih=>rw[zzv];simp[xO,cPq,qt,clo,ih]
section
variable {g1:Nat}{p:Pol}
def qvT{d a:Nat}(h:qby p (d:Int) (a:Int)=none):jL p d (a+1)=jL p d a:=by
 rw[qib];unfold qcI;rw[h];simp
def qvU{d a:Nat}{x:GFil}(h:qby p (d:Int) (a:Int)=some x):jL p d (a+1)=jL p d a++[((d:Int),(a:Int),x)]:=by
 rw[qib];unfold qcI;exact Ii
def qzo(hL:qlU P g1)(hp:PolOk p)(hR:PolR p){k:Nat}(hk:k<8){Q:X->Tr AV->Hp->Prop}
  (hQ:∀t' h',Wk 0 t' h' (mkT [(1,.ptr 0 0),(3,.own 1 (jL p (k+1) 0).length),(4,.j (k:Int))]) (mkH 0 [.v (qm p),.cells 3 true true (rPq (jL p (k+1) 0))])->Q .normal t' h')
  {t':Tr AV}{h':Hp}(hw:Wk 0 t' h' (mkT [(1,.ptr 0 0),(3,.own 1 (jL p k 0).length),(4,.j (k:Int))]) (mkH 0 [.v (qm p),.cells 3 true true (rPq (jL p k 0))])) :
  S P 0 (je g1) Q t' h':=by
 refine Ay ?_;simp only[je,vI,simprocAttr];refine Aa ?_;refine SL.loop (α:=Nat) (λa=>[(1,.ptr 0 0),(3,.own 1 (jL p k a).length),(4,.j (k:Int)),(5,.j (a:Int))]) (λa=>[.v (qm p),.cells 3 true true (rPq (jL p k a))]) (λa=>a<=6) (λa=>6-a) 0 [0,1] ?_ ?_ ?_ rfl ?_ ?_
 .simp[vw]
 .exact Fj
 .simp
 .exact Ab
 rintro a ha G ih;refine Ak ?_
 by_cases hla:a<6
 .have hla':(a:Int)<6:=Ab
  have hwa:=wS a;have h3:=hL p hp hR k a;have ih2:=ih (a+1) Ab Ab;have hln:=qic p k a;simp only[qm]at h3;simp +decide only[↓vS,vT,simprocAttr,qm,hla'];refine h3.sc ?_;cases hlow:qby p k a with
  | none =>
   rw[qvT hlow]at ih2;simp +decide only[qhr,↓vS,vT,simprocAttr,hwa];refine ih2 _ _ (Wk.mk _ _ [0,1] ?_ ?_ ?_ rfl)
   .simp[vw]
   .exact Fj
   .simp
  | some x =>
   rw[qvU hlow]at ih2;generalize jL p k a=A at *;have hlp:(rPq A).length=A.length*3:=qCH;have hap:rPq A++[.j (k:Int),.j (a:Int),.nils]=rPq (A++[((k:Int),(a:Int),x)]):=by simp[rPq,cPq]
   have hr1:A.length+1<=qe:=by simp only[qe];exact Ab
   have hr2:(A.length+1)*40<=qe:=by simp only[qe];exact Ab
   simp +decide only[qhr,ze,↓vS,vT,simprocAttr,hwa,hlp,hap,hr1,hr2];refine ih2 _ _ (Wk.mk _ _ [0,4] ?_ ?_ ?_ rfl)
   .simp[vw]
   .exact Fj
   .simp
 .obtain rfl:a=6:=Ab
  have hla':¬(((6:Nat):Int)<6):=Af
  refine Sa hla' ?_;rw[<- qjx];refine hQ _ _ (Wk.mk _ _ [0,1] ?_ ?_ ?_ rfl)
  .simp[vw]
  .exact Fj
  .simp
def qzn(hL:qlU P g1)(hp:PolOk p)(hR:PolR p){Q:X->Tr AV->Hp->Prop}
  (hQ:∀t' h',Wk 0 t' h' (mkT [(3,.own 0 (qw p).length)]) (mkH 0 [.cells 3 true true (rPq (qw p))])->Q .normal t' h')
  {t':Tr AV}{h':Hp}(hw:Wk 0 t' h' (mkT [(1,.ptr 0 0),(3,.own 1 (jL p 0 0).length)]) (mkH 0 [.v (qm p),.cells 3 true true (rPq (jL p 0 0))])) :
  S P 0 (xm g1) Q t' h':=by
 refine Ay ?_;simp only[xm,vI,simprocAttr];refine Aa ?_;refine SL.loop (α:=Nat) (λk=>[(1,.ptr 0 0),(3,.own 1 (jL p k 0).length),(4,.j (k:Int))]) (λk=>[.v (qm p),.cells 3 true true (rPq (jL p k 0))]) (λk=>k<=8) (λk=>8-k) 0 [0,1] ?_ ?_ ?_ rfl ?_ ?_
 .simp[vw]
 .exact Fj
 .simp
 .exact Ab
 rintro k hk G ih;refine Ak ?_
 by_cases hlk:k<8
 .have hlk':(k:Int)<8:=Ab
  have hwk:=wS k;refine Sa hlk' ?_;refine qzo hL hp hR hlk (λt2 h2 hw2=>?_) (Wk.mk _ _ [0,1] ?_ ?_ ?_ rfl)
  .refine Ac ?_;refine S.weak hw2 (qh ?_);simp only[vd,vI,simprocAttr];refine Sa hwk ?_;refine ih (k+1) Ab Ab _ _ (Wk.mk _ _ [0,1] ?_ ?_ ?_ rfl)
   .simp[vw]
   .exact Fj
   .simp
  .simp[vw]
  .exact Fj
  .simp
 .obtain rfl:k=8:=Ab
  have hlk':¬(((8:Nat):Int)<8):=Af
  refine Sa hlk' ?_;refine hQ _ _ (Wk.mk _ _ [1] ?_ ?_ ?_ rfl)
  .simp[vw,qw]
  .simp[vw,qa,kh,qw]
  .simp
def qvV(A:List Pt){t':Tr AV}{h':Hp}(hw:Wk 0 t' h' (mkT [(3,.own 0 A.length)]) (mkH 0 [.cells 3 true true (rPq A)])) :
  S P 0 (xd g1) (zQ [.tmp 2] λv' h'=>Frz h' v' (.fz A.length (rPq A))) t' h':=by
 refine Ay ?_;simp only[xd,vI,simprocAttr];refine Aa ?_;simp[vZ,vP,zz4,qP (kh _)];intro h;rw[h];rfl
def qG9(hc:Ck P f (qaz g1))(hL:qlU P g1)(hp:PolOk p)(hR:PolR p):qc P f [.agg (qm p)] (.fz (qw p).length (rPq (qw p))):=by
 refine qc.mk hc (by simp[qt,clo,qfX]) ?_
 have fin:∀{t' h'},Wk 0 t' h' (mkT [(1,.ptr 0 0),(3,.own 1 (jL p 0 0).length)]) (mkH 0 [.v (qm p),.cells 3 true true (rPq (jL p 0 0))])->S P 0 (xm g1) (λe t h=>onX e (S P 0 (xd g1) (zQ [.tmp 2] λv' h'=>Frz h' v' (.fz (qw p).length (rPq (qw p)))) t h) (λid=>(zQ [.tmp 2] λv' h'=>Frz h' v' (.fz (qw p).length (rPq (qw p)))) (.exit id) t h) ((zQ [.tmp 2] λv' h'=>Frz h' v' (.fz (qw p).length (rPq (qw p)))) .ret t h)) t' h':=λhw =>
  qzn hL hp hR (λt2 h2 hw2=>qvV _ hw2) hw
 simp only[qaz,qm,vI,simprocAttr]
 by_cases h0:0<p.arches.length
 .have h0':(0:Int)<p.arches.length:=Ab
  have e0:jL p 0 0=[(0,6,qnU)]:=by simp[jL,qc4,h0]
  rw[e0]at fin;refine Sa h0' ?_;refine fin (Wk.mk _ _ [0,2] ?_ ?_ ?_ rfl)
  .simp[vw]
  .simp[vw,qm,qa,qd,qg,rPq,cPq]
  .simp
 .have h0':¬(0:Int)<p.arches.length:=Ab
  have e0:jL p 0 0=[]:=by simp[jL,qc4,h0]
  rw[e0]at fin;refine Sa h0' ?_;refine fin (Wk.mk _ _ [0,99] ?_ ?_ ?_ rfl)
  .simp[vw]
  .simp[vw,qm,qa,qd,qg,rPq]
  .simp
end
theorem qFp{x:GFil}(hU:FilU x)(d:GData):u32 (qd8 x d):=by
 unfold qd8;split
 .exact⟨Af,Af⟩
 .split
  .exact hU.d
  .rename_i r hr;have hm:=List.mem_of_find?_eq_some hr;split
   .rename_i t ht;have:=List.mem_of_find?_eq_some ht;exact hU.t r hm t this
   .exact hU.r r hm
def qLF{p:Pol}(hp:PolOk p)(hR:PolR p)(d:GData):∀x ∈ (qw p).map (qb4 p d),u32 x:=λx hx=>by
 obtain⟨q,hq,rfl⟩:=zzl.1 hx;rcases qnm hq with⟨rfl,_⟩|⟨k,a,y,hy,rfl⟩
 .show u32 (gdM p.arches d);unfold gdM;split<;>exact⟨Af,Af⟩
 .obtain⟨_,_,fU,d0,_⟩:=qtu hp hR hy;rw[show qb4 p d (k,a,y)=qd8 y d from if_neg d0]
  grind[qFp]
def qw2(P:Program)(g:Nat):Prop:=∀l:List Prg,l.length<=48->(∀x ∈ l,PrgIn x/\qd2 x=true/\qlo x.ins=qdU x.ins)->qc P g [.fz l.length (rPr l)] (.b true)
def qwA{g:Nat}(h:qqs P g){p:List Ins}(hi:∀i ∈ p,InsOk i)(hu:qlo p=qdU p)(hz:(atU p (qdU p)).2=0):∃n:Int,qc P g [.fz p.length (rP p)] (.tup [.j n,.j 0]):=by
 have hb:=(qwB hz).2.1;have:=h p hi Ab;rw[hu,hz]at this
 exact Ag
def qGg{g:Nat}(hc:Ck P f (qcH g))(hg:qqs P g):qw2 P f:=by
 intro l hl hx;refine qc.mk hc Ji ?_;simp only[qcH,vI,simprocAttr];have h48':¬(48:Int)<l.length:=Ab
 refine Sa h48' ?_;refine SL.loop (α:=Nat) (λj=>[(0,.fz l.length (rPr l)),(3,.j (j:Int))]) (λ_=>[]) (λj=>j<=l.length) (λj=>l.length-j) 0 [] ?_ ?_ ?_ rfl ?_ ?_
 .simp[vw,jh]
 .trivial
 .simp
 .exact Ab
 rintro j hj G ih;refine Ak ?_
 by_cases hlt:j<l.length
 .obtain⟨x,hlx⟩:∃x,l[j]?=some x:=⟨_,zzE hlt⟩;obtain⟨hxx,hm,hu⟩:=hx x Ag;have hel:=qS (f:=cPr) (m:=3) qeY hlx;rw[show l.flatMap cPr=rPr l from rfl]at hel
  simp only[cPr]at hel;have h3:j*3+3<=(rPr l).length:=by rw[qpP];exact Ab
  have hw1:=wS j;unfold qd2 at hm;simp only[zzB,zzb]at hm;obtain⟨e1,hat⟩:=qwA hg hxx.ins hu hm.1;have hm2:=hm.2;have q1:¬x.dir<0:=D7
  have q2:¬7<x.dir:=D7
  have q3:¬x.arch<0:=D7
  have q4:¬6<x.arch:=D7
  have ih2:=ih (j+1) hlt Ab;refine Sa (zzA hlt (zzA hel h3)) ?_;refine hat.sc ?_
  by_cases h0:x.dir=0
  .have h6:x.arch=6:=Ae
   refine Sa (zzA h0 (zzA h6 hw1)) ?_;exact F0
  .have h6:¬x.arch=6:=Ag
   simp +decide only[↓vS,vT,simprocAttr,q1,q2,q3,q4,h0,h6,hw1];exact F0
 .refine Sa hlt ?_;simp[vZ]
theorem qD9{p:Pol}{o:Bool}(hp:PolOk p)(hR:PolR p){q:Pt}(hq:q ∈ qw p)(he:(qfK p o q).2=0):qlo (toP p o q).ins=qdU (toP p o q).ins:=by
 obtain⟨n,h⟩:=qCC hp hR hq he;exact h.ud.trans h.um.symm
def zT(a b c d e g h i j k:Nat):ICode:=icJ 7 [29,a,30,b,31,c,32,d,33,e,34,g,35,h,36,i,37,j,38,k] 4095
def zX(a b c d e g h i j k:Nat):ICode:=icJ 7 [29,a,30,b,31,c,32,d,33,e,34,g,35,h,36,i,37,j,38,k] 3071
def vV(a b c d e g h i j k:Nat):IFn:=irJ 7 [29,a,30,b,31,c,32,d,33,e,34,g,35,h,36,i,37,j,38,k] [3071,4095] [zX a b c d e g h i j k,zT a b c d e g h i j k]
section
variable {g1 g2 g3 g4 g5 g6 g7 g8 g9 g10:Nat}{p:Pol}{o:Bool}{d:GData}
def qJq(P:Program)(g:Nat):Prop:=∀p,PolOk p->PolR p->∀d,qc P g [.agg (qm p),.agg (qq d)] (if qbz p=true then .tup [.w (vy ((qw p).map (qb4 p d))),.j 0]else .tup [.w 0,.j 2])
def qJr(P:Program)(g:Nat):Prop:=∀p,PolOk p->PolR p->∀d,DatOk d->qc P g [.agg (qm p),.agg (qq d)] (.w (vy ((qw p).map (qb4 p d))))
def qJw(P:Program)(g:Nat):Prop:=∀p,PolOk p->PolR p->qc P g [.agg (qm p)] (.fz (qw p).length (rPq (qw p)))
def qDx(P:Program)(g:Nat):Prop:=∀l:List Prg,l.length<=48->(∀x ∈ l,PrgGood x.ins)->∀d,DatOk d->qc P g [.fz l.length (rPr l),.agg (qq d)] (.w (evS l d))
def qss(h9:qEY P g9)(h10:qDx P g10)(hp:PolOk p)(hR:PolR p)(hall:∀q ∈ qw p,(qfK p o q).2=0)(hd:DatOk d){t':Tr AV}{h':Hp}
  (hw:Wk 0 t' h' (mkT [(5,.ptr 0 0),(7,.fz (qw p).length (rPr ((qw p).map (toP p o)))),(11,.w (vy ((qw p).map (qb4 p d))))]) (mkH 0 [.v (qq d)])) :
  S P 0 (zT g1 g2 g3 g4 g5 g6 g7 g8 g9 g10) (zQ [.tmp 6] λv' h'=>Frz h' v' (.b true)) t' h':=by
 refine Ay ?_;have e1:=qBp h9 hp hR hall hd;have hm:=qlP (λx hx=>(qpf hp hR hall x hx).ins) (qsX hp hR hall)
 have e2:=h10 ((qw p).map (toP p o)) hm.1 hm.2 d hd;rw[qwM hp hR hall hd,zzz]at e2;generalize vy ((qw p).map (qb4 p d))=w at *;simp only[qq]at e1 e2;simp only[zT,qq,vI,simprocAttr];refine Aa ?_;refine e1.sc ?_;refine Aa ?_;refine e2.sc ?_;refine Aa ?_;simp[vZ]
def qvy(h8:qqs P g8)(hp:PolOk p)(hR:PolR p)(hall:∀q ∈ qw p,(qfK p o q).2=0)(w:Int){Q:X->Tr AV->Hp->Prop}
  (hQ:∀t' h',Wk 0 t' h' (mkT [(5,.ptr 0 0),(7,.fz (qw p).length (rPr ((qw p).map (toP p o)))),(11,.w w)]) (mkH 0 [.v (qq d)])->Q .normal t' h') {t':Tr AV}{h':Hp}
  (hw:Wk 0 t' h' (mkT [(5,.ptr 0 0),(7,.fz (qw p).length (rPr ((qw p).map (toP p o)))),(11,.w w),(12,.fz (qw p).length (rPq (qw p)))]) (mkH 0 [.v (qq d)])) :
  S P 0 (zX g1 g2 g3 g4 g5 g6 g7 g8 g9 g10) Q t' h':=by
 refine Ay ?_;have hle:=qia (p:=p);simp only[zX,vI,simprocAttr];refine Aa ?_;refine SL.loop (α:=Nat) (λj=>[(5,.ptr 0 0),(7,.fz (qw p).length (rPr ((qw p).map (toP p o)))),(11,.w w),(12,.fz (qw p).length (rPq (qw p))),(13,.j (j:Int))]) (λ_=>[.v (qq d)]) (λj=>j<=(qw p).length) (λj=>(qw p).length-j) 0 [0] ?_ ?_ ?_ rfl ?_ ?_
 .simp[vw,jh,kh]
 .simp[vw,qq]
 .simp
 .exact Ab
 rintro j hj G ih;refine Ak ?_
 by_cases hlt:j<(qw p).length
 .have hlt':(j:Int)<(qw p).length:=Ab
  have hwj:=wS j;obtain⟨q,hq⟩:∃q,(qw p)[j]?=some q:=⟨_,zzE hlt⟩;have hqm:=zzM hq;have hx:((qw p).map (toP p o))[j]?=some (toP p o q):=by rw[zzo,hq];rfl
  have a0:(rPr ((qw p).map (toP p o)))[j*3]?=some (.j q.1):=by
   have:=zq (f:=cPr) (m:=3) qeY hx (i:=0) Ab;simpa[cPr,toP,rPr]using this
  have a1:(rPr ((qw p).map (toP p o)))[j*3+1]?=some (.j q.2.1):=by
   have:=zq (f:=cPr) (m:=3) qeY hx (i:=1) Ab;simpa[cPr,toP,rPr]using this
  have a2:(rPr ((qw p).map (toP p o)))[j*3+2]?=some (.fz (toP p o q).ins.length (rP (toP p o q).ins)):=by
   have:=zq (f:=cPr) (m:=3) qeY hx (i:=2) Ab;simpa[cPr,rPr]using this
  have b0:(rPq (qw p))[j*3]?=some (.j q.1):=by
   have:=zq (f:=cPq) (m:=3) (λ_=>rfl) hq (i:=0) Ab
   simpa[cPq,rPq]using this
  have b1:(rPq (qw p))[j*3+1]?=some (.j q.2.1):=by
   have:=zq (f:=cPq) (m:=3) (λ_=>rfl) hq (i:=1) Ab
   simpa[cPq,rPq]using this
  have hz:(atU (toP p o q).ins (qdU (toP p o q).ins)).2=0:=by
   have:=qsw (o:=o) hp hR hqm (hall q hqm);unfold qd2 at this
   exact Ae
  obtain⟨n,hn⟩:=qwA h8 (qpf hp hR hall _ Ag).ins (qD9 hp hR hqm (hall q hqm)) hz;have ih2:=ih (j+1) Ab Ab;generalize(toP p o q).ins=L at hn a2;generalize rPr ((qw p).map (toP p o))=RP at *;simp +decide only[↓vS,vT,simprocAttr,hlt,hlt',a2,zzU];refine hn.sc ?_;simp +decide only[↓vS,vT,simprocAttr,hlt,hlt',a0,a1,b0,b1];refine qX ?_;simp +decide only[↓vS,vT,simprocAttr,hlt,hlt',a0,a1,b0,b1,hwj,zzU,ne_eq,not_true_eq_false];refine ih2 _ _ (Wk.mk _ _ [0] ?_ ?_ ?_ rfl)
  .simp[vw,jh,kh]
  .simp[vw,qq]
  .simp
 .obtain rfl:j=(qw p).length:=Ab
  have hlt':¬(((qw p).length:Nat):Int)<(qw p).length:=Ab
  refine Sa hlt' ?_;refine hQ _ _ (Wk.mk _ _ [0] ?_ ?_ ?_ rfl)
  .simp[vw,jh]
  .simp[vw,qq]
  .simp
def qyo(hc:Ck P f (vV g1 g2 g3 g4 g5 g6 g7 g8 g9 g10))(h1:∀p,qc P g1 [.agg (qm p)] (.b (qu9 p)))(h2:qJm P g2)(h3:qJq P g3)(h4:∀p,PolOk p->PolR p->qc P g4 [.agg (qm p)] (.b (qbz p)))
  (h5:qJr P g5) (h6:qJw P g6) (h7:qw2 P g7) (h8:qqs P g8) (h9:qEY P g9) (h10:qDx P g10) (p:Pol) (hR:PolR p) (o:Bool) (d:GData) (hd:DatOk d):qc P f [.agg (qm p),.b o,.agg (qq d)] (.b true):=by
 refine qc.mk hc (by simp[qt,clo,wo,qfX]) ?_;have p1:=h1 p;simp only[vV,vI,simprocAttr];simp only[qm,qq]at p1 ⊢;refine Aa ?_;refine p1.sc ?_;cases hg:qu9 p with
 | true =>
  refine Aa ?_;simp[vZ]
 | false =>
  have hp:=qFP hg;have p2:=h2 p hp hR (λd a x h=>let ⟨a1,a2,_⟩:=qtu hp hR h;⟨a1,a2⟩) o
  have p3:=h3 p hp hR d;have p4:=h4 p hp hR;have p5:=h5 p hp hR d hd;have p6:=h6 p hp hR;cases hmp:qbz p with
  | false =>
   rw[hmp]at p3 p4;rw[show qbn p o=([],2)by unfold qbn;rw[hmp];simp]at p2
   simp only[qm,qq]at p2 p3 p4;refine Aa ?_;refine p2.sc ?_;refine Aa ?_;refine p3.sc ?_;refine Aa ?_;refine p4.sc ?_;refine Aa ?_;simp[vZ]
  | true =>
   rw[hmp]at p3 p4;rcases quu p o with⟨e,he,hb⟩|⟨hall,hb⟩
   .have e270:e=270:=by
     unfold qbn at hb;rw[if_pos hmp]at hb
     exact Ag
    subst e270;rw[hb]at p2;generalize vy ((qw p).map (qb4 p d))=w at *;simp only[qm,qq]at p2 p3 p4 p5;refine Aa ?_;refine p2.sc ?_;refine Aa ?_;refine p3.sc ?_;refine Aa ?_;refine p4.sc ?_;refine Aa ?_;refine p5.sc ?_;refine Aa ?_;simp[vZ]
   .rw[hb]at p2;simp only[zzz]at p2
    have p7:=h7 ((qw p).map (toP p o)) (by have:=qia (p:=p);rw[zzz];exact Ab) (λx hx=>⟨qpf hp hR hall x hx,by
     grind[qsw,qD9]⟩)
    rw[zzz]at p7
    have fin:∀{t' h'},Wk 0 t' h' (mkT [(5,.ptr 0 0),(7,.fz (qw p).length (rPr ((qw p).map (toP p o)))),(11,.w (vy ((qw p).map (qb4 p d)))),(12,.fz (qw p).length (rPq (qw p)))]) (mkH 0 [.v (qq d)])->S P 0 (zX g1 g2 g3 g4 g5 g6 g7 g8 g9 g10) (λe t h=>onX e (S P 0 (zT g1 g2 g3 g4 g5 g6 g7 g8 g9 g10) (zQ [.tmp 6] λv' h'=>Frz h' v' (.b true)) t h) (λid=>(zQ [.tmp 6] λv' h'=>Frz h' v' (.b true)) (.exit id) t h) ((zQ [.tmp 6] λv' h'=>Frz h' v' (.b true)) .ret t h)) t' h':=λhw =>
     qvy h8 hp hR hall _ (λt2 h2 hw2=>qss h9 h10 hp hR hall hd hw2) hw
    generalize vy ((qw p).map (qb4 p d))=w at *;generalize hRP:rPr ((qw p).map (toP p o))=RP at *;simp only[qm,qq]at p2 p3 p4 p5 p6;refine Aa ?_;refine p2.sc ?_;refine Aa ?_;refine p3.sc ?_;refine Aa ?_;refine p4.sc ?_;refine Aa ?_;refine p5.sc ?_;refine Aa ?_;refine p6.sc ?_;refine Aa ?_;refine p7.sc ?_;refine Aa ?_;refine fin (Wk.mk _ _ [1] ?_ ?_ ?_ rfl)
    .simp[vw,<- hRP,jh,kh]
    .simp[vw,qq]
    .simp
end
end
end
end Go.Kc
