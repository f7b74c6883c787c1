/- Part 6 of the proof. No condition. -/
import Derived.Test.YtgaodkfneooonaaGreatMK5
set_option maxHeartbeats 4000000
set_option maxRecDepth 1000000
set_option linter.defProp false
set_option linter.unusedSectionVars false
set_option linter.unusedSimpArgs false
set_option linter.unusedVariables false
set_option linter.unnecessarySimpa false
namespace Go.Kc
noncomputable section
section
variable {P:Program}{f:Nat}
def qdT:List GTest->Nat
 | []=>1
 | t::ts=>qcu t+if t.mask=0 then 0 else qdT ts
def qnH:∀{ts:List GTest}{a:Int}{p:Nat},(qc6 ts a p).length=qdT ts
 | [],_,_=>rfl
 | t::ts,a,p=>by
  unfold qc6 qdT;rw[zzP,qgo];split
  .rfl
  .rw[qnH]
def qpV(r:GRule):Nat:=qdT r.tests
def qnB{r:GRule}{p:Nat}:(qv1 r p).length=qpV r:=qnH
def qln:∀{ts:List GTest},qdT ts<=ts.length*7+1
 | []=>by simp[qdT]
 | t::ts=>by
  unfold qdT;have:=qrO (t:=t);have:=qln (ts:=ts)
  exact Ag
def xK:List GRule->Nat->List Sy
 | [],_=>[]
 | r::rs,p=>qv1 r p++xK rs (p+qpV r)
def zR(rs:List GRule):Nat:=(rs.map qpV).sum
theorem qbE:∀{rs:List GRule}{p:Nat},(xK rs p).length=zR rs
 | [],_=>rfl
 | r::rs,p=>by unfold xK;rw[zzP,qnB,qbE];simp[zR]
def qlR:∀{rs:List GRule}{r:GRule}{p:Nat},xK (rs++[r]) p=xK rs p++qv1 r (p+zR rs)
 | [],r,p=>by simp[xK,zR]
 | x::rs,r,p=>by rw[zzC,xK,xK,qlR,zzi];simp[zR];exact Ag
def qlk:∀{rs:List GRule},(∀r ∈ rs,r.tests.length<=32)->zR rs<=rs.length*225
 | [],_=>by simp[zR]
 | r::rs,h=>by
  have:=qln (ts:=r.tests);have:=h r (by simp);have:=qlk (rs:=rs) λx hx=>h x Ag
  simp[zR,qpV]at this ⊢;exact Ab
def qlS{rs:List GRule}{i:Nat}:zR (rs.take i)<=zR rs:=by
 have h:zR rs=zR (rs.take i)+zR (rs.drop i):=by
  conv=>lhs;rw[<- List.take_append_drop i rs]
  simp only[zR,List.map_append,List.sum_append]
 exact Ab
def zd(rs:List GRule):List (Int×Nat):=rs.mapIdx λi r=>(r.nr,i+1)
theorem qc2{rs:List GRule}:(zd rs).length=rs.length:=by simp[zd]
theorem qeg{rs:List GRule}{j:Nat}:(zd rs)[j]?=(rs[j]?).map λr=>(r.nr,j+1):=by simp[zd]
def zj(x:GFil):List Nd:=xn (xD (pcs 0 (zd x.rules) 0)) 0
def jaN:List Nd->Nat
 | n::_=>if n.leaf=true then 1 else 0
 | []=>0
def qpy{FW:Nat->Nat}{T:List Nd}:(jaE FW T).length=jaN T:=by
 cases T with
 | nil=>rfl
 | cons n T=>simp only[jaE,jaN];split<;>rfl
theorem qar{FW:Nat->Nat}{T:List Nd}{p:Nat}:(jj FW T p).length=jaN T+x7 T:=by
 unfold jj;rw[zzP,qpy,qsZ]
def vz(x:GFil):Nat:=vq x.arch+(jaN (zj x)+x7 (zj x))
def wp(x:GFil)(j:Nat):Nat:=if j=0 then vz x else vz x+1+zR (x.rules.take (j-1))
def wm(x:GFil):Nat:=vz x+1+zR x.rules
def zK(x:GFil):List Sy:=qbB x.arch 0 (wm x)++jj (wp x) (zj x) (vq x.arch)++[⟨6,x.dflt,0,0⟩]++xK x.rules (vz x+1)++[⟨6,2147418112,0,0⟩]
def qol{x:GFil}:(zK x).length=wm x+1:=by
 unfold zK wm vz
 grind[qaC,qar,qbE]
structure FilR (x:GFil):Prop where
 nr:∀r ∈ x.rules,0<=r.nr/\r.nr<4294967296
 ts:∀r ∈ x.rules,∀t ∈ r.tests,0<=t.mask/\t.mask<18446744073709551616/\0<=t.val/\t.val<18446744073709551616
def Stp.kd'{L L':List Nat}{U U1:Nat->Kd}{s s1:Nat}{tr t1 t2:Tr Blk}(a:Stp L U s tr U1 s1 t1){b F':Nat}(hb:U b = .no)(hf:∀c,U1 c = .fr->t2.get c=t1.get c)(hx:∀c,U1 c = .box->t2.get c=t1.get c)(hL:∀c ∈ L,c=b\/c ∈ L'):Stp L' U s tr (kdS U1 b (.lab F' true)) s1 t2:=by
 have ne:∀{c},U c≠.no->c≠b:=Ag
 refine⟨a.le,λc hc=>?_,λc hc=>?_,λc F p hc=>?_,λc F hc=>?_⟩
 .rw[qk Ae];exact by grind[Stp.fr]
 .rw[qk Ae];exact by grind[Stp.box]
 .rw[qk Ae];exact a.lab c F p hc
 grind[qU,qk,Stp.nw]
def qjn(n b:Nat):AV:=if n=0 then .sl b 0 1 1 false else .own b (n+1)
def qtq{n b:Nat}:qjn n b = .sl b 0 (n+1) (n+1) false\/qjn n b = .own b (n+1):=by
 unfold qjn;exact Ag
section
variable {g w s gl gp gj gh gr g1 g2 g3 g4 g5:Nat}{U:Nat->Kd}{tr:Tr Blk}{RV:List Sy}{N:List Nat}{k:AV->Hp->Prop}
def qaJ(a b c d e g h i j:Nat):ICode:=icJ 98 [22,a,152,b,153,c,154,d,155,e,156,g,157,h,158,i,159,j] 8191
def qdL(a b c d e g h i j:Nat):ICode:=icJ 98 [22,a,152,b,153,c,154,d,155,e,156,g,157,h,158,i,159,j] 255 [63] [qaJ a b c d e g h i j]
def qdK(a b c d e g h i j:Nat):ICode:=icJ 98 [22,a,152,b,153,c,154,d,155,e,156,g,157,h,158,i,159,j] 15 [31] [qdL a b c d e g h i j]
def qgA(a b c d e g h i j:Nat):IFn:=irJ 98 [22,a,152,b,153,c,154,d,155,e,156,g,157,h,158,i,159,j] [15] [qdK a b c d e g h i j]
structure EFn (P:Program) (g gl gp gj gh gr go gb gR gd gt gH gA gB gC gD:Nat):Prop where
 W:WFn P g gl gp gj gh gr
 own:Ck P go (qbt gD gl gj gh)
 br:Ck P gb (qab gj gh)
 rule:Ck P gR (qa3 gt gr)
 test:Ck P gt (wW gA gB gC gH gr gh)
 half:Ck P gH (jA gl gp gj gh)
 done:Ck P gd zB
 dj:Ck P g zg
 lo:quB P gA 0
 hi:quB P gB 4
 hal:qAV P gC
 tok:qr7 P gD
def qo1{t:GTest}(h:qcK t=true):0<=t.arg/\t.arg<6:=by
 simp only[qcK,zzB,zzb]at h;exact Ab
def qkY:∀{rs:List GRule}{o:Option GRule},upR o rs=true->∀r ∈ rs,qcJ r=true
 | [],_,_,_,hr=>by cases hr
 | x::rs,o,h,r,hr=>by
  simp only[upR,zzB]at h;rcases zzc.1 hr with rfl|hr
  .exact Ae
  .exact qkY h.2 r hr
variable {go gb gR gd gt gH gA gB gC gD gM gS gT:Nat}
def qxs{n0 sb bf bN bL e:Nat}{wf a:Bool}{Ub:Nat->Kd}{tb:Tr Blk}{L:List Nat}(E:EFn P g gl gp gj gh gr go gb gR gd gt gH gA gB gC gD)(x:GFil)(hx:FilR x)(hK:∀r ∈ x.rules,qcJ r=true)(hn:x.rules.length<=400){pre:List Sy}(hpre:pre.length=vz x+1)(hd1:vz x<=10000)
  (h:WI g w U s tr pre []) (st:Stp L Ub sb tb U s tr) (xs:List Nat) (hxl:xs.length=x.rules.length+1) (hxs:∀(j:Nat) c,xs[j]?=some c->∃p,U c = .lab (wp x j) p) (hL0:U bL = .fr) (gL:tr.get bL=some (.cells e wf a (rPt xs)))
  (hf0:U bf = .fr) (gf:tr.get bf=some (.v (ze x))) {pN:Bool}(hN:U bN = .lab (wm x) pN) (hbN:Ub bN = .no) (hL:∀c ∈ L,c=bN\/∃j:Nat,1<=j/\xs[j]?=some c) (hnew:∀(j:Nat) c,xs[j]?=some c->Ub c = .no) (hno:∀b F,Ub b≠.lab F false)
  {t:Tr AV}(ht:Has t [(1,.ptr bf 0),(4,.ptr w 0),(5,.ptr bN 0),(8,qjn x.rules.length bL)]) :
  S P n0 (qaJ gM go gS gT gb gh gr gR gd) (zQ [.tmp 2,.tmp 3] λv' h'=>Frz h' v' (.tup [.fz (pre++xK x.rules (vz x+1)++([⟨6,2147418112,0,0⟩]:List Sy)).length (rSy (pre++xK x.rules (vz x+1)++[⟨6,2147418112,0,0⟩])),.j 0])) t ⟨s,0,tr⟩:=by
 refine Ff ?_
 have hts:∀r ∈ x.rules,r.tests.length<=32:=λr hr=>by
  have:=hK r hr;simp only[qcJ,zzB,zzb]at this;exact Ab
 have hrN:=qlk hts;simp only[qaJ,vI,simprocAttr];simp +decide only[↓vS,vT,simprocAttr,gf,ze]
 refine SL.loopP (α:=Nat) (λi=>[(1,.ptr bf 0),(4,.ptr w 0),(5,.ptr bN 0),(8,qjn x.rules.length bL),(89,.fz x.rules.length (rR x.rules)),(90,.j (x.rules.length:Int)),(91,.j (i:Int))])
  (λi h=>i<=x.rules.length/\∃L' U' s' tr',h=⟨s',0,tr'⟩/\Stp L' Ub sb tb U' s' tr'/\WI g w U' s' tr' (pre++xK (x.rules.take i) (vz x+1)) []/\(∀(j:Nat) c,xs[j]?=some c->∃p,U' c = .lab (wp x j) p)/\U' bL = .fr/\tr'.get bL=some (.cells e wf a (rPt xs)) /\
   (∃p,U' bN = .lab (wm x) p)/\(∀c ∈ L',c=bN\/∃j:Nat,i+1<=j/\xs[j]?=some c)) (λi=>x.rules.length-i) ?_ 0 ?_ ?_
 .rintro i h1 ⟨hi,L',U',s',tr',rfl,st',w',hxs',hL0',gL',⟨pN',hN'⟩,hL'⟩ G ih;refine Ak ?_
  by_cases hlt:i<x.rules.length
  .have hlt':(i:Int)<x.rules.length:=Ab
   obtain⟨r,hr⟩:∃r,x.rules[i]?=some r:=⟨_,zzE hlt⟩;obtain⟨c,hc⟩:∃c,xs[i+1]?=some c:=⟨_,zzE Ab⟩;have hrm:=zzM hr;have hel:((rR x.rules).drop (i*3)).take 3=zn r:=qS qbJ hr;have h3:i*3+3<=(rR x.rules).length:=by rw[show(rR x.rules).length=x.rules.length*3 from qY qbJ _];exact Ab
   have hw1:=wS i;obtain⟨wv,sv⟩:=w'.var (.v [.w 0,.nils,.w 0]) (.v (zn r));have hbs:bL<s':=w'.dom bL (by rw[hL0'];simp);have hbs':¬bL=s':=Ab
   have hge:(rPt xs)[i+1]?=some (.ptr c 0):=by rw[qgM,hc];rfl
   have hlt1:i+1<x.rules.length+1:=Ab
   have hT:zR (x.rules.take i)<=zR x.rules:=qlS
   have hlen:(pre++xK (x.rules.take i) (vz x+1)).length=wp x (i+1):=by
    rw[zzP,qbE,hpre];simp[wp]
   obtain⟨pc,hpc⟩:=hxs' (i+1) c hc;rw[<- hlen]at hpc;have hpc:=sv.lab _ _ _ hpc
   have hcN:c≠bN:=λe=>by
    rw[e]at hpc;have:=(Kd.lab.inj (hpc.symm.trans (sv.lab _ _ _ hN'))).1;rw[hlen]at this;simp[wp,wm]at this
    have h2:zR x.rules=zR (x.rules.take i)+zR (x.rules.drop i):=by
     conv=>lhs;rw[<- List.take_append_drop i x.rules]
     simp only[zR,List.map_append,List.sum_append]
    have h3:x.rules.drop i=r::x.rules.drop (i+1):=Dh
    have h4:0<qpV r:=by unfold qpV;cases r.tests with
     | nil=>simp[qdT]
     | cons t ts=>simp[qdT,qcu];omega
    rw[h3]at h2;simp[zR]at h2 this;exact Ab
   -- behind the label
   have go:∀(k:AV->Hp->Prop),(∀U3 s3 t3 L3,Stp L3 Ub sb tb U3 s3 t3->WI g w U3 s3 t3 (pre++xK (x.rules.take (i+1)) (vz x+1)) []->(∀(j:Nat) c,xs[j]?=some c->∃p,U3 c = .lab (wp x j) p)->U3 bL = .fr->t3.get bL=some (.cells e wf a (rPt xs))->(∃p,U3 bN = .lab (wm x) p)->
     (∀c ∈ L3,c=bN\/∃j:Nat,i+1+1<=j/\xs[j]?=some c)->k (.tup []) ⟨s3,0,t3⟩)->∀k2:AV->Hp->Prop,(∀t4,t4.get s'=some (.v (zn r))->(∀k',(∀v h,k v h->k' v h)->SC P gR [.ptr w 0,.agg (zn r)] ⟨s'+1,0,t4⟩ k')->k2 (.tup []) ⟨s'+1,0,t4⟩)->
     SC P gh [.ptr w 0,.ptr c 0] ⟨s'+1,0,(tr'.set s' (.v [.w 0,.nils,.w 0])).set s' (.v (zn r))⟩ k2:=by
    intro k hk k2 hk2;refine qa2 E.W.here wv hpc λt4 q1 q2 w4=>hk2 t4 ?_ λk' hkk=>?_
    .rw[q1 s' qU,zz4,if_pos rfl]
    have hkl4:∀(j:Nat) c',xs[j]?=some c'->∃p,kdS (kdS U' s' .fr) c (.lab (pre++xK (x.rules.take i) (vz x+1)).length true) c' = .lab (wp x j) p:=λj c' hj=>by
     obtain⟨p,hp⟩:=hxs' j c' hj;have hp:=sv.lab _ _ _ hp
     by_cases e:c'=c
     .exact Fy
     .exact⟨p,by rw[qk e];exact hp⟩
    have st4:Stp (L'.filter λy=>decide (y≠c)) Ub sb tb (kdS (kdS U' s' .fr) c (.lab (pre++xK (x.rules.take i) (vz x+1)).length true)) (s'+1) t4 :=
     (st'.trans sv).kd' (hnew _ _ hc) q1 q2 Ag
    have hbLc:bL≠c:=Ag
    refine qHo E.rule E.W E.test E.lo E.hi E.hal E.half w4 r (λt ht=>?_) (by rw[hlen];have:=hts r hrm;simp only[wp];simp;exact Ab) λU5 s5 t5 st5 w5=>hkk _ _ (hk U5 s5 t5 _ (st4.trans st5) ?_ ?_ ?_ ?_ ?_ ?_)
    .have q:=hx.ts r hrm t ht;have q2:=qo1 (t:=t) (by have:=hK r hrm;simp only[qcJ,zzB,zzy]at this;exact this.1.2 t ht)
     exact⟨q2.1,q2.2,q.1,q.2.1,q.2.2.1,q.2.2.2⟩
    .rw[qbW hr,qlR,<- zzi];rw[zzP,qbE,hpre]at w5;exact w5
    .intro j c' hj;obtain⟨p,hp⟩:=hkl4 j c' hj;exact⟨p,st5.lab _ _ _ hp⟩
    .exact (st5.fr bL Ja).1
    .rw[(st5.fr bL Ja).2,q1 bL (sv.fr bL hL0').1,(sv.fr bL hL0').2];exact gL'
    .exact⟨pN',st5.lab _ _ _ (by rw[qk (Ne.symm hcN)];exact sv.lab _ _ _ hN')⟩
    exact Ag
   let K0:AV->Hp->Prop:=λv h=>∃U3 s3 t3 L3,v = .tup []/\h=⟨s3,0,t3⟩/\Stp L3 Ub sb tb U3 s3 t3/\WI g w U3 s3 t3 (pre++xK (x.rules.take (i+1)) (vz x+1)) []/\(∀(j:Nat) c,xs[j]?=some c->∃p,U3 c = .lab (wp x j) p)/\U3 bL = .fr/\t3.get bL=some (.cells e wf a (rPt xs))/\(∃p,U3 bN = .lab (wm x) p) /\
     (∀c ∈ L3,c=bN\/∃j:Nat,i+1+1<=j/\xs[j]?=some c)
   have fin:∀(v:AV) (h:Hp),K0 v h->∀tt,Has tt [(1,.ptr bf 0),(4,.ptr w 0),(5,.ptr bN 0),(8,qjn x.rules.length bL),(89,.fz x.rules.length (rR x.rules)),(90,.j (x.rules.length:Int)),(91,.j ((i+1:Nat):Int))]->G tt h:=by
    rintro v h ⟨U3,s3,t3,L3,rfl,rfl,q1,q2,q3,q4,q5,q6,q7⟩ tt htt;exact ih (i+1) _ _ Ab htt Ag
   rcases qtq (n:=x.rules.length) (b:=bL)with hV|hV
   .rw[hV]at fin ⊢;simp +decide only[↓vS,vT,simprocAttr,hlt',hlt,h3,hel,zn,hw1,hbs',gL',hge,hlt1,zzU];refine go K0 Ag _ λt4 h4 hcall=>?_
    simp +decide only[↓vS,vT,simprocAttr,h4,zn];refine hcall _ λv h hv=>?_
    refine Sa hw1 ?_;exact fin v h hv _ Am
   .rw[hV]at fin ⊢;simp +decide only[↓vS,vT,simprocAttr,hlt',hlt,h3,hel,zn,hw1,hbs',gL',hge,hlt1,zzU];refine go K0 Ag _ λt4 h4 hcall=>?_
    simp +decide only[↓vS,vT,simprocAttr,h4,zn];refine hcall _ λv h hv=>?_
    refine Sa hw1 ?_;exact fin v h hv _ Am
  .obtain rfl:i=x.rules.length:=Ab
   have hlt':¬((x.rules.length:Int)<x.rules.length):=Ab
   rw[zz0]at w';have hlen:(pre++xK x.rules (vz x+1)).length=wm x:=by rw[zzP,qbE,hpre];rfl
   refine Sa hlt' ?_;refine qa2 E.W.here w' (b:=bN) (p:=pN') (by rw[hlen];exact Ab) λt4 q1 q2 w4=>?_
   refine Aa ?_
   have st4:Stp [] Ub sb tb _ _ t4:=st'.kd' (L':=[]) (F':=(pre++xK x.rules (vz x+1)).length) hbN q1 q2 λc hc=>Ag
   refine qoO E.W.ret E.W.put w4 2147418112 (by rw[hlen];unfold wm;exact Ab) λU5 s5 t5 st5 w5=>?_
   refine Aa ?_;have st6:=st4.trans st5;refine qxr E.done E.dj w5 (λb F p hb=>?_) (by rw[zzP,hlen];unfold wm;exact Ag) λt6 b6 q3 q4=>?_
   .cases p with
    | true=>rfl
    | false =>
     rcases st6.nw b F hb with q|q
     all_goals grind
   .refine Aa ?_;simp[vZ,vP,q3];exact Frzs.self (jk λ_=>rfl)
 .exact Am
 .refine⟨zzu _,L,U,s,tr,rfl,st,?_,hxs,hL0,gL,⟨pN,hN⟩,?_⟩
  .simpa[xK]using h
  exact Ab
def Stp.mod'{L:List Nat}{U1:Nat->Kd}{s1:Nat}{t1:Tr Blk}(h:Stp L U s tr U1 s1 t1){b:Nat}(hb:U b = .no)(x:Blk):Stp L U s tr (kdS U1 b .fr) s1 (t1.set b x):=by
 have ne:∀{c},U c≠.no->c≠b:=Ag
 refine⟨h.le,λc hc=>?_,λc hc=>?_,λc F p hc=>?_,λc F hc=>?_⟩
 .exact G6
 .exact Gy
 .rw[qk Ae];exact h.lab c F p hc
 grind[qU,qk,Stp.nw]
def qJ6{s fl b c:Nat}{t:Tr Blk}{x y:Blk}:qfF ⟨s,fl,t⟩ [(b,x),(c,y)]=⟨s,fl,(t.set b .dead).set c .dead⟩:=rfl
def qBf{n0 sb bf bN bL bn bw e:Nat}{wf a:Bool}{Ub:Nat->Kd}{tb:Tr Blk}{L:List Nat}(E:EFn P g gl gp gj gh gr go gb gR gd gt gH gA gB gC gD)(x:GFil)(hx:FilR x)(hK:∀r ∈ x.rules,qcJ r=true)(hn:x.rules.length<=400)(hd1:vz x<=10000)
  (hS:qc P gS [.fz (zd x.rules).length (qaO (zd x.rules)),.fz (zd x.rules).length (qbC (zd x.rules)),.j 0] (.tup [.fz (xD (pcs 0 (zd x.rules) 0)).length (rSp (xD (pcs 0 (zd x.rules) 0))),.j 0]))
  (hB:qc P gT [.fz (xD (pcs 0 (zd x.rules) 0)).length (rSp (xD (pcs 0 (zd x.rules) 0)))] (.tup [.fz (zj x).length (rNd (zj x)),.j 0])) (hT1:zj x≠[]) (hT2:∀nd ∈ zj x,NdOk (x.rules.length+1) (zj x).length nd) (hT3:(zj x).length<=10000)
  (h:WI g w U s tr (qbB x.arch 0 (wm x)) []) (st:Stp L Ub sb tb U s tr) (xs:List Nat) (hxl:xs.length=x.rules.length+1) (hxs:∀(j:Nat) c,xs[j]?=some c->∃p,U c = .lab (wp x j) p) (hL0:U bL = .fr) (gL:tr.get bL=some (.cells e wf a (rPt xs)))
  (hf0:U bf = .fr) (gf:tr.get bf=some (.v (ze x))) {pN:Bool}(hN:U bN = .lab (wm x) pN) (hbN:Ub bN = .no) (hL:∀c ∈ L,c=bN\/∃j:Nat,xs[j]?=some c) (hnew:∀(j:Nat) c,xs[j]?=some c->Ub c = .no) (hno:∀b F,Ub b≠.lab F false)
  (hn0:U bn = .fr) (gn:tr.get bn=some (.v (qaO (zd x.rules)))) (hbn:Ub bn = .no) (hw0:U bw = .fr) (gw:tr.get bw=some (.v (qbC (zd x.rules)))) (hbw:Ub bw = .no) (hne:bn≠bw/\bn≠bL/\bw≠bL/\bn≠bf/\bw≠bf)
  {t:Tr AV}(ht:Has t [(1,.ptr bf 0),(4,.ptr w 0),(5,.ptr bN 0),(6,.sl bn 0 x.rules.length x.rules.length false),(7,.sl bw 0 x.rules.length x.rules.length false),(8,qjn x.rules.length bL)]) :
  S P n0 (qdL gM go gS gT gb gh gr gR gd) (zQ [.tmp 2,.tmp 3] λv' h'=>Frz h' v' (.tup [.fz (zK x).length (rSy (zK x)),.j 0])) t ⟨s,0,tr⟩:=by
 obtain⟨e1,e2,e3,e4,e5⟩:=hne;refine Ff ?_;simp only[qdL,vI,simprocAttr];refine Aa ?_;have hnl:(zd x.rules).length=x.rules.length:=qc2;rw[hnl]at hS;refine hS.give [(bn,.v (qaO (zd x.rules))),(bw,.v (qbC (zd x.rules)))] ?_ I9 ?_ ?_
 .exact Ae
 .refine qa8.2 ⟨Frz.cut 1 rfl (zzL _) ?_,qa8.2 ⟨Frz.cut 1 rfl (zzL _) ?_,by grind[qa8,qJR,qgy]⟩⟩
  .simp[trP,zz4,vP,qkv,hnl];rw[zzt (by rw[qkv,hnl];exact Ab)];exact Frzs.self qeh
  .simp[trP,zz4,vP,qkw,hnl,Ne.symm e1];rw[zzt (by rw[qkw,hnl];exact Ab)];exact Frzs.self qei
 rw[qJ6];have w1:=(h.chg (b:=bn) .fr .dead (.inl hn0) (h.dom bn (by rw[hn0];simp)) (.inr (.inl rfl))).chg (b:=bw) .fr .dead (.inl (by rw[qk (Ne.symm e1)];exact Ab)) (h.dom bw (by rw[hw0];simp)) (.inr (.inl rfl))
 have s1:=(st.mod' hbn .dead).mod' hbw .dead
 have kk:∀b,U b≠.fr->kdS (kdS U bn .fr) bw .fr b=U b:=λb hb=>by
  rw[qk (c:=b) (λe=>hb (by rw[e];exact Ab)),qk (c:=b) (λe=>hb (by rw[e];exact Ab))]
 have kf:∀b,U b = .fr->kdS (kdS U bn .fr) bw .fr b = .fr:=λb hb=>by
  simp only[kdS];exact Ae
 have gg:∀b,b≠bn->b≠bw->((tr.set bn .dead).set bw .dead).get b=tr.get b:=λb h1 h2=>by
  rw[zz4,if_neg h2,zz4,if_neg h1]
 refine Aa ?_;refine hB.sc ?_;refine Aa ?_;have hV:=qtq (n:=x.rules.length) (b:=bL);refine qwP E.br E.W (zj x) hT1 xs (by rw[hxl];exact Ab) (wp x) (qjn x.rules.length bL) (by rw[hxl];exact hV) w1 (kf bL hL0) ((gg bL (Ne.symm e2) (Ne.symm e3)).trans gL) Ag (by rw[qaC];have:=qtI (a:=x.arch);exact Ab) λU2 s2 t2 st2 w2=>?_
 refine Aa ?_;obtain⟨c0,hc0⟩:∃c,xs[0]?=some c:=⟨_,zzE Ab⟩;have hge:(rPt xs)[0]?=some (.ptr c0 0):=by rw[qgM,hc0];rfl
 have hL2:=st2.fr bL (kf bL hL0);have gL2:=hL2.2.trans ((gg bL (Ne.symm e2) (Ne.symm e3)).trans gL);have hf2:=st2.fr bf (kf bf hf0);have gf2:=hf2.2.trans ((gg bf (Ne.symm e4) (Ne.symm e5)).trans gf)
 have hlen:(qbB x.arch 0 (wm x)++jj (wp x) (zj x) (qbB x.arch 0 (wm x)).length).length=wp x 0:=by
  rw[zzP,qar,qaC];rfl
 have hk2:∀(j:Nat) c,xs[j]?=some c->∃p,U2 c = .lab (wp x j) p:=λj c hj=>let ⟨p,hp⟩:=hxs j c hj;⟨p,st2.lab _ _ _ (by rw[kk c (by rw[hp];simp)];exact hp)⟩
 obtain⟨p0,hp0⟩:=hk2 0 c0 hc0;have hN2:U2 bN = .lab (wm x) pN:=st2.lab _ _ _ (by rw[kk bN (by rw[hN];simp)];exact hN)
 have hcN:c0≠bN:=λe=>by
  rw[e]at hp0;have:=(Kd.lab.inj (hp0.symm.trans hN2)).1;simp[wp,wm]at this;exact Ab
 have hV0:(0:Nat)<x.rules.length+1:=Ab
 -- the label of the others has its place
 have rest:∀k2:AV->Hp->Prop,(∀t3:Tr Blk,t3.get bf=some (.v (ze x))->(∀k':AV->Hp->Prop,(∀(U4:Nat->Kd) (s4:Nat) (t4:Tr Blk) (L4:List Nat),Stp L4 Ub sb tb U4 s4 t4->WI g w U4 s4 t4 (qbB x.arch 0 (wm x)++jj (wp x) (zj x) (vq x.arch)++[⟨6,x.dflt,0,0⟩]) []->
   (∀(j:Nat) c,xs[j]?=some c->∃p,U4 c = .lab (wp x j) p)->U4 bL = .fr->t4.get bL=some (.cells e wf a (rPt xs))->U4 bf = .fr->t4.get bf=some (.v (ze x))->U4 bN = .lab (wm x) pN->(∀c ∈ L4,c=bN\/∃j:Nat,1<=j/\xs[j]?=some c)->k' (.tup []) ⟨s4,0,t4⟩)->SC P gr [.ptr w 0,.w x.dflt] ⟨s2,0,t3⟩ k')->k2 (.tup []) ⟨s2,0,t3⟩)->SC P gh [.ptr w 0,.ptr c0 0] ⟨s2,0,t2⟩ k2:=by
  intro k2 hk2';refine qa2 E.W.here w2 (b:=c0) (p:=p0) (by rw[hlen];exact Ab) λt3 q1 q2 w3=>hk2' t3 Ag λk' hk'=>?_
  have st3:Stp (L.filter λy=>decide (y≠c0)) Ub sb tb _ _ t3:=(s1.trans st2).kd' (F':=(qbB x.arch 0 (wm x)++jj (wp x) (zj x) (qbB x.arch 0 (wm x)).length).length) (hnew 0 c0 hc0) q1 q2 λy hy=>Ag
  have nb:∀b,U2 b = .fr->b≠c0:=Ag
  refine qoO E.W.ret E.W.put w3 x.dflt (by rw[hlen];simp[wp];exact Ab) λU4 s4 t4 st4 w4=>hk' U4 s4 t4 _ (st3.trans st4) ?_ ?_ ?_ ?_ ?_ ?_ ?_ ?_
  .rw[qaC]at w4;exact w4
  .intro j c hj;obtain⟨p,hp⟩:=hk2 j c hj
   by_cases ec:c=c0
   .rw[ec]at hp ⊢;have hF:=(Kd.lab.inj (hp0.symm.trans hp)).1;exact⟨true,st4.lab _ _ _ (by rw[qU,hlen,hF])⟩
   .exact⟨p,st4.lab _ _ _ (by rw[qk ec];exact hp)⟩
  .exact (st4.fr bL (by rw[qk (nb _ hL2.1)];exact Ag)).1
  .rw[(st4.fr bL (by rw[qk (nb _ hL2.1)];exact hL2.1)).2,q1 bL hL2.1];exact gL2
  .exact (st4.fr bf (by rw[qk (nb _ hf2.1)];exact Ag)).1
  .rw[(st4.fr bf (by rw[qk (nb _ hf2.1)];exact hf2.1)).2,q1 bf hf2.1];exact gf2
  .exact st4.lab _ _ _ (by rw[qk (Ne.symm hcN)];exact Ab)
  .intro c hc;rw[List.append_nil,List.mem_filter,zzb]at hc
   exact Ag
 have fin:∀(U4:Nat->Kd) (s4:Nat) (t4:Tr Blk) (L4:List Nat),Stp L4 Ub sb tb U4 s4 t4->WI g w U4 s4 t4 (qbB x.arch 0 (wm x)++jj (wp x) (zj x) (vq x.arch)++[⟨6,x.dflt,0,0⟩]) []->
   (∀(j:Nat) c,xs[j]?=some c->∃p,U4 c = .lab (wp x j) p)->U4 bL = .fr->t4.get bL=some (.cells e wf a (rPt xs))->U4 bf = .fr->t4.get bf=some (.v (ze x))->U4 bN = .lab (wm x) pN->(∀c ∈ L4,c=bN\/∃j:Nat,1<=j/\xs[j]?=some c)->
   ∀(tt:Tr AV),Has tt [(1,.ptr bf 0),(4,.ptr w 0),(5,.ptr bN 0),(8,qjn x.rules.length bL)]->S P n0 (qaJ gM go gS gT gb gh gr gR gd) (zQ [.tmp 2,.tmp 3] λv' h'=>Frz h' v' (.tup [.fz (zK x).length (rSy (zK x)),.j 0])) tt ⟨s4,0,t4⟩:=λU4 s4 t4 L4 q1 q2 q3 q4 q5 q6 q7 q8 q9 tt htt =>
  qxs E x hx hK hn (by simp only[zzP,qaC,qar,List.length_singleton];rfl) hd1 q2 q1 xs hxl q3 q4 q5 q6 q7 q8 hbN q9 hnew hno htt
 rcases hV with hV|hV
 .rw[hV]at fin ⊢;refine Sa (zzA gL2 (zzA hge hV0)) ?_;refine rest _ λt3 g3 hcall=>?_
  simp +decide only[↓vS,vT,simprocAttr,g3,ze];refine hcall _ λU4 s4 t4 L4 q1 q2 q3 q4 q5 q6 q7 q8 q9=>?_
  refine Aa ?_;exact fin U4 s4 t4 L4 q1 q2 q3 q4 q5 q6 q7 q8 q9 _ Am
 .rw[hV]at fin ⊢;refine Sa (zzA gL2 (zzA hge hV0)) ?_;refine rest _ λt3 g3 hcall=>?_
  simp +decide only[↓vS,vT,simprocAttr,g3,ze];refine hcall _ λU4 s4 t4 L4 q1 q2 q3 q4 q5 q6 q7 q8 q9=>?_
  refine Aa ?_;exact fin U4 s4 t4 L4 q1 q2 q3 q4 q5 q6 q7 q8 q9 _ Am
end
def qnA{A:List AV}{n i:Nat}{v z:AV}(hA:A.length=n)(hv:A[i]?=some v):(A.take i++List.replicate (n-i) z).take i++v::(A.take i++List.replicate (n-i) z).drop (i+1)=A.take (i+1)++List.replicate (n-(i+1)) z:=by
 have hi:i<n:=by rw[<- hA];exact Ag
 have hl:(A.take i).length=i:=by rw[zzm];exact Ab
 rw[List.take_left' hl]
 have:(A.take i++List.replicate (n-i) z).drop (i+1)=List.replicate (n-(i+1)) z:=by
  have e:i+1=(A.take i).length+1:=by rw[hl]
  rw[e,List.drop_length_add_append,List.drop_replicate,hl];congr 1
 rw[this,qbW hv];simp
section
variable {g w s gl gp gj gh gr g1 g2 g3 g4 g5:Nat}{U:Nat->Kd}{tr:Tr Blk}{RV:List Sy}{N:List Nat}{k:AV->Hp->Prop}{go gb gR gd gt gH gA gB gC gD gM gS gT:Nat}
def qBe{n0 sb bf bN:Nat}{Ub:Nat->Kd}{tb:Tr Blk}(E:EFn P g gl gp gj gh gr go gb gR gd gt gH gA gB gC gD)(x:GFil)(hx:FilR x)(ha0:0<=x.arch)(ha6:x.arch<6)(hK:∀r ∈ x.rules,qcJ r=true)(hn:x.rules.length<=400)(hd1:vz x<=10000)
  (hS:qc P gS [.fz (zd x.rules).length (qaO (zd x.rules)),.fz (zd x.rules).length (qbC (zd x.rules)),.j 0] (.tup [.fz (xD (pcs 0 (zd x.rules) 0)).length (rSp (xD (pcs 0 (zd x.rules) 0))),.j 0]))
  (hB:qc P gT [.fz (xD (pcs 0 (zd x.rules) 0)).length (rSp (xD (pcs 0 (zd x.rules) 0)))] (.tup [.fz (zj x).length (rNd (zj x)),.j 0])) (hT1:zj x≠[]) (hT2:∀nd ∈ zj x,NdOk (x.rules.length+1) (zj x).length nd) (hT3:(zj x).length<=10000)
  (h:WI g w U s tr [] []) (st:Stp [bN] Ub sb tb U s tr) (hd:∀b,Ub b≠.no->b<sb) (hf0:U bf = .fr) (gf:tr.get bf=some (.v (ze x))) {pN:Bool}(hN:U bN = .lab (wm x) pN) (hbN:Ub bN = .no) (hno:∀b F,Ub b≠.lab F false)
  {t:Tr AV}(ht:Has t [(1,.ptr bf 0),(4,.ptr w 0),(5,.ptr bN 0)]) :
  S P n0 (qdK gM go gS gT gb gh gr gR gd) (zQ [.tmp 2,.tmp 3] λv' h'=>Frz h' v' (.tup [.fz (zK x).length (rSy (zK x)),.j 0])) t ⟨s,0,tr⟩:=by
 refine Ff ?_;simp only[qdK,vI,simprocAttr];simp +decide only[↓vS,vT,simprocAttr,gf,ze];refine qKB E.own E.W E.tok h x.arch ha0 ha6 hN (by simp) λU1 s1 t1 st1 w1=>?_
 rw[zzN,List.length_nil]at w1;have sa:=st.trans st1;have hf1:=st1.fr bf hf0;have gf1:=hf1.2.trans gf;have hbs:bf<s1:=w1.dom bf (by rw[hf1.1];simp);have f1:¬bf=s1:=Ab
 have f2:¬bf=s1+1:=Ab
 have f3:¬bf=s1+1+1:=Ab
 have f4:¬bf=s1+1+1+1:=Ab
 have r1:x.rules.length<=qe:=by simp only[qe];exact Ab
 have r2:4*x.rules.length<=qe:=by simp only[qe];exact Ab
 have r3:8*x.rules.length<=qe:=by simp only[qe];exact Ab
 refine Aa ?_;refine qX ?_;simp +decide only[↓vS,vT,simprocAttr,gf1,ze,f1,f2,f3,f4,r1,r2,r3];have k1:U1 s1 = .no:=w1.fresh
 have nb:∀c:Nat,Ub (s1+c) = .no:=λc=>by
  cases hk:Ub (s1+c)with
  | no=>rfl
  | _ =>
   have:=hd (s1+c) (by rw[hk];simp);have:=sa.le;exact Ab
 -- the four blocks
 have wa:=w1.new .fr (.v (List.replicate x.rules.length [AV.w 0]).flatten) (.inr (.inl rfl));have wb:=wa.new .fr (.v (List.replicate x.rules.length [AV.j 0]).flatten) (.inr (.inl rfl));have wc:=wb.new (.lab (wp x 0) false) _ (.inr (.inr (.inr ⟨_,rfl,rfl⟩)));have wd:=wc.new .fr (.v [.ptr (s1+1+1) 0]) (.inr (.inl rfl));have sd:=(((sa.trans (w1.stpNew .fr (.v (List.replicate x.rules.length [AV.w 0]).flatten) (by simp))).trans (wa.stpNew .fr (.v (List.replicate x.rules.length [AV.j 0]).flatten) (by simp))).trans (wb.stpLab (.lab (wp x 0) false) (.v [.j 0]))).trans (wc.stpNew .fr (.v [.ptr (s1+1+1) 0]) (by simp))
 refine SL.loopP (α:=Nat×Nat) (λi=>[(1,.ptr bf 0),(4,.ptr w 0),(5,.ptr bN 0),(6,.sl s1 0 x.rules.length x.rules.length false),(7,.sl (s1+1) 0 x.rules.length x.rules.length false),(8,qjn i.1 i.2),(41,.fz x.rules.length (rR x.rules)),(42,.j (x.rules.length:Int)),(43,.j (i.1:Int))])
  (λi h=>i.1<=x.rules.length/\∃L' U' s' tr' xs,h=⟨s',0,tr'⟩/\Stp L' Ub sb tb U' s' tr'/\WI g w U' s' tr' (qbB x.arch 0 (wm x)) []/\xs.length=i.1+1/\(∀(j:Nat) c,xs[j]?=some c->∃p,U' c = .lab (wp x j) p)/\U' i.2 = .fr/\tr'.get i.2=some (if i.1=0 then .v (rPt xs)else .cells 1 true true (rPt xs)) /\
   U' bf = .fr/\tr'.get bf=some (.v (ze x))/\U' bN = .lab (wm x) pN/\(∀c ∈ L',c=bN\/∃j:Nat,xs[j]?=some c)/\(∀(j:Nat) c,xs[j]?=some c->s1<=c)/\U' s1 = .fr/\U' (s1+1) = .fr/\tr'.get s1=some (.v ((qaO (zd x.rules)).take i.1++List.replicate (x.rules.length-i.1) (.w 0))) /\
   tr'.get (s1+1)=some (.v ((qbC (zd x.rules)).take i.1++List.replicate (x.rules.length-i.1) (.j 0)))/\s1+1<i.2/\i.2<s') (λi=>x.rules.length-i.1) ?_ (0,s1+1+1+1) ?_ ?_
 .rintro⟨i,bL⟩ h1 ⟨hi,L',U',s',tr',xs,rfl,st',w',hxl,hxs,hL0,gL,hbf,gbf,hbN',hL',hnew,hs1,hs2,gn,gw,hbl,hbl2⟩ G ih;simp only at hi hxl hL0 gL gn gw hbl hbl2;refine Ak ?_
  by_cases hlt:i<x.rules.length
  .have hlt':(i:Int)<x.rules.length:=Ab
   obtain⟨r,hr⟩:∃r,x.rules[i]?=some r:=⟨_,zzE hlt⟩;have hel:((rR x.rules).drop (i*3)).take 3=zn r:=qS qbJ hr;have h3:i*3+3<=(rR x.rules).length:=by rw[show(rR x.rules).length=x.rules.length*3 from qY qbJ _];exact Ab
   have hw1:=wS i;have gnm:(qaO (zd x.rules))[i]?=some (.w r.nr):=by rw[qku,qeg,hr];rfl
   have gwm:(qbC (zd x.rules))[i]?=some (.j ((i+1:Nat):Int)):=by rw[qrz,qeg,hr];rfl
   have fn:=qnA (n:=x.rules.length) (z:=.w 0) (by rw[qkv,qc2]) gnm;have fw:=qnA (n:=x.rules.length) (z:=.j 0) (by rw[qkw,qc2]) gwm;have ln:i+1<=((qaO (zd x.rules)).take i++List.replicate (x.rules.length-i) (AV.w 0)).length:=Ag
   have lw:i+1<=((qbC (zd x.rules)).take i++List.replicate (x.rules.length-i) (AV.j 0)).length:=Ag
   have q1:¬s1=s':=Ab
   have q2:¬s1+1=s':=Ab
   have q3:¬s'=s1:=Ab
   have q4:¬s1+1=s1:=Ab
   have q5:¬bL=s':=Ab
   have q6:¬bL=s1:=Ab
   have q7:¬bL=s1+1:=Ab
   have q8:¬bL=s'+1:=Ab
   have q9:¬bL=s'+1+1:=Ab
   have q10:¬s'=s1+1:=Ab
   have q11:¬s'+1+1=bL:=Ab
   have hfw0:IntKind.wrap .i64 ((i:Int)+1)=((i+1:Nat):Int):=hw1;obtain⟨wv,sv⟩:=w'.var (.v [.w 0,.nils,.w 0]) (.v (zn r));have v1:kdS U' s' .fr s1 = .fr:=(sv.fr s1 hs1).1;have w2:=wv.chg (b:=s1) .fr (.v ((qaO (zd x.rules)).take (i+1)++List.replicate (x.rules.length-(i+1)) (.w 0))) (.inl v1) Ab (.inr (.inl rfl));have w3:=w2.chg (b:=s1+1) .fr (.v ((qbC (zd x.rules)).take (i+1)++List.replicate (x.rules.length-(i+1)) (.j 0))) (.inl (by rw[qk q4];exact(sv.fr _ hs2).1)) Ab (.inr (.inl rfl))
   have s3:=((st'.trans sv).mod' (nb 0) (.v ((qaO (zd x.rules)).take (i+1)++List.replicate (x.rules.length-(i+1)) (.w 0)))).mod' (nb 1) (.v ((qbC (zd x.rules)).take (i+1)++List.replicate (x.rules.length-(i+1)) (.j 0)));have w4:=w3.new (.lab (wp x (i+1)) false) _ (.inr (.inr (.inr ⟨_,rfl,rfl⟩)));have s4:=s3.trans (w3.stpLab (.lab (wp x (i+1)) false) (.v [.j 0]));have w5:=w4.new .no (.v [.ptr (s'+1) 0]) (.inl rfl);have s5:=s4.trans (w4.stpNew .no (.v [.ptr (s'+1) 0]) (by simp))
   have nbL:Ub bL = .no:=by
    have e:bL=s1+(bL-s1):=Ab
    rw[e];exact Ag
   have kb:kdS (kdS (kdS (kdS (kdS U' s' .fr) s1 .fr) (s1+1) .fr) (s'+1) (.lab (wp x (i+1)) false)) (s'+1+1) .no bL = .fr:=by
    rw[qk q9,qk q8,qk q7,qk q6,qk q5];exact Ab
   have w6:=w5.chg (b:=bL) .fr .dead (.inl kb) Ab (.inr (.inl rfl));have s6:=s5.mod' nbL .dead;have w7:=w6.new .fr (.cells 1 true true (rPt (xs++[s'+1]))) (.inr (.inl rfl));have s7:=s6.trans (w6.stpNew .fr (.cells 1 true true (rPt (xs++[s'+1]))) (by simp));have w7':=w5.new .fr (.cells 1 true true (rPt (xs++[s'+1]))) (.inr (.inl rfl));have s7':=s5.trans (w5.stpNew .fr (.cells 1 true true (rPt (xs++[s'+1]))) (by simp))
   have fin:∀(Uf:Nat->Kd) (tf:Tr Blk) (Lf:List Nat),Stp Lf Ub sb tb Uf (s'+1+1+1+1) tf->WI g w Uf (s'+1+1+1+1) tf (qbB x.arch 0 (wm x)) []->Lf=L'++[s'+1]->(∀b,b<s'->b≠s1->b≠s1+1->b≠bL->Uf b=U' b/\tf.get b=tr'.get b)->Uf s1 = .fr->Uf (s1+1) = .fr->Uf (s'+1) = .lab (wp x (i+1)) false->Uf (s'+1+1+1) = .fr->
     tf.get s1=some (.v ((qaO (zd x.rules)).take (i+1)++List.replicate (x.rules.length-(i+1)) (.w 0)))->tf.get (s1+1)=some (.v ((qbC (zd x.rules)).take (i+1)++List.replicate (x.rules.length-(i+1)) (.j 0)))->tf.get (s'+1+1+1)=some (.cells 1 true true (rPt (xs++[s'+1])))->
     ∀tt,Has tt [(1,.ptr bf 0),(4,.ptr w 0),(5,.ptr bN 0),(6,.sl s1 0 x.rules.length x.rules.length false),(7,.sl (s1+1) 0 x.rules.length x.rules.length false),(8,.own (s'+1+1+1) (i+1+1)),(41,.fz x.rules.length (rR x.rules)),(42,.j (x.rules.length:Int)),(43,.j ((i+1:Nat):Int))]->G tt ⟨s'+1+1+1+1,0,tf⟩:=by
    intro Uf tf Lf p1 p2 p3 p4 p5 p6 p7 p8 p9 p10 p11 tt htt;have hbfs:bf<s':=Ab
    have hbNs:bN<s1:=by
     have hb:=st1.lab _ _ _ hN;exact w1.dom bN Ef
    have hbfL:bf≠bL:=Ab
    refine ih (i+1,s'+1+1+1) _ _ Ab htt ⟨Ab,Lf,Uf,s'+1+1+1+1,tf,xs++[s'+1],rfl,p1,p2,Ag,λj c hj=>?_,p8,?_,?_,?_,?_,λc hc=>?_,λj c hj=>?_,p5,p6,p9,p10,Ab,Ab⟩
    .rw[List.getElem?_append]at hj;split at hj
     .obtain⟨p,hp⟩:=hxs j c hj;have:c<s':=by grind[WI.dom]
      have n1:c≠s1:=Ag
      have n2:c≠s1+1:=Ag;have n3:c≠bL:=Ag
      exact Ag
     .have hj0:j-xs.length=0:=Dz
      rw[hj0]at hj;simp at hj;subst hj;obtain rfl:j=i+1:=Ab
      exact Ag
    .rw[p11,if_neg (by simp)]
    .rw[(p4 bf hbfs Ab Ab hbfL).1];exact Ab
    .rw[(p4 bf hbfs Ab Ab hbfL).2];exact Ab
    .rw[(p4 bN Ab Ab Ab Ab).1];exact Ab
    .rw[p3,zzd,zz1]at hc;rcases hc with hc|hc
     .rcases hL' c hc with q|⟨j,q⟩
      .exact Ab
      .exact .inr ⟨j,by rw[zzj Ag];exact q⟩
     .exact .inr ⟨xs.length,by rw[hc];simp⟩
    .rw[List.getElem?_append]at hj;split at hj
     .exact Ag
     .have hj0:j-xs.length=0:=Dz
      rw[hj0]at hj;exact Ag
   have m1:¬s'+1+1+1=s'+1+1:=Ab
   have hap:rPt xs++[.ptr (s'+1) 0]=rPt (xs++[s'+1]):=by simp[rPt]
   have hlx:(rPt xs).length=i+1:=by rw[qiC,hxl]
   have m2:¬s1=s'+1:=Ab
   have m3:¬s1+1=s'+1:=Ab
   have m4:¬s'=s'+1:=Ab
   have m5:¬s'+1+1=s'+1:=Ab
   have hs1':s1<s':=Ab
   rcases Nat.eq_zero_or_pos i with h0|h0
   .rw[if_pos h0]at gL;have hV:qjn i bL = .sl bL 0 1 1 false:=by simp[qjn,h0]
    have htk:(rPt xs).take 1=rPt xs:=Ag
    have c2:1<=(rPt xs).length:=Ab
    rw[hV];have e2:(.own (s'+1+1+1) (i+1+1):AV) = .own (s'+1+1+1) 2:=by rw[h0]
    rw[e2]at fin;simp +decide only[↓vS,vT,simprocAttr,hlt',hlt,h3,hel,zn,hw1,gn,gw,gL,ln,lw,fn,fw,q1,q2,q3,q4,q5,q6,q7,q8,q9,q10,q11,m1,zzU,htk,c2,hap];refine fin _ _ _ s7' w7' (by simp) ?_ ?_ ?_ ?_ ?_ ?_ ?_ ?_ _ ?_
    .intro b hb n1 n2 n3;constructor
     .rw[qk Ab,qk Ab,qk Ab,qk n2,qk n1,qk Ab]
     .simp only[zz4];rw[if_neg Ab,if_neg Ab,if_neg Ab,if_neg n2,if_neg n1,if_neg Ab,if_neg Ab]
    .rw[qk Ab,qk Ab,qk Ab,qk Ab,qU]
    .rw[qk Ab,qk Ab,qk Ab,qU]
    .rw[qk Ab,qk Ab,qU]
    .rw[qU]
    .simp only[zz4];rw[if_neg Ab,if_neg Ab,if_neg Ab,if_neg Ab];simp
    .simp only[zz4];rw[if_neg Ab,if_neg Ab,if_neg Ab];simp
    .exact Bu
    .exact Am
   .rw[if_neg Ab]at gL;have hV:qjn i bL = .own bL (i+1):=by unfold qjn;rw[if_neg Ab]
    rw[hV];have rr1:i+1+1<=qe:=Ab
    have rr2:(i+1+1)*8<=qe:=by simp only[qe];exact Ab
    simp +decide only[↓vS,vT,simprocAttr,hlt',hlt,h3,hel,zn,hw1,gn,gw,gL,ln,lw,fn,fw,q1,q2,q3,q4,q5,q6,q7,q8,q9,q10,q11,m1,rr1,rr2,zzU,hlx,hap];refine fin _ _ _ s7 w7 (by simp) ?_ ?_ ?_ ?_ ?_ ?_ ?_ ?_ _ ?_
    .intro b hb n1 n2 n3;constructor
     .rw[qk Ab,qk n3,qk Ab,qk Ab,qk n2,qk n1,qk Ab]
     .simp only[zz4];rw[if_neg Ab,if_neg n3,if_neg Ab,if_neg Ab,if_neg n2,if_neg n1,if_neg Ab,if_neg Ab]
    .rw[qk Ab,qk Ab,qk Ab,qk Ab,qk Ab,qU]
    .rw[qk Ab,qk Ab,qk Ab,qk Ab,qU]
    .rw[qk Ab,qk Ab,qk Ab,qU]
    .rw[qU]
    .simp only[zz4];rw[if_neg Ab,if_neg Ab,if_neg Ab,if_neg Ab,if_neg Ab];simp
    .simp only[zz4];rw[if_neg Ab,if_neg Ab,if_neg Ab,if_neg Ab];simp
    .exact Bu
    .exact Am
  .obtain rfl:i=x.rules.length:=Ab
   have hlt':¬((x.rules.length:Int)<x.rules.length):=Ab
   refine Sa hlt' ?_
   have e1:(if x.rules.length=0 then Blk.v (rPt xs)else .cells 1 true true (rPt xs)) = .cells (if x.rules.length=0 then 0 else 1) true (decide (x.rules.length≠0)) (rPt xs):=by
    by_cases h:x.rules.length=0<;>simp[h]
   rw[e1]at gL;have hfb:bf≠s1:=f1;refine qBf (bn:=s1) (bw:=s1+1) E x hx hK hn hd1 hS hB hT1 hT2 hT3 w' st' xs hxl hxs hL0 gL hbf gbf hbN' hbN hL' (λj c hj=>?_) hno hs1 ?_ (nb 0) hs2 ?_ (nb 1) Ab ?_
   .have:=hnew j c hj;have e:c=s1+(c-s1):=Ab
    rw[e];exact Ag
   .rw[gn];grind[qkv,qc2]
   .rw[gw];grind[qkw,qc2]
   .exact Am
 .simp[qj,qn,zz4,qjn,ze]
 .refine⟨zzu _,_,_,_,_,[s1+1+1],rfl,sd,wd,rfl,λj c hj=>?_,qU,?_,?_,?_,?_,λc hc=>?_,λj c hj=>?_,?_,?_,?_,?_,by simp only;exact Ab,by simp only;exact Ab⟩
  .have:j=0:=by have:=(zzS.1 hj).1;exact H5
   subst this;simp at hj;subst hj;exact⟨false,by rw[qk Ab,qU]⟩
  .simp[zz4,rPt]
  .rw[qk f4,qk f3,qk f2,qk f1];exact hf1.1
  .simp only[zz4];rw[if_neg f4,if_neg f3,if_neg f2,if_neg f1];exact gf1
  .have hb:=st1.lab _ _ _ hN;have:bN<s1:=w1.dom bN Ef;rw[qk Ab,qk Ab,qk Ab,qk Ab];exact hb
  .simp at hc;rcases hc with hc|hc
   .exact .inl hc
   .exact .inr ⟨0,by simp[hc]⟩
  .have:j=0:=by have:=(zzS.1 hj).1;exact H5
   subst this;simp at hj;exact Ab
  .rw[qk Ab,qk Ab,qk Ab,qU]
  .rw[qk Ab,qk Ab,qU]
  .simp only[zz4];rw[if_neg Ab,if_neg Ab,if_neg Ab];simp
  exact Gf
def qqd(x:GFil):AV:=if wZ x=true then .tup [.fz (zK x).length (rSy (zK x)),.j 0]else .tup [.fz 0 [],.j 210]
def quW(hc:Ck P f (qgA gM go gS gT gb gh gr gR gd))(E:EFn P g gl gp gj gh gr go gb gR gd gt gH gA gB gC gD)(x:GFil)(hx:FilR x)(hM:qc P gM [.agg (ze x)] (.b (wZ x)))
  (hk:wZ x=true->vz x<=10000/\(zj x).length<=10000/\zj x≠[]/\(∀nd ∈ zj x,NdOk (x.rules.length+1) (zj x).length nd) /\
   qc P gS [.fz (zd x.rules).length (qaO (zd x.rules)),.fz (zd x.rules).length (qbC (zd x.rules)),.j 0] (.tup [.fz (xD (pcs 0 (zd x.rules) 0)).length (rSp (xD (pcs 0 (zd x.rules) 0))),.j 0]) /\
   qc P gT [.fz (xD (pcs 0 (zd x.rules) 0)).length (rSp (xD (pcs 0 (zd x.rules) 0)))] (.tup [.fz (zj x).length (rNd (zj x)),.j 0])) :
  qc P f [.agg (ze x)] (qqd x):=by
 have hcl:qt (rR x.rules)=true:=jk λr=>by simp[zn,qt,clo,zt]
 refine qc.mk hc (by simp[qt,clo,ze,hcl]) ?_;simp only[qgA,ze,vI,simprocAttr];refine Aa ?_;simp only[ze]at hM;refine hM.sc ?_;unfold qqd;cases hK:wZ x with
 | false =>
  refine Aa ?_;simp[vZ]
 | true =>
  obtain⟨h1,h2,h3,h4,h5,h6⟩:=hk hK;simp only[wZ,zzB,zzb]at hK;obtain⟨⟨⟨⟨k1,k2⟩,k3⟩,k4⟩,k5⟩:=hK;refine Aa ?_;refine S.weak (Wk.mk [(1,.ptr 0 0),(4,.ptr 1 0),(5,.ptr 2 0)] [.v (ze x),.v [.own 3 0,.own 4 0],.v [.j 0],.cells 4 true true [],.cells 1 true true []] [0,1,2,99,99] ?_ ?_ ?_ rfl) ?_
  .simp[vw]
  .simp[vw,ze,hcl]
  .simp
  refine Ak ?_
  have hW:∀kd:Kd,(kd = .no\/kd = .lab (wm x) false)->WI g 1 (λb=>if b=0 then .fr else if b=1 then .w else if b=2 then kd else if b=3 then .l else if b=4 then .t else .no) 5 (((((Tr.leaf.set 0 (.v (ze x))).set 1 (.v [.own 3 0,.own 4 0])).set 2 (.v [.j 0])).set 3 (.cells 4 true true [])).set 4 (.cells 1 true true [])) [] []:=λkd hkd=>by
   refine⟨λb hb=>?_,⟨3,4,[],[],rfl,rfl,rfl,?_,?_,?_,trivial,by simp,λj y hy=>by simp at hy⟩,λb F p hb=>?_⟩
   .by_cases e:b<5
    .exact e
    .rw[if_neg Ab,if_neg Ab,if_neg Ab,if_neg Ab,if_neg Ab]at hb;exact absurd rfl hb
   .exact Be
   .simp[zz4,rSy]
   .exact Be
   .split at hb
    .cases hb
    split at hb
    .cases hb
    split at hb
    .rename_i e;subst e;rcases hkd with rfl|rfl
     .cases hb
     .cases hb;exact A5
    exact Jb
  refine qBe (bf:=0) (bN:=2) (pN:=false) (Ub:=λb=>if b=0 then .fr else if b=1 then .w else if b=2 then .no else if b=3 then .l else if b=4 then .t else .no) (sb:=5) (tb:=((((Tr.leaf.set 0 (.v (ze x))).set 1 (.v [.own 3 0,.own 4 0])).set 2 (.v [.j 0])).set 3 (.cells 4 true true [])).set 4 (.cells 1 true true []))
   E x hx k1 k2 (qkY k5) k3 h1 h5 h6 h3 h4 h2 (hW (.lab (wm x) false) (.inr rfl)) ⟨zzL _,λb hb=>⟨?_,rfl⟩,λb hb=>⟨?_,rfl⟩,λb F p hb=>?_,λb F hb=>?_⟩ Ag rfl ?_ rfl rfl ?_ ?_
  .exact Gj
  .exact Gj
  all_goals grind[Tr.get_set,qj,qn]
end
def qeW(c:Int):Prop:=c=21\/c=37\/c=53\/c=69
def qge(s:Sy)(j n:Nat):Prop :=
 (s.code=32/\s.th=0/\s.el=0/\s.k % 4=0/\0<=s.k/\s.k<64)\/((s.code=84\/s.code=6)/\s.th=0/\s.el=0)\/(s.code=5/\s.k=0/\s.el=0/\j<s.th/\s.th<n)\/(qeW s.code/\j<s.th/\s.th<n/\j<s.el/\s.el<n)
structure MayL (l:List Sy):Prop where
 pos:0<l.length
 big:l.length<=131072
 last:∃s,l[l.length-1]?=some s/\s.code=6
 all:∀(j:Nat) s,l[j]?=some s->qge s j l.length
theorem zp{l:List Sy}:qt (rSy l)=true:=jk λ_=>rfl
def qzE{l:List Sy}:qQ (rSy l)=true:=qmI λ_=>rfl
def qgl{T:List Sy}{j:Nat}{x:Sy}(h:T[j]?=some x):((rSy T).drop (j*4)).take 4=cSy x:=qS qeZ h
def qks{T:List Sy}{j:Nat}{x:Sy}(h:T[j]?=some x){i:Nat}(hi:i<4):(rSy T)[j*4+i]?=(cSy x)[i]?:=zq qeZ h hi
def qf6:IFn:=irJ 305 []
def qHK(hc:Ck P f qf6)(x j n:Nat)(h1:j<x)(h2:x<n):qc P f [.j (x:Int),.pf [.j (j:Int)] 0,.pf [.j (n:Int)] 0] (.b true):=by
 refine Al ?_;have h1':(j:Int)<x:=Ab
 have h2':(x:Int)<n:=Ab
 simp only[qf6,vI,simprocAttr];refine Sa (zzA h1' h2') ?_;simp[vZ]
def qj6:IFn:=irJ 306 []
def qH0(hc:Ck P f qj6)(c:Int)(h:qeW c):qc P f [.h c] (.b true):=by
 refine Al ?_;simp only[qj6,vI,simprocAttr];rcases h with rfl|rfl|rfl|rfl
 all_goals
  simp +decide only[↓vS,vT,simprocAttr];simp[vZ]
def qhL(a b c:Nat):IFn:=irJ 266 [305,a,230,b,306,c]
def qIr{g1 g2 g3:Nat}(hc:Ck P f (qhL g1 g2 g3))(h1:∀x j n:Nat,j<x->x<n->qc P g1 [.j (x:Int),.pf [.j (j:Int)] 0,.pf [.j (n:Int)] 0] (.b true))(h2:qr8 P g2)(h3:∀c,qeW c->qc P g3 [.h c] (.b true))(s:Sy)(j n:Nat)(hs:qge s j n)(hn:n<=1000000)(hj:j<n) :
  qc P f [.agg (cSy s),.j (j:Int),.j (n:Int)] (.b true):=by
 refine Al ?_;simp only[qhL,cSy,vI,simprocAttr];obtain⟨code,sk,th,el⟩:=s;simp only[qge]at hs;rcases hs with⟨rfl,rfl,rfl,k4,k0,k64⟩|⟨hcd,rfl,rfl⟩|⟨rfl,rfl,rfl,j1,j2⟩|⟨hcd,j1,j2,j3,j4⟩
 .have hw:=h2 ⟨0,0,0,0,0,0,0,0,0⟩ (by constructor<;>decide) sk k0 Ab;have e:qkN ⟨0,0,0,0,0,0,0,0,0⟩ sk = .tup [.w ((jz ⟨0,0,0,0,0,0,0,0,0⟩).getD (sk / 4).toNat 0),.j 0]:=by unfold qkN;rw[if_neg Ab]
  rw[e]at hw;simp only[qq]at hw;have z0:((0:Nat):Int)=0:=rfl;refine Sa z0 ?_;refine hw.sc ?_;refine Aa ?_;simp[vZ]
 .have z0:((0:Nat):Int)=0:=rfl;rcases hcd with rfl|rfl
  .refine Sa z0 ?_;simp[vZ]
  .refine Sa z0 ?_;simp[vZ]
 .have z0:((0:Nat):Int)=0:=rfl;have t0:¬(th:Int)=0:=Ab
  have t1:j<th:=j1;refine Sa (zzA z0 t0) ?_;refine(h1 th j n j1 j2).lend Fg rfl ?_;refine Aa ?_;simp[vZ]
 .have t0:¬(th:Int)=0:=Ab
  have ha:=h3 code hcd;have n1:¬code=32:=Ei
  have n2:¬code=84:=Ei
  have n3:¬code=6:=Ei
  have n4:¬code=5:=Ei
  refine Sa (zzA t0 (zzA n1 (zzA n2 (zzA n3 n4)))) ?_;refine ha.sc ?_;refine Aa ?_;refine(h1 th j n j1 j2).lend Fg rfl ?_;refine Aa ?_;refine(h1 el j n j3 j4).lend Fg rfl ?_;refine Aa ?_;simp[vZ]
def qlA(a:Nat):IFn:=irJ 218 [266,a]
def qL0{g:Nat}(hc:Ck P f (qlA g))(hg:∀(s:Sy) (j n:Nat),qge s j n->n<=1000000->j<n->qc P g [.agg (cSy s),.j (j:Int),.j (n:Int)] (.b true))(l:List Sy)(hl:MayL l):qc P f [.fz l.length (rSy l)] (.b true):=by
 refine Bz ?_;obtain⟨z,hz,hz6⟩:=hl.last;have p1:=hl.pos;have p2:=hl.big;have n1:¬(l.length:Int)<1:=Ab
 have n2:¬131072<(l.length:Int):=Ab
 have e1:IntKind.wrap .i64 ((l.length:Int)-1)=((l.length-1:Nat):Int):=by rw[qC Ab Ab];exact Ab
 have hlt:l.length-1<l.length:=Ab
 have gz:=qks hz (i:=0) Ab;have gz':(rSy l)[(l.length-1)*4]?=some (.h 6):=by rw[<- hz6];exact gz
 simp only[qlA,vI,simprocAttr];refine Sa (zzA n1 (zzA n2 (zzA e1 (zzA hlt gz')))) ?_;refine SL.loopP (α:=Nat) (λi=>[(0,.fz l.length (rSy l)),(23,.fz l.length (rSy l)),(24,.j (l.length:Int)),(25,.j (i:Int))]) (λi h=>i<=l.length/\h.fl=0) (λi=>l.length-i) ?_ 0 ?_ ?_
 .rintro i ⟨s,fl,tr⟩ ⟨hi,rfl⟩ G ih;refine Ak ?_
  by_cases hi':i<l.length
  .have hlt':(i:Int)<l.length:=Ab
   obtain⟨x,hx⟩:∃x,l[i]?=some x:=⟨_,zzE hi'⟩;have hel:=qgl hx;have h4:i*4+4<=(rSy l).length:=by rw[qan];exact Ab
   have hw1:=wS i;have hp:=hg x i l.length (hl.all i x hx) Ab hi';simp only[cSy]at hp;simp +decide only[↓vS,vT,simprocAttr,hlt',hi',h4,hel,cSy];refine hp.sc ?_;refine Sa hw1 ?_;exact ih (i+1) _ _ Ab Am ⟨Ab,rfl⟩
  .obtain rfl:i=l.length:=Ab
   have hlt':¬((l.length:Int)<l.length):=Ab
   refine Sa hlt' ?_;simp[vZ]
 all_goals simp_all[qj,qn,zz4]
def z8:IFn:=irJ 272 []
def qH3(hc:Ck P f z8):qb2 P f 4 24:=by
 intro n rows hlen hcl hok hr1 hr2;refine Own.of_SC Ea ?_;cases n with
 | zero =>
  obtain rfl:rows=[]:=Ae
  refine SC.nil0 (SC.mk hc (qh ?_)) (SC.mk hc (qh ?_))
  .simp only[z8,vI,simprocAttr];refine Ac ?_;intro _;refine⟨[1],?_⟩;simp[vw]
  .simp only[z8,vI,simprocAttr];exact Gp
 | succ n =>
  refine Bg ?_;simp only[z8,vI,simprocAttr];have h1:1<=n+1:=Ab
  have h2:(n+1)*4<=rows.length:=Ab
  have h3:rows.take ((n+1)*4)=rows:=Ag
  have h4:¬(n+1<=0):=Ab
  exact Ed
def qbX(s:Sy):Prop:=ql s.code=4
def qdH(s:Sy):Prop:=ql s.code=4/\s.code≠5
instance (s:Sy):Decidable (qbX s):=by unfold qbX;infer_instance
instance (s:Sy):Decidable (qdH s):=by unfold qdH;infer_instance
def qlE(a:Nat):IFn:=irJ 274 [112,a]
def qhv(P:Program)(f:Nat):Prop:=∀s:Sy,qc P f [.agg (cSy s)] (.b (decide (qdH s)))
def qLp{g:Nat}(hc:Ck P f (qlE g))(hg:cOf P g):qhv P f:=by
 intro s;refine Al ?_;simp only[qlE,cSy,vI,simprocAttr];refine Aa ?_;refine(hg s.code).sc ?_
 by_cases h1:ql s.code=4
 .by_cases h2:s.code=5
  .refine Sa (zzA h1 h2) ?_;simp[vZ,qdH,h2]
  .refine Sa (zzA h1 h2) ?_;simp[vZ,qdH,h1,h2]
 .refine Sa h1 ?_;simp[vZ,qdH,h1]
def qbA(to:Nat->Nat)(s:Sy):Sy:=⟨s.code,s.k,if qbX s then to s.th else s.th,if qdH s then to s.el else s.el⟩
def qC3{α:Type}{A B:List α}{x y:α}:(A++x::B).set A.length y=A++y::B:=by
 rw[List.set_append];simp
def wD(a b c:Nat):IFn:=irJ 270 [272,a,112,b,274,c]
def qnh{g1 g2 g3 gt s fl:Nat}{tr:Tr Blk}{caps:List AV}{k:AV->Hp->Prop}(hc:Ck P f (wD g1 g2 g3))(h1:qb2 P g1 4 24)(h2:cOf P g2)(h3:qhv P g3)(l:List Sy)(hl:l.length<=200000)(hfl:fl<=s)(to:Nat->Nat)
  (hto:∀x ∈ l,∀j:Nat,(qbX x/\j=x.th)\/(qdH x/\j=x.el)->∀(s':Nat) (tr':Tr Blk) (k':AV->Hp->Prop),s<=s'->(∀b,b<s->tr'.get b=tr.get b)->k' (.j ((to j:Nat):Int)) ⟨s',fl,tr'⟩->SC P gt (.j (j:Int)::caps) ⟨s',fl,tr'⟩ k')
  (hk:∀s' tr' b,s<=s'->(∀c,c<s->tr'.get c=tr.get c)->s<=b->b<s'->tr'.get b=some (.cells 4 true true (rSy (l.map (qbA to))))->k (.own b l.length) ⟨s',fl,tr'⟩):SC P f [.fz l.length (rSy l),.fn gt [] caps] ⟨s,fl,tr⟩ k:=by
 refine Bg ?_;simp only[wD,vI,simprocAttr];refine Aa ?_;refine(h1 l.length (rSy l) qan zp qzE (by simp only[qe];exact Ab) (by simp only[qe];exact Ab)).sc ?_;simp only[vJ,simprocAttr];simp +decide only[↓vS,vT,simprocAttr,xw zp]
 refine SL.loopP (α:=Nat) (λi=>[(1,.fn gt [] caps),(5,.own s l.length),(10,.own s l.length),(11,.j (l.length:Int)),(12,.j (i:Int))])
  (λi h=>i<=l.length/\∃s' tr',h=⟨s',fl,tr'⟩/\s<s'/\(∀b,b<s->tr'.get b=tr.get b)/\tr'.get s=some (.cells 4 true true (rSy ((l.take i).map (qbA to)++l.drop i)))) (λi=>l.length-i) ?_ 0 ?_ ?_
 .rintro i h1 ⟨hi,s',tr',rfl,hs,hold,hrow⟩ G ih;refine Ak ?_
  by_cases hlt:i<l.length
  .have hlt':(i:Int)<l.length:=Ab
   obtain⟨x,hx⟩:∃x,l[i]?=some x:=⟨_,zzE hlt⟩;have hxm:=zzM hx;have hd:l.drop i=x::l.drop (i+1):=Dg
   have hAl:((l.take i).map (qbA to)).length=i:=by simp;exact Ab
   rw[hd]at hrow;obtain⟨A,hA⟩:∃A,A=(l.take i).map (qbA to):=⟨_,rfl⟩;obtain⟨B,hB⟩:∃B,B=l.drop (i+1):=⟨_,rfl⟩;rw[<- hA,<- hB]at hrow;rw[<- hA]at hAl;have hrl:(A++x::B).length=l.length:=by rw[zzP,hAl,hB];simp;exact Ab
   have hget:(A++x::B)[i]?=some x:=by rw[<- hAl];simp
   have hel:=qgl hget;have h4:i*4+4<=(rSy (A++x::B)).length:=by rw[qan,hrl];exact Ab
   have hw1:=wS i;have n1:¬s=s':=Ab
   have n2:¬s'=s:=Ab
   have hf2:fl<=s':=Ab
   have hset:∀(y y':Sy) (j:Nat) (v:AV),j<4->cSy y'=(cSy y).take j++([v]++(cSy y).drop (j+1))->(rSy (A++y::B)).take (i*4+j)++v::(rSy (A++y::B)).drop (i*4+j+1)=rSy (A++y'::B):=λy y' j v hj he=>by
    have:=qhB (f:=cSy) (v:=v) (xs:=A++y::B) (j:=i) qeZ (by rw[<- hAl];simp) hj he;rw[show(A++y::B).set i y'=A++y'::B by rw[<- hAl];exact qC3]at this
    exact this
   have hlen:∀y,(rSy (A++y::B)).length=l.length*4:=λy=>by rw[qan];simp at hrl ⊢;exact Ab
   have b3:∀y,i*4+2+1<=(rSy (A++y::B)).length:=Ag
   have b4:∀y,i*4+3+1<=(rSy (A++y::B)).length:=Ag
   have fin:∀(s2:Nat) (t2:Tr Blk),s<s2->(∀b,b<s->t2.get b=tr.get b)->t2.get s=some (.cells 4 true true (rSy (A++qbA to x::B)))->∀tt,Has tt [(1,.fn gt [] caps),(5,.own s l.length),(10,.own s l.length),(11,.j (l.length:Int)),(12,.j ((i+1:Nat):Int))]->G tt ⟨s2,fl,t2⟩:=λs2 t2 q1 q2 q3 tt htt=>by
    refine ih (i+1) _ _ Ab htt ⟨Ab,s2,t2,rfl,q1,q2,?_⟩
    rw[q3,qbW hx,List.map_append,<- hA,<- hB];simp
   have ho:=λb (hb:b<s)=>hold b hb
   have old:∀(y:Blk) b,b<s->((tr'.set s' (.v [.h 0,.w 0,.j 0,.j 0])).set s' y).get b=tr.get b:=λy b hb=>by
    rw[zz4,if_neg Ab,zz4,if_neg Ab];exact hold b hb
   simp +decide only[↓vS,vT,simprocAttr,hlt',hlt,hrow,h4,hel,cSy,n1,n2,hf2];refine(h2 x.code).sc ?_;have ha:=h3 x;simp only[cSy]at ha
   by_cases hj:ql x.code=4
   .refine Sa (zzA hj (zzA n1 n2)) ?_;refine hto x hxm x.th (.inl ⟨hj,rfl⟩) _ _ _ Ab (λb hb=>old _ b hb) ?_
    have e1:=hset x ⟨x.code,x.k,to x.th,x.el⟩ 2 (.j ((to x.th:Nat):Int)) Ab rfl;have hs2:s<=s:=zzL _;simp +decide only[↓vS,vT,simprocAttr,hrow,n1,n2,hlt,b3,hfl,e1];refine ha.sc ?_
    by_cases hk5:x.code=5
    .have hna:¬qdH x:=λh=>h.2 hk5
     refine Sa (zzA hna hw1) ?_;refine fin _ _ Ab (λb hb=>?_) ?_ _ Am
     .rw[zz4,if_neg Ab];exact old _ b hb
     .have e:qbA to x=⟨x.code,x.k,to x.th,x.el⟩:=by unfold qbA;rw[if_pos (show qbX x from hj),if_neg hna]
      rw[zz4,if_pos rfl,e]
    .have hya:qdH x:=⟨hj,hk5⟩;refine Sa (zzA hya (zzA n1 n2)) ?_;refine hto x hxm x.el (.inr ⟨hya,rfl⟩) _ _ _ Ab (λb hb=>by rw[zz4,if_neg Ab];exact old _ b hb) ?_
     have e2:=hset ⟨x.code,x.k,to x.th,x.el⟩ ⟨x.code,x.k,to x.th,to x.el⟩ 3 (.j ((to x.el:Nat):Int)) Ab rfl;simp +decide only[↓vS,vT,simprocAttr,hrow,n1,n2,hlt,b4,hfl,e2,hw1];refine fin _ _ Ab (λb hb=>?_) ?_ _ Am
     .rw[zz4,if_neg Ab,zz4,if_neg Ab];exact old _ b hb
     .rw[zz4,if_pos rfl];simp[qbA,qbX,qdH,hj,hk5]
   .have hna:¬qdH x:=λh=>hj h.1
    refine Sa (zzA hj (zzA n1 n2)) ?_;refine ha.sc ?_;refine Sa (zzA hna hw1) ?_;refine fin _ _ Ab (λb hb=>old _ b hb) ?_ _ Am
    rw[zz4,if_neg n1,zz4,if_neg n1,hrow];simp[qbA,qbX,qdH,hj]
  .obtain rfl:i=l.length:=Ab
   have hlt':¬((l.length:Int)<l.length):=Ab
   refine Sa hlt' ?_;rw[zz0,List.drop_length,List.append_nil]at hrow;exact Ag
 .exact Am
 grind[Tr.get_set,xw,zp]
def qlx{α:Type}{f:α->List AV}(h:∀x,vm (f x)=true):∀l:List α,vm (l.flatMap f)=true
 | []=>rfl
 | x::l=>by
  have app:∀(a b:List AV),vm a=true->vm b=true->vm (a++b)=true:=by
   intro a
   induction a with
   | nil=>exact Ae
   | cons v a ih =>
    intro b ha hb;simp only[vm,zzB,zzC]at ha ⊢
    exact Ae
  rw[zzv];exact app _ _ (h x) (qlx h l)
def qvX{l:List Sy}:vm (rSy l)=true:=qlx (λ_=>rfl) l
def qvz{g1 g2 g3 gt:Nat}{caps:List AV}(hc:Ck P f (wD g1 g2 g3))(h1:qb2 P g1 4 24)(h2:cOf P g2)(h3:qhv P g3)(l:List Sy)(hl:l.length<=200000)(to:Nat->Nat)
  (hto:∀x ∈ l,∀j:Nat,(qbX x/\j=x.th)\/(qdH x/\j=x.el)->qc P gt (.j (j:Int)::caps) (.j ((to j:Nat):Int))) :
  qjE P f [.fz l.length (rSy l),.fn gt [] caps] (.own 0 l.length) [.cells 4 true true (rSy (l.map (qbA to)))]:=by
 refine qjE.of_SC rfl (by simp[qqM,qvX]) ?_;refine qnh hc h1 h2 h3 l hl (zzL 0) to (λx hx j hj s' tr' k' _ _ hk=>(hto x hx j hj).sc hk) λs' tr' b _ _ _ hb hg=>?_
 intro _;refine⟨[b],?_⟩;simp[vw,hg,hb,qa,zp]
def qsM:List (Int×Nat)->Int->Nat->List (Int×Nat)
 | [],x,v=>[(x,v)]
 | (a,u)::L,x,v=>if x=a then(x,v)::L else(a,u)::qsM L x v
def qjb:List (Int×Nat)->Int->Option Nat
 | [],_=>none
 | (a,u)::L,x=>if x=a then some u else qjb L x
def mkE(L:List (Int×Nat)):List (AV×AV):=L.map λp=>(.w p.1,.j (p.2:Int))
def qtp{L:List (Int×Nat)}{p:Prop}:qfA (mkE L) p↔p:=by cases L<;>exact Iff.rfl
def qEk{x:Int}{v:Nat}:∀{L:List (Int×Nat)}{k:List (AV×AV)->Prop},qik qV (.w x) (.j (v:Int)) (mkE L) k↔k (mkE (qsM L x v))
 | [],k=>qud
 | (a,u)::L,k=>by
  refine qEl.trans ?_;unfold qsM
  by_cases h:x=a
  .rw[if_pos h,if_pos h];exact Bt
  .rw[if_neg h,if_neg h];exact qEk
def qxG{x:Int}:∀{L:List (Int×Nat)}{k:Option AV->Prop},qdl qV (.w x) (mkE L) k↔k ((qjb L x).map λv=>.j (v:Int))
 | [],k=>qqK
 | (a,u)::L,k=>by
  refine qxH.trans ?_;unfold qjb
  by_cases h:x=a
  .rw[if_pos h,if_pos h];exact Ae
  .rw[if_neg h,if_neg h];exact qxG
def qAw{z:AV}{o:Option Nat}{v:Nat}{k:AV->Prop}(h:o=some v):qiG false z (o.map λv=>.j (v:Int)) k↔k (.j (v:Int)):=by simp_all[qqe]
def qki(l:List Sy):List (Int×Nat):=(l.zipIdx).foldl (λL p=>if p.1.code=6 then qsM L p.1.k p.2 else L) []
def qm9{l:List Sy}{x:Sy}:qki (l++[x])=if x.code=6 then qsM (qki l) x.k l.length else qki l:=by
 simp[qki,List.zipIdx_append]
def qrg{L:List (Int×Nat)}{x y:Int}{v:Nat}:qjb (qsM L x v) y=if y=x then some v else qjb L y:=by
 induction L with
 | nil=>rfl
 | cons p L ih =>
  obtain⟨a,u⟩:=p;unfold qsM
  by_cases h:x=a
  .rw[if_pos h];subst h;unfold qjb
   exact Ae
  .rw[if_neg h];unfold qjb;rw[ih]
   exact Ag
def qk5{l:List Sy}{j:Nat}{x:Sy}(h:l[j]?=some x)(h6:x.code=6):∃i y,qjb (qki l) x.k=some i/\j<=i/\l[i]?=some y/\y.code=6/\y.k=x.k:=by
 have main:∀(n:Nat) (l:List Sy),l.length=n->∀{j:Nat}{x:Sy},l[j]?=some x->x.code=6->∃i y,qjb (qki l) x.k=some i/\j<=i/\l[i]?=some y/\y.code=6/\y.k=x.k:=by
  intro n
  induction n with
  | zero=>intro l hl j x h;rw[List.eq_nil_of_length_eq_zero hl]at h;exact G3
  | succ n ih =>
   intro l hl j x h h6;have e:l=l.dropLast++[l.getLast (by intro h;rw[h]at hl;simp at hl)]:=(List.dropLast_concat_getLast _).symm;generalize l.getLast _=z at e;generalize l.dropLast=l0 at e;subst e;have hl0:l0.length=n:=by simp at hl;exact hl
   rw[qm9];rcases Nat.lt_or_ge j l0.length with hj|hj
   .rw[zzj hj]at h;obtain⟨i,y,q1,q2,q3,q4,q5⟩:=ih l0 hl0 h h6;have hi:=(zzS.1 q3).1
    by_cases hz:z.code=6
    .rw[if_pos hz,qrg]
     by_cases hk:x.k=z.k
     .exact Ag
     .exact Ag
    .rw[if_neg hz];exact Ag
   .have hj2:j=l0.length:=by have:=(zzS.1 h).1;simp at this;exact Ab
    subst hj2;simp at h;subst h;rw[if_pos h6,qrg,if_pos rfl];exact Ae
 exact Ae
def qeQ(l:List Sy)(j:Nat):Nat:=match l[j]? with|some x=>if x.code=6 then(qjb (qki l) x.k).getD 0 else j|none=>j
def qgn(l:List Sy):List Sy:=l.map (qbA (qeQ l))
def qn3(l:List Sy):Prop:=∀x ∈ l,∀j:Nat,(qbX x/\j=x.th)\/(qdH x/\j=x.el)->j<l.length
def qdO:IFn:=irJ 271 []
def qfw(a b:Nat):IFn:=irJ 222 [271,a,270,b]
def qrH{g1 g2 h1 h2 h3:Nat}(hc:Ck P f (qfw g1 g2))(hc1:Ck P g1 qdO)(hc2:Ck P g2 (wD h1 h2 h3))(c1:qb2 P h1 4 24)(c2:cOf P h2)(c3:qhv P h3)(l:List Sy)(hl:l.length<=200000)(hin:qn3 l) :
  qc P f [.fz l.length (rSy l)] (.fz (qgn l).length (rSy (qgn l))):=by
 refine Bz ?_;simp only[qfw,vI,simprocAttr];refine Aa ?_
 refine SL.loopP (α:=Nat) (λi=>[(1,.ptr 0 0),(3,.ptr 2 0),(7,.fz l.length (rSy l)),(8,.j (l.length:Int)),(9,.j (i:Int))])
  (λi h=>i<=l.length/\∃s tr,h=⟨s,0,tr⟩/\3<=s/\tr.get 0=some (.v [.fz l.length (rSy l)])/\tr.get 1=some (.map (mkE (qki (l.take i))))/\tr.get 2=some (.v [.map 1])) (λi=>l.length-i) ?_ 0 ?_ ?_
 .rintro i h1 ⟨hi,s,tr,rfl,hs,t0,t1,t2⟩ G ih;refine Ak ?_
  by_cases hlt:i<l.length
  .have hlt':(i:Int)<l.length:=Ab
   obtain⟨x,hx⟩:∃x,l[i]?=some x:=⟨_,zzE hlt⟩;have hel:=qgl hx;have h4:i*4+4<=(rSy l).length:=by rw[qan];exact Ab
   have hw1:=wS i;have n0:¬0=s:=Ab
   have n1:¬1=s:=Ab
   have n2:¬2=s:=Ab
   have hsn:=qm9 (l:=l.take i) (x:=x);rw[<- qbW hx,zzm,Nat.min_eq_left hi]at hsn
   by_cases h6:x.code=6
   .rw[if_pos h6]at hsn;simp +decide only[↓vS,vT,simprocAttr,hlt',hlt,h4,hel,cSy,h6,n0,n1,n2,t2,t1,qtp,qEk,hw1];refine ih (i+1) _ _ Ab Am ⟨Ab,s+1,_,rfl,Ab,?_,?_,?_⟩
    all_goals grind[Tr.get_set]
   .rw[if_neg h6]at hsn;simp +decide only[↓vS,vT,simprocAttr,hlt',hlt,h4,hel,cSy,h6,hw1];refine ih (i+1) _ _ Ab Am ⟨Ab,s+1,_,rfl,Ab,?_,?_,?_⟩
    all_goals grind[Tr.get_set]
  .obtain rfl:i=l.length:=Ab
   have hlt':¬((l.length:Int)<l.length):=Ab
   rw[zz0]at t1;refine Sa (zzA hlt' t0) ?_;refine qnh hc2 c1 c2 c3 l hl (zzu _) (qeQ l) (λx hx j hj s' tr' k' hs' hold hk'=>?_) λs' tr' b hs' hold hb1 hb2 hg=>?_
   .have hjl:=hin x hx j hj;obtain⟨y,hy⟩:∃y,l[j]?=some y:=⟨_,zzE hjl⟩;have g0:=(hold 0 Ab).trans t0;have g1:=(hold 1 Ab).trans t1;have g2:=(hold 2 Ab).trans t2;have gc:=qks hy (i:=0) Ab;have gc':(rSy l)[j*4]?=some (.h y.code):=gc;have gk:=qks hy (i:=1) Ab;have gk':(rSy l)[j*4+1]?=some (.w y.k):=gk;refine SC.mk hc1 (qh ?_);simp only[qdO,vI,simprocAttr]
    by_cases h6:y.code=6
    .obtain⟨i,z,q1,q2,q3,q4,q5⟩:=qk5 hy h6;have e:qeQ l j=i:=by unfold qeQ;rw[hy];simp[h6,q1]
     rw[e]at hk';refine Sa (zzA g0 (zzA gc' (zzA hjl h6))) ?_;refine qX ?_;simp +decide only[↓vS,vT,simprocAttr,g0,g1,g2,gk',hjl,qtp,qxG,qAw q1];exact Ab
    .have e:qeQ l j=j:=by unfold qeQ;rw[hy];simp[h6]
     rw[e]at hk';refine Sa (zzA g0 (zzA gc' (zzA hjl h6))) ?_;exact Ab
   .refine Aa ?_;have e:(qgn l).length=l.length:=by simp[qgn]
    simp[vZ,vP,hg,e,qP zp];refine⟨λh=>?_,?_⟩
    .rw[h];rfl
    .exact Frzs.self zp
 .exact Am
 .refine⟨zzu _,_,_,rfl,Ab,?_,?_,?_⟩<;>simp[zz4,mkE,qki]
def jS(a:Nat):IFn:=irJ 219 [267,a]
def qJg{g:Nat}(hc:Ck P f (jS g))(l:List Sy):qc P f [.fz l.length (rSy l)] (.fn g [] [.pf [.fz l.length (rSy l)] 0]):=by
 refine Bz ?_;simp only[jS,vI,simprocAttr];refine Aa ?_;simp[vZ,vP,zz4,qP zp]
def qT:IFn:=irJ 267 []
def x8{α:Type}{c:α->List AV}{l:List α}{lb:Nat}(hc:Ck P f qT)(hm:∀x,(c x).length=4)(hn:l.length<=1000000)(J:Nat->Hp->Prop)
  (hy:∀(i:Nat) x h,l[i]?=some x->J (i+1) h->∀k:AV->Hp->Prop,(∀h',J i h'->k (.b true) h')->SY P lb [.j (i:Int),.agg (c x)] h k)
  {s:Nat}{tr:Tr Blk}{k:AV->Hp->Prop}(h0:J l.length ⟨s,0,tr⟩) (hk:∀h,J 0 h->k (.tup []) h):SC P f [.yl lb,.pf [.fz l.length (l.flatMap c)] 0] ⟨s,0,tr⟩ k:=by
 refine Bg ?_;simp only[qT,vI,simprocAttr];have e1:IntKind.wrap .i64 ((l.length:Int)-1)=(l.length:Int)-1:=B6
 refine Sa e1 ?_;refine SL.loopP (α:=Nat) (λi=>[(0,.yl lb),(1,.pf [.fz l.length (l.flatMap c)] 0),(3,.j ((i:Int)-1))]) (λi h=>i<=l.length/\J i h) (λi=>i) ?_ l.length ?_ ?_
 .rintro i h1 ⟨hi,hj⟩ G ih;obtain⟨s',fl',tr'⟩:=h1;refine Ak ?_;cases i with
  | zero =>
   have n0:¬(0:Int)<=((0:Nat):Int)-1:=Ab
   refine Sa n0 ?_;exact hk _ hj
  | succ i =>
   have n0:(0:Int)<=((i+1:Nat):Int)-1:=Ab
   have e2:((i+1:Nat):Int)-1=(i:Int):=Ab
   obtain⟨x,hx⟩:∃x,l[i]?=some x:=⟨_,zzE Ab⟩;have hel:=qS (f:=c) (m:=4) hm hx;have hlt:i<l.length:=Ab
   have h4:i*4+4<=(l.flatMap c).length:=by rw[qY hm];exact Ab
   have n1:(0:Int)<=(i:Int):=Ab
   have e3:IntKind.wrap .i64 ((i:Int)-1)=(i:Int)-1:=B6
   rw[e2];refine Sa (zzA n1 (zzA hlt (zzA h4 hel))) ?_;refine hy i x _ hx hj _ λh' hj'=>?_
   refine Sa e3 ?_;exact ih i _ _ Ab Am ⟨Ab,hj'⟩
 all_goals simp_all[qj,qn,zz4]
def zb:IFn:=irJ 330 []
def qaa{α:Type}{c:α->List AV}{l:List α}{lb:Nat}(hc:Ck P f zb)(hm:∀x,(c x).length=4)(hn:l.length<=1000000)(J:Nat->Hp->Prop)
  (hy:∀(i:Nat) x h,l[i]?=some x->J (i+1) h->∀k:AV->Hp->Prop,(∀h',J i h'->k (.b true) h')->SY P lb [.j (i:Int),.agg (c x)] h k)
  {s:Nat}{tr:Tr Blk}{k:AV->Hp->Prop}(h0:J l.length ⟨s,0,tr⟩) (hk:∀h,J 0 h->k (.tup []) h):SC P f [.yl lb,.pf [.fz l.length (l.flatMap c)] 0] ⟨s,0,tr⟩ k:=by
 refine Bg ?_;simp only[zb,vI,simprocAttr];have e1:IntKind.wrap .i64 ((l.length:Int)-1)=(l.length:Int)-1:=B6
 refine Sa e1 ?_;refine SL.loopP (α:=Nat) (λi=>[(0,.yl lb),(1,.pf [.fz l.length (l.flatMap c)] 0),(3,.j ((i:Int)-1))]) (λi h=>i<=l.length/\J i h) (λi=>i) ?_ l.length ?_ ?_
 .rintro i h1 ⟨hi,hj⟩ G ih;obtain⟨s',fl',tr'⟩:=h1;refine Ak ?_;cases i with
  | zero =>
   have n0:¬(0:Int)<=((0:Nat):Int)-1:=Ab
   refine Sa n0 ?_;exact hk _ hj
  | succ i =>
   have n0:(0:Int)<=((i+1:Nat):Int)-1:=Ab
   have e2:((i+1:Nat):Int)-1=(i:Int):=Ab
   obtain⟨x,hx⟩:∃x,l[i]?=some x:=⟨_,zzE Ab⟩;have hel:=qS (f:=c) (m:=4) hm hx;have hlt:i<l.length:=Ab
   have h4:i*4+4<=(l.flatMap c).length:=by rw[qY hm];exact Ab
   have n1:(0:Int)<=(i:Int):=Ab
   have e3:IntKind.wrap .i64 ((i:Int)-1)=(i:Int)-1:=B6
   rw[e2];refine Sa (zzA n1 (zzA hlt (zzA h4 hel))) ?_;refine hy i x _ hx hj _ λh' hj'=>?_
   refine Sa e3 ?_;exact ih i _ _ Ab Am ⟨Ab,hj'⟩
 all_goals simp_all[qj,qn,zz4]
def qop{α:Type}{f:α->List AV}{m:Nat}(h:∀x,(f x).length=m){xs:List α}{j:Nat}(x':α)(hj:j<xs.length):(xs.flatMap f).take (j*m)++(f x'++(xs.flatMap f).drop (j*m+m))=(xs.set j x').flatMap f:=by
 have e:xs=xs.take j++xs[j]::xs.drop (j+1):=by rw[List.getElem_cons_drop,List.take_append_drop]
 have e1:(xs.flatMap f).take (j*m)=(xs.take j).flatMap f:=qir h xs j;have e2:(xs.flatMap f).drop (j*m+m)=(xs.drop (j+1)).flatMap f:=by rw[<- qf3 h xs (j+1),Nat.add_mul];simp
 rw[e1,e2,List.set_eq_take_append_cons_drop,if_pos hj];simp
def qrx{l:List Sy}{j:Nat}(y:Sy)(hj:j<l.length):(rSy l).take (j*4)++(cSy y++(rSy l).drop (j*4+4))=rSy (l.set j y):=qop qeZ y hj
def wq(out:List Sy)(j:Nat):Nat:=match out[j]? with|some x=>if x.code=5 then x.th else j|none=>j
def qbH(out:List Sy)(x:Sy):Sy:=if qdH (qbA (wq out) x)/\(qbA (wq out) x).th=(qbA (wq out) x).el then⟨5,0,(qbA (wq out) x).th,0⟩else qbA (wq out) x
def qgS(l:List Sy):Nat->List Sy
 | 0=>l
 | m+1=>match l[l.length-(m+1)]? with|some x=>(qgS l m).set (l.length-(m+1)) (qbH (qgS l m) x)|none=>qgS l m
def qgp{l:List Sy}:∀{m:Nat},(qgS l m).length=l.length
 | 0=>rfl
 | m+1=>by
  unfold qgS;split
  .rw[List.length_set,qgp]
  .exact qgp
def qp2(l:List Sy):List Sy:=qgS l l.length
def qak:IFn:=irJ 273 []
def qp5(hc:Ck P f qak)(out:List Sy)(j:Nat)(hj:j<out.length):qc P f [.j (j:Int),.pf [.fz out.length (rSy out)] 0] (.j ((wq out j:Nat):Int)):=by
 refine Bz ?_;obtain⟨y,hy⟩:∃y,out[j]?=some y:=⟨_,zzE hj⟩;have gc:(rSy out)[j*4]?=some (.h y.code):=qks hy (i:=0) Ab;have gt:(rSy out)[j*4+2]?=some (.j (y.th:Int)):=qks hy (i:=2) Ab;simp only[qak,vI,simprocAttr]
 by_cases h5:y.code=5
 .have e:wq out j=y.th:=by unfold wq;rw[hy];exact Ag
  exact Jq
 .have e:wq out j=j:=by unfold wq;rw[hy];exact Ag
  exact Jq
def qbx(a b c d e:Nat):ICode:=icJ 223 [272,a,273,b,219,c,270,d,274,e] 31
def qdP(a b c d e:Nat):IFn:=irJ 223 [272,a,273,b,219,c,270,d,274,e] [31] [qbx a b c d e]
def thT(gB:Nat)(l:List Sy):List (Nat×AV):=[(3,.ptr 1 0),(4,.ptr 2 0),(11,.fn gB [] [.pf [.fz l.length (rSy l)] 0])]
def thA:ICode:=sq [.reg false [⟨some 5,.op (.mov (.t 12)),none⟩],.reg false [⟨some 6,.op (.alloc [.h 0,.w 0,.j 0,.j 0]),none⟩,⟨none,.op (.store 4 (.t 6) (.t 13)),none⟩]]
def thB(gM gA:Nat):ICode:=.blk 1 (sq [.reg true [.q 14 (.load1 (.t 3)),.m 15 (.t 5),.q 16 (.loadN 4 (.t 6)),.q 17 (.buildS 1 [.h 0,.w 0,.j 0,.j 0] [(0,4,(.t 16))]),.q 18 (.load1 (.t 4)),.l 19 gM [.t 17,.t 18],.q 20 (.iAddrS 4 (.t 19) (.k 0)),.q 21 (.loadN 4 (.t 20)),.q 22 (.iAddrS 4 (.t 14) (.t 15)),.u (.store 4 (.t 22) (.t 21))],.r [.q 23 (.load1 (.t 3)),.m 24 (.t 5),.q 25 (.iAddrS 4 (.t 23) (.t 24)),.q 26 (.loadN 4 (.t 25)),.u (.store 4 (.t 6) (.t 26))],.r [.q 27 (.loadN 4 (.t 6)),.l 28 gA [.t 27],.m 29 (.t 28),.g 30 (.fAddr 2 (.t 6)) 29 true,.g 31 (.load1 (.t 30)) 29 true,.g 32 (.fAddr 3 (.t 6)) 29 true,.g 33 (.load1 (.t 32)) 29 true,.g 34 (.bin .eql (.t 31) (.t 33)) 29 true,.q 35 (.pick (.t 29) (.t 34) (.c (.b false)))],.cond (.t 35) (.r [.q 36 (.load1 (.t 3)),.m 37 (.t 5),.q 38 (.fAddr 2 (.t 6)),.q 39 (.load1 (.t 38)),.q 40 (.build [.h 0,.w 0,.j 0,.j 0] [(0,1,(.c (.h 5))),(2,1,(.t 39))]),.q 41 (.iAddrS 4 (.t 36) (.t 37)),.u (.store 4 (.t 41) (.t 40))]) (.skip)])
def thI(g1:Nat)(r0:Loop)(ts:List (Nat×AV))(n:Nat)(out:List Sy)(s:Nat)(tr:Tr Blk):Prop :=
 out.length=n/\4<=s/\tr.get 0=some (.cells 4 true true (rSy out))/\tr.get 1=some (.v [.own 0 n])/\tr.get 2=some (.v [.fn g1 [] [.ptr 1 0]])/\tr.get 3=some (.map (zV r0 ts))
def qz3{g1 gB gM gA s n:Nat}{r0:Loop}{l out:List Sy}{tr:Tr Blk}{k:AV->Hp->Prop}
  (hM:∀(x:Sy) (out:List Sy),out.length=n->(∀j:Nat,(qbX x/\j=x.th)\/(qdH x/\j=x.el)->j<n)->qjE P gM [.fz 1 (cSy x),.fn g1 [] [.pf [.fz out.length (rSy out)] 0]] (.own 0 1) [.cells 4 true true (cSy (qbA (wq out) x))])
  (hA:qhv P gA) (hr0:r0.state = .ready) (hp0:r0.pending=none) (hlo:LoopOk P r0 [12,13] thA (thB gM gA)) (hI:thI g1 r0 (thT gB l) n out s tr) (i:Nat) (hi:i<n) (x:Sy) (hx:∀j:Nat,(qbX x/\j=x.th)\/(qdH x/\j=x.el)->j<n)
  (hk:∀s' tr',thI g1 r0 (thT gB l) n (out.set i (qbH out x)) s' tr'->k (.b true) ⟨s',0,tr'⟩):SY P 3 [.j (i:Int),.agg (cSy x)] ⟨s,0,tr⟩ k:=by
 obtain⟨hn,h4,h0,h1,h2,h3⟩:=hI;refine SY.mk (r:=r0) (ts:=thT gB l) (ps:=[12,13]) h3 hr0 hlo (zzu _) Ag rfl ?_;rw[show mkT (thT gB l)=((Tr.leaf.set 11 (.fn gB [] [.pf [.fz l.length (rSy l)] 0])).set 4 (.ptr 2 0)).set 3 (.ptr 1 0)from rfl]
 refine qh ?_;simp only[qlg,thA,cSy,vI,simprocAttr];refine Aa ?_;have n3:¬3=s:=Ab
 have n0:¬0=s:=Ab
 have n1:¬1=s:=Ab
 have n2:¬2=s:=Ab
 have m0:¬0=s+1:=Ab
 have m1:¬1=s+1:=Ab
 have m2:¬2=s+1:=Ab
 have m3:¬3=s+1:=Ab
 have q1:¬s=s+1:=Ab
 have q2:¬s=s+1+1:=Ab
 have q3:¬0=s+1+1:=Ab
 have q4:¬1=s+1+1:=Ab
 have q5:¬2=s+1+1:=Ab
 have q6:¬3=s+1+1:=Ab
 have ns3:¬s=3:=Ab
 have ns0:¬s=0:=Ab
 refine⟨thT gB l,Gf,?_⟩
 refine qh ?_;simp only[qI,thB,vI,simprocAttr];refine Aa ?_;refine qX ?_;have e1:¬(0:Nat)=3:=Af
 have e2:¬(1:Nat)=3:=Af
 have e3:¬(2:Nat)=3:=Af
 simp +decide only[↓vS,vT,simprocAttr,h1,h2,e1,e2,e3,n0,n1,n2,ns3,m0,m1,m2,q1]
 have fr0:∀(f2:Nat) (t2:Tr Blk),t2.get (s+1)=some (.v (cSy x))->t2.get 1=some (.v [.own 0 n])->t2.get 0=some (.cells 4 true true (rSy out))->
   Frzs ⟨s+1+1,f2,t2⟩ [.sl (s+1) 0 1 1 false,.fn g1 [] [.ptr 1 0]] [.fz 1 (cSy x),.fn g1 [] [.pf [.fz out.length (rSy out)] 0]]:=λf2 t2 p1 p2 p3=>by
  refine qa8.2 ⟨Frz.cut 4 rfl (zzL _) ?_,qa8.2 ⟨qxS.2 ⟨rfl,qgy.2 trivial,qa8.2 ⟨qxQ.2 ⟨rfl,?_⟩,qgy.2 trivial⟩⟩,qgy.2 trivial⟩⟩
  .rw[p1];simp[vP,cSy,vZ]
  .rw[p2];simp[vP,vZ,p3,hn]
   grind[Frzs.self,zp]
 refine(hM x out hn hx).pc (fr0 _ _ ?_ ?_ ?_) ?_
 .exact Eu
 .rw[zz4,if_neg m1,zz4,if_neg Af,zz4,if_neg n1,zz4,if_neg n1];exact h1
 .rw[zz4,if_neg m0,zz4,if_neg Af,zz4,if_neg n0,zz4,if_neg n0];exact h0
 simp only[vJ,simprocAttr];obtain⟨y,hy⟩:∃y,y=qbA (wq out) x:=⟨_,rfl⟩;have hset:=qrx (l:=out) (j:=i) y Ab;have h44:i*4+4<=(rSy out).length:=by rw[qan];exact Ab
 have hget:(out.set i y)[i]?=some y:=Ae
 have hel:=qgl hget;have h45:i*4+4<=(rSy (out.set i y)).length:=by rw[qan,List.length_set];exact Ab
 have hset2:=qrx (l:=out.set i y) (j:=i) ⟨5,0,y.th,0⟩ (by rw[List.length_set];exact Ab);rw[List.set_set]at hset2;have hin:(i:Nat)<n:=hi;rw[<- hy];simp +decide only[↓vS,vT,simprocAttr,xw zp,h0,e1,e2,e3,n0,n1,n2,ns3,m0,m1,m2,q1,q2,q3,q4,q5,cSy,hin];simp only[cSy,zzC,zzN]at hset hset2 hel;have ha:=hA y;simp only[cSy]at ha;have hi0:i<n:=hi;simp +decide only[↓vS,vT,simprocAttr,h44,hset,h1,e1,e2,e3,n0,n1,n2,ns3,ns0,m0,m1,m2,q1,q2,q3,q4,q5,hi0,h45,hel];refine ha.sc ?_
 have fin:∀(s2:Nat) (t2:Tr Blk) (z:Sy),4<=s2->qbH out x=z->t2.get 0=some (.cells 4 true true (rSy (out.set i z)))->t2.get 1=tr.get 1->t2.get 2=tr.get 2->t2.get 3=some (.map (zV (Go.Kc.bsy r0) (thT gB l)))->∀tt,qFt 3 k .normal tt ⟨s2,0,t2⟩:=by
  intro s2 t2 z p1 p2 p3 p4 p5 p6 tt;refine⟨Go.Kc.bsy r0,thT gB l,p6,?_⟩;rw[qc9,qeM hr0 hp0];simp only[qI];refine Aa ?_;refine hk _ _ ⟨by rw[List.length_set];exact hn,p1,?_,?_,?_,?_⟩
  all_goals grind[Tr.get_set]
 have old:∀(b:Nat) (u1 u2 u3 u4 u5 u6:Blk),b<s->b≠0->b≠3->(((((((tr.set s u1).set s u2).set 3 u3).set (s+1) u4).set (s+1+1) u5).set 0 u6).set s u1).get b=tr.get b:=λb u1 u2 u3 u4 u5 u6 p1 p2 p3=>by
  simp only[zz4];repeat rw[if_neg Ab]
 have s0:¬0=s:=n0
 by_cases h4':qdH y
 .by_cases h5:y.th=y.el
  .have h5':(y.th:Int)=y.el:=Ab
   have he:qbH out x=⟨5,0,y.th,0⟩:=by unfold qbH;rw[<- hy,if_pos ⟨h4',h5⟩]
   have h46:i*4+4<=(rSy (out.set i y)).length:=h45;simp +decide only[↓vS,vT,simprocAttr,h4',eq_true h5',h44,hset,h1,e1,e2,e3,n0,n1,n2,ns3,ns0,m0,m1,m2,q1,q2,q3,q4,q5,hi0,h45,hel,hset2];refine fin _ _ _ Ab he ?_ ?_ ?_ ?_ _
   .rw[zz4,if_pos rfl,<- hset2];rfl
   .simp only[zz4];exact Ag
   .simp only[zz4];exact Ag
   .simp only[zz4];rw[if_neg Ab,if_neg Ab,if_neg Ab,if_neg Ab,if_neg Ab];simp
  .have h5':¬(y.th:Int)=y.el:=Ab
   have he:qbH out x=y:=by unfold qbH;rw[<- hy,if_neg λh=>h5 h.2]
   simp +decide only[↓vS,vT,simprocAttr,h4',h5',h44,hset,h1,e1,e2,e3,n0,n1,n2,ns3,ns0,m0,m1,m2,q1,q2,q3,q4,q5,hi0,h45,hel];refine fin _ _ _ Ab he ?_ ?_ ?_ ?_ _
   .rw[zz4,if_neg n0,zz4,if_pos rfl]
   .simp only[zz4];repeat rw[if_neg Ab]
   .simp only[zz4];repeat rw[if_neg Ab]
   exact A5
 .have he:qbH out x=y:=by unfold qbH;rw[<- hy,if_neg λh=>h4' h.1]
  simp +decide only[↓vS,vT,simprocAttr,h4',h44,hset,h1,e1,e2,e3,n0,n1,n2,ns3,ns0,m0,m1,m2,q1,q2,q3,q4,q5,hi0,h45,hel];refine fin _ _ _ Ab he ?_ ?_ ?_ ?_ _
  .rw[zz4,if_neg n0,zz4,if_pos rfl]
  .simp only[zz4];repeat rw[if_neg Ab]
  .simp only[zz4];repeat rw[if_neg Ab]
  exact A5
def qrS{n0 g1 g2 g3 g4 g5 s n:Nat}{tr:Tr Blk}{t:Tr AV}{out:List Sy}(ht:t.get 3=some (.ptr 1 0))(h1:tr.get 1=some (.v [.own 0 n]))(h0:tr.get 0=some (.cells 4 true true (rSy out)))(hn:out.length=n) :
  S P n0 (qbx g1 g2 g3 g4 g5) (zQ [.tmp 2] λv' h'=>Frz h' v' (.fz n (rSy out))) t ⟨s,0,tr⟩:=by
 refine S.has [(3,.ptr 1 0)] (by grind[qj,qn]) (qh ?_);simp only[qbx,vI,simprocAttr];refine Sb h1 ?_;simp[vZ,vP,zz4,h0];refine⟨λh=>?_,Frzs.self zp⟩
 rw[List.eq_nil_of_length_eq_zero (hn.trans h)];rfl
def qn2{gC g1 gB gM gA gi h1 h2 h3:Nat}(hc:Ck P f (qdP gC g1 gB gM gA))(c0:qb2 P gC 4 24)(hc1:Ck P g1 qak)(hB:∀l:List Sy,qc P gB [.fz l.length (rSy l)] (.fn gi [] [.pf [.fz l.length (rSy l)] 0]))
  (hi:Ck P gi qT) (hM:Ck P gM (wD h1 h2 h3)) (c1:qb2 P h1 4 24) (c2:cOf P h2) (c3:qhv P h3) (hA:qhv P gA) (l:List Sy) (hl:l.length<=200000) (hin:qn3 l) :
  qc P f [.fz l.length (rSy l)] (.fz (qp2 l).length (rSy (qp2 l))):=by
 have hMo:∀(x:Sy) (out:List Sy),out.length=l.length->(∀j:Nat,(qbX x/\j=x.th)\/(qdH x/\j=x.el)->j<l.length)->qjE P gM [.fz 1 (cSy x),.fn g1 [] [.pf [.fz out.length (rSy out)] 0]] (.own 0 1) [.cells 4 true true (cSy (qbA (wq out) x))]:=by
  intro x out ho hx
  have:=qvz (gt:=g1) (caps:=[.pf [.fz out.length (rSy out)] 0]) hM c1 c2 c3 [x] (by simp) (wq out) λy hy j hj=>by
   rw[zz1]at hy;subst hy;exact qp5 hc1 out j (by rw[ho];exact Ae)
  simpa[rSy]using this
 refine Bz ?_;simp only[qdP,vI,simprocAttr];refine Aa ?_;refine(c0 l.length (rSy l) qan zp qzE (by simp only[qe];exact Ab) (by simp only[qe];exact Ab)).sc ?_;simp only[vJ,simprocAttr];simp +decide only[↓vS,vT,simprocAttr,xw zp];refine(hB l).sc ?_;refine Aa ?_;refine S.rangeFL (ts:=thT gi l) (zzu _) (by intro p hp;simp only[thT,zzc,List.not_mem_nil,or_false]at hp;rcases hp with rfl|rfl|rfl<;>simp[zz4]) ⟨rfl,rfl⟩ ?_;refine qjR.2 ⟨.fn gi [] [.pf [.fz l.length (rSy l)] 0],Be,?_⟩
 refine⟨qdi hi,λr0 hr0 hp0 hlo=>⟨r0,.inl ⟨rfl,hlo.real⟩,?_⟩⟩
 have hlo:LoopOk P r0 [12,13] thA (thB gM gA):=hlo;refine x8 (c:=cSy) hi qeZ Ab (λi h=>∃s tr,h=⟨s,0,tr⟩/\thI g1 r0 (thT gi l) l.length (qgS l (l.length-i)) s tr/\i<=l.length) ?_ ?_ ?_
 .rintro i x h hx ⟨s,tr,rfl,hI,hil⟩ k hk;have hi':i<l.length:=Ab
  refine qz3 hMo hA hr0 hp0 hlo hI i hi' x (hin x Ag) λs' tr' hI'=>hk _ ⟨s',tr',rfl,?_,Ab⟩
  have e:l.length-i=(l.length-(i+1))+1:=Ab
  have e2:l.length-(l.length-(i+1)+1)=i:=Ab
  have e3:qgS l (l.length-i)=(qgS l (l.length-(i+1))).set i (qbH (qgS l (l.length-(i+1))) x):=by
   rw[e,qgS,e2,hx]
  rw[e3];exact Ab
 .refine⟨_,_,rfl,⟨qgp,by simp,?_,?_,?_,?_⟩,zzL _⟩<;>simp[zz4,qj1,Hp.push,qgS,xw zp]
 .rintro h ⟨s,tr,rfl,⟨hn,h4,q0,q1,q2,q3⟩,_⟩;rw[Nat.sub_zero]at q0;refine⟨r0,thT gi l,q3,by rw[hr0];exact Af,?_⟩
  rw[hp0];simp only[qI];refine Ac ?_;have e:(qp2 l).length=l.length:=qgp;rw[e];refine qrS Be ?_ ?_ qgp
  .rw[zz4,if_neg Af];exact q1
  .rw[zz4,if_neg Af];exact q0
def rBo(l:List Bool):List AV:=l.map .b
def qml{l:List Bool}:(rBo l).length=l.length:=by simp[rBo]
def qpK{l:List Bool}{j:Nat}:(rBo l)[j]?=(l[j]?).map .b:=by simp[rBo]
def qzy{l:List Bool}:qt (rBo l)=true:=qdg λ_=>rfl
def qmm{l:List Bool}{j:Nat}(hj:j<l.length):(rBo l).take j ++ .b true::(rBo l).drop (j+1)=rBo (l.set j true):=by
 rw[List.set_eq_take_append_cons_drop,if_pos hj];simp[rBo,List.map_take,List.map_drop]
def qfU(A:List Bool)(j:Nat)(x:Sy):List Bool :=
 if A[j]?≠some true\/x.code=6 then A else if ql x.code≠4 then A.set (j+1) true else if qdH x then(A.set x.th true).set x.el true else A.set x.th true
def kl(l:List Sy):Nat->List Bool
 | 0=>(List.replicate l.length false).set 0 true
 | m+1=>match l[m]? with|some x=>qfU (kl l m) m x|none=>kl l m
def qwr{A:List Bool}{j:Nat}{x:Sy}:(qfU A j x).length=A.length:=by
 unfold qfU;exact Ag
def qbZ{l:List Sy}:∀{m:Nat},(kl l m).length=l.length
 | 0=>by simp[kl]
 | m+1=>by
  unfold kl;split
  .rw[qwr,qbZ]
  .exact qbZ
def xi(l:List Sy):List Bool:=kl l l.length
def qDr(l:List Sy):Prop:=∀(j:Nat) x,l[j]?=some x->x.code≠6->ql x.code≠4->j+1<l.length
def qgD(a b:Nat):IFn:=irJ 275 [112,a,274,b]
def qrY{g1 g2:Nat}(hc:Ck P f (qgD g1 g2))(h1:cOf P g1)(h2:qhv P g2)(l:List Sy)(hl:l.length<=200000)(h0:0<l.length)(hin:qn3 l)(hon:qDr l):qc P f [.fz l.length (rSy l)] (.fz l.length (rBo (xi l))):=by
 refine Bz ?_;have r1:l.length<=qe:=by simp only[qe];exact Ab
 have r2:1*l.length<=qe:=Ab
 have hz:(List.replicate l.length [AV.b false]).flatten=rBo (List.replicate l.length false):=by simp[rBo]
 have hz0:=qmm (l:=List.replicate l.length false) (j:=0) Ae;have hzl:0+1<=(rBo (List.replicate l.length false)).length:=by rw[qml];exact Ag
 rw[List.take_zero,zzN]at hz0;simp only[qgD,vI,simprocAttr];simp +decide only[↓vS,vT,simprocAttr,r1,r2,hz,h0,Nat.one_mul,Nat.zero_mul,hzl,hz0]
 refine SL.loopP (α:=Nat) (λi=>[(3,.sl 0 0 l.length l.length false),(11,.fz l.length (rSy l)),(12,.j (l.length:Int)),(13,.j (i:Int))])
  (λi h=>i<=l.length/\∃s tr,h=⟨s,0,tr⟩/\1<=s/\tr.get 0=some (.v (rBo (kl l i)))) (λi=>l.length-i) ?_ 0 ?_ ?_
 .rintro i h1' ⟨hi,s,tr,rfl,hs,t0⟩ G ih;refine Ak ?_
  by_cases hlt:i<l.length
  .have hlt':(i:Int)<l.length:=Ab
   obtain⟨x,hx⟩:∃x,l[i]?=some x:=⟨_,zzE hlt⟩;have hel:=qgl hx;have h4:i*4+4<=(rSy l).length:=by rw[qan];exact Ab
   have hw1:=wS i;have n0:¬0=s:=Ab
   have n0s:¬s=0:=Ab
   have hAl:(kl l i).length=l.length:=qbZ;obtain⟨b,hb⟩:∃b,(kl l i)[i]?=some b:=⟨_,zzE Ab⟩;have hgb:(rBo (kl l i))[i]?=some (.b b):=by rw[qpK,hb];rfl
   have hst:kl l (i+1)=qfU (kl l i) i x:=by rw[kl,hx]
   have fin:∀(t2:Tr Blk) tt,t2.get 0=some (.v (rBo (kl l (i+1))))->Has tt [(3,.sl 0 0 l.length l.length false),(11,.fz l.length (rSy l)),(12,.j (l.length:Int)),(13,.j ((i+1:Nat):Int))]->G tt ⟨s+1,0,t2⟩:=Ag
   have ha:=h2 x;simp only[cSy]at ha;have sl:∀(A:List Bool) (j:Nat),A.length=l.length->j<l.length->j+1<=(rBo A).length:=λA j h1 h2=>by rw[qml];exact Ab
   cases b with
   | false =>
    have e:qfU (kl l i) i x=kl l i:=by unfold qfU;exact Ef
    rw[hst,e]at fin;simp +decide only[↓vS,vT,simprocAttr,hlt',hlt,h4,hel,cSy,n0,t0,hgb,zzU,hw1];exact fin _ _ A5 Am
   | true =>
    by_cases h6:x.code=6
    .have e:qfU (kl l i) i x=kl l i:=by unfold qfU;exact Ag
     rw[hst,e]at fin;simp +decide only[↓vS,vT,simprocAttr,hlt',hlt,h4,hel,cSy,n0,t0,hgb,zzU,hw1,eq_true h6];exact fin _ _ A5 Am
    .simp +decide only[↓vS,vT,simprocAttr,hlt',hlt,h4,hel,cSy,n0,t0,hgb,zzU,hw1,h6];refine(h1 x.code).sc ?_
     by_cases hj:ql x.code=4
     .have hth:=hin x Ag x.th (.inl ⟨hj,rfl⟩);have b1:=qmm (l:=kl l i) (j:=x.th) Ab;have b2:=sl (kl l i) x.th hAl hth;simp +decide only[↓vS,vT,simprocAttr,hj,n0,n0s,t0,hth,b1,b2,zzU];refine ha.sc ?_
      by_cases hk:qdH x
      .have hel2:=hin x Ag x.el Ag;have b3:=qmm (l:=(kl l i).set x.th true) (j:=x.el) (by rw[List.length_set];exact Ab);have b4:=sl ((kl l i).set x.th true) x.el (by rw[List.length_set];exact Ab) hel2;have e:qfU (kl l i) i x=((kl l i).set x.th true).set x.el true:=by unfold qfU;exact Ag
       rw[hst,e]at fin;simp +decide only[↓vS,vT,simprocAttr,hk,n0,n0s,hel2,b3,b4,zzU,hw1];exact fin _ _ Bu Am
      .have e:qfU (kl l i) i x=(kl l i).set x.th true:=by unfold qfU;exact Ag
       rw[hst,e]at fin;refine Sa (zzA hk hw1) ?_;exact fin _ _ Bu Am
     .have hnx:=hon i x hx h6 hj;have b1:=qmm (l:=kl l i) (j:=i+1) Ab;have b2:=sl (kl l i) (i+1) hAl hnx;have e:qfU (kl l i) i x=(kl l i).set (i+1) true:=by unfold qfU;exact Ag
      rw[hst,e]at fin;simp +decide only[↓vS,vT,simprocAttr,hj,n0,t0,hnx,b1,b2,zzU,hw1];exact fin _ _ Bu Am
  .obtain rfl:i=l.length:=Ab
   have hlt':¬((l.length:Int)<l.length):=Ab
   refine Sa hlt' ?_;have hAl:(kl l l.length).length=l.length:=qbZ;show Frz _ _ _;refine Frz.cut 1 rfl (zzL _) ?_;rw[t0];simp[vP,qml,hAl];rw[zzt (by rw[qml,hAl];exact Ab)];exact Frzs.self qzy
 .exact Am
 .refine⟨zzu _,_,_,rfl,Ab,?_⟩
  simp[zz4,kl]
def xQ(A:List Bool)(j:Nat):Nat:=(A.take j).countP (· = true)
def rPl(A:List Bool)(n:Nat):List AV:=(List.range n).map λj=>.j (xQ A j:Int)
theorem qpO{A:List Bool}{n:Nat}:(rPl A n).length=n:=by simp[rPl]
def qtT{A:List Bool}{n j:Nat}(h:j<n):(rPl A n)[j]?=some (.j (xQ A j:Int)):=by simp[rPl,h]
def qf1{A:List Bool}{j:Nat}{b:Bool}(h:A[j]?=some b):xQ A (j+1)=xQ A j+if b=true then 1 else 0:=by
 unfold xQ;rw[qbW h,List.countP_append];cases b<;>simp
def qpp{A:List Bool}{j:Nat}:xQ A j<=j:=by
 unfold xQ;grind[List.length_take]
def qdC{α:Type}:List Bool->List α->List α
 | b::A,x::l=>if b=true then x::qdC A l else qdC A l
 | _,_=>[]
def qoV{α:Type}:∀{A:List Bool}{l:List α}{j:Nat}{b:Bool}{x:α},A[j]?=some b->l[j]?=some x->qdC (A.take (j+1)) (l.take (j+1))=qdC (A.take j) (l.take j)++if b=true then [x]else []
 | [],_,_,_,_,h,_=>Ag
 | _::_,[],_,_,_,_,h=>Ag
 | c::A,y::l,0,b,x,h1,h2=>by
  simp at h1 h2;subst h1 h2;cases c<;>simp[qdC]
 | c::A,y::l,j+1,b,x,h1,h2=>by
  have:=qoV (A:=A) (l:=l) (j:=j) (b:=b) (x:=x) Ae Ae;rw[List.take_succ_cons,List.take_succ_cons,List.take_succ_cons,List.take_succ_cons];simp only[qdC,this];cases c<;>simp
def qrG{α:Type}:∀{A:List Bool}{l:List α},A.length=l.length->(qdC A l).length=A.countP (· = true)
 | [],[],_=>rfl
 | b::A,x::l,h=>by
  have:=qrG (A:=A) (l:=l) Ae;cases b<;>simp[qdC,this]
 | [],_::_,h=>Ag
 | _::_,[],h=>Ag
def qh6(l:List Sy):List Sy:=qdC (xi l) (l.map (qbA (xQ (xi l))))
def qdR(n b:Nat):AV:=if n=0 then .nils else .own b n
def qbl:IFn:=irJ 276 []
def qcX(a b c:Nat):ICode:=icJ 224 [275,a,276,b,270,c] 63
def qfu(a b c:Nat):IFn:=irJ 224 [275,a,276,b,270,c] [63] [qcX a b c]
def qvu{n0 g1 g2 g3 h1 h2 h3 s:Nat}{tr:Tr Blk}{t:Tr AV}(hc1:Ck P g2 qbl)(hc3:Ck P g3 (wD h1 h2 h3))(c1:qb2 P h1 4 24)(c2:cOf P h2)(c3:qhv P h3)(l:List Sy)(hl:l.length<=200000)(hin:qn3 l)
  (hs:2<=s) (t0:tr.get 0=some (.v (rPl (xi l) l.length))) (t1:tr.get 1=some (.v [.sl 0 0 l.length l.length false]))
  (ht:Has t [(0,.fz l.length (rSy l)),(3,.fz l.length (rBo (xi l))),(4,.ptr 1 0)]) :
  S P n0 (qcX g1 g2 g3) (zQ [.tmp 2] λv' h'=>Frz h' v' (.fz (qh6 l).length (rSy (qh6 l)))) t ⟨s,0,tr⟩:=by
 have hAl:(xi l).length=l.length:=qbZ;refine Ff ?_;simp only[qcX,vI,simprocAttr];refine Aa ?_;refine qnh hc3 c1 c2 c3 l hl (zzu _) (xQ (xi l)) (λx hx j hj s' tr' k' hs' hold hk'=>?_) λs' tr' bm hs' hold hb1 hb2 hg=>?_
 .have hjl:=hin x hx j hj;have g0:=(hold 0 Ab).trans t0;have g1:=(hold 1 Ab).trans t1;have gp:=qtT (A:=xi l) hjl;refine SC.mk hc1 (qh ?_);simp only[qbl,vI,simprocAttr];simp +decide only[↓vS,vT,simprocAttr,g0,g1,gp,hjl,zzU];exact Ab
 obtain⟨M,hM⟩:∃M,M=l.map (qbA (xQ (xi l))):=⟨_,rfl⟩;have hMl:M.length=l.length:=by rw[hM];simp
 have hliv:qh6 l=qdC (xi l) M:=by rw[hM];rfl
 rw[<- hM]at hg;refine Aa ?_
 refine SL.loopP (α:=Nat×Nat) (λi=>[(3,.fz l.length (rBo (xi l))),(7,qdR (xQ (xi l) i.1) i.2),(33,.own bm l.length),(34,.j (l.length:Int)),(35,.j (i.1:Int))])
  (λi h=>i.1<=l.length/\∃s2 t2,h=⟨s2,0,t2⟩/\bm<s2/\t2.get bm=some (.cells 4 true true (rSy M))/\(xQ (xi l) i.1≠0->t2.get i.2=some (.cells 4 true true (rSy (qdC ((xi l).take i.1) (M.take i.1))))/\i.2<s2/\i.2≠bm)) (λi=>l.length-i.1) ?_ (0,0) ?_ ?_
 .rintro⟨i,bo⟩ h1 ⟨hi,s2,t2,rfl,hb,gm,go⟩ G ih;simp only at hi go;refine Ak ?_;have hsel:(qdC ((xi l).take i) (M.take i)).length=xQ (xi l) i:=qrG Ag
  by_cases hlt:i<l.length
  .have hlt':(i:Int)<l.length:=Ab
   obtain⟨x,hx⟩:∃x,M[i]?=some x:=⟨_,zzE Ab⟩;obtain⟨b,hbb⟩:∃b,(xi l)[i]?=some b:=⟨_,zzE Ab⟩;have hgb:(rBo (xi l))[i]?=some (.b b):=by rw[qpK,hbb];rfl
   have hel:=qgl hx;have h4:i*4+4<=(rSy M).length:=by rw[qan];exact Ab
   have hw1:=wS i;have hsn:=qoV hbb hx;have hcn:=qf1 hbb;have n1:¬bm=s2:=Ab
   have n2:¬s2=s2+1:=Ab
   have n3:¬s2+1=s2:=Ab
   have n4:¬bm=s2+1:=Ab
   have n5:¬bm=s2+1+1:=Ab
   have hci:=qpp (A:=xi l) (j:=i);cases b with
   | false =>
    simp at hcn hsn;simp +decide only[↓vS,vT,simprocAttr,hlt',hlt,h4,hel,cSy,gm,hgb,n1,zzU,hw1];refine ih (i+1,bo) _ _ (by simp only;exact Ab) ?_ ⟨by simp only;exact Ab,s2+1,_,rfl,Ab,?_,λh0=>?_⟩
    .simp only[hcn];exact Am
    all_goals grind[Tr.get_set]
   | true =>
    simp at hcn hsn
    by_cases hz:xQ (xi l) i=0
    .have hV:qdR (xQ (xi l) i) bo = .nils:=E4
     have hnil:qdC ((xi l).take i) (M.take i)=[]:=Ag
     rw[hV];simp +decide only[↓vS,vT,simprocAttr,hlt',hlt,h4,hel,cSy,gm,hgb,n1,n2,n3,zzU,hw1];refine ih (i+1,s2+1+1) _ _ Ab ?_ ⟨Ab,s2+1+1+1,_,rfl,Ab,?_,λh0=>⟨?_,Ab,Ab⟩⟩
     .have e:qdR (xQ (xi l) (i+1)) (s2+1+1) = .own (s2+1+1) 1:=by rw[hcn,hz];rfl
      simp only[e];exact Am
     .exact A5
     .simp only[zz4];rw[hsn,hnil];simp[rSy,cSy]
    .obtain⟨q1,q2,q3⟩:=go hz;have hV:qdR (xQ (xi l) i) bo = .own bo (xQ (xi l) i):=E4
     rw[hV];have n6:¬bo=s2:=Ab
     have n7:¬bo=s2+1:=Ab
     have n8:¬s2+1=bo:=Ab
     have hr1:xQ (xi l) i+1<=qe:=by simp only[qe];exact Ab
     have hr2:(xQ (xi l) i+1)*24<=qe:=by simp only[qe];exact Ab
     have hql:(rSy (qdC ((xi l).take i) (M.take i))).length=xQ (xi l) i*4:=by rw[qan,hsel]
     simp +decide only[↓vS,vT,simprocAttr,hlt',hlt,h4,hel,cSy,gm,hgb,n1,n2,n3,n6,n7,n8,q1,hr1,hr2,hql,zzU,hw1];refine ih (i+1,s2+1+1) _ _ Ab ?_ ⟨Ab,s2+1+1+1,_,rfl,Ab,?_,λh0=>⟨?_,Ab,Ab⟩⟩
     .have e:qdR (xQ (xi l) (i+1)) (s2+1+1) = .own (s2+1+1) (xQ (xi l) i+1):=by rw[hcn];simp[qdR]
      simp only[e];exact Am
     .exact A5
     .simp only[zz4];rw[hsn,<- qtV];simp[rSy,cSy]
  .obtain rfl:i=l.length:=Ab
   have hlt':¬((l.length:Int)<l.length):=Ab
   have e1:(xi l).take l.length=xi l:=Ag
   have e2:M.take l.length=M:=Ag
   rw[e1,e2]at hsel go;refine Sa hlt' ?_;rw[hliv]
   by_cases hz:xQ (xi l) l.length=0
   .have hV:qdR (xQ (xi l) l.length) bo = .nils:=E4
    have hnil:qdC (xi l) M=[]:=Ag
    rw[hV,hnil];exact .nilz
   .obtain⟨q1,q2,q3⟩:=go hz;have hV:qdR (xQ (xi l) l.length) bo = .own bo (xQ (xi l) l.length):=E4
    rw[hV];show Frz _ _ _;refine qxP.2 ⟨hsel.symm,?_⟩;rw[q1];simp[vP,hz];exact Frzs.self zp
 .have e:qdR (xQ (xi l) 0) 0 = .nils:=by simp[qdR,xQ]
  simp_all[qj,qn,zz4]
 .exact⟨zzu _,s',tr',rfl,hb2,hg,λh=>absurd (by simp[xQ]) h⟩
def qrd{g1 g2 g3 h1 h2 h3:Nat}(hc:Ck P f (qfu g1 g2 g3))(hc1:Ck P g2 qbl)(hc3:Ck P g3 (wD h1 h2 h3))(c1:qb2 P h1 4 24)(c2:cOf P h2)(c3:qhv P h3)(l:List Sy)(ha:qc P g1 [.fz l.length (rSy l)] (.fz l.length (rBo (xi l))))
  (hl:l.length<=200000) (hin:qn3 l):qc P f [.fz l.length (rSy l)] (.fz (qh6 l).length (rSy (qh6 l))):=by
 have hAl:(xi l).length=l.length:=qbZ;refine Bz ?_;have r1:l.length<=qe:=by simp only[qe];exact Ab
 have r2:8*l.length<=qe:=by simp only[qe];exact Ab
 simp only[qfu,vI,simprocAttr];refine Aa ?_;refine ha.sc ?_;refine Sa (zzA r1 r2) ?_
 refine SL.loopP (α:=Nat) (λi=>[(0,.fz l.length (rSy l)),(3,.fz l.length (rBo (xi l))),(4,.ptr 1 0),(5,.j (xQ (xi l) i:Int)),(16,.j (l.length:Int)),(17,.j (i:Int))])
  (λi h=>i<=l.length/\∃s tr,h=⟨s,0,tr⟩/\2<=s/\tr.get 0=some (.v ((rPl (xi l) l.length).take i++List.replicate (l.length-i) (.j 0)))/\tr.get 1=some (.v [.sl 0 0 l.length l.length false])) (λi=>l.length-i) ?_ 0 ?_ ?_
 .rintro i h1' ⟨hi,s,tr,rfl,hs,t0,t1⟩ G ih;refine Ak ?_
  by_cases hlt:i<l.length
  .have hlt':(i:Int)<l.length:=Ab
   obtain⟨b,hbb⟩:∃b,(xi l)[i]?=some b:=⟨_,zzE Ab⟩;have hgb:(rBo (xi l))[i]?=some (.b b):=by rw[qpK,hbb];rfl
   have hcn:=qf1 hbb;have hci:=qpp (A:=xi l) (j:=i);have hw1:=wS i;have hw2:IntKind.wrap .i64 ((xQ (xi l) i:Int)+1)=((xQ (xi l) i+1:Nat):Int):=by rw[qC Ab Ab];simp
   have hfill:=qnA (n:=l.length) (z:=.j 0) qpO (qtT (A:=xi l) hlt);have hb4:i+1<=((rPl (xi l) l.length).take i++List.replicate (l.length-i) (AV.j 0)).length:=by grind[qpO]
   cases b with
   | false =>
    simp at hcn;simp +decide only[↓vS,vT,simprocAttr,hlt',hlt,t0,t1,hgb,hb4,hfill,zzU,hw1];refine ih (i+1) _ _ Ab ?_ A5;rw[hcn];exact Am
   | true =>
    simp at hcn;simp +decide only[↓vS,vT,simprocAttr,hlt',hlt,t0,t1,hgb,hb4,hfill,zzU,hw1,hw2];refine ih (i+1) _ _ Ab ?_ A5;rw[hcn];exact Am
  .obtain rfl:i=l.length:=Ab
   have hlt':¬((l.length:Int)<l.length):=Ab
   refine Sa hlt' ?_;refine qvu hc1 hc3 c1 c2 c3 l hl hin hs ?_ t1 ?_
   all_goals grind[qpO,qj,qn,Tr.get_set]
 .simp[qj,qn,zz4,xQ]
 .refine⟨zzu _,_,_,rfl,Ab,?_,?_⟩<;>simp[zz4]
def qE6(P:Program)(g:Nat)(l m:List Sy):Prop:=qc P g [.fz l.length (rSy l)] (.fz m.length (rSy m))
def qhU(a:Nat):IFn:=irJ 164 [218,a]
def qCv{gM a b c:Nat}(hc:Ck P f (qhU gM))(l0 l1 l2 l3:List Sy)(hm:qc P gM [.fz l0.length (rSy l0)] (.b true))(h1:qE6 P a l0 l1)(h2:qE6 P b l1 l2)(h3:qE6 P c l2 l3) :
  qc P f [.fz l0.length (rSy l0),.fz 3 [.fn a [] [],.fn b [] [],.fn c [] []]] (.tup [.fz l3.length (rSy l3),.j 0]):=by
 refine Bz ?_;simp only[qhU,vI,simprocAttr];refine Aa ?_;refine hm.sc ?_;refine Aa ?_
 refine SL.loopP (α:=Nat) (λi=>[(0,match i with|0=>.fz l0.length (rSy l0)|1=>.fz l1.length (rSy l1)|2=>.fz l2.length (rSy l2)|_=>.fz l3.length (rSy l3)),(11,.fz 3 [.fn a [] [],.fn b [] [],.fn c [] []]),(12,.j 3),(13,.j (i:Int))])
  (λi h=>i<=3/\h.fl=0) (λi=>3-i) ?_ 0 ?_ ?_
 .rintro i ⟨s,fl,tr⟩ ⟨hi,rfl⟩ G ih;refine Ak ?_;have hi4:i=0\/i=1\/i=2\/i=3:=Ab
  rcases hi4 with rfl|rfl|rfl|rfl
  .refine Aa ?_;refine h1.sc ?_;refine Aa ?_;exact ih 1 _ _ Ab (by simp[qj,qn,zz4];exact Af) ⟨Ab,rfl⟩
  .refine Aa ?_;refine h2.sc ?_;refine Aa ?_;exact ih 2 _ _ Ab (by simp[qj,qn,zz4];exact Af) ⟨Ab,rfl⟩
  .refine Aa ?_;refine h3.sc ?_;refine Aa ?_;exact ih 3 _ _ Ab (by simp[qj,qn,zz4];exact Af) ⟨Ab,rfl⟩
  .refine Aa ?_;simp[vZ,qP zp]
 all_goals simp_all[qj,qn,zz4]
def qfv(a b c:Nat):IFn:=irJ 163 [222,a,223,b,224,c]
def qrs{a b c:Nat}(hc:Ck P f (qfv a b c)):qc P f [] (.agg [.fn a [] [],.fn b [] [],.fn c [] []]):=by
 refine Al ?_;simp only[qfv,vI,simprocAttr];refine Aa ?_;exact Fg
def qjl(a b:Nat):IFn:=irJ 101 [163,a,164,b]
def qzi{g1 g2 a b c:Nat}(hc:Ck P f (qjl g1 g2))(h1:qc P g1 [] (.agg [.fn a [] [],.fn b [] [],.fn c [] []]))(l m:List Sy)(h2:qc P g2 [.fz l.length (rSy l),.fz 3 [.fn a [] [],.fn b [] [],.fn c [] []]] (.tup [.fz m.length (rSy m),.j 0])) :
  qc P f [.fz l.length (rSy l)] (.tup [.fz m.length (rSy m),.j 0]):=by
 refine Bz ?_;simp only[qjl,vI,simprocAttr];refine Aa ?_;refine h1.sc ?_;refine Aa ?_;refine h2.give [(0,.v [.fn a [] [],.fn b [] [],.fn c [] []])] ?_ (by simp[qt,clo,zp]) ?_ ?_
 .exact A5
 .refine qa8.2 ⟨Frz.self (by simp[clo,zp]),qa8.2 ⟨Frz.cut 1 rfl (zzL _) ?_,qgy.2 trivial⟩⟩;simp[trP,zz4,vP,vZ]
 .refine Sa (zzA @zw (zzA @zY @qI)) ?_;simp[vZ,vP,qP zp]
def qhm(p:List Ins)(i:Nat):List Ins:=p.mapIdx λt x=>if t<i\/p.length-i<=t then p.getD (p.length-1-t) x else x
theorem qdA{p:List Ins}{i:Nat}:(qhm p i).length=p.length:=by simp[qhm]
theorem qkA{p:List Ins}{i t:Nat}:(qhm p i)[t]?=(p[t]?).map λx=>if t<i\/p.length-i<=t then p.getD (p.length-1-t) x else x:=by simp[qhm]
def qHn{p:List Ins}:qhm p 0=p:=Jj
def qzK{p:List Ins}{i:Nat}(h:p.length<=2*i+1):qhm p i=p.reverse:=Jj
def qvY{p:List Ins}{i:Nat}{x y:Ins}(h:2*i+1<p.length)(hx:(qhm p i)[i]?=some x)(hy:(qhm p i)[p.length-1-i]?=some y):((qhm p i).set i y).set (p.length-1-i) x=qhm p (i+1):=by
 rw[qkA,zzE Ab]at hx hy;simp only[zza,Option.some.injEq]at hx hy;rw[if_neg Ab]at hx hy;apply List.ext_getElem?;grind[qdA,qkA]
def qtR{T:List Ins}{j:Nat}{x:Ins}(h:T[j]?=some x):((rP T).drop (j*4)).take 4=qD x:=qS xf h
def qtS{l:List Ins}{j:Nat}(y:Ins)(hj:j<l.length):(rP l).take (j*4)++(qD y++(rP l).drop (j*4+4))=rP (l.set j y):=qop xf y hj
def xt:IFn:=irJ 161 []
def qsD(hc:Ck P f xt){s b:Nat}{tr:Tr Blk}(p:List Ins)(hp:p.length<=1000000){k:AV->Hp->Prop}(hb:tr.get b=some (.cells 4 true true (rP p)))(hk:∀tr',(∀c,c≠b->tr'.get c=tr.get c)->tr'.get b=some (.cells 4 true true (rP p.reverse))->k (.tup []) ⟨s,0,tr'⟩) :
  SC P f [.own b p.length] ⟨s,0,tr⟩ k:=by
 refine Bg ?_;have e1:IntKind.wrap .i64 ((p.length:Int)-1)=(p.length:Int)-1:=B6
 simp only[xt,vI,simprocAttr];refine Sa e1 ?_
 refine SL.loopP (α:=Nat) (λi=>[(0,.own b p.length),(2,.j (i:Int)),(3,.j ((p.length:Int)-1-i))])
  (λi h=>2*i<=p.length/\∃tr',h=⟨s,0,tr'⟩/\(∀c,c≠b->tr'.get c=tr.get c)/\tr'.get b=some (.cells 4 true true (rP (qhm p i)))) (λi=>p.length-i) ?_ 0 ?_ ?_
 .rintro i h1 ⟨hi,tr',rfl,hold,hrow⟩ G ih;refine Ak ?_
  by_cases hlt:2*i+1<p.length
  .have hlt':(i:Int)<(p.length:Int)-1-i:=Ab
   have ej:(p.length:Int)-1-i=((p.length-1-i:Nat):Int):=Ab
   obtain⟨x,hx⟩:∃x,(qhm p i)[i]?=some x:=⟨_,zzE (by rw[qdA];exact Ab)⟩;obtain⟨y,hy⟩:∃x,(qhm p i)[p.length-1-i]?=some x:=⟨_,zzE (by rw[qdA];exact Ab)⟩;have hst:=qvY hlt hx hy;have elx:=qtR hx;have ely:=qtR hy;have lx:i*4+4<=(rP (qhm p i)).length:=by rw[qdS,qdA];exact Ab
   have ly:(p.length-1-i)*4+4<=(rP (qhm p i)).length:=by rw[qdS,qdA];exact Ab
   have lx2:i<p.length:=Ab
   have ly2:p.length-1-i<p.length:=Ab
   have s1:=qtS (l:=qhm p i) (j:=i) y (by rw[qdA];exact Ab);have s2:=qtS (l:=(qhm p i).set i y) (j:=p.length-1-i) x (by rw[List.length_set,qdA];exact Ab);rw[hst]at s2;have ly3:(p.length-1-i)*4+4<=(rP ((qhm p i).set i y)).length:=by rw[qdS,List.length_set,qdA];exact Ab
   simp only[qD,zzC,zzN]at s1 s2 elx ely;have w1:=wS i;have w2:IntKind.wrap .i64 (((p.length-1-i:Nat):Int)-1)=(p.length:Int)-1-((i+1:Nat):Int):=by rw[qC Ab Ab];exact Ab
   rw[ej]at hlt' ⊢;refine Sa hlt' ?_;refine qX ?_;simp +decide only[↓vS,vT,simprocAttr,lx2,ly2,hrow,elx,ely,lx,ly,s1,ly3,s2,w1,w2];refine ih (i+1) _ _ Ab Am ⟨Ab,_,rfl,λc hc=>?_,Bu⟩
   rw[zz4,if_neg hc,zz4,if_neg hc];exact hold c hc
  .have hlt':¬(i:Int)<(p.length:Int)-1-i:=Ab
   refine Sa hlt' ?_;rw[qzK Ab]at hrow;exact hk _ hold hrow
 all_goals simp_all[qj,qn,zz4,qHn]
structure LI (kb n:Nat) (back:List Ins) (pl:List Nat) (s:Nat) (tr:Tr Blk) (bb bp:Nat) (far:Int):Prop where
 k:tr.get kb=some (.v [.own bb back.length,.sl bp 0 n n false,.j far])
 b:tr.get bb=some (.cells 4 true true (rP back))
 p:tr.get bp=some (.v (rNt pl))
 len:pl.length=n
 kb':kb≠bb
 kp:kb≠bp
 bp':bb≠bp
 ks:kb<s
 bs:bb<s
 ps:bp<s
theorem LI.keep{kb n bb bp s s':Nat}{back:List Ins}{pl:List Nat}{tr tr':Tr Blk}{far:Int}(h:LI kb n back pl s tr bb bp far)(hs:s<=s')(e:∀c,c=kb\/c=bb\/c=bp->tr'.get c=tr.get c):LI kb n back pl s' tr' bb bp far :=
 ⟨by grind[LI.k],by grind[LI.b],by grind[LI.p],h.len,h.kb',h.kp,h.bp',zzh h.ks hs,zzh h.bs hs,zzh h.ps hs⟩
def jl:IFn:=irJ 269 []
def qps(hc:Ck P f jl){kb n s fl bb bp:Nat}{back:List Ins}{pl:List Nat}{tr:Tr Blk}{far:Int}{k:AV->Hp->Prop}(h:LI kb n back pl s tr bb bp far){j q:Nat}(hj:pl[j]?=some q)(hq:q<=back.length)(hb:back.length<=1000000)
  (hk:k (.j ((back.length-q:Nat):Int)) ⟨s,fl,tr⟩):SC P f [.ptr kb 0,.j (j:Int)] ⟨s,fl,tr⟩ k:=by
 refine Bg ?_;have hjl:j<n:=by rw[<- h.len];exact Ag
 have hg:(rNt pl)[j]?=some (.j (q:Int)):=by rw[qmp,hj];rfl
 have e:IntKind.wrap .i64 ((back.length:Int)-q)=((back.length-q:Nat):Int):=by rw[qC Ab Ab];exact Ab
 simp only[jl,vI,simprocAttr];refine Aa ?_;refine qX ?_;simp +decide only[↓vS,vT,simprocAttr,h.k,h.p,hjl,hg,zzU,e];exact hk
def jD(a:Nat):IFn:=irJ 307 [330,a]
def qJf{g:Nat}(hc:Ck P f (jD g))(l:List Ins):qc P f [.fz l.length (rP l)] (.fn g [] [.pf [.fz l.length (rP l)] 0]):=by
 refine Ce ?_;simp only[jD,vI,simprocAttr];refine Aa ?_;simp[vZ,vP,zz4,qP (qo l)]
def vn(a:Nat):IFn:=irJ 268 [307,a]
def puT(s gi:Nat)(l:List Ins):List (Nat×AV):=[(2,.ptr s 0),(7,.fn gi [] [.pf [.fz l.length (rP l)] 0])]
def puA:ICode:=.reg false [⟨some 5,.op (.alloc [.h 0,.y 0,.y 0,.w 0]),none⟩,⟨none,.op (.store 4 (.t 5) (.t 9)),none⟩]
def puB:ICode:=.blk 1 (.reg true [.q 10 (.load1 (.t 2)),.q 11 (.load1 (.t 2)),.q 12 (.nilChk (.t 11)),.q 13 (.fAddr 0 (.t 12)),.q 14 (.load1 (.t 13)),.q 15 (.loadN 4 (.t 5)),.q 16 (.buildS 1 [.h 0,.y 0,.y 0,.w 0] [(0,4,(.t 15))]),.q 17 (.appD 4 8 (.t 14) (.t 16) [2]),.q 18 (.nilChk (.t 10)),.q 19 (.fAddr 0 (.t 18)),.u (.store 1 (.t 19) (.t 17))])
def qzq{kb n s0 s gi bb bp lb:Nat}{back l:List Ins}{pl:List Nat}{r0:Loop}{tr:Tr Blk}{far:Int}{k:AV->Hp->Prop}(hr0:r0.state = .ready)(hp0:r0.pending=none)(hlo:LoopOk P r0 [8,9] puA puB)
  (h:LI kb n back pl s tr bb bp far) (g0:tr.get s0=some (.v [.ptr kb 0])) (gl:tr.get lb=some (.map (zV r0 (puT s0 gi l)))) (hlb:lb<s) (hs0:s0<s) (hn:kb≠lb/\bb≠lb/\bp≠lb/\s0≠lb/\s0≠kb/\s0≠bb) (i:Int) (x:Ins) (hb:back.length<=1000000)
  (hk:∀s' tr' bb',s<=s'->(∀c,c<s->c≠kb->c≠bb->tr'.get c=tr.get c)->s<=bb'->LI kb n (back++[x]) pl s' tr' bb' bp far->k (.b true) ⟨s',0,tr'⟩):SY P lb [.j i,.agg (qD x)] ⟨s,0,tr⟩ k:=by
 obtain⟨e1,e2,e3,e4,e5,e6⟩:=hn;have hks:=h.ks;have hbs:=h.bs;have hps:=h.ps;have hkb:=h.kb';have hkp:=h.kp;have hbp:=h.bp';refine SY.mk (r:=r0) (ts:=puT s0 gi l) (ps:=[8,9]) gl hr0 hlo (zzu _) hlb rfl ?_;rw[show mkT (puT s0 gi l)=(Tr.leaf.set 7 (.fn gi [] [.pf [.fz l.length (rP l)] 0])).set 2 (.ptr s0 0)from rfl]
 refine qh ?_;simp only[qlg,puA,qD,vI,simprocAttr];refine Aa ?_;have n1:¬lb=s:=Ab
 have n2:¬s0=s:=Ab
 have n3:¬kb=s:=Ab
 have n4:¬bb=s:=Ab
 have n5:¬s=lb:=Ab
 have n6:¬s=s+1:=Ab
 have n7:¬s0=s+1:=Ab
 have n8:¬kb=s+1:=Ab
 have n9:¬bb=s+1:=Ab
 have n10:¬s+1=bb:=Ab
 have n11:¬kb=s+1+1:=Ab
 have n12:¬s0=bb:=e6;have n13:¬s=bb:=Ab
 have n14:¬s0=s+1+1:=Ab
 have r1:back.length+1<=qe:=by simp only[qe];exact Ab
 have r2:(back.length+1)*8<=qe:=by simp only[qe];exact Ab
 refine⟨puT s0 gi l,Gf,?_⟩
 refine qh ?_;simp only[qI,puB,vI,simprocAttr];refine Aa ?_;refine qX ?_;simp +decide only[↓vS,vT,simprocAttr,g0,h.k,h.b,e1,e2,e4,n1,n2,n3,n4,n5,n6,n7,n8,n9,n10,n11,n12,n13,n14,hkb,r1,r2,qdS,hbs,e5,e6];refine⟨Go.Kc.bsy r0,puT s0 gi l,?_,?_⟩
 .exact A5
 rw[qc9,qeM hr0 hp0];simp only[qI];refine Aa ?_;refine hk _ _ (s+1+1) Ab (λc q1 q2 q3=>?_) Ab ⟨?_,?_,?_,h.len,Ab,hkp,Ab,Ab,Ab,Ab⟩
 .exact A5
 .exact Gf
 .simp only[zz4];rw[if_neg Ab,if_neg Ab];simp[rP,qD]
 .simp only[zz4];grind[LI.p]
def qtv{gB gi kb n s bb bp bx:Nat}{back l:List Ins}{pl:List Nat}{tr:Tr Blk}{far:Int}{k:AV->Hp->Prop}(hc:Ck P f (vn gB))(hB:∀l:List Ins,qc P gB [.fz l.length (rP l)] (.fn gi [] [.pf [.fz l.length (rP l)] 0]))(hi:Ck P gi zb)
  (h:LI kb n back pl s tr bb bp far) (hx:tr.get bx=some (.v (rP l))) (hn:bx≠kb/\bx≠bb/\bx≠bp) (hxs:bx<s) (hl:l.length<=10) (hb:back.length<=900000)
  (hk:∀s' tr' bb',s<=s'->(∀c,c<s->c≠kb->c≠bb->c≠bx->tr'.get c=tr.get c)->(bb'=bb\/s<=bb')->LI kb n (back++l.reverse) pl s' tr' bb' bp far->k (.tup []) ⟨s',0,tr'⟩):SC P f [.ptr kb 0,.sl bx 0 l.length l.length false] ⟨s,0,tr⟩ k:=by
 obtain⟨x1,x2,x3⟩:=hn;have hks:=h.ks;have hbs:=h.bs;have hps:=h.ps;refine Bg ?_;simp only[vn,vI,simprocAttr];refine Aa ?_;refine(hB l).give [(bx,.v (rP l))] ?_ (by simp[clo,qt,qo]) ?_ ?_
 .exact A5
 .refine qa8.2 ⟨Frz.cut 4 rfl (zzL _) ?_,qgy.2 trivial⟩;simp[trP,zz4,vP,qdS];rw[zzt (by rw[qdS];exact Ab)];grind[Frzs.self,qo]
 refine El ?_;refine Aa ?_;refine S.rangeFL (ts:=puT s gi l) (zzu _) (by intro p hp;simp only[puT,zzc,List.not_mem_nil,or_false]at hp;rcases hp with rfl|rfl<;>simp[zz4]) ⟨rfl,rfl⟩ ?_;refine qjR.2 ⟨.fn gi [] [.pf [.fz l.length (rP l)] 0],Be,?_⟩
 refine⟨qdi hi,λr0 hr0 hp0 hlo=>⟨r0,.inl ⟨rfl,hlo.real⟩,?_⟩⟩
 have hlo:LoopOk P r0 [8,9] puA puB:=hlo
 have old:∀c,c<s->c≠bx->((((tr.set s (.v [.ptr kb 0])).set bx .dead).set (s+1) (.map (zV r0 (puT s gi l))))).get c=tr.get c:=λc h1 h2=>A5
 refine qaa (c:=qD) hi xf Ab (λi h=>i<=l.length/\∃s' tr' bb',h=⟨s',0,tr'⟩/\s+2<=s'/\(∀c,c<s->c≠kb->c≠bb->c≠bx->tr'.get c=tr.get c)/\(bb'=bb\/s+2<=bb')/\LI kb n (back++(l.drop i).reverse) pl s' tr' bb' bp far/\tr'.get s=some (.v [.ptr kb 0])/\tr'.get (s+1)=some (.map (zV r0 (puT s gi l)))) ?_ ?_ ?_
 .rintro i x hh hx ⟨hil,s',tr',bb',rfl,q1,q2,q3,q4,q5,q6⟩ k hk;have hd:l.drop i=x::l.drop (i+1):=Dg
  refine qzq (s0:=s) (lb:=s+1) hr0 hp0 hlo q4 q5 q6 Ab Ab ⟨Ab,Ab,Ab,Ab,Ab,Ab⟩ _ x (by simp;exact Ab) λs2 t2 b2 p1 p2 p3 p4=>hk _ ⟨Ab,s2,t2,b2,rfl,Ab,λc c1 c2 c3 c4=>?_,Ab,?_,?_,?_⟩
  .rw[p2 c Ab c2 Ab];exact q2 c c1 c2 c3 c4
  .rw[hd,List.reverse_cons,<- zzi];exact p4
  all_goals grind
 .refine⟨zzL _,s+1+1,_,bb,rfl,Ab,Ae,.inl rfl,?_,?_,?_⟩
  all_goals grind[LI.keep,Tr.get_set]
 .rintro hh ⟨_,s',tr',bb',rfl,q1,q2,q3,q4,q5,q6⟩;refine⟨r0,puT s gi l,q6,by rw[hr0];exact Af,?_⟩
  rw[hp0];simp only[qI];refine Ac ?_;refine hk _ _ bb' Ab (λc c1 c2 c3 c4=>?_) Ab ?_
  .rw[zz4,if_neg (by show¬c=s+1;exact Ab)];exact q2 c c1 c2 c3 c4
  grind[LI.keep,Tr.get_set]
def kc(n:Nat)(pl:List Nat)(x:Sy):List Ins :=
 if x.code=5 then [⟨5,0,0,(n-pl.getD x.th 0:Nat)⟩]else if ql x.code≠4 then [⟨x.code,0,0,x.k⟩]else
  if max (n-pl.getD x.th 0) (n-pl.getD x.el 0)<=255 then [⟨x.code,(n-pl.getD x.th 0:Nat),(n-pl.getD x.el 0:Nat),x.k⟩]else
   [⟨x.code,0,1,x.k⟩,⟨5,0,0,(n-pl.getD x.th 0+1:Nat)⟩,⟨5,0,0,(n-pl.getD x.el 0:Nat)⟩]
theorem qre{n:Nat}{pl:List Nat}{x:Sy}:(kc n pl x).length<=3/\1<=(kc n pl x).length:=by
 unfold kc;exact Ag
def qbw(a b c:Nat):IFn:=irJ 220 [269,a,268,b,112,c]
def qGM{gD gO gP gB gi kb n s bb bp:Nat}{back:List Ins}{pl:List Nat}{tr:Tr Blk}{far:Int}{k:AV->Hp->Prop}(hc:Ck P f (qbw gD gP gO))(hD:Ck P gD jl)(hO:cOf P gO)(hP:Ck P gP (vn gB))
  (hB:∀l:List Ins,qc P gB [.fz l.length (rP l)] (.fn gi [] [.pf [.fz l.length (rP l)] 0])) (hi:Ck P gi zb)
  (h:LI kb n back pl s tr bb bp far) (x:Sy) (hb:back.length<=800000) (hj:∀j:Nat,(x.code=5\/ql x.code=4)/\j=x.th\/(ql x.code=4/\x.code≠5)/\j=x.el->∃q,pl[j]?=some q/\q<=back.length)
  (hk:∀s' tr' bb' far',s<=s'->(∀c,c<s->c≠kb->c≠bb->tr'.get c=tr.get c)->(bb'=bb\/s<=bb')->LI kb n (back++(kc back.length pl x).reverse) pl s' tr' bb' bp far'->k (.tup []) ⟨s',0,tr'⟩):SC P f [.ptr kb 0,.agg (cSy x)] ⟨s,0,tr⟩ k:=by
 have hks:=h.ks;have hbs:=h.bs;have hps:=h.ps;have hkb:=h.kb';have hkp:=h.kp;have hbp:=h.bp';have h1:∀(y:Blk),LI kb n back pl (s+1) (tr.set s y) bb bp far:=λy=>h.keep Ab A5
 have h2:∀(y z:Blk),LI kb n back pl (s+1+1) ((tr.set s y).set (s+1) z) bb bp far:=λy z=>(h1 y).keep Ab A5
 have n1:¬s=s+1:=Ab
 have put:∀(y z:Blk) (l:List Ins),z = .v (rP l)->l.length<=10->kc back.length pl x=l->∀k2:AV->Hp->Prop,(∀h,k (.tup []) h->k2 (.tup []) h)->SC P gP [.ptr kb 0,.sl (s+1) 0 l.length l.length false] ⟨s+1+1,0,(tr.set s y).set (s+1) z⟩ k2:=λy z l hz hl he k2 hk2=>by
  refine qtv hP hB hi (h2 y z) (by rw[zz4,if_pos rfl,hz]) Ab Ab hl Ab λs' tr' bb' q1 q2 q3 q4=>hk2 _ (hk s' tr' bb' far Ab (λc c1 c2 c3=>?_) Ab (by rw[he];exact q4))
  rw[q2 c Ab c2 c3 Ab]
  exact A5
 refine Bg ?_;simp only[qbw,cSy,vI,simprocAttr]
 by_cases h5:x.code=5
 .obtain⟨q,hq,hql⟩:=hj x.th Ab;have hqD:pl.getD x.th 0=q:=by rw[zzs,hq];rfl
  have he:kc back.length pl x=[⟨5,0,0,((back.length-q:Nat):Int)⟩]:=by unfold kc;rw[if_pos h5,hqD]
  have hw:IntKind.wrap .u32 ((back.length-q:Nat):Int)=((back.length-q:Nat):Int):=Fn
  refine Sa (eq_true h5) ?_;refine qps hD (h1 _) hq hql Ab ?_;refine Sa hw ?_;exact put _ _ [⟨5,0,0,((back.length-q:Nat):Int)⟩] (by simp[rP,qD]) (by simp) he _ λh hv=>by refine Aa ?_;exact hv
 .by_cases hc4:ql x.code=4
  .obtain⟨q,hq,hql⟩:=hj x.th Ab;obtain⟨r,hr,hrl⟩:=hj x.el Ab;have hqD:pl.getD x.th 0=q:=by rw[zzs,hq];rfl
   have hrD:pl.getD x.el 0=r:=by rw[zzs,hr];rfl
   refine Sa h5 ?_;refine(hO x.code).sc ?_;refine Sa hc4 ?_;refine qX ?_;refine Aa ?_;refine⟨_,_,λk' hk'=>qps hD (h1 _) hq hql Ab hk',?_⟩
   refine Aa ?_;refine⟨_,_,λk' hk'=>qps hD (h1 _) hr hrl Ab hk',?_⟩
   have he:kc back.length pl x=if max (back.length-q) (back.length-r)<=255 then [⟨x.code,((back.length-q:Nat):Int),((back.length-r:Nat):Int),x.k⟩]else [⟨x.code,0,1,x.k⟩,⟨5,0,0,((back.length-q+1:Nat):Int)⟩,⟨5,0,0,((back.length-r:Nat):Int)⟩]:=by
    unfold kc;rw[if_neg h5,if_neg Ab,hqD,hrD]
   obtain⟨a,ha⟩:∃a,a=back.length-q:=⟨_,rfl⟩;obtain⟨b,hb'⟩:∃b,b=back.length-r:=⟨_,rfl⟩;rw[<- ha,<- hb']at he ⊢;have hal:a<=800000:=Ab
   have hbl:b<=800000:=Ab
   refine Aa ?_;have hmx:(if a<b then(b:Int)else a)=((max a b:Nat):Int):=Ga
   rw[hmx]
   by_cases hm:max a b<=255
   .have hm':((max a b:Nat):Int)<=255:=Ab
    rw[if_pos hm]at he;have w1:IntKind.wrap .u8 (a:Int)=a:=by grind[qAj]
    have w2:IntKind.wrap .u8 (b:Int)=b:=by grind[qAj]
    refine Sa hm' ?_;rw[w1,w2];exact put _ _ [⟨x.code,(a:Int),(b:Int),x.k⟩] (by simp[rP,qD]) (by simp) he _ λh hv=>by refine Aa ?_;exact hv
   .have hm':¬((max a b:Nat):Int)<=255:=Ab
    rw[if_neg hm]at he;have w1:IntKind.wrap .u32 (a:Int)=a:=Fn
    have w2:IntKind.wrap .u32 (b:Int)=b:=Fn
    have w3:IntKind.wrap .u32 ((a:Int)+1)=((a+1:Nat):Int):=by rw[qao Ab Ab];simp
    have n2:¬kb=s:=Ab
    have n3:¬s=kb:=Ab
    simp +decide only[↓vS,vT,simprocAttr,hm',w1,w2,w3,h.k,n2,n3,n1];refine qtv hP hB hi (l:=[⟨x.code,0,1,x.k⟩,⟨5,0,0,((a+1:Nat):Int)⟩,⟨5,0,0,((b:Nat):Int)⟩]) (far:=IntKind.wrap .i64 (far+1)) (s:=s+1+1) (bb:=bb) (bp:=bp) (n:=n) (pl:=pl) (back:=back) ⟨?_,?_,?_,h.len,hkb,hkp,hbp,Ab,Ab,Ab⟩ ?_ Ab Ab (by simp) Ab λs' tr' bb' q1 q2 q3 q4=>?_
    .exact A5
    .grind[Tr.get_set,LI.b]
    .grind[Tr.get_set,LI.p]
    .rw[zz4,if_pos rfl];simp[rP,qD]
    .refine Aa ?_;refine hk s' tr' bb' _ Ab (λc c1 c2 c3=>?_) Ab (by rw[he];exact q4)
     rw[q2 c Ab c2 c3 Ab]
     exact A5
  .have he:kc back.length pl x=[⟨x.code,0,0,x.k⟩]:=by unfold kc;rw[if_neg h5,if_pos hc4]
   refine Sa h5 ?_;refine(hO x.code).sc ?_;refine Sa hc4 ?_;exact put _ _ [⟨x.code,0,0,x.k⟩] (by simp[rP,qD]) (by simp) he _ λh hv=>by refine Aa ?_;exact hv
def z7(l:List Sy):Nat->List Ins×List Nat
 | 0=>([],List.replicate l.length 0)
 | m+1=>match l[l.length-(m+1)]? with
  | some x=>((z7 l m).1++(kc (z7 l m).1.length (z7 l m).2 x).reverse,(z7 l m).2.set (l.length-(m+1)) ((z7 l m).1++(kc (z7 l m).1.length (z7 l m).2 x).reverse).length)
  | none=>z7 l m
theorem qiv{l:List Sy}:∀m,(z7 l m).2.length=l.length/\(∀q ∈ (z7 l m).2,q<=(z7 l m).1.length)/\(z7 l m).1.length<=3*m
 | 0=>by
  refine⟨by simp[z7],λq hq=>?_,by simp[z7]⟩
  simp only[z7,List.mem_replicate]at hq;exact Ab
 | m+1=>by
  obtain⟨h1,h2,h3⟩:=qiv (l:=l) m;unfold z7
  grind[qre]
def jZ(l:List Sy):List Ins:=(z7 l l.length).1.reverse
def qCG{l:List Nat}{j v:Nat}(hj:j<l.length):(rNt l).take j ++ .j (v:Int)::(rNt l).drop (j+1)=rNt (l.set j v):=by
 rw[List.set_eq_take_append_cons_drop,if_pos hj];simp[rNt,List.map_take,List.map_drop]
def qca(a b c:Nat):ICode:=icJ 160 [218,a,219,b,220,c] 31
def qez(a b c:Nat):IFn:=irJ 160 [218,a,219,b,220,c] [31] [qca a b c]
def liT(gi:Nat)(l:List Sy):List (Nat×AV):=[(4,.ptr 2 0),(16,.fn gi [] [.pf [.fz l.length (rSy l)] 0])]
def liA:ICode:=sq [.reg false [⟨some 5,.op (.mov (.t 17)),none⟩],.reg false [⟨some 6,.op (.alloc [.h 0,.w 0,.j 0,.j 0]),none⟩,⟨none,.op (.store 4 (.t 6) (.t 18)),none⟩]]
def liB(g1:Nat):ICode:=.blk 1 (sq [.r [.q 19 (.load1 (.t 4)),.q 20 (.loadN 4 (.t 6)),.l 21 g1 [.t 19,.t 20]],.reg true [.q 22 (.load1 (.t 4)),.q 23 (.nilChk (.t 22)),.q 24 (.fAddr 1 (.t 23)),.q 25 (.load1 (.t 24)),.m 26 (.t 5),.q 27 (.load1 (.t 4)),.q 28 (.nilChk (.t 27)),.q 29 (.fAddr 0 (.t 28)),.q 30 (.load1 (.t 29)),.q 31 (.len false (.t 30)),.q 32 (.iAddrS 1 (.t 25) (.t 26)),.u (.store 1 (.t 32) (.t 31))]])
def qAW(P:Program)(g:Nat):Prop:=∀(kb n s bb bp:Nat) (back:List Ins) (pl:List Nat) (tr:Tr Blk) (far:Int) (k:AV->Hp->Prop),LI kb n back pl s tr bb bp far->∀x:Sy,back.length<=800000->(∀j:Nat,(x.code=5\/ql x.code=4)/\j=x.th\/(ql x.code=4/\x.code≠5)/\j=x.el->∃q,pl[j]?=some q/\q<=back.length)->
 (∀s' tr' bb' far',s<=s'->(∀c,c<s->c≠kb->c≠bb->tr'.get c=tr.get c)->(bb'=bb\/s<=bb')->LI kb n (back++(kc back.length pl x).reverse) pl s' tr' bb' bp far'->k (.tup []) ⟨s',0,tr'⟩)->SC P g [.ptr kb 0,.agg (cSy x)] ⟨s,0,tr⟩ k
def qyt{gi g1 s bb n:Nat}{back:List Ins}{pl:List Nat}{l:List Sy}{r0:Loop}{tr:Tr Blk}{far:Int}{k:AV->Hp->Prop}(h1:qAW P g1)(hr0:r0.state = .ready)(hp0:r0.pending=none)(hlo:LoopOk P r0 [17,18] liA (liB g1))
  (h:LI 1 n back pl s tr bb 0 far) (g2:tr.get 2=some (.v [.ptr 1 0])) (g4:tr.get 4=some (.map (zV r0 (liT gi l)))) (hs:5<=s) (hb3:3<=bb) (hb4:bb≠4) (hb:back.length<=800000) (i:Nat) (hi:i<n) (x:Sy)
  (hj:∀j:Nat,(x.code=5\/ql x.code=4)/\j=x.th\/(ql x.code=4/\x.code≠5)/\j=x.el->∃q,pl[j]?=some q/\q<=back.length)
  (hk:∀s' tr' bb' far',5<=s'->LI 1 n (back++(kc back.length pl x).reverse) (pl.set i (back++(kc back.length pl x).reverse).length) s' tr' bb' 0 far'->tr'.get 2=some (.v [.ptr 1 0])->tr'.get 4=some (.map (zV r0 (liT gi l)))->3<=bb'->bb'≠4->k (.b true) ⟨s',0,tr'⟩) :
  SY P 4 [.j (i:Int),.agg (cSy x)] ⟨s,0,tr⟩ k:=by
 have hbs:=h.bs;refine SY.mk (r:=r0) (ts:=liT gi l) (ps:=[17,18]) g4 hr0 hlo (zzu _) (by show 4<s;exact Ab) rfl ?_;rw[show mkT (liT gi l)=(Tr.leaf.set 16 (.fn gi [] [.pf [.fz l.length (rSy l)] 0])).set 4 (.ptr 2 0)from rfl]
 refine qh ?_;simp only[qlg,liA,cSy,vI,simprocAttr];refine Aa ?_;have n1:¬4=s:=Ab
 have n2:¬2=s:=Ab
 have n3:¬s=4:=Ab
 refine⟨liT gi l,by simp[zz4,n1,g4],?_⟩
 refine qh ?_;simp only[qI,liB,vI,simprocAttr];have e24:¬(2:Nat)=4:=Af
 refine Sa (zzA g2 (zzA e24 (zzA n2 n3))) ?_
 have old:∀c,c<s->c≠4->(((tr.set s (.v [.h 0,.w 0,.j 0,.j 0])).set s (.v [.h x.code,.w x.k,.j (x.th:Int),.j (x.el:Int)])).set 4 (.map (zV (Go.Kc.bsy r0) (liT gi l)))).get c=tr.get c:=λc h1 h2=>by
  simp only[zz4];repeat rw[if_neg Ab]
 refine h1 1 n (s+1) bb 0 back pl _ far _ (h.keep Ab Ag) x hb hj λs' tr' bb' far' q1 q2 q3 q4=>?_
 have g2':tr'.get 2=some (.v [.ptr 1 0]):=by rw[q2 2 Ab Ab Ab,old 2 Ab Ab];exact g2
 have g4':tr'.get 4=some (.map (zV (Go.Kc.bsy r0) (liT gi l))):=by rw[q2 4 Ab Ab Ab,zz4,if_pos rfl]
 obtain⟨B,hB⟩:∃B,B=back++(kc back.length pl x).reverse:=⟨_,rfl⟩;rw[<- hB]at q4 hk;have hset:=qCG (l:=pl) (j:=i) (v:=B.length) (by rw[q4.len];exact hi);have hpl:i+1<=(rNt pl).length:=by rw[qiB,q4.len];exact Ab
 have hbs':=q4.bs;refine Aa ?_;refine qX ?_;simp +decide only[↓vS,vT,simprocAttr,g2',q4.k,q4.p,hi,hpl,hset,zzU];refine⟨Go.Kc.bsy r0,liT gi l,by rw[zz4,if_neg Af];exact g4',?_⟩
 rw[qc9,qeM hr0 hp0];simp only[qI];refine Aa ?_;have hb':bb'≠4:=Ab
 refine hk s' _ bb' far' Ab ⟨?_,?_,?_,?_,Ab,Ab,Ab,Ab,Ab,Ab⟩ ?_ ?_ Ab hb'
 .rw[zz4,if_neg Af,zz4,if_neg Af];exact q4.k
 .rw[zz4,if_neg hb',zz4,if_neg Ab];exact q4.b
 .rw[zz4,if_neg Af,zz4,if_pos rfl]
 all_goals grind[LI.len,Tr.get_set]
def qvs{n0 g1 g2 g3 s:Nat}{tr:Tr Blk}{t:Tr AV}{k:AV->Hp->Prop}(ht:t.get 4=some (.ptr 2 0))(h2:tr.get 2=some (.v [.ptr 1 0]))(hk:k (.tup [.ptr 1 0,.b true]) ⟨s,0,tr⟩) :
  S P n0 (qca g1 g2 g3) (zQ [.tmp 2,.tmp 3] k) t ⟨s,0,tr⟩:=by
 refine S.has [(4,.ptr 2 0)] (by grind[qj,qn]) (qh ?_);simp only[qca,vI,simprocAttr];refine Sa h2 ?_;exact hk
def qvt{gM gB g1 gi:Nat}(hc:Ck P f (qez gM gB g1))(l:List Sy)(hm:qc P gM [.fz l.length (rSy l)] (.b true))(hB:∀l:List Sy,qc P gB [.fz l.length (rSy l)] (.fn gi [] [.pf [.fz l.length (rSy l)] 0]))(hi:Ck P gi qT)
  (h1:qAW P g1) (hl:l.length<=200000) (hin:∀x ∈ l,∀j:Nat,(x.code=5\/ql x.code=4)/\j=x.th\/(ql x.code=4/\x.code≠5)/\j=x.el->j<l.length) {k:AV->Hp->Prop}
  (hk:∀s tr bb far,LI 1 l.length (z7 l l.length).1 (z7 l l.length).2 s tr bb 0 far->k (.tup [.ptr 1 0,.b true]) ⟨s,0,tr⟩):SC P f [.fz l.length (rSy l)] ⟨0,0,.leaf⟩ k:=by
 refine Bg ?_;have r1:l.length<=qe:=by simp only[qe];exact Ab
 have r2:8*l.length<=qe:=by simp only[qe];exact Ab
 have hz:(List.replicate l.length [AV.j 0]).flatten=rNt (List.replicate l.length 0):=by simp[rNt]
 simp only[qez,vI,simprocAttr];refine Aa ?_;refine hm.sc ?_;refine Sa (zzA r1 (zzA r2 hz)) ?_;refine(hB l).sc ?_;refine Aa ?_;refine S.weak (Wk.mk (liT gi l) [.v (rNt (List.replicate l.length 0)),.v [.own 3 0,.sl 0 0 l.length l.length false,.j 0],.v [.ptr 1 0],.cells 4 true true []] [0,1,2,99] ?_ ?_ ?_ rfl) ?_
 .simp[vw,liT,qP zp,qa,zp]
 .exact Hm
 .simp
 refine S.rangeF Ir (by simp[liT]) ⟨rfl,rfl⟩ ?_;refine qjR.2 ⟨.fn gi [] [.pf [.fz l.length (rSy l)] 0],by simp[liT,mkT,zz4],?_⟩
 refine⟨qdi hi,λr0 hr0 hp0 hlo=>?_⟩
 have hlo:LoopOk P r0 [17,18] liA (liB g1):=hlo;refine x8 (c:=cSy) hi qeZ Ab (λi h=>i<=l.length/\∃s tr bb far,h=⟨s,0,tr⟩/\5<=s/\LI 1 l.length (z7 l (l.length-i)).1 (z7 l (l.length-i)).2 s tr bb 0 far/\3<=bb/\bb≠4/\tr.get 2=some (.v [.ptr 1 0])/\tr.get 4=some (.map (zV r0 (liT gi l)))) ?_ ?_ ?_
 .rintro i x h hx ⟨hil,s,tr,bb,far,rfl,q1,q2,q3,q4,q5,q6⟩ k' hk';have hi':i<l.length:=Ab
  obtain⟨o1,o2,o3⟩:=qiv (l:=l) (l.length-(i+1));have e:l.length-i=(l.length-(i+1))+1:=Ab
  have e2:l.length-(l.length-(i+1)+1)=i:=Ab
  have e3:z7 l (l.length-i)=((z7 l (l.length-(i+1))).1++(kc (z7 l (l.length-(i+1))).1.length (z7 l (l.length-(i+1))).2 x).reverse,(z7 l (l.length-(i+1))).2.set i ((z7 l (l.length-(i+1))).1++(kc (z7 l (l.length-(i+1))).1.length (z7 l (l.length-(i+1))).2 x).reverse).length):=by
   rw[e,z7,e2,hx]
  refine qyt h1 hr0 hp0 hlo q2 q5 q6 q1 q3 q4 Ab i hi' x (λj hj=>?_) Ag
  have hjl:=hin x Ag j hj;obtain⟨q,hq⟩:∃q,(z7 l (l.length-(i+1))).2[j]?=some q:=Ag
  exact⟨q,hq,o2 q Ag⟩
 .refine⟨zzL _,5,_,3,0,rfl,zzL _,⟨?_,?_,?_,?_,Af,Af,Af,Af,Af,Af⟩,Af,Af,?_,?_⟩<;>simp[zz4,qj1,mkH,trL,z7,rP,Hp.push]
 .rintro h ⟨_,s,tr,bb,far,rfl,q1,q2,q3,q4,q5,q6⟩;rw[Nat.sub_zero]at q2;refine⟨r0,liT gi l,q6,by rw[hr0];exact Af,?_⟩
  rw[hp0];simp only[qI];refine Ac ?_;refine qvs (by simp[liT,mkT,zz4]) ?_ (hk _ _ bb far ?_)
  .show (tr.set 4 .dead).get 2=_;rw[zz4,if_neg Af];exact q5
  .refine q2.keep (zzL _) λc hc=>?_
   have:c≠4:=by rcases hc with rfl|rfl|rfl<;>omega
   rw[zz4,if_neg (by exact this)]
def qgC(a b:Nat):IFn:=irJ 99 [160,a,161,b]
def qjK(l:List Sy):AV:=if 4096<(jZ l).length then .tup [.fz 0 [],.j 270]else .tup [.fz (jZ l).length (rP (jZ l)),.j 0]
def qvq{g1 g2:Nat}(hc:Ck P f (qgC g1 g2))(l:List Sy)(hl:l.length<=200000)
  (h1:∀k:AV->Hp->Prop,(∀s tr bb far,LI 1 l.length (z7 l l.length).1 (z7 l l.length).2 s tr bb 0 far->k (.tup [.ptr 1 0,.b true]) ⟨s,0,tr⟩)->SC P g1 [.fz l.length (rSy l)] ⟨0,0,.leaf⟩ k)
  (h2:∀(s b:Nat) (tr:Tr Blk) (p:List Ins),p.length<=1000000->∀k:AV->Hp->Prop,tr.get b=some (.cells 4 true true (rP p))->(∀tr',(∀c,c≠b->tr'.get c=tr.get c)->tr'.get b=some (.cells 4 true true (rP p.reverse))->k (.tup []) ⟨s,0,tr'⟩)->SC P g2 [.own b p.length] ⟨s,0,tr⟩ k) :
  qc P f [.fz l.length (rSy l)] (qjK l):=by
 have hlen:=(qiv (l:=l) l.length).2.2;refine Bz ?_;simp only[qgC,vI,simprocAttr];refine Aa ?_;refine h1 _ λs tr bb far h=>?_
 have hll:(jZ l).length=(z7 l l.length).1.length:=by simp[jZ]
 unfold qjK;rw[hll]
 by_cases hbig:4096<(z7 l l.length).1.length
 .have hbig':(4096:Int)<((z7 l l.length).1.length:Int):=Ab
  rw[if_pos hbig];refine Sa (zzA h.k hbig') ?_;simp[vZ]
 .have hbig':¬(4096:Int)<((z7 l l.length).1.length:Int):=Ab
  rw[if_neg hbig];refine Sa (zzA h.k hbig') ?_;refine h2 s bb tr _ Ab _ h.b λtr' q1 q2=>?_
  have hk':=(q1 1 h.kb').trans h.k;refine Sa hk' ?_;simp[vZ,vP,q2,jZ];refine⟨λh=>?_,Frzs.self (qo _)⟩
  rw[h];rfl
def qDB(P:Program)(g:Nat):Prop:=∀l:List GTest,l.length<=100000->qc P g [.fz l.length (rT l)] (.fz l.length (rT l))
def qFd{g:Nat}(h:qb2 P g 4 32):qDB P g:=by
 intro l hl;refine(h l.length (rT l) qae zt qzF (by simp only[qe];exact Ab) (by simp only[qe];exact Ab)).pure (by simp[qt,clo,zt]) ?_;exact Bk
def qm4(a:Nat):IFn:=irJ 61 [109,a]
def qIJ{g:Nat}(hc:Ck P f (qm4 g))(hg:qDB P g)(r:GRule)(hl:r.tests.length<=100000):qc P f [.agg (zn r)] (.agg (zn r)):=by
 refine qc.mk hc (by simp[qt,clo,zn,zt]) ?_;simp only[qm4,zn,vI,simprocAttr];refine Aa ?_;refine(hg r.tests hl).sc ?_;refine Aa ?_;simp[vZ,vP,zz4,qP zt]
def qhP:IFn:=irJ 221 []
def qKm(hc:Ck P f qhP)(t:GTest):qc P f [.agg (xg t)] (.b (decide (t.mask=0))):=by
 refine Al ?_;simp only[qhP,xg,vI,simprocAttr];refine Aa ?_;simp[vZ]
def qhh(a:Int)(ts:List GTest):List GTest:=(ts.reverse.dropWhile λt=>decide (t.act=a)).reverse
theorem qnI{a:Int}{ts:List GTest}{t:GTest}:qhh a (ts++[t])=if t.act=a then qhh a ts else ts++[t]:=by
 unfold qhh;rw[List.reverse_append,List.reverse_singleton,List.singleton_append,List.dropWhile_cons]
 by_cases h:t.act=a<;>simp[h]
def qgv:List GTest->Int->List GTest×Int
 | [],a=>([],a)
 | t::ts,a=>if t.mask=0 then([],t.act)else(t::(qgv ts a).1,(qgv ts a).2)
def wj(r:GRule):GRule:=⟨r.nr,qhh (qgv r.tests r.act).2 (qgv r.tests r.act).1,(qgv r.tests r.act).2⟩
def qxn:∀(ts:List GTest) (a:Int),(zL (λt=>decide (t.mask=0)) ts 0 = -1/\qgv ts a=(ts,a))\/∃(i:Nat) (t:GTest),zL (λt=>decide (t.mask=0)) ts 0=(i:Int)/\ts[i]?=some t/\qgv ts a=(ts.take i,t.act):=by
 have main:∀(ts:List GTest) (a:Int) (j:Nat),(zL (λt=>decide (t.mask=0)) ts j = -1/\qgv ts a=(ts,a))\/∃(i:Nat) (t:GTest),zL (λt=>decide (t.mask=0)) ts j=((j+i:Nat):Int)/\ts[i]?=some t/\qgv ts a=(ts.take i,t.act):=by
  intro ts
  induction ts with
  | nil=>intro a j;exact .inl ⟨rfl,rfl⟩
  | cons t ts ih =>
   intro a j
   by_cases h:t.mask=0
   .exact .inr ⟨0,t,by simp[zL,h],rfl,by simp[qgv,h]⟩
   .rcases ih a (j+1)with⟨e1,e2⟩|⟨i,x,e1,e2,e3⟩
    .exact .inl ⟨by simp[zL,h,e1],by simp[qgv,h,e2]⟩
    .exact .inr ⟨i+1,x,by simp[zL,h,e1];exact Ab,by simpa using e2,by simp[qgv,h,e3]⟩
 exact Ag
def qC6{h:Hp}{esz n c:Nat}{q:IntKind}{cs:List AV}{k:AV->Prop}(h2:c<=n)(h3:c*esz<=cs.length):slK esz none (some (.i q (c:Int))) none (.fz n cs) h k↔evA (.fz c (cs.take (c*esz))) k:=by
 simp only[slK,qsY,ql6];show(ifK (c<=n) _)↔_;simp only[ifK,h2,true_and,Option.isSome_none,Bool.false_and,Bool.false_eq_true,if_false];refine Fa ?_;exact Bt
def qtW{l:List GTest}{k:Nat}:(rT l).take (k*4)=rT (l.take k):=qir qed l k
def qdN(a b c:Nat):ICode:=icJ 162 [61,a,119,b,221,c] 15
def qkd(a b c:Nat):IFn:=irJ 162 [61,a,119,b,221,c] [15] [qdN a b c]
def qlc{n0 g1 g2 g3 s:Nat}{tr:Tr Blk}{t:Tr AV}(nr a:Int)(ts:List GTest)(V:AV)(hV:V = .fz ts.length (rT ts)\/V = .e0/\ts=[])(hl:ts.length<=100000)(h0:tr.get 0=some (.v [.w nr,V,.w a]))(h1:∃x y z,tr.get 1=some (.v [x,y,z]))(ht:Has t [(1,.ptr 0 0),(2,.ptr 1 0)]) :
  S P n0 (qdN g1 g2 g3) (zQ [.cell 2 3 true] λv' h'=>Frz h' v' (.agg (zn ⟨nr,qhh a ts,a⟩))) t ⟨s,0,tr⟩:=by
 refine Ff ?_;simp only[qdN,vI,simprocAttr];have hlen:∀k:AV->Prop,k (.j (ts.length:Int))->True:=λ_ _=>trivial
 have loop:∀tt,Has tt [(1,.ptr 0 0),(2,.ptr 1 0),(4,.j (ts.length:Int))]->∀(x:ICode) (Q:X->Tr AV->Hp->Prop),True:=Ae
 rcases hV with rfl|⟨rfl,rfl⟩
 .refine Sa h0 ?_
  refine SL.loopP (α:=List GTest) (λu=>[(1,.ptr 0 0),(2,.ptr 1 0),(4,.j (u.length:Int))])
   (λu h=>u.length<=ts.length/\qhh a u=qhh a ts/\∃tr',h=⟨s,0,tr'⟩/\tr'.get 0=some (.v [.w nr,.fz u.length (rT u),.w a])/\∃x y z,tr'.get 1=some (.v [x,y,z])) (λu=>u.length) ?_ ts ?_ ?_
  .rintro u h1 ⟨hu,he,tr',rfl,g0,x,y,z,g1⟩ G ih;refine Ak ?_;rcases List.eq_nil_or_concat u with rfl|⟨u0,t0,rfl⟩
   .have hz:¬(0:Int)<(([]:List GTest).length:Int):=by simp
    refine Aa ?_;refine qX ?_;refine Sa (zzA hz (zzA g0 g1)) ?_;have e0:qhh a ts=[]:=by rw[<- he];rfl
    simp[vZ,vP,zz4,zn,e0,rT]
   .rw[List.concat_eq_append]at hu he g0 ih ⊢;have hul:(u0++[t0]).length=u0.length+1:=by simp
    have hget:(u0++[t0])[u0.length]?=some t0:=by simp
    rw[hul]at hu g0 ⊢;have hz:(0:Int)<((u0.length+1:Nat):Int):=Ab
    have e1:IntKind.wrap .i64 (((u0.length+1:Nat):Int)-1)=(u0.length:Int):=by rw[qC Ab Ab];exact Ab
    have hg3:(rT (u0++[t0]))[u0.length*4+3]?=some (.w t0.act):=qsy hget Ab;have hlt:u0.length<u0.length+1:=Ab
    rw[qnI]at he;refine Aa ?_;refine qX ?_
    by_cases ha:t0.act=a
    .rw[if_pos ha]at he;have k1:u0.length<=u0.length+1:=Ab
     have k2:u0.length*4<=(rT (u0++[t0])).length:=by rw[qae,hul];exact Ab
     have k3:(rT (u0++[t0])).take (u0.length*4)=rT u0:=by rw[qtW];simp
     simp +decide only[↓vS,vT,simprocAttr,hz,g0,e1,hlt,hg3,eq_true ha,↓qC6 k1 k2,k3];refine ih u0 _ _ (by simp) Am A5
    .rw[if_neg ha]at he;simp +decide only[↓vS,vT,simprocAttr,hz,g0,g1,e1,hlt,hg3,ha];simp[vZ,vP,zz4,zn,<- he,qP zt]
  all_goals simp_all[qj,qn,zz4]
 .refine Sa h0 ?_;refine SL.loopP (α:=Unit) (λu=>[(1,.ptr 0 0),(2,.ptr 1 0),(4,.j 0)]) (λu h=>h=⟨s,0,tr⟩) (λu=>0) ?_ () ?_ rfl
  .rintro u h2 rfl G ih;obtain⟨x,y,z,g1⟩:=h1;refine Ak ?_;refine Aa ?_;refine qX ?_;refine Sa (zzA h0 g1) ?_;simp[vZ,vP,zz4,zn,qhh,rT]
  grind[qj,qn,Tr.get_set]
def qD2{g1 g2 g3:Nat}(hc:Ck P f (qkd g1 g2 g3))(h1:∀r:GRule,r.tests.length<=100000->qc P g1 [.agg (zn r)] (.agg (zn r)))(h2:qcN 4 P g2)(h3:∀t:GTest,qc P g3 [.agg (xg t)] (.b (decide (t.mask=0))))(r:GRule)(hl:r.tests.length<=100000) :
  qc P f [.agg (zn r)] (.agg (zn (wj r))):=by
 have e1:=h1 r hl;have e2:=h2 xg (λt=>decide (t.mask=0)) g3 [] [] r.tests qed rfl rfl (by simp only[qe];exact Ab) λt _=>by simpa using h3 t
 simp only[show r.tests.flatMap xg=rT r.tests from rfl]at e2
 refine qc.mk hc (by simp[qt,clo,zn,zt]) ?_;simp only[qkd,zn,vI,simprocAttr];simp only[zn]at e1;refine Aa ?_;refine e1.sc ?_;refine Aa ?_;refine e2.sc ?_;unfold wj;rcases qxn r.tests r.act with⟨q1,q2⟩|⟨i,t,q1,q2,q3⟩
 .rw[q1,q2];refine Aa ?_;refine qlc r.nr r.act r.tests _ (.inl rfl) hl ?_ ?_ ?_
  all_goals simp_all[zz4,qj,qn]
 .rw[q1,q3];have hi:i<r.tests.length:=Ag
  have n0:(0:Int)<=(i:Int):=Ab
  have g3':(rT r.tests)[i*4+3]?=some (.w t.act):=qsy q2 Ab;have k2:i<=r.tests.length:=Ab
  have k3:i*4<=(rT r.tests).length:=by rw[qae];exact Ab
  have hlen:(r.tests.take i).length=i:=Ae
  rcases Nat.eq_zero_or_pos i with hz|hz
  .have es:∀(h:Hp) (k:AV->Prop),slK 4 none (some (.j (i:Int))) (some (.j (i:Int))) (.fz r.tests.length (rT r.tests)) h k↔evA .e0 k:=λh k=>by
    rw[hz];simp only[slK,ql8,ql6];show(ifK (0<=r.tests.length) (ifK (0<=0) _))↔_;simp only[ifK,zzu,true_and,Option.isSome_some];exact Bt
   have htk:r.tests.take i=[]:=by rw[hz];rfl
   rw[htk];simp +decide only[↓vS,vT,simprocAttr,n0,hi,g3',↓es];refine qlc r.nr t.act [] .e0 Ae (by simp) ?_ ?_ ?_
   all_goals simp_all[zz4,qj,qn]
  .simp +decide only[↓vS,vT,simprocAttr,n0,hi,g3',↓qt6 hz k2 k3,qtW];refine qlc r.nr t.act (r.tests.take i) _ (.inl (by rw[hlen])) Ab ?_ ?_ ?_
   all_goals simp_all[zz4,qj,qn]
def qco(d:Int)(r:GRule):Bool:=decide (0<r.tests.length)||decide (r.act≠d)
def kg(x:GFil):GFil:=⟨x.arch,(x.rules.map wj).filter (qco x.dflt),x.dflt⟩
def qum(x:GFil):AV:=if wZ x=true then .tup [.agg (ze (kg x)),.j 0]else .tup [.agg [.j 0,.fz 0 [],.w 0],.j 210]
def qgB(a b:Nat):IFn:=irJ 100 [22,a,162,b]
def qp9{g1 g2:Nat}(hc:Ck P f (qgB g1 g2))(x:GFil)(h1:qc P g1 [.agg (ze x)] (.b (wZ x)))(h2:∀r:GRule,r.tests.length<=100000->qc P g2 [.agg (zn r)] (.agg (zn (wj r))))(hl:x.rules.length<=100000)(ht:∀r ∈ x.rules,r.tests.length<=100000) :
  qc P f [.agg (ze x)] (qum x):=by
 refine qc.mk hc (by simp[qt,clo,ze,qu]) ?_;simp only[qgB,ze,vI,simprocAttr];simp only[ze]at h1;refine Aa ?_;refine h1.sc ?_;unfold qum;cases hK:wZ x with
 | false =>
  refine Aa ?_;exact Fg
 | true =>
  refine Aa ?_
  refine SL.loopP (α:=Nat×Nat) (λi=>[(1,.ptr 0 0),(2,.ptr 1 0),(4,.ptr 2 0),(17,.fz x.rules.length (rR x.rules)),(18,.j (x.rules.length:Int)),(19,.j (i.1:Int))])
   (λi h=>i.1<=x.rules.length/\∃s tr,h=⟨s,0,tr⟩/\3<=s/\tr.get 0=some (.v [.j x.arch,.fz x.rules.length (rR x.rules),.w x.dflt])/\(∃a b c,tr.get 1=some (.v [a,b,c])) /\
    tr.get 2=some (.v [.j x.arch,qdR (((x.rules.take i.1).map wj).filter (qco x.dflt)).length i.2,.w x.dflt])/\((((x.rules.take i.1).map wj).filter (qco x.dflt)).length≠0->tr.get i.2=some (.cells 3 true true (rR (((x.rules.take i.1).map wj).filter (qco x.dflt))))/\3<=i.2/\i.2<s)) (λi=>x.rules.length-i.1) ?_ (0,0) ?_ ?_
  .rintro⟨i,bo⟩ h ⟨hi,s,tr,rfl,hs,t0,⟨a,b,c,t1⟩,t2,to⟩ G ih;simp only at hi t2 to;refine Ak ?_;obtain⟨A,hA⟩:∃A,A=((x.rules.take i).map wj).filter (qco x.dflt):=⟨_,rfl⟩;rw[<- hA]at t2 to
   have hAl:A.length<=i:=by
    rw[hA];exact Ag
   by_cases hlt:i<x.rules.length
   .have hlt':(i:Int)<x.rules.length:=Ab
    obtain⟨r,hr⟩:∃r,x.rules[i]?=some r:=⟨_,zzE hlt⟩;have hel:=qmq hr;have h3:i*3+3<=(rR x.rules).length:=by rw[qfM];exact Ab
    have hw1:=wS i;have hn:=h2 r Ag
    have hA2:((x.rules.take (i+1)).map wj).filter (qco x.dflt)=A++if qco x.dflt (wj r)=true then [wj r]else []:=by
     rw[qbW hr,List.map_append,List.filter_append,<- hA]
     by_cases hk:qco x.dflt (wj r)=true<;>simp[hk]
    obtain⟨q,hq⟩:∃q,q=wj r:=⟨_,rfl⟩;rw[<- hq]at hn hA2;simp only[zn]at hn;have n0:¬0=s:=Ab
    have n1:¬1=s:=Ab
    have n2:¬2=s:=Ab
    have n3:¬s=s+1:=Ab
    have n4:¬2=s+1:=Ab
    have n5:¬2=s+1+1:=Ab
    have n6:¬s=2:=Ab
    simp +decide only[↓vS,vT,simprocAttr,hlt',hlt,h3,hel,zn,n0,n1,n2,n3];refine hn.sc ?_
    have e0:∀(tf:Tr Blk),(∀c,c<s->c≠2->c≠bo->tf.get c=tr.get c)->bo≠0/\bo≠1\/A.length=0->(A.length=0->∀c,c<s->c≠2->tf.get c=tr.get c)->tf.get 0=some (.v [.j x.arch,.fz x.rules.length (rR x.rules),.w x.dflt])/\∃a b c,tf.get 1=some (.v [a,b,c]):=λtf q1 q2 q3=>Ag
    by_cases hk:qco x.dflt q=true
    .rw[if_pos hk]at hA2;have app:∀k:Prop,(∀(u:IntKind),True)->k->k:=λ_ _ h=>h
     have hcond:(0:Int)<(q.tests.length:Int)\/¬(0:Int)<(q.tests.length:Int)/\¬q.act=x.dflt:=by
      simp only[qco,zzO,zzb]at hk;exact Ab
     by_cases hz:A.length=0
     .have hV:qdR A.length bo = .nils:=E4
      have hAn:A=[]:=Ag
      rw[hV]at t2
      have fin:∀tf tt,(∀c,c<s->c≠2->tf.get c=tr.get c)->tf.get 2=some (.v [.j x.arch,.own (s+1+1) 1,.w x.dflt])->tf.get (s+1+1)=some (.cells 3 true true [.w q.nr,.fz q.tests.length (rT q.tests),.w q.act])->Has tt [(1,.ptr 0 0),(2,.ptr 1 0),(4,.ptr 2 0),(17,.fz x.rules.length (rR x.rules)),(18,.j (x.rules.length:Int)),(19,.j ((i+1:Nat):Int))]->G tt ⟨s+1+1+1,0,tf⟩:=λtf tt q1 q2 q3 q4=>by
       refine ih (i+1,s+1+1) _ _ Ab q4 ⟨Ab,_,tf,rfl,Ab,Ag,Ag,?_,λ_=>⟨?_,Ab,Ab⟩⟩
       .simp only[hA2,hAn];rw[q2];rfl
       .simp only[hA2,hAn];rw[q3];simp[rR,zn]
      rcases hcond with hc1|⟨hc1,hc2⟩
      .simp +decide only[↓vS,vT,simprocAttr,hc1,t2,n0,n1,n2,n3,n4,n5,n6,hw1];refine fin _ _ (λc c1 c2=>?_) Bu ?_ Am
       .simp only[zz4];repeat rw[if_neg Ab]
       exact A5
      .simp +decide only[↓vS,vT,simprocAttr,hc1,hc2,t0,t2,n0,n1,n2,n3,n4,n5,n6,hw1];refine fin _ _ (λc c1 c2=>?_) Bu ?_ Am
       .simp only[zz4];repeat rw[if_neg Ab]
       exact A5
     .obtain⟨o1,o2,o3⟩:=to hz;have hV:qdR A.length bo = .own bo A.length:=E4
      rw[hV]at t2;have m1:¬bo=s:=Ab
      have m2:¬bo=s+1:=Ab
      have m3:¬s+1=bo:=Ab
      have m4:¬2=bo:=Ab
      have rr1:A.length+1<=qe:=by simp only[qe];exact Ab
      have rr2:(A.length+1)*40<=qe:=by simp only[qe];exact Ab
      have hrl:(rR A).length=A.length*3:=qfM
      have fin:∀tf tt,(∀c,c<s->c≠2->c≠bo->tf.get c=tr.get c)->tf.get 2=some (.v [.j x.arch,.own (s+1+1) (A.length+1),.w x.dflt])->tf.get (s+1+1)=some (.cells 3 true true (rR A++[.w q.nr,.fz q.tests.length (rT q.tests),.w q.act]))->Has tt [(1,.ptr 0 0),(2,.ptr 1 0),(4,.ptr 2 0),(17,.fz x.rules.length (rR x.rules)),(18,.j (x.rules.length:Int)),(19,.j ((i+1:Nat):Int))]->G tt ⟨s+1+1+1,0,tf⟩:=λtf tt q1 q2 q3 q4=>by
       refine ih (i+1,s+1+1) _ _ Ab q4 ⟨Ab,_,tf,rfl,Ab,Ag,Ag,?_,λ_=>⟨?_,Ab,Ab⟩⟩
       .simp only[hA2];rw[q2];simp[qdR]
       .simp only[hA2];rw[q3,<- qsx];simp[rR,zn]
      rcases hcond with hc1|⟨hc1,hc2⟩
      .simp +decide only[↓vS,vT,simprocAttr,hc1,t2,o1,m1,m2,m3,m4,rr1,rr2,hrl,n0,n1,n2,n3,n4,n5,n6,hw1];refine fin _ _ (λc c1 c2 c3=>?_) Bu ?_ Am
       .simp only[zz4];repeat rw[if_neg Ab]
       exact A5
      .simp +decide only[↓vS,vT,simprocAttr,hc1,hc2,t0,t2,o1,m1,m2,m3,m4,rr1,rr2,hrl,n0,n1,n2,n3,n4,n5,n6,hw1];refine fin _ _ (λc c1 c2 c3=>?_) Bu ?_ Am
       .simp only[zz4];repeat rw[if_neg Ab]
       exact A5
    .rw[if_neg hk,List.append_nil]at hA2;have hc1:¬(0:Int)<(q.tests.length:Int):=λh=>hk (by simp only[qco,zzO,zzb];exact Ab)
     have hc2:q.act=x.dflt:=by
      rcases Classical.em (q.act=x.dflt)with h|h
      .exact h
      .exact absurd (by simp[qco,h]) hk
     simp +decide only[↓vS,vT,simprocAttr,hc1,eq_true hc2,t0,n0,n1,n2,n3,hw1];refine ih (i+1,bo) _ _ Ab Am ⟨Ab,s+1,_,rfl,Ab,?_,⟨a,b,c,?_⟩,?_,λhz=>?_⟩
     .exact A5
     .exact A5
     .exact A5
     .simp only[hA2]at hz ⊢;obtain⟨o1,o2,o3⟩:=to hz;refine⟨?_,o2,Ab⟩
      simp only[zz4];exact Ag
   .obtain rfl:i=x.rules.length:=Ab
    have hlt':¬((x.rules.length:Int)<x.rules.length):=Ab
    rw[zz0]at hA;have hnF:(kg x).rules=A:=hA.symm
    by_cases hz:A.length=0
    .have hV:qdR A.length bo = .nils:=E4
     have hAn:A=[]:=Ag
     rw[hV]at t2;refine Sa (zzA hlt' (zzA t2 t1)) ?_;simp only[ze,hnF,hAn];simp[vZ,vP,zz4,rR,kg]
    .obtain⟨o1,o2,o3⟩:=to hz;have hV:qdR A.length bo = .own bo A.length:=E4
     have m1:¬bo=1:=Ab
     rw[hV]at t2;refine Sa (zzA hlt' (zzA t2 t1)) ?_;simp only[ze,hnF];have hA0:¬A=[]:=Ag;simp[vZ,vP,zz4,o1,m1,qP qu,hA0,kg]
  .exact Am
  .refine⟨zzu _,_,_,rfl,Ab,?_,⟨.j 0,.nils,.w 0,?_⟩,?_,Ae⟩
   .exact Be
   .exact Be
   .simp[zz4,qdR]
def WkB(fl:List AV)(ar row prg:AV):Blk:=.v (fl++[ar,row,prg])
section
variable {b s:Nat}{tr:Tr Blk}{k:AV->Hp->Prop}{x:GFil}{ar row prg:AV}
def xC(a:Nat):IFn:=irJ 46 [98,a]
def qnO{g:Nat}(hc:Ck P f (xC g))(fl:List AV)(hfl:fl.length=3)(h:tr.get b=some (WkB fl ar row prg))(r:AV)(e:Int)(hr:zM r=true/\qdJ r=true/\cellsOf r=[r])(hg:qc P g [.agg fl] (.tup [r,.j e]))
  (hk:∀tr',(∀c,c≠b->tr'.get c=tr.get c)->tr'.get b=some (WkB fl ar r prg)->k (.j e) ⟨s,0,tr'⟩):SC P f [.ptr b 0] ⟨s,0,tr⟩ k:=by
 obtain⟨a1,a2,a3,rfl⟩:∃a1 a2 a3,fl=[a1,a2,a3]:=by
  match fl,hfl with
  | [a1,a2,a3],_=>exact Ae
 obtain⟨r1,r2,r3⟩:=hr;simp only[WkB,zzC,zzN]at h hk;refine Bg ?_;simp only[xC,vI,simprocAttr];exact Bo
def xI(a:Nat):IFn:=irJ 48 [100,a]
def qnP{g:Nat}(hc:Ck P f (xI g))(fl:List AV)(hfl:fl.length=3)(h:tr.get b=some (WkB fl ar row prg))(fl2:List AV)(hf2:fl2.length=3)(e:Int)(hr:qQ fl2=true)(hg:qc P g [.agg fl] (.tup [.agg fl2,.j e]))
  (hk:∀tr',(∀c,c≠b->tr'.get c=tr.get c)->tr'.get b=some (WkB fl2 ar row prg)->k (.j e) ⟨s,0,tr'⟩):SC P f [.ptr b 0] ⟨s,0,tr⟩ k:=by
 obtain⟨a1,a2,a3,rfl⟩:∃a1 a2 a3,fl=[a1,a2,a3]:=by
  match fl,hfl with
  | [a1,a2,a3],_=>exact Ae
 obtain⟨c1,c2,c3,rfl⟩:∃a1 a2 a3,fl2=[a1,a2,a3]:=by
  match fl2,hf2 with
  | [a1,a2,a3],_=>exact Ae
 simp only[WkB,zzC,zzN]at h hk;refine Bg ?_;simp only[xI,vI,simprocAttr];refine Sa h ?_;refine hg.sc ?_;refine Sa (zzA h hr) ?_
 exact Gf
def xp(a:Nat):IFn:=irJ 63 [114,a]
def qiE{g:Nat}(hc:Ck P f (xp g))(fl:List AV)(hfl:fl.length=3)(h:tr.get b=some (WkB fl ar row prg))(r:AV)(e:Int)(hr:zM r=true/\qdJ r=true/\cellsOf r=[r])(hg:qc P g [ar] (.tup [r,.j e]))
  (hk:∀tr',(∀c,c≠b->tr'.get c=tr.get c)->tr'.get b=some (WkB fl ar r prg)->k (.j e) ⟨s,0,tr'⟩):SC P f [.ptr b 0] ⟨s,0,tr⟩ k:=by
 obtain⟨a1,a2,a3,rfl⟩:∃a1 a2 a3,fl=[a1,a2,a3]:=by
  match fl,hfl with
  | [a1,a2,a3],_=>exact Ae
 obtain⟨r1,r2,r3⟩:=hr;simp only[WkB,zzC,zzN]at h hk;refine Bg ?_;simp only[xp,vI,simprocAttr];exact Bo
def zr(a:Nat):IFn:=irJ 49 [101,a]
def qnN{g:Nat}(hc:Ck P f (zr g))(fl:List AV)(hfl:fl.length=3)(h:tr.get b=some (WkB fl ar row prg))(r:AV)(e:Int)(hr:zM r=true/\qdJ r=true/\cellsOf r=[r])(hg:qc P g [row] (.tup [r,.j e]))
  (hk:∀tr',(∀c,c≠b->tr'.get c=tr.get c)->tr'.get b=some (WkB fl ar r prg)->k (.j e) ⟨s,0,tr'⟩):SC P f [.ptr b 0] ⟨s,0,tr⟩ k:=by
 obtain⟨a1,a2,a3,rfl⟩:∃a1 a2 a3,fl=[a1,a2,a3]:=by
  match fl,hfl with
  | [a1,a2,a3],_=>exact Ae
 obtain⟨r1,r2,r3⟩:=hr;simp only[WkB,zzC,zzN]at h hk;refine Bg ?_;simp only[zr,vI,simprocAttr];exact Bo
def qZ(a:Nat):IFn:=irJ 47 [99,a]
def qgU{g:Nat}(hc:Ck P f (qZ g))(fl:List AV)(hfl:fl.length=3)(h:tr.get b=some (WkB fl ar row prg))(r:AV)(e:Int)(hr:zM r=true/\qdJ r=true/\cellsOf r=[r])(hg:qc P g [row] (.tup [r,.j e]))
  (hk:∀tr',(∀c,c≠b->tr'.get c=tr.get c)->tr'.get b=some (WkB fl ar row r)->k (.j e) ⟨s,0,tr'⟩):SC P f [.ptr b 0] ⟨s,0,tr⟩ k:=by
 obtain⟨a1,a2,a3,rfl⟩:∃a1 a2 a3,fl=[a1,a2,a3]:=by
  match fl,hfl with
  | [a1,a2,a3],_=>exact Ae
 obtain⟨r1,r2,r3⟩:=hr;simp only[WkB,zzC,zzN]at h hk;refine Bg ?_;simp only[qZ,vI,simprocAttr];exact Bo
def za:IFn:=irJ 45 []
def qAh(hc:Ck P f za){bx e:Nat}{wf a:Bool}(gs:List Nat)(hx:tr.get bx=some (.cells e wf a (gs.map λg=>.fn g [.ptr b 0] [])))(hbx:bx≠b)(J:Nat->AV->Blk->Prop)(n:Nat)(hn:gs.length=n)(hn9:n<=9)
  (B0:Blk) (h0:tr.get b=some B0) (hJ0:J 0 (.j 0) B0)
  (step:∀(i:Nat) g B (s':Nat) (tr':Tr Blk) (k':AV->Hp->Prop),gs[i]?=some g->J i (.j 0) B->tr'.get b=some B->(∀(v:Int) B' tr2,(∀c,c≠b->tr2.get c=tr'.get c)->tr2.get b=some B'->J (i+1) (.j v) B'->k' (.j v) ⟨s',0,tr2⟩)->SC P g [.ptr b 0] ⟨s',0,tr'⟩ k')
  (hbad:∀(i:Nat) (v:Int) B tr2,(∀c,c≠b->tr2.get c=tr.get c)->v≠0->J i (.j v) B->k (.tup [.nils,.j v]) ⟨s,0,tr2⟩)
  (hok:∀B tr2,(∀c,c≠b->tr2.get c=tr.get c)->J n (.j 0) B->tr2.get b=some B->∃fl ar row prg,fl.length=3/\B=WkB fl ar row prg/\k (.tup [prg,.j 0]) ⟨s,0,tr2⟩) :
  SC P f [.ptr b 0,.sl bx 0 n n false] ⟨s,0,tr⟩ k:=by
 refine Bg ?_;simp only[za,vI,simprocAttr];refine Aa ?_
 refine SL.loopP (α:=Nat) (λi=>[(0,.ptr b 0),(9,.sl bx 0 n n false),(10,.j (n:Int)),(11,.j (i:Int))])
  (λi h=>i<=n/\∃tr' B,h=⟨s,0,tr'⟩/\(∀c,c≠b->tr'.get c=tr.get c)/\tr'.get bx=some (.cells e wf a (gs.map λg=>.fn g [.ptr b 0] []))/\tr'.get b=some B/\J i (.j 0) B) (λi=>n-i) ?_ 0 ?_ ?_
 .rintro i h ⟨hi,tr',B,rfl,gf,gx,gb,hj⟩ G ih;refine Ak ?_
  by_cases hlt:i<n
  .have hlt':(i:Int)<n:=Ab
   obtain⟨g,hg⟩:∃g,gs[i]?=some g:=⟨_,zzE Ab⟩;have hgm:(gs.map λg=>AV.fn g [.ptr b 0] [])[i]?=some (.fn g [.ptr b 0] []):=by simp[hg]
   have hw1:=wS i;simp +decide only[↓vS,vT,simprocAttr,hlt',hlt,gx,hgm,zzU];refine step i g B s tr' _ hg hj gb λv B' tr2 q1 q2 q3=>?_
   by_cases hv:v=0
   .subst hv;refine Sa hw1 ?_;exact ih (i+1) _ _ Ab Am Ag
   .refine Sa hv ?_;exact Ag
  .obtain rfl:i=n:=Ab
   have hlt':¬((i:Int)<i):=Ab
   obtain⟨fl,ar,row,prg,hfl,hB,hk⟩:=hok B tr' gf hj gb
   obtain⟨a1,a2,a3,rfl⟩:∃a1 a2 a3,fl=[a1,a2,a3]:=by
    match fl,hfl with
    | [a1,a2,a3],_=>exact Ag
   rw[hB]at gb;simp only[WkB,zzC,zzN]at gb;refine Sa (zzA hlt' gb) ?_;exact hk
 all_goals grind[qj,qn,Tr.get_set]
def qil(hc:Ck P f za){bx e:Nat}{wf a:Bool}(gs:List Nat)(hx:tr.get bx=some (.cells e wf a (gs.map λg=>.fn g [.ptr b 0] [])))(hbx:bx≠b)(Bs:Nat->Blk)(vs:Nat->Int)(n:Nat)(hn:gs.length=n)(hn9:n<=9)(h0:tr.get b=some (Bs 0))(hv0:vs 0=0)
  (step:∀(i:Nat) g (s':Nat) (tr':Tr Blk) (k':AV->Hp->Prop),gs[i]?=some g->(∀j,j<=i->vs j=0)->tr'.get b=some (Bs i)->(∀tr2,(∀c,c≠b->tr2.get c=tr'.get c)->tr2.get b=some (Bs (i+1))->k' (.j (vs (i+1))) ⟨s',0,tr2⟩)->SC P g [.ptr b 0] ⟨s',0,tr'⟩ k')
  (hbad:∀(i:Nat) tr2,(∀c,c≠b->tr2.get c=tr.get c)->vs i≠0->(∀j,j<i->vs j=0)->k (.tup [.nils,.j (vs i)]) ⟨s,0,tr2⟩)
  (hok:∀tr2,(∀c,c≠b->tr2.get c=tr.get c)->(∀j,j<=n->vs j=0)->tr2.get b=some (Bs n)->∃fl ar row prg,fl.length=3/\Bs n=WkB fl ar row prg/\k (.tup [prg,.j 0]) ⟨s,0,tr2⟩) :
  SC P f [.ptr b 0,.sl bx 0 n n false] ⟨s,0,tr⟩ k:=by
 refine qAh hc gs hx hbx (λi v B=>v = .j (vs i)/\B=Bs i/\∀j,j<i->vs j=0) n hn hn9 (Bs 0) h0 ⟨by rw[hv0],rfl,λj hj=>Ab⟩ ?_ ?_ ?_
 .rintro i g B s' tr' k' hg ⟨h1,rfl,h2⟩ hB hk';have hvi:vs i=0:=Ag
  refine step i g s' tr' k' hg (λj hj=>?_) hB λtr2 q1 q2=>hk' _ _ _ q1 q2 ⟨rfl,rfl,λj hj=>?_⟩
  .rcases Nat.lt_or_ge j i with h|h
   .exact h2 j h
   .rw[show j=i from Ab];exact hvi
  .rcases Nat.lt_or_ge j i with h|h
   .exact h2 j h
   .rw[show j=i from Ab];exact hvi
 all_goals grind
def jP:IFn:=irJ 50 []
def qjF(v:AV)(p:List Ins):Prop:=v = .fz p.length (rP p)\/v = .nils/\p=[]
def qeP(u v:List Ins×Int):List Ins×Int:=if v.2≠0\/(u.2=0/\u.1.length<v.1.length)then u else v
def qjF.clo{v:AV}{p:List Ins}(h:qjF v p):Go.Kc.clo v=true:=by
 rcases h with rfl|⟨rfl,_⟩
 .simp[Go.Kc.clo,qo]
 .rfl
def qkD(hc:Ck P f jP)(u v:List Ins×Int)(x y:AV)(hx:qjF x u.1)(hy:qjF y v.1) :
  ∃z,qjF z (qeP u v).1/\qc P f [x,.j u.2,y,.j v.2] (.tup [z,.j (qeP u v).2]):=by
 have key:∀(h:Bool),(decide (v.2≠0\/(u.2=0/\u.1.length<v.1.length)))=h->qc P f [x,.j u.2,y,.j v.2] (.tup [if h=true then x else y,.j (if h=true then u.2 else v.2)]):=by
  intro h hh;refine qc.mk hc (by simp[qt,Go.Kc.clo,hx.clo,hy.clo]) ?_;simp only[jP,vI,simprocAttr]
  by_cases h1:v.2=0
  .by_cases h2:u.2=0
   .have e:h=decide (u.1.length<v.1.length):=by rw[<- hh];simp[h1,h2]
    rw[e];rcases hx with rfl|⟨rfl,hx⟩<;>rcases hy with rfl|⟨rfl,hy⟩
    .by_cases h3:u.1.length<v.1.length
     .exact G7
     .exact G7
    .have h3:¬u.1.length<v.1.length:=by rw[hy];simp
     have h3':¬(u.1.length:Int)<0:=Ab
     exact Jz
    .rw[hx]
     by_cases h3:0<v.1.length
     .have h3':(0:Int)<v.1.length:=Ab
      exact Jz
     .have h3':¬(0:Int)<v.1.length:=Ab
      refine Sa (zzA h1 (zzA h2 (zzA h3' h3))) ?_;simp[vZ,qP (qo _)]
    .rw[hx,hy];exact Dv
   .have e:h=false:=by rw[<- hh];simp[h1,h2]
    rw[e];refine Sa (zzA h1 h2) ?_;simp[vZ,h1,Frz.self hy.clo]
  .have e:h=true:=by rw[<- hh];simp[h1]
   rw[e];refine Sa h1 ?_;simp[vZ,Frz.self hx.clo]
 unfold qeP
 exact Ag
end
def xu(l:List Sy):List Ins×Int:=if 4096<(jZ l).length then([],270)else(jZ l,0)
def ql5{l:List Sy}:qjK l = .tup [.fz (xu l).1.length (rP (xu l).1),.j (xu l).2]:=by
 unfold qjK xu;split<;>rfl
def qcw(l:List Sy):List Sy:=qh6 (qp2 (qgn l))
def qgW(x:GFil):List Ins×Int:=if wZ x=true then xu (zK x)else([],210)
def qhz(x:GFil):List Ins×Int:=if wZ x=true then xu (qcw (zK (kg x)))else([],210)
def qes(x:GFil)(o:Bool):List Ins×Int:=if o=true then qeP (qgW x) (qhz x)else qgW x
structure CmpFn (P:Program) (gE gN gO gL:Nat) (x:GFil):Prop where
 em:qc P gE [.agg (ze x)] (qqd x)
 nm:qc P gN [.agg (ze x)] (qum x)
 lk:wZ x=true->qc P gL [.fz (zK x).length (rSy (zK x))] (qjK (zK x))
 em2:wZ x=true->qc P gE [.agg (ze (kg x))] (qqd (kg x))
 ok2:wZ x=true->wZ (kg x)=true
 op:wZ x=true->qc P gO [.fz (zK (kg x)).length (rSy (zK (kg x)))] (.tup [.fz (qcw (zK (kg x))).length (rSy (qcw (zK (kg x)))),.j 0])
 lk2:wZ x=true->qc P gL [.fz (qcw (zK (kg x))).length (rSy (qcw (zK (kg x))))] (qjK (qcw (zK (kg x))))
section
variable {gE gN gO gL b s:Nat}{tr:Tr Blk}{k:AV->Hp->Prop}{x:GFil}
def qk3{n:Nat}{cs:List AV}:zM (.fz n cs)=true/\qdJ (.fz n cs)=true/\cellsOf (.fz n cs)=[.fz n cs]:=⟨rfl,rfl,rfl⟩
def qDf{gd gwE gwL bx:Nat}{e:Nat}{wf a:Bool}(hc:Ck P gd za)(hE:Ck P gwE (xC gE))(hL:Ck P gwL (qZ gL))(C:CmpFn P gE gN gO gL x)
  (hx:tr.get bx=some (.cells e wf a [.fn gwE [.ptr b 0] [],.fn gwL [.ptr b 0] []])) (hbx:bx≠b) (h0:tr.get b=some (WkB (ze x) .nils .nils .nils))
  (hk:∀v tr2,qjF v (qgW x).1->(∀c,c≠b->tr2.get c=tr.get c)->k (.tup [v,.j (qgW x).2]) ⟨s,0,tr2⟩):SC P gd [.ptr b 0,.sl bx 0 2 2 false] ⟨s,0,tr⟩ k:=by
 have hE':=C.em;cases hK:wZ x with
 | false =>
  have e1:qgW x=([],210):=by unfold qgW;exact Ag
  rw[e1]at hk;unfold qqd at hE';rw[hK,if_neg (by simp)]at hE';refine qil hc [gwE,gwL] Dm hbx (λi=>if i=0 then WkB (ze x) .nils .nils .nils else WkB (ze x) .nils (.fz 0 []) .nils) (λi=>if i=0 then 0 else 210) 2 rfl Ab h0 rfl ?_ ?_ ?_
  .intro i g s' tr' k' hg hj hB hk'
   have hi:i=0:=Ae
   subst hi;exact Ih
  .intro i tr2 hf hv hj;have hi:i≠0:=Ab
   exact C0
  .intro tr2 _ hj _;have:=hj 1 Ab;exact Ab
 | true =>
  have hL':=C.lk hK;rw[ql5]at hL';have e1:qgW x=xu (zK x):=by unfold qgW;exact Ag
  rw[e1]at hk;unfold qqd at hE';rw[hK,if_pos rfl]at hE'
  refine qil hc [gwE,gwL] Dm hbx (λi=>if i=0 then WkB (ze x) .nils .nils .nils else if i=1 then WkB (ze x) .nils (.fz (zK x).length (rSy (zK x))) .nils else WkB (ze x) .nils (.fz (zK x).length (rSy (zK x))) (.fz (xu (zK x)).1.length (rP (xu (zK x)).1)))
   (λi=>if i=0 then 0 else if i=1 then 0 else(xu (zK x)).2) 2 rfl Ab h0 rfl ?_ ?_ ?_
  .intro i g s' tr' k' hg hj hB hk';have hi:i<2:=by have:=(zzS.1 hg).1;exact Ab
   have hi2:i=0\/i=1:=Ab
   rcases hi2 with rfl|rfl
   .exact Ih
   .simp at hg;subst hg;exact qgU hL (ze x) rfl hB _ _ qk3 hL' hk'
  .intro i tr2 hf hv hj;have h0':i≠0:=Ab
   have h1':i≠1:=Ab
   simp only[if_neg h0',if_neg h1']at hv ⊢
   have e2:(xu (zK x)).1=[]:=by
    unfold xu at hv ⊢
    exact Ag
   exact hk _ _ (.inr ⟨rfl,e2⟩) hf
  .intro tr2 hf hj hB;have hz:=hj 2 Ab;simp at hz;refine⟨ze x,.nils,_,_,rfl,rfl,?_⟩;have:=hk (.fz (xu (zK x)).1.length (rP (xu (zK x)).1)) tr2 (.inl rfl) hf;rw[hz]at this;exact Ab
def qDe{gd gwN gwE gwO gwL bx:Nat}{e:Nat}{wf a:Bool}(hc:Ck P gd za)(hN:Ck P gwN (xI gN))(hE:Ck P gwE (xC gE))(hO:Ck P gwO (zr gO))(hL:Ck P gwL (qZ gL))(C:CmpFn P gE gN gO gL x)
  (hx:tr.get bx=some (.cells e wf a [.fn gwN [.ptr b 0] [],.fn gwE [.ptr b 0] [],.fn gwO [.ptr b 0] [],.fn gwL [.ptr b 0] []])) (hbx:bx≠b) (h0:tr.get b=some (WkB (ze x) .nils .nils .nils))
  (hk:∀v tr2,qjF v (qhz x).1->(∀c,c≠b->tr2.get c=tr.get c)->k (.tup [v,.j (qhz x).2]) ⟨s,0,tr2⟩):SC P gd [.ptr b 0,.sl bx 0 4 4 false] ⟨s,0,tr⟩ k:=by
 have hN':=C.nm;cases hK:wZ x with
 | false =>
  have e1:qhz x=([],210):=by unfold qhz;exact Ag
  rw[e1]at hk;unfold qum at hN';rw[hK,if_neg (by simp)]at hN';refine qil hc [gwN,gwE,gwO,gwL] Dm hbx (λi=>if i=0 then WkB (ze x) .nils .nils .nils else WkB [.j 0,.fz 0 [],.w 0] .nils .nils .nils) (λi=>if i=0 then 0 else 210) 4 rfl Ab h0 rfl ?_ ?_ ?_
  .intro i g s' tr' k' hg hj hB hk'
   have hi:i=0:=Ae
   subst hi;simp at hg;subst hg;exact qnP hN (ze x) rfl hB [.j 0,.fz 0 [],.w 0] rfl _ rfl hN' hk'
  .intro i tr2 hf hv hj;have hi:i≠0:=Ab
   exact C0
  .intro tr2 _ hj _;have:=hj 1 Ab;exact Ab
 | true =>
  obtain⟨y,hy⟩:∃y,y=kg x:=⟨_,rfl⟩;obtain⟨m,hm⟩:∃m,m=qcw (zK y):=⟨_,rfl⟩;have hL':=C.lk2 hK;have hE':=C.em2 hK;have hO':=C.op hK;have hK2:=C.ok2 hK;have e1:qhz x=xu (qcw (zK (kg x))):=by unfold qhz;exact Ag
  rw[e1]at hk;unfold qum at hN';rw[hK,if_pos rfl]at hN';rw[<- hy]at hL' hE' hO' hK2 hN' hk;unfold qqd at hE';rw[hK2,if_pos rfl]at hE';rw[<- hm]at hL' hO' hk;rw[ql5]at hL'
  refine qil hc [gwN,gwE,gwO,gwL] Dm hbx (λi=>if i=0 then WkB (ze x) .nils .nils .nils else if i=1 then WkB (ze y) .nils .nils .nils else if i=2 then WkB (ze y) .nils (.fz (zK y).length (rSy (zK y))) .nils else if i=3 then WkB (ze y) .nils (.fz m.length (rSy m)) .nils else WkB (ze y) .nils (.fz m.length (rSy m)) (.fz (xu m).1.length (rP (xu m).1)))
   (λi=>if i=0 then 0 else if i=1 then 0 else if i=2 then 0 else if i=3 then 0 else(xu m).2) 4 rfl Ab h0 rfl ?_ ?_ ?_
  .intro i g s' tr' k' hg hj hB hk';have hi:i<4:=by have:=(zzS.1 hg).1;exact Ab
   have hi2:i=0\/i=1\/i=2\/i=3:=Ab
   rcases hi2 with rfl|rfl|rfl|rfl
   .simp at hg;subst hg;exact qnP hN (ze x) rfl hB (ze y) rfl _ rfl hN' hk'
   .simp at hg;subst hg;exact qnO hE (ze y) rfl hB _ _ qk3 hE' hk'
   .simp at hg;subst hg;exact qnN hO (ze y) rfl hB _ _ qk3 hO' hk'
   .simp at hg;subst hg;exact qgU hL (ze y) rfl hB _ _ qk3 hL' hk'
  .intro i tr2 hf hv hj;have h0':i≠0:=Ab
   have h1':i≠1:=Ab
   have h2':i≠2:=Ab
   have h3':i≠3:=Ab
   simp only[if_neg h0',if_neg h1',if_neg h2',if_neg h3']at hv ⊢
   have e2:(xu m).1=[]:=by
    unfold xu at hv ⊢
    exact Ag
   exact hk _ _ (.inr ⟨rfl,e2⟩) hf
  .intro tr2 hf hj hB;have hz:=hj 4 Ab;simp at hz;refine⟨ze y,.nils,_,_,rfl,rfl,?_⟩;have:=hk (.fz (xu m).1.length (rP (xu m).1)) tr2 (.inl rfl) hf;rw[hz]at this;exact Ab
def qbv(a b c d e g:Nat):IFn:=irJ 13 [46,a,47,b,45,c,48,d,49,e,50,g]
theorem qjF.frz{v:AV}{p:List Ins}{h:Hp}(hv:qjF v p):Frz h v (.fz p.length (rP p)):=by
 rcases hv with rfl|⟨rfl,rfl⟩
 .exact Frz.self (by simp[Go.Kc.clo,qo])
 .exact .nilz
def qpq{gd gwN gwE gwO gwL gs:Nat}(hc:Ck P f (qbv gwE gwL gd gwN gwO gs))(hd:Ck P gd za)(hN:Ck P gwN (xI gN))(hE:Ck P gwE (xC gE))(hO:Ck P gwO (zr gO))(hL:Ck P gwL (qZ gL))
  (hs:∀(u v:List Ins×Int) (x y:AV),qjF x u.1->qjF y v.1->∃z,qjF z (qeP u v).1/\qc P gs [x,.j u.2,y,.j v.2] (.tup [z,.j (qeP u v).2])) (C:CmpFn P gE gN gO gL x) (o:Bool) :
  qc P f [.agg (ze x),.b o] (.tup [.fz (qes x o).1.length (rP (qes x o).1),.j (qes x o).2]):=by
 refine qc.mk hc (by simp[qt,Go.Kc.clo,ze,qu]) ?_;simp only[qbv,ze,vI,simprocAttr];refine Aa ?_;refine qX ?_;refine Aa ?_;refine qDf hd hE hL C (b:=1) (bx:=3) D0 Af (by simp[zz4,WkB,ze]) λv tr2 hv hf=>?_
 cases o with
 | false =>
  simp +decide only[↓vS,vT,simprocAttr,qes];simp[vZ];exact hv.frz
 | true =>
  simp +decide only[↓vS,vT,simprocAttr,qes];refine qDe hd hN hE hO hL C (b:=2) (bx:=4) D0 Af (by rw[zz4,if_neg Af,hf 2 Af];simp[zz4,WkB,ze]) λw tr3 hw _=>?_
  obtain⟨z,hz1,hz2⟩:=hs (qgW x) (qhz x) v w hv hw;refine Aa ?_;refine hz2.sc ?_;refine Aa ?_;simp[vZ];exact⟨hz1.frz,rfl⟩
end
end
section
def xY:List Sp->Int->Int->Prop
 | [],a,b=>a=b
 | s::l,a,b=>s.fr=a/\a<=s.to/\xY l (s.to+1) b
def xY.le:∀{l:List Sp}{a b:Int},xY l a b->a<=b
 | [],_,_,h=>by simp[xY]at h;exact Ab
 | s::l,a,b,h=>by obtain⟨h1,h2,h3⟩:=h;have:=h3.le;exact Ab
def xY.app:∀{l m:List Sp}{a b:Int},xY (l++m) a b↔∃c,xY l a c/\xY m c b
 | [],m,a,b=>by simp[xY]
 | s::l,m,a,b=>by
  simp only[zzC,xY];constructor
  .rintro⟨h1,h2,h3⟩;obtain⟨c,h4,h5⟩:=xY.app.1 h3
   exact Ag
  .rintro⟨c,⟨h1,h2,h4⟩,h5⟩;exact⟨h1,h2,xY.app.2 ⟨c,h4,h5⟩⟩
def Cov(l:List Sp)(n:Int)(w:Nat):Prop:=∃s ∈ l,s.fr<=n/\n<=s.to/\s.way=w
def quJ{l:List Sp}{s:Sp}{a:Int}(h:xY l a s.fr)(hs:s.fr<=s.to):xY (vi l s) a (s.to+1)/\∀n w,Cov l n w\/(s.fr<=n/\n<=s.to/\s.way=w)->Cov (vi l s) n w:=by
 rcases List.eq_nil_or_concat l with rfl|⟨l0,z,rfl⟩
 .refine⟨?_,?_⟩
  .simp only[xY]at h;simp only[vi,List.getElem?_nil,zzN,xY]
   exact Ae
  .rintro n w (⟨x,hx,_⟩|h)
   .cases hx
   .exact⟨s,by simp[vi],h⟩
 .rw[List.concat_eq_append]at h ⊢;have hz:(l0++[z])[(l0++[z]).length-1]?=some z:=by simp
  unfold vi;rw[hz];obtain⟨c,h1,h2⟩:=xY.app.1 h;simp only[xY]at h2;obtain⟨h2,h3,h4⟩:=h2;simp only
  by_cases hw:z.way=s.way
  .rw[if_pos hw];have e:(l0++[z]).set ((l0++[z]).length-1) ⟨z.fr,s.to,z.way⟩=l0++[⟨z.fr,s.to,z.way⟩]:=by simp
   rw[e];refine⟨xY.app.2 ⟨c,h1,h2,Ag,rfl⟩,?_⟩
   rintro n w (⟨x,hx,q1,q2,q3⟩|⟨q1,q2,q3⟩)
   .rcases zzd.1 hx with hx|hx
    .exact⟨x,List.mem_append_left _ hx,q1,q2,q3⟩
    .rw[zz1]at hx;subst hx;exact⟨_,List.mem_append_right _ (zz1.2 rfl),q1,Ag,q3⟩
   .exact⟨_,List.mem_append_right _ (zz1.2 rfl),Ag,q2,Ae⟩
  .rw[if_neg hw];refine⟨xY.app.2 ⟨s.fr,h,rfl,hs,rfl⟩,?_⟩;rintro n w (⟨x,hx,q⟩|q)
   .exact⟨x,List.mem_append_left _ hx,q⟩
   .exact⟨s,List.mem_append_right _ (zz1.2 rfl),q⟩
def qmJ:∀{m l:List Sp}{a b c:Int},xY l a b->xY m b c->xY (m.foldl vi l) a c/\∀n w,Cov l n w\/Cov m n w->Cov (m.foldl vi l) n w
 | [],l,a,b,c,h1,h2=>by
  simp only[xY]at h2;subst h2;refine⟨h1,?_⟩;rintro n w (h|⟨x,hx,_⟩)
  all_goals simp_all
 | s::m,l,a,b,c,h1,h2=>by
  obtain⟨h3,h4,h5⟩:=h2;obtain⟨p1,p2⟩:=quJ (s:=s) (by rw[h3];exact h1) Ab;obtain⟨q1,q2⟩:=qmJ p1 h5;refine⟨q1,?_⟩;rintro n w (h|⟨x,hx,hq⟩)
  .exact Ae
  .rcases zzc.1 hx with rfl|hx
   .exact Ae
   .exact q2 n w (.inr ⟨x,hx,hq⟩)
def Ups:List (Int×Nat)->Int->Prop
 | [],_=>True
 | x::l,a=>a<=x.1/\x.1<4294967296/\Ups l (x.1+1)
def qoJ{o:Nat}:∀{l:List (Int×Nat)}{a:Int},Ups l a->0<=a->a<=4294967296->xY (pcs o l a) a 4294967296/\(∀x ∈ l,Cov (pcs o l a) x.1 x.2)/\∀n:Int,a<=n->n<4294967296->(∀x ∈ l,x.1≠n)->Cov (pcs o l a) n o
 | [],a,_,h0,h1=>by
  unfold pcs;refine⟨?_,Ae,λn h2 h3 _=>?_⟩
  .split
   .exact⟨rfl,Ag,by simp only[xY];exact Ab⟩
   .simp only[xY];exact Ab
  .rw[if_pos Ab];exact⟨_,zz1.2 rfl,h2,by simp only;exact Ab,rfl⟩
 | x::l,a,hu,h0,h1=>by
  obtain⟨u1,u2,u3⟩:=hu;obtain⟨c1,c2,c3⟩:=qoJ (o:=o) u3 Ab Ab;unfold pcs
  have app:∀(b:Bool),(b=true↔a<x.1)->xY ((if a<x.1 then [⟨a,x.1-1,o⟩]else [])++⟨x.1,x.1,x.2⟩::pcs o l (x.1+1)) a 4294967296:=λ_ _=>by
   by_cases h:a<x.1
   .rw[if_pos h];exact⟨rfl,Ag,Ae,Ae,c1⟩
   .rw[if_neg h];exact⟨Ag,Ab,c1⟩
  refine⟨app (decide (a<x.1)) (by simp),λy hy=>?_,λn h2 h3 h4=>?_⟩
  .rcases zzc.1 hy with rfl|hy
   .exact⟨_,List.mem_append_right _ (List.mem_cons_self ..),Int.le_refl _,Int.le_refl _,rfl⟩
   .obtain⟨s,hs,hq⟩:=c2 y hy;exact Hz
  .have hx:=h4 x Ae;rcases Int.lt_or_gt_of_ne hx with h|h
   .obtain⟨s,hs,hq⟩:=c3 n Ab h3 Ag;exact Hz
   .rw[if_pos Ab];exact⟨_,List.mem_append_left _ (zz1.2 rfl),h2,by simp only;exact Ab,rfl⟩
def qrt{o:Nat}{m:Nat}(ho:o<m):∀{l:List (Int×Nat)}{a:Int},(∀x ∈ l,x.2<m)->∀s ∈ pcs o l a,s.way<m
 | [],a,_,s,hs=>by
  unfold pcs at hs;exact Ae
 | x::l,a,h,s,hs=>by
  unfold pcs at hs;rcases zzd.1 hs with hs|hs
  .exact Ae
  .rcases zzc.1 hs with rfl|hs
   .exact Ae
   .exact qrt ho Ag s hs
def qtK{o:Nat}:∀{l:List (Int×Nat)}{a:Int},(pcs o l a).length<=2*l.length+1
 | [],a=>by unfold pcs;split<;>simp
 | x::l,a=>by
  have:=qtK (o:=o) (l:=l) (a:=x.1+1);unfold pcs;split<;>simp<;>omega
def qzs{m:Nat}{l:List Sp}{s:Sp}(h:∀x ∈ l,x.way<m)(hs:s.way<m):∀x ∈ vi l s,x.way<m:=by
 intro x hx;unfold vi at hx
 exact Ag
def qoq{m:Nat}:∀{k l:List Sp},(∀x ∈ l,x.way<m)->(∀x ∈ k,x.way<m)->(∀x ∈ k.foldl vi l,x.way<m)/\(k.foldl vi l).length<=l.length+k.length
 | [],l,h,_=>⟨h,by simp⟩
 | s::k,l,h,hk=>by
  obtain⟨q1,q2⟩:=qoq (k:=k) (qzs h (hk s (List.mem_cons_self ..))) Ae;have:=qnD (l:=l) (s:=s);exact⟨q1,by simp only[List.foldl_cons,zze];exact Ab⟩
def qof:∀{l:List Sp}{a:Int},xY l a 4294967296->ql4 l a=true
 | [],a,h=>by simp[xY]at h;simp[ql4,h]
 | s::l,a,h=>by
  obtain⟨h1,h2,h3⟩:=h;unfold ql4;rw[if_neg Ab];exact qof h3
def qkW:∀{l:List Sp}{a b:Int},xY l a b->0<=a->b<=4294967296->SpR l
 | [],_,_,_,_,_=>λs hs=>by cases hs
 | s::l,a,b,h,h0,hb=>by
  obtain⟨h1,h2,h3⟩:=h;have:=h3.le;intro x hx;rcases zzc.1 hx with rfl|hx
  .exact Ab
  .exact qkW h3 Ab hb x hx
def qDn{m:Nat}(n:Nat):∀(l:List Sp) (a:Nat),l.length<=n->0<l.length->(∀s ∈ l,s.way<m)->∀nd ∈ xn l a,(nd.leaf=true->nd.way<m)/\(nd.leaf=false->a<nd.less/\a<nd.more/\nd.less<a+(xn l a).length/\nd.more<a+(xn l a).length)/\nd.less<a+(xn l a).length/\nd.more<a+(xn l a).length:=by
 induction n with
 | zero=>exact Ab
 | succ n ih =>
  intro l a h1 h2 hw nd hnd;have hlen:=qej (n+1) l a h1 h2;rw[xn]at hnd
  by_cases hk:l.length / 2=0
  .rw[dif_pos hk]at hnd;rw[zz1]at hnd;subst hnd;cases l<;>grind
  .rw[dif_neg hk]at hnd
   have e0:(xn l a).length=1+(xn (l.take (l.length / 2)) (a+1)).length+(xn (l.drop (l.length / 2)) (a+1+(xn (l.take (l.length / 2)) (a+1)).length)).length:=by
    grind[xn.eq_1]
   have hl1:=qej n (l.take (l.length / 2)) (a+1) Ag Ag;have hl2:=qej n (l.drop (l.length / 2)) (a+1+(xn (l.take (l.length / 2)) (a+1)).length) Ag Ag;simp at hl1 hl2;rcases zzc.1 hnd with rfl|hnd
   .refine⟨λh=>Ag,λ_=>?_,?_,?_⟩<;>simp only<;>(try refine Ab)<;>omega
   .rcases zzd.1 hnd with hnd|hnd
    .obtain⟨q1,q2,q3,q4⟩:=ih (l.take (l.length / 2)) (a+1) (by simp;exact Ab) (by simp;exact Ab) Ag nd hnd
     exact Ag
    .obtain⟨q1,q2,q3,q4⟩:=ih (l.drop (l.length / 2)) _ (by simp;exact Ab) (by simp;exact Ab) Ag nd hnd
     exact Ag
def wdD(d:GData)(k:Int):Int:=(jz d).getD (k / 4).toNat 0
inductive Ev (R:List Sy) (d:GData):Nat->Int->Int->Prop where
 | ld (p:Nat) (a r:Int) (s:Sy) (h:R[p]?=some s) (hc:s.code=32) (hn:Ev R d (p+1) (wdD d s.k) r):Ev R d p a r
 | an (p:Nat) (a r:Int) (s:Sy) (h:R[p]?=some s) (hc:s.code=84) (hn:Ev R d (p+1) (xA .u32 a s.k) r):Ev R d p a r
 | rt (p:Nat) (a:Int) (s:Sy) (h:R[p]?=some s) (hc:s.code=6):Ev R d p a s.k
 | ja (p:Nat) (a r:Int) (s:Sy) (h:R[p]?=some s) (hc:s.code=5) (hn:Ev R d s.th a r):Ev R d p a r
 | jc (p:Nat) (a r:Int) (s:Sy) (h:R[p]?=some s) (hc:qeW s.code) (hn:Ev R d (if ww s.code a s.k=true then s.th else s.el) a r):Ev R d p a r
def AtL(R:List Sy)(p:Nat)(l:List Sy):Prop:=∀(j:Nat) s,l[j]?=some s->R[p+j]?=some s
theorem AtL.self{R:List Sy}:AtL R 0 R:=λj s h=>by rw[Nat.zero_add];exact h
def AtL.app{R:List Sy}{p:Nat}{l m:List Sy}(h:AtL R p (l++m)):AtL R p l/\AtL R (p+l.length) m:=by
 refine⟨λj s hj=>h j s (by rw[zzj Ag];exact hj),λj s hj=>?_⟩
 have:=h (l.length+j) s (by rw[zzr Ab,Nat.add_sub_cancel_left];exact hj)
 rw[Nat.add_assoc];exact Ab
def AtL.hd{R:List Sy}{p:Nat}{s:Sy}{l:List Sy}(h:AtL R p (s::l)):R[p]?=some s/\AtL R (p+1) l:=by
 refine⟨by simpa using h 0 s rfl,λj x hj=>?_⟩
 have:=h (j+1) x (by simpa using hj);rw[show p+1+j=p+(j+1)from Ab];exact Ab
def qdc(l:List Sy)(p n:Nat):Prop:=∀(j:Nat) s,l[j]?=some s->qge s (p+j) n
def qdc.app{l m:List Sy}{p n:Nat}(h1:qdc l p n)(h2:qdc m (p+l.length) n):qdc (l++m) p n:=by
 intro j s hj;rw[List.getElem?_append]at hj;split at hj
 .exact h1 j s hj
 .rename_i hlt;have:=h2 _ s hj;rw[show p+l.length+(j-l.length)=p+j from Ab]at this;exact Ab
theorem qdc.nil{p n:Nat}:qdc [] p n:=λj s h=>Ag
theorem qdc.cons{s:Sy}{l:List Sy}{p n:Nat}(h1:qge s p n)(h2:qdc l (p+1) n):qdc (s::l) p n:=by
 intro j x hj;cases j with
 | zero=>exact Ae
 | succ j=>have:=h2 j x (by simpa using hj);rw[show p+1+j=p+(j+1)from Ab]at this;exact Ab
def qz6(n:Nat):∀(l:List Sp) (a:Nat),l.length<=n->0<l.length->∀(i:Nat) nd,(xn l a)[i]?=some nd->nd.leaf=false->a+i<nd.less/\a+i<nd.more:=by
 induction n with
 | zero=>exact Ab
 | succ n ih =>
  intro l a h1 h2 i nd hnd hl;rw[xn]at hnd
  by_cases hk:l.length / 2=0
  .rw[dif_pos hk]at hnd
   exact Ag
  .rw[dif_neg hk]at hnd;have hl1:=qej n (l.take (l.length / 2)) (a+1) Ag Ag;cases i with
   | zero=>exact Ag
   | succ i =>
    rw[List.getElem?_cons_succ,List.getElem?_append]at hnd;split at hnd
    .have:=ih (l.take (l.length / 2)) (a+1) Ag Ab i nd hnd hl;exact Ab
    .rename_i hge;have:=ih (l.drop (l.length / 2)) _ Ag Ag _ nd hnd hl;exact Ab
def qDm{T:List Nd}{FW:Nat->Nat}{b:Nat}{n:Int}{Q:Nat->Prop}(hQ:∀(i:Nat) nd,T[i]?=some nd->nd.leaf=false->Q (if nd.at'<=n then plc FW T b nd.more else plc FW T b nd.less)->Q (plc FW T b i))(m:Nat) :
  ∀(l:List Sp) (a:Nat) (c e:Int),l.length<=m->0<l.length->xY l c e->(∀(j:Nat) nd,(xn l a)[j]?=some nd->T[a+j]?=some nd)->∀w,Cov l n w->Q (FW w)->Q (plc FW T b a):=by
 induction m with
 | zero=>exact Ab
 | succ m ih =>
  intro l a c e h1 h2 hc hT w hw hq;rw[xn]at hT
  by_cases hk:l.length / 2=0
  .rw[dif_pos hk]at hT;obtain⟨s,rfl⟩:∃s,l=[s]:=List.length_eq_one_iff.1 Ab;have h0:=hT 0 _ rfl;rw[Nat.add_zero]at h0;obtain⟨x,hx,_,_,rfl⟩:=hw;rw[zz1]at hx;subst hx;unfold plc;rw[h0];exact Ae
  .rw[dif_neg hk]at hT;have h0:=hT 0 _ rfl;rw[Nat.add_zero]at h0;obtain⟨z,hz⟩:∃z,l[l.length / 2]?=some z:=⟨_,zzE Ab⟩;have hzD:l.getD (l.length / 2) ⟨0,0,0⟩=z:=by rw[zzs,hz];rfl
   rw[hzD]at h0;have hsplit:l=l.take (l.length / 2)++l.drop (l.length / 2):=Ae
   rw[hsplit]at hc;obtain⟨q,hc1,hc2⟩:=xY.app.1 hc;have hd:l.drop (l.length / 2)=z::l.drop (l.length / 2+1):=by rw[<- (zzS.1 hz).2,List.getElem_cons_drop]
   have hq0:z.fr=q:=by rw[hd]at hc2;exact hc2.1
   -- what lies ahead ends below q;what lies behind begins at q
   have lo:∀{l:List Sp}{c e:Int},xY l c e->∀s ∈ l,c<=s.fr/\s.to<e:=by
    intro l
    induction l with
    | nil=>exact Ag
    | cons y l ihl =>
     intro c e h s hs;obtain⟨p1,p2,p3⟩:=h;have:=p3.le;rcases zzc.1 hs with rfl|hs
     all_goals grind
   refine hQ a _ h0 rfl ?_;simp only;obtain⟨s,hs,s1,s2,s3⟩:=hw;rw[hsplit]at hs;rcases zzd.1 hs with hs|hs
   .have:=lo hc1 s hs;rw[if_neg Ab];refine ih (l.take (l.length / 2)) (a+1) c q (by simp;exact Ab) (by simp;exact Ab) hc1 (λj nd hj=>?_) w ⟨s,hs,s1,s2,s3⟩ hq
    have:=hT (j+1) nd (by rw[List.getElem?_cons_succ,zzj Ag];exact hj)
    rw[show a+1+j=a+(j+1)from Ab];exact Ab
   .have:=lo hc2 s hs;rw[if_pos Ab];refine ih (l.drop (l.length / 2)) _ q e (by simp;exact Ab) (by simp;exact Ab) hc2 (λj nd hj=>?_) w ⟨s,hs,s1,s2,s3⟩ hq
    have:=hT ((xn (l.take (l.length / 2)) (a+1)).length+j+1) nd (by rw[List.getElem?_cons_succ,zzr Ab,Nat.add_sub_cancel_left];exact hj)
    rw[show a+1+(xn (l.take (l.length / 2)) (a+1)).length+j=a+((xn (l.take (l.length / 2)) (a+1)).length+j+1)from Ab];exact Ab
def qmA{T:List Nd}:∀{i:Nat}{nd:Nd},T[i]?=some nd->x7 (T.take (i+1))=x7 (T.take i)+if nd.leaf=true then 0 else 1:=by
 intro i nd h;unfold x7;rw[qbW h,List.countP_append];cases h2:nd.leaf<;>simp[h2]
def qmz{T:List Nd}{i j:Nat}(h:i<=j):x7 (T.take i)<=x7 (T.take j):=by
 have:T.take i=(T.take j).take i:=Jk
 rw[this];unfold x7
 grind[List.take_append_drop]
def qAS{FW:Nat->Nat}{T:List Nd}{b i:Nat}{nd:Nd}(h:T[i]?=some nd)(hl:nd.leaf=false):(brE FW T b T)[x7 (T.take i)]?=some ⟨53,nd.at',plc FW T b nd.more,plc FW T b nd.less⟩:=by
 have main:∀(u:List Nd) (i:Nat),u[i]?=some nd->(brE FW T b u)[x7 (u.take i)]?=some ⟨53,nd.at',plc FW T b nd.more,plc FW T b nd.less⟩:=by
  intro u
  induction u with
  | nil=>intro i h;exact G3
  | cons y u ih =>
   intro i h;cases i with
   | zero=>simp at h;subst h;simp[brE,qlb,hl,x7]
   | succ i =>
    have:=ih i Gw;simp only[brE,zzv,List.take_succ_cons,x7,List.countP_cons]at this ⊢;cases hy:y.leaf with
    | true=>simp[qlb,hy];exact this
    | false=>simp[qlb,hy];exact this
 exact Ae
def qel{a b:Nat}(ha:a<18446744073709551616)(hb:b<18446744073709551616):xA .u64 (a:Int) (b:Int)=((a &&& b:Nat):Int):=by
 have h:a &&& b<18446744073709551616:=Nat.and_lt_two_pow a (n:=64) hb;show IntKind.wrap .u64 (((BitVec.ofInt 64 (a:Int)) &&& (BitVec.ofInt 64 (b:Int))).toNat:Int)=_;rw[BitVec.ofInt_natCast,BitVec.ofInt_natCast,BitVec.toNat_and,BitVec.toNat_ofNat,BitVec.toNat_ofNat,Nat.mod_eq_of_lt ha,Nat.mod_eq_of_lt hb,jJ Ab Ab]
def qcM{a b:Nat}(ha:a<4294967296)(hb:b<4294967296):xA .u32 (a:Int) (b:Int)=((a &&& b:Nat):Int):=by
 have h:a &&& b<4294967296:=Nat.and_lt_two_pow a (n:=32) hb;show IntKind.wrap .u32 (((BitVec.ofInt 32 (a:Int)) &&& (BitVec.ofInt 32 (b:Int))).toNat:Int)=_;rw[BitVec.ofInt_natCast,BitVec.ofInt_natCast,BitVec.toNat_and,BitVec.toNat_ofNat,BitVec.toNat_ofNat,Nat.mod_eq_of_lt ha,Nat.mod_eq_of_lt hb,qao Ab Ab]
def qrZ{a b c:Nat}:a &&& b=c↔(a % 4294967296) &&& (b % 4294967296)=c % 4294967296/\(a / 4294967296) &&& (b / 4294967296)=c / 4294967296:=by
 have e1:(a % 4294967296) &&& (b % 4294967296)=(a &&& b) % 4294967296:=(Nat.and_mod_two_pow (n:=32)).symm;have e2:(a / 4294967296) &&& (b / 4294967296)=(a &&& b) / 4294967296:=(Nat.and_div_two_pow (n:=32)).symm;rw[e1,e2];exact Ab
def qlt{x m v:Int}(hx:0<=x/\x<18446744073709551616)(hm:0<=m/\m<18446744073709551616)(hv:0<=v/\v<18446744073709551616):xA .u64 x m=v↔xA .u32 (loW x) (loW m)=loW v/\xA .u32 (hiW x) (hiW m)=hiW v:=by
 obtain⟨a,rfl⟩:=Int.eq_ofNat_of_zero_le hx.1;obtain⟨b,rfl⟩:=Int.eq_ofNat_of_zero_le hm.1;obtain⟨c,rfl⟩:=Int.eq_ofNat_of_zero_le hv.1;have ha:a<18446744073709551616:=Ab
 have hb:b<18446744073709551616:=Ab
 rw[qel ha hb];have e1:loW (a:Int)=((a % 4294967296:Nat):Int):=by unfold loW;exact Ab
 have e2:loW (b:Int)=((b % 4294967296:Nat):Int):=by unfold loW;exact Ab
 have e3:loW (c:Int)=((c % 4294967296:Nat):Int):=by unfold loW;exact Ab
 have e4:hiW (a:Int)=((a / 4294967296:Nat):Int):=by unfold hiW;exact Ab
 have e5:hiW (b:Int)=((b / 4294967296:Nat):Int):=by unfold hiW;exact Ab
 have e6:hiW (c:Int)=((c / 4294967296:Nat):Int):=by unfold hiW;exact Ab
 rw[e1,e2,e3,e4,e5,e6,qcM Ab Ab,qcM Ab Ab];have:=qrZ (a:=a) (b:=b) (c:=c)
 exact Ag
def qul{x:Int}(hx:0<=x/\x<4294967296):xA .u32 x 4294967295=x:=by
 obtain⟨a,rfl⟩:=Int.eq_ofNat_of_zero_le hx.1;have:=qcM (a:=a) (b:=4294967295) Ab Af;rw[show((4294967295:Nat):Int)=4294967295 from rfl]at this
 have e:a &&& 4294967295=a:=by
  have:=Nat.and_two_pow_sub_one_eq_mod a 32;rw[show 2 ^ 32-1=4294967295 from rfl]at this
  rw[this];exact Ab
 rw[this,e]
theorem qn5{x:Int}(hx:0<=x/\x<4294967296):xA .u32 x 0=0:=by
 obtain⟨a,rfl⟩:=Int.eq_ofNat_of_zero_le hx.1;have:=qcM (a:=a) (b:=0) Ab Af
 exact Ae
def EvA(R:List Sy)(d:GData)(p:Nat)(r:Int):Prop:=∀a,Ev R d p a r
section
variable {R:List Sy}{d:GData}{p F:Nat}{r:Int}
def qtj{k m v:Int}(h:AtL R p (qex k m v p F))(hw:0<=wdD d k/\wdD d k<4294967296)(hmv:m=0->v=0)(h1:xA .u32 (wdD d k) m=v->EvA R d (p+qcy m) r)(h2:xA .u32 (wdD d k) m≠v->EvA R d F r):EvA R d p r:=by
 intro a;unfold qex qcy at *
 by_cases m0:m=0
 .rw[if_pos m0]at h1;have:=h1 (by rw[m0,hmv m0];exact qn5 hw);simpa using this a
 rw[if_neg m0]at h h1
 by_cases m1:m=4294967295
 .rw[if_pos m1]at h h1;obtain⟨g1,h⟩:=h.hd;obtain⟨g2,_⟩:=h.hd;refine .ld p a r _ g1 rfl (.jc _ _ r _ g2 (.inl rfl) ?_);rw[m1,qul hw]at h1 h2;simp only[ww]
  by_cases e:wdD d k=v
  .rw[if_pos Id];exact h1 e _
  .rw[if_neg Id];exact h2 e _
 .rw[if_neg m1]at h h1;obtain⟨g1,h⟩:=h.hd;obtain⟨g2,h⟩:=h.hd;obtain⟨g3,_⟩:=h.hd;refine .ld p a r _ g1 rfl (.an _ _ r _ g2 rfl (.jc _ _ r _ g3 (.inl rfl) ?_));simp only[ww]
  by_cases e:xA .u32 (wdD d k) m=v
  .rw[if_pos Id];exact h1 e _
  .rw[if_neg Id];exact h2 e _
def qnQ{d:GData}(hd:DatOk d)(j:Nat):0<=(jz d).getD j 0/\(jz d).getD j 0<4294967296:=by
 have:=qjZ (l:=jz d) (λc hc=>qnR hd hc) j
 exact⟨this.1,by have:=this.2;exact Ab⟩
def qHU{d:GData}{k:Int}(h0:0<=k)(h6:k<6):wdD d (16+8*k)=loW (qmy d k)/\wdD d (16+8*k+4)=hiW (qmy d k):=by
 have:k=0\/k=1\/k=2\/k=3\/k=4\/k=5:=Ab
 rcases this with rfl|rfl|rfl|rfl|rfl|rfl<;>exact⟨rfl,rfl⟩
def qpb{d:GData}(hd:DatOk d){k:Int}(h0:0<=k)(h6:k<6):0<=qmy d k/\qmy d k<18446744073709551616:=by
 have:k=0\/k=1\/k=2\/k=3\/k=4\/k=5:=Ab
 have hm:qmy d k ∈ qgT d:=by rcases this with rfl|rfl|rfl|rfl|rfl|rfl<;>simp[qmy,qgT]
 exact hd.wid _ hm
def qA8{v m:Int}(hv:0<=v/\v<18446744073709551616)(h:qdh .u64 v m=0):xA .u64 v m=v:=by
 obtain⟨a,rfl⟩:=Int.eq_ofNat_of_zero_le hv.1;have h1:IntKind.wrap .u64 (((BitVec.ofInt 64 (a:Int)) &&& ~~~ (BitVec.ofInt 64 m)).toNat:Int)=0:=h;have hlt:=((BitVec.ofInt 64 (a:Int)) &&& ~~~ (BitVec.ofInt 64 m)).isLt;rw[jJ Ab Ab]at h1;have h2:(BitVec.ofInt 64 (a:Int)) &&& ~~~ (BitVec.ofInt 64 m)=0#64:=BitVec.eq_of_toNat_eq Ae
 have bv:∀X Y:BitVec 64,X &&& ~~~ Y=0#64->X &&& Y=X:=λX Y h2=>by
  apply BitVec.eq_of_getLsbD_eq;intro i hi;have:=congrArg (λb=>b.getLsbD i) h2
  exact Ag
 have h3:=bv _ _ h2;show IntKind.wrap .u64 (((BitVec.ofInt 64 (a:Int)) &&& (BitVec.ofInt 64 m)).toNat:Int)=_;rw[h3,BitVec.ofInt_natCast,BitVec.toNat_ofNat,Nat.mod_eq_of_lt Ab,jJ Ab Ab]
structure TstG (t:GTest):Prop where
 ok:TstOk t
 sub:xA .u64 t.val t.mask=t.val
def TstG.lo{t:GTest}(h:TstG t):(loW t.mask=0->loW t.val=0)/\(hiW t.mask=0->hiW t.val=0):=by
 obtain⟨h1,h2⟩:=(qlt ⟨h.ok.v0,h.ok.v1⟩ ⟨h.ok.m0,h.ok.m1⟩ ⟨h.ok.v0,h.ok.v1⟩).1 h.sub;have e1:0<=loW t.val/\loW t.val<4294967296:=by unfold loW;exact Ab
 have e2:0<=hiW t.val/\hiW t.val<4294967296:=by have:=h.ok.v0;have:=h.ok.v1;unfold hiW;exact Ab
 grind[qn5]
def qDh{t:GTest}(ht:TstG t)(hd:DatOk d)(h:AtL R p (qjc t p))(h1:xr t d=true->r=t.act)(h2:xr t d=false->EvA R d (p+qcu t) r):EvA R d p r:=by
 obtain⟨g1,g2⟩:=h.app;obtain⟨g1,g3⟩:=g1.app;rw[qcR]at g3;rw[zzP,qcR,qcR]at g2;obtain⟨w1,w2⟩:=qHU (d:=d) ht.ok.a0 ht.ok.a1
 have hh:xr t d=decide (xA .u64 (qmy d t.arg) t.mask=t.val):=by
  unfold xr;simp[ht.ok.a0,ht.ok.a1]
 have hsp:=qlt (qpb hd ht.ok.a0 ht.ok.a1) ⟨ht.ok.m0,ht.ok.m1⟩ ⟨ht.ok.v0,ht.ok.v1⟩;refine qtj g1 (qnQ hd _) ht.lo.1 (λc1=>?_) (λc1=>h2 ?_)
 .refine qtj g3 (qnQ hd _) ht.lo.2 (λc2=>?_) (λc2=>h2 ?_)
  .intro a;obtain⟨g4,_⟩:=g2.hd
   have hc:xr t d=true:=by
    rw[hh,zzb,hsp];rw[w1]at c1;rw[w2]at c2;exact⟨c1,c2⟩
   have:=Ev.rt (d:=d) (p+qcy (loW t.mask)+qcy (hiW t.mask)) a _ (by rw[Nat.add_assoc];exact g4) rfl;rw[h1 hc];exact this
  .rw[hh,decide_eq_false_iff_not,hsp];rw[w2]at c2;exact λq=>c2 q.2
 exact Ae
def qrP(hd:DatOk d):∀{ts:List GTest}{a:Int}{p:Nat},(∀t ∈ ts,TstG t)->AtL R p (qc6 ts a p)->EvA R d p (fnd (λt=>xr t d) a ts)
 | [],a,p,_,h=>λb=>by
  rw[qjV];exact Ev.rt p b _ h.hd.1 rfl
 | t::ts,a,p,ht,h=>by
  rw[qdm];have h1:=ht t Ae;unfold qc6 at h;obtain⟨g1,g2⟩:=h.app;rw[qgo]at g2;refine qDh h1 hd g1 Ae λhc=>?_
  by_cases hm:t.mask=0
  .exfalso
   have hv:t.val=0:=by
    have:=h1.sub;rw[hm]at this;obtain⟨a,e⟩:=Int.eq_ofNat_of_zero_le h1.ok.v0;have:=qel (a:=a) (b:=0) (by have:=h1.ok.v1;exact Ab) Af
    rw[<- e]at this;simp at this;exact Ab
   have hx:=qpb hd h1.ok.a0 h1.ok.a1;obtain⟨a,e⟩:=Int.eq_ofNat_of_zero_le hx.1;have:=qel (a:=a) (b:=0) Ab Af;rw[<- e]at this;unfold xr at hc
   simp_all[TstOk.a0,TstG.ok,TstOk.a1]
  .rw[if_neg hm]at g2;rw[if_neg Ag];exact qrP hd Ae g2
theorem qq1{k m v:Int}{n:Nat}(hk:k % 4=0/\0<=k/\k<64)(h1:p+qcy m<n)(h2:p+qcy m<=F)(h3:F<n):qdc (qex k m v p F) p n:=by
 unfold qex qcy at *;split
 .exact .nil
 .rename_i m0;rw[if_neg m0]at h1 h2;split
  .rename_i m1;rw[if_pos m1]at h1 h2;refine .cons (.inl Ae) (.cons (.inr (.inr (.inr ⟨.inl rfl,?_,?_,?_,?_⟩))) .nil)<;>simp only<;>omega
  .rename_i m1;rw[if_neg m1]at h1 h2;refine .cons (.inl Ae) (.cons (.inr Ae) (.cons (.inr (.inr (.inr ⟨.inl rfl,?_,?_,?_,?_⟩))) .nil))<;>simp only<;>omega
def qz1{t:GTest}{n:Nat}(ht:TstOk t)(h:p+qcu t<n):qdc (qjc t p) p n:=by
 have h0:=ht.a0;have h6:=ht.a1;unfold qjc;have e:qcu t=qcy (loW t.mask)+qcy (hiW t.mask)+1:=rfl;refine .app (.app (qq1 Ab Ab Ab h) ?_) ?_
 .rw[qcR];grind[qq1]
 .exact .cons (.inr Ae) .nil
def qo2:∀{ts:List GTest}{a:Int}{p n:Nat},(∀t ∈ ts,TstOk t)->p+qdT ts<n->qdc (qc6 ts a p) p n
 | [],_,_,_,_,_=>.cons (.inr Ae) .nil
 | t::ts,a,p,n,ht,h=>by
  unfold qdT at h;unfold qc6;refine .app (qz1 Ae Ab) ?_;rw[qgo]
  by_cases hm:t.mask=0
  .rw[if_pos hm];exact .nil
  .rw[if_neg hm]at h ⊢;exact qo2 Ae Ab
theorem qoR:∀{rs:List GRule}{p n:Nat},(∀r ∈ rs,∀t ∈ r.tests,TstOk t)->p+zR rs<n->qdc (xK rs p) p n
 | [],_,_,_,_=>.nil
 | r::rs,p,n,ht,h=>by
  have e:zR (r::rs)=qpV r+zR rs:=by simp[zR]
  unfold xK;refine .app (qo2 Ae (by have:qdT r.tests=qpV r:=rfl;exact Ab)) ?_;rw[qnB];exact qoR Ag Ab
end
structure FilG (x:GFil):Prop where
 a0:0<=x.arch
 a6:x.arch<6
 n:x.rules.length<=400
 t32:∀r ∈ x.rules,r.tests.length<=32
 ts:∀r ∈ x.rules,∀t ∈ r.tests,TstG t
 nr:∀r ∈ x.rules,0<=r.nr/\r.nr<4294967296
 up:∃o,o=(none:Option GRule)/\upR o x.rules=true
def qwd{t:GTest}(h:qcK t=true)(hm:0<=t.mask/\t.mask<18446744073709551616)(hv:0<=t.val/\t.val<18446744073709551616):TstG t:=by
 have ha:=qo1 h;simp only[qcK,zzB,zzb]at h;exact⟨⟨ha.1,ha.2,hm.1,hm.2,hv.1,hv.2⟩,qA8 hv h.1.2⟩
def FilG.of{x:GFil}(hK:wZ x=true)(hx:FilR x):FilG x:=by
 simp only[wZ,zzB,zzb]at hK;obtain⟨⟨⟨⟨k1,k2⟩,k3⟩,k4⟩,k5⟩:=hK;have hr:=qkY k5;refine⟨k1,k2,k3,λr h=>?_,λr h t ht=>?_,hx.nr,none,rfl,k5⟩
 .have:=hr r h;simp only[qcJ,zzB,zzb]at this;exact Ab
 .have:=hr r h;simp only[qcJ,zzB,zzy]at this;have q:=hx.ts r h t ht
  simp_all[qwd]
def qo5:∀{rs:List GRule}{o:Option GRule}{k:Nat}{a:Int},upR o rs=true->(∀r ∈ rs,0<=r.nr/\r.nr<4294967296)->(match o with|none=>a=0|some b=>a=b.nr+1)->Ups (rs.mapIdx λi r=>(r.nr,i+k)) a
 | [],_,_,_,_,_,_=>by simp[Ups]
 | r::rs,o,k,a,h,hn,ha=>by
  simp only[upR,zzB]at h;obtain⟨⟨_,h1⟩,h2⟩:=h;rw[List.mapIdx_cons];have hr:=hn r Ae;refine⟨?_,hr.2,?_⟩
  .exact Ag
  .have:=qo5 (o:=some r) (k:=k+1) (a:=r.nr+1) h2 Ae rfl
   exact Ag
def FilG.ups{x:GFil}(h:FilG x):Ups (zd x.rules) 0:=by
 obtain⟨o,rfl,hu⟩:=h.up;exact qo5 hu h.nr rfl
def qo4:∀{l:List (Int×Nat)}{a:Int},Ups l a->qzL l
 | [],_,_,i,x,y,h,_=>Ag
 | [x],_,_,i,y,z,h1,h2=>Ag
 | x::y::l,a,⟨h1,h2,h3⟩,i,u,v,hu,hv=>by
  cases i with
  | zero=>simp at hu hv;subst hu hv;have:=h3.1;exact Ab
  | succ i=>exact qo4 h3 i u v Ae Ae
section
variable {x:GFil}
def FilG.spans(h:FilG x):xY (xD (pcs 0 (zd x.rules) 0)) 0 4294967296/\(∀(i:Nat) r,x.rules[i]?=some r->Cov (xD (pcs 0 (zd x.rules) 0)) r.nr (i+1))/\(∀n:Int,0<=n->n<4294967296->(∀r ∈ x.rules,r.nr≠n)->Cov (xD (pcs 0 (zd x.rules) 0)) n 0) /\
  (∀s ∈ xD (pcs 0 (zd x.rules) 0),s.way<x.rules.length+1)/\(xD (pcs 0 (zd x.rules) 0)).length<=2*x.rules.length+1:=by
 obtain⟨c1,c2,c3⟩:=qoJ (o:=0) h.ups Ab Ab;obtain⟨f1,f2⟩:=qmJ (l:=[]) (a:=0) rfl c1
 have hw:∀y ∈ zd x.rules,y.2<x.rules.length+1:=λy hy=>by
  grind[List.getElem?_of_mem,qeg]
 obtain⟨g1,g2⟩:=qoq (m:=x.rules.length+1) (k:=pcs 0 (zd x.rules) 0) (l:=[]) Ae (qrt Ab hw);have hl:=qtK (o:=0) (l:=zd x.rules) (a:=0);refine⟨f1,λi r hr=>?_,λn h0 h1 hn=>?_,g1,?_⟩
 .have hm:(r.nr,i+1) ∈ zd x.rules:=zzM (i:=i) (by rw[qeg,hr];rfl);exact f2 _ _ (.inr (c2 _ hm))
 .refine f2 _ _ (.inr (c3 n h0 h1 λy hy=>?_))
  grind[List.getElem?_of_mem,qeg]
 .rw[qc2]at hl;simp only[List.length_nil]at g2;show(List.foldl vi [] (pcs 0 (zd x.rules) 0)).length<=_;exact Ab
def FilG.pos(h:FilG x):0<(xD (pcs 0 (zd x.rules) 0)).length:=by
 obtain⟨c,_⟩:=h.spans;rcases Nat.eq_zero_or_pos (xD (pcs 0 (zd x.rules) 0)).length with h0|h0
 .rw[List.eq_nil_of_length_eq_zero h0]at c;simp[xY]at c
 exact Ab
def FilG.tlen(h:FilG x):(zj x).length+1=2*(xD (pcs 0 (zd x.rules) 0)).length:=qej _ _ 0 (zzL _) h.pos
def qn8(n:Nat):∀(l:List Sp) (a:Nat),l.length<=n->0<l.length->x7 (xn l a)+1=l.length:=by
 induction n with
 | zero=>exact Ab
 | succ n ih =>
  intro l a h1 h2;rw[xn]
  by_cases hk:l.length / 2=0
  .rw[dif_pos hk];simp[x7];exact Ab
  .rw[dif_neg hk];have e1:=ih (l.take (l.length / 2)) (a+1) (by simp;exact Ab) (by simp;exact Ab);have e2:=ih (l.drop (l.length / 2)) (a+1+(xn (l.take (l.length / 2)) (a+1)).length) (by simp;exact Ab) (by simp;exact Ab);simp only[x7,List.countP_cons,List.countP_append]at e1 e2 ⊢
   exact Ag
def FilG.dfl(h:FilG x):vz x<=4+max 1 (2*x.rules.length)/\(zj x).length<=4*x.rules.length+1:=by
 have ha:=qn8 _ (xD (pcs 0 (zd x.rules) 0)) 0 (zzL _) h.pos;have ht:=h.tlen;have hl:=h.spans.2.2.2.2;have ho:=qtI (a:=x.arch);have e:x7 (zj x)+1=(xD (pcs 0 (zd x.rules) 0)).length:=ha
 have hj:jaN (zj x)+x7 (zj x)<=max 1 (2*x.rules.length):=by
  have hj1:jaN (zj x)<=1:=by cases zj x with
   | nil=>simp[jaN]
   | cons n T=>simp only[jaN];split<;>omega
  have hj2:2<=(xD (pcs 0 (zd x.rules) 0)).length->jaN (zj x)=0:=λh2=>by
   unfold zj;rw[xn,dif_neg Ab];rfl
  exact Ab
 unfold vz;exact Ab
def FilG.tne(h:FilG x):zj x≠[]:=λe=>by have:=h.tlen;rw[e]at this;exact Ag
def FilG.nodes(h:FilG x):∀nd ∈ zj x,NdOk (x.rules.length+1) (zj x).length nd:=λnd hnd=>by
 obtain⟨q1,q2,q3,q4⟩:=qDn _ _ 0 (zzL _) h.pos h.spans.2.2.2.1 nd hnd;rw[Nat.zero_add]at q3 q4;exact⟨q1,q3,q4⟩
end
section
variable {x:GFil}
def qnM{j:Nat}:vz x<=wp x j/\wp x j<=wm x:=by
 unfold wp wm;have:=qlS (rs:=x.rules) (i:=j-1);exact Ga
def qG6{a:Int}{F n:Nat}(h1:4<n)(h2:4<=F)(h3:F<n):qdc (qbB a 0 F) 0 n:=by
 unfold qbB;refine .app (.cons (.inl Ae) (.cons (.inr (.inr (.inr ⟨.inl rfl,?_,?_,?_,?_⟩))) (.cons (.inl Ae) .nil))) ?_
 .exact Ae
 .exact Ag
 .exact Ag
 .exact Ab
 .show qdc _ (0+3) n;split
  .exact E7
  .split
   .exact E7
   .exact .nil
def qwO{FW:Nat->Nat}{T:List Nd}{b n:Nat}(hF:∀j,b+x7 T<=FW j/\FW j<n)(hfw:∀(i:Nat) nd,T[i]?=some nd->nd.leaf=false->i<nd.less/\i<nd.more/\nd.less<T.length/\nd.more<T.length)(hbn:b+x7 T<n) :
  ∀(u:List Nd) (k:Nat),T.drop k=u->qdc (u.flatMap (qlb FW T b)) (b+x7 (T.take k)) n
 | [],_,_=>.nil
 | nd::u,k,h=>by
  have hk:T[k]?=some nd:=by rw[<- List.head?_drop,h];rfl
  have hu:T.drop (k+1)=u:=by rw[<- List.tail_drop,h];rfl
  have ih:=qwO hF hfw hbn u (k+1) hu;rw[qmA hk]at ih;rw[zzv];cases hl:nd.leaf with
  | true =>
   have e:qlb FW T b nd=[]:=by simp[qlb,hl]
   rw[hl]at ih;rw[e];exact Ae
  | false =>
   have e:qlb FW T b nd=[⟨53,nd.at',plc FW T b nd.more,plc FW T b nd.less⟩]:=by simp[qlb,hl]
   rw[hl]at ih;simp only[Bool.false_eq_true,if_false]at ih ⊢;rw[e,List.singleton_append]
   have key:∀j,k<j->j<T.length->b+x7 (T.take k)<plc FW T b j/\plc FW T b j<n:=λj h1 h2=>by
    have h3:x7 (T.take (k+1))<=x7 (T.take j):=qmz h1
    have h4:x7 (T.take j)<=x7 T:=by
     have:=qmz (T:=T) (i:=j) (j:=T.length) Ab;rwa [zz0]at this
    rw[qmA hk,hl]at h3;simp only[Bool.false_eq_true,if_false]at h3;unfold plc;rw[zzE h2]
    exact Ag
   obtain⟨f1,f2,f3,f4⟩:=hfw k nd hk hl;obtain⟨m1,m2⟩:=key nd.more f2 f4;obtain⟨l1,l2⟩:=key nd.less f1 f3;exact .cons (.inr (.inr (.inr ⟨.inr (.inr (.inl rfl)),m1,m2,l1,l2⟩))) (by rw[Nat.add_assoc];exact ih)
def FilG.fwd(h:FilG x):∀(i:Nat) nd,(zj x)[i]?=some nd->nd.leaf=false->i<nd.less/\i<nd.more/\nd.less<(zj x).length/\nd.more<(zj x).length:=λi nd hi hl=>by
 obtain⟨q1,q2⟩:=qz6 _ _ 0 (zzL _) h.pos i nd hi hl;have:=h.nodes nd Ag;exact⟨Ab,Ab,this.less,this.more⟩
def qxt(h:FilG x):qdc (zK x) 0 (wm x+1):=by
 have hd:vz x=vq x.arch+(jaN (zj x)+x7 (zj x)):=rfl;have hN:wm x=vz x+1+zR x.rules:=rfl;have ho:3<=vq x.arch/\vq x.arch<=4:=by unfold vq;exact Ag
 have hpos:0<jaN (zj x)+x7 (zj x):=by
  have ha:=qn8 _ (xD (pcs 0 (zd x.rules) 0)) 0 (zzL _) h.pos;have e:x7 (zj x)+1=(xD (pcs 0 (zd x.rules) 0)).length:=ha
  by_cases h2:2<=(xD (pcs 0 (zd x.rules) 0)).length
  .exact Ab
  .have hj:jaN (zj x)=1:=by unfold zj;rw[xn,dif_pos (by have:=h.pos;exact Ab)];rfl
   exact Ab
 have ht:∀r ∈ x.rules,∀t ∈ r.tests,TstOk t:=by grind[TstG.ok,FilG.ts]
 unfold zK;refine .app (.app (.app (.app (qG6 Ab Ab Ab) ?_) ?_) ?_) ?_
 .rw[qaC,Nat.zero_add];unfold jj;refine .app ?_ ?_
  .cases hT:zj x with
   | nil=>exact .nil
   | cons nd T =>
    simp only[jaE];split
    .rename_i hl;rw[hT]at hd;simp only[jaN,if_pos hl]at hd;have:=(qnM (x:=x) (j:=nd.way)).1;have:=(qnM (x:=x) (j:=nd.way)).2;exact .cons (.inr (.inr (.inl ⟨rfl,rfl,rfl,Ag,Ag⟩))) .nil
    .exact .nil
  .rw[qpy];have:=qwO (FW:=wp x) (T:=zj x) (b:=vq x.arch+jaN (zj x)) (n:=wm x+1) (λj=>by have:=qnM (x:=x) (j:=j);exact Ab) h.fwd Ab (zj x) 0 rfl
   unfold brE;simpa[x7]using this
 .refine .cons (.inr Ae) .nil
 .have e:0+(qbB x.arch 0 (wm x)++jj (wp x) (zj x) (vq x.arch)++[(⟨6,x.dflt,0,0⟩:Sy)]).length=vz x+1:=by
   simp only[zzP,qaC,qar,List.length_singleton];unfold vz;exact Ab
  rw[e]
  grind[qoR]
 .refine .cons (.inr Ae) .nil
def FilG.rN(h:FilG x):zR x.rules<=x.rules.length*225:=qlk h.t32
def qhA(h:FilG x):MayL (zK x):=by
 have hl:=qol (x:=x);have hd:=h.dfl.1;have hr:=h.rN;have hn:=h.n;have hN:wm x=vz x+1+zR x.rules:=rfl;refine⟨Ab,Ab,⟨⟨6,2147418112,0,0⟩,?_,rfl⟩,λj s hj=>?_⟩
 .rw[hl]
  have e:wm x+1-1=(qbB x.arch 0 (wm x)++jj (wp x) (zj x) (vq x.arch)++[(⟨6,x.dflt,0,0⟩:Sy)]++xK x.rules (vz x+1)).length:=by
   simp only[zzP,qaC,qar,List.length_singleton,qbE];unfold wm vz;exact Ab
  rw[e];unfold zK;simp
 .have:=qxt h j s hj;rw[hl,Nat.zero_add]at *;exact Ab
end
def qto(a:Int)(d:GData):Prop:=d.arch=qeb a/\(a=0->xA .u32 d.nr 1073741824=0)/\(a=2->xA .u32 d.nr 1073741824≠0)
def qzj{a:Int}(h0:0<=a)(h6:a<6)(d:GData):((ofM d.arch d.nr).2=false\/(ofM d.arch d.nr).1≠a)↔¬qto a d:=by
 unfold qto ofM;generalize d.arch=t;generalize xA .u32 d.nr 1073741824=z;have ha:a=0\/a=1\/a=2\/a=3\/a=4\/a=5:=Ab
 have e:∀c:Int,zL (λx:List UInt8×Int=>decide (x.2=t)) zf 0=c↔(if t=3221225534 then 0 else if t=1073741827 then 1 else if t=1073741864 then 3 else if t=3221225655 then 4 else if t=3221225715 then 5 else -1)=c:=by
  intro c
  have:zL (λx:List UInt8×Int=>decide (x.2=t)) zf 0=(if t=3221225534 then 0 else if t=1073741827 then 1 else if t=1073741864 then 3 else if t=3221225655 then 4 else if t=3221225715 then 5 else -1):=by
   simp only[zf,zL,zzb]
   exact Ag
  rw[this]
 have e0:=(e _).2 rfl;rw[e0];rcases ha with rfl|rfl|rfl|rfl|rfl|rfl
 all_goals
  simp only[qeb,zf]
  by_cases h1:t=3221225534
  .by_cases hz:z=0<;>simp[h1,hz]
  by_cases h2:t=1073741827
  .simp[h2]
  by_cases h3:t=1073741864
  .simp[h3]
  by_cases h4:t=3221225655
  .simp[h4]
  by_cases h5:t=3221225715
  .simp[h5]
  simp[h1,h2,h3,h4,h5]
section
variable {R:List Sy}{d:GData}{r:Int}
def qG5{a:Int}{N:Nat}(h0:0<=a)(h6:a<6)(hd:DatOk d)(h:AtL R 0 (qbB a 0 N))(h1:qto a d->Ev R d (vq a) d.nr r)(h2:¬qto a d->EvA R d N r):EvA R d 0 r:=by
 intro b;unfold qbB at h;obtain⟨g,h3⟩:=h.app;obtain⟨g1,g⟩:=g.hd;obtain⟨g2,g⟩:=g.hd;obtain⟨g3,_⟩:=g.hd;have w4:wdD d 4=d.arch:=rfl;have w0:wdD d 0=d.nr:=rfl;refine .ld 0 b r _ g1 rfl (.jc _ _ r _ g2 (.inl rfl) ?_);simp only[ww,w4]
 by_cases ht:d.arch=qeb a
 .rw[if_pos Ag];refine .ld _ _ r _ g3 rfl ?_;simp only[w0];have h3:AtL R 3 _:=h3
  have hz:∀z:Int,(0<xA .u32 d.nr 1073741824)↔xA .u32 d.nr 1073741824≠0:=λ_=>by
   obtain⟨n,e⟩:=Int.eq_ofNat_of_zero_le hd.nr0;have hn:=hd.nr1;have:=qcM (a:=n) (b:=1073741824) Ab Af;rw[<- e]at this;rw[show((1073741824:Nat):Int)=1073741824 from rfl]at this
   rw[this];exact Ab
  by_cases a0:a=0
  .rw[if_pos a0]at h3;have hoN:vq a=4:=by simp[vq,a0]
   rw[hoN]at h1;refine .jc _ _ r _ h3.hd.1 (.inr (.inr (.inr rfl))) ?_;simp only[ww]
   by_cases hb:xA .u32 d.nr 1073741824=0
   .have e:¬(0:Int)<xA .u32 d.nr 1073741824:=Ab
    rw[if_neg Ag];exact h1 ⟨ht,λ_=>hb,λh=>Ab⟩
   .have e:=(hz 0).2 hb;rw[if_pos Id];exact h2 (λq=>hb (q.2.1 a0)) _
  .rw[if_neg a0]at h3
   by_cases a2:a=2
   .rw[if_pos a2]at h3;have hoN:vq a=4:=by simp[vq,a2]
    rw[hoN]at h1;refine .jc _ _ r _ h3.hd.1 (.inr (.inr (.inr rfl))) ?_;simp only[ww]
    by_cases hb:xA .u32 d.nr 1073741824=0
    .rw[if_neg Ag];exact h2 (λq=>q.2.2 a2 hb) _
    .have e:=(hz 0).2 hb;rw[if_pos Id];exact h1 ⟨ht,λh=>absurd h a0,λ_=>hb⟩
   .have hoN:vq a=3:=by simp[vq,a0,a2]
    rw[hoN]at h1;exact h1 ⟨ht,λh=>absurd h a0,λh=>absurd h a2⟩
 .rw[if_neg Ag];exact h2 (λq=>ht q.1) _
def qoQ:∀{rs:List GRule}{p:Nat}{i:Nat}{q:GRule},AtL R p (xK rs p)->rs[i]?=some q->AtL R (p+zR (rs.take i)) (qv1 q (p+zR (rs.take i)))
 | [],_,_,_,_,h=>Ag
 | y::rs,p,i,q,h,hi=>by
  unfold xK at h;obtain⟨g1,g2⟩:=h.app;rw[qnB]at g2;cases i with
  | zero=>simp at hi;subst hi;simpa[zR]using g1
  | succ i =>
   have:=qoQ g2 H4;simpa[zR,Nat.add_assoc]using this
def qjQ{x:GFil}:qd8 x d=if(ofM d.arch d.nr).2=false\/(ofM d.arch d.nr).1≠x.arch then 2147418112 else match x.rules.find? (λr=>decide (r.nr=d.nr))with|none=>x.dflt|some r=>fnd (λt=>xr t d) r.act r.tests:=by
 unfold qd8 fnd;rfl
def qs7{x:GFil}(h:FilG x)(hd:DatOk d):EvA (zK x) d 0 (qd8 x d):=by
 have hR:=AtL.self (R:=zK x);have hR0:AtL (zK x) 0 (zK x):=hR;unfold zK at hR;obtain⟨hR,hA5⟩:=hR.app;obtain⟨hR,hA4⟩:=hR.app;obtain⟨hR,hA3⟩:=hR.app;obtain⟨hA1,hA2⟩:=hR.app;rw[show(qbB x.arch 0 (wm x)++jj (wp x) (zj x) (vq x.arch)++[(⟨6,x.dflt,0,0⟩:Sy)]++xK x.rules (vz x+1)++[(⟨6,2147418112,0,0⟩:Sy)])=zK x from rfl]at hA1 hA2 hA3 hA4 hA5
 have e3:0+(qbB x.arch 0 (wm x)++jj (wp x) (zj x) (vq x.arch)).length=vz x:=by simp only[zzP,qaC,qar];unfold vz;exact Ab
 have e4:0+(qbB x.arch 0 (wm x)++jj (wp x) (zj x) (vq x.arch)++[(⟨6,x.dflt,0,0⟩:Sy)]).length=vz x+1:=Ag
 have e5:0+(qbB x.arch 0 (wm x)++jj (wp x) (zj x) (vq x.arch)++[(⟨6,x.dflt,0,0⟩:Sy)]++xK x.rules (vz x+1)).length=wm x:=by simp only[zzP,qaC,qar,List.length_singleton,qbE];unfold wm vz;exact Ab
 rw[qaC,Nat.zero_add]at hA2;rw[e3]at hA3;rw[e4]at hA4;rw[e5]at hA5;rw[qjQ];refine qG5 h.a0 h.a6 hd hA1 (λhown=>?_) (λhown=>?_)
 .rw[if_neg (λq=>(qzj h.a0 h.a6 d).1 q hown)]
  obtain⟨c1,c2,c3,_,_⟩:=h.spans
  -- the code of a way
  have way:∀w,Cov (xD (pcs 0 (zd x.rules) 0)) d.nr w->Ev (zK x) d (wp x w) d.nr (match x.rules.find? (λr=>decide (r.nr=d.nr))with|none=>x.dflt|some r=>fnd (λt=>xr t d) r.act r.tests)->Ev (zK x) d (vq x.arch) d.nr (match x.rules.find? (λr=>decide (r.nr=d.nr))with|none=>x.dflt|some r=>fnd (λt=>xr t d) r.act r.tests):=by
   intro w hw he;unfold jj at hA2;obtain⟨j1,j2⟩:=hA2.app
   have ht:=qDm (T:=zj x) (FW:=wp x) (b:=vq x.arch+jaN (zj x)) (n:=d.nr) (Q:=λi=>Ev (zK x) d i d.nr (match x.rules.find? (λr=>decide (r.nr=d.nr))with|none=>x.dflt|some r=>fnd (λt=>xr t d) r.act r.tests)) (λi nd hi hl hq=>by
    have hp:plc (wp x) (zj x) (vq x.arch+jaN (zj x)) i=vq x.arch+jaN (zj x)+x7 ((zj x).take i):=by unfold plc;rw[hi];simp[hl]
    have hg:=j2 _ _ (qAS (FW:=wp x) (b:=vq x.arch+(jaE (wp x) (zj x)).length) hi hl);rw[qpy]at hg;rw[hp];refine .jc _ _ _ _ hg (.inr (.inr (.inl rfl))) ?_;simp only[ww]
    exact Ae) _ (xD (pcs 0 (zd x.rules) 0)) 0 0 4294967296 (zzL _) h.pos c1 (λj nd hj=>by rw[Nat.zero_add];exact hj) w hw he
   cases hT:zj x with
   | nil=>simp_all[FilG.tne]
   | cons nd T =>
    rw[hT]at ht j1;cases hl:nd.leaf with
    | true =>
     simp only[jaE,if_pos hl]at j1;refine .ja _ _ _ _ j1.hd.1 rfl ?_;simp only[plc,zzn,if_pos hl]at ht;exact ht
    | false =>
     simp only[plc,zzn,hl,Bool.false_eq_true,if_false,jaN,List.take_zero,x7,List.countP_nil,Nat.add_zero]at ht;exact ht
  cases hf:x.rules.find? (λr=>decide (r.nr=d.nr))with
  | none =>
   rw[hf]at way
   have hnone:∀q ∈ x.rules,q.nr≠d.nr:=λq hq he=>by
    have:=List.find?_eq_none.1 hf q hq;exact Ae
   refine way 0 (by grind[DatOk.nr0,DatOk.nr1]) ?_;exact Ev.rt (vz x) d.nr _ hA3.hd.1 rfl
  | some q =>
   rw[hf]at way;have hqm:=List.mem_of_find?_eq_some hf;have hqn:q.nr=d.nr:=by have:=List.find?_some hf;exact Ae
   obtain⟨i,hi⟩:=List.getElem?_of_mem hqm;have hc:=c2 i q hi;rw[hqn]at hc;refine way (i+1) hc ?_;have ha:=qoQ hA4 hi;have hw:wp x (i+1)=vz x+1+zR (x.rules.take i):=by simp[wp]
   rw[hw];exact qrP hd (h.ts q hqm) ha _
 .rw[if_pos ((qzj h.a0 h.a6 d).2 hown)];intro a;exact Ev.rt (wm x) a _ hA5.hd.1 rfl
end
def qah{c:Int}(h:qeW c):ql c=4/\c≠5/\c≠6:=by
 rcases h with rfl|rfl|rfl|rfl<;>decide
def qf0:ql 32=1/\ql 84=3/\ql 6=5/\ql 5=4:=Af
section
variable {l R:List Sy}{d:GData}{r:Int}
def qge.ja{s:Sy}{j n:Nat}(h:qge s j n)(h5:s.code=5):s.k=0/\s.el=0/\j<s.th/\s.th<n:=by
 rcases h with⟨q,_⟩|⟨q,_⟩|⟨_,q⟩|⟨q,_⟩
 all_goals simp_all[qah]
def qge.jc{s:Sy}{j n:Nat}(h:qge s j n)(ha:qeW s.code):j<s.th/\s.th<n/\j<s.el/\s.el<n:=by
 have h5:=qah ha;unfold qeW at ha;rcases h with⟨q,_⟩|⟨q,_⟩|⟨q,_⟩|⟨_,q⟩
 all_goals omega
def qge.jmp{s:Sy}{j n:Nat}(h:qge s j n)(hj:qbX s):s.code=5\/qeW s.code:=by
 unfold qbX at hj;obtain⟨c1,c2,c3,c4⟩:=qf0;rcases h with⟨q,_⟩|⟨q,_⟩|⟨q,_⟩|⟨q,_⟩
 all_goals grind
def qge.ask{s:Sy}{j n:Nat}(h:qge s j n)(hj:qdH s):qeW s.code:=(h.jmp hj.1).resolve_left hj.2
def MayL.in(h:MayL l):qn3 l:=by
 intro x hx j hj;obtain⟨i,hi⟩:=List.getElem?_of_mem hx;have hm:=h.all i x hi;rcases hj with⟨q,rfl⟩|⟨q,rfl⟩
 .rcases hm.jmp q with q|q
  .exact (hm.ja q).2.2.2
  .exact (hm.jc q).2.1
 .exact (hm.jc (hm.ask q)).2.2.2
def MayL.on(h:MayL l):qDr l:=by
 intro j x hx h6 h4;have hj:=(zzS.1 hx).1
 grind[MayL.last]
def MayL.hin(h:MayL l):∀x ∈ l,∀j:Nat,(x.code=5\/ql x.code=4)/\j=x.th\/(ql x.code=4/\x.code≠5)/\j=x.el->j<l.length:=by
 intro x hx j hj;refine h.in x hx j ?_
 rcases hj with⟨q,e⟩|q
 .refine .inl ⟨?_,e⟩;rcases q with q|q
  .unfold qbX;rw[q];exact qf0.2.2.2
  .exact q
 .exact .inr q
def Ev.at6{p:Nat}{a:Int}{s:Sy}(h:Ev R d p a r)(hs:R[p]?=some s)(h6:s.code=6):r=s.k:=by
 cases h with
 | ld _ _ _ x hx hc=>rw[hs]at hx;exact Ae
 | an _ _ _ x hx hc=>rw[hs]at hx;exact Ae
 | rt _ _ x hx hc=>rw[hs]at hx;exact Ae
 | ja _ _ _ x hx hc=>rw[hs]at hx;exact Ae
 | jc _ _ _ x hx hc=>rw[hs]at hx;simp_all[qah]
theorem Ev.at5{p:Nat}{a:Int}{s:Sy}(h:Ev R d p a r)(hs:R[p]?=some s)(h5:s.code=5):Ev R d s.th a r:=by
 cases h with
 | ld _ _ _ x hx hc=>rw[hs]at hx;exact Ae
 | an _ _ _ x hx hc=>rw[hs]at hx;exact Ae
 | rt _ _ x hx hc=>rw[hs]at hx;exact Ae
 | ja _ _ _ x hx hc hn=>rw[hs]at hx;exact Ae
 | jc _ _ _ x hx hc=>rw[hs]at hx;simp_all[qah]
theorem vp{to:Nat->Nat}{s:Sy}(h:¬qbX s):qbA to s=s:=by
 unfold qbA;rw[if_neg h,if_neg (λq=>h q.1)]
def qkn{to:Nat->Nat}{s:Sy}(h:s.code=5):qbA to s=⟨s.code,s.k,to s.th,s.el⟩:=by
 have hj:qbX s:=by unfold qbX;rw[h];exact qf0.2.2.2
 unfold qbA;rw[if_pos hj,if_neg (λq=>q.2 h)]
def qko{to:Nat->Nat}{s:Sy}(h:qeW s.code):qbA to s=⟨s.code,s.k,to s.th,to s.el⟩:=by
 have hj:=qah h;unfold qbA;rw[if_pos (show qbX s from hj.1),if_pos (show qdH s from⟨hj.1,hj.2.1⟩)]
theorem wB{s:Sy}(h:s.code=32\/s.code=84\/s.code=6):¬qbX s:=by
 unfold qbX;rcases h with h|h|h<;>rw[h]<;>decide
theorem qrq{to:Nat->Nat}{s:Sy}{j n:Nat}(h:qge s j n)(ht:∀q,j<q->q<n->j<to q/\to q<n):qge (qbA to s) j n:=by
 rcases h with q|q|⟨q,q1,q2,q3,q4⟩|⟨q,q1,q2,q3,q4⟩
 .rw[vp (wB (.inl q.1))];exact .inl q
 .rw[vp (wB (.inr q.1))];exact .inr (.inl q)
 .rw[qkn q];obtain⟨t1,t2⟩:=ht _ q3 q4;exact .inr Ae
 .rw[qko q];obtain⟨t1,t2⟩:=ht _ q1 q2;obtain⟨t3,t4⟩:=ht _ q3 q4;exact .inr Ae
-- shared
theorem qHu(h:MayL l){j:Nat}(hj:j<l.length):j<=qeQ l j/\qeQ l j<l.length:=by
 unfold qeQ;rw[zzE hj];simp only;split
 .rename_i h6;obtain⟨i,y,q1,q2,q3,_⟩:=qk5 (zzE hj) h6;rw[q1];exact⟨q2,(zzS.1 q3).1⟩
 exact Ab
theorem qfn{j:Nat}:(qgn l)[j]?=(l[j]?).map (qbA (qeQ l)):=by unfold qgn;rw[zzo]
theorem qms:(qgn l).length=l.length:=by unfold qgn;rw[zzz]
def qkE(h:MayL l):MayL (qgn l):=by
 refine⟨by rw[qms];exact h.pos,by rw[qms];exact h.big,?_,λj s hj=>?_⟩
 all_goals grind[MayL.last,qms,qfn,vp,wB,qrq,MayL.all,qHu]
theorem qt4(h:MayL l){j:Nat}{a:Int}(hj:j<l.length)(he:Ev (qgn l) d j a r):Ev (qgn l) d (qeQ l j) a r:=by
 unfold qeQ;rw[zzE hj];simp only;split
 .rename_i h6;obtain⟨i,y,q1,q2,q3,q4,q5⟩:=qk5 (zzE hj) h6;rw[q1];have hg:(qgn l)[j]?=some l[j]:=by rw[qfn,zzE hj];simp[vp (wB (.inr (.inr h6)))]
  have hr:=he.at6 hg h6;rw[hr,<- q5];exact Ev.rt i a y (by rw[qfn,q3];simp[vp (wB (.inr (.inr q4)))]) q4
 exact Ab
def qHt(h:MayL l):∀{p:Nat}{a:Int},Ev l d p a r->Ev (qgn l) d p a r:=by
 intro p a he
 induction he with
 | ld p a r s hs hc _ ih=>exact .ld p a r s Gk hc ih
 | an p a r s hs hc _ ih=>exact .an p a r s Gk hc ih
 | rt p a s hs hc=>exact .rt p a s Gk hc
 | ja p a r s hs hc _ ih =>
  have hm:=(h.all p s hs).ja hc;exact .ja p a r ⟨s.code,s.k,qeQ l s.th,s.el⟩ (by rw[qfn,hs,<- qkn hc];rfl) hc (qt4 h hm.2.2.2 ih)
 | jc p a r s hs hc _ ih =>
  have hm:=(h.all p s hs).jc hc;refine .jc p a r ⟨s.code,s.k,qeQ l s.th,qeQ l s.el⟩ (by rw[qfn,hs,<- qko hc];rfl) hc ?_
  grind[qt4]
-- threaded
def qHM(h:MayL R){j:Nat}(hj:j<R.length):j<=wq R j/\wq R j<R.length:=by
 unfold wq;rw[zzE hj];simp only;split
 .rename_i h5;have:=(h.all j _ Ae).ja h5;exact Ab
 exact Ab
theorem qrQ(h:MayL R){i:Nat}{x:Sy}(hx:R[i]?=some x):qge (qbH R x) i R.length/\((x.code=6)->qbH R x=x):=by
 have hm:=qrq (h.all i x hx) (to:=wq R) λq q1 q2=>by have:=qHM h q2;exact Ab
 refine⟨?_,λh6=>?_⟩
 .unfold qbH;split
  .rename_i q;have ha:=hm.ask q.1;have:=hm.jc ha;exact .inr Ae
  exact Ab
 .have e:=vp (to:=wq R) (wB (s:=x) (.inr (.inr h6)));unfold qbH;rw[e,if_neg (λq=>wB (.inr (.inr h6)) q.1.1)]
theorem qz4(h:MayL R){i:Nat}{x:Sy}(hx:R[i]?=some x):MayL (R.set i (qbH R x)):=by
 have hi:=(zzS.1 hx).1;refine⟨by rw[List.length_set];exact h.pos,by rw[List.length_set];exact h.big,?_,λj s hj=>?_⟩
 .obtain⟨s,hs,h6⟩:=h.last;refine⟨s,?_,h6⟩;rw[List.length_set,List.getElem?_set]
  by_cases e:i=R.length-1
  .rw[<- e,hx]at hs;cases hs;rw[if_pos e,if_pos Ab,(qrQ h hx).2 h6]
  .rw[if_neg e];exact hs
 grind[qrQ,MayL.all]
theorem qDi(h:MayL R){i:Nat}{x:Sy}(hx:R[i]?=some x):∀{p:Nat}{a:Int},Ev R d p a r->Ev (R.set i (qbH R x)) d p a r:=by
 have hi:=(zzS.1 hx).1;have g:∀{p:Nat}{s:Sy},R[p]?=some s->p≠i->(R.set i (qbH R x))[p]?=some s:=λhs hp=>by rw[List.getElem?_set,if_neg (Ne.symm hp)];exact hs
 have gi:(R.set i (qbH R x))[i]?=some (qbH R x):=by rw[List.getElem?_set,if_pos rfl,if_pos hi]
 have hop:∀{t:Nat}{a:Int},i<t->t<R.length->Ev (R.set i (qbH R x)) d t a r->Ev (R.set i (qbH R x)) d (wq R t) a r:=λ{t a} h1 h2 he=>by
  unfold wq;rw[zzE h2]
  grind[Ev.at5]
 have gn:¬qbX x->(R.set i (qbH R x))[i]?=some x:=λq=>by
  rw[gi];unfold qbH;rw[vp q,if_neg (λz=>q z.1.1)]
 intro p a he
 induction he with
 | ld p a r s hs hc _ ih =>
  by_cases e:p=i
  .subst e;rw[hx]at hs;cases hs;exact .ld _ _ _ x (gn (wB (.inl hc))) hc (ih hop)
  .exact .ld _ _ _ s (g hs e) hc (ih hop)
 | an p a r s hs hc _ ih =>
  by_cases e:p=i
  .subst e;rw[hx]at hs;cases hs;exact .an _ _ _ x (gn (wB (.inr (.inl hc)))) hc (ih hop)
  .exact .an _ _ _ s (g hs e) hc (ih hop)
 | rt p a s hs hc =>
  by_cases e:p=i
  .subst e;rw[hx]at hs;cases hs;exact .rt _ _ x (gn (wB (.inr (.inr hc)))) hc
  .exact .rt _ _ s (g hs e) hc
 | ja p a r s hs hc _ ih =>
  by_cases e:p=i
  .subst e;rw[hx]at hs;cases hs;have hm:=(h.all _ _ hx).ja hc
   have e1:qbH R x=⟨x.code,x.k,wq R x.th,x.el⟩:=by
    unfold qbH;rw[qkn hc,if_neg (λz=>z.1.2 hc)]
   have gi2:=gi.trans (congrArg some e1);exact .ja _ _ _ _ gi2 hc Ae
  .exact .ja _ _ _ s (g hs e) hc (ih hop)
 | jc p a r s hs hc _ ih =>
  by_cases e:p=i
  .subst e;rw[hx]at hs;cases hs;have hm:=(h.all _ _ hx).jc hc;have ih:=ih hop
   have he:Ev (R.set p (qbH R x)) d (if ww x.code a x.k=true then wq R x.th else wq R x.el) a r:=Ag
   have e0:=qko (to:=wq R) hc
   by_cases eq:wq R x.th=wq R x.el
   .have e1:qbH R x=⟨5,0,wq R x.th,0⟩:=by
     unfold qbH;rw[e0];exact if_pos ⟨⟨(qah hc).1,(qah hc).2.1⟩,eq⟩
    rw[<- eq,ite_self]at he;exact .ja _ _ _ _ (gi.trans (congrArg some e1)) rfl he
   .have e1:qbH R x=⟨x.code,x.k,wq R x.th,wq R x.el⟩:=by
     unfold qbH;rw[e0];exact Ae
    exact .jc _ _ _ _ (gi.trans (congrArg some e1)) hc he
  .exact .jc _ _ _ s (g hs e) hc (ih hop)
theorem qrR:∀{m j:Nat},j+m<l.length->(qgS l m)[j]?=l[j]?
 | 0,_,_=>rfl
 | m+1,j,h=>by
  unfold qgS;split
  .rw[List.getElem?_set,if_neg Ab];exact qrR Ab
  exact Ag
def qp3(h:MayL l):∀m,m<=l.length->MayL (qgS l m)/\∀{p:Nat}{a:Int},Ev l d p a r->Ev (qgS l m) d p a r
 | 0,_=>⟨h,λe=>e⟩
 | m+1,hm=>by
  obtain⟨h1,h2⟩:=qp3 h m Ab;have hx:l[l.length-(m+1)]?=some l[l.length-(m+1)]:=Ae
  unfold qgS;rw[hx]
  grind[qrR,qz4,qDi]
def qmu(h:MayL l):MayL (qp2 l):=(qp3 (d:=⟨0,0,0,0,0,0,0,0,0⟩) (r:=0) h _ (zzL _)).1
def qHL(h:MayL l){p:Nat}{a:Int}:Ev l d p a r->Ev (qp2 l) d p a r:=(qp3 h _ (zzL _)).2
theorem qDj:(qp2 l).length=l.length:=qgp
end
def Suc(x:Sy)(j t:Nat):Prop:=(x.code≠6/\¬qbX x/\t=j+1)\/(qbX x/\t=x.th)\/(qdH x/\t=x.el)
def qHs{A:List Bool}{i:Nat}(h:i<A.length):(A.set i true)[i]?=some true:=by
 rw[List.getElem?_set,if_pos rfl,if_pos h]
def qzT{A:List Bool}{i j:Nat}(h:j≠i):(A.set i true)[j]?=A[j]?:=by
 rw[List.getElem?_set,if_neg (Ne.symm h)]
theorem qn4{A:List Bool}{j m:Nat}{x:Sy}(h:A[j]?=some true):(qfU A m x)[j]?=some true:=by
 unfold qfU
 exact Ag
def qws{A:List Bool}{j t:Nat}{x:Sy}(h:A[j]?=some true)(hs:Suc x j t)(ht:t<A.length):(qfU A j x)[t]?=some true:=by
 have h6:x.code≠6:=by
  rcases hs with q|⟨q,_⟩|⟨q,_⟩
  .exact Ab
  .grind[wB]
  .intro e;exact wB (.inr (.inr e)) q.1
 unfold qfU;rw[if_neg Ae];rcases hs with⟨_,q,rfl⟩|⟨q,rfl⟩|⟨q,rfl⟩
 .rw[if_pos (show ql x.code≠4 from q)];exact Ae
 .rw[if_neg (λz:ql x.code≠4=>z q)]
  exact Ag
 .rw[if_neg (λz:ql x.code≠4=>z q.1),if_pos q]
  exact Ae
section
variable {l:List Sy}{d:GData}{r:Int}
def quk(h:MayL l){A:List Bool}{j m:Nat}{x:Sy}(hx:l[m]?=some x)(hj:j<=m):(qfU A m x)[j]?=A[j]?:=by
 unfold qfU;split
 .rfl
 .split
  .exact Ag
  .rename_i q;have hq:qbX x:=Decidable.not_not.1 q;have hm:=h.all m x hx
   have hth:m<x.th:=by
    rcases hm.jmp hq with z|z
    .exact (hm.ja z).2.2.1
    .exact (hm.jc z).1
   split
   .rename_i q2;have:=hm.jc (hm.ask q2);rw[qzT Ab,qzT Ab]
   exact Ag
def qsG(h:MayL l){j t:Nat}{x:Sy}(hx:l[j]?=some x)(hs:Suc x j t):j<t/\t<l.length:=by
 have hm:=h.all j x hx;rcases hs with⟨q1,q2,rfl⟩|⟨q,rfl⟩|⟨q,rfl⟩
 .exact⟨Ab,h.on j x hx q1 q2⟩
 .rcases hm.jmp q with z|z
  .exact (hm.ja z).2.2
  .exact⟨(hm.jc z).1,(hm.jc z).2.1⟩
 .exact (hm.jc (hm.ask q)).2.2
def qqc(h:MayL l):∀m,m<=l.length->∀(j t:Nat) x,j<m->l[j]?=some x->Suc x j t->(kl l m)[j]?=some true->(kl l m)[t]?=some true
 | 0,_,j,t,x,hj,_,_,_=>Ab
 | m+1,hm,j,t,x,hj,hx,hs,ha=>by
  have hy:l[m]?=some l[m]:=Ae
  unfold kl at ha ⊢;rw[hy]at ha ⊢;simp only at ha ⊢;rw[quk h hy Ab]at ha;rcases Nat.lt_or_ge j m with q|q
  .exact qn4 (qqc h m Ab j t x q hx hs ha)
  .have e:j=m:=Ab
   subst e;rw[hy]at hx;cases hx;exact qws ha hs (by rw[qbZ];exact(qsG h hy hs).2)
def qek(h:MayL l){j t:Nat}{x:Sy}(hx:l[j]?=some x)(hs:Suc x j t)(ha:(xi l)[j]?=some true):(xi l)[t]?=some true :=
 qqc h _ (zzL _) j t x Ag hx hs ha
def qwt(h:0<l.length):(xi l)[0]?=some true:=by
 have:∀m,(kl l m)[0]?=some true:=by
  intro m
  induction m with
  | zero=>exact qHs Ae
  | succ m ih =>
   unfold kl;grind[qn4]
 exact this _
def qxj{A:List Bool}{i j:Nat}(h:i<=j):xQ A i<=xQ A j:=by
 unfold xQ;have e:A.take i=(A.take j).take i:=Jk
 rw[e]
 grind[List.take_sublist]
def qmL{A:List Bool}{i j:Nat}(ha:A[i]?=some true)(h:i<j):xQ A i<xQ A j:=by
 have h1:=qf1 ha;have h2:=qxj (A:=A) (i:=i+1) (j:=j) h;rw[if_pos rfl]at h1;exact Ab
def qtZ{α:Type}:∀{A:List Bool}{l:List α}{p:Nat}{x:α},A[p]?=some true->l[p]?=some x->(qdC A l)[xQ A p]?=some x
 | [],_,_,_,h,_=>Ag
 | _::_,[],_,_,_,h=>Ag
 | c::A,y::l,0,x,h1,h2=>by
  simp at h1 h2;subst h1 h2;simp[qdC,xQ]
 | c::A,y::l,p+1,x,h1,h2=>by
  have:=qtZ (A:=A) (l:=l) (p:=p) (x:=x) Ae Ae;unfold xQ at this ⊢;rw[List.take_succ_cons,List.countP_cons];cases c<;>simpa[qdC]using this
def qmr{α:Type}:∀{A:List Bool}{l:List α}{q:Nat}{x:α},(qdC A l)[q]?=some x->∃p,A[p]?=some true/\l[p]?=some x/\xQ A p=q
 | [],_,_,_,h=>by simp[qdC]at h
 | _::_,[],_,_,h=>by simp[qdC]at h
 | c::A,y::l,q,x,h=>by
  cases c with
  | false =>
   obtain⟨p,h1,h2,h3⟩:=qmr (A:=A) (l:=l) (q:=q) (x:=x) (by simpa[qdC]using h);refine⟨p+1,Ex,Gi,?_⟩
   unfold xQ at h3 ⊢;rw[List.take_succ_cons,List.countP_cons];exact Ae
  | true =>
   cases q with
   | zero=>simp[qdC]at h;subst h;exact⟨0,rfl,rfl,by simp[xQ]⟩
   | succ q =>
    obtain⟨p,h1,h2,h3⟩:=qmr (A:=A) (l:=l) (q:=q) (x:=x) (by simpa[qdC]using h);refine⟨p+1,Ex,Gi,?_⟩
    unfold xQ at h3 ⊢;rw[List.take_succ_cons,List.countP_cons];exact Ae
def qt0{α:Type}:∀{A:List Bool}{l:List α},A.length=l.length->(qdC A l).length=xQ A A.length
 | [],[],_=>rfl
 | [],_::_,h=>Ag
 | _::_,[],h=>Ag
 | c::A,y::l,h=>by
  have:=qt0 (A:=A) (l:=l) Ae;unfold xQ at this ⊢;rw[zze,List.take_succ_cons,List.countP_cons];cases c<;>simp[qdC,this]
def qmh:(qh6 l).length=xQ (xi l) l.length:=by
 unfold qh6;have hA:(xi l).length=l.length:=qbZ;rw[qt0 (by rw[zzz,hA]),hA]
theorem qyy:(qh6 l).length<=l.length:=by rw[qmh];exact qpp
def qkj{p:Nat}{x:Sy}(ha:(xi l)[p]?=some true)(hx:l[p]?=some x):(qh6 l)[xQ (xi l) p]?=some (qbA (xQ (xi l)) x) :=
 qtZ ha (by rw[zzo,hx];rfl)
def qBY(h:MayL l):MayL (qh6 l):=by
 have hA:(xi l).length=l.length:=qbZ;have h0:=qwt h.pos;have hp:0<(qh6 l).length:=by rw[qmh];exact Nat.lt_of_le_of_lt (zzu _) (qmL h0 h.pos)
 have idx:∀{q:Nat}{s:Sy},(qh6 l)[q]?=some s->∃p x,(xi l)[p]?=some true/\l[p]?=some x/\xQ (xi l) p=q/\s=qbA (xQ (xi l)) x:=λ{q s} hq=>by
  obtain⟨p,h1,h2,h3⟩:=qmr hq;rw[zzo]at h2
  exact Ag
 refine⟨hp,zzg qyy h.big,?_,λj s hj=>?_⟩
 .obtain⟨p,x,q1,q2,q3,q4⟩:=idx (zzE (i:=(qh6 l).length-1) Ab);refine⟨_,zzE Ab,?_⟩;rw[q4];show x.code=6;apply Decidable.byContradiction;intro h6
  have hs:∃t,Suc x p t:=by
   by_cases hj:qbX x
   .exact⟨_,.inr (.inl ⟨hj,rfl⟩)⟩
   .exact⟨_,.inl ⟨h6,hj,rfl⟩⟩
  obtain⟨t,ht⟩:=hs;have t1:=qsG h q2 ht;have t2:=qek h q2 ht q1;have t3:=qmL q1 t1.1;have t4:=qmL t2 t1.2;rw[<- qmh]at t4;exact Ab
 .obtain⟨p,x,q1,q2,q3,rfl⟩:=idx hj;have hm:=h.all p x q2
  have go:∀t,Suc x p t->j<xQ (xi l) t/\xQ (xi l) t<(qh6 l).length:=λt ht=>by
   have t1:=qsG h q2 ht;have t2:=qek h q2 ht q1;rw[qmh,<- q3];exact⟨qmL q1 t1.1,qmL t2 t1.2⟩
  rcases hm with q|q|⟨q,z1,z2,z3,z4⟩|⟨q,z1,z2,z3,z4⟩
  .rw[vp (wB (.inl q.1))];exact .inl q
  .rw[vp (wB (.inr q.1))];exact .inr (.inl q)
  .have hjm:qbX x:=by unfold qbX;rw[q];exact qf0.2.2.2
   rw[qkn q];obtain⟨t1,t2⟩:=go x.th (.inr Ae);exact .inr Ae
  .have ha:=qah q;rw[qko q];obtain⟨t1,t2⟩:=go x.th (.inr (.inl ⟨ha.1,rfl⟩));obtain⟨t3,t4⟩:=go x.el (.inr (.inr ⟨⟨ha.1,ha.2.1⟩,rfl⟩));exact .inr Ae
def qF7(h:MayL l):∀{p:Nat}{a:Int},Ev l d p a r->(xi l)[p]?=some true->Ev (qh6 l) d (xQ (xi l) p) a r:=by
 intro p a he
 induction he with
 | ld p a r s hs hc _ ih =>
  intro ha;have hn:=qek h hs (t:=p+1) (.inl ⟨Ab,wB (.inl hc),rfl⟩) ha
  have e:=qf1 ha;rw[if_pos rfl]at e;have ih:=ih hn;rw[e]at ih;have hg:=qkj ha hs;rw[vp (wB (.inl hc))]at hg;exact .ld _ _ _ s hg hc ih
 | an p a r s hs hc _ ih =>
  intro ha;have hn:=qek h hs (t:=p+1) (.inl ⟨Ab,wB (.inr (.inl hc)),rfl⟩) ha
  have e:=qf1 ha;rw[if_pos rfl]at e;have ih:=ih hn;rw[e]at ih;have hg:=qkj ha hs;rw[vp (wB (.inr (.inl hc)))]at hg;exact .an _ _ _ s hg hc ih
 | rt p a s hs hc =>
  intro ha;have hg:=qkj ha hs;rw[vp (wB (.inr (.inr hc)))]at hg;exact .rt _ _ s hg hc
 | ja p a r s hs hc _ ih =>
  intro ha;have hjm:qbX s:=by unfold qbX;rw[hc];exact qf0.2.2.2
  have hg:=qkj ha hs;rw[qkn hc]at hg;exact .ja _ _ _ _ hg hc (ih (qek h hs (.inr Ae) ha))
 | jc p a r s hs hc _ ih =>
  intro ha;have hk:=qah hc;have h1:=qek h hs (t:=s.th) (.inr (.inl ⟨hk.1,rfl⟩)) ha;have h2:=qek h hs (t:=s.el) (.inr (.inr ⟨⟨hk.1,hk.2.1⟩,rfl⟩)) ha;have hg:=qkj ha hs;rw[qko hc]at hg;refine .jc _ _ _ _ hg hc ?_
  exact Ag
theorem qmi(h:MayL l):MayL (qcw l):=qBY (qmu (qkE h))
theorem qtG:(qcw l).length<=l.length:=by
 unfold qcw;grind[qyy,qDj,qms]
theorem qzh(h:MayL l){a:Int}(he:Ev l d 0 a r):Ev (qcw l) d 0 a r:=by
 have h1:=qHL (qkE h) (qHt h he);have h2:=qF7 (qmu (qkE h)) h1 (qwt (qmu (qkE h)).pos);unfold qcw;simpa[xQ]using h2
end
def Go1(p:List Ins)(d:GData)(at':Nat)(a r:Int):Prop:=∀(n:Nat) (m:Mac) (bh:Int) (L:List Nat),m.a=a->m.over=false->p.length<at'+n->(qgR p d n m at' bh L).1=r/\(qgR p d n m at' bh L).2.2.2=0
section
variable {p:List Ins}{d:GData}{q:Nat}{a r k:Int}
def qqj{i:Ins}(h:p[q]?=some i):q<p.length:=Ag
def qmf{i:Ins}(h:p[q]?=some i){m:Mac}{n:Nat}{bh:Int}{L:List Nat}(he:(doR m i d).2.2=0)(ho:(doR m i d).1.over=false) :
  qgR p d (n+1) m q bh L=qgR p d n (doR m i d).1 (q+1+(doR m i d).2.1.toNat) (if ql i.code=4 then 42 else 46) (L++[q]):=by
 rw[qgm,h];exact Ae
def qJY(h:p[q]?=some ⟨32,0,0,k⟩)(hk:k % 4=0/\0<=k/\k<64)(hn:Go1 p d (q+1) (wdD d k) r):Go1 p d q a r:=by
 intro n m bh L ha ho hl;have hq:=qqj h;obtain⟨n,rfl⟩:∃n',n=n'+1:=⟨n-1,Ab⟩
 have e:doR m ⟨32,0,0,k⟩ d=({ m with a:=wdD d k },0,0):=by
  have e1:zI 32=true:=Af
  have e2:ql 32=1:=Af
  simp only[doR,e1,e2,qcp,qgE];simp[hk.1,show¬64<=k from Ab,wdD]
 rw[qmf h (by rw[e]) Hu,e];exact hn n _ _ _ rfl ho Ab
def qJX(h:p[q]?=some ⟨84,0,0,k⟩)(hn:Go1 p d (q+1) (xA .u32 a k) r):Go1 p d q a r:=by
 intro n m bh L ha ho hl;have hq:=qqj h;obtain⟨n,rfl⟩:∃n',n=n'+1:=⟨n-1,Ab⟩
 have e:doR m ⟨84,0,0,k⟩ d=({ m with a:=xA .u32 a k },0,0):=by
  have e1:zI 84=true:=Af
  have e2:ql 84=3:=Af
  have e3:zO 84=false:=Af
  simp only[doR,e1,e2,nuM,qB,zP,e3];simp[opM,ha]
 rw[qmf h (by rw[e]) Hu,e];exact hn n _ _ _ rfl ho Ab
def qJZ(h:p[q]?=some ⟨6,0,0,k⟩):Go1 p d q a k:=by
 intro n m bh L ha ho hl;have hq:=qqj h;obtain⟨n,rfl⟩:∃n',n=n'+1:=⟨n-1,Ab⟩
 have e:doR m ⟨6,0,0,k⟩ d=({ m with over:=true,told:=k },0,0):=by
  have e1:zI 6=true:=Af
  have e2:ql 6=5:=Af
  simp only[doR,e1,e2,qo0];simp
 rw[qgm,h];exact Id
def qxW(h:p[q]?=some ⟨5,0,0,k⟩)(hn:Go1 p d (q+1+k.toNat) a r):Go1 p d q a r:=by
 intro n m bh L ha ho hl;have hq:=qqj h;obtain⟨n,rfl⟩:∃n',n=n'+1:=⟨n-1,Ab⟩
 have e:doR m ⟨5,0,0,k⟩ d=(m,k,0):=by
  have e1:zI 5=true:=Af
  have e2:ql 5=4:=Af
  simp only[doR,e1,e2,qga];simp
 rw[qmf h (by rw[e]) Hu,e];exact hn n _ _ _ ha ho Ab
def qDP{c jt jf:Int}(hc:qeW c)(h:p[q]?=some ⟨c,jt,jf,k⟩)(hn:Go1 p d (q+1+(if ww c a k=true then jt else jf).toNat) a r):Go1 p d q a r:=by
 intro n m bh L ha ho hl;have hq:=qqj h;obtain⟨n,rfl⟩:∃n',n=n'+1:=⟨n-1,Ab⟩
 have e:doR m ⟨c,jt,jf,k⟩ d=(m,if ww c a k=true then jt else jf,0):=by
  have e1:zI c=true:=Dp
  have e2:=(qah hc).1;have e3:zO c=false:=Dp
  have e4:=(qah hc).2.1;simp only[doR,e1,e2,qga,e4,qB,zP,e3,ha];simp
 rw[qmf h (by rw[e]) Hu,e];exact hn n _ _ _ ha ho Ab
end
section
variable {l:List Sy}{d:GData}{r:Int}
def bl(l:List Sy)(m:Nat):Nat:=(z7 l m).1.length
def qkk{m:Nat}{x:Sy}(h:l[l.length-(m+1)]?=some x):z7 l (m+1)=((z7 l m).1++(kc (bl l m) (z7 l m).2 x).reverse,(z7 l m).2.set (l.length-(m+1)) (bl l (m+1))):=by
 have e:z7 l (m+1)=((z7 l m).1++(kc (z7 l m).1.length (z7 l m).2 x).reverse,(z7 l m).2.set (l.length-(m+1)) ((z7 l m).1++(kc (z7 l m).1.length (z7 l m).2 x).reverse).length):=by
  conv=>lhs;unfold z7
  exact Ii
 have e2:bl l (m+1)=((z7 l m).1++(kc (z7 l m).1.length (z7 l m).2 x).reverse).length:=by unfold bl;rw[e]
 rw[e2];exact e
def qwL{m m':Nat}(h:m<=m'):∃R,(z7 l m').1=(z7 l m).1++R:=by
 induction m' with
 | zero=>rw[Nat.le_zero.1 h];exact Ae
 | succ m' ih =>
  rcases Nat.lt_or_ge m' m with q|q
  .rw[show m=m'+1 from Ab];exact Ae
  .obtain⟨R,hR⟩:=ih q;cases hx:l[l.length-(m'+1)]? with
   | none =>
    refine⟨R,?_⟩
    conv=>lhs;unfold z7
    rw[hx];exact hR
   | some x=>rw[qkk hx];exact Ae
def qjL{m m':Nat}(h:m<=m'):bl l m<=bl l m':=by
 obtain⟨R,hR⟩:=qwL (l:=l) h;unfold bl;rw[hR,zzP];exact Ab
def qJk{m:Nat}(hm:m<=l.length){j:Nat}(h1:l.length-m<=j)(h2:j<l.length):(z7 l m).2.getD j 0=bl l (l.length-j):=by
 induction m with
 | zero=>exact Ab
 | succ m ih =>
  have hx:l[l.length-(m+1)]?=some l[l.length-(m+1)]:=Ae
  rw[qkk hx,zzs,List.getElem?_set]
  grind[qiv]
def plL(l:List Sy)(j:Nat):Nat:=bl l l.length-bl l (l.length-j)
def cdL(l:List Sy)(j:Nat)(x:Sy):List Ins:=kc (bl l (l.length-(j+1))) (z7 l (l.length-(j+1))).2 x
def qnd:(jZ l).length=bl l l.length:=by unfold jZ bl;rw[List.length_reverse]
def qiu{j:Nat}{x:Sy}(hx:l[j]?=some x):bl l (l.length-j)=bl l (l.length-(j+1))+(cdL l j x).length/\∃A B,jZ l=A++cdL l j x++B/\A.length=plL l j/\B.length=bl l (l.length-(j+1)):=by
 have hj:=(zzS.1 hx).1;have hx2:l[l.length-(l.length-(j+1)+1)]?=some x:=by rw[show l.length-(l.length-(j+1)+1)=j from Ab];exact hx
 have h:=qkk hx2;have hm:l.length-(j+1)+1=l.length-j:=Ab
 rw[hm]at h;have h1:(z7 l (l.length-j)).1=(z7 l (l.length-(j+1))).1++(cdL l j x).reverse:=by rw[h];rfl
 obtain⟨R,hR⟩:=qwL (l:=l) (m:=l.length-j) (m':=l.length) Ab;have hb:bl l (l.length-j)=bl l (l.length-(j+1))+(cdL l j x).length:=by unfold bl;rw[h1,zzP,List.length_reverse]
 refine⟨hb,R.reverse,(z7 l (l.length-(j+1))).1.reverse,?_,?_,?_⟩
 .unfold jZ;rw[hR,h1];simp
 .unfold plL bl;rw[hR,zzP,List.length_reverse];exact Ab
 .rw[List.length_reverse];rfl
def qdz{j:Nat}{x:Sy}(hx:l[j]?=some x){i:Nat}{y:Ins}(hy:(cdL l j x)[i]?=some y):(jZ l)[plL l j+i]?=some y:=by
 obtain⟨_,A,B,h1,h2,_⟩:=qiu hx;rw[h1,<- h2,zzi,zzr Ab,Nat.add_sub_cancel_left,zzj Ag];exact hy
def dsL(l:List Sy)(j t:Nat):Nat:=bl l (l.length-(j+1))-bl l (l.length-t)
def qiN{j t:Nat}(h1:j<t)(h2:t<l.length):bl l (l.length-(j+1))-(z7 l (l.length-(j+1))).2.getD t 0=dsL l j t:=by
 rw[qJk Ab Ab h2];rfl
def qkq{j:Nat}{x:Sy}(hx:l[j]?=some x){t:Nat}(h1:j<t):plL l j+(cdL l j x).length+dsL l j t=plL l t:=by
 have hb:=(qiu hx).1;have b1:=qjL (l:=l) (m:=l.length-j) (m':=l.length) Ab;have b2:=qjL (l:=l) (m:=l.length-t) (m':=l.length-(j+1)) Ab;unfold plL dsL;exact Ab
def qJK{j:Nat}:dsL l j (j+1)=0:=by unfold dsL;exact Ab
def qBX(h:MayL l):∀{j:Nat}{a:Int},Ev l d j a r->Go1 (jZ l) d (plL l j) a r:=by
 intro j a he
 induction he with
 | ld j a r x hx hc _ ih =>
  have hm:=h.all j x hx
  have hk:x.k % 4=0/\0<=x.k/\x.k<64:=by
   rcases hm with q|⟨q,_⟩|⟨q,_⟩|⟨q,_⟩
   .exact Ab
   .exact Ab
   .exact Ab
   .unfold qeW at q;exact Ab
  have e:cdL l j x=[⟨32,0,0,x.k⟩]:=by unfold cdL kc;rw[hc,if_neg Af,if_pos Af]
  have hn:=qkq hx (t:=j+1) Ab;rw[qJK,e]at hn;simp only[List.length_singleton,Nat.add_zero]at hn;exact qJY (qdz hx (i:=0) Fb) hk (by rw[Nat.add_zero,hn];exact ih)
 | an j a r x hx hc _ ih =>
  have e:cdL l j x=[⟨84,0,0,x.k⟩]:=by unfold cdL kc;rw[hc,if_neg Af,if_pos Af]
  have hn:=qkq hx (t:=j+1) Ab;rw[qJK,e]at hn;simp only[List.length_singleton,Nat.add_zero]at hn;exact qJX (qdz hx (i:=0) Fb) (by rw[Nat.add_zero,hn];exact ih)
 | rt j a x hx hc =>
  have e:cdL l j x=[⟨6,0,0,x.k⟩]:=by unfold cdL kc;rw[hc,if_neg Af,if_pos Af]
  exact qJZ (qdz hx (i:=0) Fb)
 | ja j a r x hx hc _ ih =>
  have hm:=(h.all j x hx).ja hc;have e:cdL l j x=[⟨5,0,0,(dsL l j x.th:Nat)⟩]:=by unfold cdL kc;rw[if_pos hc,qiN hm.2.2.1 hm.2.2.2]
  have hn:=qkq hx hm.2.2.1;rw[e]at hn;simp only[List.length_singleton]at hn;exact qxW (qdz hx (i:=0) Fb) (by rw[Nat.add_zero,Int.toNat_natCast,hn];exact ih)
 | jc j a r x hx hc _ ih =>
  have hm:=(h.all j x hx).jc hc;have hk:=qah hc;have n1:=qkq hx hm.1;have n2:=qkq hx hm.2.2.1
  by_cases hf:max (dsL l j x.th) (dsL l j x.el)<=255
  .have e:cdL l j x=[⟨x.code,(dsL l j x.th:Nat),(dsL l j x.el:Nat),x.k⟩]:=by
    unfold cdL kc;rw[if_neg hk.2.1,if_neg (λq=>q hk.1),qiN hm.1 hm.2.1,qiN hm.2.2.1 hm.2.2.2,if_pos hf]
   rw[e]at n1 n2;simp only[List.length_singleton]at n1 n2;refine qDP hc (qdz hx (i:=0) Fb) ?_
   exact Ag
  .have e:cdL l j x=[⟨x.code,0,1,x.k⟩,⟨5,0,0,(dsL l j x.th+1:Nat)⟩,⟨5,0,0,(dsL l j x.el:Nat)⟩]:=by
    unfold cdL kc;rw[if_neg hk.2.1,if_neg (λq=>q hk.1),qiN hm.1 hm.2.1,qiN hm.2.2.1 hm.2.2.2,if_neg hf]
   rw[e]at n1 n2;simp only[zze,List.length_nil]at n1 n2;refine qDP hc (qdz hx (i:=0) Fb) ?_
   by_cases q:ww x.code a x.k=true
   .rw[if_pos q]at ih ⊢;refine qxW (k:=((dsL l j x.th+1:Nat):Int)) (qdz hx (i:=1) (y:=⟨5,0,0,(dsL l j x.th+1:Nat)⟩) Fb) ?_;rw[Int.toNat_natCast];have e2:plL l j+0+1+(0:Int).toNat+1+(dsL l j x.th+1)=plL l x.th:=Ab
    rw[e2];exact ih
   .rw[if_neg q]at ih ⊢;refine qxW (k:=((dsL l j x.el:Nat):Int)) (qdz hx (i:=2) (y:=⟨5,0,0,(dsL l j x.el:Nat)⟩) Fb) ?_;rw[Int.toNat_natCast];have e2:plL l j+0+1+(1:Int).toNat+1+dsL l j x.el=plL l x.el:=Ab
    rw[e2];exact ih
def qvr(h:MayL l)(he:Ev l d 0 0 r):(qfO (jZ l) d).1=r/\(qfO (jZ l) d).2.2.2=0:=by
 have:=qBX h he;have e:plL l 0=0:=by unfold plL;rw[Nat.sub_zero];exact Ab
 rw[e]at this;exact this _ _ _ _ rfl rfl Ab
end
def kj(l:List Sy):Prop:=∀x ∈ l,0<=x.k/\x.k<=4294967295
section
variable {l:List Sy}
def qC5(h:kj l):kj (qgn l):=by
 intro x hx;unfold qgn at hx;obtain⟨y,hy,rfl⟩:=zzl.1 hx;exact h y hy
def qp4(h:kj l):∀m,kj (qgS l m)
 | 0=>h
 | m+1=>by
  unfold qgS;split
  .rename_i x hx;intro y hy;rcases List.mem_or_eq_of_mem_set hy with hy|rfl
   .exact qp4 h m y hy
   .have hk:=h x Ag;unfold qbH;split
    .exact Ae
    .exact hk
  .exact qp4 h m
theorem qtH(h:kj l):kj (qcw l):=by
 intro x hx;unfold qcw qh6 at hx;obtain⟨q,hq⟩:=List.getElem?_of_mem hx;obtain⟨p,_,h2,_⟩:=qmr hq;rw[zzo]at h2;obtain⟨y,hy,rfl⟩:=Option.map_eq_some_iff.1 h2;exact qp4 (qC5 h) _ y (zzM hy)
def qsU(h:MayL l):∀{m:Nat},m<=l.length->∀{b:Nat}{i:Ins},(z7 l m).1[b]?=some i->∃(j:Nat) (x:Sy) (e:Nat),l[j]?=some x/\(cdL l j x)[e]?=some i/\b+e+1=bl l (l.length-j)
 | 0,_,b,i,hb=>by simp[z7]at hb
 | m+1,hm,b,i,hb=>by
  have hx:l[l.length-(m+1)]?=some l[l.length-(m+1)]:=Ae
  have hs:=qkk hx;have hcd:cdL l (l.length-(m+1)) l[l.length-(m+1)]=kc (bl l m) (z7 l m).2 l[l.length-(m+1)]:=by unfold cdL;rw[show l.length-(l.length-(m+1)+1)=m from Ab]
  have h1:(z7 l (m+1)).1=(z7 l m).1++(cdL l (l.length-(m+1)) l[l.length-(m+1)]).reverse:=by rw[hs,hcd]
  rw[h1,List.getElem?_append]at hb;split at hb
  .exact qsU h Ab hb
  .rename_i hlt;have hbl:(z7 l m).1.length=bl l m:=rfl;rw[hbl]at hlt hb;have hc:=(qiu hx).1;rw[show l.length-(l.length-(m+1))=m+1 from Ab,show l.length-(l.length-(m+1)+1)=m from Ab]at hc
   have hlen:=(zzS.1 hb).1;rw[List.length_reverse]at hlen;rw[List.getElem?_reverse hlen]at hb
   exact Ag
def qyu(h:MayL l){k:Nat}{i:Ins}(hk:(jZ l)[k]?=some i):∃(j:Nat) (x:Sy) (e:Nat),l[j]?=some x/\(cdL l j x)[e]?=some i/\(jZ l).length-1-k+e+1=bl l (l.length-j):=by
 have hl:=(zzS.1 hk).1;have e:=hk;unfold jZ at e;rw[List.getElem?_reverse Ag]at e;obtain⟨j,x,e,h1,h2,h3⟩:=qsU h (zzL _) e;refine⟨j,x,e,h1,h2,?_⟩;rw[qnd];exact h3
structure LkOk (i:Ins) (n:Nat):Prop where
 ok:InsOk i
 one:qc3 i n=0
 c:i.code≠96/\i.code≠97
def qpe(h:MayL l){t:Nat}(ht:t<l.length):0<bl l (l.length-t):=by
 have hx:l[t]?=some l[t]:=Ae
 have h1:=(qiu hx).1;have h2:=(qre (n:=bl l (l.length-(t+1))) (pl:=(z7 l (l.length-(t+1))).2) (x:=l[t])).2;have:(cdL l t l[t]).length=(kc (bl l (l.length-(t+1))) (z7 l (l.length-(t+1))).2 l[t]).length:=rfl;exact Ab
def qts{c k:Int}{n:Nat}(hc:c=32/\k % 4=0/\k<64\/c=84\/c=6)(hk:0<=k/\k<=4294967295):LkOk ⟨c,0,0,k⟩ n:=by
 have hc2:c=32\/c=84\/c=6:=by rcases hc with h|h|h<;>simp[h]
 have b1:zI c=true:=Jl
 have b2:ql c≠2/\ql c≠4:=Jl
 refine⟨⟨Ag,Ag,Int.le_refl 0,Ae,Int.le_refl 0,Ae,hk.1,hk.2⟩,?_,Ag⟩
 have a1:qgr ⟨c,0,0,k⟩=false:=by simp[qgr,b1]
 have a2:vx ⟨c,0,0,k⟩=false:=by
  rcases hc with⟨h1,h2,h3⟩|h|h
  .simp[vx,h2,show¬64<=k from Ab]
  .simp[vx,h]
  .simp[vx,h]
 have a3:qaX ⟨c,0,0,k⟩=false:=by simp[qaX,b2.1,show c≠96 from Ab,show c≠97 from Ab]
 have a4:qaY ⟨c,0,0,k⟩=false:=by simp[qaY,show c≠52 from Ab]
 have a5:qaZ ⟨c,0,0,k⟩=false:=by simp[qaZ,show c≠100 from Ab,show c≠116 from Ab]
 have a6:qa0 ⟨c,0,0,k⟩ n=false:=by simp[qa0,b2.2,show c≠5 from Ab]
 simp[qc3,a1,a2,a3,a4,a5,a6]
theorem qyz{k n:Nat}(h:k<n)(hn:k<=1000000):LkOk ⟨5,0,0,(k:Int)⟩ n:=by
 refine⟨⟨Ae,Ae,Int.le_refl 0,Ae,Int.le_refl 0,Ae,Ae,Ag⟩,?_,Ae⟩
 have a1:qgr ⟨5,0,0,k⟩=false:=by
  have:zI 5=true:=Af
  simp[qgr,this]
 have a2:vx ⟨5,0,0,k⟩=false:=by simp[vx]
 have a3:qaX ⟨5,0,0,k⟩=false:=by
  have:ql 5≠2:=Af
  simp[qaX,this]
 have a4:qaY ⟨5,0,0,k⟩=false:=by simp[qaY]
 have a5:qaZ ⟨5,0,0,k⟩=false:=by simp[qaZ]
 have a6:qa0 ⟨5,0,0,k⟩ n=false:=by simp[qa0];exact Ab
 simp[qc3,a1,a2,a3,a4,a5,a6]
theorem qDW{c k:Int}{jt jf n:Nat}(hc:qeW c)(hk:0<=k/\k<=4294967295)(h1:jt<=255)(h2:jf<=255)(h3:jt<n)(h4:jf<n):LkOk ⟨c,jt,jf,k⟩ n:=by
 have b1:zI c=true:=Dp
 have b2:ql c≠2:=by rw[(qah hc).1];exact Af
 have b3:c≠32/\c≠96/\c≠97/\c≠52/\c≠100/\c≠116/\c≠5/\0<=c/\c<=65535:=Dp
 refine⟨⟨b3.2.2.2.2.2.2.2.1,b3.2.2.2.2.2.2.2.2,Ae,Ag,Ae,Ag,hk.1,hk.2⟩,?_,Ae⟩
 have a1:qgr ⟨c,jt,jf,k⟩=false:=by simp[qgr,b1]
 have a2:vx ⟨c,jt,jf,k⟩=false:=by simp[vx,b3.1]
 have a3:qaX ⟨c,jt,jf,k⟩=false:=by simp[qaX,b2,b3.2.1,b3.2.2.1]
 have a4:qaY ⟨c,jt,jf,k⟩=false:=by simp[qaY,b3.2.2.2.1]
 have a5:qaZ ⟨c,jt,jf,k⟩=false:=by simp[qaZ,b3.2.2.2.2.1,b3.2.2.2.2.2.1]
 have a6:qa0 ⟨c,jt,jf,k⟩ n=false:=by
  have:¬(n:Int)<=hiM ⟨c,jt,jf,k⟩:=by unfold hiM;exact Ag
  simp only[qa0,if_neg b3.2.2.2.2.2.2.1,this,decide_false,Bool.and_false]
 simp[qc3,a1,a2,a3,a4,a5,a6]
def qpD(h:MayL l)(hr:kj l){k:Nat}{i:Ins}(hk:(jZ l)[k]?=some i):LkOk i ((jZ l).length-1-k):=by
 obtain⟨j,x,e,hx,he,hb⟩:=qyu h hk;have hm:=h.all j x hx;have hxr:=hr x Ag;have hbl:=(qiu hx).1;have hbig:bl l (l.length-j)<=3*l.length:=zzg (qiv (l:=l) (l.length-j)).2.2 Ab;have hbig2:=h.big
 have one:∀{y:Ins},cdL l j x=[y]->i=y/\(jZ l).length-1-k=bl l (l.length-(j+1)):=λ{y} hy=>by
  rw[hy]at he hbl
  exact Ag
 rcases hm with⟨q,_,_,q1,q2,q3⟩|⟨q,_⟩|⟨q,_,_,q3,q4⟩|⟨q,q1,q2,q3,q4⟩
 .obtain⟨e1,_⟩:=one (y:=⟨x.code,0,0,x.k⟩) (by unfold cdL kc;rw[q,if_neg Af,if_pos Af])
  rw[e1];simp_all[qts]
 .obtain⟨e1,_⟩:=one (y:=⟨x.code,0,0,x.k⟩) (by unfold cdL kc;rcases q with q|q<;>rw[q,if_neg Af,if_pos Af])
  rw[e1];simp_all[qts]
 .obtain⟨e1,e2⟩:=one (y:=⟨5,0,0,(dsL l j x.th:Nat)⟩) (by unfold cdL kc;rw[if_pos q,qiN q3 q4]);have hp:=qpe h q4;have hmn:=qjL (l:=l) (m:=l.length-x.th) (m':=l.length-(j+1)) Ab;rw[e1,e2];unfold dsL
  grind[qyz]
 .have hp:=qpe h q2;have hp2:=qpe h q4;have hmn:=qjL (l:=l) (m:=l.length-x.th) (m':=l.length-(j+1)) Ab;have hmn2:=qjL (l:=l) (m:=l.length-x.el) (m':=l.length-(j+1)) Ab;have hkk:=qah q;have d1:dsL l j x.th<bl l (l.length-(j+1)):=by unfold dsL;exact Ab
  have d2:dsL l j x.el<bl l (l.length-(j+1)):=by unfold dsL;exact Ab
  by_cases hf:max (dsL l j x.th) (dsL l j x.el)<=255
  .obtain⟨e1,e2⟩:=one (y:=⟨x.code,(dsL l j x.th:Nat),(dsL l j x.el:Nat),x.k⟩) (by
    unfold cdL kc;rw[if_neg hkk.2.1,if_neg (λz=>z hkk.1),qiN q1 q2,qiN q3 q4,if_pos hf])
   rw[e1,e2];grind[qDW]
  .have e3:cdL l j x=[⟨x.code,0,1,x.k⟩,⟨5,0,0,(dsL l j x.th+1:Nat)⟩,⟨5,0,0,(dsL l j x.el:Nat)⟩]:=by
    unfold cdL kc;rw[if_neg hkk.2.1,if_neg (λz=>z hkk.1),qiN q1 q2,qiN q3 q4,if_neg hf]
   rw[e3]at he hbl;simp only[zze,List.length_nil]at hbl
   match e,he,hb with
   | 0,he,hb =>
    grind[qDW]
   | 1,he,hb =>
    simp only[List.getElem?_cons_succ,zzn,Option.some.injEq]at he;subst he;exact qyz Ab Ab
   | 2,he,hb =>
    grind[qyz]
   | e+3,he,hb=>exact Ag
def qvp(h:MayL l):qfg (jZ l)=6:=by
 obtain⟨s,hs,h6⟩:=h.last;have hp:=h.pos;obtain⟨hb,A,B,h1,h2,h3⟩:=qiu hs;have e:cdL l (l.length-1) s=[⟨6,0,0,s.k⟩]:=by unfold cdL kc;rw[h6,if_neg Af,if_pos Af]
 have hB:B=[]:=by
  apply List.eq_nil_of_length_eq_zero;rw[h3,show l.length-(l.length-1+1)=0 from Ab];rfl
 rw[e,hB,List.append_nil]at h1;unfold qfg;rw[h1];simp
def qyw(h:MayL l):0<(jZ l).length:=by
 rw[qnd];have:=qpe h h.pos;exact Ab
def qyv:(jZ l).length<=3*l.length:=by rw[qnd];exact(qiv (l:=l) l.length).2.2
def qvo(h:MayL l)(hr:kj l)(hl:(jZ l).length<=4096):PrgGood (jZ l) :=
 ⟨hl,by have:=qyw h;exact Ab,λi hi=>by obtain⟨k,hk⟩:=List.getElem?_of_mem hi;exact(qpD h hr hk).ok,λk i hk=>(qpD h hr hk).one,by rw[qvp h];exact Af⟩
-- no cell is read
theorem qHS{i:Ins}(hi:i.code≠96/\i.code≠97){x:BitVec 16}{j:Nat}{L:List Nat}:qlq i x j L=L:=by
 unfold qlq;simp[rdM,hi.1,hi.2]
def qEn{n:Nat}:∀{p:List Ins}{j:Nat}{st:WSt},(∀i ∈ p,i.code≠96/\i.code≠97)->(wkM n j p st).1=st.1
 | [],_,_,_=>rfl
 | i::p,j,st,h=>by
  unfold wkM;rw[qEn Ae];unfold stM
  grind[qHS]
def qAb{rch:List Bool}{sur:List (BitVec 16)}:∀{p:List Ins}{j:Nat}{L:List Nat},(∀i ∈ p,i.code≠96/\i.code≠97)->qlp rch sur j p L=L
 | [],_,_,_=>rfl
 | i::p,j,L,h=>by
  unfold qlp;have hi:=h i Ae;rw[qAb Ae,if_neg (by simp[unC,rdC,hi.1,hi.2])]
def qql{n:Nat}:∀{p:List Ins}{j:Nat},(∀(k:Nat) i,p[k]?=some i->qc3 i (n-1-(j+k))=0)->qeX n j p=none
 | [],_,_=>rfl
 | i::p,j,h=>by
  rw[qeo,if_pos (by simpa using h 0 i rfl)];exact qql λk i hk=>by have:=h (k+1) i (by simpa using hk);rw[show j+1+k=j+(k+1)from Ab];exact Ab
def qBD{p:List Ins}(h:PrgGood p):atU p []=(0,0):=by
 unfold atU;rw[if_neg (by have:=h.ne;have:=h.len;exact Ab),qql (by grind[PrgGood.one])]
 simp[h.last]
def qyx(h:MayL l)(hr:kj l):qdU (jZ l)=[]/\qlo (jZ l)=[]:=by
 have hc:∀i ∈ jZ l,i.code≠96/\i.code≠97:=λi hi=>by obtain⟨k,hk⟩:=List.getElem?_of_mem hi;exact(qpD h hr hk).c
 exact⟨qEn hc,qAb hc⟩
end
structure FilU (x:GFil):Prop where
 d:0<=x.dflt/\x.dflt<=4294967295
 r:∀r ∈ x.rules,0<=r.act/\r.act<=4294967295
 t:∀r ∈ x.rules,∀t ∈ r.tests,0<=t.act/\t.act<=4294967295
def kj.app{a b:List Sy}(h1:kj a)(h2:kj b):kj (a++b):=λx hx=>by
 rcases zzd.1 hx with h|h
 .exact h1 x h
 .exact h2 x h
theorem kj.nil:kj []:=λx hx=>by cases hx
theorem kj.cons{s:Sy}{l:List Sy}(h1:0<=s.k/\s.k<=4294967295)(h2:kj l):kj (s::l):=λx hx=>by
 rcases zzc.1 hx with rfl|h
 .exact h1
 .exact h2 x h
def r0:(0:Int)<=0/\(0:Int)<=4294967295:=Ab
def qq2{a m v:Int}{p F:Nat}(ha:0<=a/\a<=4294967295)(hm:0<=m/\m<=4294967295)(hv:0<=v/\v<=4294967295):kj (qex a m v p F):=by
 unfold qex
 grind[kj.nil,kj.cons]
def qKe{x:Int}(h0:0<=x)(h1:x<18446744073709551616):(0<=loW x/\loW x<=4294967295)/\0<=hiW x/\hiW x<=4294967295:=by
 unfold loW hiW;exact Ab
def qz2{t:GTest}{p:Nat}(ht:TstOk t)(ha:0<=t.act/\t.act<=4294967295):kj (qjc t p):=by
 have h1:=qKe ht.m0 ht.m1;have h2:=qKe ht.v0 ht.v1;have a0:=ht.a0;have a1:=ht.a1;exact((qq2 Ab h1.1 h2.1).app (qq2 Ab h1.2 h2.2)).app (.cons ha .nil)
def qo3:∀{ts:List GTest}{a:Int}{p:Nat},(∀t ∈ ts,TstOk t/\0<=t.act/\t.act<=4294967295)->(0<=a/\a<=4294967295)->kj (qc6 ts a p)
 | [],a,p,_,ha=>.cons ha .nil
 | t::ts,a,p,h,ha=>by
  have ht:=h t Ae;unfold qc6;refine(qz2 ht.1 ht.2).app ?_;split
  .exact .nil
  .exact qo3 Ae ha
def qoS:∀{rs:List GRule}{p:Nat},(∀r ∈ rs,(0<=r.act/\r.act<=4294967295)/\∀t ∈ r.tests,TstOk t/\0<=t.act/\t.act<=4294967295)->kj (xK rs p)
 | [],_,_=>.nil
 | r::rs,p,h=>by
  have hr:=h r Ae;unfold xK;exact(qo3 hr.2 hr.1).app (qoS Ag)
def qDk{a:Int}(h0:0<=a)(h6:a<6):0<=qeb a/\qeb a<=4294967295:=by
 have:a=0\/a=1\/a=2\/a=3\/a=4\/a=5:=Ab
 rcases this with rfl|rfl|rfl|rfl|rfl|rfl<;>decide
def qCy{a:Int}{p F:Nat}(h0:0<=a)(h6:a<6):kj (qbB a p F):=by
 unfold qbB;have hb:(0:Int)<=1073741824/\(1073741824:Int)<=4294967295:=Ab
 refine kj.app (.cons Ae (.cons (qDk h0 h6) (.cons r0 .nil))) ?_
 grind[kj.cons,kj.nil]
def qr5{FW:Nat->Nat}{T:List Nd}{p:Nat}(h:∀n ∈ T,0<=n.at'/\n.at'<=4294967295):kj (jj FW T p):=by
 unfold jj;refine kj.app ?_ ?_
 .cases T with
  | nil=>exact .nil
  | cons n T =>
   show kj (if n.leaf=true then [⟨5,0,FW n.way,0⟩]else [])
   split
   all_goals simp_all[kj.cons,kj.nil]
 .unfold brE;intro x hx;obtain⟨n,hn,hx⟩:=List.mem_flatMap.1 hx;unfold qlb at hx
  exact Ae
def qDl(n:Nat):∀(l:List Sp) (a:Nat),l.length<=n->SpR l->∀nd ∈ xn l a,0<=nd.at'/\nd.at'<4294967296:=by
 induction n with
 | zero =>
  grind[xn.eq_1]
 | succ n ih =>
  intro l a h1 hr nd hnd;rw[xn]at hnd
  by_cases hk:l.length / 2=0
  .rw[dif_pos hk,zz1]at hnd
   exact Ae
  .rw[dif_neg hk]at hnd;rcases zzc.1 hnd with rfl|hnd
   .have hlt:l.length / 2<l.length:=Ab
    have:=hr _ (List.getElem_mem hlt)
    exact Ae
   .rcases zzd.1 hnd with hnd|hnd
    .exact ih (l.take (l.length / 2)) _ Ag (λs hs=>hr s Ag) nd hnd
    .exact ih (l.drop (l.length / 2)) _ Ag (λs hs=>hr s Ag) nd hnd
section
variable {x:GFil}
def qqF(h:FilG x)(hu:FilU x):kj (zK x):=by
 unfold zK;refine(((kj.app (qCy h.a0 h.a6) (qr5 λn hn=>?_)).app (.cons hu.d .nil)).app (qoS λr hr=>⟨hu.r r hr,λt ht=>⟨(h.ts r hr t ht).ok,hu.t r hr t ht⟩⟩)).app (.cons Ae .nil)
 have:=qDl _ _ 0 (zzL _) (qkW h.spans.1 (Int.le_refl 0) (Int.le_refl _)) n hn;exact Ab
def szF(x:GFil):Nat:=10+(x.rules.map λr=>3+7*r.tests.length).sum
def qv2{rs:List GRule}:zR rs+2*rs.length<=(rs.map λr=>3+7*r.tests.length).sum:=by
 induction rs with
 | nil=>simp[zR]
 | cons r rs ih =>
  have:=qln (ts:=r.tests);simp[zR,qpV]at ih ⊢;exact Ab
def qs8(h:FilG x):(zK x).length<=szF x:=by
 have h1:=h.dfl.1;have h2:=qv2 (rs:=x.rules);rw[qol];unfold wm szF;exact Ab
end
def qpr:∀{ts:List GTest}{a:Int},(qgv ts a).1.Sublist ts/\((qgv ts a).2=a\/∃t ∈ ts,(qgv ts a).2=t.act)
 | [],_=>⟨.slnil,.inl rfl⟩
 | t::ts,a=>by
  unfold qgv;split
  .exact Ae
  .obtain⟨h1,h2⟩:=qpr (ts:=ts) (a:=a)
   exact Ag
def qz8{a:Int}{ts:List GTest}:(qhh a ts).Sublist ts:=by
 unfold qhh;have:=List.dropWhile_sublist (λt:GTest=>decide (t.act=a)) (l:=ts.reverse)
 have:=this.reverse;rwa [List.reverse_reverse]at this
def qs4{q:GTest->Bool}:∀{ts:List GTest}{a:Int},(∀t ∈ ts,t.mask=0->q t=true)->fnd q (qgv ts a).2 (qgv ts a).1=fnd q a ts
 | [],_,_=>rfl
 | t::ts,a,h=>by
  unfold qgv;split
  .grind[qjV,qdm]
  .rw[qdm,qdm,qs4 Ae]
theorem qqO{q:GTest->Bool}{a:Int}{t:GTest}(h:t.act=a):∀{ts:List GTest},fnd q a (ts++[t])=fnd q a ts
 | []=>by rw[zzN,qdm,qjV,h];split<;>rfl
 | y::ts=>by rw[zzC,qdm,qdm,qqO h]
def qz7{q:GTest->Bool}{a:Int}(n:Nat):∀(ts:List GTest),ts.length=n->fnd q a (qhh a ts)=fnd q a ts:=by
 induction n with
 | zero=>intro ts h;rw[List.eq_nil_of_length_eq_zero h];rfl
 | succ n ih =>
  intro ts h;have e:ts=ts.dropLast++[ts.getLast (by intro h0;rw[h0]at h;exact G3)]:=(List.dropLast_concat_getLast _).symm
  grind[qnI,qqO]
def qp7:∀{l:List GRule}{o:Option GRule},upR o l=true↔(∀r ∈ l,qcJ r=true)/\(∀b,o=some b->∀r ∈ l,b.nr<r.nr)/\l.Pairwise λa b=>a.nr<b.nr
 | [],o=>by simp[upR]
 | r::l,o=>by
  have ih:=qp7 (l:=l) (o:=some r);simp only[upR,zzB,ih,List.forall_mem_cons,List.pairwise_cons];constructor
  .exact Ag
  .rintro⟨⟨h1,h3⟩,h2,h4,h5⟩;refine⟨⟨h1,?_⟩,h3,λb hb=>by cases hb;exact h4,h5⟩
   cases o with
   | none=>rfl
   | some b=>simpa using(h2 b rfl).1
section
variable {x:GFil}
theorem qnj{r:GRule}:(wj r).nr=r.nr:=rfl
theorem qc1{r:GRule}:(wj r).tests.Sublist r.tests:=qz8.trans qpr.1
def qrr{r:GRule}:(wj r).act=r.act\/∃t ∈ r.tests,(wj r).act=t.act:=qpr.2
def qy1{q:GTest->Bool}{r:GRule}(h:∀t ∈ r.tests,t.mask=0->q t=true):fnd q (wj r).act (wj r).tests=fnd q r.act r.tests :=
 (qz7 _ _ rfl).trans (qs4 h)
theorem qgg{r:GRule}(h:r ∈ (kg x).rules):∃r0 ∈ x.rules,r=wj r0:=by
 obtain⟨h1,_⟩:=List.mem_filter.1 h
 exact Ag
theorem qst{r:GRule}(h:qcJ r=true):qcJ (wj r)=true:=by
 simp only[qcJ,zzB,zzb,zzy]at h ⊢;obtain⟨⟨h1,h2⟩,h3⟩:=h;refine⟨⟨zzg qc1.length_le h1,λt ht=>h2 t (qc1.subset ht)⟩,?_⟩
 rcases qrr (r:=r)with e|⟨t,ht,e⟩
 .rw[e];exact h3
 .rw[e];have:=h2 t ht;simp only[qcK,zzB]at this;exact Ae
def qix(h:wZ x=true):wZ (kg x)=true:=by
 simp only[wZ,zzB,zzb]at h ⊢;obtain⟨⟨⟨⟨k1,k2⟩,k3⟩,k4⟩,k5⟩:=h;obtain⟨u1,_,u3⟩:=qp7.1 k5;refine⟨⟨⟨⟨k1,k2⟩,?_⟩,k4⟩,qp7.2 ⟨λr hr=>?_,Ae,?_⟩⟩
 .have:=List.length_filter_le (qco x.dflt) (x.rules.map wj);rw[zzz]at this;exact zzg this k3
 .grind[qgg,qst]
 .exact ((List.pairwise_map (f:=wj) (R:=λa b:GRule=>a.nr<b.nr)).2 u3).filter _
def qpH(h:FilR x):FilR (kg x):=by
 refine⟨λr hr=>?_,λr hr t ht=>?_⟩
 .obtain⟨r0,h0,rfl⟩:=qgg hr;exact h.nr r0 h0
 .obtain⟨r0,h0,rfl⟩:=qgg hr;exact h.ts r0 h0 t (qc1.subset ht)
def qGz(h:FilU x):FilU (kg x):=by
 refine⟨h.d,λr hr=>?_,λr hr t ht=>?_⟩
 .obtain⟨r0,h0,rfl⟩:=qgg hr;rcases qrr (r:=r0)with e|⟨t,ht,e⟩
  .rw[e];exact h.r r0 h0
  .rw[e];exact h.t r0 h0 t ht
 .obtain⟨r0,h0,rfl⟩:=qgg hr;exact h.t r0 h0 t (qc1.subset ht)
def qCb:szF (kg x)<=szF x:=by
 have:∀l:List GRule,(((l.map wj).filter (qco x.dflt)).map λr=>3+7*r.tests.length).sum<=(l.map λr=>3+7*r.tests.length).sum:=λl=>by
  induction l<;>grind[qc1]
 have:=this x.rules;exact Nat.add_le_add_left this 10
def qoo{d n:Int}{q:GTest->Bool}:∀{l:List GRule},(∀r ∈ l,∀t ∈ r.tests,t.mask=0->q t=true)->l.Pairwise (λa b=>a.nr<b.nr)->
  (match ((l.map wj).filter (qco d)).find? (λr=>decide (r.nr=n))with|none=>d|some r=>fnd q r.act r.tests)=(match l.find? (λr=>decide (r.nr=n))with|none=>d|some r=>fnd q r.act r.tests)
 | [],_,_=>rfl
 | r::l,h,hp=>by
  obtain⟨p1,p2⟩:=List.pairwise_cons.1 hp;have hr:=qy1 (h r (List.mem_cons_self ..));have ih:=qoo (d:=d) (n:=n) (q:=q) (l:=l) Ag p2;rw[zz3,List.filter_cons,List.find?_cons]
  by_cases hn:r.nr=n
  .have no:((l.map wj).filter (qco d)).find? (λr=>decide (r.nr=n))=none:=by
    refine List.find?_eq_none.2 λy hy=>?_
    obtain⟨y1,_⟩:=List.mem_filter.1 hy;obtain⟨z,hz,rfl⟩:=zzl.1 y1;have:=p1 z hz;rw[qnj];simp;exact Ab
   simp only[hn,decide_true]
   by_cases hk:qco d (wj r)=true
   .rw[if_pos hk,List.find?_cons];simp only[qnj,hn,decide_true];exact hr
   .rw[if_neg hk,no];simp only[qco,zzO,zzb]at hk;have h0:(wj r).tests=[]:=Ag
    have h1:(wj r).act=d:=Ab
    rw[h0,h1,qjV]at hr;exact hr
  grind[qnj]
def qy0(h:FilG x)(hp:x.rules.Pairwise λa b=>a.nr<b.nr){d:GData}(hd:DatOk d):qd8 (kg x) d=qd8 x d:=by
 rw[qjQ,qjQ];rw[show(kg x).arch=x.arch from rfl]
 by_cases hc:(ofM d.arch d.nr).2=false\/(ofM d.arch d.nr).1≠x.arch
 .rw[if_pos hc,if_pos hc]
 .rw[if_neg hc,if_neg hc];refine qoo (λr hr t ht h0=>?_) hp
  have hg:=h.ts r hr t ht
  have hv:t.val=0:=by
   have:=hg.sub;rw[h0]at this;have e:=qel (a:=t.val.toNat) (b:=0) (by have:=hg.ok.v1;exact Ab) Af
   rw[Int.toNat_of_nonneg hg.ok.v0]at e;rw[<- this];simpa using e
  have ha:=qpb hd hg.ok.a0 hg.ok.a1;have e:=qel (a:=(qmy d t.arg).toNat) (b:=0) Ab Af;rw[Int.toNat_of_nonneg ha.1]at e;unfold xr;rw[h0,hv]
  grind[TstOk.a0,TstG.ok,TstOk.a1]
end
structure PrgT (p:List Ins) (n:Nat) (den:GData->Int):Prop where
 good:PrgGood p
 um:qdU p=[]
 ud:qlo p=[]
 len:p.length<=3*n
 tells:∀d,DatOk d->(qfO p d).1=den d/\(qfO p d).2.2.2=0
def qnW(a:List Ins×Int)(n:Nat)(den:GData->Int):Prop:=(a.2=270/\a.1=[]/\1365<n)\/(a.2=0/\PrgT a.1 n den)
theorem qpC{l:List Sy}{n:Nat}{den:GData->Int}(h:MayL l)(hr:kj l)(hl:l.length<=n)(he:∀d,DatOk d->Ev l d 0 0 (den d)):qnW (xu l) n den:=by
 have h3:=qyv (l:=l);unfold xu
 by_cases hb:4096<(jZ l).length
 .rw[if_pos hb];exact .inl Ag
 .rw[if_neg hb];have hu:=qyx h hr;exact .inr ⟨rfl,qvo h hr Ab,hu.1,hu.2,Ag,λd hd=>qvr h (he d hd)⟩
section
variable {x:GFil}
theorem qFi(hK:wZ x=true)(hR:FilR x)(hU:FilU x):qnW (qgW x) (szF x) (qd8 x):=by
 have hG:=FilG.of hK hR;unfold qgW;rw[if_pos hK];exact qpC (qhA hG) (qqF hG hU) (qs8 hG) λd hd=>qs7 hG hd 0
theorem qFh(hK:wZ x=true)(hR:FilR x)(hU:FilU x):qnW (qhz x) (szF x) (qd8 x):=by
 have hG:=FilG.of hK hR;have hG2:=FilG.of (qix hK) (qpH hR);have hm:=qhA hG2
 have hp:x.rules.Pairwise λa b=>a.nr<b.nr:=by
  simp only[wZ,zzB]at hK
  simp_all[qp7]
 unfold qhz;rw[if_pos hK];refine qpC (qmi hm) (qtH (qqF hG2 (qGz hU))) (zzg qtG (zzg (qs8 hG2) qCb)) λd hd=>?_
 rw[<- qy0 hG hp hd];exact qzh hm (qs7 hG2 hd 0)
theorem qt3{u v:List Ins×Int}{n:Nat}{den:GData->Int}(hu:qnW u n den)(hv:qnW v n den):qnW (qeP u v) n den:=by
 unfold qeP;exact Ag
def qFg(hK:wZ x=true)(hR:FilR x)(hU:FilU x)(o:Bool):qnW (qes x o) (szF x) (qd8 x):=by
 unfold qes;grind[qt3,qFi,qFh]
def qA9(hK:wZ x=false)(o:Bool):qes x o=([],210):=by
 unfold qes qgW qhz qeP;exact Ag
end
end
section
variable {P:Program}{f:Nat}
def qd5(x:GFil):Prop:=x.rules.length<=100000/\∀r ∈ x.rules,r.tests.length<=100000
def qDz(P:Program)(g:Nat):Prop:=∀x,qd5 x->qc P g [.agg (ze x)] (.b (wZ x))
def qwX(P:Program)(g:Nat):Prop:=∀x,FilR x->qd5 x->qc P g [.agg (ze x)] (qqd x)
def qs1(P:Program)(g:Nat):Prop:=∀l,MayL l->qc P g [.fz l.length (rSy l)] (qjK l)
def qAX(P:Program)(g:Nat):Prop:=∀l,MayL l->qc P g [.fz l.length (rSy l)] (.tup [.fz (qcw l).length (rSy (qcw l)),.j 0])
def qw3(P:Program)(g:Nat):Prop:=∀x,qd5 x->qc P g [.agg (ze x)] (qum x)
def qDC(P:Program)(g:Nat):Prop:=∀l:List (Int×Nat),l.length<=100000->(∀y ∈ l,0<=y.1/\y.1<4294967296)->qzL l->qc P g [.fz l.length (qaO l),.fz l.length (qbC l),.j 0] (.tup [.fz (xD (pcs 0 l 0)).length (rSp (xD (pcs 0 l 0))),.j 0])
def qDD(P:Program)(g:Nat):Prop:=∀l:List Sp,l.length<=400000->0<l.length->SpR l->qc P g [.fz l.length (rSp l)] (qsS l)
def qMl{g1 g2 g3 h1:Nat}(hc:Ck P f (qjm g1 g2))(hp:Ck P g1 (qeD g3))(hm:Ck P g2 (qeC h1))(hm1:Ck P h1 va)(hp1:Ck P g3 qcZ):qDC P f:=λl hl hr hu =>
 qHA hc l 0 (qvS hp l 0) (qro hm hm1 hp1 l 0 hl hr) hl hu
def qMn{g1 g2:Nat}(hc:Ck P f (qfz g1 g2))(h1:Ck P g1 qfx)(h2:Ck P g2 vN):qDD P f:=λl hl h0 hr =>
 qwe hc h2 l (qsO h1 l Ab hr) hl h0
def qLH{g gl gp gj gh gr go gb gR gd gt gH gA gB gC gD gM gS gT:Nat}(hc:Ck P f (qgA gM go gS gT gb gh gr gR gd))(E:EFn P g gl gp gj gh gr go gb gR gd gt gH gA gB gC gD)(hM:qDz P gM)(hS:qDC P gS)(hT:qDD P gT):qwX P f:=λx hR hL =>
 quW hc E x hR (hM x hL) λhK=>by
  have hG:=FilG.of hK hR;have hd:=hG.dfl;have hn:=hG.n;have hs:=hG.spans;have hT:=hT (xD (pcs 0 (zd x.rules) 0)) (by have:=hs.2.2.2.2;exact Ab) hG.pos (qkW hs.1 (Int.le_refl 0) (Int.le_refl _))
  unfold qsS at hT;rw[if_pos (qof hs.1)]at hT;refine⟨by have:=hd.1;exact Ab,by have:=hd.2;exact Ab,hG.tne,hG.nodes,hS (zd x.rules) (by rw[qc2];exact Ab) (λy hy=>?_) (qo4 hG.ups),hT⟩
  obtain⟨i,hi⟩:=List.getElem?_of_mem hy;rw[qeg]at hi;obtain⟨r,hr,rfl⟩:=Option.map_eq_some_iff.1 hi;exact hR.nr r Ag
def qLX{g1 g2 gM gB gi go:Nat}(hc:Ck P f (qgC g1 g2))(h1:Ck P g1 (qez gM gB go))(h2:Ck P g2 xt)(hM:∀l,MayL l->qc P gM [.fz l.length (rSy l)] (.b true))
  (hB1:∀l:List Sy,qc P gB [.fz l.length (rSy l)] (.fn gi [] [.pf [.fz l.length (rSy l)] 0])) (hi1:Ck P gi qT) (ho:qAW P go):qs1 P f:=λl hl =>
 qvq hc l (by have:=hl.big;exact Ab) (λk hk=>qvt h1 l (hM l hl) hB1 hi1 ho (by have:=hl.big;exact Ab) hl.hin hk) λs b tr p hp k hb hk=>qsD h2 p hp hb hk
def qMK{gD gO gP gB gi:Nat}(hc:Ck P f (qbw gD gP gO))(hD:Ck P gD jl)(hO:cOf P gO)(hP:Ck P gP (vn gB))
  (hB:∀l:List Ins,qc P gB [.fz l.length (rP l)] (.fn gi [] [.pf [.fz l.length (rP l)] 0])) (hi:Ck P gi zb):qAW P f:=λkb n s bb bp back pl tr far k h x hb hj hk =>
 qGM hc hD hO hP hB hi h x hb hj hk
def qML{g1 g2 gM gs gt gl s1 s2 t1 t2 ti v1 v2 h1 h2 h3:Nat}(hc:Ck P f (qjl g1 g2))(hp:Ck P g1 (qfv gs gt gl))(hd:Ck P g2 (qhU gM))(hM:∀l,MayL l->qc P gM [.fz l.length (rSy l)] (.b true))
  (hs:Ck P gs (qfw s1 s2)) (hs1:Ck P s1 qdO) (hm:Ck P s2 (wD h1 h2 h3)) (c1:qb2 P h1 4 24) (c2:cOf P h2) (c3:qhv P h3)
  (ht:Ck P gt (qdP h1 t1 t2 s2 h3)) (ht1:Ck P t1 qak) (hB:∀l:List Sy,qc P t2 [.fz l.length (rSy l)] (.fn ti [] [.pf [.fz l.length (rSy l)] 0])) (hi:Ck P ti qT)
  (hl:Ck P gl (qfu v1 v2 s2)) (hv1:Ck P v1 (qgD h2 h3)) (hv2:Ck P v2 qbl):qAX P f:=λl h=>by
 have m1:=qkE h;have m2:=qmu m1;have b0:=h.big;have b1:=m1.big;have b2:=m2.big
 exact qzi hc (qrs hp) l (qcw l) (qCv hd l (qgn l) (qp2 (qgn l)) (qcw l) (hM l h) (qrH hs hs1 hm c1 c2 c3 l Ab h.in)
  (qn2 ht c1 ht1 hB hi hm c1 c2 c3 c3 (qgn l) Ab m1.in) (qrd hl hv2 hm c1 c2 c3 (qp2 (qgn l)) (qrY hv1 c2 c3 _ Ab m2.pos m2.in m2.on) Ab m2.in))
def qL3{g1 g2:Nat}(hc:Ck P f (qgB g1 g2))(hM:qDz P g1)(h2:∀r:GRule,r.tests.length<=100000->qc P g2 [.agg (zn r)] (.agg (zn (wj r)))):qw3 P f:=λx hL =>
 qp9 hc x (hM x hL) h2 hL.1 hL.2
def qGy{x:GFil}(h:qd5 x):qd5 (kg x):=by
 refine⟨?_,λr hr=>?_⟩
 .have:=List.length_filter_le (qco x.dflt) (x.rules.map wj);rw[zzz]at this;exact zzg this h.1
 .obtain⟨r0,h0,rfl⟩:=qgg hr;exact zzg qc1.length_le (h.2 r0 h0)
theorem qJC{gE gN gO gL:Nat}(hE:qwX P gE)(hN:qw3 P gN)(hO:qAX P gO)(hL:qs1 P gL){x:GFil}(hR:FilR x)(hl:qd5 x):CmpFn P gE gN gO gL x where
 em:=hE x hR hl
 nm:=hN x hl
 lk:=λhK=>hL _ (qhA (FilG.of hK hR))
 em2:=λ_=>hE _ (qpH hR) (qGy hl)
 ok2:=qix
 op:=λhK=>hO _ (qhA (FilG.of (qix hK) (qpH hR)))
 lk2:=λhK=>hL _ (qmi (qhA (FilG.of (qix hK) (qpH hR))))
def qwW(P:Program)(g:Nat):Prop:=∀x,FilR x->qd5 x->∀o:Bool,qc P g [.agg (ze x),.b o] (.tup [.fz (qes x o).1.length (rP (qes x o).1),.j (qes x o).2])
def qLD{gd gwN gwE gwO gwL gs gE gN gO gL:Nat}(hc:Ck P f (qbv gwE gwL gd gwN gwO gs))(hd:Ck P gd za)(hN:Ck P gwN (xI gN))(hE:Ck P gwE (xC gE))(hO:Ck P gwO (zr gO))(hL:Ck P gwL (qZ gL))
  (hs:Ck P gs jP) (c1:qwX P gE) (c2:qw3 P gN) (c3:qAX P gO) (c4:qs1 P gL):qwW P f:=λx hR hl o =>
 qpq hc hd hN hE hO hL (λu v x y hx hy=>qkD hs u v x y hx hy) (by grind[qJC]) o
def qba:IFn:=irJ 104 []
def qij:List Int:=[3221225534,1073741827,3221225534,1073741864,3221225655,3221225715]
def qKR(hc:Ck P f qba):qc P f [] (.fz 6 (rI .u32 qij)):=by
 refine Al ?_;simp only[qba,vI,simprocAttr];refine Ac ?_;refine .cut 1 rfl (zzL _) ?_;simp[vw,rI,qij]
def qGJ(t n:Int):Int×Bool:=if t=3221225534 then(if n / 1073741824 % 2=1 then(2,true)else(0,true))else if zL (λc=>decide (c=t)) qij 0<0 then(0,false)else(zL (λc=>decide (c=t)) qij 0,true)
def qGK{t n:Int}(h0:0<=n)(h1:n<=4294967295):qGJ t n=ofM t n:=by
 have hz:(xA .u32 n 1073741824≠0)↔n / 1073741824 % 2=1:=by
  obtain⟨a,rfl⟩:=Int.eq_ofNat_of_zero_le h0;have:=qcM (a:=a) (b:=1073741824) Ab Af;rw[show((1073741824:Nat):Int)=1073741824 from rfl]at this
  rw[this];have ht:a.testBit 30=decide (a / 1073741824 % 2=1):=by rw[Nat.testBit_eq_decide_div_mod_eq]
  have e:a &&& 1073741824≠0↔a / 1073741824 % 2=1:=by
   have hb:∀i,(a &&& 1073741824).testBit i=(a.testBit i&&decide (30=i)):=λi=>by
    rw[Nat.testBit_and,show(1073741824:Nat)=2 ^ 30 from rfl,Nat.testBit_two_pow]
   constructor
   .intro h;apply Decidable.byContradiction;intro hn;refine h (Nat.eq_of_testBit_eq λi=>?_)
    rw[hb,Nat.zero_testBit]
    by_cases hi:30=i
    .subst hi;rw[ht];simp[hn]
    .simp[hi]
   exact Ag
  exact Ab
 unfold qGJ ofM
 by_cases k1:t=3221225534
 .subst k1;have e:zL (λx:List UInt8×Int=>decide (x.2=3221225534)) zf 0=0:=Af
  rw[if_pos rfl,e]
  exact Ae
 by_cases k2:t=1073741827
 .subst k2;rfl
 by_cases k3:t=1073741864
 .subst k3;rfl
 by_cases k4:t=3221225655
 .subst k4;rfl
 by_cases k5:t=3221225715
 .subst k5;rfl
 rw[if_neg k1];simp only[qij,zf,zL,zzb,eq_comm (b:=t),k1,k2,k3,k4,k5,if_false];simp
def qdu(a:Nat):IFn:=irJ 54 [104,a]
def qIv{g:Nat}(hc:Ck P f (qdu g))(hg:qc P g [] (.fz 6 (rI .u32 qij)))(t n:Int)(h0:0<=n)(h1:n<=4294967295):qc P f [.w t,.w n] (.tup [.j (ofM t n).1,.b (ofM t n).2]):=by
 rw[<- qGK h0 h1];refine Al ?_;have h6:(1073741824:Int)≠0:=Af
 have h7:(2:Int)≠0:=Af
 have ht:n.tdiv 1073741824=n / 1073741824:=Ag
 have hw:IntKind.wrap .u32 (n / 1073741824)=n / 1073741824:=Fn
 have ht2:(n / 1073741824).tmod 2=n / 1073741824 % 2:=Ag
 have hw2:IntKind.wrap .u32 (n / 1073741824 % 2)=n / 1073741824 % 2:=qao Ab Ab;have hg0:(rI .u32 qij)[0]?=some (.w 3221225534):=rfl;have hl8:(rI .u32 qij).length=6:=rfl;simp only[qdu,vI,simprocAttr];refine Aa ?_;refine hg.sc ?_;unfold qGJ
 by_cases he:t=3221225534
 .by_cases hb:n / 1073741824 % 2=1
  .simp +decide only[↓vS,vT,simprocAttr,hg0,eq_true he,↓zk h6,↓zW h7,ht,hw,ht2,hw2,eq_true hb];simp[vZ]
  .simp +decide only[↓vS,vT,simprocAttr,hg0,eq_true he,↓zk h6,↓zW h7,ht,hw,ht2,hw2,hb];simp[vZ]
 .refine Sa (zzA hg0 he) ?_;rw[if_neg he];refine SL.loopP (α:=Nat) (λj=>[(0,.w t),(6,.fz 6 (rI .u32 qij)),(7,.j (j:Int))]) (λj h=>j<=6/\h.fl=0/\zL (λc=>decide (c=t)) (qij.drop j) j=zL (λc=>decide (c=t)) qij 0) (λj=>6-j) ?_ 0 ?_ ?_
  .rintro j ⟨s,fl,tr⟩ ⟨hj,rfl,hI⟩ G ih;refine Ak ?_;have hw1:=wS j
   by_cases hlt:j<6
   .have hlt':(j:Int)<6:=Ab
    obtain⟨c,hr⟩:∃c,qij[j]?=some c:=⟨_,zzE (show j<qij.length from hlt)⟩
    have hg:(rI .u32 qij)[j]?=some (.w c):=by rw[xl,hr];rfl
    have hdr:qij.drop j=c::qij.drop (j+1):=Dh
    rw[hdr]at hI;simp only[zL,zzb]at hI
    by_cases he2:c=t
    .rw[if_pos he2]at hI;rw[<- hI];have hn:¬((j:Int)<0):=Ab
     simp +decide only[↓vS,vT,simprocAttr,hlt,hlt',hg,eq_true he2,zzU,Nat.zero_add];simp[vZ,hn]
    .rw[if_neg he2]at hI;simp +decide only[↓vS,vT,simprocAttr,hlt,hlt',hg,he2,hw1,zzU,Nat.zero_add];exact ih (j+1) _ _ Ab Am Ag
   .obtain rfl:j=6:=Ab
    have hI:(-1:Int)=zL (λc=>decide (c=t)) qij 0:=hI
    rw[<- hI];refine Aa ?_;simp[vZ]
  all_goals simp_all[qj,qn,zz4]
end
end
end Go.Kc
