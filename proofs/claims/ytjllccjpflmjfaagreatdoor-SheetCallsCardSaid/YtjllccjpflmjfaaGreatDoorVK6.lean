/- Part 6 of the proof. No condition. -/
import Derived.Test.YtjllccjpflmjfaaGreatDoorVK5
import Derived.KernelRfl
import Derived.Lib.AppendIntMem
import Derived.Lib.ItoaLen
import Derived.Below
set_option maxHeartbeats 4000000
set_option maxRecDepth 1000000
set_option linter.defProp false
set_option linter.unusedSectionVars false
set_option linter.unusedSimpArgs false
set_option linter.unusedVariables false
set_option linter.unnecessarySimpa false
namespace Go.Kc
noncomputable section
section
variable [Cur]
variable {P:Program}{f:Nat}
def wG(n:Nat)(pl:List Nat)(x:Sy):List Ins :=
 if x.code=5 then [⟨5,0,0,(n-pl.getD x.th 0:Nat)⟩]else if qm x.code≠4 then [⟨x.code,0,0,x.k⟩]else
  if max (n-pl.getD x.th 0) (n-pl.getD x.el 0)<=255 then [⟨x.code,(n-pl.getD x.th 0:Nat),(n-pl.getD x.el 0:Nat),x.k⟩]else
   [⟨x.code,0,1,x.k⟩,⟨5,0,0,(n-pl.getD x.th 0+1:Nat)⟩,⟨5,0,0,(n-pl.getD x.el 0:Nat)⟩]
theorem qrd{n:Nat}{pl:List Nat}{x:Sy}:(wG n pl x).length<=3/\1<=(wG n pl x).length:=by
 unfold wG;exact Ah
def qa7(a b c:Nat):IFn:=irJ 232 [297,a,296,b,131,c]
def qGZ{gD gO gP gB gi kb n s bb bp:Nat}{back:List Ins}{pl:List Nat}{tr:Tr Blk}{far:Int}{k:AV->Hp->Prop}(hc:Ck P f (qa7 gD gP gO))(hD:Ck P gD xM)(hO:cOf P gO)(hP:Ck P gP (wg gB))
  (hB:∀l:List Ins,qa P gB [.fz l.length (rP l)] (.fn gi [] [.pf [.fz l.length (rP l)] 0])) (hi:Ck P gi qO)
  (h:LI kb n back pl s tr bb bp far) (x:Sy) (hb:back.length<=800000) (hj:∀j:Nat,(x.code=5\/qm x.code=4)/\j=x.th\/(qm x.code=4/\x.code≠5)/\j=x.el->∃q,pl[j]?=some q/\q<=back.length)
  (hk:∀s' tr' bb' far',s<=s'->(∀c,c<s->c≠kb->c≠bb->tr'.get c=tr.get c)->(bb'=bb\/s<=bb')->LI kb n (back++(wG back.length pl x).reverse) pl s' tr' bb' bp far'->k (.tup []) ⟨s',0,tr'⟩):SC P f [.ptr kb 0,.agg (cSy x)] ⟨s,0,tr⟩ k:=by
 have hks:=h.ks;have hbs:=h.bs;have hps:=h.ps;have hkb:=h.kb';have hkp:=h.kp;have hbp:=h.bp';have h1:∀(y:Blk),LI kb n back pl (s+1) (tr.set s y) bb bp far:=λy=>h.keep Ac Ay
 have h2:∀(y z:Blk),LI kb n back pl (s+1+1) ((tr.set s y).set (s+1) z) bb bp far:=λy z=>(h1 y).keep Ac Ay
 have n1:¬s=s+1:=Ac
 have put:∀(y z:Blk) (l:List Ins),z = .v (rP l)->l.length<=10->wG back.length pl x=l->∀k2:AV->Hp->Prop,(∀h,k (.tup []) h->k2 (.tup []) h)->SC P gP [.ptr kb 0,.sl (s+1) 0 l.length l.length false] ⟨s+1+1,0,(tr.set s y).set (s+1) z⟩ k2:=λy z l hz hl he k2 hk2=>by
  refine qtu hP hB hi (h2 y z) (by rw[zz4,if_pos rfl,hz]) Ac Ac hl Ac λs' tr' bb' q1 q2 q3 q4=>hk2 _ (hk s' tr' bb' far Ac (λc c1 c2 c3=>?_) Ac (by rw[he];exact q4))
  rw[q2 c Ac c2 c3 Ac]
  exact Ay
 refine Bb ?_;simp only[qa7,cSy,vI,simprocAttr]
 by_cases h5:x.code=5
 .obtain⟨q,hq,hql⟩:=hj x.th Ac;have hqD:pl.getD x.th 0=q:=by rw[zzs,hq];rfl
  have he:wG back.length pl x=[⟨5,0,0,((back.length-q:Nat):Int)⟩]:=by unfold wG;rw[if_pos h5,hqD]
  have hw:IntKind.wrap .u32 ((back.length-q:Nat):Int)=((back.length-q:Nat):Int):=Fv
  refine Sa (eq_true h5) ?_;refine qpn hD (h1 _) hq hql Ac ?_;refine Sa hw ?_;exact put _ _ [⟨5,0,0,((back.length-q:Nat):Int)⟩] (by simp[rP,qK]) (by simp) he _ λh hv=>by refine Ab ?_;exact hv
 .by_cases hc4:qm x.code=4
  .obtain⟨q,hq,hql⟩:=hj x.th Ac;obtain⟨r,hr,hrl⟩:=hj x.el Ac;have hqD:pl.getD x.th 0=q:=by rw[zzs,hq];rfl
   have hrD:pl.getD x.el 0=r:=by rw[zzs,hr];rfl
   refine Sa h5 ?_;refine(hO x.code).sc ?_;refine Sa hc4 ?_;refine zB ?_;refine Ab ?_;refine⟨_,_,λk' hk'=>qpn hD (h1 _) hq hql Ac hk',?_⟩
   refine Ab ?_;refine⟨_,_,λk' hk'=>qpn hD (h1 _) hr hrl Ac hk',?_⟩
   have he:wG back.length pl x=if max (back.length-q) (back.length-r)<=255 then [⟨x.code,((back.length-q:Nat):Int),((back.length-r:Nat):Int),x.k⟩]else [⟨x.code,0,1,x.k⟩,⟨5,0,0,((back.length-q+1:Nat):Int)⟩,⟨5,0,0,((back.length-r:Nat):Int)⟩]:=by
    unfold wG;rw[if_neg h5,if_neg Ac,hqD,hrD]
   obtain⟨a,ha⟩:∃a,a=back.length-q:=⟨_,rfl⟩;obtain⟨b,hb'⟩:∃b,b=back.length-r:=⟨_,rfl⟩;rw[<- ha,<- hb']at he ⊢;have hal:a<=800000:=Ac
   have hbl:b<=800000:=Ac
   refine Ab ?_;have hmx:(if a<b then(b:Int)else a)=((max a b:Nat):Int):=Fq
   rw[hmx]
   by_cases hm:max a b<=255
   .have hm':((max a b:Nat):Int)<=255:=Ac
    rw[if_pos hm]at he;have w1:IntKind.wrap .u8 (a:Int)=a:=by grind[qAl]
    have w2:IntKind.wrap .u8 (b:Int)=b:=by grind[qAl]
    refine Sa hm' ?_;rw[w1,w2];exact put _ _ [⟨x.code,(a:Int),(b:Int),x.k⟩] (by simp[rP,qK]) (by simp) he _ λh hv=>by refine Ab ?_;exact hv
   .have hm':¬((max a b:Nat):Int)<=255:=Ac
    rw[if_neg hm]at he;have w1:IntKind.wrap .u32 (a:Int)=a:=Fv
    have w2:IntKind.wrap .u32 (b:Int)=b:=Fv
    have w3:IntKind.wrap .u32 ((a:Int)+1)=((a+1:Nat):Int):=by rw[qdw Ac Ac];simp
    have n2:¬kb=s:=Ac
    have n3:¬s=kb:=Ac
    simp +decide only[↓vS,vT,simprocAttr,hm',w1,w2,w3,h.k,n2,n3,n1];refine qtu hP hB hi (l:=[⟨x.code,0,1,x.k⟩,⟨5,0,0,((a+1:Nat):Int)⟩,⟨5,0,0,((b:Nat):Int)⟩]) (far:=IntKind.wrap .i64 (far+1)) (s:=s+1+1) (bb:=bb) (bp:=bp) (n:=n) (pl:=pl) (back:=back) ⟨?_,?_,?_,h.len,hkb,hkp,hbp,Ac,Ac,Ac⟩ ?_ Ac Ac (by simp) Ac λs' tr' bb' q1 q2 q3 q4=>?_
    .exact Ay
    .grind[Tr.get_set,LI.b]
    .grind[Tr.get_set,LI.p]
    .rw[zz4,if_pos rfl];simp[rP,qK]
    .refine Ab ?_;refine hk s' tr' bb' _ Ac (λc c1 c2 c3=>?_) Ac (by rw[he];exact q4)
     rw[q2 c Ac c2 c3 Ac]
     exact Ay
  .have he:wG back.length pl x=[⟨x.code,0,0,x.k⟩]:=by unfold wG;rw[if_neg h5,if_pos hc4]
   refine Sa h5 ?_;refine(hO x.code).sc ?_;refine Sa hc4 ?_;exact put _ _ [⟨x.code,0,0,x.k⟩] (by simp[rP,qK]) (by simp) he _ λh hv=>by refine Ab ?_;exact hv
def zI(l:List Sy):Nat->List Ins×List Nat
 | 0=>([],List.replicate l.length 0)
 | m+1=>match l[l.length-(m+1)]? with
  | some x=>((zI l m).1++(wG (zI l m).1.length (zI l m).2 x).reverse,(zI l m).2.set (l.length-(m+1)) ((zI l m).1++(wG (zI l m).1.length (zI l m).2 x).reverse).length)
  | none=>zI l m
theorem qh9{l:List Sy}:∀m,(zI l m).2.length=l.length/\(∀q ∈ (zI l m).2,q<=(zI l m).1.length)/\(zI l m).1.length<=3*m
 | 0=>by
  refine⟨by simp[zI],λq hq=>?_,by simp[zI]⟩
  simp only[zI,List.mem_replicate]at hq;exact Ac
 | m+1=>by
  obtain⟨h1,h2,h3⟩:=qh9 (l:=l) m;unfold zI
  grind[qrd]
def ji(l:List Sy):List Ins:=(zI l l.length).1.reverse
def qCZ{l:List Nat}{j v:Nat}(hj:j<l.length):(rNt l).take j ++ .j (v:Int)::(rNt l).drop (j+1)=rNt (l.set j v):=by
 rw[List.set_eq_take_append_cons_drop,if_pos hj];simp[rNt,List.map_take,List.map_drop]
def qbM(a b c:Nat):ICode:=icJ 171 [230,a,231,b,232,c] 31
def qdW(a b c:Nat):IFn:=irJ 171 [230,a,231,b,232,c] [31] [qbM a b c]
def liT(gi:Nat)(l:List Sy):List (Nat×AV):=[(4,.ptr 2 0),(16,.fn gi [] [.pf [.fz l.length (rSy l)] 0])]
def liA:ICode:=sq [.reg false [⟨some 5,.op (.mov (.t 17)),none⟩],.reg false [⟨some 6,.op (.alloc [.h 0,.w 0,.j 0,.j 0]),none⟩,⟨none,.op (.store 4 (.t 6) (.t 18)),none⟩]]
def liB(g1:Nat):ICode:=.blk 1 (sq [.r [.q 19 (.load1 (.t 4)),.q 20 (.loadN 4 (.t 6)),.l 21 g1 [.t 19,.t 20]],.reg true [.q 22 (.load1 (.t 4)),.q 23 (.nilChk (.t 22)),.q 24 (.fAddr 1 (.t 23)),.q 25 (.load1 (.t 24)),.m 26 (.t 5),.q 27 (.load1 (.t 4)),.q 28 (.nilChk (.t 27)),.q 29 (.fAddr 0 (.t 28)),.q 30 (.load1 (.t 29)),.q 31 (.len false (.t 30)),.q 32 (.iAddrS 1 (.t 25) (.t 26)),.u (.store 1 (.t 32) (.t 31))]])
def qA6(P:Program)(g:Nat):Prop:=∀(kb n s bb bp:Nat) (back:List Ins) (pl:List Nat) (tr:Tr Blk) (far:Int) (k:AV->Hp->Prop),LI kb n back pl s tr bb bp far->∀x:Sy,back.length<=800000->(∀j:Nat,(x.code=5\/qm x.code=4)/\j=x.th\/(qm x.code=4/\x.code≠5)/\j=x.el->∃q,pl[j]?=some q/\q<=back.length)->
 (∀s' tr' bb' far',s<=s'->(∀c,c<s->c≠kb->c≠bb->tr'.get c=tr.get c)->(bb'=bb\/s<=bb')->LI kb n (back++(wG back.length pl x).reverse) pl s' tr' bb' bp far'->k (.tup []) ⟨s',0,tr'⟩)->SC P g [.ptr kb 0,.agg (cSy x)] ⟨s,0,tr⟩ k
def qyq{gi g1 s bb n:Nat}{back:List Ins}{pl:List Nat}{l:List Sy}{r0:Loop}{tr:Tr Blk}{far:Int}{k:AV->Hp->Prop}(h1:qA6 P g1)(hr0:r0.state = .ready)(hp0:r0.pending=none)(hlo:LoopOk P r0 [17,18] liA (liB g1))
  (h:LI 1 n back pl s tr bb 0 far) (g2:tr.get 2=some (.v [.ptr 1 0])) (g4:tr.get 4=some (.map (zu r0 (liT gi l)))) (hs:5<=s) (hb3:3<=bb) (hb4:bb≠4) (hb:back.length<=800000) (i:Nat) (hi:i<n) (x:Sy)
  (hj:∀j:Nat,(x.code=5\/qm x.code=4)/\j=x.th\/(qm x.code=4/\x.code≠5)/\j=x.el->∃q,pl[j]?=some q/\q<=back.length)
  (hk:∀s' tr' bb' far',5<=s'->LI 1 n (back++(wG back.length pl x).reverse) (pl.set i (back++(wG back.length pl x).reverse).length) s' tr' bb' 0 far'->tr'.get 2=some (.v [.ptr 1 0])->tr'.get 4=some (.map (zu r0 (liT gi l)))->3<=bb'->bb'≠4->k (.b true) ⟨s',0,tr'⟩) :
  SY P 4 [.j (i:Int),.agg (cSy x)] ⟨s,0,tr⟩ k:=by
 have hbs:=h.bs;refine SY.mk (r:=r0) (ts:=liT gi l) (ps:=[17,18]) g4 hr0 hlo (zzu _) (by show 4<s;exact Ac) rfl ?_;rw[show mkT (liT gi l)=(Tr.leaf.set 16 (.fn gi [] [.pf [.fz l.length (rSy l)] 0])).set 4 (.ptr 2 0)from rfl]
 refine qj ?_;simp only[qkp,liA,cSy,vI,simprocAttr];refine Ab ?_;have n1:¬4=s:=Ac
 have n2:¬2=s:=Ac
 have n3:¬s=4:=Ac
 refine⟨liT gi l,by simp[zz4,n1,g4],?_⟩
 refine qj ?_;simp only[qC,liB,vI,simprocAttr];have e24:¬(2:Nat)=4:=Af
 simp +decide only[↓vS,vT,simprocAttr,g2,e24,n2,n3]
 have old:∀c,c<s->c≠4->(((tr.set s (.v [.h 0,.w 0,.j 0,.j 0])).set s (.v [.h x.code,.w x.k,.j (x.th:Int),.j (x.el:Int)])).set 4 (.map (zu (Go.Kc.bsy r0) (liT gi l)))).get c=tr.get c:=λc h1 h2=>by
  simp only[zz4];repeat rw[if_neg Ac]
 refine h1 1 n (s+1) bb 0 back pl _ far _ (h.keep Ac Ah) x hb hj λs' tr' bb' far' q1 q2 q3 q4=>?_
 have g2':tr'.get 2=some (.v [.ptr 1 0]):=by rw[q2 2 Ac Ac Ac,old 2 Ac Ac];exact g2
 have g4':tr'.get 4=some (.map (zu (Go.Kc.bsy r0) (liT gi l))):=by rw[q2 4 Ac Ac Ac,zz4,if_pos rfl]
 obtain⟨B,hB⟩:∃B,B=back++(wG back.length pl x).reverse:=⟨_,rfl⟩;rw[<- hB]at q4 hk;have hset:=qCZ (l:=pl) (j:=i) (v:=B.length) (by rw[q4.len];exact hi);have hpl:i+1<=(rNt pl).length:=by rw[qma,q4.len];exact Ac
 have hbs':=q4.bs;refine Ab ?_;refine zB ?_;simp +decide only[↓vS,vT,simprocAttr,g2',q4.k,q4.p,hi,hpl,hset,zzU];refine⟨Go.Kc.bsy r0,liT gi l,by rw[zz4,if_neg Af];exact g4',?_⟩
 rw[qeL,qgg hr0 hp0];simp only[qC];refine Ab ?_;have hb':bb'≠4:=Ac
 refine hk s' _ bb' far' Ac ⟨?_,?_,?_,?_,Ac,Ac,Ac,Ac,Ac,Ac⟩ ?_ ?_ Ac hb'
 .rw[zz4,if_neg Af,zz4,if_neg Af];exact q4.k
 .rw[zz4,if_neg hb',zz4,if_neg Ac];exact q4.b
 .rw[zz4,if_neg Af,zz4,if_pos rfl]
 all_goals grind[LI.len,Tr.get_set]
def qvk{n0 g1 g2 g3 s:Nat}{tr:Tr Blk}{t:Tr AV}{k:AV->Hp->Prop}(ht:t.get 4=some (.ptr 2 0))(h2:tr.get 2=some (.v [.ptr 1 0]))(hk:k (.tup [.ptr 1 0,.b true]) ⟨s,0,tr⟩) :
  S P n0 (qbM g1 g2 g3) (xG [.tmp 2,.tmp 3] k) t ⟨s,0,tr⟩:=by
 refine S.has [(4,.ptr 2 0)] (by grind[qh,qk]) (qj ?_);simp only[qbM,vI,simprocAttr];refine Sa h2 ?_;exact hk
def qvl{gM gB g1 gi:Nat}(hc:Ck P f (qdW gM gB g1))(l:List Sy)(hm:qa P gM [.fz l.length (rSy l)] (.b true))(hB:∀l:List Sy,qa P gB [.fz l.length (rSy l)] (.fn gi [] [.pf [.fz l.length (rSy l)] 0]))(hi:Ck P gi qG)
  (h1:qA6 P g1) (hl:l.length<=200000) (hin:∀x ∈ l,∀j:Nat,(x.code=5\/qm x.code=4)/\j=x.th\/(qm x.code=4/\x.code≠5)/\j=x.el->j<l.length) {k:AV->Hp->Prop}
  (hk:∀s tr bb far,LI 1 l.length (zI l l.length).1 (zI l l.length).2 s tr bb 0 far->k (.tup [.ptr 1 0,.b true]) ⟨s,0,tr⟩):SC P f [.fz l.length (rSy l)] ⟨0,0,.leaf⟩ k:=by
 refine Bb ?_;have r1:l.length<=qe:=by simp only[qe];exact Ac
 have r2:8*l.length<=qe:=by simp only[qe];exact Ac
 have hz:(List.replicate l.length [AV.j 0]).flatten=rNt (List.replicate l.length 0):=by simp[rNt]
 simp only[qdW,vI,simprocAttr];refine Ab ?_;refine hm.sc ?_;refine Sa (zzA r1 (zzA r2 hz)) ?_;refine(hB l).sc ?_;refine Ab ?_;refine S.weak (Wk.mk (liT gi l) [.v (rNt (List.replicate l.length 0)),.v [.own 3 0,.sl 0 0 l.length l.length false,.j 0],.v [.ptr 1 0],.cells 4 true true []] [0,1,2,99] ?_ ?_ ?_ rfl) ?_
 .simp[vw,liT,zc zf,qd,zf]
 .simp[vw,qd,ze]
 .simp
 refine S.rangeF (by simp[jR]) (by simp[liT]) ⟨rfl,rfl⟩ ?_;refine qlk.2 ⟨.fn gi [] [.pf [.fz l.length (rSy l)] 0],by simp[liT,mkT,zz4],?_⟩
 refine⟨qcK hi,λr0 hr0 hp0 hlo=>?_⟩
 have hlo:LoopOk P r0 [17,18] liA (liB g1):=hlo;refine xD (c:=cSy) hi qeo Ac (λi h=>i<=l.length/\∃s tr bb far,h=⟨s,0,tr⟩/\5<=s/\LI 1 l.length (zI l (l.length-i)).1 (zI l (l.length-i)).2 s tr bb 0 far/\3<=bb/\bb≠4/\tr.get 2=some (.v [.ptr 1 0])/\tr.get 4=some (.map (zu r0 (liT gi l)))) ?_ ?_ ?_
 .rintro i x h hx ⟨hil,s,tr,bb,far,rfl,q1,q2,q3,q4,q5,q6⟩ k' hk';have hi':i<l.length:=Ac
  obtain⟨o1,o2,o3⟩:=qh9 (l:=l) (l.length-(i+1));have e:l.length-i=(l.length-(i+1))+1:=Ac
  have e2:l.length-(l.length-(i+1)+1)=i:=Ac
  have e3:zI l (l.length-i)=((zI l (l.length-(i+1))).1++(wG (zI l (l.length-(i+1))).1.length (zI l (l.length-(i+1))).2 x).reverse,(zI l (l.length-(i+1))).2.set i ((zI l (l.length-(i+1))).1++(wG (zI l (l.length-(i+1))).1.length (zI l (l.length-(i+1))).2 x).reverse).length):=by
   rw[e,zI,e2,hx]
  refine qyq h1 hr0 hp0 hlo q2 q5 q6 q1 q3 q4 Ac i hi' x (λj hj=>?_) Ah
  have hjl:=hin x Ah j hj;obtain⟨q,hq⟩:∃q,(zI l (l.length-(i+1))).2[j]?=some q:=Ah
  exact⟨q,hq,o2 q Ah⟩
 .refine⟨zzL _,5,_,3,0,rfl,zzL _,⟨?_,?_,?_,?_,Af,Af,Af,Af,Af,Af⟩,Af,Af,?_,?_⟩<;>simp[zz4,qmM,mkH,trL,zI,rP,Hp.push]
 .rintro h ⟨_,s,tr,bb,far,rfl,q1,q2,q3,q4,q5,q6⟩;rw[Nat.sub_zero]at q2;refine⟨r0,liT gi l,q6,by rw[hr0];exact Af,?_⟩
  rw[hp0];simp only[qC];refine Ae ?_;refine qvk (by simp[liT,mkT,zz4]) ?_ (hk _ _ bb far ?_)
  .show (tr.set 4 .dead).get 2=_;rw[zz4,if_neg Af];exact q5
  .refine q2.keep (zzL _) λc hc=>?_
   have:c≠4:=by rcases hc with rfl|rfl|rfl<;>omega
   rw[zz4,if_neg (by exact this)]
def qf6(a b:Nat):IFn:=irJ 123 [171,a,172,b]
def qjB(l:List Sy):AV:=if 4096<(ji l).length then .tup [.fz 0 [],.j 270]else .tup [.fz (ji l).length (rP (ji l)),.j 0]
def qvi{g1 g2:Nat}(hc:Ck P f (qf6 g1 g2))(l:List Sy)(hl:l.length<=200000)
  (h1:∀k:AV->Hp->Prop,(∀s tr bb far,LI 1 l.length (zI l l.length).1 (zI l l.length).2 s tr bb 0 far->k (.tup [.ptr 1 0,.b true]) ⟨s,0,tr⟩)->SC P g1 [.fz l.length (rSy l)] ⟨0,0,.leaf⟩ k)
  (h2:∀(s b:Nat) (tr:Tr Blk) (p:List Ins),p.length<=1000000->∀k:AV->Hp->Prop,tr.get b=some (.cells 4 true true (rP p))->(∀tr',(∀c,c≠b->tr'.get c=tr.get c)->tr'.get b=some (.cells 4 true true (rP p.reverse))->k (.tup []) ⟨s,0,tr'⟩)->SC P g2 [.own b p.length] ⟨s,0,tr⟩ k) :
  qa P f [.fz l.length (rSy l)] (qjB l):=by
 have hlen:=(qh9 (l:=l) l.length).2.2;refine Bu ?_;simp only[qf6,vI,simprocAttr];refine Ab ?_;refine h1 _ λs tr bb far h=>?_
 have hll:(ji l).length=(zI l l.length).1.length:=by simp[ji]
 unfold qjB;rw[hll]
 by_cases hbig:4096<(zI l l.length).1.length
 .have hbig':(4096:Int)<((zI l l.length).1.length:Int):=Ac
  rw[if_pos hbig];refine Sa (zzA h.k hbig') ?_;simp[vZ]
 .have hbig':¬(4096:Int)<((zI l l.length).1.length:Int):=Ac
  rw[if_neg hbig];refine Sa (zzA h.k hbig') ?_;refine h2 s bb tr _ Ac _ h.b λtr' q1 q2=>?_
  have hk':=(q1 1 h.kb').trans h.k;refine Sa hk' ?_;simp[vZ,vP,q2,ji];refine⟨λh=>?_,Frzs.self (qz _)⟩
  rw[h];rfl
def qDS(P:Program)(g:Nat):Prop:=∀l:List GTest,l.length<=100000->qa P g [.fz l.length (rT l)] (.fz l.length (rT l))
def qFq{g:Nat}(h:qbB P g 4 32):qDS P g:=by
 intro l hl;refine(h l.length (rT l) qe8 xe qzE (by simp only[qe];exact Ac) (by simp only[qe];exact Ac)).pure (by simp[qu,clo,xe]) ?_;exact Bh
def qmS(a:Nat):IFn:=irJ 243 [290,a]
def qIW{g:Nat}(hc:Ck P f (qmS g))(hg:qDS P g)(r:GRule)(hl:r.tests.length<=100000):qa P f [.agg (zx r)] (.agg (zx r)):=by
 refine qa.mk hc (by simp[qu,clo,zx,xe]) ?_;simp only[qmS,zx,vI,simprocAttr];refine Ab ?_;refine(hg r.tests hl).sc ?_;refine Ab ?_;simp[vZ,vP,zz4,zc xe]
def qhl:IFn:=irJ 245 []
def qKm(hc:Ck P f qhl)(t:GTest):qa P f [.agg (jM t)] (.b (decide (t.mask=0))):=by
 refine Al ?_;simp only[qhl,jM,vI,simprocAttr];refine Ab ?_;simp[vZ]
def qgL(a:Int)(ts:List GTest):List GTest:=(ts.reverse.dropWhile λt=>decide (t.act=a)).reverse
theorem qnx{a:Int}{ts:List GTest}{t:GTest}:qgL a (ts++[t])=if t.act=a then qgL a ts else ts++[t]:=by
 unfold qgL;rw[List.reverse_append,List.reverse_singleton,List.singleton_append,List.dropWhile_cons]
 by_cases h:t.act=a<;>simp[h]
def qfZ:List GTest->Int->List GTest×Int
 | [],a=>([],a)
 | t::ts,a=>if t.mask=0 then([],t.act)else(t::(qfZ ts a).1,(qfZ ts a).2)
def jl(r:GRule):GRule:=⟨r.nr,qgL (qfZ r.tests r.act).2 (qfZ r.tests r.act).1,(qfZ r.tests r.act).2⟩
def qxm:∀(ts:List GTest) (a:Int),(xH (λt=>decide (t.mask=0)) ts 0 = -1/\qfZ ts a=(ts,a))\/∃(i:Nat) (t:GTest),xH (λt=>decide (t.mask=0)) ts 0=(i:Int)/\ts[i]?=some t/\qfZ ts a=(ts.take i,t.act):=by
 have main:∀(ts:List GTest) (a:Int) (j:Nat),(xH (λt=>decide (t.mask=0)) ts j = -1/\qfZ ts a=(ts,a))\/∃(i:Nat) (t:GTest),xH (λt=>decide (t.mask=0)) ts j=((j+i:Nat):Int)/\ts[i]?=some t/\qfZ ts a=(ts.take i,t.act):=by
  intro ts
  induction ts with
  | nil=>intro a j;exact .inl ⟨rfl,rfl⟩
  | cons t ts ih =>
   intro a j
   by_cases h:t.mask=0
   .exact .inr ⟨0,t,by simp[xH,h],rfl,by simp[qfZ,h]⟩
   .rcases ih a (j+1)with⟨e1,e2⟩|⟨i,x,e1,e2,e3⟩
    .exact .inl ⟨by simp[xH,h,e1],by simp[qfZ,h,e2]⟩
    .exact .inr ⟨i+1,x,by simp[xH,h,e1];exact Ac,by simpa using e2,by simp[qfZ,h,e3]⟩
 exact Ah
def qDm{h:Hp}{esz n c:Nat}{q:IntKind}{cs:List AV}{k:AV->Prop}(h2:c<=n)(h3:c*esz<=cs.length):slK esz none (some (.i q (c:Int))) none (.fz n cs) h k↔evA (.fz c (cs.take (c*esz))) k:=by
 simp only[slK,qsR,qlP];show(ifK (c<=n) _)↔_;simp only[ifK,h2,true_and,Option.isSome_none,Bool.false_and,Bool.false_eq_true,if_false];refine Ep ?_;exact Bm
def qt1{l:List GTest}{k:Nat}:(rT l).take (k*4)=rT (l.take k):=qfo qdy l k
def qdb(a b c:Nat):ICode:=icJ 181 [243,a,244,b,245,c] 15
def qj8(a b c:Nat):IFn:=irJ 181 [243,a,244,b,245,c] [15] [qdb a b c]
def qk3{n0 g1 g2 g3 s:Nat}{tr:Tr Blk}{t:Tr AV}(nr a:Int)(ts:List GTest)(V:AV)(hV:V = .fz ts.length (rT ts)\/V = .e0/\ts=[])(hl:ts.length<=100000)(h0:tr.get 0=some (.v [.w nr,V,.w a]))(h1:∃x y z,tr.get 1=some (.v [x,y,z]))(ht:Has t [(1,.ptr 0 0),(2,.ptr 1 0)]) :
  S P n0 (qdb g1 g2 g3) (xG [.cell 2 3 true] λv' h'=>Frz h' v' (.agg (zx ⟨nr,qgL a ts,a⟩))) t ⟨s,0,tr⟩:=by
 refine Ew ?_;simp only[qdb,vI,simprocAttr];have hlen:∀k:AV->Prop,k (.j (ts.length:Int))->True:=λ_ _=>trivial
 have loop:∀tt,Has tt [(1,.ptr 0 0),(2,.ptr 1 0),(4,.j (ts.length:Int))]->∀(x:ICode) (Q:X->Tr AV->Hp->Prop),True:=Ad
 rcases hV with rfl|⟨rfl,rfl⟩
 .refine Sa h0 ?_
  refine SL.loopP (α:=List GTest) (λu=>[(1,.ptr 0 0),(2,.ptr 1 0),(4,.j (u.length:Int))])
   (λu h=>u.length<=ts.length/\qgL a u=qgL a ts/\∃tr',h=⟨s,0,tr'⟩/\tr'.get 0=some (.v [.w nr,.fz u.length (rT u),.w a])/\∃x y z,tr'.get 1=some (.v [x,y,z])) (λu=>u.length) ?_ ts ?_ ?_
  .rintro u h1 ⟨hu,he,tr',rfl,g0,x,y,z,g1⟩ G ih;refine Am ?_;rcases List.eq_nil_or_concat u with rfl|⟨u0,t0,rfl⟩
   .have hz:¬(0:Int)<(([]:List GTest).length:Int):=by simp
    refine Ab ?_;refine zB ?_;refine Sa (zzA hz (zzA g0 g1)) ?_;have e0:qgL a ts=[]:=by rw[<- he];rfl
    simp[vZ,vP,zz4,zx,e0,rT]
   .rw[List.concat_eq_append]at hu he g0 ih ⊢;have hul:(u0++[t0]).length=u0.length+1:=by simp
    have hget:(u0++[t0])[u0.length]?=some t0:=by simp
    rw[hul]at hu g0 ⊢;have hz:(0:Int)<((u0.length+1:Nat):Int):=Ac
    have e1:IntKind.wrap .i64 (((u0.length+1:Nat):Int)-1)=(u0.length:Int):=by rw[qE Ac Ac];exact Ac
    have hg3:(rT (u0++[t0]))[u0.length*4+3]?=some (.w t0.act):=qzD hget Ac;have hlt:u0.length<u0.length+1:=Ac
    rw[qnx]at he;refine Ab ?_;refine zB ?_
    by_cases ha:t0.act=a
    .rw[if_pos ha]at he;have k1:u0.length<=u0.length+1:=Ac
     have k2:u0.length*4<=(rT (u0++[t0])).length:=by rw[qe8,hul];exact Ac
     have k3:(rT (u0++[t0])).take (u0.length*4)=rT u0:=by rw[qt1];simp
     simp +decide only[↓vS,vT,simprocAttr,hz,g0,e1,hlt,hg3,eq_true ha,↓qDm k1 k2,k3];refine ih u0 _ _ (by simp) Ak Ay
    .rw[if_neg ha]at he;simp +decide only[↓vS,vT,simprocAttr,hz,g0,g1,e1,hlt,hg3,ha];simp[vZ,vP,zz4,zx,<- he,zc xe]
  all_goals simp_all[qh,qk,zz4]
 .refine Sa h0 ?_;refine SL.loopP (α:=Unit) (λu=>[(1,.ptr 0 0),(2,.ptr 1 0),(4,.j 0)]) (λu h=>h=⟨s,0,tr⟩) (λu=>0) ?_ () ?_ rfl
  .rintro u h2 rfl G ih;obtain⟨x,y,z,g1⟩:=h1;refine Am ?_;refine Ab ?_;refine zB ?_;refine Sa (zzA h0 g1) ?_;simp[vZ,vP,zz4,zx,qgL,rT]
  grind[qh,qk,Tr.get_set]
def qEj{g1 g2 g3:Nat}(hc:Ck P f (qj8 g1 g2 g3))(h1:∀r:GRule,r.tests.length<=100000->qa P g1 [.agg (zx r)] (.agg (zx r)))(h2:qfV 4 P g2)(h3:∀t:GTest,qa P g3 [.agg (jM t)] (.b (decide (t.mask=0))))(r:GRule)(hl:r.tests.length<=100000) :
  qa P f [.agg (zx r)] (.agg (zx (jl r))):=by
 have e1:=h1 r hl;have e2:=h2 jM (λt=>decide (t.mask=0)) g3 [] [] r.tests qdy rfl rfl (by simp only[qe];exact Ac) λt _=>by simpa using h3 t
 simp only[show r.tests.flatMap jM=rT r.tests from rfl]at e2
 refine qa.mk hc (by simp[qu,clo,zx,xe]) ?_;simp only[qj8,zx,vI,simprocAttr];simp only[zx]at e1;refine Ab ?_;refine e1.sc ?_;refine Ab ?_;refine e2.sc ?_;unfold jl;rcases qxm r.tests r.act with⟨q1,q2⟩|⟨i,t,q1,q2,q3⟩
 .rw[q1,q2];refine Ab ?_;refine qk3 r.nr r.act r.tests _ (.inl rfl) hl ?_ ?_ ?_
  all_goals simp_all[zz4,qh,qk]
 .rw[q1,q3];have hi:i<r.tests.length:=Ah
  have n0:(0:Int)<=(i:Int):=Ac
  have g3':(rT r.tests)[i*4+3]?=some (.w t.act):=qzD q2 Ac;have k2:i<=r.tests.length:=Ac
  have k3:i*4<=(rT r.tests).length:=by rw[qe8];exact Ac
  have hlen:(r.tests.take i).length=i:=Ad
  rcases Nat.eq_zero_or_pos i with hz|hz
  .have es:∀(h:Hp) (k:AV->Prop),slK 4 none (some (.j (i:Int))) (some (.j (i:Int))) (.fz r.tests.length (rT r.tests)) h k↔evA .e0 k:=λh k=>by
    rw[hz];simp only[slK,qlS,qlP];show(ifK (0<=r.tests.length) (ifK (0<=0) _))↔_;simp only[ifK,zzu,true_and,Option.isSome_some];exact Bm
   have htk:r.tests.take i=[]:=by rw[hz];rfl
   rw[htk];simp +decide only[↓vS,vT,simprocAttr,n0,hi,g3',↓es];refine qk3 r.nr t.act [] .e0 Ad (by simp) ?_ ?_ ?_
   all_goals simp_all[zz4,qh,qk]
  .simp +decide only[↓vS,vT,simprocAttr,n0,hi,g3',↓qub hz k2 k3,qt1];refine qk3 r.nr t.act (r.tests.take i) _ (.inl (by rw[hlen])) Ac ?_ ?_ ?_
   all_goals simp_all[zz4,qh,qk]
def qbS(d:Int)(r:GRule):Bool:=decide (0<r.tests.length)||decide (r.act≠d)
def wH(x:GFil):GFil:=⟨x.arch,(x.rules.map jl).filter (qbS x.dflt),x.dflt⟩
def qus(x:GFil):AV:=if jr x=true then .tup [.agg (zn (wH x)),.j 0]else .tup [.agg [.j 0,.fz 0 [],.w 0],.j 210]
def qf5(a b:Nat):IFn:=irJ 126 [175,a,181,b]
def qp4{g1 g2:Nat}(hc:Ck P f (qf5 g1 g2))(x:GFil)(h1:qa P g1 [.agg (zn x)] (.b (jr x)))(h2:∀r:GRule,r.tests.length<=100000->qa P g2 [.agg (zx r)] (.agg (zx (jl r))))(hl:x.rules.length<=100000)(ht:∀r ∈ x.rules,r.tests.length<=100000) :
  qa P f [.agg (zn x)] (qus x):=by
 refine qa.mk hc (by simp[qu,clo,zn,qo]) ?_;simp only[qf5,zn,vI,simprocAttr];simp only[zn]at h1;refine Ab ?_;refine h1.sc ?_;unfold qus;cases hK:jr x with
 | false =>
  refine Ab ?_;exact Fe
 | true =>
  refine Ab ?_
  refine SL.loopP (α:=Nat×Nat) (λi=>[(1,.ptr 0 0),(2,.ptr 1 0),(4,.ptr 2 0),(17,.fz x.rules.length (rR x.rules)),(18,.j (x.rules.length:Int)),(19,.j (i.1:Int))])
   (λi h=>i.1<=x.rules.length/\∃s tr,h=⟨s,0,tr⟩/\3<=s/\tr.get 0=some (.v [.j x.arch,.fz x.rules.length (rR x.rules),.w x.dflt])/\(∃a b c,tr.get 1=some (.v [a,b,c])) /\
    tr.get 2=some (.v [.j x.arch,qdg (((x.rules.take i.1).map jl).filter (qbS x.dflt)).length i.2,.w x.dflt])/\((((x.rules.take i.1).map jl).filter (qbS x.dflt)).length≠0->tr.get i.2=some (.cells 3 true true (rR (((x.rules.take i.1).map jl).filter (qbS x.dflt))))/\3<=i.2/\i.2<s)) (λi=>x.rules.length-i.1) ?_ (0,0) ?_ ?_
  .rintro⟨i,bo⟩ h ⟨hi,s,tr,rfl,hs,t0,⟨a,b,c,t1⟩,t2,to⟩ G ih;simp only at hi t2 to;refine Am ?_;obtain⟨A,hA⟩:∃A,A=((x.rules.take i).map jl).filter (qbS x.dflt):=⟨_,rfl⟩;rw[<- hA]at t2 to
   have hAl:A.length<=i:=by
    rw[hA];exact Ah
   by_cases hlt:i<x.rules.length
   .have hlt':(i:Int)<x.rules.length:=Ac
    obtain⟨r,hr⟩:∃r,x.rules[i]?=some r:=⟨_,zzE hlt⟩;have hel:=qtX hr;have h3:i*3+3<=(rR x.rules).length:=by rw[qhN];exact Ac
    have hw1:=wS i;have hn:=h2 r Ah
    have hA2:((x.rules.take (i+1)).map jl).filter (qbS x.dflt)=A++if qbS x.dflt (jl r)=true then [jl r]else []:=by
     rw[qbv hr,List.map_append,List.filter_append,<- hA]
     by_cases hk:qbS x.dflt (jl r)=true<;>simp[hk]
    obtain⟨q,hq⟩:∃q,q=jl r:=⟨_,rfl⟩;rw[<- hq]at hn hA2;simp only[zx]at hn;have n0:¬0=s:=Ac
    have n1:¬1=s:=Ac
    have n2:¬2=s:=Ac
    have n3:¬s=s+1:=Ac
    have n4:¬2=s+1:=Ac
    have n5:¬2=s+1+1:=Ac
    have n6:¬s=2:=Ac
    simp +decide only[↓vS,vT,simprocAttr,hlt',hlt,h3,hel,zx,n0,n1,n2,n3];refine hn.sc ?_
    have e0:∀(tf:Tr Blk),(∀c,c<s->c≠2->c≠bo->tf.get c=tr.get c)->bo≠0/\bo≠1\/A.length=0->(A.length=0->∀c,c<s->c≠2->tf.get c=tr.get c)->tf.get 0=some (.v [.j x.arch,.fz x.rules.length (rR x.rules),.w x.dflt])/\∃a b c,tf.get 1=some (.v [a,b,c]):=λtf q1 q2 q3=>Ah
    by_cases hk:qbS x.dflt q=true
    .rw[if_pos hk]at hA2;have app:∀k:Prop,(∀(u:IntKind),True)->k->k:=λ_ _ h=>h
     have hcond:(0:Int)<(q.tests.length:Int)\/¬(0:Int)<(q.tests.length:Int)/\¬q.act=x.dflt:=by
      simp only[qbS,zzO,zzb]at hk;exact Ac
     by_cases hz:A.length=0
     .have hV:qdg A.length bo = .nils:=Ek
      have hAn:A=[]:=Ah
      rw[hV]at t2
      have fin:∀tf tt,(∀c,c<s->c≠2->tf.get c=tr.get c)->tf.get 2=some (.v [.j x.arch,.own (s+1+1) 1,.w x.dflt])->tf.get (s+1+1)=some (.cells 3 true true [.w q.nr,.fz q.tests.length (rT q.tests),.w q.act])->Has tt [(1,.ptr 0 0),(2,.ptr 1 0),(4,.ptr 2 0),(17,.fz x.rules.length (rR x.rules)),(18,.j (x.rules.length:Int)),(19,.j ((i+1:Nat):Int))]->G tt ⟨s+1+1+1,0,tf⟩:=λtf tt q1 q2 q3 q4=>by
       refine ih (i+1,s+1+1) _ _ Ac q4 ⟨Ac,_,tf,rfl,Ac,Ah,Ah,?_,λ_=>⟨?_,Ac,Ac⟩⟩
       .simp only[hA2,hAn];rw[q2];rfl
       .simp only[hA2,hAn];rw[q3];simp[rR,zx]
      rcases hcond with hc1|⟨hc1,hc2⟩
      .simp +decide only[↓vS,vT,simprocAttr,hc1,t2,n0,n1,n2,n3,n4,n5,n6,hw1];refine fin _ _ (λc c1 c2=>?_) Br ?_ Ak
       .simp only[zz4];repeat rw[if_neg Ac]
       exact Ay
      .simp +decide only[↓vS,vT,simprocAttr,hc1,hc2,t0,t2,n0,n1,n2,n3,n4,n5,n6,hw1];refine fin _ _ (λc c1 c2=>?_) Br ?_ Ak
       .simp only[zz4];repeat rw[if_neg Ac]
       exact Ay
     .obtain⟨o1,o2,o3⟩:=to hz;have hV:qdg A.length bo = .own bo A.length:=Ek
      rw[hV]at t2;have m1:¬bo=s:=Ac
      have m2:¬bo=s+1:=Ac
      have m3:¬s+1=bo:=Ac
      have m4:¬2=bo:=Ac
      have rr1:A.length+1<=qe:=by simp only[qe];exact Ac
      have rr2:(A.length+1)*40<=qe:=by simp only[qe];exact Ac
      have hrl:(rR A).length=A.length*3:=qhN
      have fin:∀tf tt,(∀c,c<s->c≠2->c≠bo->tf.get c=tr.get c)->tf.get 2=some (.v [.j x.arch,.own (s+1+1) (A.length+1),.w x.dflt])->tf.get (s+1+1)=some (.cells 3 true true (rR A++[.w q.nr,.fz q.tests.length (rT q.tests),.w q.act]))->Has tt [(1,.ptr 0 0),(2,.ptr 1 0),(4,.ptr 2 0),(17,.fz x.rules.length (rR x.rules)),(18,.j (x.rules.length:Int)),(19,.j ((i+1:Nat):Int))]->G tt ⟨s+1+1+1,0,tf⟩:=λtf tt q1 q2 q3 q4=>by
       refine ih (i+1,s+1+1) _ _ Ac q4 ⟨Ac,_,tf,rfl,Ac,Ah,Ah,?_,λ_=>⟨?_,Ac,Ac⟩⟩
       .simp only[hA2];rw[q2];simp[qdg]
       .simp only[hA2];rw[q3,<- qzt];simp[rR,zx]
      rcases hcond with hc1|⟨hc1,hc2⟩
      .simp +decide only[↓vS,vT,simprocAttr,hc1,t2,o1,m1,m2,m3,m4,rr1,rr2,hrl,n0,n1,n2,n3,n4,n5,n6,hw1];refine fin _ _ (λc c1 c2 c3=>?_) Br ?_ Ak
       .simp only[zz4];repeat rw[if_neg Ac]
       exact Ay
      .simp +decide only[↓vS,vT,simprocAttr,hc1,hc2,t0,t2,o1,m1,m2,m3,m4,rr1,rr2,hrl,n0,n1,n2,n3,n4,n5,n6,hw1];refine fin _ _ (λc c1 c2 c3=>?_) Br ?_ Ak
       .simp only[zz4];repeat rw[if_neg Ac]
       exact Ay
    .rw[if_neg hk,List.append_nil]at hA2;have hc1:¬(0:Int)<(q.tests.length:Int):=λh=>hk (by simp only[qbS,zzO,zzb];exact Ac)
     have hc2:q.act=x.dflt:=by
      rcases Classical.em (q.act=x.dflt)with h|h
      .exact h
      .exact absurd (by simp[qbS,h]) hk
     simp +decide only[↓vS,vT,simprocAttr,hc1,eq_true hc2,t0,n0,n1,n2,n3,hw1];refine ih (i+1,bo) _ _ Ac Ak ⟨Ac,s+1,_,rfl,Ac,?_,⟨a,b,c,?_⟩,?_,λhz=>?_⟩
     .exact Ay
     .exact Ay
     .exact Ay
     .simp only[hA2]at hz ⊢;obtain⟨o1,o2,o3⟩:=to hz;refine⟨?_,o2,Ac⟩
      simp only[zz4];exact Ah
   .obtain rfl:i=x.rules.length:=Ac
    have hlt':¬((x.rules.length:Int)<x.rules.length):=Ac
    rw[zz0]at hA;have hnF:(wH x).rules=A:=hA.symm
    by_cases hz:A.length=0
    .have hV:qdg A.length bo = .nils:=Ek
     have hAn:A=[]:=Ah
     rw[hV]at t2;refine Sa (zzA hlt' (zzA t2 t1)) ?_;simp only[zn,hnF,hAn];simp[vZ,vP,zz4,rR,wH]
    .obtain⟨o1,o2,o3⟩:=to hz;have hV:qdg A.length bo = .own bo A.length:=Ek
     have m1:¬bo=1:=Ac
     rw[hV]at t2;refine Sa (zzA hlt' (zzA t2 t1)) ?_;simp only[zn,hnF];have hA0:¬A=[]:=Ah;simp[vZ,vP,zz4,o1,m1,zc qo,hA0,wH]
  .exact Ak
  .refine⟨zzu _,_,_,rfl,Ac,?_,⟨.j 0,.nils,.w 0,?_⟩,?_,Ad⟩
   .exact Bn
   .exact Bn
   .simp[zz4,qdg]
def WkB(fl:List AV)(ar row prg:AV):Blk:=.v (fl++[ar,row,prg])
section
variable {b s:Nat}{tr:Tr Blk}{k:AV->Hp->Prop}{x:GFil}{ar row prg:AV}
def xa(a:Nat):IFn:=irJ 97 [125,a]
def qnE{g:Nat}(hc:Ck P f (xa g))(fl:List AV)(hfl:fl.length=3)(h:tr.get b=some (WkB fl ar row prg))(r:AV)(e:Int)(hr:zt r=true/\qc7 r=true/\cellsOf r=[r])(hg:qa P g [.agg fl] (.tup [r,.j e]))
  (hk:∀tr',(∀c,c≠b->tr'.get c=tr.get c)->tr'.get b=some (WkB fl ar r prg)->k (.j e) ⟨s,0,tr'⟩):SC P f [.ptr b 0] ⟨s,0,tr⟩ k:=by
 obtain⟨a1,a2,a3,rfl⟩:∃a1 a2 a3,fl=[a1,a2,a3]:=by
  match fl,hfl with
  | [a1,a2,a3],_=>exact Ad
 obtain⟨r1,r2,r3⟩:=hr;simp only[WkB,zzC,zzN]at h hk;refine Bb ?_;simp only[xa,vI,simprocAttr];exact Bk
def xi(a:Nat):IFn:=irJ 98 [126,a]
def qnF{g:Nat}(hc:Ck P f (xi g))(fl:List AV)(hfl:fl.length=3)(h:tr.get b=some (WkB fl ar row prg))(fl2:List AV)(hf2:fl2.length=3)(e:Int)(hr:qF fl2=true)(hg:qa P g [.agg fl] (.tup [.agg fl2,.j e]))
  (hk:∀tr',(∀c,c≠b->tr'.get c=tr.get c)->tr'.get b=some (WkB fl2 ar row prg)->k (.j e) ⟨s,0,tr'⟩):SC P f [.ptr b 0] ⟨s,0,tr⟩ k:=by
 obtain⟨a1,a2,a3,rfl⟩:∃a1 a2 a3,fl=[a1,a2,a3]:=by
  match fl,hfl with
  | [a1,a2,a3],_=>exact Ad
 obtain⟨c1,c2,c3,rfl⟩:∃a1 a2 a3,fl2=[a1,a2,a3]:=by
  match fl2,hf2 with
  | [a1,a2,a3],_=>exact Ad
 simp only[WkB,zzC,zzN]at h hk;refine Bb ?_;simp only[xi,vI,simprocAttr];refine Sa h ?_;refine hg.sc ?_;refine Sa (zzA h hr) ?_
 exact Fw
def zW(a:Nat):IFn:=irJ 93 [122,a]
def qij{g:Nat}(hc:Ck P f (zW g))(fl:List AV)(hfl:fl.length=3)(h:tr.get b=some (WkB fl ar row prg))(r:AV)(e:Int)(hr:zt r=true/\qc7 r=true/\cellsOf r=[r])(hg:qa P g [ar] (.tup [r,.j e]))
  (hk:∀tr',(∀c,c≠b->tr'.get c=tr.get c)->tr'.get b=some (WkB fl ar r prg)->k (.j e) ⟨s,0,tr'⟩):SC P f [.ptr b 0] ⟨s,0,tr⟩ k:=by
 obtain⟨a1,a2,a3,rfl⟩:∃a1 a2 a3,fl=[a1,a2,a3]:=by
  match fl,hfl with
  | [a1,a2,a3],_=>exact Ad
 obtain⟨r1,r2,r3⟩:=hr;simp only[WkB,zzC,zzN]at h hk;refine Bb ?_;simp only[zW,vI,simprocAttr];exact Bk
def zg(a:Nat):IFn:=irJ 95 [124,a]
def qnD{g:Nat}(hc:Ck P f (zg g))(fl:List AV)(hfl:fl.length=3)(h:tr.get b=some (WkB fl ar row prg))(r:AV)(e:Int)(hr:zt r=true/\qc7 r=true/\cellsOf r=[r])(hg:qa P g [row] (.tup [r,.j e]))
  (hk:∀tr',(∀c,c≠b->tr'.get c=tr.get c)->tr'.get b=some (WkB fl ar r prg)->k (.j e) ⟨s,0,tr'⟩):SC P f [.ptr b 0] ⟨s,0,tr⟩ k:=by
 obtain⟨a1,a2,a3,rfl⟩:∃a1 a2 a3,fl=[a1,a2,a3]:=by
  match fl,hfl with
  | [a1,a2,a3],_=>exact Ad
 obtain⟨r1,r2,r3⟩:=hr;simp only[WkB,zzC,zzN]at h hk;refine Bb ?_;simp only[zg,vI,simprocAttr];exact Bk
def qM(a:Nat):IFn:=irJ 94 [123,a]
def qgl{g:Nat}(hc:Ck P f (qM g))(fl:List AV)(hfl:fl.length=3)(h:tr.get b=some (WkB fl ar row prg))(r:AV)(e:Int)(hr:zt r=true/\qc7 r=true/\cellsOf r=[r])(hg:qa P g [row] (.tup [r,.j e]))
  (hk:∀tr',(∀c,c≠b->tr'.get c=tr.get c)->tr'.get b=some (WkB fl ar row r)->k (.j e) ⟨s,0,tr'⟩):SC P f [.ptr b 0] ⟨s,0,tr⟩ k:=by
 obtain⟨a1,a2,a3,rfl⟩:∃a1 a2 a3,fl=[a1,a2,a3]:=by
  match fl,hfl with
  | [a1,a2,a3],_=>exact Ad
 obtain⟨r1,r2,r3⟩:=hr;simp only[WkB,zzC,zzN]at h hk;refine Bb ?_;simp only[qM,vI,simprocAttr];exact Bk
def qN:IFn:=irJ 92 []
def qAj(hc:Ck P f qN){bx e:Nat}{wf a:Bool}(gs:List Nat)(hx:tr.get bx=some (.cells e wf a (gs.map λg=>.fn g [.ptr b 0] [])))(hbx:bx≠b)(J:Nat->AV->Blk->Prop)(n:Nat)(hn:gs.length=n)(hn9:n<=9)
  (B0:Blk) (h0:tr.get b=some B0) (hJ0:J 0 (.j 0) B0)
  (step:∀(i:Nat) g B (s':Nat) (tr':Tr Blk) (k':AV->Hp->Prop),gs[i]?=some g->J i (.j 0) B->tr'.get b=some B->(∀(v:Int) B' tr2,(∀c,c≠b->tr2.get c=tr'.get c)->tr2.get b=some B'->J (i+1) (.j v) B'->k' (.j v) ⟨s',0,tr2⟩)->SC P g [.ptr b 0] ⟨s',0,tr'⟩ k')
  (hbad:∀(i:Nat) (v:Int) B tr2,(∀c,c≠b->tr2.get c=tr.get c)->v≠0->J i (.j v) B->k (.tup [.nils,.j v]) ⟨s,0,tr2⟩)
  (hok:∀B tr2,(∀c,c≠b->tr2.get c=tr.get c)->J n (.j 0) B->tr2.get b=some B->∃fl ar row prg,fl.length=3/\B=WkB fl ar row prg/\k (.tup [prg,.j 0]) ⟨s,0,tr2⟩) :
  SC P f [.ptr b 0,.sl bx 0 n n false] ⟨s,0,tr⟩ k:=by
 refine Bb ?_;simp only[qN,vI,simprocAttr];refine Ab ?_
 refine SL.loopP (α:=Nat) (λi=>[(0,.ptr b 0),(9,.sl bx 0 n n false),(10,.j (n:Int)),(11,.j (i:Int))])
  (λi h=>i<=n/\∃tr' B,h=⟨s,0,tr'⟩/\(∀c,c≠b->tr'.get c=tr.get c)/\tr'.get bx=some (.cells e wf a (gs.map λg=>.fn g [.ptr b 0] []))/\tr'.get b=some B/\J i (.j 0) B) (λi=>n-i) ?_ 0 ?_ ?_
 .rintro i h ⟨hi,tr',B,rfl,gf,gx,gb,hj⟩ G ih;refine Am ?_
  by_cases hlt:i<n
  .have hlt':(i:Int)<n:=Ac
   obtain⟨g,hg⟩:∃g,gs[i]?=some g:=⟨_,zzE Ac⟩;have hgm:(gs.map λg=>AV.fn g [.ptr b 0] [])[i]?=some (.fn g [.ptr b 0] []):=by simp[hg]
   have hw1:=wS i;simp +decide only[↓vS,vT,simprocAttr,hlt',hlt,gx,hgm,zzU];refine step i g B s tr' _ hg hj gb λv B' tr2 q1 q2 q3=>?_
   by_cases hv:v=0
   .subst hv;refine Sa hw1 ?_;exact ih (i+1) _ _ Ac Ak Ah
   .refine Sa hv ?_;exact Ah
  .obtain rfl:i=n:=Ac
   have hlt':¬((i:Int)<i):=Ac
   obtain⟨fl,ar,row,prg,hfl,hB,hk⟩:=hok B tr' gf hj gb
   obtain⟨a1,a2,a3,rfl⟩:∃a1 a2 a3,fl=[a1,a2,a3]:=by
    match fl,hfl with
    | [a1,a2,a3],_=>exact Ah
   rw[hB]at gb;simp only[WkB,zzC,zzN]at gb;refine Sa (zzA hlt' gb) ?_;exact hk
 all_goals grind[qh,qk,Tr.get_set]
def qhU(hc:Ck P f qN){bx e:Nat}{wf a:Bool}(gs:List Nat)(hx:tr.get bx=some (.cells e wf a (gs.map λg=>.fn g [.ptr b 0] [])))(hbx:bx≠b)(Bs:Nat->Blk)(vs:Nat->Int)(n:Nat)(hn:gs.length=n)(hn9:n<=9)(h0:tr.get b=some (Bs 0))(hv0:vs 0=0)
  (step:∀(i:Nat) g (s':Nat) (tr':Tr Blk) (k':AV->Hp->Prop),gs[i]?=some g->(∀j,j<=i->vs j=0)->tr'.get b=some (Bs i)->(∀tr2,(∀c,c≠b->tr2.get c=tr'.get c)->tr2.get b=some (Bs (i+1))->k' (.j (vs (i+1))) ⟨s',0,tr2⟩)->SC P g [.ptr b 0] ⟨s',0,tr'⟩ k')
  (hbad:∀(i:Nat) tr2,(∀c,c≠b->tr2.get c=tr.get c)->vs i≠0->(∀j,j<i->vs j=0)->k (.tup [.nils,.j (vs i)]) ⟨s,0,tr2⟩)
  (hok:∀tr2,(∀c,c≠b->tr2.get c=tr.get c)->(∀j,j<=n->vs j=0)->tr2.get b=some (Bs n)->∃fl ar row prg,fl.length=3/\Bs n=WkB fl ar row prg/\k (.tup [prg,.j 0]) ⟨s,0,tr2⟩) :
  SC P f [.ptr b 0,.sl bx 0 n n false] ⟨s,0,tr⟩ k:=by
 refine qAj hc gs hx hbx (λi v B=>v = .j (vs i)/\B=Bs i/\∀j,j<i->vs j=0) n hn hn9 (Bs 0) h0 ⟨by rw[hv0],rfl,λj hj=>Ac⟩ ?_ ?_ ?_
 .rintro i g B s' tr' k' hg ⟨h1,rfl,h2⟩ hB hk';have hvi:vs i=0:=Ah
  refine step i g s' tr' k' hg (λj hj=>?_) hB λtr2 q1 q2=>hk' _ _ _ q1 q2 ⟨rfl,rfl,λj hj=>?_⟩
  .rcases Nat.lt_or_ge j i with h|h
   .exact h2 j h
   .rw[show j=i from Ac];exact hvi
  .rcases Nat.lt_or_ge j i with h|h
   .exact h2 j h
   .rw[show j=i from Ac];exact hvi
 all_goals grind
def x9:IFn:=irJ 96 []
def qjw(v:AV)(p:List Ins):Prop:=v = .fz p.length (rP p)\/v = .nils/\p=[]
def qec(u v:List Ins×Int):List Ins×Int:=if v.2≠0\/(u.2=0/\u.1.length<v.1.length)then u else v
def qjw.clo{v:AV}{p:List Ins}(h:qjw v p):Go.Kc.clo v=true:=by
 rcases h with rfl|⟨rfl,_⟩
 .simp[Go.Kc.clo,qz]
 .rfl
def qkz(hc:Ck P f x9)(u v:List Ins×Int)(x y:AV)(hx:qjw x u.1)(hy:qjw y v.1) :
  ∃z,qjw z (qec u v).1/\qa P f [x,.j u.2,y,.j v.2] (.tup [z,.j (qec u v).2]):=by
 have key:∀(h:Bool),(decide (v.2≠0\/(u.2=0/\u.1.length<v.1.length)))=h->qa P f [x,.j u.2,y,.j v.2] (.tup [if h=true then x else y,.j (if h=true then u.2 else v.2)]):=by
  intro h hh;refine qa.mk hc (by simp[qu,Go.Kc.clo,hx.clo,hy.clo]) ?_;simp only[x9,vI,simprocAttr]
  by_cases h1:v.2=0
  .by_cases h2:u.2=0
   .have e:h=decide (u.1.length<v.1.length):=by rw[<- hh];simp[h1,h2]
    rw[e];rcases hx with rfl|⟨rfl,hx⟩<;>rcases hy with rfl|⟨rfl,hy⟩
    .by_cases h3:u.1.length<v.1.length
     .exact Gm
     .exact Gm
    .have h3:¬u.1.length<v.1.length:=by rw[hy];simp
     have h3':¬(u.1.length:Int)<0:=Ac
     refine Sa (zzA h1 (zzA h2 (zzA h3' h3))) ?_;simp[vZ]
    .rw[hx]
     by_cases h3:0<v.1.length
     .have h3':(0:Int)<v.1.length:=Ac
      refine Sa (zzA h1 (zzA h2 (zzA h3' h3))) ?_;simp[vZ]
     .have h3':¬(0:Int)<v.1.length:=Ac
      refine Sa (zzA h1 (zzA h2 (zzA h3' h3))) ?_;simp[vZ,zc (qz _)]
    .rw[hx,hy];exact Dl
   .have e:h=false:=by rw[<- hh];simp[h1,h2]
    rw[e];refine Sa (zzA h1 h2) ?_;simp[vZ,h1,Frz.self hy.clo]
  .have e:h=true:=by rw[<- hh];simp[h1]
   rw[e];refine Sa h1 ?_;simp[vZ,Frz.self hx.clo]
 unfold qec
 exact Ah
end
def zY(l:List Sy):List Ins×Int:=if 4096<(ji l).length then([],270)else(ji l,0)
def qlO{l:List Sy}:qjB l = .tup [.fz (zY l).1.length (rP (zY l).1),.j (zY l).2]:=by
 unfold qjB zY;split<;>rfl
def qb6(l:List Sy):List Sy:=qhF (qpV (qfM l))
def qgo(x:GFil):List Ins×Int:=if jr x=true then zY (zp x)else([],210)
def qg4(x:GFil):List Ins×Int:=if jr x=true then zY (qb6 (zp (wH x)))else([],210)
def qdk(x:GFil)(o:Bool):List Ins×Int:=if o=true then qec (qgo x) (qg4 x)else qgo x
structure CmpFn (P:Program) (gE gN gO gL:Nat) (x:GFil):Prop where
 em:qa P gE [.agg (zn x)] (qqa x)
 nm:qa P gN [.agg (zn x)] (qus x)
 lk:jr x=true->qa P gL [.fz (zp x).length (rSy (zp x))] (qjB (zp x))
 em2:jr x=true->qa P gE [.agg (zn (wH x))] (qqa (wH x))
 ok2:jr x=true->jr (wH x)=true
 op:jr x=true->qa P gO [.fz (zp (wH x)).length (rSy (zp (wH x)))] (.tup [.fz (qb6 (zp (wH x))).length (rSy (qb6 (zp (wH x)))),.j 0])
 lk2:jr x=true->qa P gL [.fz (qb6 (zp (wH x))).length (rSy (qb6 (zp (wH x))))] (qjB (qb6 (zp (wH x))))
section
variable {gE gN gO gL b s:Nat}{tr:Tr Blk}{k:AV->Hp->Prop}{x:GFil}
def qkS{n:Nat}{cs:List AV}:zt (.fz n cs)=true/\qc7 (.fz n cs)=true/\cellsOf (.fz n cs)=[.fz n cs]:=⟨rfl,rfl,rfl⟩
def qDu{gd gwE gwL bx:Nat}{e:Nat}{wf a:Bool}(hc:Ck P gd qN)(hE:Ck P gwE (xa gE))(hL:Ck P gwL (qM gL))(C:CmpFn P gE gN gO gL x)
  (hx:tr.get bx=some (.cells e wf a [.fn gwE [.ptr b 0] [],.fn gwL [.ptr b 0] []])) (hbx:bx≠b) (h0:tr.get b=some (WkB (zn x) .nils .nils .nils))
  (hk:∀v tr2,qjw v (qgo x).1->(∀c,c≠b->tr2.get c=tr.get c)->k (.tup [v,.j (qgo x).2]) ⟨s,0,tr2⟩):SC P gd [.ptr b 0,.sl bx 0 2 2 false] ⟨s,0,tr⟩ k:=by
 have hE':=C.em;cases hK:jr x with
 | false =>
  have e1:qgo x=([],210):=by unfold qgo;exact Ah
  rw[e1]at hk;unfold qqa at hE';rw[hK,if_neg (by simp)]at hE';refine qhU hc [gwE,gwL] C3 hbx (λi=>if i=0 then WkB (zn x) .nils .nils .nils else WkB (zn x) .nils (.fz 0 []) .nils) (λi=>if i=0 then 0 else 210) 2 rfl Ac h0 rfl ?_ ?_ ?_
  .intro i g s' tr' k' hg hj hB hk'
   have hi:i=0:=Ad
   subst hi;exact Hs
  .intro i tr2 hf hv hj;have hi:i≠0:=Ac
   exact Co
  .intro tr2 _ hj _;have:=hj 1 Ac;exact Ac
 | true =>
  have hL':=C.lk hK;rw[qlO]at hL';have e1:qgo x=zY (zp x):=by unfold qgo;exact Ah
  rw[e1]at hk;unfold qqa at hE';rw[hK,if_pos rfl]at hE'
  refine qhU hc [gwE,gwL] C3 hbx (λi=>if i=0 then WkB (zn x) .nils .nils .nils else if i=1 then WkB (zn x) .nils (.fz (zp x).length (rSy (zp x))) .nils else WkB (zn x) .nils (.fz (zp x).length (rSy (zp x))) (.fz (zY (zp x)).1.length (rP (zY (zp x)).1)))
   (λi=>if i=0 then 0 else if i=1 then 0 else(zY (zp x)).2) 2 rfl Ac h0 rfl ?_ ?_ ?_
  .intro i g s' tr' k' hg hj hB hk';have hi:i<2:=by have:=(zzS.1 hg).1;exact Ac
   have hi2:i=0\/i=1:=Ac
   rcases hi2 with rfl|rfl
   .exact Hs
   .simp at hg;subst hg;exact qgl hL (zn x) rfl hB _ _ qkS hL' hk'
  .intro i tr2 hf hv hj;have h0':i≠0:=Ac
   have h1':i≠1:=Ac
   simp only[if_neg h0',if_neg h1']at hv ⊢
   have e2:(zY (zp x)).1=[]:=by
    unfold zY at hv ⊢
    exact Ah
   exact hk _ _ (.inr ⟨rfl,e2⟩) hf
  .intro tr2 hf hj hB;have hz:=hj 2 Ac;simp at hz;refine⟨zn x,.nils,_,_,rfl,rfl,?_⟩;have:=hk (.fz (zY (zp x)).1.length (rP (zY (zp x)).1)) tr2 (.inl rfl) hf;rw[hz]at this;exact Ac
def qDt{gd gwN gwE gwO gwL bx:Nat}{e:Nat}{wf a:Bool}(hc:Ck P gd qN)(hN:Ck P gwN (xi gN))(hE:Ck P gwE (xa gE))(hO:Ck P gwO (zg gO))(hL:Ck P gwL (qM gL))(C:CmpFn P gE gN gO gL x)
  (hx:tr.get bx=some (.cells e wf a [.fn gwN [.ptr b 0] [],.fn gwE [.ptr b 0] [],.fn gwO [.ptr b 0] [],.fn gwL [.ptr b 0] []])) (hbx:bx≠b) (h0:tr.get b=some (WkB (zn x) .nils .nils .nils))
  (hk:∀v tr2,qjw v (qg4 x).1->(∀c,c≠b->tr2.get c=tr.get c)->k (.tup [v,.j (qg4 x).2]) ⟨s,0,tr2⟩):SC P gd [.ptr b 0,.sl bx 0 4 4 false] ⟨s,0,tr⟩ k:=by
 have hN':=C.nm;cases hK:jr x with
 | false =>
  have e1:qg4 x=([],210):=by unfold qg4;exact Ah
  rw[e1]at hk;unfold qus at hN';rw[hK,if_neg (by simp)]at hN';refine qhU hc [gwN,gwE,gwO,gwL] C3 hbx (λi=>if i=0 then WkB (zn x) .nils .nils .nils else WkB [.j 0,.fz 0 [],.w 0] .nils .nils .nils) (λi=>if i=0 then 0 else 210) 4 rfl Ac h0 rfl ?_ ?_ ?_
  .intro i g s' tr' k' hg hj hB hk'
   have hi:i=0:=Ad
   subst hi;simp at hg;subst hg;exact qnF hN (zn x) rfl hB [.j 0,.fz 0 [],.w 0] rfl _ rfl hN' hk'
  .intro i tr2 hf hv hj;have hi:i≠0:=Ac
   exact Co
  .intro tr2 _ hj _;have:=hj 1 Ac;exact Ac
 | true =>
  obtain⟨y,hy⟩:∃y,y=wH x:=⟨_,rfl⟩;obtain⟨m,hm⟩:∃m,m=qb6 (zp y):=⟨_,rfl⟩;have hL':=C.lk2 hK;have hE':=C.em2 hK;have hO':=C.op hK;have hK2:=C.ok2 hK;have e1:qg4 x=zY (qb6 (zp (wH x))):=by unfold qg4;exact Ah
  rw[e1]at hk;unfold qus at hN';rw[hK,if_pos rfl]at hN';rw[<- hy]at hL' hE' hO' hK2 hN' hk;unfold qqa at hE';rw[hK2,if_pos rfl]at hE';rw[<- hm]at hL' hO' hk;rw[qlO]at hL'
  refine qhU hc [gwN,gwE,gwO,gwL] C3 hbx (λi=>if i=0 then WkB (zn x) .nils .nils .nils else if i=1 then WkB (zn y) .nils .nils .nils else if i=2 then WkB (zn y) .nils (.fz (zp y).length (rSy (zp y))) .nils else if i=3 then WkB (zn y) .nils (.fz m.length (rSy m)) .nils else WkB (zn y) .nils (.fz m.length (rSy m)) (.fz (zY m).1.length (rP (zY m).1)))
   (λi=>if i=0 then 0 else if i=1 then 0 else if i=2 then 0 else if i=3 then 0 else(zY m).2) 4 rfl Ac h0 rfl ?_ ?_ ?_
  .intro i g s' tr' k' hg hj hB hk';have hi:i<4:=by have:=(zzS.1 hg).1;exact Ac
   have hi2:i=0\/i=1\/i=2\/i=3:=Ac
   rcases hi2 with rfl|rfl|rfl|rfl
   .simp at hg;subst hg;exact qnF hN (zn x) rfl hB (zn y) rfl _ rfl hN' hk'
   .simp at hg;subst hg;exact qnE hE (zn y) rfl hB _ _ qkS hE' hk'
   .simp at hg;subst hg;exact qnD hO (zn y) rfl hB _ _ qkS hO' hk'
   .simp at hg;subst hg;exact qgl hL (zn y) rfl hB _ _ qkS hL' hk'
  .intro i tr2 hf hv hj;have h0':i≠0:=Ac
   have h1':i≠1:=Ac
   have h2':i≠2:=Ac
   have h3':i≠3:=Ac
   simp only[if_neg h0',if_neg h1',if_neg h2',if_neg h3']at hv ⊢
   have e2:(zY m).1=[]:=by
    unfold zY at hv ⊢
    exact Ah
   exact hk _ _ (.inr ⟨rfl,e2⟩) hf
  .intro tr2 hf hj hB;have hz:=hj 4 Ac;simp at hz;refine⟨zn y,.nils,_,_,rfl,rfl,?_⟩;have:=hk (.fz (zY m).1.length (rP (zY m).1)) tr2 (.inl rfl) hf;rw[hz]at this;exact Ac
def qa6(a b c d e g:Nat):IFn:=irJ 63 [97,a,94,b,92,c,98,d,95,e,96,g]
theorem qjw.frz{v:AV}{p:List Ins}{h:Hp}(hv:qjw v p):Frz h v (.fz p.length (rP p)):=by
 rcases hv with rfl|⟨rfl,rfl⟩
 .exact Frz.self (by simp[Go.Kc.clo,qz])
 .exact .nilz
def qpl{gd gwN gwE gwO gwL gs:Nat}(hc:Ck P f (qa6 gwE gwL gd gwN gwO gs))(hd:Ck P gd qN)(hN:Ck P gwN (xi gN))(hE:Ck P gwE (xa gE))(hO:Ck P gwO (zg gO))(hL:Ck P gwL (qM gL))
  (hs:∀(u v:List Ins×Int) (x y:AV),qjw x u.1->qjw y v.1->∃z,qjw z (qec u v).1/\qa P gs [x,.j u.2,y,.j v.2] (.tup [z,.j (qec u v).2])) (C:CmpFn P gE gN gO gL x) (o:Bool) :
  qa P f [.agg (zn x),.b o] (.tup [.fz (qdk x o).1.length (rP (qdk x o).1),.j (qdk x o).2]):=by
 refine qa.mk hc (by simp[qu,Go.Kc.clo,zn,qo]) ?_;simp only[qa6,zn,vI,simprocAttr];refine Ab ?_;refine zB ?_;refine Ab ?_;refine qDu hd hE hL C (b:=1) (bx:=3) Dq Af (by simp[zz4,WkB,zn]) λv tr2 hv hf=>?_
 cases o with
 | false =>
  simp +decide only[↓vS,vT,simprocAttr,qdk];simp[vZ];exact hv.frz
 | true =>
  simp +decide only[↓vS,vT,simprocAttr,qdk];refine qDt hd hN hE hO hL C (b:=2) (bx:=4) Dq Af (by rw[zz4,if_neg Af,hf 2 Af];simp[zz4,WkB,zn]) λw tr3 hw _=>?_
  obtain⟨z,hz1,hz2⟩:=hs (qgo x) (qg4 x) v w hv hw;refine Ab ?_;refine hz2.sc ?_;refine Ab ?_;simp[vZ];exact⟨hz1.frz,rfl⟩
end
end
section
variable [Cur]
def xv:List Sp->Int->Int->Prop
 | [],a,b=>a=b
 | s::l,a,b=>s.fr=a/\a<=s.to/\xv l (s.to+1) b
def xv.le:∀{l:List Sp}{a b:Int},xv l a b->a<=b
 | [],_,_,h=>by simp[xv]at h;exact Ac
 | s::l,a,b,h=>by obtain⟨h1,h2,h3⟩:=h;have:=h3.le;exact Ac
def xv.app:∀{l m:List Sp}{a b:Int},xv (l++m) a b↔∃c,xv l a c/\xv m c b
 | [],m,a,b=>by simp[xv]
 | s::l,m,a,b=>by
  simp only[zzC,xv];constructor
  .rintro⟨h1,h2,h3⟩;obtain⟨c,h4,h5⟩:=xv.app.1 h3
   exact Ah
  .rintro⟨c,⟨h1,h2,h4⟩,h5⟩;exact⟨h1,h2,xv.app.2 ⟨c,h4,h5⟩⟩
def Cov(l:List Sp)(n:Int)(w:Nat):Prop:=∃s ∈ l,s.fr<=n/\n<=s.to/\s.way=w
def quK{l:List Sp}{s:Sp}{a:Int}(h:xv l a s.fr)(hs:s.fr<=s.to):xv (jV l s) a (s.to+1)/\∀n w,Cov l n w\/(s.fr<=n/\n<=s.to/\s.way=w)->Cov (jV l s) n w:=by
 rcases List.eq_nil_or_concat l with rfl|⟨l0,z,rfl⟩
 .refine⟨?_,?_⟩
  .simp only[xv]at h;simp only[jV,List.getElem?_nil,zzN,xv]
   exact Ad
  .rintro n w (⟨x,hx,_⟩|h)
   .cases hx
   .exact⟨s,by simp[jV],h⟩
 .rw[List.concat_eq_append]at h ⊢;have hz:(l0++[z])[(l0++[z]).length-1]?=some z:=by simp
  unfold jV;rw[hz];obtain⟨c,h1,h2⟩:=xv.app.1 h;simp only[xv]at h2;obtain⟨h2,h3,h4⟩:=h2;simp only
  by_cases hw:z.way=s.way
  .rw[if_pos hw];have e:(l0++[z]).set ((l0++[z]).length-1) ⟨z.fr,s.to,z.way⟩=l0++[⟨z.fr,s.to,z.way⟩]:=by simp
   rw[e];refine⟨xv.app.2 ⟨c,h1,h2,Ah,rfl⟩,?_⟩
   rintro n w (⟨x,hx,q1,q2,q3⟩|⟨q1,q2,q3⟩)
   .rcases zzd.1 hx with hx|hx
    .exact⟨x,List.mem_append_left _ hx,q1,q2,q3⟩
    .rw[zz1]at hx;subst hx;exact⟨_,List.mem_append_right _ (zz1.2 rfl),q1,Ah,q3⟩
   .exact⟨_,List.mem_append_right _ (zz1.2 rfl),Ah,q2,Ad⟩
  .rw[if_neg hw];refine⟨xv.app.2 ⟨s.fr,h,rfl,hs,rfl⟩,?_⟩;rintro n w (⟨x,hx,q⟩|q)
   .exact⟨x,List.mem_append_left _ hx,q⟩
   .exact⟨s,List.mem_append_right _ (zz1.2 rfl),q⟩
def qmv:∀{m l:List Sp}{a b c:Int},xv l a b->xv m b c->xv (m.foldl jV l) a c/\∀n w,Cov l n w\/Cov m n w->Cov (m.foldl jV l) n w
 | [],l,a,b,c,h1,h2=>by
  simp only[xv]at h2;subst h2;refine⟨h1,?_⟩;rintro n w (h|⟨x,hx,_⟩)
  all_goals simp_all
 | s::m,l,a,b,c,h1,h2=>by
  obtain⟨h3,h4,h5⟩:=h2;obtain⟨p1,p2⟩:=quK (s:=s) (by rw[h3];exact h1) Ac;obtain⟨q1,q2⟩:=qmv p1 h5;refine⟨q1,?_⟩;rintro n w (h|⟨x,hx,hq⟩)
  .exact Ad
  .rcases zzc.1 hx with rfl|hx
   .exact Ad
   .exact q2 n w (.inr ⟨x,hx,hq⟩)
def Ups:List (Int×Nat)->Int->Prop
 | [],_=>True
 | x::l,a=>a<=x.1/\x.1<4294967296/\Ups l (x.1+1)
def qoE{o:Nat}:∀{l:List (Int×Nat)}{a:Int},Ups l a->0<=a->a<=4294967296->xv (pcs o l a) a 4294967296/\(∀x ∈ l,Cov (pcs o l a) x.1 x.2)/\∀n:Int,a<=n->n<4294967296->(∀x ∈ l,x.1≠n)->Cov (pcs o l a) n o
 | [],a,_,h0,h1=>by
  unfold pcs;refine⟨?_,Ad,λn h2 h3 _=>?_⟩
  .split
   .exact⟨rfl,Ah,by simp only[xv];exact Ac⟩
   .simp only[xv];exact Ac
  .rw[if_pos Ac];exact⟨_,zz1.2 rfl,h2,by simp only;exact Ac,rfl⟩
 | x::l,a,hu,h0,h1=>by
  obtain⟨u1,u2,u3⟩:=hu;obtain⟨c1,c2,c3⟩:=qoE (o:=o) u3 Ac Ac;unfold pcs
  have app:∀(b:Bool),(b=true↔a<x.1)->xv ((if a<x.1 then [⟨a,x.1-1,o⟩]else [])++⟨x.1,x.1,x.2⟩::pcs o l (x.1+1)) a 4294967296:=λ_ _=>by
   by_cases h:a<x.1
   .rw[if_pos h];exact⟨rfl,Ah,Ad,Ad,c1⟩
   .rw[if_neg h];exact⟨Ah,Ac,c1⟩
  refine⟨app (decide (a<x.1)) (by simp),λy hy=>?_,λn h2 h3 h4=>?_⟩
  .rcases zzc.1 hy with rfl|hy
   .exact⟨_,List.mem_append_right _ (List.mem_cons_self ..),Int.le_refl _,Int.le_refl _,rfl⟩
   .obtain⟨s,hs,hq⟩:=c2 y hy;exact He
  .have hx:=h4 x Ad;rcases Int.lt_or_gt_of_ne hx with h|h
   .obtain⟨s,hs,hq⟩:=c3 n Ac h3 Ah;exact He
   .rw[if_pos Ac];exact⟨_,List.mem_append_left _ (zz1.2 rfl),h2,by simp only;exact Ac,rfl⟩
def qrs{o:Nat}{m:Nat}(ho:o<m):∀{l:List (Int×Nat)}{a:Int},(∀x ∈ l,x.2<m)->∀s ∈ pcs o l a,s.way<m
 | [],a,_,s,hs=>by
  unfold pcs at hs;exact Ad
 | x::l,a,h,s,hs=>by
  unfold pcs at hs;rcases zzd.1 hs with hs|hs
  .exact Ad
  .rcases zzc.1 hs with rfl|hs
   .exact Ad
   .exact qrs ho Ah s hs
def qtK{o:Nat}:∀{l:List (Int×Nat)}{a:Int},(pcs o l a).length<=2*l.length+1
 | [],a=>by unfold pcs;split<;>simp
 | x::l,a=>by
  have:=qtK (o:=o) (l:=l) (a:=x.1+1);unfold pcs;split<;>simp<;>omega
def qzm{m:Nat}{l:List Sp}{s:Sp}(h:∀x ∈ l,x.way<m)(hs:s.way<m):∀x ∈ jV l s,x.way<m:=by
 intro x hx;unfold jV at hx
 exact Ah
def qoe{m:Nat}:∀{k l:List Sp},(∀x ∈ l,x.way<m)->(∀x ∈ k,x.way<m)->(∀x ∈ k.foldl jV l,x.way<m)/\(k.foldl jV l).length<=l.length+k.length
 | [],l,h,_=>⟨h,by simp⟩
 | s::k,l,h,hk=>by
  obtain⟨q1,q2⟩:=qoe (k:=k) (qzm h (hk s (List.mem_cons_self ..))) Ad;have:=qnt (l:=l) (s:=s);exact⟨q1,by simp only[List.foldl_cons,zze];exact Ac⟩
def qn3:∀{l:List Sp}{a:Int},xv l a 4294967296->qlN l a=true
 | [],a,h=>by simp[xv]at h;simp[qlN,h]
 | s::l,a,h=>by
  obtain⟨h1,h2,h3⟩:=h;unfold qlN;rw[if_neg Ac];exact qn3 h3
def qkM:∀{l:List Sp}{a b:Int},xv l a b->0<=a->b<=4294967296->SpR l
 | [],_,_,_,_,_=>λs hs=>by cases hs
 | s::l,a,b,h,h0,hb=>by
  obtain⟨h1,h2,h3⟩:=h;have:=h3.le;intro x hx;rcases zzc.1 hx with rfl|hx
  .exact Ac
  .exact qkM h3 Ac hb x hx
def qDD{m:Nat}(n:Nat):∀(l:List Sp) (a:Nat),l.length<=n->0<l.length->(∀s ∈ l,s.way<m)->∀nd ∈ zV l a,(nd.leaf=true->nd.way<m)/\(nd.leaf=false->a<nd.less/\a<nd.more/\nd.less<a+(zV l a).length/\nd.more<a+(zV l a).length)/\nd.less<a+(zV l a).length/\nd.more<a+(zV l a).length:=by
 induction n with
 | zero=>exact Ac
 | succ n ih =>
  intro l a h1 h2 hw nd hnd;have hlen:=qdG (n+1) l a h1 h2;rw[zV]at hnd
  by_cases hk:l.length / 2=0
  .rw[dif_pos hk]at hnd;rw[zz1]at hnd;subst hnd;cases l<;>grind
  .rw[dif_neg hk]at hnd
   have e0:(zV l a).length=1+(zV (l.take (l.length / 2)) (a+1)).length+(zV (l.drop (l.length / 2)) (a+1+(zV (l.take (l.length / 2)) (a+1)).length)).length:=by
    grind[zV.eq_1]
   have hl1:=qdG n (l.take (l.length / 2)) (a+1) Ah Ah;have hl2:=qdG n (l.drop (l.length / 2)) (a+1+(zV (l.take (l.length / 2)) (a+1)).length) Ah Ah;simp at hl1 hl2;rcases zzc.1 hnd with rfl|hnd
   .refine⟨λh=>Ah,λ_=>?_,?_,?_⟩<;>simp only<;>(try refine Ac)<;>omega
   .rcases zzd.1 hnd with hnd|hnd
    .obtain⟨q1,q2,q3,q4⟩:=ih (l.take (l.length / 2)) (a+1) (by simp;exact Ac) (by simp;exact Ac) Ah nd hnd
     exact Ah
    .obtain⟨q1,q2,q3,q4⟩:=ih (l.drop (l.length / 2)) _ (by simp;exact Ac) (by simp;exact Ac) Ah nd hnd
     exact Ah
def wdD(d:GData)(k:Int):Int:=(jH d).getD (k / 4).toNat 0
inductive Ev (R:List Sy) (d:GData):Nat->Int->Int->Prop where
 | ld (p:Nat) (a r:Int) (s:Sy) (h:R[p]?=some s) (hc:s.code=32) (hn:Ev R d (p+1) (wdD d s.k) r):Ev R d p a r
 | an (p:Nat) (a r:Int) (s:Sy) (h:R[p]?=some s) (hc:s.code=84) (hn:Ev R d (p+1) (xK .u32 a s.k) r):Ev R d p a r
 | rt (p:Nat) (a:Int) (s:Sy) (h:R[p]?=some s) (hc:s.code=6):Ev R d p a s.k
 | ja (p:Nat) (a r:Int) (s:Sy) (h:R[p]?=some s) (hc:s.code=5) (hn:Ev R d s.th a r):Ev R d p a r
 | jc (p:Nat) (a r:Int) (s:Sy) (h:R[p]?=some s) (hc:qem s.code) (hn:Ev R d (if qbI s.code a s.k=true then s.th else s.el) a r):Ev R d p a r
def AtL(R:List Sy)(p:Nat)(l:List Sy):Prop:=∀(j:Nat) s,l[j]?=some s->R[p+j]?=some s
theorem AtL.self{R:List Sy}:AtL R 0 R:=λj s h=>by rw[Nat.zero_add];exact h
def AtL.app{R:List Sy}{p:Nat}{l m:List Sy}(h:AtL R p (l++m)):AtL R p l/\AtL R (p+l.length) m:=by
 refine⟨λj s hj=>h j s (by rw[zzj Ah];exact hj),λj s hj=>?_⟩
 have:=h (l.length+j) s (by rw[zzr Ac,Nat.add_sub_cancel_left];exact hj)
 rw[Nat.add_assoc];exact Ac
def AtL.hd{R:List Sy}{p:Nat}{s:Sy}{l:List Sy}(h:AtL R p (s::l)):R[p]?=some s/\AtL R (p+1) l:=by
 refine⟨by simpa using h 0 s rfl,λj x hj=>?_⟩
 have:=h (j+1) x (by simpa using hj);rw[show p+1+j=p+(j+1)from Ac];exact Ac
def qcG(l:List Sy)(p n:Nat):Prop:=∀(j:Nat) s,l[j]?=some s->qfC s (p+j) n
def qcG.app{l m:List Sy}{p n:Nat}(h1:qcG l p n)(h2:qcG m (p+l.length) n):qcG (l++m) p n:=by
 intro j s hj;rw[List.getElem?_append]at hj;split at hj
 .exact h1 j s hj
 .rename_i hlt;have:=h2 _ s hj;rw[show p+l.length+(j-l.length)=p+j from Ac]at this;exact Ac
theorem qcG.nil{p n:Nat}:qcG [] p n:=λj s h=>Ah
theorem qcG.cons{s:Sy}{l:List Sy}{p n:Nat}(h1:qfC s p n)(h2:qcG l (p+1) n):qcG (s::l) p n:=by
 intro j x hj;cases j with
 | zero=>exact Ad
 | succ j=>have:=h2 j x (by simpa using hj);rw[show p+1+j=p+(j+1)from Ac]at this;exact Ac
def qz7(n:Nat):∀(l:List Sp) (a:Nat),l.length<=n->0<l.length->∀(i:Nat) nd,(zV l a)[i]?=some nd->nd.leaf=false->a+i<nd.less/\a+i<nd.more:=by
 induction n with
 | zero=>exact Ac
 | succ n ih =>
  intro l a h1 h2 i nd hnd hl;rw[zV]at hnd
  by_cases hk:l.length / 2=0
  .rw[dif_pos hk]at hnd
   exact Ah
  .rw[dif_neg hk]at hnd;have hl1:=qdG n (l.take (l.length / 2)) (a+1) Ah Ah;cases i with
   | zero=>exact Ah
   | succ i =>
    rw[List.getElem?_cons_succ,List.getElem?_append]at hnd;split at hnd
    .have:=ih (l.take (l.length / 2)) (a+1) Ah Ac i nd hnd hl;exact Ac
    .rename_i hge;have:=ih (l.drop (l.length / 2)) _ Ah Ah _ nd hnd hl;exact Ac
def qDC{T:List Nd}{FW:Nat->Nat}{b:Nat}{n:Int}{Q:Nat->Prop}(hQ:∀(i:Nat) nd,T[i]?=some nd->nd.leaf=false->Q (if nd.at'<=n then plc FW T b nd.more else plc FW T b nd.less)->Q (plc FW T b i))(m:Nat) :
  ∀(l:List Sp) (a:Nat) (c e:Int),l.length<=m->0<l.length->xv l c e->(∀(j:Nat) nd,(zV l a)[j]?=some nd->T[a+j]?=some nd)->∀w,Cov l n w->Q (FW w)->Q (plc FW T b a):=by
 induction m with
 | zero=>exact Ac
 | succ m ih =>
  intro l a c e h1 h2 hc hT w hw hq;rw[zV]at hT
  by_cases hk:l.length / 2=0
  .rw[dif_pos hk]at hT;obtain⟨s,rfl⟩:∃s,l=[s]:=List.length_eq_one_iff.1 Ac;have h0:=hT 0 _ rfl;rw[Nat.add_zero]at h0;obtain⟨x,hx,_,_,rfl⟩:=hw;rw[zz1]at hx;subst hx;unfold plc;rw[h0];exact Ad
  .rw[dif_neg hk]at hT;have h0:=hT 0 _ rfl;rw[Nat.add_zero]at h0;obtain⟨z,hz⟩:∃z,l[l.length / 2]?=some z:=⟨_,zzE Ac⟩;have hzD:l.getD (l.length / 2) ⟨0,0,0⟩=z:=by rw[zzs,hz];rfl
   rw[hzD]at h0;have hsplit:l=l.take (l.length / 2)++l.drop (l.length / 2):=Ad
   rw[hsplit]at hc;obtain⟨q,hc1,hc2⟩:=xv.app.1 hc;have hd:l.drop (l.length / 2)=z::l.drop (l.length / 2+1):=by rw[<- (zzS.1 hz).2,List.getElem_cons_drop]
   have hq0:z.fr=q:=by rw[hd]at hc2;exact hc2.1
   -- what lies ahead ends below q;what lies behind begins at q
   have lo:∀{l:List Sp}{c e:Int},xv l c e->∀s ∈ l,c<=s.fr/\s.to<e:=by
    intro l
    induction l with
    | nil=>exact Ah
    | cons y l ihl =>
     intro c e h s hs;obtain⟨p1,p2,p3⟩:=h;have:=p3.le;rcases zzc.1 hs with rfl|hs
     all_goals grind
   refine hQ a _ h0 rfl ?_;simp only;obtain⟨s,hs,s1,s2,s3⟩:=hw;rw[hsplit]at hs;rcases zzd.1 hs with hs|hs
   .have:=lo hc1 s hs;rw[if_neg Ac];refine ih (l.take (l.length / 2)) (a+1) c q (by simp;exact Ac) (by simp;exact Ac) hc1 (λj nd hj=>?_) w ⟨s,hs,s1,s2,s3⟩ hq
    have:=hT (j+1) nd (by rw[List.getElem?_cons_succ,zzj Ah];exact hj)
    rw[show a+1+j=a+(j+1)from Ac];exact Ac
   .have:=lo hc2 s hs;rw[if_pos Ac];refine ih (l.drop (l.length / 2)) _ q e (by simp;exact Ac) (by simp;exact Ac) hc2 (λj nd hj=>?_) w ⟨s,hs,s1,s2,s3⟩ hq
    have:=hT ((zV (l.take (l.length / 2)) (a+1)).length+j+1) nd (by rw[List.getElem?_cons_succ,zzr Ac,Nat.add_sub_cancel_left];exact hj)
    rw[show a+1+(zV (l.take (l.length / 2)) (a+1)).length+j=a+((zV (l.take (l.length / 2)) (a+1)).length+j+1)from Ac];exact Ac
def qml{T:List Nd}:∀{i:Nat}{nd:Nd},T[i]?=some nd->xC (T.take (i+1))=xC (T.take i)+if nd.leaf=true then 0 else 1:=by
 intro i nd h;unfold xC;rw[qbv h,List.countP_append];cases h2:nd.leaf<;>simp[h2]
def qmk{T:List Nd}{i j:Nat}(h:i<=j):xC (T.take i)<=xC (T.take j):=by
 have:T.take i=(T.take j).take i:=by rw[List.take_take,Nat.min_eq_left h]
 rw[this];unfold xC
 grind[List.take_append_drop]
def qAZ{FW:Nat->Nat}{T:List Nd}{b i:Nat}{nd:Nd}(h:T[i]?=some nd)(hl:nd.leaf=false):(brE FW T b T)[xC (T.take i)]?=some ⟨53,nd.at',plc FW T b nd.more,plc FW T b nd.less⟩:=by
 have main:∀(u:List Nd) (i:Nat),u[i]?=some nd->(brE FW T b u)[xC (u.take i)]?=some ⟨53,nd.at',plc FW T b nd.more,plc FW T b nd.less⟩:=by
  intro u
  induction u with
  | nil=>intro i h;simp at h
  | cons y u ih =>
   intro i h;cases i with
   | zero=>simp at h;subst h;simp[brE,qk2,hl,xC]
   | succ i =>
    have:=ih i G0;simp only[brE,zzv,List.take_succ_cons,xC,List.countP_cons]at this ⊢;cases hy:y.leaf with
    | true=>simp[qk2,hy];exact this
    | false=>simp[qk2,hy];exact this
 exact Ad
def qdK{a b:Nat}(ha:a<18446744073709551616)(hb:b<18446744073709551616):xK .u64 (a:Int) (b:Int)=((a &&& b:Nat):Int):=by
 have h:a &&& b<18446744073709551616:=Nat.and_lt_two_pow a (n:=64) hb;show IntKind.wrap .u64 (((BitVec.ofInt 64 (a:Int)) &&& (BitVec.ofInt 64 (b:Int))).toNat:Int)=_;rw[BitVec.ofInt_natCast,BitVec.ofInt_natCast,BitVec.toNat_and,BitVec.toNat_ofNat,BitVec.toNat_ofNat,Nat.mod_eq_of_lt ha,Nat.mod_eq_of_lt hb,qb3 Ac Ac]
def qdJ{a b:Nat}(ha:a<4294967296)(hb:b<4294967296):xK .u32 (a:Int) (b:Int)=((a &&& b:Nat):Int):=by
 have h:a &&& b<4294967296:=Nat.and_lt_two_pow a (n:=32) hb;show IntKind.wrap .u32 (((BitVec.ofInt 32 (a:Int)) &&& (BitVec.ofInt 32 (b:Int))).toNat:Int)=_;rw[BitVec.ofInt_natCast,BitVec.ofInt_natCast,BitVec.toNat_and,BitVec.toNat_ofNat,BitVec.toNat_ofNat,Nat.mod_eq_of_lt ha,Nat.mod_eq_of_lt hb,qdw Ac Ac]
def qrZ{a b c:Nat}:a &&& b=c↔(a % 4294967296) &&& (b % 4294967296)=c % 4294967296/\(a / 4294967296) &&& (b / 4294967296)=c / 4294967296:=by
 have e1:(a % 4294967296) &&& (b % 4294967296)=(a &&& b) % 4294967296:=(Nat.and_mod_two_pow (n:=32)).symm;have e2:(a / 4294967296) &&& (b / 4294967296)=(a &&& b) / 4294967296:=(Nat.and_div_two_pow (n:=32)).symm;rw[e1,e2];exact Ac
def qle{x m v:Int}(hx:0<=x/\x<18446744073709551616)(hm:0<=m/\m<18446744073709551616)(hv:0<=v/\v<18446744073709551616):xK .u64 x m=v↔xK .u32 (loW x) (loW m)=loW v/\xK .u32 (hiW x) (hiW m)=hiW v:=by
 obtain⟨a,rfl⟩:=Int.eq_ofNat_of_zero_le hx.1;obtain⟨b,rfl⟩:=Int.eq_ofNat_of_zero_le hm.1;obtain⟨c,rfl⟩:=Int.eq_ofNat_of_zero_le hv.1;have ha:a<18446744073709551616:=Ac
 have hb:b<18446744073709551616:=Ac
 rw[qdK ha hb];have e1:loW (a:Int)=((a % 4294967296:Nat):Int):=by unfold loW;exact Ac
 have e2:loW (b:Int)=((b % 4294967296:Nat):Int):=by unfold loW;exact Ac
 have e3:loW (c:Int)=((c % 4294967296:Nat):Int):=by unfold loW;exact Ac
 have e4:hiW (a:Int)=((a / 4294967296:Nat):Int):=by unfold hiW;exact Ac
 have e5:hiW (b:Int)=((b / 4294967296:Nat):Int):=by unfold hiW;exact Ac
 have e6:hiW (c:Int)=((c / 4294967296:Nat):Int):=by unfold hiW;exact Ac
 rw[e1,e2,e3,e4,e5,e6,qdJ Ac Ac,qdJ Ac Ac];have:=qrZ (a:=a) (b:=b) (c:=c)
 exact Ah
def quq{x:Int}(hx:0<=x/\x<4294967296):xK .u32 x 4294967295=x:=by
 obtain⟨a,rfl⟩:=Int.eq_ofNat_of_zero_le hx.1;have:=qdJ (a:=a) (b:=4294967295) Ac Af;rw[show((4294967295:Nat):Int)=4294967295 from rfl]at this
 have e:a &&& 4294967295=a:=by
  have:=Nat.and_two_pow_sub_one_eq_mod a 32;rw[show 2 ^ 32-1=4294967295 from rfl]at this
  rw[this];exact Ac
 rw[this,e]
theorem qnX{x:Int}(hx:0<=x/\x<4294967296):xK .u32 x 0=0:=by
 obtain⟨a,rfl⟩:=Int.eq_ofNat_of_zero_le hx.1;have:=qdJ (a:=a) (b:=0) Ac Af
 exact Ad
def EvA(R:List Sy)(d:GData)(p:Nat)(r:Int):Prop:=∀a,Ev R d p a r
section
variable {R:List Sy}{d:GData}{p F:Nat}{r:Int}
def qtg{k m v:Int}(h:AtL R p (qdU k m v p F))(hw:0<=wdD d k/\wdD d k<4294967296)(hmv:m=0->v=0)(h1:xK .u32 (wdD d k) m=v->EvA R d (p+qb9 m) r)(h2:xK .u32 (wdD d k) m≠v->EvA R d F r):EvA R d p r:=by
 intro a;unfold qdU qb9 at *
 by_cases m0:m=0
 .rw[if_pos m0]at h1;have:=h1 (by rw[m0,hmv m0];exact qnX hw);simpa using this a
 rw[if_neg m0]at h h1
 by_cases m1:m=4294967295
 .rw[if_pos m1]at h h1;obtain⟨g1,h⟩:=h.hd;obtain⟨g2,_⟩:=h.hd;refine .ld p a r _ g1 rfl (.jc _ _ r _ g2 (.inl rfl) ?_);rw[m1,quq hw]at h1 h2;simp only[qbI]
  by_cases e:wdD d k=v
  .rw[if_pos Hm];exact h1 e _
  .rw[if_neg Hm];exact h2 e _
 .rw[if_neg m1]at h h1;obtain⟨g1,h⟩:=h.hd;obtain⟨g2,h⟩:=h.hd;obtain⟨g3,_⟩:=h.hd;refine .ld p a r _ g1 rfl (.an _ _ r _ g2 rfl (.jc _ _ r _ g3 (.inl rfl) ?_));simp only[qbI]
  by_cases e:xK .u32 (wdD d k) m=v
  .rw[if_pos Hm];exact h1 e _
  .rw[if_neg Hm];exact h2 e _
def qnG{d:GData}(hd:DatOk d)(j:Nat):0<=(jH d).getD j 0/\(jH d).getD j 0<4294967296:=by
 have:=qjX (l:=jH d) (λc hc=>qnH hd hc) j
 exact⟨this.1,by have:=this.2;exact Ac⟩
def qIf{d:GData}{k:Int}(h0:0<=k)(h6:k<6):wdD d (16+8*k)=loW (qo6 d k)/\wdD d (16+8*k+4)=hiW (qo6 d k):=by
 have:k=0\/k=1\/k=2\/k=3\/k=4\/k=5:=Ac
 rcases this with rfl|rfl|rfl|rfl|rfl|rfl<;>exact⟨rfl,rfl⟩
def qo7{d:GData}(hd:DatOk d){k:Int}(h0:0<=k)(h6:k<6):0<=qo6 d k/\qo6 d k<18446744073709551616:=by
 have:k=0\/k=1\/k=2\/k=3\/k=4\/k=5:=Ac
 have hm:qo6 d k ∈ qnT d:=by rcases this with rfl|rfl|rfl|rfl|rfl|rfl<;>simp[qo6,qnT]
 exact hd.wid _ hm
def qBl{v m:Int}(hv:0<=v/\v<18446744073709551616)(h:qaN .u64 v m=0):xK .u64 v m=v:=by
 obtain⟨a,rfl⟩:=Int.eq_ofNat_of_zero_le hv.1;have h1:IntKind.wrap .u64 (((BitVec.ofInt 64 (a:Int)) &&& ~~~ (BitVec.ofInt 64 m)).toNat:Int)=0:=h;have hlt:=((BitVec.ofInt 64 (a:Int)) &&& ~~~ (BitVec.ofInt 64 m)).isLt;rw[qb3 Ac Ac]at h1;have h2:(BitVec.ofInt 64 (a:Int)) &&& ~~~ (BitVec.ofInt 64 m)=0#64:=BitVec.eq_of_toNat_eq Ad
 have bv:∀X Y:BitVec 64,X &&& ~~~ Y=0#64->X &&& Y=X:=λX Y h2=>by
  apply BitVec.eq_of_getLsbD_eq;intro i hi;have:=congrArg (λb=>b.getLsbD i) h2
  exact Ah
 have h3:=bv _ _ h2;show IntKind.wrap .u64 (((BitVec.ofInt 64 (a:Int)) &&& (BitVec.ofInt 64 m)).toNat:Int)=_;rw[h3,BitVec.ofInt_natCast,BitVec.toNat_ofNat,Nat.mod_eq_of_lt Ac,qb3 Ac Ac]
structure TstG (t:GTest):Prop where
 ok:TstOk t
 sub:xK .u64 t.val t.mask=t.val
def TstG.lo{t:GTest}(h:TstG t):(loW t.mask=0->loW t.val=0)/\(hiW t.mask=0->hiW t.val=0):=by
 obtain⟨h1,h2⟩:=(qle ⟨h.ok.v0,h.ok.v1⟩ ⟨h.ok.m0,h.ok.m1⟩ ⟨h.ok.v0,h.ok.v1⟩).1 h.sub;have e1:0<=loW t.val/\loW t.val<4294967296:=by unfold loW;exact Ac
 have e2:0<=hiW t.val/\hiW t.val<4294967296:=by have:=h.ok.v0;have:=h.ok.v1;unfold hiW;exact Ac
 grind[qnX]
def qDx{t:GTest}(ht:TstG t)(hd:DatOk d)(h:AtL R p (qiX t p))(h1:qcj t d=true->r=t.act)(h2:qcj t d=false->EvA R d (p+qb0 t) r):EvA R d p r:=by
 obtain⟨g1,g2⟩:=h.app;obtain⟨g1,g3⟩:=g1.app;rw[qci]at g3;rw[zzP,qci,qci]at g2;obtain⟨w1,w2⟩:=qIf (d:=d) ht.ok.a0 ht.ok.a1
 have hh:qcj t d=decide (xK .u64 (qo6 d t.arg) t.mask=t.val):=by
  unfold qcj;simp[ht.ok.a0,ht.ok.a1]
 have hsp:=qle (qo7 hd ht.ok.a0 ht.ok.a1) ⟨ht.ok.m0,ht.ok.m1⟩ ⟨ht.ok.v0,ht.ok.v1⟩;refine qtg g1 (qnG hd _) ht.lo.1 (λc1=>?_) (λc1=>h2 ?_)
 .refine qtg g3 (qnG hd _) ht.lo.2 (λc2=>?_) (λc2=>h2 ?_)
  .intro a;obtain⟨g4,_⟩:=g2.hd
   have hc:qcj t d=true:=by
    rw[hh,zzb,hsp];rw[w1]at c1;rw[w2]at c2;exact⟨c1,c2⟩
   have:=Ev.rt (d:=d) (p+qb9 (loW t.mask)+qb9 (hiW t.mask)) a _ (by rw[Nat.add_assoc];exact g4) rfl;rw[h1 hc];exact this
  .rw[hh,decide_eq_false_iff_not,hsp];rw[w2]at c2;exact λq=>c2 q.2
 exact Ad
def qrN(hd:DatOk d):∀{ts:List GTest}{a:Int}{p:Nat},(∀t ∈ ts,TstG t)->AtL R p (qcy ts a p)->EvA R d p (fnd (λt=>qcj t d) a ts)
 | [],a,p,_,h=>λb=>by
  rw[qlZ];exact Ev.rt p b _ h.hd.1 rfl
 | t::ts,a,p,ht,h=>by
  rw[qdS];have h1:=ht t Ad;unfold qcy at h;obtain⟨g1,g2⟩:=h.app;rw[qfN]at g2;refine qDx h1 hd g1 Ad λhc=>?_
  by_cases hm:t.mask=0
  .exfalso
   have hv:t.val=0:=by
    have:=h1.sub;rw[hm]at this;obtain⟨a,e⟩:=Int.eq_ofNat_of_zero_le h1.ok.v0;have:=qdK (a:=a) (b:=0) (by have:=h1.ok.v1;exact Ac) Af
    rw[<- e]at this;simp at this;exact Ac
   have hx:=qo7 hd h1.ok.a0 h1.ok.a1;obtain⟨a,e⟩:=Int.eq_ofNat_of_zero_le hx.1;have:=qdK (a:=a) (b:=0) Ac Af;rw[<- e]at this;unfold qcj at hc
   simp_all[TstOk.a0,TstG.ok,TstOk.a1]
  .rw[if_neg hm]at g2;rw[if_neg Ah];exact qrN hd Ad g2
theorem qqY{k m v:Int}{n:Nat}(hk:k % 4=0/\0<=k/\k<64)(h1:p+qb9 m<n)(h2:p+qb9 m<=F)(h3:F<n):qcG (qdU k m v p F) p n:=by
 unfold qdU qb9 at *;split
 .exact .nil
 .rename_i m0;rw[if_neg m0]at h1 h2;split
  .rename_i m1;rw[if_pos m1]at h1 h2;refine .cons (.inl Ad) (.cons (.inr (.inr (.inr ⟨.inl rfl,?_,?_,?_,?_⟩))) .nil)<;>simp only<;>omega
  .rename_i m1;rw[if_neg m1]at h1 h2;refine .cons (.inl Ad) (.cons (.inr Ad) (.cons (.inr (.inr (.inr ⟨.inl rfl,?_,?_,?_,?_⟩))) .nil))<;>simp only<;>omega
def qz2{t:GTest}{n:Nat}(ht:TstOk t)(h:p+qb0 t<n):qcG (qiX t p) p n:=by
 have h0:=ht.a0;have h6:=ht.a1;unfold qiX;have e:qb0 t=qb9 (loW t.mask)+qb9 (hiW t.mask)+1:=rfl;refine .app (.app (qqY Ac Ac Ac h) ?_) ?_
 .rw[qci];grind[qqY]
 .exact .cons (.inr Ad) .nil
def qoU:∀{ts:List GTest}{a:Int}{p n:Nat},(∀t ∈ ts,TstOk t)->p+qdi ts<n->qcG (qcy ts a p) p n
 | [],_,_,_,_,_=>.cons (.inr Ad) .nil
 | t::ts,a,p,n,ht,h=>by
  unfold qdi at h;unfold qcy;refine .app (qz2 Ad Ac) ?_;rw[qfN]
  by_cases hm:t.mask=0
  .rw[if_pos hm];exact .nil
  .rw[if_neg hm]at h ⊢;exact qoU Ad Ac
theorem qoL:∀{rs:List GRule}{p n:Nat},(∀r ∈ rs,∀t ∈ r.tests,TstOk t)->p+zy rs<n->qcG (xj rs p) p n
 | [],_,_,_,_=>.nil
 | r::rs,p,n,ht,h=>by
  have e:zy (r::rs)=qpQ r+zy rs:=by simp[zy]
  unfold xj;refine .app (qoU Ad (by have:qdi r.tests=qpQ r:=rfl;exact Ac)) ?_;rw[qnq];exact qoL Ah Ac
end
structure FilG (x:GFil):Prop where
 a0:0<=x.arch
 a6:x.arch<6
 n:x.rules.length<=400
 t32:∀r ∈ x.rules,r.tests.length<=32
 ts:∀r ∈ x.rules,∀t ∈ r.tests,TstG t
 nr:∀r ∈ x.rules,0<=r.nr/\r.nr<4294967296
 up:∃o,o=(none:Option GRule)/\upR o x.rules=true
def qvZ{t:GTest}(h:wM t=true)(hm:0<=t.mask/\t.mask<18446744073709551616)(hv:0<=t.val/\t.val<18446744073709551616):TstG t:=by
 have ha:=qoT h;simp only[wM,zzB,zzb]at h;exact⟨⟨ha.1,ha.2,hm.1,hm.2,hv.1,hv.2⟩,qBl hv h.1.2⟩
def FilG.of{x:GFil}(hK:jr x=true)(hx:FilR x):FilG x:=by
 simp only[jr,zzB,zzb]at hK;obtain⟨⟨⟨⟨k1,k2⟩,k3⟩,k4⟩,k5⟩:=hK;have hr:=qh4 k5;refine⟨k1,k2,k3,λr h=>?_,λr h t ht=>?_,hx.nr,none,rfl,k5⟩
 .have:=hr r h;simp only[qaZ,zzB,zzb]at this;exact Ac
 .have:=hr r h;simp only[qaZ,zzB,zzy]at this;have q:=hx.ts r h t ht
  simp_all[qvZ]
def qoY:∀{rs:List GRule}{o:Option GRule}{k:Nat}{a:Int},upR o rs=true->(∀r ∈ rs,0<=r.nr/\r.nr<4294967296)->(match o with|none=>a=0|some b=>a=b.nr+1)->Ups (rs.mapIdx λi r=>(r.nr,i+k)) a
 | [],_,_,_,_,_,_=>by simp[Ups]
 | r::rs,o,k,a,h,hn,ha=>by
  simp only[upR,zzB]at h;obtain⟨⟨_,h1⟩,h2⟩:=h;rw[List.mapIdx_cons];have hr:=hn r Ad;refine⟨?_,hr.2,?_⟩
  .exact Ah
  .have:=qoY (o:=some r) (k:=k+1) (a:=r.nr+1) h2 Ad rfl
   exact Ah
def FilG.ups{x:GFil}(h:FilG x):Ups (qQ x.rules) 0:=by
 obtain⟨o,rfl,hu⟩:=h.up;exact qoY hu h.nr rfl
def qoX:∀{l:List (Int×Nat)}{a:Int},Ups l a->qzJ l
 | [],_,_,i,x,y,h,_=>Ah
 | [x],_,_,i,y,z,h1,h2=>Ah
 | x::y::l,a,⟨h1,h2,h3⟩,i,u,v,hu,hv=>by
  cases i with
  | zero=>simp at hu hv;subst hu hv;have:=h3.1;exact Ac
  | succ i=>exact qoX h3 i u v Ad Ad
section
variable {x:GFil}
def FilG.spans(h:FilG x):xv (xd (pcs 0 (qQ x.rules) 0)) 0 4294967296/\(∀(i:Nat) r,x.rules[i]?=some r->Cov (xd (pcs 0 (qQ x.rules) 0)) r.nr (i+1))/\(∀n:Int,0<=n->n<4294967296->(∀r ∈ x.rules,r.nr≠n)->Cov (xd (pcs 0 (qQ x.rules) 0)) n 0) /\
  (∀s ∈ xd (pcs 0 (qQ x.rules) 0),s.way<x.rules.length+1)/\(xd (pcs 0 (qQ x.rules) 0)).length<=2*x.rules.length+1:=by
 obtain⟨c1,c2,c3⟩:=qoE (o:=0) h.ups Ac Ac;obtain⟨f1,f2⟩:=qmv (l:=[]) (a:=0) rfl c1
 have hw:∀y ∈ qQ x.rules,y.2<x.rules.length+1:=λy hy=>by
  grind[List.getElem?_of_mem,qdD]
 obtain⟨g1,g2⟩:=qoe (m:=x.rules.length+1) (k:=pcs 0 (qQ x.rules) 0) (l:=[]) Ad (qrs Ac hw);have hl:=qtK (o:=0) (l:=qQ x.rules) (a:=0);refine⟨f1,λi r hr=>?_,λn h0 h1 hn=>?_,g1,?_⟩
 .have hm:(r.nr,i+1) ∈ qQ x.rules:=zzM (i:=i) (by rw[qdD,hr];rfl);exact f2 _ _ (.inr (c2 _ hm))
 .refine f2 _ _ (.inr (c3 n h0 h1 λy hy=>?_))
  grind[List.getElem?_of_mem,qdD]
 .rw[qcw]at hl;simp only[List.length_nil]at g2;show(List.foldl jV [] (pcs 0 (qQ x.rules) 0)).length<=_;exact Ac
def FilG.pos(h:FilG x):0<(xd (pcs 0 (qQ x.rules) 0)).length:=by
 obtain⟨c,_⟩:=h.spans;rcases Nat.eq_zero_or_pos (xd (pcs 0 (qQ x.rules) 0)).length with h0|h0
 .rw[List.eq_nil_of_length_eq_zero h0]at c;simp[xv]at c
 exact Ac
def FilG.tlen(h:FilG x):(qW x).length+1=2*(xd (pcs 0 (qQ x.rules) 0)).length:=qdG _ _ 0 (zzL _) h.pos
def qnY(n:Nat):∀(l:List Sp) (a:Nat),l.length<=n->0<l.length->xC (zV l a)+1=l.length:=by
 induction n with
 | zero=>exact Ac
 | succ n ih =>
  intro l a h1 h2;rw[zV]
  by_cases hk:l.length / 2=0
  .rw[dif_pos hk];simp[xC];exact Ac
  .rw[dif_neg hk];have e1:=ih (l.take (l.length / 2)) (a+1) (by simp;exact Ac) (by simp;exact Ac);have e2:=ih (l.drop (l.length / 2)) (a+1+(zV (l.take (l.length / 2)) (a+1)).length) (by simp;exact Ac) (by simp;exact Ac);simp only[xC,List.countP_cons,List.countP_append]at e1 e2 ⊢
   exact Ah
def FilG.dfl(h:FilG x):wq x<=4+max 1 (2*x.rules.length)/\(qW x).length<=4*x.rules.length+1:=by
 have ha:=qnY _ (xd (pcs 0 (qQ x.rules) 0)) 0 (zzL _) h.pos;have ht:=h.tlen;have hl:=h.spans.2.2.2.2;have ho:=qtI (a:=x.arch);have e:xC (qW x)+1=(xd (pcs 0 (qQ x.rules) 0)).length:=ha
 have hj:jaN (qW x)+xC (qW x)<=max 1 (2*x.rules.length):=by
  have hj1:jaN (qW x)<=1:=by cases qW x with
   | nil=>simp[jaN]
   | cons n T=>simp only[jaN];split<;>omega
  have hj2:2<=(xd (pcs 0 (qQ x.rules) 0)).length->jaN (qW x)=0:=λh2=>by
   unfold qW;rw[zV,dif_neg Ac];rfl
  exact Ac
 unfold wq;exact Ac
def FilG.tne(h:FilG x):qW x≠[]:=λe=>by have:=h.tlen;rw[e]at this;exact Ah
def FilG.nodes(h:FilG x):∀nd ∈ qW x,NdOk (x.rules.length+1) (qW x).length nd:=λnd hnd=>by
 obtain⟨q1,q2,q3,q4⟩:=qDD _ _ 0 (zzL _) h.pos h.spans.2.2.2.1 nd hnd;rw[Nat.zero_add]at q3 q4;exact⟨q1,q3,q4⟩
end
section
variable {x:GFil}
def qnC{j:Nat}:wq x<=jo x j/\jo x j<=jm x:=by
 unfold jo jm;have:=qlE (rs:=x.rules) (i:=j-1);exact Fq
def qHm{a:Int}{F n:Nat}(h1:4<n)(h2:4<=F)(h3:F<n):qcG (qbc a 0 F) 0 n:=by
 unfold qbc;refine .app (.cons (.inl Ad) (.cons (.inr (.inr (.inr ⟨.inl rfl,?_,?_,?_,?_⟩))) (.cons (.inl Ad) .nil))) ?_
 .exact Ad
 .exact Ah
 .exact Ah
 .exact Ac
 .show qcG _ (0+3) n;split
  .exact Eo
  .split
   .exact Eo
   .exact .nil
def qwJ{FW:Nat->Nat}{T:List Nd}{b n:Nat}(hF:∀j,b+xC T<=FW j/\FW j<n)(hfw:∀(i:Nat) nd,T[i]?=some nd->nd.leaf=false->i<nd.less/\i<nd.more/\nd.less<T.length/\nd.more<T.length)(hbn:b+xC T<n) :
  ∀(u:List Nd) (k:Nat),T.drop k=u->qcG (u.flatMap (qk2 FW T b)) (b+xC (T.take k)) n
 | [],_,_=>.nil
 | nd::u,k,h=>by
  have hk:T[k]?=some nd:=by rw[<- List.head?_drop,h];rfl
  have hu:T.drop (k+1)=u:=by rw[<- List.tail_drop,h];rfl
  have ih:=qwJ hF hfw hbn u (k+1) hu;rw[qml hk]at ih;rw[zzv];cases hl:nd.leaf with
  | true =>
   have e:qk2 FW T b nd=[]:=by simp[qk2,hl]
   rw[hl]at ih;rw[e];exact Ad
  | false =>
   have e:qk2 FW T b nd=[⟨53,nd.at',plc FW T b nd.more,plc FW T b nd.less⟩]:=by simp[qk2,hl]
   rw[hl]at ih;simp only[Bool.false_eq_true,if_false]at ih ⊢;rw[e,List.singleton_append]
   have key:∀j,k<j->j<T.length->b+xC (T.take k)<plc FW T b j/\plc FW T b j<n:=λj h1 h2=>by
    have h3:xC (T.take (k+1))<=xC (T.take j):=qmk h1
    have h4:xC (T.take j)<=xC T:=by
     have:=qmk (T:=T) (i:=j) (j:=T.length) Ac;rwa [zz0]at this
    rw[qml hk,hl]at h3;simp only[Bool.false_eq_true,if_false]at h3;unfold plc;rw[zzE h2]
    exact Ah
   obtain⟨f1,f2,f3,f4⟩:=hfw k nd hk hl;obtain⟨m1,m2⟩:=key nd.more f2 f4;obtain⟨l1,l2⟩:=key nd.less f1 f3;exact .cons (.inr (.inr (.inr ⟨.inr (.inr (.inl rfl)),m1,m2,l1,l2⟩))) (by rw[Nat.add_assoc];exact ih)
def FilG.fwd(h:FilG x):∀(i:Nat) nd,(qW x)[i]?=some nd->nd.leaf=false->i<nd.less/\i<nd.more/\nd.less<(qW x).length/\nd.more<(qW x).length:=λi nd hi hl=>by
 obtain⟨q1,q2⟩:=qz7 _ _ 0 (zzL _) h.pos i nd hi hl;have:=h.nodes nd Ah;exact⟨Ac,Ac,this.less,this.more⟩
def qxs(h:FilG x):qcG (zp x) 0 (jm x+1):=by
 have hd:wq x=wm x.arch+(jaN (qW x)+xC (qW x)):=rfl;have hN:jm x=wq x+1+zy x.rules:=rfl;have ho:3<=wm x.arch/\wm x.arch<=4:=by unfold wm;exact Ah
 have hpos:0<jaN (qW x)+xC (qW x):=by
  have ha:=qnY _ (xd (pcs 0 (qQ x.rules) 0)) 0 (zzL _) h.pos;have e:xC (qW x)+1=(xd (pcs 0 (qQ x.rules) 0)).length:=ha
  by_cases h2:2<=(xd (pcs 0 (qQ x.rules) 0)).length
  .exact Ac
  .have hj:jaN (qW x)=1:=by unfold qW;rw[zV,dif_pos (by have:=h.pos;exact Ac)];rfl
   exact Ac
 have ht:∀r ∈ x.rules,∀t ∈ r.tests,TstOk t:=by grind[TstG.ok,FilG.ts]
 unfold zp;refine .app (.app (.app (.app (qHm Ac Ac Ac) ?_) ?_) ?_) ?_
 .rw[qay,Nat.zero_add];unfold xL;refine .app ?_ ?_
  .cases hT:qW x with
   | nil=>exact .nil
   | cons nd T =>
    simp only[jaE];split
    .rename_i hl;rw[hT]at hd;simp only[jaN,if_pos hl]at hd;have:=(qnC (x:=x) (j:=nd.way)).1;have:=(qnC (x:=x) (j:=nd.way)).2;exact .cons (.inr (.inr (.inl ⟨rfl,rfl,rfl,Ah,Ah⟩))) .nil
    .exact .nil
  .rw[qpt];have:=qwJ (FW:=jo x) (T:=qW x) (b:=wm x.arch+jaN (qW x)) (n:=jm x+1) (λj=>by have:=qnC (x:=x) (j:=j);exact Ac) h.fwd Ac (qW x) 0 rfl
   unfold brE;simpa[xC]using this
 .refine .cons (.inr Ad) .nil
 .have e:0+(qbc x.arch 0 (jm x)++xL (jo x) (qW x) (wm x.arch)++[(⟨6,x.dflt,0,0⟩:Sy)]).length=wq x+1:=by
   simp only[zzP,qay,qar,List.length_singleton];unfold wq;exact Ac
  rw[e]
  grind[qoL]
 .refine .cons (.inr Ad) .nil
def FilG.rN(h:FilG x):zy x.rules<=x.rules.length*225:=qk8 h.t32
def qg6(h:FilG x):MayL (zp x):=by
 have hl:=qn8 (x:=x);have hd:=h.dfl.1;have hr:=h.rN;have hn:=h.n;have hN:jm x=wq x+1+zy x.rules:=rfl;refine⟨Ac,Ac,⟨⟨6,2147418112,0,0⟩,?_,rfl⟩,λj s hj=>?_⟩
 .rw[hl]
  have e:jm x+1-1=(qbc x.arch 0 (jm x)++xL (jo x) (qW x) (wm x.arch)++[(⟨6,x.dflt,0,0⟩:Sy)]++xj x.rules (wq x+1)).length:=by
   simp only[zzP,qay,qar,List.length_singleton,qbf];unfold jm wq;exact Ac
  rw[e];unfold zp;simp
 .have:=qxs h j s hj;rw[hl,Nat.zero_add]at *;exact Ac
end
def qtl(a:Int)(d:GData):Prop:=d.arch=qb7 a/\(a=0->xK .u32 d.nr 1073741824=0)/\(a=2->xK .u32 d.nr 1073741824≠0)
def qzd{a:Int}(h0:0<=a)(h6:a<6)(d:GData):((ofM d.arch d.nr).2=false\/(ofM d.arch d.nr).1≠a)↔¬qtl a d:=by
 unfold qtl ofM;generalize d.arch=t;generalize xK .u32 d.nr 1073741824=z;have ha:a=0\/a=1\/a=2\/a=3\/a=4\/a=5:=Ac
 have e:∀c:Int,xH (λx:List UInt8×Int=>decide (x.2=t)) zO 0=c↔(if t=3221225534 then 0 else if t=1073741827 then 1 else if t=1073741864 then 3 else if t=3221225655 then 4 else if t=3221225715 then 5 else -1)=c:=by
  intro c
  have:xH (λx:List UInt8×Int=>decide (x.2=t)) zO 0=(if t=3221225534 then 0 else if t=1073741827 then 1 else if t=1073741864 then 3 else if t=3221225655 then 4 else if t=3221225715 then 5 else -1):=by
   simp only[zO,xH,zzb]
   exact Ah
  rw[this]
 have e0:=(e _).2 rfl;rw[e0];rcases ha with rfl|rfl|rfl|rfl|rfl|rfl
 all_goals
  simp only[qb7,zO]
  by_cases h1:t=3221225534
  .by_cases hz:z=0<;>simp[h1,hz]
  by_cases h2:t=1073741827
  .simp[h2]
  by_cases h3:t=1073741864
  .simp[h3]
  by_cases h4:t=3221225655
  .simp[h4]
  by_cases h5:t=3221225715
  .simp[h5]
  simp[h1,h2,h3,h4,h5]
section
variable {R:List Sy}{d:GData}{r:Int}
def qHl{a:Int}{N:Nat}(h0:0<=a)(h6:a<6)(hd:DatOk d)(h:AtL R 0 (qbc a 0 N))(h1:qtl a d->Ev R d (wm a) d.nr r)(h2:¬qtl a d->EvA R d N r):EvA R d 0 r:=by
 intro b;unfold qbc at h;obtain⟨g,h3⟩:=h.app;obtain⟨g1,g⟩:=g.hd;obtain⟨g2,g⟩:=g.hd;obtain⟨g3,_⟩:=g.hd;have w4:wdD d 4=d.arch:=rfl;have w0:wdD d 0=d.nr:=rfl;refine .ld 0 b r _ g1 rfl (.jc _ _ r _ g2 (.inl rfl) ?_);simp only[qbI,w4]
 by_cases ht:d.arch=qb7 a
 .rw[if_pos Ah];refine .ld _ _ r _ g3 rfl ?_;simp only[w0];have h3:AtL R 3 _:=h3
  have hz:∀z:Int,(0<xK .u32 d.nr 1073741824)↔xK .u32 d.nr 1073741824≠0:=λ_=>by
   obtain⟨n,e⟩:=Int.eq_ofNat_of_zero_le hd.nr0;have hn:=hd.nr1;have:=qdJ (a:=n) (b:=1073741824) Ac Af;rw[<- e]at this;rw[show((1073741824:Nat):Int)=1073741824 from rfl]at this
   rw[this];exact Ac
  by_cases a0:a=0
  .rw[if_pos a0]at h3;have hoN:wm a=4:=by simp[wm,a0]
   rw[hoN]at h1;refine .jc _ _ r _ h3.hd.1 (.inr (.inr (.inr rfl))) ?_;simp only[qbI]
   by_cases hb:xK .u32 d.nr 1073741824=0
   .have e:¬(0:Int)<xK .u32 d.nr 1073741824:=Ac
    rw[if_neg Ah];exact h1 ⟨ht,λ_=>hb,λh=>Ac⟩
   .have e:=(hz 0).2 hb;rw[if_pos Hm];exact h2 (λq=>hb (q.2.1 a0)) _
  .rw[if_neg a0]at h3
   by_cases a2:a=2
   .rw[if_pos a2]at h3;have hoN:wm a=4:=by simp[wm,a2]
    rw[hoN]at h1;refine .jc _ _ r _ h3.hd.1 (.inr (.inr (.inr rfl))) ?_;simp only[qbI]
    by_cases hb:xK .u32 d.nr 1073741824=0
    .rw[if_neg Ah];exact h2 (λq=>q.2.2 a2 hb) _
    .have e:=(hz 0).2 hb;rw[if_pos Hm];exact h1 ⟨ht,λh=>absurd h a0,λ_=>hb⟩
   .have hoN:wm a=3:=by simp[wm,a0,a2]
    rw[hoN]at h1;exact h1 ⟨ht,λh=>absurd h a0,λh=>absurd h a2⟩
 .rw[if_neg Ah];exact h2 (λq=>ht q.1) _
def qoK:∀{rs:List GRule}{p:Nat}{i:Nat}{q:GRule},AtL R p (xj rs p)->rs[i]?=some q->AtL R (p+zy (rs.take i)) (qvR q (p+zy (rs.take i)))
 | [],_,_,_,_,h=>Ah
 | y::rs,p,i,q,h,hi=>by
  unfold xj at h;obtain⟨g1,g2⟩:=h.app;rw[qnq]at g2;cases i with
  | zero=>simp at hi;subst hi;simpa[zy]using g1
  | succ i =>
   have:=qoK g2 (by simpa using hi);simpa[zy,Nat.add_assoc]using this
def qmz{x:GFil}:qlG x d=if(ofM d.arch d.nr).2=false\/(ofM d.arch d.nr).1≠x.arch then 2147418112 else match x.rules.find? (λr=>decide (r.nr=d.nr))with|none=>x.dflt|some r=>fnd (λt=>qcj t d) r.act r.tests:=by
 unfold qlG fnd;rfl
def qs1{x:GFil}(h:FilG x)(hd:DatOk d):EvA (zp x) d 0 (qlG x d):=by
 have hR:=AtL.self (R:=zp x);have hR0:AtL (zp x) 0 (zp x):=hR;unfold zp at hR;obtain⟨hR,hA5⟩:=hR.app;obtain⟨hR,hA4⟩:=hR.app;obtain⟨hR,hA3⟩:=hR.app;obtain⟨hA1,hA2⟩:=hR.app;rw[show(qbc x.arch 0 (jm x)++xL (jo x) (qW x) (wm x.arch)++[(⟨6,x.dflt,0,0⟩:Sy)]++xj x.rules (wq x+1)++[(⟨6,2147418112,0,0⟩:Sy)])=zp x from rfl]at hA1 hA2 hA3 hA4 hA5
 have e3:0+(qbc x.arch 0 (jm x)++xL (jo x) (qW x) (wm x.arch)).length=wq x:=by simp only[zzP,qay,qar];unfold wq;exact Ac
 have e4:0+(qbc x.arch 0 (jm x)++xL (jo x) (qW x) (wm x.arch)++[(⟨6,x.dflt,0,0⟩:Sy)]).length=wq x+1:=Ah
 have e5:0+(qbc x.arch 0 (jm x)++xL (jo x) (qW x) (wm x.arch)++[(⟨6,x.dflt,0,0⟩:Sy)]++xj x.rules (wq x+1)).length=jm x:=by simp only[zzP,qay,qar,List.length_singleton,qbf];unfold jm wq;exact Ac
 rw[qay,Nat.zero_add]at hA2;rw[e3]at hA3;rw[e4]at hA4;rw[e5]at hA5;rw[qmz];refine qHl h.a0 h.a6 hd hA1 (λhown=>?_) (λhown=>?_)
 .rw[if_neg (λq=>(qzd h.a0 h.a6 d).1 q hown)]
  obtain⟨c1,c2,c3,_,_⟩:=h.spans
  -- the code of a way
  have way:∀w,Cov (xd (pcs 0 (qQ x.rules) 0)) d.nr w->Ev (zp x) d (jo x w) d.nr (match x.rules.find? (λr=>decide (r.nr=d.nr))with|none=>x.dflt|some r=>fnd (λt=>qcj t d) r.act r.tests)->Ev (zp x) d (wm x.arch) d.nr (match x.rules.find? (λr=>decide (r.nr=d.nr))with|none=>x.dflt|some r=>fnd (λt=>qcj t d) r.act r.tests):=by
   intro w hw he;unfold xL at hA2;obtain⟨j1,j2⟩:=hA2.app
   have ht:=qDC (T:=qW x) (FW:=jo x) (b:=wm x.arch+jaN (qW x)) (n:=d.nr) (Q:=λi=>Ev (zp x) d i d.nr (match x.rules.find? (λr=>decide (r.nr=d.nr))with|none=>x.dflt|some r=>fnd (λt=>qcj t d) r.act r.tests)) (λi nd hi hl hq=>by
    have hp:plc (jo x) (qW x) (wm x.arch+jaN (qW x)) i=wm x.arch+jaN (qW x)+xC ((qW x).take i):=by unfold plc;rw[hi];simp[hl]
    have hg:=j2 _ _ (qAZ (FW:=jo x) (b:=wm x.arch+(jaE (jo x) (qW x)).length) hi hl);rw[qpt]at hg;rw[hp];refine .jc _ _ _ _ hg (.inr (.inr (.inl rfl))) ?_;simp only[qbI]
    exact Ad) _ (xd (pcs 0 (qQ x.rules) 0)) 0 0 4294967296 (zzL _) h.pos c1 (λj nd hj=>by rw[Nat.zero_add];exact hj) w hw he
   cases hT:qW x with
   | nil=>simp_all[FilG.tne]
   | cons nd T =>
    rw[hT]at ht j1;cases hl:nd.leaf with
    | true =>
     simp only[jaE,if_pos hl]at j1;refine .ja _ _ _ _ j1.hd.1 rfl ?_;simp only[plc,zzn,if_pos hl]at ht;exact ht
    | false =>
     simp only[plc,zzn,hl,Bool.false_eq_true,if_false,jaN,List.take_zero,xC,List.countP_nil,Nat.add_zero]at ht;exact ht
  cases hf:x.rules.find? (λr=>decide (r.nr=d.nr))with
  | none =>
   rw[hf]at way
   have hnone:∀q ∈ x.rules,q.nr≠d.nr:=λq hq he=>by
    have:=List.find?_eq_none.1 hf q hq;exact Ad
   refine way 0 (by grind[DatOk.nr0,DatOk.nr1]) ?_;exact Ev.rt (wq x) d.nr _ hA3.hd.1 rfl
  | some q =>
   rw[hf]at way;have hqm:=List.mem_of_find?_eq_some hf;have hqn:q.nr=d.nr:=by have:=List.find?_some hf;exact Ad
   obtain⟨i,hi⟩:=List.getElem?_of_mem hqm;have hc:=c2 i q hi;rw[hqn]at hc;refine way (i+1) hc ?_;have ha:=qoK hA4 hi;have hw:jo x (i+1)=wq x+1+zy (x.rules.take i):=by simp[jo]
   rw[hw];exact qrN hd (h.ts q hqm) ha _
 .rw[if_pos ((qzd h.a0 h.a6 d).2 hown)];intro a;exact Ev.rt (jm x) a _ hA5.hd.1 rfl
end
def qag{c:Int}(h:qem c):qm c=4/\c≠5/\c≠6:=by
 rcases h with rfl|rfl|rfl|rfl<;>decide
def qfj:qm 32=1/\qm 84=3/\qm 6=5/\qm 5=4:=Af
section
variable {l R:List Sy}{d:GData}{r:Int}
def qfC.ja{s:Sy}{j n:Nat}(h:qfC s j n)(h5:s.code=5):s.k=0/\s.el=0/\j<s.th/\s.th<n:=by
 rcases h with⟨q,_⟩|⟨q,_⟩|⟨_,q⟩|⟨q,_⟩
 all_goals simp_all[qag]
def qfC.jc{s:Sy}{j n:Nat}(h:qfC s j n)(ha:qem s.code):j<s.th/\s.th<n/\j<s.el/\s.el<n:=by
 have h5:=qag ha;unfold qem at ha;rcases h with⟨q,_⟩|⟨q,_⟩|⟨q,_⟩|⟨_,q⟩
 all_goals omega
def qfC.jmp{s:Sy}{j n:Nat}(h:qfC s j n)(hj:qbx s):s.code=5\/qem s.code:=by
 unfold qbx at hj;obtain⟨c1,c2,c3,c4⟩:=qfj;rcases h with⟨q,_⟩|⟨q,_⟩|⟨q,_⟩|⟨q,_⟩
 all_goals grind
def qfC.ask{s:Sy}{j n:Nat}(h:qfC s j n)(hj:qc5 s):qem s.code:=(h.jmp hj.1).resolve_left hj.2
def MayL.in(h:MayL l):qnU l:=by
 intro x hx j hj;obtain⟨i,hi⟩:=List.getElem?_of_mem hx;have hm:=h.all i x hi;rcases hj with⟨q,rfl⟩|⟨q,rfl⟩
 .rcases hm.jmp q with q|q
  .exact (hm.ja q).2.2.2
  .exact (hm.jc q).2.1
 .exact (hm.jc (hm.ask q)).2.2.2
def MayL.on(h:MayL l):qDJ l:=by
 intro j x hx h6 h4;have hj:=(zzS.1 hx).1
 grind[MayL.last]
def MayL.hin(h:MayL l):∀x ∈ l,∀j:Nat,(x.code=5\/qm x.code=4)/\j=x.th\/(qm x.code=4/\x.code≠5)/\j=x.el->j<l.length:=by
 intro x hx j hj;refine h.in x hx j ?_
 rcases hj with⟨q,e⟩|q
 .refine .inl ⟨?_,e⟩;rcases q with q|q
  .unfold qbx;rw[q];exact qfj.2.2.2
  .exact q
 .exact .inr q
def Ev.at6{p:Nat}{a:Int}{s:Sy}(h:Ev R d p a r)(hs:R[p]?=some s)(h6:s.code=6):r=s.k:=by
 cases h with
 | ld _ _ _ x hx hc=>rw[hs]at hx;exact Ad
 | an _ _ _ x hx hc=>rw[hs]at hx;exact Ad
 | rt _ _ x hx hc=>rw[hs]at hx;exact Ad
 | ja _ _ _ x hx hc=>rw[hs]at hx;exact Ad
 | jc _ _ _ x hx hc=>rw[hs]at hx;simp_all[qag]
theorem Ev.at5{p:Nat}{a:Int}{s:Sy}(h:Ev R d p a r)(hs:R[p]?=some s)(h5:s.code=5):Ev R d s.th a r:=by
 cases h with
 | ld _ _ _ x hx hc=>rw[hs]at hx;exact Ad
 | an _ _ _ x hx hc=>rw[hs]at hx;exact Ad
 | rt _ _ x hx hc=>rw[hs]at hx;exact Ad
 | ja _ _ _ x hx hc hn=>rw[hs]at hx;exact Ad
 | jc _ _ _ x hx hc=>rw[hs]at hx;simp_all[qag]
theorem wj{to:Nat->Nat}{s:Sy}(h:¬qbx s):qba to s=s:=by
 unfold qba;rw[if_neg h,if_neg (λq=>h q.1)]
def qkk{to:Nat->Nat}{s:Sy}(h:s.code=5):qba to s=⟨s.code,s.k,to s.th,s.el⟩:=by
 have hj:qbx s:=by unfold qbx;rw[h];exact qfj.2.2.2
 unfold qba;rw[if_pos hj,if_neg (λq=>q.2 h)]
def qkl{to:Nat->Nat}{s:Sy}(h:qem s.code):qba to s=⟨s.code,s.k,to s.th,to s.el⟩:=by
 have hj:=qag h;unfold qba;rw[if_pos (show qbx s from hj.1),if_pos (show qc5 s from⟨hj.1,hj.2.1⟩)]
theorem jv{s:Sy}(h:s.code=32\/s.code=84\/s.code=6):¬qbx s:=by
 unfold qbx;rcases h with h|h|h<;>rw[h]<;>decide
theorem qrn{to:Nat->Nat}{s:Sy}{j n:Nat}(h:qfC s j n)(ht:∀q,j<q->q<n->j<to q/\to q<n):qfC (qba to s) j n:=by
 rcases h with q|q|⟨q,q1,q2,q3,q4⟩|⟨q,q1,q2,q3,q4⟩
 .rw[wj (jv (.inl q.1))];exact .inl q
 .rw[wj (jv (.inr q.1))];exact .inr (.inl q)
 .rw[qkk q];obtain⟨t1,t2⟩:=ht _ q3 q4;exact .inr Ad
 .rw[qkl q];obtain⟨t1,t2⟩:=ht _ q1 q2;obtain⟨t3,t4⟩:=ht _ q3 q4;exact .inr Ad
-- shared
theorem qHO(h:MayL l){j:Nat}(hj:j<l.length):j<=qed l j/\qed l j<l.length:=by
 unfold qed;rw[zzE hj];simp only;split
 .rename_i h6;obtain⟨i,y,q1,q2,q3,_⟩:=qkX (zzE hj) h6;rw[q1];exact⟨q2,(zzS.1 q3).1⟩
 exact Ac
theorem qeN{j:Nat}:(qfM l)[j]?=(l[j]?).map (qba (qed l)):=by unfold qfM;rw[zzo]
theorem qme:(qfM l).length=l.length:=by unfold qfM;rw[zzz]
def qkA(h:MayL l):MayL (qfM l):=by
 refine⟨by rw[qme];exact h.pos,by rw[qme];exact h.big,?_,λj s hj=>?_⟩
 all_goals grind[MayL.last,qme,qeN,wj,jv,qrn,MayL.all,qHO]
theorem qt8(h:MayL l){j:Nat}{a:Int}(hj:j<l.length)(he:Ev (qfM l) d j a r):Ev (qfM l) d (qed l j) a r:=by
 unfold qed;rw[zzE hj];simp only;split
 .rename_i h6;obtain⟨i,y,q1,q2,q3,q4,q5⟩:=qkX (zzE hj) h6;rw[q1];have hg:(qfM l)[j]?=some l[j]:=by rw[qeN,zzE hj];simp[wj (jv (.inr (.inr h6)))]
  have hr:=he.at6 hg h6;rw[hr,<- q5];exact Ev.rt i a y (by rw[qeN,q3];simp[wj (jv (.inr (.inr q4)))]) q4
 exact Ac
def qHN(h:MayL l):∀{p:Nat}{a:Int},Ev l d p a r->Ev (qfM l) d p a r:=by
 intro p a he
 induction he with
 | ld p a r s hs hc _ ih=>exact .ld p a r s F2 hc ih
 | an p a r s hs hc _ ih=>exact .an p a r s F2 hc ih
 | rt p a s hs hc=>exact .rt p a s F2 hc
 | ja p a r s hs hc _ ih =>
  have hm:=(h.all p s hs).ja hc;exact .ja p a r ⟨s.code,s.k,qed l s.th,s.el⟩ (by rw[qeN,hs,<- qkk hc];rfl) hc (qt8 h hm.2.2.2 ih)
 | jc p a r s hs hc _ ih =>
  have hm:=(h.all p s hs).jc hc;refine .jc p a r ⟨s.code,s.k,qed l s.th,qed l s.el⟩ (by rw[qeN,hs,<- qkl hc];rfl) hc ?_
  grind[qt8]
-- threaded
def qH6(h:MayL R){j:Nat}(hj:j<R.length):j<=jp R j/\jp R j<R.length:=by
 unfold jp;rw[zzE hj];simp only;split
 .rename_i h5;have:=(h.all j _ Ad).ja h5;exact Ac
 exact Ac
theorem qrO(h:MayL R){i:Nat}{x:Sy}(hx:R[i]?=some x):qfC (qbh R x) i R.length/\((x.code=6)->qbh R x=x):=by
 have hm:=qrn (h.all i x hx) (to:=jp R) λq q1 q2=>by have:=qH6 h q2;exact Ac
 refine⟨?_,λh6=>?_⟩
 .unfold qbh;split
  .rename_i q;have ha:=hm.ask q.1;have:=hm.jc ha;exact .inr Ad
  exact Ac
 .have e:=wj (to:=jp R) (jv (s:=x) (.inr (.inr h6)));unfold qbh;rw[e,if_neg (λq=>jv (.inr (.inr h6)) q.1.1)]
theorem qz5(h:MayL R){i:Nat}{x:Sy}(hx:R[i]?=some x):MayL (R.set i (qbh R x)):=by
 have hi:=(zzS.1 hx).1;refine⟨by rw[List.length_set];exact h.pos,by rw[List.length_set];exact h.big,?_,λj s hj=>?_⟩
 .obtain⟨s,hs,h6⟩:=h.last;refine⟨s,?_,h6⟩;rw[List.length_set,List.getElem?_set]
  by_cases e:i=R.length-1
  .rw[<- e,hx]at hs;cases hs;rw[if_pos e,if_pos Ac,(qrO h hx).2 h6]
  .rw[if_neg e];exact hs
 grind[qrO,MayL.all]
theorem qDy(h:MayL R){i:Nat}{x:Sy}(hx:R[i]?=some x):∀{p:Nat}{a:Int},Ev R d p a r->Ev (R.set i (qbh R x)) d p a r:=by
 have hi:=(zzS.1 hx).1;have g:∀{p:Nat}{s:Sy},R[p]?=some s->p≠i->(R.set i (qbh R x))[p]?=some s:=λhs hp=>by rw[List.getElem?_set,if_neg (Ne.symm hp)];exact hs
 have gi:(R.set i (qbh R x))[i]?=some (qbh R x):=by rw[List.getElem?_set,if_pos rfl,if_pos hi]
 have hop:∀{t:Nat}{a:Int},i<t->t<R.length->Ev (R.set i (qbh R x)) d t a r->Ev (R.set i (qbh R x)) d (jp R t) a r:=λ{t a} h1 h2 he=>by
  unfold jp;rw[zzE h2]
  grind[Ev.at5]
 have gn:¬qbx x->(R.set i (qbh R x))[i]?=some x:=λq=>by
  rw[gi];unfold qbh;rw[wj q,if_neg (λz=>q z.1.1)]
 intro p a he
 induction he with
 | ld p a r s hs hc _ ih =>
  by_cases e:p=i
  .subst e;rw[hx]at hs;cases hs;exact .ld _ _ _ x (gn (jv (.inl hc))) hc (ih hop)
  .exact .ld _ _ _ s (g hs e) hc (ih hop)
 | an p a r s hs hc _ ih =>
  by_cases e:p=i
  .subst e;rw[hx]at hs;cases hs;exact .an _ _ _ x (gn (jv (.inr (.inl hc)))) hc (ih hop)
  .exact .an _ _ _ s (g hs e) hc (ih hop)
 | rt p a s hs hc =>
  by_cases e:p=i
  .subst e;rw[hx]at hs;cases hs;exact .rt _ _ x (gn (jv (.inr (.inr hc)))) hc
  .exact .rt _ _ s (g hs e) hc
 | ja p a r s hs hc _ ih =>
  by_cases e:p=i
  .subst e;rw[hx]at hs;cases hs;have hm:=(h.all _ _ hx).ja hc
   have e1:qbh R x=⟨x.code,x.k,jp R x.th,x.el⟩:=by
    unfold qbh;rw[qkk hc,if_neg (λz=>z.1.2 hc)]
   have gi2:=gi.trans (congrArg some e1);exact .ja _ _ _ _ gi2 hc Ad
  .exact .ja _ _ _ s (g hs e) hc (ih hop)
 | jc p a r s hs hc _ ih =>
  by_cases e:p=i
  .subst e;rw[hx]at hs;cases hs;have hm:=(h.all _ _ hx).jc hc;have ih:=ih hop
   have he:Ev (R.set p (qbh R x)) d (if qbI x.code a x.k=true then jp R x.th else jp R x.el) a r:=Ah
   have e0:=qkl (to:=jp R) hc
   by_cases eq:jp R x.th=jp R x.el
   .have e1:qbh R x=⟨5,0,jp R x.th,0⟩:=by
     unfold qbh;rw[e0];exact if_pos ⟨⟨(qag hc).1,(qag hc).2.1⟩,eq⟩
    rw[<- eq,ite_self]at he;exact .ja _ _ _ _ (gi.trans (congrArg some e1)) rfl he
   .have e1:qbh R x=⟨x.code,x.k,jp R x.th,jp R x.el⟩:=by
     unfold qbh;rw[e0];exact Ad
    exact .jc _ _ _ _ (gi.trans (congrArg some e1)) hc he
  .exact .jc _ _ _ s (g hs e) hc (ih hop)
theorem qrP:∀{m j:Nat},j+m<l.length->(qgi l m)[j]?=l[j]?
 | 0,_,_=>rfl
 | m+1,j,h=>by
  unfold qgi;split
  .rw[List.getElem?_set,if_neg Ac];exact qrP Ac
  exact Ah
def qpW(h:MayL l):∀m,m<=l.length->MayL (qgi l m)/\∀{p:Nat}{a:Int},Ev l d p a r->Ev (qgi l m) d p a r
 | 0,_=>⟨h,λe=>e⟩
 | m+1,hm=>by
  obtain⟨h1,h2⟩:=qpW h m Ac;have hx:l[l.length-(m+1)]?=some l[l.length-(m+1)]:=Ad
  unfold qgi;rw[hx]
  grind[qrP,qz5,qDy]
def qmh(h:MayL l):MayL (qpV l):=(qpW (d:=⟨0,0,0,0,0,0,0,0,0⟩) (r:=0) h _ (zzL _)).1
def qH5(h:MayL l){p:Nat}{a:Int}:Ev l d p a r->Ev (qpV l) d p a r:=(qpW h _ (zzL _)).2
theorem qDz:(qpV l).length=l.length:=qfO
end
def Suc(x:Sy)(j t:Nat):Prop:=(x.code≠6/\¬qbx x/\t=j+1)\/(qbx x/\t=x.th)\/(qc5 x/\t=x.el)
def qHL{A:List Bool}{i:Nat}(h:i<A.length):(A.set i true)[i]?=some true:=by
 rw[List.getElem?_set,if_pos rfl,if_pos h]
def qzP{A:List Bool}{i j:Nat}(h:j≠i):(A.set i true)[j]?=A[j]?:=by
 rw[List.getElem?_set,if_neg (Ne.symm h)]
theorem qnW{A:List Bool}{j m:Nat}{x:Sy}(h:A[j]?=some true):(qfe A m x)[j]?=some true:=by
 unfold qfe
 exact Ah
def qwk{A:List Bool}{j t:Nat}{x:Sy}(h:A[j]?=some true)(hs:Suc x j t)(ht:t<A.length):(qfe A j x)[t]?=some true:=by
 have h6:x.code≠6:=by
  rcases hs with q|⟨q,_⟩|⟨q,_⟩
  .exact Ac
  .grind[jv]
  .intro e;exact jv (.inr (.inr e)) q.1
 unfold qfe;rw[if_neg Ad];rcases hs with⟨_,q,rfl⟩|⟨q,rfl⟩|⟨q,rfl⟩
 .rw[if_pos (show qm x.code≠4 from q)];exact Ad
 .rw[if_neg (λz:qm x.code≠4=>z q)]
  exact Ah
 .rw[if_neg (λz:qm x.code≠4=>z q.1),if_pos q]
  exact Ad
section
variable {l:List Sy}{d:GData}{r:Int}
def qup(h:MayL l){A:List Bool}{j m:Nat}{x:Sy}(hx:l[m]?=some x)(hj:j<=m):(qfe A m x)[j]?=A[j]?:=by
 unfold qfe;split
 .rfl
 .split
  .exact Ah
  .rename_i q;have hq:qbx x:=Decidable.not_not.1 q;have hm:=h.all m x hx
   have hth:m<x.th:=by
    rcases hm.jmp hq with z|z
    .exact (hm.ja z).2.2.1
    .exact (hm.jc z).1
   split
   .rename_i q2;have:=hm.jc (hm.ask q2);rw[qzP Ac,qzP Ac]
   exact Ah
def qsE(h:MayL l){j t:Nat}{x:Sy}(hx:l[j]?=some x)(hs:Suc x j t):j<t/\t<l.length:=by
 have hm:=h.all j x hx;rcases hs with⟨q1,q2,rfl⟩|⟨q,rfl⟩|⟨q,rfl⟩
 .exact⟨Ac,h.on j x hx q1 q2⟩
 .rcases hm.jmp q with z|z
  .exact (hm.ja z).2.2
  .exact⟨(hm.jc z).1,(hm.jc z).2.1⟩
 .exact (hm.jc (hm.ask q)).2.2
def qp9(h:MayL l):∀m,m<=l.length->∀(j t:Nat) x,j<m->l[j]?=some x->Suc x j t->(wP l m)[j]?=some true->(wP l m)[t]?=some true
 | 0,_,j,t,x,hj,_,_,_=>Ac
 | m+1,hm,j,t,x,hj,hx,hs,ha=>by
  have hy:l[m]?=some l[m]:=Ad
  unfold wP at ha ⊢;rw[hy]at ha ⊢;simp only at ha ⊢;rw[qup h hy Ac]at ha;rcases Nat.lt_or_ge j m with q|q
  .exact qnW (qp9 h m Ac j t x q hx hs ha)
  .have e:j=m:=Ac
   subst e;rw[hy]at hx;cases hx;exact qwk ha hs (by rw[qbz];exact(qsE h hy hs).2)
def qdI(h:MayL l){j t:Nat}{x:Sy}(hx:l[j]?=some x)(hs:Suc x j t)(ha:(zR l)[j]?=some true):(zR l)[t]?=some true :=
 qp9 h _ (zzL _) j t x Ah hx hs ha
def qwl(h:0<l.length):(zR l)[0]?=some true:=by
 have:∀m,(wP l m)[0]?=some true:=by
  intro m
  induction m with
  | zero=>exact qHL Ad
  | succ m ih =>
   unfold wP;grind[qnW]
 exact this _
def qxg{A:List Bool}{i j:Nat}(h:i<=j):xl A i<=xl A j:=by
 unfold xl;have e:A.take i=(A.take j).take i:=by rw[List.take_take,Nat.min_eq_left h]
 rw[e]
 grind[List.take_sublist]
def qmx{A:List Bool}{i j:Nat}(ha:A[i]?=some true)(h:i<j):xl A i<xl A j:=by
 have h1:=qfk ha;have h2:=qxg (A:=A) (i:=i+1) (j:=j) h;rw[if_pos rfl]at h1;exact Ac
def qt3{α:Type}:∀{A:List Bool}{l:List α}{p:Nat}{x:α},A[p]?=some true->l[p]?=some x->(qc0 A l)[xl A p]?=some x
 | [],_,_,_,h,_=>Ah
 | _::_,[],_,_,_,h=>Ah
 | c::A,y::l,0,x,h1,h2=>by
  simp at h1 h2;subst h1 h2;simp[qc0,xl]
 | c::A,y::l,p+1,x,h1,h2=>by
  have:=qt3 (A:=A) (l:=l) (p:=p) (x:=x) Ad Ad;unfold xl at this ⊢;rw[List.take_succ_cons,List.countP_cons];cases c<;>simpa[qc0]using this
def qmc{α:Type}:∀{A:List Bool}{l:List α}{q:Nat}{x:α},(qc0 A l)[q]?=some x->∃p,A[p]?=some true/\l[p]?=some x/\xl A p=q
 | [],_,_,_,h=>by simp[qc0]at h
 | _::_,[],_,_,h=>by simp[qc0]at h
 | c::A,y::l,q,x,h=>by
  cases c with
  | false =>
   obtain⟨p,h1,h2,h3⟩:=qmc (A:=A) (l:=l) (q:=q) (x:=x) (by simpa[qc0]using h);refine⟨p+1,Eb,F0,?_⟩
   unfold xl at h3 ⊢;rw[List.take_succ_cons,List.countP_cons];exact Ad
  | true =>
   cases q with
   | zero=>simp[qc0]at h;subst h;exact⟨0,rfl,rfl,by simp[xl]⟩
   | succ q =>
    obtain⟨p,h1,h2,h3⟩:=qmc (A:=A) (l:=l) (q:=q) (x:=x) (by simpa[qc0]using h);refine⟨p+1,Eb,F0,?_⟩
    unfold xl at h3 ⊢;rw[List.take_succ_cons,List.countP_cons];exact Ad
def qt4{α:Type}:∀{A:List Bool}{l:List α},A.length=l.length->(qc0 A l).length=xl A A.length
 | [],[],_=>rfl
 | [],_::_,h=>Ah
 | _::_,[],h=>Ah
 | c::A,y::l,h=>by
  have:=qt4 (A:=A) (l:=l) Ad;unfold xl at this ⊢;rw[zze,List.take_succ_cons,List.countP_cons];cases c<;>simp[qc0,this]
def ql3:(qhF l).length=xl (zR l) l.length:=by
 unfold qhF;have hA:(zR l).length=l.length:=qbz;rw[qt4 (by rw[zzz,hA]),hA]
theorem qyv:(qhF l).length<=l.length:=by rw[ql3];exact qpk
def qke{p:Nat}{x:Sy}(ha:(zR l)[p]?=some true)(hx:l[p]?=some x):(qhF l)[xl (zR l) p]?=some (qba (xl (zR l)) x) :=
 qt3 ha (by rw[zzo,hx];rfl)
def qCb(h:MayL l):MayL (qhF l):=by
 have hA:(zR l).length=l.length:=qbz;have h0:=qwl h.pos;have hp:0<(qhF l).length:=by rw[ql3];exact Nat.lt_of_le_of_lt (zzu _) (qmx h0 h.pos)
 have idx:∀{q:Nat}{s:Sy},(qhF l)[q]?=some s->∃p x,(zR l)[p]?=some true/\l[p]?=some x/\xl (zR l) p=q/\s=qba (xl (zR l)) x:=λ{q s} hq=>by
  obtain⟨p,h1,h2,h3⟩:=qmc hq;rw[zzo]at h2
  exact Ah
 refine⟨hp,zzg qyv h.big,?_,λj s hj=>?_⟩
 .obtain⟨p,x,q1,q2,q3,q4⟩:=idx (zzE (i:=(qhF l).length-1) Ac);refine⟨_,zzE Ac,?_⟩;rw[q4];show x.code=6;apply Decidable.byContradiction;intro h6
  have hs:∃t,Suc x p t:=by
   by_cases hj:qbx x
   .exact⟨_,.inr (.inl ⟨hj,rfl⟩)⟩
   .exact⟨_,.inl ⟨h6,hj,rfl⟩⟩
  obtain⟨t,ht⟩:=hs;have t1:=qsE h q2 ht;have t2:=qdI h q2 ht q1;have t3:=qmx q1 t1.1;have t4:=qmx t2 t1.2;rw[<- ql3]at t4;exact Ac
 .obtain⟨p,x,q1,q2,q3,rfl⟩:=idx hj;have hm:=h.all p x q2
  have go:∀t,Suc x p t->j<xl (zR l) t/\xl (zR l) t<(qhF l).length:=λt ht=>by
   have t1:=qsE h q2 ht;have t2:=qdI h q2 ht q1;rw[ql3,<- q3];exact⟨qmx q1 t1.1,qmx t2 t1.2⟩
  rcases hm with q|q|⟨q,z1,z2,z3,z4⟩|⟨q,z1,z2,z3,z4⟩
  .rw[wj (jv (.inl q.1))];exact .inl q
  .rw[wj (jv (.inr q.1))];exact .inr (.inl q)
  .have hjm:qbx x:=by unfold qbx;rw[q];exact qfj.2.2.2
   rw[qkk q];obtain⟨t1,t2⟩:=go x.th (.inr Ad);exact .inr Ad
  .have ha:=qag q;rw[qkl q];obtain⟨t1,t2⟩:=go x.th (.inr (.inl ⟨ha.1,rfl⟩));obtain⟨t3,t4⟩:=go x.el (.inr (.inr ⟨⟨ha.1,ha.2.1⟩,rfl⟩));exact .inr Ad
def qGg(h:MayL l):∀{p:Nat}{a:Int},Ev l d p a r->(zR l)[p]?=some true->Ev (qhF l) d (xl (zR l) p) a r:=by
 intro p a he
 induction he with
 | ld p a r s hs hc _ ih =>
  intro ha;have hn:=qdI h hs (t:=p+1) (.inl ⟨Ac,jv (.inl hc),rfl⟩) ha
  have e:=qfk ha;rw[if_pos rfl]at e;have ih:=ih hn;rw[e]at ih;have hg:=qke ha hs;rw[wj (jv (.inl hc))]at hg;exact .ld _ _ _ s hg hc ih
 | an p a r s hs hc _ ih =>
  intro ha;have hn:=qdI h hs (t:=p+1) (.inl ⟨Ac,jv (.inr (.inl hc)),rfl⟩) ha
  have e:=qfk ha;rw[if_pos rfl]at e;have ih:=ih hn;rw[e]at ih;have hg:=qke ha hs;rw[wj (jv (.inr (.inl hc)))]at hg;exact .an _ _ _ s hg hc ih
 | rt p a s hs hc =>
  intro ha;have hg:=qke ha hs;rw[wj (jv (.inr (.inr hc)))]at hg;exact .rt _ _ s hg hc
 | ja p a r s hs hc _ ih =>
  intro ha;have hjm:qbx s:=by unfold qbx;rw[hc];exact qfj.2.2.2
  have hg:=qke ha hs;rw[qkk hc]at hg;exact .ja _ _ _ _ hg hc (ih (qdI h hs (.inr Ad) ha))
 | jc p a r s hs hc _ ih =>
  intro ha;have hk:=qag hc;have h1:=qdI h hs (t:=s.th) (.inr (.inl ⟨hk.1,rfl⟩)) ha;have h2:=qdI h hs (t:=s.el) (.inr (.inr ⟨⟨hk.1,hk.2.1⟩,rfl⟩)) ha;have hg:=qke ha hs;rw[qkl hc]at hg;refine .jc _ _ _ _ hg hc ?_
  exact Ah
theorem ql4(h:MayL l):MayL (qb6 l):=qCb (qmh (qkA h))
theorem qtG:(qb6 l).length<=l.length:=by
 unfold qb6;grind[qyv,qDz,qme]
theorem qzb(h:MayL l){a:Int}(he:Ev l d 0 a r):Ev (qb6 l) d 0 a r:=by
 have h1:=qH5 (qkA h) (qHN h he);have h2:=qGg (qmh (qkA h)) h1 (qwl (qmh (qkA h)).pos);unfold qb6;simpa[xl]using h2
end
def Go1(p:List Ins)(d:GData)(at':Nat)(a r:Int):Prop:=∀(n:Nat) (m:Mac) (bh:Int) (L:List Nat),m.a=a->m.over=false->p.length<at'+n->(runR p d n m at' bh L).1=r/\(runR p d n m at' bh L).2.2.2=0
section
variable {p:List Ins}{d:GData}{q:Nat}{a r k:Int}
def qqh{i:Ins}(h:p[q]?=some i):q<p.length:=Ah
def ql0{i:Ins}(h:p[q]?=some i){m:Mac}{n:Nat}{bh:Int}{L:List Nat}(he:(doR m i d).2.2=0)(ho:(doR m i d).1.over=false) :
  runR p d (n+1) m q bh L=runR p d n (doR m i d).1 (q+1+(doR m i d).2.1.toNat) (if qm i.code=4 then 42 else 46) (L++[q]):=by
 rw[qii,h];exact Ad
def qJY(h:p[q]?=some ⟨32,0,0,k⟩)(hk:k % 4=0/\0<=k/\k<64)(hn:Go1 p d (q+1) (wdD d k) r):Go1 p d q a r:=by
 intro n m bh L ha ho hl;have hq:=qqh h;obtain⟨n,rfl⟩:∃n',n=n'+1:=⟨n-1,Ac⟩
 have e:doR m ⟨32,0,0,k⟩ d=({ m with a:=wdD d k },0,0):=by
  have e1:xf 32=true:=Af
  have e2:qm 32=1:=Af
  simp only[doR,e1,e2,qeF,qhD];simp[hk.1,show¬64<=k from Ac,wdD]
 rw[ql0 h (by rw[e]) Ha,e];exact hn n _ _ _ rfl ho Ac
def qJX(h:p[q]?=some ⟨84,0,0,k⟩)(hn:Go1 p d (q+1) (xK .u32 a k) r):Go1 p d q a r:=by
 intro n m bh L ha ho hl;have hq:=qqh h;obtain⟨n,rfl⟩:∃n',n=n'+1:=⟨n-1,Ac⟩
 have e:doR m ⟨84,0,0,k⟩ d=({ m with a:=xK .u32 a k },0,0):=by
  have e1:xf 84=true:=Af
  have e2:qm 84=3:=Af
  have e3:qaC 84=false:=Af
  simp only[doR,e1,e2,nuM,za,qdr,e3];simp[opM,ha]
 rw[ql0 h (by rw[e]) Ha,e];exact hn n _ _ _ rfl ho Ac
def qJZ(h:p[q]?=some ⟨6,0,0,k⟩):Go1 p d q a k:=by
 intro n m bh L ha ho hl;have hq:=qqh h;obtain⟨n,rfl⟩:∃n',n=n'+1:=⟨n-1,Ac⟩
 have e:doR m ⟨6,0,0,k⟩ d=({ m with over:=true,told:=k },0,0):=by
  have e1:xf 6=true:=Af
  have e2:qm 6=5:=Af
  simp only[doR,e1,e2,qud];simp
 rw[qii,h];exact Hm
def qxU(h:p[q]?=some ⟨5,0,0,k⟩)(hn:Go1 p d (q+1+k.toNat) a r):Go1 p d q a r:=by
 intro n m bh L ha ho hl;have hq:=qqh h;obtain⟨n,rfl⟩:∃n',n=n'+1:=⟨n-1,Ac⟩
 have e:doR m ⟨5,0,0,k⟩ d=(m,k,0):=by
  have e1:xf 5=true:=Af
  have e2:qm 5=4:=Af
  simp only[doR,e1,e2,qiT];simp
 rw[ql0 h (by rw[e]) Ha,e];exact hn n _ _ _ ha ho Ac
def qD6{c jt jf:Int}(hc:qem c)(h:p[q]?=some ⟨c,jt,jf,k⟩)(hn:Go1 p d (q+1+(if qbI c a k=true then jt else jf).toNat) a r):Go1 p d q a r:=by
 intro n m bh L ha ho hl;have hq:=qqh h;obtain⟨n,rfl⟩:∃n',n=n'+1:=⟨n-1,Ac⟩
 have e:doR m ⟨c,jt,jf,k⟩ d=(m,if qbI c a k=true then jt else jf,0):=by
  have e1:xf c=true:=Dd
  have e2:=(qag hc).1;have e3:qaC c=false:=Dd
  have e4:=(qag hc).2.1;simp only[doR,e1,e2,qiT,e4,za,qdr,e3,ha];simp
 rw[ql0 h (by rw[e]) Ha,e];exact hn n _ _ _ ha ho Ac
end
section
variable {l:List Sy}{d:GData}{r:Int}
def bl(l:List Sy)(m:Nat):Nat:=(zI l m).1.length
def qkf{m:Nat}{x:Sy}(h:l[l.length-(m+1)]?=some x):zI l (m+1)=((zI l m).1++(wG (bl l m) (zI l m).2 x).reverse,(zI l m).2.set (l.length-(m+1)) (bl l (m+1))):=by
 have e:zI l (m+1)=((zI l m).1++(wG (zI l m).1.length (zI l m).2 x).reverse,(zI l m).2.set (l.length-(m+1)) ((zI l m).1++(wG (zI l m).1.length (zI l m).2 x).reverse).length):=by
  conv=>lhs;unfold zI
  exact Hr
 have e2:bl l (m+1)=((zI l m).1++(wG (zI l m).1.length (zI l m).2 x).reverse).length:=by unfold bl;rw[e]
 rw[e2];exact e
def qwG{m m':Nat}(h:m<=m'):∃R,(zI l m').1=(zI l m).1++R:=by
 induction m' with
 | zero=>rw[Nat.le_zero.1 h];exact Ad
 | succ m' ih =>
  rcases Nat.lt_or_ge m' m with q|q
  .rw[show m=m'+1 from Ac];exact Ad
  .obtain⟨R,hR⟩:=ih q;cases hx:l[l.length-(m'+1)]? with
   | none =>
    refine⟨R,?_⟩
    conv=>lhs;unfold zI
    rw[hx];exact hR
   | some x=>rw[qkf hx];exact Ad
def qjH{m m':Nat}(h:m<=m'):bl l m<=bl l m':=by
 obtain⟨R,hR⟩:=qwG (l:=l) h;unfold bl;rw[hR,zzP];exact Ac
def qJu{m:Nat}(hm:m<=l.length){j:Nat}(h1:l.length-m<=j)(h2:j<l.length):(zI l m).2.getD j 0=bl l (l.length-j):=by
 induction m with
 | zero=>exact Ac
 | succ m ih =>
  have hx:l[l.length-(m+1)]?=some l[l.length-(m+1)]:=Ad
  rw[qkf hx,zzs,List.getElem?_set]
  grind[qh9]
def plL(l:List Sy)(j:Nat):Nat:=bl l l.length-bl l (l.length-j)
def cdL(l:List Sy)(j:Nat)(x:Sy):List Ins:=wG (bl l (l.length-(j+1))) (zI l (l.length-(j+1))).2 x
def qm0:(ji l).length=bl l l.length:=by unfold ji bl;rw[List.length_reverse]
def qh7{j:Nat}{x:Sy}(hx:l[j]?=some x):bl l (l.length-j)=bl l (l.length-(j+1))+(cdL l j x).length/\∃A B,ji l=A++cdL l j x++B/\A.length=plL l j/\B.length=bl l (l.length-(j+1)):=by
 have hj:=(zzS.1 hx).1;have hx2:l[l.length-(l.length-(j+1)+1)]?=some x:=by rw[show l.length-(l.length-(j+1)+1)=j from Ac];exact hx
 have h:=qkf hx2;have hm:l.length-(j+1)+1=l.length-j:=Ac
 rw[hm]at h;have h1:(zI l (l.length-j)).1=(zI l (l.length-(j+1))).1++(cdL l j x).reverse:=by rw[h];rfl
 obtain⟨R,hR⟩:=qwG (l:=l) (m:=l.length-j) (m':=l.length) Ac;have hb:bl l (l.length-j)=bl l (l.length-(j+1))+(cdL l j x).length:=by unfold bl;rw[h1,zzP,List.length_reverse]
 refine⟨hb,R.reverse,(zI l (l.length-(j+1))).1.reverse,?_,?_,?_⟩
 .unfold ji;rw[hR,h1];simp
 .unfold plL bl;rw[hR,zzP,List.length_reverse];exact Ac
 .rw[List.length_reverse];rfl
def qcW{j:Nat}{x:Sy}(hx:l[j]?=some x){i:Nat}{y:Ins}(hy:(cdL l j x)[i]?=some y):(ji l)[plL l j+i]?=some y:=by
 obtain⟨_,A,B,h1,h2,_⟩:=qh7 hx;rw[h1,<- h2,zzi,zzr Ac,Nat.add_sub_cancel_left,zzj Ah];exact hy
def dsL(l:List Sy)(j t:Nat):Nat:=bl l (l.length-(j+1))-bl l (l.length-t)
def qiu{j t:Nat}(h1:j<t)(h2:t<l.length):bl l (l.length-(j+1))-(zI l (l.length-(j+1))).2.getD t 0=dsL l j t:=by
 rw[qJu Ac Ac h2];rfl
def qko{j:Nat}{x:Sy}(hx:l[j]?=some x){t:Nat}(h1:j<t):plL l j+(cdL l j x).length+dsL l j t=plL l t:=by
 have hb:=(qh7 hx).1;have b1:=qjH (l:=l) (m:=l.length-j) (m':=l.length) Ac;have b2:=qjH (l:=l) (m:=l.length-t) (m':=l.length-(j+1)) Ac;unfold plL dsL;exact Ac
def qJK{j:Nat}:dsL l j (j+1)=0:=by unfold dsL;exact Ac
def qCa(h:MayL l):∀{j:Nat}{a:Int},Ev l d j a r->Go1 (ji l) d (plL l j) a r:=by
 intro j a he
 induction he with
 | ld j a r x hx hc _ ih =>
  have hm:=h.all j x hx
  have hk:x.k % 4=0/\0<=x.k/\x.k<64:=by
   rcases hm with q|⟨q,_⟩|⟨q,_⟩|⟨q,_⟩
   .exact Ac
   .exact Ac
   .exact Ac
   .unfold qem at q;exact Ac
  have e:cdL l j x=[⟨32,0,0,x.k⟩]:=by unfold cdL wG;rw[hc,if_neg Af,if_pos Af]
  have hn:=qko hx (t:=j+1) Ac;rw[qJK,e]at hn;simp only[List.length_singleton,Nat.add_zero]at hn;exact qJY (qcW hx (i:=0) Eq) hk (by rw[Nat.add_zero,hn];exact ih)
 | an j a r x hx hc _ ih =>
  have e:cdL l j x=[⟨84,0,0,x.k⟩]:=by unfold cdL wG;rw[hc,if_neg Af,if_pos Af]
  have hn:=qko hx (t:=j+1) Ac;rw[qJK,e]at hn;simp only[List.length_singleton,Nat.add_zero]at hn;exact qJX (qcW hx (i:=0) Eq) (by rw[Nat.add_zero,hn];exact ih)
 | rt j a x hx hc =>
  have e:cdL l j x=[⟨6,0,0,x.k⟩]:=by unfold cdL wG;rw[hc,if_neg Af,if_pos Af]
  exact qJZ (qcW hx (i:=0) Eq)
 | ja j a r x hx hc _ ih =>
  have hm:=(h.all j x hx).ja hc;have e:cdL l j x=[⟨5,0,0,(dsL l j x.th:Nat)⟩]:=by unfold cdL wG;rw[if_pos hc,qiu hm.2.2.1 hm.2.2.2]
  have hn:=qko hx hm.2.2.1;rw[e]at hn;simp only[List.length_singleton]at hn;exact qxU (qcW hx (i:=0) Eq) (by rw[Nat.add_zero,Int.toNat_natCast,hn];exact ih)
 | jc j a r x hx hc _ ih =>
  have hm:=(h.all j x hx).jc hc;have hk:=qag hc;have n1:=qko hx hm.1;have n2:=qko hx hm.2.2.1
  by_cases hf:max (dsL l j x.th) (dsL l j x.el)<=255
  .have e:cdL l j x=[⟨x.code,(dsL l j x.th:Nat),(dsL l j x.el:Nat),x.k⟩]:=by
    unfold cdL wG;rw[if_neg hk.2.1,if_neg (λq=>q hk.1),qiu hm.1 hm.2.1,qiu hm.2.2.1 hm.2.2.2,if_pos hf]
   rw[e]at n1 n2;simp only[List.length_singleton]at n1 n2;refine qD6 hc (qcW hx (i:=0) Eq) ?_
   exact Ah
  .have e:cdL l j x=[⟨x.code,0,1,x.k⟩,⟨5,0,0,(dsL l j x.th+1:Nat)⟩,⟨5,0,0,(dsL l j x.el:Nat)⟩]:=by
    unfold cdL wG;rw[if_neg hk.2.1,if_neg (λq=>q hk.1),qiu hm.1 hm.2.1,qiu hm.2.2.1 hm.2.2.2,if_neg hf]
   rw[e]at n1 n2;simp only[zze,List.length_nil]at n1 n2;refine qD6 hc (qcW hx (i:=0) Eq) ?_
   by_cases q:qbI x.code a x.k=true
   .rw[if_pos q]at ih ⊢;refine qxU (k:=((dsL l j x.th+1:Nat):Int)) (qcW hx (i:=1) (y:=⟨5,0,0,(dsL l j x.th+1:Nat)⟩) Eq) ?_;rw[Int.toNat_natCast];have e2:plL l j+0+1+(0:Int).toNat+1+(dsL l j x.th+1)=plL l x.th:=Ac
    rw[e2];exact ih
   .rw[if_neg q]at ih ⊢;refine qxU (k:=((dsL l j x.el:Nat):Int)) (qcW hx (i:=2) (y:=⟨5,0,0,(dsL l j x.el:Nat)⟩) Eq) ?_;rw[Int.toNat_natCast];have e2:plL l j+0+1+(1:Int).toNat+1+dsL l j x.el=plL l x.el:=Ac
    rw[e2];exact ih
def qvj(h:MayL l)(he:Ev l d 0 0 r):(qgR (ji l) d).1=r/\(qgR (ji l) d).2.2.2=0:=by
 have:=qCa h he;have e:plL l 0=0:=by unfold plL;rw[Nat.sub_zero];exact Ac
 rw[e]at this;exact this _ _ _ _ rfl rfl Ac
end
def wO(l:List Sy):Prop:=∀x ∈ l,0<=x.k/\x.k<=4294967295
section
variable {l:List Sy}
def qDl(h:wO l):wO (qfM l):=by
 intro x hx;unfold qfM at hx;obtain⟨y,hy,rfl⟩:=zzl.1 hx;exact h y hy
def qpX(h:wO l):∀m,wO (qgi l m)
 | 0=>h
 | m+1=>by
  unfold qgi;split
  .rename_i x hx;intro y hy;rcases List.mem_or_eq_of_mem_set hy with hy|rfl
   .exact qpX h m y hy
   .have hk:=h x Ah;unfold qbh;split
    .exact Ad
    .exact hk
  .exact qpX h m
theorem qtH(h:wO l):wO (qb6 l):=by
 intro x hx;unfold qb6 qhF at hx;obtain⟨q,hq⟩:=List.getElem?_of_mem hx;obtain⟨p,_,h2,_⟩:=qmc hq;rw[zzo]at h2;obtain⟨y,hy,rfl⟩:=Option.map_eq_some_iff.1 h2;exact qpX (qDl h) _ y (zzM hy)
def qsO(h:MayL l):∀{m:Nat},m<=l.length->∀{b:Nat}{i:Ins},(zI l m).1[b]?=some i->∃(j:Nat) (x:Sy) (e:Nat),l[j]?=some x/\(cdL l j x)[e]?=some i/\b+e+1=bl l (l.length-j)
 | 0,_,b,i,hb=>by simp[zI]at hb
 | m+1,hm,b,i,hb=>by
  have hx:l[l.length-(m+1)]?=some l[l.length-(m+1)]:=Ad
  have hs:=qkf hx;have hcd:cdL l (l.length-(m+1)) l[l.length-(m+1)]=wG (bl l m) (zI l m).2 l[l.length-(m+1)]:=by unfold cdL;rw[show l.length-(l.length-(m+1)+1)=m from Ac]
  have h1:(zI l (m+1)).1=(zI l m).1++(cdL l (l.length-(m+1)) l[l.length-(m+1)]).reverse:=by rw[hs,hcd]
  rw[h1,List.getElem?_append]at hb;split at hb
  .exact qsO h Ac hb
  .rename_i hlt;have hbl:(zI l m).1.length=bl l m:=rfl;rw[hbl]at hlt hb;have hc:=(qh7 hx).1;rw[show l.length-(l.length-(m+1))=m+1 from Ac,show l.length-(l.length-(m+1)+1)=m from Ac]at hc
   have hlen:=(zzS.1 hb).1;rw[List.length_reverse]at hlen;rw[List.getElem?_reverse hlen]at hb
   exact Ah
def qyr(h:MayL l){k:Nat}{i:Ins}(hk:(ji l)[k]?=some i):∃(j:Nat) (x:Sy) (e:Nat),l[j]?=some x/\(cdL l j x)[e]?=some i/\(ji l).length-1-k+e+1=bl l (l.length-j):=by
 have hl:=(zzS.1 hk).1;have e:=hk;unfold ji at e;rw[List.getElem?_reverse Ah]at e;obtain⟨j,x,e,h1,h2,h3⟩:=qsO h (zzL _) e;refine⟨j,x,e,h1,h2,?_⟩;rw[qm0];exact h3
structure LkOk (i:Ins) (n:Nat):Prop where
 ok:InsOk i
 one:qej i n=0
 c:i.code≠96/\i.code≠97
def qo9(h:MayL l){t:Nat}(ht:t<l.length):0<bl l (l.length-t):=by
 have hx:l[t]?=some l[t]:=Ad
 have h1:=(qh7 hx).1;have h2:=(qrd (n:=bl l (l.length-(t+1))) (pl:=(zI l (l.length-(t+1))).2) (x:=l[t])).2;have:(cdL l t l[t]).length=(wG (bl l (l.length-(t+1))) (zI l (l.length-(t+1))).2 l[t]).length:=rfl;exact Ac
def qtp{c k:Int}{n:Nat}(hc:c=32/\k % 4=0/\k<64\/c=84\/c=6)(hk:0<=k/\k<=4294967295):LkOk ⟨c,0,0,k⟩ n:=by
 have hc2:c=32\/c=84\/c=6:=by rcases hc with h|h|h<;>simp[h]
 have b1:xf c=true:=by rcases hc2 with rfl|rfl|rfl<;>decide
 have b2:qm c≠2/\qm c≠4:=by rcases hc2 with rfl|rfl|rfl<;>decide
 refine⟨⟨Ah,Ah,Int.le_refl 0,Ad,Int.le_refl 0,Ad,hk.1,hk.2⟩,?_,Ah⟩
 have a1:qi1 ⟨c,0,0,k⟩=false:=by simp[qi1,b1]
 have a2:qim ⟨c,0,0,k⟩=false:=by
  rcases hc with⟨h1,h2,h3⟩|h|h
  .simp[qim,h2,show¬64<=k from Ac]
  .simp[qim,h]
  .simp[qim,h]
 have a3:qjD ⟨c,0,0,k⟩=false:=by simp[qjD,b2.1,show c≠96 from Ac,show c≠97 from Ac]
 have a4:qjE ⟨c,0,0,k⟩=false:=by simp[qjE,show c≠52 from Ac]
 have a5:qjF ⟨c,0,0,k⟩=false:=by simp[qjF,show c≠100 from Ac,show c≠116 from Ac]
 have a6:qjG ⟨c,0,0,k⟩ n=false:=by simp[qjG,b2.2,show c≠5 from Ac]
 simp[qej,a1,a2,a3,a4,a5,a6]
theorem qyw{k n:Nat}(h:k<n)(hn:k<=1000000):LkOk ⟨5,0,0,(k:Int)⟩ n:=by
 refine⟨⟨Ad,Ad,Int.le_refl 0,Ad,Int.le_refl 0,Ad,Ad,Ah⟩,?_,Ad⟩
 have a1:qi1 ⟨5,0,0,k⟩=false:=by
  have:xf 5=true:=Af
  simp[qi1,this]
 have a2:qim ⟨5,0,0,k⟩=false:=by simp[qim]
 have a3:qjD ⟨5,0,0,k⟩=false:=by
  have:qm 5≠2:=Af
  simp[qjD,this]
 have a4:qjE ⟨5,0,0,k⟩=false:=by simp[qjE]
 have a5:qjF ⟨5,0,0,k⟩=false:=by simp[qjF]
 have a6:qjG ⟨5,0,0,k⟩ n=false:=by simp[qjG];exact Ac
 simp[qej,a1,a2,a3,a4,a5,a6]
theorem qEe{c k:Int}{jt jf n:Nat}(hc:qem c)(hk:0<=k/\k<=4294967295)(h1:jt<=255)(h2:jf<=255)(h3:jt<n)(h4:jf<n):LkOk ⟨c,jt,jf,k⟩ n:=by
 have b1:xf c=true:=Dd
 have b2:qm c≠2:=by rw[(qag hc).1];exact Af
 have b3:c≠32/\c≠96/\c≠97/\c≠52/\c≠100/\c≠116/\c≠5/\0<=c/\c<=65535:=Dd
 refine⟨⟨b3.2.2.2.2.2.2.2.1,b3.2.2.2.2.2.2.2.2,Ad,Ah,Ad,Ah,hk.1,hk.2⟩,?_,Ad⟩
 have a1:qi1 ⟨c,jt,jf,k⟩=false:=by simp[qi1,b1]
 have a2:qim ⟨c,jt,jf,k⟩=false:=by simp[qim,b3.1]
 have a3:qjD ⟨c,jt,jf,k⟩=false:=by simp[qjD,b2,b3.2.1,b3.2.2.1]
 have a4:qjE ⟨c,jt,jf,k⟩=false:=by simp[qjE,b3.2.2.2.1]
 have a5:qjF ⟨c,jt,jf,k⟩=false:=by simp[qjF,b3.2.2.2.2.1,b3.2.2.2.2.2.1]
 have a6:qjG ⟨c,jt,jf,k⟩ n=false:=by
  have:¬(n:Int)<=hiM ⟨c,jt,jf,k⟩:=by unfold hiM;exact Ah
  simp only[qjG,if_neg b3.2.2.2.2.2.2.1,this,decide_false,Bool.and_false]
 simp[qej,a1,a2,a3,a4,a5,a6]
def qpy(h:MayL l)(hr:wO l){k:Nat}{i:Ins}(hk:(ji l)[k]?=some i):LkOk i ((ji l).length-1-k):=by
 obtain⟨j,x,e,hx,he,hb⟩:=qyr h hk;have hm:=h.all j x hx;have hxr:=hr x Ah;have hbl:=(qh7 hx).1;have hbig:bl l (l.length-j)<=3*l.length:=zzg (qh9 (l:=l) (l.length-j)).2.2 Ac;have hbig2:=h.big
 have one:∀{y:Ins},cdL l j x=[y]->i=y/\(ji l).length-1-k=bl l (l.length-(j+1)):=λ{y} hy=>by
  rw[hy]at he hbl
  exact Ah
 rcases hm with⟨q,_,_,q1,q2,q3⟩|⟨q,_⟩|⟨q,_,_,q3,q4⟩|⟨q,q1,q2,q3,q4⟩
 .obtain⟨e1,_⟩:=one (y:=⟨x.code,0,0,x.k⟩) (by unfold cdL wG;rw[q,if_neg Af,if_pos Af])
  rw[e1];simp_all[qtp]
 .obtain⟨e1,_⟩:=one (y:=⟨x.code,0,0,x.k⟩) (by unfold cdL wG;rcases q with q|q<;>rw[q,if_neg Af,if_pos Af])
  rw[e1];simp_all[qtp]
 .obtain⟨e1,e2⟩:=one (y:=⟨5,0,0,(dsL l j x.th:Nat)⟩) (by unfold cdL wG;rw[if_pos q,qiu q3 q4]);have hp:=qo9 h q4;have hmn:=qjH (l:=l) (m:=l.length-x.th) (m':=l.length-(j+1)) Ac;rw[e1,e2];unfold dsL
  grind[qyw]
 .have hp:=qo9 h q2;have hp2:=qo9 h q4;have hmn:=qjH (l:=l) (m:=l.length-x.th) (m':=l.length-(j+1)) Ac;have hmn2:=qjH (l:=l) (m:=l.length-x.el) (m':=l.length-(j+1)) Ac;have hkk:=qag q;have d1:dsL l j x.th<bl l (l.length-(j+1)):=by unfold dsL;exact Ac
  have d2:dsL l j x.el<bl l (l.length-(j+1)):=by unfold dsL;exact Ac
  by_cases hf:max (dsL l j x.th) (dsL l j x.el)<=255
  .obtain⟨e1,e2⟩:=one (y:=⟨x.code,(dsL l j x.th:Nat),(dsL l j x.el:Nat),x.k⟩) (by
    unfold cdL wG;rw[if_neg hkk.2.1,if_neg (λz=>z hkk.1),qiu q1 q2,qiu q3 q4,if_pos hf])
   rw[e1,e2];grind[qEe]
  .have e3:cdL l j x=[⟨x.code,0,1,x.k⟩,⟨5,0,0,(dsL l j x.th+1:Nat)⟩,⟨5,0,0,(dsL l j x.el:Nat)⟩]:=by
    unfold cdL wG;rw[if_neg hkk.2.1,if_neg (λz=>z hkk.1),qiu q1 q2,qiu q3 q4,if_neg hf]
   rw[e3]at he hbl;simp only[zze,List.length_nil]at hbl
   match e,he,hb with
   | 0,he,hb =>
    grind[qEe]
   | 1,he,hb =>
    simp only[List.getElem?_cons_succ,zzn,Option.some.injEq]at he;subst he;exact qyw Ac Ac
   | 2,he,hb =>
    grind[qyw]
   | e+3,he,hb=>exact Ah
def qvh(h:MayL l):qgJ (ji l)=6:=by
 obtain⟨s,hs,h6⟩:=h.last;have hp:=h.pos;obtain⟨hb,A,B,h1,h2,h3⟩:=qh7 hs;have e:cdL l (l.length-1) s=[⟨6,0,0,s.k⟩]:=by unfold cdL wG;rw[h6,if_neg Af,if_pos Af]
 have hB:B=[]:=by
  apply List.eq_nil_of_length_eq_zero;rw[h3,show l.length-(l.length-1+1)=0 from Ac];rfl
 rw[e,hB,List.append_nil]at h1;unfold qgJ;rw[h1];simp
def qyt(h:MayL l):0<(ji l).length:=by
 rw[qm0];have:=qo9 h h.pos;exact Ac
def qys:(ji l).length<=3*l.length:=by rw[qm0];exact(qh9 (l:=l) l.length).2.2
def qvg(h:MayL l)(hr:wO l)(hl:(ji l).length<=4096):PrgGood (ji l) :=
 ⟨hl,by have:=qyt h;exact Ac,λi hi=>by obtain⟨k,hk⟩:=List.getElem?_of_mem hi;exact(qpy h hr hk).ok,λk i hk=>(qpy h hr hk).one,by rw[qvh h];exact Af⟩
-- no cell is read
theorem qId{i:Ins}(hi:i.code≠96/\i.code≠97){x:BitVec 16}{j:Nat}{L:List Nat}:qld i x j L=L:=by
 unfold qld;simp[rdM,hi.1,hi.2]
def qEy{n:Nat}:∀{p:List Ins}{j:Nat}{st:WSt},(∀i ∈ p,i.code≠96/\i.code≠97)->(wkM n j p st).1=st.1
 | [],_,_,_=>rfl
 | i::p,j,st,h=>by
  unfold wkM;rw[qEy Ad];unfold stM
  grind[qId]
def qAd{rch:List Bool}{sur:List (BitVec 16)}:∀{p:List Ins}{j:Nat}{L:List Nat},(∀i ∈ p,i.code≠96/\i.code≠97)->qDH rch sur j p L=L
 | [],_,_,_=>rfl
 | i::p,j,L,h=>by
  unfold qDH;have hi:=h i Ad;rw[qAd Ad,if_neg (by simp[unC,rdC,hi.1,hi.2])]
def qqj{n:Nat}:∀{p:List Ins}{j:Nat},(∀(k:Nat) i,p[k]?=some i->qej i (n-1-(j+k))=0)->qgX n j p=none
 | [],_,_=>rfl
 | i::p,j,h=>by
  rw[qfS,if_pos (by simpa using h 0 i rfl)];exact qqj λk i hk=>by have:=h (k+1) i (by simpa using hk);rw[show j+1+k=j+(k+1)from Ac];exact Ac
def qBS{p:List Ins}(h:PrgGood p):atU p []=(0,0):=by
 unfold atU;rw[if_neg (by have:=h.ne;have:=h.len;exact Ac),qqj (by grind[PrgGood.one])]
 simp[h.last]
def qyu(h:MayL l)(hr:wO l):qfQ (ji l)=[]/\qKZ (ji l)=[]:=by
 have hc:∀i ∈ ji l,i.code≠96/\i.code≠97:=λi hi=>by obtain⟨k,hk⟩:=List.getElem?_of_mem hi;exact(qpy h hr hk).c
 exact⟨qEy hc,qAd hc⟩
end
structure FilU (x:GFil):Prop where
 d:0<=x.dflt/\x.dflt<=4294967295
 r:∀r ∈ x.rules,0<=r.act/\r.act<=4294967295
 t:∀r ∈ x.rules,∀t ∈ r.tests,0<=t.act/\t.act<=4294967295
def wO.app{a b:List Sy}(h1:wO a)(h2:wO b):wO (a++b):=λx hx=>by
 rcases zzd.1 hx with h|h
 .exact h1 x h
 .exact h2 x h
theorem wO.nil:wO []:=λx hx=>by cases hx
theorem wO.cons{s:Sy}{l:List Sy}(h1:0<=s.k/\s.k<=4294967295)(h2:wO l):wO (s::l):=λx hx=>by
 rcases zzc.1 hx with rfl|h
 .exact h1
 .exact h2 x h
def r0:(0:Int)<=0/\(0:Int)<=4294967295:=Ac
def qqZ{a m v:Int}{p F:Nat}(ha:0<=a/\a<=4294967295)(hm:0<=m/\m<=4294967295)(hv:0<=v/\v<=4294967295):wO (qdU a m v p F):=by
 unfold qdU
 grind[wO.nil,wO.cons]
def qKe{x:Int}(h0:0<=x)(h1:x<18446744073709551616):(0<=loW x/\loW x<=4294967295)/\0<=hiW x/\hiW x<=4294967295:=by
 unfold loW hiW;exact Ac
def qz3{t:GTest}{p:Nat}(ht:TstOk t)(ha:0<=t.act/\t.act<=4294967295):wO (qiX t p):=by
 have h1:=qKe ht.m0 ht.m1;have h2:=qKe ht.v0 ht.v1;have a0:=ht.a0;have a1:=ht.a1;exact((qqZ Ac h1.1 h2.1).app (qqZ Ac h1.2 h2.2)).app (.cons ha .nil)
def qoV:∀{ts:List GTest}{a:Int}{p:Nat},(∀t ∈ ts,TstOk t/\0<=t.act/\t.act<=4294967295)->(0<=a/\a<=4294967295)->wO (qcy ts a p)
 | [],a,p,_,ha=>.cons ha .nil
 | t::ts,a,p,h,ha=>by
  have ht:=h t Ad;unfold qcy;refine(qz3 ht.1 ht.2).app ?_;split
  .exact .nil
  .exact qoV Ad ha
def qoM:∀{rs:List GRule}{p:Nat},(∀r ∈ rs,(0<=r.act/\r.act<=4294967295)/\∀t ∈ r.tests,TstOk t/\0<=t.act/\t.act<=4294967295)->wO (xj rs p)
 | [],_,_=>.nil
 | r::rs,p,h=>by
  have hr:=h r Ad;unfold xj;exact(qoV hr.2 hr.1).app (qoM Ah)
def qDA{a:Int}(h0:0<=a)(h6:a<6):0<=qb7 a/\qb7 a<=4294967295:=by
 have:a=0\/a=1\/a=2\/a=3\/a=4\/a=5:=Ac
 rcases this with rfl|rfl|rfl|rfl|rfl|rfl<;>decide
def qCO{a:Int}{p F:Nat}(h0:0<=a)(h6:a<6):wO (qbc a p F):=by
 unfold qbc;have hb:(0:Int)<=1073741824/\(1073741824:Int)<=4294967295:=Ac
 refine wO.app (.cons Ad (.cons (qDA h0 h6) (.cons r0 .nil))) ?_
 grind[wO.cons,wO.nil]
def qr5{FW:Nat->Nat}{T:List Nd}{p:Nat}(h:∀n ∈ T,0<=n.at'/\n.at'<=4294967295):wO (xL FW T p):=by
 unfold xL;refine wO.app ?_ ?_
 .cases T with
  | nil=>exact .nil
  | cons n T =>
   show wO (if n.leaf=true then [⟨5,0,FW n.way,0⟩]else [])
   split
   all_goals simp_all[wO.cons,wO.nil]
 .unfold brE;intro x hx;obtain⟨n,hn,hx⟩:=List.mem_flatMap.1 hx;unfold qk2 at hx
  exact Ad
def qDB(n:Nat):∀(l:List Sp) (a:Nat),l.length<=n->SpR l->∀nd ∈ zV l a,0<=nd.at'/\nd.at'<4294967296:=by
 induction n with
 | zero =>
  grind[zV.eq_1]
 | succ n ih =>
  intro l a h1 hr nd hnd;rw[zV]at hnd
  by_cases hk:l.length / 2=0
  .rw[dif_pos hk,zz1]at hnd
   exact Ad
  .rw[dif_neg hk]at hnd;rcases zzc.1 hnd with rfl|hnd
   .have hlt:l.length / 2<l.length:=Ac
    have:=hr _ (List.getElem_mem hlt)
    exact Ad
   .rcases zzd.1 hnd with hnd|hnd
    .exact ih (l.take (l.length / 2)) _ Ah (λs hs=>hr s Ah) nd hnd
    .exact ih (l.drop (l.length / 2)) _ Ah (λs hs=>hr s Ah) nd hnd
section
variable {x:GFil}
def qqD(h:FilG x)(hu:FilU x):wO (zp x):=by
 unfold zp;refine(((wO.app (qCO h.a0 h.a6) (qr5 λn hn=>?_)).app (.cons hu.d .nil)).app (qoM λr hr=>⟨hu.r r hr,λt ht=>⟨(h.ts r hr t ht).ok,hu.t r hr t ht⟩⟩)).app (.cons Ad .nil)
 have:=qDB _ _ 0 (zzL _) (qkM h.spans.1 (Int.le_refl 0) (Int.le_refl _)) n hn;exact Ac
def szF(x:GFil):Nat:=10+(x.rules.map λr=>3+7*r.tests.length).sum
def qvS{rs:List GRule}:zy rs+2*rs.length<=(rs.map λr=>3+7*r.tests.length).sum:=by
 induction rs with
 | nil=>simp[zy]
 | cons r rs ih =>
  have:=qlc (ts:=r.tests);simp[zy,qpQ]at ih ⊢;exact Ac
def qs2(h:FilG x):(zp x).length<=szF x:=by
 have h1:=h.dfl.1;have h2:=qvS (rs:=x.rules);rw[qn8];unfold jm szF;exact Ac
end
def qpm:∀{ts:List GTest}{a:Int},(qfZ ts a).1.Sublist ts/\((qfZ ts a).2=a\/∃t ∈ ts,(qfZ ts a).2=t.act)
 | [],_=>⟨.slnil,.inl rfl⟩
 | t::ts,a=>by
  unfold qfZ;split
  .exact Ad
  .obtain⟨h1,h2⟩:=qpm (ts:=ts) (a:=a)
   exact Ah
def qz9{a:Int}{ts:List GTest}:(qgL a ts).Sublist ts:=by
 unfold qgL;have:=List.dropWhile_sublist (λt:GTest=>decide (t.act=a)) (l:=ts.reverse)
 have:=this.reverse;rwa [List.reverse_reverse]at this
def qsX{q:GTest->Bool}:∀{ts:List GTest}{a:Int},(∀t ∈ ts,t.mask=0->q t=true)->fnd q (qfZ ts a).2 (qfZ ts a).1=fnd q a ts
 | [],_,_=>rfl
 | t::ts,a,h=>by
  unfold qfZ;split
  .grind[qlZ,qdS]
  .rw[qdS,qdS,qsX Ad]
theorem qqK{q:GTest->Bool}{a:Int}{t:GTest}(h:t.act=a):∀{ts:List GTest},fnd q a (ts++[t])=fnd q a ts
 | []=>by rw[zzN,qdS,qlZ,h];split<;>rfl
 | y::ts=>by rw[zzC,qdS,qdS,qqK h]
def qz8{q:GTest->Bool}{a:Int}(n:Nat):∀(ts:List GTest),ts.length=n->fnd q a (qgL a ts)=fnd q a ts:=by
 induction n with
 | zero=>intro ts h;rw[List.eq_nil_of_length_eq_zero h];rfl
 | succ n ih =>
  intro ts h;have e:ts=ts.dropLast++[ts.getLast (by intro h0;rw[h0]at h;simp at h)]:=(List.dropLast_concat_getLast _).symm
  grind[qnx,qqK]
def qp1:∀{l:List GRule}{o:Option GRule},upR o l=true↔(∀r ∈ l,qaZ r=true)/\(∀b,o=some b->∀r ∈ l,b.nr<r.nr)/\l.Pairwise λa b=>a.nr<b.nr
 | [],o=>by simp[upR]
 | r::l,o=>by
  have ih:=qp1 (l:=l) (o:=some r);simp only[upR,zzB,ih,List.forall_mem_cons,List.pairwise_cons];constructor
  .exact Ah
  .rintro⟨⟨h1,h3⟩,h2,h4,h5⟩;refine⟨⟨h1,?_⟩,h3,λb hb=>by cases hb;exact h4,h5⟩
   cases o with
   | none=>rfl
   | some b=>simpa using(h2 b rfl).1
section
variable {x:GFil}
theorem qm9{r:GRule}:(jl r).nr=r.nr:=rfl
theorem qcv{r:GRule}:(jl r).tests.Sublist r.tests:=qz9.trans qpm.1
def qrp{r:GRule}:(jl r).act=r.act\/∃t ∈ r.tests,(jl r).act=t.act:=qpm.2
def qyT{q:GTest->Bool}{r:GRule}(h:∀t ∈ r.tests,t.mask=0->q t=true):fnd q (jl r).act (jl r).tests=fnd q r.act r.tests :=
 (qz8 _ _ rfl).trans (qsX h)
theorem qfE{r:GRule}(h:r ∈ (wH x).rules):∃r0 ∈ x.rules,r=jl r0:=by
 obtain⟨h1,_⟩:=List.mem_filter.1 h
 exact Ah
theorem qsl{r:GRule}(h:qaZ r=true):qaZ (jl r)=true:=by
 simp only[qaZ,zzB,zzb,zzy]at h ⊢;obtain⟨⟨h1,h2⟩,h3⟩:=h;refine⟨⟨zzg qcv.length_le h1,λt ht=>h2 t (qcv.subset ht)⟩,?_⟩
 rcases qrp (r:=r)with e|⟨t,ht,e⟩
 .rw[e];exact h3
 .rw[e];have:=h2 t ht;simp only[wM,zzB]at this;exact Ad
def qib(h:jr x=true):jr (wH x)=true:=by
 simp only[jr,zzB,zzb]at h ⊢;obtain⟨⟨⟨⟨k1,k2⟩,k3⟩,k4⟩,k5⟩:=h;obtain⟨u1,_,u3⟩:=qp1.1 k5;refine⟨⟨⟨⟨k1,k2⟩,?_⟩,k4⟩,qp1.2 ⟨λr hr=>?_,Ad,?_⟩⟩
 .have:=List.length_filter_le (qbS x.dflt) (x.rules.map jl);rw[zzz]at this;exact zzg this k3
 .grind[qfE,qsl]
 .exact ((List.pairwise_map (f:=jl) (R:=λa b:GRule=>a.nr<b.nr)).2 u3).filter _
def qpC(h:FilR x):FilR (wH x):=by
 refine⟨λr hr=>?_,λr hr t ht=>?_⟩
 .obtain⟨r0,h0,rfl⟩:=qfE hr;exact h.nr r0 h0
 .obtain⟨r0,h0,rfl⟩:=qfE hr;exact h.ts r0 h0 t (qcv.subset ht)
def qGO(h:FilU x):FilU (wH x):=by
 refine⟨h.d,λr hr=>?_,λr hr t ht=>?_⟩
 .obtain⟨r0,h0,rfl⟩:=qfE hr;rcases qrp (r:=r0)with e|⟨t,ht,e⟩
  .rw[e];exact h.r r0 h0
  .rw[e];exact h.t r0 h0 t ht
 .obtain⟨r0,h0,rfl⟩:=qfE hr;exact h.t r0 h0 t (qcv.subset ht)
def qCp:szF (wH x)<=szF x:=by
 have:∀l:List GRule,(((l.map jl).filter (qbS x.dflt)).map λr=>3+7*r.tests.length).sum<=(l.map λr=>3+7*r.tests.length).sum:=λl=>by
  induction l<;>grind[qcv]
 have:=this x.rules;exact Nat.add_le_add_left this 10
def qoc{d n:Int}{q:GTest->Bool}:∀{l:List GRule},(∀r ∈ l,∀t ∈ r.tests,t.mask=0->q t=true)->l.Pairwise (λa b=>a.nr<b.nr)->
  (match ((l.map jl).filter (qbS d)).find? (λr=>decide (r.nr=n))with|none=>d|some r=>fnd q r.act r.tests)=(match l.find? (λr=>decide (r.nr=n))with|none=>d|some r=>fnd q r.act r.tests)
 | [],_,_=>rfl
 | r::l,h,hp=>by
  obtain⟨p1,p2⟩:=List.pairwise_cons.1 hp;have hr:=qyT (h r (List.mem_cons_self ..));have ih:=qoc (d:=d) (n:=n) (q:=q) (l:=l) Ah p2;rw[zz3,List.filter_cons,List.find?_cons]
  by_cases hn:r.nr=n
  .have no:((l.map jl).filter (qbS d)).find? (λr=>decide (r.nr=n))=none:=by
    refine List.find?_eq_none.2 λy hy=>?_
    obtain⟨y1,_⟩:=List.mem_filter.1 hy;obtain⟨z,hz,rfl⟩:=zzl.1 y1;have:=p1 z hz;rw[qm9];simp;exact Ac
   simp only[hn,decide_true]
   by_cases hk:qbS d (jl r)=true
   .rw[if_pos hk,List.find?_cons];simp only[qm9,hn,decide_true];exact hr
   .rw[if_neg hk,no];simp only[qbS,zzO,zzb]at hk;have h0:(jl r).tests=[]:=Ah
    have h1:(jl r).act=d:=Ac
    rw[h0,h1,qlZ]at hr;exact hr
  grind[qm9]
def qyS(h:FilG x)(hp:x.rules.Pairwise λa b=>a.nr<b.nr){d:GData}(hd:DatOk d):qlG (wH x) d=qlG x d:=by
 rw[qmz,qmz];rw[show(wH x).arch=x.arch from rfl]
 by_cases hc:(ofM d.arch d.nr).2=false\/(ofM d.arch d.nr).1≠x.arch
 .rw[if_pos hc,if_pos hc]
 .rw[if_neg hc,if_neg hc];refine qoc (λr hr t ht h0=>?_) hp
  have hg:=h.ts r hr t ht
  have hv:t.val=0:=by
   have:=hg.sub;rw[h0]at this;have e:=qdK (a:=t.val.toNat) (b:=0) (by have:=hg.ok.v1;exact Ac) Af
   rw[Int.toNat_of_nonneg hg.ok.v0]at e;rw[<- this];simpa using e
  have ha:=qo7 hd hg.ok.a0 hg.ok.a1;have e:=qdK (a:=(qo6 d t.arg).toNat) (b:=0) Ac Af;rw[Int.toNat_of_nonneg ha.1]at e;unfold qcj;rw[h0,hv]
  grind[TstOk.a0,TstG.ok,TstOk.a1]
end
structure PrgT (p:List Ins) (n:Nat) (den:GData->Int):Prop where
 good:PrgGood p
 um:qfQ p=[]
 ud:qKZ p=[]
 len:p.length<=3*n
 tells:∀d,DatOk d->(qgR p d).1=den d/\(qgR p d).2.2.2=0
def qnK(a:List Ins×Int)(n:Nat)(den:GData->Int):Prop:=(a.2=270/\a.1=[]/\1365<n)\/(a.2=0/\PrgT a.1 n den)
theorem qpx{l:List Sy}{n:Nat}{den:GData->Int}(h:MayL l)(hr:wO l)(hl:l.length<=n)(he:∀d,DatOk d->Ev l d 0 0 (den d)):qnK (zY l) n den:=by
 have h3:=qys (l:=l);unfold zY
 by_cases hb:4096<(ji l).length
 .rw[if_pos hb];exact .inl Ah
 .rw[if_neg hb];have hu:=qyu h hr;exact .inr ⟨rfl,qvg h hr Ac,hu.1,hu.2,Ah,λd hd=>qvj h (he d hd)⟩
section
variable {x:GFil}
theorem qFt(hK:jr x=true)(hR:FilR x)(hU:FilU x):qnK (qgo x) (szF x) (qlG x):=by
 have hG:=FilG.of hK hR;unfold qgo;rw[if_pos hK];exact qpx (qg6 hG) (qqD hG hU) (qs2 hG) λd hd=>qs1 hG hd 0
theorem qFs(hK:jr x=true)(hR:FilR x)(hU:FilU x):qnK (qg4 x) (szF x) (qlG x):=by
 have hG:=FilG.of hK hR;have hG2:=FilG.of (qib hK) (qpC hR);have hm:=qg6 hG2
 have hp:x.rules.Pairwise λa b=>a.nr<b.nr:=by
  simp only[jr,zzB]at hK
  simp_all[qp1]
 unfold qg4;rw[if_pos hK];refine qpx (ql4 hm) (qtH (qqD hG2 (qGO hU))) (zzg qtG (zzg (qs2 hG2) qCp)) λd hd=>?_
 rw[<- qyS hG hp hd];exact qzb hm (qs1 hG2 hd 0)
theorem qt7{u v:List Ins×Int}{n:Nat}{den:GData->Int}(hu:qnK u n den)(hv:qnK v n den):qnK (qec u v) n den:=by
 unfold qec;exact Ah
def qxi(hK:jr x=true)(hR:FilR x)(hU:FilU x)(o:Bool):qnK (qdk x o) (szF x) (qlG x):=by
 unfold qdk;grind[qt7,qFt,qFs]
def qBo(hK:jr x=false)(o:Bool):qdk x o=([],210):=by
 unfold qdk qgo qg4 qec;exact Ah
end
end
section
variable [Cur]
variable {P:Program}{f:Nat}
def qju(x:GFil):Prop:=x.rules.length<=100000/\∀r ∈ x.rules,r.tests.length<=100000
def qDQ(P:Program)(g:Nat):Prop:=∀x,qju x->qa P g [.agg (zn x)] (.b (jr x))
def qwS(P:Program)(g:Nat):Prop:=∀x,FilR x->qju x->qa P g [.agg (zn x)] (qqa x)
def qsU(P:Program)(g:Nat):Prop:=∀l,MayL l->qa P g [.fz l.length (rSy l)] (qjB l)
def qA7(P:Program)(g:Nat):Prop:=∀l,MayL l->qa P g [.fz l.length (rSy l)] (.tup [.fz (qb6 l).length (rSy (qb6 l)),.j 0])
def qwV(P:Program)(g:Nat):Prop:=∀x,qju x->qa P g [.agg (zn x)] (qus x)
def qDT(P:Program)(g:Nat):Prop:=∀l:List (Int×Nat),l.length<=100000->(∀y ∈ l,0<=y.1/\y.1<4294967296)->qzJ l->qa P g [.fz l.length (qaI l),.fz l.length (qbe l),.j 0] (.tup [.fz (xd (pcs 0 l 0)).length (rSp (xd (pcs 0 l 0))),.j 0])
def qDU(P:Program)(g:Nat):Prop:=∀l:List Sp,l.length<=400000->0<l.length->SpR l->qa P g [.fz l.length (rSp l)] (qsM l)
def qL9{g1 g2 g3 h1:Nat}(hc:Ck P f (qjb g1 g2))(hp:Ck P g1 (qd1 g3))(hm:Ck P g2 (qd0 h1))(hm1:Ck P h1 jP)(hp1:Ck P g3 qcs):qDT P f:=λl hl hr hu =>
 qHU hc l 0 (qvL hp l 0) (qrm hm hm1 hp1 l 0 hl hr) hl hu
def qMc{g1 g2:Nat}(hc:Ck P f (qeY g1 g2))(h1:Ck P g1 qeW)(h2:Ck P g2 wC):qDU P f:=λl hl h0 hr =>
 qv0 hc h2 l (qsI h1 l Ac hr) hl h0
def qLB{g gl gp gj gh gr go gb gR gd gt gH gA gB gC gD gM gS gT:Nat}(hc:Ck P f (qf4 gM go gS gT gb gh gr gR gd))(E:EFn P g gl gp gj gh gr go gb gR gd gt gH gA gB gC gD)(hM:qDQ P gM)(hS:qDT P gS)(hT:qDU P gT):qwS P f:=λx hR hL =>
 quU hc E x hR (hM x hL) λhK=>by
  have hG:=FilG.of hK hR;have hd:=hG.dfl;have hn:=hG.n;have hs:=hG.spans;have hT:=hT (xd (pcs 0 (qQ x.rules) 0)) (by have:=hs.2.2.2.2;exact Ac) hG.pos (qkM hs.1 (Int.le_refl 0) (Int.le_refl _))
  unfold qsM at hT;rw[if_pos (qn3 hs.1)]at hT;refine⟨by have:=hd.1;exact Ac,by have:=hd.2;exact Ac,hG.tne,hG.nodes,hS (qQ x.rules) (by rw[qcw];exact Ac) (λy hy=>?_) (qoX hG.ups),hT⟩
  obtain⟨i,hi⟩:=List.getElem?_of_mem hy;rw[qdD]at hi;obtain⟨r,hr,rfl⟩:=Option.map_eq_some_iff.1 hi;exact hR.nr r Ah
def qLP{g1 g2 gM gB gi go:Nat}(hc:Ck P f (qf6 g1 g2))(h1:Ck P g1 (qdW gM gB go))(h2:Ck P g2 zX)(hM:∀l,MayL l->qa P gM [.fz l.length (rSy l)] (.b true))
  (hB1:∀l:List Sy,qa P gB [.fz l.length (rSy l)] (.fn gi [] [.pf [.fz l.length (rSy l)] 0])) (hi1:Ck P gi qG) (ho:qA6 P go):qsU P f:=λl hl =>
 qvi hc l (by have:=hl.big;exact Ac) (λk hk=>qvl h1 l (hM l hl) hB1 hi1 ho (by have:=hl.big;exact Ac) hl.hin hk) λs b tr p hp k hb hk=>qsz h2 p hp hb hk
def qMv{gD gO gP gB gi:Nat}(hc:Ck P f (qa7 gD gP gO))(hD:Ck P gD xM)(hO:cOf P gO)(hP:Ck P gP (wg gB))
  (hB:∀l:List Ins,qa P gB [.fz l.length (rP l)] (.fn gi [] [.pf [.fz l.length (rP l)] 0])) (hi:Ck P gi qO):qA6 P f:=λkb n s bb bp back pl tr far k h x hb hj hk =>
 qGZ hc hD hO hP hB hi h x hb hj hk
def qMw{g1 g2 gM gs gt gl s1 s2 t1 t2 ti v1 v2 h1 h2 h3:Nat}(hc:Ck P f (qja g1 g2))(hp:Ck P g1 (qeU gs gt gl))(hd:Ck P g2 (qhq gM))(hM:∀l,MayL l->qa P gM [.fz l.length (rSy l)] (.b true))
  (hs:Ck P gs (qeV s1 s2)) (hs1:Ck P s1 qdc) (hm:Ck P s2 (jy h1 h2 h3)) (c1:qbB P h1 4 24) (c2:cOf P h2) (c3:qgZ P h3)
  (ht:Ck P gt (qdd h1 t1 t2 s2 h3)) (ht1:Ck P t1 qal) (hB:∀l:List Sy,qa P t2 [.fz l.length (rSy l)] (.fn ti [] [.pf [.fz l.length (rSy l)] 0])) (hi:Ck P ti qG)
  (hl:Ck P gl (qeT v1 v2 s2)) (hv1:Ck P v1 (qf7 h2 h3)) (hv2:Ck P v2 qa1):qA7 P f:=λl h=>by
 have m1:=qkA h;have m2:=qmh m1;have b0:=h.big;have b1:=m1.big;have b2:=m2.big
 exact qzc hc (qrr hp) l (qb6 l) (qCM hd l (qfM l) (qpV (qfM l)) (qb6 l) (hM l h) (qrH hs hs1 hm c1 c2 c3 l Ac h.in)
  (qnS ht c1 ht1 hB hi hm c1 c2 c3 c3 (qfM l) Ac m1.in) (qrc hl hv2 hm c1 c2 c3 (qpV (qfM l)) (qrX hv1 c2 c3 _ Ac m2.pos m2.in m2.on) Ac m2.in))
def qLS{g1 g2:Nat}(hc:Ck P f (qf5 g1 g2))(hM:qDQ P g1)(h2:∀r:GRule,r.tests.length<=100000->qa P g2 [.agg (zx r)] (.agg (zx (jl r)))):qwV P f:=λx hL =>
 qp4 hc x (hM x hL) h2 hL.1 hL.2
def qGN{x:GFil}(h:qju x):qju (wH x):=by
 refine⟨?_,λr hr=>?_⟩
 .have:=List.length_filter_le (qbS x.dflt) (x.rules.map jl);rw[zzz]at this;exact zzg this h.1
 .obtain⟨r0,h0,rfl⟩:=qfE hr;exact zzg qcv.length_le (h.2 r0 h0)
theorem qJE{gE gN gO gL:Nat}(hE:qwS P gE)(hN:qwV P gN)(hO:qA7 P gO)(hL:qsU P gL){x:GFil}(hR:FilR x)(hl:qju x):CmpFn P gE gN gO gL x where
 em:=hE x hR hl
 nm:=hN x hl
 lk:=λhK=>hL _ (qg6 (FilG.of hK hR))
 em2:=λ_=>hE _ (qpC hR) (qGN hl)
 ok2:=qib
 op:=λhK=>hO _ (qg6 (FilG.of (qib hK) (qpC hR)))
 lk2:=λhK=>hL _ (ql4 (qg6 (FilG.of (qib hK) (qpC hR))))
def qwR(P:Program)(g:Nat):Prop:=∀x,FilR x->qju x->∀o:Bool,qa P g [.agg (zn x),.b o] (.tup [.fz (qdk x o).1.length (rP (qdk x o).1),.j (qdk x o).2])
def qLy{gd gwN gwE gwO gwL gs gE gN gO gL:Nat}(hc:Ck P f (qa6 gwE gwL gd gwN gwO gs))(hd:Ck P gd qN)(hN:Ck P gwN (xi gN))(hE:Ck P gwE (xa gE))(hO:Ck P gwO (zg gO))(hL:Ck P gwL (qM gL))
  (hs:Ck P gs x9) (c1:qwS P gE) (c2:qwV P gN) (c3:qA7 P gO) (c4:qsU P gL):qwR P f:=λx hR hl o =>
 qpl hc hd hN hE hO hL (λu v x y hx hy=>qkz hs u v x y hx hy) (by grind[qJE]) o
def szT(rs:List GRule):Nat:=(rs.map λr=>3+7*r.tests.length).sum
def SC.args{vs vs':List AV}{h:Hp}{k:AV->Hp->Prop}(hs:SC P f vs' h k)(ha:∀(Z:Ren) (a:List Value),VRs σ0 Z vs a->VRs σ0 Z vs' a):SC P f vs h k :=
 ⟨hs.1,λZ B w args r hv=>hs.2 Z B w args r (ha Z _ hv)⟩
def qkT(l:List Sy)(e:Int):List Ins×Int:=if e=0 then zY l else([],e)
def qlI(l:List Sy)(e:Int):List Ins×Int:=if e=0 then zY (qb6 l)else([],e)
def qqT(l:List Sy)(e:Int)(o:Bool):List Ins×Int:=if o=true then qec (qkT l e) (qlI l e)else qkT l e
structure GrdFn (P:Program) (gG gO gL:Nat) (ar:AV) (l:List Sy) (e:Int):Prop where
 gu:qa P gG [ar] (.tup [.fz l.length (rSy l),.j e])
 lk:e=0->qa P gL [.fz l.length (rSy l)] (qjB l)
 op:e=0->qa P gO [.fz l.length (rSy l)] (.tup [.fz (qb6 l).length (rSy (qb6 l)),.j 0])
 lk2:e=0->qa P gL [.fz (qb6 l).length (rSy (qb6 l))] (qjB (qb6 l))
section
variable {gG gO gL b s:Nat}{tr:Tr Blk}{k:AV->Hp->Prop}{ar:AV}{l:List Sy}{er:Int}
def zF:List AV:=[.j 0,.nils,.w 0]
def qrb{m:List Sy}(h:(zY m).2≠0):(zY m).1=[]:=by
 unfold zY at h ⊢
 exact Ah
def qxW{gd gwG gwL bx:Nat}{e:Nat}{wf a:Bool}(hc:Ck P gd qN)(hG:Ck P gwG (zW gG))(hL:Ck P gwL (qM gL))(C:GrdFn P gG gO gL ar l er)
  (hx:tr.get bx=some (.cells e wf a [.fn gwG [.ptr b 0] [],.fn gwL [.ptr b 0] []])) (hbx:bx≠b) (h0:tr.get b=some (WkB zF ar .nils .nils))
  (hk:∀v tr2,qjw v (qkT l er).1->(∀c,c≠b->tr2.get c=tr.get c)->k (.tup [v,.j (qkT l er).2]) ⟨s,0,tr2⟩):SC P gd [.ptr b 0,.sl bx 0 2 2 false] ⟨s,0,tr⟩ k:=by
 have hG':=C.gu
 by_cases hz:er=0
 .have hL':=C.lk hz;rw[qlO]at hL';have e1:qkT l er=zY l:=by unfold qkT;rw[if_pos hz]
  rw[e1]at hk
  refine qhU hc [gwG,gwL] C3 hbx (λi=>if i=0 then WkB zF ar .nils .nils else if i=1 then WkB zF ar (.fz l.length (rSy l)) .nils else WkB zF ar (.fz l.length (rSy l)) (.fz (zY l).1.length (rP (zY l).1)))
   (λi=>if i=0 then 0 else if i=1 then er else(zY l).2) 2 rfl Ac h0 rfl ?_ ?_ ?_
  .intro i g s' tr' k' hg hj hB hk';have hi:i<2:=by have:=(zzS.1 hg).1;exact Ac
   have hi2:i=0\/i=1:=Ac
   rcases hi2 with rfl|rfl
   .exact Cj
   .exact H3
  .intro i tr2 hf hv hj;have h0':i≠0:=Ac
   have h1':i≠1:=λh=>hv Ac
   simp only[if_neg h0',if_neg h1']at hv ⊢;exact hk _ _ (.inr ⟨rfl,qrb hv⟩) hf
  .intro tr2 hf hj hB;have hz2:=hj 2 Ac;simp at hz2;refine⟨zF,ar,_,_,rfl,rfl,?_⟩;have:=hk (.fz (zY l).1.length (rP (zY l).1)) tr2 (.inl rfl) hf;rw[hz2]at this;exact Ac
 .have e1:qkT l er=([],er):=by unfold qkT;rw[if_neg hz]
  rw[e1]at hk;refine qhU hc [gwG,gwL] C3 hbx (λi=>if i=0 then WkB zF ar .nils .nils else WkB zF ar (.fz l.length (rSy l)) .nils) (λi=>if i=0 then 0 else er) 2 rfl Ac h0 rfl ?_ ?_ ?_
  .intro i g s' tr' k' hg hj hB hk'
   have hi:i=0:=Ad
   subst hi;exact Cj
  .intro i tr2 hf hv hj;have hi:i≠0:=Ac
   exact Co
  .intro tr2 _ hj _;have:=hj 1 Ac;exact Ac
def qxV{gd gwG gwO gwL bx:Nat}{e:Nat}{wf a:Bool}(hc:Ck P gd qN)(hG:Ck P gwG (zW gG))(hO:Ck P gwO (zg gO))(hL:Ck P gwL (qM gL))(C:GrdFn P gG gO gL ar l er)
  (hx:tr.get bx=some (.cells e wf a [.fn gwG [.ptr b 0] [],.fn gwO [.ptr b 0] [],.fn gwL [.ptr b 0] []])) (hbx:bx≠b) (h0:tr.get b=some (WkB zF ar .nils .nils))
  (hk:∀v tr2,qjw v (qlI l er).1->(∀c,c≠b->tr2.get c=tr.get c)->k (.tup [v,.j (qlI l er).2]) ⟨s,0,tr2⟩):SC P gd [.ptr b 0,.sl bx 0 3 3 false] ⟨s,0,tr⟩ k:=by
 have hG':=C.gu
 by_cases hz:er=0
 .have hL':=C.lk2 hz;have hO':=C.op hz;have e1:qlI l er=zY (qb6 l):=by unfold qlI;rw[if_pos hz]
  rw[e1]at hk;obtain⟨m,hm⟩:∃m,m=qb6 l:=⟨_,rfl⟩;rw[<- hm]at hL' hO' hk;rw[qlO]at hL'
  refine qhU hc [gwG,gwO,gwL] C3 hbx (λi=>if i=0 then WkB zF ar .nils .nils else if i=1 then WkB zF ar (.fz l.length (rSy l)) .nils else if i=2 then WkB zF ar (.fz m.length (rSy m)) .nils else WkB zF ar (.fz m.length (rSy m)) (.fz (zY m).1.length (rP (zY m).1)))
   (λi=>if i=0 then 0 else if i=1 then er else if i=2 then 0 else(zY m).2) 3 rfl Ac h0 rfl ?_ ?_ ?_
  .intro i g s' tr' k' hg hj hB hk';have hi:i<3:=by have:=(zzS.1 hg).1;exact Ac
   have hi2:i=0\/i=1\/i=2:=Ac
   rcases hi2 with rfl|rfl|rfl
   .exact Cj
   .simp at hg;subst hg;exact qnD hO zF rfl hB _ _ qkS hO' hk'
   .exact H3
  .intro i tr2 hf hv hj;have h0':i≠0:=Ac
   have h1':i≠1:=λh=>hv Ac
   have h2':i≠2:=Ac
   simp only[if_neg h0',if_neg h1',if_neg h2']at hv ⊢;exact hk _ _ (.inr ⟨rfl,qrb hv⟩) hf
  .intro tr2 hf hj hB;have hz2:=hj 3 Ac;simp at hz2;refine⟨zF,ar,_,_,rfl,rfl,?_⟩;have:=hk (.fz (zY m).1.length (rP (zY m).1)) tr2 (.inl rfl) hf;rw[hz2]at this;exact Ac
 .have e1:qlI l er=([],er):=by unfold qlI;rw[if_neg hz]
  rw[e1]at hk;refine qhU hc [gwG,gwO,gwL] C3 hbx (λi=>if i=0 then WkB zF ar .nils .nils else WkB zF ar (.fz l.length (rSy l)) .nils) (λi=>if i=0 then 0 else er) 3 rfl Ac h0 rfl ?_ ?_ ?_
  .intro i g s' tr' k' hg hj hB hk'
   have hi:i=0:=Ad
   subst hi;exact Cj
  .intro i tr2 hf hv hj;have hi:i≠0:=Ac
   exact Co
  .intro tr2 _ hj _;have:=hj 1 Ac;exact Ac
def qco(a b c d e:Nat):IFn:=irJ 62 [93,a,94,b,92,c,95,d,96,e]
def qsg{gd gwG gwO gwL gs:Nat}(hc:Ck P f (qco gwG gwL gd gwO gs))(hd:Ck P gd qN)(hG:Ck P gwG (zW gG))(hO:Ck P gwO (zg gO))(hL:Ck P gwL (qM gL))
  (hs:Ck P gs x9) (har:clo ar=true/\zt ar=true/\qc7 ar=true/\cellsOf ar=[ar]) (C:GrdFn P gG gO gL ar l er) (o:Bool) :
  qa P f [ar,.b o] (.tup [.fz (qqT l er o).1.length (rP (qqT l er o).1),.j (qqT l er o).2]):=by
 obtain⟨a1,a2,a3,a4⟩:=har;refine qa.mk hc (by simp[qu,Go.Kc.clo,a1]) ?_;simp only[qco,vI,simprocAttr];refine Sa (zzA a2 (zzA a3 a4)) ?_;refine qxW hd hG hL C (b:=0) (bx:=2) Dq Af (by simp[zz4,WkB,zF]) λv tr2 hv hf=>?_
 cases o with
 | false =>
  simp +decide only[↓vS,vT,simprocAttr,qqT];simp[vZ];exact hv.frz
 | true =>
  simp +decide only[↓vS,vT,simprocAttr,qqT];refine qxV hd hG hO hL C (b:=1) (bx:=3) Dq Af (by rw[zz4,if_neg Af,hf 1 Af];simp[zz4,WkB,zF]) λw tr3 hw _=>?_
  obtain⟨z,hz1,hz2⟩:=qkz hs (qkT l er) (qlI l er) v w hv hw;refine Ab ?_;refine hz2.sc ?_;refine Ab ?_;simp[vZ];exact⟨hz1.frz,rfl⟩
end
def qkB(b:Bool)(i:Nat):Bool:=decide (i≠0/\i≠2)||(b&&decide (i=0))
def gdE(m:Nat->Bool)(b:Bool)(A:Nat):Nat->List Sy
 | 0=>[⟨32,4,0,0⟩]
 | i+1=>gdE m b A i++if(m i&&qkB b i)=true then [⟨21,qb7 (i:Int),A,(gdE m b A i).length+1⟩]else []
def gdL(m:Nat->Bool)(b:Bool):Nat->Int
 | 0=>-1
 | i+1=>if(m i && !qkB b i && !b)=true then(i:Int)else gdL m b i
def gdZ(a:Int)(p K A:Nat):List Sy:=[⟨21,qb7 a,p+1,K⟩,⟨32,0,0,0⟩,if a=2 then⟨69,1073741824,A,K⟩else⟨69,1073741824,K,A⟩]
def gdK(m:Nat->Bool)(b:Bool):Nat:=(gdE m b 0 6).length+if 0<=gdL m b 6 then 3 else 0
def gdY(m:Nat->Bool)(b:Bool):List Sy:=gdE m b (gdK m b+1) 6++if 0<=gdL m b 6 then gdZ (gdL m b 6) (gdE m b 0 6).length (gdK m b) (gdK m b+1)else []
def gdF(l:List Sy):List Sy:=l++[⟨6,2147483648,0,0⟩]++[⟨6,2147418112,0,0⟩]
def gdR(m:Nat->Bool):List Sy:=gdF (gdY m (m 0&&m 2))
section
variable {m:Nat->Bool}{b:Bool}
def qpr{A:Nat}:∀{i:Nat},(gdE m b A i).length=(gdE m b 0 i).length
 | 0=>rfl
 | i+1=>by simp only[gdE,zzP,qpr (i:=i)];split<;>rfl
def qsf{A:Nat}:∀{i:Nat},(gdE m b A i).length<=1+i
 | 0=>zzL _
 | i+1=>by
  have:=qsf (A:=A) (i:=i);simp only[gdE,zzP];split<;>simp<;>omega
def qtd:∀{i:Nat},-1<=gdL m b i/\gdL m b i<i
 | 0=>⟨Int.le_refl _,by simp only[gdL];exact Af⟩
 | i+1=>by
  have:=qtd (i:=i);unfold gdL;exact Fq
theorem qBQ{a:Int}{p K A:Nat}:(gdZ a p K A).length=3:=by simp[gdZ]
def qBP:(gdY m b).length=gdK m b:=by
 unfold gdY gdK;rw[zzP,qpr]
 grind[qBQ]
end
section
variable {g w s gl gp gj gh gr gd g1 g2 g4 g5 g6:Nat}{U:Nat->Kd}{tr:Tr Blk}{RV:List Sy}{N:List Nat}{k:AV->Hp->Prop}
def qaF(a b c d e g h i j k:Nat):ICode:=icJ 122 [164,a,165,b,166,c,155,d,90,e,41,g,167,h,168,i,169,j,170,k] 511
def qcn(a b c d e g h i j k:Nat):ICode:=icJ 122 [164,a,165,b,166,c,155,d,90,e,41,g,167,h,168,i,169,j,170,k] 255 [3] [qaF a b c d e g h i j k]
def qcm(a b c d e g h i j k:Nat):ICode:=icJ 122 [164,a,165,b,166,c,155,d,90,e,41,g,167,h,168,i,169,j,170,k] 127 [3] [qcn a b c d e g h i j k]
def qcl(a b c d e g h i j k:Nat):ICode:=icJ 122 [164,a,165,b,166,c,155,d,90,e,41,g,167,h,168,i,169,j,170,k] 15 [15] [qcm a b c d e g h i j k]
def qck(a b c d e g h i j k:Nat):ICode:=icJ 122 [164,a,165,b,166,c,155,d,90,e,41,g,167,h,168,i,169,j,170,k] 7 [3] [qcl a b c d e g h i j k]
def qiA(a b c d e g h i j k:Nat):IFn:=irJ 122 [164,a,165,b,166,c,155,d,90,e,41,g,167,h,168,i,169,j,170,k] [7] [qck a b c d e g h i j k]
def gdT(l:List Int)(i:Nat):Bool:=decide ((i:Int) ∈ l)
def qqW{n0 sb bK bA K:Nat}{Ub:Nat->Kd}{tb:Tr Blk}(W:WFn P g gl gp gj gh gr)(hd:Ck P gd zj)(hj:Ck P g qS)(h:WI g w U s tr RV [])(hK:RV.length=K)(hb:RV.length<=1000)(st:Stp [bK,bA] Ub sb tb U s tr)(hdm:∀b,Ub b≠.no->b<sb)(hno:∀b F,Ub b≠.lab F false)
  (kK:U bK = .lab K false) (kA:U bA = .lab (K+1) false) (nK:Ub bK = .no) (nA:Ub bA = .no) {t:Tr AV}(ht:Has t [(4,.ptr w 0),(5,.ptr bK 0),(6,.ptr bA 0)]) :
  S P n0 (qaF g1 g2 gl g4 g5 g6 gj gh gr gd) (xG [.tmp 2,.tmp 3] λv' h'=>Frz h' v' (.tup [.fz (gdF RV).length (rSy (gdF RV)),.j 0])) t ⟨s,0,tr⟩:=by
 refine Ew ?_;subst hK;unfold gdF;have hne:bA≠bK:=Ah
 simp only[qaF,vI,simprocAttr];refine Ab ?_;refine qaP W.here h kK λt1 q1 q2 w1=>?_
 refine Ab ?_;have st1:Stp [bA] Ub sb tb (kdS U bK (.lab RV.length true)) s t1:=st.kd' nK q1 q2 λc hc=>Ad
 refine qoI W.ret W.put w1 2147483648 Ac λU2 s2 t2 st2 w2=>?_
 refine Ab ?_;have st12:=st1.trans st2
 have kA2:U2 bA = .lab (RV++[(⟨6,2147483648,0,0⟩:Sy)]).length false:=by
  rw[zzP];exact st2.lab _ _ _ (by rw[qi hne];exact kA)
 refine qaP W.here w2 kA2 λt3 q3 q4 w3=>?_
 refine Ab ?_;have st3:Stp [] Ub sb tb (kdS U2 bA (.lab (RV++[(⟨6,2147483648,0,0⟩:Sy)]).length true)) s2 t3:=st12.kd' nA q3 q4 λc hc=>Ad
 refine qoI W.ret W.put w3 2147418112 Ah λU4 s4 t4 st4 w4=>?_
 refine Ab ?_;have st34:=st3.trans st4;refine qxq hd hj w4 (λb F p hb=>?_) Ah λt5 b hb hbs=>?_
 .cases p with
  | true=>rfl
  | false => rcases st34.nw b F hb with q|q
             all_goals simp_all
 refine Ab ?_;simp[vZ,vP,hb];exact Frzs.self (x4 λ_=>rfl)
def qx1{n0 sb bK bA:Nat}{Ub:Nat->Kd}{tb:Tr Blk}{m:Nat->Bool}{b:Bool}(W:WFn P g gl gp gj gh gr)(hd:Ck P gd zj)(hj:Ck P g qS)(c6:qqo P g6)(h:WI g w U s tr (gdE m b (gdK m b+1) 6) [])(st:Stp [bK,bA] Ub sb tb U s tr)(hdm:∀b,Ub b≠.no->b<sb)(hno:∀b F,Ub b≠.lab F false)
  (kK:U bK = .lab (gdK m b) false) (kA:U bA = .lab (gdK m b+1) false) (nK:Ub bK = .no) (nA:Ub bA = .no) {t:Tr AV}(ht:Has t [(4,.ptr w 0),(5,.ptr bK 0),(6,.ptr bA 0),(8,.j (gdL m b 6))]) :
  S P n0 (qcn g1 g2 gl g4 g5 g6 gj gh gr gd) (xG [.tmp 2,.tmp 3] λv' h'=>Frz h' v' (.tup [.fz (gdF (gdY m b)).length (rSy (gdF (gdY m b))),.j 0])) t ⟨s,0,tr⟩:=by
 have hlen:=qsf (m:=m) (b:=b) (A:=gdK m b+1) (i:=6);have hl0:=qpr (m:=m) (b:=b) (A:=gdK m b+1) (i:=6);have hr:=qtd (m:=m) (b:=b) (i:=6);have hY:=qBP (m:=m) (b:=b);refine Ew ?_;simp only[qcn,vI,simprocAttr]
 by_cases hn:0<=gdL m b 6
 .have eY:gdY m b=gdE m b (gdK m b+1) 6++gdZ (gdL m b 6) (gdE m b (gdK m b+1) 6).length (gdK m b) (gdK m b+1):=by unfold gdY;rw[if_pos hn,hl0]
  generalize gdL m b 6=la at *;generalize gdE m b (gdK m b+1) 6=RV at *;refine Sa hn ?_;have w1:=h.new (.lab (RV.length+1) false) _ (.inr (.inr (.inr ⟨_,rfl,rfl⟩)));have st1:=h.stpLab (.lab (RV.length+1) false) (.v [.j 0]);have hon:=qH (U:=U) (b:=s) (x:=.lab (RV.length+1) false);refine(c6 la hn Ac).sc ?_;refine Ab ?_;have hK1:=st1.lab _ _ _ kK;have hA1:=st1.lab _ _ _ kA;refine qe1 W.jmp W.put w1 ⟨21,qb7 la,RV.length+1,gdK m b⟩ hon Ad Ac λU2 s2 t2 st2 w2=>?_
  refine Ab ?_;have hon2:=st2.lab _ _ _ hon;have le1:=st.le;have st12:=(st.trans st1).trans st2
  have ns:Ub s = .no:=Ah
  refine qaP W.here w2 (p:=false) (b:=s) (by rw[hon2];simp) λt3 q1 q2 w3=>?_
  refine Ab ?_;have st3:Stp [bK,bA] Ub sb tb (kdS U2 s (.lab (RV++[(⟨21,qb7 la,RV.length+1,gdK m b⟩:Sy)]).length true)) s2 t3:=st12.kd' ns q1 q2 λc hc=>Ah
  have hsK:bK≠s:=λe=>by rw[e]at kK;rw[h.fresh]at kK;cases kK
  have hsA:bA≠s:=λe=>by rw[e]at kA;rw[h.fresh]at kA;cases kA
  refine qm2 W.ld W.put w3 0 Ah λU4 s4 t4 st4 w4=>?_
  refine Ab ?_;have hK4:=st4.lab _ _ _ ((qi (U:=U2) (x:=.lab (RV++[(⟨21,qb7 la,RV.length+1,gdK m b⟩:Sy)]).length true) hsK).trans (st2.lab _ _ _ hK1));have hA4:=st4.lab _ _ _ ((qi (U:=U2) (x:=.lab (RV++[(⟨21,qb7 la,RV.length+1,gdK m b⟩:Sy)]).length true) hsA).trans (st2.lab _ _ _ hA1));have st34:=st3.trans st4
  have fin:∀U5 s5 t5 y,Stp [] U4 s4 t4 U5 s5 t5->WI g w U5 s5 t5 (RV++[⟨21,qb7 la,RV.length+1,gdK m b⟩]++[⟨32,0,0,0⟩]++[y]) []->y=(if la=2 then⟨69,1073741824,gdK m b+1,gdK m b⟩else⟨69,1073741824,gdK m b,gdK m b+1⟩)->∀t,Has t [(4,.ptr w 0),(5,.ptr bK 0),(6,.ptr bA 0)]->
    S P n0 (qaF g1 g2 gl g4 g5 g6 gj gh gr gd) (xG [.tmp 2,.tmp 3] λv' h'=>Frz h' v' (.tup [.fz (gdF (gdY m b)).length (rSy (gdF (gdY m b))),.j 0])) t ⟨s5,0,t5⟩:=λU5 s5 t5 y st5 w5 hy t ht=>by
   have e:RV++[⟨21,qb7 la,RV.length+1,gdK m b⟩]++[⟨32,0,0,0⟩]++[y]=gdY m b:=by rw[eY,hy];simp[gdZ]
   rw[e]at w5;exact qqW W hd hj w5 hY (by rw[<- e];exact Ah) (st34.trans st5) hdm hno (st5.lab _ _ _ hK4) (st5.lab _ _ _ hA4) nK nA ht
  by_cases h2:la=2
  .refine Sa h2 ?_;subst h2;refine qe1 W.jmp W.put w4 ⟨69,1073741824,gdK m b+1,gdK m b⟩ hA4 Ad Ah λU5 s5 t5 st5 w5=>?_
   refine Ab ?_;exact fin _ _ _ _ st5 w5 (by simp) _ Ak
  .refine Sa h2 ?_;refine qe1 W.jmp W.put w4 ⟨69,1073741824,gdK m b,gdK m b+1⟩ hK4 Ad Ah λU5 s5 t5 st5 w5=>?_
   refine Ab ?_;exact fin _ _ _ _ st5 w5 Ah _ Ak
 .have eY:gdY m b=gdE m b (gdK m b+1) 6:=by unfold gdY;rw[if_neg hn,List.append_nil]
  refine Sa hn ?_;rw[<- eY]at h hlen;exact qqW W hd hj h hY Ac st hdm hno kK kA nK nA Ak
def qx0{n0 sb bK bA:Nat}{Ub:Nat->Kd}{tb:Tr Blk}(l:List Int)(bb:Bool)(W:WFn P g gl gp gj gh gr)(hd:Ck P gd zj)(hj:Ck P g qS)(c6:qqo P g6)(c4:∀x,qa P g4 [.fz l.length (rI .i64 l),.j x] (.b (decide (x ∈ l))))(c5:qa P g5 [] (.fz 6 (rI .i64 [0,1,2,3,4,5])))
  (h:WI g w U s tr [⟨32,4,0,0⟩] []) (st:Stp [bK,bA] Ub sb tb U s tr) (hdm:∀b,Ub b≠.no->b<sb) (hno:∀b F,Ub b≠.lab F false)
  (kK:U bK = .lab (gdK (gdT l) bb) false) (kA:U bA = .lab (gdK (gdT l) bb+1) false) (nK:Ub bK = .no) (nA:Ub bA = .no) {t:Tr AV}(ht:Has t [(0,.fz l.length (rI .i64 l)),(4,.ptr w 0),(5,.ptr bK 0),(6,.ptr bA 0),(7,.b bb),(8,.j (-1))]) :
  S P n0 (qcm g1 g2 gl g4 g5 g6 gj gh gr gd) (xG [.tmp 2,.tmp 3] λv' h'=>Frz h' v' (.tup [.fz (gdF (gdY (gdT l) bb)).length (rSy (gdF (gdY (gdT l) bb))),.j 0])) t ⟨s,0,tr⟩:=by
 refine Ew ?_;simp only[qcm,vI,simprocAttr];refine Ab ?_;refine c5.sc ?_;refine Ab ?_
 refine SL.loopP (α:=Nat) (λi=>[(0,.fz l.length (rI .i64 l)),(4,.ptr w 0),(5,.ptr bK 0),(6,.ptr bA 0),(7,.b bb),(8,.j (gdL (gdT l) bb i)),(38,.fz 6 (rI .i64 [0,1,2,3,4,5])),(39,.j 6),(40,.j (i:Int))])
  (λi h=>i<=6/\∃U' s' tr',h=⟨s',0,tr'⟩/\Stp [bK,bA] Ub sb tb U' s' tr'/\WI g w U' s' tr' (gdE (gdT l) bb (gdK (gdT l) bb+1) i) []/\U' bK = .lab (gdK (gdT l) bb) false/\U' bA = .lab (gdK (gdT l) bb+1) false) (λi=>6-i) ?_ 0 ?_ ?_
 .rintro i h1 ⟨hi,U',s',tr',rfl,st',w',kK',kA'⟩ G ih;refine Am ?_
  by_cases hlt:i<6
  .have hlt':(i:Int)<6:=Ac
   have hx:(rI .i64 [0,1,2,3,4,5])[i]?=some (.j (i:Int)):=by
    match i,hlt with
    | 0,_=>rfl
    | 1,_=>rfl
    | 2,_=>rfl
    | 3,_=>rfl
    | 4,_=>rfl
    | 5,_=>rfl
   have hw1:=wS i;have hle:=qsf (m:=gdT l) (b:=bb) (A:=gdK (gdT l) bb+1) (i:=i);have ci:qa P g4 [.fz l.length (rI .i64 l),.j (i:Int)] (.b (gdT l i)):=c4 i;have le1:=st'.le;simp +decide only[↓vS,vT,simprocAttr,hlt',hlt,hx,zzU];refine ci.sc ?_;cases hm:gdT l i with
   | false =>
    refine Sa hw1 ?_;refine ih (i+1) _ _ Ac ?_ ⟨Ac,U',s',tr',rfl,st',?_,kK',kA'⟩
    .simp[qh,qk,zz4,gdL,hm]
    .simpa[gdE,hm]using w'
   | true =>
    refine Ab ?_;refine(c6 i Ac hlt').sc ?_;refine Ab ?_
    have skip:qkB bb i=false->∀t',Has t' [(0,.fz l.length (rI .i64 l)),(4,.ptr w 0),(5,.ptr bK 0),(6,.ptr bA 0),(7,.b bb),(8,.j (gdL (gdT l) bb (i+1))),(38,.fz 6 (rI .i64 [0,1,2,3,4,5])),(39,.j 6),(40,.j ((i+1:Nat):Int))]->G t' ⟨s'+1,0,tr'.set s' (.v [.j 0])⟩:=λhs t' ht'=>by
     have w1:=w'.new .no (.v [.j 0]) (.inl rfl);have st1:=st'.trans (w'.stpNew .no (.v [.j 0]) (by simp));refine ih (i+1) _ _ Ac ht' ⟨Ac,_,_,_,rfl,st1,?_,(w'.stpNew .no (.v [.j 0]) (by simp)).lab _ _ _ kK',(w'.stpNew .no (.v [.j 0]) (by simp)).lab _ _ _ kA'⟩
     simpa[gdE,hs]using w1
    have go:qkB bb i=true->∀Q:AV->Hp->Prop,(∀U2 s2 t2,Stp [] (kdS U' s' (.lab ((gdE (gdT l) bb (gdK (gdT l) bb+1) i).length+1) false)) (s'+1) (tr'.set s' (.v [.j 0])) U2 s2 t2->WI g w U2 s2 t2 (gdE (gdT l) bb (gdK (gdT l) bb+1) (i+1)) []->Q (.tup []) ⟨s2,0,t2⟩)->SC P gj [.ptr w 0,.h 21,.w (qb7 (i:Int)),.ptr bA 0,.ptr s' 0] ⟨s'+1,0,tr'.set s' (.v [.j 0])⟩ Q:=λhs Q hQ=>by
     have w1:=w'.new (.lab ((gdE (gdT l) bb (gdK (gdT l) bb+1) i).length+1) false) _ (.inr (.inr (.inr ⟨_,rfl,rfl⟩)));have st1:=w'.stpLab (.lab ((gdE (gdT l) bb (gdK (gdT l) bb+1) i).length+1) false) (.v [.j 0]);refine qe1 W.jmp W.put w1 ⟨21,qb7 (i:Int),gdK (gdT l) bb+1,(gdE (gdT l) bb (gdK (gdT l) bb+1) i).length+1⟩ (st1.lab _ _ _ kA') (.inr ⟨(Af:(21:Int)≠5),s',false,rfl,qH⟩) Ac λU2 s2 t2 st2 w2=>hQ U2 s2 t2 st2 ?_
     simpa[gdE,hs,hm]using w2
    have ns:Ub s' = .no:=Ah
    have nK':bK≠s':=λe=>by rw[e]at kK';rw[w'.fresh]at kK';exact Ah
    have nA':bA≠s':=λe=>by rw[e]at kA';rw[w'.fresh]at kA';exact Ah
    by_cases i0:i=0
    .have j0:((i:Int)=0)=True:=eq_true Ac;cases bb with
     | false =>
      refine Sa (zzA j0 hw1) ?_;have hs:qkB false i=false:=by simp[qkB,i0]
      exact Fl
     | true =>
      have hs:qkB true i=true:=by simp[qkB,i0]
      refine Sa j0 ?_;refine go hs _ λU2 s2 t2 st2 w2=>?_
      refine Ab ?_;refine qaP W.here w2 (p:=false) (b:=s') H4 λt3 q1 q2 w3=>?_
      refine Sa hw1 ?_;refine ih (i+1) _ _ Ac ?_ ⟨Ac,_,_,_,rfl,((st'.trans (w'.stpLab (.lab ((gdE (gdT l) true (gdK (gdT l) true+1) i).length+1) false) (.v [.j 0]))).trans st2).kd' ns q1 q2 (λc hc=>Ah),w3,?_,?_⟩
      .simp[qh,qk,zz4,gdL,hm,hs]
      .rw[qi nK'];exact st2.lab _ _ _ (((qi nK').trans kK'))
      .rw[qi nA'];exact st2.lab _ _ _ (((qi nA').trans kA'))
    .have j0:((i:Int)=0)=False:=eq_false Ac
     by_cases i2:i=2
     .have j2:((i:Int)=2)=True:=eq_true Ac;cases bb with
      | false =>
       refine Sa (zzA j0 (zzA j2 hw1)) ?_;have hs:qkB false i=false:=by simp[qkB,i2]
       exact Fl
      | true =>
       refine Sa (zzA j0 (zzA j2 hw1)) ?_;have hs:qkB true i=false:=by simp[qkB,i2]
       exact Fl
     .have j2:((i:Int)=2)=False:=eq_false Ac;have hs:qkB bb i=true:=by simp[qkB,i0,i2]
      refine Sa (zzA j0 j2) ?_;refine go hs _ λU2 s2 t2 st2 w2=>?_
      refine Ab ?_;refine qaP W.here w2 (p:=false) (b:=s') H4 λt3 q1 q2 w3=>?_
      refine Sa hw1 ?_;refine ih (i+1) _ _ Ac ?_ ⟨Ac,_,_,_,rfl,((st'.trans (w'.stpLab (.lab ((gdE (gdT l) bb (gdK (gdT l) bb+1) i).length+1) false) (.v [.j 0]))).trans st2).kd' ns q1 q2 (λc hc=>Ah),w3,?_,?_⟩
      .simp[qh,qk,zz4,gdL,hm,hs]
      .rw[qi nK'];exact st2.lab _ _ _ (((qi nK').trans kK'))
      .rw[qi nA'];exact st2.lab _ _ _ (((qi nA').trans kA'))
  .obtain rfl:i=6:=Ac
   refine Ab ?_;exact qx1 W hd hj c6 w' st' hdm hno kK' kA' nK nA Ak
 .simp[qh,qk,zz4,gdL]
 .exact⟨zzu _,U,s,tr,rfl,st,h,kK,kA⟩
def qxZ{n0 sb bK bA:Nat}{Ub:Nat->Kd}{tb:Tr Blk}(l:List Int)(W:WFn P g gl gp gj gh gr)(hd:Ck P gd zj)(hj:Ck P g qS)(c6:qqo P g6)(c4:∀x,qa P g4 [.fz l.length (rI .i64 l),.j x] (.b (decide (x ∈ l))))(c5:qa P g5 [] (.fz 6 (rI .i64 [0,1,2,3,4,5])))
  (h:WI g w U s tr [] []) (st:Stp [bK,bA] Ub sb tb U s tr) (hdm:∀b,Ub b≠.no->b<sb) (hno:∀b F,Ub b≠.lab F false)
  (kK:U bK = .lab (gdK (gdT l) (gdT l 0&&gdT l 2)) false) (kA:U bA = .lab (gdK (gdT l) (gdT l 0&&gdT l 2)+1) false) (nK:Ub bK = .no) (nA:Ub bA = .no) {t:Tr AV}(ht:Has t [(0,.fz l.length (rI .i64 l)),(4,.ptr w 0),(5,.ptr bK 0),(6,.ptr bA 0)]) :
  S P n0 (qcl g1 g2 gl g4 g5 g6 gj gh gr gd) (xG [.tmp 2,.tmp 3] λv' h'=>Frz h' v' (.tup [.fz (gdR (gdT l)).length (rSy (gdR (gdT l))),.j 0])) t ⟨s,0,tr⟩:=by
 refine Ew ?_;have b0:qa P g4 [.fz l.length (rI .i64 l),.j 0] (.b (gdT l 0)):=c4 0;have b2:qa P g4 [.fz l.length (rI .i64 l),.j 2] (.b (gdT l 2)):=c4 2;simp only[qcl,vI,simprocAttr];refine Ab ?_;refine qm2 W.ld W.put h 4 (by simp) λU1 s1 t1 st1 w1=>?_
 rw[zzN]at w1;have kK1:=st1.lab _ _ _ kK;have kA1:=st1.lab _ _ _ kA;have fin:=λbb (e:(gdT l 0&&gdT l 2)=bb) t ht=>qx0 (n0:=n0) (g1:=g1) (g2:=g2) (t:=t) l bb W hd hj c6 c4 c5 w1 (st.trans st1) hdm hno (by rw[<- e];exact Ac) (by rw[<- e];exact Ac) nK nA ht
 unfold gdR;refine Ab ?_;refine b0.sc ?_;cases e0:gdT l 0 with
 | false =>
  refine Ab ?_;rw[e0]at fin;refine fin _ rfl _ ?_;exact Ak
 | true =>
  refine Ab ?_;refine b2.sc ?_;cases e2:gdT l 2 with
  | false =>
   refine Ab ?_;rw[e0,e2]at fin;refine fin _ rfl _ ?_;exact Ak
  | true =>
   refine Ab ?_;rw[e0,e2]at fin;refine fin _ rfl _ ?_;exact Ak
def qnL(l:List Int):Bool:=decide (l=[])||l.any λa=>decide (a<0)||decide (6<=a)
def gdA(l:List Int):List Sy×Int:=if qnL l=true then([],2)else(gdR (gdT l),0)
def qxY{n0:Nat}(l:List Int)(W:WFn P g gl gp gj gh gr)(hd:Ck P gd zj)(hj:Ck P g qS)(c6:qqo P g6)(c4:∀x,qa P g4 [.fz l.length (rI .i64 l),.j x] (.b (decide (x ∈ l))))(c5:qa P g5 [] (.fz 6 (rI .i64 [0,1,2,3,4,5])))(hn:n0=0)
  {t':Tr AV}{h':Hp}(hw:Wk 0 t' h' (mkT [(0,.fz l.length (rI .i64 l))]) (mkH 0 [])) :
  S P n0 (qck g1 g2 gl g4 g5 g6 gj gh gr gd) (xG [.tmp 2,.tmp 3] λv' h'=>Frz h' v' (.tup [.fz (gdR (gdT l)).length (rSy (gdR (gdT l))),.j 0])) t' h':=by
 subst hn;refine B4 ?_;simp only[qck,vI,simprocAttr];refine Ab ?_;refine S.weak (Wk.mk [(0,.fz l.length (rI .i64 l)),(4,.ptr 0 0),(5,.ptr 1 0),(6,.ptr 2 0)] [.v [.own 3 0,.own 4 0],.v [.j 0],.v [.j 0],.cells 4 true true [],.cells 1 true true []] [0,1,2,99,99] ?_ ?_ ?_ rfl) ?_
 .simp[vw,qg]
 .simp[vw]
 .simp
 refine Am ?_;generalize hKp:gdK (gdT l) (gdT l 0&&gdT l 2)=Kp
 have hW:∀k1 k2:Kd,(k1 = .no\/k1 = .lab Kp false)->(k2 = .no\/k2 = .lab (Kp+1) false)->WI g 0 (λb=>if b=0 then .w else if b=1 then k1 else if b=2 then k2 else if b=3 then .l else if b=4 then .t else .no) 5 (((((Tr.leaf.set 0 (.v [.own 3 0,.own 4 0])).set 1 (.v [.j 0])).set 2 (.v [.j 0])).set 3 (.cells 4 true true [])).set 4 (.cells 1 true true [])) [] []:=λk1 k2 h1 h2=>by
  refine⟨λb hb=>?_,⟨3,4,[],[],rfl,rfl,rfl,?_,?_,?_,trivial,by simp,λj y hy=>by simp at hy⟩,λb F p hb=>?_⟩
  .by_cases e:b<5
   .exact e
   .rw[if_neg Ac,if_neg Ac,if_neg Ac,if_neg Ac,if_neg Ac]at hb;exact absurd rfl hb
  .exact Bn
  .simp[zz4,rSy]
  .exact Bn
  .split at hb
   .cases hb
   split at hb
   .rename_i e;subst e;rcases h1 with rfl|rfl
    .cases hb
    .cases hb;exact⟨0,Bn,by simp⟩
   split at hb
   .rename_i e;subst e;rcases h2 with rfl|rfl
    .cases hb
    .cases hb;exact⟨0,Bn,by simp⟩
   exact Id
 refine qxZ (bK:=1) (bA:=2) (Ub:=λb=>if b=0 then .w else if b=1 then .no else if b=2 then .no else if b=3 then .l else if b=4 then .t else .no) (sb:=5) (tb:=(((((Tr.leaf.set 0 (.v [.own 3 0,.own 4 0])).set 1 (.v [.j 0])).set 2 (.v [.j 0])).set 3 (.cells 4 true true [])).set 4 (.cells 1 true true [])))
  l W hd hj c6 c4 c5 (hW (.lab Kp false) (.lab (Kp+1) false) (.inr rfl) (.inr rfl)) ⟨zzL _,λb hb=>⟨?_,rfl⟩,λb hb=>⟨?_,rfl⟩,λb F p hb=>?_,λb F hb=>?_⟩ Ah ?_ (by rw[hKp];rfl) (by rw[hKp];rfl) rfl rfl ?_
 all_goals first|(simp[qh,qk,zz4];done)|skip
 all_goals grind
end
section
variable {g gl gp gj gh gr gd g1 g2 g4 g5 g6:Nat}
def qgy:IFn:=irJ 165 []
def qLf(hc:Ck P f qgy)(a:Int):qa P f [.j a] (.b (decide (a<0)||decide (6<=a))):=by
 refine Al ?_;simp only[qgy,vI,simprocAttr]
 by_cases h:a<0
 .refine Sa h ?_;simp[vZ]
 .refine Sa h ?_;simp[vZ]
def jO(a:Nat):IFn:=irJ 164 [227,a]
def qAp{g:Nat}(hc:Ck P f (jO g))(h:qwT P g)(l:List Int)(k:Nat)(p:Int->Bool)(hk:∀c,qa P k [.j c] (.b (p c)))(hl:l.length<=qe):qa P f [.fz l.length (rI .i64 l),.fn k [] []] (.b (l.any p)):=by
 refine Bg ?_;simp only[jO,vI,simprocAttr];refine Ae ?_;refine(h (λx:Int=>.j x) p k [] [] l rfl rfl hl λx _=>hk x).sc ?_
 refine Ae ?_;simp[vZ,<- qmO p l 0]
def qIm(hc:Ck P f (qiA g1 g2 gl g4 g5 g6 gj gh gr gd))(W:WFn P g gl gp gj gh gr)(hd:Ck P gd zj)(hj:Ck P g qS)(c6:qqo P g6)(c1:∀l:List Int,l.length<=qe->qa P g1 [.fz l.length (rI .i64 l),.fn g2 [] []] (.b (l.any λa=>decide (a<0)||decide (6<=a))))
  (c4:∀(l:List Int) (x:Int),l.length<=qe->qa P g4 [.fz l.length (rI .i64 l),.j x] (.b (decide (x ∈ l)))) (c5:qa P g5 [] (.fz 6 (rI .i64 [0,1,2,3,4,5]))) (l:List Int) (hl:l.length<=qe) :
  qa P f [.fz l.length (rI .i64 l)] (.tup [.fz (gdA l).1.length (rSy (gdA l).1),.j (gdA l).2]):=by
 refine Bg ?_;have e1:=c1 l hl;simp only[qiA,vI,simprocAttr];unfold gdA qnL
 by_cases h:l.length=0
 .have h':((l.length:Int)=0)=True:=eq_true Ac;have hn:l=[]:=Ad
  rw[hn];refine Ab ?_;simp[vZ,rSy]
 .have h':((l.length:Int)=0)=False:=eq_false Ac;have hn:decide (l=[])=false:=Ad
  rw[hn,Bool.false_or];refine Sa h' ?_;refine e1.sc ?_;cases hb:l.any λa=>decide (a<0)||decide (6<=a)with
  | true =>
   refine Ab ?_;simp[vZ,rSy]
  | false =>
   refine Ab ?_;refine qxY l W hd hj c6 (λx=>c4 l x hl) c5 rfl (Wk.mk _ _ [] ?_ ?_ ?_ rfl)
   .simp[vw,qg]
   .trivial
   .simp
end
end
section
variable [Cur]
def qkE:List Int:=[3221225534,1073741827,1073741864,3221225655,3221225715]
def evG(R:List Sy)(c:Int)(z:Bool):Nat->Nat->Nat->Option Int
 | 0,_,_=>none
 | n+1,p,w=>match R[p]? with
  | none=>none
  | some s=>if s.code=32 then(if s.k=4 then evG R c z n (p+1) 1 else if s.k=0 then evG R c z n (p+1) 2 else none)
   else if s.code=6 then some s.k
   else if s.code=21 then(if w=1/\qkE.contains s.k=true then evG R c z n (if c=s.k then s.th else s.el) w else none)
   else if s.code=69 then(if w=2/\s.k=1073741824 then evG R c z n (if z=true then s.th else s.el) w else none)
   else none
def qkO{R:List Sy}{d:GData}{c:Int}{z:Bool}(hc:∀K ∈ qkE,(d.arch=K↔c=K))(hz:z=decide (0<xK .u32 d.nr 1073741824)):∀(n p w:Nat) (a r:Int),(w=1->a=d.arch)->(w=2->a=d.nr)->evG R c z n p w=some r->Ev R d p a r
 | 0,p,w,a,r,_,_,h=>by simp[evG]at h
 | n+1,p,w,a,r,h1,h2,h=>by
  unfold evG at h;cases hs:R[p]? with
  | none=>rw[hs]at h;cases h
  | some s =>
   rw[hs]at h;simp only at h;split at h
   .rename_i e;split at h
    .rename_i e4;exact .ld p a r s hs e (qkO hc hz n _ 1 _ r (λ_=>by rw[e4];rfl) Ac h)
    split at h
    .rename_i e0;exact .ld p a r s hs e (qkO hc hz n _ 2 _ r Ac (λ_=>by rw[e0];rfl) h)
    .cases h
   split at h
   .rename_i e;cases h;exact .rt p a s hs e
   split at h
   .rename_i e;split at h
    .rename_i hw
     have ek:qbI s.code a s.k=decide (c=s.k):=by
      rw[e,h1 hw.1];unfold qbI;rw[if_pos rfl];exact Ad
     refine .jc p a r s hs (.inl e) ?_;rw[ek];simp only[zzb];exact qkO hc hz n _ w a r h1 h2 h
    .cases h
   split at h
   .rename_i e;split at h
    .rename_i hw
     have ek:qbI s.code a s.k=z:=by
      rw[e,h2 hw.1,hw.2,hz];rfl
     refine .jc p a r s hs (.inr (.inr (.inr e))) ?_;rw[ek];exact qkO hc hz n _ w a r h1 h2 h
    .cases h
   exact Ah
instance {s:Sy}{j n:Nat}:Decidable (qfC s j n):=by unfold qfC qem;infer_instance
def qGu(R:List Sy):Bool:=decide (0<R.length)&&decide (R.length<=10)&&decide ((R.getD (R.length-1) ⟨0,0,0,0⟩).code=6)&&(List.range R.length).all (λj=>decide (qfC (R.getD j ⟨0,0,0,0⟩) j R.length))&&R.all λx=>decide (0<=x.k/\x.k<=4294967295)
def qsm(c:Int)(z:Bool):Option Nat:=if c=3221225534 then some (if z=true then 2 else 0)else if c=1073741827 then some 1 else if c=1073741864 then some 3 else if c=3221225655 then some 4 else if c=3221225715 then some 5 else none
def qky(m:Nat->Bool)(o:Option Nat):Int:=match o with
 | some a=>if m a=true then 2147418112 else 2147483648
 | none=>2147483648
def okG(m:Nat->Bool):Bool:=qGu (gdR m)&&((-1)::qkE).all λc=>[false,true].all λz=>decide (evG (gdR m) c z 16 0 0=some (qky m (qsm c z)))
def mkG(m0 m1 m2 m3 m4 m5:Bool)(i:Nat):Bool:=match i with|0=>m0|1=>m1|2=>m2|3=>m3|4=>m4|_=>m5
def qJn:Bool:=[false,true].all λm0=>[false,true].all λm1=>[false,true].all λm2=>[false,true].all λm3=>[false,true].all λm4=>[false,true].all λm5=>!(m0||m1||m2||m3||m4||m5)||okG (mkG m0 m1 m2 m3 m4 m5)
def qAB:qJn=true:=Aa
section
variable {m m':Nat->Bool}
def qog{b:Bool}{A:Nat}:∀{i:Nat},(∀j,j<i->m j=m' j)->gdE m b A i=gdE m' b A i/\gdL m b i=gdL m' b i
 | 0,_=>⟨rfl,rfl⟩
 | i+1,h=>by
  have h1:=qog (b:=b) (A:=A) (i:=i) Ah;have h2:=h i Ac;unfold gdE gdL;rw[h1.1,h1.2,h2];exact Ad
def qu5(h:∀j,j<6->m j=m' j):gdR m=gdR m':=by
 have hb:(m 0&&m 2)=(m' 0&&m' 2):=by rw[h 0 Ac,h 2 Ac]
 have e:∀b A,gdE m b A 6=gdE m' b A 6/\gdL m b 6=gdL m' b 6:=λb A=>qog h
 unfold gdR gdY gdK;rw[hb];simp only[(e _ _).1,(e _ 0).2]
def qGY(h:(m 0||m 1||m 2||m 3||m 4||m 5)=true):qGu (gdR m)=true/\∀c ∈ (-1)::qkE,∀z:Bool,evG (gdR m) c z 16 0 0=some (qky m (qsm c z)):=by
 have hb:∀b:Bool,b ∈ [false,true]:=Af
 have h0:=qAB;unfold qJn at h0;have h1:=zzy.1 (zzy.1 (zzy.1 (zzy.1 (zzy.1 (zzy.1 h0 (m 0) (hb _)) (m 1) (hb _)) (m 2) (hb _)) (m 3) (hb _)) (m 4) (hb _)) (m 5) (hb _);rw[h]at h1;have h2:okG (mkG (m 0) (m 1) (m 2) (m 3) (m 4) (m 5))=true:=Eb
 have em:∀j,j<6->mkG (m 0) (m 1) (m 2) (m 3) (m 4) (m 5) j=m j:=λj hj=>by
  match j,hj with
  | 0,_=>rfl
  | 1,_=>rfl
  | 2,_=>rfl
  | 3,_=>rfl
  | 4,_=>rfl
  | 5,_=>rfl
 unfold okG at h2;rw[qu5 em,zzB]at h2;refine⟨h2.1,λc hc z=>?_⟩
 have h3:=zzy.1 (zzy.1 h2.2 c hc) z (hb z);rw[zzb]at h3;rw[h3]
 have es:∀o:Option Nat,(∀a,o=some a->a<6)->qky (mkG (m 0) (m 1) (m 2) (m 3) (m 4) (m 5)) o=qky m o:=λo ho=>by
  cases o with
  | none=>rfl
  | some a=>unfold qky;simp only;rw[em a (ho a rfl)]
 rw[es];intro a ha;unfold qsm at ha
 repeat' split at ha
 all_goals grind
end
def qCA(t n:Int):ofM t n=if t=3221225534 then(if xK .u32 n 1073741824≠0 then(2,true)else(0,true))else if t=1073741827 then(1,true)else if t=1073741864 then(3,true)else if t=3221225655 then(4,true)else if t=3221225715 then(5,true)else(0,false):=by
 unfold ofM
 by_cases h1:t=3221225534
 .simp[h1,zO,xH]
 by_cases h2:t=1073741827
 .simp[h2,zO,xH]
 by_cases h3:t=1073741864
 .simp[h3,zO,xH]
 by_cases h4:t=3221225655
 .simp[h4,zO,xH]
 by_cases h5:t=3221225715
 .simp[h5,zO,xH]
 simp only[h1,h2,h3,h4,h5,zO,xH,eq_comm (b:=t),if_false];simp
def gdM(l:List Int)(d:GData):Int:=if(ofM d.arch d.nr).2=true/\(ofM d.arch d.nr).1 ∈ l then 2147418112 else 2147483648
def qte(l:List Int)(d:GData){c:Int}(hc:(d.arch=c/\c ∈ qkE)\/(c = -1/\d.arch ∉ qkE)):qky (gdT l) (qsm c (decide (0<xK .u32 d.nr 1073741824)))=gdM l d:=by
 unfold gdM;rw[qCA];have hz:0<=xK .u32 d.nr 1073741824:=qsL _ _;generalize xK .u32 d.nr 1073741824=z at hz;rcases hc with⟨e,hm⟩|⟨rfl,hm⟩
 .subst e;simp only[qkE,zzc,List.not_mem_nil,or_false]at hm
  by_cases h0:z=0
  .rcases hm with e|e|e|e|e<;>simp[e,h0,qsm,qky,gdT]
  .have h1:0<z:=Ac
   rcases hm with e|e|e|e|e<;>simp[e,h0,h1,qsm,qky,gdT]
 .simp only[qkE,zzc,List.not_mem_nil,or_false,not_or]at hm;obtain⟨h1,h2,h3,h4,h5⟩:=hm;simp[h1,h2,h3,h4,h5,qsm,qky]
def qER{l:List Int}(h:qnL l=false):(gdT l 0||gdT l 1||gdT l 2||gdT l 3||gdT l 4||gdT l 5)=true:=by
 cases l with
 | nil=>cases h
 | cons a l =>
  have h1:¬a<0/\¬6<=a:=by
   simp only[qnL,List.any_cons,Bool.or_eq_false_iff,decide_eq_false_iff_not]at h;exact h.2.1
  have e:∀i:Nat,(i:Int)=a->gdT (a::l) i=true:=λi hi=>by unfold gdT;rw[hi];simp
  have ha:a=0\/a=1\/a=2\/a=3\/a=4\/a=5:=Ac
  exact Ah
theorem qxR{l:List Int}(h:qnL l=false):MayL (gdR (gdT l))/\wO (gdR (gdT l))/\(gdR (gdT l)).length<=10/\∀d,DatOk d->Ev (gdR (gdT l)) d 0 0 (gdM l d):=by
 obtain⟨h1,h2⟩:=qGY (qER h);generalize hR:gdR (gdT l)=R at h1 h2;unfold qGu at h1;simp only[zzB,zzb,zzy]at h1;obtain⟨⟨⟨⟨p1,p2⟩,p3⟩,p4⟩,p5⟩:=h1;have gd:∀(j:Nat) s,R[j]?=some s->R.getD j ⟨0,0,0,0⟩=s:=λj s hj=>by rw[zzs,hj];rfl
 refine⟨⟨p1,Ac,⟨_,zzE Ac,?_⟩,λj s hj=>?_⟩,λx hx=>p5 x hx,p2,λd hd=>?_⟩
 .rw[gd _ _ (zzE (Ac:R.length-1<R.length))]at p3;exact p3
 .have:=p4 j (List.mem_range.2 (zzS.1 hj).1);rw[gd _ _ hj]at this;exact this
 .by_cases hm:d.arch ∈ qkE
  .rw[<- qte l d (.inl ⟨rfl,hm⟩)];exact qkO (λK _=>Iff.rfl) rfl 16 0 0 0 _ (λq=>by cases q) (λq=>by cases q) (h2 d.arch (List.mem_cons_of_mem _ hm) _)
  .rw[<- qte l d (.inr ⟨rfl,hm⟩)];refine qkO (c:=-1) (λK hK=>⟨λe=>absurd (e ▸ hK) hm,λe=>?_⟩) rfl 16 0 0 0 _ (λq=>by cases q) (λq=>by cases q) (h2 (-1) (List.mem_cons_self ..) _)
   subst e;exact absurd hK Af
end
section
variable [Cur]
variable {P:Program}{f:Nat}
def gdC(l:List Int)(o:Bool):List Ins×Int:=qqT (gdA l).1 (gdA l).2 o
section
variable {l:List Int}
def qFV(h:qnL l=true)(o:Bool):gdC l o=([],2):=by
 unfold gdC gdA qqT qkT qlI qec;rw[if_pos h];simp
def qD5(h:qnL l=false)(o:Bool):(gdC l o).2=0/\PrgT (gdC l o).1 10 (gdM l):=by
 obtain⟨h1,h2,h3,h4⟩:=qxR h;have e:gdA l=(gdR (gdT l),0):=by unfold gdA;rw[if_neg (by rw[h];simp)]
 have eu:qkT (gdA l).1 (gdA l).2=zY (gdR (gdT l)):=by rw[e];simp only[qkT,if_true]
 have eo:qlI (gdA l).1 (gdA l).2=zY (qb6 (gdR (gdT l))):=by rw[e];simp only[qlI,if_true]
 have tu:qnK (qkT (gdA l).1 (gdA l).2) 10 (gdM l):=by rw[eu];simp_all[qpx]
 have to:qnK (qlI (gdA l).1 (gdA l).2) 10 (gdM l):=by rw[eo];grind[qpx,ql4,qtH,qtG,qzb]
 have:qnK (gdC l o) 10 (gdM l):=by
  unfold gdC qqT;grind[qt7]
 exact this.resolve_left Ac
end
def qFe(P:Program)(g:Nat):Prop:=∀l:List Int,l.length<=qe->∀o:Bool,qa P g [.fz l.length (rI .i64 l),.b o] (.tup [.fz (gdC l o).1.length (rP (gdC l o).1),.j (gdC l o).2])
def qMq{gd gwG gwO gwL gs gG gO gL:Nat}(hc:Ck P f (qco gwG gwL gd gwO gs))(hd:Ck P gd qN)(hG:Ck P gwG (zW gG))(hO:Ck P gwO (zg gO))(hL:Ck P gwL (qM gL))
  (hs:Ck P gs x9) (c1:∀l:List Int,l.length<=qe->qa P gG [.fz l.length (rI .i64 l)] (.tup [.fz (gdA l).1.length (rSy (gdA l).1),.j (gdA l).2])) (c3:qA7 P gO) (c4:qsU P gL):qFe P f:=λl hl o=>by
 have ok:(gdA l).2=0->MayL (gdA l).1:=λh=>by
  unfold gdA at h ⊢
  grind[qxR]
 exact qsg hc hd hG hO hL hs ⟨by simp[clo,qg],rfl,rfl,rfl⟩ ⟨c1 l hl,λh=>c4 _ (ok h),λh=>c3 _ (ok h),λh=>c4 _ (ql4 (ok h))⟩ o
abbrev Pt:=Int×Int×GFil
def qnJ:GFil:=⟨0,[],0⟩
def qeK(p:Pol)(d a:Nat):List Pt:=match qcX p (d:Int) (a:Int)with|some x=>[((d:Int),(a:Int),x)]|none=>[]
def qgc(p:Pol):List Pt:=if 0<p.arches.length then [(0,6,qnJ)]else []
def qdt(p:Pol)(d a:Nat):List Pt:=qgc p++((List.range d).flatMap λd=>(List.range 6).flatMap λa=>qeK p d a)++(List.range a).flatMap λa=>qeK p d a
def zm(p:Pol):List Pt:=qdt p 8 0
def qpF(p:Pol)(d a:Nat):qdt p d (a+1)=qdt p d a++qeK p d a:=by
 unfold qdt;rw[List.range_succ (n:=a),List.flatMap_append,<- zzi];simp
def qnc(p:Pol)(d:Nat):qdt p (d+1) 0=qdt p d 6:=by
 unfold qdt;rw[List.range_succ (n:=d),List.flatMap_append];simp
def qoG(p:Pol)(d a:Nat):(qeK p d a).length<=1:=by unfold qeK;split<;>simp
def qnd(p:Pol):∀d a,(qdt p d a).length<=1+6*d+a
 | d,a+1=>by
  have h1:=qnd p d a;have h2:=qoG p d a;rw[qpF,zzP];exact Ac
 | d+1,0=>by
  have h1:=qnd p d 6;rw[qnc];exact Ac
 | 0,0=>by
  unfold qdt qgc;split<;>simp
def qCS{p:Pol}{d a:Nat}(hd:d<8)(ha:a<6){q:Pt}(h:q ∈ qeK p d a):q ∈ zm p:=by
 unfold zm qdt
 exact Ah
def qBW{p:Pol}{q:Pt}(h:q ∈ qgc p):q ∈ zm p:=List.mem_append_left _ Ad
def qek(p:Pol)(o:Bool)(q:Pt):List Ins×Int:=if q.1=0 then gdC p.arches o else qdk q.2.2 o
def toP(p:Pol)(o:Bool)(q:Pt):Prg:=⟨q.1,q.2.1,(qek p o q).1⟩
def xR(p:Pol)(o:Bool):List Prg×Int :=
 if qae p=true then(if ∀q ∈ zm p,(qek p o q).2=0 then((zm p).map (toP p o),0)else([],270))else([],2)
def qhw(a:Nat):IFn:=irJ 61 [89,a]
def qKB{g:Nat}(hc:Ck P f (qhw g))(p:Pol):qa P f [.agg (qr p)] (.fn g [] [.pf (qr p) 0]):=by
 refine C8 ?_;simp only[qhw,qr,vI,simprocAttr];refine Ab ?_;simp[vZ,vP,zz4,zc,qg,ql]
 done
def qaR(a b:Nat):ICode:=icJ 89 [90,a,91,b] 3
def qcu(a b:Nat):IFn:=irJ 89 [90,a,91,b] [3] [qaR a b]
def qeD(a b c d:Nat):ICode:=icJ 42 [11,a,61,b,62,c,63,d] 31
def qhu(a b c d:Nat):IFn:=irJ 42 [11,a,61,b,62,c,63,d] [31] [qeD a b c d]
def buT(g:Nat)(p:Pol):List (Nat×AV):=[(2,.ptr 0 0),(3,.ptr 1 0),(4,.ptr 2 0),(5,.ptr 3 0),(6,.ptr 4 0),(14,.fn g [] [.pf (qr p) 0])]
def buA:ICode:=.r [.q 7 (.alloc [.j 0,.j 0,.j 0,.nils,.w 0]),.u (.store 5 (.t 7) (.t 15))]
def buB(a b:Nat):ICode:=.blk 1 (sq [.r [.m 8 (.c .nils)],.r [.m 9 (.k 0)],sq [.r [.q 16 (.fAddr 0 (.t 7)),.q 17 (.load1 (.t 16)),.q 18 (.bin .eql (.t 17) (.k 0))],.cond (.t 18) (.r [.q 20 (.fAddr 0 (.t 2)),.q 21 (.load1 (.t 20)),.q 22 (.load1 (.t 3)),.l 23 a [.t 21,.t 22],.m 19 (.t 23),.q 24 (.ext (.t 19) 0),.q 25 (.ext (.t 19) 1),.m 8 (.t 24),.m 9 (.t 25)]) (.r [.q 27 (.fAddr 2 (.t 7)),.q 28 (.loadN 3 (.t 27)),.q 29 (.load1 (.t 3)),.l 30 b [.t 28,.t 29],.m 26 (.t 30),.q 31 (.ext (.t 26) 0),.q 32 (.ext (.t 26) 1),.m 8 (.t 31),.m 9 (.t 32)])],sq [.r [.m 33 (.t 9),.q 34 (.bin .neq (.t 33) (.k 0))],.cond (.t 34) (sq [.r [.u (.store 1 (.t 4) (.c .nils)),.u (.store 1 (.t 5) (.k 270))],.ret]) (.skip)],.r [.q 35 (.load1 (.t 6)),.q 36 (.fAddr 0 (.t 7)),.q 37 (.load1 (.t 36)),.q 38 (.fAddr 1 (.t 7)),.q 39 (.load1 (.t 38)),.m 40 (.t 8),.q 41 (.build [.j 0,.j 0,.nils] [(0,1,(.t 37)),(1,1,(.t 39)),(2,1,(.t 40))]),.q 42 (.buildS 1 [.j 0,.j 0,.nils] [(0,3,(.t 41))]),.q 43 (.app 3 40 true (.t 35) (.t 42)),.u (.store 1 (.t 6) (.t 43))]])
def BuI(p:Pol)(o:Bool)(g:Nat)(r0:Loop)(out:List Prg)(s:Nat)(tr:Tr Blk):Prop :=
 ∃bb,7<=s/\tr.get 0=some (.v (qr p))/\tr.get 1=some (.v [.b o])/\tr.get 2=some (.v [.nils])/\tr.get 3=some (.v [.j 0])/\tr.get 4=some (.v [.own bb out.length])/\tr.get bb=some (.cells 3 true true (rPr out))/\(bb=5\/7<=bb)/\bb<s/\tr.get 6=some (.map (zu r0 (buT g p)))
theorem BuI.keep{p:Pol}{o:Bool}{g:Nat}{r0:Loop}{out:List Prg}{s s':Nat}{tr tr':Tr Blk}(h:BuI p o g r0 out s tr)(hs:s<=s')(ht:∀c,c<s->tr'.get c=tr.get c):BuI p o g r0 out s' tr':=by
 obtain⟨bb,h7,h0,h1,h2,h3,h4,hb,hb5,hbs,h6⟩:=h;exact⟨bb,Ac,(ht _ Ac).trans h0,(ht _ Ac).trans h1,(ht _ Ac).trans h2,(ht _ Ac).trans h3,(ht _ Ac).trans h4,(ht _ hbs).trans hb,hb5,Ac,(ht _ Ac).trans h6⟩
def BuE(p:Pol)(g:Nat)(r0:Loop)(s:Nat)(tr:Tr Blk):Prop :=
 7<=s/\tr.get 2=some (.v [.nils])/\tr.get 3=some (.v [.j 270])/\tr.get 6=some (.map (zu (dne r0 .ret) (buT g p)))
def qwL{gG gC g s:Nat}{p:Pol}{o:Bool}{out:List Prg}{r0:Loop}{tr:Tr Blk}{k:AV->Hp->Prop}(hG:qFe P gG)(hC:qwR P gC)(hr0:r0.state = .ready)(hp0:r0.pending=none)(hlo:LoopOk P r0 [15] buA (buB gG gC))(hp:PolOk p)
  (hI:BuI p o g r0 out s tr) (d a:Int) (x:GFil) {c:List AV}(hcc:c=zn x\/d=0/\c=[.j 0,.nils,.w 0]) (hR:FilR x) (hl:qju x) (hm:out.length<=1000)
  (hk:(qek p o (d,a,x)).2=0->∀s' tr',BuI p o g r0 (out++[toP p o (d,a,x)]) s' tr'->k (.b true) ⟨s',0,tr'⟩)
  (hx:(qek p o (d,a,x)).2≠0->∀s' tr',BuE p g r0 s' tr'->k (.b false) ⟨s',0,tr'⟩):SY P 6 [.agg (.j d :: .j a::c)] ⟨s,0,tr⟩ k:=by
 rcases hcc with rfl|⟨hd,rfl⟩
 all_goals
  obtain⟨bb,hs,h0,h1,h2,h3,h4,hb,hb5,hbs,h6⟩:=hI;have hpa:=hp.a;refine SY.mk (r:=r0) (ts:=buT g p) (ps:=[15]) h6 hr0 hlo (zzu _) (by show 6<s;exact Ac) rfl ?_;rw[show mkT (buT g p)=(((((Tr.leaf.set 14 (.fn g [] [.pf (qr p) 0])).set 6 (.ptr 4 0)).set 5 (.ptr 3 0)).set 4 (.ptr 2 0)).set 3 (.ptr 1 0)).set 2 (.ptr 0 0)from rfl]
  refine qj ?_;simp only[qkp,buA,zn,vI,simprocAttr];refine Ab ?_;have n6:¬6=s:=Ac
  have n0:¬0=s:=Ac
  have n1:¬1=s:=Ac
  have n2:¬2=s:=Ac
  have n3:¬3=s:=Ac
  have n4:¬4=s:=Ac
  have nb:¬bb=s:=Ac
  have ns6:¬s=6:=Ac
  have nb6:¬bb=6:=Ac
  have n4b:¬4=bb:=Ac
  refine⟨buT g p,by simp[zz4,n6,h6],?_⟩
  refine qj ?_;simp only[qC,buB,vI,simprocAttr];refine Sa ns6 ?_;obtain⟨L,e,hLe⟩:∃L e,qek p o (d,a,x)=(L,e):=⟨_,_,rfl⟩;have eT:toP p o (d,a,x)=⟨d,a,L⟩:=by simp only[toP,hLe]
  rw[eT]at hk;simp only[hLe]at hk hx;have hlp:=qtW out;have hap:rPr out++[.j d,.j a,.fz L.length (rP L)]=rPr (out++[⟨d,a,L⟩]):=by rw[qC0];rfl
  have hr1:out.length+1<=qe:=by simp only[qe];exact Ac
  have hr2:(out.length+1)*40<=qe:=by simp only[qe];exact Ac
  have nb1:¬bb=s+1:=Ac
  have n41:¬4=s+1:=Ac
  have n61:¬6=s+1:=Ac
  have ns2:¬s=2:=Ac
  have ns4:¬s=4:=Ac
  by_cases k1:d=0
  .have h:=hG p.arches (by simp only[qe];exact Ac) o;rw[show gdC p.arches o=(L,e)by rw[<- hLe];exact(if_pos k1).symm]at h
   subst k1;simp +decide only[↓vS,vT,simprocAttr,h0,h1,n0,n1,qr];refine h.sc ?_
   by_cases he:e=0
   .subst he;refine Hy ?_;refine⟨Go.Kc.bsy r0,buT g p,H7,?_⟩
    rw[qeL,qgg hr0 hp0];simp only[qC];refine Ab ?_;refine hk rfl _ _ ⟨s+1+1,Ac,?_,?_,?_,?_,?_,?_,.inr Ac,Ac,?_⟩<;>simp (decide:=true) [zz4,zzP]
    all_goals (repeat rw[if_neg Ac])
    all_goals assumption
   .simp +decide only[↓vS,vT,simprocAttr,he,h2,h3,n2,n3,ns6];refine⟨Go.Kc.bsy r0,buT g p,by simp[zz4,n6],?_⟩
    simp only[qC];refine Ab ?_;refine hx he _ _ ⟨Ac,?_,?_,?_⟩<;>simp[zz4,Go.Kc.bsy,dne]
  .try exact absurd hd k1
   all_goals
    have h:=hC x hR hl o;rw[show qdk x o=(L,e)by rw[<- hLe];exact(if_neg k1).symm]at h
    simp only[zn]at h;refine Sa (zzA h1 (zzA n1 k1)) ?_;refine h.sc ?_
    by_cases he:e=0
    .subst he;refine Hy ?_;refine⟨Go.Kc.bsy r0,buT g p,H7,?_⟩
     rw[qeL,qgg hr0 hp0];simp only[qC];refine Ab ?_;refine hk rfl _ _ ⟨s+1+1,Ac,?_,?_,?_,?_,?_,?_,.inr Ac,Ac,?_⟩<;>simp (decide:=true) [zz4,zzP]
     all_goals grind
    .simp +decide only[↓vS,vT,simprocAttr,he,h2,h3,n2,n3,ns6];refine⟨Go.Kc.bsy r0,buT g p,Ay,?_⟩
     simp only[qC];refine Ab ?_;refine hx he _ _ ⟨Ac,?_,?_,?_⟩<;>simp[zz4,Go.Kc.bsy,dne]
def qKD(a:Nat):ICode:=sq [.r [.q 25 (.bin .lss (.t 24) (.t 23))],.cond (.t 25) (.skip) (.exit 2),.blk 3 (sq [.r [.q 26 (.iAddrS 1 (.t 22) (.t 24)),.q 27 (.load1 (.t 26)),.m 5 (.t 27)],.r [.q 29 (.loadN 13 (.t 1)),.m 30 (.t 3),.m 31 (.t 5),.l 32 a [.t 29,.t 30,.t 31],.m 28 (.t 32),.q 33 (.ext (.t 28) 0),.q 34 (.ext (.t 28) 1),.q 6 (.alloc [.j 0,.nils,.w 0]),.u (.store 3 (.t 6) (.t 33)),.m 7 (.t 34)],.r [.m 35 (.t 7),.m 36 (.t 35),.g 37 (.mov (.t 0)) 36 true,.g 38 (.mov (.t 3)) 36 true,.g 39 (.mov (.t 5)) 36 true,.g 40 (.loadN 3 (.t 6)) 36 true,.g 41 (.build [.j 0,.j 0,.j 0,.nils,.w 0] [(0,1,(.t 38)),(1,1,(.t 39)),(2,3,(.t 40))]) 36 true,⟨(some 42),.callV (.t 37) [.t 41],(some (36,true))⟩,.g 43 (.un .not (.t 42)) 36 true,.q 44 (.pick (.t 36) (.t 43) (.c (.b false)))],.cond (.t 44) (.ret) (.skip)]),.r [.q 45 (.bin .add (.t 24) (.k 1)),.m 24 (.t 45)]]
def qEM(P:Program)(y:Nat)(I:List Pt->Nat->Tr Blk->Prop)(E:Nat->Tr Blk->Prop)(bd:Pt->Prop):Prop :=
 (∀l s s' tr tr',I l s tr->s<=s'->(∀c,c<s->tr'.get c=tr.get c)->I l s' tr') /\
 ∀(l:List Pt) (d a:Int) (x:GFil) (c:List AV) (s:Nat) (tr:Tr Blk) (k:AV->Hp->Prop),(c=zn x\/d=0/\c=[.j 0,.nils,.w 0])->FilR x->qju x->l.length<=1000->I l s tr->
  (¬bd (d,a,x)->∀s' tr',I (l++[(d,a,x)]) s' tr'->k (.b true) ⟨s',0,tr'⟩)->(bd (d,a,x)->∀s' tr',E s' tr'->k (.b false) ⟨s',0,tr'⟩)->SY P y [.agg (.j d :: .j a::c)] ⟨s,0,tr⟩ k
section
variable {y:Nat}{I:List Pt->Nat->Tr Blk->Prop}{E:Nat->Tr Blk->Prop}{bd:Pt->Prop}
def qHr{gL s n0:Nat}{p:Pol}{tr:Tr Blk}{t:Tr AV}{Q:X->Tr AV->Hp->Prop}(hL:qA5 P gL)(hy:qEM P y I E bd)
  (hp:PolOk p) (hR:PolR p) (hF:∀d a x,qcX p d a=some x->FilR x/\qju x) {d:Nat}(hlt:d<8) (ht:Has t [(0,.yl y),(1,.pf (qr p) 0),(3,.j (d:Int)),(19,.j (d:Int)),(22,.fz 6 (rI .i64 [0,1,2,3,4,5])),(23,.j 6),(24,.j 0)])
  (hh:∀q ∈ qdt p d 0,¬bd q) (hI:I (qdt p d 0) s tr)
  (hk:∀t' s' tr',Has t' [(0,.yl y),(1,.pf (qr p) 0),(19,.j (d:Int))]->(∀q ∈ qdt p (d+1) 0,¬bd q)->I (qdt p (d+1) 0) s' tr'->Q (.exit 2) t' ⟨s',0,tr'⟩)
  (hx:(¬∀q ∈ zm p,¬bd q)->∀t' s' tr',E s' tr'->Q .ret t' ⟨s',0,tr'⟩):SL P n0 (qKD gL) Q t ⟨s,0,tr⟩:=by
 refine SL.loopP (α:=Nat) (λa=>[(0,.yl y),(1,.pf (qr p) 0),(3,.j (d:Int)),(19,.j (d:Int)),(22,.fz 6 (rI .i64 [0,1,2,3,4,5])),(23,.j 6),(24,.j (a:Int))]) (λa h=>a<=6/\∃s tr,h=⟨s,0,tr⟩/\(∀q ∈ qdt p d a,¬bd q)/\I (qdt p d a) s tr) (λa=>6-a) ?_ 0 ht Ah
 rintro a h ⟨ha,s,tr,rfl,hq,hI⟩ G2 ih2;simp only[qKD,vI,simprocAttr]
 by_cases hla:a<6
 .have hla':(a:Int)<6:=Ac
  have hwa:=wS a
  have hax:([0,1,2,3,4,5]:List Int)[a]?=some (a:Int):=by
   have:a=0\/a=1\/a=2\/a=3\/a=4\/a=5:=Ac
   exact Du
  have h2:=hL p hp hR d a;simp only[qr]at h2;simp +decide only[↓vS,vT,simprocAttr,qr,hla,hla',zzU,qbd,hax,zza];refine h2.sc ?_;have e2:=qpF p d a;have hln:=qnd p d a;have hin:=λq (h:q ∈ qeK p d a)=>qCS hlt hla h
  have hF':=hF d a;cases hlow:qcX p d a with
  | none =>
   have e3:qeK p d a=[]:=by unfold qeK;rw[hlow]
   rw[e3,List.append_nil]at e2;simp +decide only[qo5,↓vS,vT,simprocAttr,hwa];refine ih2 (a+1) _ _ Ac Ak ⟨Ac,_,_,rfl,by rw[e2];exact hq,by rw[e2];exact hy.1 _ _ _ _ _ hI Ac λc hc=>Ay⟩
  | some x =>
   have e3:qeK p d a=[((d:Int),(a:Int),x)]:=by unfold qeK;rw[hlow]
   rw[e3]at e2 hin;obtain⟨f1,f2⟩:=hF' x hlow;simp +decide only[qo5,zn,↓vS,vT,simprocAttr];refine hy.2 _ d a x _ _ _ _ (.inl rfl) f1 f2 Ac (hy.1 _ _ _ _ _ hI Ac λc hc=>?_) (λhe s' tr' hI'=>?_) (λhe s' tr' hE=>?_)
   .exact Ay
   .refine Sa hwa ?_;refine ih2 (a+1) _ _ Ac Ak ⟨Ac,s',tr',rfl,by rw[e2];exact Ah,by rw[e2];exact Ac⟩
   .refine Ab ?_;exact hx Ah _ s' tr' hE
 .obtain rfl:a=6:=Ac
  have hla':¬(((6:Nat):Int)<6):=Af
  refine Sa hla' ?_;exact hk _ s tr Ak (by rw[qnc];exact hq) (by rw[qnc];exact hI)
def qoD{gA gL s n0:Nat}{p:Pol}{tr:Tr Blk}{t:Tr AV}{k:AV->Hp->Prop}(hA:qa P gA [] (.fz 6 (rI .i64 [0,1,2,3,4,5])))(hL:qA5 P gL)(hy:qEM P y I E bd)
  (hp:PolOk p) (hR:PolR p) (hF:∀d a x,qcX p d a=some x->FilR x/\qju x) (t0:t.get 0=some (.yl y)) (t1:t.get 1=some (.pf (qr p) 0)) (hh:∀q ∈ qgc p,¬bd q) (hI:I (qgc p) s tr)
  (hk:(∀q ∈ zm p,¬bd q)->∀s' tr',I (zm p) s' tr'->k (.tup []) ⟨s',0,tr'⟩)
  (hx:(¬∀q ∈ zm p,¬bd q)->∀s' tr',E s' tr'->k (.tup []) ⟨s',0,tr'⟩):S P n0 (qaR gA gL) (xG [] k) t ⟨s,0,tr⟩:=by
 refine S.has [(0,.yl y),(1,.pf (qr p) 0)] (by simp_all[qh,qk]) (qj ?_);simp only[qaR,vI,simprocAttr];refine Ab ?_;refine SL.loopP (α:=Nat) (λd=>[(0,.yl y),(1,.pf (qr p) 0),(19,.j (d:Int))]) (λd h=>d<=8/\∃s tr,h=⟨s,0,tr⟩/\(∀q ∈ qdt p d 0,¬bd q)/\I (qdt p d 0) s tr) (λd=>8-d) ?_ 0 ?_ ?_
 .rintro d h ⟨hd,s,tr,rfl,hq,hI⟩ G ih;refine Am ?_
  by_cases hlt:d<8
  .have hlt':(d:Int)<8:=Ac
   have hwd:=wS d;refine Sa hlt' ?_;refine hA.sc ?_;refine Ab ?_;refine qHr hL hy hp hR hF hlt Ak hq hI (λt' s' tr' ht' hq' hI'=>?_) (λhb t' s' tr' hE=>?_)
   .obtain⟨q0,q1,q19⟩:t'.get 0=some (.yl y)/\t'.get 1=some (.pf (qr p) 0)/\t'.get 19=some (.j (d:Int)):=by grind[qh]
    refine Sa (zzA q19 hwd) ?_;exact ih (d+1) _ _ Ac (by grind[qh,qk,Tr.get_set]) Ah
   .refine Ab ?_
    exact Ah
  .obtain rfl:d=8:=Ac
   have hlt':¬(((8:Nat):Int)<8):=Af
   refine Sa hlt' ?_;exact hk hq s tr hI
 .exact Ak
 .exact⟨zzu _,s,tr,rfl,by simpa[qdt]using hh,by simpa[qdt]using hI⟩
def qvK{gA gL g s:Nat}{p:Pol}{tr:Tr Blk}{k:AV->Hp->Prop}(hg:Ck P g (qcu gA gL))(hA:qa P gA [] (.fz 6 (rI .i64 [0,1,2,3,4,5])))(hL:qA5 P gL)(hy:qEM P y I E bd)
  (hp:PolOk p) (hR:PolR p) (hF:∀d a x,qcX p d a=some x->FilR x/\qju x) (hI:I [] s tr)
  (hk:(∀q ∈ zm p,¬bd q)->∀s' tr',I (zm p) s' tr'->k (.tup []) ⟨s',0,tr'⟩)
  (hx:(¬∀q ∈ zm p,¬bd q)->∀s' tr',E s' tr'->k (.tup []) ⟨s',0,tr'⟩):SC P g [.yl y,.pf (qr p) 0] ⟨s,0,tr⟩ k:=by
 refine SC.mk hg (qj ?_);simp only[qcu,vI,simprocAttr]
 by_cases h0:0<p.arches.length
 .have h0':(0:Int)<p.arches.length:=Ac
  have eh:qgc p=[(0,6,qnJ)]:=if_pos h0;simp +decide only[↓vS,vT,simprocAttr,qr,h0'];refine hy.2 [] 0 6 qnJ _ _ _ _ Ad ⟨by simp[qnJ],by simp[qnJ]⟩ ⟨by simp[qnJ],by simp[qnJ]⟩ (by simp) hI (λhe s' tr' hI'=>?_) (λhe s' tr' hE=>?_)
  .refine Ab ?_;exact qoD hA hL hy hp hR hF Bn Bn (by rw[eh];exact Ad) (by rw[eh];exact Ah) hk hx
  .refine Ab ?_;exact hx (λhall=>hall _ (qBW (by rw[eh];simp)) he) s' tr' hE
 .have h0':¬(0:Int)<p.arches.length:=Ac
  have eh:qgc p=[]:=if_neg h0;simp +decide only[↓vS,vT,simprocAttr,qr,h0'];exact qoD hA hL hy hp hR hF Bn Bn (by rw[eh];simp) (by rw[eh];exact hI) hk hx
end
def qA2(P:Program)(f:Nat):Prop:=∀p,PolOk p->PolR p->(∀d a x,qcX p d a=some x->FilR x/\qju x)->∀o:Bool,qa P f [.agg (qr p),.b o] (.tup [.fz (xR p o).1.length (rPr (xR p o).1),.j (xR p o).2])
def qE8{gM gP gG gC gA gL g:Nat}(hc:Ck P f (qhu gM gP gG gC))(hM:∀p,PolOk p->qa P gM [.agg (qr p)] (.b (qae p)))(hP:∀p,qa P gP [.agg (qr p)] (.fn g [] [.pf (qr p) 0]))(hg:Ck P g (qcu gA gL))
  (hA:qa P gA [] (.fz 6 (rI .i64 [0,1,2,3,4,5]))) (hL:qA5 P gL) (hG:qFe P gG) (hC:qwR P gC):qA2 P f:=by
 intro p hp hR hF o;refine Al ?_;simp only[qhu,vI,simprocAttr];have hM':=hM p hp;have hP':=hP p;simp only[qr]at hM' hP';simp +decide only[↓vS,vT,simprocAttr,qr];refine hM'.sc ?_;cases hmp:qae p with
 | false =>
  have e:xR p o=([],2):=by unfold xR;rw[hmp];simp
  rw[e];refine Ab ?_;simp[vZ,vP,zz4];rfl
 | true =>
  refine Ab ?_;refine hP'.sc ?_;refine Ab ?_;refine S.weak (Wk.mk (buT g p) [.v (qr p),.v [.b o],.v [.nils],.v [.j 0],.v [.own 5 0],.cells 3 true true []] [0,1,2,3,4,99] ?_ ?_ ?_ rfl) ?_
  .simp[vw,buT,qr,qg,ql]
  .simp[vw,qr,qd,ql,qg]
  .simp
  refine S.rangeF (by simp[jR]) (by simp[buT]) ⟨rfl,rfl⟩ ?_;refine qlk.2 ⟨.fn g [] [.pf (qr p) 0],by simp[buT,mkT,zz4],?_⟩
  refine⟨qcK hg,λr0 hr0 hp0 hlo=>?_⟩
  have hlo:LoopOk P r0 [15] buA (buB gG gC):=hlo;refine qvK (y:=6) (I:=λl=>BuI p o g r0 (l.map (toP p o))) (E:=BuE p g r0) (bd:=λq=>(qek p o q).2≠0) (s:=7) (g:=g) hg hA hL ⟨λ_ _ _ _ _ h hs ht=>h.keep hs ht,λl d a x c s tr k hcc hR hl hm hI hk hx=>qwL hG hC hr0 hp0 hlo hp hI d a x hcc hR hl Ad (λhe s' tr' h=>hk (λh=>h he) s' tr' Ad) hx⟩ hp hR hF ⟨5,zzL _,?_,?_,?_,?_,?_,?_,.inl rfl,Af,?_⟩ (λhall s' tr' hI=>?_) (λhn s' tr' hE=>?_)
  iterate 7 (simp[zz4,qmM,mkH,trL,rPr,Hp.push])
  .replace hall:∀q ∈ zm p,(qek p o q).2=0:=Ad
   obtain⟨bb,h7,h0,h1,h2,h3,h4,hb,hb5,hbs,h6⟩:=hI;refine⟨r0,buT g p,h6,by rw[hr0];exact Af,?_⟩
   rw[hp0];simp only[qC];refine Ae ?_;rw[show xR p o=((zm p).map (toP p o),0)by unfold xR;rw[if_pos hmp,if_pos hall]]
   have nb:¬bb=6:=Ac
   have nb2:¬bb=2:=Ac
   have nb3:¬bb=3:=Ac
   generalize(zm p).map (toP p o)=out at h4 hb ⊢;refine S.has [(4,.ptr 2 0),(5,.ptr 3 0),(6,.ptr 4 0)] (by simp[qh,qk,buT,mkT,zz4]) (qj ?_);simp only[qeD,vI,simprocAttr];refine Sa (zzA h2 (zzA h3 h4)) ?_;simp[vZ,vP,zz4,nb,nb2,nb3,hb,zc (qbV _)];intro h;rw[h];rfl
  .replace hn:¬∀q ∈ zm p,(qek p o q).2=0:=Ad
   obtain⟨h7,h2,h3,h6⟩:=hE;refine⟨dne r0 .ret,buT g p,h6,by simp[dne],?_⟩
   have e6:∀a b c d e f:Blk,(mkH 0 [a,b,c,d,e,f]).sz=6:=λ_ _ _ _ _ _=>rfl
   simp only[dne,qC,e6];refine Ae ?_;rw[show xR p o=([],270)by unfold xR;rw[if_pos hmp,if_neg hn]]
   have m4:(mkT (buT g p)).get 4=some (.ptr 2 0):=by simp[buT,mkT,zz4]
   have m5:(mkT (buT g p)).get 5=some (.ptr 3 0):=by simp[buT,mkT,zz4]
   refine Sa (zzA m4 (zzA m5 (zzA h2 h3))) ?_;simp[vZ,vP,zz4];rfl
end
section
variable [Cur]
def TeG(ts:List GTest):Prop:=ts.length<=100000/\∀t ∈ ts,(0<=t.mask/\t.mask<18446744073709551616/\0<=t.val/\t.val<18446744073709551616)/\0<=t.act/\t.act<=4294967295
def RuG(r:GRule):Prop:=(0<=r.nr/\r.nr<4294967296)/\(0<=r.act/\r.act<=4294967295)/\TeG r.tests
def qCr{a n:Int}{s:List UInt8}(h:qfF a s=some n):0<=n/\n<4294967296:=by
 have w:∀z:Int,0<=IntKind.wrap .u32 z/\IntKind.wrap .u32 z<4294967296:=λz=>by show 0<=z % 4294967296/\z % 4294967296<4294967296;exact Ac
 unfold qfF at h;obtain⟨x,_,h⟩:=Option.bind_eq_some_iff.1 h;unfold qds at h;split at h
 .cases h
 .cases h;split
  .exact w _
  exact Ad
section
variable {a act:Int}{ts us:List GTest}{ns:List (List UInt8)}{l:List Int}
def qbW(ha:0<=act/\act<=4294967295)(ht:TeG ts):∀r ∈ qY a act ts ns,RuG r:=λr hr=>by
 obtain⟨s,_,h⟩:=List.mem_filterMap.1 hr;obtain⟨n,h1,h2⟩:=Option.map_eq_some_iff.1 h;cases h2;exact⟨qCr h1,ha,ht⟩
theorem TeG.nil:TeG []:=⟨zzu _,Ad⟩
def TeG.app(h1:TeG ts)(h2:TeG us)(h:ts.length+us.length<=100000):TeG (ts++us):=⟨by rw[zzP];exact h,λt ht=>by
 rcases zzd.1 ht with ht|ht
 .exact h1.2 t ht
 .exact h2.2 t ht⟩
def qmg{arg mask:Int}(hm:0<=mask/\mask<18446744073709551616)(ha:0<=act/\act<=4294967295)(hl:l.length<=100000)(hv:∀v ∈ l,0<=v/\v<18446744073709551616):TeG (qL arg mask act l):=⟨by simp[qL,hl],λt ht=>by
 obtain⟨v,h1,rfl⟩:=zzl.1 ht
 exact Ad⟩
def qo8{arg:Int}(ha:0<=act/\act<=4294967295)(hl:l.length<=100000)(hv:∀v ∈ l,0<=v/\v<18446744073709551616):TeG (zw arg act l):=⟨by simp[zw,hl],λt ht=>by
 obtain⟨v,h1,rfl⟩:=zzl.1 ht
 exact Ad⟩
end
def qu4{s x:Int}(h:x ∈ jN s):0<=x/\x<18446744073709551616:=by
 have h1:=(List.mem_filter.1 h).1;have all:∀y ∈ qU.map (·.2),0<=y/\y<18446744073709551616:=Af
 exact Ah
def qGw{p:Pol}{a d:Int}{F:Pol->Int->Bool×List GRule×Int}(h:qbq d=some F)(hp:PolOk p)(hR:PolR p):(∀r ∈ (F p a).2.1,RuG r)/\0<=(F p a).2.2/\(F p a).2.2<=4294967295:=by
 have hA:(0:Int)<=2147418112/\(2147418112:Int)<=4294967295:=Af
 have hN:(0:Int)<=327681/\(327681:Int)<=4294967295:=Af
 have hf:∀c ∈ p.fams,0<=c/\c<18446744073709551616:=λc hc=>by have:=hR.fams c hc;exact Ac
 have hfl:(jN p.spaces).length<=8:=zzg (List.length_filter_le _ _) Af;have hpf:=hp.f;have hd:=hR.deny;unfold qbq at h
 repeat' split at h
 all_goals first|(cases h;done)|skip
 all_goals cases h
 .refine⟨λr hr=>?_,by simp only[qjR];exact Fq⟩
  obtain⟨c,hc,hr⟩:=List.mem_flatMap.1 hr;refine qbW ?_ .nil r hr;have:=hR.filter c hc;exact Ac
 .refine⟨λr hr=>?_,by simp only[qkg];exact Fq⟩
  obtain⟨c,hc,hr⟩:=List.mem_flatMap.1 hr;refine qbW ?_ .nil r hr;exact Fq
 .exact⟨qbW Fq (qmg Af Fq Ac hf),by simp[fmM]⟩
 .refine⟨λr hr=>?_,by simp[nsM]⟩
  have hb:∀arg:Int,TeG (zw arg 327681 (jN p.spaces)):=λarg=>qo8 hN Ac λv hv=>qu4 hv
  rcases zzd.1 hr with hr|hr
  .rcases zzd.1 hr with hr|hr
   .exact qbW hA (hb 0) r hr
   .exact qbW hA ((hb 1).app (qmg Af hN Af Af) (by simp only[zw,qL,zzz,List.length_singleton];exact Ac)) r hr
  .exact qbW Af .nil r hr
 .refine⟨λr hr=>?_,by simp[weM]⟩
  rcases zzd.1 hr with hr|hr
  .rcases zzd.1 hr with hr|hr
   .exact qbW hA (qo8 hN Af Af) r hr
   .exact qbW hA (qo8 hN Af Af) r hr
  .exact qbW hA (qo8 hN Af Af) r hr
 .exact⟨qbW hN (qmg Af hA Af Af),by simp[peM]⟩
 .exact⟨qbW hN (qmg Af hA Af Af),by simp[rtM]⟩
def qos{p:Pol}(hp:PolOk p)(hR:PolR p){d a:Int}{x:GFil}(h:qcX p d a=some x):FilR x/\qju x/\FilU x/\d≠0/\0<=d/\d<8/\0<=a/\a<6:=by
 unfold qcX at h;split at h
 .rename_i hok;obtain⟨F,h1,h2⟩:=Option.bind_eq_some_iff.1 h;split at h2
  .cases h2;obtain⟨g1,g2⟩:=qGw (a:=a) h1 hp hR;unfold qd7 at hok;simp only[zzB,zzb]at hok;obtain⟨⟨⟨⟨d0,d8⟩,a0,a6⟩,hm⟩,_⟩:=hok;have hl:=(qCi d F h1 p a hp hm a0 a6).1;have ms:∀r ∈ xw (F p a).2.1,RuG r:=λr hr=>g1 r (List.mem_mergeSort.1 hr)
   refine⟨⟨λr hr=>(ms r hr).1,λr hr t ht=>((ms r hr).2.2.2 t ht).1⟩,⟨by simpa[xw]using hl,λr hr=>(ms r hr).2.2.1⟩,⟨g2,λr hr=>(ms r hr).2.1,λr hr t ht=>((ms r hr).2.2.2 t ht).2⟩,λe=>?_,d0,d8,a0,a6⟩
   rw[e]at h1;cases h1
  .cases h2
 exact Ah
section
variable {p:Pol}{o:Bool}
def qhK{q:Pt}(h:q ∈ zm p):(q=(0,6,qnJ)/\0<p.arches.length)\/∃d a x,qcX p d a=some x/\q=(d,a,x):=by
 unfold zm qdt at h;simp only[List.range_zero,List.flatMap_nil,List.append_nil]at h;rcases zzd.1 h with h|h
 .unfold qgc at h
  exact Ad
 .obtain⟨d,_,h⟩:=List.mem_flatMap.1 h;obtain⟨a,_,h⟩:=List.mem_flatMap.1 h;unfold qeK at h
  exact Ah
def quQ(p:Pol)(d:GData)(q:Pt):Int:=if q.1=0 then gdM p.arches d else qlG q.2.2 d
def qHs(hp:PolOk p)(hR:PolR p){q:Pt}(hq:q ∈ zm p)(he:(qek p o q).2=0):∃n,PrgT (qek p o q).1 n (λd=>quQ p d q):=by
 rcases qhK hq with⟨rfl,_⟩|⟨d,a,x,hx,rfl⟩
 .have e:qek p o (0,6,qnJ)=gdC p.arches o:=if_pos rfl;rw[e]at he ⊢;cases hb:qnL p.arches with
  | true=>rw[qFV hb]at he;cases he
  | false =>
   refine⟨10,?_⟩;rw[show(λd=>quQ p d (0,6,qnJ))=gdM p.arches from funext λd=>if_pos rfl]
   simp_all[qD5]
 .obtain⟨f1,f2,f3,d0,_⟩:=qos hp hR hx;have e:qek p o (d,a,x)=qdk x o:=if_neg d0;rw[e]at he ⊢;rw[show(λy=>quQ p y (d,a,x))=qlG x from funext λy=>if_neg d0]
  cases hK:jr x with
  | false=>rw[qBo hK]at he;cases he
  | true=>exact⟨szF x,((qxi hK f1 f3 o).resolve_left Ac).2⟩
theorem qHt(hp:PolOk p)(hR:PolR p){q:Pt}(hq:q ∈ zm p)(he:(qek p o q).2=0):qfB (toP p o q)=true:=by
 obtain⟨n,hT⟩:=qHs hp hR hq he;have h1:(atU (qek p o q).1 (qfQ (qek p o q).1)).2=0:=by rw[hT.um,qBS hT.good]
 unfold qfB toP;simp only[zzB,zzb];refine⟨h1,?_⟩;rcases qhK hq with⟨rfl,_⟩|⟨d,a,x,hx,rfl⟩
 .rfl
 .obtain⟨_,_,_,d0,g0,g8,a0,a6⟩:=qos hp hR hx
  exact Ad
def qoF:∀a,(qdt p 0 a).length<=1
 | 0=>by unfold qdt qgc;split<;>simp
 | a+1=>by
  have h:=qoF a
  have e:qeK p 0 a=[]:=by
   unfold qeK
   have:qcX p ((0:Nat):Int) (a:Int)=none:=by
    unfold qcX;split
    .rfl
    .rfl
   rw[this]
  rw[qpF,e,List.append_nil];exact h
def qk6:∀d a,(qdt p (d+1) a).length<=1+6*d+a
 | d,a+1=>by
  have h1:=qk6 d a;have h2:=qoG p (d+1) a;rw[qpF,zzP];exact Ac
 | d+1,0=>by
  have h1:=qk6 d 6;rw[qnc];exact Ac
 | 0,0=>by
  have:=qoF (p:=p) 6;rw[qnc];exact Ac
def qrq:(zm p).length<=43:=qk6 7 0
variable (hp:PolOk p) (hR:PolR p) (hall:∀q ∈ zm p,(qek p o q).2=0)
include hp hR hall
def qAW:qd9 ((zm p).map (toP p o))=true:=by
 have:=qrq (p:=p);unfold qd9
 grind[qHt]
def qwH:∀x ∈ (zm p).map (toP p o),PrgIn x:=λx hx=>by
 obtain⟨q,hq,rfl⟩:=zzl.1 hx;obtain⟨n,hT⟩:=qHs hp hR hq (hall q hq);have:=hT.good.len;exact⟨by unfold toP;exact Ah,hT.good.ins⟩
def qr3{d:GData}(hd:DatOk d):evS ((zm p).map (toP p o)) d=qfY ((zm p).map (quQ p d)):=by
 unfold evS qiZ;rw[List.map_map]
 congr 1
 refine List.map_congr_left λq hq=>?_
 obtain⟨n,hT⟩:=qHs hp hR hq (hall q hq);exact(hT.tells d hd).1
end
end
section
variable [Cur]
variable {P:Program}{f:Nat}
def quz(p:Pol)(o:Bool):(∃e:Int,e≠0/\xR p o=([],e))\/((∀q ∈ zm p,(qek p o q).2=0)/\xR p o=((zm p).map (toP p o),0)):=by
 unfold xR
 exact Ah
def qFd(P:Program)(g:Nat):Prop:=∀l:List Prg,l.length<=100->(∀x ∈ l,PrgIn x)->∀d,DatOk d->qa P g [.fz l.length (rPr l),.agg (zT d)] (if qd9 l=true then .tup [.w (evS l d),.j 0]else .tup [.w 0,.j 290])
def p29(l:List Int)(pe:Bool):Pol:=⟨l,⟨0,[]⟩,2147483648,⟨0,[]⟩,[],0,0,false,pe,false,false⟩
def qk4{l:List Int}{pe:Bool}(h:l.length<=1000):PolOk (p29 l pe):=⟨h,zzu _,zzu _,zzu _⟩
def qoB{l:List Int}{pe:Bool}:PolR (p29 l pe):=⟨λx h=>(by cases h),⟨(Af:(0:Int)<=2147483648),(Af:(2147483648:Int)<=4294967295)⟩,⟨Int.le_refl 0,(Af:(0:Int)<18446744073709551616)⟩,λx h=>(by cases h),λx h=>(by cases h)⟩
def nz:AV->AV
 | .nils=>.fz 0 []
 | v=>v
def qyY{Z:Ren}:∀{l:List AV}{a:List Value},VRs σ0 Z l a->VRs σ0 Z (l.map nz) a
 | [],_,h=>Ad
 | v::l,_,h=>by
  cases h with
  | cons _ _ _ _ h1 h2 =>
   refine .cons _ _ _ _ ?_ (qyY h2);unfold nz;split
   .cases h1;exact .fz0 none
   exact Ac
def qkm{l:List Int}{pe:Bool}{ar:AV}{vs:List AV}{v:AV}(har:ar = .fz l.length (rI .i64 l)\/ar = .nils/\l=[])(h:qa P f (.agg (qr (p29 l pe))::vs) v):qa P f (.agg (qlC ar pe)::vs) v:=λhp k hk =>
 SC.args (h hp k hk) λZ zy hv=>by
  have e:qr (p29 l pe)=(qlC ar pe).map nz:=by rcases har with rfl|⟨rfl,rfl⟩<;>rfl
  rw[e];cases hv with
  | cons _ _ _ _ h1 h2 =>
   refine .cons _ _ _ _ ?_ h2;cases h1 with
   | agg _ arr h1=>exact .agg _ _ (qyY h1)
def qwg(p:Pol)(o:Bool):Bool:=qae p&&(zm p).all λq=>decide ((qek p o q).2=0)
def qAC{p:Pol}{o:Bool}(h:qwg p o=true):(∀q ∈ zm p,(qek p o q).2=0)/\xR p o=((zm p).map (toP p o),0):=by
 unfold qwg at h;simp only[zzB,zzy,zzb]at h;exact⟨h.2,by unfold xR;rw[if_pos h.1,if_pos h.2]⟩
def ok2:∀o,qwg (p29 [] true) o=true|true=>by kernel_rfl|false=>Aa
section
variable {gT gB gE:Nat}(hc:Ck P gT (qfw gB gE)) (hB:qA2 P gB) (hE:qFd P gE)
include hc hB hE
end
end
section
variable [Cur]
open Go.RowKit Go.Sort
variable {P:Program}{f:Nat}
def qHp:Array Value:=(Lib.pow10Tab.map λz=>Value.int .u64 z).toArray
def qv5(P:Program)(f:Nat):Prop:=∀n:Int,-9223372036854775808<=n->n<=9223372036854775807->∀w:World,Lib.TabIs P w "internal/strconv.uint64pow10" .u64 Lib.pow10Tab->
 Calls P f #[.int .i64 n] w λe w'=>e = .returned (.string ⟨(Lib.itoa n).toArray⟩)/\∃k os,w'=grow (w.drewN k) os
def qwU(P:Program)(f:Nat):Prop:=∀n:Int,-9223372036854775808<=n->n<=9223372036854775807->qa P f [.j n] (.s (Lib.itoa n))
def qIB{g:Nat}(hcod:qiv P f)(hg:P.globalNamed "internal/strconv.uint64pow10" = some g)(ht:tab g=some qHp)(hK:qv5 P f):qwU P f:=by
 intro n h0 h1 h k hk;refine⟨trivial,λZ B w args r ha=>?_⟩
 generalize hA:args.toList=L at ha;cases ha with
 | cons _ _ _ _ a1 a2 =>
  rename_i v1 vs1;cases a2;have hargs:args = #[v1]:=by apply Array.ext';rw[hA]
  subst hargs;cases a1;obtain⟨⟨ty,fz,hw⟩,_⟩:=r.frz g _ (Z.frz.ok g _ ht)
  have htab:Lib.TabIs P w "internal/strconv.uint64pow10" .u64 Lib.pow10Tab:=by
   unfold Lib.TabIs World.var?;rw[hg];show(match w.heap[g]? with|some (.cells cs _ _)=>some cs|_=>none)=_
   rw[hw];rfl
  refine .inl ⟨hcod,(hK n h0 h1 w htab).mono ?_⟩;rintro e w' ⟨rfl,q,os,rfl⟩;have hb:=Lib.below_grow w.heap.size w (zzL _) q os;exact⟨_,_,h,Z,rfl,hk,.s _,r.below hb,Kept.below r hb⟩
end
section
variable [Cur]
def bR(l:List UInt8):List AV:=l.map λc=>.y ((c.toNat:Nat):Int)
def qwv{l:List UInt8}:(bR l).length=l.length:=by simp[bR]
end
section
variable [Cur]
variable {P:Program}{f:Nat}
def agM(old now:List (List UInt8)):List (List UInt8):=(now.zipIdx.filter λp=>decide (old[p.2]?≠some p.1)).map Prod.fst
def qwe{old now:List (List UInt8)}{j:Nat}{x:List UInt8}(hx:now[j]?=some x):agM old (now.take (j+1))=agM old (now.take j)++if old[j]?=some x then []else [x]:=by
 have hj:j<now.length:=(zzS.1 hx).1;have hl:(now.take j).length=j:=by rw[zzm];exact Ac
 unfold agM;rw[zz2,hx];simp only[Option.toList_some,List.zipIdx_append,List.filter_append,List.map_append,hl,Nat.zero_add]
 congr 1
 by_cases h:old[j]?=some x
 .simp[h]
 .simp[h]
def qEO{old now:List (List UInt8)}{j:Nat}:(agM old (now.take j)).length<=j:=by
 unfold agM;rw[zzz];refine zzg (List.length_filter_le _ _) ?_;rw[List.length_zipIdx,zzm];exact Ac
def qfu:IFn:=irJ 14 []
def qDL(hc:Ck P f qfu)(old now:List (List UInt8))(ho:old.length<=100000)(hn:now.length<=100000):Own P f [.fz old.length (rS old),.fz now.length (rS now)] (.own 0 (agM old now).length) [.cells 1 true true (rS (agM old now))]:=by
 refine Own.mk hc (by simp[qu,clo,xz]) ?_;simp only[qfu,vI,simprocAttr];refine Ab ?_;refine SL.loop (α:=Nat) (λj=>[(0,.fz old.length (rS old)),(8,.fz now.length (rS now)),(5,.own 0 (agM old (now.take j)).length),(9,.j now.length),(10,.j j)]) (λj=>[.cells 1 true true (rS (agM old (now.take j)))]) (λj=>j<=now.length) (λj=>now.length-j) 0 [99] ?_ ?_ ?_ rfl ?_ ?_
 .simp[vw,qd,xz,agM]
 .simp[vw,qd,rS,agM]
 .simp
 .exact zzu _
 rintro j hj G ih;refine Am ?_
 by_cases hlt:j<now.length
 .obtain⟨x,hx⟩:∃x,now[j]?=some x:=⟨_,zzE hlt⟩;have hxr:(rS now)[j]?=some (.s x):=by rw[qpL,hx];rfl
  have hw:=wS j;have hk:=qEO (old:=old) (now:=now) (j:=j);have ih2:=ih (j+1);have hst:=qwe (old:=old) hx;have w1:(agM old (now.take j)).length+1<=qe:=by simp only[qe];exact Ac
  have w2:((agM old (now.take j)).length+1)*16<=qe:=by simp only[qe];exact Ac
  have hrl:(rS (agM old (now.take j))).length=(agM old (now.take j)).length:=qzw;have hcr:=xz (l:=agM old (now.take j));have hcx:qu (rS (agM old (now.take j))++[.s x])=true:=by rw[xF,hcr];rfl
  by_cases hjo:j<old.length
  .obtain⟨y,hy⟩:∃y,old[j]?=some y:=⟨_,zzE hjo⟩;have hyr:(rS old)[j]?=some (.s y):=by rw[qpL,hy];rfl
   have hjo':¬((old.length:Int)<=j):=Ac
   by_cases hxy:y=x
   .subst hxy;rw[if_pos hy,List.append_nil]at hst;rw[hst]at ih2;simp +decide only[↓vS,vT,simprocAttr,hlt,hjo,hjo',hxr,hyr,hw,zzU,beq_self_eq_true];refine ih2 Ac Ac _ _ (Wk.mk _ _ [0] ?_ ?_ ?_ rfl)
    .simp[vw,qd,xz]
    .simp[vw,qd,hcr]
    .simp
   .have hne:¬old[j]?=some x:=by rw[hy];simpa using hxy
    rw[if_neg hne]at hst;rw[hst,<- qzv,qzx]at ih2;have hb:(y==x)=false:=by simpa using hxy
    simp +decide only[↓vS,vT,simprocAttr,hlt,hjo,hjo',hxr,hyr,hw,zzU,hb,hxy,w1,w2,hrl];refine ih2 Ac Ac _ _ (Wk.mk _ _ [2] ?_ ?_ ?_ rfl)
    .simp[vw,qd,xz]
    .simp[vw,qd,hcx]
    .simp
  .have hjo':(old.length:Int)<=j:=Ac
   have hne:¬old[j]?=some x:=by rw[List.getElem?_eq_none Ac];simp
   rw[if_neg hne]at hst;rw[hst,<- qzv,qzx]at ih2;simp +decide only[↓vS,vT,simprocAttr,hlt,hjo,hjo',hxr,hw,zzU,w1,w2,hrl];refine ih2 Ac Ac _ _ (Wk.mk _ _ [2] ?_ ?_ ?_ rfl)
   .simp[vw,qd,xz]
   .simp[vw,qd,hcx]
   .simp
 .obtain rfl:j=now.length:=Ac
  refine Ft ?_;intro _;refine⟨[0],?_⟩;simp[vw,qd,xz]
def qDv:List (List UInt8×List (List UInt8)):=[([83,121,115,116,101,109,67,97,108,108,70,105,108,116,101,114],[[64,98,97,115,105,99,45,105,111,32,64,112,114,111,99,101,115,115],[126,64,110,101,116,119,111,114,107,32,107,105,108,108,58,69,80,69,82,77],[126,114,101,97,100,58,107,105,108,108,32,115,111,99,107,101,116],[119,114,105,116,101],[],[126,64,112,114,105,118,105,108,101,103,101,100,58,69,78,79,83,89,83],[64,115,121,115,116,101,109],[126,64,99,108,111,99,107,32,114,101,98,111,111,116,58,53]]),([83,121,115,116,101,109,67,97,108,108,69,114,114,111,114,78,117,109,98,101,114],[[69,78,79,83,89,83],[107,105,108,108],[],[49,51]]),([83,121,115,116,101,109,67,97,108,108,76,111,103],[[111,112,101,110,32,111,112,101,110,97,116],[126,64,102,105,108,101],[],[64,112,114,111,99,101,115,115]]),([83,121,115,116,101,109,67,97,108,108,65,114,99,104,105,116,101,99,116,117,114,101,115],[[110,97,116,105,118,101],[120,56,54,32,97,114,109,54,52],[],[114,105,115,99,118,54,52]]),([82,101,115,116,114,105,99,116,65,100,100,114,101,115,115,70,97,109,105,108,105,101,115],[[65,70,95,85,78,73,88,32,65,70,95,73,78,69,84],[126,65,70,95,85,78,73,88],[110,111,110,101],[]]),([82,101,115,116,114,105,99,116,78,97,109,101,115,112,97,99,101,115],[[121,101,115],[126,110,101,116,32,117,115,101,114],[110,111],[112,105,100]]),([77,101,109,111,114,121,68,101,110,121,87,114,105,116,101,69,120,101,99,117,116,101],[[121,101,115],[110,111]]),([76,111,99,107,80,101,114,115,111,110,97,108,105,116,121],[[111,110],[109,97,121,98,101]])]
def qpO(r:Nat):List UInt8×List (List UInt8):=qDv.getD r ([],[])
def qpE(x:UInt8):List UInt8:=(qpO (x.toNat % 8)).1++[61]++(qpO (x.toNat % 8)).2.getD (x.toNat / 8 % (qpO (x.toNat % 8)).2.length) []++[10]
def headD:List UInt8:=[91,83,101,114,118,105,99,101,93,10]
def qc8(b:List UInt8):List UInt8:=headD++b.flatMap qpE
def qDf:∀r,r<8->0<(qpO r).2.length/\(qpO r).2.length<=8/\(qpO r).1.length<=30/\∀v ∈ (qpO r).2,v.length<=30:=Af
def qso(x:UInt8):(qpE x).length<=62:=by
 obtain⟨h1,h2,h3,h4⟩:=qDf (x.toNat % 8) (Nat.mod_lt _ Af);unfold qpE
 have:((qpO (x.toNat % 8)).2.getD (x.toNat / 8 % (qpO (x.toNat % 8)).2.length) []).length<=30:=by
  have hlt:=Nat.mod_lt (x.toNat / 8) h1;rw[zzs,zzE hlt];exact h4 _ (List.getElem_mem hlt)
 simp only[zzP,zze,List.length_nil];exact Ac
def qqC{b:List UInt8}{j:Nat}{x:UInt8}(hx:b[j]?=some x):qc8 (b.take (j+1))=qc8 (b.take j)++qpE x:=by
 unfold qc8;rw[zz2,hx,List.flatMap_append];simp
def qi6{b:List UInt8}:∀{j:Nat},(qc8 (b.take j)).length<=10+j*62
 | 0=>by simp[qc8,headD]
 | j+1=>by
  cases hx:b[j]? with
  | none=>rw[zz2,hx];have:=qi6 (b:=b) (j:=j);simp;exact Ac
  | some x=>rw[qqC hx,zzP];have:=qi6 (b:=b) (j:=j);have:=qso x;exact Ac
def nmD:List UInt8:=[100,114,97,102,116,46,115,101,114,118,105,99,101]
def qD2(b:List UInt8):List AV:=[.s nmD,.j 0,.fz (qc8 b).length (bR (qc8 b))]
def qFc(P:Program)(f:Nat):Prop:=∀b:List UInt8,b.length<=1500->qa P f [.fz b.length (bR b)] (.agg (qD2 b))
def qIp(b:List UInt8)(h:b.length<=1500):(qc8 b).length<=100000:=by
 have:=qi6 (b:=b) (j:=b.length);rw[zz0]at this;exact Ac
end
section
variable [Cur]
open Go.RowKit
variable {P:Program}{f:Nat}
structure Bel (n:Nat) (w w':World):Prop where
 os:w'.os=w.os
 output:w'.output=w.output
 size:w.heap.size<=w'.heap.size
 block:∀k,k<n->w'.heap[k]?=w.heap[k]?
def Rel.bel{Z:Ren}{B:Nat->Prop}{h:Hp}{w w':World}(r:Rel σ0 Z B h w)(hb:Bel w.heap.size w w'):Rel σ0 Z B h w':=Ap
def Kept.bel{Z:Ren}{B:Nat->Prop}{h:Hp}{w w':World}(r:Rel σ0 Z B h w)(hb:Bel w.heap.size w w'):Kept Z B h w Z h w' :=
 ⟨λ_ _=>rfl,zzL _,rfl,λ_ _ _=>rfl,λk hk=>hb.block k (r.base k hk),hb.size,⟨hb.os,hb.output⟩,λ_ _ h=>h,λ_ _ h=>.inl h,zzL _⟩
def bV(b:List UInt8):List Value:=b.map λx=>Value.int .u8 ((x.toNat:Nat):Int)
def qv4(b:List UInt8)(w:World)(e:Ending)(w':World):Prop :=
 ∃(k c':Nat) (arr:Array Value) (ty:TypeId) (fz:Nat×Nat),e = .returned (.agg #[.string ⟨nmD.toArray⟩,.int .i64 0,.slice (some ⟨k,0,none⟩) (qc8 b).length c'])/\(qc8 b).length<=c'/\w.heap.size<=k/\w'.heap[k]?=some (.cells arr ty fz) /\
  arr.toList.take (qc8 b).length=bV (qc8 b)/\Bel w.heap.size w w'
def qv3(P:Program)(f:Nat):Prop :=
 (∀(a:Option Addr) (c:Nat) (w:World),TabOk w->Calls P f #[.slice a 0 c] w (qv4 [] w)) /\
 ∀(bk o c:Nat) (b:List UInt8) (w:World),TabOk w->(∀(j:Nat) x,b[j]?=some x->w.cell? ⟨bk,o+j,none⟩=some (.int .u8 ((x.toNat:Nat):Int)))->bk<w.heap.size->b.length<=1500->b.length<=c->
  Calls P f #[.slice (some ⟨bk,o,none⟩) b.length c] w (qv4 b w)
def qwu{φ:Nat->Option (Array Value)}:∀{l:List UInt8},CRs σ0 φ (bR l) (bV l)
 | []=>.nil
 | _::_=>.cons _ _ _ _ (.i _ _) qwu
def qn7{Z:Ren}{B:Nat->Prop}{h:Hp}{w w':World}{e:Ending}{b:List UInt8}{k:AV->Hp->Prop}(r:Rel σ0 Z B h w)(hk:k (.agg (qD2 b)) h)(he:qv4 b w e w') :
  ∃v v' h' Z',e = .returned v'/\k v h'/\VR σ0 Z' v v'/\Rel σ0 Z' B h' w'/\Kept Z B h w Z' h' w':=by
 obtain⟨q,c',arr,ty,fz,rfl,hc,hq,hw,hrow,hb⟩:=he
 have ho:∀k' a,Z.frz k'=some a->k'≠q:=λk' a hk'=>by
  obtain⟨⟨_,_,h1⟩,_⟩:=r.frz k' a hk';have:=(Array.getElem?_eq_some_iff.1 h1).1;exact Ac
 let φ:Fz:=⟨λk'=>if k'=q then some arr else Z.frz k',λk' a ht=>by
  have h1:=Z.frz.ok k' a ht;exact Ez⟩
 have hφ:∀k' a,Z.frz k'=some a->φ k'=some a:=λk' a h1=>Ez
 have hφq:φ q=some arr:=if_pos rfl;have le:Z.le ⟨Z.loc,φ,Z.n⟩:=⟨λ_ _ h=>h,hφ,zzL _⟩
 have r1:=r.bel hb
 have r2:Rel σ0 ⟨Z.loc,φ,Z.n⟩ B h w':=by
  refine⟨r1.dom,λb L e wf af cs h1 h2=>?_,λb L es h1 h2=>?_,r1.excl,r1.exclm,r1.app,r1.flr,r1.base,λk' a hk'=>?_,r1.dn⟩
  .obtain⟨e1,c,ty,fz,e2,e3,e4,e5,e6⟩:=r1.cells b L e wf af cs h1 h2
   exact⟨e1,c,ty,fz,e2,e3,e4,λj v hj=>by
    obtain⟨v',g1,g2⟩:=e5 j v hj;exact⟨v',g1,g2.mono le⟩,e6⟩
  .obtain⟨e1,o,e2,e3⟩:=r1.maps b L es h1 h2;exact⟨e1,o,e2,e3.mono le⟩
  .by_cases hkq:k'=q
   .subst hkq;rw[show(Ren.frz ⟨Z.loc,φ,Z.n⟩) k'=φ k' from rfl,hφq]at hk'
    cases hk';refine⟨⟨_,_,hw⟩,λb L x h1 _ _ h4=>?_⟩
    have:=r.dn.2 b L h1;exact Ac
   .have hk2:(if k'=q then some arr else Z.frz k')=some a:=hk'
    rw[if_neg hkq]at hk2;exact r1.frz k' a hk2
 have k0:=Kept.bel r hb;refine⟨_,_,h,⟨Z.loc,φ,Z.n⟩,rfl,hk,.agg _ _ (.cons _ _ _ _ (.s _) (.cons _ _ _ _ (.i _ _) (.cons _ _ _ _ (.fz _ 0 _ _ q arr hc hφq ?_) .nil))),r2,⟨k0.ext,k0.szle,k0.fl,k0.akeep,k0.pres,k0.wle,k0.io,hφ,λk' a hk'=>?_,zzL _⟩⟩
 .rw[List.drop_zero,qwv,hrow];exact qwu
 .by_cases hkq:k'=q
  .subst hkq;exact .inr (wJ r.base hq)
  .have hk2:(if k'=q then some arr else Z.frz k')=some a:=hk'
   rw[if_neg hkq]at hk2;exact .inl hk2
theorem qIU{w:World}(h:TabOk w)(o:Obj):TabOk (w.alloc o):=⟨λk a hk=>by
 obtain⟨ty,fz,h1⟩:=h.ok k a hk;exact⟨ty,fz,(Go.RowKit.Below.heap_alloc w o k (Array.getElem?_eq_some_iff.1 h1).1).trans h1⟩⟩
def qIq(hcod:qiv P f)(hK:qv3 P f):qFc P f:=by
 intro b hb h k hk;refine⟨trivial,λZ B w args r ha=>?_⟩
 have hT:TabOk w:=⟨λk a hk=>(r.frz k a (Z.frz.ok k a hk)).1⟩
 generalize hA:args.toList=L at ha;cases ha with
 | cons _ _ _ _ a1 a2 =>
  rename_i v1 vs1;cases a2;have hargs:args = #[v1]:=by apply Array.ext';rw[hA]
  subst hargs;rcases a1.un_fz with⟨q,off,c,arr,rfl,hc,hq,hcs⟩|⟨h0,_,a,rfl⟩
  .obtain⟨⟨ty,fz,hw⟩,_⟩:=r.frz q arr hq;refine .inl ⟨hcod,(hK.2 q off c b w hT (λj x hjx=>?_) (Array.getElem?_eq_some_iff.1 hw).1 hb hc).mono λe w' he=>qn7 r hk he⟩
   obtain⟨v,h1,h2⟩:=hcs.get (j:=j) (a:=.y ((x.toNat:Nat):Int)) (by rw[bR,zzo,hjx];rfl);cases h2;have hjl:j<(bR b).length:=by rw[qwv];exact(zzS.1 hjx).1
   rw[List.getElem?_take,if_pos hjl,zzp,Array.getElem?_toList]at h1;show(match w.heap[q]? with|some (.cells c _ _)=>if(none:Option _).isSome then none else c[off+j]? | _=>none)=_
   rw[hw];exact h1
  .have hnil:b=[]:=List.eq_nil_of_length_eq_zero h0;subst hnil;exact .inl ⟨hcod,(hK.1 a 0 w hT).mono λe w' he=>qn7 r hk he⟩
end
section
variable [Cur]
variable {P:Program}{f:Nat}
def qph:List (List UInt8×List (List UInt8))->List AV
 | []=>[]
 | p::l=>.s p.1 :: .fz p.2.length (rS p.2)::qph l
inductive ChV (φ:Nat->Option (Array Value)):List (List UInt8×List (List UInt8))->List Value->Prop where
 | nil:ChV φ [] []
 | cons (k:List UInt8) (vs:List (List UInt8)) (q o c:Nat) (arr:Array Value) (hq:φ q=some arr) (hc:vs.length<=c) (ha:∀(j:Nat) v,vs[j]?=some v->arr[o+j]?=some (.string ⟨v.toArray⟩)) (l:List (List UInt8×List (List UInt8))) (xs:List Value) (h:ChV φ l xs):ChV φ ((k,vs)::l) (.string ⟨k.toArray⟩ :: .slice (some ⟨q,o,none⟩) vs.length c::xs)
def qw8{Z:Ren}:∀{l:List (List UInt8×List (List UInt8))}{xs:List Value},(∀p ∈ l,p.2≠[])->VRs σ0 Z (qph l) xs->ChV Z.frz l xs
 | [],_,_,h=>by cases h;exact .nil
 | (k,vs)::l,_,hp,h=>by
  cases h with
  | cons _ _ _ _ h1 h2 =>
   cases h2 with
   | cons _ _ _ _ h2 h3 =>
    have e:=h1.un_s;subst e;rcases h2.un_fz with⟨q,off,c,arr,rfl,hc,hq,hcs⟩|⟨h0,_⟩
    .refine .cons k vs q off c arr hq hc (λj v hj=>?_) l _ (qw8 (λp h=>hp p (.tail _ h)) h3)
     obtain⟨x,g1,g2⟩:=hcs.get (j:=j) (a:=.s v) (by rw[qpL,hj];rfl);cases g2;have hjl:j<(rS vs).length:=by rw[qzw];exact(zzS.1 hj).1
     rwa [List.getElem?_take,if_pos hjl,zzp,Array.getElem?_toList]at g1
    .exact absurd (List.eq_nil_of_length_eq_zero h0) (hp _ (.head _))
omit [Cur] in
def qBj{φ:Nat->Option (Array Value)}:∀{l:List (List UInt8×List (List UInt8))}{xs:List Value},ChV φ l xs->∀r p,l[r]?=some p->∃q o c arr,φ q=some arr/\p.2.length<=c/\(∀(j:Nat) v,p.2[j]?=some v->arr[o+j]?=some (.string ⟨v.toArray⟩))/\xs[2*r]?=some (.string ⟨p.1.toArray⟩)/\xs[2*r+1]?=some (.slice (some ⟨q,o,none⟩) p.2.length c)
 | _,_,.nil,r,p,h=>by cases h
 | _,_,.cons k vs q o c arr hq hc ha l xs hh,r,p,h=>by
  cases r with
  | zero=>cases h;exact⟨q,o,c,arr,hq,hc,ha,rfl,rfl⟩
  | succ r =>
   obtain⟨q',o',c',arr',g1,g2,g3,g4,g5⟩:=qBj hh r p h;exact⟨q',o',c',arr',g1,g2,g3,by rw[show 2*(r+1)=2*r+2 from Ac];exact g4,by rw[show 2*(r+1)+1=2*r+1+2 from Ac];exact g5⟩
def qAm(hp:qa P f [] (.agg (qph qDv)))(hc:qiv P f)(w:World)(hT:TabOk w):Calls P f #[] w λe w'=>∃(a:Array Value) (φ:Nat->Option (Array Value)),e = .returned (.agg a)/\ChV φ qDv a.toList/\(∀k arr,φ k=some arr->∃ty fz,w'.heap[k]?=some (.cells arr ty fz))/\Bel w.heap.size w w':=by
 haveI:=hT
 have h:=(hp H0 (λv _=>v = .agg (qph qDv)) rfl).2 (ice w) (low w.heap.size) w #[] (Rel.ice w) .nil
 rcases h with⟨_,h⟩|⟨v,w',h,_⟩
 .refine h.mono λe w' hh=>?_
  obtain⟨v,v',h',Z',rfl,rfl,hv,hr,hk⟩:=hh;cases hv with
  | agg _ a ha =>
   exact⟨a,Z'.frz,rfl,qw8 Af ha,λk arr hq=>(hr.frz k arr hq).1,⟨hk.io.1,hk.io.2,hk.wle,hk.pres⟩⟩
 .exact Ia
def qn1(a n:Int):GData:=⟨n,qb7 a,0,0,0,0,0,0,0⟩
def shR(l:List Prg)(a:Int)(c:GCall):GCall:=⟨c.name,evS l (qn1 a c.act)⟩
def shL(l:List Prg)(a:Int):List GCall:=(zC a).map (shR l a)
def shM(p:Pol)(a:Int)(o:Bool):List GCall×Int :=
 if 0<=a/\a<6 then(if(xR p o).2=0 then(shL (xR p o).1 a,0)else([],2))else([],80)
def qKK(n:Nat):(List.replicate n [AV.s [],AV.w 0]).flatten=rC (List.replicate n ⟨[],0⟩):=Bp
def qfm(R:List GCall)(j:Nat):List GCall:=R.take j++List.replicate (R.length-j) ⟨[],0⟩
def qn9(R:List GCall)(j:Nat)(h:j<=R.length):(qfm R j).length=R.length:=by simp[qfm];exact Ac
def quZ{R:List GCall}{j:Nat}{c:GCall}(h:R[j]?=some c):(qfm R j).set j c=qfm R (j+1):=by
 obtain⟨hj,rfl⟩:=zzS.1 h;have e:R.length-j=(R.length-(j+1))+1:=Ac
 have e2:R.take (j+1)=R.take j++[R[j]]:=by rw[zz2,h];rfl
 have hl:(R.take j).length=j:=by rw[zzm];exact Ac
 unfold qfm;rw[List.set_append_right _ _ Ac,e,e2,List.replicate_succ,hl,Nat.sub_self,List.set_cons_zero,zzi];rfl
def qo4{a:Int}(h0:0<=a)(h6:a<6):∀c ∈ zC a,u32 c.act:=by
 have h:(zC a).all (λc=>decide (0<=c.act)&&decide (c.act<=4294967295))=true:=by
  have:a=0\/a=1\/a=2\/a=3\/a=4\/a=5:=Ac
  exact Du
 intro c hc;have:=zzy.1 h c hc;simp only[zzB,zzb]at this;exact⟨this.1,this.2⟩
def qH7{a:Int}(h0:0<=a)(h6:a<6):u32 (qb7 a):=by
 have:a=0\/a=1\/a=2\/a=3\/a=4\/a=5:=Ac
 rcases this with rfl|rfl|rfl|rfl|rfl|rfl<;>(unfold u32;decide)
def qjK{a n:Int}(h0:0<=a)(h6:a<6)(hn:u32 n):DatOk (qn1 a n):=by
 have ht:=qH7 h0 h6;exact⟨hn.1,hn.2,ht.1,ht.2,by intro x hx;simp[qnT,qn1]at hx;exact Ac⟩
def qcr(a b c d:Nat):ICode:=icJ 18 [41,a,42,b,10,c,43,d] 255
def qiJ(a b c d:Nat):IFn:=irJ 18 [41,a,42,b,10,c,43,d] [255] [qcr a b c d]
def qDg{g1 g2 g3 g4:Nat}(h4:qFd P g4){l:List Prg}(hl:l.length<=100)(hx:∀x ∈ l,PrgIn x)(hm:qd9 l=true){a:Int}(h0:0<=a)(h6:a<6)
  {t':Tr AV}{h':Hp}(hw:Wk 0 t' h' (mkT [(8,.w (qb7 a)),(10,.fz l.length (rPr l)),(11,.fz (zC a).length (rC (zC a))),(12,.sl 0 0 (zC a).length (zC a).length false)]) (mkH 0 [.v (rC (qfm (shL l a) 0))])) :
  S P 0 (qcr g1 g2 g3 g4) (xG [.tmp 6,.tmp 7] λv' h'=>Frz h' v' (.tup [.fz (shL l a).length (rC (shL l a)),.j 0])) t' h':=by
 have hn:(shL l a).length=(zC a).length:=by simp[shL]
 have h40:=qfd a;refine B4 ?_;simp only[qcr,vI,simprocAttr];refine Ab ?_
 refine SL.loop (α:=Nat) (λj=>[(8,.w (qb7 a)),(10,.fz l.length (rPr l)),(12,.sl 0 0 (zC a).length (zC a).length false),(38,.fz (zC a).length (rC (zC a))),(39,.j (zC a).length),(40,.j (j:Int))]) (λj=>[.v (rC (qfm (shL l a) j))])
  (λj=>j<=(zC a).length) (λj=>(zC a).length-j) 0 [0] ?_ ?_ ?_ rfl ?_ ?_
 .simp[vw,qbV,ql]
 .simp[vw,qd,ql]
 .simp
 .exact zzu _
 rintro j hj G ih;refine Am ?_
 by_cases hlt:j<(zC a).length
 .obtain⟨c,hpc⟩:∃c,(zC a)[j]?=some c:=⟨_,zzE hlt⟩;have hcu:=qo4 h0 h6 c (zzM hpc);have hev:=h4 l hl hx (qn1 a c.act) (qjK h0 h6 hcu);rw[if_pos hm]at hev;have hw1:=wS j;have ec:=qI (f:=jI) (m:=2) (λ_=>rfl) hpc
  rw[show(zC a).flatMap jI=rC (zC a)from rfl]at ec
  simp only[jI]at ec;have bc:j*2+2<=(rC (zC a)).length:=by rw[qhM];exact Ac
  have hR:(shL l a)[j]?=some (shR l a c):=by simp[shL,hpc]
  have bf:j*2+2<=(rC (qfm (shL l a) j)).length:=by rw[qhM,qn9 _ _ Ac];exact Ac
  have hst:=qHz (L:=qfm (shL l a) j) (j:=j) (by rw[qn9 _ _ Ac];exact Ac) (shR l a c)
  rw[quZ hR]at hst;simp only[shR,qn1]at hst;simp only[zT,qn1]at hev;refine Sa (zzA hlt (zzA ec bc)) ?_;refine hev.sc ?_;refine Sa (zzA hlt (zzA hw1 (zzA bf hst))) ?_;refine ih (j+1) hlt Ac _ _ (Wk.mk _ _ [0] ?_ ?_ ?_ rfl)
  .simp[vw,qbV,ql]
  .simp[vw,qd,ql]
  .simp
 .obtain rfl:j=(zC a).length:=Ac
  have hfull:qfm (shL l a) (zC a).length=shL l a:=by rw[<- hn];unfold qfm;simp
  refine Sa (zzA hlt hfull) ?_;simp[vZ,vP,zz4,zc ql];rw[hn];refine Frz.cut 2 rfl (zzL _) ?_;have ht:(rC (shL l a)).take ((zC a).length*2)=rC (shL l a):=zzt (by rw[qhM];exact Ac);simp[vZ,vP,zz4,zc ql,ht,qhM,hn]
def qIQ{g1 g2 g3 g4:Nat}(hc:Ck P f (qiJ g1 g2 g3 g4))(h1:qqo P g1)(h1':∀a:Int,(¬(0<=a/\a<6))->qa P g1 [.j a] (.tup [.w 0,.j 80]))(h2:qA2 P g2)(h3:qwO P g3)(h4:qFd P g4)
  (p:Pol) (hp:PolOk p) (hR:PolR p) (a:Int) (o:Bool):qa P f [.agg (qr p),.j a,.b o] (.tup [.fz (shM p a o).1.length (rC (shM p a o).1),.j (shM p a o).2]):=by
 refine C8 ?_;have h2':=h2 p hp hR (λd a x h=>let ⟨a1,a2,_⟩:=qos hp hR h;⟨a1,a2⟩) o
 unfold shM;simp only[qiJ,vI,simprocAttr]
 by_cases ha:0<=a/\a<6
 .have h1a:=h1 a ha.1 ha.2;have h3a:=h3 a ha.1 ha.2;rw[if_pos ha];rcases quz p o with⟨e,he,hb⟩|⟨hall,hb⟩
  .rw[hb]at h2' ⊢;simp only[qr]at h2';rw[if_neg (by simpa using he)];refine G6 ?_;refine Ab ?_;refine h2'.sc ?_;refine Sa he ?_;simp[vZ,vP];rfl
  .rw[hb]at h2' ⊢;have hle:=qrq (p:=p);have hlen:((zm p).map (toP p o)).length<=100:=by rw[zzz];exact Ac
   have hin:=qwH hp hR hall;have hmay:=qAW hp hR hall;generalize(zm p).map (toP p o)=L at *;rw[if_pos rfl];simp only[qr]at h2';have h40:=qfd a;have hz:rC (List.replicate (zC a).length ⟨[],0⟩)=rC (qfm (shL L a) 0):=by simp[qfm,shL]
   refine G6 ?_;refine Ab ?_;refine h2'.sc ?_;refine Ab ?_;refine h3a.sc ?_;have hr1:(zC a).length<=qe:=by simp only[qe];exact Ac
   have hr2:24*(zC a).length<=qe:=by simp only[qe];exact Ac
   have hr3:¬((zC a).length:Int)<0:=Ac
   simp +decide only[↓vS,vT,simprocAttr,hr1,hr2,hr3,qKK,hz]
   trace_state
   refine qDg h4 hlen hin hmay ha.1 ha.2 (Wk.mk _ _ [1] ?_ ?_ ?_ rfl)
   .simp[vw,qbV,ql]
   .simp[vw,qd,ql]
   .simp
 .have h1a:=h1' a ha;rw[if_neg ha];refine G6 ?_;refine Ab ?_;simp[vZ,vP];rfl
def qin(n:Int):Int:=xK .u32 n 65535
def qnQ(n:Int):List UInt8:=jU (qaN .u32 n 65535) xA
def qgj(n:Int):List UInt8:=if qnQ n≠[]/\(qin n≠0\/qaN .u32 n 65535=327680)then qnQ n++(32::Lib.itoa (qin n))else qnQ n
def qm7(m:Int):∀l:List (List UInt8×Int),(∀x ∈ l,x.1.length<=10)->(jU m l).length<=10
 | [],_=>by simp[jU]
 | p::l,h=>by
  unfold jU;split
  .exact h p (by simp)
  .exact qm7 m l λx hx=>h x (by simp[hx])
def qro(n:Int):(qnQ n).length<=10:=qm7 _ _ Af
def qxo(n:Int):0<=qin n/\qin n<=4294967295:=by
 unfold qin xK
 have h:∀m:Nat,0<=IntKind.wrap .u32 (m:Int)/\IntKind.wrap .u32 (m:Int)<=4294967295:=λm=>by
  refine Cb ?_;exact Ac
 exact h _
def qha:IFn:=irJ 68 []
def qK7(hc:Ck P f qha)(n:Int):qa P f [.w n] (.w (qin n)):=by
 refine Al ?_;simp only[qha,vI,simprocAttr];refine Ab ?_;simp[vZ,qin]
def qhd(a b c d:Nat):IFn:=irJ 44 [67,a,68,b,69,c,70,d]
def qLb{g1 g2 g3 g4:Nat}(hc:Ck P f (qhd g1 g2 g3 g4))(h1:∀n,qa P g1 [.w n] (.s (qnQ n)))(h2:∀n,qa P g2 [.w n] (.w (qin n)))(h3:∀n,qa P g3 [.w n] (.w (qaN .u32 n 65535)))(h4:qwU P g4)(n:Int):qa P f [.w n] (.s (qgj n)):=by
 refine Al ?_;have hd:=qxo n;have hn:=qro n;have hi:=h4 (qin n) Ac Ac;have hl:=Lib.itoa_length_le (qin n) Ac Ac;have w1:IntKind.wrap .i64 (qin n)=qin n:=qE Ac Ac;have p1:=h1 n;have p2:=h2 n;have p3:=h3 n;unfold qgj;simp only[qhd,vI,simprocAttr];generalize qnQ n=s at *;generalize qin n=d at *;generalize qaN .u32 n 65535=c at *;have b1:1+(Lib.itoa d).length<=9223372036854775807:=Ac
 have b2:s.length+((Lib.itoa d).length+1)<=9223372036854775807:=Ac
 refine Ab ?_;refine p1.sc ?_
 by_cases e0:s=[]
 .subst e0;refine Ab ?_;simp[vZ]
 .by_cases e1:d=0
  .subst e1;refine Sa e0 ?_;refine p2.sc ?_;refine Ab ?_;refine p3.sc ?_
   by_cases e2:c=327680
   .subst e2;refine Ab ?_;refine Ht ?_;rw[if_pos (by simpa using e0)];simp[vZ]
   .refine Sa e2 ?_;rw[if_neg (by simp)];simp[vZ]
  .refine Sa (zzA e0 e1) ?_;refine p2.sc ?_;refine Sa e1 ?_;refine Ht ?_;rw[if_pos ⟨e0,.inl e1⟩];simp[vZ]
def xW(c:GCall):List UInt8:=c.name++[58,32]++qgj c.act
def qrR(n:Int):(qgj n).length<=40:=by
 have hd:=qxo n;have hn:=qro n;have hl:=Lib.itoa_length_le (qin n) Ac Ac;unfold qgj;split<;>simp<;>omega
def qdo(a:Nat):IFn:=irJ 19 [44,a]
def qIP{g1:Nat}(hc:Ck P f (qdo g1))(h1:∀n,qa P g1 [.w n] (.s (qgj n)))(c:GCall)(hl:c.name.length<=100):qa P f [.agg (jI c)] (.s (xW c)):=by
 refine Al ?_;have ht:=qrR c.act;have p1:=h1 c.act;unfold xW;simp only[qdo,jI,vI,simprocAttr];generalize qgj c.act=s at *;have b1:c.name.length+2<=9223372036854775807:=Ac
 have b2:c.name.length+2+s.length<=9223372036854775807:=Ac
 refine Ab ?_;refine zB ?_;simp +decide only[↓vS,vT,simprocAttr,b1,b2,zzP,zze,List.length_nil];refine p1.pc ?_;simp +decide only[↓vS,vT,simprocAttr,b1,b2,zzP,zze,List.length_nil];simp[vZ]
def qk1{a:Int}(h0:0<=a)(h6:a<6):∀c ∈ zC a,c.name.length<=100:=by
 have h:(zC a).all (λc=>decide (c.name.length<=100))=true:=by
  have:a=0\/a=1\/a=2\/a=3\/a=4\/a=5:=Ac
  exact Du
 intro c hc;simpa using zzy.1 h c hc
def qmd(p:Pol)(a:Int)(o:Bool):(shM p a o).1.length<=40:=by
 unfold shM;split<;>(try split)<;>simp[shL,qfd]
def qzQ(p:Pol)(a:Int)(o:Bool):∀c ∈ (shM p a o).1,c.name.length<=100:=by
 unfold shM;split
 .rename_i ha;split<;>simp[shL,shR];exact λc hc=>qk1 ha.1 ha.2 c hc
 .simp
def qht(a b:Nat):IFn:=irJ 8 [18,a,19,b]
def qHM{g1 g2:Nat}(hc:Ck P f (qht g1 g2))(h1:∀p,PolOk p->PolR p->∀a o,qa P g1 [.agg (qr p),.j a,.b o] (.tup [.fz (shM p a o).1.length (rC (shM p a o).1),.j (shM p a o).2]))(h2:∀c:GCall,c.name.length<=100->qa P g2 [.agg (jI c)] (.s (xW c)))
  (p:Pol) (hp:PolOk p) (hR:PolR p) (a:Int) (o:Bool):qa P f [.agg (qr p),.j a,.b o] (.tup [.fz (shM p a o).1.length (rS ((shM p a o).1.map xW)),.j (shM p a o).2]):=by
 refine C8 ?_;have p1:=h1 p hp hR a o;have hl:=qmd p a o;have hn:=qzQ p a o;generalize(shM p a o).1=L at *;generalize(shM p a o).2=e at *;simp only[qr]at p1;simp only[qht,vI,simprocAttr];refine Aw ?_;refine Ab ?_;refine SL.loop (α:=Nat) (λj=>[(9,.j e),(10,.own 0 ((L.take j).map xW).length),(20,.fz L.length (rC L)),(21,.j L.length),(22,.j (j:Int))]) (λj=>[.cells 1 true true (rS ((L.take j).map xW))]) (λj=>j<=L.length) (λj=>L.length-j) 0 [99] ?_ ?_ ?_ rfl ?_ ?_
 .simp[vw,ql]
 .simp[vw,qd,rS]
 .simp
 .exact zzu _
 rintro j hj G ih;refine Am ?_
 by_cases hlt:j<L.length
 .obtain⟨c,hpc⟩:∃c,L[j]?=some c:=⟨_,zzE hlt⟩;have hstr:=h2 c (hn c (zzM hpc));have hw1:=wS j;have ec:=qI (f:=jI) (m:=2) (λ_=>rfl) hpc
  rw[show L.flatMap jI=rC L from rfl]at ec
  simp only[jI]at ec hstr;have bc:j*2+2<=(rC L).length:=by rw[qhM];exact Ac
  have htk:(L.take (j+1)).map xW=(L.take j).map xW++[xW c]:=by rw[zz2,hpc];simp
  have hal:((L.take j).map xW).length<=40:=by rw[zzz,zzm];exact Ac
  have ih2:=ih (j+1) hlt Ac;rw[htk]at ih2;generalize(L.take j).map xW=A at ih2 hal ⊢;have hr1:A.length+1<=qe:=by simp only[qe];exact Ac
  have hr2:(A.length+1)*16<=qe:=by simp only[qe];exact Ac
  have hap:rS A++[.s (xW c)]=rS (A++[xW c]):=by simp[rS]
  have hll:(rS A).length=A.length:=by simp[rS]
  refine Sa (zzA hlt (zzA ec bc)) ?_;refine hstr.sc ?_;simp +decide only[↓vS,vT,simprocAttr,hr1,hr2,hap,hll,zzU,hw1];refine ih2 _ _ (Wk.mk _ _ [3] ?_ ?_ ?_ rfl)
  .simp[vw,ql]
  .simp[vw,qd,xz]
  .simp
 .obtain rfl:j=L.length:=Ac
  refine Ft ?_;simp[vZ,vP,zz4,zc xz];intro h;rw[h];rfl
def qbF(x:Int)(L:List GCall):Nat:=(L.filter λc=>decide (c.act=x)).length
def qgP(L:List GCall):Nat:=(L.filter λc=>!decide (c.act=2147418112) && !decide (c.act=2147221504)).length
def qjO(L:List GCall):qbF 2147418112 L+qbF 2147221504 L+qgP L=L.length:=by
 unfold qbF qgP
 induction L with
 | nil=>rfl
 | cons c L ih =>
  by_cases h1:c.act=2147418112
  .simp[h1]at ih ⊢;exact Ac
  .by_cases h2:c.act=2147221504
   .simp[h2]at ih ⊢;exact Ac
   .simp[h1,h2]at ih ⊢;exact Ac
def qdZ(a:Nat):ICode:=icJ 9 [18,a] 971
def qa9(a:Nat):ICode:=icJ 9 [18,a] 3275
def qhs(a:Nat):IFn:=irJ 9 [18,a] [3275,971] [qa9 a,qdZ a]
def quP{g1 b:Nat}{nm:List UInt8}{v:Int}{x y z j n:Nat}{R:List AV}(hx:x<=100)(hy:y<=100)(hz:z<=100){Q:X->Tr AV->Hp->Prop}{x' y' z':Nat}
  (hv:v=2147418112/\x'=x+1/\y'=y/\z'=z\/v=2147221504/\x'=x/\y'=y+1/\z'=z\/(v≠2147418112/\v≠2147221504)/\x'=x/\y'=y/\z'=z+1)
  (hQ:∀t' h',Wk 0 t' h' (mkT [(4,.j (x':Int)),(5,.j (y':Int)),(6,.j (z':Int)),(17,.fz n R),(18,.j (n:Int)),(19,.j (j:Int))]) (mkH 0 [])->Q .normal t' h')
  (hR:qu R=true) {t':Tr AV}{h':Hp}(hw:Wk 0 t' h' (mkT [(4,.j (x:Int)),(5,.j (y:Int)),(6,.j (z:Int)),(10,.ptr 0 0),(17,.fz n R),(18,.j (n:Int)),(19,.j (j:Int))]) (mkH 0 [.v [.s nm,.w v]])) :
  S P 0 (qa9 g1) Q t' h':=by
 have wx:=wS x;have wy:=wS y;have wz:=wS z;have my:IntKind.wrap .i64 ((y:Int)-1)=(y:Int)-1:=qE Ac Ac;have mz:IntKind.wrap .i64 ((z:Int)-1)=(z:Int)-1:=qE Ac Ac;have py:IntKind.wrap .i64 ((y:Int)-1+1)=(y:Int):=by rw[qE Ac Ac];exact Ac
 have pz:IntKind.wrap .i64 ((z:Int)-1+1)=(z:Int):=by rw[qE Ac Ac];exact Ac
 refine B4 ?_;simp only[qa9,vI,simprocAttr];rcases hv with⟨rfl,rfl,rfl,rfl⟩|⟨rfl,rfl,rfl,rfl⟩|⟨⟨e1,e2⟩,rfl,rfl,rfl⟩
 .simp +decide only[↓vS,vT,simprocAttr,wx,my,mz,py,pz];exact C2
 .refine Sa (zzA wy (zzA mz pz)) ?_;exact C2
 .refine Sa (zzA e1 (zzA e2 wz)) ?_;exact C2
def qFu{g1:Nat}(hc:Ck P f (qhs g1))(h1:∀p,PolOk p->PolR p->∀a o,qa P g1 [.agg (qr p),.j a,.b o] (.tup [.fz (shM p a o).1.length (rC (shM p a o).1),.j (shM p a o).2]))
  (p:Pol) (hp:PolOk p) (hR:PolR p) (a:Int):qa P f [.agg (qr p),.j a] (.tup [.j (qbF 2147418112 (shM p a false).1),.j (qbF 2147221504 (shM p a false).1),.j (qgP (shM p a false).1)]):=by
 refine C8 ?_;have p1:=h1 p hp hR a false;have hl:=qmd p a false;generalize(shM p a false).1=L at *;generalize(shM p a false).2=e at *;simp only[qr]at p1;simp only[qhs,vI,simprocAttr];refine Aw ?_;refine Ab ?_;refine SL.loop (α:=Nat) (λj=>[(4,.j (qbF 2147418112 (L.take j):Int)),(5,.j (qbF 2147221504 (L.take j):Int)),(6,.j (qgP (L.take j):Int)),(17,.fz L.length (rC L)),(18,.j L.length),(19,.j (j:Int))]) (λj=>[]) (λj=>j<=L.length) (λj=>L.length-j) 0 [] ?_ ?_ ?_ rfl ?_ ?_
 .simp[vw,ql,qbF,qgP]
 .trivial
 .simp
 .exact zzu _
 rintro j hj G ih;refine Am ?_
 by_cases hlt:j<L.length
 .obtain⟨c,hpc⟩:∃c,L[j]?=some c:=⟨_,zzE hlt⟩;have hw1:=wS j;have ec:=qI (f:=jI) (m:=2) (λ_=>rfl) hpc
  rw[show L.flatMap jI=rC L from rfl]at ec
  simp only[jI]at ec;have bc:j*2+2<=(rC L).length:=by rw[qhM];exact Ac
  have htk:L.take (j+1)=L.take j++[c]:=by rw[zz2,hpc];rfl
  have hal:=qjO (L.take j);have htl:(L.take j).length<=40:=by rw[zzm];exact Ac
  have ih2:=ih (j+1) hlt Ac;rw[htk]at ih2
  have a1:∀x,qbF x (L.take j++[c])=qbF x (L.take j)+(if c.act=x then 1 else 0):=λx=>by
   unfold qbF;rw[List.filter_append,zzP];by_cases h:c.act=x<;>simp[h]
  have a2:qgP (L.take j++[c])=qgP (L.take j)+(if c.act≠2147418112/\c.act≠2147221504 then 1 else 0):=by
   unfold qgP;rw[List.filter_append,zzP]
   by_cases h:c.act=2147418112
   .simp[h]
   .by_cases h':c.act=2147221504<;>simp[h,h']
  rw[a1,a1,a2]at ih2;generalize qbF 2147418112 (L.take j)=x at *;generalize qbF 2147221504 (L.take j)=y at *;generalize qgP (L.take j)=z at *;refine Sa (zzA hlt (zzA ec bc)) ?_;refine quP (b:=0) (nm:=c.name) (j:=j) (n:=L.length) (v:=c.act) (x:=x) (y:=y) (z:=z) (x':=x+if c.act=2147418112 then 1 else 0) (y':=y+if c.act=2147221504 then 1 else 0) (z':=z+if c.act≠2147418112/\c.act≠2147221504 then 1 else 0) Ac Ac Ac ?_ (λt2 h2 hw2=>?_) (ql (l:=L)) (Wk.mk _ _ [0] ?_ ?_ ?_ rfl)
  .by_cases e1:c.act=2147418112
   .exact .inl ⟨e1,by simp[e1],by simp[e1],by simp[e1]⟩
   .by_cases e2:c.act=2147221504
    .exact .inr (.inl ⟨e2,by simp[e2],by simp[e2],by simp[e2]⟩)
    .exact .inr (.inr ⟨⟨e1,e2⟩,by simp[e1],by simp[e2],by simp[e1,e2]⟩)
  .refine Ab ?_;refine S.weak hw2 (qj ?_);simp only[qdZ,vI,simprocAttr];refine Sa hw1 ?_;refine ih2 _ _ (Wk.mk _ _ [] ?_ ?_ ?_ rfl)
   .simp[vw,ql]
   .trivial
   .simp
  .simp[vw,ql]
  .simp[vw]
  .simp
 .obtain rfl:j=L.length:=Ac
  refine Ft ?_;simp[vZ]
def qbp:IFn:=irJ 12 []
def qEP(hc:Ck P f qbp)(a b:List (List UInt8))(ha:a.length<=1000)(hb:b.length<=1000):qa P f [.fz a.length (rS a),.fz b.length (rS b)] (.b (decide (a=b))):=by
 refine qa.mk hc (by simp[qu,clo,xz]) ?_;simp only[qbp,vI,simprocAttr];refine Ab ?_;refine SL.loop (α:=Nat) (λj=>[(0,.fz a.length (rS a)),(1,.fz b.length (rS b)),(5,.j (j:Int))]) (λ_=>[]) (λj=>j<=a.length/\j<=b.length/\a.take j=b.take j) (λj=>a.length-j) 0 [] ?_ ?_ ?_ rfl ?_ ?_
 .simp[vw,xz]
 .trivial
 .simp
 .simp
 rintro j ⟨hj,hj2,hI⟩ G ih;refine Am ?_
 by_cases h1:j<a.length
 .have h1':(j:Int)<a.length:=Ac
  have hw1:=wS j;have n1:¬(j:Int)=a.length:=Ac
  by_cases h2:j<b.length
  .have h2':(j:Int)<b.length:=Ac
   have n2:¬(j:Int)=b.length:=Ac
   have ex:(rS a)[j]?=some (.s a[j]):=by simp[rS,h1]
   have ey:(rS b)[j]?=some (.s b[j]):=by simp[rS,h2]
   refine zB ?_
   by_cases he:a[j]=b[j]
   .have ih2:=ih (j+1) ⟨h1,h2,by rw[zz2,zz2,hI];simp[h1,h2,he]⟩ Ac
    simp +decide only[↓vS,vT,simprocAttr,h1,h2,h1',h2',ex,ey,he,hw1,zzU];refine ih2 _ _ (Wk.mk _ _ [] ?_ ?_ ?_ rfl)
    .simp[vw,xz]
    .trivial
    .simp
   .have hne:¬a=b:=λh=>he (by subst h;rfl)
    simp +decide only[↓vS,vT,simprocAttr,h1,h2,h1',h2',ex,ey,he,n1,zzU];simp[vZ,hne]
  .have h2':¬(j:Int)<b.length:=Ac
   have hne:¬a=b:=λh=>by rw[h]at h1;exact Ac
   refine zB ?_;refine Sa (zzA h1 (zzA h1' (zzA h2' n1))) ?_;simp[vZ,hne]
 .obtain rfl:j=a.length:=Ac
  have h1':¬((a.length:Nat):Int)<a.length:=Ac
  refine zB ?_
  by_cases h2:a.length=b.length
  .have e:a=b:=by
    rw[zz0,h2,zz0]at hI;exact hI
   have h2':((a.length:Nat):Int)=b.length:=Ac
   refine Sa (zzA h1' h2') ?_;simp[vZ,e]
  .have hne:¬a=b:=λh=>h2 Hr
   have h2':¬((a.length:Nat):Int)=b.length:=Ac
   refine Sa (zzA h1' h2') ?_;simp[vZ,hne]
end
section
variable [Cur]
def qmf(a b:List GRule):szT (a++b)=szT a+szT b:=by simp[szT]
def wL(a act:Int)(ts:List GTest):∀ns:List (List UInt8),szT (qY a act ts ns)<=ns.length*(3+7*ts.length)
 | []=>by simp[qY,szT]
 | s::ns=>by
  have ih:=wL a act ts ns
  have h:szT (qY a act ts (s::ns))<=(3+7*ts.length)+szT (qY a act ts ns):=by
   unfold qY;rw[List.filterMap_cons];cases qfF a s<;>simp[szT]
  rw[zze,Nat.succ_mul];exact Ac
def qs7(a own:Int):∀l:List GCall,szT (qgN a own l)<=l.length*3
 | []=>by simp[qgN,szT]
 | c::l=>by
  have ih:=qs7 a own l;have h:=wL a (if c.act=0 then own else c.act) [] [c.name]
  have e:qgN a own (c::l)=qY a (if c.act=0 then own else c.act) [] [c.name]++qgN a own l:=rfl
  rw[e,qmf];simp at h ⊢;exact Ac
def qtq(a own:Int):∀l:List GCall,szT (qgO a own l)<=l.length*3
 | []=>by simp[qgO,szT]
 | c::l=>by
  have ih:=qtq a own l;have h:=wL a own [] [c.name];have e:qgO a own (c::l)=qY a own [] [c.name]++qgO a own l:=rfl;rw[e,qmf];simp at h ⊢;exact Ac
def qzX(rs:List GRule):szT (xw rs)=szT rs:=by
 unfold szT;exact((List.mergeSort_perm rs _).map _).sum_nat
def qGm{p:Pol}{a0:Asg}(hg:zJ p a0=false){d a:Int}{x:GFil}(h:qcX p d a=some x):szF x<=1365:=by
 have hc:p.filter.calls.length<=100/\p.log.calls.length<=100/\p.fams.length<=20:=by
  simp only[zJ,qa0,Bool.or_eq_false_iff,decide_eq_false_iff_not]at hg;exact Ac
 obtain⟨h1,h2,h3⟩:=hc;unfold qcX at h;split at h
 .have key:∀F:Pol->Int->Bool×List GRule×Int,qbq d=some F->szT (F p a).2.1<=1300:=by
   intro F hF;unfold qbq at hF;have f8:=qmE p.spaces;split at hF
   .cases hF;have:=qs7 a (if p.filter.mode=1 then 2147418112 else p.deny) p.filter.calls;simp only[qjR];exact Ac
   split at hF
   .cases hF;have:=qtq a (if p.log.mode=2 then 2147418112 else 2147221504) p.log.calls;simp only[qkg];exact Ac
   split at hF
   .cases hF;have:=wL a (if p.fmode=2 then 2147418112 else 327777) (qL 0 4294967295 (if p.fmode=2 then 327777 else 2147418112) p.fams) [xr];simp[qL]at this;simp only[fmM];unfold qL;exact Ac
   split at hF
   .cases hF;have q1:=wL a 2147418112 (zw 0 327681 (jN p.spaces)) [xc,jA];have q2:=wL a 2147418112 (zw 1 327681 (jN p.spaces)++qL 1 4294967295 327681 [0]) [xQ];have q3:=wL a 327718 [] [xq];simp[zw,qL]at q1 q2 q3;simp only[nsM,qmf,zw,qL];simp at *;exact Ac
   split at hF
   .cases hF;have q1:=wL a 2147418112 (zw 2 327681 [6]) [qbg];have q2:=wL a 2147418112 (zw 2 327681 [4]) [z7,qT];have q3:=wL a 2147418112 (zw 2 327681 [32768]) [wo];simp[zw]at q1 q2 q3;simp only[weM,qmf,zw];simp at *;exact Ac
   split at hF
   .cases hF;have q1:=wL a 327681 (qL 0 4294967295 2147418112 [0,4294967295]) [zl];simp[qL]at q1;simp only[peM,qL];simp at *;exact Ac
   split at hF
   .cases hF;have q1:=wL a 327681 (qL 1 4294967295 2147418112 [0,3,5]) [qbX];simp[qL]at q1;simp only[rtM,qL];simp at *;exact Ac
   .cases hF
  cases hm:qbq d with
  | none=>rw[hm]at h;cases h
  | some F =>
   rw[hm]at h;simp only[Option.bind_some]at h;split at h
   .cases h;have:=key F hm;have e:szF ⟨a,xw (F p a).2.1,(F p a).2.2⟩=10+szT (xw (F p a).2.1):=rfl;rw[e,qzX];exact Ac
   .cases h
 .cases h
end
end
end Go.Kc
