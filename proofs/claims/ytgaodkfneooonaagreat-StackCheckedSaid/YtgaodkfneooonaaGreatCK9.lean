/- Walks, part 9. Conditions: with each theorem. -/
import Derived.Test.YtgaodkfneooonaaGreatCK8
set_option maxHeartbeats 4000000
set_option linter.defProp false
set_option linter.unusedSectionVars false
set_option linter.unusedSimpArgs false
set_option linter.unusedVariables false
set_option linter.unnecessarySimpa false
section
namespace Go.Kc
variable {P:Program} {f:Nat}
def qGF(P:Program)(g:Nat):Prop:=∀p:List Ins,(∀i ∈ p,InsOk i)->∃n:Int,qa P g [.fz p.length (rP p)] (.tup [.j n,.j (atU p (qeb p)).2])
def qyg{p:List Ins}(u:List Nat)(h:4096<p.length):atU p u=(0,60):=by unfold atU;rw[if_pos (.inr h)]
def qA6{g1 g2 g3:Nat}(hc:qc P f (qej g1 g2 g3)=true)(h:cAt P f):qGF P f:=by
 intro p hi
 by_cases hb:p.length<=5000
 .exact⟨_,h p hi hb⟩
 .have hb4:4096<p.length:=by omega
  rw[qyg _ hb4];refine⟨0,qa.mk hc (by simp[qt,clo,qr]) ?_⟩;have hz':¬(p.length:Int)<1:=by omega
  have hb':(4096:Int)<p.length:=by omega
  simp only[qej,vI,simprocAttr];simp +decide only[↓vS,vT,simprocAttr,hz',hb'];simp[vZ]
def qFp{g:Nat}(hc:qc P f (qgI g)=true)(hg:qGF P g)(p:List Ins)(hi:∀i ∈ p,InsOk i):qa P f [.fz p.length (rP p)] (.j (atU p (qeb p)).2):=by
 refine qa.mk hc (by simp[qt,clo,qr]) ?_;simp only[qgI,vI,simprocAttr];simp +decide only[↓vS,vT,simprocAttr];obtain⟨n,hn⟩:=hg p hi;refine hn.sc ?_;simp +decide only[↓vS,vT,simprocAttr];simp[vZ]
def qDw{g:Nat}(hc:qc P f (qgh g)=true)(hg:∀p:List Ins,(∀i ∈ p,InsOk i)->qa P g [.fz p.length (rP p)] (.j (atU p (qeb p)).2))(x:Prg)(hx:PrgIn x):qa P f [.agg (cPr x)] (.b (qdX x)):=by
 refine qa.mk hc (by simp[qt,clo,cPr,qr]) ?_;have h:=hg x.ins hx.ins;unfold qdX;generalize(atU x.ins (qeb x.ins)).2=e at h;simp only[qgh,cPr,vI,simprocAttr]
 by_cases h0:x.dir=0
 .rw[if_pos h0]
  by_cases h6:x.arch=6
  .simp +decide only[↓vS,vT,simprocAttr,h0,h6];refine h.sc ?_;simp +decide only[↓vS,vT,simprocAttr];simp[vZ,h6]
  .simp +decide only[↓vS,vT,simprocAttr,h0,h6];simp[vZ,h6]
 rw[if_neg h0]
 by_cases h1:x.dir<0
 .have h1':¬0<=x.dir:=by omega
  simp +decide only[↓vS,vT,simprocAttr,h0,h1];simp[vZ,h1']
 have h1':0<=x.dir:=by omega
 by_cases h2:8<=x.dir
 .have h2':¬x.dir<8:=by omega
  simp +decide only[↓vS,vT,simprocAttr,h0,h1,h2];simp[vZ,h2']
 have h2':x.dir<8:=by omega
 by_cases h3:x.arch<0
 .have h3':¬0<=x.arch:=by omega
  simp +decide only[↓vS,vT,simprocAttr,h0,h1,h2,h3];simp[vZ,h3']
 have h3':0<=x.arch:=by omega
 by_cases h4:6<=x.arch
 .have h4':¬x.arch<6:=by omega
  simp +decide only[↓vS,vT,simprocAttr,h0,h1,h2,h3,h4];simp[vZ,h4']
 have h4':x.arch<6:=by omega
 simp +decide only[↓vS,vT,simprocAttr,h0,h1,h2,h3,h4];refine h.sc ?_;simp +decide only[↓vS,vT,simprocAttr];simp[vZ,h1',h2',h3',h4']
def qHo{g:Nat}(hc:qc P f (qgW g)=true)(hg:∀x,PrgIn x->qa P g [.agg (cPr x)] (.b (qdX x)))(x:Prg)(hx:PrgIn x):qa P f [.agg (cPr x)] (.b (!qdX x)):=by
 refine qa.mk hc (by simp[qt,clo,cPr,qr]) ?_;have h:=hg x hx;simp only[cPr]at h;simp only[qgW,cPr,vI,simprocAttr];simp +decide only[↓vS,vT,simprocAttr];refine h.sc ?_;simp +decide only[↓vS,vT,simprocAttr];simp[vZ]
def qAE{g1 g2:Nat}(hc:qc P f (qjl g1 g2)=true)(h1:∀(l:List Prg) (k:Nat) (p:Prg->Bool),(∀c ∈ l,qa P k [.agg (cPr c)] (.b (p c)))->l.length<=qf->qa P g1 [.fz l.length (rPr l),.fn k [] []] (.b (l.any p)))
  (h2:∀x,PrgIn x->qa P g2 [.agg (cPr x)] (.b (!qdX x))):qoV P f:=by
 intro l hl hx;refine qa.mk hc (by simp[qt,clo,xi]) ?_;have h:=h1 l g2 (λx=>!qdX x) (λc hc=>h2 c (hx c hc)) (by simp only[qf];omega)
 have ha:(!l.any λx=>!qdX x)=l.all qdX:=by rw[List.not_any_eq_all_not];simp
 unfold qaz;simp only[qjl,vI,simprocAttr]
 by_cases h48:l.length<=48
 .have h48':(l.length:Int)<=48:=by omega
  simp +decide only[↓vS,vT,simprocAttr,h48'];refine h.sc ?_;simp +decide only[↓vS,vT,simprocAttr];simp only[ha];simp[vZ,h48]
 .have h48':¬(l.length:Int)<=48:=by omega
  simp +decide only[↓vS,vT,simprocAttr,h48'];simp[vZ,h48]

def jr(a:Nat):IFn:=⟨[.tmp 2],sq [.r [.q 1 (.box (.t 0)),.m 2 (.c (.nilf))],.r [.q 3 (.mkF a [] [.t 1]),.n 2 3],.ret]⟩
def qGB{g:Nat}(hc:qc P f (jr g)=true)(l:List Int):qa P f [.fz l.length (rI .u32 l)] (.fn g [] [.pf [.fz l.length (rI .u32 l)] 0]):=by
 refine qa.mk hc (by simp[qt,clo,qi]) ?_;simp only[jr,vI,simprocAttr];simp +decide only[↓vS,vT,simprocAttr];simp[vZ,vP,Tr.get_set,qi]
def x7:IFn:=⟨[],sq [.r [.d 4 1,.e 5 4,.w 6 .sub 5 1,.n 3 6],.blk 0 (.loop (sq [sq [.r [.n 7 3,.w 8 .geq 7 0],.cond (.t 8) (.skip) (.exit 0)],.blk 1 (sq [.r [.n 11 0,.n 12 3,.d 13 1,.n 14 3,.i 15 1 13 14,.d 16 15,⟨(some 17),.callV (.t 11) [.t 12,.t 16],none⟩,.q 18 (.un .not (.t 17))],.cond (.t 18) (.ret) (.skip)]),.r [.n 9 3,.w 10 .sub 9 1,.n 3 10]]))]⟩
def qat(a b:Nat):ICode:=sq [.r [.d 14 3,.n 2 14],.ret]
def qeg(a b:Nat):IFn:=⟨[.tmp 2],sq [.r [.m 2 (.c (.w 0))],.r [.q 3 (.alloc [.w 0]),.u (.store 1 (.t 3) (.c (.w 2147418112)))],sq [.r [.n 6 0,.l 7 a [.t 6]],.blk 0 (.rangeF 0 (.t 7) [8,9] (.r [.n 5 9]) (.blk 1 (.r [.d 10 3,.n 11 5,.q 12 (.buildS 2 [.w 0] [(0,1,(.t 10)),(1,1,(.t 11))]),.l 13 b [.t 12],.u (.store 1 (.t 3) (.t 13))])))],.cut (qat a b)]⟩
def cbT(g:Nat)(l:List Int):List (Nat×AV):=[(3,.ptr 0 0),(7,.fn g [] [.pf [.fz l.length (rI .u32 l)] 0])]
def qqE{g1 g2:Nat}(x:Int){t':Tr AV}{h':Hp}(hw:Wk 0 t' h' (mkT [(3,.ptr 0 0)]) (mkH 0 [.v [.w x]])) :
  S P 0 (qat g1 g2) (xk [.tmp 2] λv' h'=>Frz h' v' (.w x)) t' h':=by
 refine S.weak hw (qk ?_);simp only[qat,vI,simprocAttr];simp +decide only[↓vS,vT,simprocAttr];simp[vZ]
def qBW{g1 g2 g3:Nat}(hc:qc P f (qeg g1 g2)=true)(h1:∀l:List Int,qa P g1 [.fz l.length (rI .u32 l)] (.fn g3 [] [.pf [.fz l.length (rI .u32 l)] 0]))(hc3:qc P g3 x7=true)
  (h2:∀a b:Int,u32 a->u32 b->qa P g2 [.fz 2 (rI .u32 [a,b])] (.w (if qil b a=true then b else a))):quK P f:=by
 intro l hl hn;refine qa.mk hc (by simp[qt,clo,qi]) ?_;simp only[qeg,vI,simprocAttr];simp +decide only[↓vS,vT,simprocAttr];refine(h1 l).sc ?_;simp +decide only[↓vS,vT,simprocAttr];refine S.weak (Wk.mk (cbT g3 l) [.v [.w 2147418112]] [0] ?_ ?_ ?_ rfl) ?_
 .simp[vw,cbT,qi]
 .simp[vw]
 .simp
 refine S.rangeF (by simp[jy]) (by simp[cbT]) ⟨rfl,rfl⟩ ?_;refine qhT.2 ⟨.fn g3 [] [.pf [.fz l.length (rI .u32 l)] 0],by simp[cbT,mkT,Tr.get_set],?_⟩
 refine⟨qbC hc3,λr0 hr0 hp0 hlo=>SC.mk hc3 ?_⟩
 have hid:=qd0 hr0 hp0;show S P 2 _ _ (qbl [.yl 1,.pf [.fz l.length (rI .u32 l)] 0] 0 .leaf) ⟨2,0,(Tr.leaf.set 0 (.v [.w 2147418112])).set 1 (.map (zz r0 (cbT g3 l)))⟩;refine qk ?_;have w0:IntKind.wrap .i64 ((l.length:Int)-1)=(l.length:Int)-1:=by grind[qm]
 simp only[x7,vI,simprocAttr];simp +decide only[↓vS,vT,simprocAttr,w0];refine SL.loopn (α:=Nat) (λj=>[(0,.yl 1),(1,.pf [.fz l.length (rI .u32 l)] 0),(3,.j ((j:Int)-1))]) (λj=>[.v [.w (qgv (l.drop j))],.map (zz r0 (cbT g3 l))]) (λj=>j<=l.length) (λj=>j) l.length [0,1] ?_ ?_ ?_ rfl ?_ ?_ ?_ ?_
 .simp[vw,qi]
 .simp[vw,cbT,qi,qgv,jO,jV,jg,zS]
 .simp
 .simp
 .intro x hx;have:x=0\/x=1:=by omega
  rcases this with rfl|rfl<;>rfl
 .omega
 rintro j hj G ih;simp only[vI,simprocAttr];cases j with
 | succ k =>
  have e:((k+1:Nat):Int)-1=(k:Int):=by omega
  have hk:k<l.length:=by omega
  obtain⟨x,hx⟩:∃x,l[k]?=some x:=⟨_,zzE hk⟩;have gx:=qHP (k:=.u32) hx;have hxu:=hl x (by grind);have hcu:u32 (qgv (l.drop (k+1))):=qo4 (by grind);have hcd:=qsX hx;have w2:IntKind.wrap .i64 ((k:Int)-1)=(k:Int)-1:=by grind[qm]
  have ih2:=ih k (Nat.le_of_lt hk) (by omega);rw[hcd]at ih2;rw[e];generalize qgv (l.drop (k+1))=c at hcu ih2 ⊢;have hle:=h2 c x hcu hxu;have k0:(0:Int)<=(k:Int):=by omega
  simp +decide only[↓vS,vT,simprocAttr,k0,hk,gx,zzU];change SY P 1 [.j (k:Int),.w x] _ _;refine SY.mk (r:=r0) (ts:=cbT g3 l) (ps:=[8,9]) (by simp[Tr.get_set]) hr0 hlo (Nat.zero_le _) (by simp_all) rfl ?_;rw[show mkT (cbT g3 l)=(Tr.leaf.set 7 (.fn g3 [] [.pf [.fz l.length (rI .u32 l)] 0])).set 3 (.ptr 0 0)from rfl]
  refine qk ?_;simp only[qjw,vI,simprocAttr];simp only[↓vS,vT,simprocAttr];refine⟨cbT g3 l,by simp[Tr.get_set],?_⟩
  refine qk ?_;simp only[qx,vI,simprocAttr];simp +decide only[↓vS,vT,simprocAttr];refine hle.give [(2,.v [.w c,.w x])] (by simp[Tr.get_set]) rfl ?_ ?_
  .refine .cons _ _ _ _ (Frz.cut 1 rfl (zzL _) ?_) .nil;simp[vw,trP,rI]
  simp only[qW,zp,qx];simp +decide only[↓vS,vT,simprocAttr];refine⟨bsy r0,cbT g3 l,by simp[Tr.get_set],?_⟩
  rw[qct,hid];simp only[qx];simp +decide only[↓vS,vT,simprocAttr,w2];refine ih2 _ _ (Wk.mkn _ _ [0,1] ?_ ?_ ?_ rfl ?_ ?_)
  .simp[vw,qi]
  .simp[vw,cbT,qi,jO,jV,jg,zS]
  .simp
  .simp
  .intro x hx;have:x=0\/x=1:=by omega
   rcases this with rfl|rfl<;>rfl
 | zero =>
  clear ih;have e:((0:Nat):Int)-1 = -1:=rfl;rw[e];simp +decide only[↓vS,vT,simprocAttr];refine⟨r0,cbT g3 l,by simp[Tr.get_set],by rw[hr0];decide,?_⟩
  rw[hp0];simp only[qx];simp only[↓vS,vT,simprocAttr];refine qqE (qgv l) (Wk.mk _ _ [0] ?_ ?_ ?_ rfl)
  .simp[vw,cbT,mkT]
  .simp[vw]
  .simp
end Go.Kc
end
section
namespace Go.Kc
end Go.Kc
end
section
namespace Go.Kc
variable {P:Program} {f:Nat}
end Go.Kc
end
section
namespace Go.Kc
variable {P:Program} {f:Nat}

def xS(ar:AV)(pe:Bool):List AV:=[ar,.y 0,.nils,.w 2147483648,.y 0,.nils,.nils,.y 0,.x 0,.b false,.b pe,.b false,.b false]
def qbZ(t n:Int)(x:Int):AV:=.agg [.w n,.w t,.x 0,.x x,.x 0,.x 0,.x 0,.x 0,.x 0]
def qqy(P:Program)(g:Nat):Prop :=
 qa P g [.agg (xS .nils false),.j 0,qbZ 3221225534 1 1,.w 2147418112] (.b true) /\
 qa P g [.agg (xS (.fz 1 [.j 0]) false),.j 1,qbZ 1073741827 1 1,.w 2147483648] (.b true) /\
 qa P g [.agg (xS (.fz 1 [.j 0]) false),.j 1,qbZ 3221225534 1 1,.w 2147418112] (.b true) /\
 qa P g [.agg (xS .nils true),.j 6,qbZ 3221225534 135 1,.w 327681] (.b true) /\
 qa P g [.agg (xS .nils true),.j 6,qbZ 3221225534 135 0,.w 2147418112] (.b true)
def x8(a b c d:Nat):ICode:=sq [.r [.l 21 a [],.u (.store 13 (.t 1) (.t 21))],.r [.f 22 10 1,.u (.store 1 (.t 22) .T)],.r [.q 24 (.buildS 1 [.y 0] [(0,1,(.c (.y 1)))]),.l 25 d [.t 24],.n 23 25,.x 26 23 0,.x 27 23 1,.n 2 26,.n 3 27],.reg true [.v 28 13 1,.l 29 b [(.c (.w 3221225534)),(.c (.w 135)),(.c (.x 1))],.l 30 c [.t 28,.k 6,.t 29,(.c (.w 327681))],.n 31 30,.g 32 (.loadN 13 (.t 1)) 31 true,⟨(some 33),.callF b [(.c (.w 3221225534)),(.c (.w 135)),(.c (.x 0))],(some (31,true))⟩,⟨(some 34),.callF c [.t 32,.k 6,.t 33,(.c (.w 2147418112))],(some (31,true))⟩,.p 35 31 34,.n 36 35,.y 37 3 36,.g 38 (.bin .eql (.t 37) (.k 290)) 36 true,.p 39 36 38,.n 0 39],.ret]
def qax(a b c d:Nat):ICode:=sq [.r [.q 9 (.buildS 1 [.j 0] [(0,1,(.k 0))]),.f 10 0 1,.u (.store 1 (.t 10) (.t 9))],sq [.reg true [.v 11 13 1,.l 12 b [(.c (.w 1073741827)),(.c (.w 1)),(.c (.x 1))],.l 13 c [.t 11,.k 1,.t 12,(.c (.w 2147483648))],.q 14 (.un .not (.t 13)),.n 15 14,.g 16 (.loadN 13 (.t 1)) 15 false,⟨(some 17),.callF b [(.c (.w 3221225534)),(.c (.w 1)),(.c (.x 1))],(some (15,false))⟩,⟨(some 18),.callF c [.t 16,.k 1,.t 17,(.c (.w 2147418112))],(some (15,false))⟩,.g 19 (.un .not (.t 18)) 15 false,.o 20 15 19],.cond (.t 20) (sq [.r [.m 0 .F],.ret]) (.skip)],.cut (x8 a b c d)]
def qbq(a b c d:Nat):IFn:=⟨[.tmp 0],sq [.r [.m 0 .F],.r [.l 4 a [],.q 1 (.alloc [.nils,.y 0,.nils,.w 0,.y 0,.nils,.nils,.y 0,.x 0,.b false,.b false,.b false,.b false]),.u (.store 13 (.t 1) (.t 4))],sq [.reg true [.v 5 13 1,.l 6 b [(.c (.w 3221225534)),(.c (.w 1)),(.c (.x 1))],.l 7 c [.t 5,.k 0,.t 6,(.c (.w 2147418112))],.q 8 (.un .not (.t 7))],.cond (.t 8) (sq [.r [.m 0 .F],.ret]) (.skip)],.cut (qax a b c d)]⟩
def qqt{g1 g2 g3 g4:Nat}(h1:qa P g1 [] (.agg (xS .nils false)))(h2:∀t n x:Int,qa P g2 [.w t,.w n,.x x] (qbZ t n x))(h3:qqy P g3)(h4:qa P g4 [.fz 1 [.y 1]] qvl)
  {x:AV} {t':Tr AV} {h':Hp} (hw:Wk 0 t' h' (mkT [(1,.ptr 0 0)]) (mkH 0 [.v (xS x false)])) :
  S P 0 (x8 g1 g2 g3 g4) (xk [.tmp 0] λv' h'=>Frz h' v' (.b true)) t' h':=by
 refine S.weak hw (qk ?_);simp only[x8,vI,simprocAttr];simp +decide only[↓vS,vT,simprocAttr];refine h1.sc ?_;simp +decide only[↓vS,vT,simprocAttr,xS];refine h4.give [(1,.v [.y 1])] (by simp[Tr.get_set]) rfl ?_ ?_
 .refine .cons _ _ _ _ (.sl _ _ _ _ _ 0 _ [.y 1] 1 _ (by simp[trP,Tr.get_set];rfl) (zzL _) (by decide) (by decide) (.cons _ _ _ _ (.i _ _) .nil)) .nil
 simp only[qW,zp,qx,qvl];simp +decide only[↓vS,vT,simprocAttr];refine zg ?_;simp +decide only[↓vS,vT,simprocAttr];refine(h2 _ _ _).pc ?_;simp +decide only[↓vS,vT,simprocAttr];refine h3.2.2.2.1.pc ?_;simp only[Hp.up,Hp.down];simp +decide only[↓vS,vT,simprocAttr];refine(h2 _ _ _).pc ?_;simp +decide only[↓vS,vT,simprocAttr];refine h3.2.2.2.2.pc ?_;simp only[Hp.up,Hp.down];simp +decide only[↓vS,vT,simprocAttr];simp[vZ]
def qrx{h:Hp}{b:Nat}(hb:h.tr.get b=some (.v [.j 0]))(n:Nat)(d w:AV)(hd:Frz h d d)(hw:Frz h w w):Frzs h [.agg (xS (.sl b 0 1 1 false) false),.j n,d,w] [.agg (xS (.fz 1 [.j 0]) false),.j n,d,w]:=by
 refine .cons _ _ _ _ (.agg _ _ (.cons _ _ _ _ (.sl _ _ _ _ _ 0 _ [.j 0] 1 _ hb (zzL _) (by decide) (by decide) (.cons _ _ _ _ (.i _ _) .nil)) ?_)) (.cons _ _ _ _ (.i _ _) (.cons _ _ _ _ hd (.cons _ _ _ _ hw .nil)));exact .cons _ _ _ _ (.i _ _) (.cons _ _ _ _ .nils (.cons _ _ _ _ (.i _ _) (.cons _ _ _ _ (.i _ _) (.cons _ _ _ _ .nils (.cons _ _ _ _ .nils (.cons _ _ _ _ (.i _ _) (.cons _ _ _ _ (.i _ _) (.cons _ _ _ _ (.b _) (.cons _ _ _ _ (.b _) (.cons _ _ _ _ (.b _) (.cons _ _ _ _ (.b _) .nil)))))))))))
def qrw{h:Hp}{t n x:Int}:Frz h (qbZ t n x) (qbZ t n x) :=
 .agg _ _ (.cons _ _ _ _ (.i _ _) (.cons _ _ _ _ (.i _ _) (.cons _ _ _ _ (.i _ _) (.cons _ _ _ _ (.i _ _) (.cons _ _ _ _ (.i _ _) (.cons _ _ _ _ (.i _ _) (.cons _ _ _ _ (.i _ _) (.cons _ _ _ _ (.i _ _) (.cons _ _ _ _ (.i _ _) .nil)))))))))
def qId{g1 g2 g3 g4:Nat}(hc:qc P f (qbq g1 g2 g3 g4)=true)(h1:qa P g1 [] (.agg (xS .nils false)))(h2:∀t n x:Int,qa P g2 [.w t,.w n,.x x] (qbZ t n x))(h3:qqy P g3)(h4:qa P g4 [.fz 1 [.y 1]] qvl):qa P f [] (.b true):=by
 refine qa.mk hc rfl ?_;have k1:=h3.1;have k2:=h3.2.1;have k3:=h3.2.2.1;simp only[qbq,vI,simprocAttr];simp +decide only[↓vS,vT,simprocAttr];refine h1.sc ?_;simp +decide only[↓vS,vT,simprocAttr,xS];refine zg ?_;simp +decide only[↓vS,vT,simprocAttr];refine(h2 _ _ _).pc ?_;simp +decide only[↓vS,vT,simprocAttr];refine k1.pc ?_;simp only[Hp.up,Hp.down];simp +decide only[↓vS,vT,simprocAttr];refine qk ?_;simp only[qax,vI,simprocAttr];simp +decide only[↓vS,vT,simprocAttr];refine zg ?_;simp +decide only[↓vS,vT,simprocAttr];refine(h2 _ _ _).pc ?_;simp +decide only[↓vS,vT,simprocAttr];refine k2.lendp (qrx (b:=1) (by simp[Tr.get_set]) 1 _ _ qrw (.i _ _)) rfl ?_;simp only[Hp.up,Hp.down];simp +decide only[↓vS,vT,simprocAttr];refine(h2 _ _ _).pc ?_;simp +decide only[↓vS,vT,simprocAttr];refine k3.lendp (qrx (b:=1) (by simp[Tr.get_set]) 1 _ _ qrw (.i _ _)) rfl ?_;simp only[Hp.up,Hp.down];simp +decide only[↓vS,vT,simprocAttr];refine qqt h1 h2 h3 h4 (x:=.undef) (Wk.mk _ _ [0] ?_ ?_ ?_ rfl)
 .simp[vw,xS]
 .simp[vw,xS,qe]
 .simp
def qbP:IFn:=⟨[.cell 6 9 true],sq [.r [.q 6 (.alloc [.w 0,.w 0,.x 0,.x 0,.x 0,.x 0,.x 0,.x 0,.x 0])],.r [.n 8 1,.n 9 0,.q 10 (.build [.w 0,.w 0,.x 0,.x 0,.x 0,.x 0,.x 0,.x 0,.x 0] [(0,1,(.t 8)),(1,1,(.t 9))]),.q 7 (.alloc [.w 0,.w 0,.x 0,.x 0,.x 0,.x 0,.x 0,.x 0,.x 0]),.u (.store 9 (.t 7) (.t 10))],.r [.n 11 2,.f 12 3 7,.q 13 (.iAddrA 6 1 (.t 12) (.k 0)),.u (.store 1 (.t 13) (.t 11))],.r [.v 14 9 7,.u (.store 9 (.t 6) (.t 14))],.ret]⟩
def qIC(hc:qc P f qbP=true)(t n x:Int):qa P f [.w t,.w n,.x x] (qbZ t n x):=by
 refine qa.mk hc rfl ?_;simp only[qbP,vI,simprocAttr];simp +decide only[↓vS,vT,simprocAttr];simp[vZ,qbZ]
def qgU:IFn:=⟨[.cell 0 13 true],sq [.r [.q 0 (.alloc [.nils,.y 0,.nils,.w 0,.y 0,.nils,.nils,.y 0,.x 0,.b false,.b false,.b false,.b false])],.r [.q 1 (.build [.nils,.y 0,.nils,.w 0,.y 0,.nils,.nils,.y 0,.x 0,.b false,.b false,.b false,.b false] [(3,1,(.c (.w 2147483648)))]),.u (.store 13 (.t 0) (.t 1))],.ret]⟩
def qJU(hc:qc P f qgU=true):qa P f [] (.agg (xS .nils false)):=by
 refine qa.mk hc rfl ?_;simp only[qgU,vI,simprocAttr];simp +decide only[↓vS,vT,simprocAttr];simp[vZ,xS]
def xC(a b:Nat):IFn:=⟨[.tmp 8],sq [.r [.q 4 (.box (.t 0)),.q 6 (.box (.t 2)),.m 8 .F],sq [.r [.m 9 (.k 0)],.blk 0 (.loop (sq [sq [.r [.n 14 9,.w 15 .lss 14 2],.cond (.t 15) (.skip) (.exit 0)],.blk 1 (sq [.r [.v 19 13 4,.n 20 9,.w 21 .eql 20 1,.l 22 a [.t 19,.t 21],.n 18 22,.x 23 18 0,.x 24 18 1,.n 10 23,.n 11 24],.r [.n 26 10,.v 27 9 6,.l 28 b [.t 26,.t 27],.n 25 28,.x 29 25 0,.x 30 25 1,.n 12 29,.n 13 30],.r [.n 31 11,.w 32 .neq 31 0,.n 33 32,.z 34 13 33,.g 35 (.bin .neq (.t 34) (.k 0)) 33 false,.o 36 33 35,.n 37 36,.z 38 10 37,.g 39 (.len false (.t 38)) 37 false,.z 40 1 37,.g 41 (.bin .neq (.t 39) (.t 40)) 37 false,.o 42 37 41,.n 43 42,.z 44 12 43,.z 45 3 43,.g 46 (.bin .neq (.t 44) (.t 45)) 43 false,.o 47 43 46],.cond (.t 47) (sq [.r [.m 8 .F],.ret]) (.skip)]),.r [.n 16 9,.a 17 16 1,.n 9 17]]))],.r [.m 8 .T],.ret]⟩
def qAK{g1 g2:Nat}(hc:qc P f (xC g1 g2)=true)(ar:AV)(ha:clo ar=true)(hs:zj ar=true)(pe:Bool)(t m x:Int)(n:Nat)(w:Int)(cs:Bool->List AV)(hn:n<=100)
  (hB:∀b:Bool,qa P g1 [.agg (xS ar pe),.b b] (.tup [.fz n (cs b),.j 0])) (hE:∀b:Bool,qa P g2 [.fz n (cs b),qbZ t m x] (.tup [.w w,.j 0])) :
  qa P f [.agg (xS ar pe),.j (n:Int),qbZ t m x,.w w] (.b true):=by
 refine qa.mk hc (by simp[qt,clo,xS,qbZ,ha]) ?_;have hB0:=hB false;have hB1:=hB true;have hE0:=hE false;have hE1:=hE true;simp only[xC,vI,simprocAttr];simp +decide only[↓vS,vT,simprocAttr,xS,qbZ];refine SL.loop (α:=Nat) (λj=>[(1,.j (n:Int)),(3,.w w),(4,.ptr 0 0),(6,.ptr 1 0),(9,.j (j:Int))]) (λ_=>[.v (xS ar pe),.v [.w m,.w t,.x 0,.x x,.x 0,.x 0,.x 0,.x 0,.x 0]]) (λj=>j<=2) (λj=>2-j) 0 [0,1] ?_ ?_ ?_ rfl ?_ ?_
 .simp[vw]
 .simp[vw,qe];exact(NVs.refl (vs:=xS ar pe) (by simp[qt,clo,xS,ha]))
 .simp
 .omega
 rintro j hj G ih;simp only[vI,simprocAttr]
 by_cases hlt:j<2
 .have ih2:=ih (j+1) hlt (by omega);have hj2:j=0\/j=1:=by omega
  have hlen:¬((n:Int)≠n):=λh=>h rfl
  have w1:IntKind.wrap .i64 1=1:=by decide
  have w2:IntKind.wrap .i64 2=2:=by decide
  rcases hj2 with rfl|rfl
  .simp +decide only[↓vS,vT,simprocAttr,xS,qbZ]at hB0 hE0 ih2 ⊢;refine hB0.sc ?_;simp +decide only[↓vS,vT,simprocAttr];refine hE0.sc ?_;simp +decide only[↓vS,vT,simprocAttr,w1];refine ih2 _ _ (Wk.mk _ _ [0,1] ?_ ?_ ?_ rfl)
   .simp[vw]
   .simp[vw,qe];exact(NVs.refl (vs:=xS ar pe) (by simp[qt,clo,xS,ha]))
   .simp
  .simp +decide only[↓vS,vT,simprocAttr,xS,qbZ]at hB1 hE1 ih2 ⊢;refine hB1.sc ?_;simp +decide only[↓vS,vT,simprocAttr];refine hE1.sc ?_;simp +decide only[↓vS,vT,simprocAttr,w2];refine ih2 _ _ (Wk.mk _ _ [0,1] ?_ ?_ ?_ rfl)
   .simp[vw]
   .simp[vw,qe];exact(NVs.refl (vs:=xS ar pe) (by simp[qt,clo,xS,ha]))
   .simp
 .obtain rfl:j=2:=by omega
  simp +decide only[↓vS,vT,simprocAttr];simp[vZ]
end Go.Kc
end
section
namespace Go.Kc
variable {P:Program} {n:Nat}
def Has(t:Tr AV)(l:List (Nat×AV)):Prop:=∀p ∈ l,t.get p.1=some p.2
theorem ql{t:Tr AV}:Has t []↔True:=iff_true_intro λp hp=>by cases hp
theorem qh{t:Tr AV}{p:Nat×AV}{l:List (Nat×AV)}:Has t (p::l)↔t.get p.1=some p.2/\Has t l:=by simp[Has]
def Has.tr{t:Tr AV}{l:List (Nat×AV)}(h:Has t l){Z:Ren}{tm:Array Value}(ht:TR σ0 Z t tm):TR σ0 Z (mkT l) tm:=λj v hj=>ht j v (h (j,v) (qex hj))
def S.has{x:ICode}{Q:X->Tr AV->Hp->Prop}{t:Tr AV}{h:Hp}(l:List (Nat×AV))(hl:Has t l)(hs:S P n x Q (mkT l) h):S P n x Q t h :=
 λnt cx hc hn ro hro Z B w a ht hsz r=>hs nt cx hc hn ro hro Z B w a (hl.tr ht) hsz r
def SL.has{x:ICode}{Q:X->Tr AV->Hp->Prop}{t:Tr AV}{h:Hp}(l:List (Nat×AV))(hl:Has t l)(hs:SL P n x Q (mkT l) h):SL P n x Q t h :=
 λnt cx hc hn ro hro Z B w a ht hsz r=>hs nt cx hc hn ro hro Z B w a (hl.tr ht) hsz r
def SL.loopP{α:Type}{x:ICode}{Q:X->Tr AV->Hp->Prop}(T:α->List (Nat×AV))(I:α->Hp->Prop)(μ:α->Nat)
  (step:∀a h,I a h->∀G:Tr AV->Hp->Prop,(∀a' t' h',μ a'<μ a->Has t' (T a')->I a' h'->G t' h')->V P n x (λe t h=>onX e (G t h) (λid=>Q (.exit id) t h) (Q .ret t h)) (mkT (T a)) h)
  (a0:α) {t:Tr AV} {h:Hp} (ht:Has t (T a0)) (h0:I a0 h):SL P n x Q t h:=by
 have main:∀m a t h,μ a<=m->Has t (T a)->I a h->SL P n x Q t h:=by
  intro m
  induction m with
  | zero =>
   intro a t h hm ht hi;refine SL.has _ ht (qcp (step a h hi _ ?_));intro a' t' h' hlt _ _;omega
  | succ m ih =>
   intro a t h hm ht hi;refine SL.has _ ht (qcp (step a h hi _ ?_));intro a' t' h' hlt ht' hi';exact ih a' t' h' (by omega) ht' hi'
 exact main _ a0 t h (zzL _) ht h0
end Go.Kc
end
section
namespace Go.Kc
variable {P:Program} {f:Nat}
structure Sy where
 code:Int
 k:Int
 th:Nat
 el:Nat
def cSy(s:Sy):List AV:=[.h s.code,.w s.k,.j (s.th:Int),.j (s.el:Int)]
def rSy(l:List Sy):List AV:=l.flatMap cSy
def qan{l:List Sy}:(rSy l).length=l.length*4:=by
 induction l with
 | nil=>rfl
 | cons s l ih=>simp only[rSy,List.flatMap_cons,zzP,List.length_cons]at ih ⊢;rw[ih];simp[cSy];omega
def qsd{l m:List Sy}:rSy l++rSy m=rSy (l++m):=by simp[rSy]
def qAk{s:Sy}:cSy s=rSy [s]:=by simp[rSy]
def Sy.raw(s:Sy):Sy:=⟨s.code,s.k,0,0⟩
def ze:IFn:=⟨[],.r [.n 4 0,.n 5 0,.q 6 (.nilChk (.t 5)),.f 7 0 6,.d 8 7,.n 9 1,.q 10 (.app 4 24 true (.t 8) (.t 9)),.q 11 (.nilChk (.t 4)),.f 12 0 11,.u (.store 1 (.t 12) (.t 10))]⟩
def qEt(hc:qc P f ze=true){w s fl bx bl m e:Nat}{tr:Tr Blk}{x:AV}{a:Bool}{ys:List AV}(y:Sy){k:AV->Hp->Prop}
  (hw:tr.get w=some (.v [.own bl m,x])) (hl:tr.get bl=some (.cells 4 true true ys)) (hy:ys.length=m*4) (hx:tr.get bx=some (.cells e true a (cSy y))) (hm:m<=1000000)
  (hwl:w≠bl) (hws:w<s) (hfw:fl<=w) (hfl:fl<=bl) (hxok:qcR x=true/\zj x=true) (hk:k (.tup []) ⟨s+1,fl,((tr.set bl .dead).set s (.cells 4 true true (ys++cSy y))).set w (.v [.own s (m+1),x])⟩) :
  SC P f [.ptr w 0,.sl bx 0 1 1 false] ⟨s,fl,tr⟩ k:=by
 refine SC.mk hc (qk ?_);have hr1:m+1<=qf:=by simp only[qf];omega
 have hr2:(m+1)*24<=qf:=by simp only[qf];omega
 have hws':¬w=s:=by omega
 simp only[ze,vI,simprocAttr];simp +decide only[↓vS,vT,simprocAttr,hw,hl,hy,hx,cSy,hr1,hr2,hwl,hws',hfw,hfl];exact hk
def xK:IFn:=⟨[],.r [.n 4 1,.n 5 0,.q 6 (.nilChk (.t 5)),.f 7 0 6,.d 8 7,.e 9 8,.q 10 (.nilChk (.t 4)),.f 11 0 10,.u (.store 1 (.t 11) (.t 9))]⟩
def qzj(hc:qc P f xK=true){w s fl bl m b:Nat}{tr:Tr Blk}{x:AV}{old:AV}{k:AV->Hp->Prop}
  (hw:tr.get w=some (.v [.own bl m,x])) (hb:tr.get b=some (.v [old]))
  (hfb:fl<=b) (hk:k (.tup []) ⟨s,fl,tr.set b (.v [.j (m:Int)])⟩) :
  SC P f [.ptr w 0,.ptr b 0] ⟨s,fl,tr⟩ k:=by
 refine SC.mk hc (qk ?_);simp only[xK,vI,simprocAttr];simp +decide only[↓vS,vT,simprocAttr,hw,hb,hfb];exact hk
inductive Kd where
 | no|fr|w|l|t|box
 | lab (F:Nat) (p:Bool)
def kdS(U:Nat->Kd)(b:Nat)(x:Kd):Nat->Kd:=λc=>if c=b then x else U c
theorem qI{U:Nat->Kd}{b:Nat}{x:Kd}:kdS U b x b=x:=if_pos rfl
theorem qj{U:Nat->Kd}{b c:Nat}{x:Kd}(h:c≠b):kdS U b x c=U c:=if_neg h
def Bx(U:Nat->Kd)(tr:Tr Blk)(b:Nat)(v:AV):Prop:=U b = .box/\tr.get b=some (.v [v])
def JOk(g w:Nat)(U:Nat->Kd)(tr:Tr Blk)(RV:List Sy)(j:Nat)(c:AV):Prop :=
 ∃b5 b6 b8 b9 b10 X p o y,c = .fn g [] [.ptr b8 0,.ptr b5 0,.ptr b10 0,.ptr b6 0,.ptr b9 0]/\RV[j]?=some y/\Bx U tr b5 (.ptr w 0)/\Bx U tr b6 (.h y.code)/\Bx U tr b8 (.ptr X 0)/\Bx U tr b9 o/\Bx U tr b10 (.j (j:Int)) /\
  U X = .lab y.th p/\((y.code=5/\o = .nilp/\y.el=0)\/(y.code≠5/\∃Y p',o = .ptr Y 0/\U Y = .lab y.el p'))
def qgp(g w:Nat)(U:Nat->Kd)(tr:Tr Blk)(RV:List Sy):List Nat->List AV->Prop
 | [],[]=>True
 | j::js,c::cs=>JOk g w U tr RV j c/\qgp g w U tr RV js cs
 | _,_=>False
structure WI (g w:Nat) (U:Nat->Kd) (s:Nat) (tr:Tr Blk) (RV:List Sy) (N:List Nat):Prop where
 dom:∀b,U b≠.no->b<s
 rows:∃bl bt cs js,U w = .w/\U bl = .l/\U bt = .t/\tr.get w=some (.v [.own bl RV.length,.own bt cs.length])/\tr.get bl=some (.cells 4 true true (rSy (RV.map Sy.raw)))/\tr.get bt=some (.cells 1 true true cs) /\
  qgp g w U tr RV js cs/\cs.length+N.length<=RV.length/\∀(j:Nat) y,RV[j]?=some y->j ∉ js->j ∉ N->y.raw=y
 lab:∀b F p,U b = .lab F p->∃x:Int,tr.get b=some (.v [.j x])/\(p=true->x=F)
structure Stp (L:List Nat) (U:Nat->Kd) (s:Nat) (tr:Tr Blk) (U':Nat->Kd) (s':Nat) (tr':Tr Blk):Prop where
 le:s<=s'
 fr:∀b,U b = .fr->U' b = .fr/\tr'.get b=tr.get b
 box:∀b,U b = .box->U' b = .box/\tr'.get b=tr.get b
 lab:∀b F p,U b = .lab F p->U' b = .lab F p
 nw:∀b F,U' b = .lab F false->U b = .lab F false\/b ∈ L
theorem Stp.refl{U:Nat->Kd}{s:Nat}{tr:Tr Blk}:Stp [] U s tr U s tr:=⟨zzL _,by simp_all,(by simp_all),λ_ _ _ h=>h,λ_ _ h=>.inl h⟩
theorem Stp.trans{L M:List Nat}{U U1 U2:Nat->Kd}{s s1 s2:Nat}{tr t1 t2:Tr Blk}(a:Stp L U s tr U1 s1 t1)(b:Stp M U1 s1 t1 U2 s2 t2):Stp (L++M) U s tr U2 s2 t2 :=
 ⟨Nat.le_trans a.le b.le,λx h=>⟨(b.fr x (a.fr x h).1).1,(b.fr x (a.fr x h).1).2.trans (a.fr x h).2⟩,λx h=>⟨(b.box x (a.box x h).1).1,(b.box x (a.box x h).1).2.trans (a.box x h).2⟩,λx F p h=>b.lab x F p (a.lab x F p h),
  λx F h=>by
   grind[Stp.nw]⟩
theorem JOk.mono{g w:Nat}{U U':Nat->Kd}{tr tr':Tr Blk}{RV RV':List Sy}{j:Nat}{c:AV}(h:JOk g w U tr RV j c)(hb:∀b,U b = .box->U' b = .box/\tr'.get b=tr.get b)(hl:∀b F p,U b = .lab F p->∃p',U' b = .lab F p')
  (hr:∀(j:Nat) y,RV[j]?=some y->RV'[j]?=some y):JOk g w U' tr' RV' j c:=by
 obtain⟨b5,b6,b8,b9,b10,X,p,o,y,h0,h1,h2,h3,h4,h5,h6,h7,h8⟩:=h;have bx:∀b v,Bx U tr b v->Bx U' tr' b v:=λb v q=>⟨(hb b q.1).1,(hb b q.1).2.trans q.2⟩
 obtain⟨p1,h7'⟩:=hl X _ p h7;refine⟨b5,b6,b8,b9,b10,X,p1,o,y,h0,hr _ _ h1,bx _ _ h2,bx _ _ h3,bx _ _ h4,bx _ _ h5,bx _ _ h6,h7',?_⟩;rcases h8 with h8|⟨h8,Y,p',h9,h10⟩
 .exact .inl h8
 .obtain⟨p2,h10'⟩:=hl Y _ p' h10;exact .inr ⟨h8,Y,p2,h9,h10'⟩
theorem qgp.mono{g w:Nat}{U U':Nat->Kd}{tr tr':Tr Blk}{RV RV':List Sy}(hb:∀b,U b = .box->U' b = .box/\tr'.get b=tr.get b)(hl:∀b F p,U b = .lab F p->∃p',U' b = .lab F p')
  (hr:∀(j:Nat) y,RV[j]?=some y->RV'[j]?=some y):∀{js:List Nat} {cs:List AV},qgp g w U tr RV js cs->qgp g w U' tr' RV' js cs
 | [],[],_=>trivial
 | _::_,_::_,h=>⟨h.1.mono hb hl hr,qgp.mono hb hl hr h.2⟩
 | [],_::_,h=>h.elim
 | _::_,[],h=>h.elim
def qgp.app{g w:Nat}{U:Nat->Kd}{tr:Tr Blk}{RV:List Sy}{j:Nat}{c:AV}(hj:JOk g w U tr RV j c):∀{js:List Nat} {cs:List AV},qgp g w U tr RV js cs->qgp g w U tr RV (js++[j]) (cs++[c])
 | [],[],_=>⟨hj,trivial⟩
 | _::_,_::_,h=>⟨h.1,qgp.app hj h.2⟩
 | [],_::_,h=>h.elim
 | _::_,[],h=>h.elim
section
variable {g w s:Nat} {U:Nat->Kd} {tr:Tr Blk} {RV:List Sy} {N:List Nat}
def WI.fresh(h:WI g w U s tr RV N):U s = .no:=by
 cases hk:U s with
 | no=>rfl
 | _=>exact absurd (h.dom s (by rw[hk];simp)) (Nat.lt_irrefl _)
def WI.new(h:WI g w U s tr RV N)(kd:Kd)(x:Blk)(hk:kd = .no\/kd = .fr\/kd = .box\/∃F,kd = .lab F false/\x = .v [.j 0]):WI g w (kdS U s kd) (s+1) (tr.set s x) RV N:=by
 have hs:=h.fresh;have ne:∀{b},U b≠.no->b≠s:=by grind
 obtain⟨bl,bt,cs,js,r1,r2,r3,r4,r5,r6,r7,r8,r9⟩:=h.rows;refine⟨λb hb=>?_,⟨bl,bt,cs,js,?_,?_,?_,?_,?_,?_,r7.mono ?_ ?_ λ_ _ q=>q,r8,r9⟩,λb F p hb=>?_⟩
 .by_cases e:b=s
  .omega
  .rw[qj e]at hb;have:=h.dom b hb;omega
 .rw[qj (by simp_all)];exact r1
 .rw[qj (by simp_all)];exact r2
 .rw[qj (by simp_all)];exact r3
 .rw[Tr.get_set,if_neg (by simp_all)];exact r4
 .rw[Tr.get_set,if_neg (by simp_all)];exact r5
 .rw[Tr.get_set,if_neg (by simp_all)];exact r6
 .simp_all[qj,Tr.get_set]
 .simp_all[qj]
 .by_cases e:b=s
  .simp_all[qI,Tr.get_set]
  .rw[qj e]at hb;rw[Tr.get_set,if_neg e];exact h.lab b F p hb
def WI.stpLab(h:WI g w U s tr RV N)(kd:Kd)(x:Blk):Stp [s] U s tr (kdS U s kd) (s+1) (tr.set s x):=by
 have hs:=h.fresh;have ne:∀{b},U b≠.no->b≠s:=by grind
 refine⟨by omega,λb hb=>?_,λb hb=>?_,λb F p hb=>?_,λb F hb=>?_⟩
 all_goals grind[qj,Tr.get_set]
def WI.stpNew(h:WI g w U s tr RV N)(kd:Kd)(x:Blk)(hk:∀F,kd≠.lab F false):Stp [] U s tr (kdS U s kd) (s+1) (tr.set s x):=by
 refine { h.stpLab kd x with nw:=λb F hb=>?_ }
 grind[qI,qj]
def WI.chg(h:WI g w U s tr RV N){b:Nat}(kd:Kd)(x:Blk)(hb:U b = .fr\/U b = .no)(hbs:b<s)(hk:kd = .no\/kd = .fr\/kd = .box):WI g w (kdS U b kd) s (tr.set b x) RV N:=by
 have ne:∀{c},U c≠.no->U c≠.fr->c≠b:=λh1 h2 e=>by simp_all
 obtain⟨bl,bt,cs,js,r1,r2,r3,r4,r5,r6,r7,r8,r9⟩:=h.rows;refine⟨λc hc=>?_,⟨bl,bt,cs,js,?_,?_,?_,?_,?_,?_,r7.mono ?_ ?_ λ_ _ q=>q,r8,r9⟩,λc F p hc=>?_⟩
 .by_cases e:c=b
  .omega
  .rw[qj e]at hc;exact h.dom c hc
 .rw[qj (by simp_all)];exact r1
 .rw[qj (by simp_all)];exact r2
 .rw[qj (by simp_all)];exact r3
 .rw[Tr.get_set,if_neg (by simp_all)];exact r4
 .rw[Tr.get_set,if_neg (by simp_all)];exact r5
 .rw[Tr.get_set,if_neg (by simp_all)];exact r6
 .simp_all[qj,Tr.get_set]
 .simp_all[qj]
 .by_cases e:c=b
  .simp_all[qI]
  .rw[qj e]at hc;rw[Tr.get_set,if_neg e];exact h.lab c F p hc
def qBx{bx e:Nat}{a:Bool}(hc:qc P f ze=true)(h:WI g w U s tr RV N)(y:Sy)(hx:tr.get bx=some (.cells e true a (cSy y.raw)))(hm:RV.length<=1000000) :
  ∃U' s' tr',Stp [] U s tr U' s' tr'/\WI g w U' s' tr' (RV++[y]) (RV.length::N)/\∀k:AV->Hp->Prop,k (.tup []) ⟨s',0,tr'⟩->SC P f [.ptr w 0,.sl bx 0 1 1 false] ⟨s,0,tr⟩ k:=by
 obtain⟨bl,bt,cs,js,r1,r2,r3,r4,r5,r6,r7,r8,r9⟩:=h.rows;have hs:=h.fresh;have ne:∀{b c},U b≠U c->b≠c:=by grind
 have ns:∀{b},U b≠.no->b≠s:=by simp_all
 have wl:w≠bl:=by simp_all
 have tl:bt≠bl:=by simp_all
 have tw:bt≠w:=by simp_all
 have sw:s≠w:=by simp_all
 have sl:s≠bl:=by simp_all
 have st:bt≠s:=by simp_all
 have ge:∀b,U b≠.w->U b≠.l->U b≠.no->(((tr.set bl .dead).set s (.cells 4 true true (rSy (RV.map Sy.raw)++cSy y.raw))).set w (.v [.own s (RV.length+1),.own bt cs.length])).get b=tr.get b:=λb h1 h2 h3=>by
  rw[Tr.get_set,if_neg (by simp_all),Tr.get_set,if_neg (ns h3),Tr.get_set,if_neg (by simp_all)]
 have gk:∀b,U b≠.l->U b≠.no->kdS (kdS U bl .no) s .l b=U b:=λb h1 h2=>by
  rw[qj (ns h2),qj (by simp_all)]
 refine⟨kdS (kdS U bl .no) s .l,s+1,((tr.set bl .dead).set s (.cells 4 true true (rSy (RV.map Sy.raw)++cSy y.raw))).set w (.v [.own s (RV.length+1),.own bt cs.length]),⟨by omega,λb hb=>?_,λb hb=>?_,λb F p hb=>?_,λb F hb=>.inl (by
  grind[qI,qj])⟩,⟨λb hb=>?_,⟨s,bt,cs,js,?_,?_,?_,?_,?_,?_,r7.mono ?_ ?_ ?_,?_,?_⟩,λb F p hb=>?_⟩,
  λk hk=>qEt hc y.raw r4 r5 (by rw[qan,List.length_map]) hx hm wl (h.dom w (by rw[r1];simp)) (Nat.zero_le _) (Nat.zero_le _) ⟨rfl,rfl⟩ hk⟩
 .simp_all
 .simp_all
 .rw[gk b (by rw[hb];simp) (by rw[hb];simp)];exact hb
 .by_cases e:b=s
  .omega
  .rw[qj e]at hb
   by_cases e2:b=bl
   .rw[e2,qI]at hb;simp_all
   .rw[qj e2]at hb;have:=h.dom b hb;omega
 .rw[gk w (by rw[r1];simp) (by rw[r1];simp)];exact r1
 .rw[qI]
 .rw[gk bt (by rw[r3];simp) (by rw[r3];simp)];exact r3
 .rw[Tr.get_set,if_pos rfl];simp
 .rw[Tr.get_set,if_neg sw,Tr.get_set,if_pos rfl];rw[qAk,qsd];simp
 .rw[ge bt (by rw[r3];simp) (by rw[r3];simp) (by rw[r3];simp)];exact r6
 .simp_all
 .simp_all
 .grind
 .grind
 .grind
 .by_cases e:b=s
  .rw[e,qI]at hb;cases hb
  .rw[qj e]at hb
   by_cases e2:b=bl
   .rw[e2,qI]at hb;cases hb
   .rw[qj e2]at hb;obtain⟨x,q1,q2⟩:=h.lab b F p hb
    simp_all
def qw2{k:AV->Hp->Prop}{bx e:Nat}{a:Bool}(hc:qc P f ze=true)(h:WI g w U s tr RV N)(y:Sy)(hx:tr.get bx=some (.cells e true a (cSy y.raw)))(hm:RV.length<=1000000)
  (hk:∀U' s' tr',Stp [] U s tr U' s' tr'->WI g w U' s' tr' (RV++[y]) (RV.length::N)->k (.tup []) ⟨s',0,tr'⟩):SC P f [.ptr w 0,.sl bx 0 1 1 false] ⟨s,0,tr⟩ k:=by
 obtain⟨U',s',tr',q1,q2,q3⟩:=qBx hc h y hx hm;exact q3 k (by grind)
def WI.drop{n:Nat}(h:WI g w U s tr RV (n::N))(hn:∀y,RV[n]?=some y->y.raw=y):WI g w U s tr RV N:=by
 obtain⟨bl,bt,cs,js,r1,r2,r3,r4,r5,r6,r7,r8,r9⟩:=h.rows;refine⟨h.dom,⟨bl,bt,cs,js,r1,r2,r3,r4,r5,r6,r7,by simp at r8;omega,λj y hy hj hN=>?_⟩,h.lab⟩
 by_cases e:j=n
 .subst e;exact hn y hy
 .exact r9 j y hy hj λq=>by rcases List.mem_cons.1 q with q|q<;>contradiction
def WI.add{n bl bt m:Nat}{c:AV}{cs:List AV}(h:WI g w U s tr RV (n::N))(hj:JOk g w U tr RV n c)(hw:tr.get w=some (.v [.own bl RV.length,.own bt m]))(ht:tr.get bt=some (.cells 1 true true cs)) :
  WI g w (kdS (kdS U bt .no) s .t) (s+1) (((tr.set bt .dead).set s (.cells 1 true true (cs++[c]))).set w (.v [.own bl RV.length,.own s (m+1)])) RV N /\
  Stp [] U s tr (kdS (kdS U bt .no) s .t) (s+1) (((tr.set bt .dead).set s (.cells 1 true true (cs++[c]))).set w (.v [.own bl RV.length,.own s (m+1)])):=by
 obtain⟨bl',bt',cs',js,r1,r2,r3,r4,r5,r6,r7,r8,r9⟩:=h.rows;rw[hw]at r4;cases r4;rw[ht]at r6;cases r6;have hs:=h.fresh;have ne:∀{b c},U b≠U c->b≠c:=by grind
 have ns:∀{b},U b≠.no->b≠s:=by simp_all
 have sw:s≠w:=by simp_all
 have sb:s≠bt:=by simp_all
 have ge:∀b,U b≠.w->U b≠.t->U b≠.no->(((tr.set bt .dead).set s (.cells 1 true true (cs++[c]))).set w (.v [.own bl RV.length,.own s (cs.length+1)])).get b=tr.get b:=λb h1 h2 h3=>by
  rw[Tr.get_set,if_neg (by simp_all),Tr.get_set,if_neg (ns h3),Tr.get_set,if_neg (by simp_all)]
 have gk:∀b,U b≠.t->U b≠.no->kdS (kdS U bt .no) s .t b=U b:=λb h1 h2=>by
  rw[qj (ns h2),qj (by simp_all)]
 have hB:∀b,U b = .box->kdS (kdS U bt .no) s .t b = .box/\(((tr.set bt .dead).set s (.cells 1 true true (cs++[c]))).set w (.v [.own bl RV.length,.own s (cs.length+1)])).get b=tr.get b:=λb hb =>
  by simp_all
 have hL:∀b F p,U b = .lab F p->kdS (kdS U bt .no) s .t b = .lab F p:=by simp_all
 refine⟨⟨λb hb=>?_,⟨bl,s,cs++[c],js++[n],?_,?_,?_,?_,?_,?_,?_,?_,?_⟩,λb F p hb=>?_⟩,⟨by omega,λb hb=>?_,hB,hL,λb F hb=>.inl (by
  by_cases e:b=s
  .rw[e,qI]at hb;cases hb
  .rw[qj e]at hb
   by_cases e2:b=bt
   .rw[e2,qI]at hb;cases hb
   .rw[qj e2]at hb;exact hb)⟩⟩
 .by_cases e:b=s
  .omega
  .rw[qj e]at hb
   by_cases e2:b=bt
   .rw[e2,qI]at hb;exact absurd rfl hb
   .rw[qj e2]at hb;have:=h.dom b hb;omega
 .rw[gk w (by rw[r1];simp) (by rw[r1];simp)];exact r1
 .rw[gk bl (by rw[r2];simp) (by rw[r2];simp)];exact r2
 .rw[qI]
 .rw[Tr.get_set,if_pos rfl];simp
 .rw[ge bl (by rw[r2];simp) (by rw[r2];simp) (by rw[r2];simp)];exact r5
 .rw[Tr.get_set,if_neg sw,Tr.get_set,if_pos rfl]
 .exact qgp.app (hj.mono hB (by simp_all) λ_ _ q=>q) (r7.mono hB (by simp_all) λ_ _ q=>q)
 .simp at r8 ⊢;omega
 .intro j y hy hj hN;exact by grind
 .by_cases e:b=s
  .rw[e,qI]at hb;cases hb
  .rw[qj e]at hb
   by_cases e2:b=bt
   .rw[e2,qI]at hb;cases hb
   .rw[qj e2]at hb;obtain⟨x,q1,q2⟩:=h.lab b F p hb;exact by simp_all
 simp_all
end
section
variable {g w s gp:Nat} {U:Nat->Kd} {tr:Tr Blk} {RV:List Sy} {N:List Nat} {k:AV->Hp->Prop}
def WI.dropS{y:Sy}(h:WI g w U s tr (RV++[y]) (RV.length::N))(hy:y.raw=y):WI g w U s tr (RV++[y]) N:=h.drop λz hz=>by
 simp_all
def jA(a:Nat):IFn:=⟨[],.r [.n 4 0,.n 5 1,.q 6 (.build [.h 0,.w 0,.j 0,.j 0] [(0,1,(.c (.h 32))),(1,1,(.t 5))]),.q 7 (.buildS 1 [.h 0,.w 0,.j 0,.j 0] [(0,4,(.t 6))]),.l 8 a [.t 4,.t 7]]⟩
def qlW(hc:qc P f (jA gp)=true)(hp:qc P gp ze=true)(h:WI g w U s tr RV N)(a:Int)(hm:RV.length<=1000000)
  (hk:∀U' s' tr',Stp [] U s tr U' s' tr'->WI g w U' s' tr' (RV++[⟨32,a,0,0⟩]) N->k (.tup []) ⟨s',0,tr'⟩):SC P f [.ptr w 0,.w a] ⟨s,0,tr⟩ k:=by
 refine SC.mk hc (qk ?_);simp only[jA,vI,simprocAttr];simp +decide only[↓vS,vT,simprocAttr];refine qw2 hp (h.new .no _ (.inl rfl)) ⟨32,a,0,0⟩ (by rw[Tr.get_set,if_pos rfl];rfl) hm ?_;intro U' s' tr' st hw;simp +decide only[↓vS,vT,simprocAttr];exact hk _ _ _ ((h.stpNew .no _ (by simp)).trans st) (hw.dropS rfl)
def qbc(a:Nat):IFn:=⟨[],.r [.n 4 0,.n 5 1,.q 6 (.build [.h 0,.w 0,.j 0,.j 0] [(0,1,(.c (.h 6))),(1,1,(.t 5))]),.q 7 (.buildS 1 [.h 0,.w 0,.j 0,.j 0] [(0,4,(.t 6))]),.l 8 a [.t 4,.t 7]]⟩
def qnk(hc:qc P f (qbc gp)=true)(hp:qc P gp ze=true)(h:WI g w U s tr RV N)(a:Int)(hm:RV.length<=1000000)
  (hk:∀U' s' tr',Stp [] U s tr U' s' tr'->WI g w U' s' tr' (RV++[⟨6,a,0,0⟩]) N->k (.tup []) ⟨s',0,tr'⟩):SC P f [.ptr w 0,.w a] ⟨s,0,tr⟩ k:=by
 refine SC.mk hc (qk ?_);simp only[qbc,vI,simprocAttr];simp +decide only[↓vS,vT,simprocAttr];refine qw2 hp (h.new .no _ (.inl rfl)) ⟨6,a,0,0⟩ (by rw[Tr.get_set,if_pos rfl];rfl) hm ?_;intro U' s' tr' st hw;simp +decide only[↓vS,vT,simprocAttr];exact hk _ _ _ ((h.stpNew .no _ (by simp)).trans st) (hw.dropS rfl)
def qaW(hc:qc P f xK=true)(h:WI g w U s tr RV N){b:Nat}{p:Bool}(hb:U b = .lab RV.length p)
  (hk:∀tr',(∀c,U c = .fr->tr'.get c=tr.get c)->(∀c,U c = .box->tr'.get c=tr.get c)->WI g w (kdS U b (.lab RV.length true)) s tr' RV N->k (.tup []) ⟨s,0,tr'⟩):SC P f [.ptr w 0,.ptr b 0] ⟨s,0,tr⟩ k:=by
 obtain⟨bl,bt,cs,js,r1,r2,r3,r4,r5,r6,r7,r8,r9⟩:=h.rows;obtain⟨x,q1,q2⟩:=h.lab _ _ _ hb;have ne:∀{b c},U b≠U c->b≠c:=by grind
 have nb:∀{c},(∀F p,U c≠.lab F p)->c≠b:=by grind
 refine qzj hc r4 q1 (Nat.zero_le _) (hk _ (λc hc=>?_) (λc hc=>?_) ⟨λc hc=>?_,⟨bl,bt,cs,js,?_,?_,?_,?_,?_,?_,r7.mono ?_ ?_ λ_ _ q=>q,r8,r9⟩,λc F p hc=>?_⟩)
 .rw[Tr.get_set,if_neg (by simp_all)]
 .rw[Tr.get_set,if_neg (by simp_all)]
 .by_cases e:c=b
  .rw[e];exact h.dom b (by rw[hb];simp)
  .rw[qj e]at hc;exact h.dom c hc
 .rw[qj (by simp_all)];exact r1
 .rw[qj (by simp_all)];exact r2
 .rw[qj (by simp_all)];exact r3
 .rw[Tr.get_set,if_neg (by simp_all)];exact r4
 .rw[Tr.get_set,if_neg (by simp_all)];exact r5
 .rw[Tr.get_set,if_neg (by simp_all)];exact r6
 .simp_all[qj,Tr.get_set]
 .grind[qI,qj]
 .by_cases e:c=b
  .rw[e,qI]at hc;simp_all[Tr.get_set]
  .rw[qj e]at hc;rw[Tr.get_set,if_neg e];exact h.lab c F p hc
def xL(a b:Nat):IFn:=⟨[],sq [.r [.q 5 (.box (.t 0)),.q 6 (.box (.t 1)),.q 8 (.box (.t 3)),.q 9 (.box (.t 4))],.r [.d 11 5,.q 12 (.nilChk (.t 11)),.f 13 0 12,.d 14 13,.e 15 14,.q 10 (.alloc [.j 0]),.u (.store 1 (.t 10) (.t 15))],.r [.d 16 5,.d 17 6,.n 18 2,.q 19 (.build [.h 0,.w 0,.j 0,.j 0] [(0,1,(.t 17)),(1,1,(.t 18))]),.q 20 (.buildS 1 [.h 0,.w 0,.j 0,.j 0] [(0,4,(.t 19))]),.l 21 a [.t 16,.t 20]],.reg true [.d 22 5,.d 23 5,.q 24 (.nilChk (.t 23)),.f 25 1 24,.d 26 25,.q 27 (.mkF b [] [.t 8,.t 5,.t 10,.t 6,.t 9]),.q 28 (.buildS 1 [.nilf] [(0,1,(.t 27))]),.q 29 (.appD 1 8 (.t 26) (.t 28) [5]),.q 30 (.nilChk (.t 22)),.f 31 1 30,.u (.store 1 (.t 31) (.t 29))]]⟩
def qv7(hc:qc P f (xL gp g)=true)(hp:qc P gp ze=true)(h:WI g w U s tr RV N)(y:Sy){X:Nat}{p:Bool}{o:AV}(hX:U X = .lab y.th p)
  (ho:(y.code=5/\o = .nilp/\y.el=0)\/(y.code≠5/\∃Y p',o = .ptr Y 0/\U Y = .lab y.el p')) (hm:RV.length<=1000000) :
  ∃U' s' tr',Stp [] U s tr U' s' tr'/\WI g w U' s' tr' (RV++[y]) N/\∀k:AV->Hp->Prop,k (.tup []) ⟨s',0,tr'⟩->SC P f [.ptr w 0,.h y.code,.w y.k,.ptr X 0,o] ⟨s,0,tr⟩ k:=by
 obtain⟨bl,bt,cs,js,r1,r2,r3,r4,r5,r6,r7,r8,r9⟩:=h.rows;have hs:=h.fresh;have ws:w<s:=h.dom w (by rw[r1];simp)
 have hod:qcR o=true/\cellsOf o=[o]/\zj o=true:=by
  rcases ho with⟨_,rfl,_⟩|⟨_,Y,_,rfl,_⟩<;>exact⟨rfl,rfl,rfl⟩
 obtain⟨o1,o2,o3⟩:=hod;have w0:¬w=s:=by omega
 have w1:¬w=s+1:=by omega
 have w2:¬w=s+1+1:=by omega
 have w3:¬w=s+1+1+1:=by omega
 have w4:¬w=s+1+1+1+1:=by omega
 have s1:¬s=s+1:=by omega
 have s2:¬s=s+1+1:=by omega
 have s3:¬s=s+1+1+1:=by omega
 have s4:¬s=s+1+1+1+1:=by omega
 have s0:¬s=s+1+1+1+1+1:=by omega
 have s5:¬s+1=s+1+1:=by omega
 have s6:¬s+1=s+1+1+1:=by omega
 have s7:¬s+1=s+1+1+1+1:=by omega
 have h1:=h.new .box (.v [.ptr w 0]) (by simp_all);have h2:=h1.new .box (.v [.h y.code]) (by simp_all);have h3:=h2.new .box (.v [.ptr X 0]) (by simp_all);have h4:=h3.new .box (.v [o]) (by simp_all);have h5:=h4.new .no (.v [.j 0]) (.inl rfl);have h6:=h5.chg (b:=s+1+1+1+1) .box (.v [.j (RV.length:Int)]) (.inr qI) (by omega) (.inr (.inr rfl));have h7:=h6.new .no (.v [.h y.code,.w y.k,.j 0,.j 0]) (.inl rfl);obtain⟨U',s',tr',st',hw,hput⟩:=qBx hp h7 y (by rw[Tr.get_set,if_pos rfl];rfl) hm;have d0:∀{b},b<s'->¬b=s':=λh e=>by omega
 obtain⟨bl',bt',cs',js',q1,q2,q3,q4,q5,q6,q7,q8,q9⟩:=hw.rows;have ne:∀{b c},U' b≠U' c->b≠c:=by grind
 have nn:∀a:Nat,¬s=s+a+1:=λa h=>by omega
 have ke:∀c:Nat,c<5->kdS (kdS (kdS (kdS (kdS (kdS (kdS U s .box) (s+1) .box) (s+1+1) .box) (s+1+1+1) .box) (s+1+1+1+1) .no) (s+1+1+1+1) .box) (s+1+1+1+1+1) .no (s+c) = .box:=by
  intro c hc;simp only[kdS];have:c=0\/c=1\/c=2\/c=3\/c=4:=by omega
  rcases this with rfl|rfl|rfl|rfl|rfl<;>simp[s0,s1,s2,s3,s4]
 have b0:=st'.box (s+0) (ke 0 (by omega));have b1:=st'.box (s+1) (ke 1 (by omega));have b2:=st'.box (s+2) (ke 2 (by omega));have b3:=st'.box (s+3) (ke 3 (by omega));have b4:=st'.box (s+4) (ke 4 (by omega));have g0:tr'.get s=some (.v [.ptr w 0]):=by rw[show s=s+0 from rfl,b0.2];simp[Tr.get_set,s0,s1,s2,s3,s4]
 have g1:tr'.get (s+1)=some (.v [.h y.code]):=by rw[b1.2];simp[Tr.get_set]
 have g2:tr'.get (s+2)=some (.v [.ptr X 0]):=by rw[b2.2];simp[Tr.get_set]
 have g3:tr'.get (s+3)=some (.v [o]):=by rw[b3.2];simp[Tr.get_set]
 have g4:tr'.get (s+4)=some (.v [.j (RV.length:Int)]):=by rw[b4.2];simp[Tr.get_set]
 have ws':w<s':=hw.dom w (by rw[q1];simp);have bs':bt'<s':=hw.dom bt' (by rw[q3];simp);have le':s+6<=s':=st'.le;have l0:¬s=s':=by omega
 have l1:¬w=s':=by omega
 have l2:¬bt'=s':=by omega
 have l3:¬w=s'+1:=by omega
 have l4:¬w=bt':=by grind
 have l5:¬s=s'+1:=by omega
 have l6:¬s=bt':=by grind
 have hr1:cs'.length+1<=qf:=by simp only[qf];grind
 have hr2:(cs'.length+1)*8<=qf:=by simp only[qf];grind
 have hw1:=hw.new .no (.v [.fn g [] [.ptr (s+1+1) 0,.ptr s 0,.ptr (s+1+1+1+1) 0,.ptr (s+1) 0,.ptr (s+1+1+1) 0]]) (.inl rfl)
 have bx:∀c v,c<5->U' (s+c) = .box->tr'.get (s+c)=some (.v [v])->Bx (kdS U' s' .no) (tr'.set s' (.v [.fn g [] [.ptr (s+1+1) 0,.ptr s 0,.ptr (s+1+1+1+1) 0,.ptr (s+1) 0,.ptr (s+1+1+1) 0]])) (s+c) v:=λc v hc e1 e2=>by
  have:s+c≠s':=by omega
  exact⟨by rw[qj this];exact e1,by rw[Tr.get_set,if_neg this];exact e2⟩
 have lk:∀b F p,U b = .lab F p->kdS U' s' .no b = .lab F p:=λb F p hb=>by
  have hbs:b<s:=h.dom b (by rw[hb];simp);rw[qj (by omega)];refine st'.lab b F p ?_;simp only[kdS];rw[if_neg (by omega),if_neg (by omega),if_neg (by omega),if_neg (by omega),if_neg (by omega),if_neg (by omega),if_neg (by omega)];exact hb
 have hj:JOk g w (kdS U' s' .no) (tr'.set s' (.v [.fn g [] [.ptr (s+1+1) 0,.ptr s 0,.ptr (s+1+1+1+1) 0,.ptr (s+1) 0,.ptr (s+1+1+1) 0]])) (RV++[y]) RV.length (.fn g [] [.ptr (s+1+1) 0,.ptr s 0,.ptr (s+1+1+1+1) 0,.ptr (s+1) 0,.ptr (s+1+1+1) 0]):=by
  refine⟨s+0,s+1,s+2,s+3,s+4,X,p,o,y,rfl,by simp,bx 0 _ (by omega) b0.1 g0,by grind,by grind,by grind,by grind,lk _ _ _ hX,?_⟩
  rcases ho with ho|⟨h1,Y,p',h2,h3⟩
  all_goals grind
 obtain⟨e1,e2⟩:=hw1.add hj (by rw[Tr.get_set,if_neg l1];exact q4) (by rw[Tr.get_set,if_neg l2];exact q6);refine⟨_,_,_,?_,e1,λk hk=>?_⟩
 rotate_left
 .refine SC.mk hc (qk ?_);simp only[xL,vI,simprocAttr];simp +decide only[↓vS,vT,simprocAttr,o1,o2,o3,r4,w0,w1,w2,w3,w4,s1,s2,s3,s4,s5,s6,s7];refine hput _ ?_;simp +decide only[↓vS,vT,simprocAttr];refine zg ?_;simp +decide only[↓vS,vT,simprocAttr,g0,q4,q6,l0,l1,l2,l3,l4,l5,l6,ws',bs',hr1,hr2,zzU];exact hk
 refine Stp.trans (L:=[]) ?_ (st'.trans ((hw.stpNew .no _ (by simp)).trans e2));refine⟨by omega,λb hb=>?_,λb hb=>?_,λb F p hb=>?_,λb F hb=>.inl ?_⟩
 rotate_left 3
 .simp only[kdS]at hb
  repeat' split at hb
  all_goals first|(cases hb;done)|exact hb
 all_goals have hbs:b<s:=h.dom b (by rw[hb];simp)
 .simp only[kdS,Tr.get_set]
  iterate 7 rw[if_neg (by omega)]
  iterate 7 rw[if_neg (by omega)]
  grind
 .simp only[kdS,Tr.get_set]
  iterate 7 rw[if_neg (by omega)]
  iterate 7 rw[if_neg (by omega)]
  grind
 .simp only[kdS]
  iterate 7 rw[if_neg (by omega)]
  exact hb
def qeS(hc:qc P f (xL gp g)=true)(hp:qc P gp ze=true)(h:WI g w U s tr RV N)(y:Sy){X:Nat}{p:Bool}{o:AV}(hX:U X = .lab y.th p)
  (ho:(y.code=5/\o = .nilp/\y.el=0)\/(y.code≠5/\∃Y p',o = .ptr Y 0/\U Y = .lab y.el p')) (hm:RV.length<=1000000)
  (hk:∀U' s' tr',Stp [] U s tr U' s' tr'->WI g w U' s' tr' (RV++[y]) N->k (.tup []) ⟨s',0,tr'⟩):SC P f [.ptr w 0,.h y.code,.w y.k,.ptr X 0,o] ⟨s,0,tr⟩ k:=by
 obtain⟨U',s',tr',q1,q2,q3⟩:=qv7 hc hp h y hX ho hm;exact q3 k (by grind)
end
def qgA{α:Type}{f:α->List AV}{m:Nat}(h:∀x,(f x).length=m){xs:List α}{j:Nat}{x x':α}{i:Nat}{v:AV}(hx:xs[j]?=some x)(hi:i<m)(hf:f x'=(f x).take i++([v]++(f x).drop (i+1))) :
  (xs.flatMap f).take (j*m+i)++([v]++(xs.flatMap f).drop (j*m+i+1))=(xs.set j x').flatMap f:=by
 obtain⟨hj,hx⟩:=zzS.1 hx;have e:xs=xs.take j++x::xs.drop (j+1):=by rw[<- hx,List.getElem_cons_drop,List.take_append_drop]
 have hl:(xs.take j).length=j:=by rw[List.length_take];omega
 have hA:((xs.take j).flatMap f).length=j*m:=by rw[qV h,hl]
 have e1:xs.flatMap f=(xs.take j).flatMap f++(f x++(xs.drop (j+1)).flatMap f):=by
  grind
 have e2:(xs.set j x').flatMap f=(xs.take j).flatMap f++(f x'++(xs.drop (j+1)).flatMap f):=by
  rw[List.set_eq_take_append_cons_drop,if_pos hj];simp
 rw[e1,e2,hf,<- hA,List.take_length_add_append,show((xs.take j).flatMap f).length+i+1=((xs.take j).flatMap f).length+(i+1)from rfl,List.drop_length_add_append]
 rw[List.take_append_of_le_length (by rw[h];omega),List.drop_append_of_le_length (by rw[h];omega)];simp
def qec(s:Sy):(cSy s).length=4:=rfl
def qQ:IFn:=⟨[],sq [.reg true [.d 5 1,.q 6 (.nilChk (.t 5)),.f 7 0 6,.d 8 7,.d 9 2,.d 10 0,.q 11 (.nilChk (.t 10)),.f 12 0 11,.d 13 12,.i 14 4 8 9,.f 15 2 14,.u (.store 1 (.t 15) (.t 13))],.r [.d 16 3,.q 17 (.bin .neq (.t 16) (.c (.h 5)))],.cond (.t 17) (.reg true [.d 18 1,.q 19 (.nilChk (.t 18)),.f 20 0 19,.d 21 20,.d 22 2,.d 23 4,.q 24 (.nilChk (.t 23)),.f 25 0 24,.d 26 25,.i 27 4 21 22,.f 28 3 27,.u (.store 1 (.t 28) (.t 26))]) (.skip)]⟩
def qv5(hc:qc P f qQ=true){s w bl j b5 b6 b8 b9 b10 X F:Nat}{L:List Sy}{z:Sy}{x o:AV}{c:Int}{e:Nat}{tr:Tr Blk}{k:AV->Hp->Prop}
  (hw:tr.get w=some (.v [.own bl L.length,x])) (hl:tr.get bl=some (.cells 4 true true (rSy L))) (hz:L[j]?=some z)
  (g5:tr.get b5=some (.v [.ptr w 0])) (g6:tr.get b6=some (.v [.h c])) (g8:tr.get b8=some (.v [.ptr X 0])) (g9:tr.get b9=some (.v [o])) (g10:tr.get b10=some (.v [.j (j:Int)]))
  (gX:tr.get X=some (.v [.j (F:Int)])) (hn:w≠bl/\b5≠bl/\b6≠bl/\b8≠bl/\b9≠bl/\b10≠bl/\X≠bl) (hd:bl<s)
  (ho:(c=5/\e=z.el)\/(c≠5/\∃Y,o = .ptr Y 0/\Y≠bl/\tr.get Y=some (.v [.j (e:Int)])))
  (hk:∀tr',(∀b,tr'.get b=if b=bl then some (.cells 4 true true (rSy (L.set j ⟨z.code,z.k,F,e⟩)))else tr.get b)->k (.tup []) ⟨s,0,tr'⟩) :
  SC P f [.ptr b8 0,.ptr b5 0,.ptr b10 0,.ptr b6 0,.ptr b9 0] ⟨s,0,tr⟩ k:=by
 obtain⟨n1,n2,n3,n4,n5,n6,n7⟩:=hn;have hj:j<L.length:=by grind
 have hj4:j*4+2+1<=(rSy L).length:=by rw[qan];omega
 have h1:(rSy L).take (j*4+2) ++ .j (F:Int)::(rSy L).drop (j*4+2+1)=rSy (L.set j ⟨z.code,z.k,F,z.el⟩):=qgA qec hz (by omega) rfl;have hz2:(L.set j ⟨z.code,z.k,F,z.el⟩)[j]?=some ⟨z.code,z.k,F,z.el⟩:=by grind
 have h2:(rSy (L.set j ⟨z.code,z.k,F,z.el⟩)).take (j*4+3) ++ .j (e:Int)::(rSy (L.set j ⟨z.code,z.k,F,z.el⟩)).drop (j*4+3+1)=rSy (L.set j ⟨z.code,z.k,F,e⟩):=by
  have:=qgA (x':=⟨z.code,z.k,F,e⟩) (v:=.j (e:Int)) (i:=3) qec hz2 (by omega) rfl;rw[List.set_set]at this;exact this
 have hj5:j*4+3+1<=(rSy (L.set j ⟨z.code,z.k,F,z.el⟩)).length:=by rw[qan,List.length_set];omega
 refine SC.mk hc (qk ?_);simp only[qQ,vI,simprocAttr];refine zg ?_;simp +decide only[↓vS,vT,simprocAttr,g5,hw,g10,g8,gX,hl,n1,n2,n3,n4,n5,n6,n7,hj,hd,hj4,h1];rcases ho with⟨rfl,rfl⟩|⟨hc5,Y,rfl,nY,gY⟩
 .simp +decide only[↓vS,vT,simprocAttr,g6]
  simp_all[Tr.get_set]
 .simp +decide only[↓vS,vT,simprocAttr,g6,hc5];refine zg ?_;have n1':¬w=bl:=n1;simp +decide only[↓vS,vT,simprocAttr,g5,hw,g10,g9,gY,hl,n1,n2,n3,n4,n5,n6,n7,nY,hj,hd,hj5,List.length_set,h2]
  simp_all[Tr.get_set]
def zi:IFn:=⟨[.tmp 2],sq [.r [.m 2 .N],sq [.r [.n 5 0,.q 6 (.nilChk (.t 5)),.f 7 1 6,.d 8 7,.e 9 8,.m 10 (.k 0)],.blk 0 (.loop (sq [.r [.s 11 10 9],.cond (.t 11) (.skip) (.exit 0),.blk 1 (sq [.r [.i 12 1 8 10,.d 13 12,.n 4 13],.r [.n 14 4,⟨(some 15),.callV (.t 14) [],none⟩]]),.r [.a 16 10 1,.n 10 16]]))],.r [.n 17 0,.q 18 (.nilChk (.t 17)),.f 19 0 18,.d 20 19,.n 2 20],.ret]⟩
def qft(js:List Nat)(RV:List Sy):List Sy:=RV.mapIdx λj y=>if j ∈ js then y else y.raw
theorem qtU{RV:List Sy}:qft [] RV=RV.map Sy.raw:=by
 apply List.ext_getElem?;intro i;simp[qft]
theorem qne{js:List Nat}{RV:List Sy}:(qft js RV).length=RV.length:=by simp[qft]
theorem qkg{js:List Nat}{RV:List Sy}{j:Nat}:(qft js RV)[j]?=(RV[j]?).map λy=>if j ∈ js then y else y.raw:=by simp[qft]
def qqT{js:List Nat}{RV:List Sy}{j:Nat}{y:Sy}(hy:RV[j]?=some y):(qft js RV).set j y=qft (js++[j]) RV:=by
 have hj:j<RV.length:=by grind
 apply List.ext_getElem?
 grind[qne,qkg]
def qtT{js:List Nat}{RV:List Sy}(h:∀(j:Nat) y,RV[j]?=some y->j ∉ js->y.raw=y):qft js RV=RV:=by
 apply List.ext_getElem?
 grind[qkg]
theorem qgp.get{g w:Nat}{U:Nat->Kd}{tr:Tr Blk}{RV:List Sy}:∀{js:List Nat} {cs:List AV},qgp g w U tr RV js cs->∀{i:Nat} {c:AV},cs[i]?=some c->∃j,js[i]?=some j/\JOk g w U tr RV j c
 | [],[],_,_,_,h=>by grind
 | j::js,c::cs,h,0,_,hi=>by simp at hi;subst hi;exact⟨j,rfl,h.1⟩
 | j::js,c::cs,h,i+1,_,hi=>by simpa using qgp.get h.2 (by simp_all)
 | [],_::_,h,_,_,_=>h.elim
 | _::_,[],h,_,_,_=>h.elim
theorem qgp.len{g w:Nat}{U:Nat->Kd}{tr:Tr Blk}{RV:List Sy}:∀{js:List Nat} {cs:List AV},qgp g w U tr RV js cs->js.length=cs.length
 | [],[],_=>rfl
 | _::_,_::_,h=>by simp[qgp.len h.2]
 | [],_::_,h=>h.elim
 | _::_,[],h=>h.elim
def qvc{g w s:Nat}{U:Nat->Kd}{tr:Tr Blk}{RV:List Sy}{k:AV->Hp->Prop}(hc:qc P f zi=true)(hg:qc P g qQ=true)(h:WI g w U s tr RV [])(hp:∀b F p,U b = .lab F p->p=true)(hm:RV.length<=1000000)
  (hk:∀tr' b,tr'.get b=some (.cells 4 true true (rSy RV))->b<s->k (.own b RV.length) ⟨s,0,tr'⟩):SC P f [.ptr w 0] ⟨s,0,tr⟩ k:=by
 obtain⟨bl,bt,cs,js,r1,r2,r3,r4,r5,r6,r7,r8,r9⟩:=h.rows;have ne:∀{b c},U b≠U c->b≠c:=by grind
 have hjl:=r7.len;refine SC.mk hc (qk ?_);simp only[zi,vI,simprocAttr];simp +decide only[↓vS,vT,simprocAttr,r4];have wl:w≠bl:=by simp_all
 have tl:bt≠bl:=by simp_all
 refine SL.loopP (α:=Nat) (λi=>[(0,.ptr w 0),(2,.nils),(8,.own bt cs.length),(9,.j (cs.length:Int)),(10,.j (i:Int))])
  (λi h=>i<=cs.length/\∃tr',h=⟨s,0,tr'⟩/\∀b,tr'.get b=if b=bl then some (.cells 4 true true (rSy (qft (js.take i) RV)))else tr.get b) (λi=>cs.length-i) ?_ 0 ?_ ?_
 .rintro i h1 ⟨hi,tr',rfl,hget⟩ G ih;simp only[vI,simprocAttr];have g4:tr'.get w=some (.v [.own bl RV.length,.own bt cs.length]):=by rw[hget,if_neg wl];exact r4
  have g5:tr'.get bl=some (.cells 4 true true (rSy (qft (js.take i) RV))):=by rw[hget,if_pos rfl]
  have g6:tr'.get bt=some (.cells 1 true true cs):=by rw[hget,if_neg tl];exact r6
  by_cases hlt:i<cs.length
  .obtain⟨j,hj,b5,b6,b8,b9,b10,X,p,o,y,h0,h1,h2,h3,h4,h5,h6,h7,h8⟩:=r7.get (zzE hlt);have hci:cs[i]?=some (.fn g [] [.ptr b8 0,.ptr b5 0,.ptr b10 0,.ptr b6 0,.ptr b9 0]):=by rw[zzE hlt,h0]
   have nb:∀{b v},Bx U tr b v->b≠bl/\tr'.get b=some (.v [v]):=λ{b v} q=>by
    have e:b≠bl:=ne (by rw[q.1,r2];simp);exact⟨e,by rw[hget,if_neg e];exact q.2⟩
   have nl:∀{b F p},U b = .lab F p->b≠bl/\tr'.get b=some (.v [.j (F:Int)]):=λ{b F p} q=>by
    have e:b≠bl:=by grind
    obtain⟨x,q1,q2⟩:=h.lab b F p q;exact by grind
   have hlt':(i:Int)<cs.length:=by omega
   have hw1:IntKind.wrap .i64 ((i:Int)+1)=((i+1:Nat):Int):=by rw[qm (by omega) (by omega)];simp
   simp +decide only[↓vS,vT,simprocAttr,hlt',hlt,g6,hci,zzU];have hz:(qft (js.take i) RV)[j]?=some (if j ∈ js.take i then y else y.raw):=by rw[qkg,h1];rfl
   refine qv5 (F:=y.th) (e:=y.el) (c:=y.code) (L:=qft (js.take i) RV) hg (by rw[qne];exact g4) g5 hz (nb h2).2 (nb h3).2 (nb h4).2 (nb h5).2 (nb h6).2 (nl h7).2 (by grind) (by grind[WI.dom]) ?_ ?_
   .rcases h8 with⟨h8,rfl,h9⟩|⟨h8,Y,p',rfl,h9⟩
    .exact .inl ⟨h8,by split<;>simp[h9,Sy.raw]⟩
    .exact by grind
   .intro tr2 hget2;have ec:∀b:Bool,(⟨(if j ∈ js.take i then y else y.raw).code,(if j ∈ js.take i then y else y.raw).k,y.th,y.el⟩:Sy)=y:=λ_=>by split<;>rfl
    rw[ec true,qqT h1]at hget2;simp +decide only[↓vS,vT,simprocAttr,hw1];refine ih (i+1) _ _ (by omega) ?_ ⟨by omega,tr2,rfl,λb=>?_⟩
    .simp[qh,ql,Tr.get_set]
    .rw[hget2,hget];have:js.take (i+1)=js.take i++[j]:=by rw[List.take_add_one,hj];rfl
     rw[this];split<;>rfl
  .obtain rfl:i=cs.length:=by omega
   have hlt':¬((cs.length:Int)<cs.length):=by omega
   simp +decide only[↓vS,vT,simprocAttr,hlt',g4];rw[show js.take cs.length=js from by rw[<- hjl,List.take_length]]at g5
   rw[qtT (by grind)]at g5;exact by grind[WI.dom]
 .simp[qh,ql,Tr.get_set]
 grind[qtU]
theorem Stp.kd{L L':List Nat}{U U1:Nat->Kd}{s s1:Nat}{tr t1 t2:Tr Blk}(a:Stp L U s tr U1 s1 t1)(hd:∀b,U b≠.no->b<s){b F':Nat}(hb:s<=b)(hf:∀c,U1 c = .fr->t2.get c=t1.get c)(hx:∀c,U1 c = .box->t2.get c=t1.get c)(hL:∀c ∈ L,c=b\/c ∈ L'):Stp L' U s tr (kdS U1 b (.lab F' true)) s1 t2:=by
 have ne:∀{c},U c≠.no->c≠b:=by grind
 refine⟨a.le,λc hc=>?_,λc hc=>?_,λc F p hc=>?_,λc F hc=>?_⟩
 .rw[qj (by simp_all)];exact by grind[Stp.fr]
 .rw[qj (by simp_all)];exact by grind[Stp.box]
 .rw[qj (by simp_all)];exact a.lab c F p hc
 grind[qI,qj,Stp.nw]
def qff(a mask v:Int)(p F:Nat):List Sy :=
 if mask=0 then []else if mask=4294967295 then [⟨32,a,0,0⟩,⟨21,v,p+2,F⟩]else [⟨32,a,0,0⟩,⟨84,mask,0,0⟩,⟨21,v,p+3,F⟩]
def qef(mask:Int):Nat:=if mask=0 then 0 else if mask=4294967295 then 2 else 3
theorem qhz{a m v:Int}{p F:Nat}:(qff a m v p F).length=qef m:=by
 unfold qff qef;grind
section
variable {g w s gl gp gj gh:Nat} {U:Nat->Kd} {tr:Tr Blk} {RV:List Sy} {N:List Nat} {k:AV->Hp->Prop}
def xJ(a b c d:Nat):IFn:=⟨[],sq [sq [.r [.n 11 2,.q 12 (.bin .eql (.t 11) (.c (.w 0)))],.cond (.t 12) (.ret) (.skip)],.r [.n 13 0,.n 14 1,.l 15 a [.t 13,.t 14]],sq [.r [.n 16 2,.q 17 (.bin .neq (.t 16) (.c (.w 4294967295)))],.cond (.t 17) (.r [.n 18 0,.n 19 2,.q 20 (.build [.h 0,.w 0,.j 0,.j 0] [(0,1,(.c (.h 84))),(1,1,(.t 19))]),.q 21 (.buildS 1 [.h 0,.w 0,.j 0,.j 0] [(0,4,(.t 20))]),.l 22 b [.t 18,.t 21]]) (.skip)],.r [.q 23 (.build [.j 0] []),.q 24 (.box (.t 23)),.n 10 24],.r [.n 25 0,.n 26 3,.n 27 10,.n 28 4,.l 29 c [.t 25,(.c (.h 21)),.t 26,.t 27,.t 28]],.r [.n 30 0,.n 31 10,.l 32 d [.t 30,.t 31]]]⟩
def qvR(hc:qc P f (xJ gl gp gj gh)=true)(h1:qc P gl (jA gp)=true)(h2:qc P gp ze=true)(h3:qc P gj (xL gp g)=true)(h4:qc P gh xK=true)
  (h:WI g w U s tr RV N) (a m v:Int) {X F:Nat} {p:Bool} (hX:U X = .lab F p) (hm:RV.length+3<=1000000)
  (hk:∀U' s' tr',Stp [] U s tr U' s' tr'->WI g w U' s' tr' (RV++qff a m v RV.length F) N->k (.tup []) ⟨s',0,tr'⟩):SC P f [.ptr w 0,.w a,.w m,.w v,.ptr X 0] ⟨s,0,tr⟩ k:=by
 refine SC.mk hc (qk ?_);simp only[xJ,vI,simprocAttr];unfold qff at hk
 by_cases m0:m=0
 .rw[if_pos m0]at hk;simp +decide only[↓vS,vT,simprocAttr,m0]
  grind[Stp.refl]
 rw[if_neg m0]at hk;simp +decide only[↓vS,vT,simprocAttr,m0];refine qlW h1 h2 h a (by omega) λU1 s1 t1 st1 w1=>?_
 by_cases m1:m=4294967295
 .rw[if_pos m1]at hk;simp +decide only[↓vS,vT,simprocAttr,m1];have w2:=w1.new (.lab (RV.length+2) false) _ (.inr (.inr (.inr ⟨_,rfl,rfl⟩)));have st2:=st1.trans (w1.stpLab (.lab (RV.length+2) false) (.v [.j 0]));refine qeS h3 h2 w2 ⟨21,v,RV.length+2,F⟩ qI (.inr ⟨(by decide:(21:Int)≠5),X,p,rfl,st2.lab X F p hX⟩) (by grind) λU3 s3 t3 st3 w3=>?_
  simp +decide only[↓vS,vT,simprocAttr]
  have hb:U3 s1 = .lab (RV++[(⟨32,a,0,0⟩:Sy)]++[(⟨21,v,RV.length+2,F⟩:Sy)]).length false:=by
   rw[st3.lab s1 _ _ qI];simp
  refine qaW h4 w3 hb λt4 q1 q2 w4=>?_
  simp +decide only[↓vS,vT,simprocAttr];rw[List.append_assoc]at w4;exact hk _ _ _ (((st2.trans st3)).kd h.dom st1.le q1 q2 (by simp)) w4
 .rw[if_neg m1]at hk;simp +decide only[↓vS,vT,simprocAttr,m1];refine qw2 h2 (w1.new .no _ (.inl rfl)) ⟨84,m,0,0⟩ (by rw[Tr.get_set,if_pos rfl];rfl) (by grind) λU2 s2 t2 st2 w2=>?_
  have w2:=w2.dropS rfl;have st2:=st1.trans ((w1.stpNew _ _ (by simp)).trans st2);simp +decide only[↓vS,vT,simprocAttr];have w3:=w2.new (.lab (RV.length+3) false) _ (.inr (.inr (.inr ⟨_,rfl,rfl⟩)));have st3:=st2.trans (w2.stpLab (.lab (RV.length+3) false) (.v [.j 0]));refine qeS h3 h2 w3 ⟨21,v,RV.length+3,F⟩ qI (.inr ⟨(by decide:(21:Int)≠5),X,p,rfl,st3.lab X F p hX⟩) (by grind) λU4 s4 t4 st4 w4=>?_
  simp +decide only[↓vS,vT,simprocAttr]
  have hb:U4 s2 = .lab (RV++[(⟨32,a,0,0⟩:Sy)]++[(⟨84,m,0,0⟩:Sy)]++[(⟨21,v,RV.length+3,F⟩:Sy)]).length false:=by
   rw[st4.lab s2 _ _ qI];simp
  refine qaW h4 w4 hb λt5 q1 q2 w5=>?_
  simp +decide only[↓vS,vT,simprocAttr];rw[List.append_assoc,List.append_assoc]at w5;exact hk _ _ _ ((st3.trans st4).kd h.dom st2.le q1 q2 (by simp)) w5
end
def qh0:IFn:=⟨[.tmp 4,.tmp 5],sq [.r [.m 4 (.c (.w 0)),.m 5 .F],sq [.r [.n 6 0,.w 7 .lss 6 0,.n 8 7,.z 9 0 8,.g 10 (.bin .gtr (.t 9) (.k 5)) 8 false,.o 11 8 10],.cond (.t 11) (sq [.r [.m 4 (.c (.w 0)),.m 5 .F],.ret]) (.skip)],.r [.n 12 0,.q 13 (.bin .mul (.k 8) (.t 12)),.q 14 (.bin .add (.k 16) (.t 13)),.n 15 1,.b 16 .add 14 15,.q 17 (.cvInt .u32 (.t 16)),.n 4 17,.m 5 .T],.ret]⟩
def qEo(hc:qc P f qh0=true)(a b:Int)(h0:0<=a)(h6:a<6)(hb0:0<=b)(hb:b<=4):qa P f [.j a,.j b] (.tup [.w (16+8*a+b),.b true]):=by
 refine qa.mk hc rfl ?_;have n1:¬a<0:=by omega
 have n2:¬5<a:=by omega
 have e1:IntKind.wrap .i64 (8*a)=8*a:=by grind[qm]
 have e2:IntKind.wrap .i64 (16+8*a)=16+8*a:=by grind[qm]
 have e3:IntKind.wrap .i64 (16+8*a+b)=16+8*a+b:=by grind[qm]
 have e4:IntKind.wrap .u32 (16+8*a+b)=16+8*a+b:=by grind[qeE]
 simp only[qh0,vI,simprocAttr];simp +decide only[↓vS,vT,simprocAttr,n1,n2,e1,e2,e3,e4];simp[vZ]
def qkr(a:Nat):IFn:=⟨[.tmp 2,.tmp 3],sq [.r [.m 2 (.c (.w 0)),.m 3 .F],.r [.n 4 0,.l 5 a [.t 4,.k 0],.x 6 5 0,.x 7 5 1,.n 2 6,.n 3 7],.ret]⟩
def qFM{g:Nat}(hc:qc P f (qkr g)=true)(hg:∀a b:Int,0<=a->a<6->0<=b->b<=4->qa P g [.j a,.j b] (.tup [.w (16+8*a+b),.b true]))(a:Int)(h0:0<=a)(h6:a<6):qa P f [.j a] (.tup [.w (16+8*a),.b true]):=by
 refine qa.mk hc rfl ?_;simp only[qkr,vI,simprocAttr];simp +decide only[↓vS,vT,simprocAttr];refine(hg a 0 h0 h6 (by omega) (by omega)).sc ?_;simp +decide only[↓vS,vT,simprocAttr];simp[vZ]
def qjd(a:Nat):IFn:=⟨[.tmp 2,.tmp 3],sq [.r [.m 2 (.c (.w 0)),.m 3 .F],.r [.n 4 0,.l 5 a [.t 4,.k 4],.x 6 5 0,.x 7 5 1,.n 2 6,.n 3 7],.ret]⟩
def qC5{g:Nat}(hc:qc P f (qjd g)=true)(hg:∀a b:Int,0<=a->a<6->0<=b->b<=4->qa P g [.j a,.j b] (.tup [.w (16+8*a+b),.b true]))(a:Int)(h0:0<=a)(h6:a<6):qa P f [.j a] (.tup [.w (16+8*a+4),.b true]):=by
 refine qa.mk hc rfl ?_;simp only[qjd,vI,simprocAttr];simp +decide only[↓vS,vT,simprocAttr];refine(hg a 4 h0 h6 (by omega) (by omega)).sc ?_;simp +decide only[↓vS,vT,simprocAttr];simp[vZ]
def qb3(t:GTest):Nat:=qef (loW t.mask)+qef (hiW t.mask)+1
def qjM(t:GTest)(p:Nat):List Sy :=
 qff (16+8*t.arg) (loW t.mask) (loW t.val) p (p+qb3 t)++qff (16+8*t.arg+4) (hiW t.mask) (hiW t.val) (p+qef (loW t.mask)) (p+qb3 t)++[⟨6,t.act,0,0⟩]
theorem qhI{t:GTest}{p:Nat}:(qjM t p).length=qb3 t:=by simp[qjM,qb3,qhz];omega
def qi9{m:Int}:qef m<=3:=by unfold qef;grind
theorem qqe{t:GTest}:qb3 t<=7:=by have:=qi9 (m:=loW t.mask);have:=qi9 (m:=hiW t.mask);unfold qb3;omega
structure TstOk (t:GTest):Prop where
 a0:0<=t.arg
 a1:t.arg<6
 m0:0<=t.mask
 m1:t.mask<18446744073709551616
 v0:0<=t.val
 v1:t.val<18446744073709551616
def qsN(P:Program)(f:Nat)(b:Int):Prop:=∀a:Int,0<=a->a<6->qa P f [.j a] (.tup [.w (16+8*a+b),.b true])
structure WFn (P:Program) (g gl gp gj gh gr:Nat):Prop where
 ld:qc P gl (jA gp)=true
 put:qc P gp ze=true
 jmp:qc P gj (xL gp g)=true
 here:qc P gh xK=true
 ret:qc P gr (qbc gp)=true
section
variable {g w s gl gp gj gh gr g1 g2 g3 g4 g5:Nat} {U:Nat->Kd} {tr:Tr Blk} {RV:List Sy} {N:List Nat} {k:AV->Hp->Prop}
def jB(a b c d e g:Nat):IFn:=⟨[],sq [.r [.q 3 (.box (.t 1))],.r [.q 13 (.build [.j 0] []),.q 14 (.box (.t 13)),.n 4 14],.r [.f 16 0 3,.d 17 16,.l 18 a [.t 17],.n 15 18,.x 19 15 0,.x 20 15 1,.n 5 19,.n 6 20],.r [.f 22 0 3,.d 23 22,.l 24 b [.t 23],.n 21 24,.x 25 21 0,.x 26 21 1,.n 7 25,.n 8 26],.r [.f 28 1 3,.d 29 28,.l 30 c [.t 29],.n 27 30,.x 31 27 0,.x 32 27 1,.n 9 31,.n 10 32],.r [.f 34 2 3,.d 35 34,.l 36 c [.t 35],.n 33 36,.x 37 33 0,.x 38 33 1,.n 11 37,.n 12 38],.r [.n 39 0,.n 40 5,.n 41 9,.n 42 11,.n 43 4,.l 44 d [.t 39,.t 40,.t 41,.t 42,.t 43]],.r [.n 45 0,.n 46 7,.n 47 10,.n 48 12,.n 49 4,.l 50 d [.t 45,.t 46,.t 47,.t 48,.t 49]],.r [.n 51 0,.f 52 3 3,.d 53 52,.l 54 e [.t 51,.t 53]],.r [.n 55 0,.n 56 4,.l 57 g [.t 55,.t 56]]]⟩
def qE9(hc:qc P f (jB g1 g2 g3 g4 gr gh)=true)(W:WFn P g gl gp gj gh gr)(c1:qsN P g1 0)(c2:qsN P g2 4)(c3:qyB P g3)(c4:qc P g4 (xJ gl gp gj gh)=true)
  (h:WI g w U s tr RV N) (t:GTest) (ht:TstOk t) (hm:RV.length+7<=1000000)
  (hk:∀U' s' tr',Stp [] U s tr U' s' tr'->WI g w U' s' tr' (RV++qjM t RV.length) N->k (.tup []) ⟨s',0,tr'⟩):SC P f [.ptr w 0,.agg (jD t)] ⟨s,0,tr⟩ k:=by
 refine SC.mk hc (qk ?_);simp only[jB,jD,vI,simprocAttr];simp +decide only[↓vS,vT,simprocAttr];have s1:¬s=s+1:=by omega
 have w1:=h.new .fr (.v [.j t.arg,.x t.mask,.x t.val,.w t.act]) (.inr (.inl rfl));have w2:=w1.new (.lab (RV.length+qb3 t) false) _ (.inr (.inr (.inr ⟨_,rfl,rfl⟩)));have st2:=(h.stpNew .fr (.v [.j t.arg,.x t.mask,.x t.val,.w t.act]) (by simp)).trans (w1.stpLab (.lab (RV.length+qb3 t) false) (.v [.j 0]));have hX:=qI (U:=kdS U s .fr) (b:=s+1) (x:=.lab (RV.length+qb3 t) false);have hf:kdS (kdS U s .fr) (s+1) (.lab (RV.length+qb3 t) false) s = .fr:=by rw[qj (by omega),qI]
 simp only[s1,↓vS,vT,simprocAttr];refine(c1 t.arg ht.a0 ht.a1).sc ?_;simp only[↓vS,vT,simprocAttr,s1];refine(c2 t.arg ht.a0 ht.a1).sc ?_;simp only[↓vS,vT,simprocAttr,s1];refine(c3 t.mask ht.m0 ht.m1).sc ?_;simp only[↓vS,vT,simprocAttr,s1];refine(c3 t.val ht.v0 ht.v1).sc ?_;simp only[↓vS,vT,simprocAttr,s1];refine qvR c4 W.ld W.put W.jmp W.here w2 _ _ _ hX (by omega) λU3 s3 t3 st3 w3=>?_
 simp only[↓vS,vT,simprocAttr];have l3:(RV++qff (16+8*t.arg+0) (loW t.mask) (loW t.val) RV.length (RV.length+qb3 t)).length=RV.length+qef (loW t.mask):=by rw[zzP,qhz]
 have n1:=qi9 (m:=loW t.mask);have n2:=qi9 (m:=hiW t.mask);refine qvR c4 W.ld W.put W.jmp W.here w3 _ _ _ (st3.lab _ _ _ hX) (by rw[l3];omega) λU4 s4 t4 st4 w4=>?_
 rw[l3]at w4
 have g4:t4.get s=some (.v [.j t.arg,.x t.mask,.x t.val,.w t.act]):=by
  rw[((st3.trans st4).fr s hf).2,Tr.get_set,if_neg (by omega),Tr.get_set,if_pos rfl]
 simp only[↓vS,vT,simprocAttr,g4];refine qnk W.ret W.put w4 t.act (by grind[qhz]) λU5 s5 t5 st5 w5=>?_
 simp only[↓vS,vT,simprocAttr]
 have e5:RV++qff (16+8*t.arg+0) (loW t.mask) (loW t.val) RV.length (RV.length+qb3 t)++qff (16+8*t.arg+4) (hiW t.mask) (hiW t.val) (RV.length+qef (loW t.mask)) (RV.length+qb3 t)++[⟨6,t.act,0,0⟩]=RV++qjM t RV.length:=by
  simp[qjM]
 rw[e5]at w5;refine qaW W.here w5 (p:=false) (by rw[zzP,qhI];exact((st3.trans st4).trans st5).lab _ _ _ hX) λt6 q1 q2 w6=>?_
 simp only[↓vS,vT,simprocAttr];exact hk _ _ _ ((((st2.trans st3).trans st4).trans st5).kd h.dom (by omega) q1 q2 (by simp)) w6
end
def qd5:List GTest->Int->Nat->List Sy
 | [],a,_=>[⟨6,a,0,0⟩]
 | t::ts,a,p=>qjM t p++if t.mask=0 then []else qd5 ts a (p+qb3 t)
def qxs(r:GRule)(p:Nat):List Sy:=qd5 r.tests r.act p
section
variable {g w s gl gp gj gh gr g1 g2 g3 g4 g5:Nat} {U:Nat->Kd} {tr:Tr Blk} {RV:List Sy} {N:List Nat} {k:AV->Hp->Prop}
def qaX(a b:Nat):IFn:=⟨[],sq [.r [.q 3 (.box (.t 1))],sq [.r [.f 6 1 3,.d 7 6,.e 8 7,.m 9 (.k 0)],.blk 0 (.loop (sq [.r [.s 10 9 8],.cond (.t 10) (.skip) (.exit 0),.blk 1 (sq [.r [.i 11 4 7 9,.v 12 4 11,.q 5 (.alloc [.j 0,.x 0,.x 0,.w 0]),.u (.store 4 (.t 5) (.t 12))],.r [.n 13 0,.v 14 4 5,.l 15 a [.t 13,.t 14]],.r [.f 16 1 5,.d 17 16,.q 18 (.bin .eql (.t 17) (.c (.x 0)))],.cond (.t 18) (.ret) (.skip)]),.r [.a 19 9 1,.n 9 19]]))],.r [.n 20 0,.f 21 2 3,.d 22 21,.l 23 b [.t 20,.t 22]]]⟩
def qEM(hc:qc P f (qaX g5 gr)=true)(W:WFn P g gl gp gj gh gr)(h5:qc P g5 (jB g1 g2 g3 g4 gr gh)=true)(c1:qsN P g1 0)(c2:qsN P g2 4)(c3:qyB P g3)(c4:qc P g4 (xJ gl gp gj gh)=true)
  (h:WI g w U s tr RV N) (r:GRule) (ht:∀t ∈ r.tests,TstOk t) (hm:RV.length+r.tests.length*7+1<=1000000)
  (hk:∀U' s' tr',Stp [] U s tr U' s' tr'->WI g w U' s' tr' (RV++qxs r RV.length) N->k (.tup []) ⟨s',0,tr'⟩):SC P f [.ptr w 0,.agg (zw r)] ⟨s,0,tr⟩ k:=by
 refine SC.mk hc (qk ?_);simp only[qaX,zw,vI,simprocAttr];simp +decide only[↓vS,vT,simprocAttr];have w1:=h.new .fr (.v [.w r.nr,.fz r.tests.length (rT r.tests),.w r.act]) (.inr (.inl rfl));have st1:=h.stpNew .fr (.v [.w r.nr,.fz r.tests.length (rT r.tests),.w r.act]) (by simp)
 refine SL.loopP (α:=Nat) (λi=>[(0,.ptr w 0),(3,.ptr s 0),(7,.fz r.tests.length (rT r.tests)),(8,.j (r.tests.length:Int)),(9,.j (i:Int))])
  (λi h=>i<=r.tests.length/\∃U' s' tr' RV',h=⟨s',0,tr'⟩/\Stp [] (kdS U s .fr) (s+1) (tr.set s (.v [.w r.nr,.fz r.tests.length (rT r.tests),.w r.act])) U' s' tr'/\WI g w U' s' tr' RV' N /\
   RV'++qd5 (r.tests.drop i) r.act RV'.length=RV++qxs r RV.length/\RV'.length<=RV.length+i*7) (λi=>r.tests.length-i) ?_ 0 ?_ ?_
 .rintro i h1 ⟨hi,U',s',tr',RV',rfl,st,w',he,hl⟩ G ih;simp only[vI,simprocAttr]
  have gs:tr'.get s=some (.v [.w r.nr,.fz r.tests.length (rT r.tests),.w r.act]):=by
   rw[(st.fr s qI).2,Tr.get_set,if_pos rfl]
  by_cases hlt:i<r.tests.length
  .have hlt':(i:Int)<r.tests.length:=by omega
   obtain⟨t,hti⟩:∃t,r.tests[i]?=some t:=⟨_,zzE hlt⟩;have hel:=qse hti;have h4:i*4+4<=(rT r.tests).length:=by rw[qeY];omega
   have hd:r.tests.drop i=t::r.tests.drop (i+1):=by rw[<- (zzS.1 hti).2,List.getElem_cons_drop]
   rw[hd]at he;have hw1:IntKind.wrap .i64 ((i:Int)+1)=((i+1:Nat):Int):=by rw[qm (by omega) (by omega)];simp
   simp +decide only[↓vS,vT,simprocAttr,hlt',hlt,h4,hel,jD];have wa:=w'.new .fr (.v [.j 0,.x 0,.x 0,.w 0]) (.inr (.inl rfl));have wb:=wa.chg (b:=s') .fr (.v (jD t)) (.inl qI) (by omega) (.inr (.inl rfl));refine qE9 h5 W c1 c2 c3 c4 wb t (by grind) (by omega) λU2 s2 t2 st2 w2=>?_
   have fb:=st2.fr s' qI
   have gb:t2.get s'=some (.v [.j t.arg,.x t.mask,.x t.val,.w t.act]):=by
    rw[fb.2,Tr.get_set,if_pos rfl];rfl
   have ss:s<s':=by have:=st.le;omega
   have st3:Stp [] U' s' tr' U2 s2 t2:=by
    refine Stp.trans (L:=[]) ?_ st2;refine⟨by omega,λb hb=>?_,λb hb=>?_,λb F p hb=>?_,λb F hb=>.inl ?_⟩
    rotate_left 3
    .simp only[kdS]at hb
     repeat' split at hb
     all_goals first|(cases hb;done)|exact hb
    all_goals have hbs:b<s':=w'.dom b (by rw[hb];simp)
    all_goals grind[qj,Tr.get_set]
   simp +decide only[↓vS,vT,simprocAttr,gb];unfold qd5 at he
   by_cases hm0:t.mask=0
   .rw[if_pos hm0,List.append_nil]at he;simp +decide only[↓vS,vT,simprocAttr,hm0];rw[he]at w2;exact hk _ _ _ (st1.trans (st.trans st3)) w2
   .rw[if_neg hm0]at he;simp +decide only[↓vS,vT,simprocAttr,hm0,hw1];refine ih (i+1) _ _ (by omega) ?_ ⟨by omega,U2,s2,t2,_,rfl,st.trans st3,w2,?_,?_⟩
    .simp[qh,ql,Tr.get_set]
    all_goals grind[qhI,qqe]
  .obtain rfl:i=r.tests.length:=by omega
   have hlt':¬((r.tests.length:Int)<r.tests.length):=by omega
   rw[List.drop_length]at he;simp +decide only[↓vS,vT,simprocAttr,hlt',gs];refine qnk W.ret W.put w' r.act (by omega) λU2 s2 t2 st2 w2=>?_
   simp +decide only[↓vS,vT,simprocAttr];unfold qd5 at he;rw[he]at w2;exact hk _ _ _ (st1.trans (st.trans st2)) w2
 .simp[qh,ql,Tr.get_set]
 .exact⟨Nat.zero_le _,_,_,_,RV,rfl,.refl,w1,rfl,by simp⟩
end
def qdZ(a:Int):Nat:=if a=0 then 4 else if a=2 then 4 else 3
def qc3(a:Int)(p F:Nat):List Sy :=
 [⟨32,4,0,0⟩,⟨21,qe2 a,p+2,F⟩,⟨32,0,0,0⟩]++if a=0 then [⟨69,1073741824,F,p+4⟩]else if a=2 then [⟨69,1073741824,p+4,F⟩]else []
theorem qcH{a:Int}{p F:Nat}:(qc3 a p F).length=qdZ a:=by unfold qc3 qdZ;grind
def qrW{a:Int}:qdZ a<=4:=by unfold qdZ;grind
def qqz(P:Program)(f:Nat):Prop:=∀a:Int,0<=a->a<6->qa P f [.j a] (.tup [.w (qe2 a),.j 0])
section
variable {g w s gl gp gj gh gr g1 g2 g3 g4 g5:Nat} {U:Nat->Kd} {tr:Tr Blk} {RV:List Sy} {N:List Nat} {k:AV->Hp->Prop}
def qbb(a b c d:Nat):IFn:=⟨[],sq [.r [.q 10 (.build [.j 0] []),.q 11 (.box (.t 10)),.q 12 (.build [.j 0] []),.q 13 (.box (.t 12)),.n 6 11,.n 7 13],.r [.n 15 1,.l 16 a [.t 15],.n 14 16,.x 17 14 0,.x 18 14 1,.n 8 17,.n 9 18],.r [.n 19 0,.l 20 b [.t 19,(.c (.w 4))]],.r [.n 21 0,.n 22 8,.n 23 6,.n 24 2,.l 25 c [.t 21,(.c (.h 21)),.t 22,.t 23,.t 24]],.r [.n 26 0,.n 27 6,.l 28 d [.t 26,.t 27]],.r [.n 29 0,.l 30 b [.t 29,(.c (.w 0))]],sq [.r [.n 31 1],.blk 0 (sq [.r [.w 33 .eql 31 0,.n 32 33],.cond (.t 32) (.r [.n 34 0,.n 35 2,.n 36 7,.l 37 c [.t 34,(.c (.h 69)),(.c (.w 1073741824)),.t 35,.t 36]]) (sq [.r [.w 39 .eql 31 2,.n 38 39],.cond (.t 38) (.r [.n 40 0,.n 41 7,.n 42 2,.l 43 c [.t 40,(.c (.h 69)),(.c (.w 1073741824)),.t 41,.t 42]]) (.skip)])])],.r [.n 44 0,.n 45 7,.l 46 d [.t 44,.t 45]]]⟩
def qHH(hc:qc P f (qbb g1 gl gj gh)=true)(W:WFn P g gl gp gj gh gr)(c1:qqz P g1)
  (h:WI g w U s tr RV N) (a:Int) (h0:0<=a) (h6:a<6) {X F:Nat} {p:Bool} (hX:U X = .lab F p) (hm:RV.length+4<=1000000)
  (hk:∀U' s' tr',Stp [] U s tr U' s' tr'->WI g w U' s' tr' (RV++qc3 a RV.length F) N->k (.tup []) ⟨s',0,tr'⟩):SC P f [.ptr w 0,.j a,.ptr X 0] ⟨s,0,tr⟩ k:=by
 refine SC.mk hc (qk ?_);simp only[qbb,vI,simprocAttr];simp +decide only[↓vS,vT,simprocAttr];have w1:=h.new (.lab (RV.length+2) false) _ (.inr (.inr (.inr ⟨_,rfl,rfl⟩)));have w2:=w1.new (.lab (RV.length+qdZ a) false) _ (.inr (.inr (.inr ⟨_,rfl,rfl⟩)));have st2:=(h.stpLab (.lab (RV.length+2) false) (.v [.j 0])).trans (w1.stpLab (.lab (RV.length+qdZ a) false) (.v [.j 0]));have hon:kdS (kdS U s (.lab (RV.length+2) false)) (s+1) (.lab (RV.length+qdZ a) false) s = .lab (RV.length+2) false:=by rw[qj (by omega),qI]
 have hbit:=qI (U:=kdS U s (.lab (RV.length+2) false)) (b:=s+1) (x:=.lab (RV.length+qdZ a) false);have hX2:=st2.lab X F p hX;have hXs:X<s:=h.dom X (by rw[hX];simp);refine(c1 a h0 h6).sc ?_;simp only[↓vS,vT,simprocAttr];refine qlW W.ld W.put w2 4 (by omega) λU3 s3 t3 st3 w3=>?_
 simp only[↓vS,vT,simprocAttr];refine qeS W.jmp W.put w3 ⟨21,qe2 a,RV.length+2,F⟩ (st3.lab _ _ _ hon) (.inr ⟨(by decide:(21:Int)≠5),X,p,rfl,st3.lab _ _ _ hX2⟩) (by grind) λU4 s4 t4 st4 w4=>?_
 simp only[↓vS,vT,simprocAttr];have st34:=st3.trans st4;refine qaW W.here w4 (p:=false) (b:=s) (by rw[st34.lab _ _ _ hon];simp) λt5 q1 q2 w5=>?_
 simp only[↓vS,vT,simprocAttr];have st5:=(st2.trans st34).kd h.dom (zzL s) (F':=(RV++[(⟨32,4,0,0⟩:Sy)]++[(⟨21,qe2 a,RV.length+2,F⟩:Sy)]).length) (L':=[s+1]) q1 q2 (by simp);refine qlW W.ld W.put w5 0 (by grind) λU6 s6 t6 st6 w6=>?_
 simp only[↓vS,vT,simprocAttr];have hX6:U6 X = .lab F p:=(st5.trans st6).lab _ _ _ hX;have hb6:U6 (s+1) = .lab (RV.length+qdZ a) false:=st6.lab _ _ _ (by rw[qj (by omega)];exact st34.lab _ _ _ hbit)
 have st56:=st5.trans st6
 by_cases a0:a=0
 .subst a0;simp +decide only[↓vS,vT,simprocAttr];refine qeS W.jmp W.put w6 ⟨69,1073741824,F,RV.length+4⟩ hX6 (.inr ⟨(by decide:(69:Int)≠5),s+1,false,rfl,hb6⟩) (by grind) λU7 s7 t7 st7 w7=>?_
  simp only[↓vS,vT,simprocAttr];refine qaW W.here w7 (p:=false) (by rw[st7.lab _ _ _ hb6];simp[qdZ]) λt8 q1 q2 w8=>?_
  simp only[↓vS,vT,simprocAttr];have e:RV++[⟨32,4,0,0⟩]++[⟨21,qe2 0,RV.length+2,F⟩]++[⟨32,0,0,0⟩]++[⟨69,1073741824,F,RV.length+4⟩]=RV++qc3 0 RV.length F:=by simp[qc3]
  rw[e]at w8;exact hk _ _ _ ((st56.trans st7).kd h.dom (by omega) q1 q2 (by simp)) w8
 .by_cases a2:a=2
  .subst a2;simp +decide only[↓vS,vT,simprocAttr];refine qeS W.jmp W.put w6 ⟨69,1073741824,RV.length+4,F⟩ hb6 (by simp_all) (by grind) λU7 s7 t7 st7 w7=>?_
   simp only[↓vS,vT,simprocAttr];refine qaW W.here w7 (p:=false) (by rw[st7.lab _ _ _ hb6];simp[qdZ]) λt8 q1 q2 w8=>?_
   simp only[↓vS,vT,simprocAttr];have e:RV++[⟨32,4,0,0⟩]++[⟨21,qe2 2,RV.length+2,F⟩]++[⟨32,0,0,0⟩]++[⟨69,1073741824,RV.length+4,F⟩]=RV++qc3 2 RV.length F:=by simp[qc3]
   rw[e]at w8;exact hk _ _ _ ((st56.trans st7).kd h.dom (by omega) q1 q2 (by simp)) w8
  .simp +decide only[↓vS,vT,simprocAttr,a0,a2];refine qaW W.here w6 (p:=false) (by rw[hb6];simp[qdZ,a0,a2]) λt8 q1 q2 w8=>?_
   simp only[↓vS,vT,simprocAttr];have e:RV++[⟨32,4,0,0⟩]++[⟨21,qe2 a,RV.length+2,F⟩]++[⟨32,0,0,0⟩]=RV++qc3 a RV.length F:=by simp[qc3,a0,a2]
   rw[e]at w8
   grind[Stp.kd,WI.dom]
end
structure Nd where
 leaf:Bool
 way:Nat
 at':Int
 less:Nat
 more:Nat
def cNd(n:Nd):List AV:=[.b n.leaf,.j (n.way:Int),.w n.at',.j (n.less:Int),.j (n.more:Int)]
def qkW(n:Nd):(cNd n).length=5:=rfl
def rNd(l:List Nd):List AV:=l.flatMap cNd
def qlb{l:List Nd}:(rNd l).length=l.length*5:=qV qkW l
def jo(T:List Nd):Nat:=T.countP λn=>!n.leaf
def plc(FW:Nat->Nat)(T:List Nd)(b i:Nat):Nat:=match T[i]? with|some n=>if n.leaf=true then FW n.way else b+jo (T.take i)|none=>0
def qmC(FW:Nat->Nat)(T:List Nd)(b:Nat)(n:Nd):List Sy:=if n.leaf=true then []else [⟨53,n.at',plc FW T b n.more,plc FW T b n.less⟩]
def brE(FW:Nat->Nat)(T:List Nd)(b:Nat)(l:List Nd):List Sy:=l.flatMap (qmC FW T b)
def qrn{FW:Nat->Nat}{T:List Nd}{b:Nat}{l:List Nd}:(brE FW T b l).length=jo l:=by
 induction l with
 | nil=>rfl
 | cons n l ih =>
  simp only[brE,List.flatMap_cons,zzP,jo,List.countP_cons]at ih ⊢;rw[ih];unfold qmC;cases n.leaf<;>simp;omega
def jaE(FW:Nat->Nat):List Nd->List Sy
 | n::_=>if n.leaf=true then [⟨5,0,FW n.way,0⟩]else []
 | []=>[]
def jM(FW:Nat->Nat)(T:List Nd)(p:Nat):List Sy:=jaE FW T++brE FW T (p+(jaE FW T).length) T
structure NdOk (m n:Nat) (x:Nd):Prop where
 way:x.leaf=true->x.way<m
 less:x.less<n
 more:x.more<n
def rPt(l:List Nat):List AV:=l.map λb=>.ptr b 0
def qfS{l:List Nat}{j:Nat}:(rPt l)[j]?=(l[j]?).map λb=>.ptr b 0:=by simp[rPt]
theorem qhG{l:List Nat}:(rPt l).length=l.length:=by simp[rPt]
section
variable {g w s gl gp gj gh gr g1 g2 g3 g4 g5:Nat} {U:Nat->Kd} {tr:Tr Blk} {RV:List Sy} {N:List Nat} {k:AV->Hp->Prop}
def WI.congr{t2:Tr Blk}(h:WI g w U s tr RV N)(e:∀b,t2.get b=tr.get b):WI g w U s t2 RV N:=by
 obtain⟨bl,bt,cs,js,r1,r2,r3,r4,r5,r6,r7,r8,r9⟩:=h.rows;exact⟨h.dom,⟨bl,bt,cs,js,r1,r2,r3,(e w).trans r4,(e bl).trans r5,(e bt).trans r6,r7.mono (by simp_all) (by simp_all) (λ_ _ q=>q),r8,r9⟩,λb F p hb=>by rw[e b];exact h.lab b F p hb⟩
def Stp.congr{L:List Nat}{U1:Nat->Kd}{s1:Nat}{t1 t2:Tr Blk}(h:Stp L U s tr U1 s1 t1)(e:∀b,t2.get b=t1.get b):Stp L U s tr U1 s1 t2 :=
 ⟨h.le,by grind[Stp.fr],by grind[Stp.box],h.lab,h.nw⟩
def qpi{t:Tr Blk}{b:Nat}{x y:Blk}(c:Nat):((t.set b x).set b y).get c=(t.set b y).get c:=by
 simp_all[Tr.get_set]
def WI.var(h:WI g w U s tr RV N)(x y:Blk):WI g w (kdS U s .fr) (s+1) ((tr.set s x).set s y) RV N/\Stp [] U s tr (kdS U s .fr) (s+1) ((tr.set s x).set s y) :=
 ⟨(h.new .fr y (.inr (.inl rfl))).congr qpi,(h.stpNew .fr y (by simp)).congr qpi⟩
theorem Stp.nil{L:List Nat}{U1:Nat->Kd}{s1:Nat}{t1:Tr Blk}(h:Stp L U s tr U1 s1 t1)(hL:∀c,c ∉ L):Stp [] U s tr U1 s1 t1 :=
 { h with nw:=λb F hb=>(h.nw b F hb).imp id (by simp_all) }
def qbu{α:Type}{l:List α}{j:Nat}{x:α}(h:l[j]?=some x):l.take (j+1)=l.take j++[x]:=by rw[List.take_add_one,h];rfl
def qpU{T:List Nd}{j:Nat}{x:Nd}(h:T[j]?=some x):((rNd T).drop (j*5)).take 5=cNd x:=qG qkW h
def qAe{T:List Nd}{j:Nat}{x:Nd}(h:T[j]?=some x){i:Nat}(hi:i<5):(rNd T)[j*5+i]?=(cNd x)[i]?:=qbE qkW h hi
def jw(a b:Nat):ICode:=sq [.r [.n 46 1,.e 47 46,.m 48 (.k 0)],.blk 2 (.loop (sq [.r [.s 49 48 47],.cond (.t 49) (.skip) (.exit 2),.blk 3 (sq [.r [.n 50 48,.i 51 5 46 48,.v 52 5 51,.q 10 (.alloc [.b false,.j 0,.w 0,.j 0,.j 0]),.n 9 50,.u (.store 5 (.t 10) (.t 52))],.r [.f 53 0 10,.d 54 53,.q 55 (.un .not (.t 54))],.cond (.t 55) (sq [.r [.n 56 0,.n 57 6,.n 58 9,.i 59 1 57 58,.d 60 59,.l 61 b [.t 56,.t 60]],.reg true [.n 62 0,.f 63 2 10,.d 64 63,.n 65 6,.f 66 4 10,.d 67 66,.i 68 1 65 67,.d 69 68,.n 70 6,.f 71 3 10,.d 72 71,.i 73 1 70 72,.d 74 73,⟨(some 75),.callW a [.t 62,(.c (.h 53)),.t 64,.t 69,.t 74],none⟩]]) (.skip)]),.r [.a 76 48 1,.n 48 76]]))]
def jv(a b:Nat):ICode:=sq [sq [.r [.n 37 1,.q 38 (.iAddrS 5 (.t 37) (.k 0)),.f 39 0 38,.d 40 39],.cond (.t 40) (.r [.n 41 0,.n 42 6,.q 43 (.iAddrS 1 (.t 42) (.k 0)),.d 44 43,⟨(some 45),.callW a [.t 41,(.c (.h 5)),(.c (.w 0)),.t 44,(.c (.nilp))],none⟩]) (.skip)],.cut (jw a b)]
def qab(a b:Nat):IFn:=⟨[],sq [.r [.n 11 1,.e 12 11,.q 13 (.mkS 1 8 [.nilp] (.t 12) (.t 12)),.n 6 13],sq [.r [.n 14 1,.e 15 14,.m 16 (.k 0)],.blk 0 (.loop (sq [.r [.s 17 16 15],.cond (.t 17) (.skip) (.exit 0),.blk 1 (sq [.r [.n 18 16,.i 19 5 14 16,.v 20 5 19,.q 8 (.alloc [.b false,.j 0,.w 0,.j 0,.j 0]),.n 7 18,.u (.store 5 (.t 8) (.t 20))],.r [.n 21 6,.n 22 7,.q 23 (.build [.j 0] []),.q 24 (.box (.t 23)),.i 25 1 21 22,.u (.store 1 (.t 25) (.t 24))],.r [.f 26 0 8,.d 27 26],.cond (.t 27) (.r [.n 28 6,.n 29 7,.n 30 2,.f 31 1 8,.d 32 31,.i 33 1 30 32,.d 34 33,.i 35 1 28 29,.u (.store 1 (.t 35) (.t 34))]) (.skip)]),.r [.a 36 16 1,.n 16 36]]))],.cut (jv a b)]⟩
def qmK{n0 m s1 bp:Nat}{t1:Tr Blk}{U1:Nat->Kd}{L:List Nat}(W:WFn P g gl gp gj gh gr)(T:List Nd)(hok:∀x ∈ T,NdOk m T.length x)(FW:Nat->Nat)(pl:List Nat)(hpl:pl.length=T.length)
  (h:WI g w U1 s1 t1 RV N) (st:Stp L U s tr U1 s1 t1) (hd:∀b,U b≠.no->b<s) (hkl:∀(j:Nat) c,pl[j]?=some c->∃p,U1 c = .lab (plc FW T RV.length j) p)
  (hL:∀c ∈ L,∃(j:Nat) (nd:Nd),T[j]?=some nd/\nd.leaf=false/\pl[j]?=some c) (hnew:∀(j:Nat) c nd,T[j]?=some nd->nd.leaf=false->pl[j]?=some c->s<=c) (hbp:U1 bp = .fr) (gbp:t1.get bp=some (.v (rPt pl)))
  (hm:RV.length+T.length<=1000000) {t:Tr AV} (ht:Has t [(0,.ptr w 0),(1,.fz T.length (rNd T)),(6,.sl bp 0 T.length T.length false)])
  (hk:∀U' s' tr',Stp [] U s tr U' s' tr'->WI g w U' s' tr' (RV++brE FW T RV.length T) N->k (.tup []) ⟨s',0,tr'⟩):S P n0 (jw gj gh) (xk [] k) t ⟨s1,0,t1⟩:=by
 refine S.has _ ht (qk ?_);simp only[jw,vI,simprocAttr];simp +decide only[↓vS,vT,simprocAttr]
 refine SL.loopP (α:=Nat) (λi=>[(0,.ptr w 0),(6,.sl bp 0 T.length T.length false),(46,.fz T.length (rNd T)),(47,.j (T.length:Int)),(48,.j (i:Int))])
  (λi h=>i<=T.length/\∃L' U' s' tr',h=⟨s',0,tr'⟩/\Stp L' U s tr U' s' tr'/\WI g w U' s' tr' (RV++brE FW T RV.length (T.take i)) N/\(∀(j:Nat) c,pl[j]?=some c->∃p,U' c = .lab (plc FW T RV.length j) p) /\
   (∀c ∈ L',∃(j:Nat) (nd:Nd),i<=j/\T[j]?=some nd/\nd.leaf=false/\pl[j]?=some c)/\U' bp = .fr/\tr'.get bp=some (.v (rPt pl))) (λi=>T.length-i) ?_ 0 ?_ ?_
 .rintro i h1 ⟨hi,L',U',s',tr',rfl,st',w',hkl',hL',hbp',gbp'⟩ G ih;simp only[vI,simprocAttr]
  by_cases hlt:i<T.length
  .have hlt':(i:Int)<T.length:=by omega
   obtain⟨nd,hnd⟩:∃t,T[i]?=some t:=⟨_,zzE hlt⟩;obtain⟨c,hc⟩:∃t,pl[i]?=some t:=⟨_,zzE (by omega)⟩;have hel:=qpU hnd;have h5:i*5+5<=(rNd T).length:=by rw[qlb];omega
   have hw1:IntKind.wrap .i64 ((i:Int)+1)=((i+1:Nat):Int):=by rw[qm (by omega) (by omega)];simp
   have hbs:bp<s':=w'.dom bp (by rw[hbp'];simp);have hbs':¬bp=s':=by omega
   obtain⟨wv,sv⟩:=w'.var (.v [.b false,.j 0,.w 0,.j 0,.j 0]) (.v (cNd nd));have hbpv:=sv.fr bp hbp';have hklv:∀(j:Nat) c,pl[j]?=some c->∃p,kdS U' s' .fr c = .lab (plc FW T RV.length j) p:=λj c hj=>let ⟨p,q⟩:=hkl' j c hj;⟨p,sv.lab c _ p q⟩
   have hok':=hok nd (by grind);have hge:(rPt pl)[i]?=some (.ptr c 0):=by rw[qfS,hc];rfl
   have hts:=qbu hnd;cases hl:nd.leaf with
   | true =>
    simp +decide only[↓vS,vT,simprocAttr,hlt',hlt,h5,hel,cNd,hl,hw1];refine ih (i+1) _ _ (by omega) ?_ ⟨by omega,L',kdS U' s' .fr,s'+1,_,rfl,?_,?_,hklv,?_,hbpv.1,?_⟩
    .simp[qh,ql,Tr.get_set]
    .have:=st'.trans sv;simp only[cNd,hl,List.append_nil]at this;omega
    .rw[hts];have:brE FW T RV.length (T.take i++[nd])=brE FW T RV.length (T.take i):=by simp[brE,qmC,hl]
     rw[this];simp only[cNd,hl]at wv;exact wv
    .grind
    .have:=hbpv.2.trans gbp';simp only[cNd,hl]at this;omega
   | false =>
    simp only[cNd,hl]at wv sv
    have hpi:plc FW T RV.length i=(RV++brE FW T RV.length (T.take i)).length:=by
     rw[zzP,qrn];simp[plc,hnd,hl]
    obtain⟨pc,hpc⟩:=hklv i c hc;rw[hpi]at hpc;simp +decide only[↓vS,vT,simprocAttr,hlt',hlt,h5,hel,cNd,hl,hw1,hbs',gbp',hge,zzU];refine qaW W.here wv hpc λt4 q1 q2 w4=>?_
    have hsv:kdS U' s' .fr s' = .fr:=qI;have g4:=q1 s' hsv;rw[Tr.get_set,if_pos rfl]at g4;have g5:=(q1 bp hbpv.1).trans (sv.fr bp hbp').2;rw[gbp']at g5;obtain⟨cm,hcm⟩:∃t,pl[nd.more]?=some t:=⟨_,zzE (by rw[hpl];exact hok'.more)⟩;obtain⟨cl,hcl⟩:∃t,pl[nd.less]?=some t:=⟨_,zzE (by rw[hpl];exact hok'.less)⟩;have gm:(rPt pl)[nd.more]?=some (.ptr cm 0):=by rw[qfS,hcm];rfl
    have gl':(rPt pl)[nd.less]?=some (.ptr cl 0):=by rw[qfS,hcl];rfl
    have hcs:s<=c:=by grind
    -- the labels are zy before,but this one has its place
    have hkl4:∀(j:Nat) c',pl[j]?=some c'->∃p,kdS (kdS U' s' .fr) c (.lab (RV++brE FW T RV.length (T.take i)).length true) c' = .lab (plc FW T RV.length j) p:=λj c' hj=>by
     obtain⟨p,hp⟩:=hklv j c' hj
     by_cases e:c'=c
     .rw[e]at hp;have hF:=(Kd.lab.inj (hpc.symm.trans hp)).1;exact⟨true,by rw[e,qI,hF]⟩
     grind[qj]
    have hbpc:bp≠c:=λe=>by rw[<- e,hbpv.1]at hpc;grind
    have st4:Stp (L'.filter λx=>decide (x≠c)) U s tr (kdS (kdS U' s' .fr) c (.lab (RV++brE FW T RV.length (T.take i)).length true)) (s'+1) t4 :=
     (st'.trans sv).kd hd hcs q1 q2 λx hx=>by
      grind
    obtain⟨pm,hpm⟩:=hkl4 _ _ hcm;obtain⟨pq,hpq⟩:=hkl4 _ _ hcl
    obtain⟨U5,s5,t5,st5,w5,hj5⟩:=qv7 W.jmp W.put w4 ⟨53,nd.at',plc FW T RV.length nd.more,plc FW T RV.length nd.less⟩ hpm (.inr ⟨(by decide:(53:Int)≠5),cl,pq,rfl,hpq⟩) (by
     rw[<- hpi];have:jo (T.take i)<=T.length:=Nat.le_trans List.countP_le_length (by rw[List.length_take];omega);simp only[plc,hnd,hl];grind)
    have hmT:nd.more<T.length:=hok'.more;have hlT:nd.less<T.length:=hok'.less;have hb4:=st5.fr bp (by rw[qj hbpc];grind);simp +decide only[↓vS,vT,simprocAttr];refine zg ?_;simp +decide only[↓vS,vT,simprocAttr,g4,g5,gm,gl',hmT,hlT,zzU];refine⟨.tup [],_,hj5,?_⟩;simp +decide only[↓vS,vT,simprocAttr,hw1];refine ih (i+1) _ _ (by omega) ?_ ⟨by omega,_,U5,s5,t5,rfl,st4.trans st5,?_,λj c' hj=>?_,?_,hb4.1,hb4.2.trans g5⟩
    .simp[qh,ql,Tr.get_set]
    .rw[hts];have:brE FW T RV.length (T.take i++[nd])=brE FW T RV.length (T.take i)++[⟨53,nd.at',plc FW T RV.length nd.more,plc FW T RV.length nd.less⟩]:=by simp[brE,qmC,hl]
     rw[this,<- List.append_assoc];exact w5
    .obtain⟨p,hp⟩:=hkl4 j c' hj;exact⟨p,st5.lab _ _ _ hp⟩
    .intro c' hc';rw[List.append_nil,List.mem_filter,decide_eq_true_eq]at hc';obtain⟨j,nd',q1,q2,q3,q4⟩:=hL' c' hc'.1
     grind
  .obtain rfl:i=T.length:=by omega
   have hlt':¬((T.length:Int)<T.length):=by omega
   simp +decide only[↓vS,vT,simprocAttr,hlt'];rw[List.take_length]at w'
   grind[Stp.nil]
 .simp[qh,ql,Tr.get_set]
 .refine⟨Nat.zero_le _,L,U1,s1,t1,rfl,st,?_,hkl,λc hc=>?_,hbp,gbp⟩
  .simpa[brE]using h
  simp_all
def Stp.mod{L:List Nat}{U1:Nat->Kd}{s1:Nat}{t1:Tr Blk}(h:Stp L U s tr U1 s1 t1)(hd:∀b,U b≠.no->b<s){b:Nat}(hb:s<=b)(x:Blk):Stp L U s tr (kdS U1 b .fr) s1 (t1.set b x):=by
 have ne:∀{c},U c≠.no->c≠b:=by grind
 refine⟨h.le,λc hc=>?_,λc hc=>?_,λc F p hc=>?_,λc F hc=>?_⟩
 .have e:=ne (c:=c) (by rw[hc];simp);rw[qj e,Tr.get_set,if_neg e];exact h.fr c hc
 .have e:=ne (c:=c) (by rw[hc];simp);rw[qj e,Tr.get_set,if_neg e];exact h.box c hc
 .rw[qj (by simp_all)];exact h.lab c F p hc
 grind[qI,qj,Stp.nw]
def qsK{n0 m s1 bp:Nat}{t1:Tr Blk}{U1:Nat->Kd}{L:List Nat}(W:WFn P g gl gp gj gh gr)(T:List Nd)(hT:T≠[])(hok:∀x ∈ T,NdOk m T.length x)(FW:Nat->Nat)(pl:List Nat)(hpl:pl.length=T.length)
  (h:WI g w U1 s1 t1 RV N) (st:Stp L U s tr U1 s1 t1) (hd:∀b,U b≠.no->b<s) (hkl:∀(j:Nat) c,pl[j]?=some c->∃p,U1 c = .lab (plc FW T (RV.length+(jaE FW T).length) j) p)
  (hL:∀c ∈ L,∃(j:Nat) (nd:Nd),T[j]?=some nd/\nd.leaf=false/\pl[j]?=some c) (hnew:∀(j:Nat) c nd,T[j]?=some nd->nd.leaf=false->pl[j]?=some c->s<=c) (hbp:U1 bp = .fr) (gbp:t1.get bp=some (.v (rPt pl)))
  (hm:RV.length+T.length+1<=1000000) {t:Tr AV} (ht:Has t [(0,.ptr w 0),(1,.fz T.length (rNd T)),(6,.sl bp 0 T.length T.length false)])
  (hk:∀U' s' tr',Stp [] U s tr U' s' tr'->WI g w U' s' tr' (RV++jM FW T RV.length) N->k (.tup []) ⟨s',0,tr'⟩):S P n0 (jv gj gh) (xk [] k) t ⟨s1,0,t1⟩:=by
 refine S.has _ ht (qk ?_);have hn0:0<T.length:=by grind
 obtain⟨x0,hx0⟩:∃x,T[0]?=some x:=⟨_,zzE hn0⟩;obtain⟨c0,hc0⟩:∃c,pl[0]?=some c:=⟨_,zzE (by omega)⟩
 have g0:(rNd T)[0]?=some (.b x0.leaf):=by
  have:=qAe hx0 (i:=0) (by omega);rw[Nat.zero_mul]at this;exact this
 have ge0:(rPt pl)[0]?=some (.ptr c0 0):=by rw[qfS,hc0];rfl
 have hja:jaE FW T=if x0.leaf=true then [⟨5,0,FW x0.way,0⟩]else []:=by
  cases T with
  | nil=>simp_all
  | cons a l=>simp at hx0;subst hx0;rfl
 simp only[jv,vI,simprocAttr];simp +decide only[↓vS,vT,simprocAttr,g0,hn0];cases hl0:x0.leaf with
 | true =>
  rw[hl0,if_pos rfl]at hja;simp +decide only[↓vS,vT,simprocAttr,gbp,ge0,hn0,hl0];obtain⟨p,hp⟩:=hkl 0 c0 hc0;have hp':U1 c0 = .lab (FW x0.way) p:=by rw[hp];simp[plc,hx0,hl0]
  refine qeS W.jmp W.put h ⟨5,0,FW x0.way,0⟩ hp' (by simp_all) (by omega) λU2 s2 t2 st2 w2=>?_
  simp +decide only[↓vS,vT,simprocAttr];rw[<- hja]at w2;have hb2:=st2.fr bp hbp;refine qmK W T hok FW pl hpl w2 (st.trans st2) hd (λj c hj=>?_) (by rw[List.append_nil];exact hL) hnew hb2.1 (hb2.2.trans gbp) (by rw[zzP,hja];grind) ?_ λU' s' tr' q1 q2=>hk U' s' tr' q1 ?_
  .obtain⟨p,hp⟩:=hkl j c hj;rw[zzP];exact⟨p,st2.lab _ _ _ hp⟩
  .simp[qh,ql,Tr.get_set]
  .rw[zzP,List.append_assoc]at q2;exact q2
 | false =>
  rw[hl0,if_neg (by simp)]at hja;simp +decide only[↓vS,vT,simprocAttr,gbp,ge0,hn0,hl0];rw[hja]at hkl;refine qmK W T hok FW pl hpl h st hd hkl hL hnew hbp gbp (by omega) ?_ λU' s' tr' q1 q2=>hk U' s' tr' q1 ?_
  .simp[qh,ql,Tr.get_set]
  .unfold jM;rw[hja];exact q2
def qAh{pl:List Nat}{n c:Nat}(h:pl.length<n):(rPt pl++List.replicate (n-pl.length) AV.nilp).take pl.length ++ .ptr c 0::(rPt pl++List.replicate (n-pl.length) AV.nilp).drop (pl.length+1)=rPt (pl++[c])++List.replicate (n-(pl++[c]).length) AV.nilp:=by
 rw[List.take_left' qhG,show pl.length+1=(rPt pl).length+1 by rw[qhG],List.drop_length_add_append,List.drop_replicate]
 simp[rPt];omega
def qxb{pl:List Nat}{n a c:Nat}:(rPt (pl++[a])++List.replicate (n-(pl++[a]).length) AV.nilp).take pl.length ++ .ptr c 0::(rPt (pl++[a])++List.replicate (n-(pl++[a]).length) AV.nilp).drop (pl.length+1)=rPt (pl++[c])++List.replicate (n-(pl++[c]).length) AV.nilp:=by
 have e:rPt (pl++[a])++List.replicate (n-(pl++[a]).length) AV.nilp=rPt pl++(.ptr a 0::List.replicate (n-(pl++[a]).length) AV.nilp):=by simp[rPt]
 rw[e,List.take_left' qhG,show pl.length+1=(rPt pl).length+1 by rw[qhG],List.drop_length_add_append]
 simp[rPt]
def quF{e bw:Nat}{wf a:Bool}(hc:qc P f (qab gj gh)=true)(W:WFn P g gl gp gj gh gr)(T:List Nd)(hT:T≠[])(xs:List Nat)(hok:∀x ∈ T,NdOk xs.length T.length x)(FW:Nat->Nat)(V:AV)(hV:V = .sl bw 0 xs.length xs.length false\/V = .own bw xs.length)
  (h:WI g w U s tr RV N) (hbw:U bw = .fr) (gbw:tr.get bw=some (.cells e wf a (rPt xs))) (hx:∀(j:Nat) c,xs[j]?=some c->∃p,U c = .lab (FW j) p) (hm:RV.length+T.length+1<=1000000)
  (hk:∀U' s' tr',Stp [] U s tr U' s' tr'->WI g w U' s' tr' (RV++jM FW T RV.length) N->k (.tup []) ⟨s',0,tr'⟩):SC P f [.ptr w 0,.fz T.length (rNd T),V] ⟨s,0,tr⟩ k:=by
 refine SC.mk hc (qk ?_);simp only[qab,vI,simprocAttr];have hr1:T.length<=qf:=by simp only[qf];omega
 have hr2:8*T.length<=qf:=by simp only[qf];omega
 simp +decide only[↓vS,vT,simprocAttr,hr1,hr2]
 refine SL.loopP (α:=Nat) (λi=>[(0,.ptr w 0),(1,.fz T.length (rNd T)),(2,V),(6,.sl s 0 T.length T.length false),(14,.fz T.length (rNd T)),(15,.j (T.length:Int)),(16,.j (i:Int))])
  (λi h=>i<=T.length/\∃pl L' U' s' tr',pl.length=i/\h=⟨s',0,tr'⟩/\Stp L' U s tr U' s' tr'/\WI g w U' s' tr' RV N/\s<s'/\(∀(j:Nat) c,pl[j]?=some c->∃p,U' c = .lab (plc FW T (RV.length+(jaE FW T).length) j) p) /\
   (∀c ∈ L',∃(j:Nat) (nd:Nd),T[j]?=some nd/\nd.leaf=false/\pl[j]?=some c)/\(∀(j:Nat) c nd,T[j]?=some nd->nd.leaf=false->pl[j]?=some c->s<=c)/\U' s = .fr/\tr'.get s=some (.v (rPt pl++List.replicate (T.length-pl.length) .nilp))) (λi=>T.length-i) ?_ 0 ?_ ?_
 .rintro i h1 ⟨hi,pl,L',U',s',tr',hpl,rfl,st',w',hss,hkl',hL',hnew',hbp',gbp'⟩ G ih;simp only[vI,simprocAttr]
  by_cases hlt:i<T.length
  .have hlt':(i:Int)<T.length:=by omega
   obtain⟨nd,hnd⟩:∃t,T[i]?=some t:=⟨_,zzE hlt⟩;have hel:=qpU hnd;have h5:i*5+5<=(rNd T).length:=by rw[qlb];omega
   have hw1:IntKind.wrap .i64 ((i:Int)+1)=((i+1:Nat):Int):=by rw[qm (by omega) (by omega)];simp
   have hok':=hok nd (by grind);have n1:¬s=s':=by omega
   have n2:¬s=s'+1:=by omega
   have n3:¬s'=s'+1:=by omega
   have n4:¬s'=s:=by omega
   have n5:¬s'+1=s:=by omega
   have hll:i+1<=(rPt pl++List.replicate (T.length-pl.length) AV.nilp).length:=by grind[qhG]
   have hp1:=qAh (n:=T.length) (c:=s'+1) (pl:=pl) (by omega);rw[hpl]at hp1 hll gbp';obtain⟨wv,sv⟩:=w'.var (.v [.b false,.j 0,.w 0,.j 0,.j 0]) (.v (cNd nd));cases hl:nd.leaf with
   | false =>
    simp only[cNd,hl]at wv sv;simp +decide only[↓vS,vT,simprocAttr,hlt',hlt,h5,hel,cNd,hl,hw1,n1,n2,n3,n4,n5,gbp',zzU,hll,hp1];have wl:=wv.new (.lab (plc FW T (RV.length+(jaE FW T).length) i) false) _ (.inr (.inr (.inr ⟨_,rfl,rfl⟩)));have sl:=wv.stpLab (.lab (plc FW T (RV.length+(jaE FW T).length) i) false) (.v [.j 0]);have hfs:kdS (kdS U' s' .fr) (s'+1) (.lab (plc FW T (RV.length+(jaE FW T).length) i) false) s = .fr:=by rw[qj (by omega),qj (by omega)];exact hbp'
    refine ih (i+1) _ _ (by omega) ?_ ⟨by omega,pl++[s'+1],_,_,s'+1+1,_,by simp[hpl],rfl,((st'.trans sv).trans sl).mod h.dom (zzL s) _,wl.chg .fr _ (.inl hfs) (by omega) (.inr (.inl rfl)),by omega,λj c hj=>?_,λc hc=>?_,λj c nd' h1 h2 h3=>?_,qI,by rw[Tr.get_set,if_pos rfl]⟩
    .simp[qh,ql,Tr.get_set]
    .rw[List.getElem?_append]at hj;split at hj
     .obtain⟨p,hp⟩:=hkl' j c hj;have:c<s':=w'.dom c (by rw[hp];simp);have hcs:c≠s:=λe=>by rw[e,hbp']at hp;cases hp
      exact⟨p,by rw[qj hcs,qj (by omega),qj (by omega)];exact hp⟩
     .have hj0:j-pl.length=0:=by
       have:=(zzS.1 hj).1;simp at this;exact this
      rw[hj0]at hj;simp at hj;subst hj;obtain rfl:j=i:=by omega
      exact⟨false,by rw[qj n5,qI]⟩
    .simp only[List.append_nil,List.mem_append,List.mem_singleton]at hc;rcases hc with hc|hc
     .obtain⟨j,nd',q1,q2,q3⟩:=hL' c hc;exact⟨j,nd',q1,q2,by rw[List.getElem?_append_left (zzS.1 q3).1];exact q3⟩
     .exact⟨i,nd,hnd,hl,by rw[hc,<- hpl];simp⟩
    grind
   | true =>
    have hwl:=hok'.way hl;obtain⟨c0,hc0⟩:∃t,xs[nd.way]?=some t:=⟨_,zzE hwl⟩;have gc0:(rPt xs)[nd.way]?=some (.ptr c0 0):=by rw[qfS,hc0];rfl
    obtain⟨p0,hp0⟩:=hx nd.way c0 hc0;have hbs:bw<s:=h.dom bw (by rw[hbw];simp);have gb':=(st'.fr bw hbw).2.trans gbw;have m1:¬bw=s:=by omega
    have m2:¬bw=s':=by omega
    have m3:¬bw=s'+1:=by omega
    have hp2:=qxb (n:=T.length) (pl:=pl) (a:=s'+1) (c:=c0);have hll2:i+1<=(rPt (pl++[s'+1])++List.replicate (T.length-(pl++[s'+1]).length) AV.nilp).length:=by grind
    rw[hpl]at hp2;have wl:=wv.new .fr (.v [.j 0]) (.inr (.inl rfl));have sl:=wv.stpNew .fr (.v [.j 0]) (by simp);have hfs:kdS (kdS U' s' .fr) (s'+1) .fr s = .fr:=by rw[qj (by omega),qj (by omega)];omega
    have wc:=wl.chg .fr (.v (rPt (pl++[s'+1])++List.replicate (T.length-(pl++[s'+1]).length) .nilp)) (.inl hfs) (by omega) (.inr (.inl rfl));have wd:=wc.chg (b:=s) .fr (.v (rPt (pl++[c0])++List.replicate (T.length-(pl++[c0]).length) .nilp)) (.inl qI) (by omega) (.inr (.inl rfl));have sd:=((((st'.trans sv).trans sl).mod h.dom (zzL s) (.v (rPt (pl++[s'+1])++List.replicate (T.length-(pl++[s'+1]).length) .nilp)))).mod h.dom (zzL s) (.v (rPt (pl++[c0])++List.replicate (T.length-(pl++[c0]).length) .nilp));simp only[cNd,hl]at wd sd
    have fin:∀tf,(∀b,tf.get b=((((((tr'.set s' (.v [.b false,.j 0,.w 0,.j 0,.j 0])).set s' (.v [.b true,.j (nd.way:Int),.w nd.at',.j (nd.less:Int),.j (nd.more:Int)])).set (s'+1) (.v [.j 0])).set s
      (.v (rPt (pl++[s'+1])++List.replicate (T.length-(pl++[s'+1]).length) .nilp))).set s (.v (rPt (pl++[c0])++List.replicate (T.length-(pl++[c0]).length) .nilp))).get b))->
      ∀tt,Has tt [(0,.ptr w 0),(1,.fz T.length (rNd T)),(2,V),(6,.sl s 0 T.length T.length false),(14,.fz T.length (rNd T)),(15,.j (T.length:Int)),(16,.j ((i+1:Nat):Int))]->G tt ⟨s'+1+1,0,tf⟩:=by
     intro tf hf tt ht;refine ih (i+1) _ _ (by omega) ht ⟨by omega,pl++[c0],_,_,s'+1+1,_,by grind,rfl,sd.congr hf,wd.congr hf,by omega,λj c hj=>?_,λc hc=>?_,λj c nd' h1 h2 h3=>?_,qI,by rw[hf,Tr.get_set,if_pos rfl]⟩
     .rw[List.getElem?_append]at hj;split at hj
      .obtain⟨p,hp⟩:=hkl' j c hj;have:c<s':=w'.dom c (by rw[hp];simp);have hcs:c≠s:=λe=>by rw[e,hbp']at hp;cases hp
       exact⟨p,by rw[qj hcs,qj hcs,qj (by omega),qj (by omega)];exact hp⟩
      .have hj0:j-pl.length=0:=by
        have:=(zzS.1 hj).1
        grind
       rw[hj0]at hj;simp at hj;subst hj;obtain rfl:j=i:=by omega
       have h1:=st'.lab _ _ _ hp0;have:c0<s:=h.dom c0 (by rw[hp0];simp);exact⟨p0,by rw[qj (by omega),qj (by omega),qj (by omega),qj (by omega),h1];simp[plc,hnd,hl]⟩
     .simp only[List.append_nil]at hc;obtain⟨j,nd',q1,q2,q3⟩:=hL' c hc
      grind
     .rw[List.getElem?_append]at h3;split at h3
      .grind
      .have hj0:j-pl.length=0:=by
        have:=(zzS.1 h3).1;simp at this;exact this
       grind
    rcases hV with rfl|rfl
    .simp +decide only[↓vS,vT,simprocAttr,hlt',hlt,h5,hel,cNd,hl,hw1,n1,n2,n3,n4,n5,m1,m2,m3,gbp',gb',gc0,hwl,zzU,hll,hp1,hll2,hp2];exact fin _ (λb=>rfl) _ (by simp[qh,ql,Tr.get_set])
    .simp +decide only[↓vS,vT,simprocAttr,hlt',hlt,h5,hel,cNd,hl,hw1,n1,n2,n3,n4,n5,m1,m2,m3,gbp',gb',gc0,hwl,zzU,hll,hp1,hll2,hp2];exact fin _ (λb=>rfl) _ (by simp[qh,ql,Tr.get_set])
  .obtain rfl:i=T.length:=by omega
   have hlt':¬((T.length:Int)<T.length):=by omega
   simp +decide only[↓vS,vT,simprocAttr,hlt'];rw[hpl,Nat.sub_self]at gbp';refine qsK W T hT hok FW pl hpl w' st' h.dom hkl' hL' hnew' hbp' (by rw[gbp'];simp) hm ?_ hk;simp[qh,ql,Tr.get_set]
 .simp[qh,ql,Tr.get_set]
 .refine⟨Nat.zero_le _,[],[],kdS U s .fr,s+1,_,rfl,rfl,h.stpNew .fr _ (by simp),h.new .fr _ (.inr (.inl rfl)),by omega,λj c hj=>(by grind),λc hc=>(by cases hc),λj c nd h1 h2 h3=>(by grind),qI,?_⟩
  rw[Tr.get_set,if_pos rfl];simp[rPt]
end
structure Sp where
 fr:Int
 to:Int
 way:Nat
def cSp(s:Sp):List AV:=[.w s.fr,.w s.to,.j (s.way:Int)]
def qhs(s:Sp):(cSp s).length=3:=rfl
def rSp(l:List Sp):List AV:=l.flatMap cSp
def qfT{l:List Sp}:(rSp l).length=l.length*3:=qV qhs l
def qAi{l m:List Sp}:rSp l++rSp m=rSp (l++m):=by simp[rSp]
def qAj{s:Sp}:cSp s=rSp [s]:=by simp[rSp]
def qsc{T:List Sp}{j:Nat}{x:Sp}(h:T[j]?=some x){i:Nat}(hi:i<3):(rSp T)[j*3+i]?=(cSp x)[i]?:=qbE qhs h hi
def qxf{T:List Sp}{j:Nat}{x:Sp}(h:T[j]?=some x):((rSp T).drop (j*3)).take 3=cSp x:=qG qhs h
def qfw{l:List Sp}:qt (rSp l)=true:=xT λ_=>rfl
def jK(l:List Sp)(s:Sp):List Sp:=match l[l.length-1]? with|some z=>if z.way=s.way then l.set (l.length-1) ⟨z.fr,s.to,z.way⟩else l++[s]|none=>l++[s]
def xb(l:List Sp):List Sp:=l.foldl jK []
def qmm{l:List Sp}{s:Sp}:(jK l s).length<=l.length+1:=by
 unfold jK;grind
def jG:IFn:=⟨[],sq [.r [.q 2 (.box (.t 0))],sq [.r [.d 4 1,.e 5 4,.n 3 5],.reg true [.n 6 3,.w 7 .gtr 6 0,.n 8 7,.j 9 1 8 true,.y 10 3 8,.g 11 (.bin .sub (.t 10) (.k 1)) 8 true,.g 12 (.iAddrS 3 (.t 9) (.t 11)) 8 true,.h 13 2 12 8 true,.j 14 13 8 true,.h 15 2 2 8 true,.j 16 15 8 true,.g 17 (.bin .eql (.t 14) (.t 16)) 8 true,.p 18 8 17],.cond (.t 18) (sq [.r [.d 19 1,.n 20 3,.w 21 .sub 20 1,.f 22 1 2,.d 23 22,.i 24 3 19 21,.f 25 1 24,.u (.store 1 (.t 25) (.t 23))],.ret]) (.skip)],.r [.d 26 1,.v 27 3 2,.q 28 (.buildS 1 [.w 0,.w 0,.j 0] [(0,3,(.t 27))]),.q 29 (.app 3 16 true (.t 26) (.t 28)),.u (.store 1 (.t 1) (.t 29))]]⟩
def qw4(hc:qc P f jG=true){s bo br:Nat}{tr:Tr Blk}{l:List Sp}(x:Sp){k:AV->Hp->Prop}(ho:tr.get bo=some (.v [.own br l.length]))(hr:tr.get br=some (.cells 3 true true (rSp l)))(hbr:bo≠br)(hos:bo<s)(hrs:br<s)(hm:l.length<=1000000)
  (hk:∀s' tr' br',s<=s'->(∀b,b<s->b≠bo->b≠br->tr'.get b=tr.get b)->tr'.get bo=some (.v [.own br' (jK l x).length])->tr'.get br'=some (.cells 3 true true (rSp (jK l x)))->(br'=br\/s<=br')->br'<s'->k (.tup []) ⟨s',0,tr'⟩) :
  SC P f [.agg (cSp x),.ptr bo 0] ⟨s,0,tr⟩ k:=by
 refine SC.mk hc (qk ?_);have n1:¬bo=s:=by omega
 have n2:¬br=s:=by omega
 have n3:¬bo=br:=hbr;have n4:¬s=br:=by omega
 have n5:¬s+1=br:=by omega
 have n6:¬br=s+1:=by omega
 have n7:¬bo=s+1:=by omega
 have n8:¬bo=s+1+1:=by omega
 have n9:¬s=bo:=by omega
 have n10:¬s=s+1:=by omega
 have n11:¬s+1=s+1+1:=by omega
 have r1:l.length+1<=qf:=by simp only[qf];omega
 have r2:(l.length+1)*16<=qf:=by simp only[qf];omega
 have app:∀tf:Tr Blk,(∀b,b<s->b≠bo->b≠br->tf.get b=tr.get b)->tf.get bo=some (.v [.own (s+1+1) (l.length+1)])->tf.get (s+1+1)=some (.cells 3 true true (rSp l++cSp x))->jK l x=l++[x]->k (.tup []) ⟨s+1+1+1,0,tf⟩:=λtf h1 h2 h3 h4 =>
  hk _ _ (s+1+1) (by omega) h1 (by rw[h2,h4];simp) (by rw[h3,h4,qAj,qAi]) (.inr (by omega)) (by omega)
 simp only[jG,cSp,vI,simprocAttr];simp +decide only[↓vS,vT,simprocAttr,ho,hr,n1,n2,n3,n9];refine zg ?_;rcases Nat.eq_zero_or_pos l.length with h0|h0
 .have h0':¬(0:Int)<(l.length:Int):=by omega
  simp +decide only[↓vS,vT,simprocAttr,h0',ho,hr,n1,n2,n3,n4,n5,n6,n7,n8,n9,n10,n11,r1,r2,qfT];refine app _ ?_ ?_ ?_ ?_
  .grind[Tr.get_set]
  .simp[Tr.get_set]
  .simp only[Tr.get_set];rw[if_neg (by omega)];simp[cSp]
  .have:l=[]:=by grind
   subst this;rfl
 .have h0':(0:Int)<(l.length:Int):=by omega
  obtain⟨z,hz⟩:∃z,l[l.length-1]?=some z:=⟨_,zzE (by omega)⟩;have e1:IntKind.wrap .i64 ((l.length:Int)-1)=((l.length-1:Nat):Int):=by rw[qm (by omega) (by omega)];omega
  have hlt:l.length-1<l.length:=by omega
  have hw:=qsc hz (i:=2) (by omega);have hw':(rSp l)[(l.length-1)*3+2]?=some (.j (z.way:Int)):=hw
  by_cases hwy:z.way=x.way
  .have hwy':(z.way:Int)=x.way:=by omega
   have hset:=qgA (f:=cSp) (x':=⟨z.fr,x.to,z.way⟩) (v:=.w x.to) (i:=1) qhs hz (by omega) rfl;rw[show l.flatMap cSp=rSp l from rfl,List.singleton_append]at hset
   have h3:(l.length-1)*3+1+1<=(rSp l).length:=by rw[qfT];omega
   simp +decide only[↓vS,vT,simprocAttr,h0',ho,hr,n1,n2,n3,n4,n5,n6,n7,n8,n9,n10,n11,e1,hlt,hw',hwy',h3,hset];have hp:jK l x=l.set (l.length-1) ⟨z.fr,x.to,z.way⟩:=by unfold jK;rw[hz];grind
   refine hk _ _ br (by omega) ?_ ?_ ?_ (.inl rfl) (by omega)
   .grind[Tr.get_set]
   .rw[Tr.get_set,if_neg hbr,Tr.get_set,if_neg n1,ho,hp];simp
   .rw[Tr.get_set,if_pos rfl,hp];rfl
  .have hwy':¬(z.way:Int)=x.way:=by omega
   simp +decide only[↓vS,vT,simprocAttr,h0',ho,hr,n1,n2,n3,n4,n5,n6,n7,n8,n9,n10,n11,e1,hlt,hw',hwy',r1,r2,qfT];refine app _ ?_ ?_ ?_ ?_
   .grind[Tr.get_set]
   .simp[Tr.get_set]
   .simp only[Tr.get_set];rw[if_neg (by omega)];simp[cSp]
   .unfold jK;rw[hz];grind
def qaM(l:List (Int×Nat)):List AV:=l.map λx=>.w x.1
def qbg(l:List (Int×Nat)):List AV:=l.map λx=>.j (x.2:Int)
theorem qjA{l:List (Int×Nat)}:(qaM l).length=l.length:=by simp[qaM]
theorem qjB{l:List (Int×Nat)}:(qbg l).length=l.length:=by simp[qbg]
def qdy{l:List (Int×Nat)}:qt (qaM l)=true:=qbB λ_=>rfl
def qdz{l:List (Int×Nat)}:qt (qbg l)=true:=qbB λ_=>rfl
def qjz{l:List (Int×Nat)}{j:Nat}:(qaM l)[j]?=(l[j]?).map λx=>.w x.1:=by simp[qaM]
def qpW{l:List (Int×Nat)}{j:Nat}:(qbg l)[j]?=(l[j]?).map λx=>.j (x.2:Int):=by simp[qbg]
def pcs(o:Nat):List (Int×Nat)->Int->List Sp
 | [],nx=>if nx<4294967296 then [⟨nx,4294967295,o⟩]else []
 | x::l,nx=>(if nx<x.1 then [⟨nx,x.1-1,o⟩]else [])++⟨x.1,x.1,x.2⟩::pcs o l (x.1+1)
def qdR(a:Nat):IFn:=⟨[.tmp 6],sq [.r [.q 3 (.box (.t 0)),.q 4 (.box (.t 1)),.q 5 (.box (.t 2)),.m 6 (.c (.nilf))],.r [.q 7 (.mkF a [] [.t 3,.t 5,.t 4]),.n 6 7],.ret]⟩
def qtW{g:Nat}(hc:qc P f (qdR g)=true)(l:List (Int×Nat))(o:Nat):qa P f [.fz l.length (qaM l),.fz l.length (qbg l),.j (o:Int)] (.fn g [] [.pf [.fz l.length (qaM l)] 0,.pf [.j (o:Int)] 0,.pf [.fz l.length (qbg l)] 0]):=by
 refine qa.mk hc (by simp[qt,clo,qdy,qdz]) ?_;simp only[qdR,vI,simprocAttr];simp +decide only[↓vS,vT,simprocAttr];simp[vZ,vP,Tr.get_set,qJ qdy,qJ qdz]
def spT(g3:Nat)(l:List (Int×Nat))(o:Nat):List (Nat×AV):=[(3,.ptr 0 0),(4,.ptr 1 0),(7,.fn g3 [] [.pf [.fz l.length (qaM l)] 0,.pf [.j (o:Int)] 0,.pf [.fz l.length (qbg l)] 0])]
def spA:ICode:=.reg false [⟨some 5,.op (.alloc [.w 0,.w 0,.j 0]),none⟩,⟨none,.op (.store 3 (.t 5) (.t 8)),none⟩]
def spB:ICode:=.blk 1 (.reg false [⟨some 9,.op (.load1 (.t 4)),none⟩,⟨some 10,.op (.loadN 3 (.t 5)),none⟩,⟨some 11,.callV (.t 9) [.t 10],none⟩])
def SpI(g1:Nat)(r0:Loop)(ts:List (Nat×AV))(out:List Sp)(s:Nat)(tr:Tr Blk):Prop :=
 ∃br,4<=s/\tr.get 0=some (.v [.own br out.length])/\tr.get br=some (.cells 3 true true (rSp out))/\(br=2\/4<=br)/\br<s/\tr.get 1=some (.v [.fn g1 [] [.ptr 0 0]])/\tr.get 3=some (.map (zz r0 ts))
def qmn{g1 g3 s:Nat}{r0:Loop}{l:List (Int×Nat)}{o:Nat}{out:List Sp}{tr:Tr Blk}{k:AV->Hp->Prop}(hc1:qc P g1 jG=true)(hr0:r0.state = .ready)(hp0:r0.pending=none)(hlo:LoopOk P r0 [8] spA spB)
  (hI:SpI g1 r0 (spT g3 l o) out s tr) (x:Sp) (hm:out.length<=1000000) (hk:∀s' tr',SpI g1 r0 (spT g3 l o) (jK out x) s' tr'->k (.b true) ⟨s',0,tr'⟩):SY P 3 [.agg (cSp x)] ⟨s,0,tr⟩ k:=by
 obtain⟨br,h4,h0,hb,hbr,hbs,h1,h3⟩:=hI;refine SY.mk (r:=r0) (ts:=spT g3 l o) (ps:=[8]) h3 hr0 hlo (Nat.zero_le _) (by show 3<s;omega) rfl ?_;rw[show mkT (spT g3 l o)=((Tr.leaf.set 7 (.fn g3 [] [.pf [.fz l.length (qaM l)] 0,.pf [.j (o:Int)] 0,.pf [.fz l.length (qbg l)] 0])).set 4 (.ptr 1 0)).set 3 (.ptr 0 0)from rfl]
 refine qk ?_;simp only[qjw,spA,cSp,vI,simprocAttr];simp +decide only[↓vS,vT,simprocAttr];have n3:¬3=s:=by omega
 have n1:¬1=s:=by omega
 have n13:¬1=3:=by omega
 have n03:¬0=3:=by omega
 have ns3:¬s=3:=by omega
 refine⟨spT g3 l o,by simp[Tr.get_set,n3,h3],?_⟩
 refine qk ?_;simp only[qx,spB,vI,simprocAttr];simp +decide only[↓vS,vT,simprocAttr,h1,n1,n13,ns3]
 have gb:∀b,b<s->b≠3->(((tr.set s (.v [.w 0,.w 0,.j 0])).set s (.v [.w x.fr,.w x.to,.j (x.way:Int)])).set 3 (.map (zz (Go.Kc.bsy r0) (spT g3 l o)))).get b=tr.get b:=λb h1 h2=>by
  simp only[Tr.get_set];repeat rw[if_neg (by omega)]
 refine qw4 hc1 x ((gb 0 (by omega) (by omega)).trans h0) (by grind) (by omega) (by omega) (by omega) hm λs' tr' br' q1 q2 q3 q4 q5 q6=>?_
 simp +decide only[↓vS,vT,simprocAttr];have g3':tr'.get 3=some (.map (zz (Go.Kc.bsy r0) (spT g3 l o))):=by rw[q2 3 (by omega) (by omega) (by omega),Tr.get_set,if_pos rfl]
 refine⟨Go.Kc.bsy r0,spT g3 l o,g3',?_⟩;rw[qct,qd0 hr0 hp0];simp only[qx];simp +decide only[↓vS,vT,simprocAttr];refine hk _ _ ⟨br',by omega,?_,?_,by omega,q6,?_,?_⟩
 all_goals grind[Tr.get_set]
def qci:IFn:=⟨[],sq [.r [.m 5 (.c (.x 0))],sq [.r [.d 8 1,.e 9 8,.m 10 (.k 0)],.blk 0 (.loop (sq [.r [.s 11 10 9],.cond (.t 11) (.skip) (.exit 0),.blk 1 (sq [.r [.n 12 10,.i 13 1 8 10,.d 14 13,.n 6 12,.n 7 14],sq [.r [.n 15 5,.n 16 7,.q 17 (.cvInt .u64 (.t 16)),.s 18 15 17,.n 19 18,.y 20 0 19,.y 21 5 19,.g 22 (.cvInt .u32 (.t 21)) 19 true,.y 23 7 19,.g 24 (.bin .sub (.t 23) (.c (.w 1))) 19 true,.j 25 2 19 true,.g 26 (.build [.w 0,.w 0,.j 0] [(0,1,(.t 22)),(1,1,(.t 24)),(2,1,(.t 25))]) 19 true,⟨(some 27),.callV (.t 20) [.t 26],(some (19,true))⟩,.g 28 (.un .not (.t 27)) 19 true,.p 29 19 28],.cond (.t 29) (.ret) (.skip)],sq [.r [.n 30 0,.n 31 7,.n 32 7,.d 33 3,.n 34 6,.i 35 1 33 34,.d 36 35,.q 37 (.build [.w 0,.w 0,.j 0] [(0,1,(.t 31)),(1,1,(.t 32)),(2,1,(.t 36))]),⟨(some 38),.callV (.t 30) [.t 37],none⟩,.q 39 (.un .not (.t 38))],.cond (.t 39) (.ret) (.skip)],.r [.n 40 7,.q 41 (.cvInt .u64 (.t 40)),.q 42 (.bin .add (.t 41) (.c (.x 1))),.n 5 42]]),.r [.a 43 10 1,.n 10 43]]))],.r [.n 44 5,.q 45 (.bin .lss (.t 44) (.c (.x 4294967296)))],.cond (.t 45) (.r [.n 46 0,.n 47 5,.q 48 (.cvInt .u32 (.t 47)),.d 49 2,.q 50 (.build [.w 0,.w 0,.j 0] [(0,1,(.t 48)),(1,1,(.c (.w 4294967295))),(2,1,(.t 49))]),⟨(some 51),.callV (.t 46) [.t 50],none⟩]) (.skip)]⟩
def qbN(a:Nat):ICode:=sq [.r [.d 12 3,.n 2 12],.ret]
def qdQ(a:Nat):IFn:=⟨[.tmp 2],sq [.r [.m 2 .N],.r [.q 3 (.alloc [.nils])],.r [.q 6 (.mkF a [] [.t 3]),.q 4 (.alloc [.nilf]),.u (.store 1 (.t 4) (.t 6))],sq [.r [.n 7 0],.blk 0 (.rangeF 0 (.t 7) [8] (.r [.q 5 (.alloc [.w 0,.w 0,.j 0]),.u (.store 3 (.t 5) (.t 8))]) (.blk 1 (.r [.d 9 4,.v 10 3 5,⟨(some 11),.callV (.t 9) [.t 10],none⟩])))],.cut (qbN a)]⟩
def qnc{n0 g1 br n:Nat}{s:Nat}{tr:Tr Blk}{t:Tr AV}{out:List Sp}(ht:t.get 3=some (.ptr 0 0))(h0:tr.get 0=some (.v [.own br out.length]))(hb:tr.get br=some (.cells 3 true true (rSp out)))(hn:n=out.length) :
  S P n0 (qbN g1) (xk [.tmp 2] λv' h'=>Frz h' v' (.fz n (rSp out))) t ⟨s,0,tr⟩:=by
 refine S.has [(3,.ptr 0 0)] (by grind[qh,ql]) (qk ?_);simp only[qbN,vI,simprocAttr];simp only[↓vS,vT,simprocAttr,h0];simp[vZ,vP,Tr.get_set,hb,hn,qJ qfw];intro h;rw[h];rfl
def qpM{g1 g3:Nat}(hc:qc P f (qdQ g1)=true)(hc1:qc P g1 jG=true)(hc3:qc P g3 qci=true)(l:List (Int×Nat))(o:Nat)(hl:l.length<=100000)(hr:∀x ∈ l,0<=x.1/\x.1<4294967296) :
  qa P f [.fn g3 [] [.pf [.fz l.length (qaM l)] 0,.pf [.j (o:Int)] 0,.pf [.fz l.length (qbg l)] 0]] (.fz (xb (pcs o l 0)).length (rSp (xb (pcs o l 0)))):=by
 refine qa.mk hc (by simp[qt,clo,qdy,qdz]) ?_;simp only[qdQ,vI,simprocAttr];simp +decide only[↓vS,vT,simprocAttr];refine S.weak (Wk.mk (spT g3 l o) [.v [.own 2 0],.v [.fn g1 [] [.ptr 0 0]],.cells 3 true true []] [0,1,99] ?_ ?_ ?_ rfl) ?_
 .simp[vw,spT,qdy,qdz,qe]
 .simp[vw]
 .simp
 refine S.rangeF (by simp[jy]) (by simp[spT]) ⟨rfl,rfl⟩ ?_;refine qhT.2 ⟨.fn g3 [] [.pf [.fz l.length (qaM l)] 0,.pf [.j (o:Int)] 0,.pf [.fz l.length (qbg l)] 0],by simp[spT,mkT,Tr.get_set],?_⟩
 refine⟨qbC hc3,λr0 hr0 hp0 hlo=>SC.mk hc3 ?_⟩
 have hlo:LoopOk P r0 [8] spA spB:=hlo;show S P 4 _ _ (qbl [.yl 3,.pf [.fz l.length (qaM l)] 0,.pf [.j (o:Int)] 0,.pf [.fz l.length (qbg l)] 0] 0 .leaf) ⟨4,0,(((Tr.leaf.set 0 (.v [.own 2 0])).set 1 (.v [.fn g1 [] [.ptr 0 0]])).set 2 (.cells 3 true true [])).set 3 (.map (zz r0 (spT g3 l o)))⟩;refine qk ?_;simp only[qci,vI,simprocAttr];simp +decide only[↓vS,vT,simprocAttr]
 refine SL.loopP (α:=Nat×Int) (λi=>[(0,.yl 3),(1,.pf [.fz l.length (qaM l)] 0),(2,.pf [.j (o:Int)] 0),(3,.pf [.fz l.length (qbg l)] 0),(5,.x i.2),(8,.fz l.length (qaM l)),(9,.j (l.length:Int)),(10,.j (i.1:Int))])
  (λi h=>i.1<=l.length/\0<=i.2/\i.2<=4294967296/\∃s tr out,h=⟨s,0,tr⟩/\SpI g1 r0 (spT g3 l o) out s tr/\(pcs o (l.drop i.1) i.2).foldl jK out=xb (pcs o l 0)/\out.length<=2*i.1) (λi=>l.length-i.1) ?_ (0,0) ?_ ?_
 .rintro⟨i,nx⟩ h1 ⟨hi,hx0,hx1,s,tr,out,rfl,hI,hE,hol⟩ G ih;simp only at hi hx0 hx1 hI hE hol;simp only[vI,simprocAttr]
  by_cases hlt:i<l.length
  .have hlt':(i:Int)<l.length:=by omega
   obtain⟨x,hx⟩:∃x,l[i]?=some x:=⟨_,zzE hlt⟩;have hd:l.drop i=x::l.drop (i+1):=by rw[<- (zzS.1 hx).2,List.getElem_cons_drop]
   obtain⟨x0,x1⟩:=hr x (by grind);have g1':(qaM l)[i]?=some (.w x.1):=by rw[qjz,hx];rfl
   have g2':(qbg l)[i]?=some (.j (x.2:Int)):=by rw[qpW,hx];rfl
   have hw1:IntKind.wrap .i64 ((i:Int)+1)=((i+1:Nat):Int):=by rw[qm (by omega) (by omega)];simp
   have hw2:IntKind.wrap .u64 x.1=x.1:=by grind[qeF]
   have hw3:IntKind.wrap .u64 (x.1+1)=x.1+1:=by grind[qeF]
   rw[hd,pcs,List.foldl_append,List.foldl_cons]at hE
   -- the second yield
   have two:∀(s:Nat) (tr:Tr Blk) (out:List Sp),SpI g1 r0 (spT g3 l o) out s tr->out.length<=2*i+1->(pcs o (l.drop (i+1)) (x.1+1)).foldl jK (jK out ⟨x.1,x.1,x.2⟩)=xb (pcs o l 0)->∀k:AV->Hp->Prop,
     (∀s' tr' out',SpI g1 r0 (spT g3 l o) out' s' tr'->out'.length<=2*(i+1)->(pcs o (l.drop (i+1)) (x.1+1)).foldl jK out'=xb (pcs o l 0)->k (.b true) ⟨s',0,tr'⟩)->SY P 3 [.agg (cSp ⟨x.1,x.1,x.2⟩)] ⟨s,0,tr⟩ k:=λs tr out h1 h2 h3 k hk =>
    qmn hc1 hr0 hp0 hlo h1 _ (by omega) λs' tr' h4=>hk s' tr' _ h4 (by have:=qmm (l:=out) (s:=⟨x.1,x.1,x.2⟩);omega) h3
   by_cases hn:nx<x.1
   .have hw4:IntKind.wrap .u32 nx=nx:=by grind[qeE]
    have hw5:IntKind.wrap .u32 (x.1-1)=x.1-1:=by grind[qeE]
    rw[if_pos hn,List.foldl_cons,List.foldl_nil]at hE;simp +decide only[↓vS,vT,simprocAttr,hlt',hlt,g1',hw2,hn,hw4,hw5,zzU];refine qmn (x:=⟨nx,x.1-1,o⟩) hc1 hr0 hp0 hlo hI (by omega) λs2 tr2 h2=>?_
    simp +decide only[↓vS,vT,simprocAttr,g2',hlt,zzU];refine two _ _ _ h2 (by have:=qmm (l:=out) (s:=⟨nx,x.1-1,o⟩);omega) hE _ λs3 tr3 out3 h3 h4 h5=>?_
    simp +decide only[↓vS,vT,simprocAttr,hw1,hw2,hw3];refine ih (i+1,x.1+1) _ _ (by omega) ?_ ⟨by omega,by omega,by omega,s3,tr3,out3,rfl,h3,h5,h4⟩
    simp[qh,ql,Tr.get_set]
   .rw[if_neg hn,List.foldl_nil]at hE;simp +decide only[↓vS,vT,simprocAttr,hlt',hlt,g1',g2',hw2,hn,zzU];refine two _ _ _ hI (by omega) hE _ λs3 tr3 out3 h3 h4 h5=>?_
    simp +decide only[↓vS,vT,simprocAttr,hw1,hw2,hw3];refine ih (i+1,x.1+1) _ _ (by omega) ?_ ⟨by omega,by omega,by omega,s3,tr3,out3,rfl,h3,h5,h4⟩
    simp[qh,ql,Tr.get_set]
  .obtain rfl:i=l.length:=by omega
   have hlt':¬((l.length:Int)<l.length):=by omega
   rw[List.drop_length,pcs]at hE
   by_cases hn:nx<4294967296
   .have hw4:IntKind.wrap .u32 nx=nx:=by grind[qeE]
    rw[if_pos hn,List.foldl_cons,List.foldl_nil]at hE;simp +decide only[↓vS,vT,simprocAttr,hlt',hn,hw4];refine qmn (x:=⟨nx,4294967295,o⟩) hc1 hr0 hp0 hlo hI (by omega) λs2 tr2 h2=>?_
    simp +decide only[↓vS,vT,simprocAttr];obtain⟨br,q4,q0,qb,qbr,qbs,q1,q3⟩:=h2;refine⟨r0,spT g3 l o,q3,by rw[hr0];decide,?_⟩
    rw[hp0];simp only[qx];simp only[↓vS,vT,simprocAttr];rw[<- hE];refine qnc (br:=br) (by simp[spT,mkT,Tr.get_set]) ?_ ?_ rfl
    all_goals grind[Tr.get_set]
   .rw[if_neg hn,List.foldl_nil]at hE;simp +decide only[↓vS,vT,simprocAttr,hlt',hn];obtain⟨br,q4,q0,qb,qbr,qbs,q1,q3⟩:=hI;refine⟨r0,spT g3 l o,q3,by rw[hr0];decide,?_⟩
    rw[hp0];simp only[qx];simp only[↓vS,vT,simprocAttr];rw[<- hE];refine qnc (br:=br) (by simp[spT,mkT,Tr.get_set]) ?_ ?_ rfl
    all_goals grind[Tr.get_set]
 .simp[qh,ql,Tr.get_set]
 .refine⟨Nat.zero_le _,by simp,by simp,4,_,[],rfl,⟨2,by omega,?_,?_,.inl rfl,by omega,?_,?_⟩,rfl,by simp⟩<;>simp[Tr.get_set,rSp]
def qiy(a b:Nat):IFn:=⟨[.tmp 6,.tmp 7],sq [.r [.m 6 .N,.m 7 (.k 0)],sq [.r [.n 9 0,.e 10 9,.n 11 1,.e 12 11,.b 13 .neq 10 12],.cond (.t 13) (sq [.r [.m 6 .N,.m 7 (.k 2)],.ret]) (.skip)],sq [.r [.n 14 0,.e 15 14,.m 16 (.k 0)],.blk 0 (.loop (sq [.r [.s 17 16 15],.cond (.t 17) (.skip) (.exit 0),.blk 1 (sq [.r [.n 18 16,.n 8 18],.reg true [.n 19 8,.w 20 .gtr 19 0,.n 21 20,.y 22 0 21,.y 23 8 21,.g 24 (.iAddrS 1 (.t 22) (.t 23)) 21 true,.j 25 24 21 true,.y 26 0 21,.y 27 8 21,.g 28 (.bin .sub (.t 27) (.k 1)) 21 true,.g 29 (.iAddrS 1 (.t 26) (.t 28)) 21 true,.j 30 29 21 true,.g 31 (.bin .leq (.t 25) (.t 30)) 21 true,.p 32 21 31],.cond (.t 32) (sq [.r [.m 6 .N,.m 7 (.k 2)],.ret]) (.skip)]),.r [.a 33 16 1,.n 16 33]]))],.r [.n 34 0,.n 35 1,.n 36 2,.l 37 a [.t 34,.t 35,.t 36],.l 38 b [.t 37],.n 6 38,.m 7 (.k 0)],.ret]⟩
def qxp(l:List (Int×Nat)):Prop:=∀(i:Nat) a b,l[i]?=some a->l[i+1]?=some b->a.1<b.1
def qEW{g1 g2 g3:Nat}(hc:qc P f (qiy g1 g2)=true)(l:List (Int×Nat))(o:Nat)(h1:qa P g1 [.fz l.length (qaM l),.fz l.length (qbg l),.j (o:Int)] (.fn g3 [] [.pf [.fz l.length (qaM l)] 0,.pf [.j (o:Int)] 0,.pf [.fz l.length (qbg l)] 0]))
  (h2:qa P g2 [.fn g3 [] [.pf [.fz l.length (qaM l)] 0,.pf [.j (o:Int)] 0,.pf [.fz l.length (qbg l)] 0]] (.fz (xb (pcs o l 0)).length (rSp (xb (pcs o l 0))))) (hl:l.length<=100000) (hr:qxp l) :
  qa P f [.fz l.length (qaM l),.fz l.length (qbg l),.j (o:Int)] (.tup [.fz (xb (pcs o l 0)).length (rSp (xb (pcs o l 0))),.j 0]):=by
 refine qa.mk hc (by simp[qt,clo,qdy,qdz]) ?_;simp only[qiy,vI,simprocAttr];have hne:¬¬(l.length:Int)=l.length:=λh=>h rfl
 simp +decide only[↓vS,vT,simprocAttr];refine SL.loopP (α:=Nat) (λi=>[(0,.fz l.length (qaM l)),(1,.fz l.length (qbg l)),(2,.j (o:Int)),(15,.j (l.length:Int)),(16,.j (i:Int))]) (λi h=>i<=l.length/\h.fl=0) (λi=>l.length-i) ?_ 0 ?_ ?_
 .rintro i ⟨s,fl,tr⟩ ⟨hi,rfl⟩ G ih;simp only[vI,simprocAttr]
  by_cases hlt:i<l.length
  .have hlt':(i:Int)<l.length:=by omega
   have hw1:IntKind.wrap .i64 ((i:Int)+1)=((i+1:Nat):Int):=by rw[qm (by omega) (by omega)];simp
   simp +decide only[↓vS,vT,simprocAttr,hlt'];refine zg ?_;rcases Nat.eq_zero_or_pos i with h0|h0
   .have h0':¬(0:Int)<(i:Int):=by omega
    simp +decide only[↓vS,vT,simprocAttr,h0',hw1];exact ih (i+1) _ _ (by omega) (by simp[qh,ql,Tr.get_set]) ⟨by omega,rfl⟩
   .have h0':(0:Int)<(i:Int):=by omega
    obtain⟨a,ha⟩:∃x,l[i-1]?=some x:=⟨_,zzE (by omega)⟩;obtain⟨b,hb⟩:∃x,l[i]?=some x:=⟨_,zzE hlt⟩;have hab:=hr (i-1) a b ha (by rw[Nat.sub_add_cancel h0];exact hb);have e1:IntKind.wrap .i64 ((i:Int)-1)=((i-1:Nat):Int):=by rw[qm (by omega) (by omega)];omega
    have g1:(qaM l)[i-1]?=some (.w a.1):=by rw[qjz,ha];rfl
    have g2:(qaM l)[i]?=some (.w b.1):=by rw[qjz,hb];rfl
    have hlt2:i-1<l.length:=by omega
    have hle:¬b.1<=a.1:=by omega
    simp +decide only[↓vS,vT,simprocAttr,h0',hw1,e1,g1,g2,hlt,hlt2,hle,zzU];exact ih (i+1) _ _ (by omega) (by simp[qh,ql,Tr.get_set]) ⟨by omega,rfl⟩
  .obtain rfl:i=l.length:=by omega
   have hlt':¬((l.length:Int)<l.length):=by omega
   simp +decide only[↓vS,vT,simprocAttr,hlt'];refine h1.sc ?_;simp +decide only[↓vS,vT,simprocAttr];refine h2.sc ?_;simp +decide only[↓vS,vT,simprocAttr];simp[vZ,qJ qfw]
 all_goals simp_all[qh,ql,Tr.get_set]
end Go.Kc
end
