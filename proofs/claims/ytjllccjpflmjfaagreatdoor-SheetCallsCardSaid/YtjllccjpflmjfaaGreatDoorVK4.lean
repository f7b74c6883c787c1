/- Part 4 of the proof. No condition. -/
import Derived.Test.YtjllccjpflmjfaaGreatDoorVK3
import Derived.Shelf.GgSortFunc.InsertionK
import Derived.Lib.Join
import Derived.Below
import Derived.Lib.ItoaLen
set_option maxHeartbeats 4000000
set_option maxRecDepth 1000000
set_option linter.defProp false
set_option linter.unusedSectionVars false
set_option linter.unusedSimpArgs false
set_option linter.unusedVariables false
set_option linter.unnecessarySimpa false
namespace Go.Kc
noncomputable section
section
variable [Cur]
variable {P:Program}{f:Nat}
def qnP(x:Int):List Int->Nat->Int
 | [],_=>-1
 | y::ys,j=>if x=y then(j:Int)else qnP x ys (j+1)
def qsr{k:IntKind}{L:List Int}{j:Nat}(h:j<L.length)(x:Int):(rI k L).take j++(AV.i k x::(rI k L).drop (j+1))=rI k (L.set j x):=by
 unfold rI;rw[List.set_eq_take_append_cons_drop,if_pos h,List.map_append,zz3,List.map_take,List.map_drop]
def qbm:IFn:=irJ 212 []
def qIz(hc:Ck P f qbm)(xs:List Int)(x:Int)(hl:xs.length<=qe):qa P f [.fz xs.length (rI .i64 xs),.j x] (.j (qnP x xs 0)):=by
 refine Bg ?_;simp only[qbm,vI,simprocAttr];refine Ae ?_;refine SL.loop (α:=Nat) (λj=>[(0,.fz xs.length (rI .i64 xs)),(1,.j x),(7,.j xs.length),(8,.j j)]) (λ_=>[]) (λj=>j<=xs.length/\qnP x xs 0=qnP x (xs.drop j) j) (λj=>xs.length-j) 0 [] ?_ ?_ ?_ rfl ?_ ?_
 .simp[vw,qg]
 .trivial
 .simp
 .simp
 rintro j ⟨hj,hI⟩ G ih;refine Am ?_
 by_cases hlt:j<xs.length
 .have hx:xs[j]?=some xs[j]:=Ad
  have hw:IntKind.wrap .i64 ((j:Int)+1)=(j:Int)+1:=qE Ac (by have:=hl;simp only[qe]at this;exact Ac)
  rw[zzf hlt,qnP]at hI;simp only[↓vS,vT,simprocAttr,hlt,zzU,qbd,hx,zza,hw];split
  .rename_i he;simp only[he,vZ,if_true]at hI ⊢
   exact Ah
  .rename_i he;rw[if_neg he]at hI;refine ih (j+1) ⟨Ac,hI⟩ Ac _ _ (Wk.mk _ _ [] ?_ ?_ ?_ rfl)
   .simp[vw,qg]
   .trivial
   .simp
 .simp only[↓vS,vT,simprocAttr,hlt,vZ];rw[zzk Ac]at hI;simp[hI,qnP]
def qq0(x:Int):∀(l:List Int) (j:Nat),decide (0<=qnP x l j)=decide (x ∈ l)
 | [],j=>by simp[qnP]
 | y::l,j=>by
  rw[qnP]
  by_cases h:x=y
  .simp[h]
  .rw[if_neg h,qq0 x l (j+1)];simp[h]
def qaw(a:Nat):IFn:=irJ 155 [212,a]
def qBp{g:Nat}(hc:Ck P f (qaw g))(hg:∀(xs:List Int) (x:Int),xs.length<=qe->qa P g [.fz xs.length (rI .i64 xs),.j x] (.j (qnP x xs 0)))(xs:List Int)(x:Int)(hl:xs.length<=qe):qa P f [.fz xs.length (rI .i64 xs),.j x] (.b (decide (x ∈ xs))):=by
 refine Bg ?_;simp only[qaw,vI,simprocAttr];refine Ae ?_;refine(hg xs x hl).sc ?_;refine Ae ?_;simp[vZ,<- qq0 x xs 0]
def inA(l:List Int)(x:Int):Bool:=decide (l=[])||decide (x ∈ l)
def qmP(a:Nat):IFn:=irJ 118 [155,a]
def qLs{g:Nat}(hc:Ck P f (qmP g))(hg:∀(xs:List Int) (x:Int),xs.length<=qe->qa P g [.fz xs.length (rI .i64 xs),.j x] (.b (decide (x ∈ xs))))(xs:List Int)(x:Int)(hl:xs.length<=qe):qa P f [.fz xs.length (rI .i64 xs),.j x] (.b (inA xs x)):=by
 refine Bg ?_;simp only[qmP,vI,simprocAttr]
 by_cases h:xs.length=0
 .have h':((xs.length:Int)=0)=True:=eq_true Ac;have hn:xs=[]:=Ad
  refine Sb h' ?_;simp[vZ,inA,hn]
 .have h':((xs.length:Int)=0)=False:=eq_false Ac;have hn:xs≠[]:=Ad
  refine Sb h' ?_;refine(hg xs x hl).sc ?_;refine Ae ?_;simp[vZ,inA,hn]
def qis(a:Int):List UInt8:=if a<0\/6<=a then []else(zO.getD a.toNat ([],0)).1
def qjZ(a:Nat):IFn:=irJ 29 [49,a]
def qJo{g:Nat}(hc:Ck P f (qjZ g))(hg:qa P g [] (.agg (zO.flatMap (qaY .u32))))(a:Int):qa P f [.j a] (.s (qis a)):=by
 refine Al ?_;simp only[qjZ,vI,simprocAttr]
 by_cases h1:a<0
 .refine Sb h1 ?_;simp[vZ,qis,h1]
 by_cases h2:6<=a
 .refine Sb (zzA h1 h2) ?_;simp[vZ,qis,h2]
 refine Sb (zzA h1 h2) ?_;refine hg.sc ?_;have h3:a=0\/a=1\/a=2\/a=3\/a=4\/a=5:=Ac
 rcases h3 with rfl|rfl|rfl|rfl|rfl|rfl <;>
 .simp only[↓vS,vT,simprocAttr,zO,qaY,zzv,List.flatMap_nil];simp[vZ,qis,zO]
def qqf(a:Int):(qis a≠[])↔(0<=a/\a<6):=by
 unfold qis;constructor
 .exact Ad
 .intro h;rw[if_neg Ac];have h3:a=0\/a=1\/a=2\/a=3\/a=4\/a=5:=Ac
  rcases h3 with rfl|rfl|rfl|rfl|rfl|rfl<;>decide
def zL(is:Int->Bool):Option Int->List Int->Bool
 | _,[]=>true
 | o,x::l=>is x&&(o.elim true λb=>decide (b<x))&&zL is (some x) l
def qdn:IFn:=irJ 27 []
def qIN(hc:Ck P f qdn)(xs:List Int)(g:Nat)(is:Int->Bool)(hg:∀x,qa P g [.j x] (.b (is x)))(hl:xs.length<=100000):qa P f [.fz xs.length (rI .i64 xs),.fn g [] []] (.b (zL is none xs)):=by
 refine Bg ?_;simp only[qdn,vI,simprocAttr];refine Ae ?_
 refine SL.loop (α:=Nat) (λj=>[(0,.fz xs.length (rI .i64 xs)),(1,.fn g [] []),(7,.fz xs.length (rI .i64 xs)),(8,.j xs.length),(9,.j j)]) (λ_=>[])
  (λj=>j<=xs.length/\zL is none xs=zL is (if j=0 then none else xs[j-1]?) (xs.drop j)) (λj=>xs.length-j) 0 [] ?_ ?_ ?_ rfl ?_ ?_
 .simp[vw,qg]
 .trivial
 .simp
 .exact Ad
 rintro j ⟨hj,hI⟩ G ih;refine Am ?_
 by_cases hlt:j<xs.length
 .have hx:xs[j]?=some xs[j]:=Ad
  have hw:=wS j;rw[zzf hlt,zL]at hI;generalize hc0:xs[j]=c at hI hx;simp only[↓vS,vT,simprocAttr,hlt,zzU,qbd,hx,zza];refine(hg c).sc ?_;cases hk:is c with
  | false =>
   have hw:zL is none xs=false:=by rw[hI];exact Ah
   refine Ae ?_;simp[vZ,hw]
  | true =>
   by_cases h0:j=0
   .subst h0;have hn:¬(0:Int)<((0:Nat):Int):=Af
    refine Sb (zzA hn hw) ?_;refine ih 1 ⟨Ac,?_⟩ Ac _ _ (Wk.mk _ _ [] ?_ ?_ ?_ rfl)
    .rw[hI,hk];exact Ah
    .simp[vw,qg]
     exact Ad
    .trivial
    .simp
   .have hp:(0:Int)<(j:Int):=Ac
    have hpl:j-1<xs.length:=Ac
    have hy:xs[j-1]?=some xs[j-1]:=Ad
    have hw2:IntKind.wrap .i64 ((j:Int)-1)=((j-1:Nat):Int):=by rw[qE Ac Ac];exact Ac
    rw[if_neg h0,hy]at hI
    by_cases hlt2:c<=xs[j-1]
    .have hwf:zL is none xs=false:=by rw[hI];exact Ah
     exact F6
    .simp only[↓vS,vT,simprocAttr,hp,hw2,hpl,hy,zzU,qbd,zza,hlt2,hw];refine ih (j+1) ⟨Ac,?_⟩ Ac _ _ (Wk.mk _ _ [] ?_ ?_ ?_ rfl)
     .rw[hI,hk];exact Ad
     .simp[vw,qg]
     .trivial
     .simp
 .rw[List.drop_of_length_le Ac,zL]at hI;exact Hg
def qbQ:IFn:=irJ 30 []
def qIO(hc:Ck P f qbQ)(xs:List Int)(g:Nat)(is:Int->Bool)(hg:∀x,qa P g [.w x] (.b (is x)))(hl:xs.length<=100000):qa P f [.fz xs.length (rI .u32 xs),.fn g [] []] (.b (zL is none xs)):=by
 refine Bg ?_;simp only[qbQ,vI,simprocAttr];refine Ae ?_
 refine SL.loop (α:=Nat) (λj=>[(0,.fz xs.length (rI .u32 xs)),(1,.fn g [] []),(7,.fz xs.length (rI .u32 xs)),(8,.j xs.length),(9,.j j)]) (λ_=>[])
  (λj=>j<=xs.length/\zL is none xs=zL is (if j=0 then none else xs[j-1]?) (xs.drop j)) (λj=>xs.length-j) 0 [] ?_ ?_ ?_ rfl ?_ ?_
 .simp[vw,qg]
 .trivial
 .simp
 .exact Ad
 rintro j ⟨hj,hI⟩ G ih;refine Am ?_
 by_cases hlt:j<xs.length
 .have hx:xs[j]?=some xs[j]:=Ad
  have hw:=wS j;rw[zzf hlt,zL]at hI;generalize hc0:xs[j]=c at hI hx;simp only[↓vS,vT,simprocAttr,hlt,zzU,qbd,hx,zza];refine(hg c).sc ?_;cases hk:is c with
  | false =>
   have hw:zL is none xs=false:=by rw[hI];exact Ah
   refine Ae ?_;simp[vZ,hw]
  | true =>
   by_cases h0:j=0
   .subst h0;have hn:¬(0:Int)<((0:Nat):Int):=Af
    refine Sb (zzA hn hw) ?_;refine ih 1 ⟨Ac,?_⟩ Ac _ _ (Wk.mk _ _ [] ?_ ?_ ?_ rfl)
    .rw[hI,hk];exact Ah
    .simp[vw,qg]
     exact Ad
    .trivial
    .simp
   .have hp:(0:Int)<(j:Int):=Ac
    have hpl:j-1<xs.length:=Ac
    have hy:xs[j-1]?=some xs[j-1]:=Ad
    have hw2:IntKind.wrap .i64 ((j:Int)-1)=((j-1:Nat):Int):=by rw[qE Ac Ac];exact Ac
    rw[if_neg h0,hy]at hI
    by_cases hlt2:c<=xs[j-1]
    .have hwf:zL is none xs=false:=by rw[hI];exact Ah
     exact F6
    .simp only[↓vS,vT,simprocAttr,hp,hw2,hpl,hy,zzU,qbd,zza,hlt2,hw];refine ih (j+1) ⟨Ac,?_⟩ Ac _ _ (Wk.mk _ _ [] ?_ ?_ ?_ rfl)
     .rw[hI,hk];exact Ad
     .simp[vw,qg]
     .trivial
     .simp
 .rw[List.drop_of_length_le Ac,zL]at hI;exact Hg
def jU(n:Int):List (List UInt8×Int)->List UInt8
 | []=>[]
 | p::l=>if p.2=n then p.1 else jU n l
def qdY:IFn:=irJ 51 []
def qLW(hc:Ck P f qdY)(l:List (List UInt8×Int))(n:Int)(hl:l.length<=qe):qa P f [.fz l.length (l.flatMap (qaY .u32)),.w n] (.s (jU n l)):=by
 refine qa.mk hc E4 ?_;simp only[qdY,vI,simprocAttr];refine Ae ?_;refine SL.loop (α:=Nat) (λj=>[(1,.w n),(7,.fz l.length (l.flatMap (qaY .u32))),(8,.j l.length),(9,.j j)]) (λ_=>[]) (λj=>j<=l.length/\jU n l=jU n (l.drop j)) (λj=>l.length-j) 0 [] ?_ ?_ ?_ rfl ?_ ?_
 .simp[vw]
 .trivial
 .simp
 .simp
 rintro j ⟨hj,hI⟩ G ih;refine Am ?_
 by_cases hlt:j<l.length
 .have hx:l[j]?=some l[j]:=Ad
  have hw:IntKind.wrap .i64 ((j:Int)+1)=(j:Int)+1:=qE Ac (by have:=hl;simp only[qe]at this;exact Ac)
  have he:=qI (f:=qaY .u32) (m:=2) qnn hx;have hb:j*2+2<=(l.flatMap (qaY .u32)).length:=by rw[zb (m:=2) qnn];exact Ac
  rw[zzf hlt,jU]at hI;simp only[↓vS,vT,simprocAttr,hlt,hb,he,qaY,hw];split
  .rename_i hs;rw[hI,if_pos hs];simp only[vZ,and_self,true_and]
  .rename_i hs;rw[if_neg hs]at hI;refine ih (j+1) ⟨Ac,hI⟩ Ac _ _ (Wk.mk _ _ [] ?_ ?_ ?_ rfl)
   .simp[vw]
   .trivial
   .simp
 .simp only[↓vS,vT,simprocAttr,hlt,vZ];rw[zzk Ac,jU]at hI;rw[hI]
def qdm(a b:Nat):IFn:=irJ 32 [50,a,51,b]
def qFK{g1 g2:Nat}(hc:Ck P f (qdm g1 g2))(h1:qa P g1 [] (.agg (zZ.flatMap (qaY .u32))))(h2:∀(l:List (List UInt8×Int)) (n:Int),l.length<=qe->qa P g2 [.fz l.length (l.flatMap (qaY .u32)),.w n] (.s (jU n l)))(n:Int):qa P f [.w n] (.s (jU n zZ)):=by
 refine Al ?_;simp only[qdm,vI,simprocAttr];refine Ae ?_;refine h1.sc ?_;simp only[↓vS,vT,simprocAttr,zZ,qaY,zzv,List.flatMap_nil];refine(h2 zZ n Af).lend (vs':=[.fz 8 (zZ.flatMap (qaY .u32)),.w n]) ?_ rfl ?_
 .refine .cons _ _ _ _ (.cut 2 rfl (zzL _) ?_) (.cons _ _ _ _ (.i _ _) .nil);simp[vw,zZ,qaY]
 simp only[↓vS,vT,simprocAttr,vZ,and_self,zZ]
def qgE:IFn:=irJ 26 []
def qMs(hc:Ck P f qgE)(c:GCall):qa P f [.agg (jI c)] (.b (decide (c.act≠0))):=by
 refine Al ?_;simp only[qgE,jI,vI,simprocAttr]
 by_cases h:c.act=0 <;>
 .refine Sb h ?_;simp[vZ,h]
def qgF(a:Nat):IFn:=irJ 28 [29,a]
def qMt{g:Nat}(hc:Ck P f (qgF g))(hg:∀a,qa P g [.j a] (.s (qis a)))(a:Int):qa P f [.j a] (.b (decide (0<=a)&&decide (a<6))):=by
 refine Al ?_;simp only[qgF,vI,simprocAttr];refine Ae ?_;refine(hg a).sc ?_;have h:=qqf a
 by_cases h':qis a=[]
 .have h2:(decide (0<=a)&&decide (a<6))=false:=by
   have:=mt h.2 (by simpa using h')
   exact Ad
  refine Sb h' ?_;simp[vZ,h2]
 .have h2:=h.1 h';refine Sb h' ?_;simp[vZ,h2]
def qnN(n:Int):Bool:=decide (jU n zZ≠[])
def qgG(a:Nat):IFn:=irJ 31 [32,a]
def qMu{g:Nat}(hc:Ck P f (qgG g))(hg:∀a,qa P g [.w a] (.s (jU a zZ)))(a:Int):qa P f [.w a] (.b (qnN a)):=by
 refine Al ?_;simp only[qgG,vI,simprocAttr];refine Ae ?_;refine(hg a).sc ?_;unfold qnN;generalize jU a zZ=s
 by_cases h':s=[] <;>
 .refine Sb h' ?_;simp[vZ,h']
def xo(a:Nat):IFn:=irJ 25 [48,a]
def qmO{α:Type}(p:α->Bool):∀(l:List α) (j:Nat),decide (0<=xH p l j)=l.any p
 | [],j=>by simp[xH]
 | x::l,j=>by
  rw[xH]
  by_cases h:p x=true
  .simp[h]
  .rw[if_neg h,qmO p l (j+1)];simp[h]
def qxk{g:Nat}(hc:Ck P f (xo g))(h:qfV 2 P g)(l:List GCall)(k:Nat)(p:GCall->Bool)(hk:∀c,qa P k [.agg (jI c)] (.b (p c)))(hl:l.length<=qe):qa P f [.fz l.length (rC l),.fn k [] []] (.b (l.any p)):=by
 refine qa.mk hc (by simp[qu,clo,ql]) ?_;simp only[xo,vI,simprocAttr];refine Ae ?_;refine(h jI p k [] [] l qdx rfl rfl hl λx _=>hk x).sc ?_
 refine Ae ?_;simp[vZ,<- qmO p l 0]
def qcq(a b c d e g h i:Nat):ICode:=icJ 11 [25,a,26,b,27,c,28,d,30,e,31,g,33,h,34,i] 127
def qaH(a b c d e g h i:Nat):ICode:=icJ 11 [25,a,26,b,27,c,28,d,30,e,31,g,33,h,34,i] 31 [7] [qcq a b c d e g h i]
def qaG(a b c d e g h i:Nat):ICode:=icJ 11 [25,a,26,b,27,c,28,d,30,e,31,g,33,h,34,i] 15 [3] [qaH a b c d e g h i]
def qiI(a b c d e g h i:Nat):IFn:=irJ 11 [25,a,26,b,27,c,28,d,30,e,31,g,33,h,34,i] [15] [qaG a b c d e g h i]
def qbT(p:Pol):Bool:=qdf p.filter&&qdf p.log&&decide (qaN .u64 p.spaces 2114060416=0)
def qCh{g1 g2 g3 g4 g5 g6 g7 g8:Nat}(h7:∀l:GList,l.calls.length<=100000->qa P g7 [.agg (qbC l)] (.b (qdf l)))
  (h8:qa P g8 [] (.x 2114060416)) (p:Pol) (hp:PolOk p) (o d m a fm:Bool) {t':Tr AV}{h':Hp}(hw:Wk 0 t' h' (mkT [(1,.ptr 0 0),(2,.b false),(3,.b o),(4,.b d),(5,.b m),(6,.b a),(7,.b fm)]) (mkH 0 [.v (qr p)])) :
  S P 0 (qcq g1 g2 g3 g4 g5 g6 g7 g8) (xG [.tmp 2] λv' h'=>Frz h' v' (.b (o&&d&&m&&a&&fm&&qbT p))) t' h':=by
 have hcc:=hp.c;have hl:=hp.l;refine B4 ?_;simp only[qcq,qr,vI,simprocAttr];refine Ae ?_;refine zB ?_;cases o
 .refine Ae ?_;simp[vZ]
 cases d
 .refine Ae ?_;simp[vZ]
 cases m
 .refine Ae ?_;simp[vZ]
 cases a
 .refine Ae ?_;simp[vZ]
 cases fm
 .refine Ae ?_;simp[vZ]
 refine Ae ?_;refine(h7 p.filter Ac).pc ?_;cases hF:qdf p.filter
 .refine Ae ?_;simp[vZ,qbT,hF]
 refine Ae ?_;refine(h7 p.log Ac).pc ?_;cases hL:qdf p.log
 .refine Ae ?_;simp[vZ,qbT,hF,hL]
 refine Ae ?_;refine h8.pc ?_;refine Ae ?_;simp[vZ,qbT,hF,hL]
def qCg{g1 g2 g3 g4 g5 g6 g7 g8:Nat}(h3:∀(xs:List Int) (g:Nat) (is:Int->Bool),(∀x,qa P g [.j x] (.b (is x)))->xs.length<=100000->qa P g3 [.fz xs.length (rI .i64 xs),.fn g [] []] (.b (zL is none xs)))
  (h4:∀a,qa P g4 [.j a] (.b (decide (0<=a)&&decide (a<6))))
  (h5:∀(xs:List Int) (g:Nat) (is:Int->Bool),(∀x,qa P g [.w x] (.b (is x)))->xs.length<=100000->qa P g5 [.fz xs.length (rI .u32 xs),.fn g [] []] (.b (zL is none xs)))
  (h6:∀a,qa P g6 [.w a] (.b (qnN a)))
  (h7:∀l:GList,l.calls.length<=100000->qa P g7 [.agg (qbC l)] (.b (qdf l)))
  (h8:qa P g8 [] (.x 2114060416)) (p:Pol) (hp:PolOk p) (o d m:Bool) {t':Tr AV}{h':Hp}(hw:Wk 0 t' h' (mkT [(1,.ptr 0 0),(2,.b false),(3,.b o),(4,.b d),(5,.b m)]) (mkH 0 [.v (qr p)])) :
  S P 0 (qaH g1 g2 g3 g4 g5 g6 g7 g8) (xG [.tmp 2] λv' h'=>Frz h' v' (.b (o&&d&&m&&zL (λa=>decide (0<=a)&&decide (a<6)) none p.arches&&zL qnN none p.fams&&qbT p))) t' h':=by
 have ha:=hp.a;have hf:=hp.f;refine B4 ?_;simp only[qaH,qr,vI,simprocAttr];refine Ae ?_;refine(h3 p.arches g4 _ h4 Ac).sc ?_;refine Ae ?_;refine(h5 p.fams g6 _ h6 Ac).sc ?_;refine Ae ?_;refine qCh h7 h8 p hp o d m _ _ (Wk.mk _ _ [0] ?_ ?_ ?_ rfl)
 .simp[vw]
 .simp[vw,qr,qg,ql]
 .simp
def qiW(p:Pol):Bool:=decide (p.fmode<=2)&&(decide (p.fmode≠0)||decide (p.fams=[]))
def qCf{g1 g2 g3 g4 g5 g6 g7 g8:Nat}(h3:∀(xs:List Int) (g:Nat) (is:Int->Bool),(∀x,qa P g [.j x] (.b (is x)))->xs.length<=100000->qa P g3 [.fz xs.length (rI .i64 xs),.fn g [] []] (.b (zL is none xs)))
  (h4:∀a,qa P g4 [.j a] (.b (decide (0<=a)&&decide (a<6))))
  (h5:∀(xs:List Int) (g:Nat) (is:Int->Bool),(∀x,qa P g [.w x] (.b (is x)))->xs.length<=100000->qa P g5 [.fz xs.length (rI .u32 xs),.fn g [] []] (.b (zL is none xs)))
  (h6:∀a,qa P g6 [.w a] (.b (qnN a)))
  (h7:∀l:GList,l.calls.length<=100000->qa P g7 [.agg (qbC l)] (.b (qdf l)))
  (h8:qa P g8 [] (.x 2114060416)) (p:Pol) (hp:PolOk p) (o d:Bool) {t':Tr AV}{h':Hp}(hw:Wk 0 t' h' (mkT [(1,.ptr 0 0),(2,.b false),(3,.b o),(4,.b d)]) (mkH 0 [.v (qr p)])) :
  S P 0 (qaG g1 g2 g3 g4 g5 g6 g7 g8) (xG [.tmp 2] λv' h'=>Frz h' v' (.b (o&&d&&qiW p&&zL (λa=>decide (0<=a)&&decide (a<6)) none p.arches&&zL qnN none p.fams&&qbT p))) t' h':=by
 refine B4 ?_;simp only[qaG,qr,vI,simprocAttr]
 have go:∀m,m=qiW p->∀{t':Tr AV}{h':Hp},Wk 0 t' h' (mkT [(1,.ptr 0 0),(2,.b false),(3,.b o),(4,.b d),(5,.b m)]) (mkH 0 [.v (qr p)])->S P 0 (qaH g1 g2 g3 g4 g5 g6 g7 g8) (xG [.tmp 2] λv' h'=>Frz h' v' (.b (o&&d&&qiW p&&zL (λa=>decide (0<=a)&&decide (a<6)) none p.arches&&zL qnN none p.fams&&qbT p))) t' h':=by
  rintro m rfl t' h' hw;exact qCg h3 h4 h5 h6 h7 h8 p hp o d _ hw
 by_cases m1:p.fmode<=2
 .by_cases m2:p.fmode=0
  .by_cases m3:p.fams=[]
   .have h0:(p.fams.length:Int)=0:=by rw[m3];rfl
    refine Sb (zzA m1 (zzA m2 h0)) ?_;refine go true (by simp[qiW,m1,m2,m3]) (Wk.mk _ _ [0] ?_ ?_ ?_ rfl)
    .simp[vw]
    .simp[vw,qr,qg,ql,m2]
    .simp
   .have h0:((p.fams.length:Int)=0)=False:=Ad
    refine Sb (zzA m1 (zzA m2 h0)) ?_;refine go false (by simp[qiW,m1,m2,m3]) (Wk.mk _ _ [0] ?_ ?_ ?_ rfl)
    .simp[vw]
    .simp[vw,qr,qg,ql,m2]
    .simp
  .refine Sb (zzA m1 m2) ?_;refine go true (by simp[qiW,m1,m2]) (Wk.mk _ _ [0] ?_ ?_ ?_ rfl)
   .simp[vw]
   .simp[vw,qr,qg,ql]
   .simp
 .refine Sb m1 ?_;refine go false (by simp[qiW,m1]) (Wk.mk _ _ [0] ?_ ?_ ?_ rfl)
  .simp[vw]
  .simp[vw,qr,qg,ql]
  .simp
def qgp(n:Int):Bool:=decide (n=2147483648)||(decide (327680<=n)&&decide (n<=331775))
def qae(p:Pol):Bool:=!(p.log.calls.any λc=>decide (c.act≠0))&&qgp p.deny&&qiW p&&zL (λa=>decide (0<=a)&&decide (a<6)) none p.arches&&zL qnN none p.fams&&qbT p
def qII{g1 g2 g3 g4 g5 g6 g7 g8:Nat}(hc:Ck P f (qiI g1 g2 g3 g4 g5 g6 g7 g8))
  (h1:∀(l:List GCall) (k:Nat) (p:GCall->Bool),(∀c,qa P k [.agg (jI c)] (.b (p c)))->l.length<=qe->qa P g1 [.fz l.length (rC l),.fn k [] []] (.b (l.any p)))
  (h2:∀c,qa P g2 [.agg (jI c)] (.b (decide (c.act≠0))))
  (h3:∀(xs:List Int) (g:Nat) (is:Int->Bool),(∀x,qa P g [.j x] (.b (is x)))->xs.length<=100000->qa P g3 [.fz xs.length (rI .i64 xs),.fn g [] []] (.b (zL is none xs)))
  (h4:∀a,qa P g4 [.j a] (.b (decide (0<=a)&&decide (a<6))))
  (h5:∀(xs:List Int) (g:Nat) (is:Int->Bool),(∀x,qa P g [.w x] (.b (is x)))->xs.length<=100000->qa P g5 [.fz xs.length (rI .u32 xs),.fn g [] []] (.b (zL is none xs)))
  (h6:∀a,qa P g6 [.w a] (.b (qnN a)))
  (h7:∀l:GList,l.calls.length<=100000->qa P g7 [.agg (qbC l)] (.b (qdf l)))
  (h8:qa P g8 [] (.x 2114060416)) (p:Pol) (hp:PolOk p):qa P f [.agg (qr p)] (.b (qae p)):=by
 have hl:=hp.l;refine Al ?_
 have go:∀d,d=qgp p.deny->∀{t':Tr AV}{h':Hp},Wk 0 t' h' (mkT [(1,.ptr 0 0),(2,.b false),(3,.b (!(p.log.calls.any λc=>decide (c.act≠0)))),(4,.b d)]) (mkH 0 [.v (qr p)])->S P 0 (qaG g1 g2 g3 g4 g5 g6 g7 g8) (xG [.tmp 2] λv' h'=>Frz h' v' (.b (qae p))) t' h':=by
  rintro d rfl t' h' hw;exact qCf h3 h4 h5 h6 h7 h8 p hp _ _ hw
 simp only[qiI,qr,vI,simprocAttr];refine Ae ?_;refine(h1 p.log.calls g2 _ h2 (by simp only[qe];exact Ac)).sc ?_
 by_cases d1:p.deny=2147483648
 .refine Sb d1 ?_;refine go true (by simp[qgp,d1]) (Wk.mk _ _ [0] ?_ ?_ ?_ rfl)
  .simp[vw]
  .simp[vw,qr,qg,ql,d1]
  .simp
 by_cases d2:327680<=p.deny
 .by_cases d3:p.deny<=331775
  .refine Sb (zzA d1 (zzA d2 d3)) ?_;refine go true (by simp[qgp,d1,d2,d3]) (Wk.mk _ _ [0] ?_ ?_ ?_ rfl)
   .simp[vw]
   .simp[vw,qr,qg,ql]
   .simp
  .refine Sb (zzA d1 (zzA d2 d3)) ?_;refine go false (by simp[qgp,d1,d2,d3]) (Wk.mk _ _ [0] ?_ ?_ ?_ rfl)
   .simp[vw]
   .simp[vw,qr,qg,ql]
   .simp
 .refine Sb (zzA d1 d2) ?_;refine go false (by simp[qgp,d1,d2]) (Wk.mk _ _ [0] ?_ ?_ ?_ rfl)
  .simp[vw]
  .simp[vw,qr,qg,ql]
  .simp
def qwm{s m:Int}(h0:0<=s)(h1:s<18446744073709551616):decide (xK .u64 s m=s)=decide (qaN .u64 s m=0):=by
 have hs:s=((BitVec.ofInt 64 s).toNat:Int):=by
  rw[BitVec.toNat_ofInt];exact Ac
 have hw:∀x:BitVec 64,IntKind.wrap .u64 (x.toNat:Int)=x.toNat:=λx=>qb3 Ac (by have:=x.isLt;exact Ac)
 have e1:xK .u64 s m=(BitVec.ofInt 64 s &&& BitVec.ofInt 64 m).toNat:=hw _;have e2:qaN .u64 s m=(BitVec.ofInt 64 s &&& ~~~ (BitVec.ofInt 64 m)).toNat:=hw _;rw[e1,e2];generalize BitVec.ofInt 64 s=x at hs ⊢;generalize BitVec.ofInt 64 m=y;rw[hs,Bool.eq_iff_iff,zzb,zzb];have a1:(((x &&& y).toNat:Int)=x.toNat)↔x &&& y=x:=by rw[Int.ofNat_inj,<- BitVec.toNat_inj]
 have a2:(((x &&& ~~~y).toNat:Int)=0)↔x &&& ~~~y=0:=by
  rw[<- BitVec.toNat_inj];simp
 rw[a1,a2];constructor
 .exact Ah
 .intro h
  have:x=(x &&& y) ||| (x &&& ~~~ y):=by
   rw[<- BitVec.and_or_distrib_left,BitVec.or_not_self,BitVec.and_allOnes]
  rw[h,show(0:BitVec 64)=0#64 from rfl,BitVec.or_zero]at this;exact Ah
structure PolR (p:Pol):Prop where
 fams:∀x ∈ p.fams,0<=x/\x<=4294967295
 deny:0<=p.deny/\p.deny<=4294967295
 spaces:0<=p.spaces/\p.spaces<18446744073709551616
 filter:Rng p.filter.calls
 log:Rng p.log.calls
def qGt(p:Pol):Bool:=qiW p&&qdf p.filter&&qdf p.log&&qgp p.deny&&decide (qaN .u64 p.spaces 2114060416=0)
def qGs(p:Pol):Bool:=!(p.log.calls.any λc=>decide (c.act≠0))&&qGt p
def qGr(p:Pol):Bool:=zL qnN none p.fams&&qGs p
def qty(p:Pol):qae p=(zL (λa=>decide (0<=a)&&decide (a<6)) none p.arches&&qGr p):=by
 unfold qae qGr qGs qGt qbT
 exact Ah
structure GTest where
 arg:Int
 mask:Int
 val:Int
 act:Int
def jM(t:GTest):List AV:=[.j t.arg,.x t.mask,.x t.val,.w t.act]
def qdy(t:GTest):(jM t).length=4:=rfl
def rT(l:List GTest):List AV:=l.flatMap jM
structure GRule where
 nr:Int
 tests:List GTest
 act:Int
def zx(r:GRule):List AV:=[.w r.nr,.fz r.tests.length (rT r.tests),.w r.act]
def qce(r:GRule):(zx r).length=3:=rfl
def rR(l:List GRule):List AV:=l.flatMap zx
structure GFil where
 arch:Int
 rules:List GRule
 dflt:Int
def zn(x:GFil):List AV:=[.j x.arch,.fz x.rules.length (rR x.rules),.w x.dflt]
section
variable {l m:List GTest}{j:Nat}
def qe8:(rT l).length=l.length*4:=zb qdy l
def xe:qu (rT l)=true:=x4 λ_=>rfl
def qzE:qF (rT l)=true:=qmu λ_=>rfl
def qt0{c:GTest}(h:l[j]?=some c):((rT l).drop (j*4)).take 4=jM c:=qI qdy h
def qzD{c:GTest}(h:l[j]?=some c){i:Nat}(hi:i<4):(rT l)[j*4+i]?=(jM c)[i]?:=qcP qdy h hi
def qst:rT l++rT m=rT (l++m):=by simp[rT]
def qzC(h:j<l.length):j*4+4<=(rT l).length:=by rw[qe8];exact Ac
end
section
variable {l m:List GRule}{j:Nat}
def qhN:(rR l).length=l.length*3:=zb qce l
def qo:qu (rR l)=true:=x4 λ_=>rfl
def qtX{c:GRule}(h:l[j]?=some c):((rR l).drop (j*3)).take 3=zx c:=qI qce h
def qss{c:GRule}(h:l[j]?=some c){i:Nat}(hi:i<3):(rR l)[j*3+i]?=(zx c)[i]?:=qcP qce h hi
def qzt:rR l++rR m=rR (l++m):=by simp[rR]
def qzu(h:j<l.length):j*3+3<=(rR l).length:=by rw[qhN];exact Ac
end
def qds(x:List UInt8×List Int)(a:Int):Option Int :=
 if a<0\/6<=a\/x.2.getD a.toNat 0<0 then none else some (if a=2 then orI .u32 (IntKind.wrap .u32 (x.2.getD a.toNat 0)) 1073741824 else IntKind.wrap .u32 (x.2.getD a.toNat 0))
def qfF(a:Int)(s:List UInt8):Option Int:=(qD.find? (λx=>decide (x.1=s))).bind λx=>qds x a
def qfG(x:List UInt8×List Int)(i:Nat)(hi:i<6):qds x (i:Int)=if x.2.getD i 0<0 then none else some (if(i:Int)=2 then orI .u32 (IntKind.wrap .u32 (x.2.getD i 0)) 1073741824 else IntKind.wrap .u32 (x.2.getD i 0)):=by
 unfold qds;rw[Int.toNat_natCast]
 exact Ah
def qcR:IFn:=irJ 21 []
def qLl(hc:Ck P f qcR)(x:List UInt8×List Int)(a:Int):qa P f [.agg (jS x),.j a] (match qds x a with|some n=>.tup [.w n,.b true]|none=>.tup [.w 0,.b false]):=by
 refine Al ?_;simp only[qcR,jS,vI,simprocAttr]
 by_cases h1:a<0
 .refine Sb h1 ?_;simp[vZ,qds,h1]
 by_cases h2:6<=a
 .refine Sb (zzA h1 h2) ?_;simp[vZ,qds,h2]
 have h3:a=0\/a=1\/a=2\/a=3\/a=4\/a=5:=Ac
 clear h1 h2;rcases h3 with rfl|rfl|rfl|rfl|rfl|rfl <;>
 .first
   | rw[show qds x 0=_ from qfG x 0 Af]
   | rw[show qds x 1=_ from qfG x 1 Af]
   | rw[show qds x 2=_ from qfG x 2 Af]
   | rw[show qds x 3=_ from qfG x 3 Af]
   | rw[show qds x 4=_ from qfG x 4 Af]
   | rw[show qds x 5=_ from qfG x 5 Af]
  generalize x.2.getD _ 0=v0
  by_cases h4:v0<0
  .refine Sa h4 ?_;simp[vZ]
  .refine Sa h4 ?_;simp[vZ]
def qet:IFn:=irJ 345 []
def qKn(hc:Ck P f qet)(s:List UInt8)(x:List UInt8×List Int):qa P f [.agg (jS x),.pf [.s s] 0] (.b (decide (x.1=s))):=by
 refine qa.mk hc (by simp[qu,clo,jS]) ?_;simp only[qet,jS,vI,simprocAttr];exact Fd
def qgt(a b c:Nat):IFn:=irJ 289 [345,a,81,b,21,c]
def qEk{g1 g2 g3:Nat}(hc:Ck P f (qgt g1 g2 g3))(h1:∀s x,qa P g1 [.agg (jS x),.pf [.s s] 0] (.b (decide (x.1=s))))
  (h2:∀(p:List UInt8×List Int->Bool) (g:Nat) (a c:List AV),qu a=true->qu c=true->(∀x ∈ qD,qa P g (a++([.agg (jS x)]++c)) (.b (p x)))->qa P g2 [.fn g a c] (qpP p))
  (h3:∀x a,qa P g3 [.agg (jS x),.j a] (match qds x a with|some n=>.tup [.w n,.b true]|none=>.tup [.w 0,.b false])) (a:Int) (s:List UInt8) :
  qa P f [.j a,.s s] (match qfF a s with|some n=>.tup [.w n,.j 0]|none=>.tup [.w 0,.j 90]):=by
 refine Al ?_;simp only[qgt,vI,simprocAttr];refine Ae ?_;refine(h2 (λx=>decide (x.1=s)) g1 [] [.pf [.s s] 0] rfl rfl (λx _=>h1 s x)).lend (vs':=[.fn g1 [] [.pf [.s s] 0]]) ?_ ?_ ?_
 .exact Fe
 .unfold qpP;split<;>rfl
 unfold qpP qfF;cases hf:qD.find? (λx=>decide (x.1=s))with
 | none =>
  have e:=h3 ([],[0,0,0,0,0,0]) a;refine Ae ?_;refine e.sc ?_;cases hn:qds ([],[0,0,0,0,0,0]) a with
  | none =>
   refine Ae ?_;simp[vZ]
  | some n =>
   refine Ae ?_;simp[vZ]
 | some x =>
  simp only[jS,↓vS,vT,simprocAttr];refine(h3 x a).sc ?_;cases hn:qds x a with
  | none =>
   refine Ae ?_;simp[vZ,hn]
  | some n =>
   refine Ae ?_;simp[vZ,hn]
def z6(mode:Int)(n:Nat)(al dn:Bool):Bool:=if mode=1 then al||decide (0<n)else if mode=2 then dn||decide (0<n)else false
def qhn:IFn:=irJ 215 []
def qGf(hc:Ck P f qhn)(mode:Int)(n:Nat)(al dn:Bool):qa P f [.y mode,.j n,.b al,.b dn] (.b (z6 mode n al dn)):=by
 refine Al ?_;simp only[qhn,vI,simprocAttr]
 by_cases m1:mode=1
 .cases al
  .refine Sb m1 ?_;simp[vZ,z6]
  .refine Sb m1 ?_;simp[vZ,z6]
 by_cases m2:mode=2
 .cases dn
  .refine Sb (zzA m1 m2) ?_;simp[vZ,z6]
  .refine Sb (zzA m1 m2) ?_;simp[vZ,z6]
 refine Sb (zzA m1 m2) ?_;simp[vZ,z6,m1,m2]
def qfs:IFn:=irJ 214 []
def qLY(hc:Ck P f qfs)(x y:Int):qa P f [.fz 2 (rI .u32 [x,y])] (.w (if x=0 then y else x)):=by
 refine Bg ?_;simp only[qfs,rI,zz3,List.map_nil,vI,simprocAttr];refine Ae ?_;refine qcz ?_
 by_cases h1:x=0
 .refine Ii ?_;refine qcz ?_
  by_cases h2:y=0
  .refine Ih ?_;refine qcz ?_;simp only[↓vS,vT,simprocAttr,Int.reduceLT];simp[vZ,h1,h2]
  .refine Ih ?_;simp[vZ,h1]
 .refine Ii ?_;simp[vZ,h1]
def qL(arg mask act:Int)(l:List Int):List GTest:=l.map λv=>⟨arg,mask,v,act⟩
def zw(arg act:Int)(l:List Int):List GTest:=l.map λv=>⟨arg,v,v,act⟩
def qpd(P:Program)(f:Nat):Prop:=∀(arg mask act:Int) (l:List Int),l.length<=100000->Own P f [.j arg,.x mask,.w act,.fz l.length (rI .u64 l)] (.own 0 l.length) [.cells 4 true true (rT (qL arg mask act l))]
def qpb(P:Program)(f:Nat):Prop:=∀(arg act:Int) (l:List Int),l.length<=100000->Own P f [.j arg,.w act,.fz l.length (rI .u64 l)] (.own 0 l.length) [.cells 4 true true (rT (zw arg act l))]
def qho:IFn:=irJ 216 []
def qIV(hc:Ck P f qho):qpd P f:=by
 intro arg mask act l hl;refine Own.mk hc (by simp[qu,clo,qg]) ?_;simp only[qho,vI,simprocAttr];refine Ae ?_
 refine SL.loop (α:=Nat) (λj=>[(0,.j arg),(1,.x mask),(2,.w act),(9,.own 0 j),(12,.fz l.length (rI .u64 l)),(13,.j l.length),(14,.j j)]) (λj=>[.cells 4 true true (rT (qL arg mask act (l.take j)))])
  (λj=>j<=l.length) (λj=>l.length-j) 0 [9] ?_ ?_ ?_ rfl ?_ ?_
 .simp[vw,qg]
 .simp[vw,rT,qL]
 .simp
 .exact Ac
 rintro j hj G ih;refine Am ?_
 by_cases hlt:j<l.length
 .have hx:l[j]?=some l[j]:=Ad
  have hw:=wS j;have hr1:j+1<=qe:=by simp only[qe];exact Ac
  have hr2:(j+1)*32<=qe:=by simp only[qe];exact Ac
  have hln:(rT (qL arg mask act (l.take j))).length=j*4:=by rw[qe8];simp[qL];exact Ac
  have hb:j*4<=(rT (qL arg mask act (l.take j))).length:=Ac
  have htk:(rT (qL arg mask act (l.take j))).take (j*4)=rT (qL arg mask act (l.take j)):=zzt Ac
  have hap:rT (qL arg mask act (l.take j))++[AV.j arg,.x mask,.x l[j],.w act]=rT (qL arg mask act (l.take (j+1))):=by
   rw[zz2,hx];simp only[Option.toList_some,qL,List.map_append,zz3,List.map_nil];rw[<- qst];rfl
  simp +decide only[↓vS,vT,simprocAttr,hlt,zzU,qbd,hx,zza,hw,hr1,hr2,hln,htk,hap];refine ih (j+1) hlt Ac _ _ (Wk.mk _ _ [2] ?_ ?_ ?_ rfl)
  .simp[vw,qg]
  .simp[vw,qd,xe]
  .simp
 .have hj':j=l.length:=Ac
  exact G8
def qiH:IFn:=irJ 218 []
def qJt(hc:Ck P f qiH):qpb P f:=by
 intro arg act l hl;refine Own.mk hc (by simp[qu,clo,qg]) ?_;simp only[qiH,vI,simprocAttr];refine Ae ?_
 refine SL.loop (α:=Nat) (λj=>[(0,.j arg),(1,.w act),(7,.own 0 j),(10,.fz l.length (rI .u64 l)),(11,.j l.length),(12,.j j)]) (λj=>[.cells 4 true true (rT (zw arg act (l.take j)))])
  (λj=>j<=l.length) (λj=>l.length-j) 0 [9] ?_ ?_ ?_ rfl ?_ ?_
 .simp[vw,qg]
 .simp[vw,rT,zw]
 .simp
 .exact Ac
 rintro j hj G ih;refine Am ?_
 by_cases hlt:j<l.length
 .have hx:l[j]?=some l[j]:=Ad
  have hw:=wS j;have hr1:j+1<=qe:=by simp only[qe];exact Ac
  have hr2:(j+1)*32<=qe:=by simp only[qe];exact Ac
  have hln:(rT (zw arg act (l.take j))).length=j*4:=by rw[qe8];simp[zw];exact Ac
  have htk:(rT (zw arg act (l.take j))).take (j*4)=rT (zw arg act (l.take j)):=zzt Ac
  have hap:rT (zw arg act (l.take j))++[AV.j arg,.x l[j],.x l[j],.w act]=rT (zw arg act (l.take (j+1))):=by
   rw[zz2,hx];simp only[Option.toList_some,zw,List.map_append,zz3,List.map_nil];rw[<- qst];rfl
  simp +decide only[↓vS,vT,simprocAttr,hlt,zzU,qbd,hx,zza,hw,hr1,hr2,hln,htk,hap];refine ih (j+1) hlt Ac _ _ (Wk.mk _ _ [2] ?_ ?_ ?_ rfl)
  .simp[vw,qg]
  .simp[vw,qd,xe]
  .simp
 .have hj':j=l.length:=Ac
  exact G8
def jN(s:Int):List Int:=(qU.map (·.2)).filter λn=>decide (xK .u64 s n≠0)
def qhp(a:Nat):IFn:=irJ 217 [54,a]
def qFO{g:Nat}(hc:Ck P f (qhp g))(hg:qa P g [] (.agg (qU.flatMap (qaY .u64))))(s:Int):qa P f [.x s] (.fz (jN s).length (rI .u64 (jN s))):=by
 refine Al ?_;simp only[qhp,vI,simprocAttr];refine Ae ?_;refine hg.sc ?_;refine Ae ?_;have hlen:(qU.flatMap (qaY .u64)).length=16:=Af
 refine SL.loop (α:=Nat) (λj=>[(0,.x s),(3,.own 0 ((((qU.take j).map (·.2)).filter λn=>decide (xK .u64 s n≠0)).length)),(6,.agg (qU.flatMap (qaY .u64))),(7,.j j)])
  (λj=>[.cells 1 true true (rI .u64 (((qU.take j).map (·.2)).filter λn=>decide (xK .u64 s n≠0)))])
  (λj=>j<=8) (λj=>8-j) 0 [9] ?_ ?_ ?_ rfl ?_ ?_
 .simp[vw,qU,qaY]
 .simp[vw,rI]
 .simp
 .exact Ac
 rintro j hj G ih;refine Am ?_
 by_cases hlt:j<8
 .have hlt':(j:Int)<8:=Ac
  have hjl:j<qU.length:=hlt;have hx:qU[j]?=some qU[j]:=Ad
  have hw:=wS j;have he:=qI (f:=qaY .u64) (m:=2) qnn hx;have hb:j*2+2<=(qU.flatMap (qaY .u64)).length:=Ac
  generalize hA:((qU.take j).map (·.2)).filter (λn=>decide (xK .u64 s n≠0))=A
  have hA1:((qU.take (j+1)).map (·.2)).filter (λn=>decide (xK .u64 s n≠0))=A++(if xK .u64 s qU[j].2=0 then []else [qU[j].2]):=by
   rw[zz2,hx,List.map_append,List.filter_append,hA]
   by_cases h:xK .u64 s qU[j].2=0<;>simp[h]
  have hAl:A.length<=j:=by
   rw[<- hA];exact Ah
  generalize hc0:qU[j]=c at hx he hA1;generalize hT:qU.flatMap (qaY .u64)=T at he hb hlen;have hTc:qu T=true:=by rw[<- hT];rfl
  have hr1:A.length+1<=qe:=by simp only[qe];exact Ac
  have hr2:(A.length+1)*8<=qe:=by simp only[qe];exact Ac
  by_cases h0:xK .u64 s c.2=0
  .rw[if_pos h0,List.append_nil]at hA1;simp only[↓vS,vT,simprocAttr,hlt',hlt,he,hb,qaY,h0,hw];refine ih (j+1) hlt Ac _ _ (Wk.mk _ _ [0] ?_ ?_ ?_ rfl)
   .rw[hA1,hT];simp[vw,qd,hTc]
   .rw[hA1];simp[vw,qd,qg]
   .simp
  .rw[if_neg h0]at hA1;have hap:rI .u64 A++[AV.x c.2]=rI .u64 (A++[c.2]):=by rw[<- qsq];rfl
   simp +decide only[↓vS,vT,simprocAttr,hlt',hlt,he,hb,qaY,h0,hw,hr1,hr2,qaf,zzU,hap];refine ih (j+1) hlt Ac _ _ (Wk.mk _ _ [3] ?_ ?_ ?_ rfl)
   .rw[hA1,hT];simp[vw,qd,hTc]
   .rw[hA1];simp[vw,qd,qg]
   .simp
 .have hj':j=8:=Ac
  subst hj';have hlt':¬(((8:Nat):Int)<8):=Af
  refine Sb hlt' ?_;refine .own 0 _ 1 true _ _ ?_ (λh0=>?_) (Frzs.self qg)
  .simp[zz4,jN,qU]
  .have h0:(jN s).length=0:=h0;exact Gp
def zz:IFn:=irJ 290 []
def qFp(hc:Ck P f zz):qbB P f 4 32:=by
 intro n rows hlen hcl hok hr1 hr2;refine Own.of_SC E4 ?_;cases n with
 | zero =>
  obtain rfl:rows=[]:=Ad
  refine SC.nil0 (SC.mk hc (qj ?_)) (SC.mk hc (qj ?_))
  .simp only[zz,vI,simprocAttr];refine Ae ?_;intro _;refine⟨[1],?_⟩;simp[vw]
  .simp only[zz,vI,simprocAttr];exact F7
 | succ n =>
  refine Bb ?_;simp only[zz,vI,simprocAttr];have h1:1<=n+1:=Ac
  have h2:(n+1)*4<=rows.length:=Ac
  have h3:rows.take ((n+1)*4)=rows:=Ah
  have h4:¬(n+1<=0):=Ac
  exact Dx
def mkC(p:Pol)(a d:Int)(b n:Nat):List AV:=qr p++[.j a,.own b n,.w d]
def mkB(p:Pol)(a d:Int)(b n:Nat):Blk:=.v (mkC p a d b n)
def qY(a act:Int)(ts:List GTest)(ns:List (List UInt8)):List GRule:=ns.filterMap λs=>(qfF a s).map λn=>⟨n,ts,act⟩
def qc6(P:Program)(f:Nat):Prop:=∀(p:Pol) (a d act:Int) (ts:List GTest) (ns:List (List UInt8)) (rs:List GRule),ts.length<=100000->rs.length+ns.length<=100000->
 Upd P f [.ptr 0 0,.w act,.fz ts.length (rT ts),.fz ns.length (rS ns)] [mkB p a d 1 rs.length,.cells 3 true true (rR rs)] (.tup [])
  [mkB p a d 2 (rs++qY a act ts ns).length,.dead,.cells 3 true true (rR (rs++qY a act ts ns))]
def qdl(a b:Nat):IFn:=irJ 213 [289,a,290,b]
def qKL{g1 g2:Nat}(hc:Ck P f (qdl g1 g2))
  (h1:∀(a:Int) (s:List UInt8),qa P g1 [.j a,.s s] (match qfF a s with|some n=>.tup [.w n,.j 0]|none=>.tup [.w 0,.j 90])) (h2:qbB P g2 4 32):qc6 P f:=by
 intro p a d act ts ns rs hts hrs;refine Bi ?_;simp only[qdl,mkB,mkC,qr,vI,simprocAttr,zzC,zzN];refine Ae ?_
 refine SL.loopd (α:=Nat) (λj=>[(0,.ptr 0 0),(1,.w act),(2,.fz ts.length (rT ts)),(12,.fz ns.length (rS ns)),(13,.j ns.length),(14,.j j)])
  (λj=>[mkB p a d 2 (rs++qY a act ts (ns.take j)).length,.dead,.cells 3 true true (rR (rs++qY a act ts (ns.take j)))])
  (λj=>j<=ns.length) (λj=>ns.length-j) 0 [0,1,1] ?_ ?_ ?_ rfl (by simp) ?_ ?_ ?_
 .simp[vw,xe,xz]
 .simp[vw,mkB,mkC,qr,qY,qd,qo,ql,qg]
 .simp[jR,mkB]
 .intro b hb;have:b=0\/b=1:=Ac
  exact Av
 .exact Ac
 rintro j hj G ih;refine Gx ?_
 by_cases hlt:j<ns.length
 .have hx:ns[j]?=some ns[j]:=Ad
  have hg:(rS ns)[j]?=some (.s ns[j]):=by rw[qpL,hx];rfl
  have hw:=wS j
  have hnx:qY a act ts (ns.take (j+1))=qY a act ts (ns.take j)++((qfF a ns[j]).map λn=>⟨n,ts,act⟩).toList:=by
   rw[zz2,hx];unfold qY;rw[List.filterMap_append];cases hq:qfF a ns[j]<;>simp[hq]
  have hl1:(qY a act ts (ns.take j)).length<=j:=by
   unfold qY;exact Ah
  generalize hA:rs++qY a act ts (ns.take j)=A;have hAl:A.length<=rs.length+j:=by rw[<- hA];exact Ah
  have hA1:rs++qY a act ts (ns.take (j+1))=A++((qfF a ns[j]).map λn=>⟨n,ts,act⟩).toList:=by rw[hnx,<- zzi,hA]
  generalize hs0:ns[j]=s at hg hA1;simp only[↓vS,vT,simprocAttr,hlt,zzU,hg];refine(h1 a s).sc ?_;cases hn:qfF a s with
  | none =>
   rw[hn]at hA1;simp only[Option.map_none,Option.toList_none,List.append_nil]at hA1;refine Sa hw ?_;refine ih (j+1) hlt Ac _ _ (Wk.mkd _ _ [0,1,2] ?_ ?_ ?_ rfl (by simp) ?_)
   .simp[vw,xe,xz]
   .rw[hA1];exact B6
   .simp[jR,mkB]
   .intro b hb;have:b=0\/b=1:=Ac
    exact Av
  | some n =>
   rw[hn]at hA1;simp only[zza,Option.toList_some]at hA1;have hr1:A.length+1<=qe:=by simp only[qe];exact Ac
   have hr2:(A.length+1)*40<=qe:=by simp only[qe];exact Ac
   refine Sa hw ?_;refine zB ?_;refine Ae ?_;refine(h2.pure qe8 xe qzE (by simp only[qe];exact Ac) (by simp only[qe];exact Ac)).pc ?_;have hap:rR A++[AV.w n,.fz ts.length (rT ts),.w act]=rR (A++[⟨n,ts,act⟩]):=by rw[<- qzt];rfl
   have htk:(rR A).take (A.length*3)=rR A:=zzt (by rw[qhN];exact Ac);simp +decide only[↓vS,vT,simprocAttr,hr1,hr2,qhN,htk,hap];refine ih (j+1) hlt Ac _ _ (Wk.mkd _ _ [0,1,4] ?_ ?_ ?_ rfl (by simp) ?_)
   .simp[vw,xe,xz];exact Ac
   .rw[hA1];exact B6
   .simp[jR,mkB]
   .intro b hb;have:b=0\/b=1:=Ac
    exact Av
 .have hj':j=ns.length:=Ac
  subst hj';refine Sb hlt ?_;intro _;rw[zz0];refine Gs ?_
  exact Ah
def xh(P:Program)(f:Nat)(F:Pol->Int->Bool×List GRule×Int):Prop:=∀(p:Pol) (a:Int),PolOk p->PolR p->
 Upd P f [.ptr 0 0] [mkB p a 2147418112 1 0,.cells 3 true true (rR [])] (.b (F p a).1) [mkB p a (F p a).2.2 2 (F p a).2.1.length,.dead,.cells 3 true true (rR (F p a).2.1)]
def qgN(a own:Int)(l:List GCall):List GRule:=l.flatMap λc=>qY a (if c.act=0 then own else c.act) [] [c.name]
def qjR(p:Pol)(a:Int):Bool×List GRule×Int:=(z6 p.filter.mode p.filter.calls.length true false,qgN a (if p.filter.mode=1 then 2147418112 else p.deny) p.filter.calls,if p.filter.mode=1 then p.deny else 2147418112)
def qaJ(a act:Int)(ts:List GTest)(ns:List (List UInt8)):(qY a act ts ns).length<=ns.length:=List.length_filterMap_le _ _
def qqG(a own:Int):∀l,(qgN a own l).length<=l.length
 | []=>zzL _
 | c::l=>by
  have h1:=qqG a own l;have h2:=qaJ a (if c.act=0 then own else c.act) [] [c.name]
  simp only[qgN,zzv,zzP,zze,List.length_nil]at h1 h2 ⊢;exact Ac
def quY{a own:Int}{l:List GCall}{j:Nat}{c:GCall}(h:l[j]?=some c):qgN a own (l.take (j+1))=qgN a own (l.take j)++qY a (if c.act=0 then own else c.act) [] [c.name]:=by
 rw[zz2,h];simp[qgN]
def jF(a b c:Nat):ICode:=icJ 156 [214,a,213,b,215,c] 15 [] [] ⟨[213],false,[]⟩
def qca(a b c:Nat):IFn:=irJ 156 [214,a,213,b,215,c] [15] [jF a b c] ⟨[213],false,[]⟩
def qm5{g1 g2 g3:Nat}(h1:∀x y,qa P g1 [.fz 2 (rI .u32 [x,y])] (.w (if x=0 then y else x)))(h2:qc6 P g2)(h3:∀mode n al dn,qa P g3 [.y mode,.j (n:Nat),.b al,.b dn] (.b (z6 mode n al dn)))
  (p:Pol) (a d own:Int) (hp:PolOk p) {t':Tr AV}{h':Hp}(hw:Wk 2 t' h' (mkT [(0,.ptr 0 0),(3,.w own)]) (mkH 0 [mkB p a d 1 0,.cells 3 true true (rR [])])) :
  S P 2 (jF g1 g2 g3) (xG [.tmp 2] (qp5 2 (.b (z6 p.filter.mode p.filter.calls.length true false)) [mkB p a d 2 (qgN a own p.filter.calls).length,.dead,.cells 3 true true (rR (qgN a own p.filter.calls))])) t' h':=by
 have hl:=hp.c;refine B4 ?_;simp only[jF,mkB,mkC,qr,zzC,zzN,vI,simprocAttr];refine Ae ?_
 refine SL.loopd (α:=Nat) (λj=>[(0,.ptr 0 0),(3,.w own),(32,.fz p.filter.calls.length (rC p.filter.calls)),(33,.j p.filter.calls.length),(34,.j j)])
  (λj=>[mkB p a d 2 (qgN a own (p.filter.calls.take j)).length,.dead,.cells 3 true true (rR (qgN a own (p.filter.calls.take j)))])
  (λj=>j<=p.filter.calls.length) (λj=>p.filter.calls.length-j) 0 [0,1,1] ?_ ?_ ?_ rfl (by simp) ?_ ?_ ?_
 .simp[vw,ql]
 .simp[vw,mkB,mkC,qr,qgN,qd,qo,ql,qg]
 .simp[jR,mkB]
 .intro b hb;have:b=0\/b=1:=Ac
  exact Av
 .exact Ac
 rintro j hj G ih;refine Gx ?_
 by_cases hlt:j<p.filter.calls.length
 .have hx:p.filter.calls[j]?=some p.filter.calls[j]:=Ad
  have he:=qpH hx;have hb:=qng hlt;have hw:=wS j;have hA1:=quY (a:=a) (own:=own) hx;have hl1:=qqG a own (p.filter.calls.take j);rw[zzm,Nat.min_eq_left Ac]at hl1;generalize hA:qgN a own (p.filter.calls.take j)=A at hA1 hl1;generalize hc0:p.filter.calls[j]=c at he hA1;simp only[↓vS,vT,simprocAttr,hlt,hb,he,jI];refine zB ?_;refine Ae ?_;refine(h1 c.act own).lendp (vs':=[.fz 2 (rI .u32 [c.act,own])]) ?_ rfl ?_
  .refine .cons _ _ _ _ (.cut 1 rfl (zzL _) ?_) .nil;simp[vw,rI]
  refine Ae ?_;refine PC.give (vs':=[.ptr 0 0,.w (if c.act=0 then own else c.act),.fz 0 (rT []),.fz 1 (rS [c.name])]) [(5,.v [.s c.name])] ?_ ?_ ?_
  .exact Fw
  .refine C6 ?_;simp[vw,trP,rS]
  refine Eu ?_;refine(h2 p a d (if c.act=0 then own else c.act) [] [c.name] A (by simp) Ah).pc (vs:=[.ptr 0 0,.w (if c.act=0 then own else c.act),.fz 0 (rT []),.fz 1 (rS [c.name])]) [0,2] (Lent.of Af ?_) ?_
  .exact As
  rw[<- hA1];refine At ?_;refine Sb hw ?_;refine ih (j+1) hlt Ac _ _ (Wk.mkd _ _ [0,1,6] ?_ ?_ ?_ rfl (by simp) ?_)
  .simp[vw,ql]
  .exact B6
  .simp[jR,mkB]
  .intro b hb;have:b=0\/b=1:=Ac
   exact Av
 .have hj':j=p.filter.calls.length:=Ac
  subst hj';refine Sb hlt ?_;refine zB ?_;refine Ae ?_;refine(h3 p.filter.mode p.filter.calls.length true false).pc ?_;refine Ae ?_;rw[zz0];intro _;refine Gs ?_
  exact Ah
def qEh{g1 g2 g3:Nat}(hc:Ck P f (qca g1 g2 g3))(h1:∀x y,qa P g1 [.fz 2 (rI .u32 [x,y])] (.w (if x=0 then y else x)))(h2:qc6 P g2)(h3:∀mode n al dn,qa P g3 [.y mode,.j (n:Nat),.b al,.b dn] (.b (z6 mode n al dn))):xh P f qjR:=by
 intro p a hp hR;refine Bi ?_;simp only[qca,mkB,mkC,qr,vI,simprocAttr,zzC,zzN]
 by_cases m:p.filter.mode=1
 .refine Sb m ?_;have e:qjR p a=(z6 p.filter.mode p.filter.calls.length true false,qgN a 2147418112 p.filter.calls,p.deny):=by simp[qjR,m]
  rw[e];refine qm5 h1 h2 h3 p a p.deny 2147418112 hp (Wk.mkd _ _ [0,1] ?_ ?_ ?_ rfl (by simp) ?_)
  .simp[vw]
  .simp[vw,mkB,mkC,qr,qd,qo,ql,qg,m,rR]
  .simp[jR,mkB]
  .intro b hb;have:b=0\/b=1:=Ac
   exact Av
 .refine Sb m ?_;have e:qjR p a=(z6 p.filter.mode p.filter.calls.length true false,qgN a p.deny p.filter.calls,2147418112):=by simp[qjR,m]
  rw[e];refine qm5 h1 h2 h3 p a 2147418112 p.deny hp (Wk.mkd _ _ [0,1] ?_ ?_ ?_ rfl (by simp) ?_)
  .simp[vw]
  .exact Hx
  .simp[jR,mkB]
  .intro b hb;have:b=0\/b=1:=Ac
   exact Av
def qgO(a own:Int)(l:List GCall):List GRule:=l.flatMap λc=>qY a own [] [c.name]
def qkg(p:Pol)(a:Int):Bool×List GRule×Int:=(z6 p.log.mode p.log.calls.length false true,qgO a (if p.log.mode=2 then 2147418112 else 2147221504) p.log.calls,if p.log.mode=2 then 2147221504 else 2147418112)
def qre(a own:Int):∀l,(qgO a own l).length<=l.length
 | []=>zzL _
 | c::l=>by
  have h1:=qre a own l;have h2:=qaJ a own [] [c.name];simp only[qgO,zzv,zzP,zze,List.length_nil]at h1 h2 ⊢;exact Ac
def qvn{a own:Int}{l:List GCall}{j:Nat}{c:GCall}(h:l[j]?=some c):qgO a own (l.take (j+1))=qgO a own (l.take j)++qY a own [] [c.name]:=by
 rw[zz2,h];simp[qgO]
def qac(a b:Nat):ICode:=icJ 157 [213,a,215,b] 15
def qdX(a b:Nat):IFn:=irJ 157 [213,a,215,b] [15] [qac a b]
def qtB{g2 g3:Nat}(h2:qc6 P g2)(h3:∀mode n al dn,qa P g3 [.y mode,.j (n:Nat),.b al,.b dn] (.b (z6 mode n al dn)))
  (p:Pol) (a d own:Int) (hp:PolOk p) {t':Tr AV}{h':Hp}(hw:Wk 2 t' h' (mkT [(0,.ptr 0 0),(3,.w own)]) (mkH 0 [mkB p a d 1 0,.cells 3 true true (rR [])])) :
  S P 2 (qac g2 g3) (xG [.tmp 2] (qp5 2 (.b (z6 p.log.mode p.log.calls.length false true)) [mkB p a d 2 (qgO a own p.log.calls).length,.dead,.cells 3 true true (rR (qgO a own p.log.calls))])) t' h':=by
 have hl:=hp.l;refine B4 ?_;simp only[qac,mkB,mkC,qr,zzC,zzN,vI,simprocAttr];refine Ae ?_
 refine SL.loopd (α:=Nat) (λj=>[(0,.ptr 0 0),(3,.w own),(22,.fz p.log.calls.length (rC p.log.calls)),(23,.j p.log.calls.length),(24,.j j)])
  (λj=>[mkB p a d 2 (qgO a own (p.log.calls.take j)).length,.dead,.cells 3 true true (rR (qgO a own (p.log.calls.take j)))])
  (λj=>j<=p.log.calls.length) (λj=>p.log.calls.length-j) 0 [0,1,1] ?_ ?_ ?_ rfl (by simp) ?_ ?_ ?_
 .simp[vw,ql]
 .simp[vw,mkB,mkC,qr,qgO,qd,qo,ql,qg]
 .simp[jR,mkB]
 .intro b hb;have:b=0\/b=1:=Ac
  exact Av
 .exact Ac
 rintro j hj G ih;refine Gx ?_
 by_cases hlt:j<p.log.calls.length
 .have hx:p.log.calls[j]?=some p.log.calls[j]:=Ad
  have he:=qpH hx;have hb:=qng hlt;have hw:=wS j;have hA1:=qvn (a:=a) (own:=own) hx;have hl1:=qre a own (p.log.calls.take j);rw[zzm,Nat.min_eq_left Ac]at hl1;generalize hA:qgO a own (p.log.calls.take j)=A at hA1 hl1;generalize hc0:p.log.calls[j]=c at he hA1;simp only[↓vS,vT,simprocAttr,hlt,hb,he,jI];refine SC.give (vs':=[.ptr 0 0,.w own,.fz 0 (rT []),.fz 1 (rS [c.name])]) [(4,.v [.s c.name])] ?_ ?_ ?_
  .exact Fw
  .refine C6 ?_;simp[vw,trP,rS]
  refine Eu ?_;refine(h2 p a d own [] [c.name] A (by simp) Ah).sc (vs:=[.ptr 0 0,.w own,.fz 0 (rT []),.fz 1 (rS [c.name])]) [0,2] (Lent.of Af ?_) ?_
  .exact As
  rw[<- hA1];refine At ?_;refine Sb hw ?_;refine ih (j+1) hlt Ac _ _ (Wk.mkd _ _ [0,1,5] ?_ ?_ ?_ rfl (by simp) ?_)
  .simp[vw,ql]
  .exact B6
  .simp[jR,mkB]
  .intro b hb;have:b=0\/b=1:=Ac
   exact Av
 .have hj':j=p.log.calls.length:=Ac
  subst hj';refine Sb hlt ?_;refine zB ?_;refine Ae ?_;refine(h3 p.log.mode p.log.calls.length false true).pc ?_;refine Ae ?_;rw[zz0];intro _;refine Gs ?_
  exact Ah
def qKi{g2 g3:Nat}(hc:Ck P f (qdX g2 g3))(h2:qc6 P g2)(h3:∀mode n al dn,qa P g3 [.y mode,.j (n:Nat),.b al,.b dn] (.b (z6 mode n al dn))):xh P f qkg:=by
 intro p a hp hR;refine Bi ?_;simp only[qdX,mkB,mkC,qr,vI,simprocAttr,zzC,zzN]
 by_cases m:p.log.mode=2
 .refine Sb m ?_;have e:qkg p a=(z6 p.log.mode p.log.calls.length false true,qgO a 2147418112 p.log.calls,2147221504):=by simp[qkg,m]
  rw[e];refine qtB h2 h3 p a 2147221504 2147418112 hp (Wk.mkd _ _ [0,1] ?_ ?_ ?_ rfl (by simp) ?_)
  .simp[vw]
  .simp[vw,mkB,mkC,qr,qd,qo,ql,qg,m,rR]
  .simp[jR,mkB]
  .intro b hb;have:b=0\/b=1:=Ac
   exact Av
 .refine Sb m ?_;have e:qkg p a=(z6 p.log.mode p.log.calls.length false true,qgO a 2147221504 p.log.calls,2147418112):=by simp[qkg,m]
  rw[e];refine qtB h2 h3 p a 2147418112 2147221504 hp (Wk.mkd _ _ [0,1] ?_ ?_ ?_ rfl (by simp) ?_)
  .simp[vw]
  .exact Hx
  .simp[jR,mkB]
  .intro b hb;have:b=0\/b=1:=Ac
   exact Av
def qi3(P:Program)(f:Nat):Prop:=∀(arg mask act:Int) (l:List Int),l.length<=100000->qa P f [.j arg,.x mask,.w act,.fz l.length (rI .u64 l)] (.fz (qL arg mask act l).length (rT (qL arg mask act l)))
def qDP(P:Program)(f:Nat):Prop:=∀(arg act:Int) (l:List Int),l.length<=100000->qa P f [.j arg,.w act,.fz l.length (rI .u64 l)] (.fz (zw arg act l).length (rT (zw arg act l)))
theorem qpd.pure(h:qpd P f):qi3 P f:=by
 intro arg mask act l hl;rw[show(qL arg mask act l).length=l.length by simp[qL]]
 refine(h arg mask act l hl).pure E4 ?_;exact Bh
theorem qpb.pure(h:qpb P f):qDP P f:=by
 intro arg act l hl;rw[show(zw arg act l).length=l.length by simp[zw]]
 refine(h arg act l hl).pure E4 ?_;exact Bh
def qbX:List UInt8:=[115,99,104,101,100,95,115,101,116,115,99,104,101,100,117,108,101,114]
def rtM(p:Pol)(a:Int):Bool×List GRule×Int:=(p.rt,qY a 327681 (qL 1 4294967295 2147418112 [0,3,5]) [qbX],2147418112)
def qbl(a b:Nat):IFn:=irJ 162 [216,a,213,b]
def qAu{g1 g2:Nat}(hc:Ck P f (qbl g1 g2))(h1:qi3 P g1)(h2:qc6 P g2):xh P f rtM:=by
 intro p a hp hR;refine Bi ?_;simp only[qbl,mkB,mkC,qr,vI,simprocAttr,zzC,zzN];refine Ae ?_;refine SC.give (vs':=[.j 1,.x 4294967295,.w 2147418112,.fz 3 (rI .u64 [0,3,5])]) [(2,.v [.x 0,.x 3,.x 5])] ?_ ?_ ?_
 .intro q hq;simp at hq;subst hq;exact Bn
 .refine An ?_;simp[vw,trP,rI]
 refine Eu ?_;refine(h1 1 4294967295 2147418112 [0,3,5] Af).sc ?_;generalize hts:qL 1 4294967295 2147418112 [0,3,5]=ts;have hl:ts.length<=100000:=by rw[<- hts];exact Af
 refine Ae ?_;refine SC.give (vs':=[.ptr 0 0,.w 327681,.fz ts.length (rT ts),.fz 1 (rS [qbX])]) [(3,.v [.s qbX])] ?_ ?_ ?_
 .intro q hq;simp at hq;subst hq;simp[zz4,qbX]
 .refine An ?_;simp[vw,trP,rS,qbX]
 refine Eu ?_;refine(h2 p a 2147418112 327681 ts [qbX] [] hl (by simp)).sc (vs:=[.ptr 0 0,.w 327681,.fz ts.length (rT ts),.fz 1 (rS [qbX])]) [0,1] (Lent.of Af ?_) ?_
 .exact As
 refine At ?_;refine Ae ?_;intro _;refine⟨[0,1,4],?_⟩;simp[vw,rtM,hts,mkB,mkC,qr,qd,qo,ql,qg,jR,rl]
 exact Ah
def xr:List UInt8:=[115,111,99,107,101,116]
def xc:List UInt8:=[117,110,115,104,97,114,101]
def jA:List UInt8:=[99,108,111,110,101]
def xQ:List UInt8:=[115,101,116,110,115]
def xq:List UInt8:=[99,108,111,110,101,51]
def qbg:List UInt8:=[109,109,97,112]
def z7:List UInt8:=[109,112,114,111,116,101,99,116]
def qT:List UInt8:=[112,107,101,121,95,109,112,114,111,116,101,99,116]
def wo:List UInt8:=[115,104,109,97,116]
def zl:List UInt8:=[112,101,114,115,111,110,97,108,105,116,121]
def peM(p:Pol)(a:Int):Bool×List GRule×Int:=(p.pe,qY a 327681 (qL 0 4294967295 2147418112 [0,4294967295]) [zl],2147418112)
def qav(a b:Nat):IFn:=irJ 161 [216,a,213,b]
def qvr{g1 g2:Nat}(hc:Ck P f (qav g1 g2))(h1:qi3 P g1)(h2:qc6 P g2):xh P f peM:=by
 intro p a hp hR;refine Bi ?_;simp only[qav,mkB,mkC,qr,vI,simprocAttr,zzC,zzN];refine Ae ?_;refine SC.give (vs':=[.j 0,.x 4294967295,.w 2147418112,.fz 2 (rI .u64 [0,4294967295])]) [(2,.v [.x 0,.x 4294967295])] ?_ ?_ ?_
 .intro q hq;simp at hq;subst hq;exact Bn
 .refine An ?_;simp[vw,trP,rI]
 refine Eu ?_;refine(h1 0 4294967295 2147418112 [0,4294967295] Af).sc ?_;generalize hts0:qL 0 4294967295 2147418112 [0,4294967295]=ts0;have hlts0:ts0.length<=100000:=by rw[<- hts0];exact Af
 refine Ae ?_;refine SC.give (vs':=[.ptr 0 0,.w 327681,.fz ts0.length (rT ts0),.fz 1 (rS [zl])]) [(3,.v [.s zl])] ?_ ?_ ?_
 .intro q hq;simp at hq;subst hq;simp[zz4,zl]
 .refine An ?_;simp[vw,trP,rS,zl]
 refine Eu ?_;refine(h2 p a 2147418112 327681 ts0 [zl] [] hlts0 (by simp)).sc (vs:=[.ptr 0 0,.w 327681,.fz ts0.length (rT ts0),.fz 1 (rS [zl])]) [0,1] (Lent.of Af ?_) ?_
 .exact As
 refine At ?_
 have hlA:(qY a 327681 ts0 [zl]).length<=1:=by
  have:=qaJ a 327681 ts0 [zl];simp only[zzP,zze,List.length_nil]at this ⊢;exact Ac
 generalize hA0:qY a 327681 ts0 [zl]=A0 at hlA;refine Ae ?_;intro _;refine⟨[0,1,4],?_⟩;have e:(peM p a).2.1=A0:=by simp only[peM,<- hA0,<- hts0]
 rw[e];simp[vw,peM,mkB,mkC,qr,qd,qo,ql,qg,jR,rl]
 exact Ah
def weM(p:Pol)(a:Int):Bool×List GRule×Int:=(p.we,qY a 2147418112 (zw 2 327681 [6]) [qbg]++qY a 2147418112 (zw 2 327681 [4]) [z7,qT]++qY a 2147418112 (zw 2 327681 [32768]) [wo],2147418112)
def qak(a b:Nat):IFn:=irJ 160 [218,a,213,b]
def qtD{g1 g2:Nat}(hc:Ck P f (qak g1 g2))(h1:qDP P g1)(h2:qc6 P g2):xh P f weM:=by
 intro p a hp hR;refine Bi ?_;simp only[qak,mkB,mkC,qr,vI,simprocAttr,zzC,zzN];refine Ae ?_;refine SC.give (vs':=[.j 2,.w 327681,.fz 1 (rI .u64 [6])]) [(2,.v [.x 6])] ?_ ?_ ?_
 .intro q hq;simp at hq;subst hq;exact Bn
 .exact Cd
 refine Eu ?_;refine(h1 2 327681 [6] Af).sc ?_;generalize hts0:zw 2 327681 [6]=ts0;have hlts0:ts0.length<=100000:=by rw[<- hts0];exact Af
 refine Ae ?_;refine SC.give (vs':=[.ptr 0 0,.w 2147418112,.fz ts0.length (rT ts0),.fz 1 (rS [qbg])]) [(3,.v [.s qbg])] ?_ ?_ ?_
 .intro q hq;simp at hq;subst hq;simp[zz4,qbg]
 .refine An ?_;simp[vw,trP,rS,qbg]
 refine Eu ?_;refine(h2 p a 2147418112 2147418112 ts0 [qbg] [] hlts0 (by simp)).sc (vs:=[.ptr 0 0,.w 2147418112,.fz ts0.length (rT ts0),.fz 1 (rS [qbg])]) [0,1] (Lent.of Af ?_) ?_
 .exact As
 refine At ?_
 have hlA:(qY a 2147418112 ts0 [qbg]).length<=1:=by
  have:=qaJ a 2147418112 ts0 [qbg];simp only[zzP,zze,List.length_nil]at this ⊢;exact Ac
 generalize hA0:qY a 2147418112 ts0 [qbg]=A0 at hlA;refine Ae ?_;refine SC.give (vs':=[.j 2,.w 327681,.fz 1 (rI .u64 [4])]) [(5,.v [.x 4])] ?_ ?_ ?_
 .intro q hq;simp at hq;subst hq;exact Bn
 .exact Cd
 refine Eu ?_;refine(h1 2 327681 [4] Af).sc ?_;generalize hts1:zw 2 327681 [4]=ts1;have hlts1:ts1.length<=100000:=by rw[<- hts1];exact Af
 refine Ae ?_;refine SC.give (vs':=[.ptr 0 0,.w 2147418112,.fz ts1.length (rT ts1),.fz 2 (rS [z7,qT])]) [(6,.v [.s z7,.s qT])] ?_ ?_ ?_
 .intro q hq;simp at hq;subst hq;simp[zz4,z7,qT]
 .refine An ?_;simp[vw,trP,rS,z7,qT]
 refine Eu ?_;refine(h2 p a 2147418112 2147418112 ts1 [z7,qT] A0 hlts1 (by simp;exact Ac)).sc (vs:=[.ptr 0 0,.w 2147418112,.fz ts1.length (rT ts1),.fz 2 (rS [z7,qT])]) [0,4] (Lent.of Af ?_) ?_
 .exact As
 refine At ?_
 have hlA:(A0++qY a 2147418112 ts1 [z7,qT]).length<=3:=by
  have:=qaJ a 2147418112 ts1 [z7,qT];simp only[zzP,zze,List.length_nil]at this ⊢;exact Ac
 generalize hA1:A0++qY a 2147418112 ts1 [z7,qT]=A1 at hlA;refine Ae ?_;refine SC.give (vs':=[.j 2,.w 327681,.fz 1 (rI .u64 [32768])]) [(8,.v [.x 32768])] ?_ ?_ ?_
 .intro q hq;simp at hq;subst hq;exact Bn
 .exact Cd
 refine Eu ?_;refine(h1 2 327681 [32768] Af).sc ?_;generalize hts2:zw 2 327681 [32768]=ts2;have hlts2:ts2.length<=100000:=by rw[<- hts2];exact Af
 refine Ae ?_;refine SC.give (vs':=[.ptr 0 0,.w 2147418112,.fz ts2.length (rT ts2),.fz 1 (rS [wo])]) [(9,.v [.s wo])] ?_ ?_ ?_
 .intro q hq;simp at hq;subst hq;simp[zz4,wo]
 .refine An ?_;simp[vw,trP,rS,wo]
 refine Eu ?_;refine(h2 p a 2147418112 2147418112 ts2 [wo] A1 hlts2 (by simp;exact Ac)).sc (vs:=[.ptr 0 0,.w 2147418112,.fz ts2.length (rT ts2),.fz 1 (rS [wo])]) [0,7] (Lent.of Af ?_) ?_
 .exact As
 refine At ?_
 have hlA:(A1++qY a 2147418112 ts2 [wo]).length<=4:=by
  have:=qaJ a 2147418112 ts2 [wo];simp only[zzP,zze,List.length_nil]at this ⊢;exact Ac
 generalize hA2:A1++qY a 2147418112 ts2 [wo]=A2 at hlA;refine Ae ?_;intro _;refine⟨[0,1,10],?_⟩;have e:(weM p a).2.1=A2:=by simp only[weM,<- hA2,<- hA1,<- hA0,<- hts0,<- hts1,<- hts2]
 rw[e];simp[vw,weM,mkB,mkC,qr,qd,qo,ql,qg,jR,rl]
 exact Ah
def nsM(p:Pol)(a:Int):Bool×List GRule×Int:=(decide (p.spaces≠0),qY a 2147418112 (zw 0 327681 (jN p.spaces)) [xc,jA]++qY a 2147418112 (zw 1 327681 (jN p.spaces)++qL 1 4294967295 327681 [0]) [xQ]++qY a 327718 [] [xq],2147418112)
def qaL(a b c d:Nat):IFn:=irJ 159 [217,a,218,b,213,c,216,d]
def qv2{g0 g1 g2 g3:Nat}(hc:Ck P f (qaL g0 g1 g2 g3))(h0:∀s,qa P g0 [.x s] (.fz (jN s).length (rI .u64 (jN s))))(hb:qpb P g1)(h1:qi3 P g3)(h2:qc6 P g2):xh P f nsM:=by
 intro p a hp hR;refine Bi ?_;simp only[qaL,mkB,mkC,qr,vI,simprocAttr,zzC,zzN];refine Ae ?_;refine(h0 p.spaces).sc ?_;have hfl:(jN p.spaces).length<=8:=zzg (List.length_filter_le _ _) Af;generalize hF:jN p.spaces=F at hfl;refine Ae ?_;refine(hb.pure 0 327681 F Ac).sc ?_;have hlts0:(zw 0 327681 F).length<=100000:=by simp[zw];exact Ac
 generalize hts0:zw 0 327681 F=ts0 at hlts0;refine Ae ?_;refine SC.give (vs':=[.ptr 0 0,.w 2147418112,.fz ts0.length (rT ts0),.fz 2 (rS [xc,jA])]) [(2,.v [.s xc,.s jA])] ?_ ?_ ?_
 .intro q hq;simp at hq;subst hq;simp[zz4,xc,jA]
 .refine An ?_;simp[vw,trP,rS,xc,jA]
 refine Eu ?_;refine(h2 p a 2147418112 2147418112 ts0 [xc,jA] [] hlts0 (by simp)).sc (vs:=[.ptr 0 0,.w 2147418112,.fz ts0.length (rT ts0),.fz 2 (rS [xc,jA])]) [0,1] (Lent.of Af ?_) ?_
 .exact As
 refine At ?_
 have hlA:(qY a 2147418112 ts0 [xc,jA]).length<=2:=by
  have:=qaJ a 2147418112 ts0 [xc,jA];simp only[zzP,zze,List.length_nil]at this ⊢;exact Ac
 generalize hA0:qY a 2147418112 ts0 [xc,jA]=A0 at hlA;refine Ae ?_;refine(hb 1 327681 F Ac).sc ?_;simp only[vJ,simprocAttr,xt xe];have hlb:(zw 1 327681 F).length=F.length:=by simp[zw]
 have hlbT:(rT (zw 1 327681 F)).length=F.length*4:=by rw[qe8,hlb]
 refine Ae ?_;refine SC.give (vs':=[.j 1,.x 4294967295,.w 327681,.fz 1 (rI .u64 [0])]) [(5,.v [.x 0])] ?_ ?_ ?_
 .intro q hq;simp at hq;subst hq;exact Bn
 .refine An ?_;simp[vw,trP,rI]
 refine Eu ?_;refine(h1 1 4294967295 327681 [0] Af).sc ?_;generalize hts1:qL 1 4294967295 327681 [0]=ts1;have hlts1:ts1.length<=100000:=by rw[<- hts1];exact Af
 refine Ae ?_;have hl1:ts1.length=1:=by rw[<- hts1];rfl
 have hl1T:(rT ts1).length=4:=by rw[qe8,hl1]
 obtain⟨ts2,hts2⟩:∃x,zw 1 327681 F++ts1=x:=⟨_,rfl⟩;have hl2:F.length+1=ts2.length:=by rw[<- hts2,zzP,hlb,hl1]
 have hr1:ts2.length<=qe:=by simp only[qe];exact Ac
 have hr2:ts2.length*32<=qe:=by simp only[qe];exact Ac
 have hlts2:ts2.length<=100000:=Ac
 have htk:(rT (zw 1 327681 F)).take (F.length*4)=rT (zw 1 327681 F):=zzt Ac;have htk1:(rT ts1).take 4=rT ts1:=Ah
 have hok:qF (rT ts1)=true:=qzE;simp +decide only[↓vS,vT,simprocAttr,hl1,hl1T,hlbT,htk,htk1,hl2,hr1,hr2,qst,hts2,hok];refine SC.give (vs':=[.ptr 0 0,.w 2147418112,.fz ts2.length (rT ts2),.fz 1 (rS [xQ])]) [(6,.cells 4 true true (rT ts2)),(7,.v [.s xQ])] ?_ ?_ ?_
 .intro q hq;simp at hq;rcases hq with rfl|rfl<;>simp[zz4,xQ]
 .refine .keep _ _ _ (.keep _ _ _ (.fz _ _ _ _ (.own 6 _ 4 true (rT ts2) _ ?_ (λh0=>?_) (Frzs.self xe)) (.fz _ _ _ _ (.cut 1 rfl (zzL _) ?_) .nil)))
  .simp[trP,zz4]
  .exact Gp
  simp[vw,trP,rS,xQ]
 refine Eu ?_;refine(h2 p a 2147418112 2147418112 ts2 [xQ] A0 hlts2 (by simp;exact Ac)).sc (vs:=[.ptr 0 0,.w 2147418112,.fz ts2.length (rT ts2),.fz 1 (rS [xQ])]) [0,3] (Lent.of Af ?_) ?_
 .exact As
 refine At ?_
 have hlA:(A0++qY a 2147418112 ts2 [xQ]).length<=3:=by
  have:=qaJ a 2147418112 ts2 [xQ];simp only[zzP,zze,List.length_nil]at this ⊢;exact Ac
 generalize hA1:A0++qY a 2147418112 ts2 [xQ]=A1 at hlA;refine Ae ?_;refine SC.give (vs':=[.ptr 0 0,.w 327718,.fz 0 (rT []),.fz 1 (rS [xq])]) [(9,.v [.s xq])] ?_ ?_ ?_
 .intro q hq;simp at hq;subst hq;simp[zz4,xq]
 .refine C6 ?_;simp[vw,trP,rS,xq]
 refine Eu ?_;refine(h2 p a 2147418112 327718 [] [xq] A1 (by simp) (by simp;exact Ac)).sc (vs:=[.ptr 0 0,.w 327718,.fz 0 (rT []),.fz 1 (rS [xq])]) [0,8] (Lent.of Af ?_) ?_
 .exact As
 refine At ?_
 have hlA:(A1++qY a 327718 [] [xq]).length<=4:=by
  have:=qaJ a 327718 [] [xq];simp only[zzP,zze,List.length_nil]at this ⊢;exact Ac
 generalize hA2:A1++qY a 327718 [] [xq]=A2 at hlA;refine Ae ?_;intro _;refine⟨[0,1,10],?_⟩;have e:(nsM p a).2.1=A2:=by simp only[nsM,<- hA2,<- hA1,<- hA0,<- hts2,<- hts0,<- hts1,<- hF]
 rw[e];simp[vw,nsM,mkB,mkC,qr,qd,qo,ql,qg,jR,rl]
 exact Ah
def fmM(p:Pol)(a:Int):Bool×List GRule×Int :=
 (z6 p.fmode p.fams.length true false,qY a (if p.fmode=2 then 2147418112 else 327777) (qL 0 4294967295 (if p.fmode=2 then 327777 else 2147418112) p.fams) [xr],2147418112)
def je(a b c:Nat):ICode:=icJ 158 [216,a,213,b,215,c] 63
def jd(a b c:Nat):ICode:=icJ 158 [216,a,213,b,215,c] 15 [7] [je a b c]
def qbk(a b c:Nat):IFn:=irJ 158 [216,a,213,b,215,c] [15] [jd a b c]
def qCj{g1 g2 g3:Nat}(h1:qi3 P g1)(h2:qc6 P g2)(h3:∀mode n al dn,qa P g3 [.y mode,.j (n:Nat),.b al,.b dn] (.b (z6 mode n al dn)))
  (p:Pol) (a nm ot:Int) (hp:PolOk p) {t':Tr AV}{h':Hp}(hw:Wk 2 t' h' (mkT [(0,.ptr 0 0),(2,.b false),(3,.w nm),(4,.w ot),(5,.own 2 p.fams.length)]) (mkH 0 [mkB p a 2147418112 1 0,.cells 3 true true (rR []),.cells 1 true true (rI .u64 p.fams)])) :
  S P 2 (je g1 g2 g3) (xG [.tmp 2] (qp5 2 (.b (z6 p.fmode p.fams.length true false)) [mkB p a 2147418112 2 (qY a ot (qL 0 4294967295 nm p.fams) [xr]).length,.dead,.cells 3 true true (rR (qY a ot (qL 0 4294967295 nm p.fams) [xr]))])) t' h':=by
 have hl:=hp.f;refine B4 ?_;simp only[je,mkB,mkC,qr,zzC,zzN,vI,simprocAttr];refine Ae ?_;refine SC.give (vs':=[.j 0,.x 4294967295,.w nm,.fz p.fams.length (rI .u64 p.fams)]) [(2,.cells 1 true true (rI .u64 p.fams))] ?_ ?_ ?_
 .intro q hq;simp at hq;subst hq;exact Bn
 .refine .keep _ _ _ (.keep _ _ _ (.keep _ _ _ (.fz _ _ _ _ (.own 2 _ 1 true (rI .u64 p.fams) _ ?_ (λh0=>?_) (Frzs.self qg)) .nil)))
  .simp[trP,zz4]
  .exact Gp
 refine Eu ?_;refine(h1 0 4294967295 nm p.fams Ac).sc ?_;have hlts:(qL 0 4294967295 nm p.fams).length<=100000:=by simp[qL];exact Ac
 generalize hts:qL 0 4294967295 nm p.fams=ts at hlts;refine Ae ?_;refine SC.give (vs':=[.ptr 0 0,.w ot,.fz ts.length (rT ts),.fz 1 (rS [xr])]) [(3,.v [.s xr])] ?_ ?_ ?_
 .intro q hq;simp at hq;subst hq;simp[zz4,xr]
 .refine An ?_;simp[vw,trP,rS,xr]
 refine Eu ?_;refine(h2 p a 2147418112 ot ts [xr] [] hlts (by simp)).sc (vs:=[.ptr 0 0,.w ot,.fz ts.length (rT ts),.fz 1 (rS [xr])]) [0,1] (Lent.of Af ?_) ?_
 .exact As
 refine At ?_;generalize hA:qY a ot ts [xr]=A;refine Ae ?_;refine zB ?_;refine Ae ?_;refine(h3 p.fmode p.fams.length true false).pc ?_;refine Ae ?_;intro _;refine⟨[0,1,4],?_⟩;simp[vw,mkB,mkC,qr,qd,qo,ql,qg,jR,rl]
 exact Ah
def qtz{g1 g2 g3:Nat}(h1:qi3 P g1)(h2:qc6 P g2)(h3:∀mode n al dn,qa P g3 [.y mode,.j (n:Nat),.b al,.b dn] (.b (z6 mode n al dn)))
  (p:Pol) (a nm ot:Int) (hp:PolOk p) (hR:PolR p) {t':Tr AV}{h':Hp}(hw:Wk 2 t' h' (mkT [(0,.ptr 0 0),(2,.b false),(3,.w nm),(4,.w ot)]) (mkH 0 [mkB p a 2147418112 1 0,.cells 3 true true (rR [])])) :
  S P 2 (jd g1 g2 g3) (xG [.tmp 2] (qp5 2 (.b (z6 p.fmode p.fams.length true false)) [mkB p a 2147418112 2 (qY a ot (qL 0 4294967295 nm p.fams) [xr]).length,.dead,.cells 3 true true (rR (qY a ot (qL 0 4294967295 nm p.fams) [xr]))])) t' h':=by
 have hl:=hp.f;refine B4 ?_;simp only[jd,mkB,mkC,qr,zzC,zzN,vI,simprocAttr];refine Ae ?_
 refine SL.loopd (α:=Nat) (λj=>[(0,.ptr 0 0),(2,.b false),(3,.w nm),(4,.w ot),(5,.own 2 j),(20,.fz p.fams.length (rI .u32 p.fams)),(21,.j p.fams.length),(22,.j j)])
  (λj=>[mkB p a 2147418112 1 0,.cells 3 true true (rR []),.cells 1 true true (rI .u64 (p.fams.take j))])
  (λj=>j<=p.fams.length) (λj=>p.fams.length-j) 0 [0,1,99] ?_ ?_ ?_ rfl (by simp) ?_ ?_ ?_
 .simp[vw,qg]
 .exact B6
 .simp[jR,mkB]
 .intro b hb;have:b=0\/b=1:=Ac
  exact Av
 .exact Ac
 rintro j hj G ih;refine Gx ?_
 by_cases hlt:j<p.fams.length
 .have hx:p.fams[j]?=some p.fams[j]:=Ad
  have hw:=wS j;have hb:=hR.fams p.fams[j] Ad;have hln:(rI .u64 (p.fams.take j)).length=j:=by rw[qaf];exact Ad
  have htk:(rI .u64 (p.fams.take j)).take j=rI .u64 (p.fams.take j):=zzt Ac
  have hap:rI .u64 (p.fams.take j)++[AV.x p.fams[j]]=rI .u64 (p.fams.take (j+1)):=by
   rw[zz2,hx];simp only[Option.toList_some,<- qsq];rfl
  have hcv:IntKind.wrap .u64 p.fams[j]=p.fams[j]:=G9
  have hr1:j+1<=qe:=by simp only[qe];exact Ac
  have hr2:(j+1)*8<=qe:=by simp only[qe];exact Ac
  simp +decide only[↓vS,vT,simprocAttr,hlt,zzU,qbd,hx,zza,hcv,hw,hr1,hr2,hln,htk,hap];refine ih (j+1) hlt Ac _ _ (Wk.mkd _ _ [0,1,4] ?_ ?_ ?_ rfl (by simp) ?_)
  .simp[vw,qg]
  .exact B6
  .simp[jR,mkB]
  .intro b hb;have:b=0\/b=1:=Ac
   exact Av
 .have hj':j=p.fams.length:=Ac
  subst hj';refine Sb hlt ?_;refine qCj h1 h2 h3 p a nm ot hp (Wk.mkd _ _ [0,1,2] ?_ ?_ ?_ rfl (by simp) ?_)
  .simp[vw]
  .exact B6
  .simp[jR,mkB]
  .intro b hb;have:b=0\/b=1:=Ac
   exact Av
def qAt{g1 g2 g3:Nat}(hc:Ck P f (qbk g1 g2 g3))(h1:qi3 P g1)(h2:qc6 P g2)(h3:∀mode n al dn,qa P g3 [.y mode,.j (n:Nat),.b al,.b dn] (.b (z6 mode n al dn))):xh P f fmM:=by
 intro p a hp hR;refine Bi ?_;simp only[qbk,mkB,mkC,qr,vI,simprocAttr,zzC,zzN]
 by_cases m:p.fmode=2
 .refine Sb m ?_;have e:fmM p a=(z6 p.fmode p.fams.length true false,qY a 2147418112 (qL 0 4294967295 327777 p.fams) [xr],2147418112):=by simp[fmM,m]
  rw[e];refine qtz h1 h2 h3 p a 327777 2147418112 hp hR (Wk.mkd _ _ [0,1] ?_ ?_ ?_ rfl (by simp) ?_)
  .simp[vw]
  .simp[vw,mkB,mkC,qr,qd,qo,ql,qg,m]
  .simp[jR,mkB]
  .intro b hb;have:b=0\/b=1:=Ac
   exact Av
 .refine Sb m ?_;have e:fmM p a=(z6 p.fmode p.fams.length true false,qY a 327777 (qL 0 4294967295 2147418112 p.fams) [xr],2147418112):=by simp[fmM,m]
  rw[e];refine qtz h1 h2 h3 p a 2147418112 327777 hp hR (Wk.mkd _ _ [0,1] ?_ ?_ ?_ rfl (by simp) ?_)
  .simp[vw]
  .exact B6
  .simp[jR,mkB]
  .intro b hb;have:b=0\/b=1:=Ac
   exact Av
def xw(rs:List GRule):List GRule:=rs.mergeSort λx y=>decide (x.nr<=y.nr)
def qmr(P:Program)(f c:Nat):Prop:=∀rs:List GRule,rs.length<=100000->(rs.map GRule.nr).Nodup->
 Upd P f [.own 0 rs.length,.fn c [] []] [.cells 3 true true (rR rs)] (.tup []) [.cells 3 true true (rR (xw rs))]
def qbq(d:Int):Option (Pol->Int->Bool×List GRule×Int) :=
 if d=1 then some qjR else if d=2 then some qkg else if d=3 then some fmM else if d=4 then some nsM else if d=5 then some weM else if d=6 then some peM else if d=7 then some rtM else none
def qd7(p:Pol)(d a:Int):Bool:=decide (0<=d)&&decide (d<8)&&(decide (0<=a)&&decide (a<6))&&qae p&&inA p.arches a
def qcX(p:Pol)(d a:Int):Option GFil :=
 if qd7 p d a=true then(qbq d).bind λF=>if(F p a).1=true then some ⟨a,xw (F p a).2.1,(F p a).2.2⟩else none else none
def qo5:Option GFil->AV
 | some x=>.tup [.agg (zn x),.b true]
 | none=>.tup [.agg [.i .i64 0,.fz 0 [],.i .u32 0],.b false]
def qAv(F:Pol->Int->Bool×List GRule×Int):Prop:=∀p a,PolOk p->qae p=true->0<=a->a<6->(F p a).2.1.length<=100000/\((F p a).2.1.map GRule.nr).Nodup
def qgB(a b c d e g h:Nat):IFn:=irJ 119 [156,a,157,b,158,c,159,d,160,e,161,g,162,h]
def qEf{g1 g2 g3 g4 g5 g6 g7:Nat}(hc:Ck P f (qgB g1 g2 g3 g4 g5 g6 g7)):qa P f [] (.agg [.nilf,.fn g1 [] [],.fn g2 [] [],.fn g3 [] [],.fn g4 [] [],.fn g5 [] [],.fn g6 [] [],.fn g7 [] []]):=by
 refine Al ?_;simp only[qgB,vI,simprocAttr];refine Ae ?_;simp[vZ]
def qbP(a b c d e g:Nat):ICode:=icJ 91 [29,a,11,b,118,c,119,d,120,e,121,g] 31
def qbO(a b c d e g:Nat):ICode:=icJ 91 [29,a,11,b,118,c,119,d,120,e,121,g] 15 [3] [qbP a b c d e g]
def qbN(a b c d e g:Nat):ICode:=icJ 91 [29,a,11,b,118,c,119,d,120,e,121,g] 7 [3] [qbO a b c d e g]
def qhm(a b c d e g:Nat):IFn:=irJ 91 [29,a,11,b,118,c,119,d,120,e,121,g] [7] [qbN a b c d e g]
def qyD{g1 g2 g3 g4 g5 g6:Nat}(h5:qmr P g5 g6)(p:Pol)(a d:Int)(rs:List GRule)(hr:rs.length<=100000)(hn:(rs.map GRule.nr).Nodup){t':Tr AV}{h':Hp}(hw:Wk 0 t' h' (mkT [(6,.ptr 0 0),(7,.b false),(8,.ptr 1 0)]) (mkH 0 [.v [.j 0,.nils,.w 0],mkB p a d 2 rs.length,.cells 3 true true (rR rs)])) :
  S P 0 (qbP g1 g2 g3 g4 g5 g6) (xG [.cell 6 3 true,.tmp 7] λv' h'=>Frz h' v' (qo5 (some ⟨a,xw rs,d⟩))) t' h':=by
 refine B4 ?_;simp only[qbP,mkB,mkC,qr,zzC,zzN,vI,simprocAttr];refine Ae ?_;refine(h5 rs hr hn).sc (vs:=[.own 0 rs.length,.fn g6 [] []]) [2] (Lent.of Af ?_) ?_
 .simp[vL,vw,qv qo,qf qo]
 simp only[vK,simprocAttr,qf qo];refine Ae ?_;have hsl:(xw rs).length=rs.length:=List.length_mergeSort _;simp only[qo5,zn,hsl];refine .tup _ _ (.cons _ _ _ _ (.agg _ _ (.cons _ _ _ _ (.i _ _) (.cons _ _ _ _ (.own 2 _ 3 true (rR (xw rs)) _ ?_ (λh0=>?_) (Frzs.self qo)) (.cons _ _ _ _ (.i _ _) .nil)))) (.cons _ _ _ _ (.b _) .nil))
 .exact Bn
 .rw[List.eq_nil_of_length_eq_zero (hsl.trans h0)];rfl
def qyC{g1 g2 g3 g4 g5 g6 m1 m2 m3 m4 m5 m6 m7:Nat}(h4:qa P g4 [] (.agg [.nilf,.fn m1 [] [],.fn m2 [] [],.fn m3 [] [],.fn m4 [] [],.fn m5 [] [],.fn m6 [] [],.fn m7 [] []]))(h5:qmr P g5 g6)
  (hm1:xh P m1 qjR) (hm2:xh P m2 qkg) (hm3:xh P m3 fmM) (hm4:xh P m4 nsM) (hm5:xh P m5 weM) (hm6:xh P m6 peM) (hm7:xh P m7 rtM)
  (hM:∀d F,qbq d=some F->qAv F) (p:Pol) (hp:PolOk p) (hR:PolR p) (a d:Int) (ha:0<=a) (ha6:a<6) (hmay:qae p=true) (hd0:0<=d) (hd8:d<8) {t':Tr AV}{h':Hp}(hw:Wk 0 t' h' (mkT [(1,.j d),(6,.ptr 0 0),(7,.b false),(8,.ptr 1 0)]) (mkH 0 [.v [.j 0,.nils,.w 0],mkB p a 2147418112 2 0,.cells 3 true true (rR [])])) :
  S P 0 (qbO g1 g2 g3 g4 g5 g6) (xG [.cell 6 3 true,.tmp 7] λv' h'=>Frz h' v' (qo5 ((qbq d).bind λF=>if(F p a).1=true then some ⟨a,xw (F p a).2.1,(F p a).2.2⟩else none))) t' h':=by
 refine B4 ?_;simp only[qbO,mkB,mkC,qr,zzC,zzN,vI,simprocAttr];refine Ae ?_;refine h4.sc ?_;obtain⟨j,rfl⟩:∃j:Nat,d=j:=⟨d.toNat,Ac⟩
 have hj:j<8:=Ac
 by_cases h0:j=0
 .subst h0;refine Ae ?_;exact Cx
 .have hh:∃g F,([.nilf,.fn m1 [] [],.fn m2 [] [],.fn m3 [] [],.fn m4 [] [],.fn m5 [] [],.fn m6 [] [],.fn m7 [] []]:List AV)[j]?=some (.fn g [] [])/\qbq j=some F/\xh P g F:=by
   have:j=1\/j=2\/j=3\/j=4\/j=5\/j=6\/j=7:=Ac
   rcases this with rfl|rfl|rfl|rfl|rfl|rfl|rfl
   .exact⟨_,_,rfl,rfl,hm1⟩
   .exact⟨_,_,rfl,rfl,hm2⟩
   .exact⟨_,_,rfl,rfl,hm3⟩
   .exact⟨_,_,rfl,rfl,hm4⟩
   .exact⟨_,_,rfl,rfl,hm5⟩
   .exact⟨_,_,rfl,rfl,hm6⟩
   .exact⟨_,_,rfl,rfl,hm7⟩
  obtain⟨g,F,he,hF,hg⟩:=hh;obtain⟨hl,hn⟩:=hM _ _ hF p a hp hmay ha ha6;obtain⟨ok,rs,df,hFp⟩:∃ok rs df,F p a=(ok,rs,df):=⟨_,_,_,rfl⟩;have hu:=hg p a hp hR;have e:((qbq j).bind λF=>if(F p a).1=true then some (⟨a,xw (F p a).2.1,(F p a).2.2⟩:GFil)else none)=if ok=true then some ⟨a,xw rs,df⟩else none:=by rw[hF];exact Ah
  rw[e];rw[hFp]at hl hn hu;dsimp only at hl hn hu;generalize([.nilf,.fn m1 [] [],.fn m2 [] [],.fn m3 [] [],.fn m4 [] [],.fn m5 [] [],.fn m6 [] [],.fn m7 [] []]:List AV)=L at he;simp only[↓vS,vT,simprocAttr,hj,zzU,he];refine hu.sc (vs:=[.ptr 0 0]) [1,2] (Lent.of Af ?_) ?_
  .exact As
  refine At ?_;cases ok with
  | false =>
   refine Ae ?_;exact Cx
  | true =>
   refine Ae ?_;refine qyD h5 p a df rs hl hn (Wk.mk _ _ [0,1,3] ?_ ?_ ?_ rfl)
   .simp[vw]
   .exact B6
   .simp
def qyB{g1 g2 g3 g4 g5 g6 m1 m2 m3 m4 m5 m6 m7:Nat}(h4:qa P g4 [] (.agg [.nilf,.fn m1 [] [],.fn m2 [] [],.fn m3 [] [],.fn m4 [] [],.fn m5 [] [],.fn m6 [] [],.fn m7 [] []]))(h5:qmr P g5 g6)
  (hm1:xh P m1 qjR) (hm2:xh P m2 qkg) (hm3:xh P m3 fmM) (hm4:xh P m4 nsM) (hm5:xh P m5 weM) (hm6:xh P m6 peM) (hm7:xh P m7 rtM)
  (hM:∀d F,qbq d=some F->qAv F) (p:Pol) (hp:PolOk p) (hR:PolR p) (a d:Int) (ha:0<=a) (ha6:a<6) (hmay:qae p=true) (hd0:0<=d) (hd8:d<8) {t':Tr AV}{h':Hp}(hw:Wk 0 t' h' (mkT [(1,.j d),(2,.j a),(3,.ptr 0 0),(6,.ptr 1 0),(7,.b false)]) (mkH 0 [.v (qr p),.v [.j 0,.nils,.w 0]])) :
  S P 0 (qbN g1 g2 g3 g4 g5 g6) (xG [.cell 6 3 true,.tmp 7] λv' h'=>Frz h' v' (qo5 ((qbq d).bind λF=>if(F p a).1=true then some ⟨a,xw (F p a).2.1,(F p a).2.2⟩else none))) t' h':=by
 refine B4 ?_;simp only[qbN,qr,vI,simprocAttr];refine Ae ?_;refine qyC h4 h5 hm1 hm2 hm3 hm4 hm5 hm6 hm7 hM p hp hR a d ha ha6 hmay hd0 hd8 (Wk.mk _ _ [1,2,99] ?_ ?_ ?_ rfl)
 .simp[vw]
 .exact Hx
 .simp
def qGn{g1 g2 g3 g4 g5 g6 m1 m2 m3 m4 m5 m6 m7:Nat}(hc:Ck P f (qhm g1 g2 g3 g4 g5 g6))(h1:∀a,qa P g1 [.j a] (.s (qis a)))(h2:∀p,PolOk p->qa P g2 [.agg (qr p)] (.b (qae p)))(h3:∀(xs:List Int) (x:Int),xs.length<=qe->qa P g3 [.fz xs.length (rI .i64 xs),.j x] (.b (inA xs x)))
  (h4:qa P g4 [] (.agg [.nilf,.fn m1 [] [],.fn m2 [] [],.fn m3 [] [],.fn m4 [] [],.fn m5 [] [],.fn m6 [] [],.fn m7 [] []])) (h5:qmr P g5 g6)
  (hm1:xh P m1 qjR) (hm2:xh P m2 qkg) (hm3:xh P m3 fmM) (hm4:xh P m4 nsM) (hm5:xh P m5 weM) (hm6:xh P m6 peM) (hm7:xh P m7 rtM)
  (hM:∀d F,qbq d=some F->qAv F) (p:Pol) (hp:PolOk p) (hR:PolR p) (d a:Int):qa P f [.agg (qr p),.j d,.j a] (qo5 (qcX p d a)):=by
 have hl:=hp.a;refine Al ?_
 have no:qd7 p d a=false->∀{h:Hp},Frz h (.tup [.agg [.j 0,.nils,.w 0],.b false]) (qo5 (qcX p d a)):=by
  intro h0 h;rw[qcX,h0];exact .tup _ _ (.cons _ _ _ _ (.agg _ _ (.cons _ _ _ _ (.i _ _) (.cons _ _ _ _ .nilz (.cons _ _ _ _ (.i _ _) .nil)))) (.cons _ _ _ _ (.b _) .nil))
 simp only[qhm,qr,vI,simprocAttr]
 by_cases k1:d<0
 .refine Sb k1 ?_;exact no (by simp only[qd7,decide_eq_false (Ac:¬0<=d)];simp)
 by_cases k2:8<=d
 .refine Sb (zzA k1 k2) ?_;exact no (by simp only[qd7,decide_eq_false (Ac:¬d<8)];simp)
 refine Sb (zzA k1 k2) ?_;refine(h1 a).sc ?_;have hN:=qqf a
 by_cases k3:qis a=[]
 .have k3':(decide (0<=a)&&decide (a<6))=false:=by
   rw[Bool.eq_false_iff];exact Ad
  refine Sb k3 ?_;exact no (by simp only[qd7,k3'];simp)
 have ⟨a0,a6⟩:=hN.1 k3;refine Sb k3 ?_;refine(h2 p hp).sc ?_;cases k4:qae p with
 | false =>
  refine Ae ?_;exact no (by simp[qd7,k4])
 | true =>
  refine Ae ?_;refine(h3 p.arches a (by simp only[qe];exact Ac)).sc ?_;cases k5:inA p.arches a with
  | false =>
   refine Ae ?_;exact no (by simp[qd7,k5])
  | true =>
   have hok:qd7 p d a=true:=by simp[qd7,k4,k5,a0,a6];exact Ac
   have e:qcX p d a=(qbq d).bind λF=>if(F p a).1=true then some ⟨a,xw (F p a).2.1,(F p a).2.2⟩else none:=by rw[qcX,if_pos hok]
   rw[e];refine Ae ?_;refine qyB h4 h5 hm1 hm2 hm3 hm4 hm5 hm6 hm7 hM p hp hR a d a0 a6 k4 Ac Ac (Wk.mk _ _ [0,1] ?_ ?_ ?_ rfl)
   .simp[vw]
   .simp[vw,qr,qd,ql,qg]
   .simp
def qA5(P:Program)(f:Nat):Prop:=∀p,PolOk p->PolR p->∀d a:Int,qa P f [.agg (qr p),.j d,.j a] (qo5 (qcX p d a))
def qln:IFn:=irJ 90 []
def qLc(hc:Ck P f qln):qa P f [] (.fz 6 (rI .i64 [0,1,2,3,4,5])):=by
 refine Al ?_;simp only[qln,vI,simprocAttr];refine Ae ?_;refine SL.loop (α:=Nat) (λj=>[(1,.own 0 j),(3,.j j)]) (λj=>[.cells 1 true true (rI .i64 ([0,1,2,3,4,5].take j))]) (λj=>j<=6) (λj=>6-j) 0 [9] ?_ ?_ ?_ rfl ?_ ?_
 .simp[vw]
 .simp[vw,rI]
 .simp
 .exact Ac
 rintro j hj G ih;refine Am ?_
 by_cases hlt:j<6
 .have hlt':(j:Int)<6:=Ac
  have hw:=wS j;have hln:(rI .i64 (([0,1,2,3,4,5]:List Int).take j)).length=j:=by rw[qaf];exact Ad
  have htk:(rI .i64 (([0,1,2,3,4,5]:List Int).take j)).take j=rI .i64 (([0,1,2,3,4,5]:List Int).take j):=Ah
  have hap:rI .i64 (([0,1,2,3,4,5]:List Int).take j)++[AV.j (j:Int)]=rI .i64 (([0,1,2,3,4,5]:List Int).take (j+1)):=by
   have:j=0\/j=1\/j=2\/j=3\/j=4\/j=5:=Ac
   exact Du
  have hr1:j+1<=qe:=by simp only[qe];exact Ac
  have hr2:(j+1)*8<=qe:=by simp only[qe];exact Ac
  generalize hL:(([0,1,2,3,4,5]:List Int).take j)=L at *;simp +decide only[↓vS,vT,simprocAttr,hlt',zzU,hw,hr1,hr2,hln,htk,hap];refine ih (j+1) hlt Ac _ _ (Wk.mk _ _ [2] ?_ ?_ ?_ rfl)
  .simp[vw]
  .simp[vw,qd,qg]
  .simp
 .have hj':j=6:=Ac
  subst hj';have hlt':¬(((6:Nat):Int)<6):=Af
  refine Sb hlt' ?_;refine .own 0 6 1 true (rI .i64 [0,1,2,3,4,5]) _ ?_ Ac (Frzs.self qg);exact Bn
def qAz(p:Pol)(d:Int):Bool :=
 if d=1 then z6 p.filter.mode p.filter.calls.length true false else if d=2 then z6 p.log.mode p.log.calls.length false true else if d=3 then z6 p.fmode p.fams.length true false
 else if d=4 then decide (p.spaces≠0)else if d=5 then p.we else if d=6 then p.pe else if d=7 then p.rt else false
def qBG(l:List GCall)(s:List UInt8):Int:=match qjT l s with|some c=>c.act|none=>0
def qwd(p:Pol)(s:List UInt8):Int:=if qBG p.filter.calls s=0 then(if p.filter.mode=1 then 2147418112 else p.deny)else qBG p.filter.calls s
def qgk(s:List UInt8):Int:=if s=qbg then 6 else if s=z7\/s=qT then 4 else if s=wo then 32768 else 0
def qiq(p:Pol)(d:Int)(s:List UInt8):Bool×List GTest×Int :=
 if d=1 then((qjT p.filter.calls s).isSome,[],qwd p s)
 else if d=2 then((qjT p.log.calls s).isSome,[],if p.log.mode=1 then 2147221504 else 2147418112)
 else if d=3 then(decide (s=xr),qL 0 4294967295 (if p.fmode=2 then 327777 else 2147418112) p.fams,if p.fmode=2 then 2147418112 else 327777)
 else if d=4 then(if s=xq then(true,[],327718)else(decide (s=xQ)||decide (s=xc)||decide (s=jA),zw (if s=xQ then 1 else 0) 327681 (jN p.spaces)++(if s=xQ then [⟨1,4294967295,0,327681⟩]else []),2147418112))
 else if d=5 then(decide (0<qgk s),[⟨2,qgk s,qgk s,327681⟩],2147418112)
 else if d=6 then(decide (s=zl),qL 0 4294967295 2147418112 [0,4294967295],327681)
 else(decide (s=qbX),qL 1 4294967295 2147418112 [0,3,5],327681)
def qps(c:GCall):List GCall->List GCall
 | []=>[c]
 | x::l=>if c.act<=x.act then c::x::l else x::qps c l
def zC(a:Int):List GCall:=(qD.filterMap λx=>(qds x a).map λn=>(⟨x.1,n⟩:GCall)).foldr qps []
theorem qq2(c:GCall):∀l,(qps c l).length=l.length+1
 | []=>rfl
 | x::l=>by unfold qps;split<;>simp[qq2 c l]
def qfd(a:Int):(zC a).length<=40:=by
 unfold zC
 have h1:∀l:List GCall,(l.foldr qps []).length=l.length:=by
  intro l;induction l<;>grind[qq2]
 rw[h1];exact zzg (List.length_filterMap_le _ _) Af
def dfR(p:Pol)(d:Int):Int:=if d=1/\p.filter.mode=1 then p.deny else if d=2/\p.log.mode=2 then 2147221504 else 2147418112
def ruR(p:Pol)(d:Int)(l:List GCall):List GRule:=l.filterMap λc=>if(qiq p d c.name).1=true then some ⟨c.act,(qiq p d c.name).2.1,(qiq p d c.name).2.2⟩else none
def qnh(p:Pol)(d a:Int):Option GFil:=if(decide (0<=a)&&decide (a<6)&&qae p&&inA p.arches a&&qAz p d)=true then some ⟨a,ruR p d (zC a),dfR p d⟩else none
end
section
variable [Cur]
def qlb{α:Type}(k:α->Int):∀{l m:List α},l.Pairwise (λx y=>k x<k y)->m.Pairwise (λx y=>k x<k y)->(∀x,x ∈ l↔x ∈ m)->l=m
 | [],[],_,_,_=>rfl
 | [],y::m,_,_,h=>by have:=(h y).2 (by simp);exact Ad
 | x::l,[],_,_,h=>by have:=(h x).1 (by simp);exact Ad
 | x::l,y::m,hl,hm,h=>by
  obtain⟨h1,h2⟩:=List.pairwise_cons.1 hl;obtain⟨h3,h4⟩:=List.pairwise_cons.1 hm
  have e:x=y:=by
   rcases zzc.1 ((h x).1 (by simp))with e|e
   .exact e
   .rcases zzc.1 ((h y).2 (by simp))with e'|e'
    .exact e'.symm
    .have:=h3 x e;have:=h1 y e';exact Ac
  subst e
  congr 1
  refine qlb k h2 h4 λz=>?_
  exact Ah
def qkC{rs:List GRule}(hn:(rs.map GRule.nr).Nodup):(xw rs).Pairwise (λx y=>x.nr<y.nr):=by
 have h1:(xw rs).Pairwise (λx y=>decide (x.nr<=y.nr)=true):=List.pairwise_mergeSort Ah Ah rs
 have h2:((xw rs).map GRule.nr).Nodup:=((List.mergeSort_perm rs _).map GRule.nr).nodup_iff.2 hn;have h3:(xw rs).Pairwise (λx y=>x.nr≠y.nr):=Ah
 refine(h1.and h3).imp ?_
 exact Ah
def qoR{rs:List GRule}{r:GRule}:r ∈ xw rs↔r ∈ rs:=(List.mergeSort_perm rs _).mem_iff
theorem qq3{c x:GCall}:∀{l:List GCall},x ∈ qps c l↔x=c\/x ∈ l
 | []=>by simp[qps]
 | y::l=>by
  unfold qps;split
  .simp
  .rw[zzc,qq3,zzc]
   exact Ah
def qnV{a:Int}{c:GCall}:c ∈ zC a↔∃x ∈ qD,qds x a=some c.act/\x.1=c.name:=by
 unfold zC
 have h1:∀l:List GCall,c ∈ l.foldr qps []↔c ∈ l:=by
  intro l;induction l<;>grind[qq3]
 rw[h1,List.mem_filterMap];constructor
 .rintro⟨x,hx,h⟩;cases hn:qds x a<;>grind
 .rintro⟨x,hx,h,h2⟩;refine⟨x,hx,?_⟩;rw[h]
  exact Ad
def qvY:(qD.map (·.1)).Nodup:=by decide +kernel
def qob{α:Type}(k:α->List UInt8){l:List α}(hn:(l.map k).Nodup){x:α}(hx:x ∈ l):l.find? (λy=>decide (k y=k x))=some x:=by
 induction l<;>grind
def qjA{a:Int}{c:GCall}:c ∈ zC a↔qfF a c.name=some c.act:=by
 rw[qnV];unfold qfF;constructor
 .rintro⟨x,hx,h,h2⟩;rw[<- h2,qob (·.1) qvY hx];exact h
 .intro h;cases hf:qD.find? (λx=>decide (x.1=c.name))<;>grind
def qgU{a:Int}(h0:0<=a)(h6:a<6):(zC a).Pairwise (λx y=>x.act<y.act):=by
 have:a=0\/a=1\/a=2\/a=3\/a=4\/a=5:=Ac
 exact H6
theorem qCq{a:Int}(h0:0<=a)(h6:a<6){s t:List UInt8}{n:Int}(h1:qfF a s=some n)(h2:qfF a t=some n):s=t:=by
 have hs:(⟨s,n⟩:GCall) ∈ zC a:=qjA.2 h1;have ht:(⟨t,n⟩:GCall) ∈ zC a:=qjA.2 h2;have hp:=qgU h0 h6
 by_cases e:s=t
 .exact e
 .exfalso
  have:∀{l:List GCall},l.Pairwise (λx y=>x.act<y.act)->(⟨s,n⟩:GCall) ∈ l->(⟨t,n⟩:GCall) ∈ l->False:=by
   intro l;induction l with
   | nil=>intro _ h;simp at h
   | cons x l ih =>
    intro hl h1 h2;obtain⟨k1,k2⟩:=List.pairwise_cons.1 hl;rcases zzc.1 h1 with e1|e1<;>rcases zzc.1 h2 with e2|e2
    .rw[<- e2]at e1;simp at e1;exact e e1
    .subst e1;have:=k1 _ e2;simp at this
    .subst e2;have:=k1 _ e1;simp at this
    .exact ih k2 e1 e2
  exact Ad
def qcQ(a:Int)(g:List UInt8->List GTest×Int)(ns:List (List UInt8)):List GRule:=ns.filterMap λs=>(qfF a s).map λn=>⟨n,(g s).1,(g s).2⟩
def qqR{a:Int}{g:List UInt8->List GTest×Int}{ns:List (List UInt8)}{r:GRule}:r ∈ qcQ a g ns↔∃s ∈ ns,qfF a s=some r.nr/\r.tests=(g s).1/\r.act=(g s).2:=by
 unfold qcQ;rw[List.mem_filterMap];constructor
 .rintro⟨s,hs,h⟩;cases hn:qfF a s<;>grind
 .rintro⟨s,hs,h,h2,h3⟩;refine⟨s,hs,?_⟩;rw[h];cases r;exact Ad
def qmJ{a:Int}(h0:0<=a)(h6:a<6){g:List UInt8->List GTest×Int}{ns:List (List UInt8)}(hn:ns.Nodup):((qcQ a g ns).map GRule.nr).Nodup:=by
 induction ns with
 | nil=>exact List.nodup_nil
 | cons s ns ih =>
  obtain⟨h1,h2⟩:=List.nodup_cons.1 hn;unfold qcQ;rw[List.filterMap_cons];cases hs:qfF a s with
  | none=>exact ih h2
  | some n =>
   simp only[zza,zz3];refine List.nodup_cons.2 ⟨?_,ih h2⟩;intro hm;obtain⟨r,hr,e⟩:=zzl.1 hm;obtain⟨t,ht,k1,_,_⟩:=qqR.1 hr;rw[e]at k1
   grind[qCq]
def qxS{a:Int}{g:List UInt8->List GTest×Int}{ns:List (List UInt8)}:(qcQ a g ns).length<=ns.length:=List.length_filterMap_le _ _
def qg9{a:Int}{g:List UInt8->List GTest×Int}{ns ms:List (List UInt8)}:qcQ a g (ns++ms)=qcQ a g ns++qcQ a g ms:=List.filterMap_append
def jQ{a act:Int}{ts:List GTest}{g:List UInt8->List GTest×Int}:∀{ns:List (List UInt8)},(∀s ∈ ns,g s=(ts,act))->qY a act ts ns=qcQ a g ns
 | [],_=>rfl
 | s::ns,h=>by
  have e:=jQ (a:=a) (ns:=ns) λt ht=>h t (List.mem_cons_of_mem _ ht)
  unfold qY qcQ at *;rw[List.filterMap_cons,List.filterMap_cons,e,h s (by simp)]
def qf3{p:Pol}{d a:Int}(h0:0<=a)(h6:a<6){ns:List (List UInt8)}{g:List UInt8->List GTest×Int}(hn:ns.Nodup)(h1:∀s n,qfF a s=some n->((qiq p d s).1=true↔s ∈ ns))(h2:∀s ∈ ns,g s=(qiq p d s).2):xw (qcQ a g ns)=ruR p d (zC a):=by
 refine qlb GRule.nr (qkC (qmJ h0 h6 hn)) ?_ λr=>?_
 .exact B7
 .rw[qoR,qqR];unfold ruR;rw[List.mem_filterMap];constructor
  .rintro⟨s,hs,k1,k2,k3⟩;have k:=(h1 s _ k1).2 hs;refine⟨⟨s,r.nr⟩,qjA.2 k1,?_⟩;rw[h2 s hs]at k2 k3;rw[if_pos k];cases r;exact Ad
  .rintro⟨c,hc,h⟩;have k1:=qjA.1 hc;split at h
   .rename_i k;cases h;have hs:=(h1 c.name _ k1).1 k;exact⟨c.name,hs,k1,by rw[h2 _ hs],by rw[h2 _ hs]⟩
   .cases h
def qfD{l:GList}(h:qdf l=true):(l.calls.map (·.name)).Nodup:=by
 have h2:=((qrk l).1 h).2.2;exact List.pairwise_map.2 (List.Pairwise.imp (λhab=>qGo hab) h2)
def qga{p:Pol}(h:qae p=true):qdf p.filter=true/\qdf p.log=true:=by
 unfold qae qbT at h
 exact Ad
def qu2{l:List GCall}(hn:(l.map (·.name)).Nodup){c:GCall}(hc:c ∈ l):qjT l c.name=some c:=qob GCall.name hn hc
def qoa{l:List GCall}{s:List UInt8}:(qjT l s).isSome=true↔s ∈ l.map (·.name):=by
 unfold qjT;rw[List.find?_isSome];simp only[zzb,zzl]
def qmG{a:Int}{g:List UInt8->List GTest×Int}{A:GCall->Int}:∀{l:List GCall},(∀c ∈ l,g c.name=([],A c))->(l.flatMap λc=>qY a (A c) [] [c.name])=qcQ a g (l.map (·.name))
 | [],_=>rfl
 | c::l,h=>by
  have e:=qmG (a:=a) (A:=A) (l:=l) λx hx=>h x (List.mem_cons_of_mem _ hx)
  rw[zzv,e,jQ (g:=g) Ad,<- qg9];rfl
def qJV(p:Pol)(s:List UInt8):List GTest×Int:=([],qwd p s)
def qs8{p:Pol}{a:Int}(hm:qdf p.filter=true):(qjR p a).2.1=qcQ a (qJV p) (p.filter.calls.map (·.name)):=by
 refine qmG λc hc=>?_
 have hf:=qu2 (qfD hm) hc;simp only[qJV,qwd,qBG,hf]
def qLL(p:Pol)(_:List UInt8):List GTest×Int:=([],if p.log.mode=2 then 2147418112 else 2147221504)
def qtr{p:Pol}{a:Int}:(qkg p a).2.1=qcQ a (qLL p) (p.log.calls.map (·.name)):=qmG (A:=λ_=>if p.log.mode=2 then 2147418112 else 2147221504) λ_ _=>rfl
def qjW(p:Pol)(d:Int)(s:List UInt8):List GTest×Int:=(qiq p d s).2
def qs5{p:Pol}{a:Int}:(fmM p a).2.1=qcQ a (qjW p 3) [xr]:=jQ λ_ _=>rfl
def nsL:List (List UInt8):=[xc,jA,xQ,xq]
def qyU{p:Pol}{a:Int}:(nsM p a).2.1=qcQ a (qjW p 4) nsL:=by
 have h1:qY a 2147418112 (zw 0 327681 (jN p.spaces)) [xc,jA]=qcQ a (qjW p 4) [xc,jA]:=jQ λs hs=>by
  simp only[zzc,List.not_mem_nil,or_false]at hs;rcases hs with rfl|rfl<;>simp (decide:=true) [qjW,qiq,xc,jA,xq,xQ]
 have h2:qY a 2147418112 (zw 1 327681 (jN p.spaces)++qL 1 4294967295 327681 [0]) [xQ]=qcQ a (qjW p 4) [xQ]:=jQ λs hs=>by
  simp only[zzc,List.not_mem_nil,or_false]at hs;subst hs;simp (decide:=true) [qjW,qiq,xq,xQ,qL]
 have h3:qY a 327718 [] [xq]=qcQ a (qjW p 4) [xq]:=jQ λs hs=>by
  simp only[zzc,List.not_mem_nil,or_false]at hs;subst hs;simp (decide:=true) [qjW,qiq]
 show _++_++_=_;rw[h1,h2,h3,<- qg9,<- qg9];rfl
def weL:List (List UInt8):=[qbg,z7,qT,wo]
def qAk{p:Pol}{a:Int}:(weM p a).2.1=qcQ a (qjW p 5) weL:=by
 have h1:qY a 2147418112 (zw 2 327681 [6]) [qbg]=qcQ a (qjW p 5) [qbg]:=jQ λs hs=>Fp
 have h2:qY a 2147418112 (zw 2 327681 [4]) [z7,qT]=qcQ a (qjW p 5) [z7,qT]:=jQ λs hs=>by
  simp only[zzc,List.not_mem_nil,or_false]at hs;rcases hs with rfl|rfl<;>rfl
 have h3:qY a 2147418112 (zw 2 327681 [32768]) [wo]=qcQ a (qjW p 5) [wo]:=jQ λs hs=>Fp
 show _++_++_=_;rw[h1,h2,h3,<- qg9,<- qg9];rfl
def qzg{p:Pol}{a:Int}:(peM p a).2.1=qcQ a (qjW p 6) [zl]:=jQ λ_ _=>rfl
def qzM{p:Pol}{a:Int}:(rtM p a).2.1=qcQ a (qjW p 7) [qbX]:=jQ λ_ _=>rfl
def qCi:∀d F,qbq d=some F->qAv F:=by
 intro d F h p a hp hmay h0 h6;obtain⟨hf,hl⟩:=qga hmay
 have k:∀{g:List UInt8->List GTest×Int}{ns:List (List UInt8)}{rs:List GRule},rs=qcQ a g ns->ns.Nodup->ns.length<=1000->rs.length<=100000/\(rs.map GRule.nr).Nodup:=by
  rintro g ns rs rfl hn hle;exact⟨by have:=qxS (a:=a) (g:=g) (ns:=ns);exact Ac,qmJ h0 h6 hn⟩
 unfold qbq at h;split at h
 .cases h;exact k (qs8 hf) (qfD hf) (by rw[zzz];exact hp.c)
 split at h
 .cases h;exact k qtr (qfD hl) (by rw[zzz];exact hp.l)
 split at h
 .cases h;exact k qs5 Af Af
 split at h
 .cases h;exact k qyU Af Af
 split at h
 .cases h;exact k qAk Af Af
 split at h
 .cases h;exact k qzg Af Af
 split at h
 .cases h;exact k qzM Af Af
 exact Ah
def qIg(s:List UInt8):(0<qgk s)↔s ∈ weL:=by
 unfold qgk weL
 exact Ah
def qd8{p:Pol}{d a:Int}{F:Pol->Int->Bool×List GRule×Int}(hF:qbq d=some F)(hd:0<=d/\d<8)(h1:qAz p d=(F p a).1)
  (h2:qd7 p d a=true->(F p a).1=true->xw (F p a).2.1=ruR p d (zC a)/\(F p a).2.2=dfR p d):qnh p d a=qcX p d a:=by
 have e:qd7 p d a=(decide (0<=a)&&decide (a<6)&&qae p&&inA p.arches a):=by
  unfold qd7;simp[hd.1,hd.2]
 unfold qnh qcX;rw[hF]
 exact Ah
def qax{p:Pol}{d a:Int}(h:qd7 p d a=true):0<=a/\a<6/\qae p=true:=by
 unfold qd7 at h
 exact Ad
def qGl(p:Pol)(d a:Int):qnh p d a=qcX p d a:=by
 by_cases d1:d=1
 .subst d1;refine qd8 (F:=qjR) rfl Af rfl λhk _=>?_
  obtain⟨h0,h6,hm⟩:=qax hk;have hf:=(qga hm).1;refine⟨?_,?_⟩
  .rw[qs8 hf];refine qf3 h0 h6 (qfD hf) (λs n _=>?_) λs _=>?_
   .show (qjT p.filter.calls s).isSome=true↔_;exact qoa
   .rfl
  .show (if p.filter.mode=1 then p.deny else 2147418112)=_
   simp[dfR]
 by_cases d2:d=2
 .subst d2;refine qd8 (F:=qkg) rfl Af rfl λhk hact=>?_
  obtain⟨h0,h6,hm⟩:=qax hk;have hl:=(qga hm).2
  have hmode:p.log.mode=1\/p.log.mode=2:=by
   have hact:z6 p.log.mode p.log.calls.length false true=true:=hact;unfold z6 at hact
   exact Ah
  refine⟨?_,?_⟩
  .rw[qtr];refine qf3 h0 h6 (qfD hl) (λs n _=>?_) λs _=>?_
   .show (qjT p.log.calls s).isSome=true↔_;exact qoa
   .show ([],_)=([],if p.log.mode=1 then(2147221504:Int)else 2147418112)
    rcases hmode with h|h<;>simp[h]
  .show (if p.log.mode=2 then 2147221504 else 2147418112)=_
   simp[dfR]
 by_cases d3:d=3
 .subst d3;refine qd8 (F:=fmM) rfl Af rfl λhk _=>?_
  obtain⟨h0,h6,hm⟩:=qax hk;refine⟨?_,by simp[dfR,fmM]⟩
  rw[qs5];refine qf3 h0 h6 Af (λs n _=>?_) λs _=>rfl
  show decide (s=xr)=true↔_;simp
 by_cases d4:d=4
 .subst d4;refine qd8 (F:=nsM) rfl Af rfl λhk _=>?_
  obtain⟨h0,h6,hm⟩:=qax hk;refine⟨?_,by simp[dfR,nsM]⟩
  rw[qyU];refine qf3 h0 h6 Af (λs n _=>?_) λs _=>rfl
  show(if s=xq then((true,[],327718):Bool×List GTest×Int)else(decide (s=xQ)||decide (s=xc)||decide (s=jA),_,_)).1=true↔_
  unfold nsL
  exact Ah
 by_cases d5:d=5
 .subst d5;refine qd8 (F:=weM) rfl Af rfl λhk _=>?_
  obtain⟨h0,h6,hm⟩:=qax hk;refine⟨?_,by simp[dfR,weM]⟩
  rw[qAk];refine qf3 h0 h6 Af (λs n _=>?_) λs _=>rfl
  show decide (0<qgk s)=true↔_;rw[zzb];exact qIg s
 by_cases d6:d=6
 .subst d6;refine qd8 (F:=peM) rfl Af rfl λhk _=>?_
  obtain⟨h0,h6,hm⟩:=qax hk;refine⟨?_,by simp[dfR,peM]⟩
  rw[qzg];refine qf3 h0 h6 Af (λs n _=>?_) λs _=>rfl
  show decide (s=zl)=true↔_;simp
 by_cases d7:d=7
 .subst d7;refine qd8 (F:=rtM) rfl Af rfl λhk _=>?_
  obtain⟨h0,h6,hm⟩:=qax hk;refine⟨?_,by simp[dfR,rtM]⟩
  rw[qzM];refine qf3 h0 h6 Af (λs n _=>?_) λs _=>rfl
  show decide (s=qbX)=true↔_;simp
 have e1:qAz p d=false:=by simp[qAz,d1,d2,d3,d4,d5,d6,d7]
 have e2:qbq d=none:=by simp[qbq,d1,d2,d3,d4,d5,d6,d7]
 unfold qnh qcX;rw[e1,e2,Bool.and_false,if_neg Af];split<;>rfl
end
section
variable [Cur]
variable {P:Program}{f:Nat}
def qmE(s:Int):(jN s).length<=8:=zzg (List.length_filter_le _ _) Af
def qi0:Asg:=⟨[],0,[],[],[]⟩
end
section
variable [Cur]
open Go.Sort Go.Proofs Go.Shelf Go.RowKit
variable {P:Program}{f g:Nat}
def qAw(P:Program)(f g:Nat):Prop :=
 (∀(a:Option Addr) (cap:Nat) (w:World),Calls P f #[.slice a 0 cap,.func (.func g) #[] #[]] w λe w'=>e = .returned (.tuple #[])/\w'=w) /\
 ∀(n:Nat) (i0:Inhabited (Fin n)) (nr:Fin n->Int) (cs:Fin n->List Value),(∀i j,nr i=nr j->i=j)->(∀i,∃t u,cs i=[.int .u32 (nr i),t,u]/\t.oneCell'=true/\u.oneCell'=true)->
  ∀(blk off cap:Nat) (w:World),HoldsK cs 3 w blk off (List.finRange n).toArray->blk<w.heap.size->n<4611686018427387904->
   Calls P f #[.slice (some ⟨blk,off,none⟩) n cap,.func (.func g) #[] #[]] w λe w'=>e = .returned (.tuple #[])/\∃q os,w'=sortWorldK cs 3 w blk off q ((List.finRange n).mergeSort λx y=>decide (nr x<=nr y)).toArray os
def qzY(rs:List GRule)(hn:(rs.map GRule.nr).Nodup):xw rs=((List.finRange rs.length).mergeSort λx y=>decide ((rs[x]).nr<=(rs[y]).nr)).map λi=>rs[i]:=by
 have e:(List.finRange rs.length).map (λi=>rs[i])=rs:=by
  apply List.ext_getElem
  .simp
  .intro i h1 h2;simp
 have p1:(((List.finRange rs.length).mergeSort λx y=>decide ((rs[x]).nr<=(rs[y]).nr)).map λi=>rs[i]).Perm rs:=by
  have:=(List.mergeSort_perm (List.finRange rs.length) λx y=>decide ((rs[x]).nr<=(rs[y]).nr)).map (λi=>rs[i])
  rw[e]at this;exact this
 refine qlb GRule.nr (qkC hn) ?_ λr=>by rw[qoR];exact p1.mem_iff.symm
 have h1:((List.finRange rs.length).mergeSort λx y=>decide ((rs[x]).nr<=(rs[y]).nr)).Pairwise (λx y=>decide ((rs[x]).nr<=(rs[y]).nr)=true):=List.pairwise_mergeSort Ah Ah _
 have h2:((((List.finRange rs.length).mergeSort λx y=>decide ((rs[x]).nr<=(rs[y]).nr)).map λi=>rs[i]).map GRule.nr).Nodup:=(p1.map GRule.nr).nodup_iff.2 hn
 have h3:=List.pairwise_map.1 (List.pairwise_map.1 h2);refine List.pairwise_map.2 ((h1.and h3).imp ?_)
 exact Ah
def Wk.same{n:Nat}{t:Tr AV}{h:Hp}(hn:n<=h.sz):Wk n t h t h:=λZ B w tm ht r=>by grind[Kep.refl]
def qKP(hcod:qiv P f)(hK:qAw P f g):qmr P f g:=by
 intro rs hl hn;refine⟨by simp[jq,bnd,qo],by simp,trivial,?_⟩
 intro Z B w args r ha;have hsl:(xw rs).length=rs.length:=List.length_mergeSort _;generalize hA:args.toList=L at ha;cases ha with
 | cons _ _ _ _ a1 a2 =>
  rename_i v1 vs1;cases a2 with
  | cons _ _ _ _ b1 b2 =>
   rename_i v2 vs2;cases b2;have hargs:args = #[v1,v2]:=Ah
   obtain⟨a',c',h7,h8,rfl⟩:=b1.un_fn
   have ea:a' = #[]:=by
    apply Array.ext';generalize a'.toList=X at h7;cases h7;rfl
   have ec:c' = #[]:=by
    apply Array.ext';generalize c'.toList=X at h8;cases h8;rfl
   subst ea ec hargs
   have zero:∀(a:Option Addr) (cap:Nat),rs=[]->v1 = .slice a 0 cap->qo1 P σ0 f #[v1,.func (.func g) #[] #[]] Z B (mkH 0 [.cells 3 true true (rR rs)]) w (qAx [Blk.cells 3 true true (rR rs)].length (.tup []) [.cells 3 true true (rR (xw rs))]):=by
    rintro a cap rfl rfl;refine .inl ⟨hcod,(hK.1 a cap w).mono ?_⟩;rintro e w' ⟨rfl,rfl⟩;have e0:xw []=[]:=Ad
    rw[e0];refine⟨.tup [],.tuple #[],mkH 0 [.cells 3 true true (rR [])],Z,rfl,?_,.tup [] #[] .nil,r,Kept.refl _ _ _ _⟩;exact λ_=>Wk.same (zzL _)
   generalize hrl:rs.length=n at a1;cases a1 with
   | own0 _ ad hb=>exact Ad
   | own _ _ cap L0 h0 h1 h2 =>
    by_cases hz:rs=[]
    .exact Ad
    have hn0:0<rs.length:=Ah
    obtain⟨q1,c,ty,fz,q2,q3,q4,q5,q6⟩:=r.cells 0 L0 3 true true (rR rs) h0 Ig;have hRl:(rR rs).length=rs.length*3:=qhN;subst hrl
    let i0:Inhabited (Fin rs.length):=⟨⟨0,hn0⟩⟩
    let cs:Fin rs.length->List Value:=λi=>[c[L0.off+(i.val*3+0)]!,c[L0.off+(i.val*3+1)]!,c[L0.off+(i.val*3+2)]!]
    have hcell:∀(i:Fin rs.length) (k:Nat),k<3->∃a,(zx rs[i])[k]?=some a/\VR σ0 Z a (c[L0.off+(i.val*3+k)]!):=by
     intro i k hk;have hx:rs[i.val]?=some rs[i]:=Ad
     have hg:=qss hx hk
     have ⟨a,ha⟩:∃a,(zx rs[i])[k]?=some a:=by
      have:k<(zx rs[i]).length:=hk;exact Ad
     exact Ah
    have hcs:∀i,∃t u,cs i=[.int .u32 (rs[i]).nr,t,u]/\t.oneCell'=true/\u.oneCell'=true:=by
     intro i;obtain⟨x0,e0,k0⟩:=hcell i 0 Af;obtain⟨x1,e1,k1⟩:=hcell i 1 Af;obtain⟨x2,e2,k2⟩:=hcell i 2 Af;simp[zx]at e0 e1 e2;subst e0 e1 e2;have hσ:jX σ0:=λ_=>rfl
     refine⟨c[L0.off+(i.val*3+1)]!,c[L0.off+(i.val*3+2)]!,?_,qkL hσ k1 rfl,qkL hσ k2 rfl⟩;have:c[L0.off+(i.val*3+0)]! = .int .u32 (rs[i]).nr:=k0.un_i
     exact Ah
    have hlen:∀i,(cs i).length=3:=λ_=>rfl
    have hfl:∀(d:Array (Fin rs.length)) (t:Nat),t<d.size*3->(flatK cs 3 d)[t]! = c[L0.off+((d[t / 3]!).val*3+t % 3)]!:=by
     intro d t ht;rw[get_flatK cs 3 d t ht];have:t % 3=0\/t % 3=1\/t % 3=2:=Ac
     rcases this with e|e|e<;>rw[e]<;>rfl
    have hsz:(List.finRange rs.length).toArray.size=rs.length:=by simp
    have hH:HoldsK cs 3 w L0.blk L0.off (List.finRange rs.length).toArray:=by
     intro j hj;have hj':j<rs.length*3:=by simpa[hsz]using hj
     have hcj:L0.off+j<c.size:=Ac
     constructor
     .show (match w.heap[L0.blk]? with|some (.cells c _ _)=>if(none:Option _).isSome then none else c[L0.off+j]? | _=>none)=_
      rw[q2];have e1:c[L0.off+j]?=some c[L0.off+j]!:=by rw[getElem!_pos c _ hcj];exact Ah
      show c[L0.off+j]?=_;rw[e1];have e2:=hfl (List.finRange rs.length).toArray j (by rw[hsz];exact hj')
      have e3:((List.finRange rs.length).toArray[j / 3]!).val=j / 3:=by
       rw[getElem!_pos _ _ (by rw[hsz];exact Ac)];simp
      rw[e3,show j / 3*3+j % 3=j from Ac]at e2
      exact Ah
     .show (match w.heap[L0.blk]? with|some (.cells _ _ (lo,hi))=>decide (lo<=L0.off+j)&&decide (L0.off+j<hi)|_=>false)=false
      rw[q2];have:=q6 rfl (L0.off+j) (.inl Ac)
      exact Ah
    have hblk:L0.blk<w.heap.size:=Ah
    refine .inl ⟨hcod,(hK.2 rs.length i0 (λi=>(rs[i]).nr) cs ?_ hcs L0.blk L0.off cap w hH hblk Ac).mono ?_⟩
    .intro i j hij;have hx:(rs.map GRule.nr)[i.val]'(by simp)=(rs.map GRule.nr)[j.val]'(by simp):=by simpa using hij
     grind[List.getElem_inj]
    rintro e w' ⟨rfl,q,os,hw'⟩;have hsm:=qzY rs hn;generalize hD:(List.finRange rs.length).mergeSort (λx y=>decide ((rs[x]).nr<=(rs[y]).nr))=D at hw' hsm
    have hDl:D.length=rs.length:=by rw[<- hD,List.length_mergeSort];simp
    have hFs:(flatK cs 3 D.toArray).size=rs.length*3:=by rw[size_flatK];exact Ah
    have hv:VRs σ0 Z (rR (xw rs)) (flatK cs 3 D.toArray).toList:=by
     have el1:=qhN (l:=xw rs);have el2:(flatK cs 3 D.toArray).toList.length=rs.length*3:=by rw[Array.length_toList];exact Ac
     refine VRs.of_get Ac λt a ht=>?_
     have htl:t<rs.length*3:=by
      have:=(zzS.1 ht).1;exact Ac
     have hj:t / 3<D.length:=Ac
     have hDa:D.toArray[t / 3]! = D[t / 3]:=by rw[getElem!_pos _ _ Ac];rfl
     refine⟨(flatK cs 3 D.toArray)[t]!,?_,?_⟩
     .rw[getElem!_pos (flatK cs 3 D.toArray) t (by rw[hFs];exact htl)];exact Ah
     .rw[hfl D.toArray t (by simp[hDl];exact htl),hDa];obtain⟨a',k1,k2⟩:=hcell D[t / 3] (t % 3) Ac;have hx:(xw rs)[t / 3]?=some rs[D[t / 3]]:=by rw[hsm,zzo,zzE hj];rfl
      have hg:=qss hx (i:=t % 3) Ac;rw[show t / 3*3+t % 3=t from Ac,ht]at hg
      rw[k1]at hg
      exact Ah
    have hspl:Spl c (L0.off+0) (flatK cs 3 D.toArray).toList (putCells id L0.off (flatK cs 3 D.toArray) c):=by
     refine⟨by simp[putCells],λj hj=>?_,λj v hj=>?_⟩
     .rw[Array.length_toList]at hj;unfold putCells;rw[Array.getElem?_mapIdx];cases c[j]? with
      | none=>rfl
      | some x =>
       simp only[zza];rw[if_neg Ac]
     .have hjl:j<(flatK cs 3 D.toArray).size:=by
       have:=(zzS.1 hj).1;exact Ac
      have hjc:L0.off+j<c.size:=Ac
      unfold putCells;rw[Nat.add_zero,Array.getElem?_mapIdx,Array.getElem?_eq_getElem hjc];simp only[zza];rw[if_pos Ac,Nat.add_sub_cancel_left,getElem!_pos (flatK cs 3 D.toArray) j hjl];rw[Array.getElem?_toList,Array.getElem?_eq_getElem hjl]at hj;exact hj
    have hheap:(putRowK cs 3 (Go.Sort.ahead w q) L0.blk L0.off D.toArray).heap=w.heap.setIfInBounds L0.blk (.cells (putCells id L0.off (flatK cs 3 D.toArray) c) ty fz):=by
     show w.heap.modify L0.blk (onCells _)=_;apply Array.ext_getElem?;intro k;rw[Array.getElem?_modify,zzw]
     by_cases hk:L0.blk=k
     .subst hk;rw[if_pos rfl,if_pos rfl,if_pos hblk,q2];rfl
     exact Ah
    have el3:=qhN (l:=xw rs);obtain⟨r2,k2⟩:=r.store (w':=putRowK cs 3 (Go.Sort.ahead w q) L0.blk L0.off D.toArray) h0 Ig (zzL _) 0 (rR (xw rs)) _ hv Ac q2 hspl hheap ⟨rfl,rfl⟩
    have hY:(rR rs).take 0++(rR (xw rs)++(rR rs).drop (0+(rR (xw rs)).length))=rR (xw rs):=by
     rw[List.drop_of_length_le Ac];simp
    rw[hY]at r2 k2;have hh:(mkH 0 [.cells 3 true true (rR rs)]).put 0 (.cells 3 true true (rR (xw rs)))=mkH 0 [.cells 3 true true (rR (xw rs))]:=rfl;rw[hh]at r2 k2
    have hg:∀n,n<(putRowK cs 3 (Go.Sort.ahead w q) L0.blk L0.off D.toArray).heap.size->w'.heap[n]?=(putRowK cs 3 (Go.Sort.ahead w q) L0.blk L0.off D.toArray).heap[n]?:=by
     intro n hn;rw[hw'];exact Array.getElem?_append_left hn
    have hsz':(putRowK cs 3 (Go.Sort.ahead w q) L0.blk L0.off D.toArray).heap.size<=w'.heap.size:=by
     rw[hw']
     exact Ah
    have r3:=r2.world hg hsz';refine⟨.tup [],.tuple #[],_,Z,rfl,λ_=>Wk.same (zzL _),.tup [] #[] .nil,r3,k2.trans ?_⟩
    have hio:w'.os=w.os/\w'.output=w.output:=by rw[hw'];exact⟨rfl,rfl⟩
    exact⟨λ_ _=>rfl,zzL _,rfl,λ_ _ _=>rfl,by grind[Rel.base],hsz',hio,λ_ _ h=>h,λ_ _ h=>.inl h,zzL _⟩
end
section
variable [Cur]
variable {P:Program}{f:Nat}
def qlL(p:List UInt8×Int):List AV:=[.w p.2,.s p.1]
def qzL(p:List UInt8×Int):(qlL p).length=2:=rfl
def xA:List (List UInt8×Int):=[([107,105,108,108],2147483648),([107,105,108,108,116,104,114,101,97,100],0),([116,114,97,112],196608),([101,114,114,110,111],327680),([110,111,116,105,102,121],2143289344),([116,114,97,99,101],2146435072),([108,111,103],2147221504),([97,108,108,111,119],2147418112)]
def qgs:IFn:=irJ 104 []
def qJm(hc:Ck P f qgs):qa P f [] (.agg (xA.flatMap qlL)):=by
 refine Al ?_;simp only[qgs,vI,simprocAttr];simp only[↓vS,vT,simprocAttr,xA,qlL,zzv,List.flatMap_nil,vZ]
def qhc:IFn:=irJ 69 []
def qLa(hc:Ck P f qhc)(n:Int):qa P f [.w n] (.w (qaN .u32 n 65535)):=by
 refine Al ?_;simp only[qhc,vI,simprocAttr];exact Fd
def qhe(a b:Nat):IFn:=irJ 67 [104,a,69,b]
def qK9{g1 g2:Nat}(hc:Ck P f (qhe g1 g2))(h1:qa P g1 [] (.agg (xA.flatMap qlL)))(h2:∀n,qa P g2 [.w n] (.w (qaN .u32 n 65535)))(n:Int):qa P f [.w n] (.s (jU (qaN .u32 n 65535) xA)):=by
 refine Al ?_;simp only[qhe,vI,simprocAttr];refine Ae ?_;refine h1.sc ?_;refine Ae ?_;have hlen:(xA.flatMap qlL).length=16:=Af
 have hTc:qu (xA.flatMap qlL)=true:=rfl;refine SL.loop (α:=Nat) (λj=>[(0,.w n),(5,.agg (xA.flatMap qlL)),(6,.j j)]) (λ_=>[]) (λj=>j<=8/\jU (qaN .u32 n 65535) xA=jU (qaN .u32 n 65535) (xA.drop j)) (λj=>8-j) 0 [] ?_ ?_ ?_ rfl ?_ ?_
 .simp[vw,xA,qlL]
 .trivial
 .simp
 .exact Ad
 rintro j ⟨hj,hI⟩ G ih;refine Am ?_
 by_cases hlt:j<8
 .have hlt':(j:Int)<8:=Ac
  have hjl:j<xA.length:=hlt;have hx:xA[j]?=some xA[j]:=Ad
  have hw:=wS j;have he:=qI (f:=qlL) (m:=2) qzL hx;have hb:j*2+2<=(xA.flatMap qlL).length:=Ac
  rw[zzf hjl,jU]at hI;generalize hc0:xA[j]=c at he hI;generalize hT:xA.flatMap qlL=T at he hb hlen hTc;simp only[↓vS,vT,simprocAttr,hlt',hlt,he,hb,qlL];refine zB ?_;refine Ae ?_;refine(h2 n).pc ?_
  by_cases hs:c.2=qaN .u32 n 65535
  .rw[if_pos hs]at hI;refine Sb hs ?_;simp[vZ,hI]
  .rw[if_neg hs]at hI;refine Sb (zzA hs hw) ?_;refine ih (j+1) ⟨hlt,hI⟩ Ac _ _ (Wk.mk _ _ [] ?_ ?_ ?_ rfl)
   .rw[hT];simp[vw,qd,hTc]
   .trivial
   .simp
 .have hj':j=8:=Ac
  subst hj';have hlt':¬(((8:Nat):Int)<8):=Af
  refine Sb hlt' ?_;rw[hI];simp[vZ,xA,jU]
def knA(n:Int):Bool:=decide (jU (qaN .u32 n 65535) xA≠[])
def qgq(a:Nat):IFn:=irJ 236 [67,a]
def qJk{g:Nat}(hc:Ck P f (qgq g))(hg:∀n,qa P g [.w n] (.s (jU (qaN .u32 n 65535) xA)))(n:Int):qa P f [.w n] (.b (knA n)):=by
 refine Al ?_;simp only[qgq,vI,simprocAttr];refine Ae ?_;refine(hg n).sc ?_;unfold knA;generalize jU (qaN .u32 n 65535) xA=s
 by_cases h:s=[] <;>
 .refine Sb h ?_;simp[vZ,h]
def wM(t:GTest):Bool:=decide (0<=t.arg)&&decide (t.arg<6)&&decide (qaN .u64 t.val t.mask=0)&&knA t.act
def qiG(a:Nat):IFn:=irJ 307 [236,a]
def qLk{g:Nat}(hg:∀n,qa P g [.w n] (.b (knA n)))(hc:Ck P f (qiG g))(t:GTest):qa P f [.agg (jM t)] (.b (wM t)):=by
 refine Al ?_;simp only[qiG,jM,vI,simprocAttr]
 by_cases k1:0<=t.arg
 .by_cases k2:t.arg<6
  .by_cases k3:qaN .u64 t.val t.mask=0
   .refine Sb (zzA k1 (zzA k2 k3)) ?_;refine(hg t.act).sc ?_;refine Ae ?_;simp[vZ,wM,k1,k2,k3]
   .refine Sb (zzA k1 (zzA k2 k3)) ?_;simp[vZ,wM,k3]
  .refine Sb (zzA k1 k2) ?_;simp[vZ,wM,k2]
 .refine Sb k1 ?_;simp[vZ,wM,k1]
def qgA(a:Nat):IFn:=irJ 306 [307,a]
def qIJ{g:Nat}(hc:Ck P f (qgA g))(hg:∀t,qa P g [.agg (jM t)] (.b (wM t)))(t:GTest):qa P f [.agg (jM t)] (.b (!wM t)):=by
 refine Al ?_;simp only[qgA,jM,vI,simprocAttr];refine Ae ?_;refine(hg t).sc ?_;refine Ae ?_;simp[vZ]
def xP:IFn:=irJ 244 []
def qtk(hc:Ck P f xP):qfV 4 P f:=by
 intro α enc p g a c l hlen ha hc' hl hp;refine qa.mk hc Ee ?_;simp only[xP,vI,simprocAttr];refine Ae ?_;refine SL.loop (α:=Nat) (λj=>[(0,.fz l.length (l.flatMap enc)),(1,.fn g a c),(7,.j l.length),(8,.j j)]) (λ_=>[]) (λj=>j<=l.length/\xH p l 0=xH p (l.drop j) j) (λj=>l.length-j) 0 [] ?_ ?_ ?_ rfl ?_ ?_
 .exact E3
 .trivial
 .simp
 .simp
 rintro j ⟨hj,hI⟩ G ih;refine Am ?_
 by_cases hlt:j<l.length
 .have hx:l[j]?=some l[j]:=Ad
  have hw:IntKind.wrap .i64 ((j:Int)+1)=(j:Int)+1:=qE Ac (by have:=hl;simp only[qe]at this;exact Ac)
  have he:=qI hlen hx;have hb:j*4+4<=(l.flatMap enc).length:=by rw[zb hlen];exact Ac
  rw[zzf hlt,xH]at hI;refine Gw ?_;refine(hp l[j] Ad).sc ?_
  by_cases hpx:p l[j]=true
  .exact Bq
  .rw[if_neg hpx]at hI;refine Sb (zzA hpx hw) ?_;refine ih (j+1) ⟨Ac,hI⟩ Ac _ _ (Wk.mk _ _ [] ?_ ?_ ?_ rfl)
   .exact E3
   .trivial
   .simp
 .refine Sb hlt ?_;rw[zzk Ac]at hI;simp[hI,xH,vZ]
def qwo(p:GTest->Bool)(l:List GTest):AV:=match l.find? p with|some t=>.tup [.agg (jM t),.b true]|none=>.tup [.agg [.j 0,.x 0,.x 0,.w 0],.b false]
def qcS(a:Nat):IFn:=irJ 305 [244,a]
def qFN{g:Nat}(hc:Ck P f (qcS g))(h2:qfV 4 P g)(l:List GTest)(k:Nat)(a c:List AV)(p:GTest->Bool)(ha:qu a=true)(hcc:qu c=true)(hk:∀t ∈ l,qa P k (a++([.agg (jM t)]++c)) (.b (p t)))(hl:l.length<=100000):qa P f [.fz l.length (rT l),.fn k a c] (qwo p l):=by
 refine qa.mk hc (by simp[qu,clo,xe,ha,hcc]) ?_;simp only[qcS,vI,simprocAttr];refine Ae ?_;refine(h2 jM p k a c l qdy ha hcc (by simp only[qe];exact Ac) hk).sc ?_;rcases qkU p l 0 with⟨e1,e2⟩|⟨i,x,e1,e2,e3,e4,e5⟩
 .rw[e1];refine Ae ?_;simp[vZ,qwo,e2]
 .have hi:i<l.length:=Ah
  have hn:(0:Int)<=(i:Int):=Ac
  have he:=qt0 e2;have hb:=qzC hi;rw[e1,Nat.zero_add];simp only[↓vS,vT,simprocAttr,hn,hi,he,hb,jM];simp[vZ,qwo,e4,jM]
def qaZ(r:GRule):Bool:=decide (r.tests.length<=32)&&r.tests.all wM&&knA r.act
def qxH{α:Type}(p:α->Bool)(l:List α):(l.find? λt=>!p t).isSome = !l.all p:=Ah
def qiF(a b c:Nat):IFn:=irJ 237 [305,a,306,b,236,c]
def qLj{g1 g2 g3:Nat}(hc:Ck P f (qiF g1 g2 g3))(h1:∀(l:List GTest) (k:Nat) (a c:List AV) (p:GTest->Bool),qu a=true->qu c=true->(∀t ∈ l,qa P k (a++([.agg (jM t)]++c)) (.b (p t)))->l.length<=100000->qa P g1 [.fz l.length (rT l),.fn k a c] (qwo p l))
  (h2:∀t,qa P g2 [.agg (jM t)] (.b (!wM t))) (h3:∀n,qa P g3 [.w n] (.b (knA n))) (r:GRule) (hl:r.tests.length<=100000):qa P f [.agg (zx r)] (.b (qaZ r)):=by
 refine Al ?_;simp only[qiF,zx,vI,simprocAttr];refine Ae ?_;refine(h1 r.tests g2 [] [] (λt=>!wM t) rfl rfl (λt _=>h2 t) hl).sc ?_
 have hf:=qxH wM r.tests
 have fin:∀odd:Bool,odd = !r.tests.all wM->(decide (r.tests.length<=32) && !odd&&knA r.act)=qaZ r:=by
  rintro odd rfl;simp[qaZ]
 unfold qwo;cases hq:r.tests.find? (λt=>!wM t)with
 | none =>
  rw[hq]at hf;have fin:=fin false hf
  by_cases k1:r.tests.length<=32
  .have k1':((r.tests.length:Int)<=32)=True:=eq_true Ac;refine Sb k1' ?_;refine(h3 r.act).sc ?_;refine Ae ?_;simp[vZ,<- fin,k1]
  .have k1':((r.tests.length:Int)<=32)=False:=eq_false Ac;refine Sb k1' ?_;simp[vZ,<- fin,k1]
 | some t =>
  rw[hq]at hf;have fin:=fin true hf
  by_cases k1:r.tests.length<=32
  .have k1':((r.tests.length:Int)<=32)=True:=eq_true Ac;simp only[jM,↓vS,vT,simprocAttr,k1'];simp[vZ,<- fin]
  .have k1':((r.tests.length:Int)<=32)=False:=eq_false Ac;simp only[jM,↓vS,vT,simprocAttr,k1'];simp[vZ,<- fin]
def qyJ(a n:Int):List UInt8:=match qD.find? (λx=>decide (qds x a=some n))with|some x=>x.1|none=>[]
def upR:Option GRule->List GRule->Bool
 | _,[]=>true
 | o,r::l=>qaZ r&&(o.elim true λb=>decide (b.nr<r.nr))&&upR (some r) l
def jr(x:GFil):Bool:=decide (0<=x.arch)&&decide (x.arch<6)&&decide (x.rules.length<=400)&&knA x.dflt&&upR none x.rules
def qoj(a b:Nat):IFn:=irJ 175 [236,a,237,b]
def qMr{g1 g2:Nat}(hc:Ck P f (qoj g1 g2))(h1:∀n,qa P g1 [.w n] (.b (knA n)))(h2:∀r:GRule,r.tests.length<=100000->qa P g2 [.agg (zx r)] (.b (qaZ r)))(x:GFil)(hl:x.rules.length<=100000)(ht:∀r ∈ x.rules,r.tests.length<=100000):qa P f [.agg (zn x)] (.b (jr x)):=by
 refine Al ?_;simp only[qoj,zn,vI,simprocAttr]
 by_cases k1:x.arch<0
 .have hw:jr x=false:=by simp only[jr,decide_eq_false (Ac:¬0<=x.arch)];simp
  refine Sb k1 ?_;simp[vZ,hw]
 by_cases k2:6<=x.arch
 .have hw:jr x=false:=by simp only[jr,decide_eq_false (Ac:¬x.arch<6)];simp
  refine Sb (zzA k1 k2) ?_;simp[vZ,hw]
 by_cases k3:(400:Int)<x.rules.length
 .have hw:jr x=false:=by simp only[jr,decide_eq_false (Ac:¬x.rules.length<=400)];simp
  refine Sb (zzA k1 (zzA k2 k3)) ?_;simp[vZ,hw]
 refine Sb (zzA k1 (zzA k2 k3)) ?_;refine(h1 x.dflt).sc ?_;cases k4:knA x.dflt with
 | false =>
  have hw:jr x=false:=by simp[jr,k4]
  refine Ae ?_;simp[vZ,hw]
 | true =>
  have hw:jr x=upR none x.rules:=by
   unfold jr;rw[k4,decide_eq_true (Ac:0<=x.arch),decide_eq_true (Ac:x.arch<6),decide_eq_true (Ac:x.rules.length<=400)];rfl
  rw[hw];refine Ae ?_
  refine SL.loop (α:=Nat) (λj=>[(1,.ptr 0 0),(26,.fz x.rules.length (rR x.rules)),(27,.j x.rules.length),(28,.j j)]) (λ_=>[.v (zn x)])
   (λj=>j<=x.rules.length/\upR none x.rules=upR (if j=0 then none else x.rules[j-1]?) (x.rules.drop j)) (λj=>x.rules.length-j) 0 [0] ?_ ?_ ?_ rfl ?_ ?_
  .simp[vw,qo]
  .simp[vw,zn,qo]
  .simp
  .exact Ad
  rintro j ⟨hj,hI⟩ G ih;simp only[vI,simprocAttr,zn]
  by_cases hlt:j<x.rules.length
  .have hx:x.rules[j]?=some x.rules[j]:=Ad
   have he:=qtX hx;have hb:=qzu hlt;have hw:=wS j;have htl:=ht _ (List.getElem_mem hlt);rw[zzf hlt,upR]at hI;generalize hc0:x.rules[j]=r at hI he hx htl;simp only[↓vS,vT,simprocAttr,hlt,hb,he,zx];refine zB ?_;refine Ae ?_;refine(h2 r htl).pc ?_;cases hk:qaZ r with
   | false =>
    have hwf:upR none x.rules=false:=by rw[hI];exact Ah
    refine Ae ?_;simp[vZ,hwf]
   | true =>
    by_cases h0:j=0
    .subst h0;have hn:¬(0:Int)<((0:Nat):Int):=Af
     refine Sb (zzA hn hw) ?_;refine ih 1 ⟨Ac,?_⟩ Ac _ _ (Wk.mk _ _ [0] ?_ ?_ ?_ rfl)
     .rw[hI,hk];exact Ah
     .simp[vw,qo]
      exact Ad
     .simp[vw,zn,qo]
     .simp
    .have hp:(0:Int)<(j:Int):=Ac
     have hpl:j-1<x.rules.length:=Ac
     have hy:x.rules[j-1]?=some x.rules[j-1]:=Ad
     have hw2:IntKind.wrap .i64 ((j:Int)-1)=((j-1:Nat):Int):=by rw[qE Ac Ac];exact Ac
     have g0:(rR x.rules)[(j-1)*3]?=some (.w x.rules[j-1].nr):=qss hy (i:=0) Af;rw[if_neg h0,hy]at hI
     by_cases hlt2:r.nr<=x.rules[j-1].nr
     .have hwf:upR none x.rules=false:=by rw[hI];exact Ah
      exact Hl
     .simp only[↓vS,vT,simprocAttr,hp,hw2,hpl,g0,hlt2,hw];refine ih (j+1) ⟨Ac,?_⟩ Ac _ _ (Wk.mk _ _ [0] ?_ ?_ ?_ rfl)
      .rw[hI,hk];exact Ad
      .simp[vw,qo]
      .simp[vw,zn,qo]
      .simp
  .rw[List.drop_of_length_le Ac,upR]at hI;exact Hg
end
section
variable [Cur]
def qxd{n:Int}(h1:327680<=n)(h2:n<=331775):qaN .u32 n 65535=327680:=by
 obtain⟨m,rfl⟩:=Int.eq_ofNat_of_zero_le (Ac:0<=n);have a1:(BitVec.ofInt 32 (m:Int)).toNat=m:=by rw[BitVec.toNat_ofInt];exact Ac
 have a2:(~~~ (BitVec.ofInt 32 65535)).toNat=(2 ^ 16-1) <<< 16:=Af
 have h5:m >>> 16=5:=by rw[Nat.shiftRight_eq_div_pow];exact Ac
 have e:m &&& ((2 ^ 16-1) <<< 16)=5 <<< 16:=by
  apply Nat.eq_of_testBit_eq;intro i;rw[Nat.testBit_and,Nat.testBit_shiftLeft,Nat.testBit_shiftLeft,Nat.testBit_two_pow_sub_one]
  by_cases hi:16<=i
  .have hb:m.testBit i=(5:Nat).testBit (i-16):=by
    rw[<- h5,Nat.testBit_shiftRight];congr 1;exact Ac
   rw[hb]
   by_cases hj:i-16<16
   .simp[hi,hj]
   .have:(5:Nat).testBit (i-16)=false:=Nat.testBit_lt_two_pow (zzh (Af:5<2 ^ 16) (Nat.pow_le_pow_right Af Ac));simp[this]
  .simp[hi]
 show IntKind.wrap .u32 ((BitVec.ofInt 32 (m:Int) &&& ~~~ (BitVec.ofInt 32 65535)).toNat:Int)=327680;rw[BitVec.toNat_and,a1,a2,e];exact Af
def qmX{n:Int}(h:qgp n=true):knA n=true:=by
 unfold qgp at h;simp only[zzO,zzB,zzb]at h;rcases h with rfl|⟨h1,h2⟩
 .exact Af
 .unfold knA;rw[qxd h1 h2];exact Af
def qqy{v:Int}(h0:0<=v)(h1:v<18446744073709551616):qaN .u64 v v=0:=by
 show IntKind.wrap .u64 ((BitVec.ofInt 64 v &&& ~~~ (BitVec.ofInt 64 v)).toNat:Int)=0;rw[BitVec.and_not_self];exact Af
def qBm{v:Int}(h0:0<=v)(h1:v<=4294967295):qaN .u64 v 4294967295=0:=by
 have:=qwm (s:=v) (m:=4294967295) h0 Ac
 have e:xK .u64 v 4294967295=v:=by
  obtain⟨m,rfl⟩:=Int.eq_ofNat_of_zero_le h0;have a1:(BitVec.ofInt 64 (m:Int)).toNat=m:=by rw[BitVec.toNat_ofInt];exact Ac
  have a2:(BitVec.ofInt 64 4294967295).toNat=2 ^ 32-1:=Af
  show IntKind.wrap .u64 ((BitVec.ofInt 64 (m:Int) &&& BitVec.ofInt 64 4294967295).toNat:Int)=_;rw[BitVec.toNat_and,a1,a2,Nat.and_two_pow_sub_one_eq_mod,Nat.mod_eq_of_lt Ac];exact qb3 Ac Ac
 rw[e]at this;simpa using this.symm
def qxI{s x:Int}(h:x ∈ jN s):0<=x/\x<18446744073709551616:=by
 have h1:=(List.mem_filter.1 h).1;have all:∀y ∈ qU.map (·.2),0<=y/\y<18446744073709551616:=Af
 exact all x h1
def qlj{p:Pol}(h:qae p=true):qgp p.deny=true:=by
 unfold qae at h;simp only[zzB]at h;exact h.1.1.1.1.2
def qun{p:Pol}(h:qae p=true)(s:List UInt8):knA (qwd p s)=true:=by
 have hd:=qlj h;unfold qwd;split
 .split
  .exact Af
  .exact qmX hd
 .rename_i hne;unfold qBG at hne ⊢;cases hf:qjT p.filter.calls s with
  | none=>rw[hf]at hne;exact absurd rfl hne
  | some c =>
   rw[hf]at hne;have hm:=List.mem_of_find?_eq_some hf;have hok:=((qrk p.filter).1 (qga h).1).2.1 c hm;apply qmX;unfold okC qmj at hok;unfold qgp;simp only[zzB,zzO,zzb]at hok ⊢;have hne':c.act≠0:=hne;exact Ac
def qC7{p:Pol}(h:qae p=true)(hR:PolR p)(d:Int)(s:List UInt8):(∀t ∈ (qiq p d s).2.1,wM t=true)/\knA (qiq p d s).2.2=true:=by
 unfold qiq;split
 .exact⟨by simp,qun h s⟩
 split
 .refine⟨by simp,?_⟩
  dsimp only;split<;>decide
 split
 .refine⟨λt ht=>?_,?_⟩
  .obtain⟨v,hv,rfl⟩:=zzl.1 ht;obtain⟨a,b⟩:=hR.fams v hv;have e:knA (if p.fmode=2 then 327777 else 2147418112)=true:=by split<;>decide
   simp only[wM,qBm a b,e];simp
  .dsimp only;split<;>decide
 split
 .split
  .exact⟨by simp,(Af:knA 327718=true)⟩
  .refine⟨λt ht=>?_,(Af:knA 2147418112=true)⟩
   rcases zzd.1 ht with ht|ht
   .obtain⟨v,hv,rfl⟩:=zzl.1 ht;obtain⟨a,b⟩:=qxI hv;have k:knA 327681=true:=Af
    simp only[wM,qqy a b,k];split<;>simp
   .split at ht
    .simp at ht;subst ht;exact Af
    .simp at ht
 split
 .refine⟨λt ht=>?_,(Af:knA 2147418112=true)⟩
  simp at ht;subst ht
  have hw:0<=qgk s/\qgk s<18446744073709551616:=by
   unfold qgk;repeat' split
   all_goals decide
  have k:knA 327681=true:=Af
  simp only[wM,qqy hw.1 hw.2,k];simp
 split
 .exact⟨(Af:∀t ∈ qL 0 4294967295 2147418112 [0,4294967295],wM t=true),(Af:knA 327681=true)⟩
 .exact⟨(Af:∀t ∈ qL 1 4294967295 2147418112 [0,3,5],wM t=true),(Af:knA 327681=true)⟩
def qnA:∀{l:List GRule}{o:Option GRule},(∀r ∈ l,qaZ r=true)->l.Pairwise (λx y=>x.nr<y.nr)->(∀b,o=some b->∀r ∈ l,b.nr<r.nr)->upR o l=true
 | [],_,_,_,_=>rfl
 | r::l,o,h1,h2,h3=>by
  obtain⟨k1,k2⟩:=List.pairwise_cons.1 h2;unfold upR;rw[h1 r (by simp),qnA (λx hx=>h1 x (List.mem_cons_of_mem _ hx)) k2 (λb hb x hx=>by cases hb;exact k1 x hx)]
  cases o with
  | none=>rfl
  | some b=>simp[h3 b rfl r (by simp)]
def qtt{p:Pol}(hp:PolOk p)(hR:PolR p)(hf20:p.fams.length<=20){d a:Int}{x:GFil}(h:qcX p d a=some x):qae p=true/\jr x=true/\inA p.arches x.arch=true/\∀r ∈ x.rules,qyJ x.arch r.nr≠[]:=by
 rw[<- qGl]at h;unfold qnh at h;split at h
 .rename_i hc;cases h;simp only[zzB,zzb]at hc;obtain⟨⟨⟨⟨h0,h6⟩,hm⟩,hin⟩,hact⟩:=hc
  have hru:∀r ∈ ruR p d (zC a),∃c ∈ zC a,r=⟨c.act,(qiq p d c.name).2.1,(qiq p d c.name).2.2⟩:=by
   intro r hr;obtain⟨c,hc,h⟩:=List.mem_filterMap.1 hr;split at h
   .cases h;exact⟨c,hc,rfl⟩
   .cases h
  refine⟨hm,?_,hin,λr hr=>?_⟩
  .have hlen:(ruR p d (zC a)).length<=400:=zzg (List.length_filterMap_le _ _) (by have:=qfd a;exact Ac)
   have hdf:knA (dfR p d)=true:=by
    unfold dfR;split
    .exact qmX (qlj hm)
    .split<;>decide
   have hup:upR none (ruR p d (zC a))=true:=by
    refine qnA (λr hr=>?_) ?_ (λb hb=>by cases hb)
    .obtain⟨c,_,rfl⟩:=hru r hr;obtain⟨t1,t2⟩:=qC7 hm hR d c.name
     have tl:(qiq p d c.name).2.1.length<=32:=by
      have h8:=qmE p.spaces;unfold qiq;split
      .simp
      split
      .simp
      split
      .simp[qL];exact Ac
      split
      .split
       .simp
       .simp only[zw,zzP,zzz];split<;>simp<;>omega
      split
      .simp
      split
      .simp[qL]
      .simp[qL]
     simp only[qaZ,t2,decide_eq_true tl,Bool.true_and,Bool.and_true];exact zzy.2 t1
    .exact B7
   simp only[jr,hdf,hup,decide_eq_true h0,decide_eq_true h6,decide_eq_true hlen];rfl
  .obtain⟨c,hc,rfl⟩:=hru r hr;obtain⟨y,hy,hn,he⟩:=qnV.1 hc;show qyJ a c.act≠[];unfold qyJ;cases hf:qD.find? (λx=>decide (qds x a=some c.act))with
   | none=>have:=List.find?_eq_none.1 hf y hy;simp[hn]at this
   | some z =>
    have all:∀x ∈ qD,x.1≠[]:=by decide +kernel
    exact all z (List.mem_of_find?_eq_some hf)
 .cases h
end
section
variable [Cur]
variable {P:Program}{f:Nat}
instance:DecidableEq GCall:=λa b=>if h:a.name=b.name/\a.act=b.act then isTrue (by obtain⟨h1,h2⟩:=h;cases a;cases b;exact Ad)else isFalse (by rintro rfl;exact h ⟨rfl,rfl⟩)
end
section
variable [Cur]
open Go.RowKit
variable {P:Program}{f:Nat}
def Rel.below{Z:Ren}{B:Nat->Prop}{h:Hp}{w w':World}(r:Rel σ0 Z B h w)(hb:Below w.heap.size w w'):Rel σ0 Z B h w':=Ap
def Kept.below{Z:Ren}{B:Nat->Prop}{h:Hp}{w w':World}(r:Rel σ0 Z B h w)(hb:Below w.heap.size w w'):Kept Z B h w Z h w' :=
 ⟨λ_ _=>rfl,zzL _,rfl,λ_ _ _=>rfl,λk hk=>hb.block k (r.base k hk),hb.size,⟨hb.os,hb.output⟩,λ_ _ h=>h,λ_ _ h=>.inl h,zzL _⟩
end
section
variable [Cur]
variable {P:Program}{f:Nat}
structure GData where
 nr:Int
 arch:Int
 ip:Int
 a0:Int
 a1:Int
 a2:Int
 a3:Int
 a4:Int
 a5:Int
def zT(d:GData):List AV:=[.w d.nr,.w d.arch,.x d.ip,.x d.a0,.x d.a1,.x d.a2,.x d.a3,.x d.a4,.x d.a5]
def qo6(d:GData)(k:Int):Int:=if k=0 then d.a0 else if k=1 then d.a1 else if k=2 then d.a2 else if k=3 then d.a3 else if k=4 then d.a4 else d.a5
def ofM(t n:Int):Int×Bool :=
 if xH (λx=>decide (x.2=t)) zO 0<0 then(0,false)
 else if xH (λx=>decide (x.2=t)) zO 0=0/\xK .u32 n 1073741824≠0 then(2,true)
 else(xH (λx=>decide (x.2=t)) zO 0,true)
def qb7(a:Int):Int:=(zO.getD a.toNat ([],0)).2
def qcA(a:Nat):IFn:=irJ 41 [49,a]
def qH8{g:Nat}(hc:Ck P f (qcA g))(hg:qa P g [] (.agg (zO.flatMap (qaY .u32))))(a:Int)(h0:0<=a)(h6:a<6):qa P f [.j a] (.tup [.w (qb7 a),.j 0]):=by
 refine Al ?_;simp only[qcA,vI,simprocAttr];have n1:¬a<0:=Ac
 have n2:¬6<=a:=Ac
 refine Sb (zzA n1 n2) ?_;refine hg.sc ?_;have h3:a=0\/a=1\/a=2\/a=3\/a=4\/a=5:=Ac
 rcases h3 with rfl|rfl|rfl|rfl|rfl|rfl <;>
 .simp only[↓vS,vT,simprocAttr,zO,qaY,zzv,List.flatMap_nil];simp[vZ,qb7,zO]
def qcj(t:GTest)(d:GData):Bool:=decide (0<=t.arg)&&decide (t.arg<6)&&decide (xK .u64 (qo6 d t.arg) t.mask=t.val)
def qlG(x:GFil)(d:GData):Int :=
 if(ofM d.arch d.nr).2=false\/(ofM d.arch d.nr).1≠x.arch then 2147418112
 else match x.rules.find? (λr=>decide (r.nr=d.nr))with
  | none=>x.dflt
  | some r=>match r.tests.find? (λt=>qcj t d)with
   | some t=>t.act
   | none=>r.act
end
section
variable [Cur]
def fnd(q:GTest->Bool)(y:Int)(l:List GTest):Int:=match l.find? q with|some t=>t.act|none=>y
theorem qlZ(q:GTest->Bool)(y:Int):fnd q y []=y:=rfl
theorem qdS(q:GTest->Bool)(y:Int)(t:GTest)(l:List GTest):fnd q y (t::l)=if q t=true then t.act else fnd q y l:=by
 unfold fnd;rw[List.find?_cons];cases q t<;>rfl
def idxS:List Nat:=[25,27,30,17,29,7,28,26]
end
section
variable [Cur]
variable {P:Program}{f:Nat}
def qwO(P:Program)(f:Nat):Prop:=∀a:Int,0<=a->a<6->qa P f [.j a] (.fz (zC a).length (rC (zC a)))
def qwf{a:Int}(h0:0<=a)(h6:a<6):0<(zC a).length:=by
 have:a=0\/a=1\/a=2\/a=3\/a=4\/a=5:=Ac
 exact H6
section
variable {g1 g2 g3 g4 g5 g6 g7 g8 g9 g10:Nat}
def qC8(w n:Int)(hn:0<n)(hb:n<=1000):∃k:Nat,IntKind.wrap .i64 ((IntKind.wrap .u64 w).tmod n)=(k:Int)/\(k:Int)<n:=by
 have hu:0<=IntKind.wrap .u64 w:=by
  show 0<=Int.emod _ _;exact Int.emod_nonneg _ Af
 have h3:=Int.emod_nonneg (IntKind.wrap .u64 w) (Ac:n≠0);have h4:=Int.emod_lt_of_pos (IntKind.wrap .u64 w) hn;rw[Int.tmod_eq_emod_of_nonneg hu];refine⟨((IntKind.wrap .u64 w) % n).toNat,?_,Ac⟩
 rw[qE Ac Ac];exact Ac
end
def qdh(x:Int×List UInt8×Int):List AV:=[.h x.1,.s x.2.1,.y x.2.2]
def qrB(x:Int×List UInt8×Int):(qdh x).length=3:=rfl
def qaK:List (Int×List UInt8×Int):=[(32,[108,100,97,98,115],1),(128,[108,100,108,101,110],1),(0,[108,100,105],1),(96,[108,100,109],1),(129,[108,100,120,108,101,110],1),(1,[108,100,120,105],1),(97,[108,100,120,109],1),(2,[115,116],2),(3,[115,116,120],2),(4,[97,100,100],3),(20,[115,117,98],3),(36,[109,117,108],3),(52,[100,105,118],3),(68,[111,114],3),(84,[97,110,100],3),(100,[108,115,104],3),(116,[114,115,104],3),(164,[120,111,114],3),(12,[97,100,100,120],3),(28,[115,117,98,120],3),(44,[109,117,108,120],3),(60,[100,105,118,120],3),(76,[111,114,120],3),(92,[97,110,100,120],3),(108,[108,115,104,120],3),(124,[114,115,104,120],3),(172,[120,111,114,120],3),(132,[110,101,103],3),(5,[106,97],4),(21,[106,101,113],4),(37,[106,103,116],4),(53,[106,103,101],4),(69,[106,115,101,116],4),(29,[106,101,113,120],4),(45,[106,103,116,120],4),(61,[106,103,101,120],4),(77,[106,115,101,116,120],4),(6,[114,101,116],5),(22,[114,101,116,97],5),(7,[116,97,120],6),(135,[116,120,97],6)]
def zE:List AV:=[.h 0,.s [],.y 0]
def qai(c:Int):Option (Int×List UInt8×Int):=qaK.find? λx=>decide (x.1=c)
def qfl:Option (Int×List UInt8×Int)->List AV
 | some x=>qdh x
 | none=>zE
def qm(c:Int):Int:=(qai c).elim 0 λx=>x.2.2
def xf(c:Int):Bool:=(qai c).isSome
def qgz:IFn:=irJ 318 []
def qD1(hc:Ck P f qgz):qa P f [] (.agg (qaK.flatMap qdh)):=by
 refine Al ?_;simp only[qgz,vI,simprocAttr];simp only[↓vS,vT,simprocAttr,qaK,qdh,zzv,List.flatMap_nil,vZ]
def qj7(a:Nat):IFn:=irJ 248 [318,a]
def qIA{e:Nat}(hc:Ck P f (qj7 e))(he:qa P e [] (.agg (qaK.flatMap qdh))){g:Nat}{a c:List AV}(ha:qu a=true)(hcc:qu c=true)(p:Int×List UInt8×Int->Bool)(hp:∀x ∈ qaK,qa P g (a++([.agg (qdh x)]++c)) (.b (p x))) :
  qa P f [.fn g a c] (.tup [.agg (qfl (qaK.find? p)),.b (qaK.find? p).isSome]):=by
 refine qa.mk hc (by simp[qu,clo,ha,hcc]) ?_;simp only[qj7,vI,simprocAttr];refine Ae ?_;refine he.sc ?_;refine Ae ?_;have hlen:(qaK.flatMap qdh).length=123:=by rw[zb (m:=3) qrB];rfl
 have hTc:qu (qaK.flatMap qdh)=true:=rfl;refine SL.loop (α:=Nat) (λj=>[(0,.fn g a c),(2,.ptr 0 0),(6,.agg (qaK.flatMap qdh)),(7,.j j)]) (λ_=>[.v zE]) (λj=>j<=41/\qaK.find? p=(qaK.drop j).find? p) (λj=>41-j) 0 [0] ?_ ?_ ?_ rfl ?_ ?_
 .generalize qaK.flatMap qdh=T at hTc;simp[vw,qd,hTc,ha,hcc]
 .simp[vw,zE]
 .simp
 .exact Ad
 rintro j ⟨hj,hI⟩ G ih;refine Am ?_
 by_cases hlt:j<41
 .have hlt':(j:Int)<41:=Ac
  have hjl:j<qaK.length:=hlt;have hx:qaK[j]?=some qaK[j]:=Ad
  have hw:=wS j;have hel:=qI (f:=qdh) (m:=3) qrB hx;have hb:j*3+3<=(qaK.flatMap qdh).length:=Ac
  have hpx:=hp _ (List.getElem_mem hjl);rw[zzf hjl,List.find?_cons]at hI;generalize hc0:qaK[j]=x at hel hI hpx;generalize hT:qaK.flatMap qdh=T at hel hb hlen hTc;simp only[qdh]at hpx;simp only[↓vS,vT,simprocAttr,hlt',hlt,hel,hb,qdh,zE];refine hpx.sc ?_;cases hs:p x with
  | true =>
   rw[hs]at hI;refine Ab ?_;rw[hI];simp[vZ,qfl,qdh]
  | false =>
   rw[hs]at hI;refine Sa hw ?_;refine ih (j+1) ⟨hlt,hI⟩ Ac _ _ (Wk.mk _ _ [0] ?_ ?_ ?_ rfl)
   .rw[hT];simp[vw,qd,hTc,ha,hcc]
   .simp[vw,zE]
   .simp
 .have hj':j=41:=Ac
  subst hj';have hlt':¬(((41:Nat):Int)<41):=Af
  have hI':qaK.find? p=none:=hI;clear ih;generalize qaK.flatMap qdh=T;simp +decide only[↓vS,vT,simprocAttr,hlt',zE];rw[hI'];simp[vZ,qfl,zE]
def qj6:IFn:=irJ 249 []
def qJ0(hc:Ck P f qj6)(x:Int×List UInt8×Int)(n:Int):qa P f [.agg (qdh x),.pf [.h n] 0] (.b (decide (x.1=n))):=by
 refine qa.mk hc (by simp[qu,clo,qdh]) ?_;simp only[qj6,qdh,vI,simprocAttr];exact Fd
def qmR(a b:Nat):IFn:=irJ 183 [249,a,248,b]
def qLh{g1 g2:Nat}(hc:Ck P f (qmR g1 g2))(h1:∀x n,qa P g1 [.agg (qdh x),.pf [.h n] 0] (.b (decide (x.1=n))))(h2:∀(g:Nat) (a c:List AV),qu a=true->qu c=true->∀p:Int×List UInt8×Int->Bool,(∀x ∈ qaK,qa P g (a++([.agg (qdh x)]++c)) (.b (p x)))->qa P g2 [.fn g a c] (.tup [.agg (qfl (qaK.find? p)),.b (qaK.find? p).isSome]))(n:Int) :
  qa P f [.h n] (.tup [.agg (qfl (qai n)),.b (xf n)]):=by
 refine Al ?_;have h:=h2 g1 [] [.pf [.h n] 0] rfl rfl (λx=>decide (x.1=n)) (λx _=>h1 x n)
 unfold xf qai;have hce:qu (qfl (qaK.find? λx=>decide (x.1=n)))=true/\(qfl (qaK.find? λx=>decide (x.1=n))).length=3:=by cases qaK.find? λx=>decide (x.1=n)<;>exact⟨rfl,rfl⟩
 generalize(qaK.find? λx=>decide (x.1=n))=o at h hce ⊢
 simp only[qmR,vI,simprocAttr];refine Ae ?_;refine(h.lend (vs':=[.fn g1 [] [.pf [.h n] 0]]) ?_ ?_ ?_)
 .exact Fe
 .cases o<;>rfl
 cases o with
 | none =>
  simp +decide only[↓vS,vT,simprocAttr,qfl,zE];simp[vZ]
 | some x =>
  simp +decide only[↓vS,vT,simprocAttr,qfl,qdh];simp[vZ]
def qmQ(a:Nat):IFn:=irJ 131 [183,a]
def qLg{g:Nat}(hc:Ck P f (qmQ g))(hg:∀n,qa P g [.h n] (.tup [.agg (qfl (qai n)),.b (xf n)]))(n:Int):qa P f [.h n] (.y (qm n)):=by
 refine Al ?_;have h:=hg n;unfold xf at h;simp only[qmQ,vI,simprocAttr];refine Ae ?_;exact Bz
def qiD(a:Nat):IFn:=irJ 352 [183,a]
def qF1{g:Nat}(hc:Ck P f (qiD g))(hg:∀n,qa P g [.h n] (.tup [.agg (qfl (qai n)),.b (xf n)]))(n:Int):qa P f [.h n] (.b (xf n)):=by
 refine Al ?_;have h:=hg n;unfold xf at h;simp only[qiD,vI,simprocAttr];refine Ae ?_;exact Bz
structure Ins where
 code:Int
 jt:Int
 jf:Int
 k:Int
def qK(i:Ins):List AV:=[.h i.code,.y i.jt,.y i.jf,.w i.k]
def qaT(i:Ins):(qK i).length=4:=rfl
def rP(p:List Ins):List AV:=p.flatMap qK
def qe7(p:List Ins):(rP p).length=p.length*4:=zb qaT p
theorem qz(p:List Ins):qu (rP p)=true:=x4 (λ_=>rfl)
def qHP{h:Hp}{esz n a c:Nat}{q q2 q3:IntKind}{cs:List AV}{k:AV->Prop}(h1:a<c)(h2:c<=n)(h3:c*esz<=cs.length):slK esz (some (.i q (a:Int))) (some (.i q2 (c:Int))) (some (.i q3 (c:Int))) (.fz n cs) h k↔evA (.fz (c-a) ((cs.drop (a*esz)).take ((c-a)*esz))) k:=by
 have hne:Nat.beq c a=false:=by
  grind[Nat.eq_of_beq_eq_true]
 have e1:a*esz<=cs.length:=zzg (Nat.mul_le_mul_right _ Ac) h3
 have e2:(c-a)*esz<=(cs.drop (a*esz)).length:=by
  rw[List.length_drop,Nat.sub_mul];exact Ac
 have hac:a<=c:=Ac
 simp only[slK,qlS,qsQ];show(ifK (c<=n) (ifK (c<=c) (ifK (a<=c) _)))↔_;simp only[ifK,h2,hac,zzL,true_and,Option.isSome_some,hne,Bool.true_and,Bool.false_eq_true,if_false];show(a*esz<=cs.length/\(c-a)*esz<=(cs.drop (a*esz)).length/\_)↔_;simp only[e1,e2,true_and];exact Bm
def qmM{sz fl:Nat}{tr:Tr Blk}{x:Blk}:Hp.push ⟨sz,fl,tr⟩ x=⟨sz+1,fl,tr.set sz x⟩:=rfl
def qgg{r:Loop}(h:r.state = .ready)(h2:r.pending=none):rdy r=r:=by cases r;simp_all [rdy]
def qsJ(x:BitVec 16):IntKind.wrap .u16 (x.toNat:Int)=(x.toNat:Int):=by
 have:=x.isLt;show((x.toNat:Int)) % 65536=_;exact Ac
def qic(x:BitVec 16):BitVec.ofInt 16 (x.toNat:Int)=x:=by simp
def qLX(x y:BitVec 16):orI .u16 (x.toNat:Int) (y.toNat:Int)=((x ||| y).toNat:Int):=by
 show IntKind.wrap .u16 ((BitVec.ofInt 16 (x.toNat:Int) ||| BitVec.ofInt 16 (y.toNat:Int)).toNat:Int)=_
 rw[qic,qic,qsJ]
def qDM(x y:BitVec 16):xK .u16 (x.toNat:Int) (y.toNat:Int)=((x &&& y).toNat:Int):=by
 show IntKind.wrap .u16 ((BitVec.ofInt 16 (x.toNat:Int) &&& BitVec.ofInt 16 (y.toNat:Int)).toNat:Int)=_;rw[qic,qic,qsJ]
def qDX(x y:BitVec 16):qaN .u16 (x.toNat:Int) (y.toNat:Int)=((x &&& ~~~ y).toNat:Int):=by
 show IntKind.wrap .u16 ((BitVec.ofInt 16 (x.toNat:Int) &&& ~~~ (BitVec.ofInt 16 (y.toNat:Int))).toNat:Int)=_;rw[qic,qic,qsJ]
def cell(k:Int):BitVec 16:=1#16 <<< k.toNat
def qzT{k:Int}(h0:0<=k)(h:k<16):qzU .u16 1 k=((cell k).toNat:Int):=by
 have key:∀n:Fin 16,qzU .u16 1 (n.val:Int)=((cell (n.val:Int)).toNat:Int):=Af
 have:=key ⟨k.toNat,Ac⟩
 exact Ah
structure InsOk (i:Ins):Prop where
 c0:0<=i.code
 c1:i.code<=65535
 t0:0<=i.jt
 t1:i.jt<=255
 f0:0<=i.jf
 f1:i.jf<=255
 k0:0<=i.k
 k1:i.k<=4294967295
def cOf(P:Program)(g:Nat):Prop:=∀n,qa P g [.h n] (.y (qm n))
def wrM(i:Ins):BitVec 16:=if qm i.code=2/\i.k<16 then cell i.k else 0#16
def rdM(i:Ins):BitVec 16:=if(i.code=96\/i.code=97)/\i.k<16 then cell i.k else 0#16
def qgw(a:Nat):IFn:=irJ 360 [131,a]
def qEA{g:Nat}(hc:Ck P f (qgw g))(hg:cOf P g)(i:Ins)(hi:InsOk i):qa P f [.agg (qK i)] (.h ((wrM i).toNat:Int)):=by
 refine qa.mk hc (by rfl) ?_;have h0:=hi.k0;unfold wrM;simp only[qgw,qK,vI,simprocAttr];refine Ab ?_;refine(hg _).sc ?_
 by_cases h2:qm i.code=2
 .by_cases hk:i.k<16
  .have hk':¬16<=i.k:=Ac
   rw[if_pos ⟨h2,hk⟩];simp +decide only[↓vS,vT,simprocAttr,h2,hk,hk',h0,qzT h0 hk];simp[vZ]
  .have hk':16<=i.k:=Ac
   rw[if_neg (λh=>hk h.2)]
   refine Sa (zzA h2 (zzA hk hk')) ?_;simp[vZ]
 .rw[if_neg (λh=>h2 h.1)]
  refine Sa h2 ?_;simp[vZ]
def qhh:IFn:=irJ 317 []
def qHE(hc:Ck P f qhh)(i:Ins)(hi:InsOk i):qa P f [.agg (qK i)] (.h ((rdM i).toNat:Int)):=by
 refine qa.mk hc (by rfl) ?_;have h0:=hi.k0;unfold rdM;simp only[qhh,qK,vI,simprocAttr]
 by_cases hk:i.k<16
 .have hk':¬16<=i.k:=Ac
  by_cases h1:i.code=96
  .rw[if_pos ⟨.inl h1,hk⟩];simp +decide only[↓vS,vT,simprocAttr,h1,hk',h0,qzT h0 hk];simp[vZ]
  .by_cases h2:i.code=97
   .rw[if_pos ⟨.inr h2,hk⟩];simp +decide only[↓vS,vT,simprocAttr,h2,hk',h0,qzT h0 hk];simp[vZ]
   .rw[if_neg Ac];exact Dl
 .have hk':16<=i.k:=Ac
  rw[if_neg (λh=>hk h.2)]
  by_cases h1:i.code=96
  .refine Sa (zzA h1 hk') ?_;simp[vZ]
  .by_cases h2:i.code=97
   .refine Sa (zzA h2 hk') ?_;simp[vZ]
   .exact Dl
def rW(s:List (BitVec 16)):List AV:=s.map λx=>.h (x.toNat:Int)
def rTt(r:List Bool):List AV:=r.map .b
def qHC{s:List (BitVec 16)}:(rW s).length=s.length:=by simp[rW]
def qC5{s:List Bool}:(rTt s).length=s.length:=by simp[rTt]
def zU{s:List (BitVec 16)}:qu (rW s)=true:=qcJ λ_=>rfl
def zq{s:List Bool}:qu (rTt s)=true:=qcJ λ_=>rfl
def qpM{s:List (BitVec 16)}{j:Nat}:(rW s)[j]?=(s[j]?).map λx=>.h (x.toNat:Int):=by simp[rW]
def qmb{s:List Bool}{j:Nat}:(rTt s)[j]?=(s[j]?).map .b:=by simp[rTt]
def qtx{α:Type}{F:α->AV}{L:List α}{j:Nat}(h:j<L.length)(x:α):(L.map F).take j++(F x::(L.map F).drop (j+1))=(L.set j x).map F:=by
 rw[<- List.map_take,<- List.map_drop,<- zz3,<- List.map_append,List.set_eq_take_append_cons_drop,if_pos h]
def qHD{s:List (BitVec 16)}{j:Nat}(h:j<s.length)(x:BitVec 16):(rW s).take j++(.h (x.toNat:Int)::(rW s).drop (j+1))=rW (s.set j x):=qtx h x
def qC6{s:List Bool}{j:Nat}(h:j<s.length)(x:Bool):(rTt s).take j++(.b x::(rTt s).drop (j+1))=rTt (s.set j x):=qtx h x
def qcL(s:List (BitVec 16))(r:List Bool)(j:Nat)(x:BitVec 16):List (BitVec 16):=s.set j (if r.getD j false=true then s.getD j 0 &&& x else x)
def qg3(nv:List AV)(s:List (BitVec 16))(r:List Bool):List Blk:=[.v (rW s),.v (rTt r),.v [.sl 0 0 s.length s.length false],.v [.sl 1 0 s.length s.length false]]
def qgv:IFn:=irJ 358 []
def qJF(hc:Ck P f qgv)(s:List (BitVec 16))(r:List Bool)(hr:r.length=s.length)(j:Nat)(hj:j<s.length)(x:BitVec 16) :
  Upd P f [.j j,.h (x.toNat:Int),.ptr 3 0,.ptr 2 0] (qg3 [] s r) (.tup []) (qg3 [] (qcL s r j x) (r.set j true)):=by
 refine Upd.mk hc (by simp[jq,bnd,qg3]) (by simp[qg3]) ?_;have hjr:j<r.length:=Ac
 obtain⟨y,hy⟩:∃y,s[j]?=some y:=⟨_,zzE hj⟩;obtain⟨b,hb⟩:∃b,r[j]?=some b:=⟨_,zzE hjr⟩;have hl1:j+1<=(rTt r).length:=by rw[qC5];exact Ac
 have hl2:∀s':List (BitVec 16),s'.length=s.length->j+1<=(rW s').length:=λs' h=>by rw[qHC];exact Ac
 have hb1:∀y:Bool,List.take j (rTt r)++(AV.b y::List.drop (j+1) (rTt r))=rTt (r.set j y):=λy=>qC6 hjr y
 have hb2:∀(s':List (BitVec 16)) (y:BitVec 16),s'.length=s.length->List.take j (rW s')++(AV.h (y.toNat:Int)::List.drop (j+1) (rW s'))=rW (s'.set j y):=λs' y h=>qHD Ac y
 have hc0:=hl2 s rfl;have hc1:=hb2 s (y &&& x) rfl;have hd0:=hl2 (s.set j 65535#16) (by simp);have hd1:=hb2 s 65535#16 rfl;have hd2:=hb2 (s.set j 65535#16) x (by simp);rw[show(((65535#16).toNat:Nat):Int)=65535 from rfl]at hd1
 have hy2:(s.set j 65535#16)[j]?=some 65535#16:=by rw[List.getElem?_set_self Ac]
 have hand:xK .u16 65535 (x.toNat:Int)=(x.toNat:Int):=by
  rw[show(65535:Int)=((65535#16).toNat:Int)from rfl,qDM,show(65535#16:BitVec 16)=BitVec.allOnes 16 from rfl,BitVec.allOnes_and]
 have ht3:(65535#16).toNat=65535:=rfl;simp only[qgv,qg3,qcL,zzs,hy,hb,Option.getD_some,vI,simprocAttr];cases b with
 | true =>
  simp +decide only[↓vS,vT,simprocAttr,zzU,qpM,qmb,hy,hb,zza,hl1,hb1,hc0,hc1,qDM,hj];intro _;refine⟨[0,1,2,3],?_⟩;simp[vw,qd,zU,zq];exact Af
 | false =>
  simp +decide only[↓vS,vT,simprocAttr,zzU,qpM,qmb,hy,hb,zza,hl1,hb1,hc0,hd0,hd1,hy2,hand,hd2,hj];intro _;refine⟨[0,1,2,3],?_⟩;simp[vw,qd,zU,zq];exact Af
def rNt(l:List Nat):List AV:=l.map λn:Nat=>.j (n:Int)
def qma{l:List Nat}:(rNt l).length=l.length:=by simp[rNt]
def ze{l:List Nat}:qu (rNt l)=true:=qcJ λ_=>rfl
def qtS{l:List Nat}{j:Nat}:(rNt l)[j]?=(l[j]?).map λn:Nat=>.j (n:Int):=by simp[rNt]
def qtR{l m:List Nat}:rNt l++rNt m=rNt (l++m):=by simp[rNt]
def qld(i:Ins)(x:BitVec 16)(at':Nat)(l:List Nat):List Nat:=if rdM i &&& ~~~ x=0#16 then l else l++[at']
def qeu(a:Nat):IFn:=irJ 316 [317,a]
def qI1{g:Nat}(hc:Ck P f (qeu g))(hg:∀i,InsOk i->qa P g [.agg (qK i)] (.h ((rdM i).toNat:Int)))(p:List Ins)(hp:p.length<=4096)(l:List Nat)(hl:l.length<=4096)(j:Nat)(i:Ins)(hj:p[j]?=some i)(hi:InsOk i)(x:BitVec 16) :
  Upd P f [.j j,.h (x.toNat:Int),.ptr 0 0,.ptr 1 0] [.v [.fz p.length (rP p)],.v [.own 2 l.length],.cells 1 true true (rNt l)] (.tup [])
   [.v [.fz p.length (rP p)],.v [.own 3 (qld i x j l).length],.dead,.cells 1 true true (rNt (qld i x j l))]:=by
 refine Upd.mkd hc (by simp[jq,bnd,qv (qz p)]) (by simp) ?_
 have hjl:j<p.length:=Ah
 have hel:=qI (f:=qK) (m:=4) qaT hj;rw[show p.flatMap qK=rP p from rfl]at hel
 have h4:j*4+4<=(rP p).length:=by rw[qe7];exact Ac
 have hr1:l.length+1<=qe:=by simp only[qe];exact Ac
 have hr2:(l.length+1)*8<=qe:=by simp only[qe];exact Ac
 have hap:rNt l++[.j (j:Int)]=rNt (l++[j]):=by rw[<- qtR];rfl
 have hll:(rNt l).length=l.length:=qma;simp only[qeu,vI,simprocAttr];refine Sa (zzA hjl (zzA hel h4)) ?_;refine(hg i hi).sc ?_;unfold qld
 by_cases h0:rdM i &&& ~~~ x=0#16
 .have h0':(((rdM i &&& ~~~ x).toNat:Nat):Int)=0:=by rw[h0];rfl
  rw[if_pos h0];refine Sa (zzA @qDX h0') ?_;intro _;refine⟨[0,1,2,2],?_⟩;simp[vw,qd,qz,ze,jR,rl]
  exact Ah
 .have h0':¬(((rdM i &&& ~~~ x).toNat:Nat):Int)=0:=λh=>h0 (by
   have:(rdM i &&& ~~~ x).toNat=0:=Ac
   exact BitVec.eq_of_toNat_eq this)
  rw[if_neg h0];simp +decide only[↓vS,vT,simprocAttr,qDX,h0',zzU,hr1,hr2,hll,hap];intro _;refine⟨[0,1,2,4],?_⟩;simp[vw,qd,qz,ze,jR,rl]
  exact Ah
def qJ:IFn:=irJ 411 []
def qxj(hc:Ck P f qJ):qa P f [.nils] .nils:=by
 refine Al ?_;simp only[qJ,vI,simprocAttr];refine Ab ?_;simp[vZ]
def qqz(hc:Ck P f qJ)(x:Int):Upd P f [.sl 0 0 1 1 false] [.v [.j x]] (.sl 0 0 1 1 false) [.v [.j x]]:=by
 refine Upd.mk hc (by simp[jq,bnd]) (by simp) ?_;simp only[qJ,vI,simprocAttr];refine Ab ?_;intro _;refine⟨[0],?_⟩;simp[vw,qd]
def qqA(hc:Ck P f qJ)(x y:Int):Upd P f [.sl 0 0 2 2 false] [.v [.j x,.j y]] (.sl 0 0 (if x=y then 1 else 2) 2 false) [.v [.j x,.j (if x=y then 0 else y)]]:=by
 refine Upd.mk hc (by simp[jq,bnd]) (by simp) ?_;simp only[qJ,vI,simprocAttr];refine Ab ?_;refine SL.loopn (α:=Nat) (λk=>[(0,.sl 0 0 2 2 false),(3,.j (k:Int))]) (λ_=>[.v [.j x,.j y]]) (λk=>k=1\/k=2/\x≠y) (λk=>2-k) 1 [0] ?_ ?_ ?_ rfl ?_ ?_ ?_ ?_
 .simp[vw]
 .simp[vw]
 .simp
 .simp
 .intro b hb;obtain rfl:b=0:=Ac
  rfl
 .exact Ac
 rintro k hk G ih;have hw0:IntKind.wrap .i64 0=0:=rfl;have hw1:IntKind.wrap .i64 1=1:=rfl;have hw2:IntKind.wrap .i64 2=2:=rfl;refine Am ?_;rcases hk with rfl|⟨rfl,hne⟩
 .by_cases h:x=y
  .subst h;refine Ab ?_;refine zB ?_;refine Sa hw0 ?_;refine SL.loopn (α:=Unit) (λ_=>[(0,.sl 0 0 2 2 false),(3,.j 1),(4,.sl 0 1 1 1 false),(5,.j 1)]) (λ_=>[.v [.j x,.j x]]) (λ_=>True) (λ_=>0) () [0] ?_ ?_ ?_ rfl ?_ ?_ ?_ ?_
   .simp[vw]
   .simp[vw]
   .simp
   .simp
   .intro b hb;obtain rfl:b=0:=Ac
    rfl
   .trivial
   rintro _ _ G2 _;refine Am ?_;refine Ab ?_;intro _;refine⟨[0],?_⟩;simp[vw,qd]
  .have h':¬y=x:=λe=>h e.symm
   refine Ab ?_;refine zB ?_;refine Sa (zzA h' (zzA hw0 (zzA hw1 hw2))) ?_;refine ih 2 (.inr ⟨rfl,h⟩) Af _ _ (Wk.mkn _ _ [0] ?_ ?_ ?_ rfl ?_ ?_)
   .simp[vw]
   .simp[vw]
   .simp
   .simp
   .intro b hb;obtain rfl:b=0:=Ac
    rfl
 .simp +decide only[↓vS,vT,simprocAttr,hne,if_false];intro _;refine⟨[0],?_⟩;simp[vw,qd,hne]
def loM(i:Ins):Int:=if i.jf<i.jt then i.jf else i.jt
def hiM(i:Ins):Int:=if i.jt<i.jf then i.jf else i.jt
def qc1(i:Ins)(at':Nat):List Nat :=
 if qm i.code=0\/qm i.code=5 then []
 else if qm i.code=4 then(if i.code=5 then [at'+1+i.k.toNat]else if loM i=hiM i then [at'+1+(loM i).toNat]else [at'+1+(loM i).toNat,at'+1+(hiM i).toNat])
 else [at'+1]
def goM(n:Nat)(x:BitVec 16):List Nat->List (BitVec 16)×List Bool->List (BitVec 16)×List Bool
 | [],st=>st
 | m::L,st=>if m<n then goM n x L (qcL st.1 st.2 m x,st.2.set m true)else st
def qxT{n:Nat}{x:BitVec 16}{m:Nat}{L:List Nat}{st:List (BitVec 16)×List Bool}:goM n x (m::L) st=if m<n then goM n x L (qcL st.1 st.2 m x,st.2.set m true)else st:=rfl
theorem qtf{n:Nat}{x:BitVec 16}:∀(L:List Nat) (st:List (BitVec 16)×List Bool),(goM n x L st).1.length=st.1.length/\(goM n x L st).2.length=st.2.length
 | [],_=>⟨rfl,rfl⟩
 | m::L,st=>by
  unfold goM;split
  .have:=qtf (n:=n) (x:=x) L (qcL st.1 st.2 m x,st.2.set m true);simpa[qcL]using this
  exact Ac
def wkB(p:List Ins)(gc:Nat)(l:List Nat)(st:List (BitVec 16)×List Bool):List Blk:=[.v [.fz p.length (rP p)],.v [.own 2 l.length],.cells 1 true true (rNt l),.v (rW st.1),.v (rTt st.2),.v [.sl 3 0 st.1.length st.1.length false],.v [.sl 4 0 st.1.length st.1.length false],.v [.fn gc [] [.ptr 6 0,.ptr 5 0]]]
def wI(p:List Ins)(gc:Nat)(l:List Nat)(st:List (BitVec 16)×List Bool)(j:Nat)(i:Ins):List Blk:=wkB p gc l st++[.v [.j (j:Int)],.v (qK i)]
def qfb(gv:Nat):AV:=.fn gv [] [.ptr 0 0,.ptr 1 0]
def qkI(gw:Nat)(p:List Ins)(j:Nat)(i:Ins):AV:=.fn gw [] [.pf (qK i) 0,.pf [.j (j:Int)] 0,.pf [.j (p.length:Int)] 0]
def wT(gv:Nat)(p:List Ins)(j:Nat):List (Nat×AV):=[(0,.fz p.length (rP p)),(1,qfb gv),(4,.ptr 5 0),(5,.ptr 6 0),(6,.ptr 7 0),(20,.fz p.length (rP p)),(21,.j (p.length:Int)),(22,.j (j:Int))]
def wTr(gv gw:Nat)(p:List Ins)(j:Nat)(i:Ins):List (Nat×AV):=wT gv p j++[(7,.ptr 8 0),(8,.ptr 9 0),(47,qkI gw p j i)]
def xu(a b:Nat):ICode:=icJ 410 [131,a,411,b] 15
def wB(a b:Nat):IFn:=irJ 410 [131,a,411,b] [15] [xu a b]
def qbL(a b c:Nat):ICode:=icJ 315 [358,a,359,b,360,c] 975 [] [] ⟨[],true,[4]⟩
def qbK(a b c:Nat):ICode:=icJ 315 [358,a,359,b,360,c] 31951 [] [] ⟨[],true,[4]⟩
def qbJ(a b c:Nat):ICode:=icJ 315 [358,a,359,b,360,c] 7375 [7] [qbK a b c] ⟨[],true,[4]⟩
def qiy(a b c:Nat):IFn:=irJ 315 [358,a,359,b,360,c] [7375,975] [qbJ a b c,qbL a b c] ⟨[],true,[4]⟩
def aW:ICode:=.r [.m 9 (.t 48)]
def bW(fw:Nat):ICode:=.blk 3 (.reg true [.q 49 (.load1 (.t 6)),.m 50 (.t 9),.q 51 (.load1 (.t 4)),.q 52 (.load1 (.t 7)),.q 53 (.iAddrS 1 (.t 51) (.t 52)),.q 54 (.load1 (.t 53)),.q 55 (.loadN 4 (.t 8)),.l 56 fw [.t 55],.q 57 (.bin .or (.t 54) (.t 56)),⟨(some 58),.callVW (.t 49) [.t 50,.t 57],none⟩])
structure RecOk (P:Program) (r0:Loop) (ps:List Nat) (ai bi:ICode):Prop where
 st:r0.state = .ready
 pd:r0.pending=none
 ok:LoopOk P r0 ps ai bi
def qxa{i:Ins}:List.take 4 (List.drop 0 (qK i))=qK i:=rfl
def qDW{i:Ins}:4<=(qK i).length:=zzL 4
def qsT(P:Program)(gc:Nat):Prop:=∀(s:List (BitVec 16)) (r:List Bool),r.length=s.length->∀j:Nat,j<s.length->∀x:BitVec 16,
  Upd P gc [.j j,.h (x.toNat:Int),.ptr 3 0,.ptr 2 0] (qg3 [] s r) (.tup []) (qg3 [] (qcL s r j x) (r.set j true))
def cWr(P:Program)(g:Nat):Prop:=∀i,InsOk i->qa P g [.agg (qK i)] (.h ((wrM i).toNat:Int))
def qmi{g1 g2 g3 gc gv gw:Nat}(hcome:qsT P gc)(hwr:cWr P g3)(p:List Ins)(hp:p.length<=4096)(i:Ins)(hi:InsOk i)(j:Nat)(l:List Nat)
  (r0:Loop) (hr:RecOk P r0 [48] aW (bW g3)) (L:List Nat) (ex:List AV) (hex:qu ex=true) (cp:Nat) (hcp:L.length<=cp) (hL:∀n ∈ L,j<n) (hL4:L.length<=4)
  (x:BitVec 16) (s0:List (BitVec 16)×List Bool) (hs1:s0.1.length=p.length) (hs2:s0.2.length=p.length) (hx:s0.1[j]?=some x) (Qf:AV->Hp->Prop)
  (hQ:Qf (.tup []) (mkH 0 (wI p gc l (goM p.length (x ||| wrM i) L s0) j i++[.map (zu r0 (wTr gv gw p j i)),.v (rNt L++ex)])))
  {t':Tr AV}{h':Hp}(hw:Wk 11 t' h' (mkT [(0,.yl 10),(3,.pf [.j (p.length:Int)] 0),(49,.sl 11 0 L.length cp false),(50,.j (L.length:Int)),(51,.j 0)]) (mkH 0 (wI p gc l s0 j i++[.map (zu r0 (wTr gv gw p j i)),.v (rNt L++ex)]))) :
  S P 11 (xu g1 g2) (xG [] Qf) t' h':=by
 refine B4 ?_;have hid:=qgg hr.st hr.pd;simp only[xu,wI,wkB,zzC,zzN,vI,simprocAttr];refine Ab ?_
 refine SL.loopn (α:=Nat×(List (BitVec 16)×List Bool)) (λa=>[(0,.yl 10),(3,.pf [.j (p.length:Int)] 0),(49,.sl 11 0 L.length cp false),(50,.j (L.length:Int)),(51,.j (a.1:Int))])
  (λa=>wI p gc l a.2 j i++[.map (zu r0 (wTr gv gw p j i)),.v (rNt L++ex)])
  (λa=>a.1<=L.length/\a.2.1.length=p.length/\a.2.2.length=p.length/\a.2.1[j]?=some x/\goM p.length (x ||| wrM i) (L.drop a.1) a.2=goM p.length (x ||| wrM i) L s0) (λa=>L.length-a.1) (0,s0) [0,1,2,3,4,5,6,7,8,9,10,11] ?_ ?_ ?_ rfl ?_ ?_ ?_ ?_
 .simp[vw,wI,wkB]
 .exact Gu
 .simp
 .simp[wI,wkB]
 .intro b hb;have:b=0\/b=1\/b=2\/b=3\/b=4\/b=5\/b=6\/b=7\/b=8\/b=9\/b=10:=Ac
  exact A5
 .exact Ad
 rintro⟨q,s,r⟩ ⟨hq,hl1,hl2,hxq,hgo⟩ G ih;simp only at hq hl1 hl2 hxq hgo;simp only[wI,wkB,zzC,zzN,vI,simprocAttr]
 by_cases hlt:q<L.length
 .obtain⟨n,hn⟩:∃n,L[q]?=some n:=⟨_,zzE hlt⟩;have hjn:=hL n Ah;have hgn:(rNt L++ex)[q]?=some (.j (n:Int)):=by rw[zzj (by rw[qma];exact Ac),qtS,hn];rfl
  have hqc:q<cp:=Ac
  simp +decide only[↓vS,vT,simprocAttr,hlt,zzU,hgn]
  have hdr:L.drop q=n::L.drop (q+1):=Db
  rw[hdr,qxT]at hgo
  by_cases hnl:n<p.length
  .have hnl':¬(p.length:Int)<=(n:Int):=Ac
   rw[if_pos hnl]at hgo;have hw1:=wS q;have hjs:j<p.length:=Ac
   have hcm:=hcome s r Ac n Ac (x ||| wrM i)
   have hln:(qcL s r n (x ||| wrM i)).length=p.length:=by simp[qcL,hl1]
   have hxn:(qcL s r n (x ||| wrM i))[j]?=some x:=by unfold qcL;rw[List.getElem?_set_ne Ac];exact Ac
   have hln2:(r.set n true).length=p.length:=Ah
   have ih2:=ih (q+1,qcL s r n (x ||| wrM i),r.set n true) Ah Ac
   refine Sa hnl' ?_;refine SY.mk (r:=r0) (ts:=wTr gv gw p j i) (ps:=[48]) (ai:=aW) (bi:=bW g3) Bn hr.st hr.ok (zzu _) Ah rfl ?_;rw[show mkT (wTr gv gw p j i)=mkT [(0,.fz p.length (rP p)),(1,qfb gv),(4,.ptr 5 0),(5,.ptr 6 0),(6,.ptr 7 0),(20,.fz p.length (rP p)),(21,.j (p.length:Int)),(22,.j (j:Int)),(7,.ptr 8 0),(8,.ptr 9 0),(47,qkI gw p j i)]from rfl]
   refine qj ?_;simp only[aW,qkp,vI,simprocAttr];refine Ae ?_;refine⟨wTr gv gw p j i,Bn,?_⟩
   refine qj ?_;simp only[qC,bW,vI,simprocAttr];refine Ab ?_;refine zB ?_;simp +decide only[↓vS,vT,simprocAttr,hl1,hjs,zzU,qpM,hxq,zza,qxa,qDW];refine(hwr i hi).pc ?_;refine Sa @qLX ?_;refine hcm.pc (vs:=[.j n,.h ((x ||| wrM i).toNat:Int),.ptr 3 0,.ptr 2 0]) [3,4,5,6] (Lent.of Af ?_) ?_
   .simp[vL,vw,qg3,qv zU,qf zU,qv zq,qf zq,hl1]
   simp only[vK,simprocAttr,qg3,qf zU,qf zq];refine Ab ?_;refine⟨bsy r0,wTr gv gw p j i,Bn,?_⟩
   rw[qeL,hid];simp only[qC];refine Sa (zzA hw1 hnl') ?_;refine ih2 _ _ (Wk.mkn _ _ [0,1,2,3,4,5,6,7,8,9,10,11] ?_ ?_ ?_ rfl ?_ ?_)
   .simp[vw,wI,wkB]
   .exact Gu
   .simp
   .simp[wI,wkB]
   .intro b hb;have:b=0\/b=1\/b=2\/b=3\/b=4\/b=5\/b=6\/b=7\/b=8\/b=9\/b=10:=Ac
    exact A5
  .have hnl':(p.length:Int)<=(n:Int):=Ac
   rw[if_neg hnl]at hgo;refine Sa hnl' ?_;rw[<- hgo]at hQ;exact hQ
 .obtain rfl:q=L.length:=Ac
  refine Sa hlt ?_;rw[List.drop_length]at hgo;rw[<- hgo]at hQ;exact hQ
def qiz(a:Nat):IFn:=irJ 359 [410,a]
def qLp{g:Nat}(hc:Ck P f (qiz g))(i:Ins)(j n:Nat):qa P f [.agg (qK i),.j (j:Int),.j (n:Int)] (.fn g [] [.pf (qK i) 0,.pf [.j (j:Int)] 0,.pf [.j (n:Int)] 0]):=by
 refine Al ?_;simp only[qiz,vI,simprocAttr];refine Ab ?_;simp[vZ,vP,zz4,qK]
def qpI{x:Nat}:rNt [x]=[.j (x:Int)]:=rfl
def qpJ{x y:Nat}:rNt [x,y]=[.j (x:Int),.j (y:Int)]:=rfl
def qAi{g1 g2:Nat}(g3 gv gw gc:Nat)(p:List Ins)(i:Ins)(j:Nat)(l:List Nat)(r0:Loop)(s0:List (BitVec 16)×List Bool)(Qf:AV->Hp->Prop)
  (hQ:Qf (.tup []) (mkH 0 (wI p gc l s0 j i++[.map (zu r0 (wTr gv gw p j i))])))
  {t':Tr AV}{h':Hp}(hw:Wk 11 t' h' (mkT [(50,.j 0),(51,.j 0)]) (mkH 0 (wI p gc l s0 j i++[.map (zu r0 (wTr gv gw p j i))]))) :
  S P 11 (xu g1 g2) (xG [] Qf) t' h':=by
 refine B4 ?_;simp only[xu,wI,wkB,zzC,zzN,vI,simprocAttr];refine Ab ?_;refine SL.loopn (α:=Unit) (λ_=>[(50,.j 0),(51,.j 0)]) (λ_=>wI p gc l s0 j i++[.map (zu r0 (wTr gv gw p j i))]) (λ_=>True) (λ_=>0) () [0,1,2,3,4,5,6,7,8,9,10] ?_ ?_ ?_ rfl ?_ ?_ ?_ ?_
 .simp[vw,wI,wkB]
 .simp[vw,wI,wkB,wTr,wT,qfb,qkI,qz,ze,zU,zq,qd,qK,qbG,qb1,qaB,jj,xF]
 .simp
 .simp[wI,wkB]
 .intro b hb;have:b=0\/b=1\/b=2\/b=3\/b=4\/b=5\/b=6\/b=7\/b=8\/b=9\/b=10:=Ac
  exact A5
 .trivial
 rintro _ _ G _;simp only[wI,wkB,zzC,zzN,vI,simprocAttr];refine Ab ?_;exact hQ
def qAh{g1 g2 g3 g4 gc gv gw:Nat}(hcw:Ck P gw (wB g1 g2))(hof:cOf P g1)(hcc:Ck P g2 qJ)(hcome:qsT P gc)(hwr:cWr P g3)
  (hwy:∀i (j n:Nat),qa P g4 [.agg (qK i),.j (j:Int),.j (n:Int)] (.fn gw [] [.pf (qK i) 0,.pf [.j (j:Int)] 0,.pf [.j (n:Int)] 0]))
  (p:List Ins) (hp:p.length<=4096) (i:Ins) (hi:InsOk i) (j:Nat) (hj:j<p.length) (l:List Nat)
  (x:BitVec 16) (s0:List (BitVec 16)×List Bool) (hs1:s0.1.length=p.length) (hs2:s0.2.length=p.length) (hx:s0.1[j]?=some x) (Q:X->Tr AV->Hp->Prop)
  (hQ:∀t'' h'',Wk 2 t'' h'' (mkT (wT gv p j)) (mkH 0 (wkB p gc l (goM p.length (x ||| wrM i) (qc1 i j) s0)))->Q .normal t'' h'')
  {t':Tr AV}{h':Hp}(hw:Wk 2 t' h' (mkT (wT gv p j++[(7,.ptr 8 0),(8,.ptr 9 0)])) (mkH 0 (wI p gc l s0 j i))) :
  S P 2 (qbK gc g4 g3) Q t' h':=by
 refine B4 ?_;simp only[qbK,wT,wI,wkB,zzC,zzN,vI,simprocAttr];refine Sa (zzA @qxa @qDW) ?_;refine(hwy i j p.length).sc ?_;refine Ab ?_;refine S.weak (Wk.mkn (wTr gv gw p j i) (wI p gc l s0 j i) [0,1,2,3,4,5,6,7,8,9] ?_ ?_ ?_ rfl ?_ ?_) ?_
 .simp[vw,wTr,wT,qfb,qkI,qz,wI,wkB,qK]
 .simp[vw,wI,wkB,qz,ze,zU,zq,qd,qK]
 .simp
 .simp[wI,wkB]
 .intro b hb;have:b=0\/b=1:=Ac
  exact By
 refine S.rangeF (by simp[jR,wI,wkB]) (by simp[wTr,wT]) ⟨rfl,rfl⟩ ?_;refine qlk.2 ⟨qkI gw p j i,by simp[wTr,wT,mkT,zz4],?_⟩
 refine⟨qcK hcw,λr0 hr0 hp0 hlo=>SC.mk hcw ?_⟩
 have hrec:RecOk P r0 [48] aW (bW g3):=⟨hr0,hp0,hlo⟩;have hid:=qgg hr0 hp0;obtain⟨Qf,hQf⟩:∃Qf:AV->Hp->Prop,Qf=qBy (mkH 0 (wI p gc l s0 j i)).sz (λe t h=>onX e (Q .normal t h) (λi=>if i=2 then Q .normal t h else Q (.exit i) t h) (Q .ret t h)) (mkT (wTr gv gw p j i)):=⟨_,rfl⟩
 have hfin0:Qf (.tup []) (mkH 0 (wI p gc l (goM p.length (x ||| wrM i) (qc1 i j) s0) j i++[.map (zu r0 (wTr gv gw p j i))])):=by
  skip
  rw[hQf];refine⟨r0,wTr gv gw p j i,Ig,by rw[hr0];exact Af,?_⟩
  rw[hp0];simp only[wI,wkB,wTr,wT,zzC,zzN,vI,simprocAttr,qC];simp only[qjj];refine hQ _ _ (Wk.mkn _ _ [0,1,2,3,4,5,6,7] ?_ ?_ ?_ rfl ?_ ?_)
  .simp[vw,wT,qfb,qkI,qz,wkB,qK]
  .simp[vw,wkB,qz,ze,zU,zq,qd,qK]
  .simp
  .simp[wkB]
  .intro b hb;have:b=0\/b=1:=Ac
   exact By
 have hfin1:∀cs:List AV,Qf (.tup []) (mkH 0 (wI p gc l (goM p.length (x ||| wrM i) (qc1 i j) s0) j i++[.map (zu r0 (wTr gv gw p j i)),.v cs])):=by
  intro cs;rw[hQf];refine⟨r0,wTr gv gw p j i,Ig,by rw[hr0];exact Af,?_⟩
  rw[hp0];simp only[wI,wkB,wTr,wT,zzC,zzN,vI,simprocAttr,qC];simp only[qjj];refine hQ _ _ (Wk.mkn _ _ [0,1,2,3,4,5,6,7] ?_ ?_ ?_ rfl ?_ ?_)
  .simp[vw,wT,qfb,qkI,qz,wkB,qK]
  .simp[vw,wkB,qz,ze,zU,zq,qd,qK]
  .simp
  .simp[wkB]
  .intro b hb;have:b=0\/b=1:=Ac
   exact By
 rw[<- hQf];show S P 11 (wB g1 g2).body (xG [] Qf) (qaS [.yl 10,.pf (qK i) 0,.pf [.j (j:Int)] 0,.pf [.j (p.length:Int)] 0] 0 .leaf) (mkH 0 (wI p gc l s0 j i++[.map (zu r0 (wTr gv gw p j i))]));refine qj ?_;simp only[wB,wI,wkB,qK,zzC,zzN,vI,simprocAttr];refine Ab ?_;refine(hof i.code).sc ?_;refine Ab ?_;have hj1:=wS j
 have hjj:∀a:Int,0<=a->a<=4294967295->IntKind.wrap .i64 (IntKind.wrap .i64 ((j:Int)+1)+IntKind.wrap .i64 a)=((j+1+a.toNat:Nat):Int):=Dm
 have hk:=hjj i.k hi.k0 hi.k1;have hlo0:0<=loM i/\loM i<=255:=by have:=hi.t0;have:=hi.t1;have:=hi.f0;have:=hi.f1;unfold loM;exact Fq
 have hhi0:0<=hiM i/\hiM i<=255:=by have:=hi.t0;have:=hi.t1;have:=hi.f0;have:=hi.f1;unfold hiM;exact Fq
 have hlo:=hjj (loM i) hlo0.1 Ac;have hhi:=hjj (hiM i) hhi0.1 Ac
 by_cases hA:qm i.code=0\/qm i.code=5
 .have hwl:qc1 i j=[]:=by unfold qc1;rw[if_pos hA]
  have h4:¬qm i.code=4:=Ac
  rw[hwl]at hfin0;have fin0:∀{t':Tr AV}{h':Hp},Wk 11 t' h' (mkT [(50,.j 0),(51,.j 0)]) (mkH 0 (wI p gc l s0 j i++[.map (zu r0 (wTr gv gw p j i))]))->S P 11 (xu g1 g2) (xG [] Qf) t' h':=λhw=>qAi g3 gv gw gc p i j l r0 s0 Qf hfin0 hw
  rcases hA with hA|hA<;>(
   simp +decide only[↓vS,vT,simprocAttr,hA];refine(qxj hcc).sc ?_;simp +decide only[↓vS,vT,simprocAttr];refine fin0 (Wk.mkn _ _ [0,1,2,3,4,5,6,7,8,9,10] ?_ ?_ ?_ rfl ?_ ?_)
   .simp[vw,wI,wkB]
   .simp[vw,wI,wkB,wTr,wT,qfb,qkI,qz,ze,zU,zq,qd,qK,qbG,qb1,qaB,jj,xF]
   .simp
   .simp[wI,wkB]
   .intro b hb;have:b=0\/b=1\/b=2\/b=3\/b=4\/b=5\/b=6\/b=7\/b=8\/b=9\/b=10:=Ac
    rcases this with rfl|rfl|rfl|rfl|rfl|rfl|rfl|rfl|rfl|rfl|rfl<;>rfl)
 by_cases h4:qm i.code=4
 .have h0:¬qm i.code=0:=Ac
  have h5:¬qm i.code=5:=Ac
  refine Sa (zzA h4 hj1) ?_
  by_cases hja:i.code=5
  .have hwl:qc1 i j=[j+1+i.k.toNat]:=by unfold qc1;rw[if_neg hA,if_pos h4,if_pos hja]
   rw[if_pos hja];simp only[hk];refine(qqz hcc ((j+1+i.k.toNat:Nat):Int)).sc (vs:=[.sl 0 0 1 1 false]) [12] (Lent.of Af ?_) ?_
   .simp[vL,vw]
   simp only[vK,simprocAttr];refine Ab ?_;refine qmi (gv:=gv) (gw:=gw) (gc:=gc) hcome hwr p hp i hi j l r0 hrec [j+1+i.k.toNat] [] rfl 1 (by simp) Ah (by simp) x s0 hs1 hs2 hx Qf (by rw[<- hwl];exact Ad) (Wk.mkn _ _ [0,1,2,3,4,5,6,7,8,9,10,12] ?_ ?_ ?_ rfl ?_ ?_)
   .simp[vw,wI,wkB]
   .exact Bw
   .simp
   .simp[wI,wkB]
   .intro b hb;have:b=0\/b=1\/b=2\/b=3\/b=4\/b=5\/b=6\/b=7\/b=8\/b=9\/b=10:=Ac
    exact A5
  .rw[if_neg hja];simp only[show(if i.jf<i.jt then i.jf else i.jt)=loM i from rfl,show(if i.jt<i.jf then i.jf else i.jt)=hiM i from rfl,hlo,hhi]
   by_cases hlh:loM i=hiM i
   .have hwl:qc1 i j=[j+1+(loM i).toNat]:=by unfold qc1;rw[if_neg hA,if_pos h4,if_neg hja,if_pos hlh]
    refine(qqA hcc ((j+1+(loM i).toNat:Nat):Int) ((j+1+(hiM i).toNat:Nat):Int)).sc (vs:=[.sl 0 0 2 2 false]) [11] (Lent.of Af ?_) ?_
    .simp[vL,vw]
    rw[hlh,if_pos rfl,if_pos rfl];rw[hlh]at hwl;simp only[vK,simprocAttr];refine Ab ?_;refine qmi (gv:=gv) (gw:=gw) (gc:=gc) hcome hwr p hp i hi j l r0 hrec [j+1+(hiM i).toNat] [.j 0] rfl 2 (by simp) Ah (by simp) x s0 hs1 hs2 hx Qf (by rw[<- hwl];exact Ad) (Wk.mkn _ _ [0,1,2,3,4,5,6,7,8,9,10,11] ?_ ?_ ?_ rfl ?_ ?_)
    .simp[vw,wI,wkB]
    .exact Bw
    .simp
    .simp[wI,wkB]
    .intro b hb;have:b=0\/b=1\/b=2\/b=3\/b=4\/b=5\/b=6\/b=7\/b=8\/b=9\/b=10:=Ac
     exact A5
   .have hwl:qc1 i j=[j+1+(loM i).toNat,j+1+(hiM i).toNat]:=by unfold qc1;rw[if_neg hA,if_pos h4,if_neg hja,if_neg hlh]
    refine(qqA hcc ((j+1+(loM i).toNat:Nat):Int) ((j+1+(hiM i).toNat:Nat):Int)).sc (vs:=[.sl 0 0 2 2 false]) [11] (Lent.of Af ?_) ?_
    .simp[vL,vw]
    rw[if_neg Ac,if_neg Ac];simp only[vK,simprocAttr];refine Ab ?_;refine qmi (gv:=gv) (gw:=gw) (gc:=gc) hcome hwr p hp i hi j l r0 hrec [j+1+(loM i).toNat,j+1+(hiM i).toNat] [] rfl 2 (by simp) (by simp;exact Ac) (by simp) x s0 hs1 hs2 hx Qf (by rw[<- hwl];exact Ad) (Wk.mkn _ _ [0,1,2,3,4,5,6,7,8,9,10,11] ?_ ?_ ?_ rfl ?_ ?_)
    .simp[vw,wI,wkB]
    .exact Bw
    .simp
    .simp[wI,wkB]
    .intro b hb;have:b=0\/b=1\/b=2\/b=3\/b=4\/b=5\/b=6\/b=7\/b=8\/b=9\/b=10:=Ac
     exact A5
 .have h0:¬qm i.code=0:=Ac
  have h5:¬qm i.code=5:=Ac
  have hwl:qc1 i j=[j+1]:=by unfold qc1;rw[if_neg hA,if_neg h4]
  refine Sa (zzA h0 (zzA h4 (zzA h5 hj1))) ?_;simp only[hj1];refine(qqz hcc ((j+1:Nat):Int)).sc (vs:=[.sl 0 0 1 1 false]) [11] (Lent.of Af ?_) ?_
  .simp[vL,vw]
  simp only[vK,simprocAttr];refine Ab ?_;refine qmi (gv:=gv) (gw:=gw) (gc:=gc) hcome hwr p hp i hi j l r0 hrec [j+1] [] rfl 1 (by simp) Ad (by simp) x s0 hs1 hs2 hx Qf (by rw[<- hwl];exact Ad) (Wk.mkn _ _ [0,1,2,3,4,5,6,7,8,9,10,11] ?_ ?_ ?_ rfl ?_ ?_)
  .simp[vw,wI,wkB]
  .exact Bw
  .simp
  .simp[wI,wkB]
  .intro b hb;have:b=0\/b=1\/b=2\/b=3\/b=4\/b=5\/b=6\/b=7\/b=8\/b=9\/b=10:=Ac
   exact A5
abbrev WSt:=List Nat×(List (BitVec 16)×List Bool)
def qef(j:Nat)(st:List (BitVec 16)×List Bool):List (BitVec 16)×List Bool:=if j=0 then(qcL st.1 st.2 0 0#16,st.2.set 0 true)else st
def stM(n j:Nat)(i:Ins)(st:WSt):WSt :=
 if(qef j st.2).2.getD j false=true then(qld i ((qef j st.2).1.getD j 0#16) j st.1,goM n ((qef j st.2).1.getD j 0#16 ||| wrM i) (qc1 i j) (qef j st.2))else(st.1,qef j st.2)
def wkM(n:Nat):Nat->List Ins->WSt->WSt
 | _,[],st=>st
 | j,i::L,st=>wkM n (j+1) L (stM n j i st)
def qfQ(p:List Ins):List Nat:=(wkM p.length 0 p ([],(List.replicate p.length 0#16,List.replicate p.length false))).1
def qz0{j:Nat}{st:List (BitVec 16)×List Bool}:(qef j st).1.length=st.1.length/\(qef j st).2.length=st.2.length:=by
 unfold qef;split<;>simp[qcL]
theorem qAg{i:Ins}{x:BitVec 16}{j:Nat}{l:List Nat}:(qld i x j l).length<=l.length+1:=by
 unfold qld;split<;>simp
def qJC(P:Program)(gv:Nat):Prop:=∀p:List Ins,p.length<=4096->∀l:List Nat,l.length<=4096->∀(j:Nat) (i:Ins),p[j]?=some i->InsOk i->∀x:BitVec 16,
  Upd P gv [.j j,.h (x.toNat:Int),.ptr 0 0,.ptr 1 0] [.v [.fz p.length (rP p)],.v [.own 2 l.length],.cells 1 true true (rNt l)] (.tup [])
   [.v [.fz p.length (rP p)],.v [.own 3 (qld i x j l).length],.dead,.cells 1 true true (rNt (qld i x j l))]
def qrS{g1 g2 g3 g4 gc gv gw:Nat}(hcw:Ck P gw (wB g1 g2))(hof:cOf P g1)(hcc:Ck P g2 qJ)(hcome:qsT P gc)(hwr:cWr P g3)(hvis:qJC P gv)
  (hwy:∀i (j n:Nat),qa P g4 [.agg (qK i),.j (j:Int),.j (n:Int)] (.fn gw [] [.pf (qK i) 0,.pf [.j (j:Int)] 0,.pf [.j (n:Int)] 0]))
  (p:List Ins) (hp:p.length<=4096) (i:Ins) (hi:InsOk i) (j:Nat) (hpi:p[j]?=some i) (l:List Nat) (hl:l.length<=4096)
  (s:List (BitVec 16)) (r:List Bool) (hs1:s.length=p.length) (hs2:r.length=p.length) (Q:X->Tr AV->Hp->Prop)
  (hQ:∀e t'' h'',(e = .normal\/e = .exit 1)->Wk 2 t'' h'' (mkT (wT gv p j)) (mkH 0 (if r.getD j false=true then wkB p gc (qld i (s.getD j 0#16) j l) (goM p.length (s.getD j 0#16 ||| wrM i) (qc1 i j) (s,r))else wkB p gc l (s,r)))->Q e t'' h'')
  {t':Tr AV}{h':Hp}(hw:Wk 2 t' h' (mkT (wT gv p j++[(7,.ptr 8 0),(8,.ptr 9 0)])) (mkH 0 (wI p gc l (s,r) j i))) :
  S P 2 (qbJ gc g4 g3) Q t' h':=by
 refine B4 ?_;have hlt:j<p.length:=Ah
 obtain⟨x,hx⟩:∃x,s[j]?=some x:=⟨_,zzE Ac⟩;obtain⟨b,hb⟩:∃b,r[j]?=some b:=⟨_,zzE Ac⟩;simp only[zzs,hx,hb,Option.getD_some]at hQ;simp only[qbJ,wT,wI,wkB,zzC,zzN,vI,simprocAttr];cases b with
 | false =>
  rw[if_neg (by simp)]at hQ;simp +decide only[↓vS,vT,simprocAttr,hs1,hlt,zzU,qmb,hb,zza];refine hQ _ _ _ (.inr rfl) (Wk.mkn _ _ [0,1,2,3,4,5,6,7] ?_ ?_ ?_ rfl ?_ ?_)
  .simp[vw,wT,qfb,qz,wkB]
  .simp[vw,wkB,qz,ze,zU,zq,qd,hs1]
  .simp
  .simp[wkB]
  .intro b hb;have:b=0\/b=1:=Ac
   exact By
 | true =>
  rw[if_pos rfl]at hQ;simp +decide only[↓vS,vT,simprocAttr,hs1,hlt,zzU,qmb,hb,zza];refine zB ?_;simp +decide only[↓vS,vT,simprocAttr,hs1,hlt,zzU,qpM,hx,zza,qfb];refine(hvis p hp l hl j i hpi hi x).pc (vs:=[.j j,.h (x.toNat:Int),.ptr 0 0,.ptr 1 0]) [0,1,2] (Lent.of Af ?_) ?_
  .simp[vL,vw,qv (qz p),qf (qz p),qv ze,qf ze]
  simp only[vK,simprocAttr,qf (qz p),qf ze];refine Ab ?_;refine qAh hcw hof hcc hcome hwr hwy p hp i hi j hlt (qld i x j l) x (s,r) hs1 hs2 hx Q (λt'' h'' hw=>hQ _ _ _ (.inl rfl) hw) (Wk.mkn _ _ [0,1,10,3,4,5,6,7,8,9] ?_ ?_ ?_ rfl ?_ ?_)
  .simp[vw,wT,qfb,qz,wI,wkB]
  .simp[vw,wI,wkB,qz,ze,zU,zq,qd,hs1,qK]
  .simp
  .simp[wI,wkB]
  .intro b hb;have:b=0\/b=1:=Ac
   exact By
def qgu(a b:Nat):IFn:=irJ 247 [316,a,315,b]
def qEt{g0 g1 g2 g3 g4 gc gv gw:Nat}(hc:Ck P f (qgu gv g0))(hck:Ck P g0 (qiy gc g4 g3))
  (hcw:Ck P gw (wB g1 g2)) (hof:cOf P g1) (hcc:Ck P g2 qJ) (hcome:qsT P gc) (hwr:cWr P g3) (hvis:qJC P gv)
  (hwy:∀i (j n:Nat),qa P g4 [.agg (qK i),.j (j:Int),.j (n:Int)] (.fn gw [] [.pf (qK i) 0,.pf [.j (j:Int)] 0,.pf [.j (n:Int)] 0]))
  (p:List Ins) (hp:p.length<=4096) (hi:∀i ∈ p,InsOk i):qa P f [.fz p.length (rP p)] (.fz (qfQ p).length (rNt (qfQ p))):=by
 refine qa.mk hc E5 ?_;simp only[qgu,vI,simprocAttr];refine Ab ?_;refine SC.mk hck (qj ?_);have hp':¬4096<(p.length:Int):=Ac
 have hr1:p.length<=qe:=by simp only[qe];exact Ac
 have hr2:2*p.length<=qe:=by simp only[qe];exact Ac
 have hr3:1*p.length<=qe:=Ac
 have hf1:(List.replicate p.length [AV.h 0]).flatten=rW (List.replicate p.length 0#16):=by
  generalize p.length=n
  exact Bp
 have hf2:(List.replicate p.length [AV.b false]).flatten=rTt (List.replicate p.length false):=by
  generalize p.length=n
  exact Bp
 simp only[qiy,vI,simprocAttr];refine Sa hp' ?_;refine zB ?_;refine Sa (zzA hr1 (zzA hr2 (zzA hr3 (zzA hf1 hf2)))) ?_
 refine SL.loopn (α:=Nat×WSt) (λa=>wT gv p a.1) (λa=>wkB p gc a.2.1 a.2.2)
  (λa=>a.1<=p.length/\a.2.1.length<=a.1/\a.2.2.1.length=p.length/\a.2.2.2.length=p.length/\wkM p.length a.1 (p.drop a.1) a.2=wkM p.length 0 p ([],(List.replicate p.length 0#16,List.replicate p.length false))) (λa=>p.length-a.1) (0,([],(List.replicate p.length 0#16,List.replicate p.length false))) [0,1,99,2,3,4,5,6] ?_ ?_ ?_ rfl ?_ ?_ ?_ ?_
 .simp[vw,wT,qfb,qz,wkB]
 .simp[vw,wkB,qz,ze,zU,zq,qd]
 .simp
 .simp[wkB]
 .intro b hb;have:b=0\/b=1:=Ac
  exact By
 .exact Ad
 rintro⟨j,l,s,r⟩ ⟨hj,hl,hs1,hs2,hgo⟩ G ih;simp only at hj hl hs1 hs2 hgo;simp only[wT,wkB,zzC,zzN,vI,simprocAttr]
 by_cases hlt:j<p.length
 .obtain⟨i,hpi⟩:∃i,p[j]?=some i:=⟨_,zzE hlt⟩;have hii:=hi i Ah;have hel:=qI (f:=qK) (m:=4) qaT hpi;rw[show p.flatMap qK=rP p from rfl]at hel
  have h4:j*4+4<=(rP p).length:=by rw[qe7];exact Ac
  have hdr:p.drop j=i::p.drop (j+1):=Db
  rw[hdr]at hgo;have hw1:=wS j;simp only[qK]at hel;have ih2:=ih (j+1,stM p.length j i (l,s,r));have hst:wkM p.length j (i::p.drop (j+1)) (l,s,r)=wkM p.length (j+1) (p.drop (j+1)) (stM p.length j i (l,s,r)):=rfl;rw[hst]at hgo;have hlen0:=qz0 (j:=j) (st:=(s,r))
  have hI:j+1<=p.length/\(stM p.length j i (l,s,r)).1.length<=j+1/\(stM p.length j i (l,s,r)).2.1.length=p.length/\(stM p.length j i (l,s,r)).2.2.length=p.length:=by
   refine⟨hlt,?_⟩;unfold stM
   grind[qAg,qtf]
  have ih3:=ih2 Ah Ac
  have hstM:(wkB p gc (stM p.length j i (l,s,r)).1 (stM p.length j i (l,s,r)).2)=if(qef j (s,r)).2.getD j false=true then wkB p gc (qld i ((qef j (s,r)).1.getD j 0#16) j l) (goM p.length ((qef j (s,r)).1.getD j 0#16 ||| wrM i) (qc1 i j) ((qef j (s,r)).1,(qef j (s,r)).2))else wkB p gc l ((qef j (s,r)).1,(qef j (s,r)).2):=by
   unfold stM;split<;>rfl
  clear hgo hst ih2
  by_cases hj0:j=0
  .have hj0':decide ((j:Int)=0)=true:=by rw[hj0];rfl
   have hcm:=hcome s r Ac 0 Ac 0#16;have he1:(qef j (s,r)).1=qcL s r 0 0#16:=by unfold qef;rw[if_pos hj0]
   have he2:(qef j (s,r)).2=r.set 0 true:=by unfold qef;rw[if_pos hj0]
   simp only[he1,he2]at hstM;have hs1':(qcL s r 0 0#16).length=p.length:=Ah
   refine Sa (zzA hlt (zzA hel (zzA h4 hj0'))) ?_;refine hcm.sc (vs:=[.j 0,.h 0,.ptr 3 0,.ptr 2 0]) [3,4,5,6] (Lent.of Af ?_) ?_
   .simp[vL,vw,qg3,qv zU,qf zU,qv zq,qf zq]
   simp only[vK,simprocAttr,qg3,qf zU,qf zq];refine Ab ?_;refine qrS hcw hof hcc hcome hwr hvis hwy p hp i hii j hpi l Ac (qcL s r 0 0#16) (r.set 0 true) hs1' Ah _ ?_ (Wk.mkn _ _ [0,1,2,3,4,5,6,7,8,9] ?_ ?_ ?_ rfl ?_ ?_)
   .rintro e t'' h'' (rfl|rfl) hw2<;>(
     simp +decide only[↓vS,vT,simprocAttr];rw[<- hstM]at hw2;refine S.weak hw2 (qj ?_);generalize(stM p.length j i (l,s,r))=st2 at ih3 hI;obtain⟨l2,s2,r2⟩:=st2;simp only at ih3 hI;simp only[qbL,wT,wkB,zzC,zzN,vI,simprocAttr];simp +decide only[↓vS,vT,simprocAttr,hw1];refine ih3 _ _ (Wk.mkn _ _ [0,1,2,3,4,5,6,7] ?_ ?_ ?_ rfl ?_ ?_)
     .simp[vw,wT,qfb,qz,wkB]
     .simp[vw,wkB,qz,ze,zU,zq,qd]
     .simp
     .simp[wkB]
     .intro b hb;have:b=0\/b=1:=Ac
      rcases this with rfl|rfl<;>rfl)
   .simp[vw,wT,qfb,qz,wI,wkB]
   .simp[vw,wI,wkB,qz,ze,zU,zq,qd,qK,hs1,hs1']
   .simp
   .simp[wI,wkB]
   .intro b hb;have:b=0\/b=1:=Ac
    exact By
  .have hj0':decide ((j:Int)=0)=false:=Ah
   have he1:(qef j (s,r)).1=s:=by unfold qef;rw[if_neg hj0]
   have he2:(qef j (s,r)).2=r:=by unfold qef;rw[if_neg hj0]
   simp only[he1,he2]at hstM;have hs1':=hs1;refine Sa (zzA hlt (zzA hel (zzA h4 hj0'))) ?_;refine qrS hcw hof hcc hcome hwr hvis hwy p hp i hii j hpi l Ac s r hs1 hs2 _ ?_ (Wk.mkn _ _ [0,1,2,3,4,5,6,7,8,9] ?_ ?_ ?_ rfl ?_ ?_)
   .rintro e t'' h'' (rfl|rfl) hw2<;>(
     simp +decide only[↓vS,vT,simprocAttr];rw[<- hstM]at hw2;refine S.weak hw2 (qj ?_);generalize(stM p.length j i (l,s,r))=st2 at ih3 hI;obtain⟨l2,s2,r2⟩:=st2;simp only at ih3 hI;simp only[qbL,wT,wkB,zzC,zzN,vI,simprocAttr];simp +decide only[↓vS,vT,simprocAttr,hw1];refine ih3 _ _ (Wk.mkn _ _ [0,1,2,3,4,5,6,7] ?_ ?_ ?_ rfl ?_ ?_)
     .simp[vw,wT,qfb,qz,wkB]
     .simp[vw,wkB,qz,ze,zU,zq,qd]
     .simp
     .simp[wkB]
     .intro b hb;have:b=0\/b=1:=Ac
      rcases this with rfl|rfl<;>rfl)
   .simp[vw,wT,qfb,qz,wI,wkB]
   .simp[vw,wI,wkB,qz,ze,zU,zq,qd,qK,hs1,hs1']
   .simp
   .simp[wI,wkB]
   .intro b hb;have:b=0\/b=1:=Ac
    exact By
 .obtain rfl:j=p.length:=Ac
  have hu:qfQ p=l:=by unfold qfQ;rw[<- hgo,List.drop_length];rfl
  refine Sa hlt ?_;rw[hu];simp[vZ,vP,zz4,zc ze];intro h0;rw[h0];rfl
def qFg(P:Program)(g:Nat):Prop:=∀n,qa P g [.h n] (.b (xf n))
def qi1(i:Ins):Bool:=!xf i.code
def qim(i:Ins):Bool:=decide (i.code=32)&&(decide (i.k % 4≠0)||decide (64<=i.k))
def qjD(i:Ins):Bool:=(decide (i.code=96)||decide (i.code=97)||decide (qm i.code=2))&&decide (16<=i.k)
def qjE(i:Ins):Bool:=decide (i.code=52)&&decide (i.k=0)
def qjF(i:Ins):Bool:=(decide (i.code=100)||decide (i.code=116))&&decide (31<i.k)
def qjG(i:Ins)(n:Nat):Bool:=if i.code=5 then decide ((n:Int)<=i.k)else decide (qm i.code=4)&&decide ((n:Int)<=hiM i)
def qew(a:Nat):IFn:=irJ 351 [352,a]
def qMg{g:Nat}(hc:Ck P f (qew g))(hg:qFg P g)(i:Ins)(n:Nat):qa P f [.agg (qK i),.j n] (.b (qi1 i)):=by
 refine Al ?_;simp only[qew,qK,vI,simprocAttr];refine Ab ?_;refine(hg _).sc ?_;refine Ab ?_;simp[vZ,qi1]
def qex:IFn:=irJ 353 []
def qMh(hc:Ck P f qex)(i:Ins)(hi:InsOk i)(n:Nat):qa P f [.agg (qK i),.j n] (.b (qim i)):=by
 refine Al ?_;have h40:(4:Int)≠0:=Af
 have h0:=hi.k0;have ht:i.k.tmod 4=i.k % 4:=Ah
 unfold qim;simp only[qex,qK,vI,simprocAttr]
 by_cases h1:i.code=32
 .by_cases h2:i.k % 4=0
  .simp +decide only[↓vS,vT,simprocAttr,h1,↓qen h40,ht,h2];simp[vZ]
  .simp +decide only[↓vS,vT,simprocAttr,h1,↓qen h40,ht,h2];simp[vZ,h2]
 .exact G3
def qey(a:Nat):IFn:=irJ 354 [131,a]
def qMi{g:Nat}(hc:Ck P f (qey g))(hg:cOf P g)(i:Ins)(n:Nat):qa P f [.agg (qK i),.j n] (.b (qjD i)):=by
 refine Al ?_;unfold qjD;simp only[qey,qK,vI,simprocAttr]
 by_cases h1:i.code=96
 .exact G3
 by_cases h2:i.code=97
 .exact Dl
 refine Sa (zzA h1 h2) ?_;refine(hg _).sc ?_
 by_cases h3:qm i.code=2
 .refine Sa h3 ?_;simp[vZ]
 .refine Sa h3 ?_;simp[vZ,h1,h2]
def qez:IFn:=irJ 355 []
def qMj(hc:Ck P f qez)(i:Ins)(n:Nat):qa P f [.agg (qK i),.j n] (.b (qjE i)):=by
 refine Al ?_;unfold qjE;simp only[qez,qK,vI,simprocAttr]
 by_cases h1:i.code=52
 .exact G3
 .exact G3
def qeA:IFn:=irJ 356 []
def qMk(hc:Ck P f qeA)(i:Ins)(n:Nat):qa P f [.agg (qK i),.j n] (.b (qjF i)):=by
 refine Al ?_;unfold qjF;simp only[qeA,qK,vI,simprocAttr]
 by_cases h1:i.code=100
 .exact G3
 by_cases h2:i.code=116
 .exact Dl
 exact Dl
def qeB(a:Nat):IFn:=irJ 357 [131,a]
def qMl{g:Nat}(hc:Ck P f (qeB g))(hg:cOf P g)(i:Ins)(hi:InsOk i)(n:Nat):qa P f [.agg (qK i),.j n] (.b (qjG i n)):=by
 refine Al ?_;have hk:IntKind.wrap .i64 i.k=i.k:=by have:=hi.k0;have:=hi.k1;exact Dm
 have hh:IntKind.wrap .i64 (hiM i)=hiM i:=by
  have:=hi.t0;have:=hi.t1;have:=hi.f0;have:=hi.f1
  refine qE ?_ ?_<;>(unfold hiM;split<;>omega)
 unfold qjG;simp only[qeB,qK,vI,simprocAttr]
 by_cases h1:i.code=5
 .rw[if_pos h1];refine Sa (zzA h1 hk) ?_;simp[vZ]
 rw[if_neg h1];refine Sa h1 ?_;refine(hg _).sc ?_
 by_cases h2:qm i.code=4
 .refine Sa h2 ?_;simp only[show(if i.jt<i.jf then i.jf else i.jt)=hiM i from rfl,hh]
  simp[vZ]
 .refine Sa h2 ?_;simp[vZ]
def qno(x:Int×Nat×Bool):List AV:=[.j x.1,.fn x.2.1 [] []]
def qrD(x:Int×Nat×Bool):(qno x).length=2:=rfl
def wsM(g1 g2 g3 g4 g5 g6:Nat)(i:Ins)(n:Nat):List (Int×Nat×Bool):=[(40,g1,qi1 i),(41,g2,qim i),(43,g3,qjD i),(44,g4,qjE i),(45,g5,qjF i),(42,g6,qjG i n)]
def qej(i:Ins)(n:Nat):Int:=if qi1 i=true then 40 else if qim i=true then 41 else if qjD i=true then 43 else if qjE i=true then 44 else if qjF i=true then 45 else if qjG i n=true then 42 else 0
def qgx(a b c d e g:Nat):IFn:=irJ 314 [351,a,353,b,354,c,355,d,356,e,357,g]
def qEB{g1 g2 g3 g4 g5 g6:Nat}(hc:Ck P f (qgx g1 g2 g3 g4 g5 g6))(i:Ins)(n:Nat):qa P f [] (.agg ((wsM g1 g2 g3 g4 g5 g6 i n).flatMap qno)):=by
 refine Al ?_;simp only[qgx,vI,simprocAttr];refine Ab ?_;simp[vZ,vP,zz4,wsM,qno]
def qj1(a:Nat):IFn:=irJ 246 [314,a]
def qKw{g0:Nat}(hc:Ck P f (qj1 g0))(i:Ins)(n:Nat)(ws:List (Int×Nat×Bool))(hw6:ws.length=6)(h0:qa P g0 [] (.agg (ws.flatMap qno)))(hw:∀x ∈ ws,qa P x.2.1 [.agg (qK i),.j n] (.b x.2.2)) :
  qa P f [.agg (qK i),.j n] (.j ((ws.find? λx=>x.2.2).elim 0 λx=>x.1)):=by
 refine Al ?_;have hn0:¬(n:Int)<0:=Ac
 have hlen:(ws.flatMap qno).length=12:=by rw[zb qrD,hw6]
 have hcl:qu (ws.flatMap qno)=true:=x4 (λ_=>rfl)
 simp only[qj1,qK,vI,simprocAttr];refine Ab ?_;refine h0.sc ?_;refine Ab ?_;refine SL.loop (α:=Nat) (λj=>[(1,.j (n:Int)),(2,.ptr 0 0),(7,.agg (ws.flatMap qno)),(8,.j (j:Int))]) (λ_=>[.v (qK i)]) (λj=>j<=6/\(ws.drop j).find? (λx=>x.2.2)=ws.find? (λx=>x.2.2)) (λj=>6-j) 0 [0] ?_ ?_ ?_ rfl ?_ ?_
 .simp[vw,qd,hcl]
 .simp[vw,qK]
 .simp
 .exact Ad
 rintro j ⟨hj,hI⟩ G ih;simp only[vI,simprocAttr,qK]
 by_cases hlt:j<6
 .have hlt':(j:Int)<6:=Ac
  have hjl:j<ws.length:=Ac
  have hx:ws[j]?=some ws[j]:=Ad
  have hw1:=wS j;have hel:=qI (f:=qno) (m:=2) qrD hx;have hb:j*2+2<=(ws.flatMap qno).length:=Ac
  have hpx:=hw _ (List.getElem_mem hjl);rw[zzf hjl,List.find?_cons]at hI;generalize hc0:ws[j]=x at hel hI hpx;simp only[qno]at hel;generalize hT:ws.flatMap qno=T at hel hb hlen hcl;refine Sa (zzA hlt' (zzA hlt (zzA hel (zzA hb hn0)))) ?_;refine hpx.sc ?_;cases hs:x.2.2 with
  | true =>
   rw[hs]at hI;refine Ab ?_;rw[<- hI];simp[vZ]
  | false =>
   rw[hs]at hI;refine Sa hw1 ?_;refine ih (j+1) ⟨hlt,hI⟩ Ac _ _ (Wk.mk _ _ [0] ?_ ?_ ?_ rfl)
   .simp[vw,qd,hcl,hT]
   .simp[vw,qK]
   .simp
 .obtain rfl:j=6:=Ac
  have hd:ws.drop 6=[]:=Ad
  rw[hd]at hI;rw[<- hI];refine Ab ?_;simp[vZ]
def qLm{g1 g2 g3 g4 g5 g6:Nat}{i:Ins}{n:Nat}:(((wsM g1 g2 g3 g4 g5 g6 i n).find? λx=>x.2.2).elim 0 λx=>x.1)=qej i n:=by
 unfold wsM qej;cases qi1 i<;>cases qim i<;>cases qjD i<;>cases qjE i<;>cases qjF i<;>cases qjG i n<;>rfl
def qgX(n:Nat):Nat->List Ins->Option (Nat×Int)
 | _,[]=>none
 | j,i::L=>if qej i (n-1-j)=0 then qgX n (j+1) L else some (j,qej i (n-1-j))
def qfS{n j:Nat}{i:Ins}{L:List Ins}:qgX n j (i::L)=if qej i (n-1-j)=0 then qgX n (j+1) L else some (j,qej i (n-1-j)):=rfl
def qgJ(p:List Ins):Int:=(p.getD (p.length-1) ⟨0,0,0,0⟩).code
def atU(p:List Ins)(u:List Nat):Nat×Int :=
 if p.length=0\/4096<p.length then(0,60)else(qgX p.length 0 p).elim (if qm (qgJ p)=5 then(match u with | []=>(0,0)|a::_=>(a,61))else(p.length-1,46)) id
def cAt(P:Program)(f:Nat):Prop:=∀p:List Ins,(∀i ∈ p,InsOk i)->p.length<=5000->qa P f [.fz p.length (rP p)] (.tup [.j ((atU p (qfQ p)).1:Int),.j (atU p (qfQ p)).2])
def qev(a b c:Nat):IFn:=irJ 182 [246,a,131,b,247,c]
def qBk{g1 g2 g3:Nat}(hc:Ck P f (qev g1 g2 g3))(h1:∀i,InsOk i->∀n:Nat,qa P g1 [.agg (qK i),.j (n:Int)] (.j (qej i n)))(h2:cOf P g2)
  (h3:∀p:List Ins,p.length<=4096->(∀i ∈ p,InsOk i)->qa P g3 [.fz p.length (rP p)] (.fz (qfQ p).length (rNt (qfQ p)))):cAt P f:=by
 intro p hi hp;refine qa.mk hc E5 ?_;unfold atU;simp only[qev,vI,simprocAttr]
 by_cases hz:p.length=0
 .have hz':(p.length:Int)<1:=Ac
  rw[if_pos (.inl hz)];refine Sa hz' ?_;simp[vZ]
 have hz':¬(p.length:Int)<1:=Ac
 by_cases hb:4096<p.length
 .have hb':(4096:Int)<p.length:=Ac
  rw[if_pos (.inr hb)];refine Sa (zzA hz' hb') ?_;simp[vZ]
 have hb':¬(4096:Int)<p.length:=Ac
 rw[if_neg Ac];have hl1:IntKind.wrap .i64 ((p.length:Int)-1)=((p.length-1:Nat):Int):=by rw[qE Ac Ac];exact Ac
 refine Sa (zzA hz' (zzA hb' hl1)) ?_;refine SL.loop (α:=Nat) (λj=>[(0,.fz p.length (rP p)),(4,.j ((p.length-1:Nat):Int)),(21,.fz p.length (rP p)),(22,.j (p.length:Int)),(23,.j (j:Int))]) (λ_=>[]) (λj=>j<=p.length/\qgX p.length j (p.drop j)=qgX p.length 0 p) (λj=>p.length-j) 0 [] ?_ ?_ ?_ rfl ?_ ?_
 .simp[vw,qz]
 .trivial
 .simp
 .exact Ad
 rintro j ⟨hj,hI⟩ G ih;refine Am ?_
 by_cases hlt:j<p.length
 .obtain⟨i,hpi⟩:∃i,p[j]?=some i:=⟨_,zzE hlt⟩;have hii:=hi i Ah;have hel:=qI (f:=qK) (m:=4) qaT hpi;rw[show p.flatMap qK=rP p from rfl]at hel
  simp only[qK]at hel;have h4:j*4+4<=(rP p).length:=by rw[qe7];exact Ac
  have hdr:p.drop j=i::p.drop (j+1):=Db
  rw[hdr,qfS]at hI;have hw1:=wS j;have hw2:IntKind.wrap .i64 (((p.length-1:Nat):Int)-(j:Int))=((p.length-1-j:Nat):Int):=by rw[qE Ac Ac];exact Ac
  have hone:=h1 i hii (p.length-1-j);simp only[qK]at hone;refine Sa (zzA hlt (zzA hel (zzA h4 hw2))) ?_;refine hone.sc ?_
  by_cases h0:qej i (p.length-1-j)=0
  .rw[if_pos h0]at hI;refine Sa (zzA h0 hw1) ?_;refine ih (j+1) ⟨hlt,hI⟩ Ac _ _ (Wk.mk _ _ [] ?_ ?_ ?_ rfl)
   .simp[vw,qz]
   .trivial
   .simp
  .rw[if_neg h0]at hI;refine Sa h0 ?_;rw[<- hI];simp[vZ]
 .obtain rfl:j=p.length:=Ac
  have hd:p.drop p.length=[]:=Ad
  rw[hd]at hI;simp only[qgX]at hI;rw[<- hI];obtain⟨i,hpi⟩:∃i,p[p.length-1]?=some i:=⟨_,zzE Ac⟩;have hlc:qgJ p=i.code:=by unfold qgJ;rw[zzs,hpi];rfl
  have hg:=qcP (f:=qK) (m:=4) qaT hpi (i:=0) Ac;rw[show p.flatMap qK=rP p from rfl]at hg
  simp only[qK,Nat.add_zero,zzn]at hg;have hlt2:p.length-1<p.length:=Ac
  refine Sa (zzA hlt (zzA hlt2 hg)) ?_;refine(h2 _).sc ?_
  by_cases h5:qm i.code=5
  .refine Sa h5 ?_;refine(h3 p Ac hi).sc ?_;refine Ab ?_;refine SL.loop (α:=Unit) (λ_=>[(47,.fz (qfQ p).length (rNt (qfQ p))),(48,.j ((qfQ p).length:Int)),(49,.j 0)]) (λ_=>[]) (λ_=>True) (λ_=>0) () [] ?_ ?_ ?_ rfl ?_ ?_
   .simp[vw,ze]
   .trivial
   .simp
   .trivial
   rintro _ _ G2 _;refine Am ?_;rw[hlc];cases hu:qfQ p with
   | nil =>
    simp +decide only[↓vS,vT,simprocAttr,List.length_nil];simp[vZ,h5]
   | cons a u =>
    have hgt2:0<(a::u).length:=by simp
    have hga:(rNt (a::u))[0]?=some (.j (a:Int)):=rfl;generalize(a::u).length=m at hgt2 ⊢;generalize rNt (a::u)=T at hga ⊢;have hgt:(0:Int)<(m:Int):=Ac
    simp +decide only[↓vS,vT,simprocAttr,hgt,hgt2,zzU,hga];simp[vZ,h5]
  .refine Sa h5 ?_;rw[hlc];simp[vZ,h5]
def qhi(a:Nat):IFn:=irJ 128 [182,a]
def qKv(n:Nat)(i:Ins)(j:Nat):List Nat:=(qc1 i j).takeWhile λm=>decide (m<n)
def mkL(L:List Nat)(r:List Bool):List Bool:=L.foldl (λr m=>r.set m true) r
def qKI(n:Nat):Nat->List Ins->List Bool->List Bool
 | _,[],r=>r
 | j,i::L,r=>qKI n (j+1) L (if r.getD j false=true then mkL (qKv n i j) r else r)
def st0(n:Nat):List Bool:=(List.replicate n false).set 0 true
def wrC(i:Ins)(c:Nat):Bool:=(decide (i.code=2)||decide (i.code=3))&&decide (i.k=(c:Int))
def stS(n c j:Nat)(i:Ins)(st:List Bool×List (BitVec 16)):List Bool×List (BitVec 16) :=
 if st.1.getD j false=false then(st.1,st.2.set j (st.2.getD j 0#16 ||| cell c))else if wrC i c=true then st else(mkL (qKv n i j) st.1,st.2)
def qKR(n c:Nat):Nat->List Ins->List Bool×List (BitVec 16)->List Bool×List (BitVec 16)
 | _,[],st=>st
 | j,i::L,st=>qKR n c (j+1) L (stS n c j i st)
def qKS(p:List Ins):Nat->List (BitVec 16)->List (BitVec 16)
 | 0,out=>out
 | k+1,out=>qKS p k (qKR p.length (16-(k+1)) 0 p (st0 p.length,out)).2
def qMb(p:List Ins):List (BitVec 16):=qKS p 16 (List.replicate p.length 0#16)
def rdC(i:Ins):Bool:=(decide (i.code=96)||decide (i.code=97))&&decide (i.k<16)
def unC(rch:List Bool)(sur:List (BitVec 16))(j:Nat)(i:Ins):Bool:=rch.getD j false&&rdC i && !(sur.getD j 0#16).getLsbD i.k.toNat
def qDH(rch:List Bool)(sur:List (BitVec 16)):Nat->List Ins->List Nat->List Nat
 | _,[],l=>l
 | j,i::L,l=>qDH rch sur (j+1) L (if unC rch sur j i=true then l++[j]else l)
def qKZ(p:List Ins):List Nat:=qDH (qKI p.length 0 p (st0 p.length)) (qMb p) 0 p []
theorem qdz{c:Int}{x:Int×List UInt8×Int}(h:qai c=some x):x ∈ qaK/\x.1=c:=by
 unfold qai at h;have h1:=List.mem_of_find?_eq_some h;have h2:=List.find?_some h
 exact Ad
end
section
variable [Cur]
theorem qsF:∀x ∈ qaK,x.2.2=2->x.1=2\/x.1=3:=Af
def qFo{c:Int}:qm c=2↔c=2\/c=3:=by
 constructor
 .intro h;unfold qm at h;cases hc:qai c<;>grind[qdz,qsF]
 .rintro (rfl|rfl)<;>decide
end
section
variable [Cur]
variable {P:Program}{f:Nat}
structure Prg where
 dir:Int
 arch:Int
 ins:List Ins
def cPr(x:Prg):List AV:=[.j x.dir,.j x.arch,.fz x.ins.length (rP x.ins)]
def qpc(x:Prg):(cPr x).length=3:=rfl
def rPr(l:List Prg):List AV:=l.flatMap cPr
def qtW(l:List Prg):(rPr l).length=l.length*3:=zb qpc l
def qbV(l:List Prg):qu (rPr l)=true:=x4 (λx=>by simp[cPr,qu,clo,qz])
def qC0(p q:List Prg):rPr (p++q)=rPr p++rPr q:=List.flatMap_append
def xO:IFn:=irJ 127 []
def qtj(hc:Ck P f xO):qfV 3 P f:=by
 intro α enc p g a c l hlen ha hc' hl hp;refine qa.mk hc Ee ?_;simp only[xO,vI,simprocAttr];refine Ae ?_;refine SL.loop (α:=Nat) (λj=>[(0,.fz l.length (l.flatMap enc)),(1,.fn g a c),(7,.j l.length),(8,.j j)]) (λ_=>[]) (λj=>j<=l.length/\xH p l 0=xH p (l.drop j) j) (λj=>l.length-j) 0 [] ?_ ?_ ?_ rfl ?_ ?_
 .exact E3
 .trivial
 .simp
 .simp
 rintro j ⟨hj,hI⟩ G ih;refine Am ?_
 by_cases hlt:j<l.length
 .have hx:l[j]?=some l[j]:=Ad
  have hw:IntKind.wrap .i64 ((j:Int)+1)=(j:Int)+1:=qE Ac (by have:=hl;simp only[qe]at this;exact Ac)
  have he:=qI hlen hx;have hb:j*3+3<=(l.flatMap enc).length:=by rw[zb hlen];exact Ac
  rw[zzf hlt,xH]at hI;refine Gw ?_;refine(hp l[j] Ad).sc ?_
  by_cases hpx:p l[j]=true
  .exact Bq
  .rw[if_neg hpx]at hI;refine Sb (zzA hpx hw) ?_;refine ih (j+1) ⟨Ac,hI⟩ Ac _ _ (Wk.mk _ _ [] ?_ ?_ ?_ rfl)
   .exact E3
   .trivial
   .simp
 .refine Sb hlt ?_;rw[zzk Ac]at hI;simp[hI,xH,vZ]
def qoi{α:Type}(p:α->Bool):∀(l:List α) (j:Nat),decide (0<=xH p l j)=l.any p
 | [],j=>by simp[xH]
 | x::l,j=>by
  rw[xH]
  by_cases h:p x=true
  .simp[h]
  .rw[if_neg h,qoi p l (j+1)];simp[h]
def xp(a:Nat):IFn:=irJ 99 [127,a]
def qxl{g:Nat}(hc:Ck P f (xp g))(h:qfV 3 P g)(l:List Prg)(k:Nat)(p:Prg->Bool)(hk:∀c ∈ l,qa P k [.agg (cPr c)] (.b (p c)))(hl:l.length<=qe):qa P f [.fz l.length (rPr l),.fn k [] []] (.b (l.any p)):=by
 refine qa.mk hc (by simp[qu,clo,qbV]) ?_;simp only[xp,vI,simprocAttr];refine Ae ?_;refine(h cPr p k [] [] l qpc rfl rfl hl λx hx=>hk x hx).sc ?_
 refine Ae ?_;simp[vZ,<- qoi p l 0]
def qfB(x:Prg):Bool:=decide ((atU x.ins (qfQ x.ins)).2=0)&&(if x.dir=0 then decide (x.arch=6)else decide (0<=x.dir)&&decide (x.dir<8)&&decide (0<=x.arch)&&decide (x.arch<6))
def qd9(l:List Prg):Bool:=decide (l.length<=48)&&l.all qfB
def qgH(a:Nat):IFn:=irJ 101 [128,a]
def qhv(a:Nat):IFn:=irJ 100 [101,a]
def qj9(a b:Nat):IFn:=irJ 64 [99,a,100,b]
def loW(x:Int):Int:=x % 4294967296
def hiW(x:Int):Int:=x / 4294967296
def qnT(d:GData):List Int:=[d.ip,d.a0,d.a1,d.a2,d.a3,d.a4,d.a5]
def jH(d:GData):List Int:=d.nr::d.arch::(qnT d).flatMap λx=>[loW x,hiW x]
structure DatOk (d:GData):Prop where
 nr0:0<=d.nr
 nr1:d.nr<=4294967295
 ar0:0<=d.arch
 ar1:d.arch<=4294967295
 wid:∀x ∈ qnT d,0<=x/\x<18446744073709551616
def qgI:IFn:=irJ 312 []
def qD7(hc:Ck P f qgI)(x:Int)(h0:0<=x)(h1:x<18446744073709551616):qa P f [.x x] (.tup [.w (loW x),.w (hiW x)]):=by
 refine Al ?_;have e1:IntKind.wrap .u32 x=loW x:=rfl
 have e2:IntKind.wrap .u32 (qzV .u64 x 32)=hiW x:=by
  have:qzV .u64 x 32=x / 4294967296:=by
   show x.fdiv (2 ^ 32)=_;rw[Int.fdiv_eq_ediv_of_nonneg _ Af];rfl
  rw[this];show(x / 4294967296) % 4294967296=x / 4294967296;exact Ac
 simp only[qgI,vI,simprocAttr];refine Sa (zzA e1 e2) ?_;simp[vZ]
def qvM{q:IntKind}{l:List Int}:jZ (rI q l)=true:=by
 unfold rI;induction l with
 | nil=>rfl
 | cons a l ih=>exact ih
def qj5:IFn:=irJ 361 []
def qK3(hc:Ck P f qj5)(x:Int)(l:List Int)(hl:l.length=6):qjv P f [.x x,.fz l.length (rI .u64 l)] (.own 0 (1+l.length)) [.cells 1 true true (rI .u64 (x::l))]:=by
 refine qjv.mk hc rfl (by simp[qqJ,qvM]) ?_;have hr1:1+l.length<=qe:=by rw[hl];exact Af
 have hr2:(1+l.length)*8<=qe:=by rw[hl];exact Af
 have hll:(rI .u64 l).length=l.length:=qaf;simp only[qj5,vI,simprocAttr];have hne:¬1+l.length<=1:=Ac
 have htk:List.take l.length (rI .u64 l)=rI .u64 l:=Ah
 simp +decide only[↓vS,vT,simprocAttr,hne,hr1,hr2,hll,htk,zzU];intro _;refine⟨[1],?_⟩;simp[vw,qtP,qd,qg]
def qfn(d:GData)(j:Nat):List Int:=(jH d).take (2+2*j)++List.replicate (14-2*j) 0
def qu0(d:GData){j:Nat}(h:j<=7):(qfn d j).length=16:=by
 have:(jH d).length=16:=rfl;unfold qfn;rw[zzP,zzm,List.length_replicate,this];exact Ac
def qsc(d:GData){j:Nat}{x:Int}(h:(qnT d)[j]?=some x):((qfn d j).set (2+2*j) (loW x)).set (3+2*j) (hiW x)=qfn d (j+1):=by
 have hj:j<7:=(zzS.1 h).1;have:j=0\/j=1\/j=2\/j=3\/j=4\/j=5\/j=6:=Ac
 rcases this with rfl|rfl|rfl|rfl|rfl|rfl|rfl<;>(cases h;rfl)
def qA4(P:Program)(g:Nat):Prop:=∀x:Int,0<=x->x<18446744073709551616->qa P g [.x x] (.tup [.w (loW x),.w (hiW x)])
def qLx(P:Program)(g:Nat):Prop:=∀(x:Int) (l:List Int),l.length=6->qjv P g [.x x,.fz l.length (rI .u64 l)] (.own 0 (1+l.length)) [.cells 1 true true (rI .u64 (x::l))]
def qiC(a b:Nat):IFn:=irJ 319 [361,a,312,b]
def qIo{g1 g2:Nat}(hc:Ck P f (qiC g1 g2))(h1:qLx P g1)(h2:qA4 P g2)(d:GData)(hd:DatOk d):qa P f [.agg (zT d)] (.agg (rI .u32 (jH d))):=by
 refine Al ?_;simp only[qiC,zT,vI,simprocAttr];refine Ab ?_;refine zB ?_;refine Ab ?_;refine(h1 d.ip [d.a0,d.a1,d.a2,d.a3,d.a4,d.a5] rfl).pc (vs:=[.x d.ip,.sl 0 3 6 6 false]) ?_ ?_
 .refine .cons _ _ _ _ (.i _ _) (.cons _ _ _ _ (Frz.cut 1 rfl (zzL _) ?_) .nil);simp[vP,zz4,vZ,rI]
 simp only[vJ,simprocAttr,xt qg];refine Ab ?_
 refine SL.loop (α:=Nat) (λj=>[(2,.ptr 0 0),(3,.ptr 1 0),(15,.own 2 7),(16,.j 7),(17,.j (j:Int))]) (λj=>[.v [.w 0,.w 0,.w 0,.w 0,.w 0,.w 0,.w 0,.w 0,.w 0,.w 0,.w 0,.w 0,.w 0,.w 0,.w 0,.w 0],.v (rI .u32 (qfn d j)),.cells 1 true true (rI .u64 (qnT d))])
  (λj=>j<=7) (λj=>7-j) 0 [1,2,3] ?_ ?_ ?_ rfl ?_ ?_
 .simp[vw]
 .simp[vw,qfn,jH,qnT,rI]
 .simp
 .exact Ac
 rintro j hj G ih;refine Am ?_
 by_cases hlt:j<7
 .have hlt':(j:Int)<7:=Ac
  obtain⟨x,hx⟩:∃x,(qnT d)[j]?=some x:=⟨_,zzE (show j<(qnT d).length from hlt)⟩
  have hxr:=hd.wid x Ah;have hl:=qu0 d hj;have hnx:=qsc d hx;have w1:IntKind.wrap .i64 (2*(j:Int))=((2*j:Nat):Int):=by rw[qE Ac Ac];exact Ac
  have w2:IntKind.wrap .i64 (2+((2*j:Nat):Int))=((2+2*j:Nat):Int):=by rw[qE Ac Ac];exact Ac
  have w3:IntKind.wrap .i64 (3+((2*j:Nat):Int))=((3+2*j:Nat):Int):=by rw[qE Ac Ac];exact Ac
  have w4:=wS j;simp +decide only[↓vS,vT,simprocAttr,hlt',hlt,zzU,qbd,hx,zza,w1,w2,w3];refine(h2 x hxr.1 hxr.2).sc ?_;have hA:2+2*j<(qfn d j).length:=Ac
  have hB:3+2*j<((qfn d j).set (2+2*j) (loW x)).length:=Ah
  have s1:=qsr (k:=.u32) hA (loW x);have s2:=qsr (k:=.u32) hB (hiW x);rw[hnx]at s2;have k1:2+2*j<16:=Ac
  have k2:3+2*j<16:=Ac
  have k3:2+2*j+1<=(rI .u32 (qfn d j)).length:=by rw[qaf];exact Ac
  have k4:3+2*j+1<=(rI .u32 ((qfn d j).set (2+2*j) (loW x))).length:=by rw[qaf];exact Ac
  simp +decide only[↓vS,vT,simprocAttr,k1,k2,k3,k4,s1,s2,zzU,w4];refine ih (j+1) hlt Ac _ _ (Wk.mk _ _ [0,1,2] ?_ ?_ ?_ rfl)
  .simp[vw]
  .simp[vw,qd,qg]
  .simp
 .obtain rfl:j=7:=Ac
  have h16:16<=(rI .u32 (qfn d 7)).length:=zzL 16;have ht:List.take 16 (List.drop 0 (rI .u32 (qfn d 7)))=rI .u32 (jH d):=rfl;have hlen:(rI .u32 (jH d)).length=16:=rfl;have hfd:qfn d 7=jH d:=rfl;have ht2:List.take 16 (rI .u32 (jH d))=rI .u32 (jH d):=rfl;rw[hfd];refine Sa (zzA h16 (zzA ht2 (zzA hlen @qKH))) ?_;simp[vZ,vP,zz4,zc qg]
def qoZ(d:GData)(k:Int):AV:=if k % 4≠0\/64<=k then .tup [.w 0,.j 41]else .tup [.w ((jH d).getD (k / 4).toNat 0),.j 0]
def qj4(a:Nat):IFn:=irJ 250 [319,a]
def qJJ{g:Nat}(hc:Ck P f (qj4 g))(hg:∀d,DatOk d->qa P g [.agg (zT d)] (.agg (rI .u32 (jH d))))(d:GData)(hd:DatOk d)(k:Int)(h0:0<=k)(h1:k<=4294967295):qa P f [.agg (zT d),.w k] (qoZ d k):=by
 refine Al ?_;have h40:(4:Int)≠0:=Af
 have ht:k.tmod 4=k % 4:=Ah
 have hq:k.tdiv 4=k / 4:=Ah
 have hg:=hg d hd;unfold qoZ;simp only[qj4,zT,vI,simprocAttr]at hg ⊢
 by_cases hm:k % 4=0
 .by_cases hb:64<=k
  .rw[if_pos (.inr hb)];simp +decide only[↓vS,vT,simprocAttr,↓qen h40,ht,hm,hb];simp[vZ]
  .rw[if_neg Ac];have hn:(k / 4).toNat<16:=Ac
   obtain⟨x,hx⟩:∃x,(jH d)[(k / 4).toNat]?=some x:=⟨_,zzE hn⟩;rw[zzs,hx];have hk:k / 4=(((k / 4).toNat:Nat):Int):=Ac
   have hw:IntKind.wrap .u32 (k / 4)=(((k / 4).toNat:Nat):Int):=by
    show(k / 4) % 4294967296=_;exact Ac
   simp +decide only[↓vS,vT,simprocAttr,↓qen h40,ht,hm,hb];refine hg.sc ?_;generalize jH d=W at hx;simp +decide only[↓vS,vT,simprocAttr,↓qlQ h40,hq,hw,hn,zzU,qbd,hx,zza];simp[vZ]
 .rw[if_pos (.inl hm)];simp +decide only[↓vS,vT,simprocAttr,↓qen h40,ht,hm];simp[vZ]
def qJs(c:Int):Bool:=!decide (xK .u16 c 8=0)
def qaC(c:Int):Bool:=(decide (qm c=3)||decide (qm c=4))&&qJs c
def qiE(a:Nat):IFn:=irJ 320 [183,a]
def qIh{g:Nat}(hc:Ck P f (qiE g))(hg:∀n,qa P g [.h n] (.tup [.agg (qfl (qai n)),.b (xf n)]))(c:Int):qa P f [.h c] (.b (qaC c)):=by
 refine Al ?_
 have hcl:(qfl (qai c)).length=3/\(qfl (qai c))[2]?=some (.y (qm c))/\qF (qfl (qai c))=true:=by
  unfold qm;cases qai c<;>exact⟨rfl,rfl,rfl⟩
 have hk:xf c=false->qm c=0:=by unfold xf qm;cases qai c<;>simp
 have hgc:=hg c;generalize qfl (qai c)=E at hcl hgc;obtain⟨he1,he2,he3⟩:=hcl;unfold qaC qJs;simp only[qiE,vI,simprocAttr];refine Ab ?_;refine hgc.sc ?_;cases hkn:xf c with
 | false =>
  have h0:=hk hkn;refine Sa (zzA he1 he3) ?_;simp[vZ,h0]
 | true =>
  by_cases h3:qm c=3
  .refine Sa (zzA he1 (zzA he2 (zzA he3 h3))) ?_;simp[vZ,h3]
  by_cases h4:qm c=4
  .refine Sa (zzA he1 (zzA he2 (zzA he3 (zzA h3 h4)))) ?_;simp[vZ,h4]
  .refine Sa (zzA he1 (zzA he2 (zzA he3 (zzA h3 h4)))) ?_;simp[vZ,h3,h4]
def qd5(left:Bool):Nat->Int->Int
 | 0,a=>a
 | n+1,a=>qd5 left n (if left=true then a*2 % 4294967296 else a / 2)
def qmV:∀(n:Nat) (a:Int),0<=a->a<=4294967295->qd5 true n a=a*2 ^ n % 4294967296
 | 0,a,h0,h1=>by show a=a*1 % 4294967296;exact Ac
 | n+1,a,h0,h1=>by
  show qd5 true n (a*2 % 4294967296)=_;rw[qmV n _ Ac Ac,Int.pow_succ,Int.mul_emod,Int.emod_emod,<- Int.mul_emod,Int.mul_assoc,Int.mul_comm 2]
def qlu:∀(n:Nat) (a:Int),0<=a->qd5 false n a=a / 2 ^ n
 | 0,a,_=>by show a=a / 1;exact Ac
 | n+1,a,h0=>by
  show qd5 false n (a / 2)=_;rw[qlu n _ Ac,Int.ediv_ediv_of_nonneg Af,Int.pow_succ,Int.mul_comm]
structure Mac where
 a:Int
 x:Int
 told:Int
 cl:List Int
 over:Bool
def u32(x:Int):Prop:=0<=x/\x<=4294967295
structure MacOk (m:Mac):Prop where
 a:u32 m.a
 x:u32 m.x
 told:u32 m.told
 len:m.cl.length=16
 cl:∀c ∈ m.cl,u32 c
def qhD(i:Ins):Bool:=decide (i.code=96)||decide (i.code=97)||decide (i.code=2)||decide (i.code=3)
def qeF(m:Mac)(i:Ins)(d:GData):Mac×Int :=
 if qhD i=true/\15<i.k then(m,43)
 else if i.code=32 then(if i.k % 4≠0\/64<=i.k then(m,41)else({ m with a:=(jH d).getD (i.k / 4).toNat 0 },0))
 else if i.code=128 then({ m with a:=64 },0)
 else if i.code=129 then({ m with x:=64 },0)
 else if i.code=0 then({ m with a:=i.k },0)
 else if i.code=1 then({ m with x:=i.k },0)
 else if i.code=96 then({ m with a:=m.cl.getD i.k.toNat 0 },0)
 else if i.code=97 then({ m with x:=m.cl.getD i.k.toNat 0 },0)
 else if i.code=2 then({ m with cl:=m.cl.set i.k.toNat m.a },0)
 else if i.code=3 then({ m with cl:=m.cl.set i.k.toNat m.x },0)
 else if i.code=7 then({ m with x:=m.a },0)
 else if i.code=135 then({ m with a:=m.x },0)
 else(m,0)
def qw0(P:Program)(g:Nat):Prop:=∀d,DatOk d->∀k:Int,0<=k->k<=4294967295->qa P g [.agg (zT d),.w k] (qoZ d k)
def opM(c a b:Int):Int :=
 if c=4 then IntKind.wrap .u32 (a+b)else if c=20 then IntKind.wrap .u32 (a-b)else if c=36 then IntKind.wrap .u32 (a*b)
 else if c=68 then orI .u32 a b else if c=84 then xK .u32 a b else if c=164 then qIi .u32 a b else IntKind.wrap .u32 (0-a)
def qdr(m:Mac)(i:Ins):Int:=if qaC i.code=true then m.x else i.k
def za(c:Int):Int:=if qaC c=true then c-8 else c
def nuM(m:Mac)(i:Ins):Mac×Int :=
 if za i.code=52 then(if 0<qdr m i then({ m with a:=m.a / qdr m i },0)else if qaC i.code=true then({ m with over:=true },0)else(m,44))
 else if za i.code=100\/za i.code=116 then(if qaC i.code=false/\31<qdr m i then(m,45)else({ m with a:=qd5 (decide (za i.code=100)) (qdr m i % 32).toNat m.a },0))
 else({ m with a:=opM (za i.code) m.a (qdr m i) },0)
def c3L:List Int:=[4,12,20,28,36,44,52,60,68,76,84,92,100,108,116,124,164,172,132]
theorem qz1:∀x ∈ qaK,x.2.2=3->c3L.contains x.1=true:=Af
def cWX(P:Program)(g:Nat):Prop:=∀c:Int,qa P g [.h c] (.b (qaC c))
def qbI(c a b:Int):Bool:=if c=21 then decide (a=b)else if c=37 then decide (b<a)else if c=53 then decide (b<=a)else decide (0<xK .u32 a b)
def qiT(m:Mac)(i:Ins):Int:=if i.code=5 then i.k else if qbI (za i.code) m.a (qdr m i)=true then i.jt else i.jf
def c4L:List Int:=[21,29,37,45,53,61,69,77,5]
theorem qH1:∀x ∈ qaK,x.2.2=4->c4L.contains x.1=true:=Af
def qud(m:Mac)(i:Ins):Mac:={ m with over:=true,told:=if i.code=22 then m.a else i.k }
def doR(m:Mac)(i:Ins)(d:GData):Mac×Int×Int :=
 if xf i.code=false then(m,0,40)
 else if qm i.code=1\/qm i.code=2\/qm i.code=6 then((qeF m i d).1,0,(qeF m i d).2)
 else if qm i.code=3 then((nuM m i).1,0,(nuM m i).2)
 else if qm i.code=4 then(m,qiT m i,0)
 else(qud m i,0,0)
theorem qc2(x:Int):u32 (IntKind.wrap .u32 x):=by show 0<=x % 4294967296/\x % 4294967296<=4294967295;exact Ac
def qq7(left:Bool):∀(n:Nat) (a:Int),u32 a->u32 (qd5 left n a)
 | 0,_,h=>h
 | n+1,a,h=>by
  refine qq7 left n _ ?_;unfold u32 at h ⊢;exact Fq
def qnH{d:GData}(hd:DatOk d){x:Int}(hm:x ∈ jH d):u32 x:=by
 unfold jH at hm;rcases zzc.1 hm with rfl|hm
 .exact⟨hd.nr0,hd.nr1⟩
 rcases zzc.1 hm with rfl|hm
 .exact⟨hd.ar0,hd.ar1⟩
 obtain⟨y,hy,hm⟩:=List.mem_flatMap.1 hm;have:=hd.wid y hy;simp only[zzc,List.not_mem_nil,or_false]at hm;unfold u32;rcases hm with rfl|rfl
 .unfold loW;exact Ac
 .unfold hiW;exact Ac
def qjX{l:List Int}(h:∀c ∈ l,u32 c)(j:Nat):u32 (l.getD j 0):=by
 rw[zzs];cases hx:l[j]? with
 | none=>exact⟨Int.le_refl _,Af⟩
 | some x=>exact Ah
def qyy{m:Mac}(hm:MacOk m){i:Ins}(hi:InsOk i){d:GData}(hd:DatOk d):MacOk (qeF m i d).1:=by
 have hk:u32 i.k:=⟨hi.k0,hi.k1⟩;have h64:u32 64:=⟨Af,Af⟩
 unfold qeF
 by_cases c1:qhD i=true/\15<i.k
 .rw[if_pos c1];exact hm
 rw[if_neg c1]
 by_cases c2:i.code=32
 .rw[if_pos c2]
  by_cases c3:i.k % 4≠0\/64<=i.k
  .rw[if_pos c3];exact hm
  .rw[if_neg c3];exact⟨qjX (λc hc=>qnH hd hc) _,hm.x,hm.told,hm.len,hm.cl⟩
 rw[if_neg c2]
 by_cases d1:i.code=128
 .rw[if_pos d1];exact⟨h64,hm.x,hm.told,hm.len,hm.cl⟩
 rw[if_neg d1]
 by_cases d2:i.code=129
 .rw[if_pos d2];exact⟨hm.a,h64,hm.told,hm.len,hm.cl⟩
 rw[if_neg d2]
 by_cases d3:i.code=0
 .rw[if_pos d3];exact⟨hk,hm.x,hm.told,hm.len,hm.cl⟩
 rw[if_neg d3]
 by_cases d4:i.code=1
 .rw[if_pos d4];exact⟨hm.a,hk,hm.told,hm.len,hm.cl⟩
 rw[if_neg d4]
 by_cases d5:i.code=96
 .rw[if_pos d5];exact⟨qjX hm.cl _,hm.x,hm.told,hm.len,hm.cl⟩
 rw[if_neg d5]
 by_cases d6:i.code=97
 .rw[if_pos d6];exact⟨hm.a,qjX hm.cl _,hm.told,hm.len,hm.cl⟩
 rw[if_neg d6]
 by_cases d7:i.code=2
 .rw[if_pos d7];exact⟨hm.a,hm.x,hm.told,by simpa using hm.len,by grind[MacOk.cl,MacOk.a]⟩
 rw[if_neg d7]
 by_cases d8:i.code=3
 .rw[if_pos d8];exact⟨hm.a,hm.x,hm.told,by simpa using hm.len,by grind[MacOk.cl,MacOk.x]⟩
 rw[if_neg d8]
 by_cases d9:i.code=7
 .rw[if_pos d9];exact⟨hm.a,hm.a,hm.told,hm.len,hm.cl⟩
 rw[if_neg d9]
 by_cases d10:i.code=135
 .rw[if_pos d10];exact⟨hm.x,hm.x,hm.told,hm.len,hm.cl⟩
 rw[if_neg d10];exact hm
def qG0(c a b:Int):u32 (opM c a b):=by
 unfold opM;split
 .exact qc2 _
 split
 .exact qc2 _
 split
 .exact qc2 _
 split
 .exact qc2 _
 split
 .exact qc2 _
 split
 .exact qc2 _
 grind[qc2]
def qGP{m:Mac}(hm:MacOk m)(i:Ins):MacOk (nuM m i).1:=by
 unfold nuM;split
 .split
  .rename_i hb;have h1:m.a / qdr m i<=m.a:=Int.ediv_le_self _ hm.a.1;have h2:0<=m.a / qdr m i:=Int.ediv_nonneg hm.a.1 Ac;have h3:=hm.a.2;exact⟨⟨h2,by show m.a / qdr m i<=4294967295;exact Ac⟩,hm.x,hm.told,hm.len,hm.cl⟩
  split
  .exact⟨hm.a,hm.x,hm.told,hm.len,hm.cl⟩
  exact Ac
 split
 .split
  .exact hm
  .exact⟨qq7 _ _ _ hm.a,hm.x,hm.told,hm.len,hm.cl⟩
 .exact⟨qG0 _ _ _,hm.x,hm.told,hm.len,hm.cl⟩
def qyh{m:Mac}{i:Ins}(hi:InsOk i):u32 (qiT m i):=by
 have:=hi.t0;have:=hi.t1;have:=hi.f0;have:=hi.f1;have:=hi.k0;have:=hi.k1
 unfold qiT u32;exact Ac
def qxp{m:Mac}(hm:MacOk m){i:Ins}(hi:InsOk i){d:GData}(hd:DatOk d):MacOk (doR m i d).1/\u32 (doR m i d).2.1:=by
 have h0:u32 0:=⟨Af,Af⟩
 unfold doR;split
 .exact Ad
 split
 .simp_all[qyy]
 split
 .simp_all[qGP]
 split
 .simp_all[qyh]
 .refine⟨⟨hm.a,hm.x,?_,hm.len,hm.cl⟩,h0⟩;show u32 (if i.code=22 then m.a else i.k)
  split
  .exact hm.a
  .exact⟨hi.k0,hi.k1⟩
def runR(p:List Ins)(d:GData):Nat->Mac->Nat->Int->List Nat->Int×Nat×List Nat×Int
 | 0,_,_,_,l=>(0,0,l,0)
 | n+1,m,at',bh,l=>match p[at']? with
  | none=>(0,l.length,l,bh)
  | some i=>if(doR m i d).2.2≠0 then(0,l.length,l++[at'],(doR m i d).2.2)
   else if(doR m i d).1.over=true then((doR m i d).1.told,l.length+1,l++[at'],0)
   else runR p d n (doR m i d).1 (at'+1+(doR m i d).2.1.toNat) (if qm i.code=4 then 42 else 46) (l++[at'])
def qCe:Mac:=⟨0,0,0,List.replicate 16 0,false⟩
def qr7{d:GData}:List.take 9 (List.drop 0 (zT d))=zT d:=rfl
def qw2{d:GData}:9<=(zT d).length:=zzL 9
def qh1{d:GData}:qu (zT d)=true:=rfl
def qtw:MacOk qCe:=⟨⟨Af,Af⟩,⟨Af,Af⟩,⟨Af,Af⟩,rfl,λc hc=>by
 have:=List.eq_of_mem_replicate hc;subst this;exact⟨Af,Af⟩⟩
def qii{p:List Ins}{d:GData}{n:Nat}{m:Mac}{at':Nat}{bh:Int}{l:List Nat}:runR p d (n+1) m at' bh l=match p[at']? with
  | none=>(0,l.length,l,bh)
  | some i=>if(doR m i d).2.2≠0 then(0,l.length,l++[at'],(doR m i d).2.2)
   else if(doR m i d).1.over=true then((doR m i d).1.told,l.length+1,l++[at'],0)
   else runR p d n (doR m i d).1 (at'+1+(doR m i d).2.1.toNat) (if qm i.code=4 then 42 else 46) (l++[at']):=rfl
def qiK:IFn:=irJ 362 []
def qMx(hc:Ck P f qiK)(a b:Int):qa P f [.w a,.w b] (.w (opM 4 a b)):=by
 refine Al ?_;simp only[qiK,vI,simprocAttr];refine Ab ?_;simp[vZ,opM]
def qiL:IFn:=irJ 363 []
def qMy(hc:Ck P f qiL)(a b:Int):qa P f [.w a,.w b] (.w (opM 20 a b)):=by
 refine Al ?_;simp only[qiL,vI,simprocAttr];refine Ab ?_;simp[vZ,opM]
def qiM:IFn:=irJ 364 []
def qMz(hc:Ck P f qiM)(a b:Int):qa P f [.w a,.w b] (.w (opM 36 a b)):=by
 refine Al ?_;simp only[qiM,vI,simprocAttr];refine Ab ?_;simp[vZ,opM]
def qiO:IFn:=irJ 366 []
def qMB(hc:Ck P f qiO)(a b:Int):qa P f [.w a,.w b] (.w (opM 68 a b)):=by
 refine Al ?_;simp only[qiO,vI,simprocAttr];refine Ab ?_;simp[vZ,opM]
def qiP:IFn:=irJ 367 []
def qMC(hc:Ck P f qiP)(a b:Int):qa P f [.w a,.w b] (.w (opM 84 a b)):=by
 refine Al ?_;simp only[qiP,vI,simprocAttr];refine Ab ?_;simp[vZ,opM]
def qiS:IFn:=irJ 370 []
def qMF(hc:Ck P f qiS)(a b:Int):qa P f [.w a,.w b] (.w (opM 164 a b)):=by
 refine Al ?_;simp only[qiS,vI,simprocAttr];refine Ab ?_;simp[vZ,opM]
def qhy:IFn:=irJ 371 []
def qLZ(hc:Ck P f qhy)(a b:Int):qa P f [.w a,.w b] (.w (opM 132 a b)):=by
 refine Al ?_;simp only[qhy,vI,simprocAttr];refine Ab ?_;simp[vZ,opM]
def qiN:IFn:=irJ 365 []
def qMA(hc:Ck P f qiN)(a b:Int)(a0:0<=a)(a1:a<=4294967295)(b0:0<b):qa P f [.w a,.w b] (.w (a / b)):=by
 refine Al ?_;have h1:¬b<1:=Ac
 have hne:b≠0:=Ac
 have hq:a.tdiv b=a / b:=Ah
 have hle:a / b<=a:=Int.ediv_le_self _ a0;have hge:0<=a / b:=Int.ediv_nonneg a0 Ac;have hwq:IntKind.wrap .u32 (a / b)=a / b:=by show(a / b) % 4294967296=_;exact Ac
 simp only[qiN,vI,simprocAttr];simp +decide only[↓vS,vT,simprocAttr,h1,↓qlQ hne,hq,hwq];simp[vZ]
def qiQ:IFn:=irJ 368 []
def qMD(hc:Ck P f qiQ)(a b:Int)(a0:0<=a)(a1:a<=4294967295)(b0:0<=b):qa P f [.w a,.w b] (.w (qd5 true (b % 32).toNat a)):=by
 refine Al ?_;have h32:(32:Int)≠0:=Af
 have hr:b.tmod 32=b % 32:=Ah
 have hp:0<=b % 32:=Ac
 have hm:min (b % 32).toNat 32=(b % 32).toNat:=Ac
 have hsh:qzU .u32 a (b % 32)=qd5 true (b % 32).toNat a:=by
  rw[qmV (b % 32).toNat a a0 a1];unfold qzU;rw[show IntKind.bits .u32=32 from rfl,hm]
  rfl
 simp only[qiQ,vI,simprocAttr];exact G4
def qiR:IFn:=irJ 369 []
def qME(hc:Ck P f qiR)(a b:Int)(a0:0<=a)(a1:a<=4294967295)(b0:0<=b):qa P f [.w a,.w b] (.w (qd5 false (b % 32).toNat a)):=by
 refine Al ?_;have h32:(32:Int)≠0:=Af
 have hr:b.tmod 32=b % 32:=Ah
 have hp:0<=b % 32:=Ac
 have hm:min (b % 32).toNat 32=(b % 32).toNat:=Ac
 have hsh:qzV .u32 a (b % 32)=qd5 false (b % 32).toNat a:=by
  rw[qlu (b % 32).toNat a a0];unfold qzV;rw[show IntKind.bits .u32=32 from rfl,hm]
  exact Ah
 simp only[qiR,vI,simprocAttr];exact G4
def qhz:IFn:=irJ 372 []
def qL0(hc:Ck P f qhz)(a b:Int):qa P f [.w a,.w b] (.b (qbI 21 a b)):=by
 refine Al ?_;simp only[qhz,vI,simprocAttr];refine Ab ?_;simp[vZ,qbI]
def qhA:IFn:=irJ 373 []
def qL1(hc:Ck P f qhA)(a b:Int):qa P f [.w a,.w b] (.b (qbI 37 a b)):=by
 refine Al ?_;simp only[qhA,vI,simprocAttr];refine Ab ?_;simp[vZ,qbI]
def qhB:IFn:=irJ 374 []
def qL2(hc:Ck P f qhB)(a b:Int):qa P f [.w a,.w b] (.b (qbI 53 a b)):=by
 refine Al ?_;simp only[qhB,vI,simprocAttr];refine Ab ?_;simp[vZ,qbI]
def qsL(a b:Int):0<=xK .u32 a b:=(qc2 _).1
def qhC:IFn:=irJ 375 []
def qL3(hc:Ck P f qhC)(a b:Int):qa P f [.w a,.w b] (.b (qbI 69 a b)):=by
 refine Al ?_;have h:=qsL a b;simp only[qhC,vI,simprocAttr];refine Ab ?_;simp[vZ,qbI]
 exact Ah
def fnO:Option Nat->AV
 | none=>.nilf
 | some g=>.fn g [] []
def qaM(x:Int×Option Nat×Option Nat):List AV:=[.h x.1,fnO x.2.1,fnO x.2.2]
def qoJ(x:Int×Option Nat×Option Nat):(qaM x).length=3:=rfl
def qHq(g1 g2 g3 g4 g5 g6 g7 g8 g9 g10 g11 g12 g13 g14:Nat):List (Int×Option Nat×Option Nat):=[(4,some g1,none),(20,some g2,none),(36,some g3,none),(52,some g4,none),(68,some g5,none),(84,some g6,none),(100,some g7,none),(116,some g8,none),(164,some g9,none),(132,some g10,none),(21,none,some g11),(37,none,some g12),(53,none,some g13),(69,none,some g14)]
def qls(a b c d e g h i j k l m n o:Nat):IFn:=irJ 321 [362,a,363,b,364,c,365,d,366,e,367,g,368,h,369,i,370,j,371,k,372,l,373,m,374,n,375,o]
def qHn{g1 g2 g3 g4 g5 g6 g7 g8 g9 g10 g11 g12 g13 g14:Nat}(hc:Ck P f (qls g1 g2 g3 g4 g5 g6 g7 g8 g9 g10 g11 g12 g13 g14)):qa P f [] (.agg ((qHq g1 g2 g3 g4 g5 g6 g7 g8 g9 g10 g11 g12 g13 g14).flatMap qaM)):=by
 refine Al ?_;simp only[qls,vI,simprocAttr];refine Ab ?_;simp[vZ,vP,zz4,qHq,qaM,fnO]
def qmp(c:Int):Int:=if qaC c=true then qaN .u16 c 8 else c
def qlY(o:Option Nat):clo (fnO o)=true:=by cases o<;>rfl
def qhx(a b:Nat):ICode:=icJ 252 [320,a,321,b] 7
def qq5(a b:Nat):IFn:=irJ 252 [320,a,321,b] [7] [qhx a b]
def qDO{g1 g2:Nat}(ws:List (Int×Option Nat×Option Nat))(hw:ws.length=14)(h2:qa P g2 [] (.agg (ws.flatMap qaM)))(b:Int)(r:Int×Option Nat×Option Nat)(hr:(ws.find? λx=>decide (x.1=b))=some r)
  {t':Tr AV}{h':Hp}(hwk:Wk 0 t' h' (mkT [(0,.h b),(2,.ptr 0 0)]) (mkH 0 [.v [.h 0,.nilf,.nilf]])) :
  S P 0 (qhx g1 g2) (xG [.cell 2 3 true] λv' h'=>Frz h' v' (.agg (qaM r))) t' h':=by
 refine S.weak hwk (qj ?_);have hlen:(ws.flatMap qaM).length=42:=by rw[zb qoJ,hw]
 have hcl:qu (ws.flatMap qaM)=true:=x4 (λx=>by simp[qaM,qu,clo,qlY])
 simp only[qhx,vI,simprocAttr];refine Ab ?_;refine h2.sc ?_;refine Ab ?_;refine SL.loop (α:=Nat) (λj=>[(0,.h b),(2,.ptr 0 0),(9,.agg (ws.flatMap qaM)),(10,.j (j:Int))]) (λ_=>[.v [.h 0,.nilf,.nilf]]) (λj=>j<=14/\((ws.drop j).find? λx=>decide (x.1=b))=some r) (λj=>14-j) 0 [0] ?_ ?_ ?_ rfl ?_ ?_
 .simp[vw,qd,hcl]
 .simp[vw]
 .simp
 .exact Ad
 rintro j ⟨hj,hI⟩ G ih;refine Am ?_
 by_cases hlt:j<14
 .have hlt':(j:Int)<14:=Ac
  have hjl:j<ws.length:=Ac
  have hx:ws[j]?=some ws[j]:=Ad
  have hw1:=wS j;have hel:=qI (f:=qaM) (m:=3) qoJ hx;have hb:j*3+3<=(ws.flatMap qaM).length:=Ac
  rw[zzf hjl,List.find?_cons]at hI;generalize hc0:ws[j]=x at hel hI;simp only[qaM]at hel;generalize hT:ws.flatMap qaM=T at hel hb hlen hcl;have hf1:=qlY x.2.1;have hf2:=qlY x.2.2;have hok:qF [AV.h x.1,fnO x.2.1,fnO x.2.2]=true:=by obtain⟨_,o1,o2⟩:=x;cases o1<;>cases o2<;>rfl
  by_cases hxb:x.1=b
  .have hd:decide (x.1=b)=true:=Ad
   rw[hd]at hI;obtain rfl:x=r:=Ad
   have hok':zt (fnO x.2.1)=true/\zt (fnO x.2.2)=true:=by obtain⟨_,o1,o2⟩:=x;cases o1<;>cases o2<;>exact⟨rfl,rfl⟩
   simp +decide only[↓vS,vT,simprocAttr,hlt',hlt,hel,hb,hok,hok'.1,hok'.2,hxb];have fz:∀(h:Hp) (o:Option Nat),Frz h (fnO o) (fnO o):=λh o=>Frz.self (qlY o)
   simp[vZ,qaM,hxb,fz]
  .have hd:decide (x.1=b)=false:=Ad
   rw[hd]at hI;simp +decide only[↓vS,vT,simprocAttr,hlt',hlt,hel,hb,hok,hxb,hw1];refine ih (j+1) ⟨hlt,hI⟩ Ac _ _ (Wk.mk _ _ [0] ?_ ?_ ?_ rfl)
   .simp[vw,qd,hcl,hT]
   .simp[vw]
   .simp
 .obtain rfl:j=14:=Ac
  have hd:ws.drop 14=[]:=Ad
  rw[hd]at hI;cases hI
def qLd{g1 g2:Nat}(hc:Ck P f (qq5 g1 g2))(h1:cWX P g1)(ws:List (Int×Option Nat×Option Nat))(hw:ws.length=14)(h2:qa P g2 [] (.agg (ws.flatMap qaM)))(c:Int)(r:Int×Option Nat×Option Nat)(hr:(ws.find? λx=>decide (x.1=qmp c))=some r) :
  qa P f [.h c] (.agg (qaM r)):=by
 refine Al ?_;have hX:=h1 c;unfold qmp at hr;simp only[qq5,vI,simprocAttr];cases hx:qaC c with
 | true =>
  rw[hx]at hX hr;rw[if_pos rfl]at hr;refine Ab ?_;refine hX.sc ?_;refine Ab ?_;refine qDO ws hw h2 (qaN .u16 c 8) r hr (Wk.mk _ _ [0] ?_ ?_ ?_ rfl)
  .simp[vw]
  .simp[vw]
  .simp
 | false =>
  rw[hx]at hX hr;rw[if_neg (by simp)]at hr;refine Ab ?_;refine hX.sc ?_;refine Ab ?_;refine qDO ws hw h2 c r hr (Wk.mk _ _ [0] ?_ ?_ ?_ rfl)
  .simp[vw]
  .simp[vw]
  .simp
def cVm(m:Mac)(d:GData):List AV:=.w m.a :: .w m.x::(rI .u32 m.cl++(zT d++[.w m.told,.b m.over]))
def qlU{m:Mac}{d:GData}(h:m.cl.length=16):(cVm m d).length=29:=by
 show(rI .u32 m.cl++(zT d++[AV.w m.told,AV.b m.over])).length+2=29;rw[zzP,qaf,h];rfl
def qp{m:Mac}{d:GData}:qu (cVm m d)=true:=by
 show qu (rI .u32 m.cl++(zT d++[AV.w m.told,AV.b m.over]))=true;rw[xF,qg];rfl
def qcU(a:Nat):IFn:=irJ 251 [320,a]
def qEq{g:Nat}(hc:Ck P f (qcU g))(hg:cWX P g)(m:Mac)(d:GData)(hl:m.cl.length=16)(i:Ins):Rd P f [.ptr 0 0,.agg (qK i)] [.v (cVm m d)] (.w (qdr m i)):=by
 refine Rd.mk hc E6 rfl ?_;have hX:=hg i.code;have g1:(cVm m d)[1]?=some (.w m.x):=rfl;unfold qdr;simp only[qcU,qK,vI,simprocAttr];cases hx:qaC i.code with
 | true =>
  rw[hx]at hX;refine Ab ?_;refine hX.sc ?_;simp +decide only[↓vS,vT,simprocAttr,g1]
 | false =>
  rw[hx]at hX;refine Ab ?_;refine hX.sc ?_;simp +decide only[↓vS,vT,simprocAttr]
def qJB(P:Program)(g:Nat):Prop:=∀(m:Mac) (d:GData),m.cl.length=16->∀i:Ins,Rd P g [.ptr 0 0,.agg (qK i)] [.v (cVm m d)] (.w (qdr m i))
def qJw(P:Program)(g:Nat):Prop:=∀c:Int,c4L.contains c=true->c≠5->∃(b:Int) (o:Option Nat) (k:Nat),qa P g [.h c] (.agg (qaM (b,o,some k)))/\∀x y:Int,qa P k [.w x,.w y] (.b (qbI (za c) x y))
def qd3(a b:Nat):IFn:=irJ 187 [252,a,251,b]
def qMe{g1 g2:Nat}(hc:Ck P f (qd3 g1 g2))(h1:qJw P g1)(h2:qJB P g2)(m:Mac)(d:GData)(hl:m.cl.length=16)(i:Ins)(hi:InsOk i)(hcls:qm i.code=4) :
  Upd P f [.ptr 0 0,.agg (qK i)] [.v (cVm m d)] (.j (qiT m i)) [.v (cVm m d)]:=by
 refine Upd.mk hc E6 (by simp) ?_;have g0:(cVm m d)[0]?=some (.w m.a):=rfl;have wk:IntKind.wrap .i64 i.k=i.k:=by have:=hi.k0;have:=hi.k1;exact Dm
 have wt:IntKind.wrap .i64 i.jt=i.jt:=by have:=hi.t0;have:=hi.t1;exact Dm
 have wf:IntKind.wrap .i64 i.jf=i.jf:=by have:=hi.f0;have:=hi.f1;exact Dm
 have hmem:c4L.contains i.code=true:=by
  unfold qm at hcls;cases hcm:qai i.code<;>grind[qdz,qH1]
 have hsec:=h2 m d hl i;unfold qiT;simp only[qd3,qK,vI,simprocAttr]at hsec ⊢
 by_cases c5:i.code=5
 .refine Sa (zzA c5 wk) ?_;intro _;exact B9
 obtain⟨b,o,k,hby,hho⟩:=h1 i.code hmem c5;simp only[qaM]at hby;rw[if_neg c5];refine Sa c5 ?_;refine zB ?_;refine Ab ?_;refine hby.pc ?_;simp +decide only[↓vS,vT,simprocAttr,fnO,g0];refine hsec.pc (vs:=[.ptr 0 0,.agg [.h i.code,.y i.jt,.y i.jf,.w i.k]]) [0] (Lent.of Af ?_) ?_
 .exact Cs
 refine Ab ?_;refine(hho m.a (qdr m i)).pc ?_;simp only[Hp.up,Hp.down];cases hh:qbI (za i.code) m.a (qdr m i)with
 | true =>
  refine Sa wt ?_;intro _;exact B9
 | false =>
  refine Sa wf ?_;intro _;exact B9
def qqq{m:Mac}{d:GData}(h:m.cl.length=16)(v:Bool):List.take 28 (cVm m d)++(AV.b v::List.drop 29 (cVm m d))=cVm { m with over:=v } d:=by
 have e:List.take 26 (rI .u32 m.cl++(zT d++[AV.w m.told,AV.b m.over]))++(AV.b v::List.drop 27 (rI .u32 m.cl++(zT d++[AV.w m.told,AV.b m.over])))=rI .u32 m.cl++(zT d++[AV.w m.told,AV.b v]):=by
  have hl:(rI .u32 m.cl).length=16:=by rw[qaf,h]
  rw[List.take_append,hl,zzt (by rw[hl];exact Af),zzk (by rw[zzP,hl];exact zzL 27),zzi];rfl
 show AV.w m.a::AV.w m.x::(List.take 26 (rI .u32 m.cl++(zT d++[AV.w m.told,AV.b m.over]))++(AV.b v::List.drop 27 (rI .u32 m.cl++(zT d++[AV.w m.told,AV.b m.over]))))=_;exact Eq
def qC9(c a b:Int):Int:=if c=52 then a / b else if c=100\/c=116 then qd5 (decide (c=100)) (b % 32).toNat a else opM c a b
def qJx(P:Program)(g:Nat):Prop:=∀c:Int,c3L.contains c=true->∃(b:Int) (k:Nat) (o:Option Nat),qa P g [.h c] (.agg (qaM (b,some k,o)))/\∀x y:Int,u32 x->u32 y->(za c=52->0<y)->qa P k [.w x,.w y] (.w (qC9 (za c) x y))
def qsP:∀c:Int,c3L.contains c=true->(za c=52↔c=52\/c=60)/\(za c=100↔c=100\/c=108)/\(za c=116↔c=116\/c=124)/\(qaC c=true↔c≠132/\8<=c % 16):=by
 intro c h;have key:∀c ∈ c3L,(za c=52↔c=52\/c=60)/\(za c=100↔c=100\/c=108)/\(za c=116↔c=116\/c=124)/\(qaC c=true↔c≠132/\8<=c % 16):=Af
 exact Ad
def qcT(a b c:Nat):IFn:=irJ 186 [251,a,130,b,252,c]
def qK1{g1 g2 g3:Nat}(hc:Ck P f (qcT g1 g2 g3))(h1:qJB P g1)(h3:qJx P g3)(m:Mac)(hm:MacOk m)(d:GData)(i:Ins)(hi:InsOk i)(hcls:qm i.code=3)(hz:(nuM m i).2=0) :
  Upd P f [.ptr 0 0,.agg (qK i)] [.v (cVm m d)] (.tup []) [.v (cVm (nuM m i).1 d)]:=by
 refine Upd.mk hc E6 (by simp) ?_;have hl:=qlU (d:=d) hm.len;have g0:(cVm m d)[0]?=some (.w m.a):=rfl;have s0:∀v:Int,AV.w v::List.drop 1 (cVm m d)=cVm { m with a:=v } d:=λ_=>rfl
 have so:=qqq (d:=d) hm.len true
 have hmem:c3L.contains i.code=true:=by
  unfold qm at hcls;cases hcm:qai i.code<;>grind[qdz,qz1]
 obtain⟨e52,e100,e116,eX⟩:=qsP i.code hmem
 have hB:u32 (qdr m i):=by
  unfold qdr;split
  .exact hm.x
  .exact⟨hi.k0,hi.k1⟩
 obtain⟨b,k,o,hby,hres⟩:=h3 i.code hmem;have hsec:=h1 m d hm.len i;have hr:=hres m.a (qdr m i) hm.a hB;have hb0:=hB.1;unfold nuM at hz ⊢;simp only[qaM]at hby;simp only[qcT,qK,vI,simprocAttr]at hsec ⊢;generalize qdr m i=y at hz hsec hr hb0 ⊢;refine Ab ?_;refine hsec.sc (vs:=[.ptr 0 0,.agg [.h i.code,.y i.jt,.y i.jf,.w i.k]]) [0] (Lent.of Af ?_) ?_
 .exact Cs
 by_cases c60:i.code=60/\y=0
 .have b52:=e52.2 (.inr c60.1);have hX:qaC i.code=true:=Ad
  rw[if_pos b52,if_neg Ac,if_pos hX];refine Sa (zzA c60.1 (zzA c60.2 (zzA hl so))) ?_;intro _;exact B9
 have h52:i.code=52->y≠0:=Ah
 have h60:i.code=60->y≠0:=Ac
 have hsh:(i.code=100\/i.code=116)->y<=31:=λhs=>by
  have hX:qaC i.code=false:=by
   cases h:qaC i.code with
   | false=>rfl
   | true =>
    have:=(eX.1 h).2;rcases hs with hs|hs<;>(rw[hs]at this;omega)
  have hb:za i.code=100\/za i.code=116:=Ah
  have hn:¬za i.code=52:=by rcases hb with hb|hb<;>(rw[hb];decide)
  rw[if_neg hn,if_pos hb]at hz
  exact Ah
 have hnu:(if za i.code=52 then(if 0<y then(({ m with a:=m.a / y }:Mac),(0:Int))else if qaC i.code=true then({ m with over:=true },0)else(m,44))else if za i.code=100\/za i.code=116 then(if qaC i.code=false/\31<y then(m,45)else({ m with a:=qd5 (decide (za i.code=100)) (y % 32).toNat m.a },0))else({ m with a:=opM (za i.code) m.a y },0)).1={ m with a:=qC9 (za i.code) m.a y }:=by
  unfold qC9
  exact Ah
 rw[hnu]
 have hr:=hr λb52=>Ah
 generalize qC9 (za i.code) m.a y=R at hr ⊢;clear hz hnu hres
 by_cases d52:i.code=52
 .have hy0:=h52 d52;refine Sa (zzA d52 hy0) ?_;refine zB ?_;refine Ab ?_;exact Ao
 by_cases d60:i.code=60
 .have hy0:=h60 d60;refine Sa (zzA d60 hy0) ?_;refine zB ?_;refine Ab ?_;exact Ao
 by_cases d100:i.code=100
 .have hy1:=hsh (.inl d100);have hy0:¬31<y:=Ac
  refine Sa (zzA d100 hy0) ?_;refine zB ?_;refine Ab ?_;exact Ao
 by_cases d116:i.code=116
 .have hy1:=hsh (.inr d116);have hy0:¬31<y:=Ac
  refine Sa (zzA d116 hy0) ?_;refine zB ?_;refine Ab ?_;exact Ao
 refine Sa (zzA d52 (zzA d60 (zzA d100 d116))) ?_;refine zB ?_;refine Ab ?_;exact Ao
structure Prs (P:Program) (g:Nat->Nat):Prop where
 p1:∀a b:Int,qa P (g 1) [.w a,.w b] (.w (opM 4 a b))
 p2:∀a b:Int,qa P (g 2) [.w a,.w b] (.w (opM 20 a b))
 p3:∀a b:Int,qa P (g 3) [.w a,.w b] (.w (opM 36 a b))
 p4:∀a b:Int,0<=a->a<=4294967295->0<b->qa P (g 4) [.w a,.w b] (.w (a / b))
 p5:∀a b:Int,qa P (g 5) [.w a,.w b] (.w (opM 68 a b))
 p6:∀a b:Int,qa P (g 6) [.w a,.w b] (.w (opM 84 a b))
 p7:∀a b:Int,0<=a->a<=4294967295->0<=b->qa P (g 7) [.w a,.w b] (.w (qd5 true (b % 32).toNat a))
 p8:∀a b:Int,0<=a->a<=4294967295->0<=b->qa P (g 8) [.w a,.w b] (.w (qd5 false (b % 32).toNat a))
 p9:∀a b:Int,qa P (g 9) [.w a,.w b] (.w (opM 164 a b))
 p10:∀a b:Int,qa P (g 10) [.w a,.w b] (.w (opM 132 a b))
 p11:∀a b:Int,qa P (g 11) [.w a,.w b] (.b (qbI 21 a b))
 p12:∀a b:Int,qa P (g 12) [.w a,.w b] (.b (qbI 37 a b))
 p13:∀a b:Int,qa P (g 13) [.w a,.w b] (.b (qbI 53 a b))
 p14:∀a b:Int,qa P (g 14) [.w a,.w b] (.b (qbI 69 a b))
def qKC(g:Nat->Nat):List (Int×Option Nat×Option Nat):=qHq (g 1) (g 2) (g 3) (g 4) (g 5) (g 6) (g 7) (g 8) (g 9) (g 10) (g 11) (g 12) (g 13) (g 14)
def qqk:∀c:Int,c3L.contains c=true\/(c4L.contains c=true/\c≠5)->qmp c=za c:=by
 have k3:∀c ∈ c3L,qmp c=za c:=Af
 have k4:∀c ∈ c4L,c≠5->qmp c=za c:=Af
 exact Ah
def qE2:∀c:Int,c3L.contains c=true->za c=4\/za c=20\/za c=36\/za c=52\/za c=68\/za c=84\/za c=100\/za c=116\/za c=164\/za c=132:=by
 have k:∀c ∈ c3L,za c=4\/za c=20\/za c=36\/za c=52\/za c=68\/za c=84\/za c=100\/za c=116\/za c=164\/za c=132:=Af
 exact Ad
def qE3:∀c:Int,c4L.contains c=true->c≠5->za c=21\/za c=37\/za c=53\/za c=69:=by
 have k:∀c ∈ c4L,c≠5->za c=21\/za c=37\/za c=53\/za c=69:=Af
 exact Ad
def byN{g:Nat->Nat}(hp:Prs P g)(hb:∀(c:Int) (r:Int×Option Nat×Option Nat),((qKC g).find? λx=>decide (x.1=qmp c))=some r->qa P f [.h c] (.agg (qaM r))):qJx P f:=by
 intro c hc;have hbv:=qqk c (.inl hc);have hb:=hb c;rw[hbv]at hb;have n1:∀{x y:Int},u32 x->u32 y->0<=x/\x<=4294967295/\0<=y:=λh h'=>⟨h.1,h.2,h'.1⟩
 rcases qE2 c hc with e|e|e|e|e|e|e|e|e|e<;>rw[e]at hb ⊢
 .exact⟨4,g 1,none,hb _ rfl,λx y _ _ _=>hp.p1 x y⟩
 .exact⟨20,g 2,none,hb _ rfl,λx y _ _ _=>hp.p2 x y⟩
 .exact⟨36,g 3,none,hb _ rfl,λx y _ _ _=>hp.p3 x y⟩
 .exact⟨52,g 4,none,hb _ rfl,λx y hx _ h0=>hp.p4 x y hx.1 hx.2 (h0 rfl)⟩
 .exact⟨68,g 5,none,hb _ rfl,λx y _ _ _=>hp.p5 x y⟩
 .exact⟨84,g 6,none,hb _ rfl,λx y _ _ _=>hp.p6 x y⟩
 .exact⟨100,g 7,none,hb _ rfl,λx y hx hy _=>hp.p7 x y hx.1 hx.2 hy.1⟩
 .exact⟨116,g 8,none,hb _ rfl,λx y hx hy _=>hp.p8 x y hx.1 hx.2 hy.1⟩
 .exact⟨164,g 9,none,hb _ rfl,λx y _ _ _=>hp.p9 x y⟩
 .exact⟨132,g 10,none,hb _ rfl,λx y _ _ _=>hp.p10 x y⟩
def byJ{g:Nat->Nat}(hp:Prs P g)(hb:∀(c:Int) (r:Int×Option Nat×Option Nat),((qKC g).find? λx=>decide (x.1=qmp c))=some r->qa P f [.h c] (.agg (qaM r))):qJw P f:=by
 intro c hc c5;have hbv:=qqk c (.inr ⟨hc,c5⟩);have hb:=hb c;rw[hbv]at hb;rcases qE3 c hc c5 with e|e|e|e<;>rw[e]at hb ⊢
 .exact⟨21,none,g 11,hb _ rfl,hp.p11⟩
 .exact⟨37,none,g 12,hb _ rfl,hp.p12⟩
 .exact⟨53,none,g 13,hb _ rfl,hp.p13⟩
 .exact⟨69,none,g 14,hb _ rfl,hp.p14⟩
def qqp{m:Mac}{d:GData}{k:Nat}{c:Int}(h:m.cl[k]?=some c):(cVm m d)[2+k]?=some (.w c):=by
 rw[show 2+k=k+2 from Ac]
 show(rI .u32 m.cl++(zT d++[AV.w m.told,AV.b m.over]))[k]?=_;rw[zzj (by rw[qaf];exact Ah),qbd,h];rfl
def qwW{m:Mac}{d:GData}(h:m.cl.length=16):List.take 9 (List.drop 18 (cVm m d))=zT d:=by
 show List.take 9 (List.drop 16 (rI .u32 m.cl++(zT d++[AV.w m.told,AV.b m.over])))=_;have hl:(rI .u32 m.cl).length=16:=by rw[qaf,h]
 rw[List.drop_append,hl,zzk (by rw[hl];exact Ac)];rfl
def qd2(a:Nat):IFn:=irJ 185 [130,a]
def qMd{g:Nat}(hc:Ck P f (qd2 g))(m:Mac)(d:GData)(n:Nat)(hn:n<16):Upd P f [.ptr 0 0,.w (n:Int)] [.v (cVm m d)] (.ptr 0 (2+n)) [.v (cVm m d)]:=by
 refine Upd.mk hc (by simp[jq,bnd]) (by simp) ?_;have hn':¬(16:Int)<=(n:Int):=Ac
 simp only[qd2,vI,simprocAttr];simp +decide only[↓vS,vT,simprocAttr,hn',hn,zzU];intro _;exact B9
def qwP(P:Program)(g:Nat):Prop:=∀(m:Mac) (d:GData) (n:Nat),n<16->Upd P g [.ptr 0 0,.w (n:Int)] [.v (cVm m d)] (.ptr 0 (2+n)) [.v (cVm m d)]
def c1L:List Int:=[32,128,0,96,129,1,97]
theorem qH0:∀x ∈ qaK,x.2.2=1->c1L.contains x.1=true:=Af
def qd4(a b c:Nat):IFn:=irJ 184 [250,a,130,b,185,c]
def qMf{g1 g2 g3:Nat}(hc:Ck P f (qd4 g1 g2 g3))(h1:qw0 P g1)(h3:qwP P g3)(m:Mac)(hm:MacOk m)(d:GData)(hd:DatOk d)(i:Ins)(hi:InsOk i)(hcls:qm i.code=1)(hz:(qeF m i d).2=0) :
  Upd P f [.ptr 0 0,.agg (qK i)] [.v (cVm m d)] (.tup []) [.v (cVm (qeF m i d).1 d)]:=by
 refine Upd.mk hc E6 (by simp) ?_;have hl:=qlU (d:=d) hm.len;have g0:(cVm m d)[0]?=some (.w m.a):=rfl;have s0:∀v:Int,AV.w v::List.drop 1 (cVm m d)=cVm { m with a:=v } d:=λ_=>rfl
 have s1:∀v:Int,List.take 1 (cVm m d)++(AV.w v::List.drop 2 (cVm m d))=cVm { m with x:=v } d:=λ_=>rfl
 have hdt:=qwW (d:=d) hm.len
 have hmem:c1L.contains i.code=true:=by
  unfold qm at hcls;cases hcm:qai i.code<;>grind[qdz,qH0]
 simp only[c1L,List.contains_iff_mem,zzc,List.not_mem_nil,or_false]at hmem;have hw:=h1 d hd i.k hi.k0 hi.k1;unfold qoZ at hw;unfold qeF qhD at hz ⊢;have k0:=hi.k0;simp only[qd4,qK,vI,simprocAttr];rcases hmem with e|e|e|e|e|e|e
 .by_cases hb:i.k % 4≠0\/64<=i.k
  .exact Ad
  .rw[if_neg hb]at hw;refine Sa e ?_;refine zB ?_;refine Sa (zzA hl hdt) ?_;refine hw.pc ?_;refine Sa (zzA hl s0) ?_;intro _;refine⟨[0],?_⟩;simp only[e,if_neg hb];simp[vw,qd,qp]
 .refine Sa (zzA e (zzA hl s0)) ?_;intro _;exact C7
 .refine Sa (zzA e (zzA hl s0)) ?_;intro _;exact C7
 rotate_left
 .refine Sa (zzA e (zzA hl s1)) ?_;intro _;exact C7
 .refine Sa (zzA e (zzA hl s1)) ?_;intro _;exact C7
 .have hb:¬15<i.k:=Ah
  obtain⟨n,hn⟩:∃n:Nat,i.k=(n:Int):=⟨i.k.toNat,Ac⟩
  have hk16:n<16:=Ac
  obtain⟨c,hcx⟩:∃c,m.cl[n]?=some c:=⟨_,zzE (by rw[hm.len];exact Ac)⟩;have gc:=qqp (m:=m) (d:=d) hcx;have htn:i.k.toNat=n:=Ac
  refine Sa (zzA e hn) ?_;refine(h3 m d n hk16).sc (vs:=[.ptr 0 0,.w (n:Int)]) [0] (Lent.of Af ?_) ?_
  .exact Cs
  refine Ds ?_;refine Sa (zzA gc (zzA hl s1)) ?_;intro _;refine⟨[0],?_⟩;have hb':¬(15:Int)<(n:Int):=Ac
  simp[vw,qd,qp,e,hn,hb',hcx]
 .have hb:¬15<i.k:=Ah
  obtain⟨n,hn⟩:∃n:Nat,i.k=(n:Int):=⟨i.k.toNat,Ac⟩
  have hk16:n<16:=Ac
  obtain⟨c,hcx⟩:∃c,m.cl[n]?=some c:=⟨_,zzE (by rw[hm.len];exact Ac)⟩;have gc:=qqp (m:=m) (d:=d) hcx;have htn:i.k.toNat=n:=Ac
  refine Sa (zzA e hn) ?_;refine(h3 m d n hk16).sc (vs:=[.ptr 0 0,.w (n:Int)]) [0] (Lent.of Af ?_) ?_
  .exact Cs
  refine Ds ?_;refine Sa (zzA gc (zzA hl s0)) ?_;intro _;refine⟨[0],?_⟩;have hb':¬(15:Int)<(n:Int):=Ac
  simp[vw,qd,qp,e,hn,hb',hcx]
end
end
end Go.Kc
