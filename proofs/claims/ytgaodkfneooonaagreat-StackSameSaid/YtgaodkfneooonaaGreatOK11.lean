/- Part 11 of the abstract machine and of the functions' walks. Conditions: with each theorem. -/
import Derived.Test.YtgaodkfneooonaaGreatOK10
set_option maxHeartbeats 4000000
set_option linter.defProp false
set_option linter.unusedSectionVars false
set_option linter.unusedSimpArgs false
set_option linter.unusedVariables false
set_option linter.unnecessarySimpa false
section
namespace Go.Kc
variable {P:Program} {f:Nat}
def zD(l:List Sy):List Ins×Int:=if 4096<(xO l).length then([],270)else(xO l,0)
def qkI{l:List Sy}:qiH l = .tup [.fz (zD l).1.length (rP (zD l).1),.j (zD l).2]:=by
 unfold qiH zD;split<;>rfl
def qbQ(l:List Sy):List Sy:=qg7 (qon (qfz l))
noncomputable def qeb(x:GFil):List Ins×Int:=if jq x=true then zD (zn x)else([],210)
noncomputable def qfe(x:GFil):List Ins×Int:=if jq x=true then zD (qbQ (zn (jW x)))else([],210)
noncomputable def qbZ(x:GFil)(o:Bool):List Ins×Int:=if o=true then qcl (qeb x) (qfe x)else qeb x
structure CmpFn (P:Program) (gE gN gO gL:Nat) (x:GFil):Prop where
 em:qa P gE [.agg (zq x)] (qoA x)
 nm:qa P gN [.agg (zq x)] (qsw x)
 lk:jq x=true->qa P gL [.fz (zn x).length (rSy (zn x))] (qiH (zn x))
 em2:jq x=true->qa P gE [.agg (zq (jW x))] (qoA (jW x))
 ok2:jq x=true->jq (jW x)=true
 op:jq x=true->qa P gO [.fz (zn (jW x)).length (rSy (zn (jW x)))] (.tup [.fz (qbQ (zn (jW x))).length (rSy (qbQ (zn (jW x)))),.j 0])
 lk2:jq x=true->qa P gL [.fz (qbQ (zn (jW x))).length (rSy (qbQ (zn (jW x))))] (qiH (qbQ (zn (jW x))))
section
variable {gE gN gO gL b s:Nat} {tr:Tr Blk} {k:AV->Hp->Prop} {x:GFil}
def qjQ{n:Nat}{cs:List AV}:ze (.fz n cs)=true/\qcQ (.fz n cs)=true/\cellsOf (.fz n cs)=[.fz n cs]:=⟨rfl,rfl,rfl⟩
def qAH{gd gwE gwL bx:Nat}{e:Nat}{wf a:Bool}(hc:qc P gd qM=true)(hE:qc P gwE (zV gE)=true)(hL:qc P gwL (qL gL)=true)(C:CmpFn P gE gN gO gL x)
  (hx:tr.get bx=some (.cells e wf a [.fn gwE [.ptr b 0] [],.fn gwL [.ptr b 0] []])) (hbx:bx≠b) (h0:tr.get b=some (WkB (zq x) .nils .nils .nils))
  (hk:∀v tr2,qiE v (qeb x).1->(∀c,c≠b->tr2.get c=tr.get c)->k (.tup [v,.j (qeb x).2]) ⟨s,0,tr2⟩):SC P gd [.ptr b 0,.sl bx 0 2 2 false] ⟨s,0,tr⟩ k:=by
 have hE':=C.em;cases hK:jq x with
 | false =>
  have e1:qeb x=([],210):=by unfold qeb;grind
  rw[e1]at hk;unfold qoA at hE';rw[hK,if_neg (by simp)]at hE';refine qhk hc [gwE,gwL] (by simpa using hx) hbx (λi=>if i=0 then WkB (zq x) .nils .nils .nils else WkB (zq x) .nils (.fz 0 []) .nils) (λi=>if i=0 then 0 else 210) 2 rfl (by omega) h0 rfl ?_ ?_ ?_
  .intro i g s' tr' k' hg hj hB hk'
   have hi:i=0:=by
    simp_all
   subst hi;simp at hg;subst hg;exact qmk hE (zq x) rfl hB _ _ qjQ hE' hk'
  .intro i tr2 hf hv hj;have hi:i≠0:=by omega
   simp only[if_neg hi];exact hk _ _ (.inr ⟨rfl,rfl⟩) hf
  .intro tr2 _ hj _;have:=hj 1 (by omega);omega
 | true =>
  have hL':=C.lk hK;rw[qkI]at hL';have e1:qeb x=zD (zn x):=by unfold qeb;grind
  rw[e1]at hk;unfold qoA at hE';rw[hK,if_pos rfl]at hE'
  refine qhk hc [gwE,gwL] (by simpa using hx) hbx (λi=>if i=0 then WkB (zq x) .nils .nils .nils else if i=1 then WkB (zq x) .nils (.fz (zn x).length (rSy (zn x))) .nils else WkB (zq x) .nils (.fz (zn x).length (rSy (zn x))) (.fz (zD (zn x)).1.length (rP (zD (zn x)).1)))
   (λi=>if i=0 then 0 else if i=1 then 0 else(zD (zn x)).2) 2 rfl (by omega) h0 rfl ?_ ?_ ?_
  .intro i g s' tr' k' hg hj hB hk';have hi:i<2:=by have:=(zzS.1 hg).1;omega
   have hi2:i=0\/i=1:=by omega
   rcases hi2 with rfl|rfl
   .simp at hg;subst hg;exact qmk hE (zq x) rfl hB _ _ qjQ hE' hk'
   .simp at hg;subst hg;exact qfZ hL (zq x) rfl hB _ _ qjQ hL' hk'
  .intro i tr2 hf hv hj;have h0':i≠0:=by omega
   have h1':i≠1:=by omega
   simp only[if_neg h0',if_neg h1']at hv ⊢
   have e2:(zD (zn x)).1=[]:=by
    unfold zD at hv ⊢
    grind
   exact hk _ _ (.inr ⟨rfl,e2⟩) hf
  .intro tr2 hf hj hB;have hz:=hj 2 (by omega);simp at hz;refine⟨zq x,.nils,_,_,rfl,rfl,?_⟩;have:=hk (.fz (zD (zn x)).1.length (rP (zD (zn x)).1)) tr2 (.inl rfl) hf;rw[hz]at this;omega
def qAG{gd gwN gwE gwO gwL bx:Nat}{e:Nat}{wf a:Bool}(hc:qc P gd qM=true)(hN:qc P gwN (z6 gN)=true)(hE:qc P gwE (zV gE)=true)(hO:qc P gwO (za gO)=true)(hL:qc P gwL (qL gL)=true)(C:CmpFn P gE gN gO gL x)
  (hx:tr.get bx=some (.cells e wf a [.fn gwN [.ptr b 0] [],.fn gwE [.ptr b 0] [],.fn gwO [.ptr b 0] [],.fn gwL [.ptr b 0] []])) (hbx:bx≠b) (h0:tr.get b=some (WkB (zq x) .nils .nils .nils))
  (hk:∀v tr2,qiE v (qfe x).1->(∀c,c≠b->tr2.get c=tr.get c)->k (.tup [v,.j (qfe x).2]) ⟨s,0,tr2⟩):SC P gd [.ptr b 0,.sl bx 0 4 4 false] ⟨s,0,tr⟩ k:=by
 have hN':=C.nm;cases hK:jq x with
 | false =>
  have e1:qfe x=([],210):=by unfold qfe;grind
  rw[e1]at hk;unfold qsw at hN';rw[hK,if_neg (by simp)]at hN';refine qhk hc [gwN,gwE,gwO,gwL] (by simpa using hx) hbx (λi=>if i=0 then WkB (zq x) .nils .nils .nils else WkB [.j 0,.fz 0 [],.w 0] .nils .nils .nils) (λi=>if i=0 then 0 else 210) 4 rfl (by omega) h0 rfl ?_ ?_ ?_
  .intro i g s' tr' k' hg hj hB hk'
   have hi:i=0:=by
    simp_all
   subst hi;simp at hg;subst hg;exact qml hN (zq x) rfl hB [.j 0,.fz 0 [],.w 0] rfl _ rfl hN' hk'
  .intro i tr2 hf hv hj;have hi:i≠0:=by omega
   simp only[if_neg hi];exact hk _ _ (.inr ⟨rfl,rfl⟩) hf
  .intro tr2 _ hj _;have:=hj 1 (by omega);omega
 | true =>
  obtain⟨y,hy⟩:∃y,y=jW x:=⟨_,rfl⟩;obtain⟨m,hm⟩:∃m,m=qbQ (zn y):=⟨_,rfl⟩;have hL':=C.lk2 hK;have hE':=C.em2 hK;have hO':=C.op hK;have hK2:=C.ok2 hK;have e1:qfe x=zD (qbQ (zn (jW x))):=by unfold qfe;grind
  rw[e1]at hk;unfold qsw at hN';rw[hK,if_pos rfl]at hN';rw[<- hy]at hL' hE' hO' hK2 hN' hk;unfold qoA at hE';rw[hK2,if_pos rfl]at hE';rw[<- hm]at hL' hO' hk;rw[qkI]at hL'
  refine qhk hc [gwN,gwE,gwO,gwL] (by simpa using hx) hbx (λi=>if i=0 then WkB (zq x) .nils .nils .nils else if i=1 then WkB (zq y) .nils .nils .nils else if i=2 then WkB (zq y) .nils (.fz (zn y).length (rSy (zn y))) .nils else if i=3 then WkB (zq y) .nils (.fz m.length (rSy m)) .nils else WkB (zq y) .nils (.fz m.length (rSy m)) (.fz (zD m).1.length (rP (zD m).1)))
   (λi=>if i=0 then 0 else if i=1 then 0 else if i=2 then 0 else if i=3 then 0 else(zD m).2) 4 rfl (by omega) h0 rfl ?_ ?_ ?_
  .intro i g s' tr' k' hg hj hB hk';have hi:i<4:=by have:=(zzS.1 hg).1;omega
   have hi2:i=0\/i=1\/i=2\/i=3:=by omega
   rcases hi2 with rfl|rfl|rfl|rfl
   .simp at hg;subst hg;exact qml hN (zq x) rfl hB (zq y) rfl _ rfl hN' hk'
   .simp at hg;subst hg;exact qmk hE (zq y) rfl hB _ _ qjQ hE' hk'
   .simp at hg;subst hg;exact qmj hO (zq y) rfl hB _ _ qjQ hO' hk'
   .simp at hg;subst hg;exact qfZ hL (zq y) rfl hB _ _ qjQ hL' hk'
  .intro i tr2 hf hv hj;have h0':i≠0:=by omega
   have h1':i≠1:=by omega
   have h2':i≠2:=by omega
   have h3':i≠3:=by omega
   simp only[if_neg h0',if_neg h1',if_neg h2',if_neg h3']at hv ⊢
   have e2:(zD m).1=[]:=by
    unfold zD at hv ⊢
    grind
   exact hk _ _ (.inr ⟨rfl,e2⟩) hf
  .intro tr2 hf hj hB;have hz:=hj 4 (by omega);simp at hz;refine⟨zq y,.nils,_,_,rfl,rfl,?_⟩;have:=hk (.fz (zD m).1.length (rP (zD m).1)) tr2 (.inl rfl) hf;rw[hz]at this;omega
def qa9(a b c d e g:Nat):IFn:=⟨[.tmp 4,.tmp 5],sq [.r [.q 2 (.box (.t 0)),.m 4 .N,.m 5 (.k 0)],.reg true [.v 12 3 2,.q 13 (.build [.j 0,.nils,.w 0,.nils,.nils,.nils] [(0,3,(.t 12))]),.q 14 (.box (.t 13)),.v 15 3 2,.q 16 (.build [.j 0,.nils,.w 0,.nils,.nils,.nils] [(0,3,(.t 15))]),.q 17 (.box (.t 16)),.n 6 14,.n 7 17],.r [.n 19 6,.n 20 6,.q 21 (.mkF a [.t 20] []),.n 22 6,.q 23 (.mkF b [.t 22] []),.q 24 (.buildS 2 [.nilf] [(0,1,(.t 21)),(1,1,(.t 23))]),.l 25 c [.t 19,.t 24],.n 18 25,.x 26 18 0,.x 27 18 1,.n 8 26,.n 9 27],sq [.r [.n 28 1,.q 29 (.un .not (.t 28))],.cond (.t 29) (sq [.r [.n 30 8,.n 31 9,.n 4 30,.n 5 31],.ret]) (.skip)],.r [.n 33 7,.n 34 7,.q 35 (.mkF d [.t 34] []),.n 36 7,.q 37 (.mkF a [.t 36] []),.n 38 7,.q 39 (.mkF e [.t 38] []),.n 40 7,.q 41 (.mkF b [.t 40] []),.q 42 (.buildS 4 [.nilf] [(0,1,(.t 35)),(1,1,(.t 37)),(2,1,(.t 39)),(3,1,(.t 41))]),.l 43 c [.t 33,.t 42],.n 32 43,.x 44 32 0,.x 45 32 1,.n 10 44,.n 11 45],.r [.n 46 8,.n 47 9,.n 48 10,.n 49 11,.l 50 g [.t 46,.t 47,.t 48,.t 49],.x 51 50 0,.x 52 50 1,.n 4 51,.n 5 52],.ret]⟩
theorem qiE.frz{v:AV}{p:List Ins}{h:Hp}(hv:qiE v p):Frz h v (.fz p.length (rP p)):=by
 rcases hv with rfl|⟨rfl,rfl⟩
 .exact Frz.self (by simp[Go.Kc.clo,qw])
 .exact .nilz
def qnQ{gd gwN gwE gwO gwL gs:Nat}(hc:qc P f (qa9 gwE gwL gd gwN gwO gs)=true)(hd:qc P gd qM=true)(hN:qc P gwN (z6 gN)=true)(hE:qc P gwE (zV gE)=true)(hO:qc P gwO (za gO)=true)(hL:qc P gwL (qL gL)=true)
  (hs:∀(u v:List Ins×Int) (x y:AV),qiE x u.1->qiE y v.1->∃z,qiE z (qcl u v).1/\qa P gs [x,.j u.2,y,.j v.2] (.tup [z,.j (qcl u v).2])) (C:CmpFn P gE gN gO gL x) (o:Bool) :
  qa P f [.agg (zq x),.b o] (.tup [.fz (qbZ x o).1.length (rP (qbZ x o).1),.j (qbZ x o).2]):=by
 refine qa.mk hc (by simp[qt,Go.Kc.clo,zq,qq]) ?_;simp only[qa9,zq,vI,simprocAttr];simp +decide only[↓vS,vT,simprocAttr];refine zB ?_;simp +decide only[↓vS,vT,simprocAttr];refine qAH hd hE hL C (b:=1) (bx:=3) (by simp[Tr.get_set];exact⟨rfl,rfl,rfl⟩) (by decide) (by simp[Tr.get_set,WkB,zq]) λv tr2 hv hf=>?_
 cases o with
 | false =>
  simp +decide only[↓vS,vT,simprocAttr,qbZ];simp[vZ];exact hv.frz
 | true =>
  simp +decide only[↓vS,vT,simprocAttr,qbZ];refine qAG hd hN hE hO hL C (b:=2) (bx:=4) (by simp[Tr.get_set];exact⟨rfl,rfl,rfl⟩) (by decide) (by rw[Tr.get_set,if_neg (by decide),hf 2 (by decide)];simp[Tr.get_set,WkB,zq]) λw tr3 hw _=>?_
  obtain⟨z,hz1,hz2⟩:=hs (qeb x) (qfe x) v w hv hw;simp +decide only[↓vS,vT,simprocAttr];refine hz2.sc ?_;simp +decide only[↓vS,vT,simprocAttr];simp[vZ];exact⟨hz1.frz,rfl⟩
end
end Go.Kc
end
section
namespace Go.Kc
def xk:List Sp->Int->Int->Prop
 | [],a,b=>a=b
 | s::l,a,b=>s.fr=a/\a<=s.to/\xk l (s.to+1) b
def xk.le:∀{l:List Sp} {a b:Int},xk l a b->a<=b
 | [],_,_,h=>by simp[xk]at h;omega
 | s::l,a,b,h=>by obtain⟨h1,h2,h3⟩:=h;have:=h3.le;omega
def xk.app:∀{l m:List Sp} {a b:Int},xk (l++m) a b↔∃c,xk l a c/\xk m c b
 | [],m,a,b=>by simp[xk]
 | s::l,m,a,b=>by
  simp only[zzC,xk];constructor
  .rintro⟨h1,h2,h3⟩;obtain⟨c,h4,h5⟩:=xk.app.1 h3
   grind
  .rintro⟨c,⟨h1,h2,h4⟩,h5⟩;exact⟨h1,h2,xk.app.2 ⟨c,h4,h5⟩⟩
def Cov(l:List Sp)(n:Int)(w:Nat):Prop:=∃s ∈ l,s.fr<=n/\n<=s.to/\s.way=w
def qsO{l:List Sp}{s:Sp}{a:Int}(h:xk l a s.fr)(hs:s.fr<=s.to):xk (jF l s) a (s.to+1)/\∀n w,Cov l n w\/(s.fr<=n/\n<=s.to/\s.way=w)->Cov (jF l s) n w:=by
 rcases List.eq_nil_or_concat l with rfl|⟨l0,z,rfl⟩
 .refine⟨?_,?_⟩
  .simp only[xk]at h;simp only[jF,List.getElem?_nil,zzN,xk]
   simp_all
  .rintro n w (⟨x,hx,_⟩|h)
   .cases hx
   .exact⟨s,by simp[jF],h⟩
 .rw[List.concat_eq_append]at h ⊢;have hz:(l0++[z])[(l0++[z]).length-1]?=some z:=by simp
  unfold jF;rw[hz];obtain⟨c,h1,h2⟩:=xk.app.1 h;simp only[xk]at h2;obtain⟨h2,h3,h4⟩:=h2;simp only
  by_cases hw:z.way=s.way
  .rw[if_pos hw];have e:(l0++[z]).set ((l0++[z]).length-1) ⟨z.fr,s.to,z.way⟩=l0++[⟨z.fr,s.to,z.way⟩]:=by simp
   rw[e];refine⟨xk.app.2 ⟨c,h1,h2,by grind,rfl⟩,?_⟩
   rintro n w (⟨x,hx,q1,q2,q3⟩|⟨q1,q2,q3⟩)
   .rcases List.mem_append.1 hx with hx|hx
    .exact⟨x,List.mem_append_left _ hx,q1,q2,q3⟩
    .rw[List.mem_singleton]at hx;subst hx;exact⟨_,List.mem_append_right _ (List.mem_singleton.2 rfl),q1,by grind,q3⟩
   .exact⟨_,List.mem_append_right _ (List.mem_singleton.2 rfl),by grind,q2,by simp_all⟩
  .rw[if_neg hw];refine⟨xk.app.2 ⟨s.fr,h,rfl,hs,rfl⟩,?_⟩;rintro n w (⟨x,hx,q⟩|q)
   .exact⟨x,List.mem_append_left _ hx,q⟩
   .exact⟨s,List.mem_append_right _ (List.mem_singleton.2 rfl),q⟩
def qll:∀{m l:List Sp} {a b c:Int},xk l a b->xk m b c->xk (m.foldl jF l) a c/\∀n w,Cov l n w\/Cov m n w->Cov (m.foldl jF l) n w
 | [],l,a,b,c,h1,h2=>by
  simp only[xk]at h2;subst h2;refine⟨h1,?_⟩;rintro n w (h|⟨x,hx,_⟩)
  all_goals simp_all
 | s::m,l,a,b,c,h1,h2=>by
  obtain⟨h3,h4,h5⟩:=h2;obtain⟨p1,p2⟩:=qsO (s:=s) (by rw[h3];exact h1) (by omega);obtain⟨q1,q2⟩:=qll p1 h5;refine⟨q1,?_⟩;rintro n w (h|⟨x,hx,hq⟩)
  .simp_all
  .rcases List.mem_cons.1 hx with rfl|hx
   .simp_all
   .exact q2 n w (.inr ⟨x,hx,hq⟩)
def Ups:List (Int×Nat)->Int->Prop
 | [],_=>True
 | x::l,a=>a<=x.1/\x.1<4294967296/\Ups l (x.1+1)
def qnb{o:Nat}:∀{l:List (Int×Nat)} {a:Int},Ups l a->0<=a->a<=4294967296->xk (pcs o l a) a 4294967296/\(∀x ∈ l,Cov (pcs o l a) x.1 x.2)/\∀n:Int,a<=n->n<4294967296->(∀x ∈ l,x.1≠n)->Cov (pcs o l a) n o
 | [],a,_,h0,h1=>by
  unfold pcs;refine⟨?_,by simp_all,λn h2 h3 _=>?_⟩
  .split
   .exact⟨rfl,by grind,by simp only[xk];omega⟩
   .simp only[xk];omega
  .rw[if_pos (by omega)];exact⟨_,List.mem_singleton.2 rfl,h2,by simp only;omega,rfl⟩
 | x::l,a,hu,h0,h1=>by
  obtain⟨u1,u2,u3⟩:=hu;obtain⟨c1,c2,c3⟩:=qnb (o:=o) u3 (by omega) (by omega);unfold pcs
  have app:∀(b:Bool),(b=true↔a<x.1)->xk ((if a<x.1 then [⟨a,x.1-1,o⟩]else [])++⟨x.1,x.1,x.2⟩::pcs o l (x.1+1)) a 4294967296:=λ_ _=>by
   by_cases h:a<x.1
   .rw[if_pos h];exact⟨rfl,by grind,by simp_all,by simp_all,c1⟩
   .rw[if_neg h];exact⟨by grind,by omega,c1⟩
  refine⟨app (decide (a<x.1)) (by simp),λy hy=>?_,λn h2 h3 h4=>?_⟩
  .rcases List.mem_cons.1 hy with rfl|hy
   .exact⟨_,List.mem_append_right _ (List.mem_cons_self ..),Int.le_refl _,Int.le_refl _,rfl⟩
   .obtain⟨s,hs,hq⟩:=c2 y hy;exact⟨s,List.mem_append_right _ (List.mem_cons_of_mem _ hs),hq⟩
  .have hx:=h4 x (by simp_all);rcases Int.lt_or_gt_of_ne hx with h|h
   .obtain⟨s,hs,hq⟩:=c3 n (by omega) h3 (by grind);exact⟨s,List.mem_append_right _ (List.mem_cons_of_mem _ hs),hq⟩
   .rw[if_pos (by omega)];exact⟨_,List.mem_append_left _ (List.mem_singleton.2 rfl),h2,by simp only;omega,rfl⟩
def qpJ{o:Nat}{m:Nat}(ho:o<m):∀{l:List (Int×Nat)} {a:Int},(∀x ∈ l,x.2<m)->∀s ∈ pcs o l a,s.way<m
 | [],a,_,s,hs=>by
  unfold pcs at hs;simp_all
 | x::l,a,h,s,hs=>by
  unfold pcs at hs;rcases List.mem_append.1 hs with hs|hs
  .simp_all
  .rcases List.mem_cons.1 hs with rfl|hs
   .simp_all
   .exact qpJ ho (by grind) s hs
def qrP{o:Nat}:∀{l:List (Int×Nat)} {a:Int},(pcs o l a).length<=2*l.length+1
 | [],a=>by unfold pcs;split<;>simp
 | x::l,a=>by
  have:=qrP (o:=o) (l:=l) (a:=x.1+1);unfold pcs;split<;>simp<;>omega
def qw0{m:Nat}{l:List Sp}{s:Sp}(h:∀x ∈ l,x.way<m)(hs:s.way<m):∀x ∈ jF l s,x.way<m:=by
 intro x hx;unfold jF at hx
 grind
def qmT{m:Nat}:∀{k l:List Sp},(∀x ∈ l,x.way<m)->(∀x ∈ k,x.way<m)->(∀x ∈ k.foldl jF l,x.way<m)/\(k.foldl jF l).length<=l.length+k.length
 | [],l,h,_=>⟨h,by simp⟩
 | s::k,l,h,hk=>by
  obtain⟨q1,q2⟩:=qmT (k:=k) (qw0 h (hk s (List.mem_cons_self ..))) (by simp_all);have:=qmc (l:=l) (s:=s);exact⟨q1,by simp only[List.foldl_cons,List.length_cons];omega⟩
def qmK:∀{l:List Sp} {a:Int},xk l a 4294967296->qkF l a=true
 | [],a,h=>by simp[xk]at h;simp[qkF,h]
 | s::l,a,h=>by
  obtain⟨h1,h2,h3⟩:=h;unfold qkF;rw[if_neg (by omega)];exact qmK h3
def qjL:∀{l:List Sp} {a b:Int},xk l a b->0<=a->b<=4294967296->SpR l
 | [],_,_,_,_,_=>λs hs=>by cases hs
 | s::l,a,b,h,h0,hb=>by
  obtain⟨h1,h2,h3⟩:=h;have:=h3.le;intro x hx;rcases List.mem_cons.1 hx with rfl|hx
  .omega
  .exact qjL h3 (by omega) hb x hx
def qAQ{m:Nat}(n:Nat):∀(l:List Sp) (a:Nat),l.length<=n->0<l.length->(∀s ∈ l,s.way<m)->∀nd ∈ zO l a,(nd.leaf=true->nd.way<m)/\(nd.leaf=false->a<nd.less/\a<nd.more/\nd.less<a+(zO l a).length/\nd.more<a+(zO l a).length)/\nd.less<a+(zO l a).length/\nd.more<a+(zO l a).length:=by
 induction n with
 | zero=>omega
 | succ n ih =>
  intro l a h1 h2 hw nd hnd;have hlen:=qdt (n+1) l a h1 h2;rw[zO]at hnd
  by_cases hk:l.length / 2=0
  .rw[dif_pos hk]at hnd;rw[List.mem_singleton]at hnd;subst hnd;cases l<;>grind
  .rw[dif_neg hk]at hnd
   have e0:(zO l a).length=1+(zO (l.take (l.length / 2)) (a+1)).length+(zO (l.drop (l.length / 2)) (a+1+(zO (l.take (l.length / 2)) (a+1)).length)).length:=by
    grind[zO.eq_1]
   have hl1:=qdt n (l.take (l.length / 2)) (a+1) (by grind) (by grind);have hl2:=qdt n (l.drop (l.length / 2)) (a+1+(zO (l.take (l.length / 2)) (a+1)).length) (by grind) (by grind);simp at hl1 hl2;rcases List.mem_cons.1 hnd with rfl|hnd
   .refine⟨λh=>by grind,λ_=>?_,?_,?_⟩<;>simp only<;>(try refine(by omega))<;>omega
   .rcases List.mem_append.1 hnd with hnd|hnd
    .obtain⟨q1,q2,q3,q4⟩:=ih (l.take (l.length / 2)) (a+1) (by simp;omega) (by simp;omega) (by grind) nd hnd
     grind
    .obtain⟨q1,q2,q3,q4⟩:=ih (l.drop (l.length / 2)) _ (by simp;omega) (by simp;omega) (by grind) nd hnd
     grind
def wdD(d:GData)(k:Int):Int:=(jw d).getD (k / 4).toNat 0
inductive Ev (R:List Sy) (d:GData):Nat->Int->Int->Prop where
 | ld (p:Nat) (a r:Int) (s:Sy) (h:R[p]?=some s) (hc:s.code=32) (hn:Ev R d (p+1) (wdD d s.k) r):Ev R d p a r
 | an (p:Nat) (a r:Int) (s:Sy) (h:R[p]?=some s) (hc:s.code=84) (hn:Ev R d (p+1) (xS .u32 a s.k) r):Ev R d p a r
 | rt (p:Nat) (a:Int) (s:Sy) (h:R[p]?=some s) (hc:s.code=6):Ev R d p a s.k
 | ja (p:Nat) (a r:Int) (s:Sy) (h:R[p]?=some s) (hc:s.code=5) (hn:Ev R d s.th a r):Ev R d p a r
 | jc (p:Nat) (a r:Int) (s:Sy) (h:R[p]?=some s) (hc:qd7 s.code) (hn:Ev R d (if qbD s.code a s.k=true then s.th else s.el) a r):Ev R d p a r
def AtL(R:List Sy)(p:Nat)(l:List Sy):Prop:=∀(j:Nat) s,l[j]?=some s->R[p+j]?=some s
theorem AtL.self{R:List Sy}:AtL R 0 R:=λj s h=>by rw[Nat.zero_add];exact h
def AtL.app{R:List Sy}{p:Nat}{l m:List Sy}(h:AtL R p (l++m)):AtL R p l/\AtL R (p+l.length) m:=by
 refine⟨λj s hj=>h j s (by rw[List.getElem?_append_left (by grind)];exact hj),λj s hj=>?_⟩
 have:=h (l.length+j) s (by rw[List.getElem?_append_right (by omega),Nat.add_sub_cancel_left];exact hj)
 rw[Nat.add_assoc];omega
def AtL.hd{R:List Sy}{p:Nat}{s:Sy}{l:List Sy}(h:AtL R p (s::l)):R[p]?=some s/\AtL R (p+1) l:=by
 refine⟨by simpa using h 0 s rfl,λj x hj=>?_⟩
 have:=h (j+1) x (by simpa using hj);rw[show p+1+j=p+(j+1)by omega];omega
def qcs(l:List Sy)(p n:Nat):Prop:=∀(j:Nat) s,l[j]?=some s->qfq s (p+j) n
def qcs.app{l m:List Sy}{p n:Nat}(h1:qcs l p n)(h2:qcs m (p+l.length) n):qcs (l++m) p n:=by
 intro j s hj;rw[List.getElem?_append]at hj;split at hj
 .exact h1 j s hj
 .rename_i hlt;have:=h2 _ s hj;rw[show p+l.length+(j-l.length)=p+j by omega]at this;omega
theorem qcs.nil{p n:Nat}:qcs [] p n:=λj s h=>by grind
theorem qcs.cons{s:Sy}{l:List Sy}{p n:Nat}(h1:qfq s p n)(h2:qcs l (p+1) n):qcs (s::l) p n:=by
 intro j x hj;cases j with
 | zero=>simp_all
 | succ j=>have:=h2 j x (by simpa using hj);rw[show p+1+j=p+(j+1)by omega]at this;omega
def qxF(n:Nat):∀(l:List Sp) (a:Nat),l.length<=n->0<l.length->∀(i:Nat) nd,(zO l a)[i]?=some nd->nd.leaf=false->a+i<nd.less/\a+i<nd.more:=by
 induction n with
 | zero=>omega
 | succ n ih =>
  intro l a h1 h2 i nd hnd hl;rw[zO]at hnd
  by_cases hk:l.length / 2=0
  .rw[dif_pos hk]at hnd
   grind
  .rw[dif_neg hk]at hnd;have hl1:=qdt n (l.take (l.length / 2)) (a+1) (by grind) (by grind);cases i with
   | zero=>grind
   | succ i =>
    rw[List.getElem?_cons_succ,List.getElem?_append]at hnd;split at hnd
    .have:=ih (l.take (l.length / 2)) (a+1) (by grind) (by omega) i nd hnd hl;omega
    .rename_i hge;have:=ih (l.drop (l.length / 2)) _ (by grind) (by grind) _ nd hnd hl;omega
def qAP{T:List Nd}{FW:Nat->Nat}{b:Nat}{n:Int}{Q:Nat->Prop}(hQ:∀(i:Nat) nd,T[i]?=some nd->nd.leaf=false->Q (if nd.at'<=n then plc FW T b nd.more else plc FW T b nd.less)->Q (plc FW T b i))(m:Nat) :
  ∀(l:List Sp) (a:Nat) (c e:Int),l.length<=m->0<l.length->xk l c e->(∀(j:Nat) nd,(zO l a)[j]?=some nd->T[a+j]?=some nd)->∀w,Cov l n w->Q (FW w)->Q (plc FW T b a):=by
 induction m with
 | zero=>omega
 | succ m ih =>
  intro l a c e h1 h2 hc hT w hw hq;rw[zO]at hT
  by_cases hk:l.length / 2=0
  .rw[dif_pos hk]at hT;obtain⟨s,rfl⟩:∃s,l=[s]:=List.length_eq_one_iff.1 (by omega);have h0:=hT 0 _ rfl;rw[Nat.add_zero]at h0;obtain⟨x,hx,_,_,rfl⟩:=hw;rw[List.mem_singleton]at hx;subst hx;unfold plc;rw[h0];simp_all
  .rw[dif_neg hk]at hT;have h0:=hT 0 _ rfl;rw[Nat.add_zero]at h0;obtain⟨z,hz⟩:∃z,l[l.length / 2]?=some z:=⟨_,zzE (by omega)⟩;have hzD:l.getD (l.length / 2) ⟨0,0,0⟩=z:=by rw[List.getD_eq_getElem?_getD,hz];rfl
   rw[hzD]at h0;have hsplit:l=l.take (l.length / 2)++l.drop (l.length / 2):=by simp_all
   rw[hsplit]at hc;obtain⟨q,hc1,hc2⟩:=xk.app.1 hc;have hd:l.drop (l.length / 2)=z::l.drop (l.length / 2+1):=by rw[<- (zzS.1 hz).2,List.getElem_cons_drop]
   have hq0:z.fr=q:=by rw[hd]at hc2;exact hc2.1
   -- what lies ahead ends below q;what lies behind begins at q
   have lo:∀{l:List Sp} {c e:Int},xk l c e->∀s ∈ l,c<=s.fr/\s.to<e:=by
    intro l
    induction l with
    | nil=>grind
    | cons y l ihl =>
     intro c e h s hs;obtain⟨p1,p2,p3⟩:=h;have:=p3.le;rcases List.mem_cons.1 hs with rfl|hs
     all_goals grind
   refine hQ a _ h0 rfl ?_;simp only;obtain⟨s,hs,s1,s2,s3⟩:=hw;rw[hsplit]at hs;rcases List.mem_append.1 hs with hs|hs
   .have:=lo hc1 s hs;rw[if_neg (by omega)];refine ih (l.take (l.length / 2)) (a+1) c q (by simp;omega) (by simp;omega) hc1 (λj nd hj=>?_) w ⟨s,hs,s1,s2,s3⟩ hq
    have:=hT (j+1) nd (by rw[List.getElem?_cons_succ,List.getElem?_append_left (by grind)];exact hj)
    rw[show a+1+j=a+(j+1)by omega];omega
   .have:=lo hc2 s hs;rw[if_pos (by omega)];refine ih (l.drop (l.length / 2)) _ q e (by simp;omega) (by simp;omega) hc2 (λj nd hj=>?_) w ⟨s,hs,s1,s2,s3⟩ hq
    have:=hT ((zO (l.take (l.length / 2)) (a+1)).length+j+1) nd (by rw[List.getElem?_cons_succ,List.getElem?_append_right (by omega),Nat.add_sub_cancel_left];exact hj)
    rw[show a+1+(zO (l.take (l.length / 2)) (a+1)).length+j=a+((zO (l.take (l.length / 2)) (a+1)).length+j+1)by omega];omega
def qld{T:List Nd}:∀{i:Nat} {nd:Nd},T[i]?=some nd->xm (T.take (i+1))=xm (T.take i)+if nd.leaf=true then 0 else 1:=by
 intro i nd h;unfold xm;rw[qbt h,List.countP_append];cases h2:nd.leaf<;>simp[h2]
def qlc{T:List Nd}{i j:Nat}(h:i<=j):xm (T.take i)<=xm (T.take j):=by
 have:T.take i=(T.take j).take i:=by rw[List.take_take,Nat.min_eq_left h]
 rw[this];unfold xm
 grind[List.take_append_drop]
def qyy{FW:Nat->Nat}{T:List Nd}{b i:Nat}{nd:Nd}(h:T[i]?=some nd)(hl:nd.leaf=false):(brE FW T b T)[xm (T.take i)]?=some ⟨53,nd.at',plc FW T b nd.more,plc FW T b nd.less⟩:=by
 have main:∀(u:List Nd) (i:Nat),u[i]?=some nd->(brE FW T b u)[xm (u.take i)]?=some ⟨53,nd.at',plc FW T b nd.more,plc FW T b nd.less⟩:=by
  intro u
  induction u with
  | nil=>intro i h;simp at h
  | cons y u ih =>
   intro i h;cases i with
   | zero=>simp at h;subst h;simp[brE,qjZ,hl,xm]
   | succ i =>
    have:=ih i (by simpa using h);simp only[brE,List.flatMap_cons,List.take_succ_cons,xm,List.countP_cons]at this ⊢;cases hy:y.leaf with
    | true=>simp[qjZ,hy];exact this
    | false=>simp[qjZ,hy];exact this
 simp_all
def qdx{a b:Nat}(ha:a<18446744073709551616)(hb:b<18446744073709551616):xS .u64 (a:Int) (b:Int)=((a &&& b:Nat):Int):=by
 have h:a &&& b<18446744073709551616:=Nat.and_lt_two_pow a (n:=64) hb;show IntKind.wrap .u64 (((BitVec.ofInt 64 (a:Int)) &&& (BitVec.ofInt 64 (b:Int))).toNat:Int)=_;rw[BitVec.ofInt_natCast,BitVec.ofInt_natCast,BitVec.toNat_and,BitVec.toNat_ofNat,BitVec.toNat_ofNat,Nat.mod_eq_of_lt ha,Nat.mod_eq_of_lt hb,qdl (by omega) (by omega)]
def qdw{a b:Nat}(ha:a<4294967296)(hb:b<4294967296):xS .u32 (a:Int) (b:Int)=((a &&& b:Nat):Int):=by
 have h:a &&& b<4294967296:=Nat.and_lt_two_pow a (n:=32) hb;show IntKind.wrap .u32 (((BitVec.ofInt 32 (a:Int)) &&& (BitVec.ofInt 32 (b:Int))).toNat:Int)=_;rw[BitVec.ofInt_natCast,BitVec.ofInt_natCast,BitVec.toNat_and,BitVec.toNat_ofNat,BitVec.toNat_ofNat,Nat.mod_eq_of_lt ha,Nat.mod_eq_of_lt hb,qdk (by omega) (by omega)]
def qqc{a b c:Nat}:a &&& b=c↔(a % 4294967296) &&& (b % 4294967296)=c % 4294967296/\(a / 4294967296) &&& (b / 4294967296)=c / 4294967296:=by
 have e1:(a % 4294967296) &&& (b % 4294967296)=(a &&& b) % 4294967296:=(Nat.and_mod_two_pow (n:=32)).symm;have e2:(a / 4294967296) &&& (b / 4294967296)=(a &&& b) / 4294967296:=(Nat.and_div_two_pow (n:=32)).symm;rw[e1,e2];omega
def qka{x m v:Int}(hx:0<=x/\x<18446744073709551616)(hm:0<=m/\m<18446744073709551616)(hv:0<=v/\v<18446744073709551616):xS .u64 x m=v↔xS .u32 (loW x) (loW m)=loW v/\xS .u32 (hiW x) (hiW m)=hiW v:=by
 obtain⟨a,rfl⟩:=Int.eq_ofNat_of_zero_le hx.1;obtain⟨b,rfl⟩:=Int.eq_ofNat_of_zero_le hm.1;obtain⟨c,rfl⟩:=Int.eq_ofNat_of_zero_le hv.1;have ha:a<18446744073709551616:=by omega
 have hb:b<18446744073709551616:=by omega
 rw[qdx ha hb];have e1:loW (a:Int)=((a % 4294967296:Nat):Int):=by unfold loW;omega
 have e2:loW (b:Int)=((b % 4294967296:Nat):Int):=by unfold loW;omega
 have e3:loW (c:Int)=((c % 4294967296:Nat):Int):=by unfold loW;omega
 have e4:hiW (a:Int)=((a / 4294967296:Nat):Int):=by unfold hiW;omega
 have e5:hiW (b:Int)=((b / 4294967296:Nat):Int):=by unfold hiW;omega
 have e6:hiW (c:Int)=((c / 4294967296:Nat):Int):=by unfold hiW;omega
 rw[e1,e2,e3,e4,e5,e6,qdw (by omega) (by omega),qdw (by omega) (by omega)];have:=qqc (a:=a) (b:=b) (c:=c)
 grind
def qsu{x:Int}(hx:0<=x/\x<4294967296):xS .u32 x 4294967295=x:=by
 obtain⟨a,rfl⟩:=Int.eq_ofNat_of_zero_le hx.1;have:=qdw (a:=a) (b:=4294967295) (by omega) (by decide);rw[show((4294967295:Nat):Int)=4294967295 from rfl]at this
 have e:a &&& 4294967295=a:=by
  have:=Nat.and_two_pow_sub_one_eq_mod a 32;rw[show 2 ^ 32-1=4294967295 from rfl]at this
  rw[this];omega
 rw[this,e]
theorem qmE{x:Int}(hx:0<=x/\x<4294967296):xS .u32 x 0=0:=by
 obtain⟨a,rfl⟩:=Int.eq_ofNat_of_zero_le hx.1;have:=qdw (a:=a) (b:=0) (by omega) (by decide)
 simp_all
def EvA(R:List Sy)(d:GData)(p:Nat)(r:Int):Prop:=∀a,Ev R d p a r
section
variable {R:List Sy} {d:GData} {p F:Nat} {r:Int}
def qrs{k m v:Int}(h:AtL R p (qdJ k m v p F))(hw:0<=wdD d k/\wdD d k<4294967296)(hmv:m=0->v=0)(h1:xS .u32 (wdD d k) m=v->EvA R d (p+qb0 m) r)(h2:xS .u32 (wdD d k) m≠v->EvA R d F r):EvA R d p r:=by
 intro a;unfold qdJ qb0 at *
 by_cases m0:m=0
 .rw[if_pos m0]at h1;have:=h1 (by rw[m0,hmv m0];exact qmE hw);simpa using this a
 rw[if_neg m0]at h h1
 by_cases m1:m=4294967295
 .rw[if_pos m1]at h h1;obtain⟨g1,h⟩:=h.hd;obtain⟨g2,_⟩:=h.hd;refine .ld p a r _ g1 rfl (.jc _ _ r _ g2 (.inl rfl) ?_);rw[m1,qsu hw]at h1 h2;simp only[qbD]
  by_cases e:wdD d k=v
  .rw[if_pos (by simp[e])];exact h1 e _
  .rw[if_neg (by simp[e])];exact h2 e _
 .rw[if_neg m1]at h h1;obtain⟨g1,h⟩:=h.hd;obtain⟨g2,h⟩:=h.hd;obtain⟨g3,_⟩:=h.hd;refine .ld p a r _ g1 rfl (.an _ _ r _ g2 rfl (.jc _ _ r _ g3 (.inl rfl) ?_));simp only[qbD]
  by_cases e:xS .u32 (wdD d k) m=v
  .rw[if_pos (by simp[e])];exact h1 e _
  .rw[if_neg (by simp[e])];exact h2 e _
def qmm{d:GData}(hd:DatOk d)(j:Nat):0<=(jw d).getD j 0/\(jw d).getD j 0<4294967296:=by
 have:=qiY (l:=jw d) (λc hc=>qmn hd hc) j
 exact⟨this.1,by have:=this.2;omega⟩
def qE8{d:GData}{k:Int}(h0:0<=k)(h6:k<6):wdD d (16+8*k)=loW (qnC d k)/\wdD d (16+8*k+4)=hiW (qnC d k):=by
 have:k=0\/k=1\/k=2\/k=3\/k=4\/k=5:=by omega
 rcases this with rfl|rfl|rfl|rfl|rfl|rfl<;>exact⟨rfl,rfl⟩
def qnD{d:GData}(hd:DatOk d){k:Int}(h0:0<=k)(h6:k<6):0<=qnC d k/\qnC d k<18446744073709551616:=by
 have:k=0\/k=1\/k=2\/k=3\/k=4\/k=5:=by omega
 have hm:qnC d k ∈ qmB d:=by rcases this with rfl|rfl|rfl|rfl|rfl|rfl<;>simp[qnC,qmB]
 exact hd.wid _ hm
def qyO{v m:Int}(hv:0<=v/\v<18446744073709551616)(h:qeH .u64 v m=0):xS .u64 v m=v:=by
 obtain⟨a,rfl⟩:=Int.eq_ofNat_of_zero_le hv.1;have h1:IntKind.wrap .u64 (((BitVec.ofInt 64 (a:Int)) &&& ~~~ (BitVec.ofInt 64 m)).toNat:Int)=0:=h;have hlt:=((BitVec.ofInt 64 (a:Int)) &&& ~~~ (BitVec.ofInt 64 m)).isLt;rw[qdl (by omega) (by omega)]at h1;have h2:(BitVec.ofInt 64 (a:Int)) &&& ~~~ (BitVec.ofInt 64 m)=0#64:=BitVec.eq_of_toNat_eq (by simp_all)
 have bv:∀X Y:BitVec 64,X &&& ~~~ Y=0#64->X &&& Y=X:=λX Y h2=>by
  apply BitVec.eq_of_getLsbD_eq;intro i hi;have:=congrArg (λb=>b.getLsbD i) h2
  grind
 have h3:=bv _ _ h2;show IntKind.wrap .u64 (((BitVec.ofInt 64 (a:Int)) &&& (BitVec.ofInt 64 m)).toNat:Int)=_;rw[h3,BitVec.ofInt_natCast,BitVec.toNat_ofNat,Nat.mod_eq_of_lt (by omega),qdl (by omega) (by omega)]
structure TstG (t:GTest):Prop where
 ok:TstOk t
 sub:xS .u64 t.val t.mask=t.val
def TstG.lo{t:GTest}(h:TstG t):(loW t.mask=0->loW t.val=0)/\(hiW t.mask=0->hiW t.val=0):=by
 obtain⟨h1,h2⟩:=(qka ⟨h.ok.v0,h.ok.v1⟩ ⟨h.ok.m0,h.ok.m1⟩ ⟨h.ok.v0,h.ok.v1⟩).1 h.sub;have e1:0<=loW t.val/\loW t.val<4294967296:=by unfold loW;omega
 have e2:0<=hiW t.val/\hiW t.val<4294967296:=by have:=h.ok.v0;have:=h.ok.v1;unfold hiW;omega
 grind[qmE]
def qAK{t:GTest}(ht:TstG t)(hd:DatOk d)(h:AtL R p (qif t p))(h1:qb8 t d=true->r=t.act)(h2:qb8 t d=false->EvA R d (p+qbV t) r):EvA R d p r:=by
 obtain⟨g1,g2⟩:=h.app;obtain⟨g1,g3⟩:=g1.app;rw[qb7]at g3;rw[zzP,qb7,qb7]at g2;obtain⟨w1,w2⟩:=qE8 (d:=d) ht.ok.a0 ht.ok.a1
 have hh:qb8 t d=decide (xS .u64 (qnC d t.arg) t.mask=t.val):=by
  unfold qb8;simp[ht.ok.a0,ht.ok.a1]
 have hsp:=qka (qnD hd ht.ok.a0 ht.ok.a1) ⟨ht.ok.m0,ht.ok.m1⟩ ⟨ht.ok.v0,ht.ok.v1⟩;refine qrs g1 (qmm hd _) ht.lo.1 (λc1=>?_) (λc1=>h2 ?_)
 .refine qrs g3 (qmm hd _) ht.lo.2 (λc2=>?_) (λc2=>h2 ?_)
  .intro a;obtain⟨g4,_⟩:=g2.hd
   have hc:qb8 t d=true:=by
    rw[hh,decide_eq_true_eq,hsp];rw[w1]at c1;rw[w2]at c2;exact⟨c1,c2⟩
   have:=Ev.rt (d:=d) (p+qb0 (loW t.mask)+qb0 (hiW t.mask)) a _ (by rw[Nat.add_assoc];exact g4) rfl;rw[h1 hc];exact this
  .rw[hh,decide_eq_false_iff_not,hsp];rw[w2]at c2;exact λq=>c2 q.2
 simp_all
def qp2(hd:DatOk d):∀{ts:List GTest} {a:Int} {p:Nat},(∀t ∈ ts,TstG t)->AtL R p (qcn ts a p)->EvA R d p (fnd (λt=>qb8 t d) a ts)
 | [],a,p,_,h=>λb=>by
  rw[qkT];exact Ev.rt p b _ h.hd.1 rfl
 | t::ts,a,p,ht,h=>by
  rw[qdH];have h1:=ht t (by simp_all);unfold qcn at h;obtain⟨g1,g2⟩:=h.app;rw[qfA]at g2;refine qAK h1 hd g1 (by simp_all) λhc=>?_
  by_cases hm:t.mask=0
  .exfalso
   have hv:t.val=0:=by
    have:=h1.sub;rw[hm]at this;obtain⟨a,e⟩:=Int.eq_ofNat_of_zero_le h1.ok.v0;have:=qdx (a:=a) (b:=0) (by have:=h1.ok.v1;omega) (by decide)
    rw[<- e]at this;simp at this;omega
   have hx:=qnD hd h1.ok.a0 h1.ok.a1;obtain⟨a,e⟩:=Int.eq_ofNat_of_zero_le hx.1;have:=qdx (a:=a) (b:=0) (by omega) (by decide);rw[<- e]at this;unfold qb8 at hc
   simp_all[TstOk.a0,TstG.ok,TstOk.a1]
  .rw[if_neg hm]at g2;rw[if_neg (by grind)];exact qp2 hd (by simp_all) g2
theorem qpf{k m v:Int}{n:Nat}(hk:k % 4=0/\0<=k/\k<64)(h1:p+qb0 m<n)(h2:p+qb0 m<=F)(h3:F<n):qcs (qdJ k m v p F) p n:=by
 unfold qdJ qb0 at *;split
 .exact .nil
 .rename_i m0;rw[if_neg m0]at h1 h2;split
  .rename_i m1;rw[if_pos m1]at h1 h2;refine .cons (.inl (by simp_all)) (.cons (.inr (.inr (.inr ⟨.inl rfl,?_,?_,?_,?_⟩))) .nil)<;>simp only<;>omega
  .rename_i m1;rw[if_neg m1]at h1 h2;refine .cons (.inl (by simp_all)) (.cons (.inr (by simp_all)) (.cons (.inr (.inr (.inr ⟨.inl rfl,?_,?_,?_,?_⟩))) .nil))<;>simp only<;>omega
def qxA{t:GTest}{n:Nat}(ht:TstOk t)(h:p+qbV t<n):qcs (qif t p) p n:=by
 have h0:=ht.a0;have h6:=ht.a1;unfold qif;have e:qbV t=qb0 (loW t.mask)+qb0 (hiW t.mask)+1:=rfl;refine .app (.app (qpf (by omega) (by omega) (by omega) h) ?_) ?_
 .rw[qb7];grind[qpf]
 .exact .cons (.inr (by simp_all)) .nil
def qnr:∀{ts:List GTest} {a:Int} {p n:Nat},(∀t ∈ ts,TstOk t)->p+qc3 ts<n->qcs (qcn ts a p) p n
 | [],_,_,_,_,_=>.cons (.inr (by simp_all)) .nil
 | t::ts,a,p,n,ht,h=>by
  unfold qc3 at h;unfold qcn;refine .app (qxA (by simp_all) (by omega)) ?_;rw[qfA]
  by_cases hm:t.mask=0
  .rw[if_pos hm];exact .nil
  .rw[if_neg hm]at h ⊢;exact qnr (by simp_all) (by omega)
theorem qni:∀{rs:List GRule} {p n:Nat},(∀r ∈ rs,∀t ∈ r.tests,TstOk t)->p+zw rs<n->qcs (xa rs p) p n
 | [],_,_,_,_=>.nil
 | r::rs,p,n,ht,h=>by
  have e:zw (r::rs)=qoi r+zw rs:=by simp[zw]
  unfold xa;refine .app (qnr (by simp_all) (by have:qc3 r.tests=qoi r:=rfl;omega)) ?_;rw[qmb];exact qni (by grind) (by omega)
end
structure FilG (x:GFil):Prop where
 a0:0<=x.arch
 a6:x.arch<6
 n:x.rules.length<=400
 t32:∀r ∈ x.rules,r.tests.length<=32
 ts:∀r ∈ x.rules,∀t ∈ r.tests,TstG t
 nr:∀r ∈ x.rules,0<=r.nr/\r.nr<4294967296
 up:∃o,o=(none:Option GRule)/\upR o x.rules=true
def qt2{t:GTest}(h:qb3 t=true)(hm:0<=t.mask/\t.mask<18446744073709551616)(hv:0<=t.val/\t.val<18446744073709551616):TstG t:=by
 have ha:=qnq h;simp only[qb3,zzB,decide_eq_true_eq]at h;exact⟨⟨ha.1,ha.2,hm.1,hm.2,hv.1,hv.2⟩,qyO hv h.1.2⟩
def FilG.of{x:GFil}(hK:jq x=true)(hx:FilR x):FilG x:=by
 simp only[jq,zzB,decide_eq_true_eq]at hK;obtain⟨⟨⟨⟨k1,k2⟩,k3⟩,k4⟩,k5⟩:=hK;have hr:=qjN k5;refine⟨k1,k2,k3,λr h=>?_,λr h t ht=>?_,hx.nr,none,rfl,k5⟩
 .have:=hr r h;simp only[qb2,zzB,decide_eq_true_eq]at this;omega
 .have:=hr r h;simp only[qb2,zzB,List.all_eq_true]at this;have q:=hx.ts r h t ht
  simp_all[qt2]
def qnu:∀{rs:List GRule} {o:Option GRule} {k:Nat} {a:Int},upR o rs=true->(∀r ∈ rs,0<=r.nr/\r.nr<4294967296)->(match o with|none=>a=0|some b=>a=b.nr+1)->Ups (rs.mapIdx λi r=>(r.nr,i+k)) a
 | [],_,_,_,_,_,_=>by simp[Ups]
 | r::rs,o,k,a,h,hn,ha=>by
  simp only[upR,zzB]at h;obtain⟨⟨_,h1⟩,h2⟩:=h;rw[List.mapIdx_cons];have hr:=hn r (by simp_all);refine⟨?_,hr.2,?_⟩
  .grind
  .have:=qnu (o:=some r) (k:=k+1) (a:=r.nr+1) h2 (by simp_all) rfl
   grind
def FilG.ups{x:GFil}(h:FilG x):Ups (qO x.rules) 0:=by
 obtain⟨o,rfl,hu⟩:=h.up;exact qnu hu h.nr rfl
def qnt:∀{l:List (Int×Nat)} {a:Int},Ups l a->qxk l
 | [],_,_,i,x,y,h,_=>by grind
 | [x],_,_,i,y,z,h1,h2=>by grind
 | x::y::l,a,⟨h1,h2,h3⟩,i,u,v,hu,hv=>by
  cases i with
  | zero=>simp at hu hv;subst hu hv;have:=h3.1;omega
  | succ i=>exact qnt h3 i u v (by simp_all) (by simp_all)
section
variable {x:GFil}
def FilG.spans(h:FilG x):xk (zW (pcs 0 (qO x.rules) 0)) 0 4294967296/\(∀(i:Nat) r,x.rules[i]?=some r->Cov (zW (pcs 0 (qO x.rules) 0)) r.nr (i+1))/\(∀n:Int,0<=n->n<4294967296->(∀r ∈ x.rules,r.nr≠n)->Cov (zW (pcs 0 (qO x.rules) 0)) n 0) /\
  (∀s ∈ zW (pcs 0 (qO x.rules) 0),s.way<x.rules.length+1)/\(zW (pcs 0 (qO x.rules) 0)).length<=2*x.rules.length+1:=by
 obtain⟨c1,c2,c3⟩:=qnb (o:=0) h.ups (by omega) (by omega);obtain⟨f1,f2⟩:=qll (l:=[]) (a:=0) rfl c1
 have hw:∀y ∈ qO x.rules,y.2<x.rules.length+1:=λy hy=>by
  grind[List.getElem?_of_mem,qdq]
 obtain⟨g1,g2⟩:=qmT (m:=x.rules.length+1) (k:=pcs 0 (qO x.rules) 0) (l:=[]) (by simp_all) (qpJ (by omega) hw);have hl:=qrP (o:=0) (l:=qO x.rules) (a:=0);refine⟨f1,λi r hr=>?_,λn h0 h1 hn=>?_,g1,?_⟩
 .have hm:(r.nr,i+1) ∈ qO x.rules:=zzM (i:=i) (by rw[qdq,hr];rfl);exact f2 _ _ (.inr (c2 _ hm))
 .refine f2 _ _ (.inr (c3 n h0 h1 λy hy=>?_))
  grind[List.getElem?_of_mem,qdq]
 .rw[qck]at hl;simp only[List.length_nil]at g2;show(List.foldl jF [] (pcs 0 (qO x.rules) 0)).length<=_;omega
def FilG.pos(h:FilG x):0<(zW (pcs 0 (qO x.rules) 0)).length:=by
 obtain⟨c,_⟩:=h.spans;rcases Nat.eq_zero_or_pos (zW (pcs 0 (qO x.rules) 0)).length with h0|h0
 .rw[List.eq_nil_of_length_eq_zero h0]at c;simp[xk]at c
 omega
def FilG.tlen(h:FilG x):(qQ x).length+1=2*(zW (pcs 0 (qO x.rules) 0)).length:=qdt _ _ 0 (zzL _) h.pos
def qmF(n:Nat):∀(l:List Sp) (a:Nat),l.length<=n->0<l.length->xm (zO l a)+1=l.length:=by
 induction n with
 | zero=>omega
 | succ n ih =>
  intro l a h1 h2;rw[zO]
  by_cases hk:l.length / 2=0
  .rw[dif_pos hk];simp[xm];omega
  .rw[dif_neg hk];have e1:=ih (l.take (l.length / 2)) (a+1) (by simp;omega) (by simp;omega);have e2:=ih (l.drop (l.length / 2)) (a+1+(zO (l.take (l.length / 2)) (a+1)).length) (by simp;omega) (by simp;omega);simp only[xm,List.countP_cons,List.countP_append]at e1 e2 ⊢
   grind
def FilG.dfl(h:FilG x):jP x<=4+max 1 (2*x.rules.length)/\(qQ x).length<=4*x.rules.length+1:=by
 have ha:=qmF _ (zW (pcs 0 (qO x.rules) 0)) 0 (zzL _) h.pos;have ht:=h.tlen;have hl:=h.spans.2.2.2.2;have ho:=qrN (a:=x.arch);have e:xm (qQ x)+1=(zW (pcs 0 (qO x.rules) 0)).length:=ha
 have hj:jaN (qQ x)+xm (qQ x)<=max 1 (2*x.rules.length):=by
  have hj1:jaN (qQ x)<=1:=by cases qQ x with
   | nil=>simp[jaN]
   | cons n T=>simp only[jaN];split<;>omega
  have hj2:2<=(zW (pcs 0 (qO x.rules) 0)).length->jaN (qQ x)=0:=λh2=>by
   unfold qQ;rw[zO,dif_neg (by omega)];rfl
  omega
 unfold jP;omega
def FilG.tne(h:FilG x):qQ x≠[]:=λe=>by have:=h.tlen;rw[e]at this;grind
def FilG.nodes(h:FilG x):∀nd ∈ qQ x,NdOk (x.rules.length+1) (qQ x).length nd:=λnd hnd=>by
 obtain⟨q1,q2,q3,q4⟩:=qAQ _ _ 0 (zzL _) h.pos h.spans.2.2.2.1 nd hnd;rw[Nat.zero_add]at q3 q4;exact⟨q1,q3,q4⟩
end
section
variable {x:GFil}
def qmi{j:Nat}:jP x<=jg x j/\jg x j<=x8 x:=by
 unfold jg x8;have:=qkw (rs:=x.rules) (i:=j-1);split<;>omega
def qEc{a:Int}{F n:Nat}(h1:4<n)(h2:4<=F)(h3:F<n):qcs (qbe a 0 F) 0 n:=by
 unfold qbe;refine .app (.cons (.inl (by simp_all)) (.cons (.inr (.inr (.inr ⟨.inl rfl,?_,?_,?_,?_⟩))) (.cons (.inl (by simp_all)) .nil))) ?_
 .simp_all
 .grind
 .grind
 .omega
 .show qcs _ (0+3) n;split
  .refine .cons (.inr (.inr (.inr ⟨.inr (.inr (.inr rfl)),?_,?_,?_,?_⟩))) .nil<;>simp only<;>omega
  .split
   .refine .cons (.inr (.inr (.inr ⟨.inr (.inr (.inr rfl)),?_,?_,?_,?_⟩))) .nil<;>simp only<;>omega
   .exact .nil
def quC{FW:Nat->Nat}{T:List Nd}{b n:Nat}(hF:∀j,b+xm T<=FW j/\FW j<n)(hfw:∀(i:Nat) nd,T[i]?=some nd->nd.leaf=false->i<nd.less/\i<nd.more/\nd.less<T.length/\nd.more<T.length)(hbn:b+xm T<n) :
  ∀(u:List Nd) (k:Nat),T.drop k=u->qcs (u.flatMap (qjZ FW T b)) (b+xm (T.take k)) n
 | [],_,_=>.nil
 | nd::u,k,h=>by
  have hk:T[k]?=some nd:=by rw[<- List.head?_drop,h];rfl
  have hu:T.drop (k+1)=u:=by rw[<- List.tail_drop,h];rfl
  have ih:=quC hF hfw hbn u (k+1) hu;rw[qld hk]at ih;rw[List.flatMap_cons];cases hl:nd.leaf with
  | true =>
   have e:qjZ FW T b nd=[]:=by simp[qjZ,hl]
   rw[hl]at ih;rw[e];simp_all
  | false =>
   have e:qjZ FW T b nd=[⟨53,nd.at',plc FW T b nd.more,plc FW T b nd.less⟩]:=by simp[qjZ,hl]
   rw[hl]at ih;simp only[Bool.false_eq_true,if_false]at ih ⊢;rw[e,List.singleton_append]
   have key:∀j,k<j->j<T.length->b+xm (T.take k)<plc FW T b j/\plc FW T b j<n:=λj h1 h2=>by
    have h3:xm (T.take (k+1))<=xm (T.take j):=qlc h1
    have h4:xm (T.take j)<=xm T:=by
     have:=qlc (T:=T) (i:=j) (j:=T.length) (by omega);rwa [List.take_length]at this
    rw[qld hk,hl]at h3;simp only[Bool.false_eq_true,if_false]at h3;unfold plc;rw[zzE h2]
    grind
   obtain⟨f1,f2,f3,f4⟩:=hfw k nd hk hl;obtain⟨m1,m2⟩:=key nd.more f2 f4;obtain⟨l1,l2⟩:=key nd.less f1 f3;exact .cons (.inr (.inr (.inr ⟨.inr (.inr (.inl rfl)),m1,m2,l1,l2⟩))) (by rw[Nat.add_assoc];exact ih)
def FilG.fwd(h:FilG x):∀(i:Nat) nd,(qQ x)[i]?=some nd->nd.leaf=false->i<nd.less/\i<nd.more/\nd.less<(qQ x).length/\nd.more<(qQ x).length:=λi nd hi hl=>by
 obtain⟨q1,q2⟩:=qxF _ _ 0 (zzL _) h.pos i nd hi hl;have:=h.nodes nd (by grind);exact⟨by omega,by omega,this.less,this.more⟩
def qve(h:FilG x):qcs (zn x) 0 (x8 x+1):=by
 have hd:jP x=jL x.arch+(jaN (qQ x)+xm (qQ x)):=rfl;have hN:x8 x=jP x+1+zw x.rules:=rfl;have ho:3<=jL x.arch/\jL x.arch<=4:=by unfold jL;grind
 have hpos:0<jaN (qQ x)+xm (qQ x):=by
  have ha:=qmF _ (zW (pcs 0 (qO x.rules) 0)) 0 (zzL _) h.pos;have e:xm (qQ x)+1=(zW (pcs 0 (qO x.rules) 0)).length:=ha
  by_cases h2:2<=(zW (pcs 0 (qO x.rules) 0)).length
  .omega
  .have hj:jaN (qQ x)=1:=by unfold qQ;rw[zO,dif_pos (by have:=h.pos;omega)];rfl
   omega
 have ht:∀r ∈ x.rules,∀t ∈ r.tests,TstOk t:=by grind[TstG.ok,FilG.ts]
 unfold zn;refine .app (.app (.app (.app (qEc (by omega) (by omega) (by omega)) ?_) ?_) ?_) ?_
 .rw[qaB,Nat.zero_add];unfold xv;refine .app ?_ ?_
  .cases hT:qQ x with
   | nil=>exact .nil
   | cons nd T =>
    simp only[jaE];split
    .rename_i hl;rw[hT]at hd;simp only[jaN,if_pos hl]at hd;have:=(qmi (x:=x) (j:=nd.way)).1;have:=(qmi (x:=x) (j:=nd.way)).2;exact .cons (.inr (.inr (.inl ⟨rfl,rfl,rfl,by grind,by grind⟩))) .nil
    .exact .nil
  .rw[qnY];have:=quC (FW:=jg x) (T:=qQ x) (b:=jL x.arch+jaN (qQ x)) (n:=x8 x+1) (λj=>by have:=qmi (x:=x) (j:=j);omega) h.fwd (by omega) (qQ x) 0 rfl
   unfold brE;simpa[xm]using this
 .refine .cons (.inr (by simp_all)) .nil
 .have e:0+(qbe x.arch 0 (x8 x)++xv (jg x) (qQ x) (jL x.arch)++[(⟨6,x.dflt,0,0⟩:Sy)]).length=jP x+1:=by
   simp only[zzP,qaB,qat,List.length_singleton];unfold jP;omega
  rw[e]
  grind[qni]
 .refine .cons (.inr (by simp_all)) .nil
def FilG.rN(h:FilG x):zw x.rules<=x.rules.length*225:=qj5 h.t32
def qdE(h:FilG x):MayL (zn x):=by
 have hl:=qmP (x:=x);have hd:=h.dfl.1;have hr:=h.rN;have hn:=h.n;have hN:x8 x=jP x+1+zw x.rules:=rfl;refine⟨by omega,by omega,⟨⟨6,2147418112,0,0⟩,?_,rfl⟩,λj s hj=>?_⟩
 .rw[hl]
  have e:x8 x+1-1=(qbe x.arch 0 (x8 x)++xv (jg x) (qQ x) (jL x.arch)++[(⟨6,x.dflt,0,0⟩:Sy)]++xa x.rules (jP x+1)).length:=by
   simp only[zzP,qaB,qat,List.length_singleton,qbh];unfold x8 jP;omega
  rw[e];unfold zn;simp
 .have:=qve h j s hj;rw[hl,Nat.zero_add]at *;omega
end
def qrw(a:Int)(d:GData):Prop:=d.arch=qdj a/\(a=0->xS .u32 d.nr 1073741824=0)/\(a=2->xS .u32 d.nr 1073741824≠0)
def qwT{a:Int}(h0:0<=a)(h6:a<6)(d:GData):((ofM d.arch d.nr).2=false\/(ofM d.arch d.nr).1≠a)↔¬qrw a d:=by
 unfold qrw ofM;generalize d.arch=t;generalize xS .u32 d.nr 1073741824=z;have ha:a=0\/a=1\/a=2\/a=3\/a=4\/a=5:=by omega
 have e:∀c:Int,xq (λx:List UInt8×Int=>decide (x.2=t)) zH 0=c↔(if t=3221225534 then 0 else if t=1073741827 then 1 else if t=1073741864 then 3 else if t=3221225655 then 4 else if t=3221225715 then 5 else -1)=c:=by
  intro c
  have:xq (λx:List UInt8×Int=>decide (x.2=t)) zH 0=(if t=3221225534 then 0 else if t=1073741827 then 1 else if t=1073741864 then 3 else if t=3221225655 then 4 else if t=3221225715 then 5 else -1):=by
   simp only[zH,xq,decide_eq_true_eq]
   grind
  rw[this]
 have e0:=(e _).2 rfl;rw[e0];rcases ha with rfl|rfl|rfl|rfl|rfl|rfl
 all_goals
  simp only[qdj,zH]
  by_cases h1:t=3221225534
  .by_cases hz:z=0<;>simp[h1,hz]
  by_cases h2:t=1073741827
  .simp[h2]
  by_cases h3:t=1073741864
  .simp[h3]
  by_cases h4:t=3221225655
  .simp[h4]
  by_cases h5:t=3221225715
  .simp[h5]
  simp[h1,h2,h3,h4,h5]
section
variable {R:List Sy} {d:GData} {r:Int}
def qEb{a:Int}{N:Nat}(h0:0<=a)(h6:a<6)(hd:DatOk d)(h:AtL R 0 (qbe a 0 N))(h1:qrw a d->Ev R d (jL a) d.nr r)(h2:¬qrw a d->EvA R d N r):EvA R d 0 r:=by
 intro b;unfold qbe at h;obtain⟨g,h3⟩:=h.app;obtain⟨g1,g⟩:=g.hd;obtain⟨g2,g⟩:=g.hd;obtain⟨g3,_⟩:=g.hd;have w4:wdD d 4=d.arch:=rfl;have w0:wdD d 0=d.nr:=rfl;refine .ld 0 b r _ g1 rfl (.jc _ _ r _ g2 (.inl rfl) ?_);simp only[qbD,w4]
 by_cases ht:d.arch=qdj a
 .rw[if_pos (by grind)];refine .ld _ _ r _ g3 rfl ?_;simp only[w0];have h3:AtL R 3 _:=h3
  have hz:∀z:Int,(0<xS .u32 d.nr 1073741824)↔xS .u32 d.nr 1073741824≠0:=λ_=>by
   obtain⟨n,e⟩:=Int.eq_ofNat_of_zero_le hd.nr0;have hn:=hd.nr1;have:=qdw (a:=n) (b:=1073741824) (by omega) (by decide);rw[<- e]at this;rw[show((1073741824:Nat):Int)=1073741824 from rfl]at this
   rw[this];omega
  by_cases a0:a=0
  .rw[if_pos a0]at h3;have hoN:jL a=4:=by simp[jL,a0]
   rw[hoN]at h1;refine .jc _ _ r _ h3.hd.1 (.inr (.inr (.inr rfl))) ?_;simp only[qbD]
   by_cases hb:xS .u32 d.nr 1073741824=0
   .have e:¬(0:Int)<xS .u32 d.nr 1073741824:=by omega
    rw[if_neg (by grind)];exact h1 ⟨ht,λ_=>hb,λh=>by omega⟩
   .have e:=(hz 0).2 hb;rw[if_pos (by simp[e])];exact h2 (λq=>hb (q.2.1 a0)) _
  .rw[if_neg a0]at h3
   by_cases a2:a=2
   .rw[if_pos a2]at h3;have hoN:jL a=4:=by simp[jL,a2]
    rw[hoN]at h1;refine .jc _ _ r _ h3.hd.1 (.inr (.inr (.inr rfl))) ?_;simp only[qbD]
    by_cases hb:xS .u32 d.nr 1073741824=0
    .rw[if_neg (by grind)];exact h2 (λq=>q.2.2 a2 hb) _
    .have e:=(hz 0).2 hb;rw[if_pos (by simp[e])];exact h1 ⟨ht,λh=>absurd h a0,λ_=>hb⟩
   .have hoN:jL a=3:=by simp[jL,a0,a2]
    rw[hoN]at h1;exact h1 ⟨ht,λh=>absurd h a0,λh=>absurd h a2⟩
 .rw[if_neg (by grind)];exact h2 (λq=>ht q.1) _
def qnh:∀{rs:List GRule} {p:Nat} {i:Nat} {q:GRule},AtL R p (xa rs p)->rs[i]?=some q->AtL R (p+zw (rs.take i)) (qtT q (p+zw (rs.take i)))
 | [],_,_,_,_,h=>by grind
 | y::rs,p,i,q,h,hi=>by
  unfold xa at h;obtain⟨g1,g2⟩:=h.app;rw[qmb]at g2;cases i with
  | zero=>simp at hi;subst hi;simpa[zw]using g1
  | succ i =>
   have:=qnh g2 (by simpa using hi);simpa[zw,Nat.add_assoc]using this
def qlp{x:GFil}:qmx x d=if(ofM d.arch d.nr).2=false\/(ofM d.arch d.nr).1≠x.arch then 2147418112 else match x.rules.find? (λr=>decide (r.nr=d.nr))with|none=>x.dflt|some r=>fnd (λt=>qb8 t d) r.act r.tests:=by
 unfold qmx fnd;rfl
def qrh{x:GFil}(h:FilG x)(hd:DatOk d):EvA (zn x) d 0 (qmx x d):=by
 have hR:=AtL.self (R:=zn x);have hR0:AtL (zn x) 0 (zn x):=hR;unfold zn at hR;obtain⟨hR,hA5⟩:=hR.app;obtain⟨hR,hA4⟩:=hR.app;obtain⟨hR,hA3⟩:=hR.app;obtain⟨hA1,hA2⟩:=hR.app;rw[show(qbe x.arch 0 (x8 x)++xv (jg x) (qQ x) (jL x.arch)++[(⟨6,x.dflt,0,0⟩:Sy)]++xa x.rules (jP x+1)++[(⟨6,2147418112,0,0⟩:Sy)])=zn x from rfl]at hA1 hA2 hA3 hA4 hA5
 have e3:0+(qbe x.arch 0 (x8 x)++xv (jg x) (qQ x) (jL x.arch)).length=jP x:=by simp only[zzP,qaB,qat];unfold jP;omega
 have e4:0+(qbe x.arch 0 (x8 x)++xv (jg x) (qQ x) (jL x.arch)++[(⟨6,x.dflt,0,0⟩:Sy)]).length=jP x+1:=by grind
 have e5:0+(qbe x.arch 0 (x8 x)++xv (jg x) (qQ x) (jL x.arch)++[(⟨6,x.dflt,0,0⟩:Sy)]++xa x.rules (jP x+1)).length=x8 x:=by simp only[zzP,qaB,qat,List.length_singleton,qbh];unfold x8 jP;omega
 rw[qaB,Nat.zero_add]at hA2;rw[e3]at hA3;rw[e4]at hA4;rw[e5]at hA5;rw[qlp];refine qEb h.a0 h.a6 hd hA1 (λhown=>?_) (λhown=>?_)
 .rw[if_neg (λq=>(qwT h.a0 h.a6 d).1 q hown)]
  obtain⟨c1,c2,c3,_,_⟩:=h.spans
  -- the code of a way
  have way:∀w,Cov (zW (pcs 0 (qO x.rules) 0)) d.nr w->Ev (zn x) d (jg x w) d.nr (match x.rules.find? (λr=>decide (r.nr=d.nr))with|none=>x.dflt|some r=>fnd (λt=>qb8 t d) r.act r.tests)->Ev (zn x) d (jL x.arch) d.nr (match x.rules.find? (λr=>decide (r.nr=d.nr))with|none=>x.dflt|some r=>fnd (λt=>qb8 t d) r.act r.tests):=by
   intro w hw he;unfold xv at hA2;obtain⟨j1,j2⟩:=hA2.app
   have ht:=qAP (T:=qQ x) (FW:=jg x) (b:=jL x.arch+jaN (qQ x)) (n:=d.nr) (Q:=λi=>Ev (zn x) d i d.nr (match x.rules.find? (λr=>decide (r.nr=d.nr))with|none=>x.dflt|some r=>fnd (λt=>qb8 t d) r.act r.tests)) (λi nd hi hl hq=>by
    have hp:plc (jg x) (qQ x) (jL x.arch+jaN (qQ x)) i=jL x.arch+jaN (qQ x)+xm ((qQ x).take i):=by unfold plc;rw[hi];simp[hl]
    have hg:=j2 _ _ (qyy (FW:=jg x) (b:=jL x.arch+(jaE (jg x) (qQ x)).length) hi hl);rw[qnY]at hg;rw[hp];refine .jc _ _ _ _ hg (.inr (.inr (.inl rfl))) ?_;simp only[qbD]
    simp_all) _ (zW (pcs 0 (qO x.rules) 0)) 0 0 4294967296 (zzL _) h.pos c1 (λj nd hj=>by rw[Nat.zero_add];exact hj) w hw he
   cases hT:qQ x with
   | nil=>simp_all[FilG.tne]
   | cons nd T =>
    rw[hT]at ht j1;cases hl:nd.leaf with
    | true =>
     simp only[jaE,if_pos hl]at j1;refine .ja _ _ _ _ j1.hd.1 rfl ?_;simp only[plc,List.getElem?_cons_zero,if_pos hl]at ht;exact ht
    | false =>
     simp only[plc,List.getElem?_cons_zero,hl,Bool.false_eq_true,if_false,jaN,List.take_zero,xm,List.countP_nil,Nat.add_zero]at ht;exact ht
  cases hf:x.rules.find? (λr=>decide (r.nr=d.nr))with
  | none =>
   rw[hf]at way
   have hnone:∀q ∈ x.rules,q.nr≠d.nr:=λq hq he=>by
    have:=List.find?_eq_none.1 hf q hq;simp_all
   refine way 0 (by grind[DatOk.nr0,DatOk.nr1]) ?_;exact Ev.rt (jP x) d.nr _ hA3.hd.1 rfl
  | some q =>
   rw[hf]at way;have hqm:=List.mem_of_find?_eq_some hf;have hqn:q.nr=d.nr:=by have:=List.find?_some hf;simp_all
   obtain⟨i,hi⟩:=List.getElem?_of_mem hqm;have hc:=c2 i q hi;rw[hqn]at hc;refine way (i+1) hc ?_;have ha:=qnh hA4 hi;have hw:jg x (i+1)=jP x+1+zw (x.rules.take i):=by simp[jg]
   rw[hw];exact qp2 hd (h.ts q hqm) ha _
 .rw[if_pos ((qwT h.a0 h.a6 d).2 hown)];intro a;exact Ev.rt (x8 x) a _ hA5.hd.1 rfl
end
def qaf{c:Int}(h:qd7 c):qm c=4/\c≠5/\c≠6:=by
 rcases h with rfl|rfl|rfl|rfl<;>decide
def qfc:qm 32=1/\qm 84=3/\qm 6=5/\qm 5=4:=by decide
section
variable {l R:List Sy} {d:GData} {r:Int}
def qfq.ja{s:Sy}{j n:Nat}(h:qfq s j n)(h5:s.code=5):s.k=0/\s.el=0/\j<s.th/\s.th<n:=by
 rcases h with⟨q,_⟩|⟨q,_⟩|⟨_,q⟩|⟨q,_⟩
 all_goals simp_all[qaf]
def qfq.jc{s:Sy}{j n:Nat}(h:qfq s j n)(ha:qd7 s.code):j<s.th/\s.th<n/\j<s.el/\s.el<n:=by
 have h5:=qaf ha;unfold qd7 at ha;rcases h with⟨q,_⟩|⟨q,_⟩|⟨q,_⟩|⟨_,q⟩
 all_goals omega
def qfq.jmp{s:Sy}{j n:Nat}(h:qfq s j n)(hj:qbu s):s.code=5\/qd7 s.code:=by
 unfold qbu at hj;obtain⟨c1,c2,c3,c4⟩:=qfc;rcases h with⟨q,_⟩|⟨q,_⟩|⟨q,_⟩|⟨q,_⟩
 all_goals grind
def qfq.ask{s:Sy}{j n:Nat}(h:qfq s j n)(hj:qcO s):qd7 s.code:=(h.jmp hj.1).resolve_left hj.2
def MayL.in(h:MayL l):qmC l:=by
 intro x hx j hj;obtain⟨i,hi⟩:=List.getElem?_of_mem hx;have hm:=h.all i x hi;rcases hj with⟨q,rfl⟩|⟨q,rfl⟩
 .rcases hm.jmp q with q|q
  .exact (hm.ja q).2.2.2
  .exact (hm.jc q).2.1
 .exact (hm.jc (hm.ask q)).2.2.2
def MayL.on(h:MayL l):qAV l:=by
 intro j x hx h6 h4;have hj:=(zzS.1 hx).1
 grind[MayL.last]
def MayL.hin(h:MayL l):∀x ∈ l,∀j:Nat,(x.code=5\/qm x.code=4)/\j=x.th\/(qm x.code=4/\x.code≠5)/\j=x.el->j<l.length:=by
 intro x hx j hj;refine h.in x hx j ?_
 rcases hj with⟨q,e⟩|q
 .refine .inl ⟨?_,e⟩;rcases q with q|q
  .unfold qbu;rw[q];exact qfc.2.2.2
  .exact q
 .exact .inr q
def Ev.at6{p:Nat}{a:Int}{s:Sy}(h:Ev R d p a r)(hs:R[p]?=some s)(h6:s.code=6):r=s.k:=by
 cases h with
 | ld _ _ _ x hx hc=>rw[hs]at hx;simp_all
 | an _ _ _ x hx hc=>rw[hs]at hx;simp_all
 | rt _ _ x hx hc=>rw[hs]at hx;simp_all
 | ja _ _ _ x hx hc=>rw[hs]at hx;simp_all
 | jc _ _ _ x hx hc=>rw[hs]at hx;simp_all[qaf]
theorem Ev.at5{p:Nat}{a:Int}{s:Sy}(h:Ev R d p a r)(hs:R[p]?=some s)(h5:s.code=5):Ev R d s.th a r:=by
 cases h with
 | ld _ _ _ x hx hc=>rw[hs]at hx;simp_all
 | an _ _ _ x hx hc=>rw[hs]at hx;simp_all
 | rt _ _ x hx hc=>rw[hs]at hx;simp_all
 | ja _ _ _ x hx hc hn=>rw[hs]at hx;simp_all
 | jc _ _ _ x hx hc=>rw[hs]at hx;simp_all[qaf]
theorem jK{to:Nat->Nat}{s:Sy}(h:¬qbu s):qbd to s=s:=by
 unfold qbd;rw[if_neg h,if_neg (λq=>h q.1)]
def qjg{to:Nat->Nat}{s:Sy}(h:s.code=5):qbd to s=⟨s.code,s.k,to s.th,s.el⟩:=by
 have hj:qbu s:=by unfold qbu;rw[h];exact qfc.2.2.2
 unfold qbd;rw[if_pos hj,if_neg (λq=>q.2 h)]
def qjh{to:Nat->Nat}{s:Sy}(h:qd7 s.code):qbd to s=⟨s.code,s.k,to s.th,to s.el⟩:=by
 have hj:=qaf h;unfold qbd;rw[if_pos (show qbu s from hj.1),if_pos (show qcO s from⟨hj.1,hj.2.1⟩)]
theorem jk{s:Sy}(h:s.code=32\/s.code=84\/s.code=6):¬qbu s:=by
 unfold qbu;rcases h with h|h|h<;>rw[h]<;>decide
theorem qpE{to:Nat->Nat}{s:Sy}{j n:Nat}(h:qfq s j n)(ht:∀q,j<q->q<n->j<to q/\to q<n):qfq (qbd to s) j n:=by
 rcases h with q|q|⟨q,q1,q2,q3,q4⟩|⟨q,q1,q2,q3,q4⟩
 .rw[jK (jk (.inl q.1))];exact .inl q
 .rw[jK (jk (.inr q.1))];exact .inr (.inl q)
 .rw[qjg q];obtain⟨t1,t2⟩:=ht _ q3 q4;exact .inr (by simp_all)
 .rw[qjh q];obtain⟨t1,t2⟩:=ht _ q1 q2;obtain⟨t3,t4⟩:=ht _ q3 q4;exact .inr (by simp_all)
-- shared
theorem qEG(h:MayL l){j:Nat}(hj:j<l.length):j<=qdZ l j/\qdZ l j<l.length:=by
 unfold qdZ;rw[zzE hj];simp only;split
 .rename_i h6;obtain⟨i,y,q1,q2,q3,_⟩:=qjT (zzE hj) h6;rw[q1];exact⟨q2,(zzS.1 q3).1⟩
 omega
theorem qeB{j:Nat}:(qfz l)[j]?=(l[j]?).map (qbd (qdZ l)):=by unfold qfz;rw[List.getElem?_map]
theorem qk7:(qfz l).length=l.length:=by unfold qfz;rw[List.length_map]
def qjw(h:MayL l):MayL (qfz l):=by
 refine⟨by rw[qk7];exact h.pos,by rw[qk7];exact h.big,?_,λj s hj=>?_⟩
 all_goals grind[MayL.last,qk7,qeB,jK,jk,qpE,MayL.all,qEG]
theorem qsc(h:MayL l){j:Nat}{a:Int}(hj:j<l.length)(he:Ev (qfz l) d j a r):Ev (qfz l) d (qdZ l j) a r:=by
 unfold qdZ;rw[zzE hj];simp only;split
 .rename_i h6;obtain⟨i,y,q1,q2,q3,q4,q5⟩:=qjT (zzE hj) h6;rw[q1];have hg:(qfz l)[j]?=some l[j]:=by rw[qeB,zzE hj];simp[jK (jk (.inr (.inr h6)))]
  have hr:=he.at6 hg h6;rw[hr,<- q5];exact Ev.rt i a y (by rw[qeB,q3];simp[jK (jk (.inr (.inr q4)))]) q4
 omega
def qEF(h:MayL l):∀{p:Nat} {a:Int},Ev l d p a r->Ev (qfz l) d p a r:=by
 intro p a he
 induction he with
 | ld p a r s hs hc _ ih=>exact .ld p a r s (by rw[qeB,hs];simp_all[jK,jk]) hc ih
 | an p a r s hs hc _ ih=>exact .an p a r s (by rw[qeB,hs];simp_all[jK,jk]) hc ih
 | rt p a s hs hc=>exact .rt p a s (by rw[qeB,hs];simp_all[jK,jk]) hc
 | ja p a r s hs hc _ ih =>
  have hm:=(h.all p s hs).ja hc;exact .ja p a r ⟨s.code,s.k,qdZ l s.th,s.el⟩ (by rw[qeB,hs,<- qjg hc];rfl) hc (qsc h hm.2.2.2 ih)
 | jc p a r s hs hc _ ih =>
  have hm:=(h.all p s hs).jc hc;refine .jc p a r ⟨s.code,s.k,qdZ l s.th,qdZ l s.el⟩ (by rw[qeB,hs,<- qjh hc];rfl) hc ?_
  grind[qsc]
-- threaded
def qE0(h:MayL R){j:Nat}(hj:j<R.length):j<=jh R j/\jh R j<R.length:=by
 unfold jh;rw[zzE hj];simp only;split
 .rename_i h5;have:=(h.all j _ (by simp_all)).ja h5;omega
 omega
theorem qp3(h:MayL R){i:Nat}{x:Sy}(hx:R[i]?=some x):qfq (qbj R x) i R.length/\((x.code=6)->qbj R x=x):=by
 have hm:=qpE (h.all i x hx) (to:=jh R) λq q1 q2=>by have:=qE0 h q2;omega
 refine⟨?_,λh6=>?_⟩
 .unfold qbj;split
  .rename_i q;have ha:=hm.ask q.1;have:=hm.jc ha;exact .inr (by simp_all)
  omega
 .have e:=jK (to:=jh R) (jk (s:=x) (.inr (.inr h6)));unfold qbj;rw[e,if_neg (λq=>jk (.inr (.inr h6)) q.1.1)]
theorem qxD(h:MayL R){i:Nat}{x:Sy}(hx:R[i]?=some x):MayL (R.set i (qbj R x)):=by
 have hi:=(zzS.1 hx).1;refine⟨by rw[List.length_set];exact h.pos,by rw[List.length_set];exact h.big,?_,λj s hj=>?_⟩
 .obtain⟨s,hs,h6⟩:=h.last;refine⟨s,?_,h6⟩;rw[List.length_set,List.getElem?_set]
  by_cases e:i=R.length-1
  .rw[<- e,hx]at hs;cases hs;rw[if_pos e,if_pos (by omega),(qp3 h hx).2 h6]
  .rw[if_neg e];exact hs
 grind[qp3,MayL.all]
theorem qAL(h:MayL R){i:Nat}{x:Sy}(hx:R[i]?=some x):∀{p:Nat} {a:Int},Ev R d p a r->Ev (R.set i (qbj R x)) d p a r:=by
 have hi:=(zzS.1 hx).1;have g:∀{p:Nat} {s:Sy},R[p]?=some s->p≠i->(R.set i (qbj R x))[p]?=some s:=λhs hp=>by rw[List.getElem?_set,if_neg (Ne.symm hp)];exact hs
 have gi:(R.set i (qbj R x))[i]?=some (qbj R x):=by rw[List.getElem?_set,if_pos rfl,if_pos hi]
 have hop:∀{t:Nat} {a:Int},i<t->t<R.length->Ev (R.set i (qbj R x)) d t a r->Ev (R.set i (qbj R x)) d (jh R t) a r:=λ{t a} h1 h2 he=>by
  unfold jh;rw[zzE h2]
  grind[Ev.at5]
 have gn:¬qbu x->(R.set i (qbj R x))[i]?=some x:=λq=>by
  rw[gi];unfold qbj;rw[jK q,if_neg (λz=>q z.1.1)]
 intro p a he
 induction he with
 | ld p a r s hs hc _ ih =>
  by_cases e:p=i
  .subst e;rw[hx]at hs;cases hs;exact .ld _ _ _ x (gn (jk (.inl hc))) hc (ih hop)
  .exact .ld _ _ _ s (g hs e) hc (ih hop)
 | an p a r s hs hc _ ih =>
  by_cases e:p=i
  .subst e;rw[hx]at hs;cases hs;exact .an _ _ _ x (gn (jk (.inr (.inl hc)))) hc (ih hop)
  .exact .an _ _ _ s (g hs e) hc (ih hop)
 | rt p a s hs hc =>
  by_cases e:p=i
  .subst e;rw[hx]at hs;cases hs;exact .rt _ _ x (gn (jk (.inr (.inr hc)))) hc
  .exact .rt _ _ s (g hs e) hc
 | ja p a r s hs hc _ ih =>
  by_cases e:p=i
  .subst e;rw[hx]at hs;cases hs;have hm:=(h.all _ _ hx).ja hc
   have e1:qbj R x=⟨x.code,x.k,jh R x.th,x.el⟩:=by
    unfold qbj;rw[qjg hc,if_neg (λz=>z.1.2 hc)]
   have gi2:=gi.trans (congrArg some e1);exact .ja _ _ _ _ gi2 hc (by simp_all)
  .exact .ja _ _ _ s (g hs e) hc (ih hop)
 | jc p a r s hs hc _ ih =>
  by_cases e:p=i
  .subst e;rw[hx]at hs;cases hs;have hm:=(h.all _ _ hx).jc hc;have ih:=ih hop
   have he:Ev (R.set p (qbj R x)) d (if qbD x.code a x.k=true then jh R x.th else jh R x.el) a r:=by
    grind
   have e0:=qjh (to:=jh R) hc
   by_cases eq:jh R x.th=jh R x.el
   .have e1:qbj R x=⟨5,0,jh R x.th,0⟩:=by
     unfold qbj;rw[e0];exact if_pos ⟨⟨(qaf hc).1,(qaf hc).2.1⟩,eq⟩
    rw[<- eq,ite_self]at he;exact .ja _ _ _ _ (gi.trans (congrArg some e1)) rfl he
   .have e1:qbj R x=⟨x.code,x.k,jh R x.th,jh R x.el⟩:=by
     unfold qbj;rw[e0];simp_all
    exact .jc _ _ _ _ (gi.trans (congrArg some e1)) hc he
  .exact .jc _ _ _ s (g hs e) hc (ih hop)
theorem qp4:∀{m j:Nat},j+m<l.length->(qfY l m)[j]?=l[j]?
 | 0,_,_=>rfl
 | m+1,j,h=>by
  unfold qfY;split
  .rw[List.getElem?_set,if_neg (by omega)];exact qp4 (by omega)
  grind
def qoo(h:MayL l):∀m,m<=l.length->MayL (qfY l m)/\∀{p:Nat} {a:Int},Ev l d p a r->Ev (qfY l m) d p a r
 | 0,_=>⟨h,λe=>e⟩
 | m+1,hm=>by
  obtain⟨h1,h2⟩:=qoo h m (by omega);have hx:l[l.length-(m+1)]?=some l[l.length-(m+1)]:=by simp_all
  unfold qfY;rw[hx]
  grind[qp4,qxD,qAL]
def qk9(h:MayL l):MayL (qon l):=(qoo (d:=⟨0,0,0,0,0,0,0,0,0⟩) (r:=0) h _ (zzL _)).1
def qEZ(h:MayL l){p:Nat}{a:Int}:Ev l d p a r->Ev (qon l) d p a r:=(qoo h _ (zzL _)).2
theorem qAM:(qon l).length=l.length:=qfB
end
def Suc(x:Sy)(j t:Nat):Prop:=(x.code≠6/\¬qbu x/\t=j+1)\/(qbu x/\t=x.th)\/(qcO x/\t=x.el)
def qJf{A:List Bool}{i j:Nat}(h:A[j]?=some true):(A.set i true)[j]?=some true:=by
 rw[List.getElem?_set]
 grind
def qEE{A:List Bool}{i:Nat}(h:i<A.length):(A.set i true)[i]?=some true:=by
 rw[List.getElem?_set,if_pos rfl,if_pos h]
def qxp{A:List Bool}{i j:Nat}(h:j≠i):(A.set i true)[j]?=A[j]?:=by
 rw[List.getElem?_set,if_neg (Ne.symm h)]
theorem qmD{A:List Bool}{j m:Nat}{x:Sy}(h:A[j]?=some true):(qe7 A m x)[j]?=some true:=by
 unfold qe7
 grind
def quh{A:List Bool}{j t:Nat}{x:Sy}(h:A[j]?=some true)(hs:Suc x j t)(ht:t<A.length):(qe7 A j x)[t]?=some true:=by
 have h6:x.code≠6:=by
  rcases hs with q|⟨q,_⟩|⟨q,_⟩
  .omega
  .grind[jk]
  .intro e;exact jk (.inr (.inr e)) q.1
 unfold qe7;rw[if_neg (by simp_all)];rcases hs with⟨_,q,rfl⟩|⟨q,rfl⟩|⟨q,rfl⟩
 .rw[if_pos (show qm x.code≠4 from q)];simp_all
 .rw[if_neg (λz:qm x.code≠4=>z q)]
  grind
 .rw[if_neg (λz:qm x.code≠4=>z q.1),if_pos q]
  simp_all
section
variable {l:List Sy} {d:GData} {r:Int}
def qst(h:MayL l){A:List Bool}{j m:Nat}{x:Sy}(hx:l[m]?=some x)(hj:j<=m):(qe7 A m x)[j]?=A[j]?:=by
 unfold qe7;split
 .rfl
 .split
  .grind
  .rename_i q;have hq:qbu x:=Decidable.not_not.1 q;have hm:=h.all m x hx
   have hth:m<x.th:=by
    rcases hm.jmp hq with z|z
    .exact (hm.ja z).2.2.1
    .exact (hm.jc z).1
   split
   .rename_i q2;have:=hm.jc (hm.ask q2);rw[qxp (by omega),qxp (by omega)]
   grind
def qqS(h:MayL l){j t:Nat}{x:Sy}(hx:l[j]?=some x)(hs:Suc x j t):j<t/\t<l.length:=by
 have hm:=h.all j x hx;rcases hs with⟨q1,q2,rfl⟩|⟨q,rfl⟩|⟨q,rfl⟩
 .exact⟨by omega,h.on j x hx q1 q2⟩
 .rcases hm.jmp q with z|z
  .exact (hm.ja z).2.2
  .exact⟨(hm.jc z).1,(hm.jc z).2.1⟩
 .exact (hm.jc (hm.ask q)).2.2
def qoz(h:MayL l):∀m,m<=l.length->∀(j t:Nat) x,j<m->l[j]?=some x->Suc x j t->(jY l m)[j]?=some true->(jY l m)[t]?=some true
 | 0,_,j,t,x,hj,_,_,_=>by omega
 | m+1,hm,j,t,x,hj,hx,hs,ha=>by
  have hy:l[m]?=some l[m]:=by simp_all
  unfold jY at ha ⊢;rw[hy]at ha ⊢;simp only at ha ⊢;rw[qst h hy (by omega)]at ha;rcases Nat.lt_or_ge j m with q|q
  .exact qmD (qoz h m (by omega) j t x q hx hs ha)
  .have e:j=m:=by omega
   subst e;rw[hy]at hx;cases hx;exact quh ha hs (by rw[qbv];exact(qqS h hy hs).2)
def qdv(h:MayL l){j t:Nat}{x:Sy}(hx:l[j]?=some x)(hs:Suc x j t)(ha:(zM l)[j]?=some true):(zM l)[t]?=some true :=
 qoz h _ (zzL _) j t x (by grind) hx hs ha
def qui(h:0<l.length):(zM l)[0]?=some true:=by
 have:∀m,(jY l m)[0]?=some true:=by
  intro m
  induction m with
  | zero=>exact qEE (by simp_all)
  | succ m ih =>
   unfold jY;grind[qmD]
 exact this _
def qu2{A:List Bool}{i j:Nat}(h:i<=j):xd A i<=xd A j:=by
 unfold xd;have e:A.take i=(A.take j).take i:=by rw[List.take_take,Nat.min_eq_left h]
 rw[e]
 grind[List.take_sublist]
def qln{A:List Bool}{i j:Nat}(ha:A[i]?=some true)(h:i<j):xd A i<xd A j:=by
 have h1:=qfd ha;have h2:=qu2 (A:=A) (i:=i+1) (j:=j) h;rw[if_pos rfl]at h1;omega
def qr7{α:Type}:∀{A:List Bool} {l:List α} {p:Nat} {x:α},A[p]?=some true->l[p]?=some x->(qcJ A l)[xd A p]?=some x
 | [],_,_,_,h,_=>by grind
 | _::_,[],_,_,_,h=>by grind
 | c::A,y::l,0,x,h1,h2=>by
  simp at h1 h2;subst h1 h2;simp[qcJ,xd]
 | c::A,y::l,p+1,x,h1,h2=>by
  have:=qr7 (A:=A) (l:=l) (p:=p) (x:=x) (by simp_all) (by simp_all);unfold xd at this ⊢;rw[List.take_succ_cons,List.countP_cons];cases c<;>simpa[qcJ]using this
def qk6{α:Type}:∀{A:List Bool} {l:List α} {q:Nat} {x:α},(qcJ A l)[q]?=some x->∃p,A[p]?=some true/\l[p]?=some x/\xd A p=q
 | [],_,_,_,h=>by simp[qcJ]at h
 | _::_,[],_,_,h=>by simp[qcJ]at h
 | c::A,y::l,q,x,h=>by
  cases c with
  | false =>
   obtain⟨p,h1,h2,h3⟩:=qk6 (A:=A) (l:=l) (q:=q) (x:=x) (by simpa[qcJ]using h);refine⟨p+1,by simpa using h1,by simpa using h2,?_⟩
   unfold xd at h3 ⊢;rw[List.take_succ_cons,List.countP_cons];simp_all
  | true =>
   cases q with
   | zero=>simp[qcJ]at h;subst h;exact⟨0,rfl,rfl,by simp[xd]⟩
   | succ q =>
    obtain⟨p,h1,h2,h3⟩:=qk6 (A:=A) (l:=l) (q:=q) (x:=x) (by simpa[qcJ]using h);refine⟨p+1,by simpa using h1,by simpa using h2,?_⟩
    unfold xd at h3 ⊢;rw[List.take_succ_cons,List.countP_cons];simp_all
def qr8{α:Type}:∀{A:List Bool} {l:List α},A.length=l.length->(qcJ A l).length=xd A A.length
 | [],[],_=>rfl
 | [],_::_,h=>by grind
 | _::_,[],h=>by grind
 | c::A,y::l,h=>by
  have:=qr8 (A:=A) (l:=l) (by simp_all);unfold xd at this ⊢;rw[List.length_cons,List.take_succ_cons,List.countP_cons];cases c<;>simp[qcJ,this]
def qkW:(qg7 l).length=xd (zM l) l.length:=by
 unfold qg7;have hA:(zM l).length=l.length:=qbv;rw[qr8 (by rw[List.length_map,hA]),hA]
theorem qwd:(qg7 l).length<=l.length:=by rw[qkW];exact qnP
def qjd{p:Nat}{x:Sy}(ha:(zM l)[p]?=some true)(hx:l[p]?=some x):(qg7 l)[xd (zM l) p]?=some (qbd (xd (zM l)) x) :=
 qr7 ha (by rw[List.getElem?_map,hx];rfl)
def qzy(h:MayL l):MayL (qg7 l):=by
 have hA:(zM l).length=l.length:=qbv;have h0:=qui h.pos;have hp:0<(qg7 l).length:=by rw[qkW];exact Nat.lt_of_le_of_lt (Nat.zero_le _) (qln h0 h.pos)
 have idx:∀{q:Nat} {s:Sy},(qg7 l)[q]?=some s->∃p x,(zM l)[p]?=some true/\l[p]?=some x/\xd (zM l) p=q/\s=qbd (xd (zM l)) x:=λ{q s} hq=>by
  obtain⟨p,h1,h2,h3⟩:=qk6 hq;rw[List.getElem?_map]at h2
  grind
 refine⟨hp,Nat.le_trans qwd h.big,?_,λj s hj=>?_⟩
 .obtain⟨p,x,q1,q2,q3,q4⟩:=idx (zzE (i:=(qg7 l).length-1) (by omega));refine⟨_,zzE (by omega),?_⟩;rw[q4];show x.code=6;apply Decidable.byContradiction;intro h6
  have hs:∃t,Suc x p t:=by
   by_cases hj:qbu x
   .exact⟨_,.inr (.inl ⟨hj,rfl⟩)⟩
   .exact⟨_,.inl ⟨h6,hj,rfl⟩⟩
  obtain⟨t,ht⟩:=hs;have t1:=qqS h q2 ht;have t2:=qdv h q2 ht q1;have t3:=qln q1 t1.1;have t4:=qln t2 t1.2;rw[<- qkW]at t4;omega
 .obtain⟨p,x,q1,q2,q3,rfl⟩:=idx hj;have hm:=h.all p x q2
  have go:∀t,Suc x p t->j<xd (zM l) t/\xd (zM l) t<(qg7 l).length:=λt ht=>by
   have t1:=qqS h q2 ht;have t2:=qdv h q2 ht q1;rw[qkW,<- q3];exact⟨qln q1 t1.1,qln t2 t1.2⟩
  rcases hm with q|q|⟨q,z1,z2,z3,z4⟩|⟨q,z1,z2,z3,z4⟩
  .rw[jK (jk (.inl q.1))];exact .inl q
  .rw[jK (jk (.inr q.1))];exact .inr (.inl q)
  .have hjm:qbu x:=by unfold qbu;rw[q];exact qfc.2.2.2
   rw[qjg q];obtain⟨t1,t2⟩:=go x.th (.inr (by simp_all));exact .inr (by simp_all)
  .have ha:=qaf q;rw[qjh q];obtain⟨t1,t2⟩:=go x.th (.inr (.inl ⟨ha.1,rfl⟩));obtain⟨t3,t4⟩:=go x.el (.inr (.inr ⟨⟨ha.1,ha.2.1⟩,rfl⟩));exact .inr (by simp_all)
def qDh(h:MayL l):∀{p:Nat} {a:Int},Ev l d p a r->(zM l)[p]?=some true->Ev (qg7 l) d (xd (zM l) p) a r:=by
 intro p a he
 induction he with
 | ld p a r s hs hc _ ih =>
  intro ha;have hn:=qdv h hs (t:=p+1) (.inl ⟨by omega,jk (.inl hc),rfl⟩) ha
  have e:=qfd ha;rw[if_pos rfl]at e;have ih:=ih hn;rw[e]at ih;have hg:=qjd ha hs;rw[jK (jk (.inl hc))]at hg;exact .ld _ _ _ s hg hc ih
 | an p a r s hs hc _ ih =>
  intro ha;have hn:=qdv h hs (t:=p+1) (.inl ⟨by omega,jk (.inr (.inl hc)),rfl⟩) ha
  have e:=qfd ha;rw[if_pos rfl]at e;have ih:=ih hn;rw[e]at ih;have hg:=qjd ha hs;rw[jK (jk (.inr (.inl hc)))]at hg;exact .an _ _ _ s hg hc ih
 | rt p a s hs hc =>
  intro ha;have hg:=qjd ha hs;rw[jK (jk (.inr (.inr hc)))]at hg;exact .rt _ _ s hg hc
 | ja p a r s hs hc _ ih =>
  intro ha;have hjm:qbu s:=by unfold qbu;rw[hc];exact qfc.2.2.2
  have hg:=qjd ha hs;rw[qjg hc]at hg;exact .ja _ _ _ _ hg hc (ih (qdv h hs (.inr (by simp_all)) ha))
 | jc p a r s hs hc _ ih =>
  intro ha;have hk:=qaf hc;have h1:=qdv h hs (t:=s.th) (.inr (.inl ⟨hk.1,rfl⟩)) ha;have h2:=qdv h hs (t:=s.el) (.inr (.inr ⟨⟨hk.1,hk.2.1⟩,rfl⟩)) ha;have hg:=qjd ha hs;rw[qjh hc]at hg;refine .jc _ _ _ _ hg hc ?_
  grind
theorem qhy(h:MayL l):MayL (qbQ l):=qzy (qk9 (qjw h))
theorem qrM:(qbQ l).length<=l.length:=by
 unfold qbQ;grind[qwd,qAM,qk7]
theorem qwR(h:MayL l){a:Int}(he:Ev l d 0 a r):Ev (qbQ l) d 0 a r:=by
 have h1:=qEZ (qjw h) (qEF h he);have h2:=qDh (qk9 (qjw h)) h1 (qui (qk9 (qjw h)).pos);unfold qbQ;simpa[xd]using h2
end
def Go1(p:List Ins)(d:GData)(at':Nat)(a r:Int):Prop:=∀(n:Nat) (m:Mac) (bh:Int) (L:List Nat),m.a=a->m.over=false->p.length<at'+n->(qkE p d n m at' bh L).1=r/\(qkE p d n m at' bh L).2.2.2=0
section
variable {p:List Ins} {d:GData} {q:Nat} {a r k:Int}
def qoG{i:Ins}(h:p[q]?=some i):q<p.length:=by grind
def qkU{i:Ins}(h:p[q]?=some i){m:Mac}{n:Nat}{bh:Int}{L:List Nat}(he:(doR m i d).2.2=0)(ho:(doR m i d).1.over=false) :
  qkE p d (n+1) m q bh L=qkE p d n (doR m i d).1 (q+1+(doR m i d).2.1.toNat) (if qm i.code=4 then 42 else 46) (L++[q]):=by
 rw[qhD,h];simp_all
def qGX(h:p[q]?=some ⟨32,0,0,k⟩)(hk:k % 4=0/\0<=k/\k<64)(hn:Go1 p d (q+1) (wdD d k) r):Go1 p d q a r:=by
 intro n m bh L ha ho hl;have hq:=qoG h;obtain⟨n,rfl⟩:∃n',n=n'+1:=⟨n-1,by omega⟩
 have e:doR m ⟨32,0,0,k⟩ d=({ m with a:=wdD d k },0,0):=by
  have e1:zY 32=true:=by decide
  have e2:qm 32=1:=by decide
  simp only[doR,e1,e2,qet,qg4];simp[hk.1,show¬64<=k from by omega,wdD]
 rw[qkU h (by rw[e]) (by rw[e];exact ho),e];exact hn n _ _ _ rfl ho (by omega)
def qGW(h:p[q]?=some ⟨84,0,0,k⟩)(hn:Go1 p d (q+1) (xS .u32 a k) r):Go1 p d q a r:=by
 intro n m bh L ha ho hl;have hq:=qoG h;obtain⟨n,rfl⟩:∃n',n=n'+1:=⟨n-1,by omega⟩
 have e:doR m ⟨84,0,0,k⟩ d=({ m with a:=xS .u32 a k },0,0):=by
  have e1:zY 84=true:=by decide
  have e2:qm 84=3:=by decide
  have e3:qaH 84=false:=by decide
  simp only[doR,e1,e2,nuM,qV,qdf,e3];simp[opM,ha]
 rw[qkU h (by rw[e]) (by rw[e];exact ho),e];exact hn n _ _ _ rfl ho (by omega)
def qGY(h:p[q]?=some ⟨6,0,0,k⟩):Go1 p d q a k:=by
 intro n m bh L ha ho hl;have hq:=qoG h;obtain⟨n,rfl⟩:∃n',n=n'+1:=⟨n-1,by omega⟩
 have e:doR m ⟨6,0,0,k⟩ d=({ m with over:=true,told:=k },0,0):=by
  have e1:zY 6=true:=by decide
  have e2:qm 6=5:=by decide
  simp only[doR,e1,e2,qsf];simp
 rw[qhD,h];simp[e]
def qvF(h:p[q]?=some ⟨5,0,0,k⟩)(hn:Go1 p d (q+1+k.toNat) a r):Go1 p d q a r:=by
 intro n m bh L ha ho hl;have hq:=qoG h;obtain⟨n,rfl⟩:∃n',n=n'+1:=⟨n-1,by omega⟩
 have e:doR m ⟨5,0,0,k⟩ d=(m,k,0):=by
  have e1:zY 5=true:=by decide
  have e2:qm 5=4:=by decide
  simp only[doR,e1,e2,qid];simp
 rw[qkU h (by rw[e]) (by rw[e];exact ho),e];exact hn n _ _ _ ha ho (by omega)
def qBf{c jt jf:Int}(hc:qd7 c)(h:p[q]?=some ⟨c,jt,jf,k⟩)(hn:Go1 p d (q+1+(if qbD c a k=true then jt else jf).toNat) a r):Go1 p d q a r:=by
 intro n m bh L ha ho hl;have hq:=qoG h;obtain⟨n,rfl⟩:∃n',n=n'+1:=⟨n-1,by omega⟩
 have e:doR m ⟨c,jt,jf,k⟩ d=(m,if qbD c a k=true then jt else jf,0):=by
  have e1:zY c=true:=by rcases hc with rfl|rfl|rfl|rfl<;>decide
  have e2:=(qaf hc).1;have e3:qaH c=false:=by rcases hc with rfl|rfl|rfl|rfl<;>decide
  have e4:=(qaf hc).2.1;simp only[doR,e1,e2,qid,e4,qV,qdf,e3,ha];simp
 rw[qkU h (by rw[e]) (by rw[e];exact ho),e];exact hn n _ _ _ ha ho (by omega)
end
section
variable {l:List Sy} {d:GData} {r:Int}
def bl(l:List Sy)(m:Nat):Nat:=(zz l m).1.length
def qje{m:Nat}{x:Sy}(h:l[l.length-(m+1)]?=some x):zz l (m+1)=((zz l m).1++(jV (bl l m) (zz l m).2 x).reverse,(zz l m).2.set (l.length-(m+1)) (bl l (m+1))):=by
 have e:zz l (m+1)=((zz l m).1++(jV (zz l m).1.length (zz l m).2 x).reverse,(zz l m).2.set (l.length-(m+1)) ((zz l m).1++(jV (zz l m).1.length (zz l m).2 x).reverse).length):=by
  conv=>lhs;unfold zz
  rw[h]
 have e2:bl l (m+1)=((zz l m).1++(jV (zz l m).1.length (zz l m).2 x).reverse).length:=by unfold bl;rw[e]
 rw[e2];exact e
def quz{m m':Nat}(h:m<=m'):∃R,(zz l m').1=(zz l m).1++R:=by
 induction m' with
 | zero=>rw[Nat.le_zero.1 h];simp_all
 | succ m' ih =>
  rcases Nat.lt_or_ge m' m with q|q
  .rw[show m=m'+1 by omega];simp_all
  .obtain⟨R,hR⟩:=ih q;cases hx:l[l.length-(m'+1)]? with
   | none =>
    refine⟨R,?_⟩
    conv=>lhs;unfold zz
    rw[hx];exact hR
   | some x=>rw[qje hx];simp_all
def qiM{m m':Nat}(h:m<=m'):bl l m<=bl l m':=by
 obtain⟨R,hR⟩:=quz (l:=l) h;unfold bl;rw[hR,zzP];omega
def qGt{m:Nat}(hm:m<=l.length){j:Nat}(h1:l.length-m<=j)(h2:j<l.length):(zz l m).2.getD j 0=bl l (l.length-j):=by
 induction m with
 | zero=>omega
 | succ m ih =>
  have hx:l[l.length-(m+1)]?=some l[l.length-(m+1)]:=by simp_all
  rw[qje hx,List.getD_eq_getElem?_getD,List.getElem?_set]
  grind[qhv]
def plL(l:List Sy)(j:Nat):Nat:=bl l l.length-bl l (l.length-j)
def cdL(l:List Sy)(j:Nat)(x:Sy):List Ins:=jV (bl l (l.length-(j+1))) (zz l (l.length-(j+1))).2 x
def qlN:(xO l).length=bl l l.length:=by unfold xO bl;rw[List.length_reverse]
def qhu{j:Nat}{x:Sy}(hx:l[j]?=some x):bl l (l.length-j)=bl l (l.length-(j+1))+(cdL l j x).length/\∃A B,xO l=A++cdL l j x++B/\A.length=plL l j/\B.length=bl l (l.length-(j+1)):=by
 have hj:=(zzS.1 hx).1;have hx2:l[l.length-(l.length-(j+1)+1)]?=some x:=by rw[show l.length-(l.length-(j+1)+1)=j by omega];exact hx
 have h:=qje hx2;have hm:l.length-(j+1)+1=l.length-j:=by omega
 rw[hm]at h;have h1:(zz l (l.length-j)).1=(zz l (l.length-(j+1))).1++(cdL l j x).reverse:=by rw[h];rfl
 obtain⟨R,hR⟩:=quz (l:=l) (m:=l.length-j) (m':=l.length) (by omega);have hb:bl l (l.length-j)=bl l (l.length-(j+1))+(cdL l j x).length:=by unfold bl;rw[h1,zzP,List.length_reverse]
 refine⟨hb,R.reverse,(zz l (l.length-(j+1))).1.reverse,?_,?_,?_⟩
 .unfold xO;rw[hR,h1];simp
 .unfold plL bl;rw[hR,zzP,List.length_reverse];omega
 .rw[List.length_reverse];rfl
def qcF{j:Nat}{x:Sy}(hx:l[j]?=some x){i:Nat}{y:Ins}(hy:(cdL l j x)[i]?=some y):(xO l)[plL l j+i]?=some y:=by
 obtain⟨_,A,B,h1,h2,_⟩:=qhu hx;rw[h1,<- h2,List.append_assoc,List.getElem?_append_right (by omega),Nat.add_sub_cancel_left,List.getElem?_append_left (by grind)];exact hy
def dsL(l:List Sy)(j t:Nat):Nat:=bl l (l.length-(j+1))-bl l (l.length-t)
def qhO{j t:Nat}(h1:j<t)(h2:t<l.length):bl l (l.length-(j+1))-(zz l (l.length-(j+1))).2.getD t 0=dsL l j t:=by
 rw[qGt (by omega) (by omega) h2];rfl
def qjm{j:Nat}{x:Sy}(hx:l[j]?=some x){t:Nat}(h1:j<t):plL l j+(cdL l j x).length+dsL l j t=plL l t:=by
 have hb:=(qhu hx).1;have b1:=qiM (l:=l) (m:=l.length-j) (m':=l.length) (by omega);have b2:=qiM (l:=l) (m:=l.length-t) (m':=l.length-(j+1)) (by omega);unfold plL dsL;omega
def qGJ{j:Nat}:dsL l j (j+1)=0:=by unfold dsL;omega
def qzx(h:MayL l):∀{j:Nat} {a:Int},Ev l d j a r->Go1 (xO l) d (plL l j) a r:=by
 intro j a he
 induction he with
 | ld j a r x hx hc _ ih =>
  have hm:=h.all j x hx
  have hk:x.k % 4=0/\0<=x.k/\x.k<64:=by
   rcases hm with q|⟨q,_⟩|⟨q,_⟩|⟨q,_⟩
   .omega
   .omega
   .omega
   .unfold qd7 at q;omega
  have e:cdL l j x=[⟨32,0,0,x.k⟩]:=by unfold cdL jV;rw[hc,if_neg (by decide),if_pos (by decide)]
  have hn:=qjm hx (t:=j+1) (by omega);rw[qGJ,e]at hn;simp only[List.length_singleton,Nat.add_zero]at hn;exact qGX (qcF hx (i:=0) (by rw[e];rfl)) hk (by rw[Nat.add_zero,hn];exact ih)
 | an j a r x hx hc _ ih =>
  have e:cdL l j x=[⟨84,0,0,x.k⟩]:=by unfold cdL jV;rw[hc,if_neg (by decide),if_pos (by decide)]
  have hn:=qjm hx (t:=j+1) (by omega);rw[qGJ,e]at hn;simp only[List.length_singleton,Nat.add_zero]at hn;exact qGW (qcF hx (i:=0) (by rw[e];rfl)) (by rw[Nat.add_zero,hn];exact ih)
 | rt j a x hx hc =>
  have e:cdL l j x=[⟨6,0,0,x.k⟩]:=by unfold cdL jV;rw[hc,if_neg (by decide),if_pos (by decide)]
  exact qGY (qcF hx (i:=0) (by rw[e];rfl))
 | ja j a r x hx hc _ ih =>
  have hm:=(h.all j x hx).ja hc;have e:cdL l j x=[⟨5,0,0,(dsL l j x.th:Nat)⟩]:=by unfold cdL jV;rw[if_pos hc,qhO hm.2.2.1 hm.2.2.2]
  have hn:=qjm hx hm.2.2.1;rw[e]at hn;simp only[List.length_singleton]at hn;exact qvF (qcF hx (i:=0) (by rw[e];rfl)) (by rw[Nat.add_zero,Int.toNat_natCast,hn];exact ih)
 | jc j a r x hx hc _ ih =>
  have hm:=(h.all j x hx).jc hc;have hk:=qaf hc;have n1:=qjm hx hm.1;have n2:=qjm hx hm.2.2.1
  by_cases hf:max (dsL l j x.th) (dsL l j x.el)<=255
  .have e:cdL l j x=[⟨x.code,(dsL l j x.th:Nat),(dsL l j x.el:Nat),x.k⟩]:=by
    unfold cdL jV;rw[if_neg hk.2.1,if_neg (λq=>q hk.1),qhO hm.1 hm.2.1,qhO hm.2.2.1 hm.2.2.2,if_pos hf]
   rw[e]at n1 n2;simp only[List.length_singleton]at n1 n2;refine qBf hc (qcF hx (i:=0) (by rw[e];rfl)) ?_
   grind
  .have e:cdL l j x=[⟨x.code,0,1,x.k⟩,⟨5,0,0,(dsL l j x.th+1:Nat)⟩,⟨5,0,0,(dsL l j x.el:Nat)⟩]:=by
    unfold cdL jV;rw[if_neg hk.2.1,if_neg (λq=>q hk.1),qhO hm.1 hm.2.1,qhO hm.2.2.1 hm.2.2.2,if_neg hf]
   rw[e]at n1 n2;simp only[List.length_cons,List.length_nil]at n1 n2;refine qBf hc (qcF hx (i:=0) (by rw[e];rfl)) ?_
   by_cases q:qbD x.code a x.k=true
   .rw[if_pos q]at ih ⊢;refine qvF (k:=((dsL l j x.th+1:Nat):Int)) (qcF hx (i:=1) (y:=⟨5,0,0,(dsL l j x.th+1:Nat)⟩) (by rw[e];rfl)) ?_;rw[Int.toNat_natCast];have e2:plL l j+0+1+(0:Int).toNat+1+(dsL l j x.th+1)=plL l x.th:=by omega
    rw[e2];exact ih
   .rw[if_neg q]at ih ⊢;refine qvF (k:=((dsL l j x.el:Nat):Int)) (qcF hx (i:=2) (y:=⟨5,0,0,(dsL l j x.el:Nat)⟩) (by rw[e];rfl)) ?_;rw[Int.toNat_natCast];have e2:plL l j+0+1+(1:Int).toNat+1+dsL l j x.el=plL l x.el:=by omega
    rw[e2];exact ih
def qtn(h:MayL l)(he:Ev l d 0 0 r):(qgs (xO l) d).1=r/\(qgs (xO l) d).2.2.2=0:=by
 have:=qzx h he;have e:plL l 0=0:=by unfold plL;rw[Nat.sub_zero];omega
 rw[e]at this;exact this _ _ _ _ rfl rfl (by omega)
end
def jN(l:List Sy):Prop:=∀x ∈ l,0<=x.k/\x.k<=4294967295
section
variable {l:List Sy}
def qAy(h:jN l):jN (qfz l):=by
 intro x hx;unfold qfz at hx;obtain⟨y,hy,rfl⟩:=List.mem_map.1 hx;exact h y hy
def qop(h:jN l):∀m,jN (qfY l m)
 | 0=>h
 | m+1=>by
  unfold qfY;split
  .rename_i x hx;intro y hy;rcases List.mem_or_eq_of_mem_set hy with hy|rfl
   .exact qop h m y hy
   .have hk:=h x (by grind);unfold qbj;split
    .simp_all
    .exact hk
  .exact qop h m
theorem qkX(h:jN l):jN (qbQ l):=by
 intro x hx;unfold qbQ qg7 at hx;obtain⟨q,hq⟩:=List.getElem?_of_mem hx;obtain⟨p,_,h2,_⟩:=qk6 hq;rw[List.getElem?_map]at h2;obtain⟨y,hy,rfl⟩:=Option.map_eq_some_iff.1 h2;exact qop (qAy h) _ y (zzM hy)
def qq5(h:MayL l):∀{m:Nat},m<=l.length->∀{b:Nat} {i:Ins},(zz l m).1[b]?=some i->∃(j:Nat) (x:Sy) (e:Nat),l[j]?=some x/\(cdL l j x)[e]?=some i/\b+e+1=bl l (l.length-j)
 | 0,_,b,i,hb=>by simp[zz]at hb
 | m+1,hm,b,i,hb=>by
  have hx:l[l.length-(m+1)]?=some l[l.length-(m+1)]:=by simp_all
  have hs:=qje hx;have hcd:cdL l (l.length-(m+1)) l[l.length-(m+1)]=jV (bl l m) (zz l m).2 l[l.length-(m+1)]:=by unfold cdL;rw[show l.length-(l.length-(m+1)+1)=m by omega]
  have h1:(zz l (m+1)).1=(zz l m).1++(cdL l (l.length-(m+1)) l[l.length-(m+1)]).reverse:=by rw[hs,hcd]
  rw[h1,List.getElem?_append]at hb;split at hb
  .exact qq5 h (by omega) hb
  .rename_i hlt;have hbl:(zz l m).1.length=bl l m:=rfl;rw[hbl]at hlt hb;have hc:=(qhu hx).1;rw[show l.length-(l.length-(m+1))=m+1 by omega,show l.length-(l.length-(m+1)+1)=m by omega]at hc
   have hlen:=(zzS.1 hb).1;rw[List.length_reverse]at hlen;rw[List.getElem?_reverse hlen]at hb
   grind
def qwa(h:MayL l){k:Nat}{i:Ins}(hk:(xO l)[k]?=some i):∃(j:Nat) (x:Sy) (e:Nat),l[j]?=some x/\(cdL l j x)[e]?=some i/\(xO l).length-1-k+e+1=bl l (l.length-j):=by
 have hl:=(zzS.1 hk).1;have e:=hk;unfold xO at e;rw[List.getElem?_reverse (by grind)]at e;obtain⟨j,x,e,h1,h2,h3⟩:=qq5 h (zzL _) e;refine⟨j,x,e,h1,h2,?_⟩;rw[qlN];exact h3
structure LkOk (i:Ins) (n:Nat):Prop where
 ok:InsOk i
 one:qd4 i n=0
 c:i.code≠96/\i.code≠97
def qnF(h:MayL l){t:Nat}(ht:t<l.length):0<bl l (l.length-t):=by
 have hx:l[t]?=some l[t]:=by simp_all
 have h1:=(qhu hx).1;have h2:=(qps (n:=bl l (l.length-(t+1))) (pl:=(zz l (l.length-(t+1))).2) (x:=l[t])).2;have:(cdL l t l[t]).length=(jV (bl l (l.length-(t+1))) (zz l (l.length-(t+1))).2 l[t]).length:=rfl;omega
def qrA{c k:Int}{n:Nat}(hc:c=32/\k % 4=0/\k<64\/c=84\/c=6)(hk:0<=k/\k<=4294967295):LkOk ⟨c,0,0,k⟩ n:=by
 have hc2:c=32\/c=84\/c=6:=by rcases hc with h|h|h<;>simp[h]
 have b1:zY c=true:=by rcases hc2 with rfl|rfl|rfl<;>decide
 have b2:qm c≠2/\qm c≠4:=by rcases hc2 with rfl|rfl|rfl<;>decide
 refine⟨⟨by grind,by grind,Int.le_refl 0,by simp_all,Int.le_refl 0,by simp_all,hk.1,hk.2⟩,?_,by grind⟩
 have a1:qih ⟨c,0,0,k⟩=false:=by simp[qih,b1]
 have a2:qhH ⟨c,0,0,k⟩=false:=by
  rcases hc with⟨h1,h2,h3⟩|h|h
  .simp[qhH,h2,show¬64<=k from by omega]
  .simp[qhH,h]
  .simp[qhH,h]
 have a3:qiI ⟨c,0,0,k⟩=false:=by simp[qiI,b2.1,show c≠96 from by omega,show c≠97 from by omega]
 have a4:qiJ ⟨c,0,0,k⟩=false:=by simp[qiJ,show c≠52 from by omega]
 have a5:qiK ⟨c,0,0,k⟩=false:=by simp[qiK,show c≠100 from by omega,show c≠116 from by omega]
 have a6:qiL ⟨c,0,0,k⟩ n=false:=by simp[qiL,b2.2,show c≠5 from by omega]
 simp[qd4,a1,a2,a3,a4,a5,a6]
theorem qwe{k n:Nat}(h:k<n)(hn:k<=1000000):LkOk ⟨5,0,0,(k:Int)⟩ n:=by
 refine⟨⟨by simp_all,by simp_all,Int.le_refl 0,by simp_all,Int.le_refl 0,by simp_all,by simp_all,by grind⟩,?_,by simp_all⟩
 have a1:qih ⟨5,0,0,k⟩=false:=by
  have:zY 5=true:=by decide
  simp[qih,this]
 have a2:qhH ⟨5,0,0,k⟩=false:=by simp[qhH]
 have a3:qiI ⟨5,0,0,k⟩=false:=by
  have:qm 5≠2:=by decide
  simp[qiI,this]
 have a4:qiJ ⟨5,0,0,k⟩=false:=by simp[qiJ]
 have a5:qiK ⟨5,0,0,k⟩=false:=by simp[qiK]
 have a6:qiL ⟨5,0,0,k⟩ n=false:=by simp[qiL];omega
 simp[qd4,a1,a2,a3,a4,a5,a6]
theorem qBl{c k:Int}{jt jf n:Nat}(hc:qd7 c)(hk:0<=k/\k<=4294967295)(h1:jt<=255)(h2:jf<=255)(h3:jt<n)(h4:jf<n):LkOk ⟨c,jt,jf,k⟩ n:=by
 have b1:zY c=true:=by rcases hc with rfl|rfl|rfl|rfl<;>decide
 have b2:qm c≠2:=by rw[(qaf hc).1];decide
 have b3:c≠32/\c≠96/\c≠97/\c≠52/\c≠100/\c≠116/\c≠5/\0<=c/\c<=65535:=by rcases hc with rfl|rfl|rfl|rfl<;>decide
 refine⟨⟨b3.2.2.2.2.2.2.2.1,b3.2.2.2.2.2.2.2.2,by simp_all,by grind,by simp_all,by grind,hk.1,hk.2⟩,?_,by simp_all⟩
 have a1:qih ⟨c,jt,jf,k⟩=false:=by simp[qih,b1]
 have a2:qhH ⟨c,jt,jf,k⟩=false:=by simp[qhH,b3.1]
 have a3:qiI ⟨c,jt,jf,k⟩=false:=by simp[qiI,b2,b3.2.1,b3.2.2.1]
 have a4:qiJ ⟨c,jt,jf,k⟩=false:=by simp[qiJ,b3.2.2.2.1]
 have a5:qiK ⟨c,jt,jf,k⟩=false:=by simp[qiK,b3.2.2.2.2.1,b3.2.2.2.2.2.1]
 have a6:qiL ⟨c,jt,jf,k⟩ n=false:=by
  have:¬(n:Int)<=hiM ⟨c,jt,jf,k⟩:=by unfold hiM;grind
  simp only[qiL,if_neg b3.2.2.2.2.2.2.1,this,decide_false,Bool.and_false]
 simp[qd4,a1,a2,a3,a4,a5,a6]
def qn5(h:MayL l)(hr:jN l){k:Nat}{i:Ins}(hk:(xO l)[k]?=some i):LkOk i ((xO l).length-1-k):=by
 obtain⟨j,x,e,hx,he,hb⟩:=qwa h hk;have hm:=h.all j x hx;have hxr:=hr x (by grind);have hbl:=(qhu hx).1;have hbig:bl l (l.length-j)<=3*l.length:=Nat.le_trans (qhv (l:=l) (l.length-j)).2.2 (by omega);have hbig2:=h.big
 have one:∀{y:Ins},cdL l j x=[y]->i=y/\(xO l).length-1-k=bl l (l.length-(j+1)):=λ{y} hy=>by
  rw[hy]at he hbl
  grind
 rcases hm with⟨q,_,_,q1,q2,q3⟩|⟨q,_⟩|⟨q,_,_,q3,q4⟩|⟨q,q1,q2,q3,q4⟩
 .obtain⟨e1,_⟩:=one (y:=⟨x.code,0,0,x.k⟩) (by unfold cdL jV;rw[q,if_neg (by decide),if_pos (by decide)])
  rw[e1];simp_all[qrA]
 .obtain⟨e1,_⟩:=one (y:=⟨x.code,0,0,x.k⟩) (by unfold cdL jV;rcases q with q|q<;>rw[q,if_neg (by decide),if_pos (by decide)])
  rw[e1];simp_all[qrA]
 .obtain⟨e1,e2⟩:=one (y:=⟨5,0,0,(dsL l j x.th:Nat)⟩) (by unfold cdL jV;rw[if_pos q,qhO q3 q4]);have hp:=qnF h q4;have hmn:=qiM (l:=l) (m:=l.length-x.th) (m':=l.length-(j+1)) (by omega);rw[e1,e2];unfold dsL
  grind[qwe]
 .have hp:=qnF h q2;have hp2:=qnF h q4;have hmn:=qiM (l:=l) (m:=l.length-x.th) (m':=l.length-(j+1)) (by omega);have hmn2:=qiM (l:=l) (m:=l.length-x.el) (m':=l.length-(j+1)) (by omega);have hkk:=qaf q;have d1:dsL l j x.th<bl l (l.length-(j+1)):=by unfold dsL;omega
  have d2:dsL l j x.el<bl l (l.length-(j+1)):=by unfold dsL;omega
  by_cases hf:max (dsL l j x.th) (dsL l j x.el)<=255
  .obtain⟨e1,e2⟩:=one (y:=⟨x.code,(dsL l j x.th:Nat),(dsL l j x.el:Nat),x.k⟩) (by
    unfold cdL jV;rw[if_neg hkk.2.1,if_neg (λz=>z hkk.1),qhO q1 q2,qhO q3 q4,if_pos hf])
   rw[e1,e2];grind[qBl]
  .have e3:cdL l j x=[⟨x.code,0,1,x.k⟩,⟨5,0,0,(dsL l j x.th+1:Nat)⟩,⟨5,0,0,(dsL l j x.el:Nat)⟩]:=by
    unfold cdL jV;rw[if_neg hkk.2.1,if_neg (λz=>z hkk.1),qhO q1 q2,qhO q3 q4,if_neg hf]
   rw[e3]at he hbl;simp only[List.length_cons,List.length_nil]at hbl
   match e,he,hb with
   | 0,he,hb =>
    grind[qBl]
   | 1,he,hb =>
    simp only[List.getElem?_cons_succ,List.getElem?_cons_zero,Option.some.injEq]at he;subst he;exact qwe (by omega) (by omega)
   | 2,he,hb =>
    grind[qwe]
   | e+3,he,hb=>grind
def qtl(h:MayL l):qgk (xO l)=6:=by
 obtain⟨s,hs,h6⟩:=h.last;have hp:=h.pos;obtain⟨hb,A,B,h1,h2,h3⟩:=qhu hs;have e:cdL l (l.length-1) s=[⟨6,0,0,s.k⟩]:=by unfold cdL jV;rw[h6,if_neg (by decide),if_pos (by decide)]
 have hB:B=[]:=by
  apply List.eq_nil_of_length_eq_zero;rw[h3,show l.length-(l.length-1+1)=0 by omega];rfl
 rw[e,hB,List.append_nil]at h1;unfold qgk;rw[h1];simp
def qwc(h:MayL l):0<(xO l).length:=by
 rw[qlN];have:=qnF h h.pos;omega
def qwb:(xO l).length<=3*l.length:=by rw[qlN];exact(qhv (l:=l) l.length).2.2
def qm3(h:MayL l)(hr:jN l)(hl:(xO l).length<=4096):PrgGood (xO l) :=
 ⟨hl,by have:=qwc h;omega,λi hi=>by obtain⟨k,hk⟩:=List.getElem?_of_mem hi;exact(qn5 h hr hk).ok,λk i hk=>(qn5 h hr hk).one,by rw[qtl h];decide⟩
-- no cell is read
theorem qE6{i:Ins}(hi:i.code≠96/\i.code≠97){x:BitVec 16}{j:Nat}{L:List Nat}:qj9 i x j L=L:=by
 unfold qj9;simp[rdM,hi.1,hi.2]
def qBF{n:Nat}:∀{p:List Ins} {j:Nat} {st:WSt},(∀i ∈ p,i.code≠96/\i.code≠97)->(wkM n j p st).1=st.1
 | [],_,_,_=>rfl
 | i::p,j,st,h=>by
  unfold wkM;rw[qBF (by simp_all)];unfold stM
  grind[qE6]
def qxN{rch:List Bool}{sur:List (BitVec 16)}:∀{p:List Ins} {j:Nat} {L:List Nat},(∀i ∈ p,i.code≠96/\i.code≠97)->qAT rch sur j p L=L
 | [],_,_,_=>rfl
 | i::p,j,L,h=>by
  unfold qAT;have hi:=h i (by simp_all);rw[qxN (by simp_all),if_neg (by simp[unC,rdC,hi.1,hi.2])]
def qoI{n:Nat}:∀{p:List Ins} {j:Nat},(∀(k:Nat) i,p[k]?=some i->qd4 i (n-1-(j+k))=0)->qgw n j p=none
 | [],_,_=>rfl
 | i::p,j,h=>by
  rw[qfE,if_pos (by simpa using h 0 i rfl)];exact qoI λk i hk=>by have:=h (k+1) i (by simpa using hk);rw[show j+1+k=j+(k+1)by omega];omega
def qrr{p:List Ins}(h:PrgGood p):atU p []=(0,0):=by
 unfold atU;rw[if_neg (by have:=h.ne;have:=h.len;omega),qoI (by grind[PrgGood.one])]
 simp[h.last]
def qpq(h:MayL l)(hr:jN l):qd5 (xO l)=[]/\qHT (xO l)=[]:=by
 have hc:∀i ∈ xO l,i.code≠96/\i.code≠97:=λi hi=>by obtain⟨k,hk⟩:=List.getElem?_of_mem hi;exact(qn5 h hr hk).c
 exact⟨qBF hc,qxN hc⟩
end
structure FilU (x:GFil):Prop where
 d:0<=x.dflt/\x.dflt<=4294967295
 r:∀r ∈ x.rules,0<=r.act/\r.act<=4294967295
 t:∀r ∈ x.rules,∀t ∈ r.tests,0<=t.act/\t.act<=4294967295
def jN.app{a b:List Sy}(h1:jN a)(h2:jN b):jN (a++b):=λx hx=>by
 rcases List.mem_append.1 hx with h|h
 .exact h1 x h
 .exact h2 x h
theorem jN.nil:jN []:=λx hx=>by cases hx
theorem jN.cons{s:Sy}{l:List Sy}(h1:0<=s.k/\s.k<=4294967295)(h2:jN l):jN (s::l):=λx hx=>by
 rcases List.mem_cons.1 hx with rfl|h
 .exact h1
 .exact h2 x h
def r0:(0:Int)<=0/\(0:Int)<=4294967295:=by omega
def qpg{a m v:Int}{p F:Nat}(ha:0<=a/\a<=4294967295)(hm:0<=m/\m<=4294967295)(hv:0<=v/\v<=4294967295):jN (qdJ a m v p F):=by
 unfold qdJ
 grind[jN.nil,jN.cons]
def qHd{x:Int}(h0:0<=x)(h1:x<18446744073709551616):(0<=loW x/\loW x<=4294967295)/\0<=hiW x/\hiW x<=4294967295:=by
 unfold loW hiW;omega
def qxB{t:GTest}{p:Nat}(ht:TstOk t)(ha:0<=t.act/\t.act<=4294967295):jN (qif t p):=by
 have h1:=qHd ht.m0 ht.m1;have h2:=qHd ht.v0 ht.v1;have a0:=ht.a0;have a1:=ht.a1;exact((qpg (by omega) h1.1 h2.1).app (qpg (by omega) h1.2 h2.2)).app (.cons ha .nil)
def qns:∀{ts:List GTest} {a:Int} {p:Nat},(∀t ∈ ts,TstOk t/\0<=t.act/\t.act<=4294967295)->(0<=a/\a<=4294967295)->jN (qcn ts a p)
 | [],a,p,_,ha=>.cons ha .nil
 | t::ts,a,p,h,ha=>by
  have ht:=h t (by simp_all);unfold qcn;refine(qxB ht.1 ht.2).app ?_;split
  .exact .nil
  .exact qns (by simp_all) ha
def qnj:∀{rs:List GRule} {p:Nat},(∀r ∈ rs,(0<=r.act/\r.act<=4294967295)/\∀t ∈ r.tests,TstOk t/\0<=t.act/\t.act<=4294967295)->jN (xa rs p)
 | [],_,_=>.nil
 | r::rs,p,h=>by
  have hr:=h r (by simp_all);unfold xa;exact(qns hr.2 hr.1).app (qnj (by grind))
def qAN{a:Int}(h0:0<=a)(h6:a<6):0<=qdj a/\qdj a<=4294967295:=by
 have:a=0\/a=1\/a=2\/a=3\/a=4\/a=5:=by omega
 rcases this with rfl|rfl|rfl|rfl|rfl|rfl<;>decide
def qz9{a:Int}{p F:Nat}(h0:0<=a)(h6:a<6):jN (qbe a p F):=by
 unfold qbe;have hb:(0:Int)<=1073741824/\(1073741824:Int)<=4294967295:=by omega
 refine jN.app (.cons (by simp_all) (.cons (qAN h0 h6) (.cons r0 .nil))) ?_
 grind[jN.cons,jN.nil]
def qqi{FW:Nat->Nat}{T:List Nd}{p:Nat}(h:∀n ∈ T,0<=n.at'/\n.at'<=4294967295):jN (xv FW T p):=by
 unfold xv;refine jN.app ?_ ?_
 .cases T with
  | nil=>exact .nil
  | cons n T =>
   show jN (if n.leaf=true then [⟨5,0,FW n.way,0⟩]else [])
   split
   all_goals simp_all[jN.cons,jN.nil]
 .unfold brE;intro x hx;obtain⟨n,hn,hx⟩:=List.mem_flatMap.1 hx;unfold qjZ at hx
  simp_all
def qAO(n:Nat):∀(l:List Sp) (a:Nat),l.length<=n->SpR l->∀nd ∈ zO l a,0<=nd.at'/\nd.at'<4294967296:=by
 induction n with
 | zero =>
  grind[zO.eq_1]
 | succ n ih =>
  intro l a h1 hr nd hnd;rw[zO]at hnd
  by_cases hk:l.length / 2=0
  .rw[dif_pos hk,List.mem_singleton]at hnd
   simp_all
  .rw[dif_neg hk]at hnd;rcases List.mem_cons.1 hnd with rfl|hnd
   .have hlt:l.length / 2<l.length:=by omega
    have:=hr _ (List.getElem_mem hlt)
    simp_all
   .rcases List.mem_append.1 hnd with hnd|hnd
    .exact ih (l.take (l.length / 2)) _ (by grind) (λs hs=>hr s (by grind)) nd hnd
    .exact ih (l.drop (l.length / 2)) _ (by grind) (λs hs=>hr s (by grind)) nd hnd
section
variable {x:GFil}
def qiR(h:FilG x)(hu:FilU x):jN (zn x):=by
 unfold zn;refine(((jN.app (qz9 h.a0 h.a6) (qqi λn hn=>?_)).app (.cons hu.d .nil)).app (qnj λr hr=>⟨hu.r r hr,λt ht=>⟨(h.ts r hr t ht).ok,hu.t r hr t ht⟩⟩)).app (.cons (by simp_all) .nil)
 have:=qAO _ _ 0 (zzL _) (qjL h.spans.1 (Int.le_refl 0) (Int.le_refl _)) n hn;omega
def szF(x:GFil):Nat:=10+(x.rules.map λr=>3+7*r.tests.length).sum
def qtU{rs:List GRule}:zw rs+2*rs.length<=(rs.map λr=>3+7*r.tests.length).sum:=by
 induction rs with
 | nil=>simp[zw]
 | cons r rs ih =>
  have:=qj8 (ts:=r.tests);simp[zw,qoi]at ih ⊢;omega
def qri(h:FilG x):(zn x).length<=szF x:=by
 have h1:=h.dfl.1;have h2:=qtU (rs:=x.rules);rw[qmP];unfold x8 szF;omega
end
def qnR:∀{ts:List GTest} {a:Int},(qfJ ts a).1.Sublist ts/\((qfJ ts a).2=a\/∃t ∈ ts,(qfJ ts a).2=t.act)
 | [],_=>⟨.slnil,.inl rfl⟩
 | t::ts,a=>by
  unfold qfJ;split
  .simp_all
  .obtain⟨h1,h2⟩:=qnR (ts:=ts) (a:=a)
   grind
def qxH{a:Int}{ts:List GTest}:(qgm a ts).Sublist ts:=by
 unfold qgm;have:=List.dropWhile_sublist (λt:GTest=>decide (t.act=a)) (l:=ts.reverse)
 have:=this.reverse;rwa [List.reverse_reverse]at this
def qrf{q:GTest->Bool}:∀{ts:List GTest} {a:Int},(∀t ∈ ts,t.mask=0->q t=true)->fnd q (qfJ ts a).2 (qfJ ts a).1=fnd q a ts
 | [],_,_=>rfl
 | t::ts,a,h=>by
  unfold qfJ;split
  .grind[qkT,qdH]
  .rw[qdH,qdH,qrf (by simp_all)]
theorem qo5{q:GTest->Bool}{a:Int}{t:GTest}(h:t.act=a):∀{ts:List GTest},fnd q a (ts++[t])=fnd q a ts
 | []=>by rw[zzN,qdH,qkT,h];split<;>rfl
 | y::ts=>by rw[zzC,qdH,qdH,qo5 h]
def qxG{q:GTest->Bool}{a:Int}(n:Nat):∀(ts:List GTest),ts.length=n->fnd q a (qgm a ts)=fnd q a ts:=by
 induction n with
 | zero=>intro ts h;rw[List.eq_nil_of_length_eq_zero h];rfl
 | succ n ih =>
  intro ts h;have e:ts=ts.dropLast++[ts.getLast (by intro h0;rw[h0]at h;simp at h)]:=(List.dropLast_concat_getLast _).symm
  grind[qmf,qo5]
def qos:∀{l:List GRule} {o:Option GRule},upR o l=true↔(∀r ∈ l,qb2 r=true)/\(∀b,o=some b->∀r ∈ l,b.nr<r.nr)/\l.Pairwise λa b=>a.nr<b.nr
 | [],o=>by simp[upR]
 | r::l,o=>by
  have ih:=qos (l:=l) (o:=some r);simp only[upR,zzB,ih,List.forall_mem_cons,List.pairwise_cons];constructor
  .grind
  .rintro⟨⟨h1,h3⟩,h2,h4,h5⟩;refine⟨⟨h1,?_⟩,h3,λb hb=>by cases hb;exact h4,h5⟩
   cases o with
   | none=>rfl
   | some b=>simpa using(h2 b rfl).1
section
variable {x:GFil}
theorem qlU{r:GRule}:(x7 r).nr=r.nr:=rfl
theorem qcj{r:GRule}:(x7 r).tests.Sublist r.tests:=qxH.trans qnR.1
def qpF{r:GRule}:(x7 r).act=r.act\/∃t ∈ r.tests,(x7 r).act=t.act:=qnR.2
def qwB{q:GTest->Bool}{r:GRule}(h:∀t ∈ r.tests,t.mask=0->q t=true):fnd q (x7 r).act (x7 r).tests=fnd q r.act r.tests :=
 (qxG _ _ rfl).trans (qrf h)
theorem qfs{r:GRule}(h:r ∈ (jW x).rules):∃r0 ∈ x.rules,r=x7 r0:=by
 obtain⟨h1,_⟩:=List.mem_filter.1 h
 grind
theorem qqF{r:GRule}(h:qb2 r=true):qb2 (x7 r)=true:=by
 simp only[qb2,zzB,decide_eq_true_eq,List.all_eq_true]at h ⊢;obtain⟨⟨h1,h2⟩,h3⟩:=h;refine⟨⟨Nat.le_trans qcj.length_le h1,λt ht=>h2 t (qcj.subset ht)⟩,?_⟩
 rcases qpF (r:=r)with e|⟨t,ht,e⟩
 .rw[e];exact h3
 .rw[e];have:=h2 t ht;simp only[qb3,zzB]at this;simp_all
def qfr(h:jq x=true):jq (jW x)=true:=by
 simp only[jq,zzB,decide_eq_true_eq]at h ⊢;obtain⟨⟨⟨⟨k1,k2⟩,k3⟩,k4⟩,k5⟩:=h;obtain⟨u1,_,u3⟩:=qos.1 k5;refine⟨⟨⟨⟨k1,k2⟩,?_⟩,k4⟩,qos.2 ⟨λr hr=>?_,by simp_all,?_⟩⟩
 .have:=List.length_filter_le (qbO x.dflt) (x.rules.map x7);rw[List.length_map]at this;exact Nat.le_trans this k3
 .grind[qfs,qqF]
 .exact ((List.pairwise_map (f:=x7) (R:=λa b:GRule=>a.nr<b.nr)).2 u3).filter _
def qlV(h:FilR x):FilR (jW x):=by
 refine⟨λr hr=>?_,λr hr t ht=>?_⟩
 .obtain⟨r0,h0,rfl⟩:=qfs hr;exact h.nr r0 h0
 .obtain⟨r0,h0,rfl⟩:=qfs hr;exact h.ts r0 h0 t (qcj.subset ht)
def qwz(h:FilU x):FilU (jW x):=by
 refine⟨h.d,λr hr=>?_,λr hr t ht=>?_⟩
 .obtain⟨r0,h0,rfl⟩:=qfs hr;rcases qpF (r:=r0)with e|⟨t,ht,e⟩
  .rw[e];exact h.r r0 h0
  .rw[e];exact h.t r0 h0 t ht
 .obtain⟨r0,h0,rfl⟩:=qfs hr;exact h.t r0 h0 t (qcj.subset ht)
def qzM:szF (jW x)<=szF x:=by
 have:∀l:List GRule,(((l.map x7).filter (qbO x.dflt)).map λr=>3+7*r.tests.length).sum<=(l.map λr=>3+7*r.tests.length).sum:=λl=>by
  induction l<;>grind[qcj]
 have:=this x.rules;exact Nat.add_le_add_left this 10
def qmR{d n:Int}{q:GTest->Bool}:∀{l:List GRule},(∀r ∈ l,∀t ∈ r.tests,t.mask=0->q t=true)->l.Pairwise (λa b=>a.nr<b.nr)->
  (match ((l.map x7).filter (qbO d)).find? (λr=>decide (r.nr=n))with|none=>d|some r=>fnd q r.act r.tests)=(match l.find? (λr=>decide (r.nr=n))with|none=>d|some r=>fnd q r.act r.tests)
 | [],_,_=>rfl
 | r::l,h,hp=>by
  obtain⟨p1,p2⟩:=List.pairwise_cons.1 hp;have hr:=qwB (h r (List.mem_cons_self ..));have ih:=qmR (d:=d) (n:=n) (q:=q) (l:=l) (by grind) p2;rw[List.map_cons,List.filter_cons,List.find?_cons]
  by_cases hn:r.nr=n
  .have no:((l.map x7).filter (qbO d)).find? (λr=>decide (r.nr=n))=none:=by
    refine List.find?_eq_none.2 λy hy=>?_
    obtain⟨y1,_⟩:=List.mem_filter.1 hy;obtain⟨z,hz,rfl⟩:=List.mem_map.1 y1;have:=p1 z hz;rw[qlU];simp;omega
   simp only[hn,decide_true]
   by_cases hk:qbO d (x7 r)=true
   .rw[if_pos hk,List.find?_cons];simp only[qlU,hn,decide_true];exact hr
   .rw[if_neg hk,no];simp only[qbO,zzO,decide_eq_true_eq]at hk;have h0:(x7 r).tests=[]:=by grind
    have h1:(x7 r).act=d:=by omega
    rw[h0,h1,qkT]at hr;exact hr
  grind[qlU]
def qwA(h:FilG x)(hp:x.rules.Pairwise λa b=>a.nr<b.nr){d:GData}(hd:DatOk d):qmx (jW x) d=qmx x d:=by
 rw[qlp,qlp];rw[show(jW x).arch=x.arch from rfl]
 by_cases hc:(ofM d.arch d.nr).2=false\/(ofM d.arch d.nr).1≠x.arch
 .rw[if_pos hc,if_pos hc]
 .rw[if_neg hc,if_neg hc];refine qmR (λr hr t ht h0=>?_) hp
  have hg:=h.ts r hr t ht
  have hv:t.val=0:=by
   have:=hg.sub;rw[h0]at this;have e:=qdx (a:=t.val.toNat) (b:=0) (by have:=hg.ok.v1;omega) (by decide)
   rw[Int.toNat_of_nonneg hg.ok.v0]at e;rw[<- this];simpa using e
  have ha:=qnD hd hg.ok.a0 hg.ok.a1;have e:=qdx (a:=(qnC d t.arg).toNat) (b:=0) (by omega) (by decide);rw[Int.toNat_of_nonneg ha.1]at e;unfold qb8;rw[h0,hv]
  grind[TstOk.a0,TstG.ok,TstOk.a1]
end
structure PrgT (p:List Ins) (n:Nat) (den:GData->Int):Prop where
 good:PrgGood p
 um:qd5 p=[]
 ud:qHT p=[]
 len:p.length<=3*n
 tells:∀d,DatOk d->(qgs p d).1=den d/\(qgs p d).2.2.2=0
def qmt(a:List Ins×Int)(n:Nat)(den:GData->Int):Prop:=(a.2=270/\a.1=[]/\1365<n)\/(a.2=0/\PrgT a.1 n den)
theorem qn4{l:List Sy}{n:Nat}{den:GData->Int}(h:MayL l)(hr:jN l)(hl:l.length<=n)(he:∀d,DatOk d->Ev l d 0 0 (den d)):qmt (zD l) n den:=by
 have h3:=qwb (l:=l);unfold zD
 by_cases hb:4096<(xO l).length
 .rw[if_pos hb];exact .inl (by grind)
 .rw[if_neg hb];have hu:=qpq h hr;exact .inr ⟨rfl,qm3 h hr (by omega),hu.1,hu.2,by grind,λd hd=>qtn h (he d hd)⟩
section
variable {x:GFil}
theorem qCz(hK:jq x=true)(hR:FilR x)(hU:FilU x):qmt (qeb x) (szF x) (qmx x):=by
 have hG:=FilG.of hK hR;unfold qeb;rw[if_pos hK];exact qn4 (qdE hG) (qiR hG hU) (qri hG) λd hd=>qrh hG hd 0
theorem qCy(hK:jq x=true)(hR:FilR x)(hU:FilU x):qmt (qfe x) (szF x) (qmx x):=by
 have hG:=FilG.of hK hR;have hG2:=FilG.of (qfr hK) (qlV hR);have hm:=qdE hG2
 have hp:x.rules.Pairwise λa b=>a.nr<b.nr:=by
  simp only[jq,zzB]at hK
  simp_all[qos]
 unfold qfe;rw[if_pos hK];refine qn4 (qhy hm) (qkX (qiR hG2 (qwz hU))) (Nat.le_trans qrM (Nat.le_trans (qri hG2) qzM)) λd hd=>?_
 rw[<- qwA hG hp hd];exact qwR hm (qrh hG2 hd 0)
theorem qsb{u v:List Ins×Int}{n:Nat}{den:GData->Int}(hu:qmt u n den)(hv:qmt v n den):qmt (qcl u v) n den:=by
 unfold qcl;grind
def qCx(hK:jq x=true)(hR:FilR x)(hU:FilU x)(o:Bool):qmt (qbZ x o) (szF x) (qmx x):=by
 unfold qbZ;grind[qsb,qCz,qCy]
def qre(hK:jq x=false)(o:Bool):qbZ x o=([],210):=by
 unfold qbZ qeb qfe qcl;grind
end
end Go.Kc
end
section
namespace Go.Kc
variable {P:Program} {f:Nat}
def qjG(x:GFil):Prop:=x.rules.length<=100000/\∀r ∈ x.rules,r.tests.length<=100000
def qA1(P:Program)(g:Nat):Prop:=∀x,qjG x->qa P g [.agg (zq x)] (.b (jq x))
def quK(P:Program)(g:Nat):Prop:=∀x,FilR x->qjG x->qa P g [.agg (zq x)] (qoA x)
def qrb(P:Program)(g:Nat):Prop:=∀l,MayL l->qa P g [.fz l.length (rSy l)] (qiH l)
def qyE(P:Program)(g:Nat):Prop:=∀l,MayL l->qa P g [.fz l.length (rSy l)] (.tup [.fz (qbQ l).length (rSy (qbQ l)),.j 0])
def quM(P:Program)(g:Nat):Prop:=∀x,qjG x->qa P g [.agg (zq x)] (qsw x)
def qA4(P:Program)(g:Nat):Prop:=∀l:List (Int×Nat),l.length<=100000->(∀y ∈ l,0<=y.1/\y.1<4294967296)->qxk l->qa P g [.fz l.length (qaM l),.fz l.length (qbf l),.j 0] (.tup [.fz (zW (pcs 0 l 0)).length (rSp (zW (pcs 0 l 0))),.j 0])
def qA5(P:Program)(g:Nat):Prop:=∀l:List Sp,l.length<=400000->0<l.length->SpR l->qa P g [.fz l.length (rSp l)] (qq3 l)
def qJg{g1 g2 g3 h1:Nat}(hc:qc P f (qir g1 g2)=true)(hp:qc P g1 (qdP g3)=true)(hm:qc P g2 (qdO h1)=true)(hm1:qc P h1 jB=true)(hp1:qc P g3 qcg=true):qA4 P f:=λl hl hr hu =>
 qEM hc l 0 (qtO hp l 0) (qpD hm hm1 hp1 l 0 hl hr) hl hu
def qJj{g1 g2:Nat}(hc:qc P f (qeP g1 g2)=true)(h1:qc P g1 qeN=true)(h2:qc P g2 jS=true):qA5 P f:=λl hl h0 hr =>
 qt3 hc h2 l (qqY h1 l (by omega) hr) hl h0
def qIv{g gl gp gj gh gr go gb gR gd gt gH gA gB gC gD gM gS gT:Nat}(hc:qc P f (qfM gM go gS gT gb gh gr gR gd)=true)(E:EFn P g gl gp gj gh gr go gb gR gd gt gH gA gB gC gD)(hM:qA1 P gM)(hS:qA4 P gS)(hT:qA5 P gT):quK P f:=λx hR hL =>
 qsW hc E x hR (hM x hL) λhK=>by
  have hG:=FilG.of hK hR;have hd:=hG.dfl;have hn:=hG.n;have hs:=hG.spans;have hT:=hT (zW (pcs 0 (qO x.rules) 0)) (by have:=hs.2.2.2.2;omega) hG.pos (qjL hs.1 (Int.le_refl 0) (Int.le_refl _))
  unfold qq3 at hT;rw[if_pos (qmK hs.1)]at hT;refine⟨by have:=hd.1;omega,by have:=hd.2;omega,hG.tne,hG.nodes,hS (qO x.rules) (by rw[qck];omega) (λy hy=>?_) (qnt hG.ups),hT⟩
  obtain⟨i,hi⟩:=List.getElem?_of_mem hy;rw[qdq]at hi;obtain⟨r,hr,rfl⟩:=Option.map_eq_some_iff.1 hi;exact hR.nr r (by grind)
def qIG{g1 g2 gM gB gi go:Nat}(hc:qc P f (qfO g1 g2)=true)(h1:qc P g1 (qdL gM gB go)=true)(h2:qc P g2 zR=true)(hM:∀l,MayL l->qa P gM [.fz l.length (rSy l)] (.b true))
  (hB1:∀l:List Sy,qa P gB [.fz l.length (rSy l)] (.fn gi [] [.pf [.fz l.length (rSy l)] 0])) (hi1:qc P gi qE=true) (ho:qyD P go):qrb P f:=λl hl =>
 qtm hc l (by have:=hl.big;omega) (λk hk=>qtp h1 l (hM l hl) hB1 hi1 ho (by have:=hl.big;omega) hl.hin hk) λs b tr p hp k hb hk=>qqP h2 p hp hb hk
def qJB{gD gO gP gB gi:Nat}(hc:qc P f (qba gD gP gO)=true)(hD:qc P gD xw=true)(hO:cOf P gO)(hP:qc P gP (jJ gB)=true)
  (hB:∀l:List Ins,qa P gB [.fz l.length (rP l)] (.fn gi [] [.pf [.fz l.length (rP l)] 0])) (hi:qc P gi qN=true):qyD P f:=λkb n s bb bp back pl tr far k h x hb hj hk =>
 qDT hc hD hO hP hB hi h x hb hj hk
def qJC{g1 g2 gM gs gt gl s1 s2 t1 t2 ti v1 v2 h1 h2 h3:Nat}(hc:qc P f (qiq g1 g2)=true)(hp:qc P g1 (qeL gs gt gl)=true)(hd:qc P g2 (qgR gM)=true)(hM:∀l,MayL l->qa P gM [.fz l.length (rSy l)] (.b true))
  (hs:qc P gs (qeM s1 s2)=true) (hs1:qc P s1 qcW=true) (hm:qc P s2 (jm h1 h2 h3)=true) (c1:qbx P h1 4 24) (c2:cOf P h2) (c3:qgy P h3)
  (ht:qc P gt (qcX h1 t1 t2 s2 h3)=true) (ht1:qc P t1 qaj=true) (hB:∀l:List Sy,qa P t2 [.fz l.length (rSy l)] (.fn ti [] [.pf [.fz l.length (rSy l)] 0])) (hi:qc P ti qE=true)
  (hl:qc P gl (qeK v1 v2 s2)=true) (hv1:qc P v1 (qfP h2 h3)=true) (hv2:qc P v2 qa3=true):qyE P f:=λl h=>by
 have m1:=qjw h;have m2:=qk9 m1;have b0:=h.big;have b1:=m1.big;have b2:=m2.big
 exact qwS hc (qpI hp) l (qbQ l) (qz6 hd l (qfz l) (qon (qfz l)) (qbQ l) (hM l h) (qpV hs hs1 hm c1 c2 c3 l (by omega) h.in)
  (qmA ht c1 ht1 hB hi hm c1 c2 c3 c3 (qfz l) (by omega) m1.in) (qpr hl hv2 hm c1 c2 c3 (qon (qfz l)) (qqb hv1 c2 c3 _ (by omega) m2.pos m2.in m2.on) (by omega) m2.in))
def qIJ{g1 g2:Nat}(hc:qc P f (qfN g1 g2)=true)(hM:qA1 P g1)(h2:∀r:GRule,r.tests.length<=100000->qa P g2 [.agg (zu r)] (.agg (zu (x7 r)))):quM P f:=λx hL =>
 qou hc x (hM x hL) h2 hL.1 hL.2
def qDH{x:GFil}(h:qjG x):qjG (jW x):=by
 refine⟨?_,λr hr=>?_⟩
 .have:=List.length_filter_le (qbO x.dflt) (x.rules.map x7);rw[List.length_map]at this;exact Nat.le_trans this h.1
 .obtain⟨r0,h0,rfl⟩:=qfs hr;exact Nat.le_trans qcj.length_le (h.2 r0 h0)
theorem qGE{gE gN gO gL:Nat}(hE:quK P gE)(hN:quM P gN)(hO:qyE P gO)(hL:qrb P gL){x:GFil}(hR:FilR x)(hl:qjG x):CmpFn P gE gN gO gL x where
 em:=hE x hR hl
 nm:=hN x hl
 lk:=λhK=>hL _ (qdE (FilG.of hK hR))
 em2:=λ_=>hE _ (qlV hR) (qDH hl)
 ok2:=qfr
 op:=λhK=>hO _ (qdE (FilG.of (qfr hK) (qlV hR)))
 lk2:=λhK=>hL _ (qhy (qdE (FilG.of (qfr hK) (qlV hR))))
def qmI(P:Program)(g:Nat):Prop:=∀x,FilR x->qjG x->∀o:Bool,qa P g [.agg (zq x),.b o] (.tup [.fz (qbZ x o).1.length (rP (qbZ x o).1),.j (qbZ x o).2])
def qIt{gd gwN gwE gwO gwL gs gE gN gO gL:Nat}(hc:qc P f (qa9 gwE gwL gd gwN gwO gs)=true)(hd:qc P gd qM=true)(hN:qc P gwN (z6 gN)=true)(hE:qc P gwE (zV gE)=true)(hO:qc P gwO (za gO)=true)(hL:qc P gwL (qL gL)=true)
  (hs:qc P gs xV=true) (c1:quK P gE) (c2:quM P gN) (c3:qyE P gO) (c4:qrb P gL):qmI P f:=λx hR hl o =>
 qnQ hc hd hN hE hO hL (λu v x y hx hy=>qjv hs u v x y hx hy) (by grind[qGE]) o

def SC.args{vs vs':List AV}{h:Hp}{k:AV->Hp->Prop}(hs:SC P f vs' h k)(ha:∀(ρ:Ren) (a:List Value),VRs σ0 ρ vs a->VRs σ0 ρ vs' a):SC P f vs h k :=
 ⟨hs.1,λρ B w args r hv=>hs.2 ρ B w args r (ha ρ _ hv)⟩
section
variable {g1 g2 g3:Nat}
end
noncomputable def qhI(l:List Sy)(e:Int):List Ins×Int:=if e=0 then zD l else([],e)
noncomputable def qip(l:List Sy)(e:Int):List Ins×Int:=if e=0 then zD (qbQ l)else([],e)
noncomputable def qnX(l:List Sy)(e:Int)(o:Bool):List Ins×Int:=if o=true then qcl (qhI l e) (qip l e)else qhI l e
structure GrdFn (P:Program) (gG gO gL:Nat) (ar:AV) (l:List Sy) (e:Int):Prop where
 gu:qa P gG [ar] (.tup [.fz l.length (rSy l),.j e])
 lk:e=0->qa P gL [.fz l.length (rSy l)] (qiH l)
 op:e=0->qa P gO [.fz l.length (rSy l)] (.tup [.fz (qbQ l).length (rSy (qbQ l)),.j 0])
 lk2:e=0->qa P gL [.fz (qbQ l).length (rSy (qbQ l))] (qiH (qbQ l))
section
variable {gG gO gL b s:Nat} {tr:Tr Blk} {k:AV->Hp->Prop} {ar:AV} {l:List Sy} {er:Int}
def zF:List AV:=[.j 0,.nils,.w 0]
def qpp{m:List Sy}(h:(zD m).2≠0):(zD m).1=[]:=by
 unfold zD at h ⊢
 grind
def qvI{gd gwG gwL bx:Nat}{e:Nat}{wf a:Bool}(hc:qc P gd qM=true)(hG:qc P gwG (zQ gG)=true)(hL:qc P gwL (qL gL)=true)(C:GrdFn P gG gO gL ar l er)
  (hx:tr.get bx=some (.cells e wf a [.fn gwG [.ptr b 0] [],.fn gwL [.ptr b 0] []])) (hbx:bx≠b) (h0:tr.get b=some (WkB zF ar .nils .nils))
  (hk:∀v tr2,qiE v (qhI l er).1->(∀c,c≠b->tr2.get c=tr.get c)->k (.tup [v,.j (qhI l er).2]) ⟨s,0,tr2⟩):SC P gd [.ptr b 0,.sl bx 0 2 2 false] ⟨s,0,tr⟩ k:=by
 have hG':=C.gu
 by_cases hz:er=0
 .have hL':=C.lk hz;rw[qkI]at hL';have e1:qhI l er=zD l:=by unfold qhI;rw[if_pos hz]
  rw[e1]at hk
  refine qhk hc [gwG,gwL] (by simpa using hx) hbx (λi=>if i=0 then WkB zF ar .nils .nils else if i=1 then WkB zF ar (.fz l.length (rSy l)) .nils else WkB zF ar (.fz l.length (rSy l)) (.fz (zD l).1.length (rP (zD l).1)))
   (λi=>if i=0 then 0 else if i=1 then er else(zD l).2) 2 rfl (by omega) h0 rfl ?_ ?_ ?_
  .intro i g s' tr' k' hg hj hB hk';have hi:i<2:=by have:=(zzS.1 hg).1;omega
   have hi2:i=0\/i=1:=by omega
   rcases hi2 with rfl|rfl
   .simp at hg;subst hg;exact qhE hG zF rfl hB _ _ qjQ hG' hk'
   .simp at hg;subst hg;exact qfZ hL zF rfl hB _ _ qjQ hL' hk'
  .intro i tr2 hf hv hj;have h0':i≠0:=by omega
   have h1':i≠1:=λh=>hv (by omega)
   simp only[if_neg h0',if_neg h1']at hv ⊢;exact hk _ _ (.inr ⟨rfl,qpp hv⟩) hf
  .intro tr2 hf hj hB;have hz2:=hj 2 (by omega);simp at hz2;refine⟨zF,ar,_,_,rfl,rfl,?_⟩;have:=hk (.fz (zD l).1.length (rP (zD l).1)) tr2 (.inl rfl) hf;rw[hz2]at this;omega
 .have e1:qhI l er=([],er):=by unfold qhI;rw[if_neg hz]
  rw[e1]at hk;refine qhk hc [gwG,gwL] (by simpa using hx) hbx (λi=>if i=0 then WkB zF ar .nils .nils else WkB zF ar (.fz l.length (rSy l)) .nils) (λi=>if i=0 then 0 else er) 2 rfl (by omega) h0 rfl ?_ ?_ ?_
  .intro i g s' tr' k' hg hj hB hk'
   have hi:i=0:=by
    simp_all
   subst hi;simp at hg;subst hg;exact qhE hG zF rfl hB _ _ qjQ hG' hk'
  .intro i tr2 hf hv hj;have hi:i≠0:=by omega
   simp only[if_neg hi];exact hk _ _ (.inr ⟨rfl,rfl⟩) hf
  .intro tr2 _ hj _;have:=hj 1 (by omega);omega
def qvH{gd gwG gwO gwL bx:Nat}{e:Nat}{wf a:Bool}(hc:qc P gd qM=true)(hG:qc P gwG (zQ gG)=true)(hO:qc P gwO (za gO)=true)(hL:qc P gwL (qL gL)=true)(C:GrdFn P gG gO gL ar l er)
  (hx:tr.get bx=some (.cells e wf a [.fn gwG [.ptr b 0] [],.fn gwO [.ptr b 0] [],.fn gwL [.ptr b 0] []])) (hbx:bx≠b) (h0:tr.get b=some (WkB zF ar .nils .nils))
  (hk:∀v tr2,qiE v (qip l er).1->(∀c,c≠b->tr2.get c=tr.get c)->k (.tup [v,.j (qip l er).2]) ⟨s,0,tr2⟩):SC P gd [.ptr b 0,.sl bx 0 3 3 false] ⟨s,0,tr⟩ k:=by
 have hG':=C.gu
 by_cases hz:er=0
 .have hL':=C.lk2 hz;have hO':=C.op hz;have e1:qip l er=zD (qbQ l):=by unfold qip;rw[if_pos hz]
  rw[e1]at hk;obtain⟨m,hm⟩:∃m,m=qbQ l:=⟨_,rfl⟩;rw[<- hm]at hL' hO' hk;rw[qkI]at hL'
  refine qhk hc [gwG,gwO,gwL] (by simpa using hx) hbx (λi=>if i=0 then WkB zF ar .nils .nils else if i=1 then WkB zF ar (.fz l.length (rSy l)) .nils else if i=2 then WkB zF ar (.fz m.length (rSy m)) .nils else WkB zF ar (.fz m.length (rSy m)) (.fz (zD m).1.length (rP (zD m).1)))
   (λi=>if i=0 then 0 else if i=1 then er else if i=2 then 0 else(zD m).2) 3 rfl (by omega) h0 rfl ?_ ?_ ?_
  .intro i g s' tr' k' hg hj hB hk';have hi:i<3:=by have:=(zzS.1 hg).1;omega
   have hi2:i=0\/i=1\/i=2:=by omega
   rcases hi2 with rfl|rfl|rfl
   .simp at hg;subst hg;exact qhE hG zF rfl hB _ _ qjQ hG' hk'
   .simp at hg;subst hg;exact qmj hO zF rfl hB _ _ qjQ hO' hk'
   .simp at hg;subst hg;exact qfZ hL zF rfl hB _ _ qjQ hL' hk'
  .intro i tr2 hf hv hj;have h0':i≠0:=by omega
   have h1':i≠1:=λh=>hv (by omega)
   have h2':i≠2:=by omega
   simp only[if_neg h0',if_neg h1',if_neg h2']at hv ⊢;exact hk _ _ (.inr ⟨rfl,qpp hv⟩) hf
  .intro tr2 hf hj hB;have hz2:=hj 3 (by omega);simp at hz2;refine⟨zF,ar,_,_,rfl,rfl,?_⟩;have:=hk (.fz (zD m).1.length (rP (zD m).1)) tr2 (.inl rfl) hf;rw[hz2]at this;omega
 .have e1:qip l er=([],er):=by unfold qip;rw[if_neg hz]
  rw[e1]at hk;refine qhk hc [gwG,gwO,gwL] (by simpa using hx) hbx (λi=>if i=0 then WkB zF ar .nils .nils else WkB zF ar (.fz l.length (rSy l)) .nils) (λi=>if i=0 then 0 else er) 3 rfl (by omega) h0 rfl ?_ ?_ ?_
  .intro i g s' tr' k' hg hj hB hk'
   have hi:i=0:=by
    simp_all
   subst hi;simp at hg;subst hg;exact qhE hG zF rfl hB _ _ qjQ hG' hk'
  .intro i tr2 hf hv hj;have hi:i≠0:=by omega
   simp only[if_neg hi];exact hk _ _ (.inr ⟨rfl,rfl⟩) hf
  .intro tr2 _ hj _;have:=hj 1 (by omega);omega
def qcd(a b c d e:Nat):IFn:=⟨[.tmp 4,.tmp 5],sq [.r [.m 4 .N,.m 5 (.k 0)],.r [.n 12 0,.q 13 (.build [.j 0,.nils,.w 0,.nils,.nils,.nils] [(3,1,(.t 12))]),.q 14 (.box (.t 13)),.n 15 0,.q 16 (.build [.j 0,.nils,.w 0,.nils,.nils,.nils] [(3,1,(.t 15))]),.q 17 (.box (.t 16)),.n 6 14,.n 7 17],.r [.n 19 6,.n 20 6,.q 21 (.mkF a [.t 20] []),.n 22 6,.q 23 (.mkF b [.t 22] []),.q 24 (.buildS 2 [.nilf] [(0,1,(.t 21)),(1,1,(.t 23))]),.l 25 c [.t 19,.t 24],.n 18 25,.x 26 18 0,.x 27 18 1,.n 8 26,.n 9 27],sq [.r [.n 28 1,.q 29 (.un .not (.t 28))],.cond (.t 29) (sq [.r [.n 30 8,.n 31 9,.n 4 30,.n 5 31],.ret]) (.skip)],.r [.n 33 7,.n 34 7,.q 35 (.mkF a [.t 34] []),.n 36 7,.q 37 (.mkF d [.t 36] []),.n 38 7,.q 39 (.mkF b [.t 38] []),.q 40 (.buildS 3 [.nilf] [(0,1,(.t 35)),(1,1,(.t 37)),(2,1,(.t 39))]),.l 41 c [.t 33,.t 40],.n 32 41,.x 42 32 0,.x 43 32 1,.n 10 42,.n 11 43],.r [.n 44 8,.n 45 9,.n 46 10,.n 47 11,.l 48 e [.t 44,.t 45,.t 46,.t 47],.x 49 48 0,.x 50 48 1,.n 4 49,.n 5 50],.ret]⟩
def qqA{gd gwG gwO gwL gs:Nat}(hc:qc P f (qcd gwG gwL gd gwO gs)=true)(hd:qc P gd qM=true)(hG:qc P gwG (zQ gG)=true)(hO:qc P gwO (za gO)=true)(hL:qc P gwL (qL gL)=true)
  (hs:qc P gs xV=true) (har:clo ar=true/\ze ar=true/\qcQ ar=true/\cellsOf ar=[ar]) (C:GrdFn P gG gO gL ar l er) (o:Bool) :
  qa P f [ar,.b o] (.tup [.fz (qnX l er o).1.length (rP (qnX l er o).1),.j (qnX l er o).2]):=by
 obtain⟨a1,a2,a3,a4⟩:=har;refine qa.mk hc (by simp[qt,Go.Kc.clo,a1]) ?_;simp only[qcd,vI,simprocAttr];simp +decide only[↓vS,vT,simprocAttr,a2,a3,a4];refine qvI hd hG hL C (b:=0) (bx:=2) (by simp[Tr.get_set];exact⟨rfl,rfl,rfl⟩) (by decide) (by simp[Tr.get_set,WkB,zF]) λv tr2 hv hf=>?_
 cases o with
 | false =>
  simp +decide only[↓vS,vT,simprocAttr,qnX];simp[vZ];exact hv.frz
 | true =>
  simp +decide only[↓vS,vT,simprocAttr,qnX];refine qvH hd hG hO hL C (b:=1) (bx:=3) (by simp[Tr.get_set];exact⟨rfl,rfl,rfl⟩) (by decide) (by rw[Tr.get_set,if_neg (by decide),hf 1 (by decide)];simp[Tr.get_set,WkB,zF]) λw tr3 hw _=>?_
  obtain⟨z,hz1,hz2⟩:=qjv hs (qhI l er) (qip l er) v w hv hw;simp +decide only[↓vS,vT,simprocAttr];refine hz2.sc ?_;simp +decide only[↓vS,vT,simprocAttr];simp[vZ];exact⟨hz1.frz,rfl⟩
end
end Go.Kc
end
section
namespace Go.Kc
section
variable {x:GFil} {n:Int}
end
end Go.Kc
end
section
namespace Go.Kc
variable {P:Program} {f:Nat}
end Go.Kc
end
