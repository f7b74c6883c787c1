/- Part 9 of the abstract machine and of the functions' walks. Conditions: with each theorem. -/
import Derived.Test.YtgaodkfneooonaaGreatOK8
set_option maxHeartbeats 4000000
set_option linter.defProp false
set_option linter.unusedSectionVars false
set_option linter.unusedSimpArgs false
set_option linter.unusedVariables false
set_option linter.unnecessarySimpa false
section
namespace Go.Kc
variable {P:Program} {f:Nat}
def qbN:IFn:=⟨[.cell 6 9 true],sq [.r [.q 6 (.alloc [.w 0,.w 0,.x 0,.x 0,.x 0,.x 0,.x 0,.x 0,.x 0])],.r [.n 8 1,.n 9 0,.q 10 (.build [.w 0,.w 0,.x 0,.x 0,.x 0,.x 0,.x 0,.x 0,.x 0] [(0,1,(.t 8)),(1,1,(.t 9))]),.q 7 (.alloc [.w 0,.w 0,.x 0,.x 0,.x 0,.x 0,.x 0,.x 0,.x 0]),.u (.store 9 (.t 7) (.t 10))],.r [.n 11 2,.f 12 3 7,.q 13 (.iAddrA 6 1 (.t 12) (.k 0)),.u (.store 1 (.t 13) (.t 11))],.r [.v 14 9 7,.u (.store 9 (.t 6) (.t 14))],.ret]⟩
def qIr(hc:qc P f qbN=true)(t n x:Int):qa P f [.w t,.w n,.x x] (qbA t n x):=by
 refine qa.mk hc rfl ?_;simp only[qbN,vI,simprocAttr];simp +decide only[↓vS,vT,simprocAttr];simp[vZ,qbA]
def qgS:IFn:=⟨[.cell 0 13 true],sq [.r [.q 0 (.alloc [.nils,.y 0,.nils,.w 0,.y 0,.nils,.nils,.y 0,.x 0,.b false,.b false,.b false,.b false])],.r [.q 1 (.build [.nils,.y 0,.nils,.w 0,.y 0,.nils,.nils,.y 0,.x 0,.b false,.b false,.b false,.b false] [(3,1,(.c (.w 2147483648)))]),.u (.store 13 (.t 0) (.t 1))],.ret]⟩
def qJz(hc:qc P f qgS=true):qa P f [] (.agg (xI .nils false)):=by
 refine qa.mk hc rfl ?_;simp only[qgS,vI,simprocAttr];simp +decide only[↓vS,vT,simprocAttr];simp[vZ,xI]
def xB(a b:Nat):IFn:=⟨[.tmp 8],sq [.r [.q 4 (.box (.t 0)),.q 6 (.box (.t 2)),.m 8 .F],sq [.r [.m 9 (.k 0)],.blk 0 (.loop (sq [sq [.r [.n 14 9,.w 15 .lss 14 2],.cond (.t 15) (.skip) (.exit 0)],.blk 1 (sq [.r [.v 19 13 4,.n 20 9,.w 21 .eql 20 1,.l 22 a [.t 19,.t 21],.n 18 22,.x 23 18 0,.x 24 18 1,.n 10 23,.n 11 24],.r [.n 26 10,.v 27 9 6,.l 28 b [.t 26,.t 27],.n 25 28,.x 29 25 0,.x 30 25 1,.n 12 29,.n 13 30],.r [.n 31 11,.w 32 .neq 31 0,.n 33 32,.z 34 13 33,.g 35 (.bin .neq (.t 34) (.k 0)) 33 false,.o 36 33 35,.n 37 36,.z 38 10 37,.g 39 (.len false (.t 38)) 37 false,.z 40 1 37,.g 41 (.bin .neq (.t 39) (.t 40)) 37 false,.o 42 37 41,.n 43 42,.z 44 12 43,.z 45 3 43,.g 46 (.bin .neq (.t 44) (.t 45)) 43 false,.o 47 43 46],.cond (.t 47) (sq [.r [.m 8 .F],.ret]) (.skip)]),.r [.n 16 9,.a 17 16 1,.n 9 17]]))],.r [.m 8 .T],.ret]⟩
def qsf{g1 g2:Nat}(hc:qc P f (xB g1 g2)=true)(ar:AV)(ha:clo ar=true)(hs:zd ar=true)(pe:Bool)(t m x:Int)(n:Nat)(w:Int)(cs:Bool->List AV)(hn:n<=100)
  (hB:∀b:Bool,qa P g1 [.agg (xI ar pe),.b b] (.tup [.fz n (cs b),.j 0])) (hE:∀b:Bool,qa P g2 [.fz n (cs b),qbA t m x] (.tup [.w w,.j 0])) :
  qa P f [.agg (xI ar pe),.j (n:Int),qbA t m x,.w w] (.b true):=by
 refine qa.mk hc (by simp[qt,clo,xI,qbA,ha]) ?_;have hB0:=hB false;have hB1:=hB true;have hE0:=hE false;have hE1:=hE true;simp only[xB,vI,simprocAttr];simp +decide only[↓vS,vT,simprocAttr,xI,qbA];refine SL.loop (α:=Nat) (λj=>[(1,.j (n:Int)),(3,.w w),(4,.ptr 0 0),(6,.ptr 1 0),(9,.j (j:Int))]) (λ_=>[.v (xI ar pe),.v [.w m,.w t,.x 0,.x x,.x 0,.x 0,.x 0,.x 0,.x 0]]) (λj=>j<=2) (λj=>2-j) 0 [0,1] ?_ ?_ ?_ rfl ?_ ?_
 .simp[vw]
 .simp[vw,qe];exact(NVs.refl (vs:=xI ar pe) (by simp[qt,clo,xI,ha]))
 .simp
 .omega
 rintro j hj G ih;simp only[vI,simprocAttr]
 by_cases hlt:j<2
 .have ih2:=ih (j+1) hlt (by omega);have hj2:j=0\/j=1:=by omega
  have hlen:¬((n:Int)≠n):=λh=>h rfl
  have w1:IntKind.wrap .i64 1=1:=by decide
  have w2:IntKind.wrap .i64 2=2:=by decide
  rcases hj2 with rfl|rfl
  .simp +decide only[↓vS,vT,simprocAttr,xI,qbA]at hB0 hE0 ih2 ⊢;refine hB0.sc ?_;simp +decide only[↓vS,vT,simprocAttr];refine hE0.sc ?_;simp +decide only[↓vS,vT,simprocAttr,w1];refine ih2 _ _ (Wk.mk _ _ [0,1] ?_ ?_ ?_ rfl)
   .simp[vw]
   .simp[vw,qe];exact(NVs.refl (vs:=xI ar pe) (by simp[qt,clo,xI,ha]))
   .simp
  .simp +decide only[↓vS,vT,simprocAttr,xI,qbA]at hB1 hE1 ih2 ⊢;refine hB1.sc ?_;simp +decide only[↓vS,vT,simprocAttr];refine hE1.sc ?_;simp +decide only[↓vS,vT,simprocAttr,w2];refine ih2 _ _ (Wk.mk _ _ [0,1] ?_ ?_ ?_ rfl)
   .simp[vw]
   .simp[vw,qe];exact(NVs.refl (vs:=xI ar pe) (by simp[qt,clo,xI,ha]))
   .simp
 .obtain rfl:j=2:=by omega
  simp +decide only[↓vS,vT,simprocAttr];simp[vZ]
end Go.Kc
end
section
namespace Go.Kc
variable {P:Program} {n:Nat}
def Has(t:Tr AV)(l:List (Nat×AV)):Prop:=∀p ∈ l,t.get p.1=some p.2
theorem ql{t:Tr AV}:Has t []↔True:=iff_true_intro λp hp=>by cases hp
theorem qg{t:Tr AV}{p:Nat×AV}{l:List (Nat×AV)}:Has t (p::l)↔t.get p.1=some p.2/\Has t l:=by simp[Has]
def Has.tr{t:Tr AV}{l:List (Nat×AV)}(h:Has t l){ρ:Ren}{tm:Array Value}(ht:TR σ0 ρ t tm):TR σ0 ρ (mkT l) tm:=λj v hj=>ht j v (h (j,v) (qew hj))
def S.has{x:ICode}{Q:X->Tr AV->Hp->Prop}{t:Tr AV}{h:Hp}(l:List (Nat×AV))(hl:Has t l)(hs:S P n x Q (mkT l) h):S P n x Q t h :=
 λnt cx hc hn ro hro ρ B w a ht hsz r=>hs nt cx hc hn ro hro ρ B w a (hl.tr ht) hsz r
def SL.has{x:ICode}{Q:X->Tr AV->Hp->Prop}{t:Tr AV}{h:Hp}(l:List (Nat×AV))(hl:Has t l)(hs:SL P n x Q (mkT l) h):SL P n x Q t h :=
 λnt cx hc hn ro hro ρ B w a ht hsz r=>hs nt cx hc hn ro hro ρ B w a (hl.tr ht) hsz r
def SL.loopP{α:Type}{x:ICode}{Q:X->Tr AV->Hp->Prop}(T:α->List (Nat×AV))(I:α->Hp->Prop)(μ:α->Nat)
  (step:∀a h,I a h->∀G:Tr AV->Hp->Prop,(∀a' t' h',μ a'<μ a->Has t' (T a')->I a' h'->G t' h')->V P n x (λe t h=>onX e (G t h) (λid=>Q (.exit id) t h) (Q .ret t h)) (mkT (T a)) h)
  (a0:α) {t:Tr AV} {h:Hp} (ht:Has t (T a0)) (h0:I a0 h):SL P n x Q t h:=by
 have main:∀m a t h,μ a<=m->Has t (T a)->I a h->SL P n x Q t h:=by
  intro m
  induction m with
  | zero =>
   intro a t h hm ht hi;refine SL.has _ ht (qco (step a h hi _ ?_));intro a' t' h' hlt _ _;omega
  | succ m ih =>
   intro a t h hm ht hi;refine SL.has _ ht (qco (step a h hi _ ?_));intro a' t' h' hlt ht' hi';exact ih a' t' h' (by omega) ht' hi'
 exact main _ a0 t h (zzL _) ht h0
end Go.Kc
end
section
namespace Go.Kc
variable {P:Program} {f:Nat}
structure Sy where
 code:Int
 k:Int
 th:Nat
 el:Nat
def cSy(s:Sy):List AV:=[.h s.code,.w s.k,.j (s.th:Int),.j (s.el:Int)]
def rSy(l:List Sy):List AV:=l.flatMap cSy
def qao{l:List Sy}:(rSy l).length=l.length*4:=by
 induction l with
 | nil=>rfl
 | cons s l ih=>simp only[rSy,List.flatMap_cons,zzP,List.length_cons]at ih ⊢;rw[ih];simp[cSy];omega
def qr2{l m:List Sy}:rSy l++rSy m=rSy (l++m):=by simp[rSy]
def qAl{s:Sy}:cSy s=rSy [s]:=by simp[rSy]
def Sy.raw(s:Sy):Sy:=⟨s.code,s.k,0,0⟩
def zb:IFn:=⟨[],.r [.n 4 0,.n 5 0,.q 6 (.nilChk (.t 5)),.f 7 0 6,.d 8 7,.n 9 1,.q 10 (.app 4 24 true (.t 8) (.t 9)),.q 11 (.nilChk (.t 4)),.f 12 0 11,.u (.store 1 (.t 12) (.t 10))]⟩
def qEl(hc:qc P f zb=true){w s fl bx bl m e:Nat}{tr:Tr Blk}{x:AV}{a:Bool}{ys:List AV}(y:Sy){k:AV->Hp->Prop}
  (hw:tr.get w=some (.v [.own bl m,x])) (hl:tr.get bl=some (.cells 4 true true ys)) (hy:ys.length=m*4) (hx:tr.get bx=some (.cells e true a (cSy y))) (hm:m<=1000000)
  (hwl:w≠bl) (hws:w<s) (hfw:fl<=w) (hfl:fl<=bl) (hxok:qcQ x=true/\zd x=true) (hk:k (.tup []) ⟨s+1,fl,((tr.set bl .dead).set s (.cells 4 true true (ys++cSy y))).set w (.v [.own s (m+1),x])⟩) :
  SC P f [.ptr w 0,.sl bx 0 1 1 false] ⟨s,fl,tr⟩ k:=by
 refine SC.mk hc (qk ?_);have hr1:m+1<=qi:=by simp only[qi];omega
 have hr2:(m+1)*24<=qi:=by simp only[qi];omega
 have hws':¬w=s:=by omega
 simp only[zb,vI,simprocAttr];simp +decide only[↓vS,vT,simprocAttr,hw,hl,hy,hx,cSy,hr1,hr2,hwl,hws',hfw,hfl];exact hk
def xF:IFn:=⟨[],.r [.n 4 1,.n 5 0,.q 6 (.nilChk (.t 5)),.f 7 0 6,.d 8 7,.e 9 8,.q 10 (.nilChk (.t 4)),.f 11 0 10,.u (.store 1 (.t 11) (.t 9))]⟩
def qzh(hc:qc P f xF=true){w s fl bl m b:Nat}{tr:Tr Blk}{x:AV}{old:AV}{k:AV->Hp->Prop}
  (hw:tr.get w=some (.v [.own bl m,x])) (hb:tr.get b=some (.v [old]))
  (hfb:fl<=b) (hk:k (.tup []) ⟨s,fl,tr.set b (.v [.j (m:Int)])⟩) :
  SC P f [.ptr w 0,.ptr b 0] ⟨s,fl,tr⟩ k:=by
 refine SC.mk hc (qk ?_);simp only[xF,vI,simprocAttr];simp +decide only[↓vS,vT,simprocAttr,hw,hb,hfb];exact hk
inductive Kd where
 | no|fr|w|l|t|box
 | lab (F:Nat) (p:Bool)
def kdS(κ:Nat->Kd)(b:Nat)(x:Kd):Nat->Kd:=λc=>if c=b then x else κ c
theorem qF{κ:Nat->Kd}{b:Nat}{x:Kd}:kdS κ b x b=x:=if_pos rfl
theorem qj{κ:Nat->Kd}{b c:Nat}{x:Kd}(h:c≠b):kdS κ b x c=κ c:=if_neg h
def Bx(κ:Nat->Kd)(tr:Tr Blk)(b:Nat)(v:AV):Prop:=κ b = .box/\tr.get b=some (.v [v])
def JOk(g w:Nat)(κ:Nat->Kd)(tr:Tr Blk)(RV:List Sy)(j:Nat)(c:AV):Prop :=
 ∃b5 b6 b8 b9 b10 X p o y,c = .fn g [] [.ptr b8 0,.ptr b5 0,.ptr b10 0,.ptr b6 0,.ptr b9 0]/\RV[j]?=some y/\Bx κ tr b5 (.ptr w 0)/\Bx κ tr b6 (.h y.code)/\Bx κ tr b8 (.ptr X 0)/\Bx κ tr b9 o/\Bx κ tr b10 (.j (j:Int)) /\
  κ X = .lab y.th p/\((y.code=5/\o = .nilp/\y.el=0)\/(y.code≠5/\∃Y p',o = .ptr Y 0/\κ Y = .lab y.el p'))
def qgu(g w:Nat)(κ:Nat->Kd)(tr:Tr Blk)(RV:List Sy):List Nat->List AV->Prop
 | [],[]=>True
 | j::js,c::cs=>JOk g w κ tr RV j c/\qgu g w κ tr RV js cs
 | _,_=>False
structure WI (g w:Nat) (κ:Nat->Kd) (s:Nat) (tr:Tr Blk) (RV:List Sy) (N:List Nat):Prop where
 dom:∀b,κ b≠.no->b<s
 rows:∃bl bt cs js,κ w = .w/\κ bl = .l/\κ bt = .t/\tr.get w=some (.v [.own bl RV.length,.own bt cs.length])/\tr.get bl=some (.cells 4 true true (rSy (RV.map Sy.raw)))/\tr.get bt=some (.cells 1 true true cs) /\
  qgu g w κ tr RV js cs/\cs.length+N.length<=RV.length/\∀(j:Nat) y,RV[j]?=some y->j ∉ js->j ∉ N->y.raw=y
 lab:∀b F p,κ b = .lab F p->∃x:Int,tr.get b=some (.v [.j x])/\(p=true->x=F)
structure Stp (L:List Nat) (κ:Nat->Kd) (s:Nat) (tr:Tr Blk) (κ':Nat->Kd) (s':Nat) (tr':Tr Blk):Prop where
 le:s<=s'
 fr:∀b,κ b = .fr->κ' b = .fr/\tr'.get b=tr.get b
 box:∀b,κ b = .box->κ' b = .box/\tr'.get b=tr.get b
 lab:∀b F p,κ b = .lab F p->κ' b = .lab F p
 nw:∀b F,κ' b = .lab F false->κ b = .lab F false\/b ∈ L
theorem Stp.refl{κ:Nat->Kd}{s:Nat}{tr:Tr Blk}:Stp [] κ s tr κ s tr:=⟨zzL _,by simp_all,(by simp_all),λ_ _ _ h=>h,λ_ _ h=>.inl h⟩
theorem Stp.trans{L M:List Nat}{κ κ1 κ2:Nat->Kd}{s s1 s2:Nat}{tr t1 t2:Tr Blk}(a:Stp L κ s tr κ1 s1 t1)(b:Stp M κ1 s1 t1 κ2 s2 t2):Stp (L++M) κ s tr κ2 s2 t2 :=
 ⟨Nat.le_trans a.le b.le,λx h=>⟨(b.fr x (a.fr x h).1).1,(b.fr x (a.fr x h).1).2.trans (a.fr x h).2⟩,λx h=>⟨(b.box x (a.box x h).1).1,(b.box x (a.box x h).1).2.trans (a.box x h).2⟩,λx F p h=>b.lab x F p (a.lab x F p h),
  λx F h=>by
   grind[Stp.nw]⟩
theorem JOk.mono{g w:Nat}{κ κ':Nat->Kd}{tr tr':Tr Blk}{RV RV':List Sy}{j:Nat}{c:AV}(h:JOk g w κ tr RV j c)(hb:∀b,κ b = .box->κ' b = .box/\tr'.get b=tr.get b)(hl:∀b F p,κ b = .lab F p->∃p',κ' b = .lab F p')
  (hr:∀(j:Nat) y,RV[j]?=some y->RV'[j]?=some y):JOk g w κ' tr' RV' j c:=by
 obtain⟨b5,b6,b8,b9,b10,X,p,o,y,h0,h1,h2,h3,h4,h5,h6,h7,h8⟩:=h;have bx:∀b v,Bx κ tr b v->Bx κ' tr' b v:=λb v q=>⟨(hb b q.1).1,(hb b q.1).2.trans q.2⟩
 obtain⟨p1,h7'⟩:=hl X _ p h7;refine⟨b5,b6,b8,b9,b10,X,p1,o,y,h0,hr _ _ h1,bx _ _ h2,bx _ _ h3,bx _ _ h4,bx _ _ h5,bx _ _ h6,h7',?_⟩;rcases h8 with h8|⟨h8,Y,p',h9,h10⟩
 .exact .inl h8
 .obtain⟨p2,h10'⟩:=hl Y _ p' h10;exact .inr ⟨h8,Y,p2,h9,h10'⟩
theorem qgu.mono{g w:Nat}{κ κ':Nat->Kd}{tr tr':Tr Blk}{RV RV':List Sy}(hb:∀b,κ b = .box->κ' b = .box/\tr'.get b=tr.get b)(hl:∀b F p,κ b = .lab F p->∃p',κ' b = .lab F p')
  (hr:∀(j:Nat) y,RV[j]?=some y->RV'[j]?=some y):∀{js:List Nat} {cs:List AV},qgu g w κ tr RV js cs->qgu g w κ' tr' RV' js cs
 | [],[],_=>trivial
 | _::_,_::_,h=>⟨h.1.mono hb hl hr,qgu.mono hb hl hr h.2⟩
 | [],_::_,h=>h.elim
 | _::_,[],h=>h.elim
def qgu.app{g w:Nat}{κ:Nat->Kd}{tr:Tr Blk}{RV:List Sy}{j:Nat}{c:AV}(hj:JOk g w κ tr RV j c):∀{js:List Nat} {cs:List AV},qgu g w κ tr RV js cs->qgu g w κ tr RV (js++[j]) (cs++[c])
 | [],[],_=>⟨hj,trivial⟩
 | _::_,_::_,h=>⟨h.1,qgu.app hj h.2⟩
 | [],_::_,h=>h.elim
 | _::_,[],h=>h.elim
section
variable {g w s:Nat} {κ:Nat->Kd} {tr:Tr Blk} {RV:List Sy} {N:List Nat}
def WI.fresh(h:WI g w κ s tr RV N):κ s = .no:=by
 cases hk:κ s with
 | no=>rfl
 | _=>exact absurd (h.dom s (by rw[hk];simp)) (Nat.lt_irrefl _)
def WI.new(h:WI g w κ s tr RV N)(kd:Kd)(x:Blk)(hk:kd = .no\/kd = .fr\/kd = .box\/∃F,kd = .lab F false/\x = .v [.j 0]):WI g w (kdS κ s kd) (s+1) (tr.set s x) RV N:=by
 have hs:=h.fresh;have ne:∀{b},κ b≠.no->b≠s:=by grind
 obtain⟨bl,bt,cs,js,r1,r2,r3,r4,r5,r6,r7,r8,r9⟩:=h.rows;refine⟨λb hb=>?_,⟨bl,bt,cs,js,?_,?_,?_,?_,?_,?_,r7.mono ?_ ?_ λ_ _ q=>q,r8,r9⟩,λb F p hb=>?_⟩
 .by_cases e:b=s
  .omega
  .rw[qj e]at hb;have:=h.dom b hb;omega
 .rw[qj (by simp_all)];exact r1
 .rw[qj (by simp_all)];exact r2
 .rw[qj (by simp_all)];exact r3
 .rw[Tr.get_set,if_neg (by simp_all)];exact r4
 .rw[Tr.get_set,if_neg (by simp_all)];exact r5
 .rw[Tr.get_set,if_neg (by simp_all)];exact r6
 .simp_all[qj,Tr.get_set]
 .simp_all[qj]
 .by_cases e:b=s
  .simp_all[qF,Tr.get_set]
  .rw[qj e]at hb;rw[Tr.get_set,if_neg e];exact h.lab b F p hb
def WI.stpLab(h:WI g w κ s tr RV N)(kd:Kd)(x:Blk):Stp [s] κ s tr (kdS κ s kd) (s+1) (tr.set s x):=by
 have hs:=h.fresh;have ne:∀{b},κ b≠.no->b≠s:=by grind
 refine⟨by omega,λb hb=>?_,λb hb=>?_,λb F p hb=>?_,λb F hb=>?_⟩
 all_goals grind[qj,Tr.get_set]
def WI.stpNew(h:WI g w κ s tr RV N)(kd:Kd)(x:Blk)(hk:∀F,kd≠.lab F false):Stp [] κ s tr (kdS κ s kd) (s+1) (tr.set s x):=by
 refine { h.stpLab kd x with nw:=λb F hb=>?_ }
 grind[qF,qj]
def WI.chg(h:WI g w κ s tr RV N){b:Nat}(kd:Kd)(x:Blk)(hb:κ b = .fr\/κ b = .no)(hbs:b<s)(hk:kd = .no\/kd = .fr\/kd = .box):WI g w (kdS κ b kd) s (tr.set b x) RV N:=by
 have ne:∀{c},κ c≠.no->κ c≠.fr->c≠b:=λh1 h2 e=>by simp_all
 obtain⟨bl,bt,cs,js,r1,r2,r3,r4,r5,r6,r7,r8,r9⟩:=h.rows;refine⟨λc hc=>?_,⟨bl,bt,cs,js,?_,?_,?_,?_,?_,?_,r7.mono ?_ ?_ λ_ _ q=>q,r8,r9⟩,λc F p hc=>?_⟩
 .by_cases e:c=b
  .omega
  .rw[qj e]at hc;exact h.dom c hc
 .rw[qj (by simp_all)];exact r1
 .rw[qj (by simp_all)];exact r2
 .rw[qj (by simp_all)];exact r3
 .rw[Tr.get_set,if_neg (by simp_all)];exact r4
 .rw[Tr.get_set,if_neg (by simp_all)];exact r5
 .rw[Tr.get_set,if_neg (by simp_all)];exact r6
 .simp_all[qj,Tr.get_set]
 .simp_all[qj]
 .by_cases e:c=b
  .simp_all[qF]
  .rw[qj e]at hc;rw[Tr.get_set,if_neg e];exact h.lab c F p hc
def qBv{bx e:Nat}{a:Bool}(hc:qc P f zb=true)(h:WI g w κ s tr RV N)(y:Sy)(hx:tr.get bx=some (.cells e true a (cSy y.raw)))(hm:RV.length<=1000000) :
  ∃κ' s' tr',Stp [] κ s tr κ' s' tr'/\WI g w κ' s' tr' (RV++[y]) (RV.length::N)/\∀k:AV->Hp->Prop,k (.tup []) ⟨s',0,tr'⟩->SC P f [.ptr w 0,.sl bx 0 1 1 false] ⟨s,0,tr⟩ k:=by
 obtain⟨bl,bt,cs,js,r1,r2,r3,r4,r5,r6,r7,r8,r9⟩:=h.rows;have hs:=h.fresh;have ne:∀{b c},κ b≠κ c->b≠c:=by grind
 have ns:∀{b},κ b≠.no->b≠s:=by simp_all
 have wl:w≠bl:=by simp_all
 have tl:bt≠bl:=by simp_all
 have tw:bt≠w:=by simp_all
 have sw:s≠w:=by simp_all
 have sl:s≠bl:=by simp_all
 have st:bt≠s:=by simp_all
 have ge:∀b,κ b≠.w->κ b≠.l->κ b≠.no->(((tr.set bl .dead).set s (.cells 4 true true (rSy (RV.map Sy.raw)++cSy y.raw))).set w (.v [.own s (RV.length+1),.own bt cs.length])).get b=tr.get b:=λb h1 h2 h3=>by
  rw[Tr.get_set,if_neg (by simp_all),Tr.get_set,if_neg (ns h3),Tr.get_set,if_neg (by simp_all)]
 have gk:∀b,κ b≠.l->κ b≠.no->kdS (kdS κ bl .no) s .l b=κ b:=λb h1 h2=>by
  rw[qj (ns h2),qj (by simp_all)]
 refine⟨kdS (kdS κ bl .no) s .l,s+1,((tr.set bl .dead).set s (.cells 4 true true (rSy (RV.map Sy.raw)++cSy y.raw))).set w (.v [.own s (RV.length+1),.own bt cs.length]),⟨by omega,λb hb=>?_,λb hb=>?_,λb F p hb=>?_,λb F hb=>.inl (by
  grind[qF,qj])⟩,⟨λb hb=>?_,⟨s,bt,cs,js,?_,?_,?_,?_,?_,?_,r7.mono ?_ ?_ ?_,?_,?_⟩,λb F p hb=>?_⟩,
  λk hk=>qEl hc y.raw r4 r5 (by rw[qao,List.length_map]) hx hm wl (h.dom w (by rw[r1];simp)) (Nat.zero_le _) (Nat.zero_le _) ⟨rfl,rfl⟩ hk⟩
 .simp_all
 .simp_all
 .rw[gk b (by rw[hb];simp) (by rw[hb];simp)];exact hb
 .by_cases e:b=s
  .omega
  .rw[qj e]at hb
   by_cases e2:b=bl
   .rw[e2,qF]at hb;simp_all
   .rw[qj e2]at hb;have:=h.dom b hb;omega
 .rw[gk w (by rw[r1];simp) (by rw[r1];simp)];exact r1
 .rw[qF]
 .rw[gk bt (by rw[r3];simp) (by rw[r3];simp)];exact r3
 .rw[Tr.get_set,if_pos rfl];simp
 .rw[Tr.get_set,if_neg sw,Tr.get_set,if_pos rfl];rw[qAl,qr2];simp
 .rw[ge bt (by rw[r3];simp) (by rw[r3];simp) (by rw[r3];simp)];exact r6
 .simp_all
 .simp_all
 .grind
 .grind
 .grind
 .by_cases e:b=s
  .rw[e,qF]at hb;cases hb
  .rw[qj e]at hb
   by_cases e2:b=bl
   .rw[e2,qF]at hb;cases hb
   .rw[qj e2]at hb;obtain⟨x,q1,q2⟩:=h.lab b F p hb
    simp_all
def qwY{k:AV->Hp->Prop}{bx e:Nat}{a:Bool}(hc:qc P f zb=true)(h:WI g w κ s tr RV N)(y:Sy)(hx:tr.get bx=some (.cells e true a (cSy y.raw)))(hm:RV.length<=1000000)
  (hk:∀κ' s' tr',Stp [] κ s tr κ' s' tr'->WI g w κ' s' tr' (RV++[y]) (RV.length::N)->k (.tup []) ⟨s',0,tr'⟩):SC P f [.ptr w 0,.sl bx 0 1 1 false] ⟨s,0,tr⟩ k:=by
 obtain⟨κ',s',tr',q1,q2,q3⟩:=qBv hc h y hx hm;exact q3 k (by grind)
def WI.drop{n:Nat}(h:WI g w κ s tr RV (n::N))(hn:∀y,RV[n]?=some y->y.raw=y):WI g w κ s tr RV N:=by
 obtain⟨bl,bt,cs,js,r1,r2,r3,r4,r5,r6,r7,r8,r9⟩:=h.rows;refine⟨h.dom,⟨bl,bt,cs,js,r1,r2,r3,r4,r5,r6,r7,by simp at r8;omega,λj y hy hj hN=>?_⟩,h.lab⟩
 by_cases e:j=n
 .subst e;exact hn y hy
 .exact r9 j y hy hj λq=>by rcases List.mem_cons.1 q with q|q<;>contradiction
def WI.add{n bl bt m:Nat}{c:AV}{cs:List AV}(h:WI g w κ s tr RV (n::N))(hj:JOk g w κ tr RV n c)(hw:tr.get w=some (.v [.own bl RV.length,.own bt m]))(ht:tr.get bt=some (.cells 1 true true cs)) :
  WI g w (kdS (kdS κ bt .no) s .t) (s+1) (((tr.set bt .dead).set s (.cells 1 true true (cs++[c]))).set w (.v [.own bl RV.length,.own s (m+1)])) RV N /\
  Stp [] κ s tr (kdS (kdS κ bt .no) s .t) (s+1) (((tr.set bt .dead).set s (.cells 1 true true (cs++[c]))).set w (.v [.own bl RV.length,.own s (m+1)])):=by
 obtain⟨bl',bt',cs',js,r1,r2,r3,r4,r5,r6,r7,r8,r9⟩:=h.rows;rw[hw]at r4;cases r4;rw[ht]at r6;cases r6;have hs:=h.fresh;have ne:∀{b c},κ b≠κ c->b≠c:=by grind
 have ns:∀{b},κ b≠.no->b≠s:=by simp_all
 have sw:s≠w:=by simp_all
 have sb:s≠bt:=by simp_all
 have ge:∀b,κ b≠.w->κ b≠.t->κ b≠.no->(((tr.set bt .dead).set s (.cells 1 true true (cs++[c]))).set w (.v [.own bl RV.length,.own s (cs.length+1)])).get b=tr.get b:=λb h1 h2 h3=>by
  rw[Tr.get_set,if_neg (by simp_all),Tr.get_set,if_neg (ns h3),Tr.get_set,if_neg (by simp_all)]
 have gk:∀b,κ b≠.t->κ b≠.no->kdS (kdS κ bt .no) s .t b=κ b:=λb h1 h2=>by
  rw[qj (ns h2),qj (by simp_all)]
 have hB:∀b,κ b = .box->kdS (kdS κ bt .no) s .t b = .box/\(((tr.set bt .dead).set s (.cells 1 true true (cs++[c]))).set w (.v [.own bl RV.length,.own s (cs.length+1)])).get b=tr.get b:=λb hb =>
  by simp_all
 have hL:∀b F p,κ b = .lab F p->kdS (kdS κ bt .no) s .t b = .lab F p:=by simp_all
 refine⟨⟨λb hb=>?_,⟨bl,s,cs++[c],js++[n],?_,?_,?_,?_,?_,?_,?_,?_,?_⟩,λb F p hb=>?_⟩,⟨by omega,λb hb=>?_,hB,hL,λb F hb=>.inl (by
  by_cases e:b=s
  .rw[e,qF]at hb;cases hb
  .rw[qj e]at hb
   by_cases e2:b=bt
   .rw[e2,qF]at hb;cases hb
   .rw[qj e2]at hb;exact hb)⟩⟩
 .by_cases e:b=s
  .omega
  .rw[qj e]at hb
   by_cases e2:b=bt
   .rw[e2,qF]at hb;exact absurd rfl hb
   .rw[qj e2]at hb;have:=h.dom b hb;omega
 .rw[gk w (by rw[r1];simp) (by rw[r1];simp)];exact r1
 .rw[gk bl (by rw[r2];simp) (by rw[r2];simp)];exact r2
 .rw[qF]
 .rw[Tr.get_set,if_pos rfl];simp
 .rw[ge bl (by rw[r2];simp) (by rw[r2];simp) (by rw[r2];simp)];exact r5
 .rw[Tr.get_set,if_neg sw,Tr.get_set,if_pos rfl]
 .exact qgu.app (hj.mono hB (by simp_all) λ_ _ q=>q) (r7.mono hB (by simp_all) λ_ _ q=>q)
 .simp at r8 ⊢;omega
 .intro j y hy hj hN;exact by grind
 .by_cases e:b=s
  .rw[e,qF]at hb;cases hb
  .rw[qj e]at hb
   by_cases e2:b=bt
   .rw[e2,qF]at hb;cases hb
   .rw[qj e2]at hb;obtain⟨x,q1,q2⟩:=h.lab b F p hb;exact by simp_all
 simp_all
end
section
variable {g w s gp:Nat} {κ:Nat->Kd} {tr:Tr Blk} {RV:List Sy} {N:List Nat} {k:AV->Hp->Prop}
def WI.dropS{y:Sy}(h:WI g w κ s tr (RV++[y]) (RV.length::N))(hy:y.raw=y):WI g w κ s tr (RV++[y]) N:=h.drop λz hz=>by
 simp_all
def jx(a:Nat):IFn:=⟨[],.r [.n 4 0,.n 5 1,.q 6 (.build [.h 0,.w 0,.j 0,.j 0] [(0,1,(.c (.h 32))),(1,1,(.t 5))]),.q 7 (.buildS 1 [.h 0,.w 0,.j 0,.j 0] [(0,4,(.t 6))]),.l 8 a [.t 4,.t 7]]⟩
def qlO(hc:qc P f (jx gp)=true)(hp:qc P gp zb=true)(h:WI g w κ s tr RV N)(a:Int)(hm:RV.length<=1000000)
  (hk:∀κ' s' tr',Stp [] κ s tr κ' s' tr'->WI g w κ' s' tr' (RV++[⟨32,a,0,0⟩]) N->k (.tup []) ⟨s',0,tr'⟩):SC P f [.ptr w 0,.w a] ⟨s,0,tr⟩ k:=by
 refine SC.mk hc (qk ?_);simp only[jx,vI,simprocAttr];simp +decide only[↓vS,vT,simprocAttr];refine qwY hp (h.new .no _ (.inl rfl)) ⟨32,a,0,0⟩ (by rw[Tr.get_set,if_pos rfl];rfl) hm ?_;intro κ' s' tr' st hw;simp +decide only[↓vS,vT,simprocAttr];exact hk _ _ _ ((h.stpNew .no _ (by simp)).trans st) (hw.dropS rfl)
def qa8(a:Nat):IFn:=⟨[],.r [.n 4 0,.n 5 1,.q 6 (.build [.h 0,.w 0,.j 0,.j 0] [(0,1,(.c (.h 6))),(1,1,(.t 5))]),.q 7 (.buildS 1 [.h 0,.w 0,.j 0,.j 0] [(0,4,(.t 6))]),.l 8 a [.t 4,.t 7]]⟩
def qnf(hc:qc P f (qa8 gp)=true)(hp:qc P gp zb=true)(h:WI g w κ s tr RV N)(a:Int)(hm:RV.length<=1000000)
  (hk:∀κ' s' tr',Stp [] κ s tr κ' s' tr'->WI g w κ' s' tr' (RV++[⟨6,a,0,0⟩]) N->k (.tup []) ⟨s',0,tr'⟩):SC P f [.ptr w 0,.w a] ⟨s,0,tr⟩ k:=by
 refine SC.mk hc (qk ?_);simp only[qa8,vI,simprocAttr];simp +decide only[↓vS,vT,simprocAttr];refine qwY hp (h.new .no _ (.inl rfl)) ⟨6,a,0,0⟩ (by rw[Tr.get_set,if_pos rfl];rfl) hm ?_;intro κ' s' tr' st hw;simp +decide only[↓vS,vT,simprocAttr];exact hk _ _ _ ((h.stpNew .no _ (by simp)).trans st) (hw.dropS rfl)
def qaT(hc:qc P f xF=true)(h:WI g w κ s tr RV N){b:Nat}{p:Bool}(hb:κ b = .lab RV.length p)
  (hk:∀tr',(∀c,κ c = .fr->tr'.get c=tr.get c)->(∀c,κ c = .box->tr'.get c=tr.get c)->WI g w (kdS κ b (.lab RV.length true)) s tr' RV N->k (.tup []) ⟨s,0,tr'⟩):SC P f [.ptr w 0,.ptr b 0] ⟨s,0,tr⟩ k:=by
 obtain⟨bl,bt,cs,js,r1,r2,r3,r4,r5,r6,r7,r8,r9⟩:=h.rows;obtain⟨x,q1,q2⟩:=h.lab _ _ _ hb;have ne:∀{b c},κ b≠κ c->b≠c:=by grind
 have nb:∀{c},(∀F p,κ c≠.lab F p)->c≠b:=by grind
 refine qzh hc r4 q1 (Nat.zero_le _) (hk _ (λc hc=>?_) (λc hc=>?_) ⟨λc hc=>?_,⟨bl,bt,cs,js,?_,?_,?_,?_,?_,?_,r7.mono ?_ ?_ λ_ _ q=>q,r8,r9⟩,λc F p hc=>?_⟩)
 .rw[Tr.get_set,if_neg (by simp_all)]
 .rw[Tr.get_set,if_neg (by simp_all)]
 .by_cases e:c=b
  .rw[e];exact h.dom b (by rw[hb];simp)
  .rw[qj e]at hc;exact h.dom c hc
 .rw[qj (by simp_all)];exact r1
 .rw[qj (by simp_all)];exact r2
 .rw[qj (by simp_all)];exact r3
 .rw[Tr.get_set,if_neg (by simp_all)];exact r4
 .rw[Tr.get_set,if_neg (by simp_all)];exact r5
 .rw[Tr.get_set,if_neg (by simp_all)];exact r6
 .simp_all[qj,Tr.get_set]
 .grind[qF,qj]
 .by_cases e:c=b
  .rw[e,qF]at hc;simp_all[Tr.get_set]
  .rw[qj e]at hc;rw[Tr.get_set,if_neg e];exact h.lab c F p hc
def xG(a b:Nat):IFn:=⟨[],sq [.r [.q 5 (.box (.t 0)),.q 6 (.box (.t 1)),.q 8 (.box (.t 3)),.q 9 (.box (.t 4))],.r [.d 11 5,.q 12 (.nilChk (.t 11)),.f 13 0 12,.d 14 13,.e 15 14,.q 10 (.alloc [.j 0]),.u (.store 1 (.t 10) (.t 15))],.r [.d 16 5,.d 17 6,.n 18 2,.q 19 (.build [.h 0,.w 0,.j 0,.j 0] [(0,1,(.t 17)),(1,1,(.t 18))]),.q 20 (.buildS 1 [.h 0,.w 0,.j 0,.j 0] [(0,4,(.t 19))]),.l 21 a [.t 16,.t 20]],.reg true [.d 22 5,.d 23 5,.q 24 (.nilChk (.t 23)),.f 25 1 24,.d 26 25,.q 27 (.mkF b [] [.t 8,.t 5,.t 10,.t 6,.t 9]),.q 28 (.buildS 1 [.nilf] [(0,1,(.t 27))]),.q 29 (.appD 1 8 (.t 26) (.t 28) [5]),.q 30 (.nilChk (.t 22)),.f 31 1 30,.u (.store 1 (.t 31) (.t 29))]]⟩
def qv2(hc:qc P f (xG gp g)=true)(hp:qc P gp zb=true)(h:WI g w κ s tr RV N)(y:Sy){X:Nat}{p:Bool}{o:AV}(hX:κ X = .lab y.th p)
  (ho:(y.code=5/\o = .nilp/\y.el=0)\/(y.code≠5/\∃Y p',o = .ptr Y 0/\κ Y = .lab y.el p')) (hm:RV.length<=1000000) :
  ∃κ' s' tr',Stp [] κ s tr κ' s' tr'/\WI g w κ' s' tr' (RV++[y]) N/\∀k:AV->Hp->Prop,k (.tup []) ⟨s',0,tr'⟩->SC P f [.ptr w 0,.h y.code,.w y.k,.ptr X 0,o] ⟨s,0,tr⟩ k:=by
 obtain⟨bl,bt,cs,js,r1,r2,r3,r4,r5,r6,r7,r8,r9⟩:=h.rows;have hs:=h.fresh;have ws:w<s:=h.dom w (by rw[r1];simp)
 have hod:qcQ o=true/\cellsOf o=[o]/\zd o=true:=by
  rcases ho with⟨_,rfl,_⟩|⟨_,Y,_,rfl,_⟩<;>exact⟨rfl,rfl,rfl⟩
 obtain⟨o1,o2,o3⟩:=hod;have w0:¬w=s:=by omega
 have w1:¬w=s+1:=by omega
 have w2:¬w=s+1+1:=by omega
 have w3:¬w=s+1+1+1:=by omega
 have w4:¬w=s+1+1+1+1:=by omega
 have s1:¬s=s+1:=by omega
 have s2:¬s=s+1+1:=by omega
 have s3:¬s=s+1+1+1:=by omega
 have s4:¬s=s+1+1+1+1:=by omega
 have s0:¬s=s+1+1+1+1+1:=by omega
 have s5:¬s+1=s+1+1:=by omega
 have s6:¬s+1=s+1+1+1:=by omega
 have s7:¬s+1=s+1+1+1+1:=by omega
 have h1:=h.new .box (.v [.ptr w 0]) (by simp_all);have h2:=h1.new .box (.v [.h y.code]) (by simp_all);have h3:=h2.new .box (.v [.ptr X 0]) (by simp_all);have h4:=h3.new .box (.v [o]) (by simp_all);have h5:=h4.new .no (.v [.j 0]) (.inl rfl);have h6:=h5.chg (b:=s+1+1+1+1) .box (.v [.j (RV.length:Int)]) (.inr qF) (by omega) (.inr (.inr rfl));have h7:=h6.new .no (.v [.h y.code,.w y.k,.j 0,.j 0]) (.inl rfl);obtain⟨κ',s',tr',st',hw,hput⟩:=qBv hp h7 y (by rw[Tr.get_set,if_pos rfl];rfl) hm;have d0:∀{b},b<s'->¬b=s':=λh e=>by omega
 obtain⟨bl',bt',cs',js',q1,q2,q3,q4,q5,q6,q7,q8,q9⟩:=hw.rows;have ne:∀{b c},κ' b≠κ' c->b≠c:=by grind
 have nn:∀a:Nat,¬s=s+a+1:=λa h=>by omega
 have ke:∀c:Nat,c<5->kdS (kdS (kdS (kdS (kdS (kdS (kdS κ s .box) (s+1) .box) (s+1+1) .box) (s+1+1+1) .box) (s+1+1+1+1) .no) (s+1+1+1+1) .box) (s+1+1+1+1+1) .no (s+c) = .box:=by
  intro c hc;simp only[kdS];have:c=0\/c=1\/c=2\/c=3\/c=4:=by omega
  rcases this with rfl|rfl|rfl|rfl|rfl<;>simp[s0,s1,s2,s3,s4]
 have b0:=st'.box (s+0) (ke 0 (by omega));have b1:=st'.box (s+1) (ke 1 (by omega));have b2:=st'.box (s+2) (ke 2 (by omega));have b3:=st'.box (s+3) (ke 3 (by omega));have b4:=st'.box (s+4) (ke 4 (by omega));have g0:tr'.get s=some (.v [.ptr w 0]):=by rw[show s=s+0 from rfl,b0.2];simp[Tr.get_set,s0,s1,s2,s3,s4]
 have g1:tr'.get (s+1)=some (.v [.h y.code]):=by rw[b1.2];simp[Tr.get_set]
 have g2:tr'.get (s+2)=some (.v [.ptr X 0]):=by rw[b2.2];simp[Tr.get_set]
 have g3:tr'.get (s+3)=some (.v [o]):=by rw[b3.2];simp[Tr.get_set]
 have g4:tr'.get (s+4)=some (.v [.j (RV.length:Int)]):=by rw[b4.2];simp[Tr.get_set]
 have ws':w<s':=hw.dom w (by rw[q1];simp);have bs':bt'<s':=hw.dom bt' (by rw[q3];simp);have le':s+6<=s':=st'.le;have l0:¬s=s':=by omega
 have l1:¬w=s':=by omega
 have l2:¬bt'=s':=by omega
 have l3:¬w=s'+1:=by omega
 have l4:¬w=bt':=by grind
 have l5:¬s=s'+1:=by omega
 have l6:¬s=bt':=by grind
 have hr1:cs'.length+1<=qi:=by simp only[qi];grind
 have hr2:(cs'.length+1)*8<=qi:=by simp only[qi];grind
 have hw1:=hw.new .no (.v [.fn g [] [.ptr (s+1+1) 0,.ptr s 0,.ptr (s+1+1+1+1) 0,.ptr (s+1) 0,.ptr (s+1+1+1) 0]]) (.inl rfl)
 have bx:∀c v,c<5->κ' (s+c) = .box->tr'.get (s+c)=some (.v [v])->Bx (kdS κ' s' .no) (tr'.set s' (.v [.fn g [] [.ptr (s+1+1) 0,.ptr s 0,.ptr (s+1+1+1+1) 0,.ptr (s+1) 0,.ptr (s+1+1+1) 0]])) (s+c) v:=λc v hc e1 e2=>by
  have:s+c≠s':=by omega
  exact⟨by rw[qj this];exact e1,by rw[Tr.get_set,if_neg this];exact e2⟩
 have lk:∀b F p,κ b = .lab F p->kdS κ' s' .no b = .lab F p:=λb F p hb=>by
  have hbs:b<s:=h.dom b (by rw[hb];simp);rw[qj (by omega)];refine st'.lab b F p ?_;simp only[kdS];rw[if_neg (by omega),if_neg (by omega),if_neg (by omega),if_neg (by omega),if_neg (by omega),if_neg (by omega),if_neg (by omega)];exact hb
 have hj:JOk g w (kdS κ' s' .no) (tr'.set s' (.v [.fn g [] [.ptr (s+1+1) 0,.ptr s 0,.ptr (s+1+1+1+1) 0,.ptr (s+1) 0,.ptr (s+1+1+1) 0]])) (RV++[y]) RV.length (.fn g [] [.ptr (s+1+1) 0,.ptr s 0,.ptr (s+1+1+1+1) 0,.ptr (s+1) 0,.ptr (s+1+1+1) 0]):=by
  refine⟨s+0,s+1,s+2,s+3,s+4,X,p,o,y,rfl,by simp,bx 0 _ (by omega) b0.1 g0,by grind,by grind,by grind,by grind,lk _ _ _ hX,?_⟩
  rcases ho with ho|⟨h1,Y,p',h2,h3⟩
  all_goals grind
 obtain⟨e1,e2⟩:=hw1.add hj (by rw[Tr.get_set,if_neg l1];exact q4) (by rw[Tr.get_set,if_neg l2];exact q6);refine⟨_,_,_,?_,e1,λk hk=>?_⟩
 rotate_left
 .refine SC.mk hc (qk ?_);simp only[xG,vI,simprocAttr];simp +decide only[↓vS,vT,simprocAttr,o1,o2,o3,r4,w0,w1,w2,w3,w4,s1,s2,s3,s4,s5,s6,s7];refine hput _ ?_;simp +decide only[↓vS,vT,simprocAttr];refine zB ?_;simp +decide only[↓vS,vT,simprocAttr,g0,q4,q6,l0,l1,l2,l3,l4,l5,l6,ws',bs',hr1,hr2,zzU];exact hk
 refine Stp.trans (L:=[]) ?_ (st'.trans ((hw.stpNew .no _ (by simp)).trans e2));refine⟨by omega,λb hb=>?_,λb hb=>?_,λb F p hb=>?_,λb F hb=>.inl ?_⟩
 rotate_left 3
 .simp only[kdS]at hb
  repeat' split at hb
  all_goals first|(cases hb;done)|exact hb
 all_goals have hbs:b<s:=h.dom b (by rw[hb];simp)
 .simp only[kdS,Tr.get_set]
  iterate 7 rw[if_neg (by omega)]
  iterate 7 rw[if_neg (by omega)]
  grind
 .simp only[kdS,Tr.get_set]
  iterate 7 rw[if_neg (by omega)]
  iterate 7 rw[if_neg (by omega)]
  grind
 .simp only[kdS]
  iterate 7 rw[if_neg (by omega)]
  exact hb
def qeS(hc:qc P f (xG gp g)=true)(hp:qc P gp zb=true)(h:WI g w κ s tr RV N)(y:Sy){X:Nat}{p:Bool}{o:AV}(hX:κ X = .lab y.th p)
  (ho:(y.code=5/\o = .nilp/\y.el=0)\/(y.code≠5/\∃Y p',o = .ptr Y 0/\κ Y = .lab y.el p')) (hm:RV.length<=1000000)
  (hk:∀κ' s' tr',Stp [] κ s tr κ' s' tr'->WI g w κ' s' tr' (RV++[y]) N->k (.tup []) ⟨s',0,tr'⟩):SC P f [.ptr w 0,.h y.code,.w y.k,.ptr X 0,o] ⟨s,0,tr⟩ k:=by
 obtain⟨κ',s',tr',q1,q2,q3⟩:=qv2 hc hp h y hX ho hm;exact q3 k (by grind)
end
def qgB{α:Type}{f:α->List AV}{m:Nat}(h:∀x,(f x).length=m){xs:List α}{j:Nat}{x x':α}{i:Nat}{v:AV}(hx:xs[j]?=some x)(hi:i<m)(hf:f x'=(f x).take i++([v]++(f x).drop (i+1))) :
  (xs.flatMap f).take (j*m+i)++([v]++(xs.flatMap f).drop (j*m+i+1))=(xs.set j x').flatMap f:=by
 obtain⟨hj,hx⟩:=zzS.1 hx;have e:xs=xs.take j++x::xs.drop (j+1):=by rw[<- hx,List.getElem_cons_drop,List.take_append_drop]
 have hl:(xs.take j).length=j:=by rw[List.length_take];omega
 have hA:((xs.take j).flatMap f).length=j*m:=by rw[qW h,hl]
 have e1:xs.flatMap f=(xs.take j).flatMap f++(f x++(xs.drop (j+1)).flatMap f):=by
  grind
 have e2:(xs.set j x').flatMap f=(xs.take j).flatMap f++(f x'++(xs.drop (j+1)).flatMap f):=by
  rw[List.set_eq_take_append_cons_drop,if_pos hj];simp
 rw[e1,e2,hf,<- hA,List.take_length_add_append,show((xs.take j).flatMap f).length+i+1=((xs.take j).flatMap f).length+(i+1)from rfl,List.drop_length_add_append]
 rw[List.take_append_of_le_length (by rw[h];omega),List.drop_append_of_le_length (by rw[h];omega)];simp
def qd8(s:Sy):(cSy s).length=4:=rfl
def qP:IFn:=⟨[],sq [.reg true [.d 5 1,.q 6 (.nilChk (.t 5)),.f 7 0 6,.d 8 7,.d 9 2,.d 10 0,.q 11 (.nilChk (.t 10)),.f 12 0 11,.d 13 12,.i 14 4 8 9,.f 15 2 14,.u (.store 1 (.t 15) (.t 13))],.r [.d 16 3,.q 17 (.bin .neq (.t 16) (.c (.h 5)))],.cond (.t 17) (.reg true [.d 18 1,.q 19 (.nilChk (.t 18)),.f 20 0 19,.d 21 20,.d 22 2,.d 23 4,.q 24 (.nilChk (.t 23)),.f 25 0 24,.d 26 25,.i 27 4 21 22,.f 28 3 27,.u (.store 1 (.t 28) (.t 26))]) (.skip)]⟩
def qv0(hc:qc P f qP=true){s w bl j b5 b6 b8 b9 b10 X F:Nat}{L:List Sy}{z:Sy}{x o:AV}{c:Int}{e:Nat}{tr:Tr Blk}{k:AV->Hp->Prop}
  (hw:tr.get w=some (.v [.own bl L.length,x])) (hl:tr.get bl=some (.cells 4 true true (rSy L))) (hz:L[j]?=some z)
  (g5:tr.get b5=some (.v [.ptr w 0])) (g6:tr.get b6=some (.v [.h c])) (g8:tr.get b8=some (.v [.ptr X 0])) (g9:tr.get b9=some (.v [o])) (g10:tr.get b10=some (.v [.j (j:Int)]))
  (gX:tr.get X=some (.v [.j (F:Int)])) (hn:w≠bl/\b5≠bl/\b6≠bl/\b8≠bl/\b9≠bl/\b10≠bl/\X≠bl) (hd:bl<s)
  (ho:(c=5/\e=z.el)\/(c≠5/\∃Y,o = .ptr Y 0/\Y≠bl/\tr.get Y=some (.v [.j (e:Int)])))
  (hk:∀tr',(∀b,tr'.get b=if b=bl then some (.cells 4 true true (rSy (L.set j ⟨z.code,z.k,F,e⟩)))else tr.get b)->k (.tup []) ⟨s,0,tr'⟩) :
  SC P f [.ptr b8 0,.ptr b5 0,.ptr b10 0,.ptr b6 0,.ptr b9 0] ⟨s,0,tr⟩ k:=by
 obtain⟨n1,n2,n3,n4,n5,n6,n7⟩:=hn;have hj:j<L.length:=by grind
 have hj4:j*4+2+1<=(rSy L).length:=by rw[qao];omega
 have h1:(rSy L).take (j*4+2) ++ .j (F:Int)::(rSy L).drop (j*4+2+1)=rSy (L.set j ⟨z.code,z.k,F,z.el⟩):=qgB qd8 hz (by omega) rfl;have hz2:(L.set j ⟨z.code,z.k,F,z.el⟩)[j]?=some ⟨z.code,z.k,F,z.el⟩:=by grind
 have h2:(rSy (L.set j ⟨z.code,z.k,F,z.el⟩)).take (j*4+3) ++ .j (e:Int)::(rSy (L.set j ⟨z.code,z.k,F,z.el⟩)).drop (j*4+3+1)=rSy (L.set j ⟨z.code,z.k,F,e⟩):=by
  have:=qgB (x':=⟨z.code,z.k,F,e⟩) (v:=.j (e:Int)) (i:=3) qd8 hz2 (by omega) rfl;rw[List.set_set]at this;exact this
 have hj5:j*4+3+1<=(rSy (L.set j ⟨z.code,z.k,F,z.el⟩)).length:=by rw[qao,List.length_set];omega
 refine SC.mk hc (qk ?_);simp only[qP,vI,simprocAttr];refine zB ?_;simp +decide only[↓vS,vT,simprocAttr,g5,hw,g10,g8,gX,hl,n1,n2,n3,n4,n5,n6,n7,hj,hd,hj4,h1];rcases ho with⟨rfl,rfl⟩|⟨hc5,Y,rfl,nY,gY⟩
 .simp +decide only[↓vS,vT,simprocAttr,g6]
  simp_all[Tr.get_set]
 .simp +decide only[↓vS,vT,simprocAttr,g6,hc5];refine zB ?_;have n1':¬w=bl:=n1;simp +decide only[↓vS,vT,simprocAttr,g5,hw,g10,g9,gY,hl,n1,n2,n3,n4,n5,n6,n7,nY,hj,hd,hj5,List.length_set,h2]
  simp_all[Tr.get_set]
def zf:IFn:=⟨[.tmp 2],sq [.r [.m 2 .N],sq [.r [.n 5 0,.q 6 (.nilChk (.t 5)),.f 7 1 6,.d 8 7,.e 9 8,.m 10 (.k 0)],.blk 0 (.loop (sq [.r [.s 11 10 9],.cond (.t 11) (.skip) (.exit 0),.blk 1 (sq [.r [.i 12 1 8 10,.d 13 12,.n 4 13],.r [.n 14 4,⟨(some 15),.callV (.t 14) [],none⟩]]),.r [.a 16 10 1,.n 10 16]]))],.r [.n 17 0,.q 18 (.nilChk (.t 17)),.f 19 0 18,.d 20 19,.n 2 20],.ret]⟩
def qfv(js:List Nat)(RV:List Sy):List Sy:=RV.mapIdx λj y=>if j ∈ js then y else y.raw
theorem qtL{RV:List Sy}:qfv [] RV=RV.map Sy.raw:=by
 apply List.ext_getElem?;intro i;simp[qfv]
theorem qna{js:List Nat}{RV:List Sy}:(qfv js RV).length=RV.length:=by simp[qfv]
theorem qj2{js:List Nat}{RV:List Sy}{j:Nat}:(qfv js RV)[j]?=(RV[j]?).map λy=>if j ∈ js then y else y.raw:=by simp[qfv]
def qqG{js:List Nat}{RV:List Sy}{j:Nat}{y:Sy}(hy:RV[j]?=some y):(qfv js RV).set j y=qfv (js++[j]) RV:=by
 have hj:j<RV.length:=by grind
 apply List.ext_getElem?
 grind[qna,qj2]
def qtK{js:List Nat}{RV:List Sy}(h:∀(j:Nat) y,RV[j]?=some y->j ∉ js->y.raw=y):qfv js RV=RV:=by
 apply List.ext_getElem?
 grind[qj2]
theorem qgu.get{g w:Nat}{κ:Nat->Kd}{tr:Tr Blk}{RV:List Sy}:∀{js:List Nat} {cs:List AV},qgu g w κ tr RV js cs->∀{i:Nat} {c:AV},cs[i]?=some c->∃j,js[i]?=some j/\JOk g w κ tr RV j c
 | [],[],_,_,_,h=>by grind
 | j::js,c::cs,h,0,_,hi=>by simp at hi;subst hi;exact⟨j,rfl,h.1⟩
 | j::js,c::cs,h,i+1,_,hi=>by simpa using qgu.get h.2 (by simp_all)
 | [],_::_,h,_,_,_=>h.elim
 | _::_,[],h,_,_,_=>h.elim
theorem qgu.len{g w:Nat}{κ:Nat->Kd}{tr:Tr Blk}{RV:List Sy}:∀{js:List Nat} {cs:List AV},qgu g w κ tr RV js cs->js.length=cs.length
 | [],[],_=>rfl
 | _::_,_::_,h=>by simp[qgu.len h.2]
 | [],_::_,h=>h.elim
 | _::_,[],h=>h.elim
def qva{g w s:Nat}{κ:Nat->Kd}{tr:Tr Blk}{RV:List Sy}{k:AV->Hp->Prop}(hc:qc P f zf=true)(hg:qc P g qP=true)(h:WI g w κ s tr RV [])(hp:∀b F p,κ b = .lab F p->p=true)(hm:RV.length<=1000000)
  (hk:∀tr' b,tr'.get b=some (.cells 4 true true (rSy RV))->b<s->k (.own b RV.length) ⟨s,0,tr'⟩):SC P f [.ptr w 0] ⟨s,0,tr⟩ k:=by
 obtain⟨bl,bt,cs,js,r1,r2,r3,r4,r5,r6,r7,r8,r9⟩:=h.rows;have ne:∀{b c},κ b≠κ c->b≠c:=by grind
 have hjl:=r7.len;refine SC.mk hc (qk ?_);simp only[zf,vI,simprocAttr];simp +decide only[↓vS,vT,simprocAttr,r4];have wl:w≠bl:=by simp_all
 have tl:bt≠bl:=by simp_all
 refine SL.loopP (α:=Nat) (λi=>[(0,.ptr w 0),(2,.nils),(8,.own bt cs.length),(9,.j (cs.length:Int)),(10,.j (i:Int))])
  (λi h=>i<=cs.length/\∃tr',h=⟨s,0,tr'⟩/\∀b,tr'.get b=if b=bl then some (.cells 4 true true (rSy (qfv (js.take i) RV)))else tr.get b) (λi=>cs.length-i) ?_ 0 ?_ ?_
 .rintro i h1 ⟨hi,tr',rfl,hget⟩ G ih;simp only[vI,simprocAttr];have g4:tr'.get w=some (.v [.own bl RV.length,.own bt cs.length]):=by rw[hget,if_neg wl];exact r4
  have g5:tr'.get bl=some (.cells 4 true true (rSy (qfv (js.take i) RV))):=by rw[hget,if_pos rfl]
  have g6:tr'.get bt=some (.cells 1 true true cs):=by rw[hget,if_neg tl];exact r6
  by_cases hlt:i<cs.length
  .obtain⟨j,hj,b5,b6,b8,b9,b10,X,p,o,y,h0,h1,h2,h3,h4,h5,h6,h7,h8⟩:=r7.get (zzE hlt);have hci:cs[i]?=some (.fn g [] [.ptr b8 0,.ptr b5 0,.ptr b10 0,.ptr b6 0,.ptr b9 0]):=by rw[zzE hlt,h0]
   have nb:∀{b v},Bx κ tr b v->b≠bl/\tr'.get b=some (.v [v]):=λ{b v} q=>by
    have e:b≠bl:=ne (by rw[q.1,r2];simp);exact⟨e,by rw[hget,if_neg e];exact q.2⟩
   have nl:∀{b F p},κ b = .lab F p->b≠bl/\tr'.get b=some (.v [.j (F:Int)]):=λ{b F p} q=>by
    have e:b≠bl:=by grind
    obtain⟨x,q1,q2⟩:=h.lab b F p q;exact by grind
   have hlt':(i:Int)<cs.length:=by omega
   have hw1:IntKind.wrap .i64 ((i:Int)+1)=((i+1:Nat):Int):=by rw[qp (by omega) (by omega)];simp
   simp +decide only[↓vS,vT,simprocAttr,hlt',hlt,g6,hci,zzU];have hz:(qfv (js.take i) RV)[j]?=some (if j ∈ js.take i then y else y.raw):=by rw[qj2,h1];rfl
   refine qv0 (F:=y.th) (e:=y.el) (c:=y.code) (L:=qfv (js.take i) RV) hg (by rw[qna];exact g4) g5 hz (nb h2).2 (nb h3).2 (nb h4).2 (nb h5).2 (nb h6).2 (nl h7).2 (by grind) (by grind[WI.dom]) ?_ ?_
   .rcases h8 with⟨h8,rfl,h9⟩|⟨h8,Y,p',rfl,h9⟩
    .exact .inl ⟨h8,by split<;>simp[h9,Sy.raw]⟩
    .exact by grind
   .intro tr2 hget2;have ec:∀b:Bool,(⟨(if j ∈ js.take i then y else y.raw).code,(if j ∈ js.take i then y else y.raw).k,y.th,y.el⟩:Sy)=y:=λ_=>by split<;>rfl
    rw[ec true,qqG h1]at hget2;simp +decide only[↓vS,vT,simprocAttr,hw1];refine ih (i+1) _ _ (by omega) ?_ ⟨by omega,tr2,rfl,λb=>?_⟩
    .simp[qg,ql,Tr.get_set]
    .rw[hget2,hget];have:js.take (i+1)=js.take i++[j]:=by rw[List.take_add_one,hj];rfl
     rw[this];split<;>rfl
  .obtain rfl:i=cs.length:=by omega
   have hlt':¬((cs.length:Int)<cs.length):=by omega
   simp +decide only[↓vS,vT,simprocAttr,hlt',g4];rw[show js.take cs.length=js from by rw[<- hjl,List.take_length]]at g5
   rw[qtK (by grind)]at g5;exact by grind[WI.dom]
 .simp[qg,ql,Tr.get_set]
 grind[qtL]
theorem Stp.kd{L L':List Nat}{κ κ1:Nat->Kd}{s s1:Nat}{tr t1 t2:Tr Blk}(a:Stp L κ s tr κ1 s1 t1)(hd:∀b,κ b≠.no->b<s){b F':Nat}(hb:s<=b)(hf:∀c,κ1 c = .fr->t2.get c=t1.get c)(hx:∀c,κ1 c = .box->t2.get c=t1.get c)(hL:∀c ∈ L,c=b\/c ∈ L'):Stp L' κ s tr (kdS κ1 b (.lab F' true)) s1 t2:=by
 have ne:∀{c},κ c≠.no->c≠b:=by grind
 refine⟨a.le,λc hc=>?_,λc hc=>?_,λc F p hc=>?_,λc F hc=>?_⟩
 .rw[qj (by simp_all)];exact by grind[Stp.fr]
 .rw[qj (by simp_all)];exact by grind[Stp.box]
 .rw[qj (by simp_all)];exact a.lab c F p hc
 grind[qF,qj,Stp.nw]
def qdJ(a mask v:Int)(p F:Nat):List Sy :=
 if mask=0 then []else if mask=4294967295 then [⟨32,a,0,0⟩,⟨21,v,p+2,F⟩]else [⟨32,a,0,0⟩,⟨84,mask,0,0⟩,⟨21,v,p+3,F⟩]
def qb0(mask:Int):Nat:=if mask=0 then 0 else if mask=4294967295 then 2 else 3
theorem qb7{a m v:Int}{p F:Nat}:(qdJ a m v p F).length=qb0 m:=by
 unfold qdJ qb0;grind
section
variable {g w s gl gp gj gh:Nat} {κ:Nat->Kd} {tr:Tr Blk} {RV:List Sy} {N:List Nat} {k:AV->Hp->Prop}
def xE(a b c d:Nat):IFn:=⟨[],sq [sq [.r [.n 11 2,.q 12 (.bin .eql (.t 11) (.c (.w 0)))],.cond (.t 12) (.ret) (.skip)],.r [.n 13 0,.n 14 1,.l 15 a [.t 13,.t 14]],sq [.r [.n 16 2,.q 17 (.bin .neq (.t 16) (.c (.w 4294967295)))],.cond (.t 17) (.r [.n 18 0,.n 19 2,.q 20 (.build [.h 0,.w 0,.j 0,.j 0] [(0,1,(.c (.h 84))),(1,1,(.t 19))]),.q 21 (.buildS 1 [.h 0,.w 0,.j 0,.j 0] [(0,4,(.t 20))]),.l 22 b [.t 18,.t 21]]) (.skip)],.r [.q 23 (.build [.j 0] []),.q 24 (.box (.t 23)),.n 10 24],.r [.n 25 0,.n 26 3,.n 27 10,.n 28 4,.l 29 c [.t 25,(.c (.h 21)),.t 26,.t 27,.t 28]],.r [.n 30 0,.n 31 10,.l 32 d [.t 30,.t 31]]]⟩
def qvO(hc:qc P f (xE gl gp gj gh)=true)(h1:qc P gl (jx gp)=true)(h2:qc P gp zb=true)(h3:qc P gj (xG gp g)=true)(h4:qc P gh xF=true)
  (h:WI g w κ s tr RV N) (a m v:Int) {X F:Nat} {p:Bool} (hX:κ X = .lab F p) (hm:RV.length+3<=1000000)
  (hk:∀κ' s' tr',Stp [] κ s tr κ' s' tr'->WI g w κ' s' tr' (RV++qdJ a m v RV.length F) N->k (.tup []) ⟨s',0,tr'⟩):SC P f [.ptr w 0,.w a,.w m,.w v,.ptr X 0] ⟨s,0,tr⟩ k:=by
 refine SC.mk hc (qk ?_);simp only[xE,vI,simprocAttr];unfold qdJ at hk
 by_cases m0:m=0
 .rw[if_pos m0]at hk;simp +decide only[↓vS,vT,simprocAttr,m0]
  grind[Stp.refl]
 rw[if_neg m0]at hk;simp +decide only[↓vS,vT,simprocAttr,m0];refine qlO h1 h2 h a (by omega) λκ1 s1 t1 st1 w1=>?_
 by_cases m1:m=4294967295
 .rw[if_pos m1]at hk;simp +decide only[↓vS,vT,simprocAttr,m1];have w2:=w1.new (.lab (RV.length+2) false) _ (.inr (.inr (.inr ⟨_,rfl,rfl⟩)));have st2:=st1.trans (w1.stpLab (.lab (RV.length+2) false) (.v [.j 0]));refine qeS h3 h2 w2 ⟨21,v,RV.length+2,F⟩ qF (.inr ⟨(by decide:(21:Int)≠5),X,p,rfl,st2.lab X F p hX⟩) (by grind) λκ3 s3 t3 st3 w3=>?_
  simp +decide only[↓vS,vT,simprocAttr]
  have hb:κ3 s1 = .lab (RV++[(⟨32,a,0,0⟩:Sy)]++[(⟨21,v,RV.length+2,F⟩:Sy)]).length false:=by
   rw[st3.lab s1 _ _ qF];simp
  refine qaT h4 w3 hb λt4 q1 q2 w4=>?_
  simp +decide only[↓vS,vT,simprocAttr];rw[List.append_assoc]at w4;exact hk _ _ _ (((st2.trans st3)).kd h.dom st1.le q1 q2 (by simp)) w4
 .rw[if_neg m1]at hk;simp +decide only[↓vS,vT,simprocAttr,m1];refine qwY h2 (w1.new .no _ (.inl rfl)) ⟨84,m,0,0⟩ (by rw[Tr.get_set,if_pos rfl];rfl) (by grind) λκ2 s2 t2 st2 w2=>?_
  have w2:=w2.dropS rfl;have st2:=st1.trans ((w1.stpNew _ _ (by simp)).trans st2);simp +decide only[↓vS,vT,simprocAttr];have w3:=w2.new (.lab (RV.length+3) false) _ (.inr (.inr (.inr ⟨_,rfl,rfl⟩)));have st3:=st2.trans (w2.stpLab (.lab (RV.length+3) false) (.v [.j 0]));refine qeS h3 h2 w3 ⟨21,v,RV.length+3,F⟩ qF (.inr ⟨(by decide:(21:Int)≠5),X,p,rfl,st3.lab X F p hX⟩) (by grind) λκ4 s4 t4 st4 w4=>?_
  simp +decide only[↓vS,vT,simprocAttr]
  have hb:κ4 s2 = .lab (RV++[(⟨32,a,0,0⟩:Sy)]++[(⟨84,m,0,0⟩:Sy)]++[(⟨21,v,RV.length+3,F⟩:Sy)]).length false:=by
   rw[st4.lab s2 _ _ qF];simp
  refine qaT h4 w4 hb λt5 q1 q2 w5=>?_
  simp +decide only[↓vS,vT,simprocAttr];rw[List.append_assoc,List.append_assoc]at w5;exact hk _ _ _ ((st3.trans st4).kd h.dom st2.le q1 q2 (by simp)) w5
end
def qhV:IFn:=⟨[.tmp 4,.tmp 5],sq [.r [.m 4 (.c (.w 0)),.m 5 .F],sq [.r [.n 6 0,.w 7 .lss 6 0,.n 8 7,.z 9 0 8,.g 10 (.bin .gtr (.t 9) (.k 5)) 8 false,.o 11 8 10],.cond (.t 11) (sq [.r [.m 4 (.c (.w 0)),.m 5 .F],.ret]) (.skip)],.r [.n 12 0,.q 13 (.bin .mul (.k 8) (.t 12)),.q 14 (.bin .add (.k 16) (.t 13)),.n 15 1,.b 16 .add 14 15,.q 17 (.cvInt .u32 (.t 16)),.n 4 17,.m 5 .T],.ret]⟩
def qEe(hc:qc P f qhV=true)(a b:Int)(h0:0<=a)(h6:a<6)(hb0:0<=b)(hb:b<=4):qa P f [.j a,.j b] (.tup [.w (16+8*a+b),.b true]):=by
 refine qa.mk hc rfl ?_;have n1:¬a<0:=by omega
 have n2:¬5<a:=by omega
 have e1:IntKind.wrap .i64 (8*a)=8*a:=by grind[qp]
 have e2:IntKind.wrap .i64 (16+8*a)=16+8*a:=by grind[qp]
 have e3:IntKind.wrap .i64 (16+8*a+b)=16+8*a+b:=by grind[qp]
 have e4:IntKind.wrap .u32 (16+8*a+b)=16+8*a+b:=by grind[qdk]
 simp only[qhV,vI,simprocAttr];simp +decide only[↓vS,vT,simprocAttr,n1,n2,e1,e2,e3,e4];simp[vZ]
def qkg(a:Nat):IFn:=⟨[.tmp 2,.tmp 3],sq [.r [.m 2 (.c (.w 0)),.m 3 .F],.r [.n 4 0,.l 5 a [.t 4,.k 0],.x 6 5 0,.x 7 5 1,.n 2 6,.n 3 7],.ret]⟩
def qFB{g:Nat}(hc:qc P f (qkg g)=true)(hg:∀a b:Int,0<=a->a<6->0<=b->b<=4->qa P g [.j a,.j b] (.tup [.w (16+8*a+b),.b true]))(a:Int)(h0:0<=a)(h6:a<6):qa P f [.j a] (.tup [.w (16+8*a),.b true]):=by
 refine qa.mk hc rfl ?_;simp only[qkg,vI,simprocAttr];simp +decide only[↓vS,vT,simprocAttr];refine(hg a 0 h0 h6 (by omega) (by omega)).sc ?_;simp +decide only[↓vS,vT,simprocAttr];simp[vZ]
def qi3(a:Nat):IFn:=⟨[.tmp 2,.tmp 3],sq [.r [.m 2 (.c (.w 0)),.m 3 .F],.r [.n 4 0,.l 5 a [.t 4,.k 4],.x 6 5 0,.x 7 5 1,.n 2 6,.n 3 7],.ret]⟩
def qC0{g:Nat}(hc:qc P f (qi3 g)=true)(hg:∀a b:Int,0<=a->a<6->0<=b->b<=4->qa P g [.j a,.j b] (.tup [.w (16+8*a+b),.b true]))(a:Int)(h0:0<=a)(h6:a<6):qa P f [.j a] (.tup [.w (16+8*a+4),.b true]):=by
 refine qa.mk hc rfl ?_;simp only[qi3,vI,simprocAttr];simp +decide only[↓vS,vT,simprocAttr];refine(hg a 4 h0 h6 (by omega) (by omega)).sc ?_;simp +decide only[↓vS,vT,simprocAttr];simp[vZ]
def qbV(t:GTest):Nat:=qb0 (loW t.mask)+qb0 (hiW t.mask)+1
def qif(t:GTest)(p:Nat):List Sy :=
 qdJ (16+8*t.arg) (loW t.mask) (loW t.val) p (p+qbV t)++qdJ (16+8*t.arg+4) (hiW t.mask) (hiW t.val) (p+qb0 (loW t.mask)) (p+qbV t)++[⟨6,t.act,0,0⟩]
theorem qfA{t:GTest}{p:Nat}:(qif t p).length=qbV t:=by simp[qif,qbV,qb7];omega
def qiZ{m:Int}:qb0 m<=3:=by unfold qb0;grind
theorem qp1{t:GTest}:qbV t<=7:=by have:=qiZ (m:=loW t.mask);have:=qiZ (m:=hiW t.mask);unfold qbV;omega
structure TstOk (t:GTest):Prop where
 a0:0<=t.arg
 a1:t.arg<6
 m0:0<=t.mask
 m1:t.mask<18446744073709551616
 v0:0<=t.val
 v1:t.val<18446744073709551616
def qsF(P:Program)(f:Nat)(b:Int):Prop:=∀a:Int,0<=a->a<6->qa P f [.j a] (.tup [.w (16+8*a+b),.b true])
structure WFn (P:Program) (g gl gp gj gh gr:Nat):Prop where
 ld:qc P gl (jx gp)=true
 put:qc P gp zb=true
 jmp:qc P gj (xG gp g)=true
 here:qc P gh xF=true
 ret:qc P gr (qa8 gp)=true
section
variable {g w s gl gp gj gh gr g1 g2 g3 g4 g5:Nat} {κ:Nat->Kd} {tr:Tr Blk} {RV:List Sy} {N:List Nat} {k:AV->Hp->Prop}
def jy(a b c d e g:Nat):IFn:=⟨[],sq [.r [.q 3 (.box (.t 1))],.r [.q 13 (.build [.j 0] []),.q 14 (.box (.t 13)),.n 4 14],.r [.f 16 0 3,.d 17 16,.l 18 a [.t 17],.n 15 18,.x 19 15 0,.x 20 15 1,.n 5 19,.n 6 20],.r [.f 22 0 3,.d 23 22,.l 24 b [.t 23],.n 21 24,.x 25 21 0,.x 26 21 1,.n 7 25,.n 8 26],.r [.f 28 1 3,.d 29 28,.l 30 c [.t 29],.n 27 30,.x 31 27 0,.x 32 27 1,.n 9 31,.n 10 32],.r [.f 34 2 3,.d 35 34,.l 36 c [.t 35],.n 33 36,.x 37 33 0,.x 38 33 1,.n 11 37,.n 12 38],.r [.n 39 0,.n 40 5,.n 41 9,.n 42 11,.n 43 4,.l 44 d [.t 39,.t 40,.t 41,.t 42,.t 43]],.r [.n 45 0,.n 46 7,.n 47 10,.n 48 12,.n 49 4,.l 50 d [.t 45,.t 46,.t 47,.t 48,.t 49]],.r [.n 51 0,.f 52 3 3,.d 53 52,.l 54 e [.t 51,.t 53]],.r [.n 55 0,.n 56 4,.l 57 g [.t 55,.t 56]]]⟩
def qEW(hc:qc P f (jy g1 g2 g3 g4 gr gh)=true)(W:WFn P g gl gp gj gh gr)(c1:qsF P g1 0)(c2:qsF P g2 4)(c3:qyA P g3)(c4:qc P g4 (xE gl gp gj gh)=true)
  (h:WI g w κ s tr RV N) (t:GTest) (ht:TstOk t) (hm:RV.length+7<=1000000)
  (hk:∀κ' s' tr',Stp [] κ s tr κ' s' tr'->WI g w κ' s' tr' (RV++qif t RV.length) N->k (.tup []) ⟨s',0,tr'⟩):SC P f [.ptr w 0,.agg (jz t)] ⟨s,0,tr⟩ k:=by
 refine SC.mk hc (qk ?_);simp only[jy,jz,vI,simprocAttr];simp +decide only[↓vS,vT,simprocAttr];have s1:¬s=s+1:=by omega
 have w1:=h.new .fr (.v [.j t.arg,.x t.mask,.x t.val,.w t.act]) (.inr (.inl rfl));have w2:=w1.new (.lab (RV.length+qbV t) false) _ (.inr (.inr (.inr ⟨_,rfl,rfl⟩)));have st2:=(h.stpNew .fr (.v [.j t.arg,.x t.mask,.x t.val,.w t.act]) (by simp)).trans (w1.stpLab (.lab (RV.length+qbV t) false) (.v [.j 0]));have hX:=qF (κ:=kdS κ s .fr) (b:=s+1) (x:=.lab (RV.length+qbV t) false);have hf:kdS (kdS κ s .fr) (s+1) (.lab (RV.length+qbV t) false) s = .fr:=by rw[qj (by omega),qF]
 simp only[s1,↓vS,vT,simprocAttr];refine(c1 t.arg ht.a0 ht.a1).sc ?_;simp only[↓vS,vT,simprocAttr,s1];refine(c2 t.arg ht.a0 ht.a1).sc ?_;simp only[↓vS,vT,simprocAttr,s1];refine(c3 t.mask ht.m0 ht.m1).sc ?_;simp only[↓vS,vT,simprocAttr,s1];refine(c3 t.val ht.v0 ht.v1).sc ?_;simp only[↓vS,vT,simprocAttr,s1];refine qvO c4 W.ld W.put W.jmp W.here w2 _ _ _ hX (by omega) λκ3 s3 t3 st3 w3=>?_
 simp only[↓vS,vT,simprocAttr];have l3:(RV++qdJ (16+8*t.arg+0) (loW t.mask) (loW t.val) RV.length (RV.length+qbV t)).length=RV.length+qb0 (loW t.mask):=by rw[zzP,qb7]
 have n1:=qiZ (m:=loW t.mask);have n2:=qiZ (m:=hiW t.mask);refine qvO c4 W.ld W.put W.jmp W.here w3 _ _ _ (st3.lab _ _ _ hX) (by rw[l3];omega) λκ4 s4 t4 st4 w4=>?_
 rw[l3]at w4
 have g4:t4.get s=some (.v [.j t.arg,.x t.mask,.x t.val,.w t.act]):=by
  rw[((st3.trans st4).fr s hf).2,Tr.get_set,if_neg (by omega),Tr.get_set,if_pos rfl]
 simp only[↓vS,vT,simprocAttr,g4];refine qnf W.ret W.put w4 t.act (by grind[qb7]) λκ5 s5 t5 st5 w5=>?_
 simp only[↓vS,vT,simprocAttr]
 have e5:RV++qdJ (16+8*t.arg+0) (loW t.mask) (loW t.val) RV.length (RV.length+qbV t)++qdJ (16+8*t.arg+4) (hiW t.mask) (hiW t.val) (RV.length+qb0 (loW t.mask)) (RV.length+qbV t)++[⟨6,t.act,0,0⟩]=RV++qif t RV.length:=by
  simp[qif]
 rw[e5]at w5;refine qaT W.here w5 (p:=false) (by rw[zzP,qfA];exact((st3.trans st4).trans st5).lab _ _ _ hX) λt6 q1 q2 w6=>?_
 simp only[↓vS,vT,simprocAttr];exact hk _ _ _ ((((st2.trans st3).trans st4).trans st5).kd h.dom (by omega) q1 q2 (by simp)) w6
end
def qcn:List GTest->Int->Nat->List Sy
 | [],a,_=>[⟨6,a,0,0⟩]
 | t::ts,a,p=>qif t p++if t.mask=0 then []else qcn ts a (p+qbV t)
def qtS(r:GRule)(p:Nat):List Sy:=qcn r.tests r.act p
section
variable {g w s gl gp gj gh gr g1 g2 g3 g4 g5:Nat} {κ:Nat->Kd} {tr:Tr Blk} {RV:List Sy} {N:List Nat} {k:AV->Hp->Prop}
def qaU(a b:Nat):IFn:=⟨[],sq [.r [.q 3 (.box (.t 1))],sq [.r [.f 6 1 3,.d 7 6,.e 8 7,.m 9 (.k 0)],.blk 0 (.loop (sq [.r [.s 10 9 8],.cond (.t 10) (.skip) (.exit 0),.blk 1 (sq [.r [.i 11 4 7 9,.v 12 4 11,.q 5 (.alloc [.j 0,.x 0,.x 0,.w 0]),.u (.store 4 (.t 5) (.t 12))],.r [.n 13 0,.v 14 4 5,.l 15 a [.t 13,.t 14]],.r [.f 16 1 5,.d 17 16,.q 18 (.bin .eql (.t 17) (.c (.x 0)))],.cond (.t 18) (.ret) (.skip)]),.r [.a 19 9 1,.n 9 19]]))],.r [.n 20 0,.f 21 2 3,.d 22 21,.l 23 b [.t 20,.t 22]]]⟩
def qEz(hc:qc P f (qaU g5 gr)=true)(W:WFn P g gl gp gj gh gr)(h5:qc P g5 (jy g1 g2 g3 g4 gr gh)=true)(c1:qsF P g1 0)(c2:qsF P g2 4)(c3:qyA P g3)(c4:qc P g4 (xE gl gp gj gh)=true)
  (h:WI g w κ s tr RV N) (r:GRule) (ht:∀t ∈ r.tests,TstOk t) (hm:RV.length+r.tests.length*7+1<=1000000)
  (hk:∀κ' s' tr',Stp [] κ s tr κ' s' tr'->WI g w κ' s' tr' (RV++qtS r RV.length) N->k (.tup []) ⟨s',0,tr'⟩):SC P f [.ptr w 0,.agg (zu r)] ⟨s,0,tr⟩ k:=by
 refine SC.mk hc (qk ?_);simp only[qaU,zu,vI,simprocAttr];simp +decide only[↓vS,vT,simprocAttr];have w1:=h.new .fr (.v [.w r.nr,.fz r.tests.length (rT r.tests),.w r.act]) (.inr (.inl rfl));have st1:=h.stpNew .fr (.v [.w r.nr,.fz r.tests.length (rT r.tests),.w r.act]) (by simp)
 refine SL.loopP (α:=Nat) (λi=>[(0,.ptr w 0),(3,.ptr s 0),(7,.fz r.tests.length (rT r.tests)),(8,.j (r.tests.length:Int)),(9,.j (i:Int))])
  (λi h=>i<=r.tests.length/\∃κ' s' tr' RV',h=⟨s',0,tr'⟩/\Stp [] (kdS κ s .fr) (s+1) (tr.set s (.v [.w r.nr,.fz r.tests.length (rT r.tests),.w r.act])) κ' s' tr'/\WI g w κ' s' tr' RV' N /\
   RV'++qcn (r.tests.drop i) r.act RV'.length=RV++qtS r RV.length/\RV'.length<=RV.length+i*7) (λi=>r.tests.length-i) ?_ 0 ?_ ?_
 .rintro i h1 ⟨hi,κ',s',tr',RV',rfl,st,w',he,hl⟩ G ih;simp only[vI,simprocAttr]
  have gs:tr'.get s=some (.v [.w r.nr,.fz r.tests.length (rT r.tests),.w r.act]):=by
   rw[(st.fr s qF).2,Tr.get_set,if_pos rfl]
  by_cases hlt:i<r.tests.length
  .have hlt':(i:Int)<r.tests.length:=by omega
   obtain⟨t,hti⟩:∃t,r.tests[i]?=some t:=⟨_,zzE hlt⟩;have hel:=qr3 hti;have h4:i*4+4<=(rT r.tests).length:=by rw[qeZ];omega
   have hd:r.tests.drop i=t::r.tests.drop (i+1):=by rw[<- (zzS.1 hti).2,List.getElem_cons_drop]
   rw[hd]at he;have hw1:IntKind.wrap .i64 ((i:Int)+1)=((i+1:Nat):Int):=by rw[qp (by omega) (by omega)];simp
   simp +decide only[↓vS,vT,simprocAttr,hlt',hlt,h4,hel,jz];have wa:=w'.new .fr (.v [.j 0,.x 0,.x 0,.w 0]) (.inr (.inl rfl));have wb:=wa.chg (b:=s') .fr (.v (jz t)) (.inl qF) (by omega) (.inr (.inl rfl));refine qEW h5 W c1 c2 c3 c4 wb t (by grind) (by omega) λκ2 s2 t2 st2 w2=>?_
   have fb:=st2.fr s' qF
   have gb:t2.get s'=some (.v [.j t.arg,.x t.mask,.x t.val,.w t.act]):=by
    rw[fb.2,Tr.get_set,if_pos rfl];rfl
   have ss:s<s':=by have:=st.le;omega
   have st3:Stp [] κ' s' tr' κ2 s2 t2:=by
    refine Stp.trans (L:=[]) ?_ st2;refine⟨by omega,λb hb=>?_,λb hb=>?_,λb F p hb=>?_,λb F hb=>.inl ?_⟩
    rotate_left 3
    .simp only[kdS]at hb
     repeat' split at hb
     all_goals first|(cases hb;done)|exact hb
    all_goals have hbs:b<s':=w'.dom b (by rw[hb];simp)
    all_goals grind[qj,Tr.get_set]
   simp +decide only[↓vS,vT,simprocAttr,gb];unfold qcn at he
   by_cases hm0:t.mask=0
   .rw[if_pos hm0,List.append_nil]at he;simp +decide only[↓vS,vT,simprocAttr,hm0];rw[he]at w2;exact hk _ _ _ (st1.trans (st.trans st3)) w2
   .rw[if_neg hm0]at he;simp +decide only[↓vS,vT,simprocAttr,hm0,hw1];refine ih (i+1) _ _ (by omega) ?_ ⟨by omega,κ2,s2,t2,_,rfl,st.trans st3,w2,?_,?_⟩
    .simp[qg,ql,Tr.get_set]
    all_goals grind[qfA,qp1]
  .obtain rfl:i=r.tests.length:=by omega
   have hlt':¬((r.tests.length:Int)<r.tests.length):=by omega
   rw[List.drop_length]at he;simp +decide only[↓vS,vT,simprocAttr,hlt',gs];refine qnf W.ret W.put w' r.act (by omega) λκ2 s2 t2 st2 w2=>?_
   simp +decide only[↓vS,vT,simprocAttr];unfold qcn at he;rw[he]at w2;exact hk _ _ _ (st1.trans (st.trans st2)) w2
 .simp[qg,ql,Tr.get_set]
 .exact⟨Nat.zero_le _,_,_,_,RV,rfl,.refl,w1,rfl,by simp⟩
end
def jL(a:Int):Nat:=if a=0 then 4 else if a=2 then 4 else 3
def qbe(a:Int)(p F:Nat):List Sy :=
 [⟨32,4,0,0⟩,⟨21,qdj a,p+2,F⟩,⟨32,0,0,0⟩]++if a=0 then [⟨69,1073741824,F,p+4⟩]else if a=2 then [⟨69,1073741824,p+4,F⟩]else []
theorem qaB{a:Int}{p F:Nat}:(qbe a p F).length=jL a:=by unfold qbe jL;grind
def qrM{a:Int}:jL a<=4:=by unfold jL;grind
def qqj(P:Program)(f:Nat):Prop:=∀a:Int,0<=a->a<6->qa P f [.j a] (.tup [.w (qdj a),.j 0])
section
variable {g w s gl gp gj gh gr g1 g2 g3 g4 g5:Nat} {κ:Nat->Kd} {tr:Tr Blk} {RV:List Sy} {N:List Nat} {k:AV->Hp->Prop}
def qa7(a b c d:Nat):IFn:=⟨[],sq [.r [.q 10 (.build [.j 0] []),.q 11 (.box (.t 10)),.q 12 (.build [.j 0] []),.q 13 (.box (.t 12)),.n 6 11,.n 7 13],.r [.n 15 1,.l 16 a [.t 15],.n 14 16,.x 17 14 0,.x 18 14 1,.n 8 17,.n 9 18],.r [.n 19 0,.l 20 b [.t 19,(.c (.w 4))]],.r [.n 21 0,.n 22 8,.n 23 6,.n 24 2,.l 25 c [.t 21,(.c (.h 21)),.t 22,.t 23,.t 24]],.r [.n 26 0,.n 27 6,.l 28 d [.t 26,.t 27]],.r [.n 29 0,.l 30 b [.t 29,(.c (.w 0))]],sq [.r [.n 31 1],.blk 0 (sq [.r [.w 33 .eql 31 0,.n 32 33],.cond (.t 32) (.r [.n 34 0,.n 35 2,.n 36 7,.l 37 c [.t 34,(.c (.h 69)),(.c (.w 1073741824)),.t 35,.t 36]]) (sq [.r [.w 39 .eql 31 2,.n 38 39],.cond (.t 38) (.r [.n 40 0,.n 41 7,.n 42 2,.l 43 c [.t 40,(.c (.h 69)),(.c (.w 1073741824)),.t 41,.t 42]]) (.skip)])])],.r [.n 44 0,.n 45 7,.l 46 d [.t 44,.t 45]]]⟩
def qHx(hc:qc P f (qa7 g1 gl gj gh)=true)(W:WFn P g gl gp gj gh gr)(c1:qqj P g1)
  (h:WI g w κ s tr RV N) (a:Int) (h0:0<=a) (h6:a<6) {X F:Nat} {p:Bool} (hX:κ X = .lab F p) (hm:RV.length+4<=1000000)
  (hk:∀κ' s' tr',Stp [] κ s tr κ' s' tr'->WI g w κ' s' tr' (RV++qbe a RV.length F) N->k (.tup []) ⟨s',0,tr'⟩):SC P f [.ptr w 0,.j a,.ptr X 0] ⟨s,0,tr⟩ k:=by
 refine SC.mk hc (qk ?_);simp only[qa7,vI,simprocAttr];simp +decide only[↓vS,vT,simprocAttr];have w1:=h.new (.lab (RV.length+2) false) _ (.inr (.inr (.inr ⟨_,rfl,rfl⟩)));have w2:=w1.new (.lab (RV.length+jL a) false) _ (.inr (.inr (.inr ⟨_,rfl,rfl⟩)));have st2:=(h.stpLab (.lab (RV.length+2) false) (.v [.j 0])).trans (w1.stpLab (.lab (RV.length+jL a) false) (.v [.j 0]));have hon:kdS (kdS κ s (.lab (RV.length+2) false)) (s+1) (.lab (RV.length+jL a) false) s = .lab (RV.length+2) false:=by rw[qj (by omega),qF]
 have hbit:=qF (κ:=kdS κ s (.lab (RV.length+2) false)) (b:=s+1) (x:=.lab (RV.length+jL a) false);have hX2:=st2.lab X F p hX;have hXs:X<s:=h.dom X (by rw[hX];simp);refine(c1 a h0 h6).sc ?_;simp only[↓vS,vT,simprocAttr];refine qlO W.ld W.put w2 4 (by omega) λκ3 s3 t3 st3 w3=>?_
 simp only[↓vS,vT,simprocAttr];refine qeS W.jmp W.put w3 ⟨21,qdj a,RV.length+2,F⟩ (st3.lab _ _ _ hon) (.inr ⟨(by decide:(21:Int)≠5),X,p,rfl,st3.lab _ _ _ hX2⟩) (by grind) λκ4 s4 t4 st4 w4=>?_
 simp only[↓vS,vT,simprocAttr];have st34:=st3.trans st4;refine qaT W.here w4 (p:=false) (b:=s) (by rw[st34.lab _ _ _ hon];simp) λt5 q1 q2 w5=>?_
 simp only[↓vS,vT,simprocAttr];have st5:=(st2.trans st34).kd h.dom (zzL s) (F':=(RV++[(⟨32,4,0,0⟩:Sy)]++[(⟨21,qdj a,RV.length+2,F⟩:Sy)]).length) (L':=[s+1]) q1 q2 (by simp);refine qlO W.ld W.put w5 0 (by grind) λκ6 s6 t6 st6 w6=>?_
 simp only[↓vS,vT,simprocAttr];have hX6:κ6 X = .lab F p:=(st5.trans st6).lab _ _ _ hX;have hb6:κ6 (s+1) = .lab (RV.length+jL a) false:=st6.lab _ _ _ (by rw[qj (by omega)];exact st34.lab _ _ _ hbit)
 have st56:=st5.trans st6
 by_cases a0:a=0
 .subst a0;simp +decide only[↓vS,vT,simprocAttr];refine qeS W.jmp W.put w6 ⟨69,1073741824,F,RV.length+4⟩ hX6 (.inr ⟨(by decide:(69:Int)≠5),s+1,false,rfl,hb6⟩) (by grind) λκ7 s7 t7 st7 w7=>?_
  simp only[↓vS,vT,simprocAttr];refine qaT W.here w7 (p:=false) (by rw[st7.lab _ _ _ hb6];simp[jL]) λt8 q1 q2 w8=>?_
  simp only[↓vS,vT,simprocAttr];have e:RV++[⟨32,4,0,0⟩]++[⟨21,qdj 0,RV.length+2,F⟩]++[⟨32,0,0,0⟩]++[⟨69,1073741824,F,RV.length+4⟩]=RV++qbe 0 RV.length F:=by simp[qbe]
  rw[e]at w8;exact hk _ _ _ ((st56.trans st7).kd h.dom (by omega) q1 q2 (by simp)) w8
 .by_cases a2:a=2
  .subst a2;simp +decide only[↓vS,vT,simprocAttr];refine qeS W.jmp W.put w6 ⟨69,1073741824,RV.length+4,F⟩ hb6 (by simp_all) (by grind) λκ7 s7 t7 st7 w7=>?_
   simp only[↓vS,vT,simprocAttr];refine qaT W.here w7 (p:=false) (by rw[st7.lab _ _ _ hb6];simp[jL]) λt8 q1 q2 w8=>?_
   simp only[↓vS,vT,simprocAttr];have e:RV++[⟨32,4,0,0⟩]++[⟨21,qdj 2,RV.length+2,F⟩]++[⟨32,0,0,0⟩]++[⟨69,1073741824,RV.length+4,F⟩]=RV++qbe 2 RV.length F:=by simp[qbe]
   rw[e]at w8;exact hk _ _ _ ((st56.trans st7).kd h.dom (by omega) q1 q2 (by simp)) w8
  .simp +decide only[↓vS,vT,simprocAttr,a0,a2];refine qaT W.here w6 (p:=false) (by rw[hb6];simp[jL,a0,a2]) λt8 q1 q2 w8=>?_
   simp only[↓vS,vT,simprocAttr];have e:RV++[⟨32,4,0,0⟩]++[⟨21,qdj a,RV.length+2,F⟩]++[⟨32,0,0,0⟩]=RV++qbe a RV.length F:=by simp[qbe,a0,a2]
   rw[e]at w8
   grind[Stp.kd,WI.dom]
end
structure Nd where
 leaf:Bool
 way:Nat
 at':Int
 less:Nat
 more:Nat
def cNd(n:Nd):List AV:=[.b n.leaf,.j (n.way:Int),.w n.at',.j (n.less:Int),.j (n.more:Int)]
def qkN(n:Nd):(cNd n).length=5:=rfl
def rNd(l:List Nd):List AV:=l.flatMap cNd
def qk3{l:List Nd}:(rNd l).length=l.length*5:=qW qkN l
def xm(T:List Nd):Nat:=T.countP λn=>!n.leaf
def plc(FW:Nat->Nat)(T:List Nd)(b i:Nat):Nat:=match T[i]? with|some n=>if n.leaf=true then FW n.way else b+xm (T.take i)|none=>0
def qjZ(FW:Nat->Nat)(T:List Nd)(b:Nat)(n:Nd):List Sy:=if n.leaf=true then []else [⟨53,n.at',plc FW T b n.more,plc FW T b n.less⟩]
def brE(FW:Nat->Nat)(T:List Nd)(b:Nat)(l:List Nd):List Sy:=l.flatMap (qjZ FW T b)
def qq8{FW:Nat->Nat}{T:List Nd}{b:Nat}{l:List Nd}:(brE FW T b l).length=xm l:=by
 induction l with
 | nil=>rfl
 | cons n l ih =>
  simp only[brE,List.flatMap_cons,zzP,xm,List.countP_cons]at ih ⊢;rw[ih];unfold qjZ;cases n.leaf<;>simp;omega
def jaE(FW:Nat->Nat):List Nd->List Sy
 | n::_=>if n.leaf=true then [⟨5,0,FW n.way,0⟩]else []
 | []=>[]
def xv(FW:Nat->Nat)(T:List Nd)(p:Nat):List Sy:=jaE FW T++brE FW T (p+(jaE FW T).length) T
structure NdOk (m n:Nat) (x:Nd):Prop where
 way:x.leaf=true->x.way<m
 less:x.less<n
 more:x.more<n
def rPt(l:List Nat):List AV:=l.map λb=>.ptr b 0
def qfV{l:List Nat}{j:Nat}:(rPt l)[j]?=(l[j]?).map λb=>.ptr b 0:=by simp[rPt]
theorem qhB{l:List Nat}:(rPt l).length=l.length:=by simp[rPt]
section
variable {g w s gl gp gj gh gr g1 g2 g3 g4 g5:Nat} {κ:Nat->Kd} {tr:Tr Blk} {RV:List Sy} {N:List Nat} {k:AV->Hp->Prop}
def WI.congr{t2:Tr Blk}(h:WI g w κ s tr RV N)(e:∀b,t2.get b=tr.get b):WI g w κ s t2 RV N:=by
 obtain⟨bl,bt,cs,js,r1,r2,r3,r4,r5,r6,r7,r8,r9⟩:=h.rows;exact⟨h.dom,⟨bl,bt,cs,js,r1,r2,r3,(e w).trans r4,(e bl).trans r5,(e bt).trans r6,r7.mono (by simp_all) (by simp_all) (λ_ _ q=>q),r8,r9⟩,λb F p hb=>by rw[e b];exact h.lab b F p hb⟩
def Stp.congr{L:List Nat}{κ1:Nat->Kd}{s1:Nat}{t1 t2:Tr Blk}(h:Stp L κ s tr κ1 s1 t1)(e:∀b,t2.get b=t1.get b):Stp L κ s tr κ1 s1 t2 :=
 ⟨h.le,by grind[Stp.fr],by grind[Stp.box],h.lab,h.nw⟩
def qpa{t:Tr Blk}{b:Nat}{x y:Blk}(c:Nat):((t.set b x).set b y).get c=(t.set b y).get c:=by
 simp_all[Tr.get_set]
def WI.var(h:WI g w κ s tr RV N)(x y:Blk):WI g w (kdS κ s .fr) (s+1) ((tr.set s x).set s y) RV N/\Stp [] κ s tr (kdS κ s .fr) (s+1) ((tr.set s x).set s y) :=
 ⟨(h.new .fr y (.inr (.inl rfl))).congr qpa,(h.stpNew .fr y (by simp)).congr qpa⟩
theorem Stp.nil{L:List Nat}{κ1:Nat->Kd}{s1:Nat}{t1:Tr Blk}(h:Stp L κ s tr κ1 s1 t1)(hL:∀c,c ∉ L):Stp [] κ s tr κ1 s1 t1 :=
 { h with nw:=λb F hb=>(h.nw b F hb).imp id (by simp_all) }
def qbt{α:Type}{l:List α}{j:Nat}{x:α}(h:l[j]?=some x):l.take (j+1)=l.take j++[x]:=by rw[List.take_add_one,h];rfl
def qpL{T:List Nd}{j:Nat}{x:Nd}(h:T[j]?=some x):((rNd T).drop (j*5)).take 5=cNd x:=qS qkN h
def qAe{T:List Nd}{j:Nat}{x:Nd}(h:T[j]?=some x){i:Nat}(hi:i<5):(rNd T)[j*5+i]?=(cNd x)[i]?:=qcz qkN h hi
def ju(a b:Nat):ICode:=sq [.r [.n 46 1,.e 47 46,.m 48 (.k 0)],.blk 2 (.loop (sq [.r [.s 49 48 47],.cond (.t 49) (.skip) (.exit 2),.blk 3 (sq [.r [.n 50 48,.i 51 5 46 48,.v 52 5 51,.q 10 (.alloc [.b false,.j 0,.w 0,.j 0,.j 0]),.n 9 50,.u (.store 5 (.t 10) (.t 52))],.r [.f 53 0 10,.d 54 53,.q 55 (.un .not (.t 54))],.cond (.t 55) (sq [.r [.n 56 0,.n 57 6,.n 58 9,.i 59 1 57 58,.d 60 59,.l 61 b [.t 56,.t 60]],.reg true [.n 62 0,.f 63 2 10,.d 64 63,.n 65 6,.f 66 4 10,.d 67 66,.i 68 1 65 67,.d 69 68,.n 70 6,.f 71 3 10,.d 72 71,.i 73 1 70 72,.d 74 73,⟨(some 75),.callW a [.t 62,(.c (.h 53)),.t 64,.t 69,.t 74],none⟩]]) (.skip)]),.r [.a 76 48 1,.n 48 76]]))]
def jr(a b:Nat):ICode:=sq [sq [.r [.n 37 1,.q 38 (.iAddrS 5 (.t 37) (.k 0)),.f 39 0 38,.d 40 39],.cond (.t 40) (.r [.n 41 0,.n 42 6,.q 43 (.iAddrS 1 (.t 42) (.k 0)),.d 44 43,⟨(some 45),.callW a [.t 41,(.c (.h 5)),(.c (.w 0)),.t 44,(.c (.nilp))],none⟩]) (.skip)],.cut (ju a b)]
def qab(a b:Nat):IFn:=⟨[],sq [.r [.n 11 1,.e 12 11,.q 13 (.mkS 1 8 [.nilp] (.t 12) (.t 12)),.n 6 13],sq [.r [.n 14 1,.e 15 14,.m 16 (.k 0)],.blk 0 (.loop (sq [.r [.s 17 16 15],.cond (.t 17) (.skip) (.exit 0),.blk 1 (sq [.r [.n 18 16,.i 19 5 14 16,.v 20 5 19,.q 8 (.alloc [.b false,.j 0,.w 0,.j 0,.j 0]),.n 7 18,.u (.store 5 (.t 8) (.t 20))],.r [.n 21 6,.n 22 7,.q 23 (.build [.j 0] []),.q 24 (.box (.t 23)),.i 25 1 21 22,.u (.store 1 (.t 25) (.t 24))],.r [.f 26 0 8,.d 27 26],.cond (.t 27) (.r [.n 28 6,.n 29 7,.n 30 2,.f 31 1 8,.d 32 31,.i 33 1 30 32,.d 34 33,.i 35 1 28 29,.u (.store 1 (.t 35) (.t 34))]) (.skip)]),.r [.a 36 16 1,.n 16 36]]))],.cut (jr a b)]⟩
def qmH{n0 m s1 bp:Nat}{t1:Tr Blk}{κ1:Nat->Kd}{L:List Nat}(W:WFn P g gl gp gj gh gr)(T:List Nd)(hok:∀x ∈ T,NdOk m T.length x)(FW:Nat->Nat)(pl:List Nat)(hpl:pl.length=T.length)
  (h:WI g w κ1 s1 t1 RV N) (st:Stp L κ s tr κ1 s1 t1) (hd:∀b,κ b≠.no->b<s) (hkl:∀(j:Nat) c,pl[j]?=some c->∃p,κ1 c = .lab (plc FW T RV.length j) p)
  (hL:∀c ∈ L,∃(j:Nat) (nd:Nd),T[j]?=some nd/\nd.leaf=false/\pl[j]?=some c) (hnew:∀(j:Nat) c nd,T[j]?=some nd->nd.leaf=false->pl[j]?=some c->s<=c) (hbp:κ1 bp = .fr) (gbp:t1.get bp=some (.v (rPt pl)))
  (hm:RV.length+T.length<=1000000) {t:Tr AV} (ht:Has t [(0,.ptr w 0),(1,.fz T.length (rNd T)),(6,.sl bp 0 T.length T.length false)])
  (hk:∀κ' s' tr',Stp [] κ s tr κ' s' tr'->WI g w κ' s' tr' (RV++brE FW T RV.length T) N->k (.tup []) ⟨s',0,tr'⟩):S P n0 (ju gj gh) (xu [] k) t ⟨s1,0,t1⟩:=by
 refine S.has _ ht (qk ?_);simp only[ju,vI,simprocAttr];simp +decide only[↓vS,vT,simprocAttr]
 refine SL.loopP (α:=Nat) (λi=>[(0,.ptr w 0),(6,.sl bp 0 T.length T.length false),(46,.fz T.length (rNd T)),(47,.j (T.length:Int)),(48,.j (i:Int))])
  (λi h=>i<=T.length/\∃L' κ' s' tr',h=⟨s',0,tr'⟩/\Stp L' κ s tr κ' s' tr'/\WI g w κ' s' tr' (RV++brE FW T RV.length (T.take i)) N/\(∀(j:Nat) c,pl[j]?=some c->∃p,κ' c = .lab (plc FW T RV.length j) p) /\
   (∀c ∈ L',∃(j:Nat) (nd:Nd),i<=j/\T[j]?=some nd/\nd.leaf=false/\pl[j]?=some c)/\κ' bp = .fr/\tr'.get bp=some (.v (rPt pl))) (λi=>T.length-i) ?_ 0 ?_ ?_
 .rintro i h1 ⟨hi,L',κ',s',tr',rfl,st',w',hkl',hL',hbp',gbp'⟩ G ih;simp only[vI,simprocAttr]
  by_cases hlt:i<T.length
  .have hlt':(i:Int)<T.length:=by omega
   obtain⟨nd,hnd⟩:∃t,T[i]?=some t:=⟨_,zzE hlt⟩;obtain⟨c,hc⟩:∃t,pl[i]?=some t:=⟨_,zzE (by omega)⟩;have hel:=qpL hnd;have h5:i*5+5<=(rNd T).length:=by rw[qk3];omega
   have hw1:IntKind.wrap .i64 ((i:Int)+1)=((i+1:Nat):Int):=by rw[qp (by omega) (by omega)];simp
   have hbs:bp<s':=w'.dom bp (by rw[hbp'];simp);have hbs':¬bp=s':=by omega
   obtain⟨wv,sv⟩:=w'.var (.v [.b false,.j 0,.w 0,.j 0,.j 0]) (.v (cNd nd));have hbpv:=sv.fr bp hbp';have hklv:∀(j:Nat) c,pl[j]?=some c->∃p,kdS κ' s' .fr c = .lab (plc FW T RV.length j) p:=λj c hj=>let ⟨p,q⟩:=hkl' j c hj;⟨p,sv.lab c _ p q⟩
   have hok':=hok nd (by grind);have hge:(rPt pl)[i]?=some (.ptr c 0):=by rw[qfV,hc];rfl
   have hts:=qbt hnd;cases hl:nd.leaf with
   | true =>
    simp +decide only[↓vS,vT,simprocAttr,hlt',hlt,h5,hel,cNd,hl,hw1];refine ih (i+1) _ _ (by omega) ?_ ⟨by omega,L',kdS κ' s' .fr,s'+1,_,rfl,?_,?_,hklv,?_,hbpv.1,?_⟩
    .simp[qg,ql,Tr.get_set]
    .have:=st'.trans sv;simp only[cNd,hl,List.append_nil]at this;omega
    .rw[hts];have:brE FW T RV.length (T.take i++[nd])=brE FW T RV.length (T.take i):=by simp[brE,qjZ,hl]
     rw[this];simp only[cNd,hl]at wv;exact wv
    .grind
    .have:=hbpv.2.trans gbp';simp only[cNd,hl]at this;omega
   | false =>
    simp only[cNd,hl]at wv sv
    have hpi:plc FW T RV.length i=(RV++brE FW T RV.length (T.take i)).length:=by
     rw[zzP,qq8];simp[plc,hnd,hl]
    obtain⟨pc,hpc⟩:=hklv i c hc;rw[hpi]at hpc;simp +decide only[↓vS,vT,simprocAttr,hlt',hlt,h5,hel,cNd,hl,hw1,hbs',gbp',hge,zzU];refine qaT W.here wv hpc λt4 q1 q2 w4=>?_
    have hsv:kdS κ' s' .fr s' = .fr:=qF;have g4:=q1 s' hsv;rw[Tr.get_set,if_pos rfl]at g4;have g5:=(q1 bp hbpv.1).trans (sv.fr bp hbp').2;rw[gbp']at g5;obtain⟨cm,hcm⟩:∃t,pl[nd.more]?=some t:=⟨_,zzE (by rw[hpl];exact hok'.more)⟩;obtain⟨cl,hcl⟩:∃t,pl[nd.less]?=some t:=⟨_,zzE (by rw[hpl];exact hok'.less)⟩;have gm:(rPt pl)[nd.more]?=some (.ptr cm 0):=by rw[qfV,hcm];rfl
    have gl':(rPt pl)[nd.less]?=some (.ptr cl 0):=by rw[qfV,hcl];rfl
    have hcs:s<=c:=by grind
    -- the labels are zy before,but this one has its place
    have hkl4:∀(j:Nat) c',pl[j]?=some c'->∃p,kdS (kdS κ' s' .fr) c (.lab (RV++brE FW T RV.length (T.take i)).length true) c' = .lab (plc FW T RV.length j) p:=λj c' hj=>by
     obtain⟨p,hp⟩:=hklv j c' hj
     by_cases e:c'=c
     .rw[e]at hp;have hF:=(Kd.lab.inj (hpc.symm.trans hp)).1;exact⟨true,by rw[e,qF,hF]⟩
     grind[qj]
    have hbpc:bp≠c:=λe=>by rw[<- e,hbpv.1]at hpc;grind
    have st4:Stp (L'.filter λx=>decide (x≠c)) κ s tr (kdS (kdS κ' s' .fr) c (.lab (RV++brE FW T RV.length (T.take i)).length true)) (s'+1) t4 :=
     (st'.trans sv).kd hd hcs q1 q2 λx hx=>by
      grind
    obtain⟨pm,hpm⟩:=hkl4 _ _ hcm;obtain⟨pq,hpq⟩:=hkl4 _ _ hcl
    obtain⟨κ5,s5,t5,st5,w5,hj5⟩:=qv2 W.jmp W.put w4 ⟨53,nd.at',plc FW T RV.length nd.more,plc FW T RV.length nd.less⟩ hpm (.inr ⟨(by decide:(53:Int)≠5),cl,pq,rfl,hpq⟩) (by
     rw[<- hpi];have:xm (T.take i)<=T.length:=Nat.le_trans List.countP_le_length (by rw[List.length_take];omega);simp only[plc,hnd,hl];grind)
    have hmT:nd.more<T.length:=hok'.more;have hlT:nd.less<T.length:=hok'.less;have hb4:=st5.fr bp (by rw[qj hbpc];grind);simp +decide only[↓vS,vT,simprocAttr];refine zB ?_;simp +decide only[↓vS,vT,simprocAttr,g4,g5,gm,gl',hmT,hlT,zzU];refine⟨.tup [],_,hj5,?_⟩;simp +decide only[↓vS,vT,simprocAttr,hw1];refine ih (i+1) _ _ (by omega) ?_ ⟨by omega,_,κ5,s5,t5,rfl,st4.trans st5,?_,λj c' hj=>?_,?_,hb4.1,hb4.2.trans g5⟩
    .simp[qg,ql,Tr.get_set]
    .rw[hts];have:brE FW T RV.length (T.take i++[nd])=brE FW T RV.length (T.take i)++[⟨53,nd.at',plc FW T RV.length nd.more,plc FW T RV.length nd.less⟩]:=by simp[brE,qjZ,hl]
     rw[this,<- List.append_assoc];exact w5
    .obtain⟨p,hp⟩:=hkl4 j c' hj;exact⟨p,st5.lab _ _ _ hp⟩
    .intro c' hc';rw[List.append_nil,List.mem_filter,decide_eq_true_eq]at hc';obtain⟨j,nd',q1,q2,q3,q4⟩:=hL' c' hc'.1
     grind
  .obtain rfl:i=T.length:=by omega
   have hlt':¬((T.length:Int)<T.length):=by omega
   simp +decide only[↓vS,vT,simprocAttr,hlt'];rw[List.take_length]at w'
   grind[Stp.nil]
 .simp[qg,ql,Tr.get_set]
 .refine⟨Nat.zero_le _,L,κ1,s1,t1,rfl,st,?_,hkl,λc hc=>?_,hbp,gbp⟩
  .simpa[brE]using h
  simp_all
def Stp.mod{L:List Nat}{κ1:Nat->Kd}{s1:Nat}{t1:Tr Blk}(h:Stp L κ s tr κ1 s1 t1)(hd:∀b,κ b≠.no->b<s){b:Nat}(hb:s<=b)(x:Blk):Stp L κ s tr (kdS κ1 b .fr) s1 (t1.set b x):=by
 have ne:∀{c},κ c≠.no->c≠b:=by grind
 refine⟨h.le,λc hc=>?_,λc hc=>?_,λc F p hc=>?_,λc F hc=>?_⟩
 .have e:=ne (c:=c) (by rw[hc];simp);rw[qj e,Tr.get_set,if_neg e];exact h.fr c hc
 .have e:=ne (c:=c) (by rw[hc];simp);rw[qj e,Tr.get_set,if_neg e];exact h.box c hc
 .rw[qj (by simp_all)];exact h.lab c F p hc
 grind[qF,qj,Stp.nw]
def qsC{n0 m s1 bp:Nat}{t1:Tr Blk}{κ1:Nat->Kd}{L:List Nat}(W:WFn P g gl gp gj gh gr)(T:List Nd)(hT:T≠[])(hok:∀x ∈ T,NdOk m T.length x)(FW:Nat->Nat)(pl:List Nat)(hpl:pl.length=T.length)
  (h:WI g w κ1 s1 t1 RV N) (st:Stp L κ s tr κ1 s1 t1) (hd:∀b,κ b≠.no->b<s) (hkl:∀(j:Nat) c,pl[j]?=some c->∃p,κ1 c = .lab (plc FW T (RV.length+(jaE FW T).length) j) p)
  (hL:∀c ∈ L,∃(j:Nat) (nd:Nd),T[j]?=some nd/\nd.leaf=false/\pl[j]?=some c) (hnew:∀(j:Nat) c nd,T[j]?=some nd->nd.leaf=false->pl[j]?=some c->s<=c) (hbp:κ1 bp = .fr) (gbp:t1.get bp=some (.v (rPt pl)))
  (hm:RV.length+T.length+1<=1000000) {t:Tr AV} (ht:Has t [(0,.ptr w 0),(1,.fz T.length (rNd T)),(6,.sl bp 0 T.length T.length false)])
  (hk:∀κ' s' tr',Stp [] κ s tr κ' s' tr'->WI g w κ' s' tr' (RV++xv FW T RV.length) N->k (.tup []) ⟨s',0,tr'⟩):S P n0 (jr gj gh) (xu [] k) t ⟨s1,0,t1⟩:=by
 refine S.has _ ht (qk ?_);have hn0:0<T.length:=by grind
 obtain⟨x0,hx0⟩:∃x,T[0]?=some x:=⟨_,zzE hn0⟩;obtain⟨c0,hc0⟩:∃c,pl[0]?=some c:=⟨_,zzE (by omega)⟩
 have g0:(rNd T)[0]?=some (.b x0.leaf):=by
  have:=qAe hx0 (i:=0) (by omega);rw[Nat.zero_mul]at this;exact this
 have ge0:(rPt pl)[0]?=some (.ptr c0 0):=by rw[qfV,hc0];rfl
 have hja:jaE FW T=if x0.leaf=true then [⟨5,0,FW x0.way,0⟩]else []:=by
  cases T with
  | nil=>simp_all
  | cons a l=>simp at hx0;subst hx0;rfl
 simp only[jr,vI,simprocAttr];simp +decide only[↓vS,vT,simprocAttr,g0,hn0];cases hl0:x0.leaf with
 | true =>
  rw[hl0,if_pos rfl]at hja;simp +decide only[↓vS,vT,simprocAttr,gbp,ge0,hn0,hl0];obtain⟨p,hp⟩:=hkl 0 c0 hc0;have hp':κ1 c0 = .lab (FW x0.way) p:=by rw[hp];simp[plc,hx0,hl0]
  refine qeS W.jmp W.put h ⟨5,0,FW x0.way,0⟩ hp' (by simp_all) (by omega) λκ2 s2 t2 st2 w2=>?_
  simp +decide only[↓vS,vT,simprocAttr];rw[<- hja]at w2;have hb2:=st2.fr bp hbp;refine qmH W T hok FW pl hpl w2 (st.trans st2) hd (λj c hj=>?_) (by rw[List.append_nil];exact hL) hnew hb2.1 (hb2.2.trans gbp) (by rw[zzP,hja];grind) ?_ λκ' s' tr' q1 q2=>hk κ' s' tr' q1 ?_
  .obtain⟨p,hp⟩:=hkl j c hj;rw[zzP];exact⟨p,st2.lab _ _ _ hp⟩
  .simp[qg,ql,Tr.get_set]
  .rw[zzP,List.append_assoc]at q2;exact q2
 | false =>
  rw[hl0,if_neg (by simp)]at hja;simp +decide only[↓vS,vT,simprocAttr,gbp,ge0,hn0,hl0];rw[hja]at hkl;refine qmH W T hok FW pl hpl h st hd hkl hL hnew hbp gbp (by omega) ?_ λκ' s' tr' q1 q2=>hk κ' s' tr' q1 ?_
  .simp[qg,ql,Tr.get_set]
  .unfold xv;rw[hja];exact q2
def qAi{pl:List Nat}{n c:Nat}(h:pl.length<n):(rPt pl++List.replicate (n-pl.length) AV.nilp).take pl.length ++ .ptr c 0::(rPt pl++List.replicate (n-pl.length) AV.nilp).drop (pl.length+1)=rPt (pl++[c])++List.replicate (n-(pl++[c]).length) AV.nilp:=by
 rw[List.take_left' qhB,show pl.length+1=(rPt pl).length+1 by rw[qhB],List.drop_length_add_append,List.drop_replicate]
 simp[rPt];omega
def qw6{pl:List Nat}{n a c:Nat}:(rPt (pl++[a])++List.replicate (n-(pl++[a]).length) AV.nilp).take pl.length ++ .ptr c 0::(rPt (pl++[a])++List.replicate (n-(pl++[a]).length) AV.nilp).drop (pl.length+1)=rPt (pl++[c])++List.replicate (n-(pl++[c]).length) AV.nilp:=by
 have e:rPt (pl++[a])++List.replicate (n-(pl++[a]).length) AV.nilp=rPt pl++(.ptr a 0::List.replicate (n-(pl++[a]).length) AV.nilp):=by simp[rPt]
 rw[e,List.take_left' qhB,show pl.length+1=(rPt pl).length+1 by rw[qhB],List.drop_length_add_append]
 simp[rPt]
def quC{e bw:Nat}{wf a:Bool}(hc:qc P f (qab gj gh)=true)(W:WFn P g gl gp gj gh gr)(T:List Nd)(hT:T≠[])(xs:List Nat)(hok:∀x ∈ T,NdOk xs.length T.length x)(FW:Nat->Nat)(V:AV)(hV:V = .sl bw 0 xs.length xs.length false\/V = .own bw xs.length)
  (h:WI g w κ s tr RV N) (hbw:κ bw = .fr) (gbw:tr.get bw=some (.cells e wf a (rPt xs))) (hx:∀(j:Nat) c,xs[j]?=some c->∃p,κ c = .lab (FW j) p) (hm:RV.length+T.length+1<=1000000)
  (hk:∀κ' s' tr',Stp [] κ s tr κ' s' tr'->WI g w κ' s' tr' (RV++xv FW T RV.length) N->k (.tup []) ⟨s',0,tr'⟩):SC P f [.ptr w 0,.fz T.length (rNd T),V] ⟨s,0,tr⟩ k:=by
 refine SC.mk hc (qk ?_);simp only[qab,vI,simprocAttr];have hr1:T.length<=qi:=by simp only[qi];omega
 have hr2:8*T.length<=qi:=by simp only[qi];omega
 simp +decide only[↓vS,vT,simprocAttr,hr1,hr2]
 refine SL.loopP (α:=Nat) (λi=>[(0,.ptr w 0),(1,.fz T.length (rNd T)),(2,V),(6,.sl s 0 T.length T.length false),(14,.fz T.length (rNd T)),(15,.j (T.length:Int)),(16,.j (i:Int))])
  (λi h=>i<=T.length/\∃pl L' κ' s' tr',pl.length=i/\h=⟨s',0,tr'⟩/\Stp L' κ s tr κ' s' tr'/\WI g w κ' s' tr' RV N/\s<s'/\(∀(j:Nat) c,pl[j]?=some c->∃p,κ' c = .lab (plc FW T (RV.length+(jaE FW T).length) j) p) /\
   (∀c ∈ L',∃(j:Nat) (nd:Nd),T[j]?=some nd/\nd.leaf=false/\pl[j]?=some c)/\(∀(j:Nat) c nd,T[j]?=some nd->nd.leaf=false->pl[j]?=some c->s<=c)/\κ' s = .fr/\tr'.get s=some (.v (rPt pl++List.replicate (T.length-pl.length) .nilp))) (λi=>T.length-i) ?_ 0 ?_ ?_
 .rintro i h1 ⟨hi,pl,L',κ',s',tr',hpl,rfl,st',w',hss,hkl',hL',hnew',hbp',gbp'⟩ G ih;simp only[vI,simprocAttr]
  by_cases hlt:i<T.length
  .have hlt':(i:Int)<T.length:=by omega
   obtain⟨nd,hnd⟩:∃t,T[i]?=some t:=⟨_,zzE hlt⟩;have hel:=qpL hnd;have h5:i*5+5<=(rNd T).length:=by rw[qk3];omega
   have hw1:IntKind.wrap .i64 ((i:Int)+1)=((i+1:Nat):Int):=by rw[qp (by omega) (by omega)];simp
   have hok':=hok nd (by grind);have n1:¬s=s':=by omega
   have n2:¬s=s'+1:=by omega
   have n3:¬s'=s'+1:=by omega
   have n4:¬s'=s:=by omega
   have n5:¬s'+1=s:=by omega
   have hll:i+1<=(rPt pl++List.replicate (T.length-pl.length) AV.nilp).length:=by grind[qhB]
   have hp1:=qAi (n:=T.length) (c:=s'+1) (pl:=pl) (by omega);rw[hpl]at hp1 hll gbp';obtain⟨wv,sv⟩:=w'.var (.v [.b false,.j 0,.w 0,.j 0,.j 0]) (.v (cNd nd));cases hl:nd.leaf with
   | false =>
    simp only[cNd,hl]at wv sv;simp +decide only[↓vS,vT,simprocAttr,hlt',hlt,h5,hel,cNd,hl,hw1,n1,n2,n3,n4,n5,gbp',zzU,hll,hp1];have wl:=wv.new (.lab (plc FW T (RV.length+(jaE FW T).length) i) false) _ (.inr (.inr (.inr ⟨_,rfl,rfl⟩)));have sl:=wv.stpLab (.lab (plc FW T (RV.length+(jaE FW T).length) i) false) (.v [.j 0]);have hfs:kdS (kdS κ' s' .fr) (s'+1) (.lab (plc FW T (RV.length+(jaE FW T).length) i) false) s = .fr:=by rw[qj (by omega),qj (by omega)];exact hbp'
    refine ih (i+1) _ _ (by omega) ?_ ⟨by omega,pl++[s'+1],_,_,s'+1+1,_,by simp[hpl],rfl,((st'.trans sv).trans sl).mod h.dom (zzL s) _,wl.chg .fr _ (.inl hfs) (by omega) (.inr (.inl rfl)),by omega,λj c hj=>?_,λc hc=>?_,λj c nd' h1 h2 h3=>?_,qF,by rw[Tr.get_set,if_pos rfl]⟩
    .simp[qg,ql,Tr.get_set]
    .rw[List.getElem?_append]at hj;split at hj
     .obtain⟨p,hp⟩:=hkl' j c hj;have:c<s':=w'.dom c (by rw[hp];simp);have hcs:c≠s:=λe=>by rw[e,hbp']at hp;cases hp
      exact⟨p,by rw[qj hcs,qj (by omega),qj (by omega)];exact hp⟩
     .have hj0:j-pl.length=0:=by
       have:=(zzS.1 hj).1;simp at this;exact this
      rw[hj0]at hj;simp at hj;subst hj;obtain rfl:j=i:=by omega
      exact⟨false,by rw[qj n5,qF]⟩
    .simp only[List.append_nil,List.mem_append,List.mem_singleton]at hc;rcases hc with hc|hc
     .obtain⟨j,nd',q1,q2,q3⟩:=hL' c hc;exact⟨j,nd',q1,q2,by rw[List.getElem?_append_left (zzS.1 q3).1];exact q3⟩
     .exact⟨i,nd,hnd,hl,by rw[hc,<- hpl];simp⟩
    grind
   | true =>
    have hwl:=hok'.way hl;obtain⟨c0,hc0⟩:∃t,xs[nd.way]?=some t:=⟨_,zzE hwl⟩;have gc0:(rPt xs)[nd.way]?=some (.ptr c0 0):=by rw[qfV,hc0];rfl
    obtain⟨p0,hp0⟩:=hx nd.way c0 hc0;have hbs:bw<s:=h.dom bw (by rw[hbw];simp);have gb':=(st'.fr bw hbw).2.trans gbw;have m1:¬bw=s:=by omega
    have m2:¬bw=s':=by omega
    have m3:¬bw=s'+1:=by omega
    have hp2:=qw6 (n:=T.length) (pl:=pl) (a:=s'+1) (c:=c0);have hll2:i+1<=(rPt (pl++[s'+1])++List.replicate (T.length-(pl++[s'+1]).length) AV.nilp).length:=by grind
    rw[hpl]at hp2;have wl:=wv.new .fr (.v [.j 0]) (.inr (.inl rfl));have sl:=wv.stpNew .fr (.v [.j 0]) (by simp);have hfs:kdS (kdS κ' s' .fr) (s'+1) .fr s = .fr:=by rw[qj (by omega),qj (by omega)];omega
    have wc:=wl.chg .fr (.v (rPt (pl++[s'+1])++List.replicate (T.length-(pl++[s'+1]).length) .nilp)) (.inl hfs) (by omega) (.inr (.inl rfl));have wd:=wc.chg (b:=s) .fr (.v (rPt (pl++[c0])++List.replicate (T.length-(pl++[c0]).length) .nilp)) (.inl qF) (by omega) (.inr (.inl rfl));have sd:=((((st'.trans sv).trans sl).mod h.dom (zzL s) (.v (rPt (pl++[s'+1])++List.replicate (T.length-(pl++[s'+1]).length) .nilp)))).mod h.dom (zzL s) (.v (rPt (pl++[c0])++List.replicate (T.length-(pl++[c0]).length) .nilp));simp only[cNd,hl]at wd sd
    have fin:∀tf,(∀b,tf.get b=((((((tr'.set s' (.v [.b false,.j 0,.w 0,.j 0,.j 0])).set s' (.v [.b true,.j (nd.way:Int),.w nd.at',.j (nd.less:Int),.j (nd.more:Int)])).set (s'+1) (.v [.j 0])).set s
      (.v (rPt (pl++[s'+1])++List.replicate (T.length-(pl++[s'+1]).length) .nilp))).set s (.v (rPt (pl++[c0])++List.replicate (T.length-(pl++[c0]).length) .nilp))).get b))->
      ∀tt,Has tt [(0,.ptr w 0),(1,.fz T.length (rNd T)),(2,V),(6,.sl s 0 T.length T.length false),(14,.fz T.length (rNd T)),(15,.j (T.length:Int)),(16,.j ((i+1:Nat):Int))]->G tt ⟨s'+1+1,0,tf⟩:=by
     intro tf hf tt ht;refine ih (i+1) _ _ (by omega) ht ⟨by omega,pl++[c0],_,_,s'+1+1,_,by grind,rfl,sd.congr hf,wd.congr hf,by omega,λj c hj=>?_,λc hc=>?_,λj c nd' h1 h2 h3=>?_,qF,by rw[hf,Tr.get_set,if_pos rfl]⟩
     .rw[List.getElem?_append]at hj;split at hj
      .obtain⟨p,hp⟩:=hkl' j c hj;have:c<s':=w'.dom c (by rw[hp];simp);have hcs:c≠s:=λe=>by rw[e,hbp']at hp;cases hp
       exact⟨p,by rw[qj hcs,qj hcs,qj (by omega),qj (by omega)];exact hp⟩
      .have hj0:j-pl.length=0:=by
        have:=(zzS.1 hj).1
        grind
       rw[hj0]at hj;simp at hj;subst hj;obtain rfl:j=i:=by omega
       have h1:=st'.lab _ _ _ hp0;have:c0<s:=h.dom c0 (by rw[hp0];simp);exact⟨p0,by rw[qj (by omega),qj (by omega),qj (by omega),qj (by omega),h1];simp[plc,hnd,hl]⟩
     .simp only[List.append_nil]at hc;obtain⟨j,nd',q1,q2,q3⟩:=hL' c hc
      grind
     .rw[List.getElem?_append]at h3;split at h3
      .grind
      .have hj0:j-pl.length=0:=by
        have:=(zzS.1 h3).1;simp at this;exact this
       grind
    rcases hV with rfl|rfl
    .simp +decide only[↓vS,vT,simprocAttr,hlt',hlt,h5,hel,cNd,hl,hw1,n1,n2,n3,n4,n5,m1,m2,m3,gbp',gb',gc0,hwl,zzU,hll,hp1,hll2,hp2];exact fin _ (λb=>rfl) _ (by simp[qg,ql,Tr.get_set])
    .simp +decide only[↓vS,vT,simprocAttr,hlt',hlt,h5,hel,cNd,hl,hw1,n1,n2,n3,n4,n5,m1,m2,m3,gbp',gb',gc0,hwl,zzU,hll,hp1,hll2,hp2];exact fin _ (λb=>rfl) _ (by simp[qg,ql,Tr.get_set])
  .obtain rfl:i=T.length:=by omega
   have hlt':¬((T.length:Int)<T.length):=by omega
   simp +decide only[↓vS,vT,simprocAttr,hlt'];rw[hpl,Nat.sub_self]at gbp';refine qsC W T hT hok FW pl hpl w' st' h.dom hkl' hL' hnew' hbp' (by rw[gbp'];simp) hm ?_ hk;simp[qg,ql,Tr.get_set]
 .simp[qg,ql,Tr.get_set]
 .refine⟨Nat.zero_le _,[],[],kdS κ s .fr,s+1,_,rfl,rfl,h.stpNew .fr _ (by simp),h.new .fr _ (.inr (.inl rfl)),by omega,λj c hj=>(by grind),λc hc=>(by cases hc),λj c nd h1 h2 h3=>(by grind),qF,?_⟩
  rw[Tr.get_set,if_pos rfl];simp[rPt]
end
structure Sp where
 fr:Int
 to:Int
 way:Nat
def cSp(s:Sp):List AV:=[.w s.fr,.w s.to,.j (s.way:Int)]
def qho(s:Sp):(cSp s).length=3:=rfl
def rSp(l:List Sp):List AV:=l.flatMap cSp
def qfW{l:List Sp}:(rSp l).length=l.length*3:=qW qho l
def qAj{l m:List Sp}:rSp l++rSp m=rSp (l++m):=by simp[rSp]
def qAk{s:Sp}:cSp s=rSp [s]:=by simp[rSp]
def qr1{T:List Sp}{j:Nat}{x:Sp}(h:T[j]?=some x){i:Nat}(hi:i<3):(rSp T)[j*3+i]?=(cSp x)[i]?:=qcz qho h hi
def qxa{T:List Sp}{j:Nat}{x:Sp}(h:T[j]?=some x):((rSp T).drop (j*3)).take 3=cSp x:=qS qho h
def qfx{l:List Sp}:qt (rSp l)=true:=xP λ_=>rfl
def jF(l:List Sp)(s:Sp):List Sp:=match l[l.length-1]? with|some z=>if z.way=s.way then l.set (l.length-1) ⟨z.fr,s.to,z.way⟩else l++[s]|none=>l++[s]
def zW(l:List Sp):List Sp:=l.foldl jF []
def qmc{l:List Sp}{s:Sp}:(jF l s).length<=l.length+1:=by
 unfold jF;grind
def jB:IFn:=⟨[],sq [.r [.q 2 (.box (.t 0))],sq [.r [.d 4 1,.e 5 4,.n 3 5],.reg true [.n 6 3,.w 7 .gtr 6 0,.n 8 7,.j 9 1 8 true,.y 10 3 8,.g 11 (.bin .sub (.t 10) (.k 1)) 8 true,.g 12 (.iAddrS 3 (.t 9) (.t 11)) 8 true,.h 13 2 12 8 true,.j 14 13 8 true,.h 15 2 2 8 true,.j 16 15 8 true,.g 17 (.bin .eql (.t 14) (.t 16)) 8 true,.p 18 8 17],.cond (.t 18) (sq [.r [.d 19 1,.n 20 3,.w 21 .sub 20 1,.f 22 1 2,.d 23 22,.i 24 3 19 21,.f 25 1 24,.u (.store 1 (.t 25) (.t 23))],.ret]) (.skip)],.r [.d 26 1,.v 27 3 2,.q 28 (.buildS 1 [.w 0,.w 0,.j 0] [(0,3,(.t 27))]),.q 29 (.app 3 16 true (.t 26) (.t 28)),.u (.store 1 (.t 1) (.t 29))]]⟩
def qw0(hc:qc P f jB=true){s bo br:Nat}{tr:Tr Blk}{l:List Sp}(x:Sp){k:AV->Hp->Prop}(ho:tr.get bo=some (.v [.own br l.length]))(hr:tr.get br=some (.cells 3 true true (rSp l)))(hbr:bo≠br)(hos:bo<s)(hrs:br<s)(hm:l.length<=1000000)
  (hk:∀s' tr' br',s<=s'->(∀b,b<s->b≠bo->b≠br->tr'.get b=tr.get b)->tr'.get bo=some (.v [.own br' (jF l x).length])->tr'.get br'=some (.cells 3 true true (rSp (jF l x)))->(br'=br\/s<=br')->br'<s'->k (.tup []) ⟨s',0,tr'⟩) :
  SC P f [.agg (cSp x),.ptr bo 0] ⟨s,0,tr⟩ k:=by
 refine SC.mk hc (qk ?_);have n1:¬bo=s:=by omega
 have n2:¬br=s:=by omega
 have n3:¬bo=br:=hbr;have n4:¬s=br:=by omega
 have n5:¬s+1=br:=by omega
 have n6:¬br=s+1:=by omega
 have n7:¬bo=s+1:=by omega
 have n8:¬bo=s+1+1:=by omega
 have n9:¬s=bo:=by omega
 have n10:¬s=s+1:=by omega
 have n11:¬s+1=s+1+1:=by omega
 have r1:l.length+1<=qi:=by simp only[qi];omega
 have r2:(l.length+1)*16<=qi:=by simp only[qi];omega
 have app:∀tf:Tr Blk,(∀b,b<s->b≠bo->b≠br->tf.get b=tr.get b)->tf.get bo=some (.v [.own (s+1+1) (l.length+1)])->tf.get (s+1+1)=some (.cells 3 true true (rSp l++cSp x))->jF l x=l++[x]->k (.tup []) ⟨s+1+1+1,0,tf⟩:=λtf h1 h2 h3 h4 =>
  hk _ _ (s+1+1) (by omega) h1 (by rw[h2,h4];simp) (by rw[h3,h4,qAk,qAj]) (.inr (by omega)) (by omega)
 simp only[jB,cSp,vI,simprocAttr];simp +decide only[↓vS,vT,simprocAttr,ho,hr,n1,n2,n3,n9];refine zB ?_;rcases Nat.eq_zero_or_pos l.length with h0|h0
 .have h0':¬(0:Int)<(l.length:Int):=by omega
  simp +decide only[↓vS,vT,simprocAttr,h0',ho,hr,n1,n2,n3,n4,n5,n6,n7,n8,n9,n10,n11,r1,r2,qfW];refine app _ ?_ ?_ ?_ ?_
  .grind[Tr.get_set]
  .simp[Tr.get_set]
  .simp only[Tr.get_set];rw[if_neg (by omega)];simp[cSp]
  .have:l=[]:=by grind
   subst this;rfl
 .have h0':(0:Int)<(l.length:Int):=by omega
  obtain⟨z,hz⟩:∃z,l[l.length-1]?=some z:=⟨_,zzE (by omega)⟩;have e1:IntKind.wrap .i64 ((l.length:Int)-1)=((l.length-1:Nat):Int):=by rw[qp (by omega) (by omega)];omega
  have hlt:l.length-1<l.length:=by omega
  have hw:=qr1 hz (i:=2) (by omega);have hw':(rSp l)[(l.length-1)*3+2]?=some (.j (z.way:Int)):=hw
  by_cases hwy:z.way=x.way
  .have hwy':(z.way:Int)=x.way:=by omega
   have hset:=qgB (f:=cSp) (x':=⟨z.fr,x.to,z.way⟩) (v:=.w x.to) (i:=1) qho hz (by omega) rfl;rw[show l.flatMap cSp=rSp l from rfl,List.singleton_append]at hset
   have h3:(l.length-1)*3+1+1<=(rSp l).length:=by rw[qfW];omega
   simp +decide only[↓vS,vT,simprocAttr,h0',ho,hr,n1,n2,n3,n4,n5,n6,n7,n8,n9,n10,n11,e1,hlt,hw',hwy',h3,hset];have hp:jF l x=l.set (l.length-1) ⟨z.fr,x.to,z.way⟩:=by unfold jF;rw[hz];grind
   refine hk _ _ br (by omega) ?_ ?_ ?_ (.inl rfl) (by omega)
   .grind[Tr.get_set]
   .rw[Tr.get_set,if_neg hbr,Tr.get_set,if_neg n1,ho,hp];simp
   .rw[Tr.get_set,if_pos rfl,hp];rfl
  .have hwy':¬(z.way:Int)=x.way:=by omega
   simp +decide only[↓vS,vT,simprocAttr,h0',ho,hr,n1,n2,n3,n4,n5,n6,n7,n8,n9,n10,n11,e1,hlt,hw',hwy',r1,r2,qfW];refine app _ ?_ ?_ ?_ ?_
   .grind[Tr.get_set]
   .simp[Tr.get_set]
   .simp only[Tr.get_set];rw[if_neg (by omega)];simp[cSp]
   .unfold jF;rw[hz];grind
def qaM(l:List (Int×Nat)):List AV:=l.map λx=>.w x.1
def qbf(l:List (Int×Nat)):List AV:=l.map λx=>.j (x.2:Int)
theorem qjq{l:List (Int×Nat)}:(qaM l).length=l.length:=by simp[qaM]
theorem qjr{l:List (Int×Nat)}:(qbf l).length=l.length:=by simp[qbf]
def qdr{l:List (Int×Nat)}:qt (qaM l)=true:=qcv λ_=>rfl
def qds{l:List (Int×Nat)}:qt (qbf l)=true:=qcv λ_=>rfl
def qjp{l:List (Int×Nat)}{j:Nat}:(qaM l)[j]?=(l[j]?).map λx=>.w x.1:=by simp[qaM]
def qpN{l:List (Int×Nat)}{j:Nat}:(qbf l)[j]?=(l[j]?).map λx=>.j (x.2:Int):=by simp[qbf]
def pcs(o:Nat):List (Int×Nat)->Int->List Sp
 | [],nx=>if nx<4294967296 then [⟨nx,4294967295,o⟩]else []
 | x::l,nx=>(if nx<x.1 then [⟨nx,x.1-1,o⟩]else [])++⟨x.1,x.1,x.2⟩::pcs o l (x.1+1)
def qdP(a:Nat):IFn:=⟨[.tmp 6],sq [.r [.q 3 (.box (.t 0)),.q 4 (.box (.t 1)),.q 5 (.box (.t 2)),.m 6 (.c (.nilf))],.r [.q 7 (.mkF a [] [.t 3,.t 5,.t 4]),.n 6 7],.ret]⟩
def qtN{g:Nat}(hc:qc P f (qdP g)=true)(l:List (Int×Nat))(o:Nat):qa P f [.fz l.length (qaM l),.fz l.length (qbf l),.j (o:Int)] (.fn g [] [.pf [.fz l.length (qaM l)] 0,.pf [.j (o:Int)] 0,.pf [.fz l.length (qbf l)] 0]):=by
 refine qa.mk hc (by simp[qt,clo,qdr,qds]) ?_;simp only[qdP,vI,simprocAttr];simp +decide only[↓vS,vT,simprocAttr];simp[vZ,vP,Tr.get_set,zi qdr,zi qds]
def spT(g3:Nat)(l:List (Int×Nat))(o:Nat):List (Nat×AV):=[(3,.ptr 0 0),(4,.ptr 1 0),(7,.fn g3 [] [.pf [.fz l.length (qaM l)] 0,.pf [.j (o:Int)] 0,.pf [.fz l.length (qbf l)] 0])]
def spA:ICode:=.reg false [⟨some 5,.op (.alloc [.w 0,.w 0,.j 0]),none⟩,⟨none,.op (.store 3 (.t 5) (.t 8)),none⟩]
def spB:ICode:=.blk 1 (.reg false [⟨some 9,.op (.load1 (.t 4)),none⟩,⟨some 10,.op (.loadN 3 (.t 5)),none⟩,⟨some 11,.callV (.t 9) [.t 10],none⟩])
def SpI(g1:Nat)(r0:Loop)(ts:List (Nat×AV))(out:List Sp)(s:Nat)(tr:Tr Blk):Prop :=
 ∃br,4<=s/\tr.get 0=some (.v [.own br out.length])/\tr.get br=some (.cells 3 true true (rSp out))/\(br=2\/4<=br)/\br<s/\tr.get 1=some (.v [.fn g1 [] [.ptr 0 0]])/\tr.get 3=some (.map (zJ r0 ts))
def qmd{g1 g3 s:Nat}{r0:Loop}{l:List (Int×Nat)}{o:Nat}{out:List Sp}{tr:Tr Blk}{k:AV->Hp->Prop}(hc1:qc P g1 jB=true)(hr0:r0.state = .ready)(hp0:r0.pending=none)(hlo:LoopOk P r0 [8] spA spB)
  (hI:SpI g1 r0 (spT g3 l o) out s tr) (x:Sp) (hm:out.length<=1000000) (hk:∀s' tr',SpI g1 r0 (spT g3 l o) (jF out x) s' tr'->k (.b true) ⟨s',0,tr'⟩):SY P 3 [.agg (cSp x)] ⟨s,0,tr⟩ k:=by
 obtain⟨br,h4,h0,hb,hbr,hbs,h1,h3⟩:=hI;refine SY.mk (r:=r0) (ts:=spT g3 l o) (ps:=[8]) h3 hr0 hlo (Nat.zero_le _) (by show 3<s;omega) rfl ?_;rw[show mkT (spT g3 l o)=((Tr.leaf.set 7 (.fn g3 [] [.pf [.fz l.length (qaM l)] 0,.pf [.j (o:Int)] 0,.pf [.fz l.length (qbf l)] 0])).set 4 (.ptr 1 0)).set 3 (.ptr 0 0)from rfl]
 refine qk ?_;simp only[qkB,spA,cSp,vI,simprocAttr];simp +decide only[↓vS,vT,simprocAttr];have n3:¬3=s:=by omega
 have n1:¬1=s:=by omega
 have n13:¬1=3:=by omega
 have n03:¬0=3:=by omega
 have ns3:¬s=3:=by omega
 refine⟨spT g3 l o,by simp[Tr.get_set,n3,h3],?_⟩
 refine qk ?_;simp only[qB,spB,vI,simprocAttr];simp +decide only[↓vS,vT,simprocAttr,h1,n1,n13,ns3]
 have gb:∀b,b<s->b≠3->(((tr.set s (.v [.w 0,.w 0,.j 0])).set s (.v [.w x.fr,.w x.to,.j (x.way:Int)])).set 3 (.map (zJ (Go.Kc.bsy r0) (spT g3 l o)))).get b=tr.get b:=λb h1 h2=>by
  simp only[Tr.get_set];repeat rw[if_neg (by omega)]
 refine qw0 hc1 x ((gb 0 (by omega) (by omega)).trans h0) (by grind) (by omega) (by omega) (by omega) hm λs' tr' br' q1 q2 q3 q4 q5 q6=>?_
 simp +decide only[↓vS,vT,simprocAttr];have g3':tr'.get 3=some (.map (zJ (Go.Kc.bsy r0) (spT g3 l o))):=by rw[q2 3 (by omega) (by omega) (by omega),Tr.get_set,if_pos rfl]
 refine⟨Go.Kc.bsy r0,spT g3 l o,g3',?_⟩;rw[qey,qfX hr0 hp0];simp only[qB];simp +decide only[↓vS,vT,simprocAttr];refine hk _ _ ⟨br',by omega,?_,?_,by omega,q6,?_,?_⟩
 all_goals grind[Tr.get_set]
def qcg:IFn:=⟨[],sq [.r [.m 5 (.c (.x 0))],sq [.r [.d 8 1,.e 9 8,.m 10 (.k 0)],.blk 0 (.loop (sq [.r [.s 11 10 9],.cond (.t 11) (.skip) (.exit 0),.blk 1 (sq [.r [.n 12 10,.i 13 1 8 10,.d 14 13,.n 6 12,.n 7 14],sq [.r [.n 15 5,.n 16 7,.q 17 (.cvInt .u64 (.t 16)),.s 18 15 17,.n 19 18,.y 20 0 19,.y 21 5 19,.g 22 (.cvInt .u32 (.t 21)) 19 true,.y 23 7 19,.g 24 (.bin .sub (.t 23) (.c (.w 1))) 19 true,.j 25 2 19 true,.g 26 (.build [.w 0,.w 0,.j 0] [(0,1,(.t 22)),(1,1,(.t 24)),(2,1,(.t 25))]) 19 true,⟨(some 27),.callV (.t 20) [.t 26],(some (19,true))⟩,.g 28 (.un .not (.t 27)) 19 true,.p 29 19 28],.cond (.t 29) (.ret) (.skip)],sq [.r [.n 30 0,.n 31 7,.n 32 7,.d 33 3,.n 34 6,.i 35 1 33 34,.d 36 35,.q 37 (.build [.w 0,.w 0,.j 0] [(0,1,(.t 31)),(1,1,(.t 32)),(2,1,(.t 36))]),⟨(some 38),.callV (.t 30) [.t 37],none⟩,.q 39 (.un .not (.t 38))],.cond (.t 39) (.ret) (.skip)],.r [.n 40 7,.q 41 (.cvInt .u64 (.t 40)),.q 42 (.bin .add (.t 41) (.c (.x 1))),.n 5 42]]),.r [.a 43 10 1,.n 10 43]]))],.r [.n 44 5,.q 45 (.bin .lss (.t 44) (.c (.x 4294967296)))],.cond (.t 45) (.r [.n 46 0,.n 47 5,.q 48 (.cvInt .u32 (.t 47)),.d 49 2,.q 50 (.build [.w 0,.w 0,.j 0] [(0,1,(.t 48)),(1,1,(.c (.w 4294967295))),(2,1,(.t 49))]),⟨(some 51),.callV (.t 46) [.t 50],none⟩]) (.skip)]⟩
def qbM(a:Nat):ICode:=sq [.r [.d 12 3,.n 2 12],.ret]
def qdO(a:Nat):IFn:=⟨[.tmp 2],sq [.r [.m 2 .N],.r [.q 3 (.alloc [.nils])],.r [.q 6 (.mkF a [] [.t 3]),.q 4 (.alloc [.nilf]),.u (.store 1 (.t 4) (.t 6))],sq [.r [.n 7 0],.blk 0 (.rangeF 0 (.t 7) [8] (.r [.q 5 (.alloc [.w 0,.w 0,.j 0]),.u (.store 3 (.t 5) (.t 8))]) (.blk 1 (.r [.d 9 4,.v 10 3 5,⟨(some 11),.callV (.t 9) [.t 10],none⟩])))],.cut (qbM a)]⟩
def qm8{n0 g1 br n:Nat}{s:Nat}{tr:Tr Blk}{t:Tr AV}{out:List Sp}(ht:t.get 3=some (.ptr 0 0))(h0:tr.get 0=some (.v [.own br out.length]))(hb:tr.get br=some (.cells 3 true true (rSp out)))(hn:n=out.length) :
  S P n0 (qbM g1) (xu [.tmp 2] λv' h'=>Frz h' v' (.fz n (rSp out))) t ⟨s,0,tr⟩:=by
 refine S.has [(3,.ptr 0 0)] (by grind[qg,ql]) (qk ?_);simp only[qbM,vI,simprocAttr];simp only[↓vS,vT,simprocAttr,h0];simp[vZ,vP,Tr.get_set,hb,hn,zi qfx];intro h;rw[h];rfl
def qpD{g1 g3:Nat}(hc:qc P f (qdO g1)=true)(hc1:qc P g1 jB=true)(hc3:qc P g3 qcg=true)(l:List (Int×Nat))(o:Nat)(hl:l.length<=100000)(hr:∀x ∈ l,0<=x.1/\x.1<4294967296) :
  qa P f [.fn g3 [] [.pf [.fz l.length (qaM l)] 0,.pf [.j (o:Int)] 0,.pf [.fz l.length (qbf l)] 0]] (.fz (zW (pcs o l 0)).length (rSp (zW (pcs o l 0)))):=by
 refine qa.mk hc (by simp[qt,clo,qdr,qds]) ?_;simp only[qdO,vI,simprocAttr];simp +decide only[↓vS,vT,simprocAttr];refine S.weak (Wk.mk (spT g3 l o) [.v [.own 2 0],.v [.fn g1 [] [.ptr 0 0]],.cells 3 true true []] [0,1,99] ?_ ?_ ?_ rfl) ?_
 .simp[vw,spT,qdr,qds,qe]
 .simp[vw]
 .simp
 refine S.rangeF (by simp[jD]) (by simp[spT]) ⟨rfl,rfl⟩ ?_;refine qkc.2 ⟨.fn g3 [] [.pf [.fz l.length (qaM l)] 0,.pf [.j (o:Int)] 0,.pf [.fz l.length (qbf l)] 0],by simp[spT,mkT,Tr.get_set],?_⟩
 refine⟨qdD hc3,λr0 hr0 hp0 hlo=>SC.mk hc3 ?_⟩
 have hlo:LoopOk P r0 [8] spA spB:=hlo;show S P 4 _ _ (qbY [.yl 3,.pf [.fz l.length (qaM l)] 0,.pf [.j (o:Int)] 0,.pf [.fz l.length (qbf l)] 0] 0 .leaf) ⟨4,0,(((Tr.leaf.set 0 (.v [.own 2 0])).set 1 (.v [.fn g1 [] [.ptr 0 0]])).set 2 (.cells 3 true true [])).set 3 (.map (zJ r0 (spT g3 l o)))⟩;refine qk ?_;simp only[qcg,vI,simprocAttr];simp +decide only[↓vS,vT,simprocAttr]
 refine SL.loopP (α:=Nat×Int) (λi=>[(0,.yl 3),(1,.pf [.fz l.length (qaM l)] 0),(2,.pf [.j (o:Int)] 0),(3,.pf [.fz l.length (qbf l)] 0),(5,.x i.2),(8,.fz l.length (qaM l)),(9,.j (l.length:Int)),(10,.j (i.1:Int))])
  (λi h=>i.1<=l.length/\0<=i.2/\i.2<=4294967296/\∃s tr out,h=⟨s,0,tr⟩/\SpI g1 r0 (spT g3 l o) out s tr/\(pcs o (l.drop i.1) i.2).foldl jF out=zW (pcs o l 0)/\out.length<=2*i.1) (λi=>l.length-i.1) ?_ (0,0) ?_ ?_
 .rintro⟨i,nx⟩ h1 ⟨hi,hx0,hx1,s,tr,out,rfl,hI,hE,hol⟩ G ih;simp only at hi hx0 hx1 hI hE hol;simp only[vI,simprocAttr]
  by_cases hlt:i<l.length
  .have hlt':(i:Int)<l.length:=by omega
   obtain⟨x,hx⟩:∃x,l[i]?=some x:=⟨_,zzE hlt⟩;have hd:l.drop i=x::l.drop (i+1):=by rw[<- (zzS.1 hx).2,List.getElem_cons_drop]
   obtain⟨x0,x1⟩:=hr x (by grind);have g1':(qaM l)[i]?=some (.w x.1):=by rw[qjp,hx];rfl
   have g2':(qbf l)[i]?=some (.j (x.2:Int)):=by rw[qpN,hx];rfl
   have hw1:IntKind.wrap .i64 ((i:Int)+1)=((i+1:Nat):Int):=by rw[qp (by omega) (by omega)];simp
   have hw2:IntKind.wrap .u64 x.1=x.1:=by grind[qdl]
   have hw3:IntKind.wrap .u64 (x.1+1)=x.1+1:=by grind[qdl]
   rw[hd,pcs,List.foldl_append,List.foldl_cons]at hE
   -- the second yield
   have two:∀(s:Nat) (tr:Tr Blk) (out:List Sp),SpI g1 r0 (spT g3 l o) out s tr->out.length<=2*i+1->(pcs o (l.drop (i+1)) (x.1+1)).foldl jF (jF out ⟨x.1,x.1,x.2⟩)=zW (pcs o l 0)->∀k:AV->Hp->Prop,
     (∀s' tr' out',SpI g1 r0 (spT g3 l o) out' s' tr'->out'.length<=2*(i+1)->(pcs o (l.drop (i+1)) (x.1+1)).foldl jF out'=zW (pcs o l 0)->k (.b true) ⟨s',0,tr'⟩)->SY P 3 [.agg (cSp ⟨x.1,x.1,x.2⟩)] ⟨s,0,tr⟩ k:=λs tr out h1 h2 h3 k hk =>
    qmd hc1 hr0 hp0 hlo h1 _ (by omega) λs' tr' h4=>hk s' tr' _ h4 (by have:=qmc (l:=out) (s:=⟨x.1,x.1,x.2⟩);omega) h3
   by_cases hn:nx<x.1
   .have hw4:IntKind.wrap .u32 nx=nx:=by grind[qdk]
    have hw5:IntKind.wrap .u32 (x.1-1)=x.1-1:=by grind[qdk]
    rw[if_pos hn,List.foldl_cons,List.foldl_nil]at hE;simp +decide only[↓vS,vT,simprocAttr,hlt',hlt,g1',hw2,hn,hw4,hw5,zzU];refine qmd (x:=⟨nx,x.1-1,o⟩) hc1 hr0 hp0 hlo hI (by omega) λs2 tr2 h2=>?_
    simp +decide only[↓vS,vT,simprocAttr,g2',hlt,zzU];refine two _ _ _ h2 (by have:=qmc (l:=out) (s:=⟨nx,x.1-1,o⟩);omega) hE _ λs3 tr3 out3 h3 h4 h5=>?_
    simp +decide only[↓vS,vT,simprocAttr,hw1,hw2,hw3];refine ih (i+1,x.1+1) _ _ (by omega) ?_ ⟨by omega,by omega,by omega,s3,tr3,out3,rfl,h3,h5,h4⟩
    simp[qg,ql,Tr.get_set]
   .rw[if_neg hn,List.foldl_nil]at hE;simp +decide only[↓vS,vT,simprocAttr,hlt',hlt,g1',g2',hw2,hn,zzU];refine two _ _ _ hI (by omega) hE _ λs3 tr3 out3 h3 h4 h5=>?_
    simp +decide only[↓vS,vT,simprocAttr,hw1,hw2,hw3];refine ih (i+1,x.1+1) _ _ (by omega) ?_ ⟨by omega,by omega,by omega,s3,tr3,out3,rfl,h3,h5,h4⟩
    simp[qg,ql,Tr.get_set]
  .obtain rfl:i=l.length:=by omega
   have hlt':¬((l.length:Int)<l.length):=by omega
   rw[List.drop_length,pcs]at hE
   by_cases hn:nx<4294967296
   .have hw4:IntKind.wrap .u32 nx=nx:=by grind[qdk]
    rw[if_pos hn,List.foldl_cons,List.foldl_nil]at hE;simp +decide only[↓vS,vT,simprocAttr,hlt',hn,hw4];refine qmd (x:=⟨nx,4294967295,o⟩) hc1 hr0 hp0 hlo hI (by omega) λs2 tr2 h2=>?_
    simp +decide only[↓vS,vT,simprocAttr];obtain⟨br,q4,q0,qb,qbr,qbs,q1,q3⟩:=h2;refine⟨r0,spT g3 l o,q3,by rw[hr0];decide,?_⟩
    rw[hp0];simp only[qB];simp only[↓vS,vT,simprocAttr];rw[<- hE];refine qm8 (br:=br) (by simp[spT,mkT,Tr.get_set]) ?_ ?_ rfl
    all_goals grind[Tr.get_set]
   .rw[if_neg hn,List.foldl_nil]at hE;simp +decide only[↓vS,vT,simprocAttr,hlt',hn];obtain⟨br,q4,q0,qb,qbr,qbs,q1,q3⟩:=hI;refine⟨r0,spT g3 l o,q3,by rw[hr0];decide,?_⟩
    rw[hp0];simp only[qB];simp only[↓vS,vT,simprocAttr];rw[<- hE];refine qm8 (br:=br) (by simp[spT,mkT,Tr.get_set]) ?_ ?_ rfl
    all_goals grind[Tr.get_set]
 .simp[qg,ql,Tr.get_set]
 .refine⟨Nat.zero_le _,by simp,by simp,4,_,[],rfl,⟨2,by omega,?_,?_,.inl rfl,by omega,?_,?_⟩,rfl,by simp⟩<;>simp[Tr.get_set,rSp]
def qir(a b:Nat):IFn:=⟨[.tmp 6,.tmp 7],sq [.r [.m 6 .N,.m 7 (.k 0)],sq [.r [.n 9 0,.e 10 9,.n 11 1,.e 12 11,.b 13 .neq 10 12],.cond (.t 13) (sq [.r [.m 6 .N,.m 7 (.k 2)],.ret]) (.skip)],sq [.r [.n 14 0,.e 15 14,.m 16 (.k 0)],.blk 0 (.loop (sq [.r [.s 17 16 15],.cond (.t 17) (.skip) (.exit 0),.blk 1 (sq [.r [.n 18 16,.n 8 18],.reg true [.n 19 8,.w 20 .gtr 19 0,.n 21 20,.y 22 0 21,.y 23 8 21,.g 24 (.iAddrS 1 (.t 22) (.t 23)) 21 true,.j 25 24 21 true,.y 26 0 21,.y 27 8 21,.g 28 (.bin .sub (.t 27) (.k 1)) 21 true,.g 29 (.iAddrS 1 (.t 26) (.t 28)) 21 true,.j 30 29 21 true,.g 31 (.bin .leq (.t 25) (.t 30)) 21 true,.p 32 21 31],.cond (.t 32) (sq [.r [.m 6 .N,.m 7 (.k 2)],.ret]) (.skip)]),.r [.a 33 16 1,.n 16 33]]))],.r [.n 34 0,.n 35 1,.n 36 2,.l 37 a [.t 34,.t 35,.t 36],.l 38 b [.t 37],.n 6 38,.m 7 (.k 0)],.ret]⟩
def qxj(l:List (Int×Nat)):Prop:=∀(i:Nat) a b,l[i]?=some a->l[i+1]?=some b->a.1<b.1
def qEL{g1 g2 g3:Nat}(hc:qc P f (qir g1 g2)=true)(l:List (Int×Nat))(o:Nat)(h1:qa P g1 [.fz l.length (qaM l),.fz l.length (qbf l),.j (o:Int)] (.fn g3 [] [.pf [.fz l.length (qaM l)] 0,.pf [.j (o:Int)] 0,.pf [.fz l.length (qbf l)] 0]))
  (h2:qa P g2 [.fn g3 [] [.pf [.fz l.length (qaM l)] 0,.pf [.j (o:Int)] 0,.pf [.fz l.length (qbf l)] 0]] (.fz (zW (pcs o l 0)).length (rSp (zW (pcs o l 0))))) (hl:l.length<=100000) (hr:qxj l) :
  qa P f [.fz l.length (qaM l),.fz l.length (qbf l),.j (o:Int)] (.tup [.fz (zW (pcs o l 0)).length (rSp (zW (pcs o l 0))),.j 0]):=by
 refine qa.mk hc (by simp[qt,clo,qdr,qds]) ?_;simp only[qir,vI,simprocAttr];have hne:¬¬(l.length:Int)=l.length:=λh=>h rfl
 simp +decide only[↓vS,vT,simprocAttr];refine SL.loopP (α:=Nat) (λi=>[(0,.fz l.length (qaM l)),(1,.fz l.length (qbf l)),(2,.j (o:Int)),(15,.j (l.length:Int)),(16,.j (i:Int))]) (λi h=>i<=l.length/\h.fl=0) (λi=>l.length-i) ?_ 0 ?_ ?_
 .rintro i ⟨s,fl,tr⟩ ⟨hi,rfl⟩ G ih;simp only[vI,simprocAttr]
  by_cases hlt:i<l.length
  .have hlt':(i:Int)<l.length:=by omega
   have hw1:IntKind.wrap .i64 ((i:Int)+1)=((i+1:Nat):Int):=by rw[qp (by omega) (by omega)];simp
   simp +decide only[↓vS,vT,simprocAttr,hlt'];refine zB ?_;rcases Nat.eq_zero_or_pos i with h0|h0
   .have h0':¬(0:Int)<(i:Int):=by omega
    simp +decide only[↓vS,vT,simprocAttr,h0',hw1];exact ih (i+1) _ _ (by omega) (by simp[qg,ql,Tr.get_set]) ⟨by omega,rfl⟩
   .have h0':(0:Int)<(i:Int):=by omega
    obtain⟨a,ha⟩:∃x,l[i-1]?=some x:=⟨_,zzE (by omega)⟩;obtain⟨b,hb⟩:∃x,l[i]?=some x:=⟨_,zzE hlt⟩;have hab:=hr (i-1) a b ha (by rw[Nat.sub_add_cancel h0];exact hb);have e1:IntKind.wrap .i64 ((i:Int)-1)=((i-1:Nat):Int):=by rw[qp (by omega) (by omega)];omega
    have g1:(qaM l)[i-1]?=some (.w a.1):=by rw[qjp,ha];rfl
    have g2:(qaM l)[i]?=some (.w b.1):=by rw[qjp,hb];rfl
    have hlt2:i-1<l.length:=by omega
    have hle:¬b.1<=a.1:=by omega
    simp +decide only[↓vS,vT,simprocAttr,h0',hw1,e1,g1,g2,hlt,hlt2,hle,zzU];exact ih (i+1) _ _ (by omega) (by simp[qg,ql,Tr.get_set]) ⟨by omega,rfl⟩
  .obtain rfl:i=l.length:=by omega
   have hlt':¬((l.length:Int)<l.length):=by omega
   simp +decide only[↓vS,vT,simprocAttr,hlt'];refine h1.sc ?_;simp +decide only[↓vS,vT,simprocAttr];refine h2.sc ?_;simp +decide only[↓vS,vT,simprocAttr];simp[vZ,zi qfx]
 all_goals simp_all[qg,ql,Tr.get_set]
def qkF:List Sp->Int->Bool
 | [],nx=>decide (nx=4294967296)
 | s::l,nx=>if s.fr≠nx\/s.to<s.fr then false else qkF l (s.to+1)
def SpR(l:List Sp):Prop:=∀s ∈ l,0<=s.fr/\s.fr<4294967296/\0<=s.to/\s.to<4294967296
def qeN:IFn:=⟨[.tmp 2],sq [.r [.m 2 .F],.r [.m 3 (.c (.x 0))],sq [.r [.n 6 0,.e 7 6,.m 8 (.k 0)],.blk 0 (.loop (sq [.r [.s 9 8 7],.cond (.t 9) (.skip) (.exit 0),.blk 1 (sq [.r [.i 10 3 6 8,.v 11 3 10,.q 5 (.alloc [.w 0,.w 0,.j 0]),.u (.store 3 (.t 5) (.t 11))],sq [.r [.f 12 0 5,.d 13 12,.q 14 (.cvInt .u64 (.t 13)),.n 15 3,.b 16 .neq 14 15,.n 17 16,.h 18 1 5 17 false,.j 19 18 17 false,.h 20 0 5 17 false,.j 21 20 17 false,.g 22 (.bin .lss (.t 19) (.t 21)) 17 false,.o 23 17 22],.cond (.t 23) (sq [.r [.m 2 .F],.ret]) (.skip)],.r [.f 24 1 5,.d 25 24,.q 26 (.cvInt .u64 (.t 25)),.q 27 (.bin .add (.t 26) (.c (.x 1))),.n 3 27]]),.r [.a 28 8 1,.n 8 28]]))],.r [.n 29 3,.q 30 (.bin .eql (.t 29) (.c (.x 4294967296))),.n 2 30],.ret]⟩
def qqX(hc:qc P f qeN=true)(l:List Sp)(hl:l.length<=1000000)(hr:SpR l):qa P f [.fz l.length (rSp l)] (.b (qkF l 0)):=by
 refine qa.mk hc (by simp[qt,clo,qfx]) ?_;simp only[qeN,vI,simprocAttr];simp +decide only[↓vS,vT,simprocAttr];refine SL.loopP (α:=Nat×Int) (λi=>[(3,.x i.2),(6,.fz l.length (rSp l)),(7,.j (l.length:Int)),(8,.j (i.1:Int))]) (λi h=>i.1<=l.length/\h.fl=0/\qkF (l.drop i.1) i.2=qkF l 0) (λi=>l.length-i.1) ?_ (0,0) ?_ ?_
 .rintro⟨i,nx⟩ ⟨s,fl,tr⟩ ⟨hi,rfl,hE⟩ G ih;simp only at hi hE;simp only[vI,simprocAttr]
  by_cases hlt:i<l.length
  .have hlt':(i:Int)<l.length:=by omega
   obtain⟨x,hx⟩:∃x,l[i]?=some x:=⟨_,zzE hlt⟩;have hd:l.drop i=x::l.drop (i+1):=by rw[<- (zzS.1 hx).2,List.getElem_cons_drop]
   obtain⟨x0,x1,x2,x3⟩:=hr x (by grind);have hel:=qxa hx;have h3:i*3+3<=(rSp l).length:=by rw[qfW];omega
   have hw1:IntKind.wrap .i64 ((i:Int)+1)=((i+1:Nat):Int):=by rw[qp (by omega) (by omega)];simp
   have hw2:IntKind.wrap .u64 x.fr=x.fr:=by grind[qdl]
   have hw3:IntKind.wrap .u64 x.to=x.to:=by grind[qdl]
   have hw4:IntKind.wrap .u64 (x.to+1)=x.to+1:=by grind[qdl]
   rw[hd,qkF]at hE
   by_cases c1:x.fr=nx
   .subst c1
    by_cases c2:x.to<x.fr
    .rw[if_pos (.inr c2)]at hE;simp +decide only[↓vS,vT,simprocAttr,hlt',hlt,h3,hel,cSp,hw2,c2,<- hE];simp[vZ]
    .rw[if_neg (by simp[c2])]at hE;simp +decide only[↓vS,vT,simprocAttr,hlt',hlt,h3,hel,cSp,hw2,hw3,hw4,c2,hw1];exact ih (i+1,x.to+1) _ _ (by simp only;omega) (by simp[qg,ql,Tr.get_set]) (by grind)
   .rw[if_pos (.inl c1)]at hE;simp +decide only[↓vS,vT,simprocAttr,hlt',hlt,h3,hel,cSp,hw2,c1,<- hE];simp[vZ]
  .obtain rfl:i=l.length:=by omega
   have hlt':¬((l.length:Int)<l.length):=by omega
   rw[List.drop_length,qkF]at hE;simp +decide only[↓vS,vT,simprocAttr,hlt',hE];simp[vZ]
 all_goals grind[qg,ql,Tr.get_set]
def zO(l:List Sp)(at':Nat):List Nd :=
 if _h:l.length / 2=0 then [⟨true,(l.headD ⟨0,0,0⟩).way,0,0,0⟩]else
  ⟨false,0,(l.getD (l.length / 2) ⟨0,0,0⟩).fr,at'+1,at'+1+(zO (l.take (l.length / 2)) (at'+1)).length⟩::(zO (l.take (l.length / 2)) (at'+1)++zO (l.drop (l.length / 2)) (at'+1+(zO (l.take (l.length / 2)) (at'+1)).length))
termination_by l.length
decreasing_by all_goals grind
def qdt(n:Nat):∀(l:List Sp) (a:Nat),l.length<=n->0<l.length->(zO l a).length+1=2*l.length:=by
 induction n<;>grind[zO.eq_1]
def qxb{l:List Sp}{k:Nat}:(rSp l).take (k*3)=rSp (l.take k):=qhs qho l k
def qw9{l:List Sp}{k:Nat}:(rSp l).drop (k*3)=rSp (l.drop k):=qfh qho l k
def qrT{l m:List Nd}:rNd l++rNd m=rNd (l++m):=by simp[rNd]
def qw5{l:List Nd}:qt (rNd l)=true:=xP λ_=>rfl
def jS:IFn:=⟨[],sq [.r [.n 6 0,.e 7 6,.w 8 .quo 7 2,.n 4 8],sq [.r [.n 9 4,.w 10 .eql 9 0],.cond (.t 10) (sq [.reg true [.d 11 1,.n 12 0,.q 13 (.iAddrS 3 (.t 12) (.k 0)),.f 14 2 13,.d 15 14,.q 16 (.build [.b false,.j 0,.w 0,.j 0,.j 0] [(0,1,.T),(1,1,(.t 15))]),.q 17 (.buildS 1 [.b false,.j 0,.w 0,.j 0,.j 0] [(0,5,(.t 16))]),.q 18 (.app 5 40 true (.t 11) (.t 17)),.u (.store 1 (.t 1) (.t 18))],.ret]) (.skip)],.r [.d 19 1,.e 20 19,.n 5 20],.reg true [.d 21 1,.n 22 0,.n 23 4,.i 24 3 22 23,.f 25 0 24,.d 26 25,.n 27 5,.a 28 27 1,.q 29 (.build [.b false,.j 0,.w 0,.j 0,.j 0] [(2,1,(.t 26)),(3,1,(.t 28))]),.q 30 (.buildS 1 [.b false,.j 0,.w 0,.j 0,.j 0] [(0,5,(.t 29))]),.q 31 (.app 5 40 true (.t 21) (.t 30)),.u (.store 1 (.t 1) (.t 31))],.reg true [.d 32 2,.n 33 0,.n 34 4,.n 35 4,.q 36 (.slcS 3 (.t 33) none (some (.t 34)) (some (.t 35))),⟨(some 37),.callVW (.t 32) [.t 36],none⟩],.r [.d 38 1,.n 39 5,.d 40 1,.e 41 40,.i 42 5 38 39,.f 43 4 42,.u (.store 1 (.t 43) (.t 41))],.reg true [.d 44 2,.n 45 0,.n 46 4,.n 47 0,.e 48 47,.n 49 0,.e 50 49,.q 51 (.slcS 3 (.t 45) (some (.t 46)) (some (.t 48)) (some (.t 50))),⟨(some 52),.callVW (.t 44) [.t 51],none⟩]]⟩
def qsd{h:Hp}{esz n c:Nat}{q2 q3:IntKind}{cs:List AV}{k:AV->Prop}(h1:0<c)(h2:c<=n)(h3:c*esz<=cs.length):slK esz none (some (.i q2 (c:Int))) (some (.i q3 (c:Int))) (.fz n cs) h k↔evA (.fz c (cs.take (c*esz))) k:=by
 have hne:Nat.beq c 0=false:=by
  grind[Nat.eq_of_beq_eq_true]
 simp only[slK,qkM,qkJ];show(ifK (c<=n) (ifK (c<=c) _))↔_;simp only[ifK,h2,zzL,true_and,Option.isSome_some,hne,Bool.true_and,Bool.false_eq_true,if_false];show(0*esz<=cs.length/\(c-0)*esz<=(cs.drop (0*esz)).length/\_)↔_;simp only[Nat.zero_mul,Nat.zero_le,Nat.sub_zero,List.drop_zero,h3,true_and];exact Iff.rfl
def qAf{l:List Nd}{j:Nat}{x:Nd}(m:Nat)(h:l[j]?=some x):(rNd l).take (j*5+4) ++ .j (m:Int)::(rNd l).drop (j*5+4+1)=rNd (l.set j ⟨x.leaf,x.way,x.at',x.less,m⟩) :=
 qgB (f:=cNd) (x':=⟨x.leaf,x.way,x.at',x.less,m⟩) (v:=.j (m:Int)) (i:=4) qkN h (by omega) rfl
noncomputable def qjH(tr:Tr Blk)(s bt b1:Nat)(T:List Nd)(x:Nd):Tr Blk:=(((tr.set s (.v (cNd x))).set bt .dead).set (s+1) (.cells 5 true true (rNd T++cNd x))).set b1 (.v [.own (s+1) (T.length+1)])
def qCZ{g:Nat}(hc:qc P g jS=true):∀(n:Nat) (l:List Sp),l.length<=n->0<l.length->∀(s:Nat) (tr:Tr Blk) (b1 b2 bt:Nat) (T:List Nd),tr.get b1=some (.v [.own bt T.length])->tr.get bt=some (.cells 5 true true (rNd T))->
  tr.get b2=some (.v [.fn g [] [.ptr b1 0,.ptr b2 0]])->b1≠bt->b2≠bt->b1≠b2->b1<s->b2<s->bt<s->T.length+2*l.length<=1000000->
  ∃s' tr' bt',s<=s'/\(∀b,b<s->b≠b1->b≠bt->tr'.get b=tr.get b)/\tr'.get b1=some (.v [.own bt' (T++zO l T.length).length])/\tr'.get bt'=some (.cells 5 true true (rNd (T++zO l T.length)))/\(bt'=bt\/s<=bt')/\bt'<s' /\
   ∀k:AV->Hp->Prop,k (.tup []) ⟨s',0,tr'⟩->SC P g [.fz l.length (rSp l),.ptr b1 0,.ptr b2 0] ⟨s,0,tr⟩ k:=by
 intro n
 induction n with
 | zero=>omega
 | succ n ih =>
  intro l hn h0 s tr b1 b2 bt T g1 gt g2 n1 n2 n3 l1 l2 l3 hm
  have e2:((l.length:Nat):Int).tdiv 2=((l.length / 2:Nat):Int):=by
   rw[Int.tdiv_eq_ediv_of_nonneg (by omega)];omega
  have ew:IntKind.wrap .i64 ((l.length / 2:Nat):Int)=((l.length / 2:Nat):Int):=by grind[qp]
  have h20:(2:Int)≠0:=by decide
  have r1:T.length+1<=qi:=by simp only[qi];omega
  have r2:(T.length+1)*40<=qi:=by simp only[qi];omega
  have m1:¬b1=s:=by omega
  have m2:¬b2=s:=by omega
  have m3:¬bt=s:=by omega
  have m4:¬s=bt:=by omega
  have m5:¬b1=bt:=n1;have m6:¬b1=s+1:=by omega
  have hTl:(rNd T).length=T.length*5:=qk3
  by_cases hk:l.length / 2=0
  .have hl1:l.length=1:=by omega
   obtain⟨x,rfl⟩:∃x,l=[x]:=List.length_eq_one_iff.1 hl1;have hT:zO [x] T.length=[⟨true,x.way,0,0,0⟩]:=by rw[zO];simp
   rw[hT];refine⟨s+1+1,qjH tr s bt b1 T ⟨true,x.way,0,0,0⟩,s+1,by omega,?_,?_,?_,.inr (by omega),by omega,λk hk=>?_⟩
   .intro b q1 q2 q3;simp only[qjH,Tr.get_set];repeat rw[if_neg (by omega)]
   .rw[qjH,Tr.get_set,if_pos rfl];simp
   .rw[qjH,Tr.get_set,if_neg (by omega),Tr.get_set,if_pos rfl,<- qrT];rfl
   .refine SC.mk hc (qk ?_);simp only[jS,vI,simprocAttr];simp +decide only[↓vS,vT,simprocAttr,↓qkK h20,e2,ew];refine zB ?_;simp +decide only[↓vS,vT,simprocAttr,rSp,cSp,List.flatMap_cons,List.flatMap_nil,g1,gt,m1,m2,m3,m4,m5,m6,r1,r2,hTl];exact hk
  .have hk0:¬(((l.length / 2:Nat)):Int)=0:=by omega
   obtain⟨x,hx⟩:∃x,l[l.length / 2]?=some x:=⟨_,zzE (by omega)⟩;have hxD:l.getD (l.length / 2) ⟨0,0,0⟩=x:=by rw[List.getD_eq_getElem?_getD,hx];rfl
   have gx:=qr1 hx (i:=0) (by omega);have gx':(rSp l)[l.length / 2*3]?=some (.w x.fr):=gx;have hlk:l.length / 2<l.length:=by omega
   have hw1:IntKind.wrap .i64 ((T.length:Int)+1)=((T.length+1:Nat):Int):=by rw[qp (by omega) (by omega)];simp
   obtain⟨nd,hnd⟩:∃nd:Nd,nd=⟨false,0,x.fr,T.length+1,0⟩:=⟨_,rfl⟩;have a1:(qjH tr s bt b1 T nd).get b1=some (.v [.own (s+1) (T++[nd]).length]):=by rw[qjH,Tr.get_set,if_pos rfl];simp
   have at1:(qjH tr s bt b1 T nd).get (s+1)=some (.cells 5 true true (rNd (T++[nd]))):=by rw[qjH,Tr.get_set,if_neg (by omega),Tr.get_set,if_pos rfl,<- qrT];simp[rNd]
   have ae:∀b,b<s->b≠b1->b≠bt->(qjH tr s bt b1 T nd).get b=tr.get b:=λb q1 q2 q3=>by
    simp only[qjH,Tr.get_set];repeat rw[if_neg (by omega)]
   obtain⟨s2,tr2,bt2,q1,q2,q3,q4,q5,q6,q7⟩:=ih (l.take (l.length / 2)) (by simp;omega) (by simp;omega) (s+1+1) (qjH tr s bt b1 T nd) b1 b2 (s+1) (T++[nd]) a1 at1 ((ae b2 l2 (Ne.symm n3) n2).trans g2) (by omega) (by omega) n3 (by omega) (by omega) (by omega) (by simp;omega);have hlt:(l.take (l.length / 2)).length=l.length / 2:=by simp;omega
   rw[show(T++[nd]).length=T.length+1 by simp]at q3 q4
   have htl:=qdt l.length (l.take (l.length / 2)) (T.length+1) (by omega) (by omega);rw[hlt]at q7 htl;obtain⟨L,hL⟩:∃L,L=zO (l.take (l.length / 2)) (T.length+1):=⟨_,rfl⟩;rw[<- hL]at q3 q4 htl;have hget:(T++[nd]++L)[T.length]?=some nd:=by simp
   have hT3:(T++[nd]++L).set T.length ⟨nd.leaf,nd.way,nd.at',nd.less,(T++[nd]++L).length⟩=T++[⟨false,0,x.fr,T.length+1,T.length+1+L.length⟩]++L:=by
    rw[hnd];simp[List.set_append];omega
   have hset:=qAf (T++[nd]++L).length hget;rw[hT3]at hset;have hl3:T.length*5+4+1<=(rNd (T++[nd]++L)).length:=by rw[qk3];simp;omega
   have hn5:b1≠bt2:=by omega
   have hn6:b2≠bt2:=by omega
   obtain⟨T3,hT3e⟩:∃T3:List Nd,T3=T++[⟨false,0,x.fr,T.length+1,T.length+1+L.length⟩]++L:=⟨_,rfl⟩;have hT3l:T3.length=(T++[nd]++L).length:=by rw[hT3e];simp
   have b2g:=(q2 b2 (by omega) (Ne.symm n3) (by omega)).trans ((ae b2 l2 (Ne.symm n3) n2).trans g2)
   obtain⟨s4,tr4,bt4,p1,p2,p3,p4,p5,p6,p7⟩:=ih (l.drop (l.length / 2)) (by simp;omega) (by simp;omega) s2 (tr2.set bt2 (.cells 5 true true (rNd T3))) b1 b2 bt2 T3 (by rw[Tr.get_set,if_neg hn5,q3,hT3l]) (by rw[Tr.get_set,if_pos rfl])
    (by rw[Tr.get_set,if_neg hn6];omega) hn5 hn6 n3 (by omega) (by omega) (by omega) (by rw[hT3l];simp;omega)
   have hld:(l.drop (l.length / 2)).length=l.length-l.length / 2:=by simp
   rw[hld]at p7
   have hfin:T++zO l T.length=T3++zO (l.drop (l.length / 2)) T3.length:=by
    have e3:T3.length=T.length+1+L.length:=by rw[hT3l];simp;omega
    conv=>lhs;rw[zO,dif_neg hk]
    rw[hxD,<- hL,e3,hT3e];simp
   refine⟨s4,tr4,bt4,by omega,?_,?_,?_,by omega,p6,λk hkk=>?_⟩
   .intro b e1 e2 e3;rw[p2 b (by omega) e2 (by omega),Tr.get_set,if_neg (by omega),q2 b (by omega) e2 (by omega)];exact ae b e1 e2 e3
   .rw[hfin];exact p3
   .rw[hfin];exact p4
   .have v1:(qjH tr s bt b1 T nd).get b2=some (.v [.fn g [] [.ptr b1 0,.ptr b2 0]]):=(ae b2 l2 (Ne.symm n3) n2).trans g2;have k1:0<l.length / 2:=by omega
    have k2:l.length / 2<=l.length:=by omega
    have k3:l.length / 2*3<=(rSp l).length:=by rw[qfW];omega
    have k4:l.length / 2<l.length:=hlk;have k5:l.length<=l.length:=zzL _;have k6:l.length*3<=(rSp l).length:=by rw[qfW];omega
    have hsl1:(rSp l).take (l.length / 2*3)=rSp (l.take (l.length / 2)):=qxb
    have hsl2:((rSp l).drop (l.length / 2*3)).take ((l.length-l.length / 2)*3)=rSp (l.drop (l.length / 2)):=by
     rw[qw9,List.take_of_length_le (by rw[qfW,hld];omega)]
    refine SC.mk hc (qk ?_);simp only[jS,vI,simprocAttr];simp +decide only[↓vS,vT,simprocAttr,↓qkK h20,e2,ew,hk0,g1];refine zB ?_;simp +decide only[↓vS,vT,simprocAttr,g1,gt,gx',hlk,hw1,m1,m2,m3,m4,m5,m6,r1,r2,hTl];refine zB ?_;rw[hnd]at q7;simp only[qjH,cNd]at q7;have m7:¬b2=b1:=Ne.symm n3;have m8:¬b2=s+1:=by omega
    have m9:¬b2=bt:=n2;simp +decide only[↓vS,vT,simprocAttr,m7,m8,m9,m2,g2,↓qsd k1 k2 k3,hsl1];refine⟨.tup [],_,q7,?_⟩;obtain⟨A,hA⟩:∃A,A=T++[nd]++L:=⟨_,rfl⟩;have k7:T.length<A.length:=by rw[hA];simp
    rw[<- hA]at q3 q4 hl3 hset;rw[<- hT3e]at hset;have k8:¬b1=bt2:=hn5;have k9:¬b2=bt2:=hn6;simp +decide only[↓vS,vT,simprocAttr,q3,q4,k7,k8,hl3,hset];refine zB ?_;simp +decide only[↓vS,vT,simprocAttr,k9,b2g,↓qEG k4 k5 k6,hsl2];exact⟨.tup [],_,p7,hkk⟩
def qfl(a b:Nat):ICode:=sq [.r [.d 10 5,.n 11 0,⟨(some 12),.callV (.t 10) [.t 11],none⟩],.r [.d 13 4,.n 2 13,.m 3 (.k 0)],.ret]
def qeP(a b:Nat):IFn:=⟨[.tmp 2,.tmp 3],sq [.r [.m 2 .N,.m 3 (.k 0)],sq [.r [.n 6 0,.l 7 a [.t 6],.q 8 (.un .not (.t 7))],.cond (.t 8) (sq [.r [.m 2 .N,.m 3 (.k 240)],.ret]) (.skip)],.r [.q 4 (.alloc [.nils])],.r [.q 5 (.alloc [.nilf])],.r [.q 9 (.mkF b [] [.t 4,.t 5]),.u (.store 1 (.t 5) (.t 9))],.cut (qfl a b)]⟩
def qq2(l:List Sp):AV:=if qkF l 0=true then .tup [.fz (zO l 0).length (rNd (zO l 0)),.j 0]else .tup [.fz 0 [],.j 240]
def qt2{g1 g2:Nat}(hc:qc P f (qeP g1 g2)=true)(h2:qc P g2 jS=true)(l:List Sp)(h1:qa P g1 [.fz l.length (rSp l)] (.b (qkF l 0)))(hl:l.length<=400000)(h0:0<l.length):qa P f [.fz l.length (rSp l)] (qq2 l):=by
 refine qa.mk hc (by simp[qt,clo,qfx]) ?_;simp only[qeP,vI,simprocAttr];simp +decide only[↓vS,vT,simprocAttr];refine h1.sc ?_;unfold qq2;cases hw:qkF l 0 with
 | false =>
  simp +decide only[↓vS,vT,simprocAttr];simp[vZ]
 | true =>
  simp +decide only[↓vS,vT,simprocAttr];refine S.weak (Wk.mk [(0,.fz l.length (rSp l)),(4,.ptr 0 0),(5,.ptr 1 0)] [.v [.own 2 0],.v [.fn g2 [] [.ptr 0 0,.ptr 1 0]],.cells 5 true true []] [0,1,99] ?_ ?_ ?_ rfl) (qk ?_)
  .simp[vw,qfx]
  .simp[vw]
  .simp
  simp only[qfl,vI,simprocAttr];simp +decide only[↓vS,vT,simprocAttr]
  obtain⟨s',tr',bt',q1,q2,q3,q4,q5,q6,q7⟩:=qCZ h2 l.length l (zzL _) h0 3 (((Tr.leaf.set 0 (.v [.own 2 0])).set 1 (.v [.fn g2 [] [.ptr 0 0,.ptr 1 0]])).set 2 (.cells 5 true true [])) 0 1 2 []
   (by simp[Tr.get_set]) (by simp[Tr.get_set,rNd]) (by simp[Tr.get_set]) (by decide) (by decide) (by decide) (by decide) (by decide) (by decide) (by grind)
  refine q7 _ ?_;simp +decide only[↓vS,vT,simprocAttr,q3];simp[vZ,vP,q4,zi qw5];intro h;rw[h];rfl
end Go.Kc
end
