/- Part 3 of the proof. No condition. -/
import Derived.Test.YtgaodkfneooonaaGreatMK2
import Derived.Test.YtgaodkfneooonaaGreatProg
import Derived.Laws.Externs
import Derived.Lib.Overlaps
import GoSem.ClaimChange
import Derived.ChangeArms
import Derived.ReadAgain
import Derived.ChangeOld
import Derived.ChangeBears
import Derived.OpenShut
import Derived.RecoverIn
import Derived.SizedLaws
set_option maxHeartbeats 4000000
set_option maxRecDepth 1000000
set_option linter.defProp false
set_option linter.unusedSectionVars false
set_option linter.unusedSimpArgs false
set_option linter.unusedVariables false
set_option linter.unnecessarySimpa false
namespace Go.Kc
noncomputable section
section
variable {P:Program}
abbrev qmw:=ICode->(X->Tr AV->Hp->Prop)->Tr AV->Hp->Prop
def qpj(env:Tr IFn)(ih:qmw)(f:Nat)(args:List AV)(h:Hp)(k:AV->Hp->Prop):Prop :=
 env.getK f (λfn=>IFn.rec (motive:=λ_=>Prop) (λres body=>qqi args 0 .leaf (λt0=>ih body (λe t h' =>
  X.rec (motive:=λ_=>Prop) (qa6 t h' res (λvs=>k (qaD vs) h')) (λ_=>False) (qa6 t h' res (λvs=>k (qaD vs) h')) e) t0 h)) fn)
abbrev qkQ:=Nat->List AV->Option AV
def qmx(P:Program)(ho:qkQ):Prop:=∀f vs v,ho f vs=some v->qc P f vs v
def qiM(env:Tr IFn)(ho:qkQ)(ih:qmw)(f:Nat)(args:List AV)(h:Hp)(k:AV->Hp->Prop):Prop :=
 Option.rec (motive:=λ_=>Prop) (qpj env ih f args h k) (λv=>k v h) (ho f args)
def qw9(env:Tr IFn)(ho:qkQ)(ih:qmw):zZ:=λf args h k=>Nat.rec (motive:=λ_=>Prop) False (λf _=>qiM env ho ih f args h k) f
def fv(env:Tr IFn)(ho:qkQ)(n:Nat):qmw :=
 Nat.rec (motive:=λ_=>qmw) (λ_ _ _ _=>False) (λ_ ih c Q t h=>match c with
  | .skip=>Q .normal t h
  | .reg draw ops=>qkz qV draw (qw9 env ho ih) ops (λt h=>Q .normal t h) t h
  | .rangeF _ _ _ _ _=>False
  | .seq x y=>ih x (λe t h=>X.rec (motive:=λ_=>Prop) (ih y Q t h) (λid=>Q (.exit id) t h) (Q .ret t h) e) t h
  | .cond c x y=>evK t c (λv=>unB v (λb=>Bool.rec (motive:=λ_=>Prop) (ih y Q t h) (ih x Q t h) b))
  | .blk id x=>ih x (λe t h=>X.rec (motive:=λ_=>Prop) (Q .normal t h) (λid'=>Bool.rec (motive:=λ_=>Prop) (Q (.exit id') t h) (Q .normal t h) (Nat.beq id' id)) (Q .ret t h) e) t h
  | .loop x=>ih x (λe t h=>X.rec (motive:=λ_=>Prop) (ih (.loop x) Q t h) (λid=>Q (.exit id) t h) (Q .ret t h) e) t h
  | .exit id=>Q (.exit id) t h
  | .ret=>Q .ret t h
  | .no=>False
  | .cut x=>ih x Q t h) n
def LB(ih:qmw):Prop:=∀c Q t h,ih c Q t h->∃e t' h',Q e t' h'/\∀Q',Q' e t' h'->ih c Q' t h
def qw8(env:Tr IFn){ih:qmw}(hi:LB ih):LC (qpj env ih):=by
 intro f vs h k hk;obtain⟨fn,g1,g2⟩:=(Tr.getK_iff _ _ _).1 hk;cases fn with
 | mk res body =>
  obtain⟨t0,g3,g4⟩:=qsT vs 0 .leaf _ g2;obtain⟨e,t',h',h1,h2⟩:=hi _ _ _ _ g3
  have back:∀k',(X.rec (motive:=λ_=>Prop) (qa6 t' h' res (λvs=>k' (qaD vs) h')) (λ_=>False) (qa6 t' h' res (λvs=>k' (qaD vs) h')) e:Prop)->qpj env ih f vs h k':=λk' hk' =>
   (Tr.getK_iff _ _ _).2 ⟨⟨res,body⟩,g1,g4 (λt0=>ih body (λe t h'=>X.rec (motive:=λ_=>Prop) (qa6 t h' res (λvs=>k' (qaD vs) h')) (λ_=>False) (qa6 t h' res (λvs=>k' (qaD vs) h')) e) t0 h) (h2 (λe t h'=>X.rec (motive:=λ_=>Prop) (qa6 t h' res (λvs=>k' (qaD vs) h')) (λ_=>False) (qa6 t h' res (λvs=>k' (qaD vs) h')) e) hk')⟩
  cases e with
  | exit id=>exact h1.elim
  | normal =>
   exact Ep
  | ret =>
   exact Ep
def qAY(env:Tr IFn)(ho:qkQ){ih:qmw}(hi:LB ih):LC (qiM env ho ih):=by
 intro f vs h k hk;unfold qiM at hk;cases hv:ho f vs with
 | none =>
  rw[hv]at hk;obtain⟨v,h',h1,h2⟩:=qw8 env hi f vs h k hk;exact⟨v,h',h1,λk' hk'=>by unfold qiM;rw[hv];exact h2 k' hk'⟩
 | some v =>
  rw[hv]at hk;exact⟨v,h,hk,λk' hk'=>by unfold qiM;rw[hv];exact hk'⟩
def qqx(env:Tr IFn)(ho:qkQ){ih:qmw}(hi:LB ih):LC (qw9 env ho ih):=by
 intro f vs h k hk;cases f with
 | zero=>exact hk.elim
 | succ f=>exact qAY env ho hi f vs h k hk
def qJU(env:Tr IFn)(ho:qkQ):∀n,LB (fv env ho n)
 | 0=>λ_ _ _ _ h=>h.elim
 | n+1=>λc Q t h hk=>by
  have ih:=qJU env ho n;cases c with
  | no=>exact hk.elim
  | rangeF=>exact hk.elim
  | cut x=>exact ih _ _ _ _ hk
  | skip=>exact⟨_,_,_,hk,λ_ h=>h⟩
  | exit id=>exact⟨_,_,_,hk,λ_ h=>h⟩
  | ret=>exact⟨_,_,_,hk,λ_ h=>h⟩
  | reg draw ops =>
   obtain⟨t',h',h1,h2⟩:=qsz qV draw (qqx env ho ih) ops t h _ hk;exact⟨_,_,_,h1,λQ' hQ=>h2 (λt h=>Q' .normal t h) hQ⟩
  | seq x y =>
   obtain⟨e,t1,h1,g1,g2⟩:=ih _ _ _ _ hk;cases e with
   | normal =>
    obtain⟨e2,t2,h2,g3,g4⟩:=ih _ _ _ _ g1;exact⟨e2,t2,h2,g3,λQ' hQ=>g2 (λe t h=>X.rec (motive:=λ_=>Prop) (fv env ho n y Q' t h) (λid=>Q' (.exit id) t h) (Q' .ret t h) e) (g4 _ hQ)⟩
   | exit id=>exact Dl
   | ret=>exact Dl
  | cond c x y =>
   obtain⟨v,g1,g2⟩:=qH t c _ hk;obtain⟨b,g3,g4⟩:=qkL v _ g1;cases b with
   | true =>
    exact Bj
   | false =>
    exact Bj
  | blk id x =>
   obtain⟨e,t1,h1,g1,g2⟩:=ih _ _ _ _ hk;cases e with
   | normal=>exact B7
   | ret=>exact B7
   | exit id' =>
    have g1':(Bool.rec (motive:=λ_=>Prop) (Q (.exit id') t1 h1) (Q .normal t1 h1) (Nat.beq id' id):Prop):=g1
    cases hb:Nat.beq id' id with
    | true =>
     exact A8
    | false =>
     exact A8
  | loop x =>
   obtain⟨e,t1,h1,g1,g2⟩:=ih _ _ _ _ hk;cases e with
   | normal =>
    obtain⟨e2,t2,h2,g3,g4⟩:=ih _ _ _ _ g1;exact⟨e2,t2,h2,g3,λQ' hQ=>g2 (λe t h=>X.rec (motive:=λ_=>Prop) (fv env ho n (.loop x) Q' t h) (λid=>Q' (.exit id) t h) (Q' .ret t h) e) (g4 _ hQ)⟩
   | exit id=>exact Db
   | ret=>exact Db
theorem S.mono{n:Nat}{c:ICode}{Q Q':X->Tr AV->Hp->Prop}{t:Tr AV}{h:Hp}(hs:S P n c Q t h)(hq:∀e t h,Q e t h->Q' e t h):S P n c Q' t h:=by
 intro nt code hc hn ro hro Z B w a ht hsz r;refine wpIn_mono (hs nt code hc hn ro hro Z B w a ht hsz r) ?_;rintro e a1 w1 ⟨x1,t1,h1,Z1,rs,hx,hq1,rest⟩;exact⟨x1,t1,h1,Z1,rs,hx,hq _ _ _ hq1,rest⟩
def S.reg{n:Nat}{d:Bool}{rs:List ROp}{C:zZ}(hl:LC C)(hC:qdG P σ0 C){Q:X->Tr AV->Hp->Prop}{t:Tr AV}{h:Hp}(hv:qkz qV d C rs (λt h=>Q .normal t h) t h):S P n (.reg d rs) Q t h:=by
 intro nt code hc hn ro hro Z B w a ht hsz r;cases code<;>first|(simp[zc]at hc;done)|skip
 rename_i id ops d';simp only[zc,zzB]at hc;obtain⟨⟨h1,h2⟩,h3⟩:=hc;obtain rfl:=eq_of_beq h1;cases d' with
 | false =>
  refine wpIn_region ?_
  have:=qli (ops:=ops) (nt:=nt) (ro:=ro) (K:=qdb σ0 Q nt n Z B h w a.defers) (Z0:=Z) (h0:=h) (w0:=w) (ds:=a.defers) (qgJ P) hC (λa' w' t' h' Z' g1 g2 g3 g4 g5 g6=>qdb.of .normal g1 g2 g3 g4 g5 (g6.kep hn))
   ops.toList rs 0 h2 rfl t h Z w a hv ht hsz rfl r (Kept.refl _ _ _ _)
  rw[List.range_eq_range'];exact H5
 | true =>
  simp only[Bool.not_true,Bool.false_or,zzB]at h3;exact qs6 (qgJ P) hl hC h2 h3.1 h3.2 hv ht hsz r (λa' w' t' h' Z' g1 g2 g3 g4 g5 g6=>qdb.of .normal g1 g2 g3 g4 g5 (g6.kep hn))
def S.seq{n:Nat}{x y:ICode}{Q:X->Tr AV->Hp->Prop}{t:Tr AV}{h:Hp}(hv:S P n x (λe t h=>onX e (S P n y Q t h) (λid=>Q (.exit id) t h) (Q .ret t h)) t h):S P n (.seq x y) Q t h:=by
 intro nt code hc hn ro hro Z B w a ht hsz r;cases code<;>first|(simp[zc]at hc;done)|skip
 rename_i cx cy;simp only[zc,zzB]at hc;refine wpIn_seq (wpIn_mono (hv nt cx hc.1 hn ro (nr1 hro) Z B w a ht hsz r) ?_);rintro e a1 w1 ⟨x1,t1,h1,Z1,rs,hx,hq,ht1,hs1,hd1,hm,r1,k1⟩;cases hx with
 | normal=>exact wpIn_mono (hq nt cy hc.2 k1.szle ro (nr2 hro) Z1 _ w1 a1 ht1 hs1 r1) (λe a2 w2 hp=>qdb.trans k1 hm hd1 hm.lt hp)
 | exit id=>exact Cz
 | ret=>exact Bq
def S.cond{n:Nat}{c:O}{x y:ICode}{Q:X->Tr AV->Hp->Prop}{t:Tr AV}{h:Hp}(hv:evK t c (λv=>unB v (λb=>if b=true then S P n x Q t h else S P n y Q t h))):S P n (.cond c x y) Q t h:=by
 intro nt code hc hn ro hro Z B w a ht hsz r;cases code<;>first|(simp[zc]at hc;done)|skip
 rename_i cc cx cy;simp only[zc,zzB]at hc;obtain⟨⟨h1,h2⟩,h3⟩:=hc;obtain⟨v,h4,h5⟩:=zx ht h1 hv;obtain⟨b,h6,h7⟩:=qnJ h5 h4;cases b with
 | true=>exact wpIn_cond_true h6 (h7 nt cx h2 hn ro (nr1 hro) Z B w a ht hsz r)
 | false=>exact wpIn_cond_false h6 (h7 nt cy h3 hn ro (nr2 hro) Z B w a ht hsz r)
theorem S.blk{n id:Nat}{x:ICode}{Q:X->Tr AV->Hp->Prop}{t:Tr AV}{h:Hp}(hv:S P n x (λe t h=>onX e (Q .normal t h) (λi=>if i=id then Q .normal t h else Q (.exit i) t h) (Q .ret t h)) t h):S P n (.blk id x) Q t h:=by
 intro nt code hc hn ro hro Z B w a ht hsz r;cases code<;>first|(simp[zc]at hc;done)|skip
 rename_i id' cx;simp only[zc,zzB]at hc;obtain rfl:=eq_of_beq hc.1;refine wpIn_block (wpIn_mono (hv nt cx hc.2 hn ro hro Z B w a ht hsz r) ?_);rintro e a1 w1 ⟨x1,t1,h1,Z1,rs,hx,hq,ht1,hs1,hd1,hm,r1,k1⟩;cases hx with
 | normal=>exact I8
 | ret=>exact Bq
 | exit id2 =>
  exact Bc
def S.loop{n:Nat}{x:ICode}{Q:X->Tr AV->Hp->Prop}{t:Tr AV}{h:Hp}(hv:SL P n x Q t h):S P n (.loop x) Q t h:=by
 intro nt code hc hn ro hro Z B w a ht hsz r;cases code<;>first|(simp[zc]at hc;done)|skip
 exact F3
def SL.of_S{n:Nat}{x:ICode}{Q:X->Tr AV->Hp->Prop}{t:Tr AV}{h:Hp}(hv:S P n x (λe t h=>onX e (SL P n x Q t h) (λid=>Q (.exit id) t h) (Q .ret t h)) t h):SL P n x Q t h:=by
 intro nt cx hc hn ro hro Z B w a ht hsz r;refine qlM (wpIn_mono (hv nt cx hc hn ro hro Z B w a ht hsz r) ?_);rintro e a1 w1 ⟨x1,t1,h1,Z1,rs,hx,hq,ht1,hs1,hd1,hm,r1,k1⟩;cases hx with
 | normal=>exact qfr.mono (hq nt cx hc k1.szle ro hro Z1 _ w1 a1 ht1 hs1 r1) (λe a2 w2 hp=>qdb.trans k1 hm hd1 hm.lt hp)
 | exit id=>exact Cz
 | ret=>exact Bq
def qlr(P:Program)(env:Tr IFn):Prop:=∀f i,env.get f=some i->qdW P f i=true
def qn7:∀{l:List AV}{n:Nat}{t:Tr AV}{k:Tr AV->Prop},qqi l n t k↔k (qb0 l n t)
 | [],_,_,_=>Iff.rfl
 | v::l,n,t,k=>by
  show t.setK n v (λt'=>qE (Nat.succ n) (λn'=>qqi l n' t' k))↔_
  rw[Tr.setK_iff,qO,qn7];exact Bt
def qpk{env:Tr IFn}(he:qlr P env){ih:qmw}(hi:∀c Q t h,ih c Q t h->∀n,S P n c Q t h){f:Nat}{vs:List AV}{h:Hp}{k:AV->Hp->Prop}(hk:qpj env ih f vs h k):SC P f vs h k:=by
 obtain⟨fn,g1,g2⟩:=(Tr.getK_iff _ _ _).1 hk;cases fn with
 | mk res body =>
  have g3:=qn7.1 g2;exact SC.mk (he f _ g1) (hi _ _ _ _ g3 h.sz)
def qlv{env:Tr IFn}{ho:qkQ}(he:qlr P env)(hh:qmx P ho){ih:qmw}(hi:∀c Q t h,ih c Q t h->∀n,S P n c Q t h){f:Nat}{vs:List AV}{h:Hp}{k:AV->Hp->Prop}(hk:qiM env ho ih f vs h k):SC P f vs h k:=by
 unfold qiM at hk;cases hv:ho f vs with
 | none=>rw[hv]at hk;exact qpk he hi hk
 | some v=>rw[hv]at hk;exact hh f vs v hv h k hk
def qqT{env:Tr IFn}{ho:qkQ}(he:qlr P env)(hh:qmx P ho):∀m,(∀c Q t h,fv env ho m c Q t h->∀n,S P n c Q t h)/\(∀x Q t h,fv env ho m (.loop x) Q t h->∀n,SL P n x Q t h)
 | 0=>⟨λ_ _ _ _ h=>h.elim,λ_ _ _ _ h=>h.elim⟩
 | m+1=>by
  obtain⟨ih,ihl⟩:=qqT he hh m
  have loop:∀x Q t h,fv env ho (m+1) (.loop x) Q t h->∀n,SL P n x Q t h:=by
   intro x Q t h hv n;have hv':fv env ho m x (λe t h=>onX e (fv env ho m (.loop x) Q t h) (λid=>Q (.exit id) t h) (Q .ret t h)) t h:=hv
   refine SL.of_S ((ih _ _ _ _ hv' n).mono ?_);intro e t h hq;cases e with
   | normal=>exact ihl x Q t h hq n
   | exit id=>exact hq
   | ret=>exact hq
  refine⟨λc Q t h hv n=>?_,loop⟩
  cases c with
  | no=>exact hv.elim
  | rangeF=>exact hv.elim
  | cut x=>exact qh (c:=.cut x) (ih _ _ _ _ hv n)
  | skip=>exact qh (c:=.skip) hv
  | exit id=>exact qh (c:=.exit id) hv
  | ret=>exact qh (c:=.ret) hv
  | reg d ops=>exact S.reg (qqx env ho (qJU env ho m)) ⟨λf vs h k hk=>qlv he hh ih hk,λ_ _ _ _ hk=>hk.elim⟩ hv
  | seq x y =>
   have hv':fv env ho m x (λe t h=>onX e (fv env ho m y Q t h) (λid=>Q (.exit id) t h) (Q .ret t h)) t h:=hv
   refine S.seq ((ih _ _ _ _ hv' n).mono ?_);intro e t h hq;cases e with
   | normal=>exact ih y Q t h hq n
   | exit id=>exact hq
   | ret=>exact hq
  | cond c x y =>
   obtain⟨v,g1,g2⟩:=qH t c _ hv;refine S.cond (g2 _ ?_);obtain⟨b,g3,g4⟩:=qkL v _ g1;refine g4 _ ?_;cases b with
   | true=>exact ih _ _ _ _ g3 n
   | false=>exact ih _ _ _ _ g3 n
  | blk id x =>
   have hv':fv env ho m x (λe t h=>X.rec (motive:=λ_=>Prop) (Q .normal t h) (λid'=>Bool.rec (motive:=λ_=>Prop) (Q (.exit id') t h) (Q .normal t h) (Nat.beq id' id)) (Q .ret t h) e) t h:=hv
   refine S.blk ((ih _ _ _ _ hv' n).mono ?_);intro e t h hq;cases e with
   | normal=>exact hq
   | ret=>exact hq
   | exit i =>
    have hq':(Bool.rec (motive:=λ_=>Prop) (Q (.exit i) t h) (Q .normal t h) (Nat.beq i id):Prop):=hq
    show(if i=id then _ else _)
    by_cases hi:i=id
    .subst hi;rw[Nat.beq_refl]at hq';rw[if_pos rfl];exact hq'
    .rw[if_neg hi];cases hb:Nat.beq i id with
     | true=>exact absurd (Nat.eq_of_beq_eq_true hb) hi
     | false=>rw[hb]at hq';exact hq'
  | loop x=>exact S.loop (loop x Q t h hv n)
def SC.run{env:Tr IFn}{ho:qkQ}(he:qlr P env)(hh:qmx P ho)(m:Nat){f:Nat}{vs:List AV}{h:Hp}{k:AV->Hp->Prop}(hk:qiM env ho (fv env ho m) f vs h k):SC P f vs h k:=qlv he hh (qqT he hh m).1 hk
def qc.run{env:Tr IFn}{ho:qkQ}(he:qlr P env)(hh:qmx P ho)(m:Nat){f:Nat}{vs:List AV}{v:AV}(hcl:qt vs=true)(hk:qiM env ho (fv env ho m) f vs H0 (λv' h'=>Frz h' v' v)):qc P f vs v:=qc.of_SC hcl (SC.run he hh m hk)
end
section
variable {P:Program}{t:Tr AV}{h:Hp}{k:AV->Hp->Prop}
def qMk(l:List UInt8)(i:Nat):Nat×Nat:=Utf8.decode ⟨l.toArray⟩ i
def qFV(x:Blk)(k:List UInt8->Nat->Prop):Prop:=∃a n,x = .map (qff a n)/\k a n
@[congr] theorem qFW {x x':Blk}{k:List UInt8->Nat->Prop}{mk:Prop}(_:zD=mk) (h:x=x'):qFV x k=qFV x' k:=Ii
theorem qvj{a a':List UInt8}{n n':Nat}(e:qff a n=qff a' n'):a=a'/\n=n':=by
 simp only[qff,List.cons.injEq,Prod.mk.injEq,AV.s.injEq,AV.i.injEq,true_and,and_true]at e
 exact Ag
def qBT{a:List UInt8}{n:Nat}{k:List UInt8->Nat->Prop}:qFV (.map (qff a n)) k↔k a n:=by
 constructor
 .rintro⟨a',n',h1,h2⟩
  grind[qvj]
 .intro h1;exact⟨a,n,rfl,h1⟩
def qeK(es:List (AV×AV)):Prop:=∀e ∈ es,clo e.1=true/\clo e.2=true
def qEV{r:Nat->Nat}{m b:Nat}{es:List (AV×AV)}(hb:b<h.sz):BW h r m b (.map es)↔evB (h.tr.get b) (λx=>qrj x (λes'=>EsW r m es' es)):=by
 constructor
 .rintro (h1|h1|⟨e',w0,a0,cs,w',a',cs'',h1,h2,h3,h4,h5⟩|⟨es',es2,h1,h2,h3⟩)
  .exact Ab
  .cases h1
  .cases h2
  .cases h2;exact⟨_,h1,h3⟩
 .rintro⟨x,h1,h2⟩;cases x with
  | map es'=>exact .inr (.inr (.inr ⟨_,_,h1,rfl,h2⟩))
  | dead=>exact Jn
  | cells e0 w0 a0 cs=>exact Jn
def qpv{r:Nat->Nat}{m:Nat}{es es':List (AV×AV)}(hn:∀lr ts,es'≠zV lr ts):EsW r m es es'↔es=es'/\qeK es' :=
 ⟨λh=>by
  rcases h with⟨rfl,h⟩|⟨lr,ts,ts',_,h,_⟩
  .exact⟨rfl,h⟩
  exact Ag,fun⟨h1,h2⟩=>by subst h1;exact .inl ⟨rfl,h2⟩⟩
def qBj{r:Nat->Nat}{m:Nat}{es:List (AV×AV)}:EsW r m es []↔es=[]:=(qpv In).trans ⟨And.left,λh=>⟨h,by intro e he;cases he⟩⟩
def qJN{r:Nat->Nat}{m:Nat}{es es':List (AV×AV)}{a:List UInt8}{v:AV}:EsW r m es ((.s a,v)::es')↔es=(.s a,v)::es'/\qeK ((.s a,v)::es'):=qpv In
def qJM{r:Nat->Nat}{m:Nat}{es es':List (AV×AV)}{q:IntKind}{a:Int}{v:AV}:EsW r m es ((.i q a,v)::es')↔es=(.i q a,v)::es'/\qeK ((.i q a,v)::es'):=qpv In
def qFv{r:Nat->Nat}{m:Nat}{es:List (AV×AV)}{a:List UInt8}{n:Nat}:EsW r m es (qff a n)↔es=qff a n/\qeK (qff a n):=qpv (by simp[qff,zV])
def qb5{r:Nat->Nat}{m:Nat}{lr lr':Loop}{ts ts':List (Nat×AV)}:EsW r m (zV lr ts) (zV lr' ts')↔lr=lr'/\TsW r m ts ts' :=
 ⟨λh=>by
  rcases h with⟨h1,h⟩|⟨l,t1,t2,h1,h2,h3⟩
  .exact absurd (h (.lp lr,.undef) In).1 (by simp[clo])
  grind[qrA],fun⟨h1,h2⟩=>by subst h1;exact .inr Ag⟩
def qcv{r:Nat->Nat}{m:Nat}{ts:List (Nat×AV)}:TsW r m ts []↔True:=iff_true_intro (by intro p hp;cases hp)
def qaI{r:Nat->Nat}{m:Nat}{ts ts':List (Nat×AV)}{p:Nat×AV}:TsW r m ts (p::ts')↔evO (qlJ ts p.1) (λv=>NV r m v p.2)/\TsW r m ts ts':=by
 simp only[TsW,zzc,forall_eq_or_imp];exact Bt
def wg{p:Nat×AV}{l:List (Nat×AV)}{j:Nat}:qlJ (p::l) j=if p.1=j then some p.2 else qlJ l j:=rfl
def qvw{a:List UInt8}{n:Nat}:qeK (qff a n)↔True:=by
 refine iff_true_intro ?_;intro e he;simp only[qff,zzc,List.mem_nil_iff,or_false]at he;rcases he with rfl|rfl<;>exact⟨rfl,rfl⟩
def qsq:qeK []↔True:=iff_true_intro (by intro e he;cases he)
def qlN{e:AV×AV}{es:List (AV×AV)}:qeK (e::es)↔(clo e.1=true/\clo e.2=true)/\qeK es:=by simp[qeK]
def SC.nil0{f:Nat}{k:AV->Hp->Prop}(h1:SC P f [.nils] h k)(h2:SC P f [.nz] h k):SC P f [.fz 0 []] h k:=by
 refine⟨h1.1,λZ B w args r ha=>?_⟩
 generalize hl:args.toList=xs at ha;cases ha with
 | cons _ _ x xs hx hxs =>
  cases hx with
  | fz _ off c _ k' arr hn hk hs=>exact Hj
  | fz0 a =>
   cases a with
   | none=>exact h1.2 Z B w args r (by rw[hl];exact .cons _ _ _ _ .nils hxs)
   | some a=>exact Hj
def qa{r:Nat->Nat}{m:Nat}{vs:List AV}(hc:qt vs=true):NVs r m vs vs↔True:=by grind[NVs.refl]
def qP{vs:List AV}(hc:qt vs=true):Frzs h vs vs↔True:=iff_true_intro (Frzs.self hc)
theorem Wk.mkn{n:Nat}{t:Tr AV}(ts:List (Nat×AV))(bl:List Blk)(src:List Nat)(hT:TWs t (rl src h.sz) bl.length ts)(hB:BWs h (rl src h.sz) bl.length src bl)
  (hI:((src.filter λb=>decide (b<h.sz)).Nodup)) (hfl:h.fl=0) (hn:n<=bl.length) (hlow:∀b,b<n->rl src h.sz b=b):Wk n t h (mkT ts) (mkH 0 bl):=by
 obtain⟨hlen,hget⟩:=hB.get;refine Wk.of (r:=rl src h.sz) ⟨hfl.symm,λb' x' hb hg=>?_,λb1 b2 h1 h2 _ _ he hl=>?_,λb' _ _ _=>by rw[hfl];exact Ab,hlow,hn,λb _ hb=>by rw[hfl]at hb;exact Ab,λj v' hj=>?_⟩
 .exact B3
 .have h1:b1<src.length:=by rw[hlen];exact h1
  have h2:b2<src.length:=by rw[hlen];exact h2
  simp only[rl,zzs,zzE h1,zzE h2,Option.getD_some]at he hl
  grind[Wk.mk.nodup_filter_inj]
 .exact hT.get _ (qfi hj)
def SL.loopn{n:Nat}{α:Type}{x:ICode}{Q:X->Tr AV->Hp->Prop}(T:α->List (Nat×AV))(B:α->List Blk)(I:α->Prop)(μ:α->Nat)(a0:α)(src:List Nat)
  (hT:TWs t (rl src h.sz) (B a0).length (T a0)) (hB:BWs h (rl src h.sz) (B a0).length src (B a0)) (hI:(src.filter λb=>decide (b<h.sz)).Nodup) (hfl:h.fl=0) (hn:n<=(B a0).length) (hlow:∀b,b<n->rl src h.sz b=b) (h0:I a0)
  (step:∀a,I a->∀G:Tr AV->Hp->Prop,(∀b,I b->μ b<μ a->∀t' h',Wk n t' h' (mkT (T b)) (mkH 0 (B b))->G t' h')->
   V P n x (λe t h=>onX e (G t h) (λid=>Q (.exit id) t h) (Q .ret t h)) (mkT (T a)) (mkH 0 (B a))):SL P n x Q t h:=by
 have main:∀m a,μ a=m->I a->SL P n x Q (mkT (T a)) (mkH 0 (B a)):=by
  intro m
  exact Cc
 exact SL.weak (by grind[Wk.mkn]) (main _ a0 rfl h0)
end
section
variable {P:Program}
mutual
def rnv(g:Nat->Nat):AV->AV
 | .ptr b o=>.ptr (g b) o
 | .sl b o n c l=>.sl (g b) o n c l
 | .map b=>.map (g b)
 | .own b n=>.own (g b) n
 | .yl b=>.yl (g b)
 | .fn f a c=>.fn f (qbh g a) (qbh g c)
 | .ifc t v=>.ifc t (rnv g v)
 | .agg cs=>.agg (qbh g cs)
 | .tup cs=>.tup (qbh g cs)
 | v=>v
def qbh(g:Nat->Nat):List AV->List AV
 | []=>[]
 | v::vs=>rnv g v::qbh g vs
end
mutual
def bnd(m:Nat):AV->Bool
 | .ptr b _=>decide (b<m)
 | .sl b _ _ _ _=>decide (b<m)
 | .map b=>decide (b<m)
 | .own b _=>decide (b<m)
 | .yl b=>decide (b<m)
 | .fn _ a c=>jF m a&&jF m c
 | .ifc _ v=>bnd m v
 | .agg cs=>jF m cs
 | .tup cs=>jF m cs
 | _=>true
def jF(m:Nat):List AV->Bool
 | []=>true
 | v::vs=>bnd m v&&jF m vs
end
def qny{g:Nat->Nat}:∀{vs:List AV}{j:Nat},(qbh g vs)[j]?=(vs[j]?).map (rnv g)
 | [],j=>by simp[qbh]
 | v::vs,0=>by simp[qbh]
 | v::vs,j+1=>by simpa[qbh]using qny (vs:=vs) (j:=j)
def qaH{g:Nat->Nat}:∀{vs:List AV},(qbh g vs).length=vs.length
 | []=>rfl
 | v::vs=>by simp[qbh,qaH (vs:=vs)]
def qqp{m:Nat}:∀{vs:List AV}{j:Nat}{v:AV},jF m vs=true->vs[j]?=some v->bnd m v=true
 | [],_,_,_,h=>Ag
 | x::xs,0,_,hb,h=>by
  simp only[jF,zzB]at hb
  exact Ae
 | x::xs,j+1,_,hb,h=>by
  simp only[jF,zzB]at hb;exact qqp (vs:=xs) (j:=j) hb.2 Ae
mutual
def VR.rn{Z2 Z3:Ren}{g:Nat->Nat}(h1:∀b L,Z2 b=some L->Z3 (g b)=some L)(h2:∀k a,Z2.frz k=some a->Z3.frz k=some a)(h3:∀b,b<Z2.n->g b<Z3.n):∀{v:AV}{x:Value},VR σ0 Z2 v x->VR σ0 Z3 (rnv g v) x
 | _,_,.undef v=>.undef v
 | _,_,.b x=>.b x
 | _,_,.i k n=>.i k n
 | _,_,.s x=>.s x
 | _,_,.nilp=>.nilp
 | _,_,.ptr b o L h=>.ptr _ _ L (h1 _ _ h)
 | _,_,.nils=>.nils
 | _,_,.sl b o len cap c loose L h hc=>.sl _ _ _ _ _ _ L (h1 _ _ h) hc
 | _,_,.slz b o x l' L h=>.slz _ _ _ _ L (h1 _ _ h)
 | _,_,.nilf=>.nilf
 | _,_,.fn f first cap first' cap' q1 q2=>.fn _ _ _ _ _ (VRs.rn h1 h2 h3 q1) (VRs.rn h1 h2 h3 q2)
 | _,_,.nili=>.nili
 | _,_,.ifc t v v' h=>.ifc _ _ _ (VR.rn h1 h2 h3 h)
 | _,_,.agg cs cs' h=>.agg _ _ (VRs.rn h1 h2 h3 h)
 | _,_,.tup cs cs' h=>.tup _ _ (VRs.rn h1 h2 h3 h)
 | _,_,.nilm=>.nilm
 | _,_,.map b L h h0=>.map _ L (h1 _ _ h) h0
 | _,_,.sym j=>.sym j
 | _,_,.fz n off c cs k arr hn h hs=>.fz n off c cs k arr hn (h2 _ _ h) (hs.mono h2)
 | _,_,.fz0 a=>.fz0 a
 | _,_,.pf off base cs k arr h hs=>.pf off base cs k arr (h2 _ _ h) (hs.mono h2)
 | _,_,.e0 a=>.e0 a
 | _,_,.nz a c=>.nz a c
 | _,_,.own0 b a hb=>.own0 _ _ (h3 _ hb)
 | _,_,.own b n c L h hn hc'=>.own _ _ _ L (h1 _ _ h) hn hc'
 | _,_,.yl b L h=>.yl _ L (h1 _ _ h)
def VRs.rn{Z2 Z3:Ren}{g:Nat->Nat}(h1:∀b L,Z2 b=some L->Z3 (g b)=some L)(h2:∀k a,Z2.frz k=some a->Z3.frz k=some a)(h3:∀b,b<Z2.n->g b<Z3.n):∀{v:List AV}{x:List Value},VRs σ0 Z2 v x->VRs σ0 Z3 (qbh g v) x
 | _,_,.nil=>.nil
 | _,_,.cons v vs v' vs' h hs=>.cons _ _ _ _ (VR.rn h1 h2 h3 h) (VRs.rn h1 h2 h3 hs)
end
mutual
def VR.nr{Z Zs:Ren}{g:Nat->Nat}{m:Nat}(h1:∀b L,b<m->Z (g b)=some L->Zs b=some L)(h2:Zs.frz=Z.frz)(h3:Zs.n=m):∀{v:AV}{x:Value},bnd m v=true->VR σ0 Z (rnv g v) x->VR σ0 Zs v x
 | .undef,_,_,h=>by cases h;exact .undef _
 | .b _,_,_,h=>by cases h;exact .b _
 | .i _ _,_,_,h=>by cases h;exact .i _ _
 | .s _,_,_,h=>by cases h;exact .s _
 | .nilp,_,_,h=>by cases h;exact .nilp
 | .ptr b o,_,hb,h=>by
  simp only[bnd,zzb]at hb;cases h with
  | ptr _ _ L q=>exact .ptr _ _ L (h1 _ _ hb q)
 | .nils,_,_,h=>by cases h;exact .nils
 | .sl b o n c l,_,hb,h=>by
  simp only[bnd,zzb]at hb;cases h with
  | sl _ _ _ _ _ _ L q hc=>exact .sl _ _ _ _ _ _ L (h1 _ _ hb q) hc
  | slz _ _ _ _ L q=>exact .slz _ _ _ _ L (h1 _ _ hb q)
 | .nilf,_,_,h=>by cases h;exact .nilf
 | .fn f a c,_,hb,h=>by
  simp only[bnd,zzB]at hb;cases h with
  | fn _ _ _ _ _ q1 q2=>exact .fn _ _ _ _ _ (VRs.nr h1 h2 h3 hb.1 q1) (VRs.nr h1 h2 h3 hb.2 q2)
 | .nili,_,_,h=>by cases h;exact .nili
 | .ifc t v,_,hb,h=>by
  simp only[bnd]at hb;cases h with
  | ifc _ _ _ q=>exact .ifc _ _ _ (VR.nr h1 h2 h3 hb q)
 | .agg cs,_,hb,h=>by
  simp only[bnd]at hb;cases h with
  | agg _ _ q=>exact .agg _ _ (VRs.nr h1 h2 h3 hb q)
 | .tup cs,_,hb,h=>by
  simp only[bnd]at hb;cases h with
  | tup _ _ q=>exact .tup _ _ (VRs.nr h1 h2 h3 hb q)
 | .nilm,_,_,h=>by cases h;exact .nilm
 | .map b,_,hb,h=>by
  simp only[bnd,zzb]at hb;cases h with
  | map _ L q h0=>exact .map _ L (h1 _ _ hb q) h0
 | .sym j,_,_,h=>by cases h;exact .sym _
 | .fz n cs,_,_,h=>by
  cases h with
  | fz _ off c _ k arr hn q hs=>exact .fz _ off c _ k arr hn (by rw[h2];exact q) (by rw[h2];exact hs)
  | fz0 a=>exact .fz0 a
 | .pf cs o,_,_,h=>by
  cases h with
  | pf off base _ k arr q hs=>exact .pf _ base _ k arr (by rw[h2];exact q) (by rw[h2];exact hs)
 | .e0,_,_,h=>by cases h;exact .e0 _
 | .nz,_,_,h=>by cases h;exact .nz _ _
 | .own b n,_,hb,h=>by
  simp only[bnd,zzb]at hb;cases h with
  | own0 _ a q=>exact .own0 _ _ (by rw[h3];exact hb)
  | own _ _ c L q hn hc=>exact .own _ _ c L (h1 _ _ hb q) hn hc
 | .yl b,_,hb,h=>by
  simp only[bnd,zzb]at hb;cases h with
  | yl _ L q=>exact .yl _ L (h1 _ _ hb q)
 | .lp _,_,_,h=>by cases h
def VRs.nr{Z Zs:Ren}{g:Nat->Nat}{m:Nat}(h1:∀b L,b<m->Z (g b)=some L->Zs b=some L)(h2:Zs.frz=Z.frz)(h3:Zs.n=m):∀{v:List AV}{x:List Value},jF m v=true->VRs σ0 Z (qbh g v) x->VRs σ0 Zs v x
 | [],_,_,h=>by cases h;exact .nil
 | v::vs,_,hb,h=>by
  simp only[jF,zzB]at hb;cases h with
  | cons _ _ _ _ q1 q2=>exact .cons _ _ _ _ (VR.nr h1 h2 h3 hb.1 q1) (VRs.nr h1 h2 h3 hb.2 q2)
end
def gAt(at':List Nat)(d:Nat):Nat->Nat:=λb=>if b<at'.length then at'.getD b 0 else d+(b-at'.length)
theorem qft{at':List Nat}{d b:Nat}(h:b<at'.length):gAt at' d b=at'[b]:=by
 simp[gAt,h]
theorem qmV{at':List Nat}{d b:Nat}(h:at'.length<=b):gAt at' d b=d+(b-at'.length):=by
 simp only[gAt];rw[if_neg Ab]
structure Lent (h:Hp) (at':List Nat) (bs:List Blk):Prop where
 len:at'.length=bs.length
 nd:at'.Nodup
 blk:∀i x,bs[i]?=some x->∃e a cs,x = .cells e true a cs/\jF bs.length cs=true/\h.tr.get (gAt at' h.sz i)=some (.cells e true a (qbh (gAt at' h.sz) cs))/\h.fl<=gAt at' h.sz i/\gAt at' h.sz i<h.sz
def Ren.small(Z:Ren)(at':List Nat)(d:Nat):Ren:=⟨λi=>if i<at'.length then Z (gAt at' d i)else none,Z.frz,at'.length⟩
theorem qeR{Z:Ren}{at':List Nat}{d i:Nat}{L:Loc}(h:Z.small at' d i=some L):i<at'.length/\Z (gAt at' d i)=some L:=by
 simp only[Ren.small]at h;exact Ae
def Bar(Z:Ren)(B:Nat->Prop)(h:Hp)(at':List Nat):Nat->Prop:=λk=>B k\/∃b L x,Z b=some L/\b ∉ at'/\h.tr.get b=some x/\x≠.dead/\L.blk=k
theorem Lent.inj{h:Hp}{at':List Nat}{bs:List Blk}(l:Lent h at' bs){i j:Nat}(hi:i<at'.length)(hj:j<at'.length)(he:gAt at' h.sz i=gAt at' h.sz j):i=j:=by
 rw[qft hi,qft hj]at he
 grind[List.getElem_inj,Lent.nd]
theorem Lent.mem{h:Hp}{at':List Nat}{i:Nat}(hi:i<at'.length):gAt at' h.sz i ∈ at':=by
 rw[qft hi];exact Ae
def Rel.small{Z:Ren}{B:Nat->Prop}{h:Hp}{w:World}{at':List Nat}{bs:List Blk}(r:Rel σ0 Z B h w)(l:Lent h at' bs):Rel σ0 (Z.small at' h.sz) (Bar Z B h at') (mkH 0 bs) w:=by
 have get:∀i L x,Z.small at' h.sz i=some L->(mkH 0 bs).tr.get i=some x->i<at'.length/\Z (gAt at' h.sz i)=some L/\∃e a cs,x = .cells e true a cs/\jF bs.length cs=true/\h.tr.get (gAt at' h.sz i)=some (.cells e true a (qbh (gAt at' h.sz) cs))/\h.fl<=gAt at' h.sz i:=by
  intro i L x h1 h2;obtain⟨h3,h4⟩:=qeR h1;rw[jq]at h2
  grind[Lent.blk]
 refine⟨λi L hb=>?_,?_,?_,?_,?_,?_,?_,?_,?_,?_⟩
 .have:=(qeR hb).1;rw[l.len]at this;exact this
 .intro i L e wf af cs hb hg;obtain⟨h1,h2,e',a,cs',h3,h4,h5,h6⟩:=get i L _ hb hg;cases h3;obtain⟨q1,c,ty,fz,q2,q3,q4,q5,q6⟩:=r.cells _ L _ _ _ _ h2 h5;rw[qaH]at q4;refine⟨q1,c,ty,fz,q2,q3,q4,λj v hv=>?_,q6⟩
  obtain⟨v',p1,p2⟩:=q5 j (rnv (gAt at' h.sz) v) (by rw[qny,hv];rfl)
  exact⟨v',p1,VR.nr (Z:=Z) (Zs:=Z.small at' h.sz) (g:=gAt at' h.sz) (m:=bs.length) (λb L hbm hbL=>by
   refine C2 ?_;exact Ab) rfl l.len (qqp h4 hv) p2⟩
 .exact Ag
 .grind[Lent.inj,Rel.excl]
 .exact Ag
 .intro b L e wf cs hb hg b' L' e' wf' af' cs' hb' hx he;obtain⟨h1,h2,e1,a1,cs1,h3,h4,h5,h6⟩:=get b L _ hb hg;obtain⟨i1,i2,e2,a2,cs2,i3,i4,i5,i6⟩:=get b' L' _ hb' hx;cases h3;cases i3;have q:=r.app _ L _ _ _ h2 h5 _ L' _ _ _ _ i2 i5 he;rw[qaH,qaH]at q
  grind[Lent.inj]
 .intro i L hb _ hbar;have hi:=(qeR hb).1;have hi':i<bs.length:=F2
  obtain⟨h1,h2,e',a,cs',h3,h4,h5,h6⟩:=get i L bs[i] hb (by rw[jq,zzE hi']);rcases hbar with hB|⟨b,L',x,g1,g2,g3,g4,g5⟩
  all_goals grind[Rel.flr,Rel.excl,Lent.mem]
 .rintro k (hB|⟨b,L',x,g1,g2,g3,g4,rfl⟩)
  .exact r.base k hB
  .exact r.blk_lt b L' g1 x g3 g4
 .intro k arr hk;refine⟨(r.frz k arr hk).1,λb L x hb hx hd=>?_⟩
  obtain⟨h1,h2,e',a,cs',h3,h4,h5,h6⟩:=get b L _ hb hx;exact(r.frz k arr hk).2 _ L _ h2 h5 (by simp)
 .refine⟨?_,λb L h=>r.dn.2 _ L (qeR h).2⟩
  show at'.length<=bs.length;rw[l.len];exact Ab
def rnb(g:Nat->Nat):Blk->Blk
 | .cells e w a cs=>.cells e w a (qbh g cs)
 | .dead=>.dead
 | .map _=>.dead
def qfL:Hp->List Nat->List Blk->Hp
 | h,b::at',x::xs=>qfL (h.put b x) at' xs
 | h,_,_=>h
def qkr:∀{at':List Nat}{xs:List Blk}{h:Hp},(qfL h at' xs).sz=h.sz
 | [],_,_=>G1
 | _::_,[],_=>G1
 | b::at',x::xs,h=>by
  show(qfL (h.put b x) at' xs).sz=_;rw[qkr];rfl
def qtN:∀{at':List Nat}{xs:List Blk}{h:Hp},(qfL h at' xs).fl=h.fl
 | [],_,_=>G1
 | _::_,[],_=>G1
 | b::at',x::xs,h=>by
  show(qfL (h.put b x) at' xs).fl=_;rw[qtN];rfl
def qnp:∀{at':List Nat}{xs:List Blk}{h:Hp}{b:Nat},b ∉ at'->(qfL h at' xs).tr.get b=h.tr.get b
 | [],_,_,_,_=>G1
 | _::_,[],_,_,_=>G1
 | c::at',x::xs,h,b,hb=>by
  show(qfL (h.put c x) at' xs).tr.get b=_;rw[qnp Ae];simp only[Hp.put,zz4];rw[if_neg (λhh=>hb Ag)]
def qtO:∀{at':List Nat}{xs:List Blk}{h:Hp}{i b:Nat},at'.Nodup->at'.length=xs.length->at'[i]?=some b->(qfL h at' xs).tr.get b=xs[i]?
 | [],_,_,_,_,_,_,hi=>Ag
 | _::_,[],_,_,_,_,hl,_=>Ag
 | c::at',x::xs,h,0,b,hn,hl,hi=>by
  simp at hi;subst hi;show(qfL (h.put c x) at' xs).tr.get c=_;rw[qnp Ae];simp[Hp.put,zz4]
 | c::at',x::xs,h,i+1,b,hn,hl,hi=>by
  show(qfL (h.put c x) at' xs).tr.get b=_;rw[qtO Ae Ae H4];simp
def qdV(h:Hp)(at':List Nat)(bs2:List Blk):Hp:=qam (qfL h at' ((bs2.take at'.length).map (rnb (gAt at' h.sz)))) ((bs2.drop at'.length).map (rnb (gAt at' h.sz)))
def Ren.back(Z Z2:Ren)(at':List Nat)(d l:Nat):Ren:=⟨λb=>if b<d then Z b else Z2 (b-d+at'.length),Z2.frz,d+(l-at'.length)⟩
def qmB{h:Hp}{at':List Nat}{bs2:List Blk}:(qdV h at' bs2).sz=h.sz+(bs2.length-at'.length):=by
 unfold qdV;rw[qgj,qkr];simp
def qqk{h:Hp}{at':List Nat}{bs2:List Blk}:(qdV h at' bs2).fl=h.fl:=by
 unfold qdV;rw[qid,qtN]
def qn9{h:Hp}{at':List Nat}{bs2:List Blk}{b:Nat}(hb:b<h.sz)(hm:b ∉ at'):(qdV h at' bs2).tr.get b=h.tr.get b:=by
 unfold qdV;rw[qbV,qkr,if_pos hb,qnp hm]
def qwC{h:Hp}{at':List Nat}{bs2:List Blk}(hn:at'.Nodup)(hl:at'.length<=bs2.length)(hlt:∀b ∈ at',b<h.sz){i:Nat}(hi:i<at'.length):(qdV h at' bs2).tr.get (gAt at' h.sz i)=(bs2[i]?).map (rnb (gAt at' h.sz)):=by
 have hm:gAt at' h.sz i ∈ at':=Lent.mem hi;unfold qdV;rw[qbV,qkr,if_pos (hlt _ hm),qtO (i:=i) hn Ae (by rw[qft hi];exact Ae),zzo,zzq hi]
theorem qus{h:Hp}{at':List Nat}{bs2:List Blk}{i:Nat}(hi:at'.length<=i)(hi2:i<bs2.length):(qdV h at' bs2).tr.get (gAt at' h.sz i)=(bs2[i]?).map (rnb (gAt at' h.sz)):=by
 unfold qdV;rw[qmV hi,qbV,qkr,if_neg Ab,if_pos Ag,zzo,zzp];rw[show at'.length+(h.sz+(i-at'.length)-h.sz)=i from Ab]
def Rel.back{Z Z2:Ren}{B:Nat->Prop}{h:Hp}{w w1:World}{at':List Nat}{bs bs2:List Blk}(r:Rel σ0 Z B h w)(l:Lent h at' bs)(r2:Rel σ0 Z2 (Bar Z B h at') (mkH 0 bs2) w1)(hl:at'.length<=bs2.length)
  (he:∀i,i<at'.length->Z2 i=Z.small at' h.sz i) (hp:∀k,Bar Z B h at' k->w1.heap[k]?=w.heap[k]?) (hw:w.heap.size<=w1.heap.size)
  (f1:∀k a,Z.frz k=some a->Z2.frz k=some a) (f2:∀k a,Z2.frz k=some a->Z.frz k=some a\/¬Bar Z B h at' k):(∀b L,Z2 b=some L->Z.back Z2 at' h.sz bs2.length (gAt at' h.sz b)=some L)/\Rel σ0 (Z.back Z2 at' h.sz bs2.length) B (qdV h at' bs2) w1:=by
 have hlt:∀b ∈ at',b<h.sz:=by
  intro b hb;obtain⟨i,hi,rfl⟩:=List.getElem_of_mem hb;have hi':i<bs.length:=F2
  obtain⟨_,_,_,_,_,_,_,h6⟩:=l.blk i bs[i] Ae;rwa [qft hi]at h6
 have up:∀b L,Z2 b=some L->Z.back Z2 at' h.sz bs2.length (gAt at' h.sz b)=some L:=by
  intro b L hb;show(if gAt at' h.sz b<h.sz then Z (gAt at' h.sz b)else Z2 (gAt at' h.sz b-h.sz+at'.length))=some L
  grind[Lent.mem,qeR,qmV]
 refine⟨up,?_⟩
 have nle:∀b,b<Z2.n->gAt at' h.sz b<h.sz+(bs2.length-at'.length):=by
  intro b hb;have hb2:b<bs2.length:=zzh hb r2.dn.1
  grind[Lent.mem,qmV]
 have le1:∀b L,Z b=some L->Z.back Z2 at' h.sz bs2.length b=some L:=by
  intro b L hb;show(if b<h.sz then Z b else _)=some L
  rw[if_pos (r.dom b L hb)];exact hb
 have le2:Z.le (Z.back Z2 at' h.sz bs2.length):=⟨le1,f1,zzg r.dn.1 (Nat.le_add_right _ _)⟩
 -- a block: an old one that stayed,or one of the small heap
 have split:∀b L,Z.back Z2 at' h.sz bs2.length b=some L->(b ∉ at'/\Z b=some L/\(qdV h at' bs2).tr.get b=h.tr.get b) \/
   ∃c,b=gAt at' h.sz c/\Z2 c=some L/\(qdV h at' bs2).tr.get b=((mkH 0 bs2).tr.get c).map (rnb (gAt at' h.sz)):=by
  intro b L hb;have hb':(if b<h.sz then Z b else Z2 (b-h.sz+at'.length))=some L:=hb
  by_cases hbs:b<h.sz
  .rw[if_pos hbs]at hb'
   by_cases hm:b ∈ at'
   .obtain⟨i,hi,rfl⟩:=List.getElem_of_mem hm;refine .inr ⟨i,(qft hi).symm,?_,?_⟩
    .rw[he i hi];show(if i<at'.length then Z (gAt at' h.sz i)else none)=some L
     rw[if_pos hi,qft hi];exact hb'
    .have:=qwC (bs2:=bs2) l.nd hl hlt hi;rw[qft hi]at this;rw[this,jq]
   simp_all[qn9]
  .rw[if_neg hbs]at hb';have hc:b-h.sz+at'.length<bs2.length:=r2.dom _ L hb';have e:gAt at' h.sz (b-h.sz+at'.length)=b:=by rw[qmV Ab];exact Ab
   grind[qus,jq]
 have apart:∀b L x c L2,b ∉ at'->Z b=some L->h.tr.get b=some x->x≠.dead->Z2 c=some L2->L2.blk≠L.blk:=by
  intro b L x c L2 h1 h2 h3 h4 h5 h6;exact r2.flr c L2 h5 (zzu _) (.inr Ag)
 have shc:∀{o:Option Blk}{e:Nat}{w a:Bool}{cs:List AV},o.map (rnb (gAt at' h.sz))=some (.cells e w a cs)->∃cs0,o=some (.cells e w a cs0)/\cs=qbh (gAt at' h.sz) cs0:=by
  intro o e w a cs ho;cases o with
  | none=>exact Ag
  | some x =>
   cases x with
   | cells e' w' a' cs'=>simp[rnb]at ho;exact Ae
   | dead=>simp[rnb]at ho
   | map es=>simp[rnb]at ho
 have shn:∀{o:Option Blk}{y:Blk},o.map (rnb (gAt at' h.sz))=some y->y≠.dead->∃x,o=some x/\x≠.dead:=by
  intro o y ho hy;cases o with
  | none=>exact Ag
  | some x =>
   refine⟨x,rfl,λhx=>?_⟩
   subst hx;simp[rnb]at ho;exact Ag
 have shm:∀{o:Option Blk}{es:List (AV×AV)},o.map (rnb (gAt at' h.sz))=some (.map es)->False:=by
  intro o es ho;cases o with
  | none=>exact Ag
  | some x=>cases x<;>simp[rnb]at ho
 refine⟨λb L hb=>?_,?_,?_,?_,?_,?_,?_,qgs r.base hw,?_,?_⟩
 .rw[qmB];have hb':(if b<h.sz then Z b else Z2 (b-h.sz+at'.length))=some L:=hb
  by_cases hbs:b<h.sz
  .omega
  .rw[if_neg hbs]at hb';have hc:b-h.sz+at'.length<bs2.length:=r2.dom _ L hb';omega
 .intro b L e wf af cs hb hg;rcases split b L hb with⟨h1,h2,h3⟩|⟨c,rfl,h2,h3⟩
  .rw[h3]at hg;obtain⟨q1,c,ty,fz,q2,q3,q4,q5,q6⟩:=r.cells b L e wf af cs h2 hg;exact⟨q1,c,ty,fz,by rw[hp _ (.inr Ag)];exact q2,q3,q4,Cs,q6⟩
  .rw[h3]at hg;obtain⟨cs0,g1,rfl⟩:=shc hg;obtain⟨q1,c',ty,fz,q2,q3,q4,q5,q6⟩:=r2.cells c L e wf af cs0 h2 g1;refine⟨q1,c',ty,fz,q2,q3,by rw[qaH];exact q4,λj v hv=>?_,q6⟩
   rw[qny]at hv;cases hj:cs0[j]? with
   | none=>rw[hj]at hv;grind
   | some v0 =>
    rw[hj]at hv;simp at hv;subst hv;obtain⟨v',g7,g8⟩:=q5 j v0 hj;exact⟨v',g7,VR.rn (Z3:=Z.back Z2 at' h.sz bs2.length) up (λ_ _ h=>h) nle g8⟩
 .intro b L es hb hg;rcases split b L hb with⟨h1,h2,h3⟩|⟨c,rfl,h2,h3⟩
  .rw[h3]at hg;obtain⟨q1,o,q2,q3⟩:=r.maps b L es h2 hg;exact⟨q1,o,by rw[hp _ (.inr Ag)];exact q2,q3.mono le2⟩
  grind
 .intro b L e af cs hb hg b' L' x hb' hx hd hee;rcases split b L hb with⟨h1,h2,h3⟩|⟨c,rfl,h2,h3⟩<;>rcases split b' L' hb' with⟨i1,i2,i3⟩|⟨c',rfl,i2,i3⟩
  .rw[h3]at hg;rw[i3]at hx
   grind[Rel.excl]
  .rw[h3]at hg
   grind
  .rw[i3]at hx
   grind
  .rw[h3]at hg;rw[i3]at hx;obtain⟨cs0,g1,rfl⟩:=shc hg;obtain⟨x0,g2,g3⟩:=shn hx hd;rw[r2.excl c L e af cs0 h2 g1 c' L' x0 i2 g2 g3 hee]
 .intro b L es hb hg b' L' x hb' hx hd hee;rcases split b L hb with⟨h1,h2,h3⟩|⟨c,rfl,h2,h3⟩
  .rw[h3]at hg;rcases split b' L' hb' with⟨i1,i2,i3⟩|⟨c',rfl,i2,i3⟩
   .rw[i3]at hx;exact De
   .exact Ag
  grind
 .intro b L e wf cs hb hg b' L' e' wf' af' cs' hb' hx hee;rcases split b L hb with⟨h1,h2,h3⟩|⟨c,rfl,h2,h3⟩<;>rcases split b' L' hb' with⟨i1,i2,i3⟩|⟨c',rfl,i2,i3⟩
  .rw[h3]at hg;rw[i3]at hx;exact r.app b L e wf cs h2 hg b' L' e' wf' af' cs' i2 hx hee
  .rw[h3]at hg
   grind
  .rw[i3]at hx
   grind
  .rw[h3]at hg;rw[i3]at hx;obtain⟨cs0,g1,rfl⟩:=shc hg;obtain⟨cs1,g2,rfl⟩:=shc hx;have q:=r2.app c L e wf cs0 h2 g1 c' L' e' wf' af' cs1 i2 g2 hee;rw[qaH,qaH]
   grind
 .intro b L hb hf hB;rw[qqk]at hf;rcases split b L hb with⟨h1,h2,h3⟩|⟨c,rfl,h2,h3⟩
  .grind[Rel.flr]
  .exact r2.flr c L h2 (zzu _) (.inl hB)
 .intro k arr hk;refine⟨(r2.frz k arr hk).1,λb L x hb hx hd=>?_⟩
  rcases split b L hb with⟨h1,h2,h3⟩|⟨c,rfl,h2,h3⟩
  .rw[h3]at hx;rcases f2 k arr hk with g|g
   .grind[Rel.frz]
   .exact λhh=>g (.inr Ag)
  .rw[h3]at hx;obtain⟨x0,g2,g3⟩:=shn hx hd;exact(r2.frz k arr hk).2 c L x0 h2 g2 g3
 .refine⟨?_,λb L hb=>?_⟩
  .show h.sz+(bs2.length-at'.length)<=_;rw[qmB];omega
  .rcases split b L hb with⟨_,h2,_⟩|⟨c,rfl,h2,_⟩
   .exact zzh (r.dn.2 b L h2) hw
   .exact r2.dn.2 c L h2
def qAu(m:Nat)(v:AV)(bs2:List Blk)(v':AV)(h':Hp):Prop:=h'.fl=0->∃src:List Nat,NV (rl src h'.sz) bs2.length v' v/\BWs h' (rl src h'.sz) bs2.length src bs2/\(src.filter λb=>decide (b<h'.sz)).Nodup/\∀b,b<m->rl src h'.sz b=b
def qAt(m:Nat)(v:AV)(bs2:List Blk)(v':AV)(h':Hp):Prop:=h'.fl=0->Wk m (mkT [(0,v')]) h' (mkT [(0,v)]) (mkH 0 bs2)
theorem qAu.w{m:Nat}{v:AV}{bs2:List Blk}{v':AV}{h':Hp}(hz:qAu m v bs2 v' h')(hle:m<=bs2.length):qAt m v bs2 v' h':=by
 intro hfl;obtain⟨src,s1,s2,s3,s4⟩:=hz hfl;exact Wk.mkn [(0,v)] bs2 src ⟨⟨v',E3,s1⟩,trivial⟩ s2 s3 hfl hle s4
def Upd(P:Program)(f:Nat)(vs:List AV)(bs:List Blk)(v:AV)(bs2:List Blk):Prop :=
 jF bs.length vs=true/\bs.length<=bs2.length/\SC P f vs (mkH 0 bs) (qAt bs.length v bs2)
theorem Upd.mk{f:Nat}{i:IFn}{vs:List AV}{v:AV}{bs bs2:List Blk}(hc:qdW P f i=true)(hb:jF bs.length vs=true)(hl:bs.length<=bs2.length)(hV:V P bs.length i.body (zQ i.res (qAu bs.length v bs2)) (qb0 vs 0 .leaf) (mkH 0 bs)):Upd P f vs bs v bs2 :=
 ⟨hb,hl,(SC.mk hc (qh hV)).mono (by grind[qAu.w])⟩
def Upd.sc{f:Nat}{vs:List AV}{bs bs2:List Blk}{v:AV}{h:Hp}{k:AV->Hp->Prop}(at':List Nat)(hu:Upd P f vs bs v bs2)(l:Lent h at' bs)(hk:k (rnv (gAt at' h.sz) v) (qdV h at' bs2)):SC P f (qbh (gAt at' h.sz) vs) h k:=by
 obtain⟨hb,hle,hu⟩:=hu;refine⟨hu.1,λZ B w args r ha=>?_⟩
 have hle':at'.length<=bs2.length:=by rw[l.len];exact Ab
 have ha':VRs σ0 (Z.small at' h.sz) vs args.toList:=VRs.nr (Z:=Z) (Zs:=Z.small at' h.sz) (g:=gAt at' h.sz) (m:=bs.length) (λb L hbm hbL=>by
  refine C2 ?_;exact Ab) rfl l.len hb ha
 refine qcL.mono (hu.2 (Z.small at' h.sz) (Bar Z B h at') w args (r.small l) ha') ?_;rintro e w1 ⟨v0,v',h1,Z1,rfl,g1,g2,g3,g4⟩;have hw:Wk bs.length (mkT [(0,v0)]) h1 (mkT [(0,v)]) (mkH 0 bs2):=g1 g4.fl
 obtain⟨Z2,t2,r2,k2⟩:=hw Z1 (Bar Z B h at') w1 #[v'] (λj x hj=>by
  have:=qfi hj
  exact Ae) g3
 have hv2:VR σ0 Z2 v v':=by
  have:=(t2 0 v E3).2
  exact Ae
 have he:∀i,i<at'.length->Z2 i=Z.small at' h.sz i:=λi hi=>(k2.ext i F2).trans (by grind[Kept.ext,qyQ,Lent.len])
 have f1:∀k a,Z.frz k=some a->Z2.frz k=some a:=λk a hk=>k2.frz k a (g4.frz k a hk)
 have f2:∀k a,Z2.frz k=some a->Z.frz k=some a\/¬Bar Z B h at' k:=λk a hk=>(k2.fnew k a hk).elim (g4.fnew k a) .inr
 obtain⟨up,big⟩:=Rel.back r l r2 hle' he g4.pres g4.wle f1 f2
 have nle:∀b,b<Z2.n->gAt at' h.sz b<(Z.back Z2 at' h.sz bs2.length).n:=by
  intro b hb;have hb2:b<bs2.length:=zzh hb r2.dn.1;show _<h.sz+(bs2.length-at'.length)
  by_cases hbm:b<at'.length
  .have hbm':b<bs.length:=by rw[<- l.len];exact hbm
   obtain⟨_,_,_,_,_,_,_,h6⟩:=l.blk b bs[b] Ae;exact Ab
  grind[qmV]
 refine⟨_,v',_,Z.back Z2 at' h.sz bs2.length,rfl,hk,VR.rn up (λ_ _ h=>h) nle hv2,big,?_⟩
 refine⟨λb hb=>?_,by rw[qmB];exact Ab,qqk,λb hf hb=>qn9 hb (λhm=>?_),λk hk=>g4.pres k (.inl hk),g4.wle,g4.io,f1,λk a hk=>(f2 k a hk).imp id (λhh hB=>hh (.inl hB)),zzg r.dn.1 (Nat.le_add_right _ _)⟩
 .show (if b<h.sz then Z b else _)=Z b
  rw[if_pos hb]
 .obtain⟨i,hi,rfl⟩:=List.getElem_of_mem hm;have hi':i<bs.length:=F2
  obtain⟨_,_,_,_,_,_,h5,_⟩:=l.blk i bs[i] Ae;rw[qft hi]at h5;exact Ab
end
section
variable {P:Program}{h:Hp}
def qgb(h:Hp)(g:Nat->Nat)(m:Nat):List Nat->List Blk->Prop
 | [],[]=>True
 | b::at',.cells e true a cs::xs=>(jF m cs=true/\evB (h.tr.get b) (λy=>y=Blk.cells e true a (qbh g cs))/\h.fl<=b/\b<h.sz)/\qgb h g m at' xs
 | _,_=>False
theorem qgb.get{g:Nat->Nat}{m:Nat}:∀{at':List Nat}{bs:List Blk},qgb h g m at' bs->at'.length=bs.length/\∀(i:Nat) (x:Blk),bs[i]?=some x->∃b e a cs,at'[i]?=some b/\x = .cells e true a cs/\jF m cs=true/\h.tr.get b=some (.cells e true a (qbh g cs))/\h.fl<=b/\b<h.sz
 | [],[],_=>⟨rfl,by simp⟩
 | [],_::_,hh=>Gs
 | _::_,[],hh=>Gs
 | b::at',.dead::xs,hh=>Gs
 | b::at',.map _::xs,hh=>Gs
 | b::at',.cells e false a cs::xs,hh=>Gs
 | b::at',.cells e true a cs::xs,hh=>by
  obtain⟨⟨h1,⟨y,h2,h3⟩,h4,h5⟩,h6⟩:=hh;subst h3;obtain⟨h7,h8⟩:=qgb.get h6
  exact Ag
def Lent.of{at':List Nat}{bs:List Blk}(hn:at'.Nodup)(hl:qgb h (gAt at' h.sz) bs.length at' bs):Lent h at' bs:=by
 obtain⟨h1,h2⟩:=hl.get;refine⟨h1,hn,λi x hx=>?_⟩
 grind[qft]
def qys{g:Nat->Nat}{m:Nat}:qgb h g m [] []↔True:=Iff.rfl
def qvn{g:Nat->Nat}{m b e:Nat}{at':List Nat}{a:Bool}{cs:List AV}{xs:List Blk}:qgb h g m (b::at') (.cells e true a cs::xs)↔(jF m cs=true/\evB (h.tr.get b) (λy=>y=Blk.cells e true a (qbh g cs))/\h.fl<=b/\b<h.sz)/\qgb h g m at' xs:=Iff.rfl
def qI{s f b:Nat}{tr:Tr Blk}{x:Blk}:Hp.put ⟨s,f,tr⟩ b x=⟨s,f,tr.set b x⟩:=rfl
def qru{xs:List Blk}:qfL h [] xs=h:=G1
def qoN{b:Nat}{at':List Nat}{x:Blk}{xs:List Blk}:qfL h (b::at') (x::xs)=qfL (h.put b x) at' xs:=rfl
def qCS{g:Nat->Nat}{v:AV}(hv:clo v=true):rnv g v=v:=by
 have key:(∀v:AV,clo v=true->rnv g v=v):=λv=>by
  refine AV.rec (motive_1:=λv=>clo v=true->rnv g v=v) (motive_2:=λvs=>qt vs=true->qbh g vs=vs) ?_ ?_ ?_ ?_ ?_ ?_ ?_ ?_ ?_ ?_ ?_ ?_ ?_ ?_ ?_ ?_ ?_ ?_ ?_ ?_ ?_ ?_ ?_ ?_ ?_ ?_ v
  all_goals first
   | (intros;rfl)
   | (intros;rename_i hh;simp[clo]at hh;done)
   | skip
  .intro f a c h1 h2 hh;simp only[clo,zzB]at hh;simp only[rnv,h1 hh.1,h2 hh.2]
  .intro t v h1 hh;exact G8
  .intro cs h1 hh;exact G8
  .intro cs h1 hh;exact G8
  .intro v vs h1 h2 hh;simp only[qt,zzB]at hh;simp only[qbh,h1 hh.1,h2 hh.2]
 exact Ae
def qi{g:Nat->Nat}:∀{vs:List AV},qt vs=true->qbh g vs=vs
 | [],_=>rfl
 | v::vs,h=>by
  simp only[qt,zzB]at h;simp only[qbh,qCS h.1,qi h.2]
def xF:Blk->Bool
 | .dead=>false
 | _=>true
def qoE{α β:Type}{f:α->β}{p:α->Bool}:∀{l:List α},((l.filter p).map f).Nodup->∀{i j:Nat}{x y:α},l[i]?=some x->l[j]?=some y->p x=true->p y=true->f x=f y->i=j
 | [],_,i,j,x,y,hi,_,_,_,_=>Ag
 | a::l,hn,i,j,x,y,hi,hj,hx,hy,he=>by
  have tail:((l.filter p).map f).Nodup:=by
   rw[List.filter_cons]at hn
   exact Ag
  have no:∀{z:α}{m:Nat},l[m]?=some z->p z=true->p a=true->f a=f z->False:=Ag
  cases i with
  | zero =>
   exact Ag
  | succ i =>
   cases j with
   | zero=>exact Ag
   | succ j =>
    have hij:i=j:=qoE tail (i:=i) (j:=j) Ae Ae hx hy he;rw[hij]
theorem Wk.mkd{n:Nat}{t:Tr AV}(ts:List (Nat×AV))(bl:List Blk)(src:List Nat)(hT:TWs t (rl src h.sz) bl.length ts)(hB:BWs h (rl src h.sz) bl.length src bl)
  (hI:(((src.zip bl).filter λp=>decide (p.1<h.sz)&&xF p.2).map Prod.fst).Nodup) (hfl:h.fl=0) (hn:n<=bl.length) (hlow:∀b,b<n->rl src h.sz b=b):Wk n t h (mkT ts) (mkH 0 bl):=by
 obtain⟨hlen,hget⟩:=hB.get;refine Wk.of (r:=rl src h.sz) ⟨hfl.symm,λb' x' hb hg=>?_,λb1 b2 h1 h2 l1 l2 he hl=>?_,λb' _ _ _=>by rw[hfl];exact Ab,hlow,hn,λb _ hb=>by rw[hfl]at hb;exact Ab,λj v' hj=>?_⟩
 .exact B3
 .obtain⟨x1,g1,d1⟩:=l1;obtain⟨x2,g2,d2⟩:=l2;rw[jq]at g1 g2;obtain⟨c1,q1,_⟩:=hget b1 x1 g1;obtain⟨c2,q2,_⟩:=hget b2 x2 g2;have e1:rl src h.sz b1=c1:=by simp[rl,zzs,q1]
  have e2:rl src h.sz b2=c2:=by simp[rl,zzs,q2]
  rw[e1,e2]at he;rw[e1]at hl;have v1:xF x1=true:=by cases x1<;>first|rfl|exact absurd rfl d1
  have v2:xF x2=true:=by cases x2<;>first|rfl|exact absurd rfl d2
  refine qoE hI (i:=b1) (j:=b2) (x:=(c1,x1)) (y:=(c2,x2)) ?_ ?_ ?_ ?_ he
  all_goals grind
 .exact hT.get _ (qfi hj)
def qvC{b o:Nat}{k:AV->Prop}:qlQ (.ptr b o) k↔k (.ptr b o):=Iff.rfl
def qyU{cs:List AV}{o:Nat}{k:AV->Prop}:qlQ (.pf cs o) k↔k (.pf cs o):=Iff.rfl
def qvB{b:Nat}{k:AV->Prop}:qlQ (.map b) k↔k (.map b):=Iff.rfl
def qyV{b:Nat}{k:AV->Prop}:qlQ (.yl b) k↔k (.yl b):=Iff.rfl
def qyT{f:Nat}{a c:List AV}{k:AV->Prop}:qlQ (.fn f a c) k↔k (.fn f a c):=Iff.rfl
def qDq{C:zZ}{ops:List ROp}{Q:Tr AV->Hp->Prop}{t:Tr AV}{s f f':Nat}{tr:Tr Blk}:VR' C ops Q t (Hp.down ⟨s,f,tr⟩ f')↔VR' C ops Q t ⟨s,f',tr⟩:=Iff.rfl
def qKZ{C:zZ}{ops:List ROp}{Q:Tr AV->Hp->Prop}{t:Tr AV}{s f:Nat}{tr:Tr Blk}{dst:Option Nat}{o:IOp}:VR' C (⟨dst,.op o,none⟩::ops) Q t ⟨s,f,tr⟩ ↔
  if wr (.op o)=true then opK qV o t ⟨s,f,tr⟩ (λv h'=>qap t dst v (λt'=>VR' C ops Q t' h'))else opK qV o t ⟨s,s,tr⟩ (λv h'=>qap t dst v (λt'=>VR' C ops Q t' (h'.down f))):=qEv
def qHT{C:zZ}{Q:Tr AV->Hp->Prop}{t:Tr AV}{s f:Nat}{tr:Tr Blk}:VR' C [] Q t ⟨s,f,tr⟩↔Q t ⟨s,f,tr⟩:=Iff.rfl
def qAQ{m:Nat}:∀{v:AV},clo v=true->bnd m v=true:=by
 intro v;refine AV.rec (motive_1:=λv=>clo v=true->bnd m v=true) (motive_2:=λvs=>qt vs=true->jF m vs=true) ?_ ?_ ?_ ?_ ?_ ?_ ?_ ?_ ?_ ?_ ?_ ?_ ?_ ?_ ?_ ?_ ?_ ?_ ?_ ?_ ?_ ?_ ?_ ?_ ?_ ?_ v
 all_goals first
  | (intros;rfl)
  | (intros;rename_i hh;simp[clo]at hh;done)
  | skip
 .intro f a c h1 h2 hh;simp only[clo,zzB]at hh;simp only[bnd,h1 hh.1,h2 hh.2,Bool.and_self]
 .intro t v h1 hh;exact G9
 .intro cs h1 hh;exact G9
 .intro cs h1 hh;exact G9
 .intro v vs h1 h2 hh;simp only[qt,zzB]at hh;simp only[jF,h1 hh.1,h2 hh.2,Bool.and_self]
def qy{m:Nat}:∀{vs:List AV},qt vs=true->jF m vs=true
 | [],_=>rfl
 | v::vs,h=>by
  simp only[qt,zzB]at h;simp only[jF,qAQ h.1,qy h.2,Bool.and_self]
end
section
def vQ:=zzA @List.map_cons.{0,0} (zzA @List.map_nil.{0,0} (zzA @Bool.and_true (zzA @Bool.true_and (zzA @Bool.and_self (zzA @and_self (zzA @Tr.get_set (zzA @decide_eq_true_eq (zzA @Bool.false_eq_true (zzA @true_and (zzA @and_true (zzA @List.getElem?_cons_zero.{0} (zzA @List.getElem?_cons_succ.{0} (zzA @List.length_cons.{0} (zzA @List.length_nil.{0} (zzA @List.take_zero.{0} (zzA @List.take_succ_cons.{0} (zzA @List.drop_zero.{0} (zzA @List.drop_succ_cons.{0} (zzA @List.drop_nil.{0} (zzA @List.take_nil.{0} (zzA @List.nil_append.{0} (zzA @List.cons_append.{0} (zzA @List.append_nil.{0} (zzA @Nat.zero_add (zzA @Nat.add_zero (zzA @zzL (zzA @Nat.zero_le (zzA @Int.toNat_natCast (zzA @Int.natCast_nonneg (zzA @Int.ofNat_lt (zzA @Bool.not_true (zzA @Bool.not_false (zzA @decide_true (zzA @decide_false (zzA @Bool.xor_false (zzA @Bool.xor_true (zzA @Bool.false_xor (zzA @Bool.true_xor (zzA @Nat.lt_irrefl (zzA @List.replicate_succ.{0} (zzA @List.replicate_zero.{0} (zzA @List.flatten_cons.{0} (zzA @List.flatten_nil.{0} (zzA @Nat.succ_eq_add_one (zzA @Option.isNone_none.{0} (zzA @Option.isSome_none.{0} (zzA @Bool.false_and (zzA @Bool.and_false (zzA @Nat.sub_zero (zzA @qru (zzA @qoN (zzA @qI (zzA @qBT (zzA @qmj (zzA @qiA (zzA @qgK @List.append_assoc.{0}))))))))))))))))))))))))))))))))))))))))))))))))))))))))
def vX:=zzA @qDq (zzA @qKZ (zzA @qHT (zzA @qzk (zzA @qzl (zzA @qvC (zzA @qyU (zzA @qvB (zzA @qyV @qyT))))))))
def vU:=zzA @shb.eq_1 (zzA @shb.eq_2 (zzA @shb.eq_3 (zzA @shv.eq_1 (zzA @shv.eq_2 (zzA @shv.eq_3 (zzA @shv.eq_4 (zzA @shv.eq_5 (zzA @shv.eq_6 (zzA @shv.eq_7 (zzA @shv.eq_8 (zzA @shv.eq_9 (zzA @shv.eq_10 (zzA @qhn.eq_1 @qhn.eq_2)))))))))))))
def vY:=zzA vU (zzA @qdJ.eq_1 (zzA @qdJ.eq_2 (zzA @cellsOf.eq_1 (zzA @cellsOf.eq_2 (zzA @wr.eq_1 (zzA @wr.eq_2 (zzA @wr.eq_3 (zzA @wr.eq_4 (zzA @wr.eq_5 (zzA @wr.eq_6 (zzA @wr.eq_7 (zzA @wr.eq_8 (zzA @wr.eq_9 (zzA @qaD.eq_1 @qaD.eq_2))))))))))))))
def vS:=zzA vA (zzA vE (zzA vO (zzA vB (zzA vF (zzA vM (zzA vR vX))))))
def vT:=zzA vY (zzA @qFl (zzA @qFm (zzA vP (zzA vC (zzA vQ (zzA @qt1 (zzA @qrI (zzA not_false_eq_true (zzA @eq_self.{1} @Int.cast_ofNat_Int)))))))))
def vw:=zzA vW (zzA @qBj (zzA @qJN (zzA @qJM (zzA @qFv (zzA @qb5 (zzA @qcv (zzA @qaI (zzA @wg (zzA @qEV (zzA @qoB (zzA @qvw (zzA @qsq (zzA @qlN (zzA vP (zzA vZ @Tr.get_set)))))))))))))))
def vK:=zzA (zzA @qdV.eq_1 (zzA @rnb.eq_1 (zzA @rnb.eq_2 (zzA @rnb.eq_3 (zzA @qbh.eq_1 (zzA @qbh.eq_2 (zzA @rnv.eq_1 (zzA @rnv.eq_2 (zzA @rnv.eq_3 (zzA @rnv.eq_4 (zzA @rnv.eq_5 (zzA @rnv.eq_6 (zzA @rnv.eq_7 (zzA @rnv.eq_8 (zzA @rnv.eq_9 (zzA @rnv.eq_10 @gAt.eq_1)))))))))))))))) (zzA @List.cons_append.{0} (zzA @List.nil_append.{0} (zzA @List.length_cons.{0} (zzA @List.length_nil.{0} (zzA Nat.zero_add (zzA @List.take_succ_cons.{0} (zzA @List.take_zero.{0} (zzA @List.drop_succ_cons.{0} (zzA @List.drop_zero.{0} (zzA @List.map_cons.{0,0} (zzA @List.map_nil.{0,0} (zzA @List.getD_cons_zero.{0} (zzA @List.getD_cons_succ.{0} (zzA @qoN (zzA @qru (zzA @qgK (zzA @qiA (zzA @qI @qmj))))))))))))))))))
def vJ:=zzA vU (zzA @qgK (zzA @qiA (zzA @qmj (zzA @qt1 (zzA @qrI (zzA @List.map_cons.{0,0} (zzA @List.map_nil.{0,0} (zzA @qEj (zzA @qs5 Nat.zero_add)))))))))
def vL:=zzA vU (zzA (zzA @jF.eq_1 (zzA @jF.eq_2 (zzA @bnd.eq_1 (zzA @bnd.eq_2 (zzA @bnd.eq_3 (zzA @bnd.eq_4 (zzA @bnd.eq_5 (zzA @bnd.eq_6 (zzA @bnd.eq_7 (zzA @bnd.eq_8 (zzA @bnd.eq_9 (zzA @bnd.eq_10 (zzA @qbh.eq_1 (zzA @qbh.eq_2 (zzA @rnv.eq_1 (zzA @rnv.eq_2 (zzA @rnv.eq_3 (zzA @rnv.eq_4 (zzA @rnv.eq_5 (zzA @rnv.eq_6 (zzA @rnv.eq_7 (zzA @rnv.eq_8 (zzA @rnv.eq_9 (zzA @rnv.eq_10 @gAt.eq_1)))))))))))))))))))))))) (zzA @qvn (zzA @qys (zzA @qgK (zzA @qiA @qmj)))))
abbrev AV.j(n:Int):AV:=.i .i64 n
abbrev AV.w(n:Int):AV:=.i .u32 n
abbrev AV.h(n:Int):AV:=.i .u16 n
abbrev AV.y(n:Int):AV:=.i .u8 n
abbrev AV.x(n:Int):AV:=.i .u64 n
abbrev Blk.v(l:List AV):Blk:=.cells 0 true false l
def sq:List ICode->ICode
 | []=>.skip
 | [x]=>x
 | x::y::l=>.seq x (sq (y::l))
def sq1:sq []=.skip:=rfl
def sq2{x:ICode}:sq [x]=x:=rfl
def sq3{x y:ICode}{l:List ICode}:sq (x::y::l)=.seq x (sq (y::l)):=rfl
def ROp.q(n:Nat)(o:IOp):ROp:=⟨some n,.op o,none⟩
def ROp.m(n:Nat)(x:O):ROp:=⟨some n,.op (.mov x),none⟩
def ROp.g(n:Nat)(o:IOp)(c:Nat)(b:Bool):ROp:=⟨some n,.op o,some (c,b)⟩
def ROp.l(n f:Nat)(xs:List O):ROp:=⟨some n,.callF f xs,none⟩
def ROp.u(o:IOp):ROp:=⟨none,.op o,none⟩
def ICode.r(ops:List ROp):ICode:=.reg false ops
def O.k(n:Int):O:=.c (.i .i64 n)
def q_q{n:Nat}{o:IOp}:ROp.q n o=⟨some n,.op o,none⟩:=rfl
def q_m{n:Nat}{x:O}:ROp.m n x=⟨some n,.op (.mov x),none⟩:=rfl
def q_g{n:Nat}{o:IOp}{c:Nat}{b:Bool}:ROp.g n o c b=⟨some n,.op o,some (c,b)⟩:=rfl
def q_l{n f:Nat}{xs:List O}:ROp.l n f xs=⟨some n,.callF f xs,none⟩:=rfl
def q_u{o:IOp}:ROp.u o=⟨none,.op o,none⟩:=rfl
def q_r{ops:List ROp}:ICode.r ops = .reg false ops:=rfl
def q_k{n:Int}:O.k n = .c (.i .i64 n):=rfl
section
set_option maxRecDepth 1000000
def rnG:List Nat->Nat->Nat
 | a::b::r,f=>if a=f then b else rnG r f
 | _,f=>f
def vG(R:List Nat):Nat->Value->AV
 | 0,_=>.undef
 | _,.bool b=>.b b
 | _,.int k n=>.i k n
 | _,.string s=>.s s.data.toList
 | _,.pointer none=>.nilp
 | _,.slice none 0 0=>.nils
 | _,.nilFunc=>.nilf
 | _,.nilIface=>.nili
 | _,.map none=>.nilm
 | n+1,.agg cs=>.agg (cs.toList.map (vG R n))
 | n+1,.tuple cs=>.tup (cs.toList.map (vG R n))
 | n+1,.func (.func f) a b=>.fn (rnG R f) (a.toList.map (vG R n)) (b.toList.map (vG R n))
 | n+1,.iface t v=>.ifc t (vG R n v)
 | _,_=>.undef
def oG(R:List Nat):Operand->O
 | .tmp t=>.t t
 | .const v=>.c (vG R 9 v)
 | .func f=>.c (.fn (rnG R f) [] [])
 | .global _=>.c .undef
def zG(P:Program)(t:TypeId):List AV:=match (P.info? t).bind (·.zero)with|some z=>z.cells.toList.map (vG [] 9)|none=>[]
def qKl:Operand->Bool
 | .const (.pointer none) | .const (.slice none _ _) | .const .nilFunc | .const .nilIface | .const (.map none)=>true
 | _=>false
def kdG(P:Program)(t:TypeId):Option IntKind×TypeId:=match qkm P t with
 | some (k,e)=>(match P.underlying k with|some (.int q)=>some q|_=>none,e)
 | none=>(none,0)
def qBq(P:Program)(t:TypeId)(f:Nat):Field:=match P.underlying t with|some (.struct fs)=>fs.getD f default|_=>default
def neG:BinOp->Bool
 | .neq=>true
 | _=>false
def eqG:BinOp->Bool
 | .eql | .neq=>true
 | _=>false
def nkG(P:Program)(t:TypeId):NK:=match P.underlying t with|some (.pointer _)=>NK.ptr|some (.slice _)=>.slice|some (.func ..)=>.func|some (.map ..)=>.map|_=>.iface
def qLv(P:Program)(op:BinOp)(t:TypeId)(na nb:Bool)(a b:O):IOp :=
 if eqG op&&nb then .eqN (neG op) (nkG P t) a else if eqG op&&na then .eqN (neG op) (nkG P t) b else match P.underlying t with
  | some .bool=>.eqB (neG op) a b
  | _=>.bin op a b
def cvG(P:Program)(a b:TypeId)(x:O):IOp:=match P.underlying a,P.underlying b with
 | some (.int _),some (.int k)=>.cvInt k x
 | _,_=>.no
def slG(P:Program)(t:TypeId)(x:O)(l h m:Option O):IOp:=match P.underlying t with
 | some .string=>.slcStr x l h
 | some (.slice e)=>.slcS (P.cellsOf e) x l h m
 | some (.array n e)=>.slcA n (P.cellsOf e) x l h m
 | _=>.no
def qLV(P:Program)(t:TypeId)(a:O):IOp:=match P.underlying t with
 | some (.array n _)=>.mov (.c (.i .i64 n))
 | some .string=>.len true a
 | some (.pointer r)=>.mov (.c (.i .i64 ((qht P r).getD default).1))
 | _=>.len false a
def opG(P:Program)(R:List Nat)(o:Op):IOp :=
 let O:=oG R
 let s:=P.cellsOf
 let el:=λt=>(wu P t).getD 0
 match o with
 | .move x | .assign x=>.mov (O x)
 | .pick c a b=>.pick (O c) (O a) (O b)
 | .alloc t=>.alloc (zG P t)
 | .box _ x=>.box (O x)
 | .build t ps=>.build (zG P t) (ps.toList.map λq=>match P.underlying t with
   | some (.struct fs)=>((fs.getD q.1 default).offset,s (fs.getD q.1 default).type,O q.2)
   | some (.array _ e)=>(q.1*s e,s e,O q.2)
   | _=>(0,0,O q.2))
 | .buildSlice t n ps=>.buildS n (zG P (el t)) (ps.toList.map λq=>(q.1*s (el t),s (el t),O q.2))
 | .load t a=>if vo P t then .loadN (s t) (O a)else .load1 (O a)
 | .store t a v=>.store (s t) (O a) (O v)
 | .nilCheck x=>.nilChk (O x)
 | .binOp op t a b _=>qLv P op t (qKl a) (qKl b) (O a) (O b)
 | .unOp op _ x=>.un op (O x)
 | .convert a b x=>cvG P a b (O x)
 | .makeFunc (.func f) a c=>.mkF (rnG R f) (a.toList.map O) (c.toList.map O)
 | .makeSlice t l c=>.mkS (s (el t)) (P.bytesOf (el t)) (zG P (el t)) (O l) (O c)
 | .slice t x l h m=>slG P t (O x) (l.map O) (h.map O) (m.map O)
 | .fieldAddr t x f=>.fAddr (qBq P t f).offset (O x)
 | .field t x f=>.fld (qBq P t f).offset (if vo P (qBq P t f).type then some (s (qBq P t f).type)else none) (O x)
 | .indexAddr t x i=>match P.underlying t with
  | some (.array n e)=>.iAddrA n (s e) (O x) (O i)
  | _=>.iAddrS (s (el t)) (O x) (O i)
 | .index t x i=>match P.underlying t with
  | some (.array n e)=>.idxA n (s e) (vo P e) (O x) (O i)
  | _=>.idxS (O x) (O i)
 | .makeMap _ _=>.mkM
 | .lookup t x i ok=>.lookM (kdG P t).1 ok (match (P.info? (kdG P t).2).bind (·.zero)with|some z=>vG [] 9 z|none=>.undef) (O x) (O i)
 | .mapUpdate t m i v | .insert t m i v=>.updM (kdG P t).1 (O m) (O i) (O v)
 | .extract t i=>.ext (O t) i
 | .call ⟨.builtin b,args,ts⟩ =>
  let a:=O (args.getD 0 default)
  let c:=O (args.getD 1 default)
  let t:=ts.getD 0 0
  let e:=el t
  match b with
  | .len=>qLV P t a
  | .append=>.app (s e) (P.bytesOf e) true a c
  | .max=>.max a c
  | .min=>.min a c
  | .clear=>.clear (zG P e) a
  | _=>.no
 | _=>.no
def qMe(P:Program):Op->Bool
 | .move _ | .assign _ | .pick .. | .unOp .. | .fieldAddr .. | .extract .. | .indexAddr .. | .nilCheck _ | .field ..=>true
 | .binOp _ t _ _ _=>qD8 P t||qkf P t
 | .convert a b _=>qx8 P a&&qx8 P b
 | _=>false
def ldG(o:Oper):Option Nat:=match o.op,o.dst with | .load _ (.tmp p),some _=>some p|_,_=>none
def qLG(P:Program)(ops:List Oper)(ms:List Nat)(k:Nat)(o:Oper)(r:IOp):IOp :=
 let bf:=λj k=>(ms.getD k 0).testBit j
 let ix:=ops.zipIdx
 match o.op,r with
 | .store ..,.store n a v =>
  let ps:=ix.filterMap λq=>if q.2<k && !bf q.2 k then ldG q.1 else none
  if ps.isEmpty && !(ix.any λq=>decide (q.2<k) && !bf q.2 k&&match q.1.op with | .alloc .. | .buildSlice ..=>true|_=>false)then r else .storeD n a v ps
 | .call _,.app n b _ s x =>
  let odd:=ix.filter λq=>q.2 != k && !qMe P q.1.op&&(if q.2<k then !bf q.2 k else !bf k q.2)
  let pl:=odd.map λq=>if q.2<k then ldG q.1 else none
  if odd.isEmpty then r else if pl.all (·.isSome)then .appD n b s x (pl.filterMap id)else .no
 | _,_=>r
structure MkG where
 w:List Nat
 v:Bool
 d:List Nat
def qMi(P:Program)(R:List Nat)(M:MkG)(ops:List Oper)(ms:Option (List Nat))(k:Nat)(o:Oper):ROp :=
 ⟨o.dst,match o.op with
  | .call ⟨.value (.func f),args,_⟩=>if M.w.contains f then .callW (rnG R f) (args.toList.map (oG R))else .callF (rnG R f) (args.toList.map (oG R))
  | .call ⟨.value x,args,_⟩=>if M.v then .callVW (oG R x) (args.toList.map (oG R))else .callV (oG R x) (args.toList.map (oG R))
  | p=>.op (match (match ms with|some ms=>qLG P ops ms k o (opG P R p)|none=>opG P R p)with
   | .store n (.t a) v=>if M.d.contains a then .storeD n (.t a) v []else .store n (.t a) v
   | r=>r),
  match o.guard with
   | none=>none
   | some (j,b)=>match ops[j]? with|some q=>(q.dst).map λd=>(d,b)|none=>none⟩
def stG(b:Nat)(cuts:List (Nat×ICode)):List (Nat×ICode):=cuts.filterMap λq=>if q.1 % 2=b then some (q.1 / 2,q.2)else none
def cG(P:Program)(R:List Nat)(M:MkG):Code->List (Nat×ICode)->ICode
 | c,cuts=>match cuts.find? λq=>q.1==1 with
  | some q=>.cut q.2
  | none=>match c with
   | .skip=>.skip
   | .region _ ops d=>.reg d (ops.toList.zipIdx.map λq=>qMi P R M ops.toList (if d then some (qgd ops.toList [])else none) q.2 q.1)
   | .seq a b=>.seq (cG P R M a (stG 0 cuts)) (cG P R M b (stG 1 cuts))
   | .cond x a b=>.cond (oG R x) (cG P R M a (stG 0 cuts)) (cG P R M b (stG 1 cuts))
   | .block i b=>.blk i (cG P R M b (stG 0 cuts))
   | .loop b=>.loop (cG P R M b (stG 0 cuts))
   | .exit i=>.exit i
   | .ret=>.ret
   | .rangeFunc f ps a b=>.rangeF 0 (oG R f) ps.toList (cG P R M a (stG 0 cuts)) (cG P R M b (stG 1 cuts))
   | _=>.no
def atG:Nat->Nat->Code->Code
 | 0,_,c=>c
 | n+1,m,c=>if m=1 then c else match c with
  | .seq a b | .cond _ a b | .rangeFunc _ _ a b=>atG n (m / 2) (if m % 2=0 then a else b)
  | .block _ b | .loop b=>atG n (m / 2) b
  | c=>c
def qwN(P:Program)(f:Nat):Code:=match P.funcs[f]? with|some g=>g.body.getD .skip|none=>.skip
def irG(P:Program)(f:Nat)(R:List Nat)(M:MkG)(cuts:List (Nat×ICode)):IFn :=
 ⟨match P.funcs[f]? with
  | some g=>g.results.toList.map fun | .tmp t=>.tmp t | .cell a t=>.cell a (P.cellsOf t) (vo P t)
  | none=>[],cG P R M (qwN P f) cuts⟩
def irJ(f:Nat)(R:List Nat)(ps:List Nat:=[])(cs:List ICode:=[])(M:MkG:=⟨[],false,[]⟩){v:(Nat->ICode)->IFn}(_:∀c:Nat->ICode,irG Go.Proofs.Tryz.prog f R M (ps.zipIdx.map λq=>(q.1,c q.2))=v c:=by intro c;cbv):IFn:=v λn=>cs.getD n .skip
def icJ(f:Nat)(R:List Nat)(at':Nat)(ps:List Nat:=[])(cs:List ICode:=[])(M:MkG:=⟨[],false,[]⟩){v:(Nat->ICode)->ICode}(_:∀c:Nat->ICode,cG Go.Proofs.Tryz.prog R M (atG 99 at' (qwN Go.Proofs.Tryz.prog f)) (ps.zipIdx.map λq=>(q.1,c q.2))=v c:=by intro c;cbv):ICode:=v λn=>cs.getD n .skip
def qKG{f:Nat}{R ps:List Nat}{cs:List ICode}{M:MkG}{v:(Nat->ICode)->IFn}{h:∀c:Nat->ICode,irG Go.Proofs.Tryz.prog f R M (ps.zipIdx.map λq=>(q.1,c q.2))=v c}:irJ f R ps cs M h=v λn=>cs.getD n .skip:=rfl
def qKF{f:Nat}{R:List Nat}{p:Nat}{ps:List Nat}{cs:List ICode}{M:MkG}{v:(Nat->ICode)->ICode}{h:∀c:Nat->ICode,cG Go.Proofs.Tryz.prog R M (atG 99 p (qwN Go.Proofs.Tryz.prog f)) (ps.zipIdx.map λq=>(q.1,c q.2))=v c}:icJ f R p ps cs M h=v λn=>cs.getD n .skip:=rfl
end
def vI:=zzA (zzA @sq1 (zzA @sq2 @sq3)) (zzA @qKG (zzA @qKF (zzA @List.getD_cons_zero.{0} (zzA @List.getD_cons_succ.{0} (zzA (zzA @qb0.eq_1 (zzA @qb0.eq_2 (zzA @H0.eq_1 (zzA @mkT.eq_1 (zzA @mkT.eq_2 (zzA @mkH.eq_1 (zzA @trL.eq_1 @trL.eq_2))))))) (zzA @List.length_cons.{0} (zzA @List.length_nil.{0} (zzA Nat.zero_add (zzA @q_q (zzA @q_m (zzA @q_g (zzA @q_l (zzA @q_u (zzA @q_r @q_k))))))))))))))
end
section
variable {P:Program}
mutual
def fzv(b e:Nat)(cs:List AV):AV->AV
 | .own b' n=>if b'=b then .fz n (if n=0 then []else cs)else .own b' n
 | .ptr b' o=>if b'=b then .pf cs o else .ptr b' o
 | .sl b' o n c l=>if b'=b then(if n<=c then .fz n ((cs.drop o).take (n*e))else .undef)else .sl b' o n c l
 | .map b'=>if b'=b then .undef else .map b'
 | .yl b'=>if b'=b then .undef else .yl b'
 | .fn f x c=>.fn f (qhl b e cs x) (qhl b e cs c)
 | .ifc t v=>.ifc t (fzv b e cs v)
 | .agg l=>.agg (qhl b e cs l)
 | .tup l=>.tup (qhl b e cs l)
 | v=>v
def qhl(b e:Nat)(cs:List AV):List AV->List AV
 | []=>[]
 | v::vs=>fzv b e cs v::qhl b e cs vs
end
def fzE(b e:Nat)(cs:List AV)(es:List (AV×AV)):List (AV×AV):=es.map λp=>(p.1,fzv b e cs p.2)
def fzB(b e:Nat)(cs:List AV):Blk->Blk
 | .cells k w a l=>.cells k w a (qhl b e cs l)
 | .dead=>.dead
 | .map es=>.map (fzE b e cs es)
def qmU{b e:Nat}{cs:List AV}:∀{vs:List AV}{j:Nat},(qhl b e cs vs)[j]?=(vs[j]?).map (fzv b e cs)
 | [],j=>by simp[qhl]
 | v::vs,0=>by simp[qhl]
 | v::vs,j+1=>by simpa[qhl]using qmU (vs:=vs) (j:=j)
def qau{b e:Nat}{cs:List AV}:∀{vs:List AV},(qhl b e cs vs).length=vs.length
 | []=>rfl
 | v::vs=>by simp[qhl,qau (vs:=vs)]
def qtf{b e:Nat}{cs:List AV}{v:AV}(hv:clo v=true):fzv b e cs v=v:=by
 refine AV.rec (motive_1:=λv=>clo v=true->fzv b e cs v=v) (motive_2:=λvs=>qt vs=true->qhl b e cs vs=vs) ?_ ?_ ?_ ?_ ?_ ?_ ?_ ?_ ?_ ?_ ?_ ?_ ?_ ?_ ?_ ?_ ?_ ?_ ?_ ?_ ?_ ?_ ?_ ?_ ?_ ?_ v hv
 all_goals first
  | (intros;rfl)
  | (intros;rename_i hh;simp[clo]at hh;done)
  | skip
 .intro f a c h1 h2 hh;simp only[clo,zzB]at hh;simp only[fzv,h1 hh.1,h2 hh.2]
 .intro t v h1 hh;exact Ha
 .intro cs h1 hh;exact Ha
 .intro cs h1 hh;exact Ha
 .intro v vs h1 h2 hh;simp only[qt,zzB]at hh;simp only[qhl,h1 hh.1,h2 hh.2]
def CRs.cut{φ:Nat->Option (Array Value)}:∀{cs:List AV}{vs:List Value}(o m:Nat),CRs σ0 φ cs (vs.take cs.length)->CRs σ0 φ ((cs.drop o).take m) ((vs.drop o).take ((cs.drop o).take m).length)
 | [],vs,o,m,h=>Dt
 | c::cs,[],o,m,h=>by simp at h;cases h
 | c::cs,v::vs,0,0,h=>Dt
 | c::cs,v::vs,0,m+1,h=>by
  simp only[zze,List.take_succ_cons]at h;cases h with
  | cons _ _ _ _ h1 h2 =>
   have:=CRs.cut 0 m h2;simp only[List.drop_zero]at this;simp only[List.drop_zero,List.take_succ_cons,zze];exact .cons _ _ _ _ h1 this
 | c::cs,v::vs,o+1,m,h=>by
  simp only[zze,List.take_succ_cons]at h;cases h with
  | cons _ _ _ _ h1 h2=>simpa using CRs.cut o m h2
def Ren.iced(Z:Ren)(b k:Nat)(arr:Array Value):Ren:=⟨λb'=>if b'=b then none else Z b',⟨λk'=>if k'=k then some ((tab k).getD arr)else Z.frz k',λk' a h=>by
 split
 .subst k';rw[h];rfl
 .exact Z.frz.ok k' a h⟩,Z.n⟩
mutual
def VR.iced{Z:Ren}{b e:Nat}{cs:List AV}{L:Loc}{arr:Array Value}(hz:tab L.blk=none)(hL:∀L',Z b=some L'->L'=L)(hf:∀k a,Z.frz k=some a->(Z.iced b L.blk arr).frz k=some a)
  (hs:CRs σ0 (Z.iced b L.blk arr).frz cs ((arr.toList.drop L.off).take cs.length)):∀{v:AV}{x:Value},VR σ0 Z v x->VR σ0 (Z.iced b L.blk arr) (fzv b e cs v) x
 | _,_,.undef v=>.undef v
 | _,_,.b x=>.b x
 | _,_,.i k n=>.i k n
 | _,_,.s x=>.s x
 | _,_,.nilp=>.nilp
 | _,_,.ptr b' o L' h=>by
  simp only[fzv];split
  .rename_i hb;subst hb;obtain rfl:=hL _ h;refine .pf o L'.off cs L'.blk arr Gg hs
  .rename_i hb;exact .ptr _ _ L' Bp
 | _,_,.nils=>.nils
 | _,_,.sl b' o n cap c l L' h hc=>by
  simp only[fzv];split
  .rename_i hb;subst hb;obtain rfl:=hL _ h;split
   .rename_i hn;refine .fz n (L'.off+o) c _ L'.blk arr Ab Gg ?_;have:=CRs.cut o (n*e) hs;rw[List.drop_drop]at this;exact this
   .exact .undef _
  .rename_i hb;exact .sl _ _ _ _ _ _ L' Bp hc
 | _,_,.slz b' o x l L' h=>by
  simp only[fzv];split
  .simp;exact .fz0 _
  .rename_i hb;exact .slz _ _ _ _ L' Bp
 | _,_,.nilf=>.nilf
 | _,_,.fn f first cap first' cap' h1 h2=>.fn _ _ _ _ _ (VRs.iced hz hL hf hs h1) (VRs.iced hz hL hf hs h2)
 | _,_,.nili=>.nili
 | _,_,.ifc t v v' h=>.ifc _ _ _ (VR.iced hz hL hf hs h)
 | _,_,.agg l l' h=>.agg _ _ (VRs.iced hz hL hf hs h)
 | _,_,.tup l l' h=>.tup _ _ (VRs.iced hz hL hf hs h)
 | _,_,.nilm=>.nilm
 | _,_,.map b' L' h h0=>by
  simp only[fzv];split
  .exact .undef _
  .rename_i hb;exact .map _ L' Bp h0
 | _,_,.sym j=>.sym j
 | _,_,.fz n off c l k a hn h h2=>.fz n off c l k a hn (hf _ _ h) (h2.mono hf)
 | _,_,.fz0 a=>.fz0 a
 | _,_,.pf off base l k a h h2=>.pf off base l k a (hf _ _ h) (h2.mono hf)
 | _,_,.e0 a=>.e0 a
 | _,_,.nz a c=>.nz a c
 | _,_,.own0 b' a hb=>Fo
 | _,_,.yl b' L' h=>by
  simp only[fzv];split
  .exact .undef _
  .rename_i hb;exact .yl _ L' Bp
 | _,_,.own b' n c L' h hn hc=>by
  simp only[fzv];split
  .rename_i hb;subst hb;obtain rfl:=hL _ h;split
   .rename_i h0;subst h0;exact .fz 0 L'.off c [] L'.blk arr Ab Gg Dt
   .exact .fz n L'.off c cs L'.blk arr hn Gg hs
  .rename_i hb;exact .own _ _ _ L' Bp hn hc
def VRs.iced{Z:Ren}{b e:Nat}{cs:List AV}{L:Loc}{arr:Array Value}(hz:tab L.blk=none)(hL:∀L',Z b=some L'->L'=L)(hf:∀k a,Z.frz k=some a->(Z.iced b L.blk arr).frz k=some a)
  (hs:CRs σ0 (Z.iced b L.blk arr).frz cs ((arr.toList.drop L.off).take cs.length)):∀{v:List AV}{x:List Value},VRs σ0 Z v x->VRs σ0 (Z.iced b L.blk arr) (qhl b e cs v) x
 | _,_,.nil=>.nil
 | _,_,.cons v vs v' vs' h h2=>.cons _ _ _ _ (VR.iced hz hL hf hs h) (VRs.iced hz hL hf hs h2)
end
mutual
def VR.iced0{Z:Ren}{b e:Nat}{cs:List AV}(hL:Z b=none):∀{v:AV}{x:Value},VR σ0 Z v x->VR σ0 Z (fzv b e cs v) x
 | _,_,.undef v=>.undef v
 | _,_,.b x=>.b x
 | _,_,.i k n=>.i k n
 | _,_,.s x=>.s x
 | _,_,.nilp=>.nilp
 | _,_,.ptr b' o L' h=>by
  simp only[fzv];split
  .exact Hk
  .exact .ptr _ _ L' h
 | _,_,.nils=>.nils
 | _,_,.sl b' o n cap c l L' h hc=>by
  simp only[fzv];split
  .exact Hk
  .exact .sl _ _ _ _ _ _ L' h hc
 | _,_,.slz b' o x l L' h=>by
  simp only[fzv];split
  .simp;exact .fz0 _
  .exact .slz _ _ _ _ L' h
 | _,_,.nilf=>.nilf
 | _,_,.fn f first cap first' cap' h1 h2=>.fn _ _ _ _ _ (VRs.iced0 hL h1) (VRs.iced0 hL h2)
 | _,_,.nili=>.nili
 | _,_,.ifc t v v' h=>.ifc _ _ _ (VR.iced0 hL h)
 | _,_,.agg l l' h=>.agg _ _ (VRs.iced0 hL h)
 | _,_,.tup l l' h=>.tup _ _ (VRs.iced0 hL h)
 | _,_,.nilm=>.nilm
 | _,_,.map b' L' h h0=>by
  simp only[fzv];split
  .exact .undef _
  .exact .map _ L' h h0
 | _,_,.sym j=>.sym j
 | _,_,.fz n off c l k a hn h h2=>.fz n off c l k a hn h h2
 | _,_,.fz0 a=>.fz0 a
 | _,_,.pf off base l k a h h2=>.pf off base l k a h h2
 | _,_,.e0 a=>.e0 a
 | _,_,.nz a c=>.nz a c
 | _,_,.own0 b' a hb=>Fo
 | _,_,.yl b' L' h=>by
  simp only[fzv];split
  .exact .undef _
  .exact .yl _ L' h
 | _,_,.own b' n c L' h hn hc=>by
  simp only[fzv];split
  .exact Hk
  .exact .own _ _ _ L' h hn hc
def VRs.iced0{Z:Ren}{b e:Nat}{cs:List AV}(hL:Z b=none):∀{v:List AV}{x:List Value},VRs σ0 Z v x->VRs σ0 Z (qhl b e cs v) x
 | _,_,.nil=>.nil
 | _,_,.cons v vs v' vs' h h2=>.cons _ _ _ _ (VR.iced0 hL h) (VRs.iced0 hL h2)
end
def qDZ(es:List (AV×AV)):Prop:=qeK es\/∃r ts,es=zV r ts
def qte{b e:Nat}{cs:List AV}:∀{es:List (AV×AV)},qeK es->fzE b e cs es=es
 | [],_=>rfl
 | p::es,h=>by
  have h2:=qlN.1 h;show(p.1,fzv b e cs p.2)::fzE b e cs es=_;rw[qte h2.2,qtf h2.1.2]
def qBz{b e:Nat}{cs:List AV}{r:Loop}{ts:List (Nat×AV)}:fzE b e cs (zV r ts)=zV r (ts.map λp=>(p.1,fzv b e cs p.2)):=by simp[fzE,zV,fzv]
def qbY.ice{Z Z':Ren}{b e:Nat}{cs:List AV}(hv:∀{v:AV}{x:Value},VR σ0 Z v x->VR σ0 Z' (fzv b e cs v) x){es:List (AV×AV)}{o:Obj}(hm:qDZ es)(h:qbY σ0 Z es o):qbY σ0 Z' (fzE b e cs es) o:=by
 rcases hm with hm|⟨r,ts,rfl⟩
 .rw[qte hm];have hv':∀{v:AV}{x:Value},clo v=true->VR σ0 Z v x->VR σ0 Z' v x:=λhc h=>by have:=hv h;rwa [qtf hc]at this
  rcases h with⟨p1,vs,clk,p2,p3,p4⟩|p3|⟨r,_,ts,rfl,p2,_,p3⟩
  .exact .inl ⟨p1,vs,clk,p2,p3,λj e0 he=>let ⟨v,a1,a2,a3⟩:=p4 j e0 he
    ⟨v,a1,hv' (hm e0 (zzM he)).1 a2,hv' (hm e0 (zzM he)).2 a3⟩⟩
  .exact .inr (.inl p3)
  .exact absurd (hm (.lp r,.undef) In).1 (by simp[clo])
 .obtain⟨rq,p2,pk,p3⟩:=h.rec';rw[qBz];refine .inr (.inr ⟨r,rq,_,rfl,p2,pk,λp hp=>?_⟩)
  obtain⟨q,hq,rfl⟩:=zzl.1 hp;exact⟨(p3 q hq).1,hv (p3 q hq).2⟩
def Wk.freeze{n:Nat}{ts:List (Nat×AV)}{bl:List Blk}(b e e':Nat){a:Bool}{cs:List AV}(hb:bl[b]?=some (.cells e' true a cs))(hc:qt cs=true)(hn:n<=b)(hm:∀es,Blk.map es ∈ bl->qDZ es) :
  Wk n (mkT ts) (mkH 0 bl) (mkT (ts.map λp=>(p.1,fzv b e cs p.2))) (mkH 0 ((bl.map (fzB b e cs)).set b .dead)):=by
 intro Z B w tm ht r;have hlt:b<bl.length:=(zzS.1 hb).1;have hgb:(mkH 0 bl).tr.get b=some (.cells e' true a cs):=by rw[jq];exact hb
 have tget:∀(ts:List (Nat×AV)) (j:Nat),(mkT (ts.map λp=>(p.1,fzv b e cs p.2))).get j=((mkT ts).get j).map (fzv b e cs):=by
  intro ts j
  induction ts with
  | nil=>simp[mkT]
  | cons p l ih =>
   simp only[zz3,mkT,zz4];split
   .rfl
   .exact ih
 have hget:∀b',b'≠b->(mkH 0 ((bl.map (fzB b e cs)).set b .dead)).tr.get b'=((mkH 0 bl).tr.get b').map (fzB b e cs):=by
  intro b' hne;rw[jq,jq,List.getElem?_set_ne (Ne.symm hne),zzo]
 have hgd:(mkH 0 ((bl.map (fzB b e cs)).set b .dead)).tr.get b=some .dead:=by
  rw[jq,List.getElem?_set_self (by simpa using hlt)]
 -- a live block of the new heap comes from one of the old
 have xF:∀b' x,(mkH 0 ((bl.map (fzB b e cs)).set b .dead)).tr.get b'=some x->x≠.dead->b'≠b/\∃y,(mkH 0 bl).tr.get b'=some y/\x=fzB b e cs y/\y≠.dead:=by
  intro b' x hx hd
  have hne:b'≠b:=by
   rintro rfl;rw[hgd]at hx;cases hx;exact hd rfl
  rw[hget b' hne]at hx;cases hy:(mkH 0 bl).tr.get b' with
  | none=>rw[hy]at hx;simp at hx
  | some y =>
   rw[hy]at hx;simp at hx;exact⟨hne,y,rfl,hx.symm,by rintro rfl;subst hx;exact hd rfl⟩
 have hsz:(mkH 0 ((bl.map (fzB b e cs)).set b .dead)).sz=bl.length:=by simp[qyQ]
 cases hZ:Z b with
 | none =>
  refine⟨Z,λj v hj=>?_,⟨?_,?_,?_,?_,?_,?_,?_,r.base,?_,?_⟩,⟨λ_ _=>rfl,by rw[hsz];exact Ab,rfl,λb' hb'=>by simp[qyP]at hb',λ_ _=>rfl,zzL _,⟨rfl,rfl⟩,λ_ _ h=>h,λ_ _ h=>.inl h,λ_ _ h=>h⟩⟩
  .rw[tget]at hj;cases hv:(mkT ts).get j with
   | none=>rw[hv]at hj;simp at hj
   | some v0 =>
    rw[hv]at hj;simp at hj;subst hj;exact⟨(ht j v0 hv).1,VR.iced0 hZ (ht j v0 hv).2⟩
  .intro b' L h1;rw[hsz];exact r.dom b' L h1
  .intro b' L e1 wf af cs' h1 h2;obtain⟨h3,y,h4,h5,h6⟩:=xF b' _ h2 (by simp);cases y with
   | cells k w0 a0 l =>
    simp only[fzB,Blk.cells.injEq]at h5;obtain⟨rfl,rfl,rfl,rfl⟩:=h5;obtain⟨q1,c,ty,fz,q2,q3,q4,q5,q6⟩:=r.cells b' L _ _ _ l h1 h4;refine⟨q1,c,ty,fz,q2,q3,by rw[qau];exact q4,λj v hv=>?_,q6⟩
    rw[qmU]at hv;cases hj:l[j]? with
    | none=>rw[hj]at hv;simp at hv
    | some v0 =>
     rw[hj]at hv;simp at hv;subst hv;obtain⟨v',g1,g2⟩:=q5 j v0 hj;exact⟨v',g1,VR.iced0 hZ g2⟩
   | dead=>simp[fzB]at h5
   | map es=>simp[fzB]at h5
  .intro b' L es h1 h2;obtain⟨h3,y,h4,h5,h6⟩:=xF b' _ h2 (by simp);cases y with
   | cells k w0 a0 l=>simp[fzB]at h5
   | dead=>simp[fzB]at h5
   | map es' =>
    simp only[fzB,Blk.map.injEq]at h5;subst h5;obtain⟨p1,o,p2,p3⟩:=r.maps b' L _ h1 h4;exact⟨p1,o,p2,p3.ice (λh=>VR.iced0 hZ h) (hm es' (by rw[jq]at h4;exact zzM h4))⟩
  .intro b1 L1 e1 af1 cs1 h1 h2 b2 L2 x h3 h4 h5 h6;obtain⟨g1,y,g2,g3,g4⟩:=xF b1 _ h2 (by simp);obtain⟨i1,y2,i2,i3,i4⟩:=xF b2 _ h4 h5;cases y with
   | cells k w0 a0 l =>
    simp only[fzB,Blk.cells.injEq]at g3;obtain⟨rfl,rfl,rfl,rfl⟩:=g3;exact r.excl b1 L1 _ _ l h1 g2 b2 L2 y2 h3 i2 i4 h6
   | dead=>simp[fzB]at g3
   | map es=>simp[fzB]at g3
  .intro b1 L1 es h1 h2 b2 L2 x h3 h4 h5 h6;obtain⟨g1,y,g2,g3,g4⟩:=xF b1 _ h2 (by simp);obtain⟨i1,y2,i2,i3,i4⟩:=xF b2 _ h4 h5;cases y with
   | cells k w0 a0 l=>simp[fzB]at g3
   | dead=>simp[fzB]at g3
   | map es'=>simp only[fzB,Blk.map.injEq]at g3;subst g3;exact r.exclm b1 L1 _ h1 g2 b2 L2 y2 h3 i2 i4 h6
  .intro b1 L1 e1 wf1 cs1 h1 h2 b2 L2 e2 wf2 af2 cs2 h3 h4 h6;obtain⟨g1,y,g2,g3,g4⟩:=xF b1 _ h2 (by simp);obtain⟨i1,y2,i2,i3,i4⟩:=xF b2 _ h4 (by simp);cases y<;>simp only[fzB,Blk.cells.injEq,reduceCtorEq]at g3;cases y2<;>simp only[fzB,Blk.cells.injEq,reduceCtorEq]at i3;obtain⟨rfl,rfl,rfl,rfl⟩:=g3;obtain⟨rfl,rfl,rfl,rfl⟩:=i3;rw[qau,qau];exact r.app b1 L1 _ _ _ h1 g2 b2 L2 _ _ _ _ h3 i2 h6
  .intro b' L h1 h2;exact r.flr b' L h1 (zzu _)
  .intro k arr hk;refine⟨(r.frz k arr hk).1,λb' L x h1 h2 h3=>?_⟩
   obtain⟨g1,y,g2,g3,g4⟩:=xF b' _ h2 h3;exact(r.frz k arr hk).2 b' L y h1 g2 g4
  .exact⟨by rw[hsz];exact r.dn.1,r.dn.2⟩
 | some L =>
  obtain⟨q1,c,ty,fz,q2,q3,q4,q5,q6⟩:=r.cells b L _ _ _ cs hZ hgb
  have hz:tab L.blk=none:=by
   cases h:tab L.blk with
   | none=>rfl
   | some a=>exact absurd rfl ((r.frz _ _ (Z.frz.ok _ _ h)).2 b L _ hZ hgb (by simp))
  have hf:∀k a,Z.frz k=some a->(Z.iced b L.blk c).frz k=some a:=by
   intro k a' hk;simp only[Ren.iced];rw[if_neg (λhh=>(r.frz k a' hk).2 b L _ hZ hgb (by simp) hh.symm)]
   exact hk
  have hLs:∀L',Z b=some L'->L'=L:=by intro L' h;rw[hZ]at h;cases h;rfl
  have hcr:∀(l:List AV) (j:Nat),(∀i v,l[i]?=some v->∃v',c.toList[j+i]?=some v'/\VR σ0 Z v v')->qt l=true->CRs σ0 (Z.iced b L.blk c).frz l ((c.toList.drop j).take l.length):=by
   intro l
   induction l with
   | nil=>intro j _ _;exact Dt
   | cons v l ih =>
    intro j hh hcl;simp only[qt,zzB]at hcl;obtain⟨v',g1,g2⟩:=hh 0 v rfl;simp only[Nat.add_zero]at g1;obtain⟨hj,rfl⟩:=zzS.1 g1;rw[zzf hj,zze,List.take_succ_cons];refine .cons _ _ _ _ ((g2.cr hcl.1).mono hf) (ih (j+1) (λi v hi=>?_) hcl.2)
    obtain⟨v',k1,k2⟩:=hh (i+1) v H4;exact⟨v',by rw[show j+1+i=j+(i+1)from Ab];exact k1,k2⟩
  have hs:CRs σ0 (Z.iced b L.blk c).frz cs ((c.toList.drop L.off).take cs.length):=hcr cs L.off (λi v hi=>by
   obtain⟨v',g1,g2⟩:=q5 i v hi;exact⟨v',by simpa using g1,g2⟩) hc
  have old:∀b' L',(Z.iced b L.blk c) b'=some L'->b'≠b/\Z b'=some L':=by
   intro b' L' h
   by_cases hbb:b'=b
   .subst hbb;simp[Ren.iced]at h
   .refine⟨hbb,?_⟩;simp only[Ren.iced]at h;rw[if_neg hbb]at h;exact h
  refine⟨Z.iced b L.blk c,λj v hj=>?_,⟨?_,?_,?_,?_,?_,?_,?_,r.base,?_,?_⟩,⟨λb' hb'=>by simp only[Ren.iced];rw[if_neg Ab],by rw[hsz];exact Ab,rfl,λb' hb'=>by simp[qyP]at hb',λ_ _=>rfl,zzL _,⟨rfl,rfl⟩,hf,λk a' hk=>?_,λ_ _ h=>h⟩⟩
  .rw[tget]at hj;cases hv:(mkT ts).get j with
   | none=>rw[hv]at hj;simp at hj
   | some v0 =>
    rw[hv]at hj;simp at hj;subst hj;exact⟨(ht j v0 hv).1,VR.iced hz hLs hf hs (ht j v0 hv).2⟩
  .intro b' L' h1;rw[hsz];exact r.dom b' L' (old _ _ h1).2
  .intro b' L' e1 wf af cs' h1 h2;obtain⟨h3,y,h4,h5,h6⟩:=xF b' _ h2 (by simp);cases y with
   | cells k w0 a0 l =>
    simp only[fzB,Blk.cells.injEq]at h5;obtain⟨rfl,rfl,rfl,rfl⟩:=h5;obtain⟨p1,c',ty',fz',p2,p3,p4,p5,p6⟩:=r.cells b' L' _ _ _ l (old _ _ h1).2 h4;refine⟨p1,c',ty',fz',p2,p3,by rw[qau];exact p4,λj v hv=>?_,p6⟩
    rw[qmU]at hv;cases hj:l[j]? with
    | none=>rw[hj]at hv;simp at hv
    | some v0 =>
     rw[hj]at hv;simp at hv;subst hv;obtain⟨v',g1,g2⟩:=p5 j v0 hj;exact⟨v',g1,VR.iced hz hLs hf hs g2⟩
   | dead=>simp[fzB]at h5
   | map es=>simp[fzB]at h5
  .intro b' L' es h1 h2;obtain⟨h3,y,h4,h5,h6⟩:=xF b' _ h2 (by simp);cases y with
   | cells k w0 a0 l=>simp[fzB]at h5
   | dead=>simp[fzB]at h5
   | map es' =>
    simp only[fzB,Blk.map.injEq]at h5;subst h5;obtain⟨p1,o,p2,p3⟩:=r.maps b' L' _ (old _ _ h1).2 h4;exact⟨p1,o,p2,p3.ice (λh=>VR.iced hz hLs hf hs h) (hm es' (by rw[jq]at h4;exact zzM h4))⟩
  .intro b1 L1 e1 af1 cs1 h1 h2 b2 L2 x h3 h4 h5 h6;obtain⟨g1,y,g2,g3,g4⟩:=xF b1 _ h2 (by simp);obtain⟨i1,y2,i2,i3,i4⟩:=xF b2 _ h4 h5;cases y<;>simp only[fzB,Blk.cells.injEq,reduceCtorEq]at g3;obtain⟨rfl,rfl,rfl,rfl⟩:=g3;exact r.excl b1 L1 _ _ _ (old _ _ h1).2 g2 b2 L2 y2 (old _ _ h3).2 i2 i4 h6
  .intro b1 L1 es h1 h2 b2 L2 x h3 h4 h5 h6;obtain⟨g1,y,g2,g3,g4⟩:=xF b1 _ h2 (by simp);obtain⟨i1,y2,i2,i3,i4⟩:=xF b2 _ h4 h5;cases y<;>simp only[fzB,Blk.map.injEq,reduceCtorEq]at g3;subst g3;exact r.exclm b1 L1 _ (old _ _ h1).2 g2 b2 L2 y2 (old _ _ h3).2 i2 i4 h6
  .intro b1 L1 e1 wf1 cs1 h1 h2 b2 L2 e2 wf2 af2 cs2 h3 h4 h6;obtain⟨g1,y,g2,g3,g4⟩:=xF b1 _ h2 (by simp);obtain⟨i1,y2,i2,i3,i4⟩:=xF b2 _ h4 (by simp);cases y<;>simp only[fzB,Blk.cells.injEq,reduceCtorEq]at g3;cases y2<;>simp only[fzB,Blk.cells.injEq,reduceCtorEq]at i3;obtain⟨rfl,rfl,rfl,rfl⟩:=g3;obtain⟨rfl,rfl,rfl,rfl⟩:=i3;rw[qau,qau];exact r.app b1 L1 _ _ _ (old _ _ h1).2 g2 b2 L2 _ _ _ _ (old _ _ h3).2 i2 h6
  .intro b' L' h1 h2;exact r.flr b' L' (old _ _ h1).2 (zzu _)
  .intro k arr hk
   by_cases hkk:k=L.blk
   .subst hkk;simp[Ren.iced,hz]at hk;subst hk;refine⟨⟨ty,fz,q2⟩,λb' L' x h1 h2 h3 h6=>?_⟩
    obtain⟨g1,y,g2,g3,g4⟩:=xF b' _ h2 h3;exact g1 (r.excl b L _ _ _ hZ hgb b' L' y (old _ _ h1).2 g2 g4 h6)
   .simp only[Ren.iced]at hk;rw[if_neg hkk]at hk;refine⟨(r.frz k arr hk).1,λb' L' x h1 h2 h3=>?_⟩
    obtain⟨g1,y,g2,g3,g4⟩:=xF b' _ h2 h3;exact(r.frz k arr hk).2 b' L' y (old _ _ h1).2 g2 g4
  .exact⟨by rw[hsz];exact r.dn.1,λb' L' h=>r.dn.2 b' L' (old _ _ h).2⟩
  .simp only[Ren.iced]at hk;split at hk
   .rename_i hkk;subst hkk;exact .inr (r.flr b L hZ (zzu _))
   .exact .inl hk
theorem Own.pure{f:Nat}{vs:List AV}{v v':AV}{bs:List Blk}(hcl:qt vs=true)(ho:Own P f vs v bs)(hf:Frz (qam H0 (bs.map (shb 0))) (shv 0 v) v'):qc P f vs v' :=
 qc.of_SC hcl (ho H0 _ hf)
end
section
variable {P:Program}{f:Nat}
def qri{c:UInt8}{x:List UInt8}:ltS (c::x) []=false:=rfl
def qrh{c d:UInt8}{x y:List UInt8}:ltS (c::x) (d::y)=if c<d then true else if c=d then ltS x y else false:=by
 rw[qk7,qk7];simp only[Op.bytesLess]
 by_cases h1:c<d
 .simp[h1]
 .by_cases h2:c=d
  .simp[h2]
  .simp[h1,h2]
end
section
variable {P:Program}{h:Hp}
def trP:List (Nat×Blk)->Tr Blk
 | []=>.leaf
 | p::l=>(trP l).set p.1 p.2
def qkK:∀{l:List (Nat×Blk)}{b:Nat}{x:Blk},(trP l).get b=some x->(b,x) ∈ l
 | [],b,x,h=>by simp[trP]at h
 | p::l,b,x,h=>by
  simp only[trP,zz4]at h;split at h
  .exact Ag
  .exact List.mem_cons_of_mem _ (qkK h)
def qfF(h:Hp):List (Nat×Blk)->Hp
 | []=>h
 | p::l=>qfF (h.put p.1 .dead) l
theorem qkh:∀{l:List (Nat×Blk)}{h:Hp},(qfF h l).sz=h.sz
 | [],_=>rfl
 | _::l,h=>(qkh (l:=l)).trans rfl
theorem qkg:∀{l:List (Nat×Blk)}{h:Hp},(qfF h l).fl=h.fl
 | [],_=>rfl
 | _::l,h=>(qkg (l:=l)).trans rfl
def qh5:∀{l:List (Nat×Blk)}{h:Hp}{b:Nat},(qfF h l).tr.get b=if b ∈ l.map Prod.fst then some .dead else h.tr.get b
 | [],_,_=>by simp[qfF]
 | p::l,h,b=>by
  simp only[qfF];rw[qh5]
  by_cases h1:b ∈ l.map Prod.fst
  .rw[if_pos h1,if_pos Ae]
  .rw[if_neg h1];show(h.tr.set p.1 .dead).get b=_;rw[zz4]
   exact Ae
def zY:qfF h []=h:=rfl
def zw{b:Nat}{x:Blk}{l:List (Nat×Blk)}:qfF h ((b,x)::l)=qfF (h.put b .dead) l:=rfl
theorem Rel.sub{Z:Ren}{B:Nat->Prop}{h h':Hp}{w:World}(r:Rel σ0 Z B h w)(hs:h'.sz=h.sz)(hf:h'.fl=h.fl)(hg:∀b x,h'.tr.get b=some x->x≠.dead->h.tr.get b=some x):Rel σ0 Z B h' w :=
 ⟨λb L hb=>by rw[hs];exact r.dom b L hb,by grind[Rel.cells],by grind[Rel.maps],
  Dn,De,
  λb L e wf cs hb hx b' L' e' wf' af' cs' hb' hx'=>r.app b L e wf cs hb Ae b' L' e' wf' af' cs' hb' Ae,λb L hb hf'=>r.flr b L hb (by rw[<- hf];exact Ab),r.base,
  D8,by rw[hs];exact r.dn⟩
def qc.give{f:Nat}{vs vs':List AV}{v:AV}{k:AV->Hp->Prop}(DB:List (Nat×Blk))(hg:∀p ∈ DB,h.tr.get p.1=some p.2/\h.fl<=p.1)(hp:qc P f vs' v)(hv:clo v=true)(hf:Frzs ⟨h.sz,h.fl,trP DB⟩ vs vs')(hk:k v (qfF h DB)):SC P f vs h k:=by
 refine⟨trivial,λZ B w args r ha=>?_⟩
 have hp0:=hp H0 (λv' h'=>v'=v/\h'=H0) ⟨rfl,rfl⟩
 have r0:Rel σ0 Z B ⟨h.sz,h.fl,trP DB⟩ w:=r.sub rfl rfl (λb x hx _=>(hg _ (qkK hx)).1)
 have hcr:=hf.ok r0 ha
 have fnew:∀kk a,vD Z ⟨h.sz,h.fl,trP DB⟩ w kk=some a->Z.frz kk=some a\/((∃ty fz,w.heap[kk]?=some (.cells a ty fz))/\∃b L e af cs,b ∈ DB.map Prod.fst/\Z b=some L/\h.tr.get b=some (.cells e true af cs)/\L.blk=kk/\h.fl<=b):=by
  intro kk a hkk;rcases qew hkk with h1|⟨h1,b,L,e,af,cs,h2,h3,h4⟩
  .exact Ag
  .have hm:=qkK h3
   grind[List.mem_map_of_mem]
 -- the rows given are frozen,their blocks dead
 have r1:Rel σ0 ⟨Z.loc,vD Z ⟨h.sz,h.fl,trP DB⟩ w,Z.n⟩ B (qfF h DB) w:=by
  have le:Z.le ⟨Z.loc,vD Z ⟨h.sz,h.fl,trP DB⟩ w,Z.n⟩:=⟨λ_ _ h=>h,by grind[ki],zzL _⟩
  have xF:∀b x,(qfF h DB).tr.get b=some x->x≠.dead->b ∉ DB.map Prod.fst/\h.tr.get b=some x:=by
   intro b x hx hd;rw[qh5]at hx;split at hx
   .cases hx;exact absurd rfl hd
   .exact Ag
  have rs:Rel σ0 Z B (qfF h DB) w:=by grind[Rel.sub,qkh,qkg]
  refine⟨rs.dom,λb L e wf af cs hb hx=>?_,λb L es hb hx=>?_,rs.excl,rs.exclm,rs.app,rs.flr,rs.base,λkk arr hkk=>?_,rs.dn⟩
  .obtain⟨q1,c,ty,fz,q2,q3,q4,q5,q6⟩:=rs.cells b L e wf af cs hb hx;exact Cs
  .obtain⟨q1,o,q2,q3⟩:=rs.maps b L es hb hx;exact En
  grind[Rel.frz,Rel.excl]
 refine qcL.mono (hp0.2 ⟨λ_=>none,vD Z ⟨h.sz,h.fl,trP DB⟩ w,0⟩ (low w.heap.size) w args
  ⟨Ag,Ag,Ag,Ag,Ag,Ag,Ag,(λ_ h=>h),
   D8,Ag⟩ Gc) ?_
 rintro e w' ⟨v0,v',h',Z',rfl,⟨rfl,rfl⟩,g2,g3,g4⟩;have f1:∀k a,vD Z ⟨h.sz,h.fl,trP DB⟩ w k=some a->Z'.frz k=some a:=g4.frz;have f2:∀k a,Z'.frz k=some a->vD Z ⟨h.sz,h.fl,trP DB⟩ w k=some a\/w.heap.size<=k:=λk a hk=>(g4.fnew k a hk).imp id Nat.not_lt.1
 have f3:∀k a,Z'.frz k=some a->∃ty fz,w'.heap[k]?=some (.cells a ty fz):=λk a hk=>(g3.frz k a hk).1
 have r2:=r1.frz' g4.pres g4.wle f1 f2 f3;refine⟨v0,v',qfF h DB,⟨Z.loc,Z'.frz,Z.n⟩,rfl,hk,CR.vr (Z:=⟨Z.loc,Z'.frz,Z.n⟩) (g2.cr hv),r2,?_⟩;refine⟨λ_ _=>rfl,by rw[qkh];exact Ab,qkg,λb hb _=>?_,Cn,g4.wle,g4.io,by grind[ki],λk a hk=>?_,zzL _⟩
 .rw[qh5,if_neg]
  grind
 .rcases f2 k a hk with h1|h1
  .grind[Rel.flr]
  .exact .inr (qaB r.base h1)
end
section
variable {P:Program}{env:Tr IFn}{ho:qkQ}
inductive OkT (P:Program):Nat->Nat->Tr IFn->Prop where
 | leaf (a b:Nat):OkT P a b .leaf
 | no (a b:Nat) {l r:Tr IFn}:OkT P (2*a) (a+b) l->OkT P (2*a) (2*a+b) r->OkT P a b (.node none l r)
 | fn (a b:Nat) {i:IFn}{l r:Tr IFn}:qdW P b i=true->OkT P (2*a) (a+b) l->OkT P (2*a) (2*a+b) r->OkT P a b (.node (some i) l r)
theorem OkT.get{a b:Nat}{t:Tr IFn}(h:OkT P a b t):∀n i,t.get n=some i->qdW P (a*n+b) i=true:=by
 induction h with
 | leaf=>intro n i h;exact G3
 | no a b hl hr ihl ihr =>
  intro n i h;cases n with
  | zero=>rw[Tr.get_node]at h;cases h
  | succ m =>
   rcases Nat.mod_two_eq_zero_or_one m with h0|h0
   .obtain⟨j,rfl⟩:∃j,m=2*j:=⟨m / 2,Ab⟩
    rw[Tr.get_node]at h;simp only[h0,if_true,Nat.mul_div_cancel_left j (Nat.zero_lt_two)]at h;have:=ihl j i h;rwa [show 2*a*j+(a+b)=a*(2*j+1)+b from by rw[Nat.mul_add,zzU,<- Nat.mul_assoc,Nat.mul_comm a 2];exact Ab]at this
   .obtain⟨j,rfl⟩:∃j,m=2*j+1:=⟨m / 2,Ab⟩
    rw[Tr.get_node]at h;simp only[h0,Nat.one_ne_zero,if_false,show(2*j+1) / 2=j from Ab]at h
    have:=ihr j i h;rwa [show 2*a*j+(2*a+b)=a*(2*j+1+1)+b from by rw[Nat.mul_add,Nat.mul_add,zzU,<- Nat.mul_assoc,Nat.mul_comm a 2];exact Ab]at this
 | fn a b hc hl hr ihl ihr =>
  intro n i h;cases n with
  | zero=>rw[Tr.get_node]at h;cases h;simpa using hc
  | succ m =>
   rcases Nat.mod_two_eq_zero_or_one m with h0|h0
   .obtain⟨j,rfl⟩:∃j,m=2*j:=⟨m / 2,Ab⟩
    rw[Tr.get_node]at h;simp only[h0,if_true,Nat.mul_div_cancel_left j (Nat.zero_lt_two)]at h;have:=ihl j i h;rwa [show 2*a*j+(a+b)=a*(2*j+1)+b from by rw[Nat.mul_add,zzU,<- Nat.mul_assoc,Nat.mul_comm a 2];exact Ab]at this
   .obtain⟨j,rfl⟩:∃j,m=2*j+1:=⟨m / 2,Ab⟩
    rw[Tr.get_node]at h;simp only[h0,Nat.one_ne_zero,if_false,show(2*j+1) / 2=j from Ab]at h
    have:=ihr j i h;rwa [show 2*a*j+(2*a+b)=a*(2*j+1+1)+b from by rw[Nat.mul_add,Nat.mul_add,zzU,<- Nat.mul_assoc,Nat.mul_comm a 2];exact Ab]at this
def OkT.envOk{t:Tr IFn}(h:OkT P 1 0 t):qlr P t:=λf i hg=>by
 have:=h.get f i hg;rwa [Nat.one_mul]at this
def Kept.same{Z Z':Ren}{h h':Hp}{w w':World}(k:Kept Z (low w.heap.size) h w Z' h' w')(may:MemPlace->Prop):w.keptBut w' may:=by
 refine⟨k.io.1,k.io.2,λi hi=>?_⟩
 have e:=k.pres i hi;rw[e];cases w.heap[i]? with
 | none=>rfl
 | some o=>cases o<;>simp
def qvc(w:World):Nat->Option (Array Value):=λk=>match w.heap[k]? with|some (.cells arr _ _)=>some arr|_=>none
def qmY{w:World}{k:Nat}{arr:Array Value}:qvc w k=some arr↔∃ty fz,w.heap[k]?=some (.cells arr ty fz):=by
 show(match w.heap[k]? with|some (.cells arr _ _)=>some arr|_=>none)=some arr↔_
 cases w.heap[k]? with
 | none=>simp
 | some o=>cases o<;>simp
def ice(w:World) [t:TabOk w]:Ren:=⟨λ_=>none,⟨qvc w,λk a h=>qmY.2 (t.ok k a h)⟩,0⟩
def qBJ{w:World} [TabOk w]{k:Nat}{arr:Array Value}:(ice w).frz k=some arr↔∃ty fz,w.heap[k]?=some (.cells arr ty fz):=qmY
def Rel.ice(w:World) [TabOk w]:Rel σ0 (ice w) (low w.heap.size) H0 w :=
 ⟨(λ_ _ hb=>by cases hb),(λ_ _ _ _ _ _ hb=>by cases hb),(λ_ _ _ hb=>by cases hb),(λ_ _ _ _ _ hb=>by cases hb),(λ_ _ _ hb=>by cases hb),(λ_ _ _ _ _ hb=>by cases hb),(λ_ _ hb=>by cases hb),(λ_ h=>h),
  (λk arr hk=>⟨qBJ.1 hk,λ_ _ _ hb=>by cases hb⟩),⟨zzL _,λ_ _ hb=>by cases hb⟩⟩
def qc.law{f:Nat}{vs:List AV}{args:Array Value}(hp:qc P f vs (.b true))(hc:qoh P f)(w:World) [TabOk w](ha:VRs σ0 (ice w) vs args.toList):Calls P f args w λe w'=>e = .returned (.bool true)/\∀may,w.keptBut w' may:=by
 have h:=(hp H0 (λv _=>v = .b true) rfl).2 (ice w) (low w.heap.size) w args (Rel.ice w) ha
 rcases h with⟨_,h⟩|⟨v,w',h,_⟩
 .refine h.mono λe w' hh=>?_
  obtain⟨v,v',h',Z',rfl,rfl,hv,_,hk⟩:=hh;cases hv;exact⟨rfl,λmay=>hk.same may⟩
 .obtain⟨fn,h1,h2,h3⟩:=hc;rw[qd7 h1 h2 h3]at h;cases h
def qdi{f:Nat}{i:IFn}(hc:qdW P f i=true):qoh P f:=by
 unfold qdW at hc;split at hc<;>try (cases hc;done)
 rename_i fn hfn;simp only[zzB,bne_iff_ne]at hc;obtain⟨⟨hname,hbody⟩,hres⟩:=hc;split at hbody<;>try (cases hbody;done)
 rename_i c hcb;exact⟨fn,hfn,hname,by rw[hcb];rfl⟩
end
section
section
variable {H:Type}{enc:TypeId×Value->H}{P:Program}{w:World}{α β:Type}{t e:TypeId}
def CRs.app{φ:Nat->Option (Array Value)}:∀{zy bs:List AV}{us vs:List Value},CRs σ0 φ zy us->CRs σ0 φ bs vs->CRs σ0 φ (zy++bs) (us++vs)
 | _,_,_,_,.nil,h=>h
 | _,_,_,_,.cons v l v' l' h hs,h2=>.cons _ _ _ _ h (CRs.app hs h2)
def qeV(enc:TypeId×Value->H)(P:Program)(w:World)(t:TypeId)(I:α->Prop)(E:α->List AV):Prop :=
 ∀(fuel:Nat) (cs:List Value) x,DataW.trod enc P w 0 (λ_=>true) true fuel t cs=some x->∃a,I a/\CRs σ0 (qvc w) (E a) cs
def qIx{k:IntKind}(ht:P.underlying t=some (.int k)):qeV enc P w t (λn:Int=>(Lit.int k n).wf=true) (λn=>[.i k n]):=by
 intro fuel cs x h;obtain⟨n,rfl,_,hw⟩:=DataW.trod_int ht h;exact⟨n,hw,.cons _ _ _ _ (.i _ _) .nil⟩
def qG3(ht:P.underlying t=some .bool):qeV enc P w t (λ_:Bool=>True) (λb=>[.b b]):=by
 intro fuel cs x h;obtain⟨b,rfl,_⟩:=DataW.trod_bool ht h;exact⟨b,trivial,.cons _ _ _ _ (.b _) .nil⟩
def qIy(ht:P.underlying t=some .string):qeV enc P w t (λs:List UInt8=>s.length<=maxLen) (λs=>[.s s]):=by
 intro fuel cs x h;obtain⟨s,rfl,_,hw⟩:=DataW.trod_string ht h;obtain⟨⟨l⟩⟩:=s;exact⟨l,hw,.cons _ _ _ _ (.s _) .nil⟩
def qA3{a:Addr}{v:Value}(h:w.cell? a=some v):a.spot=none/\∃arr ty fz,w.heap[a.block]?=some (.cells arr ty fz)/\arr[a.off]?=some v:=by
 unfold World.cell? at h;split at h
 .rename_i c ty fz hc;split at h
  .cases h
  .rename_i hs;refine⟨by simpa using hs,c,ty,fz,hc,h⟩
 .cases h
def qD6{I:α->Prop}{E:α->List AV}{m:Nat}(ht:P.underlying t=some (.slice e))(he:qeV enc P w e I E)(hE:∀a,(E a).length=m)(hc:P.cellsOf e=m)(hm:0<m) :
  qeV enc P w t (λl:List α=>l.length<=maxLen/\∀a ∈ l,I a) (λl=>[.fz l.length (l.flatMap E)]):=by
 intro fuel cs x h;rcases DataW.trod_slice ht h with⟨rfl,_⟩|⟨a,len,cap,elems,rest,n,_,rfl,_,_,hl,hmx,hlen,hel,hsp,_⟩
 .exact⟨[],⟨zzu _,λ_ h=>by cases h⟩,.cons _ _ _ _ (.fz0 none) .nil⟩
 obtain⟨hrl,hr⟩:=hsp rfl;rcases Nat.eq_zero_or_pos cap with h0|hpos
 .subst h0;obtain rfl:len=0:=Ab
  exact⟨[],⟨zzu _,λ_ h=>by cases h⟩,.cons _ _ _ _ (.fz0 (some a)) .nil⟩
 have first:∃v,w.cell? a=some v:=by
  have:∃cs',w.cells? 0 (a.add (0*P.cellsOf e)) (P.cellsOf e)=some cs':=by
   rcases Nat.eq_zero_or_pos len with h1|h1
   .have:=hr 0 Ab;have hlt:0<rest.length:=Ab
    rw[zzE hlt,Option.bind_eq_some_iff]at this;obtain⟨c,hc',_⟩:=this;subst h1;exact⟨c,hc'⟩
   .have:=hel 0 h1;have hlt:0<elems.length:=Ab
    rw[zzE hlt,Option.bind_eq_some_iff]at this;obtain⟨c,hc',_⟩:=this;exact⟨c,hc'⟩
  obtain⟨cs',h2⟩:=this;obtain⟨_,q1,q2⟩:=World.cells?_some h2;have:=q2 0 Ab;rw[zzE Ab]at this;simp only[Nat.zero_mul,Addr.add,if_true]at this;exact⟨_,this⟩
 obtain⟨v0,hv0⟩:=first
 obtain⟨hs,arr,ty,fz,hb,_⟩:=qA3 hv0
 have key:∀k,k<=len->∃l:List α,l.length=k/\(∀b ∈ l,I b)/\CRs σ0 (qvc w) (l.flatMap E) ((arr.toList.drop a.off).take (k*m)):=by
  intro k
  induction k with
  | zero=>intro _;exact⟨[],rfl,(λ_ h=>by cases h),by simpa using .nil⟩
  | succ k ih =>
   intro hk;obtain⟨l,h1,h2,h3⟩:=ih Ab;have hk':=hel k Ab;have hlt:k<elems.length:=Ab
   rw[zzE hlt,Option.bind_eq_some_iff]at hk';obtain⟨c,hcs,htr⟩:=hk';obtain⟨_,q1,q2⟩:=World.cells?_some hcs;obtain⟨b,hb1,hb2⟩:=he _ _ _ htr
   have e1:c=((arr.toList.drop a.off).drop (k*m)).take m:=by
    refine List.ext_getElem? λj=>?_
    by_cases hj:j<m
    .have:=q2 j Ab;rw[<- this]
     have e2:w.cell? ((a.add (k*P.cellsOf e)).add j)=arr[a.off+(k*m+j)]?:=by
      have ha:(a.add (k*P.cellsOf e)).add j=⟨a.block,a.off+(k*m+j),none⟩:=by
       unfold Addr.add;rw[hc];split
       .split
        .rename_i h4 h5;rw[h4,h5];cases a;exact Ae
        .rename_i h4 h5;rw[h4];simp[hs]
       .split
        .rename_i h4 h5;rw[h5];cases a;exact Ae
        .simp;exact Ab
      rw[ha];simp[World.cell?,hb]
     rw[e2,zzq hj,zzp,zzp];simp[Array.getElem?_toList]
    .rw[List.getElem?_eq_none Ab,List.getElem?_eq_none];simp;exact Ab
   refine⟨l++[b],by simp[h1],λx hx=>?_,?_⟩
   .rcases zzd.1 hx with hx|hx
    .exact h2 x hx
    .obtain rfl:=zz1.1 hx;exact hb1
   .rw[List.flatMap_append,Nat.succ_mul,List.take_add,<- e1];simpa using h3.app hb2
 obtain⟨l,h1,h2,h3⟩:=key len (zzL _);refine⟨l,⟨Ab,h2⟩,.cons _ _ _ _ ?_ .nil⟩
 have hfl:(l.flatMap E).length=len*m:=by
  rw[<- h1];clear h1 h2 h3
  induction l with
  | nil=>simp
  | cons x l ih=>simp[hE,ih,Nat.succ_mul,Nat.add_comm]
 obtain⟨blk,off,spot⟩:=a;cases hs;rw[h1];exact .fz len off cap _ blk arr hl (qmY.2 ⟨ty,fz,hb⟩) (by rw[hfl];exact h3)
def qo8(enc:TypeId×Value->H)(P:Program)(w:World)(fs:List Field)(o n:Nat)(I:α->Prop)(E:α->List AV):Prop :=
 (∀a,(E a).length=n)/\∀(fuel:Nat) (cs:List Value),(∀f ∈ fs,∃x,DataW.trod enc P w 0 (λ_=>true) true fuel f.type ((cs.drop f.offset).take (P.cellsOf f.type))=some x)->∃a,I a/\CRs σ0 (qvc w) (E a) ((cs.drop o).take n)
def qG2{o:Nat}:qo8 enc P w [] o 0 (λ_:Unit=>True) (λ_=>[]):=⟨λ_=>rfl,λ_ cs _=>⟨(),trivial,by simpa using .nil⟩⟩
def qD4{f:Field}{fs:List Field}{o m n:Nat}{I:α->Prop}{E:α->List AV}{J:β->Prop}{F:β->List AV}(h:qeV enc P w f.type I E)(hE:∀a,(E a).length=m)(ho:f.offset=o)(hc:P.cellsOf f.type=m)
  (hr:qo8 enc P w fs (o+m) n J F):qo8 enc P w (f::fs) o (m+n) (λp:α×β=>I p.1/\J p.2) (λp=>E p.1++F p.2):=by
 refine⟨λp=>by simp[hE,hr.1],λfuel cs hf=>?_⟩
 obtain⟨x,hx⟩:=hf f (List.mem_cons_self ..);obtain⟨a,ha,h1⟩:=h _ _ _ hx;obtain⟨b,hb,h2⟩:=hr.2 fuel cs λg hg=>hf g (List.mem_cons_of_mem _ hg)
 refine⟨(a,b),⟨ha,hb⟩,?_⟩;rw[ho,hc]at h1;rw[List.take_add,List.drop_drop];exact h1.app h2
def qCu{fs:Array Field}{n:Nat}{I:α->Prop}{E:α->List AV}(ht:P.underlying t=some (.struct fs))(hc:P.cellsOf t=n)(h:qo8 enc P w fs.toList 0 n I E):qeV enc P w t I E:=by
 intro fuel cs x hx;obtain⟨xs,m,rfl,_,hl,hxs,hf⟩:=DataW.trod_struct ht hx
 obtain⟨a,ha,h1⟩:=h.2 m cs λf hfm=>by
  obtain⟨i,hi⟩:=List.getElem?_of_mem hfm;have hi':fs[i]?=some f:=H4
  have:=hf i f hi'
  have hlt:i<xs.length:=by
   rw[hxs];exact(Array.getElem?_eq_some_iff.1 hi').1
  rw[zzE hlt]at this;exact⟨_,this⟩
 refine⟨a,ha,?_⟩;rwa [List.drop_zero,zzt Ab]at h1
def qeV.map{I:α->Prop}{E:α->List AV}{J:β->Prop}{F:β->List AV}(h:qeV enc P w t I E)(g:α->β)(hg:∀a,I a->J (g a)/\F (g a)=E a):qeV enc P w t J F:=by
 intro fuel cs x hx;obtain⟨a,ha,h1⟩:=h _ _ _ hx;exact⟨g a,(hg a ha).1,by rw[(hg a ha).2];exact h1⟩
def qeV.agg [TabOk w]{I:α->Prop}{E:α->List AV}(h:qeV enc P w t I E){v:Value}{d:DataW H}{p:List MemPlace}(ha:∃cs,v = .agg cs)(hd:DataW.Trod enc P w 0 (λ_=>true) true t v d p):∃a,I a/\VR σ0 (ice w) (.agg (E a)) v:=by
 obtain⟨cs,rfl⟩:=ha;obtain⟨fuel,hd⟩:=hd;obtain⟨a,h1,h2⟩:=h _ _ _ hd;exact⟨a,h1,.agg _ _ h2.vr⟩
def qpW{w':World}(hk:∀may,w.keptBut w' may){p:MemPlace}(hp:p.block<w.heap.size):w.sameAt w' p:=by
 have h:=(hk λ_=>False).2.2 p.block hp
 have h0:w.heap[p.block]?=some w.heap[p.block]:=Array.getElem?_eq_getElem hp;cases p with
 | cell b off =>
  show w'.cell? ⟨b,off,none⟩=w.cell? ⟨b,off,none⟩;simp only[MemPlace.block]at h h0 hp;unfold World.cell?;split at h
  .rename_i c1 t1 f1 c2 t2 f2 e1 e2;dsimp only;rw[e1,e2];simpa using h.2.2.2 off (λhh=>hh)
  .rename_i e1 e2;dsimp only;rw[e1,e2]
  .dsimp only;exact Ii
 | map b =>
  show w'.heap[b]?=w.heap[b]?;simp only[MemPlace.block]at h h0 hp;split at h
  .rename_i c1 t1 f1 c2 t2 f2 e1 e2
   have:c2=c1:=by
    apply Array.ext_getElem?;intro j;exact h.2.2.2 j (λhh=>hh)
   rw[e1,e2,h.1,h.2.1,this]
  .rename_i e1 e2;rcases h with hh|⟨h1,h2⟩
   .exact hh.elim
   .rw[e1,e2,h1,h2]
  .exact h
def Trod.stay{w':World}{T:TypeId->Prop}(K:Kids P T)(hz:∀t e,T t->P.underlying t=some (.slice e)->0<P.cellsOf e){ts:List TypeId}{vs:List Value}{ds:List (DataW H)}{ps:List MemPlace}(hT:∀t ∈ ts,T t)
  (h:DataW.TrodAll enc P w 0 (λ_=>true) true ts vs ds ps) (hk:∀may,w.keptBut w' may):DataW.TrodAll enc P w' 0 (λb=>decide (b<w.heap.size)) true ts vs ds ps:=by
 have hlt:=DataW.TrodAll.lt h;have h1:DataW.TrodAll enc P w 0 (λb=>decide (b<w.heap.size)) true ts vs ds ps:=h.respare K hz hT λp hp=>decide_eq_true (hlt p hp)
 clear h
 induction ts generalizing vs ds ps with
 | nil =>
  cases vs<;>cases ds<;>first|exact h1|exact h1.elim
 | cons t ts ih =>
  cases vs with
  | nil=>exact h1.elim
  | cons v vs =>
   cases ds with
   | nil=>exact h1.elim
   | cons d ds =>
    obtain⟨p,q,⟨fuel,h2⟩,h3,e⟩:=h1;subst e;refine⟨p,q,⟨fuel,DataW.trod_carry _ _ _ _ h2 λx hx=>qpW hk (hlt x (List.mem_append_left _ hx))⟩,?_,rfl⟩
    exact ih (λt ht=>hT t (List.mem_cons_of_mem _ ht)) (λx hx=>hlt x (List.mem_append_right _ hx)) h3
end
def qHh{k:IntKind}{l:List Int}:l.flatMap (λn=>[AV.i k n])=l.map (.i k):=by
 induction l with
 | nil=>rfl
 | cons x l ih=>simp[ih]
def qCA{P:Program}{H:Type}{enc:TypeId×Value->H}{f:Func}{s:ChangeSpec}{apart fresh handsOn:Bool}{W W':World}{args:Array Value}{v:Value}{ds gs:List (DataW H)}{before pv:List MemPlace}
  (hW:DataW.Whole enc P f.params.toList s.vars apart W args.toList ds gs before) (hs:(s.fn H (ds++gs)).args=ds)
  {T:TypeId->Prop}(K:Kids P T) (hz:∀t e,T t->P.underlying t=some (.slice e)->0<P.cellsOf e) (hT:∀t ∈ f.params.toList,T t)
  (hres:∀(b:Nat) (sp:Nat->Bool) (hd:Bool),DataW.TrodAll enc P W' b sp hd f.resultTypes.toList (v.resultList f.resultTypes.size) (s.fn H (ds++gs)).results [])
  (hvars:∀sp:Nat->Bool,DataW.TrodVars enc P W' sp s.vars (s.fn H (ds++gs)).vars pv)
  (hk:∀may,W.keptBut W' may):s.post enc P f apart fresh handsOn false W args v W':=by
 have hW':=hW;obtain⟨p,q,hA,_,_⟩:=hW';exact⟨ds,gs,before,[],p,pv,hW,hres _ _ _,by rw[hs];exact Trod.stay K hz hT hA hk,hvars _,hk _,λh=>by cases h⟩
end
section
variable {P:Program}{env:Tr IFn}{ho:qkQ}
def kOf:IntKind->Nat
 | .i8=>0 | .i16=>1 | .i32=>2 | .i64=>3 | .u8=>4 | .u16=>5 | .u32=>6 | .u64=>7
def qBU{a b:IntKind}(h:Nat.beq (kOf a) (kOf b)=true):a=b:=by
 cases a<;>cases b<;>first|rfl|cases h
def qJ0:Int->Int->Bool
 | .ofNat a,.ofNat b=>Nat.beq a b
 | .negSucc a,.negSucc b=>Nat.beq a b
 | _,_=>false
def qBM:∀{a b:Int},qJ0 a b=true->a=b
 | .ofNat a,.ofNat b,h=>by rw[Nat.eq_of_beq_eq_true h]
 | .negSucc a,.negSucc b,h=>by rw[Nat.eq_of_beq_eq_true h]
 | .ofNat _,.negSucc _,h=>by cases h
 | .negSucc _,.ofNat _,h=>by cases h
mutual
def qcQ(h:Hp):AV->AV->Bool
 | .b x,v=>match v with | .b y=>(x&&y)||(!x && !y)|_=>false
 | .i k n,v=>match v with | .i k' m=>Nat.beq (kOf k) (kOf k')&&qJ0 n m|_=>false
 | .s x,v=>match v with | .s y=>eqS x y|_=>false
 | .nils,v=>match v with | .nils=>true|_=>false
 | .nilp,v=>match v with | .nilp=>true|_=>false
 | .nilf,v=>match v with | .nilf=>true|_=>false
 | .nili,v=>match v with | .nili=>true|_=>false
 | .nilm,v=>match v with | .nilm=>true|_=>false
 | .agg cs',v=>match v with | .agg cs=>qly h cs' cs|_=>false
 | .tup cs',v=>match v with | .tup cs=>qly h cs' cs|_=>false
 | .fz n cs',v=>match v with
  | .nils=>Nat.beq n 0&&cs'.isEmpty
  | .sl b o m c _=>Nat.beq n m&&Nat.ble m c && !(Nat.beq c 0)&&(match h.tr.get b with|some (.cells _ true _ cs)=>Nat.ble (o+cs'.length) cs.length&&qly h cs' ((cs.drop o).take cs'.length)|_=>false)
  | .own b m=>Nat.beq n m && !(Nat.beq m 0)&&(match h.tr.get b with|some (.cells _ true _ ys)=>qly h cs' ys|_=>false)
  | _=>false
 | _,_=>false
def qly(h:Hp):List AV->List AV->Bool
 | [],vs=>vs.isEmpty
 | v'::vs',vs=>match vs with|v::vs=>qcQ h v' v&&qly h vs' vs | []=>false
end
def qBh{x y:List UInt8}(h:eqS x y=true):x=y:=by
 rw[qcP]at h;exact Gw
mutual
def qtd{h:Hp}:∀(v' v:AV),qcQ h v' v=true->Frz h v v'
 | .b x,v,hb=>by
  unfold qcQ at hb;split at hb<;>first|(cases hb;done)|skip
  rename_i y;have:y=x:=by cases x<;>cases y<;>first|rfl|cases hb
  subst this;exact .b _
 | .i k n,v,hb=>by
  unfold qcQ at hb;split at hb<;>first|(cases hb;done)|skip
  simp only[zzB]at hb;obtain rfl:=qBU hb.1;obtain rfl:=qBM hb.2;exact .i _ _
 | .s x,v,hb=>by
  unfold qcQ at hb;split at hb<;>first|(cases hb;done)|skip
  obtain rfl:=qBh hb;exact .s _
 | .nils,v,hb=>by unfold qcQ at hb;split at hb<;>first|(cases hb;done)|exact .nils
 | .nilp,v,hb=>by unfold qcQ at hb;split at hb<;>first|(cases hb;done)|exact .nilp
 | .nilf,v,hb=>by unfold qcQ at hb;split at hb<;>first|(cases hb;done)|exact .nilf
 | .nili,v,hb=>by unfold qcQ at hb;split at hb<;>first|(cases hb;done)|exact .nili
 | .nilm,v,hb=>by unfold qcQ at hb;split at hb<;>first|(cases hb;done)|exact .nilm
 | .agg cs',v,hb=>by
  unfold qcQ at hb;split at hb<;>first|(cases hb;done)|skip
  exact .agg _ _ (qhC cs' _ hb)
 | .tup cs',v,hb=>by
  unfold qcQ at hb;split at hb<;>first|(cases hb;done)|skip
  exact .tup _ _ (qhC cs' _ hb)
 | .fz n cs',v,hb=>by
  unfold qcQ at hb;split at hb<;>first|(cases hb;done)|skip
  .simp only[zzB]at hb;obtain rfl:=Nat.eq_of_beq_eq_true hb.1;have:cs'=[]:=by simpa using hb.2
   rw[this];exact .nilz
  .simp only[zzB]at hb;obtain⟨⟨⟨h1,h2⟩,h3⟩,h4⟩:=hb;obtain rfl:=Nat.eq_of_beq_eq_true h1;split at h4<;>first|(cases h4;done)|skip
   rename_i hg;simp only[zzB]at h4;refine .sl _ _ _ _ _ _ _ _ cs'.length _ hg (Nat.le_of_ble_eq_true h2) (Nat.le_of_ble_eq_true h4.1) (λh0=>?_) (qhC cs' _ h4.2)
   subst h0;cases h3
  .simp only[zzB]at hb;obtain⟨⟨h1,h2⟩,h4⟩:=hb;obtain rfl:=Nat.eq_of_beq_eq_true h1;split at h4<;>first|(cases h4;done)|skip
   rename_i hg;refine .own _ _ _ _ _ _ hg (λh0=>?_) (qhC cs' _ h4)
   subst h0;cases h2
 | .undef,v,hb=>Ba
 | .ptr _ _,v,hb=>Ba
 | .sl _ _ _ _ _,v,hb=>Ba
 | .fn _ _ _,v,hb=>Ba
 | .ifc _ _,v,hb=>Ba
 | .map _,v,hb=>Ba
 | .sym _,v,hb=>Ba
 | .pf _ _,v,hb=>Ba
 | .e0,v,hb=>Ba
 | .own _ _,v,hb=>Ba
 | .nz,v,hb=>Ba
 | .yl _,v,hb=>Ba
 | .lp _,v,hb=>Ba
def qhC{h:Hp}:∀(vs' vs:List AV),qly h vs' vs=true->Frzs h vs vs'
 | [],vs,hb=>by
  unfold qly at hb;have:vs=[]:=by simpa using hb
  rw[this];exact .nil
 | v'::vs',vs,hb=>by
  unfold qly at hb;split at hb<;>first|(cases hb;done)|skip
  simp only[zzB]at hb;exact .cons _ _ _ _ (qtd v' _ hb.1) (qhC vs' _ hb.2)
end
def tt(b:Bool):Prop:=Bool.rec (motive:=λ_=>Prop) False True b
def qKS{b:Bool}(h:tt b):b=true:=by cases b with|true=>rfl|false=>exact h.elim
def qc.runF(he:qlr P env)(hh:qmx P ho)(m:Nat){f:Nat}{vs:List AV}{v:AV}(hcl:qt vs=true)(hk:qiM env ho (fv env ho m) f vs H0 (λv' h'=>tt (qcQ h' v v'))=True):qc P f vs v :=
 qc.of_SC hcl ((SC.run he hh m (of_eq_true hk)).mono λv' h' hv=>qtd _ _ (qKS hv))
end
section
variable {P:Program}
def okB(P:Program):Tr IFn->Nat->Nat->Bool:=λt=>Tr.rec (motive:=λ_=>Nat->Nat->Bool) (λ_ _=>true) (λv _ _ il ir a b=>(match v with|none=>true|some i=>qdW P b i)&&(il (2*a) (a+b)&&ir (2*a) (2*a+b))) t
def qnl:∀(t:Tr IFn) (a b:Nat),okB P t a b=true->OkT P a b t
 | .leaf,a,b,_=>.leaf a b
 | .node none l r,a,b,h=>by
  have h':(true&&(okB P l (2*a) (a+b)&&okB P r (2*a) (2*a+b)))=true:=h;simp only[zzB]at h';exact .no a b (qnl l _ _ h'.2.1) (qnl r _ _ h'.2.2)
 | .node (some i) l r,a,b,h=>by
  have h':(qdW P b i&&(okB P l (2*a) (a+b)&&okB P r (2*a) (2*a+b)))=true:=h;simp only[zzB]at h';exact .fn a b h'.1 (qnl l _ _ h'.2.1) (qnl r _ _ h'.2.2)
def qLn{t:Tr IFn}(h:okB P t 1 0=true):qlr P t:=(qnl t 1 0 h).envOk
def Tr.o(l r:Tr IFn):Tr IFn:=.node none l r
def Tr.f(i:IFn):Tr IFn:=.node (some i) .leaf .leaf
mutual
def qev:AV->Bool
 | .map _=>false
 | .fz _ _=>false
 | .pf _ _=>false
 | .sym _=>false
 | .fn _ a c=>vm a&&vm c
 | .ifc _ v=>qev v
 | .agg cs=>vm cs
 | .tup cs=>vm cs
 | .ptr _ _=>true | .sl _ _ _ _ _=>true | .own _ _=>true
 | .undef=>true | .b _=>true | .i _ _=>true | .s _=>true | .nilp=>true | .nils=>true | .nilf=>true | .nili=>true | .nilm=>true | .e0=>true | .nz=>true | .yl _=>true | .lp _=>true
def vm:List AV->Bool
 | []=>true
 | v::vs=>qev v&&vm vs
end
mutual
def VR.thaw{Z:Ren}{φ:Fz}:∀{a:AV}{v:Value},VR σ0 Z a v->qev a=true->VR σ0 ⟨Z.loc,φ,Z.n⟩ a v
 | _,_,.undef v,_=>.undef v
 | _,_,.b x,_=>.b x
 | _,_,.i k n,_=>.i k n
 | _,_,.s x,_=>.s x
 | _,_,.nilp,_=>.nilp
 | _,_,.ptr b o L h,_=>.ptr b o L h
 | _,_,.nils,_=>.nils
 | _,_,.sl b o len cap c loose L h hc,_=>.sl b o len cap c loose L h hc
 | _,_,.slz b o x l L h,_=>.slz b o x l L h
 | _,_,.nilf,_=>.nilf
 | _,_,.fn f first cap first' cap' h1 h2,hc=>by
  simp only[qev,zzB]at hc;exact .fn _ _ _ _ _ (h1.thaw hc.1) (h2.thaw hc.2)
 | _,_,.nili,_=>.nili
 | _,_,.ifc t v v' h,hc=>by simp only[qev]at hc;exact .ifc _ _ _ (h.thaw hc)
 | _,_,.agg cs cs' h,hc=>by simp only[qev]at hc;exact .agg _ _ (h.thaw hc)
 | _,_,.tup cs cs' h,hc=>by simp only[qev]at hc;exact .tup _ _ (h.thaw hc)
 | _,_,.nilm,_=>.nilm
 | _,_,.map b L h h0,hc=>Gt
 | _,_,.sym j,hc=>Gt
 | _,_,.fz n off c cs k arr hn h hs,hc=>Gt
 | _,_,.fz0 a,hc=>Gt
 | _,_,.pf off base cs k arr h hs,hc=>Gt
 | _,_,.e0 a,_=>.e0 a
 | _,_,.nz a c,_=>.nz a c
 | _,_,.own0 b a hb,_=>.own0 b a hb
 | _,_,.own b n c L h hn hc,_=>.own b n c L h hn hc
 | _,_,.yl b L h,_=>.yl b L h
def VRs.thaw{Z:Ren}{φ:Fz}:∀{a:List AV}{v:List Value},VRs σ0 Z a v->vm a=true->VRs σ0 ⟨Z.loc,φ,Z.n⟩ a v
 | _,_,.nil,_=>.nil
 | _,_,.cons v vs v' vs' h hs,hc=>by
  simp only[vm,zzB]at hc;exact .cons _ _ _ _ (h.thaw hc.1) (hs.thaw hc.2)
end
def qmR:∀{cs:List AV}{j:Nat}{v:AV},vm cs=true->cs[j]?=some v->qev v=true
 | [],_,_,_,h=>Ag
 | c::cs,0,v,hf,h=>by
  simp only[vm,zzB]at hf
  exact Ae
 | c::cs,j+1,v,hf,h=>by
  simp only[vm,zzB]at hf;exact qmR hf.2 Gw
def qqM:Blk->Bool
 | .cells _ _ _ cs=>vm cs
 | _=>false
def Rel.thaw{Z:Ren}{φ:Fz}{B:Nat->Prop}{h:Hp}{w:World}(r:Rel σ0 Z B h w)(hφ:∀k a,φ k=some a->Z.frz k=some a)(hh:∀b x,h.tr.get b=some x->qqM x=true):Rel σ0 ⟨Z.loc,φ,Z.n⟩ B h w:=by
 refine⟨r.dom,λb L e wf af cs hb hg=>?_,λb L es hb hg=>?_,r.excl,r.exclm,r.app,r.flr,r.base,D8,r.dn⟩
 .obtain⟨g1,c,ty,fz,g2,g3,g4,g5,g6⟩:=r.cells b L e wf af cs hb hg;exact⟨g1,c,ty,fz,g2,g3,g4,λj v hv=>let ⟨v',g7,g8⟩:=g5 j v hv;⟨v',g7,g8.thaw (qmR (hh b _ hg) hv)⟩,g6⟩
 .have:=hh b _ hg;cases this
def qjE.of_SC{f:Nat}{vs':List AV}{v:AV}{bs:List Blk}(hv:qev v=true)(hbs:bs.all qqM=true)(hs:SC P f vs' H0 (qwh v bs)):qjE P f vs' v bs:=by
 intro h vs k hf hk;refine⟨hs.1,λZ B w args r ha=>?_⟩
 have hcr:=hf.ok r ha;refine qcL.mono (hs.2 ⟨λ_=>none,vD Z h w,0⟩ (low w.heap.size) w args r.bare Gc) ?_
 rintro e w1 ⟨v0,v',h1,Z1,rfl,g1,g2,g3,g4⟩;obtain⟨src,s1,s2,s3⟩:=g1 g4.fl;have hw:Wk 0 (mkT [(0,v0)]) h1 (mkT [(0,v)]) (mkH 0 bs):=Wk.mk [(0,v)] bs src ⟨⟨v0,E3,s1⟩,trivial⟩ s2 s3 g4.fl
 obtain⟨Z2,t2,r2,k2⟩:=hw Z1 (low w.heap.size) w1 #[v'] (λj x hj=>by
  have:=qfi hj
  exact Ae) g3
 have hv2:VR σ0 Z2 v v':=by
  have:=(t2 0 v E3).2
  exact Ae
 have hφ:∀k a,Z.frz k=some a->Z2.frz k=some a:=by grind[Kep.frz,Kept.frz,ki]
 have r3:=r2.thaw (φ:=Z.frz) hφ (λb x hx=>by
  rw[jq]at hx
  exact Ag)
 have hv3:=hv2.thaw (φ:=Z.frz) hv;refine⟨_,v',_,Z.join ⟨Z2.loc,Z.frz,Z2.n⟩ h.sz bs.length,rfl,hk,hv3.sh r3.dn.1,Rel.joinH r r3 g4.pres g4.wle (λ_ _ h=>h) Ae,?_⟩
 refine⟨by grind[qmg],by rw[qgj];exact Ab,qid,by grind[qbV],Cn,g4.wle,g4.io,λ_ _ h=>h,λ_ _ h=>.inl h,?_⟩
 exact zzg r.dn.1 (Nat.le_add_right _ _)
theorem qjE.mk{f:Nat}{i:IFn}{vs:List AV}{v:AV}{bs:List Blk}(hc:qdW P f i=true)(hv:qev v=true)(hbs:bs.all qqM=true)(hV:V P 0 i.body (zQ i.res (qwh v bs)) (qb0 vs 0 .leaf) H0):qjE P f vs v bs :=
 qjE.of_SC hv hbs (SC.mk hc (qh hV))
end
section
variable {P:Program}{n:Nat}{h:Hp}
def bsy(r:Loop):Loop:={ r with state:=.busy }
def rdy(r:Loop):Loop:={ r with state:=.ready,pending:=none }
def dne(r:Loop)(c:Code):Loop:={ r with state:=.done,pending:=some c }
structure LoopOk (P:Program) (r:Loop) (ps:List Nat) (ai bi:ICode):Prop where
 params:r.params.toList=ps
 code:∃nt,zc P nt r.assign ai=true/\zc P nt r.body bi=true/\nt<=r.tmps.size/\∀p ∈ ps,p<nt
 flat:qjs ai=true/\qjs bi=true
 real:∀j,r.assign≠.goto j
def qsQ(P:Program)(r:Loop)(ps:List Nat)(ai bi:ICode):Prop:=∀r',qfS r r'->LoopOk P r' ps ai bi
def LoopOk.likes{r:Loop}{ps:List Nat}{ai bi:ICode}(h:LoopOk P r ps ai bi):qsQ P r ps ai bi:=λr' hl=>by
 rcases hl with⟨rfl,_⟩|⟨j,h1,_⟩
 all_goals grind[LoopOk.real]
def qfS.bsy{r r':Loop}(h:qfS r r'):qfS (Go.Kc.bsy r) (Go.Kc.bsy r'):=by
 rcases h with⟨rfl,h0⟩|⟨j,h1,h2,_,h4⟩
 .exact .inl ⟨rfl,h0⟩
 .exact .inr ⟨j,h1,Cur.st .busy r'.pending h2,rfl,h4⟩
def qc9{r:Loop}:rdy (bsy r)=rdy r:=rfl
def qlg:List Nat->List AV->Tr AV->Tr AV
 | p::ps,u::us,t=>qlg ps us (t.set p u)
 | _,_,t=>t
def qFt(b:Nat)(k:AV->Hp->Prop)(x:X)(_:Tr AV)(h:Hp):Prop :=
 ∃r ts,h.tr.get b=some (.map (zV r ts))/\onX x (k (.b true) (h.put b (.map (zV (rdy r) ts)))) (λid=>k (.b false) (h.put b (.map (zV (dne r (.exit id)) ts)))) (k (.b false) (h.put b (.map (zV (dne r .ret) ts))))
def qLI(P:Program)(n b:Nat)(r:Loop)(bi:ICode)(Q:X->Tr AV->Hp->Prop)(x:X)(t:Tr AV)(h:Hp):Prop :=
 onX x (∃ts,h.tr.get b=some (.map (zV r ts))/\S P n bi Q t (h.put b (.map (zV (bsy r) ts)))) (λ_=>False) False
def qJL(P:Program)(n b:Nat)(bi:ICode)(Q:X->Tr AV->Hp->Prop)(x:X)(t:Tr AV)(h:Hp):Prop :=
 onX x (∃r ts R,h.tr.get b=some (.map (zV r ts))/\r.state = .ready/\(∀q,qfS r q->qfS R (bsy q))/\S P n bi Q t (h.put b (.map (zV R ts)))) (λ_=>False) False
def qFB:X->Loop->Loop
 | .normal,q=>rdy q
 | .exit id,q=>dne q (.exit id)
 | .ret,q=>dne q .ret
def qLR:X->Bool
 | .normal=>true
 | _=>false
def qDK(b:Nat)(k:AV->Hp->Prop)(x:X)(_:Tr AV)(h:Hp):Prop :=
 ∃r ts R,h.tr.get b=some (.map (zV r ts))/\(∀q,qfS r q->qfS R (qFB x q))/\k (.b (qLR x)) (h.put b (.map (zV R ts)))
def qxu{b:Nat}{k:AV->Hp->Prop}{x:X}{t:Tr AV}{h:Hp}(hq:qFt b k x t h):qDK b k x t h:=by
 obtain⟨r,ts,h1,h2⟩:=hq;cases x with
 | normal=>exact⟨r,ts,rdy r,h1,λq hq=>hq.set .ready none,h2⟩
 | exit id=>exact⟨r,ts,dne r (.exit id),h1,λq hq=>hq.set .done (some (.exit id)),h2⟩
 | ret=>exact⟨r,ts,dne r .ret,h1,λq hq=>hq.set .done (some .ret),h2⟩
def qtM{Z:Ren}:∀{ps:List Nat}{us:List AV}{t:Tr AV}{tm:Array Value}{args:List Value},VRs σ0 Z us args->ps.length=us.length->(∀p ∈ ps,p<tm.size)->TR σ0 Z t tm->
  TR σ0 Z (qlg ps us t) ((ps.zip args).foldl (λtm (p,v)=>tm.setIfInBounds p v) tm)
 | [],[],_,_,_,hv,_,_,ht=>by cases hv;exact ht
 | [],_::_,_,_,_,_,hl,_,_=>Ag
 | _::_,[],_,_,_,_,hl,_,_=>Ag
 | p::ps,u::us,t,tm,args,hv,hl,hp,ht=>by
  cases hv with
  | cons _ _ v vs h1 h2 =>
   have hlt:=hp p (by simp);refine qtM (ps:=ps) h2 Ae (λq hq=>Ae) (λj x hj=>?_)
   rw[zz4]at hj;split at hj
   .exact Ae
   .rename_i he;obtain⟨g1,g2⟩:=ht j x hj;refine⟨Ae,?_⟩
    rw[Array.getD_eq_getD_getElem?,zzw,if_neg Ab,<- Array.getD_eq_getD_getElem?];exact g2
def qKH{Z:Ren}{tm:Array Value}:∀{ts:List (Nat×AV)},(∀p ∈ ts,p.1<tm.size/\VR σ0 Z p.2 (tm.getD p.1 undef))->TR σ0 Z (mkT ts) tm :=
 λh j v hj=>h (j,v) (qfi hj)
def qtz:∀{ts:List (Nat×AV)},(ts.map Prod.fst).Nodup->∀{p:Nat×AV},p ∈ ts->(mkT ts).get p.1=some p.2
 | [],_,_,hp=>by cases hp
 | q::ts,hn,p,hp=>by
  simp only[mkT,zz4];have hn2:=List.nodup_cons.1 hn;rcases zzc.1 hp with rfl|hp
  .rw[if_pos rfl]
  .rw[if_neg Ag];exact qtz hn2.2 hp
def qjW:∀(l:List (Nat×Value)) (tm:Array Value),(l.foldl (λtm (p,v)=>tm.setIfInBounds p v) tm).size=tm.size
 | [],_=>rfl
 | p::l,tm=>by rw[List.foldl_cons,qjW l];simp
def SY.mkL{b:Nat}{us:List AV}{k:AV->Hp->Prop}{r:Loop}{ts:List (Nat×AV)}{ps:List Nat}{ai bi:ICode}(hg:h.tr.get b=some (.map (zV r ts)))(hok:qsQ P r ps ai bi)(hfl:h.fl<=b)(hbs:b<h.sz)(hl:ps.length=us.length)
  (hA:S P h.sz ai (qJL P h.sz b bi (qDK b k)) (qlg ps us (mkT ts)) h):SY P b us h k:=by
 intro Z B w args L hL rl hargs;obtain⟨L0,ob,hob,hrec⟩:=rl.maps b L _ hL hg;obtain⟨q,rfl,hlk,hts⟩:=hrec.rec';have hokq:=hok q hlk;obtain⟨nt,hca,hcb,hnt,hps⟩:=hokq.code
 have hsz:args.size=q.params.size:=by
  have:=hargs.length;have h2:q.params.size=ps.length:=by rw[<- hokq.params];simp
  rw[h2,hl,this];simp
 refine⟨q.fn,_,q.assign,q.body,run_yield hob hsz,λro=>roundIn_of_wpIn trivial ?_⟩
 have hfold:(q.params.zip args).foldl (λtmps (t,a)=>tmps.setIfInBounds t a) q.tmps=(ps.zip args.toList).foldl (λtm (p,v)=>tm.setIfInBounds p v) q.tmps:=by
  rw[<- Array.foldl_toList,Array.toList_zip,hokq.params]
 rw[hfold]
 have hT:TR σ0 Z (qlg ps us (mkT ts)) ((ps.zip args.toList).foldl (λtm (p,v)=>tm.setIfInBounds p v) q.tmps) :=
  qtM hargs hl Ag (qKH hts)
 have hS:=hA nt q.assign hca (zzL _) (some L.blk) (.inr hokq.flat.1) Z B w { tmps:=(ps.zip args.toList).foldl (λtm (p,v)=>tm.setIfInBounds p v) q.tmps,defers:=[] } hT (by rw[qjW];exact Ab) rl
 refine wpIn_mono hS ?_;rintro e a1 w1 ⟨x1,t1,h1,Z1,rs,hx,hq,ht1,hs1,hd1,hm,r1,k1⟩;cases hx with
 | exit id=>exact hq.elim
 | ret=>exact hq.elim
 | normal =>
  obtain⟨r',ts1,R',hg1,hrr,hRR,hB⟩:=hq;have r1:=r1.lessB (B:=B) λk hk=>.inl hk
  have hL1:Z1 b=some L:=by grind[Kep.ext]
  obtain⟨_,ob1,hob1,hrec1⟩:=r1.maps b L _ hL1 hg1;obtain⟨q1,rfl,hlk1,hts1⟩:=hrec1.rec';refine⟨w1.putObj L.blk (.loop (Go.Kc.bsy q1)),run_beginRound hob1 (hlk1.state.trans hrr),?_⟩;obtain⟨r2,k2⟩:=r1.putMap (w':=w1.putObj L.blk (.loop (Go.Kc.bsy q1))) hL1 hg1 (by rw[k1.fl];exact Ab) hob1 (es':=zV R' ts1) (.inr (.inr ⟨_,_,_,rfl,rfl,hRR _ hlk1,hts1⟩)) rfl ⟨rfl,rfl⟩;have hSb:=hB nt q.body hcb k1.szle (some L.blk) (.inr hokq.flat.2) Z1 B _ a1 ht1 hs1 r2;refine wpIn_mono hSb ?_;rintro e a3 w3 ⟨x3,t3,h3,Z3,rs3,hx3,hq3,ht3,hs3,hd3,hm3,r3,k3⟩;have r3:=r3.lessB (B:=B) λk hk=>.inl hk
  have kk:=(k1.trans (k2.kep k1.szle)).trans k3;obtain⟨r',ts',R3,hg3,hR3,hq3⟩:=hq3;have hL3:Z3 b=some L:=by grind[Kep.ext]
  obtain⟨_,ob3,hob3,hrec3⟩:=r3.maps b L _ hL3 hg3;obtain⟨q3,rfl,hlk3,hts3⟩:=hrec3.rec'
  have fin:∀(lq:Loop) (y:Bool),qfS R3 lq->lq.tmps=q3.tmps->k (.b y) (h3.put b (.map (zV R3 ts')))->(∃v v0 h' Z',Ending.returned (Value.bool y) = .returned v0/\k v h'/\VR σ0 Z' v v0/\Rel σ0 Z' B h' (w3.putObj L.blk (.loop lq))/\Kept Z B h w Z' h' (w3.putObj L.blk (.loop lq))):=by
   intro lq y hlp htm hk;obtain⟨r4,k4⟩:=r3.putMap (w':=w3.putObj L.blk (.loop lq)) hL3 hg3 (by rw[kk.fl];exact Ab) hob3 (es':=zV R3 ts') (.inr (.inr ⟨_,_,_,rfl,rfl,hlp,by rw[htm];exact Ab⟩)) rfl ⟨rfl,rfl⟩
   exact⟨.b y,.bool y,_,Z3,rfl,hk,.b _,r4,(kk.trans (k4.kep kk.szle)).kept rl.dn.1⟩
  have hlf:=hR3 q3 hlk3;cases hx3 with
  | normal=>exact⟨_,_,run_endRound none hob3,fin (Go.Kc.rdy q3) true hlf rfl hq3⟩
  | exit id=>exact⟨_,_,run_endRound (some (.exit id)) hob3,fin (dne q3 (.exit id)) false hlf rfl hq3⟩
  | ret=>exact⟨_,_,run_endRound (some .ret) hob3,fin (dne q3 .ret) false hlf rfl hq3⟩
theorem SY.mk{b:Nat}{us:List AV}{k:AV->Hp->Prop}{r:Loop}{ts:List (Nat×AV)}{ps:List Nat}{ai bi:ICode}(hg:h.tr.get b=some (.map (zV r ts)))(hr:r.state = .ready)(hok:LoopOk P r ps ai bi)(hfl:h.fl<=b)(hbs:b<h.sz)(hl:ps.length=us.length)
  (hA:S P h.sz ai (qLI P h.sz b r bi (qFt b k)) (qlg ps us (mkT ts)) h):SY P b us h k:=by
 refine SY.mkL hg hok.likes hfl hbs hl ?_;intro nt code hc hn ro hro Z B w a ht hsz rl;refine wpIn_mono (hA nt code hc hn ro hro Z B w a ht hsz rl) ?_;rintro e a1 w1 ⟨x1,t1,h1,Z1,rs,hx,hq,rest⟩;refine⟨x1,t1,h1,Z1,rs,hx,?_,rest⟩;cases x1 with
 | normal=>obtain⟨ts1,g1,g2⟩:=hq;exact⟨r,ts1,Go.Kc.bsy r,g1,hr,λq hq=>hq.bsy,g2.mono λe t h=>qxu⟩
 | exit id=>exact hq
 | ret=>exact hq
def qBg(b:Nat)(Q:X->Tr AV->Hp->Prop)(t:Tr AV)(_:AV)(h:Hp):Prop :=
 ∃r ts,h.tr.get b=some (.map (zV r ts))/\r.state≠.busy /\
  match r.pending with
  | none=>Q .normal t (h.put b .dead)
  | some .ret=>Q .ret t (h.put b .dead)
  | some (.exit id)=>Q (.exit id) t (h.put b .dead)
  | _=>False
def rfK(P:Program)(ps:List Nat)(ai bi:ICode)(Q:X->Tr AV->Hp->Prop)(t:Tr AV)(ts:List (Nat×AV))(h:Hp)(g:AV):Prop :=
 match g with
 | .fn f first cap=>qoh P f/\∀r0,r0.state = .ready->r0.pending=none->LoopOk P r0 ps ai bi->SC P f (first++(.yl h.sz::cap)) (h.push (.map (zV r0 ts))) (qBg h.sz Q t)
 | _=>False
def qMg(P:Program)(ps:List Nat)(ai bi:ICode)(Q:X->Tr AV->Hp->Prop)(t:Tr AV)(ts:List (Nat×AV))(h:Hp)(g:AV):Prop :=
 match g with
 | .fn f first cap=>qoh P f/\∀r0,r0.state = .ready->r0.pending=none->LoopOk P r0 ps ai bi->∃R,qfS R r0/\SC P f (first++(.yl h.sz::cap)) (h.push (.map (zV R ts))) (qBg h.sz Q t)
 | _=>False
def S.rangeFL{j:Nat}{g:O}{ps:List Nat}{ai bi:ICode}{Q:X->Tr AV->Hp->Prop}{t:Tr AV}{h:Hp}{ts:List (Nat×AV)}(hfl:h.fl<=h.sz)(htg:∀p ∈ ts,t.get p.1=some p.2)(hnr:qjs ai=true/\qjs bi=true)(hk:evK t g (qMg P ps ai bi Q t ts h)):S P n (.rangeF j g ps ai bi) Q t h:=by
 intro nt code hc hn ro hro Z B w a ht hsz r
 obtain rfl:ro=none:=by
  rcases hro with h|h
  .exact h
  .cases h
 cases code<;>first|(simp[zc]at hc;done)|skip
 rename_i og ops oa ob;simp only[zc,zzB]at hc;obtain⟨⟨⟨⟨⟨h1,h2⟩,h3⟩,h4⟩,h5⟩,h6⟩:=hc;have hreal:∀j,oa≠.goto j:=λj hj=>by rw[hj]at h6;cases h6
 have h2:=eq_of_beq h2;obtain⟨gv,hgv,hk2⟩:=zx ht h1 hk;cases gv<;>try exact hgv.elim
 rename_i f first cap
 obtain⟨⟨fn0,c1,c2,c3⟩,hS⟩:=hgv;obtain⟨a',c',q1,q2,q3⟩:=hk2.un_fn;have hLd:∀b L,Z b=some L->L.blk<w.heap.size:=r.dn.2;refine wpIn_rangeFunc λfn _=>?_
 let r0:Loop:={ state:=.ready,pending:=none,fn,tmps:=a.tmps,params:=ops,assign:=oa,body:=ob,defers:=w.heap.size }
 let W1:World:=(w.alloc (.deferred (some []))).alloc (.loop r0)
 have hold:∀k,k<w.heap.size->(w.alloc (.deferred (some []))).heap[k]?=w.heap[k]?:=λk hk=>by
  show(w.heap.push _)[k]?=_;rw[Array.getElem?_push,if_neg Ab]
 have hD:(w.alloc (.deferred (some []))).heap[w.heap.size]?=some (.deferred (some [])):=World.alloc_heap_new w _
 have r1:Rel σ0 Z (BM B [w.heap.size]) h (w.alloc (.deferred (some []))):=by
  have r':=r.world (w':=w.alloc (.deferred (some []))) hold (by simp);refine⟨r'.dom,r'.cells,r'.maps,r'.excl,r'.exclm,r'.app,λb L hb hf hB=>?_,λk hk=>?_,r'.frz,r'.dn⟩
  .rcases hB with hB|hB
   all_goals grind[Rel.flr]
  .rcases hk with hk|hk
   .have:=r.base k hk;simp;exact Ab
   exact Ae
 have hts:∀p ∈ ts,p.1<r0.tmps.size/\VR σ0 Z p.2 (r0.tmps.getD p.1 undef):=λp hp=>ht p.1 p.2 (htg p hp)
 have hlo:LoopOk P r0 ps ai bi:=⟨h2,⟨nt,h4,h5,hsz,λp hp=>by rw[<- h2]at hp;have:=zzy.1 h3 p hp;exact Ae⟩,hnr,hreal⟩
 obtain⟨R,hRl,hSC⟩:=hS r0 rfl rfl hlo;obtain⟨r2,k2⟩:=r1.newMap (w':=W1) (es0:=zV R ts) (o:=.loop r0) (.inr Ag) rfl ⟨rfl,rfl⟩;have hl:(w.alloc (.deferred (some []))).heap.size=w.heap.size+1:=by simp
 rw[hl]at r2 k2;obtain⟨Lc,hLc⟩:∃Lc:Loc,Lc=⟨w.heap.size+1,0,0,0⟩:=⟨_,rfl⟩;rw[<- hLc]at r2 k2;have hself:(Z.add h.sz Lc) h.sz=some Lc:=Ren.add_self _ _ _;have hle2:=k2.mono r1.dom
 have hargs:VRs σ0 (Z.add h.sz Lc) (first++(.yl h.sz::cap)) (a' ++ #[Value.func (.yield (w.heap.size+1)) #[] #[]]++c').toList:=by
  have hy:VR σ0 (Z.add h.sz Lc) (.yl h.sz) (.func (.yield Lc.blk) #[] #[]):=.yl _ Lc hself;have e2:Lc.blk=w.heap.size+1:=by rw[hLc]
  rw[e2]at hy;have:=(q1.mono hle2).append (VRs.cons _ _ _ _ hy (q2.mono hle2))
  exact Ae
 have hcf:=qd7 (P:=P) c1 c2 c3
 have hcalls:Calls P f (a' ++ #[Value.func (.yield (w.heap.size+1)) #[] #[]]++c') W1 λe w'=>∃v v' h' Z',e = .returned v'/\qBg h.sz Q t v h'/\VR σ0 Z' v v'/\Rel σ0 Z' (BM B [w.heap.size]) h' w'/\Kept (Z.add h.sz Lc) (BM B [w.heap.size]) (h.push (.map (zV R ts))) W1 Z' h' w':=by
  rcases hSC.2 _ _ _ _ r2 hargs with⟨_,hh⟩|⟨v,w',hh,_⟩
  all_goals grind
 have hev:(({ a with defers:=qlO [w.heap.size]++a.defers }:Act)).eval og = .func (.func f) a' c':=q3;refine⟨w.heap.size+1,[{ target:=.collected w.heap.size,args:=#[] }],W1,{ target:=.fn (.func f) c',args:=a' ++ #[Value.func (.yield (w.heap.size+1)) #[] #[]] },W1,f,a' ++ #[Value.func (.yield (w.heap.size+1)) #[] #[]]++c',W1,run_enterLoop_outer _ _ _ _ _,?_,λ_ _=>trivial,?_,λhh=>(by cases hh),qqR (Calls.mono hcalls ?_)⟩
 .simp only[resolve,q3];simp[go_sem,Deferred.ofValue,q3]
 .simp[invoke,hcf]
 rintro e w2 ⟨v,v',h2',Z2,rfl,hend,hv,r3,k3⟩;obtain⟨r',ts',hg',hst,hmt⟩:=hend;have hL2:Z2 h.sz=some Lc:=(k3.ext _ (by show _<Nat.succ _;exact Ab)).trans hself
 obtain⟨_,ob2,hob2,hrec2⟩:=r3.maps _ Lc _ hL2 hg';obtain⟨q2,rfl,hlk2,hts2⟩:=hrec2.rec';have hob3:w2.heap[w.heap.size+1]?=some (.loop q2):=by rw[hLc]at hob2;exact Ab
 have hfl2:h2'.fl<=h.sz:=by rw[k3.fl];exact hfl
 obtain⟨re,hre⟩:∃re:Loop,re={ q2 with state:=.exhausted }:=⟨_,rfl⟩;obtain⟨re',hre'⟩:∃re':Loop,re'={ r' with state:=.exhausted }:=⟨_,rfl⟩
 have hlre:qfS re' re:=by
  have:=hlk2.set .exhausted q2.pending;rw[hre,hre'];have e:({ r' with state:=.exhausted,pending:=q2.pending }:Loop)={ r' with state:=.exhausted }:=by rw[hlk2.pending]
  rw[e]at this;exact Ab
 have hts4:∀p ∈ ts',p.1<re.tmps.size/\VR σ0 Z2 p.2 (re.tmps.getD p.1 undef):=by rw[hre];exact Ab
 have hend2:=run_endLoop (P:=P) hob3 (by rw[hlk2.state];exact Ab);rw[<- hre]at hend2;clear hre;obtain⟨r4,k4⟩:=r3.putMap (w':=w2.putObj (w.heap.size+1) (.loop re)) hL2 hg' hfl2 hob2 (es':=zV re' ts') (.inr (.inr ⟨_,_,_,rfl,rfl,hlre,hts4⟩)) (by rw[hLc];rfl) ⟨rfl,rfl⟩
 have r5:Rel σ0 Z2 (BM B [w.heap.size]) (h2'.put h.sz .dead) (w2.putObj (w.heap.size+1) (.loop re)):=by
  refine r4.sub rfl rfl λb x hx hd=>?_
  simp only[Hp.put,zz4]at hx ⊢
  exact Ag
 have hD1:W1.heap[w.heap.size]?=some (.deferred (some [])):=by
  show((w.alloc (.deferred (some []))).heap.push _)[w.heap.size]?=_;rw[Array.getElem?_push,if_neg (by rw[hl];exact Ab)];exact hD
 have hD2:(w2.putObj (w.heap.size+1) (.loop re)).heap[w.heap.size]?=some (.deferred (some [])):=by
  rw[World.putObj_heap_other Ab,k3.pres _ (.inr (by simp))];exact Ab
 have k0:Kep n Z B h w Z h (w.alloc (.deferred (some []))):=⟨λ_ _=>rfl,hn,rfl,λ_ _ _=>rfl,by grind[Rel.base],by simp,⟨rfl,rfl⟩,λ_ _ h=>h,λ_ _ h=>.inl h,λ_ _ h=>h⟩
 have hn2:n<=(h.push (.map (zV R ts))).sz:=zzg hn (Nat.le_succ _);have hn3:n<=h2'.sz:=zzg hn2 k3.szle
 have k5:Kep n Z2 (BM B [w.heap.size]) h2' w2 Z2 (h2'.put h.sz .dead) (w2.putObj (w.heap.size+1) (.loop re)) :=
  ⟨λ_ _=>rfl,hn3,rfl,λb hb _=>by simp only[Hp.put,zz4];rw[if_neg Ab],k4.pres,k4.wle,k4.io,λ_ _ h=>h,λ_ _ h=>.inl h,λ_ _ h=>h⟩
 have kk:Kep n Z B h w Z2 (h2'.put h.sz .dead) (w2.putObj (w.heap.size+1) (.loop re)):=((k0.trans (k2.kep hn).bm).trans (k3.kep hn2).bm).trans k5.bm
 have fin:∀(x:X) (e:Exit),XR x e->Q x t (h2'.put h.sz .dead)->qdb σ0 Q nt n Z B h w a.defers e { a with defers:=[{ target:=.collected w.heap.size,args:=#[] }]++a.defers } (w2.putObj (w.heap.size+1) (.loop re)):=λx e hx hq =>
  ⟨x,t,_,Z2,[w.heap.size],hx,hq,ht.mono (Ren.le_trans hle2 (k3.mono r2.dom)),hsz,rfl,⟨by simp,Ag,λq hq=>by rw[zz1]at hq;exact Ag⟩,r5,kk⟩
 refine⟨q2.pending,_,hend2,?_⟩;clear hend2;rw[hlk2.pending];generalize r'.pending=pd at hmt ⊢;cases pd with
 | none=>exact fin .normal _ .normal hmt
 | some c =>
  cases c<;>first|exact hmt.elim|skip
  .exact wpIn_exit (fin _ _ (.exit _) hmt)
  .exact wpIn_ret (fin _ _ .ret hmt)
def S.rangeF{j:Nat}{g:O}{ps:List Nat}{ai bi:ICode}{Q:X->Tr AV->Hp->Prop}{ts:List (Nat×AV)}{bl:List Blk}(_:bl.all xF=true)(hnd:(ts.map Prod.fst).Nodup)(hnr:qjs ai=true/\qjs bi=true)(hk:evK (mkT ts) g (rfK P ps ai bi Q (mkT ts) ts (mkH 0 bl))):S P n (.rangeF j g ps ai bi) Q (mkT ts) (mkH 0 bl):=by
 refine S.rangeFL (ts:=ts) (zzu _) (λp hp=>qtz hnd hp) hnr ?_
 obtain⟨v,h1,h2⟩:=qH (mkT ts) g _ hk;refine h2 _ ?_;cases v<;>try exact h1.elim
 obtain⟨hc,hh⟩:=h1;exact⟨hc,λr0 a b hlo=>⟨r0,.inl ⟨rfl,hlo.real⟩,hh r0 a b hlo⟩⟩
end
section
variable {P:Program}{h:Hp}
inductive Gvs (h:Hp):List AV->List AV->Prop where
 | nil:Gvs h [] []
 | keep (v:AV) (vs vs':List AV) (h1:Gvs h vs vs'):Gvs h (v::vs) (v::vs')
 | fz (v v':AV) (vs vs':List AV) (hf:Frz h v v') (h1:Gvs h vs vs'):Gvs h (v::vs) (v'::vs')
 | fn (f:Nat) (a c c':List AV) (vs vs':List AV) (hc:Gvs h c c') (h1:Gvs h vs vs'):Gvs h (.fn f a c::vs) (.fn f a c'::vs')
theorem Gvs.ok{Z:Ren}{B:Nat->Prop}{w:World}(hle:Z.le ⟨Z.loc,vD Z h w,Z.n⟩)(r:Rel σ0 Z B h w):∀{vs vs':List AV}{xs:List Value},Gvs h vs vs'->VRs σ0 Z vs xs->VRs σ0 ⟨Z.loc,vD Z h w,Z.n⟩ vs' xs
 | _,_,_,.nil,hv=>by cases hv;exact .nil
 | _,_,_,.keep _ _ _ h1,hv=>by
  cases hv with
  | cons _ _ _ _ a1 a2=>exact .cons _ _ _ _ (a1.mono hle) (Gvs.ok hle r h1 a2)
 | _,_,_,.fz _ _ _ _ hf h1,hv=>by
  cases hv with
  | cons _ _ _ _ a1 a2=>exact .cons _ _ _ _ (by grind[CR.vr,Frz.ok]) (Gvs.ok hle r h1 a2)
 | _,_,_,.fn f a c c' _ _ hc h1,hv=>by
  cases hv with
  | cons _ _ _ _ a1 a2 =>
   obtain⟨a',c'',q1,q2,q3⟩:=a1.un_fn;subst q3;exact .cons _ _ _ _ (.fn _ _ _ _ _ (q1.mono hle) (Gvs.ok hle r hc q2)) (Gvs.ok hle r h1 a2)
def SC.give{f:Nat}{vs vs':List AV}{k:AV->Hp->Prop}(DB:List (Nat×Blk))(hg:∀p ∈ DB,h.tr.get p.1=some p.2/\h.fl<=p.1)(hf:Gvs ⟨h.sz,h.fl,trP DB⟩ vs vs')(hk:SC P f vs' (qfF h DB) k):SC P f vs h k:=by
 refine⟨hk.1,λZ B w args r ha=>?_⟩
 have r0:Rel σ0 Z B ⟨h.sz,h.fl,trP DB⟩ w:=r.sub rfl rfl (λb x hx _=>(hg _ (qkK hx)).1)
 have le:Z.le ⟨Z.loc,vD Z ⟨h.sz,h.fl,trP DB⟩ w,Z.n⟩:=⟨λ_ _ h=>h,by grind[ki],zzL _⟩
 have hcr:=hf.ok le r0 ha
 have fnew:∀kk a,vD Z ⟨h.sz,h.fl,trP DB⟩ w kk=some a->Z.frz kk=some a\/((∃ty fz,w.heap[kk]?=some (.cells a ty fz))/\∃b L e af cs,b ∈ DB.map Prod.fst/\Z b=some L/\h.tr.get b=some (.cells e true af cs)/\L.blk=kk/\h.fl<=b):=by
  intro kk a hkk;rcases qew hkk with h1|⟨h1,b,L,e,af,cs,h2,h3,h4⟩
  .exact .inl h1
  .have hm:=qkK h3;exact .inr ⟨h1,b,L,e,af,cs,List.mem_map_of_mem (f:=Prod.fst) hm,h2,(hg _ hm).1,h4,(hg _ hm).2⟩
 have xF:∀b x,(qfF h DB).tr.get b=some x->x≠.dead->b ∉ DB.map Prod.fst/\h.tr.get b=some x:=by
  intro b x hx hd;rw[qh5]at hx;split at hx
  .cases hx;exact absurd rfl hd
  .exact Ag
 have r1:Rel σ0 ⟨Z.loc,vD Z ⟨h.sz,h.fl,trP DB⟩ w,Z.n⟩ B (qfF h DB) w:=by
  have rs:Rel σ0 Z B (qfF h DB) w:=by grind[Rel.sub,qkh,qkg]
  refine⟨rs.dom,λb L e wf af cs hb hx=>?_,λb L es hb hx=>?_,rs.excl,rs.exclm,rs.app,rs.flr,rs.base,λkk arr hkk=>?_,rs.dn⟩
  .obtain⟨q1,c,ty,fz,q2,q3,q4,q5,q6⟩:=rs.cells b L e wf af cs hb hx;exact Cs
  .obtain⟨q1,o,q2,q3⟩:=rs.maps b L es hb hx;exact En
  .rcases fnew kk arr hkk with h1|⟨h1,b,L,e,af,cs,h2,h3,h4,h5,_⟩
   .exact rs.frz kk arr h1
   .refine⟨h1,λb' L' x hb' hx hd he=>?_⟩
    obtain⟨g1,g2⟩:=xF b' x hx hd;have:=r.excl b L e af cs h3 h4 b' L' x hb' g2 hd (by rw[he,h5]);subst this;exact g1 h2
 have k0:Kept Z B h w ⟨Z.loc,vD Z ⟨h.sz,h.fl,trP DB⟩ w,Z.n⟩ (qfF h DB) w:=by
  refine⟨λ_ _=>rfl,by rw[qkh];exact zzL _,qkg,λb hb _=>?_,λ_ _=>rfl,zzL _,⟨rfl,rfl⟩,by grind[ki],λk a hk=>?_,zzL _⟩
  .rw[qh5,if_neg];intro hm;obtain⟨p,hp1,hp2⟩:=zzl.1 hm;have:=(hg p hp1).2;exact Ab
  .rcases fnew k a hk with h2|⟨_,b,L,_,_,_,_,h3,_,h5,h6⟩
   .exact .inl h2
   .right;rw[<- h5];exact r.flr b L h3 h6
 refine qcL.mono (hk.2 _ B w args r1 hcr) ?_
 grind[Kept.trans]
def PC.give{f:Nat}{vs vs':List AV}{k:AV->Hp->Prop}(DB:List (Nat×Blk))(hg:∀p ∈ DB,h.tr.get p.1=some p.2/\h.fl<=p.1)(hf:Gvs ⟨h.sz,h.fl,trP DB⟩ vs vs')(hk:PC P f vs' (qfF h DB) k):PC P f vs h k:=by
 obtain⟨v,h',h1,h2⟩:=hk;exact⟨v,h',λk' hk'=>SC.give DB hg hf (h1 k' hk'),h2⟩
def Upd.pc{f:Nat}{vs:List AV}{bs bs2:List Blk}{v:AV}{k:AV->Hp->Prop}(at':List Nat)(hu:Upd P f vs bs v bs2)(l:Lent h at' bs)(hk:k (rnv (gAt at' h.sz) v) (qdV h at' bs2)):PC P f (qbh (gAt at' h.sz) vs) h k :=
 ⟨_,_,λ_ h'=>hu.sc at' l h',hk⟩
end
section
variable {P:Program}{h:Hp}{t:Tr AV}
def SL.loopd{n:Nat}{α:Type}{x:ICode}{Q:X->Tr AV->Hp->Prop}(T:α->List (Nat×AV))(B:α->List Blk)(I:α->Prop)(μ:α->Nat)(a0:α)(src:List Nat)
  (hT:TWs t (rl src h.sz) (B a0).length (T a0)) (hB:BWs h (rl src h.sz) (B a0).length src (B a0)) (hI:(List.map Prod.fst (List.filter (λp=>decide (p.fst<h.sz)&&xF p.snd) (src.zip (B a0)))).Nodup) (hfl:h.fl=0) (hn:n<=(B a0).length) (hlow:∀b,b<n->rl src h.sz b=b) (h0:I a0)
  (step:∀a,I a->∀G:Tr AV->Hp->Prop,(∀b,I b->μ b<μ a->∀t' h',Wk n t' h' (mkT (T b)) (mkH 0 (B b))->G t' h')->
   V P n x (λe t h=>onX e (G t h) (λid=>Q (.exit id) t h) (Q .ret t h)) (mkT (T a)) (mkH 0 (B a))):SL P n x Q t h:=by
 have main:∀m a,μ a=m->I a->SL P n x Q (mkT (T a)) (mkH 0 (B a)):=by
  intro m
  exact Cc
 exact SL.weak (by grind[Wk.mkd]) (main _ a0 rfl h0)
def qqa(m:Nat)(v:AV)(bs2:List Blk)(v':AV)(h':Hp):Prop:=h'.fl=0->∃src:List Nat,NV (rl src h'.sz) bs2.length v' v/\BWs h' (rl src h'.sz) bs2.length src bs2/\(List.map Prod.fst (List.filter (λp=>decide (p.fst<h'.sz)&&xF p.snd) (src.zip bs2))).Nodup/\∀b,b<m->rl src h'.sz b=b
theorem qqa.w{m:Nat}{v:AV}{bs2:List Blk}{v':AV}{h':Hp}(hz:qqa m v bs2 v' h')(hle:m<=bs2.length):qAt m v bs2 v' h':=by
 intro hfl;obtain⟨src,s1,s2,s3,s4⟩:=hz hfl;exact Wk.mkd [(0,v)] bs2 src ⟨⟨v',E3,s1⟩,trivial⟩ s2 s3 hfl hle s4
theorem Upd.mkd{f:Nat}{i:IFn}{vs:List AV}{v:AV}{bs bs2:List Blk}(hc:qdW P f i=true)(hb:jF bs.length vs=true)(hl:bs.length<=bs2.length)(hV:V P bs.length i.body (zQ i.res (qqa bs.length v bs2)) (qb0 vs 0 .leaf) (mkH 0 bs)):Upd P f vs bs v bs2 :=
 ⟨hb,hl,(SC.mk hc (qh hV)).mono (by grind[qqa.w])⟩
end
section
variable {P:Program}{H:Type}{enc:TypeId×Value->H}{w:World}{t e:TypeId}{α:Type}
def qD5{n m:Nat}{I:α->Prop}{E:α->List AV}(ht:P.underlying t=some (.array n e))(he:qeV enc P w e I E)(hc:P.cellsOf e=m)(hct:P.cellsOf t=n*m) :
  qeV enc P w t (λl:List α=>l.length=n/\∀a ∈ l,I a) (λl=>l.flatMap E):=by
 intro fuel cs x hx;obtain⟨xs,k,_,_,hl,hxs,hf⟩:=DataW.trod_array ht hx
 have go:∀j,j<=n->∃l:List α,(l.length=j/\∀a ∈ l,I a)/\CRs σ0 (qvc w) (l.flatMap E) (cs.take (j*m)):=by
  intro j
  induction j with
  | zero=>intro _;exact⟨[],⟨rfl,λ_ h=>by cases h⟩,by simpa using CRs.nil⟩
  | succ j ih =>
   intro hj;obtain⟨l,⟨h1,h2⟩,h3⟩:=ih Ab;have h4:=hf j Ab;have hlt:j<xs.length:=Ab
   rw[zzE hlt,hc]at h4;obtain⟨a,ha,h5⟩:=he _ _ _ h4;refine⟨l++[a],⟨by simp[h1],λb hb=>?_⟩,?_⟩
   .rcases zzd.1 hb with hb|hb
    .exact h2 b hb
    .rw[zz1.1 hb];exact ha
   .rw[List.flatMap_append,Nat.succ_mul,List.take_add];refine h3.app ?_;simpa using h5
 obtain⟨l,h1,h2⟩:=go n (zzL _);rw[zzt Ab]at h2;exact⟨l,h1,h2⟩
end
section
variable {P:Program}
def qye:Op->Bool
 | .call c=>(match c.callee with | .builtin .recover=>true|_=>false)&&c.args.isEmpty
 | _=>false
def qx9(n:Nat):Op->Bool
 | .assign (.tmp m)=>m==n
 | _=>false
def qyc(n:Nat):Op->Bool
 | .move (.tmp m)=>m==n
 | _=>false
def qFU(P:Program)(n:Nat):Op->Bool
 | .binOp .neq ty (.tmp m) y _=>m==n&&qfB .iface y&&qvE P .iface ty
 | _=>false
def qqS(o:Oper):Bool:=o.guard.isNone
def qzv(P:Program)(nt:Nat)(p q r s:Oper)(c:Nat):Bool :=
 qqS p&&qqS q&&qqS r&&qqS s&&match p.dst,q.dst,r.dst,s.dst with
  | some a,some b,some e,some c'=>Nat.blt a nt&&Nat.blt b nt&&Nat.blt e nt&&Nat.blt c nt&&c'==c&&qye p.op&&qx9 a q.op&&qyc b r.op&&qFU P e s.op
  | _,_,_,_=>false
def qzu(P:Program)(nt:Nat):Code->Bool
 | .seq (.region _ o1 false) (.seq (.region _ o2 false) (.cond (.tmp c) _ .skip))=>(match o1.toList,o2.toList with
  | [p,q],[r,s]=>qzv P nt p q r s c
  | _,_=>false)
 | _=>false
def qjP(P:Program)(f:Nat):Bool :=
 match P.funcs[f]? with
 | some fn=>fn.name != "runtime.NumGoroutine" && fn.results.isEmpty&&(match fn.body with|some c=>qzu P fn.ntmps c|none=>false)
 | none=>false
def qmk{a:Act}{n:Nat}(h:n<a.tmps.size)(v:Value):(a.put (some n) v).eval (.tmp n)=v:=by
 simp[Act.put,Act.eval,Array.getD,h]
def qrB{a:Act}{o:Oper}(h:qye o.op=true)(w:World):(execOp a.eval o).run P w = .ok .recover w:=by
 unfold qye at h;split at h
 .rename_i c hc;simp only[zzB]at h;obtain⟨h1,h2⟩:=h;split at h1<;>try (cases h1;done)
  rename_i hb;simp[execOp,hc,resolve,hb,invoke,builtin]
 exact Ag
def qya{n:Nat}{o:Op}(h:qx9 n o=true):o = .assign (.tmp n):=by
 unfold qx9 at h
 exact Ag
def qyd{n:Nat}{o:Op}(h:qyc n o=true):o = .move (.tmp n):=by
 unfold qyc at h
 exact Ag
def qGq(Z:Ren){n:Nat}{a:Act}{o:Oper}(h:qFU P n o.op=true)(hv:a.eval (.tmp n) = .nilIface)(w:World):(execOp a.eval o).run P w = .ok (.value (.bool false)) w:=by
 unfold qFU at h;split at h
 .rename_i ty m y uy ho;simp only[zzB]at h;obtain⟨⟨h1,h2⟩,h3⟩:=h;obtain rfl:=eq_of_beq h1;have hx:VR σ0 Z .nili (a.eval (.tmp m)):=by rw[hv];exact .nili
  obtain⟨c,z,g1,rfl,g2,g3,g4,g5,g6,g7⟩:=qm6 (P:=P) (k:=λc=>c=true) hx (show wA .iface .nili (λc=>c=true)from rfl) h3 h2 w
  subst g1
  have hg:(eqGuard .neq ty (.tmp m) (.const z) (a.eval (.tmp m)) z).run P w = .ok () w:=by
   rw[hv];cases z<;>simp[eqGuard]
  refine qjS ho hg ?_;show(binOp .neq ty (a.eval (.tmp m)) z).run P w=_;rw[g6 .neq (.inr rfl)];have g2':(Op.equal ty (a.eval (.tmp m)) z).run P w = .ok true w:=g2;simp[g2']
 exact Ag
def qis{o:Oper}(h:qqS o=true)(y:Nat->Option Bool):Region.wanted o y=true:=by
 unfold qqS at h;cases hg:o.guard with
 | none=>simp[Region.wanted,hg]
 | some _=>rw[hg]at h;cases h
def qpg{a b:Nat}(h:Nat.blt a b=true):a<b:=Ae
def qzw(Z:Ren){fd:Nat}(hc:qjP P fd=true)(args:Array Value)(w:World):CallsDIn (Fr none) 0 P fd args .returning w (λe u' w'=>e = .returned (.tuple #[])/\u' = .returning/\w'=w):=by
 unfold qjP at hc;split at hc<;>try (cases hc;done)
 rename_i fn hfn;simp only[zzB]at hc;obtain⟨⟨_,hres⟩,hbody⟩:=hc;split at hbody<;>try (cases hbody;done)
 rename_i c hcb;unfold qzu at hbody;split at hbody<;>try (cases hbody;done)
 rename_i i1 o1 i2 o2 c thn;split at hbody<;>try (cases hbody;done)
 rename_i p q r s hl1 hl2;unfold qzv at hbody;simp only[zzB]at hbody;obtain⟨⟨⟨⟨f1,f2⟩,f3⟩,f4⟩,hb⟩:=hbody;split at hb<;>try (cases hb;done)
 rename_i a b e c' e1 e2 e3 e4;simp only[zzB]at hb;obtain⟨⟨⟨⟨⟨⟨⟨⟨b1,b2⟩,b3⟩,b4⟩,b5⟩,b6⟩,b7⟩,b8⟩,b9⟩:=hb;have b1:=qpg b1;have b2:=qpg b2;have b3:=qpg b3;have b4:=qpg b4;obtain rfl:=eq_of_beq b5;have b7:=qya b7;have b8:=qyd b8;have s1:o1 = #[p,q]:=by rw[<- Array.toList_inj];exact hl1
 have s2:o2 = #[r,s]:=by rw[<- Array.toList_inj];exact hl2
 subst s1 s2;refine callsDIn_of_wpSIn hfn hcb trivial λc₀ cs hmode=>?_
 have hsz:fn.ntmps<=(args++Array.replicate (fn.ntmps-args.size) undef).size:=by simp;exact Ab
 generalize hA:({ tmps:=args++Array.replicate (fn.ntmps-args.size) undef,defers:=[] }:Act)=A;have hsA:fn.ntmps<=A.tmps.size:=by rw[<- hA];exact hsz
 have hdA:A.defers=[]:=by rw[<- hA]
 have hrec:recoverD (c₀::cs)=none:=by simp[recoverD,hmode]
 have r1:=qrB (P:=P) (a:=A) b6 w;have m1:∀(x:Act),(execOp x.eval q).run P w = .ok (.value (x.eval (.tmp a))) w:=λx=>by simp[execOp,b7]
 have m2:∀(x:Act),(execOp x.eval r).run P w = .ok (.value (x.eval (.tmp b))) w:=λx=>by simp[execOp,b8]
 refine wpSIn_seq (wpSIn_region ?_);have hA1:(A.put (some a) .nilIface).eval (.tmp a) = .nilIface:=qmk Ab _;generalize hB:A.put (some a) .nilIface=A1 at hA1;have z1:A1.tmps.size=A.tmps.size:=by rw[<- hB,qaG]
 have hA2:(A1.put (some b) .nilIface).eval (.tmp b) = .nilIface:=qmk Ab _;generalize hC:A1.put (some b) .nilIface=A2 at hA2;have z2:A2.tmps.size=A.tmps.size:=by rw[<- hC,qaG,z1]
 have hA3:(A2.put (some e) .nilIface).eval (.tmp e) = .nilIface:=qmk Ab _;generalize hD:A2.put (some e) .nilIface=A3 at hA3;have z3:A3.tmps.size=A.tmps.size:=by rw[<- hD,qaG,z2]
 have hA4:(A3.put (some c') (.bool false)).eval (.tmp c') = .bool false:=qmk Ab _;generalize hE:A3.put (some c') (.bool false)=A4 at hA4;have d4:A4.defers=[]:=by rw[<- hE,qaF,<- hD,qaF,<- hC,qaF,<- hB,qaF,hdA]
 have m3:=qGq (P:=P) Z b9 hA3 w;have l2:List.range (#[p,q]:Array Oper).size=[0,1]:=rfl;have l3:List.range (#[r,s]:Array Oper).size=[0,1]:=rfl;have g0:(#[p,q]:Array Oper)[0]?=some p:=rfl;have g1:(#[p,q]:Array Oper)[1]?=some q:=rfl;have g2:(#[r,s]:Array Oper)[0]?=some r:=rfl;have g3:(#[r,s]:Array Oper)[1]?=some s:=rfl;rw[l2];simp only[wpOpsSIn,g0,g1,qis f1,qis f2,if_true,r1,hrec,e1,hB,m1,hA1,e2,hC];refine⟨λ_ _=>trivial,λ_ _=>trivial,?_⟩
 refine wpSIn_seq (wpSIn_region ?_);rw[l3];simp only[wpOpsSIn,g2,g3,qis f3,qis f4,if_true,m2,hA2,e3,hD,m3,e4,hE];refine⟨λ_ _=>trivial,λ_ _=>trivial,?_⟩
 refine wpSIn_cond hA4 (wpSIn_of_wpIn rfl (wpIn_skip ?_));refine⟨d4,.returning,?_,.tuple #[],?_,rfl,rfl,rfl⟩
 .cases c₀;cases hmode;rfl
 simp_all[qnw]
def qyb(n:Nat):Op->Bool
 | .defer c=>(match c.callee with | .value (.tmp m)=>m==n|_=>false)&&c.args.isEmpty
 | _=>false
def qvg{n fd:Nat}{a:Act}{o:Oper}{cap:Array Value}(h:qyb n o.op=true)(hv:a.eval (.tmp n) = .func (.func fd) #[] cap)(w:World):(execOp a.eval o).run P w = .ok (.defer { target:=.fn (.func fd) cap,args:=#[] }) w:=by
 unfold qyb at h;split at h
 .rename_i c hc;simp only[zzB]at h;obtain⟨h1,h2⟩:=h;split at h1<;>try (cases h1;done)
  rename_i m hb;obtain rfl:=eq_of_beq h1;have h2:c.args = #[]:=Gi
  simp[execOp,hc,resolve,hb,hv,h2,Deferred.ofValue]
 exact Ag
def qpo(P:Program)(f fd:Nat)(i:IFn):Bool :=
 qjP P fd&&match i.body with
 | .seq (.reg false rsA) (.seq (.reg false rsB) (.seq (.reg false (r0::_)) y))=>(match P.funcs[f]? with
  | some fn=>fn.name != "runtime.NumGoroutine" && (match fn.body with
   | some (.seq (.region _ oA false) (.seq (.region _ oB false) (.seq (.region _ oD false) c)))=>qer P oA fn.ntmps oA.toList rsA&&qer P oB fn.ntmps oB.toList rsB&&(match oD.toList,r0.dst with
    | [o0,o1],some d=>qsb P oD fn.ntmps o0 r0&&r0.guard.isNone&&qqS o0&&qqS o1&&qyb d o1.op&&o1.dst.isNone
    | _,_=>false)&&zc P fn.ntmps c y
   | _=>false)&&qcO P fn.results.toList i.res
  | none=>false)
 | _=>false
def qBI(fd:Nat)(r0:ROp)(t:Tr AV):Prop:=∃d cs,r0.dst=some d/\t.get d=some (.fn fd [] cs)
def VDf(P:Program)(n fd:Nat):ICode->(X->Tr AV->Hp->Prop)->Tr AV->Hp->Prop
 | .seq (.reg _ rsA) (.seq (.reg _ rsB) (.seq (.reg _ (r0::_)) y)),Q,t,h=>VG P rsA (λt h=>VG P rsB (λt h=>VG P [r0] (λt h=>qBI fd r0 t/\V P n y Q t h) t h) t h) t h
 | _,_,_,_=>False
def qnb{fn:Func}{tm:Array Value}{Z Z':Ren}{B:Nat->Prop}{h h':Hp}{w:World}{R:Ending->World->Prop}{ds:List Deferred}(hT:∀w',Rel σ0 Z' B h' w'->Kept Z B h w Z' h' w'->LeavesInM (Fr none) 0 P fn tm R ds .returning w') :
  ∀(rs:List Nat) {w':World},(∀r ∈ rs,w'.heap[r]?=some (.deferred (some [])))->rs.Nodup->(∀r ∈ rs,¬B r)->Rel σ0 Z' B h' w'->Kept Z B h w Z' h' w'->LeavesInM (Fr none) 0 P fn tm R (qlO rs++ds) .returning w'
 | [],w',_,_,_,hr',hk=>hT w' hr' hk
 | r::rs,w',hm,hn,hB,hr',hk=>by
  have h1:=hm r (by simp);refine J1 ?_
  have hn2:=List.nodup_cons.1 hn;refine qnb hT rs (λr' hr2=>?_) hn2.2 (λr' hr2=>hB r' Ag) (hr'.shut h1 _) ?_
  .rw[World.putObj_heap_other (by rintro rfl;exact hn2.1 hr2)];exact Ae
  .exact⟨hk.ext,hk.szle,hk.fl,hk.akeep,λk hb=>by rw[World.putObj_heap_other Ag];exact hk.pres k hb,by simpa using hk.wle,hk.io,hk.frz,hk.fnew,hk.nle⟩
def SC.mkD{f fd:Nat}{i:IFn}{vs:List AV}{h:Hp}{k:AV->Hp->Prop}(hc:qpo P f fd i=true)(hV:VDf P h.sz fd i.body (zQ i.res k) (qb0 vs 0 .leaf) h):SC P f vs h k:=by
 unfold qpo at hc;simp only[zzB]at hc;obtain⟨hquiet,hc⟩:=hc;split at hc<;>try (cases hc;done)
 rename_i rsA rsB r0 rest y hbody;rw[hbody]at hV;split at hc<;>try (cases hc;done)
 rename_i fn hfn;simp only[zzB,bne_iff_ne]at hc;obtain⟨⟨hname,hc⟩,hres⟩:=hc;split at hc<;>try (cases hc;done)
 rename_i iA oA iB oB iD oD c hcb;simp only[zzB]at hc;obtain⟨⟨⟨hA,hB⟩,hD⟩,hcode⟩:=hc;split at hD<;>try (cases hD;done)
 rename_i o0 o1 d hl hd0;simp only[zzB]at hD;obtain⟨⟨⟨⟨⟨hr0,hg0⟩,hf0⟩,hf1⟩,hdef⟩,hdst⟩:=hD;have sD:oD = #[o0,o1]:=by rw[<- Array.toList_inj];exact hl
 subst sD;have hdst:o1.dst=none:=Ae
 refine⟨trivial,λZ B w args r ha=>.inl ⟨⟨fn,hfn,hname,by rw[hcb];rfl⟩,?_⟩⟩
 have r00:=r
 have ht:TR σ0 Z (qb0 vs 0 .leaf) (args++Array.replicate (fn.ntmps-args.size) undef):=by
  intro j v hv;rcases qkS _ _ _ _ _ hv with⟨_,h3⟩|h3
  .simp only[Nat.sub_zero]at h3;obtain⟨v',h4,h5⟩:=ha.get h3
   have hn:j<args.size:=by
    have:=(zzS.1 h4).1;exact H5
   refine⟨by simp;exact Ab,?_⟩
   exact B1
  exact Ae
 have hsize:fn.ntmps<=(args++Array.replicate (fn.ntmps-args.size) undef).size:=Ag
 refine(callsIn_wide (n:=0)).1 (callsIn_of_wp_marks hfn hcb trivial ?_ rfl);refine wpIn_seq (wpIn_region ?_);have hreg:=λK hK=>qli (ops:=oA) (nt:=fn.ntmps) (ro:=none) (K:=K) (Z0:=Z) (h0:=h) (w0:=w) (ds:=[]) (qgJ P) (qfT P) hK oA.toList rsA 0 hA rfl _ h Z w { tmps:=args++Array.replicate (fn.ntmps-args.size) undef,defers:=[] } hV ht hsize rfl r (Kept.refl _ _ _ _)
 rw[List.range_eq_range'];refine hreg _ ?_;intro a0 w0 t0 h0 Z0 hq0 ht0 hs0 hd0' r0' k0';refine wpIn_seq (wpIn_region ?_);have hreg2:=λK hK=>qli (ops:=oB) (nt:=fn.ntmps) (ro:=none) (K:=K) (Z0:=Z) (h0:=h) (w0:=w) (ds:=[]) (qgJ P) (qfT P) hK oB.toList rsB 0 hB rfl _ h0 Z0 w0 a0 hq0 ht0 hs0 hd0' r0' k0'
 rw[List.range_eq_range'];refine hreg2 _ ?_;intro a1 w1 t1 h1 Z1 hq1 ht1 hs1 hd1 r1 k1;refine wpIn_seq (wpIn_region ?_);have l2:List.range (#[o0,o1]:Array Oper).size=[0,1]:=rfl;have g0:(#[o0,o1]:Array Oper)[0]?=some o0:=rfl;have g1:(#[o0,o1]:Array Oper)[1]?=some o1:=rfl;rw[l2];simp only[wpOpsIn,g0,qis hf0,if_true];obtain⟨dst,rk,g⟩:=r0;simp only[qsb,zzB]at hr0;obtain⟨⟨hc1,hc2⟩,hc3⟩:=hr0;have hgn:g=none:=by simpa using hg0
 subst hgn;refine qzN (draw:=false) (qgJ P) (qfT P) r1 ht1 hc3 hq1 _ _ ?_;intro v v' h2 Z2 w2 p1 p2 r2 k2;obtain⟨t2,q1,ht2⟩:=(ht1.mono (k2.mono r1.dom)).put hs1 hc1 p2 p1;obtain⟨⟨d',cs,q3,q4⟩,q2⟩:=q1;rw[hd0]at q3;cases q3;obtain⟨z1,z2⟩:=ht2 d _ q4;obtain⟨a',c',z3,z4,z5⟩:=z2.un_fn
 have ha':a' = #[]:=by
  generalize hL:a'.toList=L at z3;cases z3<;>grind
 subst ha';generalize hA1:a1.put o0.dst v'=A1 at ht2 z1 z5;have hsA:fn.ntmps<=A1.tmps.size:=by rw[<- hA1,qaG];exact Ab
 have hdA:A1.defers=[]:=by rw[<- hA1,qaF];exact Ab
 have hev:A1.eval (.tmp d) = .func (.func fd) #[] c':=z5;change (if Region.wanted o1 (yielded #[o0,o1] A1.tmps)=true then o1.wpIn (Fr none) 0 P A1 w2 _ _ else _)
 rw[if_pos (qis hf1 _)];refine⟨λ_ _=>trivial,?_⟩
 have hsem:(o1.semAt (Fr none).round A1.eval).run P w2 = .ok (.defer { target:=.fn (.func fd) c',args:=#[] }) w2:=qvg hdef hev w2;rw[hsem,Oper.uponIn_defer,hdst];have hle:h.sz<=h2.sz:=zzg k1.szle k2.szle;have hw:=qh q2 fn.ntmps c hcode hle none (.inl rfl) Z2 B w2 { A1 with defers:={ target:=.fn (.func fd) c',args:=#[] }::A1.defers } ht2 hsA r2;refine wpIn_mono hw ?_;rintro e a w' ⟨x,t',h',Z',rs,hx,hq,ht',_,hd,hm,hr',hkept⟩;have hkk:Kep h.sz Z B h w Z' h' w':=((k1.trans k2).kep (zzL _)).trans hkept;have hww:w.heap.size<=w2.heap.size:=(k1.trans k2).wle
 have hcod:(callFunc fd (#[]++c')).run P=λw=>.ok (.enter fd (#[]++c')) w:=by
  funext w;have hq:=hquiet;unfold qjP at hq;split at hq<;>try (cases hq;done)
  grind[qd7]
 have key:∀(k':AV->Hp->Prop),qa6 t' h' i.res (λvs=>k' (qaD vs) h')->LeavesInM (Fr none) 0 P fn a.tmps (λe w'=>∃v v' h' Z',e = .returned v'/\k' v h'/\VR σ0 Z' v v'/\Rel σ0 Z' B h' w'/\Kept Z B h w Z' h' w') a.defers .returning w':=by
  intro k' hq';rw[hd,hdA];have hB:Rel σ0 Z' B h' w':=hr'.lessB λk hk=>.inl hk
  refine qnb ?_ rs (λr hr=>hm.at' r hr) hm.nodup (λr hr hb=>absurd (r00.base r hb) (Nat.not_lt.2 (zzg hww (hm.new r hr)))) hB (hkk.kept r00.dn.1)
  intro w3 hr3 hk3;refine⟨by simp,.inr ⟨λhh=>(by cases hh),.func fd,c',fd,#[]++c',rfl,?_,λ_ _=>trivial,?_⟩⟩
  .show (callFunc fd (#[]++c')).run P w3=_;rw[hcod]
  .refine (qzw Z hquiet (#[]++c') w3).mono ?_;rintro e u' w4 ⟨rfl,rfl,rfl⟩;obtain⟨v,v',e1,e2,e3⟩:=qnx hr3 ht' hres hq';exact⟨v',e3,v,v',h',Z',rfl,e1,e2,hr3,hk3⟩
 cases hx with
 | exit id=>exact hq.elim
 | normal=>exact key k hq
 | ret=>exact key k hq
end
section
variable {P:Program}{h:Hp}
def Rd(P:Program)(f:Nat)(vs:List AV)(bs:List Blk)(v:AV):Prop :=
 jF bs.length vs=true/\clo v=true/\SC P f vs (mkH bs.length bs) (λv' _=>v'=v)
theorem Rd.mk{f:Nat}{i:IFn}{vs:List AV}{v:AV}{bs:List Blk}(hc:qdW P f i=true)(hb:jF bs.length vs=true)(hl:clo v=true)(hV:V P bs.length i.body (zQ i.res (λv' _=>v'=v)) (qb0 vs 0 .leaf) (mkH bs.length bs)):Rd P f vs bs v :=
 ⟨hb,hl,SC.mk hc (qh hV)⟩
def Rd.sc{f:Nat}{vs:List AV}{bs:List Blk}{v:AV}{k:AV->Hp->Prop}(at':List Nat)(hu:Rd P f vs bs v)(l:Lent ⟨h.sz,0,h.tr⟩ at' bs)(hk:k v h):SC P f (qbh (gAt at' h.sz) vs) h k:=by
 obtain⟨hb,hcl,hu⟩:=hu;refine⟨hu.1,λZ B w args r ha=>?_⟩
 have r0:Rel σ0 Z (λ_=>False) ⟨h.sz,0,h.tr⟩ w:=⟨r.dom,r.cells,r.maps,r.excl,r.exclm,r.app,λ_ _ _ _ h=>h,λ_ h=>h.elim,r.frz,r.dn⟩
 have rs:=r0.small l;have rs':Rel σ0 (Z.small at' h.sz) (low w.heap.size) (mkH bs.length bs) w:=⟨rs.dom,rs.cells,rs.maps,rs.excl,rs.exclm,rs.app,λb L hb hf=>absurd (rs.dom b L hb) (Nat.not_lt.2 hf),λ_ h=>h,rs.frz,rs.dn⟩
 have ha':VRs σ0 (Z.small at' h.sz) vs args.toList:=VRs.nr (Z:=Z) (Zs:=Z.small at' h.sz) (g:=gAt at' h.sz) (m:=bs.length) (λb L hbm hbL=>by
  refine C2 ?_;exact Ab) rfl l.len hb ha
 refine qcL.mono (hu.2 (Z.small at' h.sz) (low w.heap.size) w args rs' ha') ?_;rintro e w1 ⟨v0,v',h1,Z1,rfl,rfl,g2,g3,g4⟩;have hcv:=g2.cr hcl;have f2:∀k a,Z1.frz k=some a->Z.frz k=some a\/w.heap.size<=k:=λk a hk=>(g4.fnew k a hk).imp id Nat.not_lt.1
 exact⟨_,v',h,⟨Z.loc,Z1.frz,Z.n⟩,rfl,hk,(by grind[CR.vr]),r.frz' g4.pres g4.wle g4.frz f2 D8,
  ⟨λ_ _=>rfl,zzL _,rfl,λ_ _ _=>rfl,Cn,g4.wle,g4.io,g4.frz,λk a hk=>(f2 k a hk).imp id (qaB r.base),zzL _⟩⟩
def Rd.pc{f:Nat}{vs:List AV}{bs:List Blk}{v:AV}{k:AV->Hp->Prop}(at':List Nat)(hu:Rd P f vs bs v)(l:Lent ⟨h.sz,0,h.tr⟩ at' bs)(hk:k v h):PC P f (qbh (gAt at' h.sz) vs) h k :=
 ⟨_,_,λ_ h'=>hu.sc at' l h',hk⟩
end
section
variable {P:Program}{f:Nat}
def xb(q:IntKind)(p:List UInt8×Int):List AV:=[.s p.1,.i q p.2]
def qeO{q:IntKind}(p:List UInt8×Int):(xb q p).length=2:=rfl
def qha:IFn:=irJ 191 []
def qx:List (List UInt8×Int):=[([116,105,109,101],128),([109,110,116],131072),([99,103,114,111,117,112],33554432),([117,116,115],67108864),([105,112,99],134217728),([117,115,101,114],268435456),([112,105,100],536870912),([110,101,116],1073741824)]
def qEe(hc:Ck P f qha):qc P f [] (.agg (qx.flatMap (xb .u64))):=by
 refine Al ?_;simp only[qha,vI,simprocAttr];simp only[↓vS,vT,simprocAttr,qx,xb,zzv,List.flatMap_nil,vZ]
def qfc:IFn:=irJ 187 []
def zm:List (List UInt8×Int):=[([65,70,95,85,78,73,88],1),([65,70,95,73,78,69,84],2),([65,70,95,73,78,69,84,54],10),([65,70,95,78,69,84,76,73,78,75],16),([65,70,95,80,65,67,75,69,84],17),([65,70,95,66,76,85,69,84,79,79,84,72],31),([65,70,95,65,76,71],38),([65,70,95,86,83,79,67,75],40)]
def qAn(hc:Ck P f qfc):qc P f [] (.agg (zm.flatMap (xb .u32))):=by
 refine Al ?_;simp only[qfc,vI,simprocAttr];simp only[↓vS,vT,simprocAttr,zm,xb,zzv,List.flatMap_nil,vZ]
def qg9(a:Nat):IFn:=irJ 129 [191,a]
def qHz{g1:Nat}(hc:Ck P f (qg9 g1))(h1:qc P g1 [] (.agg (qx.flatMap (xb .u64)))):qc P f [] (.i .u64 2114060416):=by
 refine Al ?_;simp only[qg9,vI,simprocAttr];refine Ac ?_;refine h1.sc ?_;refine Ac ?_
 iterate 8
  refine qbj ?_;simp only[↓vS,vT,simprocAttr,qx,xb,zzv,List.flatMap_nil,Int.reduceLT,Int.reduceAdd,Int.reduceNeg,qC,(Af:orI .u64 0 128=128),(Af:orI .u64 128 131072=131200),(Af:orI .u64 131200 33554432=33685632),(Af:orI .u64 33685632 67108864=100794496),(Af:orI .u64 100794496 134217728=235012224),(Af:orI .u64 235012224 268435456=503447680),(Af:orI .u64 503447680 536870912=1040318592),(Af:orI .u64 1040318592 1073741824=2114060416)]
 exact Hd
def qb2(P:Program)(g esz bytes:Nat):Prop:=∀(n:Nat) (rows:List AV),rows.length=n*esz->qt rows=true->qQ rows=true->n<=qe->n*bytes<=qe->Own P g [.fz n rows] (.own 0 n) [.cells esz true true rows]
end
section
def rI(k:IntKind)(l:List Int):List AV:=l.map (.i k)
section
variable {k:IntKind}{l m:List Int}{j:Nat}
def xv:(rI k l).length=l.length:=by simp[rI]
def qd:qt (rI k l)=true:=qdg λ_=>rfl
def qEc:qQ (rI k l)=true:=quI λ_=>rfl
def xl:(rI k l)[j]?=(l[j]?).map (.i k):=by simp[rI]
def qlh:rI k l++rI k m=rI k (l++m):=by simp[rI]
def qHi{x:Int}:rI k [x]=[.i k x]:=rfl
def qtP{x:Int}:rI k (x::l) = .i k x::rI k l:=rfl
end
def rS(l:List (List UInt8)):List AV:=l.map .s
section
variable {l m:List (List UInt8)}{j:Nat}
def qpR:qt (rS l)=true:=qdg λ_=>rfl
def qHj:(rS l)[j]?=(l[j]?).map .s:=by simp[rS]
end
end
section
variable {P:Program}{f:Nat}
def zL{α:Type}(p:α->Bool):List α->Nat->Int
 | [],_=>-1
 | x::xs,j=>if p x=true then(j:Int)else zL p xs (j+1)
def qit{α:Type}(p:α->Bool):∀(l:List α) (j:Nat),(zL p l j = -1/\l.find? p=none)\/∃i x,zL p l j=((j+i:Nat):Int)/\l[i]?=some x/\p x=true/\l.find? p=some x/\∀k y,k<i->l[k]?=some y->p y=false
 | [],j=>.inl ⟨rfl,rfl⟩
 | x::xs,j=>by
  by_cases h:p x=true
  .refine .inr ⟨0,x,by simp[zL,h],rfl,h,by simp[h],λk y hk=>Ab⟩
  .rcases qit p xs (j+1)with⟨h1,h2⟩|⟨i,y,h1,h2,h3,h4,h5⟩
   .exact .inl ⟨by simp[zL,h,h1],Ae⟩
   .refine .inr ⟨i+1,y,?_,Gi,h3,by simp[h,h4],?_⟩
    all_goals grind[zL.eq_2]
def qwZ(P:Program)(f:Nat):Prop:=∀{α:Type}(enc:α->AV) (p:α->Bool) (g:Nat) (a c:List AV) (l:List α),qt a=true->qt c=true->l.length<=qe->
 (∀x ∈ l,qc P g (a++([enc x]++c)) (.b (p x)))->qc P f [.fz l.length (l.map enc),.fn g a c] (.i .i64 (zL p l 0))
def qcN(m:Nat)(P:Program)(f:Nat):Prop:=∀{α:Type}(enc:α->List AV) (p:α->Bool) (g:Nat) (a c:List AV) (l:List α),(∀x,(enc x).length=m)->qt a=true->qt c=true->l.length<=qe->
 (∀x ∈ l,qc P g (a++([.agg (enc x)]++c)) (.b (p x)))->qc P f [.fz l.length (l.flatMap enc),.fn g a c] (.i .i64 (zL p l 0))
def qal:IFn:=irJ 233 []
def qAo(hc:Ck P f qal):qwZ P f:=by
 intro α enc p g a c l ha hc' hl hp;refine Cv ?_;simp only[qal,vI,simprocAttr];refine Ac ?_;refine SL.loop (α:=Nat) (λj=>[(0,.fz l.length (l.map enc)),(1,.fn g a c),(7,.i .i64 l.length),(8,.i .i64 j)]) (λ_=>[]) (λj=>j<=l.length/\zL p l 0=zL p (l.drop j) j) (λj=>l.length-j) 0 [] ?_ ?_ ?_ rfl ?_ ?_
 .exact Dw
 .trivial
 .simp
 .simp
 rintro j ⟨hj,hI⟩ G ih;refine Ak ?_
 by_cases hlt:j<l.length
 .have hx:l[j]?=some l[j]:=Ae
  have hw:IntKind.wrap .i64 ((j:Int)+1)=(j:Int)+1:=qC Ab (by have:=hl;simp only[qe]at this;exact Ab)
  rw[zzf hlt,zL]at hI;simp only[↓vS,vT,simprocAttr,hlt,zzU,zzo,hx,zza,hw];refine(hp l[j] Ae).sc ?_
  by_cases hpx:p l[j]=true
  .exact A9
  .rw[if_neg hpx]at hI;refine Sb (zzA hpx hw) ?_;refine ih (j+1) ⟨Ab,hI⟩ Ab _ _ (Wk.mk _ _ [] ?_ ?_ ?_ rfl)
   .exact Dw
   .trivial
   .simp
 .refine Sb hlt ?_;rw[zzk Ab]at hI;simp[hI,zL,vZ]
def xZ:IFn:=irJ 185 []
def qx5(hc:Ck P f xZ):qcN 2 P f:=by
 intro α enc p g a c l hlen ha hc' hl hp;refine Cv ?_;simp only[xZ,vI,simprocAttr];refine Ac ?_;refine SL.loop (α:=Nat) (λj=>[(0,.fz l.length (l.flatMap enc)),(1,.fn g a c),(7,.i .i64 l.length),(8,.i .i64 j)]) (λ_=>[]) (λj=>j<=l.length/\zL p l 0=zL p (l.drop j) j) (λj=>l.length-j) 0 [] ?_ ?_ ?_ rfl ?_ ?_
 .exact Dw
 .trivial
 .simp
 .simp
 rintro j ⟨hj,hI⟩ G ih;refine Ak ?_
 by_cases hlt:j<l.length
 .have hx:l[j]?=some l[j]:=zzE hlt;have hw:IntKind.wrap .i64 ((j:Int)+1)=(j:Int)+1:=qC Ab (by have:=hl;simp only[qe]at this;exact Ab)
  have he:=qS hlen hx;have hb:j*2+2<=(l.flatMap enc).length:=by rw[qY hlen];exact Ab
  rw[zzf hlt,zL]at hI;refine Dr ?_;refine(hp l[j] (List.getElem_mem hlt)).sc ?_
  by_cases hpx:p l[j]=true
  .exact A9
  .rw[if_neg hpx]at hI;refine Sb (zzA hpx hw) ?_;refine ih (j+1) ⟨Ab,hI⟩ Ab _ _ (Wk.mk _ _ [] ?_ ?_ ?_ rfl)
   .exact Dw
   .trivial
   .simp
 .refine Sb hlt ?_;rw[zzk Ab]at hI;simp[hI,zL,vZ]
def xP:IFn:=irJ 286 []
def qx6(hc:Ck P f xP):qcN 7 P f:=by
 intro α enc p g a c l hlen ha hc' hl hp;refine Cv ?_;simp only[xP,vI,simprocAttr];refine Ac ?_;refine SL.loop (α:=Nat) (λj=>[(0,.fz l.length (l.flatMap enc)),(1,.fn g a c),(7,.i .i64 l.length),(8,.i .i64 j)]) (λ_=>[]) (λj=>j<=l.length/\zL p l 0=zL p (l.drop j) j) (λj=>l.length-j) 0 [] ?_ ?_ ?_ rfl ?_ ?_
 .exact Dw
 .trivial
 .simp
 .simp
 rintro j ⟨hj,hI⟩ G ih;refine Ak ?_
 by_cases hlt:j<l.length
 .have hx:l[j]?=some l[j]:=Ae
  have hw:IntKind.wrap .i64 ((j:Int)+1)=(j:Int)+1:=qC Ab (by have:=hl;simp only[qe]at this;exact Ab)
  have he:=qS hlen hx;have hb:j*7+7<=(l.flatMap enc).length:=by rw[qY hlen];exact Ab
  rw[zzf hlt,zL]at hI;refine Dr ?_;refine(hp l[j] Ae).sc ?_
  by_cases hpx:p l[j]=true
  .exact A9
  .rw[if_neg hpx]at hI;refine Sb (zzA hpx hw) ?_;refine ih (j+1) ⟨Ab,hI⟩ Ab _ _ (Wk.mk _ _ [] ?_ ?_ ?_ rfl)
   .exact Dw
   .trivial
   .simp
 .refine Sb hlt ?_;rw[zzk Ab]at hI;simp[hI,zL,vZ]
def jm:IFn:=irJ 186 []
def qtk(hc:Ck P f jm):qcN 2 P f:=by
 intro α enc p g a c l hlen ha hc' hl hp;refine Cv ?_;simp only[jm,vI,simprocAttr];refine Ac ?_;refine SL.loop (α:=Nat) (λj=>[(0,.fz l.length (l.flatMap enc)),(1,.fn g a c),(7,.i .i64 l.length),(8,.i .i64 j)]) (λ_=>[]) (λj=>j<=l.length/\zL p l 0=zL p (l.drop j) j) (λj=>l.length-j) 0 [] ?_ ?_ ?_ rfl ?_ ?_
 .exact Dw
 .trivial
 .simp
 .simp
 rintro j ⟨hj,hI⟩ G ih;refine Ak ?_
 by_cases hlt:j<l.length
 .have hx:l[j]?=some l[j]:=Ae
  have hw:IntKind.wrap .i64 ((j:Int)+1)=(j:Int)+1:=qC Ab (by have:=hl;simp only[qe]at this;exact Ab)
  have he:=qS hlen hx;have hb:j*2+2<=(l.flatMap enc).length:=by rw[qY hlen];exact Ab
  rw[zzf hlt,zL]at hI;refine Dr ?_;refine(hp l[j] Ae).sc ?_
  by_cases hpx:p l[j]=true
  .exact A9
  .rw[if_neg hpx]at hI;refine Sb (zzA hpx hw) ?_;refine ih (j+1) ⟨Ab,hI⟩ Ab _ _ (Wk.mk _ _ [] ?_ ?_ ?_ rfl)
   .exact Dw
   .trivial
   .simp
 .refine Sb hlt ?_;rw[zzk Ab]at hI;simp[hI,zL,vZ]
def zf:List (List UInt8×Int):=[([120,56,54,45,54,52],3221225534),([120,56,54],1073741827),([120,51,50],3221225534),([97,114,109],1073741864),([97,114,109,54,52],3221225655),([114,105,115,99,118,54,52],3221225715)]
def qiP:IFn:=irJ 184 []
def qEL(hc:Ck P f qiP):qc P f [] (.agg (zf.flatMap (xb .u32))):=by
 refine Al ?_;simp only[qiP,vI,simprocAttr];simp only[↓vS,vT,simprocAttr,zf,xb,zzv,List.flatMap_nil,vZ]
def qj4(a b:Nat):IFn:=irJ 117 [184,a,185,b]
def qob(P:Program)(f:Nat):Prop:=∀(p:List UInt8×Int->Bool) (g:Nat) (a c:List AV),qt a=true->qt c=true->(∀x ∈ zf,qc P g (a++([.agg (xb .u32 x)]++c)) (.b (p x)))->qc P f [.fn g a c] (.i .i64 (zL p zf 0))
def qHZ{g1 g2:Nat}(hc:Ck P f (qj4 g1 g2))(h1:qc P g1 [] (.agg (zf.flatMap (xb .u32))))(h2:qcN 2 P g2):qob P f:=by
 intro p g a c ha hcc hp;refine qc.mk hc If ?_;simp only[qj4,vI,simprocAttr];refine Ac ?_;refine h1.sc ?_;refine H2 ?_;refine(h2 (xb .u32) p g a c zf qeO ha hcc Af hp).lend (vs':=[.fz 6 (zf.flatMap (xb .u32)),.fn g a c]) ?_ rfl ?_
 .refine .cons _ _ _ _ (.cut 2 rfl (zzL _) ?_) (.cons _ _ _ _ (.fn _ _ _ _ _ (Frzs.self ha) (Frzs.self hcc)) .nil);simp[vw,zf,xb]
 simp only[↓vS,vT,simprocAttr,vZ,zf]
end
section
structure GCall where
 name:List UInt8
 act:Int
def qfW(c:GCall):List AV:=[.s c.name,.i .u32 c.act]
structure GNote where
 file:List UInt8
 line:Int
 err:Int
 text:List UInt8
structure Asg where
 file:List UInt8
 line:Int
 sec:List UInt8
 key:List UInt8
 val:List UInt8
def qin(c:GCall):(qfW c).length=2:=rfl
def rC(l:List GCall):List AV:=l.flatMap qfW
section
variable {l m:List GCall}{j:Nat}
def qHg:(rC l).length=l.length*2:=qY qin l
def qg:qt (rC l)=true:=jk λ_=>rfl
def qpL{c:GCall}(h:l[j]?=some c):((rC l).drop (j*2)).take 2=qfW c:=qS qin h
def qgL{c:GCall}(h:l[j]?=some c){i:Nat}(hi:i<2):(rC l)[j*2+i]?=(qfW c)[i]?:=zq qin h hi
def qnr(h:j<l.length):j*2+2<=(rC l).length:=by rw[qHg];exact Ab
end
structure GList where
 mode:Int
 calls:List GCall
def xN(l:GList):List AV:=[.i .u8 l.mode,.fz l.calls.length (rC l.calls)]
structure Pol where
 arches:List Int
 filter:GList
 deny:Int
 log:GList
 fams:List Int
 fmode:Int
 spaces:Int
 we:Bool
 pe:Bool
 rt:Bool
 np:Bool
def qm(p:Pol):List AV:=[.fz p.arches.length (rI .i64 p.arches),.i .u8 p.filter.mode,.fz p.filter.calls.length (rC p.filter.calls),.i .u32 p.deny,.i .u8 p.log.mode,.fz p.log.calls.length (rC p.log.calls),
 .fz p.fams.length (rI .u32 p.fams),.i .u8 p.fmode,.i .u64 p.spaces,.b p.we,.b p.pe,.b p.rt,.b p.np]
def qfX(p:Pol):qt (qm p)=true:=rfl
end
section
variable {P:Program}{f:Nat}
theorem qb2.pure{g esz by':Nat}(h:qb2 P g esz by'){n:Nat}{rows:List AV}(hl:rows.length=n*esz)(hc:qt rows=true)(ho:qQ rows=true)(h1:n<=qe)(h2:n*by'<=qe):qc P g [.fz n rows] (.fz n rows):=by
 refine(h n rows hl hc ho h1 h2).pure Ea ?_;refine .own 0 n esz true rows rows ?_ (λh0=>?_) (Frzs.self hc)
 .simp[qam,Hp.push,shb,H0,zz4,xw hc]
 .subst h0;exact List.eq_nil_of_length_eq_zero Ab
structure PolOk (p:Pol):Prop where
 a:p.arches.length<=1000
 f:p.fams.length<=1000
 c:p.filter.calls.length<=1000
 l:p.log.calls.length<=1000
end
section
def qIU(p:Pol):Prop:=p.arches.Pairwise (· < ·)/\p.fams.Pairwise (· < ·)
instance (p:Pol):Decidable (qIU p):=inferInstanceAs (Decidable (_/\_))
end
section
variable {P:Program}{f:Nat}
def qhM:IFn:=irJ 190 []
def qiF(n:Int):Bool:=decide (n=0)||decide (n=2147483648)||(decide (327680<=n)&&decide (n<=331775))
def qDs(hc:Ck P f qhM)(n:Int):qc P f [.i .u32 n] (.b (qiF n)):=by
 refine Al ?_;simp only[qhM,vI,simprocAttr]
 by_cases h1:n=0
 .refine Sb h1 ?_;simp[vZ,qiF,h1]
 by_cases h2:n=2147483648
 .refine Sb (zzA h1 h2) ?_;simp[vZ,qiF,h2]
 by_cases h3:327680<=n
 .by_cases h4:n<=331775
  .simp only[↓vS,vT,simprocAttr,h1,h2,h3,h4];simp[vZ,qiF,h3,h4]
  .simp only[↓vS,vT,simprocAttr,h1,h2,h3,h4];simp[vZ,qiF,h1,h2,h4]
 .refine Sb (zzA h1 (zzA h2 h3)) ?_;simp[vZ,qiF,h1,h2,h3]
def vh(l:List GCall)(s:List UInt8):Option GCall:=l.find? (λc=>decide (c.name=s))
def zo:List (List UInt8×List Int):=[([98,105,110,100],[49,361,49,282,200,200]),([98,112,102],[321,357,321,386,280,280]),([98,114,107],[12,45,12,45,214,214]),([99,108,111,99,107,95,115,101,116,116,105,109,101],[227,264,227,262,112,112]),([99,108,111,110,101],[56,120,56,120,220,220]),([99,108,111,110,101,51],[435,435,(-1),435,435,435]),([99,108,111,115,101],[3,6,3,6,57,57]),([99,111,110,110,101,99,116],[42,362,42,283,203,203]),([100,101,108,101,116,101,95,109,111,100,117,108,101],[176,129,176,129,106,106]),([101,120,101,99,118,101],[59,11,520,11,221,221]),([101,120,105,116],[60,1,60,1,93,93]),([102,105,110,105,116,95,109,111,100,117,108,101],[313,350,313,379,273,273]),([102,111,114,107],[57,2,57,2,(-1),(-1)]),([103,101,116,117,105,100],[102,24,102,24,174,174]),([105,110,105,116,95,109,111,100,117,108,101],[175,128,(-1),128,105,105]),([105,111,99,116,108],[16,54,514,54,29,29]),([107,105,108,108],[62,37,62,37,129,129]),([108,105,115,116,101,110],[50,363,50,284,201,201]),([109,109,97,112],[9,90,9,(-1),222,222]),([109,111,117,110,116],[165,21,165,21,40,40]),([109,112,114,111,116,101,99,116],[10,125,10,125,226,226]),([109,117,110,109,97,112],[11,91,11,91,215,215]),([111,112,101,110],[2,5,2,5,(-1),(-1)]),([111,112,101,110,97,116],[257,295,257,322,56,56]),([112,101,114,115,111,110,97,108,105,116,121],[135,136,135,136,92,92]),([112,107,101,121,95,109,112,114,111,116,101,99,116],[329,380,329,394,288,(-1)]),([112,116,114,97,99,101],[101,26,521,26,117,117]),([114,101,97,100],[0,3,0,3,63,63]),([114,101,98,111,111,116],[169,88,169,88,142,142]),([115,99,104,101,100,95,115,101,116,97,116,116,114],[314,351,314,380,274,274]),([115,99,104,101,100,95,115,101,116,115,99,104,101,100,117,108,101,114],[144,156,144,156,119,119]),([115,101,99,99,111,109,112],[317,354,317,383,277,277]),([115,101,116,110,115],[308,346,308,375,268,268]),([115,101,116,116,105,109,101,111,102,100,97,121],[164,79,164,79,170,170]),([115,101,116,117,105,100],[105,23,105,23,146,146]),([115,104,109,97,116],[30,397,(-1),305,196,196]),([115,111,99,107,101,116],[41,359,41,281,198,198]),([117,109,111,117,110,116,50],[166,52,166,52,39,39]),([117,110,115,104,97,114,101],[272,310,272,337,97,97]),([119,114,105,116,101],[1,4,1,4,64,64])]
def qbD(x:List UInt8×List Int):List AV:=[.s x.1,.i .i64 (x.2.getD 0 0),.i .i64 (x.2.getD 1 0),.i .i64 (x.2.getD 2 0),.i .i64 (x.2.getD 3 0),.i .i64 (x.2.getD 4 0),.i .i64 (x.2.getD 5 0)]
def qrD(x:List UInt8×List Int):(qbD x).length=7:=rfl
def qrV(n:Nat):List AV:=List.replicate n (.i .i64 0)
def qhI:IFn:=⟨[.cell 0 280 true],.seq (.r [.q 0 (.alloc ((List.replicate 40 (AV.s []::qrV 6)).flatten))]) (.seq (.r ((zo.zipIdx.flatMap λp=>[.q (2*p.2+1) (.build (qrV 6) (p.1.2.zipIdx.map λq=>(q.2,1,.k q.1))),.q (2*p.2+2) (.build (AV.s []::qrV 6) [(0,1,.c (.s p.1.1)),(1,6,.t (2*p.2+1))])]) ++
 [.q 81 (.build ((List.replicate 40 (AV.s []::qrV 6)).flatten) ((List.range 40).map λi=>(7*i,7,.t (2*i+2)))),⟨none,.op (.store 280 (.t 0) (.t 81)),none⟩])) .ret)⟩
def qHI(hc:Ck P f qhI):qc P f [] (.agg (zo.flatMap qbD)):=by
 refine Al ?_;simp only[qhI,qrV,List.replicate,List.flatten_cons,List.flatten_nil,zo,List.zipIdx_cons,List.zipIdx_nil,zzv,List.flatMap_nil,zz3,List.map_nil,zzC,zzN,List.range,List.range.loop,vI,simprocAttr];simp only[↓vS,vT,simprocAttr,zo,qbD,zzv,List.flatMap_nil,List.getD_cons_zero,List.getD_cons_succ,vZ]
def qf4:IFn:=irJ 246 []
def qDS(hc:Ck P f qf4)(s:List UInt8)(x:List UInt8×List Int):qc P f [.agg (qbD x),.pf [.s s] 0] (.b (decide (x.1=s))):=by
 refine qc.mk hc (by simp[qt,clo,qbD]) ?_;simp only[qf4,qbD,vI,simprocAttr];exact Cu
def qiQ(a b:Nat):IFn:=irJ 245 [285,a,286,b]
def qpU(p:List UInt8×List Int->Bool):AV:=match zo.find? p with|some x=>.tup [.agg (qbD x),.b true]|none=>.tup [.agg [.s [],.i .i64 0,.i .i64 0,.i .i64 0,.i .i64 0,.i .i64 0,.i .i64 0],.b false]
def qFa{g1 g2:Nat}(hc:Ck P f (qiQ g1 g2))(h1:qc P g1 [] (.agg (zo.flatMap qbD)))(h2:qcN 7 P g2)(p:List UInt8×List Int->Bool)(g:Nat)(a c:List AV)(ha:qt a=true)(hcc:qt c=true)
  (hp:∀x ∈ zo,qc P g (a++([.agg (qbD x)]++c)) (.b (p x))):qc P f [.fn g a c] (qpU p):=by
 refine qc.mk hc If ?_;simp only[qiQ,vI,simprocAttr];refine Ac ?_;refine h1.sc ?_;have hlen:(zo.flatMap qbD).length=280:=Af
 have hok:qQ (zo.flatMap qbD)=true:=Af
 have hcl:qt (zo.flatMap qbD)=true:=Af
 generalize hT:zo.flatMap qbD=T at hlen hok hcl;have htk:T.take 280=T:=zzt Ab;refine Sb (zzA hlen hok) ?_;refine(h2 qbD p g a c zo qrD ha hcc Af hp).lend (vs':=[.fz 40 (zo.flatMap qbD),.fn g a c]) ?_ rfl ?_
 .refine .cons _ _ _ _ (.cut 7 rfl (zzL _) ?_) (.cons _ _ _ _ (.fn _ _ _ _ _ (Frzs.self ha) (Frzs.self hcc)) .nil);rw[hT];simp[vw,hlen,htk,qP hcl]
 rcases qit p zo 0 with⟨e1,e2⟩|⟨i,x,e1,e2,e3,e4,e5⟩
 .rw[e1];refine Ac ?_;simp[vZ,qpU,e2]
 .have hi:i<40:=(zzS.1 e2).1;have hn:¬(i:Int)<0:=Ab
  have he:(T.drop (i*7)).take 7=qbD x:=by rw[<- hT];exact qS (f:=qbD) (m:=7) qrD e2
  have hb:i*7<=273:=Ab
  rw[e1,Nat.zero_add];simp only[↓vS,vT,simprocAttr,hn,hi,he,hb,hlen,qbD];simp[vZ,qpU,e4,qbD]
def qhH(a b:Nat):IFn:=irJ 189 [246,a,245,b]
def qa5(s:List UInt8):Bool:=(zo.find? (λx=>decide (x.1=s))).isSome
def qFZ{g1 g2:Nat}(hc:Ck P f (qhH g1 g2))(h1:∀s x,qc P g1 [.agg (qbD x),.pf [.s s] 0] (.b (decide (x.1=s))))
  (h2:∀(p:List UInt8×List Int->Bool) (g:Nat) (a c:List AV),qt a=true->qt c=true->(∀x ∈ zo,qc P g (a++([.agg (qbD x)]++c)) (.b (p x)))->qc P g2 [.fn g a c] (qpU p)) (s:List UInt8):qc P f [.s s] (.b (qa5 s)):=by
 refine Al ?_;simp only[qhH,vI,simprocAttr];refine Ac ?_;refine(h2 (λx=>decide (x.1=s)) g1 [] [.pf [.s s] 0] rfl rfl (λx _=>h1 s x)).lend (vs':=[.fn g1 [] [.pf [.s s] 0]]) ?_ ?_ ?_
 .exact Fg
 .unfold qpU;split<;>rfl
 unfold qpU qa5;cases zo.find? (λx=>decide (x.1=s))with
 | none =>
  refine Ac ?_;simp[vZ]
 | some x =>
  simp only[↓vS,vT,simprocAttr,qbD];simp[vZ]
def okC(c:GCall):Bool:=qa5 c.name&&qiF c.act
def ji:Option GCall->List GCall->Bool
 | _,[]=>true
 | o,c::l=>okC c&&(o.elim true λb=>ltS b.name c.name)&&ji (some c) l
def qad(l:GList):Bool:=decide (l.mode<=2)&&(decide (l.mode≠0)||decide (l.calls=[]))&&ji none l.calls
def qey(a b:Nat):ICode:=icJ 128 [189,a,190,b] 7
def qlC(a b:Nat):IFn:=irJ 128 [189,a,190,b] [7] [qey a b]
def qyO{g1 g2:Nat}(h1:∀s,qc P g1 [.s s] (.b (qa5 s)))(h2:∀n,qc P g2 [.i .u32 n] (.b (qiF n)))(l:GList)(hl:l.calls.length<=100000){t':Tr AV}{h':Hp}(hw:Wk 0 t' h' (mkT [(1,.ptr 0 0),(2,.b false)]) (mkH 0 [.cells 0 true false (xN l)])) :
  S P 0 (qey g1 g2) (zQ [.tmp 2] λv' h'=>Frz h' v' (.b (ji none l.calls))) t' h':=by
 refine Ay ?_;simp only[qey,xN,vI,simprocAttr];refine Ac ?_
 refine SL.loop (α:=Nat) (λj=>[(1,.ptr 0 0),(2,.b false),(20,.fz l.calls.length (rC l.calls)),(21,.i .i64 l.calls.length),(22,.i .i64 j)]) (λ_=>[.cells 0 true false (xN l)])
  (λj=>j<=l.calls.length/\ji none l.calls=ji (if j=0 then none else l.calls[j-1]?) (l.calls.drop j)) (λj=>l.calls.length-j) 0 [0] ?_ ?_ ?_ rfl ?_ ?_
 .simp[vw,qg]
 .simp[vw,xN]
 .simp
 .exact Ae
 rintro j ⟨hj,hI⟩ G ih;simp only[vI,simprocAttr,xN]
 by_cases hlt:j<l.calls.length
 .have hx:l.calls[j]?=some l.calls[j]:=Ae
  have he:=qpL hx;have hb:=qnr hlt;have hw:=wS j;rw[zzf hlt,ji]at hI;have hnx:l.calls[j]?=some l.calls[j]:=hx;generalize hc0:l.calls[j]=c at hI he hx;simp only[↓vS,vT,simprocAttr,hlt,hb,he,qfW];refine qX ?_;refine Ac ?_;refine(h1 c.name).pc ?_;cases hk:qa5 c.name with
  | false =>
   have hw:ji none l.calls=false:=by rw[hI];simp[okC,hk]
   refine Ac ?_;simp[vZ,hw]
  | true =>
   refine Ac ?_;refine(h2 c.act).pc ?_;cases hac:qiF c.act with
   | false =>
    have hw:ji none l.calls=false:=by rw[hI];simp[okC,hac]
    refine Ac ?_;simp[vZ,hw]
   | true =>
    have hok:okC c=true:=by simp[okC,hk,hac]
    by_cases h0:j=0
    .subst h0;have hn:¬(0:Int)<((0:Nat):Int):=Af
     refine Sb (zzA hn hw) ?_;refine ih 1 ⟨Ab,?_⟩ Ab _ _ (Wk.mk _ _ [0] ?_ ?_ ?_ rfl)
     .rw[hI,hok];exact Ag
     .simp[vw,qg]
      exact Ae
     .simp[vw,xN]
     .simp
    .have hp:(0:Int)<(j:Int):=Ab
     have hpl:j-1<l.calls.length:=Ab
     have hy:l.calls[j-1]?=some l.calls[j-1]:=Ae
     have hw2:IntKind.wrap .i64 ((j:Int)-1)=((j-1:Nat):Int):=by rw[qC Ab Ab];exact Ab
     have g0:(rC l.calls)[(j-1)*2]?=some (.s l.calls[j-1].name):=qgL hy (i:=0) Af;rw[if_neg h0,hy]at hI;cases hlt2:ltS l.calls[j-1].name c.name with
     | false =>
      have hwf:ji none l.calls=false:=by rw[hI];exact Ae
      exact Ic
     | true =>
      simp only[↓vS,vT,simprocAttr,hp,hw2,hpl,g0,hlt2,hw];refine ih (j+1) ⟨Ab,?_⟩ Ab _ _ (Wk.mk _ _ [0] ?_ ?_ ?_ rfl)
      .rw[hI,hok];exact Ae
      .simp[vw,qg]
      .simp[vw,xN]
      .simp
 .rw[List.drop_of_length_le Ab,ji]at hI;exact Ft
def qKh{g1 g2:Nat}(hc:Ck P f (qlC g1 g2))(h1:∀s,qc P g1 [.s s] (.b (qa5 s)))(h2:∀n,qc P g2 [.i .u32 n] (.b (qiF n)))(l:GList)(hl:l.calls.length<=100000):qc P f [.agg (xN l)] (.b (qad l)):=by
 refine Al ?_;simp only[qlC,xN,vI,simprocAttr]
 by_cases m1:2<l.mode
 .have hw:qad l=false:=by simp[qad];exact Ab
  refine Sb m1 ?_;simp[vZ,hw]
 have tail:(l.mode≠0\/l.calls=[])->qad l=ji none l.calls:=λh=>by
  have:(decide (l.mode<=2)&&(decide (l.mode≠0)||decide (l.calls=[])))=true:=Ae
  unfold qad;rw[this];rfl
 by_cases m2:l.mode=0
 .by_cases m3:(0:Int)<l.calls.length
  .have hne:l.calls≠[]:=Ag
   exact Fm
  .have hz:l.calls=[]:=Ae
   rw[tail (.inr hz)];refine Sb (zzA m1 (zzA m2 m3)) ?_;refine qyO h1 h2 l hl (Wk.mk _ _ [0] ?_ ?_ ?_ rfl)
   .simp[vw]
   .simp[vw,xN,m2]
   .simp
 .rw[tail (.inl m2)];refine Ek ?_;refine qyO h1 h2 l hl (Wk.mk _ _ [0] ?_ ?_ ?_ rfl)
  .simp[vw]
  .simp[vw,xN]
  .simp
def qMY(P:Program)(f:Nat):Prop:=∀l:GList,l.calls.length<=100000->qc P f [.agg (xN l)] (.b (qad l))
end
section
theorem qtw:∀a:List UInt8,ltS a a=false
 | []=>rfl
 | c::x=>by rw[qrh,if_neg (UInt8.lt_irrefl c),if_pos rfl];exact qtw x
theorem qoA:∀{a b c:List UInt8},ltS a b=true->ltS b c=true->ltS a c=true
 | _,[],[],_,h2=>Ab
 | _,_::_,[],_,h2=>by simp_all[qri]
 | [],_,_::_,_,_=>rfl
 | _::_,[],_::_,h1,_=>by simp_all[qri]
 | a::x,b::y,c::z,h1,h2=>by
  rw[qrh]at h1 h2 ⊢;simp only[UInt8.lt_iff_toNat_lt,<- UInt8.toNat_inj]at h1 h2 ⊢
  by_cases e1:a.toNat<b.toNat
  .exact Ag
  .rw[if_neg e1]at h1;split at h1
   .rename_i e3
    by_cases e2:b.toNat<c.toNat
    .rw[if_pos Ab]
    .rw[if_neg e2]at h2;split at h2
     .rw[if_neg Ab,if_pos Ab];exact qoA h1 h2
     .cases h2
   exact Ae
def qGd{a b:List UInt8}(h:ltS a b=true):a≠b:=by
 grind[qtw]
def Up(l:List GCall):Prop:=l.Pairwise λa b=>ltS a.name b.name=true
def qnK:∀(o:Option GCall) (l:List GCall),ji o l=true↔((∀c ∈ l,okC c=true)/\Up l/\∀b,o=some b->∀c ∈ l,ltS b.name c.name=true)
 | o,[]=>by simp[ji,Up]
 | o,c::l=>by
  have ih:=qnK (some c) l;simp only[ji,zzB,ih,Up,List.pairwise_cons,zzc,forall_eq_or_imp];constructor
  .grind[qoA]
  .rintro⟨⟨h1,h3⟩,⟨h5,h4⟩,h6⟩;refine⟨⟨h1,?_⟩,h3,h4,?_⟩
   .cases o with
    | none=>rfl
    | some b=>exact(h6 b rfl).1
   exact Ae
def qyN(l:GList):qad l=true↔(l.mode<=2/\(l.mode≠0\/l.calls=[]))/\(∀c ∈ l.calls,okC c=true)/\Up l.calls:=by
 unfold qad;rw[zzB,zzB,zzO,zzb,zzb,zzb,qnK];simp
def qsj{c:GCall}{l:List GCall}:vh (c::l) c.name=some c:=by unfold vh;rw[List.find?_cons];simp
def qsk{c:GCall}{l:List GCall}{t:List UInt8}(h:t≠c.name):vh (c::l) t=vh l t:=by unfold vh;rw[List.find?_cons];simp[Ne.symm h]
def qso{s:List UInt8}(h:qa5 s=true):s ∈ zo.map (·.1):=by
 unfold qa5 at h;obtain⟨x,hx⟩:=zzx.1 h;have h1:=List.mem_of_find?_eq_some hx;have h2:=List.find?_some hx;exact zzl.2 ⟨x,h1,of_decide_eq_true h2⟩
end
section
variable {P:Program}{f:Nat}
def qkT(P:Program)(f:Nat):Prop:=∀(l:GList) (s:List UInt8),l.calls.length<=100000->qc P f [.agg (xN l),.s s] (.tup [.i .u32 (match vh l.calls s with|some c=>c.act|none=>0),.b (vh l.calls s).isSome])
def qnn(a:Asg)(n:GNote):GNote:=⟨a.file,a.line,n.err,n.text⟩
def qho:List (List UInt8×List Int):=[([98,105,110,100],[49,361,1073741873,282,200,200]),([98,112,102],[321,357,1073742145,386,280,280]),([98,114,107],[12,45,1073741836,45,214,214]),([99,108,111,99,107,95,115,101,116,116,105,109,101],[227,264,1073742051,262,112,112]),([99,108,111,110,101],[56,120,1073741880,120,220,220]),([99,108,111,110,101,51],[435,435,-1,435,435,435]),([99,108,111,115,101],[3,6,1073741827,6,57,57]),([99,111,110,110,101,99,116],[42,362,1073741866,283,203,203]),([100,101,108,101,116,101,95,109,111,100,117,108,101],[176,129,1073742000,129,106,106]),([101,120,101,99,118,101],[59,11,1073742344,11,221,221]),([101,120,105,116],[60,1,1073741884,1,93,93]),([102,105,110,105,116,95,109,111,100,117,108,101],[313,350,1073742137,379,273,273]),([102,111,114,107],[57,2,1073741881,2,-1,-1]),([103,101,116,117,105,100],[102,24,1073741926,24,174,174]),([105,110,105,116,95,109,111,100,117,108,101],[175,128,-1,128,105,105]),([105,111,99,116,108],[16,54,1073742338,54,29,29]),([107,105,108,108],[62,37,1073741886,37,129,129]),([108,105,115,116,101,110],[50,363,1073741874,284,201,201]),([109,109,97,112],[9,90,1073741833,-1,222,222]),([109,111,117,110,116],[165,21,1073741989,21,40,40]),([109,112,114,111,116,101,99,116],[10,125,1073741834,125,226,226]),([109,117,110,109,97,112],[11,91,1073741835,91,215,215]),([111,112,101,110],[2,5,1073741826,5,-1,-1]),([111,112,101,110,97,116],[257,295,1073742081,322,56,56]),([112,101,114,115,111,110,97,108,105,116,121],[135,136,1073741959,136,92,92]),([112,107,101,121,95,109,112,114,111,116,101,99,116],[329,380,1073742153,394,288,-1]),([112,116,114,97,99,101],[101,26,1073742345,26,117,117]),([114,101,97,100],[0,3,1073741824,3,63,63]),([114,101,98,111,111,116],[169,88,1073741993,88,142,142]),([115,99,104,101,100,95,115,101,116,97,116,116,114],[314,351,1073742138,380,274,274]),([115,99,104,101,100,95,115,101,116,115,99,104,101,100,117,108,101,114],[144,156,1073741968,156,119,119]),([115,101,99,99,111,109,112],[317,354,1073742141,383,277,277]),([115,101,116,110,115],[308,346,1073742132,375,268,268]),([115,101,116,116,105,109,101,111,102,100,97,121],[164,79,1073741988,79,170,170]),([115,101,116,117,105,100],[105,23,1073741929,23,146,146]),([115,104,109,97,116],[30,397,-1,305,196,196]),([115,111,99,107,101,116],[41,359,1073741865,281,198,198]),([117,109,111,117,110,116,50],[166,52,1073741990,52,39,39]),([117,110,115,104,97,114,101],[272,310,1073742096,337,97,97]),([119,114,105,116,101],[1,4,1073741825,4,64,64])]
def qv0(x:List UInt8×List Int):List AV:=[.s x.1,.fz 6 (rI .i64 x.2)]
def qrC(x:List UInt8×List Int):(qv0 x).length=2:=rfl
def qsH:qho.map (·.1)=zo.map (·.1):=rfl
def qJz(P:Program)(f:Nat):Prop:=qc P f [] (.fz 40 (qho.flatMap qv0))
theorem qm8(s:List UInt8):qa5 s=true↔s ∈ qho.map (·.1):=by
 rw[qsH];constructor
 .exact qso
 .intro h;obtain⟨x,hx,rfl⟩:=zzl.1 h;unfold qa5;rw[List.find?_isSome]
  exact Ae
def qbR(a:Nat):IFn:=irJ 135 [200,a]
def qLU{g1:Nat}(hc:Ck P f (qbR g1))(h1:qJz P g1)(s:List UInt8):qc P f [.s s] (.b (qa5 s)):=by
 refine Al ?_;simp only[qbR,vI,simprocAttr];refine Ac ?_;refine h1.sc ?_;have h40:qho.length=40:=Af
 have hlen:(qho.flatMap qv0).length=80:=by rw[qY qrC,h40]
 have hcl:qt (qho.flatMap qv0)=true:=jk λ_=>rfl
 have hget:∀j r,qho[j]?=some r->(qho.flatMap qv0)[j*2]?=some (.s r.1):=λj r h=>zq (m:=2) qrC h (i:=0) Af
 generalize hT:qho.flatMap qv0=T at hlen hcl hget;refine Ac ?_;refine SL.loop (α:=Nat) (λj=>[(0,.s s),(3,.fz 40 T),(4,.i .i64 j)]) (λ_=>[]) (λj=>j<=40/\∀r ∈ qho.take j,r.1≠s) (λj=>40-j) 0 [] ?_ ?_ ?_ rfl ?_ ?_
 .simp[vw,hcl]
 .trivial
 .simp
 .exact Ae
 rintro j ⟨hj,hI⟩ G ih;refine Ak ?_
 by_cases hlt:j<40
 .have hx:qho[j]?=some (qho[j]' Ab):=Ae
  have hw:=wS j;have hlt':(j:Int)<40:=Ab
  have ht:qho.take (j+1)=qho.take j++[qho[j]' Ab]:=by rw[zz2,hx];rfl
  have hmem:(qho[j]' Ab) ∈ qho:=List.getElem_mem _;have g0:=hget j _ hx;generalize(qho[j]' Ab)=r at hx ht hmem g0
  by_cases he:r.1=s
  .have hk:qa5 s=true:=(qm8 s).2 Ag;simp only[↓vS,vT,simprocAttr,hlt,hlt',g0,he];simp[vZ,hk]
  .simp only[↓vS,vT,simprocAttr,hlt,hlt',g0,he,hw];refine ih (j+1) ⟨Ab,?_⟩ Ab _ _ (Wk.mk _ _ [] ?_ ?_ ?_ rfl)
   .exact Ag
   .simp[vw,hcl]
   .trivial
   .simp
 .have hlt':¬(j:Int)<40:=Ab
  have hk:qa5 s=false:=by
   rw[Bool.eq_false_iff]
   grind[qm8]
  refine Sb hlt' ?_;simp[vZ,hk]
def Rng(l:List GCall):Prop:=∀c ∈ l,0<=c.act/\c.act<=4294967295
def qqt(P:Program)(f:Nat):Prop:=∀l:GList,l.calls.length<=100000->Rng l.calls->qc P f [.agg (xN l)] (.b (qad l))
def qjC{a:Int}(h:0<=a):a=65536*a.tdiv 65536+a.tmod 65536/\0<=a.tmod 65536/\a.tmod 65536<65536:=by
 rw[Int.tdiv_eq_ediv_of_nonneg h,Int.tmod_eq_emod_of_nonneg h];exact Ab
def qii{a:Int}(h0:0<=a)(h1:a<=4294967295):0<=a.tdiv 65536/\a.tdiv 65536<4294967296:=by
 have:=qjC h0;exact Ab
def qec{a:Int}(h0:0<=a)(h1:a<=4294967295):qiF a=(decide (a=0)||decide (a=2147483648)||(decide (a.tdiv 65536=5)&&decide (a.tmod 65536<=4095))):=by
 have:=qjC h0;unfold qiF;rw[Bool.eq_iff_iff]
 exact Ag
def wN(a:Nat):ICode:=icJ 76 [135,a] 7
def qcF(a:Nat):IFn:=irJ 76 [135,a] [7] [wN a]
def qrm{g1:Nat}(h1:∀s,qc P g1 [.s s] (.b (qa5 s)))(l:GList)(hl:l.calls.length<=100000)(hR:Rng l.calls){t':Tr AV}{h':Hp}(hw:Wk 0 t' h' (mkT [(1,.ptr 0 0),(2,.b false)]) (mkH 0 [.cells 0 true false (xN l)])) :
  S P 0 (wN g1) (zQ [.tmp 2] λv' h'=>Frz h' v' (.b (ji none l.calls))) t' h':=by
 refine Ay ?_;simp only[wN,xN,vI,simprocAttr];refine Ac ?_
 refine SL.loop (α:=Nat) (λj=>[(1,.ptr 0 0),(2,.b false),(3,.i .i64 j)]) (λ_=>[.cells 0 true false (xN l)])
  (λj=>j<=l.calls.length/\ji none l.calls=ji (if j=0 then none else l.calls[j-1]?) (l.calls.drop j)) (λj=>l.calls.length-j) 0 [0] ?_ ?_ ?_ rfl ?_ ?_
 .simp[vw,qg]
 .simp[vw,xN]
 .simp
 .exact Ae
 rintro j ⟨hj,hI⟩ G ih;simp only[vI,simprocAttr,xN]
 by_cases hlt:j<l.calls.length
 .have hx:l.calls[j]?=some l.calls[j]:=Ae
  have g0:(rC l.calls)[j*2]?=some (.s l.calls[j].name):=qgL hx (i:=0) Af;have g1:(rC l.calls)[j*2+1]?=some (.i .u32 l.calls[j].act):=qgL hx (i:=1) Af;have hw:=wS j;rw[zzf hlt,ji]at hI;obtain⟨r0,r1⟩:=hR l.calls[j] Ae;generalize hc0:l.calls[j]=c at hI hx g0 g1 r0 r1;refine Sb (zzA hlt g1) ?_;refine qX ?_;refine Sb (zzA hlt g0) ?_;refine(h1 c.name).pc ?_;cases hk:qa5 c.name with
  | false =>
   have hw:ji none l.calls=false:=by rw[hI];simp[okC,hk]
   refine Ac ?_;simp[vZ,hw]
  | true =>
   by_cases h0:j=0
   .subst h0;have hn:¬(0:Int)<((0:Nat):Int):=Af
    have hw:IntKind.wrap .i64 (((0:Nat):Int)+1)=((1:Nat):Int):=Af
    have hw':IntKind.wrap .i64 (0+1)=((1:Nat):Int):=Af
    have h65:(65536:Int)≠0:=Af
    by_cases e0:c.act=0
    .have hok:okC c=true:=by simp[okC,hk,qiF,e0]
     refine Sb (zzA hn (zzA e0 hw)) ?_;refine ih 1 ⟨Ab,?_⟩ Ab _ _ (Wk.mk _ _ [0] ?_ ?_ ?_ rfl)
     .rw[hI,hok];exact Ag
     .simp[vw,qg]
      exact Ae
     .simp[vw,xN]
     .simp
    by_cases e1:c.act=2147483648
    .have hok:okC c=true:=by simp[okC,hk,qiF,e1]
     simp only[↓vS,vT,simprocAttr,hn,e0,e1,hw];refine ih 1 ⟨Ab,?_⟩ Ab _ _ (Wk.mk _ _ [0] ?_ ?_ ?_ rfl)
     .rw[hI,hok];exact Ag
     .simp[vw,qg]
      exact Ae
     .simp[vw,xN]
     .simp
    by_cases e2:c.act.tdiv 65536=5
    .have hwq:IntKind.wrap .u32 (c.act.tdiv 65536)=5:=by rw[e2];exact Af
     by_cases e3:4095<c.act.tmod 65536
     .have e3':¬c.act.tmod 65536<=4095:=Ab
      have hwf:ji none l.calls=false:=I3
      simp only[↓vS,vT,simprocAttr,hn,e0,e1,↓zk h65,↓zW h65,hwq,e3];simp[vZ,hwf]
     .have hok:okC c=true:=by simp[okC,hk,qec r0 r1,e0,e1,e2,e3];exact Ab
      simp only[↓vS,vT,simprocAttr,hn,e0,e1,↓zk h65,↓zW h65,hwq,e3,hw];refine ih 1 ⟨Ab,?_⟩ Ab _ _ (Wk.mk _ _ [0] ?_ ?_ ?_ rfl)
      .rw[hI,hok];exact Ag
      .simp[vw,qg]
       exact Ae
      .simp[vw,xN]
      .simp
    .have hwq:¬IntKind.wrap .u32 (c.act.tdiv 65536)=5:=by rw[qao (qii r0 r1).1 (by have:=(qii r0 r1).2;exact Ab)];exact e2
     have hwf:ji none l.calls=false:=Jo
     simp only[↓vS,vT,simprocAttr,hn,e0,e1,↓zk h65,hwq];simp[vZ,hwf]
   .have hp:(0:Int)<(j:Int):=Ab
    have hpl:j-1<l.calls.length:=Ab
    have hy:l.calls[j-1]?=some l.calls[j-1]:=Ae
    have hw2:IntKind.wrap .i64 ((j:Int)-1)=((j-1:Nat):Int):=by rw[qC Ab Ab];exact Ab
    have g2:(rC l.calls)[(j-1)*2]?=some (.s l.calls[j-1].name):=qgL hy (i:=0) Af;rw[if_neg h0,hy]at hI;cases hlt2:ltS l.calls[j-1].name c.name with
    | false =>
     have hwf:ji none l.calls=false:=by rw[hI];exact Ae
     simp only[↓vS,vT,simprocAttr,hp,hw2,hpl,hlt,g0,g2,hlt2];simp[vZ,hwf]
    | true =>
     have h65:(65536:Int)≠0:=Af
     by_cases e0:c.act=0
     .have hok:okC c=true:=by simp[okC,hk,qiF,e0]
      simp only[↓vS,vT,simprocAttr,hp,hw2,hpl,hlt,g0,g2,hlt2,e0,hw];refine ih (j+1) ⟨Ab,?_⟩ Ab _ _ (Wk.mk _ _ [0] ?_ ?_ ?_ rfl)
      .rw[hI,hok];exact Ae
      .simp[vw,qg]
      .simp[vw,xN]
      .simp
     by_cases e1:c.act=2147483648
     .have hok:okC c=true:=by simp[okC,hk,qiF,e1]
      simp only[↓vS,vT,simprocAttr,hp,hw2,hpl,hlt,g0,g2,hlt2,e0,e1,hw];refine ih (j+1) ⟨Ab,?_⟩ Ab _ _ (Wk.mk _ _ [0] ?_ ?_ ?_ rfl)
      .rw[hI,hok];exact Ae
      .simp[vw,qg]
      .simp[vw,xN]
      .simp
     by_cases e2:c.act.tdiv 65536=5
     .have hwq:IntKind.wrap .u32 (c.act.tdiv 65536)=5:=by rw[e2];exact Af
      by_cases e3:4095<c.act.tmod 65536
      .have e3':¬c.act.tmod 65536<=4095:=Ab
       have hwf:ji none l.calls=false:=I3
       simp only[↓vS,vT,simprocAttr,hp,hw2,hpl,hlt,g0,g2,hlt2,e0,e1,↓zk h65,↓zW h65,hwq,e3];simp[vZ,hwf]
      .have hok:okC c=true:=by simp[okC,hk,qec r0 r1,e0,e1,e2,e3];exact Ab
       simp only[↓vS,vT,simprocAttr,hp,hw2,hpl,hlt,g0,g2,hlt2,e0,e1,↓zk h65,↓zW h65,hwq,e3,hw];refine ih (j+1) ⟨Ab,?_⟩ Ab _ _ (Wk.mk _ _ [0] ?_ ?_ ?_ rfl)
       .rw[hI,hok];exact Ae
       .simp[vw,qg]
       .simp[vw,xN]
       .simp
     .have hwq:¬IntKind.wrap .u32 (c.act.tdiv 65536)=5:=by rw[qao (qii r0 r1).1 (by have:=(qii r0 r1).2;exact Ab)];exact e2
      have hwf:ji none l.calls=false:=Jo
      simp only[↓vS,vT,simprocAttr,hp,hw2,hpl,hlt,g0,g2,hlt2,e0,e1,↓zk h65,hwq];simp[vZ,hwf]
 .rw[List.drop_of_length_le Ab,ji]at hI;exact Ft
def qME{g1:Nat}(hc:Ck P f (qcF g1))(h1:∀s,qc P g1 [.s s] (.b (qa5 s))):qqt P f:=by
 intro l hl hR;refine Al ?_;simp only[qcF,xN,vI,simprocAttr]
 by_cases m1:2<l.mode
 .have hw:qad l=false:=by simp[qad];exact Ab
  refine Sb m1 ?_;simp[vZ,hw]
 have tail:(l.mode≠0\/l.calls=[])->qad l=ji none l.calls:=λh=>by
  have:(decide (l.mode<=2)&&(decide (l.mode≠0)||decide (l.calls=[])))=true:=Ae
  unfold qad;rw[this];rfl
 by_cases m2:l.mode=0
 .by_cases m3:(0:Int)<l.calls.length
  .have hne:l.calls≠[]:=Ag
   exact Fm
  .have hz:l.calls=[]:=Ae
   rw[tail (.inr hz)];refine Sb (zzA m1 (zzA m2 m3)) ?_;refine qrm h1 l hl hR (Wk.mk _ _ [0] ?_ ?_ ?_ rfl)
   .simp[vw]
   .simp[vw,xN,m2]
   .simp
 .rw[tail (.inl m2)];refine Ek ?_;refine qrm h1 l hl hR (Wk.mk _ _ [0] ?_ ?_ ?_ rfl)
  .simp[vw]
  .simp[vw,xN]
  .simp
def qck:IFn:=irJ 202 []
def qLN(hc:Ck P f qck):qkT P f:=by
 intro l s hl;refine Al ?_;simp only[qck,xN,vI,simprocAttr];refine Ac ?_;refine SL.loop (α:=Nat) (λj=>[(1,.s s),(2,.ptr 0 0),(4,.i .u32 0),(5,.b false),(6,.i .i64 j)]) (λ_=>[.cells 0 true false (xN l)]) (λj=>j<=l.calls.length/\vh l.calls s=vh (l.calls.drop j) s) (λj=>l.calls.length-j) 0 [0] ?_ ?_ ?_ rfl ?_ ?_
 .simp[vw]
 .simp[vw,xN]
 .simp
 .exact Ae
 rintro j ⟨hj,hI⟩ G ih;simp only[vI,simprocAttr,xN]
 by_cases hlt:j<l.calls.length
 .have hx:l.calls[j]?=some l.calls[j]:=Ae
  have g0:(rC l.calls)[j*2]?=some (.s l.calls[j].name):=qgL hx (i:=0) Af;have g1:(rC l.calls)[j*2+1]?=some (.i .u32 l.calls[j].act):=qgL hx (i:=1) Af;have hw:=wS j;rw[zzf hlt]at hI;generalize l.calls[j]=c at hx g0 g1 hI
  by_cases he:c.name=s
  .have hf:vh l.calls s=some c:=by rw[hI,<- he,qsj]
   simp only[↓vS,vT,simprocAttr,hlt,g0,g1,he];simp[vZ,hf]
  .have hf:vh l.calls s=vh (l.calls.drop (j+1)) s:=by rw[hI,qsk (Ne.symm he)]
   simp only[↓vS,vT,simprocAttr,hlt,g0,he,hw];refine ih (j+1) ⟨Ab,hf⟩ Ab _ _ (Wk.mk _ _ [0] ?_ ?_ ?_ rfl)
   .simp[vw]
   .simp[vw,xN]
   .simp
 .have hf:vh l.calls s=none:=by rw[hI,List.drop_of_length_le Ab];rfl
  refine Sb hlt ?_;simp[vZ,hf]
def qnZ(x:Int):List Int->Nat->Int
 | [],_=>-1
 | y::ys,j=>if x=y then(j:Int)else qnZ x ys (j+1)
def qns{k:IntKind}{L:List Int}{j:Nat}(h:j<L.length)(x:Int):(rI k L).take j++(AV.i k x::(rI k L).drop (j+1))=rI k (L.set j x):=by
 unfold rI;rw[List.set_eq_take_append_cons_drop,if_pos h,List.map_append,zz3,List.map_take,List.map_drop]
def qbM:IFn:=irJ 197 []
def qIj(hc:Ck P f qbM)(xs:List Int)(x:Int)(hl:xs.length<=qe):qc P f [.fz xs.length (rI .i64 xs),.i .i64 x] (.i .i64 (qnZ x xs 0)):=by
 refine Bb ?_;simp only[qbM,vI,simprocAttr];refine Ac ?_;refine SL.loop (α:=Nat) (λj=>[(0,.fz xs.length (rI .i64 xs)),(1,.i .i64 x),(7,.i .i64 xs.length),(8,.i .i64 j)]) (λ_=>[]) (λj=>j<=xs.length/\qnZ x xs 0=qnZ x (xs.drop j) j) (λj=>xs.length-j) 0 [] ?_ ?_ ?_ rfl ?_ ?_
 .exact Jc
 .trivial
 .simp
 .simp
 rintro j ⟨hj,hI⟩ G ih;refine Ak ?_
 by_cases hlt:j<xs.length
 .have hx:xs[j]?=some xs[j]:=Ae
  have hw:IntKind.wrap .i64 ((j:Int)+1)=(j:Int)+1:=qC Ab (by have:=hl;simp only[qe]at this;exact Ab)
  rw[zzf hlt,qnZ]at hI;simp only[↓vS,vT,simprocAttr,hlt,zzU,xl,hx,zza,hw];split
  .rename_i he;simp only[he,vZ,if_true]at hI ⊢
   exact Ag
  .rename_i he;rw[if_neg he]at hI;refine ih (j+1) ⟨Ab,hI⟩ Ab _ _ (Wk.mk _ _ [] ?_ ?_ ?_ rfl)
   .exact Jc
   .trivial
   .simp
 .simp only[↓vS,vT,simprocAttr,hlt,vZ];rw[zzk Ab]at hI;simp[hI,qnZ]
def qq3(x:Int):∀(l:List Int) (j:Nat),decide (0<=qnZ x l j)=decide (x ∈ l)
 | [],j=>by simp[qnZ]
 | y::l,j=>by
  rw[qnZ]
  by_cases h:x=y
  .simp[h]
  .rw[if_neg h,qq3 x l (j+1)];simp[h]
def qax(a:Nat):IFn:=irJ 133 [197,a]
def qBa{g:Nat}(hc:Ck P f (qax g))(hg:∀(xs:List Int) (x:Int),xs.length<=qe->qc P g [.fz xs.length (rI .i64 xs),.i .i64 x] (.i .i64 (qnZ x xs 0)))(xs:List Int)(x:Int)(hl:xs.length<=qe):qc P f [.fz xs.length (rI .i64 xs),.i .i64 x] (.b (decide (x ∈ xs))):=by
 refine Bb ?_;simp only[qax,vI,simprocAttr];refine Ac ?_;refine(hg xs x hl).sc ?_;refine Ac ?_;simp[vZ,<- qq3 x xs 0]
def inA(l:List Int)(x:Int):Bool:=decide (l=[])||decide (x ∈ l)
def qm0(a:Nat):IFn:=irJ 192 [133,a]
def qLu{g:Nat}(hc:Ck P f (qm0 g))(hg:∀(xs:List Int) (x:Int),xs.length<=qe->qc P g [.fz xs.length (rI .i64 xs),.i .i64 x] (.b (decide (x ∈ xs))))(xs:List Int)(x:Int)(hl:xs.length<=qe):qc P f [.fz xs.length (rI .i64 xs),.i .i64 x] (.b (inA xs x)):=by
 refine Bb ?_;simp only[qm0,vI,simprocAttr]
 by_cases h:xs.length=0
 .have h':((xs.length:Int)=0)=True:=eq_true Ab;have hn:xs=[]:=Ae
  refine Sb h' ?_;simp[vZ,inA,hn]
 .have h':((xs.length:Int)=0)=False:=eq_false Ab;have hn:xs≠[]:=Ae
  refine Sb h' ?_;refine(hg xs x hl).sc ?_;refine Ac ?_;simp[vZ,inA,hn]
def qiL(a:Int):List UInt8:=if a<0\/6<=a then []else(zf.getD a.toNat ([],0)).1
def qj2(a:Nat):IFn:=irJ 124 [184,a]
def qJe{g:Nat}(hc:Ck P f (qj2 g))(hg:qc P g [] (.agg (zf.flatMap (xb .u32))))(a:Int):qc P f [.i .i64 a] (.s (qiL a)):=by
 refine Al ?_;simp only[qj2,vI,simprocAttr]
 by_cases h1:a<0
 .refine Sb h1 ?_;simp[vZ,qiL,h1]
 by_cases h2:6<=a
 .refine Sb (zzA h1 h2) ?_;simp[vZ,qiL,h2]
 refine Sb (zzA h1 h2) ?_;refine hg.sc ?_;have h3:a=0\/a=1\/a=2\/a=3\/a=4\/a=5:=Ab
 rcases h3 with rfl|rfl|rfl|rfl|rfl|rfl <;>
 .refine H2 ?_;simp[vZ,qiL,zf]
def qqh(a:Int):(qiL a≠[])↔(0<=a/\a<6):=by
 unfold qiL;constructor
 .exact Ae
 .intro h;rw[if_neg Ab];have h3:a=0\/a=1\/a=2\/a=3\/a=4\/a=5:=Ab
  rcases h3 with rfl|rfl|rfl|rfl|rfl|rfl<;>decide
def zN(is:Int->Bool):Option Int->List Int->Bool
 | _,[]=>true
 | o,x::l=>is x&&(o.elim true λb=>decide (b<x))&&zN is (some x) l
def qd0:IFn:=irJ 122 []
def qIz(hc:Ck P f qd0)(xs:List Int)(g:Nat)(is:Int->Bool)(hg:∀x,qc P g [.i .i64 x] (.b (is x)))(hl:xs.length<=100000):qc P f [.fz xs.length (rI .i64 xs),.fn g [] []] (.b (zN is none xs)):=by
 refine Bb ?_;simp only[qd0,vI,simprocAttr];refine Ac ?_
 refine SL.loop (α:=Nat) (λj=>[(0,.fz xs.length (rI .i64 xs)),(1,.fn g [] []),(7,.fz xs.length (rI .i64 xs)),(8,.i .i64 xs.length),(9,.i .i64 j)]) (λ_=>[])
  (λj=>j<=xs.length/\zN is none xs=zN is (if j=0 then none else xs[j-1]?) (xs.drop j)) (λj=>xs.length-j) 0 [] ?_ ?_ ?_ rfl ?_ ?_
 .exact Jc
 .trivial
 .simp
 .exact Ae
 rintro j ⟨hj,hI⟩ G ih;refine Ak ?_
 by_cases hlt:j<xs.length
 .have hx:xs[j]?=some xs[j]:=Ae
  have hw:=wS j;rw[zzf hlt,zN]at hI;generalize hc0:xs[j]=c at hI hx;simp only[↓vS,vT,simprocAttr,hlt,zzU,xl,hx,zza];refine(hg c).sc ?_;cases hk:is c with
  | false =>
   have hw:zN is none xs=false:=by rw[hI];exact Ag
   refine Ac ?_;simp[vZ,hw]
  | true =>
   by_cases h0:j=0
   .subst h0;have hn:¬(0:Int)<((0:Nat):Int):=Af
    refine Sb (zzA hn hw) ?_;refine ih 1 ⟨Ab,?_⟩ Ab _ _ (Wk.mk _ _ [] ?_ ?_ ?_ rfl)
    .rw[hI,hk];exact Ag
    .simp[vw,qd]
     exact Ae
    .trivial
    .simp
   .have hp:(0:Int)<(j:Int):=Ab
    have hpl:j-1<xs.length:=Ab
    have hy:xs[j-1]?=some xs[j-1]:=Ae
    have hw2:IntKind.wrap .i64 ((j:Int)-1)=((j-1:Nat):Int):=by rw[qC Ab Ab];exact Ab
    rw[if_neg h0,hy]at hI
    by_cases hlt2:c<=xs[j-1]
    .have hwf:zN is none xs=false:=by rw[hI];exact Ag
     exact Gu
    .simp only[↓vS,vT,simprocAttr,hp,hw2,hpl,hy,zzU,xl,zza,hlt2,hw];refine ih (j+1) ⟨Ab,?_⟩ Ab _ _ (Wk.mk _ _ [] ?_ ?_ ?_ rfl)
     .rw[hI,hk];exact Ae
     .exact Jc
     .trivial
     .simp
 .rw[List.drop_of_length_le Ab,zN]at hI;exact Ft
def qce:IFn:=irJ 125 []
def qIA(hc:Ck P f qce)(xs:List Int)(g:Nat)(is:Int->Bool)(hg:∀x,qc P g [.i .u32 x] (.b (is x)))(hl:xs.length<=100000):qc P f [.fz xs.length (rI .u32 xs),.fn g [] []] (.b (zN is none xs)):=by
 refine Bb ?_;simp only[qce,vI,simprocAttr];refine Ac ?_
 refine SL.loop (α:=Nat) (λj=>[(0,.fz xs.length (rI .u32 xs)),(1,.fn g [] []),(7,.fz xs.length (rI .u32 xs)),(8,.i .i64 xs.length),(9,.i .i64 j)]) (λ_=>[])
  (λj=>j<=xs.length/\zN is none xs=zN is (if j=0 then none else xs[j-1]?) (xs.drop j)) (λj=>xs.length-j) 0 [] ?_ ?_ ?_ rfl ?_ ?_
 .exact Jc
 .trivial
 .simp
 .exact Ae
 rintro j ⟨hj,hI⟩ G ih;refine Ak ?_
 by_cases hlt:j<xs.length
 .have hx:xs[j]?=some xs[j]:=Ae
  have hw:=wS j;rw[zzf hlt,zN]at hI;generalize hc0:xs[j]=c at hI hx;simp only[↓vS,vT,simprocAttr,hlt,zzU,xl,hx,zza];refine(hg c).sc ?_;cases hk:is c with
  | false =>
   have hw:zN is none xs=false:=by rw[hI];exact Ag
   refine Ac ?_;simp[vZ,hw]
  | true =>
   by_cases h0:j=0
   .subst h0;have hn:¬(0:Int)<((0:Nat):Int):=Af
    refine Sb (zzA hn hw) ?_;refine ih 1 ⟨Ab,?_⟩ Ab _ _ (Wk.mk _ _ [] ?_ ?_ ?_ rfl)
    .rw[hI,hk];exact Ag
    .simp[vw,qd]
     exact Ae
    .trivial
    .simp
   .have hp:(0:Int)<(j:Int):=Ab
    have hpl:j-1<xs.length:=Ab
    have hy:xs[j-1]?=some xs[j-1]:=Ae
    have hw2:IntKind.wrap .i64 ((j:Int)-1)=((j-1:Nat):Int):=by rw[qC Ab Ab];exact Ab
    rw[if_neg h0,hy]at hI
    by_cases hlt2:c<=xs[j-1]
    .have hwf:zN is none xs=false:=by rw[hI];exact Ag
     exact Gu
    .simp only[↓vS,vT,simprocAttr,hp,hw2,hpl,hy,zzU,xl,zza,hlt2,hw];refine ih (j+1) ⟨Ab,?_⟩ Ab _ _ (Wk.mk _ _ [] ?_ ?_ ?_ rfl)
     .rw[hI,hk];exact Ae
     .exact Jc
     .trivial
     .simp
 .rw[List.drop_of_length_le Ab,zN]at hI;exact Ft
def wU(n:Int):List (List UInt8×Int)->List UInt8
 | []=>[]
 | p::l=>if p.2=n then p.1 else wU n l
def qeB:IFn:=irJ 188 []
def qL7(hc:Ck P f qeB)(l:List (List UInt8×Int))(n:Int)(hl:l.length<=qe):qc P f [.fz l.length (l.flatMap (xb .u32)),.i .u32 n] (.s (wU n l)):=by
 refine qc.mk hc Ea ?_;simp only[qeB,vI,simprocAttr];refine Ac ?_;refine SL.loop (α:=Nat) (λj=>[(1,.i .u32 n),(7,.fz l.length (l.flatMap (xb .u32))),(8,.i .i64 l.length),(9,.i .i64 j)]) (λ_=>[]) (λj=>j<=l.length/\wU n l=wU n (l.drop j)) (λj=>l.length-j) 0 [] ?_ ?_ ?_ rfl ?_ ?_
 .simp[vw]
 .trivial
 .simp
 .simp
 rintro j ⟨hj,hI⟩ G ih;refine Ak ?_
 by_cases hlt:j<l.length
 .have hx:l[j]?=some l[j]:=Ae
  have hw:IntKind.wrap .i64 ((j:Int)+1)=(j:Int)+1:=qC Ab (by have:=hl;simp only[qe]at this;exact Ab)
  have he:=qS (f:=xb .u32) (m:=2) qeO hx;have hb:j*2+2<=(l.flatMap (xb .u32)).length:=by rw[qY (m:=2) qeO];exact Ab
  rw[zzf hlt,wU]at hI;simp only[↓vS,vT,simprocAttr,hlt,hb,he,xb,hw];split
  .rename_i hs;rw[hI,if_pos hs];simp only[vZ,and_self,true_and]
  .rename_i hs;rw[if_neg hs]at hI;refine ih (j+1) ⟨Ab,hI⟩ Ab _ _ (Wk.mk _ _ [] ?_ ?_ ?_ rfl)
   .simp[vw]
   .trivial
   .simp
 .simp only[↓vS,vT,simprocAttr,hlt,vZ];rw[zzk Ab,wU]at hI;rw[hI]
def qdZ(a b:Nat):IFn:=irJ 127 [187,a,188,b]
def qFA{g1 g2:Nat}(hc:Ck P f (qdZ g1 g2))(h1:qc P g1 [] (.agg (zm.flatMap (xb .u32))))(h2:∀(l:List (List UInt8×Int)) (n:Int),l.length<=qe->qc P g2 [.fz l.length (l.flatMap (xb .u32)),.i .u32 n] (.s (wU n l)))(n:Int):qc P f [.i .u32 n] (.s (wU n zm)):=by
 refine Al ?_;simp only[qdZ,vI,simprocAttr];refine Ac ?_;refine h1.sc ?_;simp only[↓vS,vT,simprocAttr,zm,xb,zzv,List.flatMap_nil];refine(h2 zm n Af).lend (vs':=[.fz 8 (zm.flatMap (xb .u32)),.i .u32 n]) ?_ rfl ?_
 .refine .cons _ _ _ _ (.cut 2 rfl (zzL _) ?_) (.cons _ _ _ _ (.i _ _) .nil);simp[vw,zm,xb]
 simp only[↓vS,vT,simprocAttr,vZ,and_self,zm]
def qhb:IFn:=irJ 121 []
def qMG(hc:Ck P f qhb)(c:GCall):qc P f [.agg (qfW c)] (.b (decide (c.act≠0))):=by
 refine Al ?_;simp only[qhb,qfW,vI,simprocAttr]
 by_cases h:c.act=0 <;>
 .refine Sb h ?_;simp[vZ,h]
def qhc(a:Nat):IFn:=irJ 123 [124,a]
def qMH{g:Nat}(hc:Ck P f (qhc g))(hg:∀a,qc P g [.i .i64 a] (.s (qiL a)))(a:Int):qc P f [.i .i64 a] (.b (decide (0<=a)&&decide (a<6))):=by
 refine Al ?_;simp only[qhc,vI,simprocAttr];refine Ac ?_;refine(hg a).sc ?_;have h:=qqh a
 by_cases h':qiL a=[]
 .have h2:(decide (0<=a)&&decide (a<6))=false:=by
   have:=mt h.2 (by simpa using h')
   exact Ae
  refine Sb h' ?_;simp[vZ,h2]
 .have h2:=h.1 h';refine Sb h' ?_;simp[vZ,h2]
def qjj(n:Int):Bool:=decide (wU n zm≠[])
def qhd(a:Nat):IFn:=irJ 126 [127,a]
def qMI{g:Nat}(hc:Ck P f (qhd g))(hg:∀a,qc P g [.i .u32 a] (.s (wU a zm)))(a:Int):qc P f [.i .u32 a] (.b (qjj a)):=by
 refine Al ?_;simp only[qhd,vI,simprocAttr];refine Ac ?_;refine(hg a).sc ?_;unfold qjj;generalize wU a zm=s
 by_cases h':s=[] <;>
 .refine Sb h' ?_;simp[vZ,h']
def xU(a:Nat):IFn:=irJ 120 [186,a]
def qmZ{α:Type}(p:α->Bool):∀(l:List α) (j:Nat),decide (0<=zL p l j)=l.any p
 | [],j=>by simp[zL]
 | x::l,j=>by
  rw[zL]
  by_cases h:p x=true
  .simp[h]
  .rw[if_neg h,qmZ p l (j+1)];simp[h]
def qxl{g:Nat}(hc:Ck P f (xU g))(h:qcN 2 P g)(l:List GCall)(k:Nat)(p:GCall->Bool)(hk:∀c,qc P k [.agg (qfW c)] (.b (p c)))(hl:l.length<=qe):qc P f [.fz l.length (rC l),.fn k [] []] (.b (l.any p)):=by
 refine qc.mk hc (by simp[qt,clo,qg]) ?_;simp only[xU,vI,simprocAttr];refine Ac ?_;refine(h qfW p k [] [] l qin rfl rfl hl λx _=>hk x).sc ?_
 refine Ac ?_;simp[vZ,<- qmZ p l 0]
def qcY(a b c d e g h i:Nat):ICode:=icJ 70 [120,a,121,b,122,c,123,d,125,e,126,g,128,h,129,i] 127
def qaM(a b c d e g h i:Nat):ICode:=icJ 70 [120,a,121,b,122,c,123,d,125,e,126,g,128,h,129,i] 31 [7] [qcY a b c d e g h i]
def qaL(a b c d e g h i:Nat):ICode:=icJ 70 [120,a,121,b,122,c,123,d,125,e,126,g,128,h,129,i] 15 [3] [qaM a b c d e g h i]
def qi1(a b c d e g h i:Nat):IFn:=irJ 70 [120,a,121,b,122,c,123,d,125,e,126,g,128,h,129,i] [15] [qaL a b c d e g h i]
def qc7(p:Pol):Bool:=qad p.filter&&qad p.log&&decide (qdh .u64 p.spaces 2114060416=0)
def qB2{g1 g2 g3 g4 g5 g6 g7 g8:Nat}(h7:∀l:GList,l.calls.length<=100000->qc P g7 [.agg (xN l)] (.b (qad l)))
  (h8:qc P g8 [] (.i .u64 2114060416)) (p:Pol) (hp:PolOk p) (o d m a fm:Bool) {t':Tr AV}{h':Hp}(hw:Wk 0 t' h' (mkT [(1,.ptr 0 0),(2,.b false),(3,.b o),(4,.b d),(5,.b m),(6,.b a),(7,.b fm)]) (mkH 0 [.cells 0 true false (qm p)])) :
  S P 0 (qcY g1 g2 g3 g4 g5 g6 g7 g8) (zQ [.tmp 2] λv' h'=>Frz h' v' (.b (o&&d&&m&&a&&fm&&qc7 p))) t' h':=by
 have hcc:=hp.c;have hl:=hp.l;refine Ay ?_;simp only[qcY,qm,vI,simprocAttr];refine Ac ?_;refine qX ?_;cases o
 .refine Ac ?_;simp[vZ]
 cases d
 .refine Ac ?_;simp[vZ]
 cases m
 .refine Ac ?_;simp[vZ]
 cases a
 .refine Ac ?_;simp[vZ]
 cases fm
 .refine Ac ?_;simp[vZ]
 refine Ac ?_;refine(h7 p.filter Ab).pc ?_;cases hF:qad p.filter
 .refine Ac ?_;simp[vZ,qc7,hF]
 refine Ac ?_;refine(h7 p.log Ab).pc ?_;cases hL:qad p.log
 .refine Ac ?_;simp[vZ,qc7,hF,hL]
 refine Ac ?_;refine h8.pc ?_;refine Ac ?_;simp[vZ,qc7,hF,hL]
def qB1{g1 g2 g3 g4 g5 g6 g7 g8:Nat}(h3:∀(xs:List Int) (g:Nat) (is:Int->Bool),(∀x,qc P g [.i .i64 x] (.b (is x)))->xs.length<=100000->qc P g3 [.fz xs.length (rI .i64 xs),.fn g [] []] (.b (zN is none xs)))
  (h4:∀a,qc P g4 [.i .i64 a] (.b (decide (0<=a)&&decide (a<6))))
  (h5:∀(xs:List Int) (g:Nat) (is:Int->Bool),(∀x,qc P g [.i .u32 x] (.b (is x)))->xs.length<=100000->qc P g5 [.fz xs.length (rI .u32 xs),.fn g [] []] (.b (zN is none xs)))
  (h6:∀a,qc P g6 [.i .u32 a] (.b (qjj a)))
  (h7:∀l:GList,l.calls.length<=100000->qc P g7 [.agg (xN l)] (.b (qad l)))
  (h8:qc P g8 [] (.i .u64 2114060416)) (p:Pol) (hp:PolOk p) (o d m:Bool) {t':Tr AV}{h':Hp}(hw:Wk 0 t' h' (mkT [(1,.ptr 0 0),(2,.b false),(3,.b o),(4,.b d),(5,.b m)]) (mkH 0 [.cells 0 true false (qm p)])) :
  S P 0 (qaM g1 g2 g3 g4 g5 g6 g7 g8) (zQ [.tmp 2] λv' h'=>Frz h' v' (.b (o&&d&&m&&zN (λa=>decide (0<=a)&&decide (a<6)) none p.arches&&zN qjj none p.fams&&qc7 p))) t' h':=by
 have ha:=hp.a;have hf:=hp.f;refine Ay ?_;simp only[qaM,qm,vI,simprocAttr];refine Ac ?_;refine(h3 p.arches g4 _ h4 Ab).sc ?_;refine Ac ?_;refine(h5 p.fams g6 _ h6 Ab).sc ?_;refine Ac ?_;refine qB2 h7 h8 p hp o d m _ _ (Wk.mk _ _ [0] ?_ ?_ ?_ rfl)
 .simp[vw]
 .exact Dd
 .simp
def qd4(p:Pol):Bool:=decide (p.fmode<=2)&&(decide (p.fmode≠0)||decide (p.fams=[]))
def qB0{g1 g2 g3 g4 g5 g6 g7 g8:Nat}(h3:∀(xs:List Int) (g:Nat) (is:Int->Bool),(∀x,qc P g [.i .i64 x] (.b (is x)))->xs.length<=100000->qc P g3 [.fz xs.length (rI .i64 xs),.fn g [] []] (.b (zN is none xs)))
  (h4:∀a,qc P g4 [.i .i64 a] (.b (decide (0<=a)&&decide (a<6))))
  (h5:∀(xs:List Int) (g:Nat) (is:Int->Bool),(∀x,qc P g [.i .u32 x] (.b (is x)))->xs.length<=100000->qc P g5 [.fz xs.length (rI .u32 xs),.fn g [] []] (.b (zN is none xs)))
  (h6:∀a,qc P g6 [.i .u32 a] (.b (qjj a)))
  (h7:∀l:GList,l.calls.length<=100000->qc P g7 [.agg (xN l)] (.b (qad l)))
  (h8:qc P g8 [] (.i .u64 2114060416)) (p:Pol) (hp:PolOk p) (o d:Bool) {t':Tr AV}{h':Hp}(hw:Wk 0 t' h' (mkT [(1,.ptr 0 0),(2,.b false),(3,.b o),(4,.b d)]) (mkH 0 [.cells 0 true false (qm p)])) :
  S P 0 (qaL g1 g2 g3 g4 g5 g6 g7 g8) (zQ [.tmp 2] λv' h'=>Frz h' v' (.b (o&&d&&qd4 p&&zN (λa=>decide (0<=a)&&decide (a<6)) none p.arches&&zN qjj none p.fams&&qc7 p))) t' h':=by
 refine Ay ?_;simp only[qaL,qm,vI,simprocAttr]
 have go:∀m,m=qd4 p->∀{t':Tr AV}{h':Hp},Wk 0 t' h' (mkT [(1,.ptr 0 0),(2,.b false),(3,.b o),(4,.b d),(5,.b m)]) (mkH 0 [.cells 0 true false (qm p)])->S P 0 (qaM g1 g2 g3 g4 g5 g6 g7 g8) (zQ [.tmp 2] λv' h'=>Frz h' v' (.b (o&&d&&qd4 p&&zN (λa=>decide (0<=a)&&decide (a<6)) none p.arches&&zN qjj none p.fams&&qc7 p))) t' h':=by
  rintro m rfl t' h' hw;exact qB1 h3 h4 h5 h6 h7 h8 p hp o d _ hw
 by_cases m1:p.fmode<=2
 .by_cases m2:p.fmode=0
  .by_cases m3:p.fams=[]
   .have h0:(p.fams.length:Int)=0:=by rw[m3];rfl
    refine Sb (zzA m1 (zzA m2 h0)) ?_;refine go true (by simp[qd4,m1,m2,m3]) (Wk.mk _ _ [0] ?_ ?_ ?_ rfl)
    .simp[vw]
    .simp[vw,qm,qd,qg,m2]
    .simp
   .have h0:((p.fams.length:Int)=0)=False:=Ae
    refine Sb (zzA m1 (zzA m2 h0)) ?_;refine go false (by simp[qd4,m1,m2,m3]) (Wk.mk _ _ [0] ?_ ?_ ?_ rfl)
    .simp[vw]
    .simp[vw,qm,qd,qg,m2]
    .simp
  .refine Ek ?_;refine go true (by simp[qd4,m1,m2]) (Wk.mk _ _ [0] ?_ ?_ ?_ rfl)
   .simp[vw]
   .exact Dd
   .simp
 .refine Sb m1 ?_;refine go false (by simp[qd4,m1]) (Wk.mk _ _ [0] ?_ ?_ ?_ rfl)
  .simp[vw]
  .exact Dd
  .simp
def qet(n:Int):Bool:=decide (n=2147483648)||(decide (327680<=n)&&decide (n<=331775))
def qbz(p:Pol):Bool:=!(p.log.calls.any λc=>decide (c.act≠0))&&qet p.deny&&qd4 p&&zN (λa=>decide (0<=a)&&decide (a<6)) none p.arches&&zN qjj none p.fams&&qc7 p
def qIs{g1 g2 g3 g4 g5 g6 g7 g8:Nat}(hc:Ck P f (qi1 g1 g2 g3 g4 g5 g6 g7 g8))
  (h1:∀(l:List GCall) (k:Nat) (p:GCall->Bool),(∀c,qc P k [.agg (qfW c)] (.b (p c)))->l.length<=qe->qc P g1 [.fz l.length (rC l),.fn k [] []] (.b (l.any p)))
  (h2:∀c,qc P g2 [.agg (qfW c)] (.b (decide (c.act≠0))))
  (h3:∀(xs:List Int) (g:Nat) (is:Int->Bool),(∀x,qc P g [.i .i64 x] (.b (is x)))->xs.length<=100000->qc P g3 [.fz xs.length (rI .i64 xs),.fn g [] []] (.b (zN is none xs)))
  (h4:∀a,qc P g4 [.i .i64 a] (.b (decide (0<=a)&&decide (a<6))))
  (h5:∀(xs:List Int) (g:Nat) (is:Int->Bool),(∀x,qc P g [.i .u32 x] (.b (is x)))->xs.length<=100000->qc P g5 [.fz xs.length (rI .u32 xs),.fn g [] []] (.b (zN is none xs)))
  (h6:∀a,qc P g6 [.i .u32 a] (.b (qjj a)))
  (h7:∀l:GList,l.calls.length<=100000->qc P g7 [.agg (xN l)] (.b (qad l)))
  (h8:qc P g8 [] (.i .u64 2114060416)) (p:Pol) (hp:PolOk p):qc P f [.agg (qm p)] (.b (qbz p)):=by
 have hl:=hp.l;refine Al ?_
 have go:∀d,d=qet p.deny->∀{t':Tr AV}{h':Hp},Wk 0 t' h' (mkT [(1,.ptr 0 0),(2,.b false),(3,.b (!(p.log.calls.any λc=>decide (c.act≠0)))),(4,.b d)]) (mkH 0 [.cells 0 true false (qm p)])->S P 0 (qaL g1 g2 g3 g4 g5 g6 g7 g8) (zQ [.tmp 2] λv' h'=>Frz h' v' (.b (qbz p))) t' h':=by
  rintro d rfl t' h' hw;exact qB0 h3 h4 h5 h6 h7 h8 p hp _ _ hw
 simp only[qi1,qm,vI,simprocAttr];refine Ac ?_;refine(h1 p.log.calls g2 _ h2 (by simp only[qe];exact Ab)).sc ?_
 by_cases d1:p.deny=2147483648
 .refine Sb d1 ?_;refine go true (by simp[qet,d1]) (Wk.mk _ _ [0] ?_ ?_ ?_ rfl)
  .simp[vw]
  .simp[vw,qm,qd,qg,d1]
  .simp
 by_cases d2:327680<=p.deny
 .by_cases d3:p.deny<=331775
  .refine Sb (zzA d1 (zzA d2 d3)) ?_;refine go true (by simp[qet,d1,d2,d3]) (Wk.mk _ _ [0] ?_ ?_ ?_ rfl)
   .simp[vw]
   .exact Dd
   .simp
  .refine Sb (zzA d1 (zzA d2 d3)) ?_;refine go false (by simp[qet,d1,d2,d3]) (Wk.mk _ _ [0] ?_ ?_ ?_ rfl)
   .simp[vw]
   .exact Dd
   .simp
 .refine Sb (zzA d1 d2) ?_;refine go false (by simp[qet,d1,d2]) (Wk.mk _ _ [0] ?_ ?_ ?_ rfl)
  .simp[vw]
  .exact Dd
  .simp
def qay:IFn:=irJ 75 []
def qFz(hc:Ck P f qay):qc P f [] (.fz 8 (zm.flatMap (xb .u64))):=by
 refine Al ?_;simp only[qay,vI,simprocAttr];refine Ac ?_;refine .cut 2 rfl (zzL _) ?_;simp[vw,zm,xb]
def qbb:IFn:=irJ 136 []
def qKO(hc:Ck P f qbb):qc P f [] (.fz 8 (qx.flatMap (xb .u64))):=by
 refine Al ?_;simp only[qbb,vI,simprocAttr];refine Ac ?_;refine .cut 2 rfl (zzL _) ?_;simp[vw,qx,xb]
def qcE(a:Nat):IFn:=irJ 77 [136,a]
def qMA{g:Nat}(hc:Ck P f (qcE g))(hg:qc P g [] (.fz 8 (qx.flatMap (xb .u64)))):qc P f [] (.i .u64 2114060416):=by
 refine Al ?_;simp only[qcE,vI,simprocAttr];refine Ac ?_;refine hg.sc ?_;refine Ac ?_
 iterate 8
  refine qbj ?_;simp only[↓vS,vT,simprocAttr,qx,xb,zzv,List.flatMap_nil,Int.reduceLT,Int.reduceAdd,Int.reduceNeg,qC,jJ,Int.reduceLE]
 exact Hd
def qcj:IFn:=irJ 74 []
def qL1(hc:Ck P f qcj)(l:List (List UInt8×Int))(n:Int)(hl:l.length<=qe):qc P f [.fz l.length (l.flatMap (xb .u64)),.i .u64 n] (.s (wU n l)):=by
 refine qc.mk hc Ea ?_;simp only[qcj,vI,simprocAttr];refine Ac ?_;refine SL.loop (α:=Nat) (λj=>[(0,.fz l.length (l.flatMap (xb .u64))),(1,.i .u64 n),(5,.i .i64 j)]) (λ_=>[]) (λj=>j<=l.length/\wU n l=wU n (l.drop j)) (λj=>l.length-j) 0 [] ?_ ?_ ?_ rfl ?_ ?_
 .simp[vw]
 .trivial
 .simp
 .simp
 rintro j ⟨hj,hI⟩ G ih;refine Ak ?_
 by_cases hlt:j<l.length
 .have hx:l[j]?=some l[j]:=Ae
  have hw:IntKind.wrap .i64 ((j:Int)+1)=(j:Int)+1:=qC Ab (by have:=hl;simp only[qe]at this;exact Ab)
  have g0:(l.flatMap (xb .u64))[j*2]?=some (.s l[j].1):=by simpa[xb]using zq (f:=xb .u64) (m:=2) qeO hx (i:=0) Af
  have g1:(l.flatMap (xb .u64))[j*2+1]?=some (.i .u64 l[j].2):=by simpa[xb]using zq (f:=xb .u64) (m:=2) qeO hx (i:=1) Af
  rw[zzf hlt,wU]at hI;generalize hc0:l[j]=c at hI g0 g1
  by_cases hs:c.2=n
  .rw[if_pos hs]at hI;simp only[↓vS,vT,simprocAttr,hlt,g0,g1,xb,hs];simp[vZ,hI]
  .rw[if_neg hs]at hI;simp only[↓vS,vT,simprocAttr,hlt,g0,g1,xb,hw,hs];refine ih (j+1) ⟨Ab,hI⟩ Ab _ _ (Wk.mk _ _ [] ?_ ?_ ?_ rfl)
   .simp[vw]
   .trivial
   .simp
 .simp only[↓vS,vT,simprocAttr,hlt,vZ];rw[zzk Ab,wU]at hI;rw[hI]
def qdt:IFn:=irJ 78 []
def qM0(hc:Ck P f qdt)(xs:List Int)(x:Int)(hl:xs.length<=qe):qc P f [.fz xs.length (rI .i64 xs),.i .i64 x] (.b (inA xs x)):=by
 refine Bb ?_;simp only[qdt,vI,simprocAttr];refine Ac ?_;refine SL.loop (α:=Nat) (λj=>[(0,.fz xs.length (rI .i64 xs)),(1,.i .i64 x),(5,.i .i64 j)]) (λ_=>[]) (λj=>j<=xs.length/\(x ∈ xs↔x ∈ xs.drop j)) (λj=>xs.length-j) 0 [] ?_ ?_ ?_ rfl ?_ ?_
 .exact Jc
 .trivial
 .simp
 .simp
 rintro j ⟨hj,hI⟩ G ih;refine Ak ?_
 by_cases hlt:j<xs.length
 .have hx:xs[j]?=some xs[j]:=Ae
  have hw:IntKind.wrap .i64 ((j:Int)+1)=(j:Int)+1:=qC Ab (by have:=hl;simp only[qe]at this;exact Ab)
  rw[zzf hlt]at hI;generalize hc0:xs[j]=c at hI hx
  by_cases hs:c=x
  .have hm:x ∈ xs:=hI.2 Ag;simp only[↓vS,vT,simprocAttr,hlt,zzU,xl,hx,zza,hs];simp[vZ,inA,hm]
  .simp only[↓vS,vT,simprocAttr,hlt,zzU,xl,hx,zza,hs,hw];refine ih (j+1) ⟨Ab,?_⟩ Ab _ _ (Wk.mk _ _ [] ?_ ?_ ?_ rfl)
   .rw[hI];exact Ag
   .exact Jc
   .trivial
   .simp
 .rw[zzk Ab]at hI;have hm:¬x ∈ xs:=λh=>Ae
  by_cases h0:xs.length=0
  .have h':((xs.length:Int)=0)=True:=eq_true Ab;have hn:xs=[]:=Ae
   refine Sb (zzA hlt h') ?_;simp[vZ,inA,hn]
  .have h':((xs.length:Int)=0)=False:=eq_false Ab;have hn:xs≠[]:=Ae
   refine Sb (zzA hlt h') ?_;simp[vZ,inA,hn,hm]
def qwu{s m:Int}(h0:0<=s)(h1:s<18446744073709551616):decide (xA .u64 s m=s)=decide (qdh .u64 s m=0):=by
 have hs:s=((BitVec.ofInt 64 s).toNat:Int):=by
  rw[BitVec.toNat_ofInt];exact Ab
 have hw:∀x:BitVec 64,IntKind.wrap .u64 (x.toNat:Int)=x.toNat:=λx=>jJ Ab (by have:=x.isLt;exact Ab)
 have e1:xA .u64 s m=(BitVec.ofInt 64 s &&& BitVec.ofInt 64 m).toNat:=hw _;have e2:qdh .u64 s m=(BitVec.ofInt 64 s &&& ~~~ (BitVec.ofInt 64 m)).toNat:=hw _;rw[e1,e2];generalize BitVec.ofInt 64 s=x at hs ⊢;generalize BitVec.ofInt 64 m=y;rw[hs,Bool.eq_iff_iff,zzb,zzb];have a1:(((x &&& y).toNat:Int)=x.toNat)↔x &&& y=x:=by rw[Int.ofNat_inj,<- BitVec.toNat_inj]
 have a2:(((x &&& ~~~y).toNat:Int)=0)↔x &&& ~~~y=0:=by
  rw[<- BitVec.toNat_inj];simp
 rw[a1,a2];constructor
 .exact Ag
 .intro h
  have:x=(x &&& y) ||| (x &&& ~~~ y):=by
   rw[<- BitVec.and_or_distrib_left,BitVec.or_not_self,BitVec.and_allOnes]
  rw[h,show(0:BitVec 64)=0#64 from rfl,BitVec.or_zero]at this;exact Ag
structure PolR (p:Pol):Prop where
 fams:∀x ∈ p.fams,0<=x/\x<=4294967295
 deny:0<=p.deny/\p.deny<=4294967295
 spaces:0<=p.spaces/\p.spaces<18446744073709551616
 filter:Rng p.filter.calls
 log:Rng p.log.calls
def qjp(p:Pol):Bool:=qd4 p&&qad p.filter&&qad p.log&&qet p.deny&&decide (qdh .u64 p.spaces 2114060416=0)
def qrn(p:Pol):Bool:=!(p.log.calls.any λc=>decide (c.act≠0))&&qjp p
def qn0(p:Pol):Bool:=zN qjj none p.fams&&qrn p
def qpF(p:Pol):qbz p=(zN (λa=>decide (0<=a)&&decide (a<6)) none p.arches&&qn0 p):=by
 unfold qbz qn0 qrn qjp qc7
 exact Ag
def x5(a b c d:Nat):ICode:=icJ 32 [75,a,74,b,76,c,77,d] 63
def wQ(a b c d:Nat):ICode:=icJ 32 [75,a,74,b,76,c,77,d] 31 [3] [x5 a b c d]
def wP(a b c d:Nat):ICode:=icJ 32 [75,a,74,b,76,c,77,d] 15 [3] [wQ a b c d]
def wO(a b c d:Nat):ICode:=icJ 32 [75,a,74,b,76,c,77,d] 7 [3] [wP a b c d]
def qcG(a b c d:Nat):IFn:=irJ 32 [75,a,74,b,76,c,77,d] [7] [wO a b c d]
section
variable {g1 g2 g3 g4:Nat}
def qyM(h4:qc P g4 [] (.i .u64 2114060416))(p:Pol)(hr:PolR p){t':Tr AV}{h':Hp}(hw:Wk 0 t' h' (mkT [(1,.ptr 0 0),(2,.b false)]) (mkH 0 [.cells 0 true false (qm p)])) :
  S P 0 (x5 g1 g2 g3 g4) (zQ [.tmp 2] λv' h'=>Frz h' v' (.b (qet p.deny&&decide (qdh .u64 p.spaces 2114060416=0)))) t' h':=by
 refine Ay ?_;simp only[x5,qm,vI,simprocAttr];have hd:=hr.deny;have hs:=qwu (m:=2114060416) hr.spaces.1 hr.spaces.2;have h65:(65536:Int)≠0:=Af
 have eD:qet p.deny=(decide (p.deny=2147483648)||(decide (p.deny.tdiv 65536=5)&&decide (p.deny.tmod 65536<=4095))):=by
  have:=qjC hd.1;unfold qet;rw[Bool.eq_iff_iff]
  exact Ag
 by_cases d1:p.deny=2147483648
 .refine Sb d1 ?_;refine qX ?_;refine Ac ?_;refine h4.pc ?_;refine Ac ?_;simp[vZ,<- hs,qet,d1]
 by_cases e2:p.deny.tdiv 65536=5
 .have hwq:IntKind.wrap .u32 (p.deny.tdiv 65536)=5:=by rw[e2];exact Af
  by_cases e3:4095<p.deny.tmod 65536
  .have hf:qet p.deny=false:=by rw[eD];exact Ae
   simp only[↓vS,vT,simprocAttr,d1,↓zk h65,↓zW h65,hwq,e3];simp[vZ,hf]
  .have hf:qet p.deny=true:=by rw[eD];exact Ae
   simp only[↓vS,vT,simprocAttr,d1,↓zk h65,↓zW h65,hwq,e3];refine qX ?_;refine Ac ?_;refine h4.pc ?_;refine Ac ?_;simp[vZ,<- hs,hf]
 .have hwq:¬IntKind.wrap .u32 (p.deny.tdiv 65536)=5:=by rw[qao Ag (by have:=(qii hd.1 hd.2).2;exact Ab)];exact e2
  have hf:qet p.deny=false:=by rw[eD];exact Ae
  simp only[↓vS,vT,simprocAttr,d1,↓zk h65,hwq];simp[vZ,hf]
def qyL(h3:qqt P g3)(h4:qc P g4 [] (.i .u64 2114060416))(p:Pol)(hp:PolOk p)(hr:PolR p){t':Tr AV}{h':Hp}(hw:Wk 0 t' h' (mkT [(1,.ptr 0 0),(2,.b false)]) (mkH 0 [.cells 0 true false (qm p)])) :
  S P 0 (wQ g1 g2 g3 g4) (zQ [.tmp 2] λv' h'=>Frz h' v' (.b (qjp p))) t' h':=by
 have hcc:=hp.c;have hl:=hp.l;refine Ay ?_;simp only[wQ,qm,vI,simprocAttr]
 have fin:∀{t':Tr AV}{h':Hp},qd4 p=true->qad p.filter=true->qad p.log=true->Wk 0 t' h' (mkT [(1,.ptr 0 0),(2,.b false)]) (mkH 0 [.cells 0 true false (qm p)])->S P 0 (x5 g1 g2 g3 g4) (zQ [.tmp 2] λv' h'=>Frz h' v' (.b (qjp p))) t' h':=by
  intro t' h' a b c hw;have:=qyM (g1:=g1) (g2:=g2) (g3:=g3) h4 p hr hw;have e:qjp p=(qet p.deny&&decide (qdh .u64 p.spaces 2114060416=0)):=by simp[qjp,a,b,c]
  rw[e];exact Ab
 by_cases m1:2<p.fmode
 .have hm:qjp p=false:=by simp[qjp,qd4];exact Ab
  refine Sb m1 ?_;simp[vZ,hm]
 by_cases m2:p.fmode=0
 .by_cases m3:p.fams=[]
  .have h0:¬(0:Int)<p.fams.length:=by rw[m3];exact Af
   have hmk:qd4 p=true:=by simp[qd4,m2,m3]
   refine Sb (zzA m1 (zzA m2 h0)) ?_;refine(h3 p.filter Ab hr.filter).sc ?_;cases hF:qad p.filter
   .refine Ac ?_;simp[vZ,qjp,hF]
   refine Ac ?_;refine(h3 p.log Ab hr.log).sc ?_;cases hL:qad p.log
   .refine Ac ?_;simp[vZ,qjp,hL]
   refine Ac ?_;refine fin hmk hF hL (Wk.mk _ _ [0] ?_ ?_ ?_ rfl)
   .simp[vw]
   .simp[vw,qm,qd,qg,m2]
   .simp
  .have h0:(0:Int)<p.fams.length:=by have:=List.length_pos_iff.2 m3;exact Ab
   have hm:qjp p=false:=by simp[qjp,qd4,m2,m3]
   refine Sb (zzA m1 (zzA m2 h0)) ?_;simp[vZ,hm]
 .have hmk:qd4 p=true:=by simp[qd4,m2];exact Ab
  refine Ek ?_;refine(h3 p.filter Ab hr.filter).sc ?_;cases hF:qad p.filter
  .refine Ac ?_;simp[vZ,qjp,hF]
  refine Ac ?_;refine(h3 p.log Ab hr.log).sc ?_;cases hL:qad p.log
  .refine Ac ?_;simp[vZ,qjp,hL]
  refine Ac ?_;refine fin hmk hF hL (Wk.mk _ _ [0] ?_ ?_ ?_ rfl)
  .simp[vw]
  .exact Dd
  .simp
def qyK(h3:qqt P g3)(h4:qc P g4 [] (.i .u64 2114060416))(p:Pol)(hp:PolOk p)(hr:PolR p){t':Tr AV}{h':Hp}(hw:Wk 0 t' h' (mkT [(1,.ptr 0 0),(2,.b false)]) (mkH 0 [.cells 0 true false (qm p)])) :
  S P 0 (wP g1 g2 g3 g4) (zQ [.tmp 2] λv' h'=>Frz h' v' (.b (qrn p))) t' h':=by
 have hl:=hp.l;refine Ay ?_;simp only[wP,qm,vI,simprocAttr];refine Ac ?_
 refine SL.loop (α:=Nat) (λj=>[(1,.ptr 0 0),(2,.b false),(5,.i .i64 j)]) (λ_=>[.cells 0 true false (qm p)])
  (λj=>j<=p.log.calls.length/\(p.log.calls.any λc=>decide (c.act≠0))=((p.log.calls.drop j).any λc=>decide (c.act≠0))) (λj=>p.log.calls.length-j) 0 [0] ?_ ?_ ?_ rfl ?_ ?_
 .simp[vw]
 .exact Dd
 .simp
 .exact Ae
 rintro j ⟨hj,hI⟩ G ih;refine Fe ?_
 by_cases hlt:j<p.log.calls.length
 .have hx:p.log.calls[j]?=some p.log.calls[j]:=Ae
  have g1:(rC p.log.calls)[j*2+1]?=some (.i .u32 p.log.calls[j].act):=qgL hx (i:=1) Af;have hw:=wS j;rw[zzf hlt,List.any_cons]at hI;generalize hc0:p.log.calls[j]=c at hI hx g1
  by_cases h0:c.act=0
  .simp only[↓vS,vT,simprocAttr,hlt,g1,h0,hw];refine ih (j+1) ⟨Ab,?_⟩ Ab _ _ (Wk.mk _ _ [0] ?_ ?_ ?_ rfl)
   .rw[hI];exact Ag
   .simp[vw]
   .exact Dd
   .simp
  .have hm:qrn p=false:=by unfold qrn;rw[hI];exact Ag
   refine Sb (zzA hlt (zzA g1 h0)) ?_;simp[vZ,hm]
 .rw[List.drop_of_length_le Ab]at hI;have hm:qrn p=qjp p:=by unfold qrn;rw[hI];simp
  refine Sb hlt ?_;rw[hm];refine qyL h3 h4 p hp hr (Wk.mk _ _ [0] ?_ ?_ ?_ rfl)
  .simp[vw]
  .exact Dd
  .simp
def qyJ(h1:qc P g1 [] (.fz 8 (zm.flatMap (xb .u64))))(h2:∀(l:List (List UInt8×Int)) (n:Int),l.length<=qe->qc P g2 [.fz l.length (l.flatMap (xb .u64)),.i .u64 n] (.s (wU n l)))(h3:qqt P g3)(h4:qc P g4 [] (.i .u64 2114060416))(p:Pol)(hp:PolOk p)(hr:PolR p){t':Tr AV}{h':Hp}(hw:Wk 0 t' h' (mkT [(1,.ptr 0 0),(2,.b false)]) (mkH 0 [.cells 0 true false (qm p)])) :
  S P 0 (wO g1 g2 g3 g4) (zQ [.tmp 2] λv' h'=>Frz h' v' (.b (qn0 p))) t' h':=by
 have hl:=hp.f;refine Ay ?_;simp only[wO,qm,vI,simprocAttr];refine Ac ?_
 refine SL.loop (α:=Nat) (λj=>[(1,.ptr 0 0),(2,.b false),(4,.i .i64 j)]) (λ_=>[.cells 0 true false (qm p)])
  (λj=>j<=p.fams.length/\zN qjj none p.fams=zN qjj (if j=0 then none else p.fams[j-1]?) (p.fams.drop j)) (λj=>p.fams.length-j) 0 [0] ?_ ?_ ?_ rfl ?_ ?_
 .simp[vw]
 .exact Dd
 .simp
 .exact Ae
 rintro j ⟨hj,hI⟩ G ih;refine Fe ?_
 by_cases hlt:j<p.fams.length
 .have hx:p.fams[j]?=some p.fams[j]:=Ae
  have hw:=wS j;have hb:=hr.fams p.fams[j] Ae;rw[zzf hlt,zN]at hI;generalize hc0:p.fams[j]=c at hI hx hb;have hcv:IntKind.wrap .u64 c=c:=Eq
  refine D3 ?_;refine Ac ?_;refine h1.pc ?_;simp only[↓vS,vT,simprocAttr,hlt,zzU,xl,hx,zza,hcv];refine(h2 zm c Af).pc ?_;cases hk:qjj c with
  | false =>
   have hn:wU c zm=[]:=by simpa[qjj]using hk
   have hwf:qn0 p=false:=by unfold qn0;rw[hI];exact Ag
   refine Sb hn ?_;simp[vZ,hwf]
  | true =>
   have hn:(wU c zm=[])=False:=eq_false (by simpa[qjj]using hk)
   by_cases h0:j=0
   .subst h0;have hn0:¬(0:Int)<((0:Nat):Int):=Af
    refine Sb (zzA hn (zzA hn0 hw)) ?_;refine ih 1 ⟨Ab,?_⟩ Ab _ _ (Wk.mk _ _ [0] ?_ ?_ ?_ rfl)
    .rw[hI,hk];exact Ag
    .simp[vw]
     exact Ae
    .exact Dd
    .simp
   .have hp0:(0:Int)<(j:Int):=Ab
    have hpl:j-1<p.fams.length:=Ab
    have hy:p.fams[j-1]?=some p.fams[j-1]:=Ae
    have hw2:IntKind.wrap .i64 ((j:Int)-1)=((j-1:Nat):Int):=by rw[qC Ab Ab];exact Ab
    rw[if_neg h0,hy]at hI
    by_cases hlt2:c<=p.fams[j-1]
    .have hwf:qn0 p=false:=by unfold qn0;rw[hI];exact Ag
     simp only[↓vS,vT,simprocAttr,hn,hp0,hw2,hpl,hlt,hx,hy,zzU,xl,zza,hlt2];simp[vZ,hwf]
    .simp only[↓vS,vT,simprocAttr,hn,hp0,hw2,hpl,hlt,hx,hy,zzU,xl,zza,hlt2,hw];refine ih (j+1) ⟨Ab,?_⟩ Ab _ _ (Wk.mk _ _ [0] ?_ ?_ ?_ rfl)
     .rw[hI,hk];exact Ae
     .simp[vw]
     .exact Dd
     .simp
 .rw[List.drop_of_length_le Ab,zN]at hI;have hm:qn0 p=qrn p:=by unfold qn0;rw[hI];simp
  refine Sb hlt ?_;rw[hm];refine qyK h3 h4 p hp hr (Wk.mk _ _ [0] ?_ ?_ ?_ rfl)
  .simp[vw]
  .exact Dd
  .simp
def qMF(hc:Ck P f (qcG g1 g2 g3 g4))(h1:qc P g1 [] (.fz 8 (zm.flatMap (xb .u64))))(h2:∀(l:List (List UInt8×Int)) (n:Int),l.length<=qe->qc P g2 [.fz l.length (l.flatMap (xb .u64)),.i .u64 n] (.s (wU n l)))(h3:qqt P g3)(h4:qc P g4 [] (.i .u64 2114060416))(p:Pol)(hp:PolOk p)(hr:PolR p) :
  qc P f [.agg (qm p)] (.b (qbz p)):=by
 have hl:=hp.a;refine Al ?_;simp only[qcG,qm,vI,simprocAttr];refine Ac ?_
 refine SL.loop (α:=Nat) (λj=>[(1,.ptr 0 0),(2,.b false),(3,.i .i64 j)]) (λ_=>[.cells 0 true false (qm p)])
  (λj=>j<=p.arches.length/\zN (λa=>decide (0<=a)&&decide (a<6)) none p.arches=zN (λa=>decide (0<=a)&&decide (a<6)) (if j=0 then none else p.arches[j-1]?) (p.arches.drop j)) (λj=>p.arches.length-j) 0 [0] ?_ ?_ ?_ rfl ?_ ?_
 .simp[vw]
 .exact Dd
 .simp
 .exact Ae
 rintro j ⟨hj,hI⟩ G ih;refine Fe ?_
 by_cases hlt:j<p.arches.length
 .have hx:p.arches[j]?=some p.arches[j]:=Ae
  have hw:=wS j;rw[zzf hlt,zN]at hI;generalize hc0:p.arches[j]=c at hI hx
  have bad:¬(0<=c/\c<6)->qbz p=false:=λh=>by
   rw[qpF,hI]
   have:(decide (0<=c)&&decide (c<6))=false:=by
    rw[Bool.eq_false_iff];exact Gw
   exact Ag
  refine D3 ?_
  by_cases k1:c<0
  .simp only[↓vS,vT,simprocAttr,hlt,zzU,xl,hx,zza,k1];simp[vZ,bad Ab]
  by_cases k2:5<c
  .simp only[↓vS,vT,simprocAttr,hlt,zzU,xl,hx,zza,k1,k2];simp[vZ,bad Ab]
  have hk:(decide (0<=c)&&decide (c<6))=true:=Ag
  by_cases h0:j=0
  .subst h0;have hn0:¬(0:Int)<((0:Nat):Int):=Af
   simp only[↓vS,vT,simprocAttr,hlt,zzU,xl,hx,zza,k1,k2,hn0,hw];refine ih 1 ⟨Ab,?_⟩ Ab _ _ (Wk.mk _ _ [0] ?_ ?_ ?_ rfl)
   .rw[hI,hk];exact Ag
   .simp[vw]
    exact Ae
   .exact Dd
   .simp
  .have hp0:(0:Int)<(j:Int):=Ab
   have hpl:j-1<p.arches.length:=Ab
   have hy:p.arches[j-1]?=some p.arches[j-1]:=Ae
   have hw2:IntKind.wrap .i64 ((j:Int)-1)=((j-1:Nat):Int):=by rw[qC Ab Ab];exact Ab
   rw[if_neg h0,hy]at hI
   by_cases hlt2:c<=p.arches[j-1]
   .have hwf:qbz p=false:=by rw[qpF,hI];exact Ag
    simp only[↓vS,vT,simprocAttr,k1,k2,hp0,hw2,hpl,hlt,hx,hy,zzU,xl,zza,hlt2];simp[vZ,hwf]
   .simp only[↓vS,vT,simprocAttr,k1,k2,hp0,hw2,hpl,hlt,hx,hy,zzU,xl,zza,hlt2,hw];refine ih (j+1) ⟨Ab,?_⟩ Ab _ _ (Wk.mk _ _ [0] ?_ ?_ ?_ rfl)
    .rw[hI,hk];exact Ae
    .simp[vw]
    .exact Dd
    .simp
 .rw[List.drop_of_length_le Ab,zN]at hI;have hm:qbz p=qn0 p:=by rw[qpF,hI];simp
  refine Sb hlt ?_;rw[hm];refine qyJ h1 h2 h3 h4 p hp hr (Wk.mk _ _ [0] ?_ ?_ ?_ rfl)
  .simp[vw]
  .exact Dd
  .simp
end
structure GTest where
 arg:Int
 mask:Int
 val:Int
 act:Int
def xg(t:GTest):List AV:=[.i .i64 t.arg,.i .u64 t.mask,.i .u64 t.val,.i .u32 t.act]
def qed(t:GTest):(xg t).length=4:=rfl
def rT(l:List GTest):List AV:=l.flatMap xg
structure GRule where
 nr:Int
 tests:List GTest
 act:Int
def zn(r:GRule):List AV:=[.i .u32 r.nr,.fz r.tests.length (rT r.tests),.i .u32 r.act]
def qbJ(r:GRule):(zn r).length=3:=rfl
def rR(l:List GRule):List AV:=l.flatMap zn
structure GFil where
 arch:Int
 rules:List GRule
 dflt:Int
def ze(x:GFil):List AV:=[.i .i64 x.arch,.fz x.rules.length (rR x.rules),.i .u32 x.dflt]
section
variable {l m:List GTest}{j:Nat}
def qae:(rT l).length=l.length*4:=qY qed l
def zt:qt (rT l)=true:=jk λ_=>rfl
def qzF:qQ (rT l)=true:=qmI λ_=>rfl
def qpS{c:GTest}(h:l[j]?=some c):((rT l).drop (j*4)).take 4=xg c:=qS qed h
def qsy{c:GTest}(h:l[j]?=some c){i:Nat}(hi:i<4):(rT l)[j*4+i]?=(xg c)[i]?:=zq qed h hi
def qgO:rT l++rT m=rT (l++m):=by simp[rT]
def qry(h:j<l.length):j*4+4<=(rT l).length:=by rw[qae];exact Ab
end
section
variable {l m:List GRule}{j:Nat}
def qfM:(rR l).length=l.length*3:=qY qbJ l
def qu:qt (rR l)=true:=jk λ_=>rfl
def qmq{c:GRule}(h:l[j]?=some c):((rR l).drop (j*3)).take 3=zn c:=qS qbJ h
def qpQ{c:GRule}(h:l[j]?=some c){i:Nat}(hi:i<3):(rR l)[j*3+i]?=(zn c)[i]?:=zq qbJ h hi
def qsx:rR l++rR m=rR (l++m):=by simp[rR]
def qrw(h:j<l.length):j*3+3<=(rR l).length:=by rw[qfM];exact Ab
end
def qgI(x:List UInt8×List Int)(a:Int):Option Int :=
 if a<0\/6<=a\/x.2.getD a.toNat 0<0 then none else some (if a=2 then orI .u32 (IntKind.wrap .u32 (x.2.getD a.toNat 0)) 1073741824 else IntKind.wrap .u32 (x.2.getD a.toNat 0))
def qgH(a:Int)(s:List UInt8):Option Int:=(zo.find? (λx=>decide (x.1=s))).bind λx=>qgI x a
def qgh(x:List UInt8×List Int)(i:Nat)(hi:i<6):qgI x (i:Int)=if x.2.getD i 0<0 then none else some (if(i:Int)=2 then orI .u32 (IntKind.wrap .u32 (x.2.getD i 0)) 1073741824 else IntKind.wrap .u32 (x.2.getD i 0)):=by
 unfold qgI;rw[Int.toNat_natCast]
 exact Ag
def qdo:IFn:=irJ 332 []
def qLl(hc:Ck P f qdo)(x:List UInt8×List Int)(a:Int):qc P f [.agg (qbD x),.i .i64 a] (match qgI x a with|some n=>.tup [.i .u32 n,.b true]|none=>.tup [.i .u32 0,.b false]):=by
 refine Al ?_;simp only[qdo,qbD,vI,simprocAttr]
 by_cases h1:a<0
 .refine Sb h1 ?_;simp[vZ,qgI,h1]
 by_cases h2:6<=a
 .refine Sb (zzA h1 h2) ?_;simp[vZ,qgI,h2]
 have h3:a=0\/a=1\/a=2\/a=3\/a=4\/a=5:=Ab
 clear h1 h2;rcases h3 with rfl|rfl|rfl|rfl|rfl|rfl <;>
 .first
   | rw[show qgI x 0=_ from qgh x 0 Af]
   | rw[show qgI x 1=_ from qgh x 1 Af]
   | rw[show qgI x 2=_ from qgh x 2 Af]
   | rw[show qgI x 3=_ from qgh x 3 Af]
   | rw[show qgI x 4=_ from qgh x 4 Af]
   | rw[show qgI x 5=_ from qgh x 5 Af]
  generalize x.2.getD _ 0=v0
  by_cases h4:v0<0
  .refine Sa h4 ?_;simp[vZ]
  .refine Sa h4 ?_;simp[vZ]
def qe3:IFn:=irJ 331 []
def qKo(hc:Ck P f qe3)(s:List UInt8)(x:List UInt8×List Int):qc P f [.agg (qbD x),.pf [.s s] 0] (.b (decide (x.1=s))):=by
 refine qc.mk hc (by simp[qt,clo,qbD]) ?_;simp only[qe3,qbD,vI,simprocAttr];exact Cu
def qg0(a b c:Nat):IFn:=irJ 324 [331,a,245,b,332,c]
def qD3{g1 g2 g3:Nat}(hc:Ck P f (qg0 g1 g2 g3))(h1:∀s x,qc P g1 [.agg (qbD x),.pf [.s s] 0] (.b (decide (x.1=s))))
  (h2:∀(p:List UInt8×List Int->Bool) (g:Nat) (a c:List AV),qt a=true->qt c=true->(∀x ∈ zo,qc P g (a++([.agg (qbD x)]++c)) (.b (p x)))->qc P g2 [.fn g a c] (qpU p))
  (h3:∀x a,qc P g3 [.agg (qbD x),.i .i64 a] (match qgI x a with|some n=>.tup [.i .u32 n,.b true]|none=>.tup [.i .u32 0,.b false])) (a:Int) (s:List UInt8) :
  qc P f [.i .i64 a,.s s] (match qgH a s with|some n=>.tup [.i .u32 n,.i .i64 0]|none=>.tup [.i .u32 0,.i .i64 90]):=by
 refine Al ?_;simp only[qg0,vI,simprocAttr];refine Ac ?_;refine(h2 (λx=>decide (x.1=s)) g1 [] [.pf [.s s] 0] rfl rfl (λx _=>h1 s x)).lend (vs':=[.fn g1 [] [.pf [.s s] 0]]) ?_ ?_ ?_
 .exact Fg
 .unfold qpU;split<;>rfl
 unfold qpU qgH;cases hf:zo.find? (λx=>decide (x.1=s))with
 | none =>
  have e:=h3 ([],[0,0,0,0,0,0]) a;refine Ac ?_;refine e.sc ?_;cases hn:qgI ([],[0,0,0,0,0,0]) a with
  | none =>
   refine Ac ?_;simp[vZ]
  | some n =>
   refine Ac ?_;simp[vZ]
 | some x =>
  simp only[qbD,↓vS,vT,simprocAttr];refine(h3 x a).sc ?_;cases hn:qgI x a with
  | none =>
   refine Ac ?_;simp[vZ,hn]
  | some n =>
   refine Ac ?_;simp[vZ,hn]
def zJ(mode:Int)(n:Nat)(al dn:Bool):Bool:=if mode=1 then al||decide (0<n)else if mode=2 then dn||decide (0<n)else false
def qhR:IFn:=irJ 289 []
def qF6(hc:Ck P f qhR)(mode:Int)(n:Nat)(al dn:Bool):qc P f [.i .u8 mode,.i .i64 n,.b al,.b dn] (.b (zJ mode n al dn)):=by
 refine Al ?_;simp only[qhR,vI,simprocAttr]
 by_cases m1:mode=1
 .cases al
  .refine Sb m1 ?_;simp[vZ,zJ]
  .refine Sb m1 ?_;simp[vZ,zJ]
 by_cases m2:mode=2
 .cases dn
  .refine Ek ?_;simp[vZ,zJ]
  .refine Ek ?_;simp[vZ,zJ]
 refine Ek ?_;simp[vZ,zJ,m1,m2]
def qf5:IFn:=irJ 288 []
def qL8(hc:Ck P f qf5)(x y:Int):qc P f [.fz 2 (rI .u32 [x,y])] (.i .u32 (if x=0 then y else x)):=by
 refine Bb ?_;simp only[qf5,rI,zz3,List.map_nil,vI,simprocAttr];refine Ac ?_;refine qbj ?_
 by_cases h1:x=0
 .refine Je ?_;refine qbj ?_
  by_cases h2:y=0
  .refine Jd ?_;refine qbj ?_;simp only[↓vS,vT,simprocAttr,Int.reduceLT];simp[vZ,h1,h2]
  .refine Jd ?_;simp[vZ,h1]
 .refine Je ?_;simp[vZ,h1]
def qG(arg mask act:Int)(l:List Int):List GTest:=l.map λv=>⟨arg,mask,v,act⟩
def qK(arg act:Int)(l:List Int):List GTest:=l.map λv=>⟨arg,v,v,act⟩
def qpi(P:Program)(f:Nat):Prop:=∀(arg mask act:Int) (l:List Int),l.length<=100000->Own P f [.i .i64 arg,.i .u64 mask,.i .u32 act,.fz l.length (rI .u64 l)] (.own 0 l.length) [.cells 4 true true (rT (qG arg mask act l))]
def qph(P:Program)(f:Nat):Prop:=∀(arg act:Int) (l:List Int),l.length<=100000->Own P f [.i .i64 arg,.i .u32 act,.fz l.length (rI .u64 l)] (.own 0 l.length) [.cells 4 true true (rT (qK arg act l))]
def qhS:IFn:=irJ 290 []
def qII(hc:Ck P f qhS):qpi P f:=by
 intro arg mask act l hl;refine Own.mk hc (by simp[qt,clo,qd]) ?_;simp only[qhS,vI,simprocAttr];refine Ac ?_
 refine SL.loop (α:=Nat) (λj=>[(0,.i .i64 arg),(1,.i .u64 mask),(2,.i .u32 act),(9,.own 0 j),(12,.fz l.length (rI .u64 l)),(13,.i .i64 l.length),(14,.i .i64 j)]) (λj=>[.cells 4 true true (rT (qG arg mask act (l.take j)))])
  (λj=>j<=l.length) (λj=>l.length-j) 0 [9] ?_ ?_ ?_ rfl ?_ ?_
 .exact Jc
 .simp[vw,rT,qG]
 .simp
 .exact Ab
 rintro j hj G ih;refine Ak ?_
 by_cases hlt:j<l.length
 .have hx:l[j]?=some l[j]:=Ae
  have hw:=wS j;have hr1:j+1<=qe:=by simp only[qe];exact Ab
  have hr2:(j+1)*32<=qe:=by simp only[qe];exact Ab
  have hln:(rT (qG arg mask act (l.take j))).length=j*4:=by rw[qae];simp[qG];exact Ab
  have hb:j*4<=(rT (qG arg mask act (l.take j))).length:=Ab
  have htk:(rT (qG arg mask act (l.take j))).take (j*4)=rT (qG arg mask act (l.take j)):=zzt Ab
  have hap:rT (qG arg mask act (l.take j))++[AV.i .i64 arg,.i .u64 mask,.i .u64 l[j],.i .u32 act]=rT (qG arg mask act (l.take (j+1))):=Bw
  refine Bn ?_;refine ih (j+1) hlt Ab _ _ (Wk.mk _ _ [2] ?_ ?_ ?_ rfl)
  .exact Jc
  .simp[vw,qa,zt]
  .simp
 .have hj':j=l.length:=Ab
  exact Hr
def qi0:IFn:=irJ 292 []
def qJj(hc:Ck P f qi0):qph P f:=by
 intro arg act l hl;refine Own.mk hc (by simp[qt,clo,qd]) ?_;simp only[qi0,vI,simprocAttr];refine Ac ?_
 refine SL.loop (α:=Nat) (λj=>[(0,.i .i64 arg),(1,.i .u32 act),(7,.own 0 j),(10,.fz l.length (rI .u64 l)),(11,.i .i64 l.length),(12,.i .i64 j)]) (λj=>[.cells 4 true true (rT (qK arg act (l.take j)))])
  (λj=>j<=l.length) (λj=>l.length-j) 0 [9] ?_ ?_ ?_ rfl ?_ ?_
 .exact Jc
 .simp[vw,rT,qK]
 .simp
 .exact Ab
 rintro j hj G ih;refine Ak ?_
 by_cases hlt:j<l.length
 .have hx:l[j]?=some l[j]:=Ae
  have hw:=wS j;have hr1:j+1<=qe:=by simp only[qe];exact Ab
  have hr2:(j+1)*32<=qe:=by simp only[qe];exact Ab
  have hln:(rT (qK arg act (l.take j))).length=j*4:=by rw[qae];simp[qK];exact Ab
  have htk:(rT (qK arg act (l.take j))).take (j*4)=rT (qK arg act (l.take j)):=zzt Ab
  have hap:rT (qK arg act (l.take j))++[AV.i .i64 arg,.i .u64 l[j],.i .u64 l[j],.i .u32 act]=rT (qK arg act (l.take (j+1))):=Bd
  refine Bn ?_;refine ih (j+1) hlt Ab _ _ (Wk.mk _ _ [2] ?_ ?_ ?_ rfl)
  .exact Jc
  .simp[vw,qa,zt]
  .simp
 .have hj':j=l.length:=Ab
  exact Hr
def xq(s:Int):List Int:=(qx.map (·.2)).filter λn=>decide (xA .u64 s n≠0)
def qhT(a:Nat):IFn:=irJ 291 [191,a]
def qFF{g:Nat}(hc:Ck P f (qhT g))(hg:qc P g [] (.agg (qx.flatMap (xb .u64))))(s:Int):qc P f [.i .u64 s] (.fz (xq s).length (rI .u64 (xq s))):=by
 refine Al ?_;simp only[qhT,vI,simprocAttr];refine Ac ?_;refine hg.sc ?_;refine Ac ?_;have hlen:(qx.flatMap (xb .u64)).length=16:=Af
 refine SL.loop (α:=Nat) (λj=>[(0,.i .u64 s),(3,.own 0 ((((qx.take j).map (·.2)).filter λn=>decide (xA .u64 s n≠0)).length)),(6,.agg (qx.flatMap (xb .u64))),(7,.i .i64 j)])
  (λj=>[.cells 1 true true (rI .u64 (((qx.take j).map (·.2)).filter λn=>decide (xA .u64 s n≠0)))])
  (λj=>j<=8) (λj=>8-j) 0 [9] ?_ ?_ ?_ rfl ?_ ?_
 .simp[vw,qx,xb]
 .simp[vw,rI]
 .simp
 .exact Ab
 rintro j hj G ih;refine Ak ?_
 by_cases hlt:j<8
 .have hlt':(j:Int)<8:=Ab
  have hjl:j<qx.length:=hlt;have hx:qx[j]?=some qx[j]:=Ae
  have hw:=wS j;have he:=qS (f:=xb .u64) (m:=2) qeO hx;have hb:j*2+2<=(qx.flatMap (xb .u64)).length:=Ab
  generalize hA:((qx.take j).map (·.2)).filter (λn=>decide (xA .u64 s n≠0))=A
  have hA1:((qx.take (j+1)).map (·.2)).filter (λn=>decide (xA .u64 s n≠0))=A++(if xA .u64 s qx[j].2=0 then []else [qx[j].2]):=Eb
  have hAl:A.length<=j:=by
   rw[<- hA];exact Ag
  generalize hc0:qx[j]=c at hx he hA1;generalize hT:qx.flatMap (xb .u64)=T at he hb hlen;have hTc:qt T=true:=by rw[<- hT];rfl
  have hr1:A.length+1<=qe:=by simp only[qe];exact Ab
  have hr2:(A.length+1)*8<=qe:=by simp only[qe];exact Ab
  by_cases h0:xA .u64 s c.2=0
  .rw[if_pos h0,List.append_nil]at hA1;simp only[↓vS,vT,simprocAttr,hlt',hlt,he,hb,xb,h0,hw];refine ih (j+1) hlt Ab _ _ (Wk.mk _ _ [0] ?_ ?_ ?_ rfl)
   .rw[hA1,hT];simp[vw,qa,hTc]
   .rw[hA1];simp[vw,qa,qd]
   .simp
  .rw[if_neg h0]at hA1;have hap:rI .u64 A++[AV.i .u64 c.2]=rI .u64 (A++[c.2]):=Io
   simp +decide only[↓vS,vT,simprocAttr,hlt',hlt,he,hb,xb,h0,hw,hr1,hr2,xv,zzU,hap];refine ih (j+1) hlt Ab _ _ (Wk.mk _ _ [3] ?_ ?_ ?_ rfl)
   .rw[hA1,hT];simp[vw,qa,hTc]
   .rw[hA1];simp[vw,qa,qd]
   .simp
 .have hj':j=8:=Ab
  subst hj';have hlt':¬(((8:Nat):Int)<8):=Af
  refine Sb hlt' ?_;refine .own 0 _ 1 true _ _ ?_ (λh0=>?_) (Frzs.self qd)
  .simp[zz4,xq,qx]
  .have h0:(xq s).length=0:=h0;exact Dq
def zS:IFn:=irJ 109 []
def qFc(hc:Ck P f zS):qb2 P f 4 32:=by
 intro n rows hlen hcl hok hr1 hr2;refine Own.of_SC Ea ?_;cases n with
 | zero =>
  obtain rfl:rows=[]:=Ae
  refine SC.nil0 (SC.mk hc (qh ?_)) (SC.mk hc (qh ?_))
  .simp only[zS,vI,simprocAttr];refine Ac ?_;intro _;refine⟨[1],?_⟩;simp[vw]
  .simp only[zS,vI,simprocAttr];exact Gp
 | succ n =>
  refine Bg ?_;simp only[zS,vI,simprocAttr];have h1:1<=n+1:=Ab
  have h2:(n+1)*4<=rows.length:=Ab
  have h3:rows.take ((n+1)*4)=rows:=Ag
  have h4:¬(n+1<=0):=Ab
  exact Ed
def mkC(p:Pol)(a d:Int)(b n:Nat):List AV:=qm p++[.i .i64 a,.own b n,.i .u32 d]
def mkB(p:Pol)(a d:Int)(b n:Nat):Blk:=.cells 0 true false (mkC p a d b n)
def zz(a act:Int)(ts:List GTest)(ns:List (List UInt8)):List GRule:=ns.filterMap λs=>(qgH a s).map λn=>⟨n,ts,act⟩
def qdI(P:Program)(f:Nat):Prop:=∀(p:Pol) (a d act:Int) (ts:List GTest) (ns:List (List UInt8)) (rs:List GRule),ts.length<=100000->rs.length+ns.length<=100000->
 Upd P f [.ptr 0 0,.i .u32 act,.fz ts.length (rT ts),.fz ns.length (rS ns)] [mkB p a d 1 rs.length,.cells 3 true true (rR rs)] (.tup [])
  [mkB p a d 2 (rs++zz a act ts ns).length,.dead,.cells 3 true true (rR (rs++zz a act ts ns))]
def qdY(a b:Nat):IFn:=irJ 287 [324,a,109,b]
def qKJ{g1 g2:Nat}(hc:Ck P f (qdY g1 g2))
  (h1:∀(a:Int) (s:List UInt8),qc P g1 [.i .i64 a,.s s] (match qgH a s with|some n=>.tup [.i .u32 n,.i .i64 0]|none=>.tup [.i .u32 0,.i .i64 90])) (h2:qb2 P g2 4 32):qdI P f:=by
 intro p a d act ts ns rs hts hrs;refine Bl ?_;simp only[qdY,mkB,mkC,qm,vI,simprocAttr,zzC,zzN];refine Ac ?_
 refine SL.loopd (α:=Nat) (λj=>[(0,.ptr 0 0),(1,.i .u32 act),(2,.fz ts.length (rT ts)),(12,.fz ns.length (rS ns)),(13,.i .i64 ns.length),(14,.i .i64 j)])
  (λj=>[mkB p a d 2 (rs++zz a act ts (ns.take j)).length,.dead,.cells 3 true true (rR (rs++zz a act ts (ns.take j)))])
  (λj=>j<=ns.length) (λj=>ns.length-j) 0 [0,1,1] ?_ ?_ ?_ rfl (by simp) ?_ ?_ ?_
 .simp[vw,zt,qpR]
 .simp[vw,mkB,mkC,qm,zz,qa,qu,qg,qd]
 .exact Jf
 .intro b hb;have:b=0\/b=1:=Ab
  exact Ax
 .exact Ab
 rintro j hj G ih;refine Hg ?_
 by_cases hlt:j<ns.length
 .have hx:ns[j]?=some ns[j]:=Ae
  have hg:(rS ns)[j]?=some (.s ns[j]):=by rw[qHj,hx];rfl
  have hw:=wS j
  have hnx:zz a act ts (ns.take (j+1))=zz a act ts (ns.take j)++((qgH a ns[j]).map λn=>⟨n,ts,act⟩).toList:=by
   rw[zz2,hx];unfold zz;rw[List.filterMap_append];cases hq:qgH a ns[j]<;>simp[hq]
  have hl1:(zz a act ts (ns.take j)).length<=j:=by
   unfold zz;exact Ag
  generalize hA:rs++zz a act ts (ns.take j)=A;have hAl:A.length<=rs.length+j:=by rw[<- hA];exact Ag
  have hA1:rs++zz a act ts (ns.take (j+1))=A++((qgH a ns[j]).map λn=>⟨n,ts,act⟩).toList:=by rw[hnx,<- zzi,hA]
  generalize hs0:ns[j]=s at hg hA1;simp only[↓vS,vT,simprocAttr,hlt,zzU,hg];refine(h1 a s).sc ?_;cases hn:qgH a s with
  | none =>
   rw[hn]at hA1;simp only[Option.map_none,Option.toList_none,List.append_nil]at hA1;refine Sa hw ?_;refine ih (j+1) hlt Ab _ _ (Wk.mkd _ _ [0,1,2] ?_ ?_ ?_ rfl (by simp) ?_)
   .simp[vw,zt,qpR]
   .rw[hA1];exact Cd
   .exact Jf
   .intro b hb;have:b=0\/b=1:=Ab
    exact Ax
  | some n =>
   rw[hn]at hA1;simp only[zza,Option.toList_some]at hA1;have hr1:A.length+1<=qe:=by simp only[qe];exact Ab
   have hr2:(A.length+1)*40<=qe:=by simp only[qe];exact Ab
   refine Sa hw ?_;refine qX ?_;refine Ac ?_;refine(h2.pure qae zt qzF (by simp only[qe];exact Ab) (by simp only[qe];exact Ab)).pc ?_;have hap:rR A++[AV.i .u32 n,.fz ts.length (rT ts),.i .u32 act]=rR (A++[⟨n,ts,act⟩]):=by rw[<- qsx];rfl
   have htk:(rR A).take (A.length*3)=rR A:=zzt (by rw[qfM];exact Ab);simp +decide only[↓vS,vT,simprocAttr,hr1,hr2,qfM,htk,hap];refine ih (j+1) hlt Ab _ _ (Wk.mkd _ _ [0,1,4] ?_ ?_ ?_ rfl (by simp) ?_)
   .simp[vw,zt,qpR];exact Ab
   .rw[hA1];exact Cd
   .exact Jf
   .intro b hb;have:b=0\/b=1:=Ab
    exact Ax
 .have hj':j=ns.length:=Ab
  subst hj';refine Sb hlt ?_;intro _;rw[zz0];refine Hb ?_
  exact Ag
def xH(P:Program)(f:Nat)(F:Pol->Int->Bool×List GRule×Int):Prop:=∀(p:Pol) (a:Int),PolOk p->PolR p->
 Upd P f [.ptr 0 0] [mkB p a 2147418112 1 0,.cells 3 true true (rR [])] (.b (F p a).1) [mkB p a (F p a).2.2 2 (F p a).2.1.length,.dead,.cells 3 true true (rR (F p a).2.1)]
def qjT(a own:Int)(l:List GCall):List GRule:=l.flatMap λc=>zz a (if c.act=0 then own else c.act) [] [c.name]
def qlW(p:Pol)(a:Int):Bool×List GRule×Int:=(zJ p.filter.mode p.filter.calls.length true false,qjT a (if p.filter.mode=1 then 2147418112 else p.deny) p.filter.calls,if p.filter.mode=1 then p.deny else 2147418112)
def qaP(a act:Int)(ts:List GTest)(ns:List (List UInt8)):(zz a act ts ns).length<=ns.length:=List.length_filterMap_le _ _
def qqJ(a own:Int):∀l,(qjT a own l).length<=l.length
 | []=>zzL _
 | c::l=>by
  have h1:=qqJ a own l;have h2:=qaP a (if c.act=0 then own else c.act) [] [c.name]
  simp only[qjT,zzv,zzP,zze,List.length_nil]at h1 h2 ⊢;exact Ab
def qu1{a own:Int}{l:List GCall}{j:Nat}{c:GCall}(h:l[j]?=some c):qjT a own (l.take (j+1))=qjT a own (l.take j)++zz a (if c.act=0 then own else c.act) [] [c.name]:=by
 rw[zz2,h];simp[qjT]
def wM(a b c:Nat):ICode:=icJ 247 [288,a,287,b,289,c] 15 [] [] ⟨[287],false,[]⟩
def qcz(a b c:Nat):IFn:=irJ 247 [288,a,287,b,289,c] [15] [wM a b c] ⟨[287],false,[]⟩
def qng{g1 g2 g3:Nat}(h1:∀x y,qc P g1 [.fz 2 (rI .u32 [x,y])] (.i .u32 (if x=0 then y else x)))(h2:qdI P g2)(h3:∀mode n al dn,qc P g3 [.i .u8 mode,.i .i64 (n:Nat),.b al,.b dn] (.b (zJ mode n al dn)))
  (p:Pol) (a d own:Int) (hp:PolOk p) {t':Tr AV}{h':Hp}(hw:Wk 2 t' h' (mkT [(0,.ptr 0 0),(3,.i .u32 own)]) (mkH 0 [mkB p a d 1 0,.cells 3 true true (rR [])])) :
  S P 2 (wM g1 g2 g3) (zQ [.tmp 2] (qqa 2 (.b (zJ p.filter.mode p.filter.calls.length true false)) [mkB p a d 2 (qjT a own p.filter.calls).length,.dead,.cells 3 true true (rR (qjT a own p.filter.calls))])) t' h':=by
 have hl:=hp.c;refine Ay ?_;simp only[wM,mkB,mkC,qm,zzC,zzN,vI,simprocAttr];refine Ac ?_
 refine SL.loopd (α:=Nat) (λj=>[(0,.ptr 0 0),(3,.i .u32 own),(32,.fz p.filter.calls.length (rC p.filter.calls)),(33,.i .i64 p.filter.calls.length),(34,.i .i64 j)])
  (λj=>[mkB p a d 2 (qjT a own (p.filter.calls.take j)).length,.dead,.cells 3 true true (rR (qjT a own (p.filter.calls.take j)))])
  (λj=>j<=p.filter.calls.length) (λj=>p.filter.calls.length-j) 0 [0,1,1] ?_ ?_ ?_ rfl (by simp) ?_ ?_ ?_
 .simp[vw,qg]
 .simp[vw,mkB,mkC,qm,qjT,qa,qu,qg,qd]
 .exact Jf
 .intro b hb;have:b=0\/b=1:=Ab
  exact Ax
 .exact Ab
 rintro j hj G ih;refine Hg ?_
 by_cases hlt:j<p.filter.calls.length
 .have hx:p.filter.calls[j]?=some p.filter.calls[j]:=Ae
  have he:=qpL hx;have hb:=qnr hlt;have hw:=wS j;have hA1:=qu1 (a:=a) (own:=own) hx;have hl1:=qqJ a own (p.filter.calls.take j);rw[zzm,Nat.min_eq_left Ab]at hl1;generalize hA:qjT a own (p.filter.calls.take j)=A at hA1 hl1;generalize hc0:p.filter.calls[j]=c at he hA1;simp only[↓vS,vT,simprocAttr,hlt,hb,he,qfW];refine qX ?_;refine Ac ?_;refine(h1 c.act own).lendp (vs':=[.fz 2 (rI .u32 [c.act,own])]) ?_ rfl ?_
  .refine .cons _ _ _ _ (.cut 1 rfl (zzL _) ?_) .nil;simp[vw,rI]
  refine Ac ?_;refine PC.give (vs':=[.ptr 0 0,.i .u32 (if c.act=0 then own else c.act),.fz 0 (rT []),.fz 1 (rS [c.name])]) [(5,.cells 0 true false [.s c.name])] ?_ ?_ ?_
  .exact Gf
  .refine Dj ?_;simp[vw,trP,rS]
  refine El ?_;refine(h2 p a d (if c.act=0 then own else c.act) [] [c.name] A (by simp) Ag).pc (vs:=[.ptr 0 0,.i .u32 (if c.act=0 then own else c.act),.fz 0 (rT []),.fz 1 (rS [c.name])]) [0,2] (Lent.of Af ?_) ?_
  .exact Au
  rw[<- hA1];refine Aw ?_;refine Sb hw ?_;refine ih (j+1) hlt Ab _ _ (Wk.mkd _ _ [0,1,6] ?_ ?_ ?_ rfl (by simp) ?_)
  .simp[vw,qg]
  .exact Cd
  .exact Jf
  .intro b hb;have:b=0\/b=1:=Ab
   exact Ax
 .have hj':j=p.filter.calls.length:=Ab
  subst hj';refine D3 ?_;refine Ac ?_;refine(h3 p.filter.mode p.filter.calls.length true false).pc ?_;refine Ac ?_;rw[zz0];intro _;refine Hb ?_
  exact Ag
def qD0{g1 g2 g3:Nat}(hc:Ck P f (qcz g1 g2 g3))(h1:∀x y,qc P g1 [.fz 2 (rI .u32 [x,y])] (.i .u32 (if x=0 then y else x)))(h2:qdI P g2)(h3:∀mode n al dn,qc P g3 [.i .u8 mode,.i .i64 (n:Nat),.b al,.b dn] (.b (zJ mode n al dn))):xH P f qlW:=by
 intro p a hp hR;refine Bl ?_;simp only[qcz,mkB,mkC,qm,vI,simprocAttr,zzC,zzN]
 by_cases m:p.filter.mode=1
 .refine Sb m ?_;have e:qlW p a=(zJ p.filter.mode p.filter.calls.length true false,qjT a 2147418112 p.filter.calls,p.deny):=by simp[qlW,m]
  rw[e];refine qng h1 h2 h3 p a p.deny 2147418112 hp (Wk.mkd _ _ [0,1] ?_ ?_ ?_ rfl (by simp) ?_)
  .simp[vw]
  .simp[vw,mkB,mkC,qm,qa,qu,qg,qd,m,rR]
  .exact Jf
  .intro b hb;have:b=0\/b=1:=Ab
   exact Ax
 .refine Sb m ?_;have e:qlW p a=(zJ p.filter.mode p.filter.calls.length true false,qjT a p.deny p.filter.calls,2147418112):=by simp[qlW,m]
  rw[e];refine qng h1 h2 h3 p a 2147418112 p.deny hp (Wk.mkd _ _ [0,1] ?_ ?_ ?_ rfl (by simp) ?_)
  .simp[vw]
  .exact It
  .exact Jf
  .intro b hb;have:b=0\/b=1:=Ab
   exact Ax
end
end
end Go.Kc
