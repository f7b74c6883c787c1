/- Part 10 of the abstract machine and of the functions' walks. Conditions: with each theorem. -/
import Derived.Test.YtgaodkfneooonaaGreatOK9
set_option maxHeartbeats 4000000
set_option linter.defProp false
set_option linter.unusedSectionVars false
set_option linter.unusedSimpArgs false
set_option linter.unusedVariables false
set_option linter.unnecessarySimpa false
section
namespace Go.Kc
variable {P:Program} {f:Nat}
def qd7(c:Int):Prop:=c=21\/c=37\/c=53\/c=69
def qfq(s:Sy)(j n:Nat):Prop :=
 (s.code=32/\s.th=0/\s.el=0/\s.k % 4=0/\0<=s.k/\s.k<64)\/((s.code=84\/s.code=6)/\s.th=0/\s.el=0)\/(s.code=5/\s.k=0/\s.el=0/\j<s.th/\s.th<n)\/(qd7 s.code/\j<s.th/\s.th<n/\j<s.el/\s.el<n)
structure MayL (l:List Sy):Prop where
 pos:0<l.length
 big:l.length<=131072
 last:∃s,l[l.length-1]?=some s/\s.code=6
 all:∀(j:Nat) s,l[j]?=some s->qfq s j l.length
theorem qZ{l:List Sy}:qt (rSy l)=true:=xP λ_=>rfl
def qxd{l:List Sy}:qD (rSy l)=true:=qlk λ_=>rfl
def qfy{T:List Sy}{j:Nat}{x:Sy}(h:T[j]?=some x):((rSy T).drop (j*4)).take 4=cSy x:=qS qd8 h
def qjo{T:List Sy}{j:Nat}{x:Sy}(h:T[j]?=some x){i:Nat}(hi:i<4):(rSy T)[j*4+i]?=(cSy x)[i]?:=qcz qd8 h hi
def qfk:IFn:=⟨[.tmp 4],sq [.r [.m 4 .F],.r [.n 5 0,.d 6 1,.b 7 .gtr 5 6,.n 8 7,.y 9 0 8,.j 10 2 8 true,.g 11 (.bin .lss (.t 9) (.t 10)) 8 true,.p 12 8 11,.n 4 12],.ret]⟩
def qEY(hc:qc P f qfk=true)(x j n:Nat)(h1:j<x)(h2:x<n):qa P f [.j (x:Int),.pf [.j (j:Int)] 0,.pf [.j (n:Int)] 0] (.b true):=by
 refine qa.mk hc rfl ?_;have h1':(j:Int)<x:=by omega
 have h2':(x:Int)<n:=by omega
 simp only[qfk,vI,simprocAttr];simp +decide only[↓vS,vT,simprocAttr,h1',h2'];simp[vZ]
def qi2:IFn:=⟨[.tmp 2],sq [.r [.m 2 .F],.r [.n 3 0,.q 4 (.bin .eql (.t 3) (.c (.h 21))),.n 5 4,.z 6 0 5,.g 7 (.bin .eql (.t 6) (.c (.h 37))) 5 false,.o 8 5 7,.n 9 8,.z 10 0 9,.g 11 (.bin .eql (.t 10) (.c (.h 53))) 9 false,.o 12 9 11,.n 13 12,.z 14 0 13,.g 15 (.bin .eql (.t 14) (.c (.h 69))) 13 false,.o 16 13 15,.n 2 16],.ret]⟩
def qFd(hc:qc P f qi2=true)(c:Int)(h:qd7 c):qa P f [.h c] (.b true):=by
 refine qa.mk hc rfl ?_;simp only[qi2,vI,simprocAttr];rcases h with rfl|rfl|rfl|rfl
 all_goals
  simp +decide only[↓vS,vT,simprocAttr];simp[vZ]
def qgK(a b c:Nat):IFn:=⟨[.tmp 6],sq [.r [.q 3 (.box (.t 0)),.q 4 (.box (.t 1)),.q 5 (.box (.t 2)),.m 6 .F],.r [.q 11 (.mkF a [] [.t 4,.t 5]),.n 7 11],.r [.f 12 2 3,.d 13 12,.w 14 .eql 13 0,.n 15 14,.h 16 3 3 15 true,.j 17 16 15 true,.g 18 (.bin .eql (.t 17) (.k 0)) 15 true,.p 19 15 18,.n 8 19],.blk 0 (sq [.r [.f 21 0 3,.d 22 21,.q 23 (.bin .eql (.t 22) (.c (.h 32))),.n 20 23],.cond (.t 20) (sq [.r [.q 25 (.build [.w 0,.w 0,.x 0,.x 0,.x 0,.x 0,.x 0,.x 0,.x 0] []),.f 26 1 3,.d 27 26,.l 28 b [.t 25,.t 27],.n 24 28,.x 29 24 0,.x 30 24 1,.n 9 29,.n 10 30],.r [.n 31 8,.n 32 31,.y 33 10 32,.g 34 (.bin .eql (.t 33) (.k 0)) 32 true,.p 35 32 34,.n 6 35],.ret]) (sq [.r [.f 37 0 3,.d 38 37,.q 39 (.bin .eql (.t 38) (.c (.h 84))),.n 40 39,.h 41 0 3 40 false,.j 42 41 40 false,.g 43 (.bin .eql (.t 42) (.c (.h 6))) 40 false,.o 44 40 43,.n 36 44],.cond (.t 36) (sq [.r [.n 45 8,.n 6 45],.ret]) (sq [.r [.f 47 0 3,.d 48 47,.q 49 (.bin .eql (.t 48) (.c (.h 5))),.n 46 49],.cond (.t 46) (sq [.r [.f 50 1 3,.d 51 50,.q 52 (.bin .eql (.t 51) (.c (.w 0))),.n 53 52,.h 54 3 3 53 true,.j 55 54 53 true,.g 56 (.bin .eql (.t 55) (.k 0)) 53 true,.p 57 53 56,.n 58 57,.y 59 7 58,.h 60 2 3 58 true,.j 61 60 58 true,⟨(some 62),.callV (.t 59) [.t 61],(some (58,true))⟩,.p 63 58 62,.n 6 63],.ret]) (.skip)])])]),.r [.f 64 0 3,.d 65 64,.l 66 c [.t 65],.n 67 66,.y 68 7 67,.h 69 2 3 67 true,.j 70 69 67 true,⟨(some 71),.callV (.t 68) [.t 70],(some (67,true))⟩,.p 72 67 71,.n 73 72,.y 74 7 73,.h 75 3 3 73 true,.j 76 75 73 true,⟨(some 77),.callV (.t 74) [.t 76],(some (73,true))⟩,.p 78 73 77,.n 6 78],.ret]⟩
def qFD{g1 g2 g3:Nat}(hc:qc P f (qgK g1 g2 g3)=true)(h1:∀x j n:Nat,j<x->x<n->qa P g1 [.j (x:Int),.pf [.j (j:Int)] 0,.pf [.j (n:Int)] 0] (.b true))(h2:quR P g2)(h3:∀c,qd7 c->qa P g3 [.h c] (.b true))(s:Sy)(j n:Nat)(hs:qfq s j n)(hn:n<=1000000)(hj:j<n) :
  qa P f [.agg (cSy s),.j (j:Int),.j (n:Int)] (.b true):=by
 refine qa.mk hc rfl ?_;simp only[qgK,cSy,vI,simprocAttr];obtain⟨code,sk,th,el⟩:=s;simp only[qfq]at hs;rcases hs with⟨rfl,rfl,rfl,k4,k0,k64⟩|⟨hcd,rfl,rfl⟩|⟨rfl,rfl,rfl,j1,j2⟩|⟨hcd,j1,j2,j3,j4⟩
 .have hw:=h2 ⟨0,0,0,0,0,0,0,0,0⟩ (by constructor<;>decide) sk k0 (by omega);have e:qnv ⟨0,0,0,0,0,0,0,0,0⟩ sk = .tup [.w ((jw ⟨0,0,0,0,0,0,0,0,0⟩).getD (sk / 4).toNat 0),.j 0]:=by unfold qnv;rw[if_neg (by omega)]
  rw[e]at hw;simp only[zt]at hw;have z0:((0:Nat):Int)=0:=rfl;simp +decide only[↓vS,vT,simprocAttr,z0];refine hw.sc ?_;simp +decide only[↓vS,vT,simprocAttr];simp[vZ]
 .have z0:((0:Nat):Int)=0:=rfl;rcases hcd with rfl|rfl
  .simp +decide only[↓vS,vT,simprocAttr,z0];simp[vZ]
  .simp +decide only[↓vS,vT,simprocAttr,z0];simp[vZ]
 .have z0:((0:Nat):Int)=0:=rfl;have t0:¬(th:Int)=0:=by omega
  have t1:j<th:=j1;simp +decide only[↓vS,vT,simprocAttr,z0,t0];refine(h1 th j n j1 j2).lend (by simp[vZ,vP,Tr.get_set]) rfl ?_;simp +decide only[↓vS,vT,simprocAttr];simp[vZ]
 .have t0:¬(th:Int)=0:=by omega
  have ha:=h3 code hcd;have n1:¬code=32:=by rcases hcd with h|h|h|h<;>omega
  have n2:¬code=84:=by rcases hcd with h|h|h|h<;>omega
  have n3:¬code=6:=by rcases hcd with h|h|h|h<;>omega
  have n4:¬code=5:=by rcases hcd with h|h|h|h<;>omega
  simp +decide only[↓vS,vT,simprocAttr,t0,n1,n2,n3,n4];refine ha.sc ?_;simp +decide only[↓vS,vT,simprocAttr];refine(h1 th j n j1 j2).lend (by simp[vZ,vP,Tr.get_set]) rfl ?_;simp +decide only[↓vS,vT,simprocAttr];refine(h1 el j n j3 j4).lend (by simp[vZ,vP,Tr.get_set]) rfl ?_;simp +decide only[↓vS,vT,simprocAttr];simp[vZ]
def qkf(a:Nat):IFn:=⟨[.tmp 2],sq [.r [.m 2 .F],sq [.r [.n 5 0,.e 6 5,.w 7 .lss 6 1,.n 8 7,.z 9 0 8,.g 10 (.len false (.t 9)) 8 false,.g 11 (.bin .gtr (.t 10) (.k 131072)) 8 false,.o 12 8 11,.n 13 12,.z 14 0 13,.z 15 0 13,.g 16 (.len false (.t 15)) 13 false,.g 17 (.bin .sub (.t 16) (.k 1)) 13 false,.g 18 (.iAddrS 4 (.t 14) (.t 17)) 13 false,.h 19 0 18 13 false,.j 20 19 13 false,.g 21 (.bin .neq (.t 20) (.c (.h 6))) 13 false,.o 22 13 21],.cond (.t 22) (sq [.r [.m 2 .F],.ret]) (.skip)],sq [.r [.n 23 0,.e 24 23,.m 25 (.k 0)],.blk 0 (.loop (sq [.r [.s 26 25 24],.cond (.t 26) (.skip) (.exit 0),.blk 1 (sq [.r [.n 27 25,.i 28 4 23 25,.v 29 4 28,.q 4 (.alloc [.h 0,.w 0,.j 0,.j 0]),.n 3 27,.u (.store 4 (.t 4) (.t 29))],.r [.v 30 4 4,.n 31 3,.n 32 0,.e 33 32,.l 34 a [.t 30,.t 31,.t 33],.q 35 (.un .not (.t 34))],.cond (.t 35) (sq [.r [.m 2 .F],.ret]) (.skip)]),.r [.a 36 25 1,.n 25 36]]))],.r [.m 2 .T],.ret]⟩
def qII{g:Nat}(hc:qc P f (qkf g)=true)(hg:∀(s:Sy) (j n:Nat),qfq s j n->n<=1000000->j<n->qa P g [.agg (cSy s),.j (j:Int),.j (n:Int)] (.b true))(l:List Sy)(hl:MayL l):qa P f [.fz l.length (rSy l)] (.b true):=by
 refine qa.mk hc (by simp[qt,clo,qZ]) ?_;obtain⟨z,hz,hz6⟩:=hl.last;have p1:=hl.pos;have p2:=hl.big;have n1:¬(l.length:Int)<1:=by omega
 have n2:¬131072<(l.length:Int):=by omega
 have e1:IntKind.wrap .i64 ((l.length:Int)-1)=((l.length-1:Nat):Int):=by rw[qp (by omega) (by omega)];omega
 have hlt:l.length-1<l.length:=by omega
 have gz:=qjo hz (i:=0) (by omega);have gz':(rSy l)[(l.length-1)*4]?=some (.h 6):=by rw[<- hz6];exact gz
 simp only[qkf,vI,simprocAttr];simp +decide only[↓vS,vT,simprocAttr,n1,n2,e1,hlt,gz'];refine SL.loopP (α:=Nat) (λi=>[(0,.fz l.length (rSy l)),(23,.fz l.length (rSy l)),(24,.j (l.length:Int)),(25,.j (i:Int))]) (λi h=>i<=l.length/\h.fl=0) (λi=>l.length-i) ?_ 0 ?_ ?_
 .rintro i ⟨s,fl,tr⟩ ⟨hi,rfl⟩ G ih;simp only[vI,simprocAttr]
  by_cases hi':i<l.length
  .have hlt':(i:Int)<l.length:=by omega
   obtain⟨x,hx⟩:∃x,l[i]?=some x:=⟨_,zzE hi'⟩;have hel:=qfy hx;have h4:i*4+4<=(rSy l).length:=by rw[qao];omega
   have hw1:IntKind.wrap .i64 ((i:Int)+1)=((i+1:Nat):Int):=by rw[qp (by omega) (by omega)];simp
   have hp:=hg x i l.length (hl.all i x hx) (by omega) hi';simp only[cSy]at hp;simp +decide only[↓vS,vT,simprocAttr,hlt',hi',h4,hel,cSy];refine hp.sc ?_;simp +decide only[↓vS,vT,simprocAttr,hw1];exact ih (i+1) _ _ (by omega) (by simp[qg,ql,Tr.get_set]) ⟨by omega,rfl⟩
  .obtain rfl:i=l.length:=by omega
   have hlt':¬((l.length:Int)<l.length):=by omega
   simp +decide only[↓vS,vT,simprocAttr,hlt'];simp[vZ]
 all_goals simp_all[qg,ql,Tr.get_set]
def zA:IFn:=⟨[.tmp 2],sq [.r [.m 2 .N],sq [.r [.n 3 0,.q 4 (.eqN false .slice (.t 3))],.cond (.t 4) (sq [.r [.m 2 .N],.ret]) (.skip)],.r [.q 5 (.buildS 0 [.h 0,.w 0,.j 0,.j 0] []),.n 6 0,.q 7 (.app 4 24 true (.t 5) (.t 6)),.n 2 7],.ret]⟩
def qFg(hc:qc P f zA=true):qbx P f 4 24:=by
 intro n rows hlen hcl hok hr1 hr2;refine Own.of_SC (by simp[qt,clo]) ?_;cases n with
 | zero =>
  obtain rfl:rows=[]:=by simp_all
  refine SC.nil0 (SC.mk hc (qk ?_)) (SC.mk hc (qk ?_))
  .simp only[zA,vI,simprocAttr];simp only[↓vS,vT,simprocAttr];intro _;refine⟨[1],?_⟩;simp[vw]
  .simp only[zA,vI,simprocAttr];simp only[↓vS,vT,simprocAttr,if_true];intro _;refine⟨[1],?_⟩;simp[vw]
 | succ n =>
  refine SC.mk hc (qk ?_);simp only[zA,vI,simprocAttr];have h1:1<=n+1:=by omega
  have h2:(n+1)*4<=rows.length:=by omega
  have h3:rows.take ((n+1)*4)=rows:=by grind
  have h4:¬(n+1<=0):=by omega
  simp only[↓vS,vT,simprocAttr,h1,h2,h3,h4,hr1,hr2,hok,zzU,Nat.zero_mul];intro _;refine⟨[1],?_⟩;simp[vw,qe,hcl]
def qbu(s:Sy):Prop:=qm s.code=4
def qcO(s:Sy):Prop:=qm s.code=4/\s.code≠5
instance (s:Sy):Decidable (qbu s):=by unfold qbu;infer_instance
instance (s:Sy):Decidable (qcO s):=by unfold qcO;infer_instance
def qki(a:Nat):IFn:=⟨[.tmp 2],sq [.r [.q 1 (.box (.t 0)),.m 2 .F],.r [.f 3 0 1,.d 4 3,.l 5 a [.t 4],.q 6 (.bin .eql (.t 5) (.c (.y 4))),.n 7 6,.h 8 0 1 7 true,.j 9 8 7 true,.g 10 (.bin .neq (.t 9) (.c (.h 5))) 7 true,.p 11 7 10,.n 2 11],.ret]⟩
def qgy(P:Program)(f:Nat):Prop:=∀s:Sy,qa P f [.agg (cSy s)] (.b (decide (qcO s)))
def qIk{g:Nat}(hc:qc P f (qki g)=true)(hg:cOf P g):qgy P f:=by
 intro s;refine qa.mk hc rfl ?_;simp only[qki,cSy,vI,simprocAttr];simp +decide only[↓vS,vT,simprocAttr];refine(hg s.code).sc ?_
 by_cases h1:qm s.code=4
 .by_cases h2:s.code=5
  .simp +decide only[↓vS,vT,simprocAttr,h1,h2];simp[vZ,qcO,h2]
  .simp +decide only[↓vS,vT,simprocAttr,h1,h2];simp[vZ,qcO,h1,h2]
 .simp +decide only[↓vS,vT,simprocAttr,h1];simp[vZ,qcO,h1]
def qbd(to:Nat->Nat)(s:Sy):Sy:=⟨s.code,s.k,if qbu s then to s.th else s.th,if qcO s then to s.el else s.el⟩
def qAw{α:Type}{A B:List α}{x y:α}:(A++x::B).set A.length y=A++y::B:=by
 rw[List.set_append];simp
def jm(a b c:Nat):IFn:=⟨[.tmp 4],sq [.r [.m 4 .N],.r [.n 8 0,.l 9 a [.t 8],.n 5 9],sq [.r [.n 10 5,.e 11 10,.m 12 (.k 0)],.blk 0 (.loop (sq [.r [.s 13 12 11],.cond (.t 13) (.skip) (.exit 0),.blk 1 (sq [.r [.n 14 12,.i 15 4 10 12,.v 16 4 15,.q 7 (.alloc [.h 0,.w 0,.j 0,.j 0]),.n 6 14,.u (.store 4 (.t 7) (.t 16))],sq [.r [.f 17 0 7,.d 18 17,.l 19 b [.t 18],.q 20 (.bin .eql (.t 19) (.c (.y 4)))],.cond (.t 20) (.r [.n 21 5,.n 22 6,.n 23 1,.f 24 2 7,.d 25 24,⟨(some 26),.callV (.t 23) [.t 25],none⟩,.i 27 4 21 22,.f 28 2 27,.u (.store 1 (.t 28) (.t 26))]) (.skip)],.r [.v 29 4 7,.l 30 c [.t 29]],.cond (.t 30) (.r [.n 31 5,.n 32 6,.n 33 1,.f 34 3 7,.d 35 34,⟨(some 36),.callV (.t 33) [.t 35],none⟩,.i 37 4 31 32,.f 38 3 37,.u (.store 1 (.t 38) (.t 36))]) (.skip)]),.r [.a 39 12 1,.n 12 39]]))],.r [.n 40 5,.n 4 40],.ret]⟩
def qlS{g1 g2 g3 gt s fl:Nat}{tr:Tr Blk}{caps:List AV}{k:AV->Hp->Prop}(hc:qc P f (jm g1 g2 g3)=true)(h1:qbx P g1 4 24)(h2:cOf P g2)(h3:qgy P g3)(l:List Sy)(hl:l.length<=200000)(hfl:fl<=s)(to:Nat->Nat)
  (hto:∀x ∈ l,∀j:Nat,(qbu x/\j=x.th)\/(qcO x/\j=x.el)->∀(s':Nat) (tr':Tr Blk) (k':AV->Hp->Prop),s<=s'->(∀b,b<s->tr'.get b=tr.get b)->k' (.j ((to j:Nat):Int)) ⟨s',fl,tr'⟩->SC P gt (.j (j:Int)::caps) ⟨s',fl,tr'⟩ k')
  (hk:∀s' tr' b,s<=s'->(∀c,c<s->tr'.get c=tr.get c)->s<=b->b<s'->tr'.get b=some (.cells 4 true true (rSy (l.map (qbd to))))->k (.own b l.length) ⟨s',fl,tr'⟩):SC P f [.fz l.length (rSy l),.fn gt [] caps] ⟨s,fl,tr⟩ k:=by
 refine SC.mk hc (qk ?_);simp only[jm,vI,simprocAttr];simp +decide only[↓vS,vT,simprocAttr];refine(h1 l.length (rSy l) qao qZ qxd (by simp only[qi];omega) (by simp only[qi];omega)).sc ?_;simp only[vJ,simprocAttr];simp +decide only[↓vS,vT,simprocAttr,xt qZ]
 refine SL.loopP (α:=Nat) (λi=>[(1,.fn gt [] caps),(5,.own s l.length),(10,.own s l.length),(11,.j (l.length:Int)),(12,.j (i:Int))])
  (λi h=>i<=l.length/\∃s' tr',h=⟨s',fl,tr'⟩/\s<s'/\(∀b,b<s->tr'.get b=tr.get b)/\tr'.get s=some (.cells 4 true true (rSy ((l.take i).map (qbd to)++l.drop i)))) (λi=>l.length-i) ?_ 0 ?_ ?_
 .rintro i h1 ⟨hi,s',tr',rfl,hs,hold,hrow⟩ G ih;simp only[vI,simprocAttr]
  by_cases hlt:i<l.length
  .have hlt':(i:Int)<l.length:=by omega
   obtain⟨x,hx⟩:∃x,l[i]?=some x:=⟨_,zzE hlt⟩;have hxm:=zzM hx;have hd:l.drop i=x::l.drop (i+1):=by rw[<- (zzS.1 hx).2,List.getElem_cons_drop]
   have hAl:((l.take i).map (qbd to)).length=i:=by simp;omega
   rw[hd]at hrow;obtain⟨A,hA⟩:∃A,A=(l.take i).map (qbd to):=⟨_,rfl⟩;obtain⟨B,hB⟩:∃B,B=l.drop (i+1):=⟨_,rfl⟩;rw[<- hA,<- hB]at hrow;rw[<- hA]at hAl;have hrl:(A++x::B).length=l.length:=by rw[zzP,hAl,hB];simp;omega
   have hget:(A++x::B)[i]?=some x:=by rw[<- hAl];simp
   have hel:=qfy hget;have h4:i*4+4<=(rSy (A++x::B)).length:=by rw[qao,hrl];omega
   have hw1:IntKind.wrap .i64 ((i:Int)+1)=((i+1:Nat):Int):=by rw[qp (by omega) (by omega)];simp
   have n1:¬s=s':=by omega
   have n2:¬s'=s:=by omega
   have hf2:fl<=s':=by omega
   have hset:∀(y y':Sy) (j:Nat) (v:AV),j<4->cSy y'=(cSy y).take j++([v]++(cSy y).drop (j+1))->(rSy (A++y::B)).take (i*4+j)++v::(rSy (A++y::B)).drop (i*4+j+1)=rSy (A++y'::B):=λy y' j v hj he=>by
    have:=qgB (f:=cSy) (v:=v) (xs:=A++y::B) (j:=i) qd8 (by rw[<- hAl];simp) hj he;rw[show(A++y::B).set i y'=A++y'::B by rw[<- hAl];exact qAw]at this
    exact this
   have hlen:∀y,(rSy (A++y::B)).length=l.length*4:=λy=>by rw[qao];simp at hrl ⊢;omega
   have b3:∀y,i*4+2+1<=(rSy (A++y::B)).length:=by grind
   have b4:∀y,i*4+3+1<=(rSy (A++y::B)).length:=by grind
   have fin:∀(s2:Nat) (t2:Tr Blk),s<s2->(∀b,b<s->t2.get b=tr.get b)->t2.get s=some (.cells 4 true true (rSy (A++qbd to x::B)))->∀tt,Has tt [(1,.fn gt [] caps),(5,.own s l.length),(10,.own s l.length),(11,.j (l.length:Int)),(12,.j ((i+1:Nat):Int))]->G tt ⟨s2,fl,t2⟩:=λs2 t2 q1 q2 q3 tt htt=>by
    refine ih (i+1) _ _ (by omega) htt ⟨by omega,s2,t2,rfl,q1,q2,?_⟩
    rw[q3,qbt hx,List.map_append,<- hA,<- hB];simp
   have ho:=λb (hb:b<s)=>hold b hb
   have old:∀(y:Blk) b,b<s->((tr'.set s' (.v [.h 0,.w 0,.j 0,.j 0])).set s' y).get b=tr.get b:=λy b hb=>by
    rw[Tr.get_set,if_neg (by omega),Tr.get_set,if_neg (by omega)];exact hold b hb
   simp +decide only[↓vS,vT,simprocAttr,hlt',hlt,hrow,h4,hel,cSy,n1,n2,hf2];refine(h2 x.code).sc ?_;have ha:=h3 x;simp only[cSy]at ha
   by_cases hj:qm x.code=4
   .simp +decide only[↓vS,vT,simprocAttr,hj,n1,n2];refine hto x hxm x.th (.inl ⟨hj,rfl⟩) _ _ _ (by omega) (λb hb=>old _ b hb) ?_
    have e1:=hset x ⟨x.code,x.k,to x.th,x.el⟩ 2 (.j ((to x.th:Nat):Int)) (by omega) rfl;have hs2:s<=s:=zzL _;simp +decide only[↓vS,vT,simprocAttr,hrow,n1,n2,hlt,b3,hfl,e1];refine ha.sc ?_
    by_cases hk5:x.code=5
    .have hna:¬qcO x:=λh=>h.2 hk5
     simp +decide only[↓vS,vT,simprocAttr,hna,hw1];refine fin _ _ (by omega) (λb hb=>?_) ?_ _ (by simp[qg,ql,Tr.get_set])
     .rw[Tr.get_set,if_neg (by omega)];exact old _ b hb
     .have e:qbd to x=⟨x.code,x.k,to x.th,x.el⟩:=by unfold qbd;rw[if_pos (show qbu x from hj),if_neg hna]
      rw[Tr.get_set,if_pos rfl,e]
    .have hya:qcO x:=⟨hj,hk5⟩;simp +decide only[↓vS,vT,simprocAttr,hya,n1,n2];refine hto x hxm x.el (.inr ⟨hya,rfl⟩) _ _ _ (by omega) (λb hb=>by rw[Tr.get_set,if_neg (by omega)];exact old _ b hb) ?_
     have e2:=hset ⟨x.code,x.k,to x.th,x.el⟩ ⟨x.code,x.k,to x.th,to x.el⟩ 3 (.j ((to x.el:Nat):Int)) (by omega) rfl;simp +decide only[↓vS,vT,simprocAttr,hrow,n1,n2,hlt,b4,hfl,e2,hw1];refine fin _ _ (by omega) (λb hb=>?_) ?_ _ (by simp[qg,ql,Tr.get_set])
     .rw[Tr.get_set,if_neg (by omega),Tr.get_set,if_neg (by omega)];exact old _ b hb
     .rw[Tr.get_set,if_pos rfl];simp[qbd,qbu,qcO,hj,hk5]
   .have hna:¬qcO x:=λh=>hj h.1
    simp +decide only[↓vS,vT,simprocAttr,hj,n1,n2];refine ha.sc ?_;simp +decide only[↓vS,vT,simprocAttr,hna,hw1];refine fin _ _ (by omega) (λb hb=>old _ b hb) ?_ _ (by simp[qg,ql,Tr.get_set])
    rw[Tr.get_set,if_neg n1,Tr.get_set,if_neg n1,hrow];simp[qbd,qbu,qcO,hj]
  .obtain rfl:i=l.length:=by omega
   have hlt':¬((l.length:Int)<l.length):=by omega
   simp +decide only[↓vS,vT,simprocAttr,hlt'];rw[List.take_length,List.drop_length,List.append_nil]at hrow;exact by grind
 .simp[qg,ql,Tr.get_set]
 grind[Tr.get_set,xt,qZ]
def qkd{α:Type}{f:α->List AV}(h:∀x,jI (f x)=true):∀l:List α,jI (l.flatMap f)=true
 | []=>rfl
 | x::l=>by
  have app:∀(a b:List AV),jI a=true->jI b=true->jI (a++b)=true:=by
   intro a
   induction a with
   | nil=>simp_all
   | cons v a ih =>
    intro b ha hb;simp only[jI,zzB,zzC]at ha ⊢
    simp_all
  rw[List.flatMap_cons];exact app _ _ (h x) (qkd h l)
def qtQ{l:List Sy}:jI (rSy l)=true:=qkd (λ_=>rfl) l
def qtv{g1 g2 g3 gt:Nat}{caps:List AV}(hc:qc P f (jm g1 g2 g3)=true)(h1:qbx P g1 4 24)(h2:cOf P g2)(h3:qgy P g3)(l:List Sy)(hl:l.length<=200000)(to:Nat->Nat)
  (hto:∀x ∈ l,∀j:Nat,(qbu x/\j=x.th)\/(qcO x/\j=x.el)->qa P gt (.j (j:Int)::caps) (.j ((to j:Nat):Int))) :
  qiD P f [.fz l.length (rSy l),.fn gt [] caps] (.own 0 l.length) [.cells 4 true true (rSy (l.map (qbd to)))]:=by
 refine qiD.of_SC rfl (by simp[qo4,qtQ]) ?_;refine qlS hc h1 h2 h3 l hl (zzL 0) to (λx hx j hj s' tr' k' _ _ hk=>(hto x hx j hj).sc hk) λs' tr' b _ _ _ hb hg=>?_
 intro _;refine⟨[b],?_⟩;simp[vw,hg,hb,qe,qZ]
def qqW:List (Int×Nat)->Int->Nat->List (Int×Nat)
 | [],x,v=>[(x,v)]
 | (a,u)::L,x,v=>if x=a then(x,v)::L else(a,u)::qqW L x v
def qie:List (Int×Nat)->Int->Option Nat
 | [],_=>none
 | (a,u)::L,x=>if x=a then some u else qie L x
def mkE(L:List (Int×Nat)):List (AV×AV):=L.map λp=>(.w p.1,.j (p.2:Int))
def qrx{L:List (Int×Nat)}{p:Prop}:qeQ (mkE L) p↔p:=by cases L<;>exact Iff.rfl
def qBC{x:Int}{v:Nat}:∀{L:List (Int×Nat)} {k:List (AV×AV)->Prop},qhj qK (.w x) (.j (v:Int)) (mkE L) k↔k (mkE (qqW L x v))
 | [],k=>qsk
 | (a,u)::L,k=>by
  refine qBD.trans ?_;unfold qqW
  by_cases h:x=a
  .rw[if_pos h,if_pos h];exact Iff.rfl
  .rw[if_neg h,if_neg h];exact qBC
def qvr{x:Int}:∀{L:List (Int×Nat)} {k:Option AV->Prop},qcy qK (.w x) (mkE L) k↔k ((qie L x).map λv=>.j (v:Int))
 | [],k=>qo2
 | (a,u)::L,k=>by
  refine qvs.trans ?_;unfold qie
  by_cases h:x=a
  .rw[if_pos h,if_pos h];simp_all
  .rw[if_neg h,if_neg h];exact qvr
def qya{z:AV}{o:Option Nat}{v:Nat}{k:AV->Prop}(h:o=some v):qhF false z (o.map λv=>.j (v:Int)) k↔k (.j (v:Int)):=by simp_all[qoC]
def qjc(l:List Sy):List (Int×Nat):=(l.zipIdx).foldl (λL p=>if p.1.code=6 then qqW L p.1.k p.2 else L) []
def qlK{l:List Sy}{x:Sy}:qjc (l++[x])=if x.code=6 then qqW (qjc l) x.k l.length else qjc l:=by
 simp[qjc,List.zipIdx_append]
def qpu{L:List (Int×Nat)}{x y:Int}{v:Nat}:qie (qqW L x v) y=if y=x then some v else qie L y:=by
 induction L with
 | nil=>rfl
 | cons p L ih =>
  obtain⟨a,u⟩:=p;unfold qqW
  by_cases h:x=a
  .rw[if_pos h];subst h;unfold qie
   simp_all
  .rw[if_neg h];unfold qie;rw[ih]
   grind
def qjT{l:List Sy}{j:Nat}{x:Sy}(h:l[j]?=some x)(h6:x.code=6):∃i y,qie (qjc l) x.k=some i/\j<=i/\l[i]?=some y/\y.code=6/\y.k=x.k:=by
 have main:∀(n:Nat) (l:List Sy),l.length=n->∀{j:Nat} {x:Sy},l[j]?=some x->x.code=6->∃i y,qie (qjc l) x.k=some i/\j<=i/\l[i]?=some y/\y.code=6/\y.k=x.k:=by
  intro n
  induction n with
  | zero=>intro l hl j x h;rw[List.eq_nil_of_length_eq_zero hl]at h;simp at h
  | succ n ih =>
   intro l hl j x h h6;have e:l=l.dropLast++[l.getLast (by intro h;rw[h]at hl;simp at hl)]:=(List.dropLast_concat_getLast _).symm;generalize l.getLast _=z at e;generalize l.dropLast=l0 at e;subst e;have hl0:l0.length=n:=by simp at hl;exact hl
   rw[qlK];rcases Nat.lt_or_ge j l0.length with hj|hj
   .rw[List.getElem?_append_left hj]at h;obtain⟨i,y,q1,q2,q3,q4,q5⟩:=ih l0 hl0 h h6;have hi:=(zzS.1 q3).1
    by_cases hz:z.code=6
    .rw[if_pos hz,qpu]
     by_cases hk:x.k=z.k
     .exact by grind
     .exact by grind
    .rw[if_neg hz];exact by grind
   .have hj2:j=l0.length:=by have:=(zzS.1 h).1;simp at this;omega
    subst hj2;simp at h;subst h;rw[if_pos h6,qpu,if_pos rfl];exact by simp_all
 simp_all
def qdZ(l:List Sy)(j:Nat):Nat:=match l[j]? with|some x=>if x.code=6 then(qie (qjc l) x.k).getD 0 else j|none=>j
def qfz(l:List Sy):List Sy:=l.map (qbd (qdZ l))
def qmC(l:List Sy):Prop:=∀x ∈ l,∀j:Nat,(qbu x/\j=x.th)\/(qcO x/\j=x.el)->j<l.length
def qcW:IFn:=⟨[.tmp 4],sq [.r [.m 4 (.k 0)],sq [.r [.d 5 1,.n 6 0,.i 7 4 5 6,.f 8 0 7,.d 9 8,.q 10 (.bin .eql (.t 9) (.c (.h 6)))],.cond (.t 10) (.reg true [.d 11 2,.d 12 1,.n 13 0,.i 14 4 12 13,.f 15 1 14,.d 16 15,.q 17 (.lookM (some .u32) false (.j 0) (.t 11) (.t 16)),.n 0 17]) (.skip)],.r [.n 18 0,.n 4 18],.ret]⟩
def qeM(a b:Nat):IFn:=⟨[.tmp 2],sq [.r [.q 1 (.box (.t 0)),.m 2 .N],.r [.q 6 (.mkM),.q 3 (.alloc [.nilm]),.u (.store 1 (.t 3) (.t 6))],sq [.r [.d 7 1,.e 8 7,.m 9 (.k 0)],.blk 0 (.loop (sq [.r [.s 10 9 8],.cond (.t 10) (.skip) (.exit 0),.blk 1 (sq [.r [.n 11 9,.i 12 4 7 9,.v 13 4 12,.q 5 (.alloc [.h 0,.w 0,.j 0,.j 0]),.n 4 11,.u (.store 4 (.t 5) (.t 13))],.r [.f 14 0 5,.d 15 14,.q 16 (.bin .eql (.t 15) (.c (.h 6)))],.cond (.t 16) (.r [.d 17 3,.f 18 1 5,.d 19 18,.n 20 4,.u (.updM (some .u32) (.t 17) (.t 19) (.t 20))]) (.skip)]),.r [.a 21 9 1,.n 9 21]]))],.r [.d 22 1,.q 23 (.mkF a [] [.t 1,.t 3]),.l 24 b [.t 22,.t 23],.n 2 24],.ret]⟩
def qpV{g1 g2 h1 h2 h3:Nat}(hc:qc P f (qeM g1 g2)=true)(hc1:qc P g1 qcW=true)(hc2:qc P g2 (jm h1 h2 h3)=true)(c1:qbx P h1 4 24)(c2:cOf P h2)(c3:qgy P h3)(l:List Sy)(hl:l.length<=200000)(hin:qmC l) :
  qa P f [.fz l.length (rSy l)] (.fz (qfz l).length (rSy (qfz l))):=by
 refine qa.mk hc (by simp[qt,clo,qZ]) ?_;simp only[qeM,vI,simprocAttr];simp +decide only[↓vS,vT,simprocAttr]
 refine SL.loopP (α:=Nat) (λi=>[(1,.ptr 0 0),(3,.ptr 2 0),(7,.fz l.length (rSy l)),(8,.j (l.length:Int)),(9,.j (i:Int))])
  (λi h=>i<=l.length/\∃s tr,h=⟨s,0,tr⟩/\3<=s/\tr.get 0=some (.v [.fz l.length (rSy l)])/\tr.get 1=some (.map (mkE (qjc (l.take i))))/\tr.get 2=some (.v [.map 1])) (λi=>l.length-i) ?_ 0 ?_ ?_
 .rintro i h1 ⟨hi,s,tr,rfl,hs,t0,t1,t2⟩ G ih;simp only[vI,simprocAttr]
  by_cases hlt:i<l.length
  .have hlt':(i:Int)<l.length:=by omega
   obtain⟨x,hx⟩:∃x,l[i]?=some x:=⟨_,zzE hlt⟩;have hel:=qfy hx;have h4:i*4+4<=(rSy l).length:=by rw[qao];omega
   have hw1:IntKind.wrap .i64 ((i:Int)+1)=((i+1:Nat):Int):=by rw[qp (by omega) (by omega)];simp
   have n0:¬0=s:=by omega
   have n1:¬1=s:=by omega
   have n2:¬2=s:=by omega
   have hsn:=qlK (l:=l.take i) (x:=x);rw[<- qbt hx,List.length_take,Nat.min_eq_left hi]at hsn
   by_cases h6:x.code=6
   .rw[if_pos h6]at hsn;simp +decide only[↓vS,vT,simprocAttr,hlt',hlt,h4,hel,cSy,h6,n0,n1,n2,t2,t1,qrx,qBC,hw1];refine ih (i+1) _ _ (by omega) (by simp[qg,ql,Tr.get_set]) ⟨by omega,s+1,_,rfl,by omega,?_,?_,?_⟩
    all_goals grind[Tr.get_set]
   .rw[if_neg h6]at hsn;simp +decide only[↓vS,vT,simprocAttr,hlt',hlt,h4,hel,cSy,h6,hw1];refine ih (i+1) _ _ (by omega) (by simp[qg,ql,Tr.get_set]) ⟨by omega,s+1,_,rfl,by omega,?_,?_,?_⟩
    all_goals grind[Tr.get_set]
  .obtain rfl:i=l.length:=by omega
   have hlt':¬((l.length:Int)<l.length):=by omega
   rw[List.take_length]at t1;simp +decide only[↓vS,vT,simprocAttr,hlt',t0];refine qlS hc2 c1 c2 c3 l hl (Nat.zero_le _) (qdZ l) (λx hx j hj s' tr' k' hs' hold hk'=>?_) λs' tr' b hs' hold hb1 hb2 hg=>?_
   .have hjl:=hin x hx j hj;obtain⟨y,hy⟩:∃y,l[j]?=some y:=⟨_,zzE hjl⟩;have g0:=(hold 0 (by omega)).trans t0;have g1:=(hold 1 (by omega)).trans t1;have g2:=(hold 2 (by omega)).trans t2;have gc:=qjo hy (i:=0) (by omega);have gc':(rSy l)[j*4]?=some (.h y.code):=gc;have gk:=qjo hy (i:=1) (by omega);have gk':(rSy l)[j*4+1]?=some (.w y.k):=gk;refine SC.mk hc1 (qk ?_);simp only[qcW,vI,simprocAttr]
    by_cases h6:y.code=6
    .obtain⟨i,z,q1,q2,q3,q4,q5⟩:=qjT hy h6;have e:qdZ l j=i:=by unfold qdZ;rw[hy];simp[h6,q1]
     rw[e]at hk';simp +decide only[↓vS,vT,simprocAttr,g0,gc',hjl,h6];refine zB ?_;simp +decide only[↓vS,vT,simprocAttr,g0,g1,g2,gk',hjl,qrx,qvr,qya q1];omega
    .have e:qdZ l j=j:=by unfold qdZ;rw[hy];simp[h6]
     rw[e]at hk';simp +decide only[↓vS,vT,simprocAttr,g0,gc',hjl,h6];omega
   .simp +decide only[↓vS,vT,simprocAttr];have e:(qfz l).length=l.length:=by simp[qfz]
    simp[vZ,vP,hg,e,zj qZ];refine⟨λh=>?_,?_⟩
    .rw[h];rfl
    .exact Frzs.self qZ
 .simp[qg,ql,Tr.get_set]
 .refine⟨Nat.zero_le _,_,_,rfl,by omega,?_,?_,?_⟩<;>simp[Tr.get_set,mkE,qjc]
def xY(a:Nat):IFn:=⟨[.tmp 2],sq [.r [.q 1 (.box (.t 0)),.m 2 (.c (.nilf))],.r [.q 3 (.mkF a [] [.t 1]),.n 2 3],.ret]⟩
def qGp{g:Nat}(hc:qc P f (xY g)=true)(l:List Sy):qa P f [.fz l.length (rSy l)] (.fn g [] [.pf [.fz l.length (rSy l)] 0]):=by
 refine qa.mk hc (by simp[qt,clo,qZ]) ?_;simp only[xY,vI,simprocAttr];simp +decide only[↓vS,vT,simprocAttr];simp[vZ,vP,Tr.get_set,zj qZ]
def qE:IFn:=⟨[],sq [.r [.d 4 1,.e 5 4,.w 6 .sub 5 1,.n 3 6],.blk 0 (.loop (sq [sq [.r [.n 7 3,.w 8 .geq 7 0],.cond (.t 8) (.skip) (.exit 0)],.blk 1 (sq [.r [.n 11 0,.n 12 3,.d 13 1,.n 14 3,.i 15 4 13 14,.v 16 4 15,⟨(some 17),.callV (.t 11) [.t 12,.t 16],none⟩,.q 18 (.un .not (.t 17))],.cond (.t 18) (.ret) (.skip)]),.r [.n 9 3,.w 10 .sub 9 1,.n 3 10]]))]⟩
def xn{α:Type}{c:α->List AV}{l:List α}{lb:Nat}(hc:qc P f qE=true)(hm:∀x,(c x).length=4)(hn:l.length<=1000000)(J:Nat->Hp->Prop)
  (hy:∀(i:Nat) x h,l[i]?=some x->J (i+1) h->∀k:AV->Hp->Prop,(∀h',J i h'->k (.b true) h')->SY P lb [.j (i:Int),.agg (c x)] h k)
  {s:Nat} {tr:Tr Blk} {k:AV->Hp->Prop} (h0:J l.length ⟨s,0,tr⟩) (hk:∀h,J 0 h->k (.tup []) h):SC P f [.yl lb,.pf [.fz l.length (l.flatMap c)] 0] ⟨s,0,tr⟩ k:=by
 refine SC.mk hc (qk ?_);simp only[qE,vI,simprocAttr];have e1:IntKind.wrap .i64 ((l.length:Int)-1)=(l.length:Int)-1:=by grind[qp]
 simp +decide only[↓vS,vT,simprocAttr,e1];refine SL.loopP (α:=Nat) (λi=>[(0,.yl lb),(1,.pf [.fz l.length (l.flatMap c)] 0),(3,.j ((i:Int)-1))]) (λi h=>i<=l.length/\J i h) (λi=>i) ?_ l.length ?_ ?_
 .rintro i h1 ⟨hi,hj⟩ G ih;obtain⟨s',fl',tr'⟩:=h1;simp only[vI,simprocAttr];cases i with
  | zero =>
   have n0:¬(0:Int)<=((0:Nat):Int)-1:=by omega
   simp +decide only[↓vS,vT,simprocAttr,n0];exact hk _ hj
  | succ i =>
   have n0:(0:Int)<=((i+1:Nat):Int)-1:=by omega
   have e2:((i+1:Nat):Int)-1=(i:Int):=by omega
   obtain⟨x,hx⟩:∃x,l[i]?=some x:=⟨_,zzE (by omega)⟩;have hel:=qS (f:=c) (m:=4) hm hx;have hlt:i<l.length:=by omega
   have h4:i*4+4<=(l.flatMap c).length:=by rw[qW hm];omega
   have n1:(0:Int)<=(i:Int):=by omega
   have e3:IntKind.wrap .i64 ((i:Int)-1)=(i:Int)-1:=by grind[qp]
   rw[e2];simp +decide only[↓vS,vT,simprocAttr,n1,hlt,h4,hel];refine hy i x _ hx hj _ λh' hj'=>?_
   simp +decide only[↓vS,vT,simprocAttr,e3];exact ih i _ _ (by omega) (by simp[qg,ql,Tr.get_set]) ⟨by omega,hj'⟩
 all_goals simp_all[qg,ql,Tr.get_set]
def qN:IFn:=⟨[],sq [.r [.d 4 1,.e 5 4,.w 6 .sub 5 1,.n 3 6],.blk 0 (.loop (sq [sq [.r [.n 7 3,.w 8 .geq 7 0],.cond (.t 8) (.skip) (.exit 0)],.blk 1 (sq [.r [.n 11 0,.n 12 3,.d 13 1,.n 14 3,.i 15 4 13 14,.v 16 4 15,⟨(some 17),.callV (.t 11) [.t 12,.t 16],none⟩,.q 18 (.un .not (.t 17))],.cond (.t 18) (.ret) (.skip)]),.r [.n 9 3,.w 10 .sub 9 1,.n 3 10]]))]⟩
def qaa{α:Type}{c:α->List AV}{l:List α}{lb:Nat}(hc:qc P f qN=true)(hm:∀x,(c x).length=4)(hn:l.length<=1000000)(J:Nat->Hp->Prop)
  (hy:∀(i:Nat) x h,l[i]?=some x->J (i+1) h->∀k:AV->Hp->Prop,(∀h',J i h'->k (.b true) h')->SY P lb [.j (i:Int),.agg (c x)] h k)
  {s:Nat} {tr:Tr Blk} {k:AV->Hp->Prop} (h0:J l.length ⟨s,0,tr⟩) (hk:∀h,J 0 h->k (.tup []) h):SC P f [.yl lb,.pf [.fz l.length (l.flatMap c)] 0] ⟨s,0,tr⟩ k:=by
 refine SC.mk hc (qk ?_);simp only[qN,vI,simprocAttr];have e1:IntKind.wrap .i64 ((l.length:Int)-1)=(l.length:Int)-1:=by grind[qp]
 simp +decide only[↓vS,vT,simprocAttr,e1];refine SL.loopP (α:=Nat) (λi=>[(0,.yl lb),(1,.pf [.fz l.length (l.flatMap c)] 0),(3,.j ((i:Int)-1))]) (λi h=>i<=l.length/\J i h) (λi=>i) ?_ l.length ?_ ?_
 .rintro i h1 ⟨hi,hj⟩ G ih;obtain⟨s',fl',tr'⟩:=h1;simp only[vI,simprocAttr];cases i with
  | zero =>
   have n0:¬(0:Int)<=((0:Nat):Int)-1:=by omega
   simp +decide only[↓vS,vT,simprocAttr,n0];exact hk _ hj
  | succ i =>
   have n0:(0:Int)<=((i+1:Nat):Int)-1:=by omega
   have e2:((i+1:Nat):Int)-1=(i:Int):=by omega
   obtain⟨x,hx⟩:∃x,l[i]?=some x:=⟨_,zzE (by omega)⟩;have hel:=qS (f:=c) (m:=4) hm hx;have hlt:i<l.length:=by omega
   have h4:i*4+4<=(l.flatMap c).length:=by rw[qW hm];omega
   have n1:(0:Int)<=(i:Int):=by omega
   have e3:IntKind.wrap .i64 ((i:Int)-1)=(i:Int)-1:=by grind[qp]
   rw[e2];simp +decide only[↓vS,vT,simprocAttr,n1,hlt,h4,hel];refine hy i x _ hx hj _ λh' hj'=>?_
   simp +decide only[↓vS,vT,simprocAttr,e3];exact ih i _ _ (by omega) (by simp[qg,ql,Tr.get_set]) ⟨by omega,hj'⟩
 all_goals simp_all[qg,ql,Tr.get_set]
def qmS{α:Type}{f:α->List AV}{m:Nat}(h:∀x,(f x).length=m){xs:List α}{j:Nat}(x':α)(hj:j<xs.length):(xs.flatMap f).take (j*m)++(f x'++(xs.flatMap f).drop (j*m+m))=(xs.set j x').flatMap f:=by
 have e:xs=xs.take j++xs[j]::xs.drop (j+1):=by rw[List.getElem_cons_drop,List.take_append_drop]
 have e1:(xs.flatMap f).take (j*m)=(xs.take j).flatMap f:=qhs h xs j;have e2:(xs.flatMap f).drop (j*m+m)=(xs.drop (j+1)).flatMap f:=by rw[<- qfh h xs (j+1),Nat.add_mul];simp
 rw[e1,e2,List.set_eq_take_append_cons_drop,if_pos hj];simp
def qpM{l:List Sy}{j:Nat}(y:Sy)(hj:j<l.length):(rSy l).take (j*4)++(cSy y++(rSy l).drop (j*4+4))=rSy (l.set j y):=qmS qd8 y hj
def jh(out:List Sy)(j:Nat):Nat:=match out[j]? with|some x=>if x.code=5 then x.th else j|none=>j
def qbj(out:List Sy)(x:Sy):Sy:=if qcO (qbd (jh out) x)/\(qbd (jh out) x).th=(qbd (jh out) x).el then⟨5,0,(qbd (jh out) x).th,0⟩else qbd (jh out) x
def qfY(l:List Sy):Nat->List Sy
 | 0=>l
 | m+1=>match l[l.length-(m+1)]? with|some x=>(qfY l m).set (l.length-(m+1)) (qbj (qfY l m) x)|none=>qfY l m
def qfB{l:List Sy}:∀{m:Nat},(qfY l m).length=l.length
 | 0=>rfl
 | m+1=>by
  unfold qfY;split
  .rw[List.length_set,qfB]
  .exact qfB
def qon(l:List Sy):List Sy:=qfY l l.length
def qaj:IFn:=⟨[.tmp 3],sq [.r [.m 3 (.k 0)],sq [.r [.d 4 1,.n 5 0,.i 6 4 4 5,.f 7 0 6,.d 8 7,.q 9 (.bin .eql (.t 8) (.c (.h 5)))],.cond (.t 9) (.r [.d 10 1,.n 11 0,.i 12 4 10 11,.f 13 2 12,.d 14 13,.n 0 14]) (.skip)],.r [.n 15 0,.n 3 15],.ret]⟩
def qoq(hc:qc P f qaj=true)(out:List Sy)(j:Nat)(hj:j<out.length):qa P f [.j (j:Int),.pf [.fz out.length (rSy out)] 0] (.j ((jh out j:Nat):Int)):=by
 refine qa.mk hc (by simp[qt,clo,qZ]) ?_;obtain⟨y,hy⟩:∃y,out[j]?=some y:=⟨_,zzE hj⟩;have gc:(rSy out)[j*4]?=some (.h y.code):=qjo hy (i:=0) (by omega);have gt:(rSy out)[j*4+2]?=some (.j (y.th:Int)):=qjo hy (i:=2) (by omega);simp only[qaj,vI,simprocAttr]
 by_cases h5:y.code=5
 .have e:jh out j=y.th:=by unfold jh;rw[hy];grind
  simp +decide only[↓vS,vT,simprocAttr,gc,gt,hj,h5];simp[vZ,e]
 .have e:jh out j=j:=by unfold jh;rw[hy];grind
  simp +decide only[↓vS,vT,simprocAttr,gc,gt,hj,h5];simp[vZ,e]
def qbb(a b c d e:Nat):ICode:=sq [.r [.d 42 3,.n 2 42],.ret]
def qcX(a b c d e:Nat):IFn:=⟨[.tmp 2],sq [.r [.m 2 .N],.r [.n 7 0,.l 8 a [.t 7],.q 3 (.alloc [.nils]),.u (.store 1 (.t 3) (.t 8))],.r [.q 9 (.mkF b [] [.t 3]),.q 4 (.alloc [.nilf]),.u (.store 1 (.t 4) (.t 9))],sq [.r [.n 10 0,.l 11 c [.t 10]],.blk 0 (.rangeF 0 (.t 11) [12,13] (.seq (.r [.n 5 12]) (.r [.q 6 (.alloc [.h 0,.w 0,.j 0,.j 0]),.u (.store 4 (.t 6) (.t 13))])) (.blk 1 (.seq (.reg true [.d 14 3,.n 15 5,.v 16 4 6,.q 17 (.buildS 1 [.h 0,.w 0,.j 0,.j 0] [(0,4,(.t 16))]),.d 18 4,.l 19 d [.t 17,.t 18],.q 20 (.iAddrS 4 (.t 19) (.k 0)),.v 21 4 20,.i 22 4 14 15,.u (.store 4 (.t 22) (.t 21))]) (.seq (.r [.d 23 3,.n 24 5,.i 25 4 23 24,.v 26 4 25,.u (.store 4 (.t 6) (.t 26))]) (.seq (.r [.v 27 4 6,.l 28 e [.t 27],.n 29 28,.h 30 2 6 29 true,.j 31 30 29 true,.h 32 3 6 29 true,.j 33 32 29 true,.g 34 (.bin .eql (.t 31) (.t 33)) 29 true,.p 35 29 34]) (.cond (.t 35) (.r [.d 36 3,.n 37 5,.f 38 2 6,.d 39 38,.q 40 (.build [.h 0,.w 0,.j 0,.j 0] [(0,1,(.c (.h 5))),(2,1,(.t 39))]),.i 41 4 36 37,.u (.store 4 (.t 41) (.t 40))]) (.skip)))))))],.cut (qbb a b c d e)]⟩
def thT(gB:Nat)(l:List Sy):List (Nat×AV):=[(3,.ptr 1 0),(4,.ptr 2 0),(11,.fn gB [] [.pf [.fz l.length (rSy l)] 0])]
def thA:ICode:=sq [.reg false [⟨some 5,.op (.mov (.t 12)),none⟩],.reg false [⟨some 6,.op (.alloc [.h 0,.w 0,.j 0,.j 0]),none⟩,⟨none,.op (.store 4 (.t 6) (.t 13)),none⟩]]
def thB(gM gA:Nat):ICode:=.blk 1 (sq [.reg true [.d 14 3,.n 15 5,.v 16 4 6,.q 17 (.buildS 1 [.h 0,.w 0,.j 0,.j 0] [(0,4,(.t 16))]),.d 18 4,.l 19 gM [.t 17,.t 18],.q 20 (.iAddrS 4 (.t 19) (.k 0)),.v 21 4 20,.i 22 4 14 15,.u (.store 4 (.t 22) (.t 21))],.r [.d 23 3,.n 24 5,.i 25 4 23 24,.v 26 4 25,.u (.store 4 (.t 6) (.t 26))],.r [.v 27 4 6,.l 28 gA [.t 27],.n 29 28,.h 30 2 6 29 true,.j 31 30 29 true,.h 32 3 6 29 true,.j 33 32 29 true,.g 34 (.bin .eql (.t 31) (.t 33)) 29 true,.p 35 29 34],.cond (.t 35) (.r [.d 36 3,.n 37 5,.f 38 2 6,.d 39 38,.q 40 (.build [.h 0,.w 0,.j 0,.j 0] [(0,1,(.c (.h 5))),(2,1,(.t 39))]),.i 41 4 36 37,.u (.store 4 (.t 41) (.t 40))]) (.skip)])
def thI(g1:Nat)(r0:Loop)(ts:List (Nat×AV))(n:Nat)(out:List Sy)(s:Nat)(tr:Tr Blk):Prop :=
 out.length=n/\4<=s/\tr.get 0=some (.cells 4 true true (rSy out))/\tr.get 1=some (.v [.own 0 n])/\tr.get 2=some (.v [.fn g1 [] [.ptr 1 0]])/\tr.get 3=some (.map (zJ r0 ts))
def qxC{g1 gB gM gA s n:Nat}{r0:Loop}{l out:List Sy}{tr:Tr Blk}{k:AV->Hp->Prop}
  (hM:∀(x:Sy) (out:List Sy),out.length=n->(∀j:Nat,(qbu x/\j=x.th)\/(qcO x/\j=x.el)->j<n)->qiD P gM [.fz 1 (cSy x),.fn g1 [] [.pf [.fz out.length (rSy out)] 0]] (.own 0 1) [.cells 4 true true (cSy (qbd (jh out) x))])
  (hA:qgy P gA) (hr0:r0.state = .ready) (hp0:r0.pending=none) (hlo:LoopOk P r0 [12,13] thA (thB gM gA)) (hI:thI g1 r0 (thT gB l) n out s tr) (i:Nat) (hi:i<n) (x:Sy) (hx:∀j:Nat,(qbu x/\j=x.th)\/(qcO x/\j=x.el)->j<n)
  (hk:∀s' tr',thI g1 r0 (thT gB l) n (out.set i (qbj out x)) s' tr'->k (.b true) ⟨s',0,tr'⟩):SY P 3 [.j (i:Int),.agg (cSy x)] ⟨s,0,tr⟩ k:=by
 obtain⟨hn,h4,h0,h1,h2,h3⟩:=hI;refine SY.mk (r:=r0) (ts:=thT gB l) (ps:=[12,13]) h3 hr0 hlo (Nat.zero_le _) (by grind) rfl ?_;rw[show mkT (thT gB l)=((Tr.leaf.set 11 (.fn gB [] [.pf [.fz l.length (rSy l)] 0])).set 4 (.ptr 2 0)).set 3 (.ptr 1 0)from rfl]
 refine qk ?_;simp only[qkB,thA,cSy,vI,simprocAttr];simp +decide only[↓vS,vT,simprocAttr];have n3:¬3=s:=by omega
 have n0:¬0=s:=by omega
 have n1:¬1=s:=by omega
 have n2:¬2=s:=by omega
 have m0:¬0=s+1:=by omega
 have m1:¬1=s+1:=by omega
 have m2:¬2=s+1:=by omega
 have m3:¬3=s+1:=by omega
 have q1:¬s=s+1:=by omega
 have q2:¬s=s+1+1:=by omega
 have q3:¬0=s+1+1:=by omega
 have q4:¬1=s+1+1:=by omega
 have q5:¬2=s+1+1:=by omega
 have q6:¬3=s+1+1:=by omega
 have ns3:¬s=3:=by omega
 have ns0:¬s=0:=by omega
 refine⟨thT gB l,by simp_all[Tr.get_set],?_⟩
 refine qk ?_;simp only[qB,thB,vI,simprocAttr];simp +decide only[↓vS,vT,simprocAttr];refine zB ?_;have e1:¬(0:Nat)=3:=by decide
 have e2:¬(1:Nat)=3:=by decide
 have e3:¬(2:Nat)=3:=by decide
 simp +decide only[↓vS,vT,simprocAttr,h1,h2,e1,e2,e3,n0,n1,n2,ns3,m0,m1,m2,q1]
 have fr0:∀(f2:Nat) (t2:Tr Blk),t2.get (s+1)=some (.v (cSy x))->t2.get 1=some (.v [.own 0 n])->t2.get 0=some (.cells 4 true true (rSy out))->
   Frzs ⟨s+1+1,f2,t2⟩ [.sl (s+1) 0 1 1 false,.fn g1 [] [.ptr 1 0]] [.fz 1 (cSy x),.fn g1 [] [.pf [.fz out.length (rSy out)] 0]]:=λf2 t2 p1 p2 p3=>by
  refine qaZ.2 ⟨Frz.cut 4 rfl (zzL _) ?_,qaZ.2 ⟨qvB.2 ⟨rfl,qfL.2 trivial,qaZ.2 ⟨qvz.2 ⟨rfl,?_⟩,qfL.2 trivial⟩⟩,qfL.2 trivial⟩⟩
  .rw[p1];simp[vP,cSy,vZ]
  .rw[p2];simp[vP,vZ,p3,hn]
   grind[Frzs.self,qZ]
 refine(hM x out hn hx).pc (fr0 _ _ ?_ ?_ ?_) ?_
 .rw[Tr.get_set,if_pos rfl];rfl
 .rw[Tr.get_set,if_neg m1,Tr.get_set,if_neg (by decide),Tr.get_set,if_neg n1,Tr.get_set,if_neg n1];exact h1
 .rw[Tr.get_set,if_neg m0,Tr.get_set,if_neg (by decide),Tr.get_set,if_neg n0,Tr.get_set,if_neg n0];exact h0
 simp only[vJ,simprocAttr];obtain⟨y,hy⟩:∃y,y=qbd (jh out) x:=⟨_,rfl⟩;have hset:=qpM (l:=out) (j:=i) y (by omega);have h44:i*4+4<=(rSy out).length:=by rw[qao];omega
 have hget:(out.set i y)[i]?=some y:=by simp_all
 have hel:=qfy hget;have h45:i*4+4<=(rSy (out.set i y)).length:=by rw[qao,List.length_set];omega
 have hset2:=qpM (l:=out.set i y) (j:=i) ⟨5,0,y.th,0⟩ (by rw[List.length_set];omega);rw[List.set_set]at hset2;have hin:(i:Nat)<n:=hi;rw[<- hy];simp +decide only[↓vS,vT,simprocAttr,xt qZ,h0,e1,e2,e3,n0,n1,n2,ns3,m0,m1,m2,q1,q2,q3,q4,q5,cSy,hin];simp only[cSy,zzC,zzN]at hset hset2 hel;have ha:=hA y;simp only[cSy]at ha;have hi0:i<n:=hi;simp +decide only[↓vS,vT,simprocAttr,h44,hset,h1,e1,e2,e3,n0,n1,n2,ns3,ns0,m0,m1,m2,q1,q2,q3,q4,q5,hi0,h45,hel];refine ha.sc ?_
 have fin:∀(s2:Nat) (t2:Tr Blk) (z:Sy),4<=s2->qbj out x=z->t2.get 0=some (.cells 4 true true (rSy (out.set i z)))->t2.get 1=tr.get 1->t2.get 2=tr.get 2->t2.get 3=some (.map (zJ (Go.Kc.bsy r0) (thT gB l)))->∀tt,qCH 3 k .normal tt ⟨s2,0,t2⟩:=by
  intro s2 t2 z p1 p2 p3 p4 p5 p6 tt;refine⟨Go.Kc.bsy r0,thT gB l,p6,?_⟩;rw[qey,qfX hr0 hp0];simp only[qB];simp +decide only[↓vS,vT,simprocAttr];refine hk _ _ ⟨by rw[List.length_set];exact hn,p1,?_,?_,?_,?_⟩
  all_goals grind[Tr.get_set]
 have old:∀(b:Nat) (u1 u2 u3 u4 u5 u6:Blk),b<s->b≠0->b≠3->(((((((tr.set s u1).set s u2).set 3 u3).set (s+1) u4).set (s+1+1) u5).set 0 u6).set s u1).get b=tr.get b:=λb u1 u2 u3 u4 u5 u6 p1 p2 p3=>by
  simp only[Tr.get_set];repeat rw[if_neg (by omega)]
 have s0:¬0=s:=n0
 by_cases h4':qcO y
 .by_cases h5:y.th=y.el
  .have h5':(y.th:Int)=y.el:=by omega
   have he:qbj out x=⟨5,0,y.th,0⟩:=by unfold qbj;rw[<- hy,if_pos ⟨h4',h5⟩]
   have h46:i*4+4<=(rSy (out.set i y)).length:=h45;simp +decide only[↓vS,vT,simprocAttr,h4',eq_true h5',h44,hset,h1,e1,e2,e3,n0,n1,n2,ns3,ns0,m0,m1,m2,q1,q2,q3,q4,q5,hi0,h45,hel,hset2];refine fin _ _ _ (by omega) he ?_ ?_ ?_ ?_ _
   .rw[Tr.get_set,if_pos rfl,<- hset2];rfl
   .simp only[Tr.get_set];grind
   .simp only[Tr.get_set];grind
   .simp only[Tr.get_set];rw[if_neg (by omega),if_neg (by omega),if_neg (by omega),if_neg (by omega),if_neg (by omega)];simp
  .have h5':¬(y.th:Int)=y.el:=by omega
   have he:qbj out x=y:=by unfold qbj;rw[<- hy,if_neg λh=>h5 h.2]
   simp +decide only[↓vS,vT,simprocAttr,h4',h5',h44,hset,h1,e1,e2,e3,n0,n1,n2,ns3,ns0,m0,m1,m2,q1,q2,q3,q4,q5,hi0,h45,hel];refine fin _ _ _ (by omega) he ?_ ?_ ?_ ?_ _
   .rw[Tr.get_set,if_neg n0,Tr.get_set,if_pos rfl]
   .simp only[Tr.get_set];repeat rw[if_neg (by omega)]
   .simp only[Tr.get_set];repeat rw[if_neg (by omega)]
   grind[Tr.get_set]
 .have he:qbj out x=y:=by unfold qbj;rw[<- hy,if_neg λh=>h4' h.1]
  simp +decide only[↓vS,vT,simprocAttr,h4',h44,hset,h1,e1,e2,e3,n0,n1,n2,ns3,ns0,m0,m1,m2,q1,q2,q3,q4,q5,hi0,h45,hel];refine fin _ _ _ (by omega) he ?_ ?_ ?_ ?_ _
  .rw[Tr.get_set,if_neg n0,Tr.get_set,if_pos rfl]
  .simp only[Tr.get_set];repeat rw[if_neg (by omega)]
  .simp only[Tr.get_set];repeat rw[if_neg (by omega)]
  grind[Tr.get_set]
def qp5{n0 g1 g2 g3 g4 g5 s n:Nat}{tr:Tr Blk}{t:Tr AV}{out:List Sy}(ht:t.get 3=some (.ptr 1 0))(h1:tr.get 1=some (.v [.own 0 n]))(h0:tr.get 0=some (.cells 4 true true (rSy out)))(hn:out.length=n) :
  S P n0 (qbb g1 g2 g3 g4 g5) (xu [.tmp 2] λv' h'=>Frz h' v' (.fz n (rSy out))) t ⟨s,0,tr⟩:=by
 refine S.has [(3,.ptr 1 0)] (by grind[qg,ql]) (qk ?_);simp only[qbb,vI,simprocAttr];simp only[↓vS,vT,simprocAttr,h1];simp[vZ,vP,Tr.get_set,h0];refine⟨λh=>?_,Frzs.self qZ⟩
 rw[List.eq_nil_of_length_eq_zero (hn.trans h)];rfl
def qmA{gC g1 gB gM gA gi h1 h2 h3:Nat}(hc:qc P f (qcX gC g1 gB gM gA)=true)(c0:qbx P gC 4 24)(hc1:qc P g1 qaj=true)(hB:∀l:List Sy,qa P gB [.fz l.length (rSy l)] (.fn gi [] [.pf [.fz l.length (rSy l)] 0]))
  (hi:qc P gi qE=true) (hM:qc P gM (jm h1 h2 h3)=true) (c1:qbx P h1 4 24) (c2:cOf P h2) (c3:qgy P h3) (hA:qgy P gA) (l:List Sy) (hl:l.length<=200000) (hin:qmC l) :
  qa P f [.fz l.length (rSy l)] (.fz (qon l).length (rSy (qon l))):=by
 have hMo:∀(x:Sy) (out:List Sy),out.length=l.length->(∀j:Nat,(qbu x/\j=x.th)\/(qcO x/\j=x.el)->j<l.length)->qiD P gM [.fz 1 (cSy x),.fn g1 [] [.pf [.fz out.length (rSy out)] 0]] (.own 0 1) [.cells 4 true true (cSy (qbd (jh out) x))]:=by
  intro x out ho hx
  have:=qtv (gt:=g1) (caps:=[.pf [.fz out.length (rSy out)] 0]) hM c1 c2 c3 [x] (by simp) (jh out) λy hy j hj=>by
   rw[List.mem_singleton]at hy;subst hy;exact qoq hc1 out j (by rw[ho];simp_all)
  simpa[rSy]using this
 refine qa.mk hc (by simp[qt,clo,qZ]) ?_;simp only[qcX,vI,simprocAttr];simp +decide only[↓vS,vT,simprocAttr];refine(c0 l.length (rSy l) qao qZ qxd (by simp only[qi];omega) (by simp only[qi];omega)).sc ?_;simp only[vJ,simprocAttr];simp +decide only[↓vS,vT,simprocAttr,xt qZ];refine(hB l).sc ?_;simp +decide only[↓vS,vT,simprocAttr];refine S.rangeFL (ts:=thT gi l) (Nat.zero_le _) (by intro p hp;simp only[thT,List.mem_cons,List.not_mem_nil,or_false]at hp;rcases hp with rfl|rfl|rfl<;>simp[Tr.get_set]) ⟨rfl,rfl⟩ ?_;refine qkc.2 ⟨.fn gi [] [.pf [.fz l.length (rSy l)] 0],by simp[Tr.get_set],?_⟩
 refine⟨qdD hi,λr0 hr0 hp0 hlo=>⟨r0,.inl ⟨rfl,hlo.real⟩,?_⟩⟩
 have hlo:LoopOk P r0 [12,13] thA (thB gM gA):=hlo;refine xn (c:=cSy) hi qd8 (by omega) (λi h=>∃s tr,h=⟨s,0,tr⟩/\thI g1 r0 (thT gi l) l.length (qfY l (l.length-i)) s tr/\i<=l.length) ?_ ?_ ?_
 .rintro i x h hx ⟨s,tr,rfl,hI,hil⟩ k hk;have hi':i<l.length:=by omega
  refine qxC hMo hA hr0 hp0 hlo hI i hi' x (hin x (by grind)) λs' tr' hI'=>hk _ ⟨s',tr',rfl,?_,by omega⟩
  have e:l.length-i=(l.length-(i+1))+1:=by omega
  have e2:l.length-(l.length-(i+1)+1)=i:=by omega
  have e3:qfY l (l.length-i)=(qfY l (l.length-(i+1))).set i (qbj (qfY l (l.length-(i+1))) x):=by
   rw[e,qfY,e2,hx]
  rw[e3];omega
 .refine⟨_,_,rfl,⟨qfB,by simp,?_,?_,?_,?_⟩,zzL _⟩<;>simp[Tr.get_set,qlA,Hp.push,qfY,xt qZ]
 .rintro h ⟨s,tr,rfl,⟨hn,h4,q0,q1,q2,q3⟩,_⟩;rw[Nat.sub_zero]at q0;refine⟨r0,thT gi l,q3,by rw[hr0];decide,?_⟩
  rw[hp0];simp only[qB];simp only[↓vS,vT,simprocAttr];have e:(qon l).length=l.length:=qfB;rw[e];refine qp5 (by simp[Tr.get_set]) ?_ ?_ qfB
  .rw[Tr.get_set,if_neg (by decide)];exact q1
  .rw[Tr.get_set,if_neg (by decide)];exact q0
def rBo(l:List Bool):List AV:=l.map .b
def qk1{l:List Bool}:(rBo l).length=l.length:=by simp[rBo]
def qoa{l:List Bool}{j:Nat}:(rBo l)[j]?=(l[j]?).map .b:=by simp[rBo]
def qw5{l:List Bool}:qt (rBo l)=true:=qcv λ_=>rfl
def qk2{l:List Bool}{j:Nat}(hj:j<l.length):(rBo l).take j ++ .b true::(rBo l).drop (j+1)=rBo (l.set j true):=by
 rw[List.set_eq_take_append_cons_drop,if_pos hj];simp[rBo,List.map_take,List.map_drop]
def qe7(A:List Bool)(j:Nat)(x:Sy):List Bool :=
 if A[j]?≠some true\/x.code=6 then A else if qm x.code≠4 then A.set (j+1) true else if qcO x then(A.set x.th true).set x.el true else A.set x.th true
def jY(l:List Sy):Nat->List Bool
 | 0=>(List.replicate l.length false).set 0 true
 | m+1=>match l[m]? with|some x=>qe7 (jY l m) m x|none=>jY l m
def qug{A:List Bool}{j:Nat}{x:Sy}:(qe7 A j x).length=A.length:=by
 unfold qe7;grind
def qbv{l:List Sy}:∀{m:Nat},(jY l m).length=l.length
 | 0=>by simp[jY]
 | m+1=>by
  unfold jY;split
  .rw[qug,qbv]
  .exact qbv
def zM(l:List Sy):List Bool:=jY l l.length
def qAV(l:List Sy):Prop:=∀(j:Nat) x,l[j]?=some x->x.code≠6->qm x.code≠4->j+1<l.length
def qfP(a b:Nat):IFn:=⟨[.tmp 2],sq [.r [.m 2 .N],.r [.n 6 0,.e 7 6,.q 8 (.mkS 1 1 [.b false] (.t 7) (.t 7)),.n 3 8],.r [.n 9 3,.q 10 (.iAddrS 1 (.t 9) (.k 0)),.u (.store 1 (.t 10) .T)],sq [.r [.n 11 0,.e 12 11,.m 13 (.k 0)],.blk 0 (.loop (sq [.r [.s 14 13 12],.cond (.t 14) (.skip) (.exit 0),.blk 1 (sq [.r [.n 15 13,.i 16 4 11 13,.v 17 4 16,.q 5 (.alloc [.h 0,.w 0,.j 0,.j 0]),.n 4 15,.u (.store 4 (.t 5) (.t 17))],.blk 2 (sq [.r [.n 29 3,.n 30 4,.i 31 1 29 30,.d 32 31,.q 33 (.un .not (.t 32)),.n 34 33,.h 35 0 5 34 false,.j 36 35 34 false,.g 37 (.bin .eql (.t 36) (.c (.h 6))) 34 false,.o 38 34 37,.n 28 38],.cond (.t 28) (.skip) (sq [.r [.f 40 0 5,.d 41 40,.l 42 a [.t 41],.q 43 (.bin .neq (.t 42) (.c (.y 4))),.n 39 43],.cond (.t 39) (.r [.n 44 3,.n 45 4,.a 46 45 1,.i 47 1 44 46,.u (.store 1 (.t 47) .T)]) (sq [.r [.n 18 3,.f 19 2 5,.d 20 19,.i 21 1 18 20,.u (.store 1 (.t 21) .T)],.r [.v 22 4 5,.l 23 b [.t 22]],.cond (.t 23) (.r [.n 24 3,.f 25 3 5,.d 26 25,.i 27 1 24 26,.u (.store 1 (.t 27) .T)]) (.skip)])])])]),.r [.a 48 13 1,.n 13 48]]))],.r [.n 49 3,.n 2 49],.ret]⟩
def qqb{g1 g2:Nat}(hc:qc P f (qfP g1 g2)=true)(h1:cOf P g1)(h2:qgy P g2)(l:List Sy)(hl:l.length<=200000)(h0:0<l.length)(hin:qmC l)(hon:qAV l):qa P f [.fz l.length (rSy l)] (.fz l.length (rBo (zM l))):=by
 refine qa.mk hc (by simp[qt,clo,qZ]) ?_;have r1:l.length<=qi:=by simp only[qi];omega
 have r2:1*l.length<=qi:=by omega
 have hz:(List.replicate l.length [AV.b false]).flatten=rBo (List.replicate l.length false):=by simp[rBo]
 have hz0:=qk2 (l:=List.replicate l.length false) (j:=0) (by simp_all);have hzl:0+1<=(rBo (List.replicate l.length false)).length:=by rw[qk1];grind
 rw[List.take_zero,zzN]at hz0;simp only[qfP,vI,simprocAttr];simp +decide only[↓vS,vT,simprocAttr,r1,r2,hz,h0,Nat.one_mul,Nat.zero_mul,hzl,hz0]
 refine SL.loopP (α:=Nat) (λi=>[(3,.sl 0 0 l.length l.length false),(11,.fz l.length (rSy l)),(12,.j (l.length:Int)),(13,.j (i:Int))])
  (λi h=>i<=l.length/\∃s tr,h=⟨s,0,tr⟩/\1<=s/\tr.get 0=some (.v (rBo (jY l i)))) (λi=>l.length-i) ?_ 0 ?_ ?_
 .rintro i h1' ⟨hi,s,tr,rfl,hs,t0⟩ G ih;simp only[vI,simprocAttr]
  by_cases hlt:i<l.length
  .have hlt':(i:Int)<l.length:=by omega
   obtain⟨x,hx⟩:∃x,l[i]?=some x:=⟨_,zzE hlt⟩;have hel:=qfy hx;have h4:i*4+4<=(rSy l).length:=by rw[qao];omega
   have hw1:IntKind.wrap .i64 ((i:Int)+1)=((i+1:Nat):Int):=by rw[qp (by omega) (by omega)];simp
   have n0:¬0=s:=by omega
   have n0s:¬s=0:=by omega
   have hAl:(jY l i).length=l.length:=qbv;obtain⟨b,hb⟩:∃b,(jY l i)[i]?=some b:=⟨_,zzE (by omega)⟩;have hgb:(rBo (jY l i))[i]?=some (.b b):=by rw[qoa,hb];rfl
   have hst:jY l (i+1)=qe7 (jY l i) i x:=by rw[jY,hx]
   have fin:∀(t2:Tr Blk) tt,t2.get 0=some (.v (rBo (jY l (i+1))))->Has tt [(3,.sl 0 0 l.length l.length false),(11,.fz l.length (rSy l)),(12,.j (l.length:Int)),(13,.j ((i+1:Nat):Int))]->G tt ⟨s+1,0,t2⟩:=by grind
   have ha:=h2 x;simp only[cSy]at ha;have sl:∀(A:List Bool) (j:Nat),A.length=l.length->j<l.length->j+1<=(rBo A).length:=λA j h1 h2=>by rw[qk1];omega
   cases b with
   | false =>
    have e:qe7 (jY l i) i x=jY l i:=by unfold qe7;rw[hb];simp
    rw[hst,e]at fin;simp +decide only[↓vS,vT,simprocAttr,hlt',hlt,h4,hel,cSy,n0,t0,hgb,zzU,hw1];exact fin _ _ (by grind[Tr.get_set]) (by simp[qg,ql,Tr.get_set])
   | true =>
    by_cases h6:x.code=6
    .have e:qe7 (jY l i) i x=jY l i:=by unfold qe7;grind
     rw[hst,e]at fin;simp +decide only[↓vS,vT,simprocAttr,hlt',hlt,h4,hel,cSy,n0,t0,hgb,zzU,hw1,eq_true h6];exact fin _ _ (by grind[Tr.get_set]) (by simp[qg,ql,Tr.get_set])
    .simp +decide only[↓vS,vT,simprocAttr,hlt',hlt,h4,hel,cSy,n0,t0,hgb,zzU,hw1,h6];refine(h1 x.code).sc ?_
     by_cases hj:qm x.code=4
     .have hth:=hin x (by grind) x.th (.inl ⟨hj,rfl⟩);have b1:=qk2 (l:=jY l i) (j:=x.th) (by omega);have b2:=sl (jY l i) x.th hAl hth;simp +decide only[↓vS,vT,simprocAttr,hj,n0,n0s,t0,hth,b1,b2,zzU];refine ha.sc ?_
      by_cases hk:qcO x
      .have hel2:=hin x (by grind) x.el (by grind);have b3:=qk2 (l:=(jY l i).set x.th true) (j:=x.el) (by rw[List.length_set];omega);have b4:=sl ((jY l i).set x.th true) x.el (by rw[List.length_set];omega) hel2;have e:qe7 (jY l i) i x=((jY l i).set x.th true).set x.el true:=by unfold qe7;grind
       rw[hst,e]at fin;simp +decide only[↓vS,vT,simprocAttr,hk,n0,n0s,hel2,b3,b4,zzU,hw1];exact fin _ _ (by rw[Tr.get_set,if_pos rfl]) (by simp[qg,ql,Tr.get_set])
      .have e:qe7 (jY l i) i x=(jY l i).set x.th true:=by unfold qe7;grind
       rw[hst,e]at fin;simp +decide only[↓vS,vT,simprocAttr,hk,hw1];exact fin _ _ (by rw[Tr.get_set,if_pos rfl]) (by simp[qg,ql,Tr.get_set])
     .have hnx:=hon i x hx h6 hj;have b1:=qk2 (l:=jY l i) (j:=i+1) (by omega);have b2:=sl (jY l i) (i+1) hAl hnx;have e:qe7 (jY l i) i x=(jY l i).set (i+1) true:=by unfold qe7;grind
      rw[hst,e]at fin;simp +decide only[↓vS,vT,simprocAttr,hj,n0,t0,hnx,b1,b2,zzU,hw1];exact fin _ _ (by rw[Tr.get_set,if_pos rfl]) (by simp[qg,ql,Tr.get_set])
  .obtain rfl:i=l.length:=by omega
   have hlt':¬((l.length:Int)<l.length):=by omega
   simp +decide only[↓vS,vT,simprocAttr,hlt'];have hAl:(jY l l.length).length=l.length:=qbv;show Frz _ _ _;refine Frz.cut 1 rfl (zzL _) ?_;rw[t0];simp[vP,qk1,hAl];rw[List.take_of_length_le (by rw[qk1,hAl];omega)];exact Frzs.self qw5
 .simp[qg,ql,Tr.get_set]
 .refine⟨Nat.zero_le _,_,_,rfl,by omega,?_⟩
  simp[Tr.get_set,jY]
def xd(A:List Bool)(j:Nat):Nat:=(A.take j).countP (· = true)
def rPl(A:List Bool)(n:Nat):List AV:=(List.range n).map λj=>.j (xd A j:Int)
theorem qoe{A:List Bool}{n:Nat}:(rPl A n).length=n:=by simp[rPl]
def qrZ{A:List Bool}{n j:Nat}(h:j<n):(rPl A n)[j]?=some (.j (xd A j:Int)):=by simp[rPl,h]
def qfd{A:List Bool}{j:Nat}{b:Bool}(h:A[j]?=some b):xd A (j+1)=xd A j+if b=true then 1 else 0:=by
 unfold xd;rw[qbt h,List.countP_append];cases b<;>simp
def qnP{A:List Bool}{j:Nat}:xd A j<=j:=by
 unfold xd;grind[List.length_take]
def qcJ{α:Type}:List Bool->List α->List α
 | b::A,x::l=>if b=true then x::qcJ A l else qcJ A l
 | _,_=>[]
def qnm{α:Type}:∀{A:List Bool} {l:List α} {j:Nat} {b:Bool} {x:α},A[j]?=some b->l[j]?=some x->qcJ (A.take (j+1)) (l.take (j+1))=qcJ (A.take j) (l.take j)++if b=true then [x]else []
 | [],_,_,_,_,h,_=>by grind
 | _::_,[],_,_,_,_,h=>by grind
 | c::A,y::l,0,b,x,h1,h2=>by
  simp at h1 h2;subst h1 h2;cases c<;>simp[qcJ]
 | c::A,y::l,j+1,b,x,h1,h2=>by
  have:=qnm (A:=A) (l:=l) (j:=j) (b:=b) (x:=x) (by simp_all) (by simp_all);rw[List.take_succ_cons,List.take_succ_cons,List.take_succ_cons,List.take_succ_cons];simp only[qcJ,this];cases c<;>simp
def qpU{α:Type}:∀{A:List Bool} {l:List α},A.length=l.length->(qcJ A l).length=A.countP (· = true)
 | [],[],_=>rfl
 | b::A,x::l,h=>by
  have:=qpU (A:=A) (l:=l) (by simp_all);cases b<;>simp[qcJ,this]
 | [],_::_,h=>by grind
 | _::_,[],h=>by grind
def qg7(l:List Sy):List Sy:=qcJ (zM l) (l.map (qbd (xd (zM l))))
def qc0(n b:Nat):AV:=if n=0 then .nils else .own b n
def qa3:IFn:=⟨[.tmp 3],sq [.r [.m 3 (.k 0)],.r [.d 4 1,.n 5 0,.i 6 1 4 5,.d 7 6,.n 3 7],.ret]⟩
def qce(a b c:Nat):ICode:=sq [.r [.m 7 .N],sq [.r [.n 31 0,.q 32 (.mkF b [] [.t 4]),.l 33 c [.t 31,.t 32],.e 34 33,.m 35 (.k 0)],.blk 2 (.loop (sq [.r [.s 36 35 34],.cond (.t 36) (.skip) (.exit 2),.blk 3 (sq [.r [.n 37 35,.i 38 4 33 35,.v 39 4 38,.q 9 (.alloc [.h 0,.w 0,.j 0,.j 0]),.n 8 37,.u (.store 4 (.t 9) (.t 39))],.r [.n 40 3,.n 41 8,.i 42 1 40 41,.d 43 42],.cond (.t 43) (.r [.n 44 7,.v 45 4 9,.q 46 (.buildS 1 [.h 0,.w 0,.j 0,.j 0] [(0,4,(.t 45))]),.q 47 (.app 4 24 true (.t 44) (.t 46)),.n 7 47]) (.skip)]),.r [.a 48 35 1,.n 35 48]]))],.r [.n 49 7,.n 2 49],.ret]
def qeK(a b c:Nat):IFn:=⟨[.tmp 2],sq [.r [.m 2 .N],.r [.n 10 0,.l 11 a [.t 10],.n 3 11],.r [.n 12 0,.e 13 12,.q 14 (.mkS 1 8 [.j 0] (.t 13) (.t 13)),.q 4 (.alloc [.nils]),.u (.store 1 (.t 4) (.t 14))],.r [.m 5 (.k 0)],sq [.r [.n 15 0,.e 16 15,.m 17 (.k 0)],.blk 0 (.loop (sq [.r [.s 18 17 16],.cond (.t 18) (.skip) (.exit 0),.blk 1 (sq [.r [.n 19 17,.n 6 19],.r [.d 20 4,.n 21 6,.n 22 5,.i 23 1 20 21,.u (.store 1 (.t 23) (.t 22))],.r [.n 24 3,.n 25 6,.i 26 1 24 25,.d 27 26],.cond (.t 27) (.r [.n 28 5,.a 29 28 1,.n 5 29]) (.skip)]),.r [.a 30 17 1,.n 17 30]]))],.cut (qce a b c)]⟩
def qtq{n0 g1 g2 g3 h1 h2 h3 s:Nat}{tr:Tr Blk}{t:Tr AV}(hc1:qc P g2 qa3=true)(hc3:qc P g3 (jm h1 h2 h3)=true)(c1:qbx P h1 4 24)(c2:cOf P h2)(c3:qgy P h3)(l:List Sy)(hl:l.length<=200000)(hin:qmC l)
  (hs:2<=s) (t0:tr.get 0=some (.v (rPl (zM l) l.length))) (t1:tr.get 1=some (.v [.sl 0 0 l.length l.length false]))
  (ht:Has t [(0,.fz l.length (rSy l)),(3,.fz l.length (rBo (zM l))),(4,.ptr 1 0)]) :
  S P n0 (qce g1 g2 g3) (xu [.tmp 2] λv' h'=>Frz h' v' (.fz (qg7 l).length (rSy (qg7 l)))) t ⟨s,0,tr⟩:=by
 have hAl:(zM l).length=l.length:=qbv;refine S.has _ ht (qk ?_);simp only[qce,vI,simprocAttr];simp +decide only[↓vS,vT,simprocAttr];refine qlS hc3 c1 c2 c3 l hl (Nat.zero_le _) (xd (zM l)) (λx hx j hj s' tr' k' hs' hold hk'=>?_) λs' tr' bm hs' hold hb1 hb2 hg=>?_
 .have hjl:=hin x hx j hj;have g0:=(hold 0 (by omega)).trans t0;have g1:=(hold 1 (by omega)).trans t1;have gp:=qrZ (A:=zM l) hjl;refine SC.mk hc1 (qk ?_);simp only[qa3,vI,simprocAttr];simp +decide only[↓vS,vT,simprocAttr,g0,g1,gp,hjl,zzU];omega
 obtain⟨M,hM⟩:∃M,M=l.map (qbd (xd (zM l))):=⟨_,rfl⟩;have hMl:M.length=l.length:=by rw[hM];simp
 have hliv:qg7 l=qcJ (zM l) M:=by rw[hM];rfl
 rw[<- hM]at hg;simp +decide only[↓vS,vT,simprocAttr]
 refine SL.loopP (α:=Nat×Nat) (λi=>[(3,.fz l.length (rBo (zM l))),(7,qc0 (xd (zM l) i.1) i.2),(33,.own bm l.length),(34,.j (l.length:Int)),(35,.j (i.1:Int))])
  (λi h=>i.1<=l.length/\∃s2 t2,h=⟨s2,0,t2⟩/\bm<s2/\t2.get bm=some (.cells 4 true true (rSy M))/\(xd (zM l) i.1≠0->t2.get i.2=some (.cells 4 true true (rSy (qcJ ((zM l).take i.1) (M.take i.1))))/\i.2<s2/\i.2≠bm)) (λi=>l.length-i.1) ?_ (0,0) ?_ ?_
 .rintro⟨i,bo⟩ h1 ⟨hi,s2,t2,rfl,hb,gm,go⟩ G ih;simp only at hi go;simp only[vI,simprocAttr];have hsel:(qcJ ((zM l).take i) (M.take i)).length=xd (zM l) i:=qpU (by grind)
  by_cases hlt:i<l.length
  .have hlt':(i:Int)<l.length:=by omega
   obtain⟨x,hx⟩:∃x,M[i]?=some x:=⟨_,zzE (by omega)⟩;obtain⟨b,hbb⟩:∃b,(zM l)[i]?=some b:=⟨_,zzE (by omega)⟩;have hgb:(rBo (zM l))[i]?=some (.b b):=by rw[qoa,hbb];rfl
   have hel:=qfy hx;have h4:i*4+4<=(rSy M).length:=by rw[qao];omega
   have hw1:IntKind.wrap .i64 ((i:Int)+1)=((i+1:Nat):Int):=by rw[qp (by omega) (by omega)];simp
   have hsn:=qnm hbb hx;have hcn:=qfd hbb;have n1:¬bm=s2:=by omega
   have n2:¬s2=s2+1:=by omega
   have n3:¬s2+1=s2:=by omega
   have n4:¬bm=s2+1:=by omega
   have n5:¬bm=s2+1+1:=by omega
   have hci:=qnP (A:=zM l) (j:=i);cases b with
   | false =>
    simp at hcn hsn;simp +decide only[↓vS,vT,simprocAttr,hlt',hlt,h4,hel,cSy,gm,hgb,n1,zzU,hw1];refine ih (i+1,bo) _ _ (by simp only;omega) ?_ ⟨by simp only;omega,s2+1,_,rfl,by omega,?_,λh0=>?_⟩
    .simp only[hcn];simp[qg,ql,Tr.get_set]
    all_goals grind[Tr.get_set]
   | true =>
    simp at hcn hsn
    by_cases hz:xd (zM l) i=0
    .have hV:qc0 (xd (zM l) i) bo = .nils:=by simp[qc0,hz]
     have hnil:qcJ ((zM l).take i) (M.take i)=[]:=by grind
     rw[hV];simp +decide only[↓vS,vT,simprocAttr,hlt',hlt,h4,hel,cSy,gm,hgb,n1,n2,n3,zzU,hw1];refine ih (i+1,s2+1+1) _ _ (by omega) ?_ ⟨by omega,s2+1+1+1,_,rfl,by omega,?_,λh0=>⟨?_,by omega,by omega⟩⟩
     .have e:qc0 (xd (zM l) (i+1)) (s2+1+1) = .own (s2+1+1) 1:=by rw[hcn,hz];rfl
      simp only[e];simp[qg,ql,Tr.get_set]
     .grind[Tr.get_set]
     .simp only[Tr.get_set];rw[hsn,hnil];simp[rSy,cSy]
    .obtain⟨q1,q2,q3⟩:=go hz;have hV:qc0 (xd (zM l) i) bo = .own bo (xd (zM l) i):=by simp[qc0,hz]
     rw[hV];have n6:¬bo=s2:=by omega
     have n7:¬bo=s2+1:=by omega
     have n8:¬s2+1=bo:=by omega
     have hr1:xd (zM l) i+1<=qi:=by simp only[qi];omega
     have hr2:(xd (zM l) i+1)*24<=qi:=by simp only[qi];omega
     have hql:(rSy (qcJ ((zM l).take i) (M.take i))).length=xd (zM l) i*4:=by rw[qao,hsel]
     simp +decide only[↓vS,vT,simprocAttr,hlt',hlt,h4,hel,cSy,gm,hgb,n1,n2,n3,n6,n7,n8,q1,hr1,hr2,hql,zzU,hw1];refine ih (i+1,s2+1+1) _ _ (by omega) ?_ ⟨by omega,s2+1+1+1,_,rfl,by omega,?_,λh0=>⟨?_,by omega,by omega⟩⟩
     .have e:qc0 (xd (zM l) (i+1)) (s2+1+1) = .own (s2+1+1) (xd (zM l) i+1):=by rw[hcn];simp[qc0]
      simp only[e];simp[qg,ql,Tr.get_set]
     .grind[Tr.get_set]
     .simp only[Tr.get_set];rw[hsn,<- qr3];simp[rSy,cSy]
  .obtain rfl:i=l.length:=by omega
   have hlt':¬((l.length:Int)<l.length):=by omega
   have e1:(zM l).take l.length=zM l:=by grind
   have e2:M.take l.length=M:=by grind
   rw[e1,e2]at hsel go;simp +decide only[↓vS,vT,simprocAttr,hlt'];rw[hliv]
   by_cases hz:xd (zM l) l.length=0
   .have hV:qc0 (xd (zM l) l.length) bo = .nils:=by simp[qc0,hz]
    have hnil:qcJ (zM l) M=[]:=by grind
    rw[hV,hnil];exact .nilz
   .obtain⟨q1,q2,q3⟩:=go hz;have hV:qc0 (xd (zM l) l.length) bo = .own bo (xd (zM l) l.length):=by simp[qc0,hz]
    rw[hV];show Frz _ _ _;refine qvy.2 ⟨hsel.symm,?_⟩;rw[q1];simp[vP,hz];exact Frzs.self qZ
 .have e:qc0 (xd (zM l) 0) 0 = .nils:=by simp[qc0,xd]
  simp_all[qg,ql,Tr.get_set]
 .exact⟨Nat.zero_le _,s',tr',rfl,hb2,hg,λh=>absurd (by simp[xd]) h⟩
def qpr{g1 g2 g3 h1 h2 h3:Nat}(hc:qc P f (qeK g1 g2 g3)=true)(hc1:qc P g2 qa3=true)(hc3:qc P g3 (jm h1 h2 h3)=true)(c1:qbx P h1 4 24)(c2:cOf P h2)(c3:qgy P h3)(l:List Sy)(ha:qa P g1 [.fz l.length (rSy l)] (.fz l.length (rBo (zM l))))
  (hl:l.length<=200000) (hin:qmC l):qa P f [.fz l.length (rSy l)] (.fz (qg7 l).length (rSy (qg7 l))):=by
 have hAl:(zM l).length=l.length:=qbv;refine qa.mk hc (by simp[qt,clo,qZ]) ?_;have r1:l.length<=qi:=by simp only[qi];omega
 have r2:8*l.length<=qi:=by simp only[qi];omega
 simp only[qeK,vI,simprocAttr];simp +decide only[↓vS,vT,simprocAttr];refine ha.sc ?_;simp +decide only[↓vS,vT,simprocAttr,r1,r2]
 refine SL.loopP (α:=Nat) (λi=>[(0,.fz l.length (rSy l)),(3,.fz l.length (rBo (zM l))),(4,.ptr 1 0),(5,.j (xd (zM l) i:Int)),(16,.j (l.length:Int)),(17,.j (i:Int))])
  (λi h=>i<=l.length/\∃s tr,h=⟨s,0,tr⟩/\2<=s/\tr.get 0=some (.v ((rPl (zM l) l.length).take i++List.replicate (l.length-i) (.j 0)))/\tr.get 1=some (.v [.sl 0 0 l.length l.length false])) (λi=>l.length-i) ?_ 0 ?_ ?_
 .rintro i h1' ⟨hi,s,tr,rfl,hs,t0,t1⟩ G ih;simp only[vI,simprocAttr]
  by_cases hlt:i<l.length
  .have hlt':(i:Int)<l.length:=by omega
   obtain⟨b,hbb⟩:∃b,(zM l)[i]?=some b:=⟨_,zzE (by omega)⟩;have hgb:(rBo (zM l))[i]?=some (.b b):=by rw[qoa,hbb];rfl
   have hcn:=qfd hbb;have hci:=qnP (A:=zM l) (j:=i);have hw1:IntKind.wrap .i64 ((i:Int)+1)=((i+1:Nat):Int):=by rw[qp (by omega) (by omega)];simp
   have hw2:IntKind.wrap .i64 ((xd (zM l) i:Int)+1)=((xd (zM l) i+1:Nat):Int):=by rw[qp (by omega) (by omega)];simp
   have hfill:=qma (n:=l.length) (z:=.j 0) qoe (qrZ (A:=zM l) hlt);have hb4:i+1<=((rPl (zM l) l.length).take i++List.replicate (l.length-i) (AV.j 0)).length:=by grind[qoe]
   cases b with
   | false =>
    simp at hcn;simp +decide only[↓vS,vT,simprocAttr,hlt',hlt,t0,t1,hgb,hb4,hfill,zzU,hw1];refine ih (i+1) _ _ (by omega) ?_ (by grind[Tr.get_set]);rw[hcn];simp[qg,ql,Tr.get_set]
   | true =>
    simp at hcn;simp +decide only[↓vS,vT,simprocAttr,hlt',hlt,t0,t1,hgb,hb4,hfill,zzU,hw1,hw2];refine ih (i+1) _ _ (by omega) ?_ (by grind[Tr.get_set]);rw[hcn];simp[qg,ql,Tr.get_set]
  .obtain rfl:i=l.length:=by omega
   have hlt':¬((l.length:Int)<l.length):=by omega
   simp +decide only[↓vS,vT,simprocAttr,hlt'];refine qtq hc1 hc3 c1 c2 c3 l hl hin hs ?_ t1 ?_
   all_goals grind[qoe,qg,ql,Tr.get_set]
 .simp[qg,ql,Tr.get_set,xd]
 .refine⟨Nat.zero_le _,_,_,rfl,by omega,?_,?_⟩<;>simp[Tr.get_set]
def qCm(P:Program)(g:Nat)(l m:List Sy):Prop:=qa P g [.fz l.length (rSy l)] (.fz m.length (rSy m))
def qgR(a:Nat):IFn:=⟨[.tmp 4,.tmp 5],sq [.r [.m 4 .N,.m 5 (.k 0)],sq [.r [.n 8 0,.l 9 a [.t 8],.q 10 (.un .not (.t 9))],.cond (.t 10) (sq [.r [.m 4 .N,.m 5 (.k 250)],.ret]) (.skip)],sq [.r [.n 11 1,.e 12 11,.m 13 (.k 0)],.blk 0 (.loop (sq [.r [.s 14 13 12],.cond (.t 14) (.skip) (.exit 0),.blk 1 (sq [.r [.i 15 1 11 13,.d 16 15,.n 7 16],.r [.n 17 7,.n 18 0,⟨(some 19),.callV (.t 17) [.t 18],none⟩,.n 0 19]]),.r [.a 20 13 1,.n 13 20]]))],.r [.n 21 0,.n 4 21,.m 5 (.k 0)],.ret]⟩
def qz6{gM a b c:Nat}(hc:qc P f (qgR gM)=true)(l0 l1 l2 l3:List Sy)(hm:qa P gM [.fz l0.length (rSy l0)] (.b true))(h1:qCm P a l0 l1)(h2:qCm P b l1 l2)(h3:qCm P c l2 l3) :
  qa P f [.fz l0.length (rSy l0),.fz 3 [.fn a [] [],.fn b [] [],.fn c [] []]] (.tup [.fz l3.length (rSy l3),.j 0]):=by
 refine qa.mk hc (by simp[qt,clo,qZ]) ?_;simp only[qgR,vI,simprocAttr];simp +decide only[↓vS,vT,simprocAttr];refine hm.sc ?_;simp +decide only[↓vS,vT,simprocAttr]
 refine SL.loopP (α:=Nat) (λi=>[(0,match i with|0=>.fz l0.length (rSy l0)|1=>.fz l1.length (rSy l1)|2=>.fz l2.length (rSy l2)|_=>.fz l3.length (rSy l3)),(11,.fz 3 [.fn a [] [],.fn b [] [],.fn c [] []]),(12,.j 3),(13,.j (i:Int))])
  (λi h=>i<=3/\h.fl=0) (λi=>3-i) ?_ 0 ?_ ?_
 .rintro i ⟨s,fl,tr⟩ ⟨hi,rfl⟩ G ih;simp only[vI,simprocAttr];have hi4:i=0\/i=1\/i=2\/i=3:=by omega
  rcases hi4 with rfl|rfl|rfl|rfl
  .simp +decide only[↓vS,vT,simprocAttr];refine h1.sc ?_;simp +decide only[↓vS,vT,simprocAttr];exact ih 1 _ _ (by omega) (by simp[qg,ql,Tr.get_set];decide) ⟨by omega,rfl⟩
  .simp +decide only[↓vS,vT,simprocAttr];refine h2.sc ?_;simp +decide only[↓vS,vT,simprocAttr];exact ih 2 _ _ (by omega) (by simp[qg,ql,Tr.get_set];decide) ⟨by omega,rfl⟩
  .simp +decide only[↓vS,vT,simprocAttr];refine h3.sc ?_;simp +decide only[↓vS,vT,simprocAttr];exact ih 3 _ _ (by omega) (by simp[qg,ql,Tr.get_set];decide) ⟨by omega,rfl⟩
  .simp +decide only[↓vS,vT,simprocAttr];simp[vZ,zj qZ]
 all_goals simp_all[qg,ql,Tr.get_set]
def qeL(a b c:Nat):IFn:=⟨[.cell 0 3 true],sq [.r [.q 0 (.alloc [.nilf,.nilf,.nilf])],.r [.q 1 (.build [.nilf,.nilf,.nilf] [(0,1,(.c (.fn a [] []))),(1,1,(.c (.fn b [] []))),(2,1,(.c (.fn c [] [])))]),.u (.store 3 (.t 0) (.t 1))],.ret]⟩
def qpI{a b c:Nat}(hc:qc P f (qeL a b c)=true):qa P f [] (.agg [.fn a [] [],.fn b [] [],.fn c [] []]):=by
 refine qa.mk hc rfl ?_;simp only[qeL,vI,simprocAttr];simp +decide only[↓vS,vT,simprocAttr];simp[vZ,vP,Tr.get_set]
def qiq(a b:Nat):IFn:=⟨[.tmp 2,.tmp 3],sq [.r [.m 2 .N,.m 3 (.k 0)],.r [.l 5 a [],.q 4 (.alloc [.nilf,.nilf,.nilf]),.u (.store 3 (.t 4) (.t 5))],.r [.n 6 0,.q 7 (.slcA 3 1 (.t 4) none none none),.l 8 b [.t 6,.t 7],.x 9 8 0,.x 10 8 1,.n 2 9,.n 3 10],.ret]⟩
def qwS{g1 g2 a b c:Nat}(hc:qc P f (qiq g1 g2)=true)(h1:qa P g1 [] (.agg [.fn a [] [],.fn b [] [],.fn c [] []]))(l m:List Sy)(h2:qa P g2 [.fz l.length (rSy l),.fz 3 [.fn a [] [],.fn b [] [],.fn c [] []]] (.tup [.fz m.length (rSy m),.j 0])) :
  qa P f [.fz l.length (rSy l)] (.tup [.fz m.length (rSy m),.j 0]):=by
 refine qa.mk hc (by simp[qt,clo,qZ]) ?_;simp only[qiq,vI,simprocAttr];simp +decide only[↓vS,vT,simprocAttr];refine h1.sc ?_;simp +decide only[↓vS,vT,simprocAttr];refine h2.give [(0,.v [.fn a [] [],.fn b [] [],.fn c [] []])] ?_ (by simp[qt,clo,qZ]) ?_ ?_
 .grind[Tr.get_set]
 .refine qaZ.2 ⟨Frz.self (by simp[clo,qZ]),qaZ.2 ⟨Frz.cut 1 rfl (zzL _) ?_,qfL.2 trivial⟩⟩;simp[trP,Tr.get_set,vP,vZ]
 .simp +decide only[↓vS,vT,simprocAttr,zk,zC,qB];simp[vZ,vP,zj qZ]
def qgr(p:List Ins)(i:Nat):List Ins:=p.mapIdx λt x=>if t<i\/p.length-i<=t then p.getD (p.length-1-t) x else x
theorem qcH{p:List Ins}{i:Nat}:(qgr p i).length=p.length:=by simp[qgr]
theorem qjt{p:List Ins}{i t:Nat}:(qgr p i)[t]?=(p[t]?).map λx=>if t<i\/p.length-i<=t then p.getD (p.length-1-t) x else x:=by simp[qgr]
def qEx{p:List Ins}:qgr p 0=p:=by
 apply List.ext_getElem?;grind[qjt]
def qxj{p:List Ins}{i:Nat}(h:p.length<=2*i+1):qgr p i=p.reverse:=by
 apply List.ext_getElem?;grind[qjt]
def qtR{p:List Ins}{i:Nat}{x y:Ins}(h:2*i+1<p.length)(hx:(qgr p i)[i]?=some x)(hy:(qgr p i)[p.length-1-i]?=some y):((qgr p i).set i y).set (p.length-1-i) x=qgr p (i+1):=by
 rw[qjt,zzE (by omega)]at hx hy;simp only[Option.map_some,Option.some.injEq]at hx hy;rw[if_neg (by omega)]at hx hy;apply List.ext_getElem?;grind[qcH,qjt]
def qrX{T:List Ins}{j:Nat}{x:Ins}(h:T[j]?=some x):((rP T).drop (j*4)).take 4=qI x:=qS qaX h
def qrY{l:List Ins}{j:Nat}(y:Ins)(hj:j<l.length):(rP l).take (j*4)++(qI y++(rP l).drop (j*4+4))=rP (l.set j y):=qmS qaX y hj
def zR:IFn:=⟨[],sq [.r [.n 4 0,.e 5 4,.w 6 .sub 5 1,.m 2 (.k 0),.n 3 6],.blk 0 (.loop (sq [sq [.r [.n 7 2,.n 8 3,.s 9 7 8],.cond (.t 9) (.skip) (.exit 0)],.blk 1 (.reg true [.n 14 0,.n 15 2,.n 16 0,.n 17 3,.n 18 0,.n 19 3,.i 20 4 18 19,.v 21 4 20,.n 22 0,.n 23 2,.i 24 4 22 23,.v 25 4 24,.i 26 4 14 15,.u (.store 4 (.t 26) (.t 21)),.i 27 4 16 17,.u (.store 4 (.t 27) (.t 25))]),.r [.n 10 2,.a 11 10 1,.n 12 3,.w 13 .sub 12 1,.n 2 11,.n 3 13]]))]⟩
def qqP(hc:qc P f zR=true){s b:Nat}{tr:Tr Blk}(p:List Ins)(hp:p.length<=1000000){k:AV->Hp->Prop}(hb:tr.get b=some (.cells 4 true true (rP p)))(hk:∀tr',(∀c,c≠b->tr'.get c=tr.get c)->tr'.get b=some (.cells 4 true true (rP p.reverse))->k (.tup []) ⟨s,0,tr'⟩) :
  SC P f [.own b p.length] ⟨s,0,tr⟩ k:=by
 refine SC.mk hc (qk ?_);have e1:IntKind.wrap .i64 ((p.length:Int)-1)=(p.length:Int)-1:=by grind[qp]
 simp only[zR,vI,simprocAttr];simp +decide only[↓vS,vT,simprocAttr,e1]
 refine SL.loopP (α:=Nat) (λi=>[(0,.own b p.length),(2,.j (i:Int)),(3,.j ((p.length:Int)-1-i))])
  (λi h=>2*i<=p.length/\∃tr',h=⟨s,0,tr'⟩/\(∀c,c≠b->tr'.get c=tr.get c)/\tr'.get b=some (.cells 4 true true (rP (qgr p i)))) (λi=>p.length-i) ?_ 0 ?_ ?_
 .rintro i h1 ⟨hi,tr',rfl,hold,hrow⟩ G ih;simp only[vI,simprocAttr]
  by_cases hlt:2*i+1<p.length
  .have hlt':(i:Int)<(p.length:Int)-1-i:=by omega
   have ej:(p.length:Int)-1-i=((p.length-1-i:Nat):Int):=by omega
   obtain⟨x,hx⟩:∃x,(qgr p i)[i]?=some x:=⟨_,zzE (by rw[qcH];omega)⟩;obtain⟨y,hy⟩:∃x,(qgr p i)[p.length-1-i]?=some x:=⟨_,zzE (by rw[qcH];omega)⟩;have hst:=qtR hlt hx hy;have elx:=qrX hx;have ely:=qrX hy;have lx:i*4+4<=(rP (qgr p i)).length:=by rw[qeY,qcH];omega
   have ly:(p.length-1-i)*4+4<=(rP (qgr p i)).length:=by rw[qeY,qcH];omega
   have lx2:i<p.length:=by omega
   have ly2:p.length-1-i<p.length:=by omega
   have s1:=qrY (l:=qgr p i) (j:=i) y (by rw[qcH];omega);have s2:=qrY (l:=(qgr p i).set i y) (j:=p.length-1-i) x (by rw[List.length_set,qcH];omega);rw[hst]at s2;have ly3:(p.length-1-i)*4+4<=(rP ((qgr p i).set i y)).length:=by rw[qeY,List.length_set,qcH];omega
   simp only[qI,zzC,zzN]at s1 s2 elx ely;have w1:IntKind.wrap .i64 ((i:Int)+1)=((i+1:Nat):Int):=by rw[qp (by omega) (by omega)];simp
   have w2:IntKind.wrap .i64 (((p.length-1-i:Nat):Int)-1)=(p.length:Int)-1-((i+1:Nat):Int):=by rw[qp (by omega) (by omega)];omega
   rw[ej]at hlt' ⊢;simp +decide only[↓vS,vT,simprocAttr,hlt'];refine zB ?_;simp +decide only[↓vS,vT,simprocAttr,lx2,ly2,hrow,elx,ely,lx,ly,s1,ly3,s2,w1,w2];refine ih (i+1) _ _ (by omega) (by simp[qg,ql,Tr.get_set]) ⟨by omega,_,rfl,λc hc=>?_,by rw[Tr.get_set,if_pos rfl]⟩
   rw[Tr.get_set,if_neg hc,Tr.get_set,if_neg hc];exact hold c hc
  .have hlt':¬(i:Int)<(p.length:Int)-1-i:=by omega
   simp +decide only[↓vS,vT,simprocAttr,hlt'];rw[qxj (by omega)]at hrow;exact hk _ hold hrow
 all_goals simp_all[qg,ql,Tr.get_set,qEx]
structure LI (kb n:Nat) (back:List Ins) (pl:List Nat) (s:Nat) (tr:Tr Blk) (bb bp:Nat) (far:Int):Prop where
 k:tr.get kb=some (.v [.own bb back.length,.sl bp 0 n n false,.j far])
 b:tr.get bb=some (.cells 4 true true (rP back))
 p:tr.get bp=some (.v (rNt pl))
 len:pl.length=n
 kb':kb≠bb
 kp:kb≠bp
 bp':bb≠bp
 ks:kb<s
 bs:bb<s
 ps:bp<s
theorem LI.keep{kb n bb bp s s':Nat}{back:List Ins}{pl:List Nat}{tr tr':Tr Blk}{far:Int}(h:LI kb n back pl s tr bb bp far)(hs:s<=s')(e:∀c,c=kb\/c=bb\/c=bp->tr'.get c=tr.get c):LI kb n back pl s' tr' bb bp far :=
 ⟨by grind[LI.k],by grind[LI.b],by grind[LI.p],h.len,h.kb',h.kp,h.bp',Nat.lt_of_lt_of_le h.ks hs,Nat.lt_of_lt_of_le h.bs hs,Nat.lt_of_lt_of_le h.ps hs⟩
def xw:IFn:=⟨[.tmp 4],sq [.r [.m 4 (.k 0)],.reg true [.n 5 0,.q 6 (.nilChk (.t 5)),.f 7 0 6,.d 8 7,.e 9 8,.n 10 0,.q 11 (.nilChk (.t 10)),.f 12 1 11,.d 13 12,.n 14 1,.i 15 1 13 14,.d 16 15,.b 17 .sub 9 16,.n 4 17],.ret]⟩
def qnS(hc:qc P f xw=true){kb n s fl bb bp:Nat}{back:List Ins}{pl:List Nat}{tr:Tr Blk}{far:Int}{k:AV->Hp->Prop}(h:LI kb n back pl s tr bb bp far){j q:Nat}(hj:pl[j]?=some q)(hq:q<=back.length)(hb:back.length<=1000000)
  (hk:k (.j ((back.length-q:Nat):Int)) ⟨s,fl,tr⟩):SC P f [.ptr kb 0,.j (j:Int)] ⟨s,fl,tr⟩ k:=by
 refine SC.mk hc (qk ?_);have hjl:j<n:=by rw[<- h.len];grind
 have hg:(rNt pl)[j]?=some (.j (q:Int)):=by rw[qrW,hj];rfl
 have e:IntKind.wrap .i64 ((back.length:Int)-q)=((back.length-q:Nat):Int):=by rw[qp (by omega) (by omega)];omega
 simp only[xw,vI,simprocAttr];simp +decide only[↓vS,vT,simprocAttr];refine zB ?_;simp +decide only[↓vS,vT,simprocAttr,h.k,h.p,hjl,hg,zzU,e];exact hk
def xH(a:Nat):IFn:=⟨[.tmp 2],sq [.r [.q 1 (.box (.t 0)),.m 2 (.c (.nilf))],.r [.q 3 (.mkF a [] [.t 1]),.n 2 3],.ret]⟩
def qGo{g:Nat}(hc:qc P f (xH g)=true)(l:List Ins):qa P f [.fz l.length (rP l)] (.fn g [] [.pf [.fz l.length (rP l)] 0]):=by
 refine qa.mk hc (by simp[qt,clo,qw]) ?_;simp only[xH,vI,simprocAttr];simp +decide only[↓vS,vT,simprocAttr];simp[vZ,vP,Tr.get_set,zj (qw l)]
def jJ(a:Nat):IFn:=⟨[],sq [.r [.q 2 (.box (.t 0))],.r [.n 6 1,.l 7 a [.t 6]],.blk 0 (.rangeF 0 (.t 7) [8,9] (.r [.q 5 (.alloc [.h 0,.y 0,.y 0,.w 0]),.u (.store 4 (.t 5) (.t 9))]) (.blk 1 (.reg true [.d 10 2,.d 11 2,.q 12 (.nilChk (.t 11)),.f 13 0 12,.d 14 13,.v 15 4 5,.q 16 (.buildS 1 [.h 0,.y 0,.y 0,.w 0] [(0,4,(.t 15))]),.q 17 (.appD 4 8 (.t 14) (.t 16) [2]),.q 18 (.nilChk (.t 10)),.f 19 0 18,.u (.store 1 (.t 19) (.t 17))])))]⟩
def puT(s gi:Nat)(l:List Ins):List (Nat×AV):=[(2,.ptr s 0),(7,.fn gi [] [.pf [.fz l.length (rP l)] 0])]
def puA:ICode:=.reg false [⟨some 5,.op (.alloc [.h 0,.y 0,.y 0,.w 0]),none⟩,⟨none,.op (.store 4 (.t 5) (.t 9)),none⟩]
def puB:ICode:=.blk 1 (.reg true [.d 10 2,.d 11 2,.q 12 (.nilChk (.t 11)),.f 13 0 12,.d 14 13,.v 15 4 5,.q 16 (.buildS 1 [.h 0,.y 0,.y 0,.w 0] [(0,4,(.t 15))]),.q 17 (.appD 4 8 (.t 14) (.t 16) [2]),.q 18 (.nilChk (.t 10)),.f 19 0 18,.u (.store 1 (.t 19) (.t 17))])
def qwY{kb n s0 s gi bb bp lb:Nat}{back l:List Ins}{pl:List Nat}{r0:Loop}{tr:Tr Blk}{far:Int}{k:AV->Hp->Prop}(hr0:r0.state = .ready)(hp0:r0.pending=none)(hlo:LoopOk P r0 [8,9] puA puB)
  (h:LI kb n back pl s tr bb bp far) (g0:tr.get s0=some (.v [.ptr kb 0])) (gl:tr.get lb=some (.map (zJ r0 (puT s0 gi l)))) (hlb:lb<s) (hs0:s0<s) (hn:kb≠lb/\bb≠lb/\bp≠lb/\s0≠lb/\s0≠kb/\s0≠bb) (i:Int) (x:Ins) (hb:back.length<=1000000)
  (hk:∀s' tr' bb',s<=s'->(∀c,c<s->c≠kb->c≠bb->tr'.get c=tr.get c)->s<=bb'->LI kb n (back++[x]) pl s' tr' bb' bp far->k (.b true) ⟨s',0,tr'⟩):SY P lb [.j i,.agg (qI x)] ⟨s,0,tr⟩ k:=by
 obtain⟨e1,e2,e3,e4,e5,e6⟩:=hn;have hks:=h.ks;have hbs:=h.bs;have hps:=h.ps;have hkb:=h.kb';have hkp:=h.kp;have hbp:=h.bp';refine SY.mk (r:=r0) (ts:=puT s0 gi l) (ps:=[8,9]) gl hr0 hlo (Nat.zero_le _) hlb rfl ?_;rw[show mkT (puT s0 gi l)=(Tr.leaf.set 7 (.fn gi [] [.pf [.fz l.length (rP l)] 0])).set 2 (.ptr s0 0)from rfl]
 refine qk ?_;simp only[qkB,puA,qI,vI,simprocAttr];simp +decide only[↓vS,vT,simprocAttr];have n1:¬lb=s:=by omega
 have n2:¬s0=s:=by omega
 have n3:¬kb=s:=by omega
 have n4:¬bb=s:=by omega
 have n5:¬s=lb:=by omega
 have n6:¬s=s+1:=by omega
 have n7:¬s0=s+1:=by omega
 have n8:¬kb=s+1:=by omega
 have n9:¬bb=s+1:=by omega
 have n10:¬s+1=bb:=by omega
 have n11:¬kb=s+1+1:=by omega
 have n12:¬s0=bb:=e6;have n13:¬s=bb:=by omega
 have n14:¬s0=s+1+1:=by omega
 have r1:back.length+1<=qi:=by simp only[qi];omega
 have r2:(back.length+1)*8<=qi:=by simp only[qi];omega
 refine⟨puT s0 gi l,by simp_all[Tr.get_set],?_⟩
 refine qk ?_;simp only[qB,puB,vI,simprocAttr];simp +decide only[↓vS,vT,simprocAttr];refine zB ?_;simp +decide only[↓vS,vT,simprocAttr,g0,h.k,h.b,e1,e2,e4,n1,n2,n3,n4,n5,n6,n7,n8,n9,n10,n11,n12,n13,n14,hkb,r1,r2,qeY,hbs,e5,e6];refine⟨Go.Kc.bsy r0,puT s0 gi l,?_,?_⟩
 .grind[Tr.get_set]
 rw[qey,qfX hr0 hp0];simp only[qB];simp +decide only[↓vS,vT,simprocAttr];refine hk _ _ (s+1+1) (by omega) (λc q1 q2 q3=>?_) (by omega) ⟨?_,?_,?_,h.len,by omega,hkp,by omega,by omega,by omega,by omega⟩
 .grind[Tr.get_set]
 .simp_all[Tr.get_set]
 .simp only[Tr.get_set];rw[if_neg (by omega),if_neg (by omega)];simp[rP,qI]
 .simp only[Tr.get_set];grind[LI.p]
def qrB{gB gi kb n s bb bp bx:Nat}{back l:List Ins}{pl:List Nat}{tr:Tr Blk}{far:Int}{k:AV->Hp->Prop}(hc:qc P f (jJ gB)=true)(hB:∀l:List Ins,qa P gB [.fz l.length (rP l)] (.fn gi [] [.pf [.fz l.length (rP l)] 0]))(hi:qc P gi qN=true)
  (h:LI kb n back pl s tr bb bp far) (hx:tr.get bx=some (.v (rP l))) (hn:bx≠kb/\bx≠bb/\bx≠bp) (hxs:bx<s) (hl:l.length<=10) (hb:back.length<=900000)
  (hk:∀s' tr' bb',s<=s'->(∀c,c<s->c≠kb->c≠bb->c≠bx->tr'.get c=tr.get c)->(bb'=bb\/s<=bb')->LI kb n (back++l.reverse) pl s' tr' bb' bp far->k (.tup []) ⟨s',0,tr'⟩):SC P f [.ptr kb 0,.sl bx 0 l.length l.length false] ⟨s,0,tr⟩ k:=by
 obtain⟨x1,x2,x3⟩:=hn;have hks:=h.ks;have hbs:=h.bs;have hps:=h.ps;refine SC.mk hc (qk ?_);simp only[jJ,vI,simprocAttr];simp +decide only[↓vS,vT,simprocAttr];refine(hB l).give [(bx,.v (rP l))] ?_ (by simp[clo,qt,qw]) ?_ ?_
 .grind[Tr.get_set]
 .refine qaZ.2 ⟨Frz.cut 4 rfl (zzL _) ?_,qfL.2 trivial⟩;simp[trP,Tr.get_set,vP,qeY];rw[List.take_of_length_le (by rw[qeY];omega)];grind[Frzs.self,qw]
 simp only[zk,zC,qB];simp +decide only[↓vS,vT,simprocAttr];refine S.rangeFL (ts:=puT s gi l) (Nat.zero_le _) (by intro p hp;simp only[puT,List.mem_cons,List.not_mem_nil,or_false]at hp;rcases hp with rfl|rfl<;>simp[Tr.get_set]) ⟨rfl,rfl⟩ ?_;refine qkc.2 ⟨.fn gi [] [.pf [.fz l.length (rP l)] 0],by simp[Tr.get_set],?_⟩
 refine⟨qdD hi,λr0 hr0 hp0 hlo=>⟨r0,.inl ⟨rfl,hlo.real⟩,?_⟩⟩
 have hlo:LoopOk P r0 [8,9] puA puB:=hlo
 have old:∀c,c<s->c≠bx->((((tr.set s (.v [.ptr kb 0])).set bx .dead).set (s+1) (.map (zJ r0 (puT s gi l))))).get c=tr.get c:=λc h1 h2=>by
  grind[Tr.get_set]
 refine qaa (c:=qI) hi qaX (by omega) (λi h=>i<=l.length/\∃s' tr' bb',h=⟨s',0,tr'⟩/\s+2<=s'/\(∀c,c<s->c≠kb->c≠bb->c≠bx->tr'.get c=tr.get c)/\(bb'=bb\/s+2<=bb')/\LI kb n (back++(l.drop i).reverse) pl s' tr' bb' bp far/\tr'.get s=some (.v [.ptr kb 0])/\tr'.get (s+1)=some (.map (zJ r0 (puT s gi l)))) ?_ ?_ ?_
 .rintro i x hh hx ⟨hil,s',tr',bb',rfl,q1,q2,q3,q4,q5,q6⟩ k hk;have hd:l.drop i=x::l.drop (i+1):=by rw[<- (zzS.1 hx).2,List.getElem_cons_drop]
  refine qwY (s0:=s) (lb:=s+1) hr0 hp0 hlo q4 q5 q6 (by omega) (by omega) ⟨by omega,by omega,by omega,by omega,by omega,by omega⟩ _ x (by simp;omega) λs2 t2 b2 p1 p2 p3 p4=>hk _ ⟨by omega,s2,t2,b2,rfl,by omega,λc c1 c2 c3 c4=>?_,by omega,?_,?_,?_⟩
  .rw[p2 c (by omega) c2 (by omega)];exact q2 c c1 c2 c3 c4
  .rw[hd,List.reverse_cons,<- List.append_assoc];exact p4
  all_goals grind
 .refine⟨zzL _,s+1+1,_,bb,rfl,by omega,by simp_all,.inl rfl,?_,?_,?_⟩
  all_goals grind[LI.keep,Tr.get_set]
 .rintro hh ⟨_,s',tr',bb',rfl,q1,q2,q3,q4,q5,q6⟩;refine⟨r0,puT s gi l,q6,by rw[hr0];decide,?_⟩
  rw[hp0];simp only[qB];simp only[↓vS,vT,simprocAttr];refine hk _ _ bb' (by omega) (λc c1 c2 c3 c4=>?_) (by omega) ?_
  .rw[Tr.get_set,if_neg (by show¬c=s+1;omega)];exact q2 c c1 c2 c3 c4
  grind[LI.keep,Tr.get_set]
def jV(n:Nat)(pl:List Nat)(x:Sy):List Ins :=
 if x.code=5 then [⟨5,0,0,(n-pl.getD x.th 0:Nat)⟩]else if qm x.code≠4 then [⟨x.code,0,0,x.k⟩]else
  if max (n-pl.getD x.th 0) (n-pl.getD x.el 0)<=255 then [⟨x.code,(n-pl.getD x.th 0:Nat),(n-pl.getD x.el 0:Nat),x.k⟩]else
   [⟨x.code,0,1,x.k⟩,⟨5,0,0,(n-pl.getD x.th 0+1:Nat)⟩,⟨5,0,0,(n-pl.getD x.el 0:Nat)⟩]
theorem qps{n:Nat}{pl:List Nat}{x:Sy}:(jV n pl x).length<=3/\1<=(jV n pl x).length:=by
 unfold jV;grind
def qba(a b c:Nat):IFn:=⟨[],sq [.r [.q 3 (.box (.t 1))],.blk 0 (sq [.r [.f 53 0 3,.d 54 53,.q 55 (.bin .eql (.t 54) (.c (.h 5))),.n 52 55],.cond (.t 52) (.r [.n 56 0,.n 57 0,.f 58 2 3,.d 59 58,.l 60 a [.t 57,.t 59],.q 61 (.cvInt .u32 (.t 60)),.q 62 (.build [.h 0,.y 0,.y 0,.w 0] [(0,1,(.c (.h 5))),(3,1,(.t 61))]),.q 63 (.buildS 1 [.h 0,.y 0,.y 0,.w 0] [(0,4,(.t 62))]),.l 64 b [.t 56,.t 63]]) (sq [.r [.f 66 0 3,.d 67 66,.l 68 c [.t 67],.q 69 (.bin .neq (.t 68) (.c (.y 4))),.n 65 69],.cond (.t 65) (.r [.n 70 0,.f 71 0 3,.d 72 71,.f 73 1 3,.d 74 73,.q 75 (.build [.h 0,.y 0,.y 0,.w 0] [(0,1,(.t 72)),(3,1,(.t 74))]),.q 76 (.buildS 1 [.h 0,.y 0,.y 0,.w 0] [(0,4,(.t 75))]),.l 77 b [.t 70,.t 76]]) (sq [.reg true [.n 6 0,.f 7 2 3,.d 8 7,.l 9 a [.t 6,.t 8],.n 10 0,.f 11 3 3,.d 12 11,.l 13 a [.t 10,.t 12],.n 4 9,.n 5 13],sq [.r [.n 14 4,.n 15 5,.q 16 (.max (.t 14) (.t 15)),.w 17 .leq 16 255],.cond (.t 17) (sq [.r [.n 18 0,.f 19 0 3,.d 20 19,.n 21 4,.q 22 (.cvInt .u8 (.t 21)),.n 23 5,.q 24 (.cvInt .u8 (.t 23)),.f 25 1 3,.d 26 25,.q 27 (.build [.h 0,.y 0,.y 0,.w 0] [(0,1,(.t 20)),(1,1,(.t 22)),(2,1,(.t 24)),(3,1,(.t 26))]),.q 28 (.buildS 1 [.h 0,.y 0,.y 0,.w 0] [(0,4,(.t 27))]),.l 29 b [.t 18,.t 28]],.ret]) (.skip)],.r [.n 30 0,.q 31 (.nilChk (.t 30)),.f 32 2 31,.d 33 32,.a 34 33 1,.q 35 (.nilChk (.t 30)),.f 36 2 35,.u (.store 1 (.t 36) (.t 34))],.r [.n 37 0,.f 38 0 3,.d 39 38,.f 40 1 3,.d 41 40,.q 42 (.build [.h 0,.y 0,.y 0,.w 0] [(0,1,(.t 39)),(2,1,(.c (.y 1))),(3,1,(.t 41))]),.n 43 4,.q 44 (.cvInt .u32 (.t 43)),.q 45 (.bin .add (.t 44) (.c (.w 1))),.q 46 (.build [.h 0,.y 0,.y 0,.w 0] [(0,1,(.c (.h 5))),(3,1,(.t 45))]),.n 47 5,.q 48 (.cvInt .u32 (.t 47)),.q 49 (.build [.h 0,.y 0,.y 0,.w 0] [(0,1,(.c (.h 5))),(3,1,(.t 48))]),.q 50 (.buildS 3 [.h 0,.y 0,.y 0,.w 0] [(0,4,(.t 42)),(4,4,(.t 46)),(8,4,(.t 49))]),.l 51 b [.t 37,.t 50]]])])])]⟩
def qDT{gD gO gP gB gi kb n s bb bp:Nat}{back:List Ins}{pl:List Nat}{tr:Tr Blk}{far:Int}{k:AV->Hp->Prop}(hc:qc P f (qba gD gP gO)=true)(hD:qc P gD xw=true)(hO:cOf P gO)(hP:qc P gP (jJ gB)=true)
  (hB:∀l:List Ins,qa P gB [.fz l.length (rP l)] (.fn gi [] [.pf [.fz l.length (rP l)] 0])) (hi:qc P gi qN=true)
  (h:LI kb n back pl s tr bb bp far) (x:Sy) (hb:back.length<=800000) (hj:∀j:Nat,(x.code=5\/qm x.code=4)/\j=x.th\/(qm x.code=4/\x.code≠5)/\j=x.el->∃q,pl[j]?=some q/\q<=back.length)
  (hk:∀s' tr' bb' far',s<=s'->(∀c,c<s->c≠kb->c≠bb->tr'.get c=tr.get c)->(bb'=bb\/s<=bb')->LI kb n (back++(jV back.length pl x).reverse) pl s' tr' bb' bp far'->k (.tup []) ⟨s',0,tr'⟩):SC P f [.ptr kb 0,.agg (cSy x)] ⟨s,0,tr⟩ k:=by
 have hks:=h.ks;have hbs:=h.bs;have hps:=h.ps;have hkb:=h.kb';have hkp:=h.kp;have hbp:=h.bp';have h1:∀(y:Blk),LI kb n back pl (s+1) (tr.set s y) bb bp far:=λy=>h.keep (by omega) (by grind[Tr.get_set])
 have h2:∀(y z:Blk),LI kb n back pl (s+1+1) ((tr.set s y).set (s+1) z) bb bp far:=λy z=>(h1 y).keep (by omega) (by grind[Tr.get_set])
 have n1:¬s=s+1:=by omega
 have put:∀(y z:Blk) (l:List Ins),z = .v (rP l)->l.length<=10->jV back.length pl x=l->∀k2:AV->Hp->Prop,(∀h,k (.tup []) h->k2 (.tup []) h)->SC P gP [.ptr kb 0,.sl (s+1) 0 l.length l.length false] ⟨s+1+1,0,(tr.set s y).set (s+1) z⟩ k2:=λy z l hz hl he k2 hk2=>by
  refine qrB hP hB hi (h2 y z) (by rw[Tr.get_set,if_pos rfl,hz]) (by omega) (by omega) hl (by omega) λs' tr' bb' q1 q2 q3 q4=>hk2 _ (hk s' tr' bb' far (by omega) (λc c1 c2 c3=>?_) (by omega) (by rw[he];exact q4))
  rw[q2 c (by omega) c2 c3 (by omega)]
  grind[Tr.get_set]
 refine SC.mk hc (qk ?_);simp only[qba,cSy,vI,simprocAttr]
 by_cases h5:x.code=5
 .obtain⟨q,hq,hql⟩:=hj x.th (by omega);have hqD:pl.getD x.th 0=q:=by rw[List.getD_eq_getElem?_getD,hq];rfl
  have he:jV back.length pl x=[⟨5,0,0,((back.length-q:Nat):Int)⟩]:=by unfold jV;rw[if_pos h5,hqD]
  have hw:IntKind.wrap .u32 ((back.length-q:Nat):Int)=((back.length-q:Nat):Int):=by grind[qdk]
  simp +decide only[↓vS,vT,simprocAttr,eq_true h5];refine qnS hD (h1 _) hq hql (by omega) ?_;simp +decide only[↓vS,vT,simprocAttr,hw];exact put _ _ [⟨5,0,0,((back.length-q:Nat):Int)⟩] (by simp[rP,qI]) (by simp) he _ λh hv=>by simp +decide only[↓vS,vT,simprocAttr];exact hv
 .by_cases hc4:qm x.code=4
  .obtain⟨q,hq,hql⟩:=hj x.th (by omega);obtain⟨r,hr,hrl⟩:=hj x.el (by omega);have hqD:pl.getD x.th 0=q:=by rw[List.getD_eq_getElem?_getD,hq];rfl
   have hrD:pl.getD x.el 0=r:=by rw[List.getD_eq_getElem?_getD,hr];rfl
   simp +decide only[↓vS,vT,simprocAttr,h5];refine(hO x.code).sc ?_;simp +decide only[↓vS,vT,simprocAttr,hc4];refine zB ?_;simp +decide only[↓vS,vT,simprocAttr];refine⟨_,_,λk' hk'=>qnS hD (h1 _) hq hql (by omega) hk',?_⟩
   simp +decide only[↓vS,vT,simprocAttr];refine⟨_,_,λk' hk'=>qnS hD (h1 _) hr hrl (by omega) hk',?_⟩
   have he:jV back.length pl x=if max (back.length-q) (back.length-r)<=255 then [⟨x.code,((back.length-q:Nat):Int),((back.length-r:Nat):Int),x.k⟩]else [⟨x.code,0,1,x.k⟩,⟨5,0,0,((back.length-q+1:Nat):Int)⟩,⟨5,0,0,((back.length-r:Nat):Int)⟩]:=by
    unfold jV;rw[if_neg h5,if_neg (by omega),hqD,hrD]
   obtain⟨a,ha⟩:∃a,a=back.length-q:=⟨_,rfl⟩;obtain⟨b,hb'⟩:∃b,b=back.length-r:=⟨_,rfl⟩;rw[<- ha,<- hb']at he ⊢;have hal:a<=800000:=by omega
   have hbl:b<=800000:=by omega
   simp +decide only[↓vS,vT,simprocAttr];have hmx:(if a<b then(b:Int)else a)=((max a b:Nat):Int):=by split<;>omega
   rw[hmx]
   by_cases hm:max a b<=255
   .have hm':((max a b:Nat):Int)<=255:=by omega
    rw[if_pos hm]at he;have w1:IntKind.wrap .u8 (a:Int)=a:=by grind[qxU]
    have w2:IntKind.wrap .u8 (b:Int)=b:=by grind[qxU]
    simp +decide only[↓vS,vT,simprocAttr,hm'];rw[w1,w2];exact put _ _ [⟨x.code,(a:Int),(b:Int),x.k⟩] (by simp[rP,qI]) (by simp) he _ λh hv=>by simp +decide only[↓vS,vT,simprocAttr];exact hv
   .have hm':¬((max a b:Nat):Int)<=255:=by omega
    rw[if_neg hm]at he;have w1:IntKind.wrap .u32 (a:Int)=a:=by grind[qdk]
    have w2:IntKind.wrap .u32 (b:Int)=b:=by grind[qdk]
    have w3:IntKind.wrap .u32 ((a:Int)+1)=((a+1:Nat):Int):=by rw[qdk (by omega) (by omega)];simp
    have n2:¬kb=s:=by omega
    have n3:¬s=kb:=by omega
    simp +decide only[↓vS,vT,simprocAttr,hm',w1,w2,w3,h.k,n2,n3,n1];refine qrB hP hB hi (l:=[⟨x.code,0,1,x.k⟩,⟨5,0,0,((a+1:Nat):Int)⟩,⟨5,0,0,((b:Nat):Int)⟩]) (far:=IntKind.wrap .i64 (far+1)) (s:=s+1+1) (bb:=bb) (bp:=bp) (n:=n) (pl:=pl) (back:=back) ⟨?_,?_,?_,h.len,hkb,hkp,hbp,by omega,by omega,by omega⟩ ?_ (by omega) (by omega) (by simp) (by omega) λs' tr' bb' q1 q2 q3 q4=>?_
    .grind[Tr.get_set]
    .grind[Tr.get_set,LI.b]
    .grind[Tr.get_set,LI.p]
    .rw[Tr.get_set,if_pos rfl];simp[rP,qI]
    .simp +decide only[↓vS,vT,simprocAttr];refine hk s' tr' bb' _ (by omega) (λc c1 c2 c3=>?_) (by omega) (by rw[he];exact q4)
     rw[q2 c (by omega) c2 c3 (by omega)]
     grind[Tr.get_set]
  .have he:jV back.length pl x=[⟨x.code,0,0,x.k⟩]:=by unfold jV;rw[if_neg h5,if_pos hc4]
   simp +decide only[↓vS,vT,simprocAttr,h5];refine(hO x.code).sc ?_;simp +decide only[↓vS,vT,simprocAttr,hc4];exact put _ _ [⟨x.code,0,0,x.k⟩] (by simp[rP,qI]) (by simp) he _ λh hv=>by simp +decide only[↓vS,vT,simprocAttr];exact hv
def zz(l:List Sy):Nat->List Ins×List Nat
 | 0=>([],List.replicate l.length 0)
 | m+1=>match l[l.length-(m+1)]? with
  | some x=>((zz l m).1++(jV (zz l m).1.length (zz l m).2 x).reverse,(zz l m).2.set (l.length-(m+1)) ((zz l m).1++(jV (zz l m).1.length (zz l m).2 x).reverse).length)
  | none=>zz l m
theorem qhv{l:List Sy}:∀m,(zz l m).2.length=l.length/\(∀q ∈ (zz l m).2,q<=(zz l m).1.length)/\(zz l m).1.length<=3*m
 | 0=>by
  refine⟨by simp[zz],λq hq=>?_,by simp[zz]⟩
  simp only[zz,List.mem_replicate]at hq;omega
 | m+1=>by
  obtain⟨h1,h2,h3⟩:=qhv (l:=l) m;unfold zz
  grind[qps]
def xO(l:List Sy):List Ins:=(zz l l.length).1.reverse
def qAh{l:List Nat}{j v:Nat}(hj:j<l.length):(rNt l).take j ++ .j (v:Int)::(rNt l).drop (j+1)=rNt (l.set j v):=by
 rw[List.set_eq_take_append_cons_drop,if_pos hj];simp[rNt,List.map_take,List.map_drop]
def qbH(a b c:Nat):ICode:=sq [.r [.d 33 4,.n 2 33,.m 3 .T],.ret]
def qdL(a b c:Nat):IFn:=⟨[.tmp 2,.tmp 3],sq [.r [.m 2 (.c (.nilp)),.m 3 .F],sq [.r [.n 7 0,.l 8 a [.t 7],.q 9 (.un .not (.t 8))],.cond (.t 9) (sq [.r [.m 2 (.c (.nilp)),.m 3 .F],.ret]) (.skip)],.r [.n 10 0,.e 11 10,.q 12 (.mkS 1 8 [.j 0] (.t 11) (.t 11)),.q 13 (.build [.nils,.nils,.j 0] [(1,1,(.t 12))]),.q 14 (.box (.t 13)),.q 4 (.alloc [.nilp]),.u (.store 1 (.t 4) (.t 14))],sq [.r [.n 15 0,.l 16 b [.t 15]],.blk 0 (.rangeF 0 (.t 16) [17,18] (.seq (.r [.n 5 17]) (.r [.q 6 (.alloc [.h 0,.w 0,.j 0,.j 0]),.u (.store 4 (.t 6) (.t 18))])) (.blk 1 (.seq (.r [.d 19 4,.v 20 4 6,.l 21 c [.t 19,.t 20]]) (.reg true [.d 22 4,.q 23 (.nilChk (.t 22)),.f 24 1 23,.d 25 24,.n 26 5,.d 27 4,.q 28 (.nilChk (.t 27)),.f 29 0 28,.d 30 29,.e 31 30,.i 32 1 25 26,.u (.store 1 (.t 32) (.t 31))]))))],.cut (qbH a b c)]⟩
def liT(gi:Nat)(l:List Sy):List (Nat×AV):=[(4,.ptr 2 0),(16,.fn gi [] [.pf [.fz l.length (rSy l)] 0])]
def liA:ICode:=sq [.reg false [⟨some 5,.op (.mov (.t 17)),none⟩],.reg false [⟨some 6,.op (.alloc [.h 0,.w 0,.j 0,.j 0]),none⟩,⟨none,.op (.store 4 (.t 6) (.t 18)),none⟩]]
def liB(g1:Nat):ICode:=.blk 1 (sq [.r [.d 19 4,.v 20 4 6,.l 21 g1 [.t 19,.t 20]],.reg true [.d 22 4,.q 23 (.nilChk (.t 22)),.f 24 1 23,.d 25 24,.n 26 5,.d 27 4,.q 28 (.nilChk (.t 27)),.f 29 0 28,.d 30 29,.e 31 30,.i 32 1 25 26,.u (.store 1 (.t 32) (.t 31))]])
def qyD(P:Program)(g:Nat):Prop:=∀(kb n s bb bp:Nat) (back:List Ins) (pl:List Nat) (tr:Tr Blk) (far:Int) (k:AV->Hp->Prop),LI kb n back pl s tr bb bp far->∀x:Sy,back.length<=800000->(∀j:Nat,(x.code=5\/qm x.code=4)/\j=x.th\/(qm x.code=4/\x.code≠5)/\j=x.el->∃q,pl[j]?=some q/\q<=back.length)->
 (∀s' tr' bb' far',s<=s'->(∀c,c<s->c≠kb->c≠bb->tr'.get c=tr.get c)->(bb'=bb\/s<=bb')->LI kb n (back++(jV back.length pl x).reverse) pl s' tr' bb' bp far'->k (.tup []) ⟨s',0,tr'⟩)->SC P g [.ptr kb 0,.agg (cSy x)] ⟨s,0,tr⟩ k
def qv9{gi g1 s bb n:Nat}{back:List Ins}{pl:List Nat}{l:List Sy}{r0:Loop}{tr:Tr Blk}{far:Int}{k:AV->Hp->Prop}(h1:qyD P g1)(hr0:r0.state = .ready)(hp0:r0.pending=none)(hlo:LoopOk P r0 [17,18] liA (liB g1))
  (h:LI 1 n back pl s tr bb 0 far) (g2:tr.get 2=some (.v [.ptr 1 0])) (g4:tr.get 4=some (.map (zJ r0 (liT gi l)))) (hs:5<=s) (hb3:3<=bb) (hb4:bb≠4) (hb:back.length<=800000) (i:Nat) (hi:i<n) (x:Sy)
  (hj:∀j:Nat,(x.code=5\/qm x.code=4)/\j=x.th\/(qm x.code=4/\x.code≠5)/\j=x.el->∃q,pl[j]?=some q/\q<=back.length)
  (hk:∀s' tr' bb' far',5<=s'->LI 1 n (back++(jV back.length pl x).reverse) (pl.set i (back++(jV back.length pl x).reverse).length) s' tr' bb' 0 far'->tr'.get 2=some (.v [.ptr 1 0])->tr'.get 4=some (.map (zJ r0 (liT gi l)))->3<=bb'->bb'≠4->k (.b true) ⟨s',0,tr'⟩) :
  SY P 4 [.j (i:Int),.agg (cSy x)] ⟨s,0,tr⟩ k:=by
 have hbs:=h.bs;refine SY.mk (r:=r0) (ts:=liT gi l) (ps:=[17,18]) g4 hr0 hlo (Nat.zero_le _) (by show 4<s;omega) rfl ?_;rw[show mkT (liT gi l)=(Tr.leaf.set 16 (.fn gi [] [.pf [.fz l.length (rSy l)] 0])).set 4 (.ptr 2 0)from rfl]
 refine qk ?_;simp only[qkB,liA,cSy,vI,simprocAttr];simp +decide only[↓vS,vT,simprocAttr];have n1:¬4=s:=by omega
 have n2:¬2=s:=by omega
 have n3:¬s=4:=by omega
 refine⟨liT gi l,by simp[Tr.get_set,n1,g4],?_⟩
 refine qk ?_;simp only[qB,liB,vI,simprocAttr];have e24:¬(2:Nat)=4:=by decide
 simp +decide only[↓vS,vT,simprocAttr,g2,e24,n2,n3]
 have old:∀c,c<s->c≠4->(((tr.set s (.v [.h 0,.w 0,.j 0,.j 0])).set s (.v [.h x.code,.w x.k,.j (x.th:Int),.j (x.el:Int)])).set 4 (.map (zJ (Go.Kc.bsy r0) (liT gi l)))).get c=tr.get c:=λc h1 h2=>by
  simp only[Tr.get_set];repeat rw[if_neg (by omega)]
 refine h1 1 n (s+1) bb 0 back pl _ far _ (h.keep (by omega) (by grind)) x hb hj λs' tr' bb' far' q1 q2 q3 q4=>?_
 have g2':tr'.get 2=some (.v [.ptr 1 0]):=by rw[q2 2 (by omega) (by omega) (by omega),old 2 (by omega) (by omega)];exact g2
 have g4':tr'.get 4=some (.map (zJ (Go.Kc.bsy r0) (liT gi l))):=by rw[q2 4 (by omega) (by omega) (by omega),Tr.get_set,if_pos rfl]
 obtain⟨B,hB⟩:∃B,B=back++(jV back.length pl x).reverse:=⟨_,rfl⟩;rw[<- hB]at q4 hk;have hset:=qAh (l:=pl) (j:=i) (v:=B.length) (by rw[q4.len];exact hi);have hpl:i+1<=(rNt pl).length:=by rw[qk4,q4.len];omega
 have hbs':=q4.bs;simp +decide only[↓vS,vT,simprocAttr];refine zB ?_;simp +decide only[↓vS,vT,simprocAttr,g2',q4.k,q4.p,hi,hpl,hset,zzU];refine⟨Go.Kc.bsy r0,liT gi l,by rw[Tr.get_set,if_neg (by decide)];exact g4',?_⟩
 rw[qey,qfX hr0 hp0];simp only[qB];simp +decide only[↓vS,vT,simprocAttr];have hb':bb'≠4:=by omega
 refine hk s' _ bb' far' (by omega) ⟨?_,?_,?_,?_,by omega,by omega,by omega,by omega,by omega,by omega⟩ ?_ ?_ (by omega) hb'
 .rw[Tr.get_set,if_neg (by decide),Tr.get_set,if_neg (by decide)];exact q4.k
 .rw[Tr.get_set,if_neg hb',Tr.get_set,if_neg (by omega)];exact q4.b
 .rw[Tr.get_set,if_neg (by decide),Tr.get_set,if_pos rfl]
 all_goals grind[LI.len,Tr.get_set]
def qto{n0 g1 g2 g3 s:Nat}{tr:Tr Blk}{t:Tr AV}{k:AV->Hp->Prop}(ht:t.get 4=some (.ptr 2 0))(h2:tr.get 2=some (.v [.ptr 1 0]))(hk:k (.tup [.ptr 1 0,.b true]) ⟨s,0,tr⟩) :
  S P n0 (qbH g1 g2 g3) (xu [.tmp 2,.tmp 3] k) t ⟨s,0,tr⟩:=by
 refine S.has [(4,.ptr 2 0)] (by grind[qg,ql]) (qk ?_);simp only[qbH,vI,simprocAttr];simp +decide only[↓vS,vT,simprocAttr,h2];exact hk
def qtp{gM gB g1 gi:Nat}(hc:qc P f (qdL gM gB g1)=true)(l:List Sy)(hm:qa P gM [.fz l.length (rSy l)] (.b true))(hB:∀l:List Sy,qa P gB [.fz l.length (rSy l)] (.fn gi [] [.pf [.fz l.length (rSy l)] 0]))(hi:qc P gi qE=true)
  (h1:qyD P g1) (hl:l.length<=200000) (hin:∀x ∈ l,∀j:Nat,(x.code=5\/qm x.code=4)/\j=x.th\/(qm x.code=4/\x.code≠5)/\j=x.el->j<l.length) {k:AV->Hp->Prop}
  (hk:∀s tr bb far,LI 1 l.length (zz l l.length).1 (zz l l.length).2 s tr bb 0 far->k (.tup [.ptr 1 0,.b true]) ⟨s,0,tr⟩):SC P f [.fz l.length (rSy l)] ⟨0,0,.leaf⟩ k:=by
 refine SC.mk hc (qk ?_);have r1:l.length<=qi:=by simp only[qi];omega
 have r2:8*l.length<=qi:=by simp only[qi];omega
 have hz:(List.replicate l.length [AV.j 0]).flatten=rNt (List.replicate l.length 0):=by simp[rNt]
 simp only[qdL,vI,simprocAttr];simp +decide only[↓vS,vT,simprocAttr];refine hm.sc ?_;simp +decide only[↓vS,vT,simprocAttr,r1,r2,hz];refine(hB l).sc ?_;simp +decide only[↓vS,vT,simprocAttr];refine S.weak (Wk.mk (liT gi l) [.v (rNt (List.replicate l.length 0)),.v [.own 3 0,.sl 0 0 l.length l.length false,.j 0],.v [.ptr 1 0],.cells 4 true true []] [0,1,2,99] ?_ ?_ ?_ rfl) ?_
 .simp[vw,liT,zj qZ,qe,qZ]
 .simp[vw,qe,qY]
 .simp
 refine S.rangeF (by simp[jD]) (by simp[liT]) ⟨rfl,rfl⟩ ?_;refine qkc.2 ⟨.fn gi [] [.pf [.fz l.length (rSy l)] 0],by simp[liT,mkT,Tr.get_set],?_⟩
 refine⟨qdD hi,λr0 hr0 hp0 hlo=>?_⟩
 have hlo:LoopOk P r0 [17,18] liA (liB g1):=hlo;refine xn (c:=cSy) hi qd8 (by omega) (λi h=>i<=l.length/\∃s tr bb far,h=⟨s,0,tr⟩/\5<=s/\LI 1 l.length (zz l (l.length-i)).1 (zz l (l.length-i)).2 s tr bb 0 far/\3<=bb/\bb≠4/\tr.get 2=some (.v [.ptr 1 0])/\tr.get 4=some (.map (zJ r0 (liT gi l)))) ?_ ?_ ?_
 .rintro i x h hx ⟨hil,s,tr,bb,far,rfl,q1,q2,q3,q4,q5,q6⟩ k' hk';have hi':i<l.length:=by omega
  obtain⟨o1,o2,o3⟩:=qhv (l:=l) (l.length-(i+1));have e:l.length-i=(l.length-(i+1))+1:=by omega
  have e2:l.length-(l.length-(i+1)+1)=i:=by omega
  have e3:zz l (l.length-i)=((zz l (l.length-(i+1))).1++(jV (zz l (l.length-(i+1))).1.length (zz l (l.length-(i+1))).2 x).reverse,(zz l (l.length-(i+1))).2.set i ((zz l (l.length-(i+1))).1++(jV (zz l (l.length-(i+1))).1.length (zz l (l.length-(i+1))).2 x).reverse).length):=by
   rw[e,zz,e2,hx]
  refine qv9 h1 hr0 hp0 hlo q2 q5 q6 q1 q3 q4 (by omega) i hi' x (λj hj=>?_) (by grind)
  have hjl:=hin x (by grind) j hj;obtain⟨q,hq⟩:∃q,(zz l (l.length-(i+1))).2[j]?=some q:=by grind
  exact⟨q,hq,o2 q (by grind)⟩
 .refine⟨zzL _,5,_,3,0,rfl,zzL _,⟨?_,?_,?_,?_,by decide,by decide,by decide,by decide,by decide,by decide⟩,by decide,by decide,?_,?_⟩<;>simp[Tr.get_set,qlA,mkH,trL,zz,rP,Hp.push]
 .rintro h ⟨_,s,tr,bb,far,rfl,q1,q2,q3,q4,q5,q6⟩;rw[Nat.sub_zero]at q2;refine⟨r0,liT gi l,q6,by rw[hr0];decide,?_⟩
  rw[hp0];simp only[qB];simp only[↓vS,vT,simprocAttr];refine qto (by simp[liT,mkT,Tr.get_set]) ?_ (hk _ _ bb far ?_)
  .show (tr.set 4 .dead).get 2=_;rw[Tr.get_set,if_neg (by decide)];exact q5
  .refine q2.keep (zzL _) λc hc=>?_
   have:c≠4:=by rcases hc with rfl|rfl|rfl<;>omega
   rw[Tr.get_set,if_neg (by exact this)]
def qfO(a b:Nat):IFn:=⟨[.tmp 2,.tmp 3],sq [.r [.m 2 .N,.m 3 (.k 0)],.r [.n 7 0,.l 8 a [.t 7],.n 6 8,.x 9 6 0,.x 10 6 1,.n 4 9,.n 5 10],.blk 0 (sq [.r [.n 12 5,.q 13 (.un .not (.t 12)),.n 11 13],.cond (.t 11) (sq [.r [.m 2 .N,.m 3 (.k 250)],.ret]) (sq [.r [.n 15 4,.q 16 (.nilChk (.t 15)),.f 17 0 16,.d 18 17,.e 19 18,.w 20 .gtr 19 4096,.n 14 20],.cond (.t 14) (sq [.r [.m 2 .N,.m 3 (.k 270)],.ret]) (.skip)])]),.r [.n 21 4,.q 22 (.nilChk (.t 21)),.f 23 0 22,.d 24 23,.l 25 b [.t 24]],.r [.n 26 4,.q 27 (.nilChk (.t 26)),.f 28 0 27,.d 29 28,.n 2 29,.m 3 (.k 0)],.ret]⟩
def qiH(l:List Sy):AV:=if 4096<(xO l).length then .tup [.fz 0 [],.j 270]else .tup [.fz (xO l).length (rP (xO l)),.j 0]
def qtm{g1 g2:Nat}(hc:qc P f (qfO g1 g2)=true)(l:List Sy)(hl:l.length<=200000)
  (h1:∀k:AV->Hp->Prop,(∀s tr bb far,LI 1 l.length (zz l l.length).1 (zz l l.length).2 s tr bb 0 far->k (.tup [.ptr 1 0,.b true]) ⟨s,0,tr⟩)->SC P g1 [.fz l.length (rSy l)] ⟨0,0,.leaf⟩ k)
  (h2:∀(s b:Nat) (tr:Tr Blk) (p:List Ins),p.length<=1000000->∀k:AV->Hp->Prop,tr.get b=some (.cells 4 true true (rP p))->(∀tr',(∀c,c≠b->tr'.get c=tr.get c)->tr'.get b=some (.cells 4 true true (rP p.reverse))->k (.tup []) ⟨s,0,tr'⟩)->SC P g2 [.own b p.length] ⟨s,0,tr⟩ k) :
  qa P f [.fz l.length (rSy l)] (qiH l):=by
 have hlen:=(qhv (l:=l) l.length).2.2;refine qa.mk hc (by simp[qt,clo,qZ]) ?_;simp only[qfO,vI,simprocAttr];simp +decide only[↓vS,vT,simprocAttr];refine h1 _ λs tr bb far h=>?_
 have hll:(xO l).length=(zz l l.length).1.length:=by simp[xO]
 unfold qiH;rw[hll]
 by_cases hbig:4096<(zz l l.length).1.length
 .have hbig':(4096:Int)<((zz l l.length).1.length:Int):=by omega
  rw[if_pos hbig];simp +decide only[↓vS,vT,simprocAttr,h.k,hbig'];simp[vZ]
 .have hbig':¬(4096:Int)<((zz l l.length).1.length:Int):=by omega
  rw[if_neg hbig];simp +decide only[↓vS,vT,simprocAttr,h.k,hbig'];refine h2 s bb tr _ (by omega) _ h.b λtr' q1 q2=>?_
  have hk':=(q1 1 h.kb').trans h.k;simp +decide only[↓vS,vT,simprocAttr,hk'];simp[vZ,vP,q2,xO];refine⟨λh=>?_,Frzs.self (qw _)⟩
  rw[h];rfl
def qA3(P:Program)(g:Nat):Prop:=∀l:List GTest,l.length<=100000->qa P g [.fz l.length (rT l)] (.fz l.length (rT l))
def qCt{g:Nat}(h:qbx P g 4 32):qA3 P g:=by
 intro l hl;refine(h l.length (rT l) qeZ zX qxg (by simp only[qi];omega) (by simp only[qi];omega)).pure (by simp[qt,clo,zX]) ?_;refine .own 0 _ 4 true _ _ ?_ (λh0=>?_) (Frzs.self zX)
 .simp[qan,Hp.push,shb,H0,Tr.get_set,xt zX]
 .rw[List.eq_nil_of_length_eq_zero h0];rfl
def qlG(a:Nat):IFn:=⟨[.cell 2 3 true],sq [.r [.q 1 (.box (.t 0)),.q 2 (.alloc [.w 0,.nils,.w 0])],.r [.f 3 1 1,.d 4 3,.l 5 a [.t 4],.f 6 1 1,.u (.store 1 (.t 6) (.t 5))],.r [.v 7 3 1,.u (.store 3 (.t 2) (.t 7))],.ret]⟩
def qFT{g:Nat}(hc:qc P f (qlG g)=true)(hg:qA3 P g)(r:GRule)(hl:r.tests.length<=100000):qa P f [.agg (zu r)] (.agg (zu r)):=by
 refine qa.mk hc (by simp[qt,clo,zu,zX]) ?_;simp only[qlG,zu,vI,simprocAttr];simp +decide only[↓vS,vT,simprocAttr];refine(hg r.tests hl).sc ?_;simp +decide only[↓vS,vT,simprocAttr];simp[vZ,vP,Tr.get_set,zj zX]
def qgM:IFn:=⟨[.tmp 2],sq [.r [.q 1 (.box (.t 0)),.m 2 .F],.r [.f 3 1 1,.d 4 3,.q 5 (.bin .eql (.t 4) (.c (.x 0))),.n 2 5],.ret]⟩
def qHk(hc:qc P f qgM=true)(t:GTest):qa P f [.agg (jz t)] (.b (decide (t.mask=0))):=by
 refine qa.mk hc rfl ?_;simp only[qgM,jz,vI,simprocAttr];simp +decide only[↓vS,vT,simprocAttr];simp[vZ]
def qgm(a:Int)(ts:List GTest):List GTest:=(ts.reverse.dropWhile λt=>decide (t.act=a)).reverse
theorem qmf{a:Int}{ts:List GTest}{t:GTest}:qgm a (ts++[t])=if t.act=a then qgm a ts else ts++[t]:=by
 unfold qgm;rw[List.reverse_append,List.reverse_singleton,List.singleton_append,List.dropWhile_cons]
 by_cases h:t.act=a<;>simp[h]
def qfJ:List GTest->Int->List GTest×Int
 | [],a=>([],a)
 | t::ts,a=>if t.mask=0 then([],t.act)else(t::(qfJ ts a).1,(qfJ ts a).2)
def x7(r:GRule):GRule:=⟨r.nr,qgm (qfJ r.tests r.act).2 (qfJ r.tests r.act).1,(qfJ r.tests r.act).2⟩
def qu7:∀(ts:List GTest) (a:Int),(xq (λt=>decide (t.mask=0)) ts 0 = -1/\qfJ ts a=(ts,a))\/∃(i:Nat) (t:GTest),xq (λt=>decide (t.mask=0)) ts 0=(i:Int)/\ts[i]?=some t/\qfJ ts a=(ts.take i,t.act):=by
 have main:∀(ts:List GTest) (a:Int) (j:Nat),(xq (λt=>decide (t.mask=0)) ts j = -1/\qfJ ts a=(ts,a))\/∃(i:Nat) (t:GTest),xq (λt=>decide (t.mask=0)) ts j=((j+i:Nat):Int)/\ts[i]?=some t/\qfJ ts a=(ts.take i,t.act):=by
  intro ts
  induction ts with
  | nil=>intro a j;exact .inl ⟨rfl,rfl⟩
  | cons t ts ih =>
   intro a j
   by_cases h:t.mask=0
   .exact .inr ⟨0,t,by simp[xq,h],rfl,by simp[qfJ,h]⟩
   .rcases ih a (j+1)with⟨e1,e2⟩|⟨i,x,e1,e2,e3⟩
    .exact .inl ⟨by simp[xq,h,e1],by simp[qfJ,h,e2]⟩
    .exact .inr ⟨i+1,x,by simp[xq,h,e1];omega,by simpa using e2,by simp[qfJ,h,e3]⟩
 grind
def qAz{h:Hp}{esz n c:Nat}{q:IntKind}{cs:List AV}{k:AV->Prop}(h2:c<=n)(h3:c*esz<=cs.length):slK esz none (some (.i q (c:Int))) none (.fz n cs) h k↔evA (.fz c (cs.take (c*esz))) k:=by
 simp only[slK,qq8,qkJ];show(ifK (c<=n) _)↔_;simp only[ifK,h2,true_and,Option.isSome_none,Bool.false_and,Bool.false_eq_true,if_false];show(0*esz<=cs.length/\(c-0)*esz<=(cs.drop (0*esz)).length/\_)↔_;simp only[Nat.zero_mul,Nat.zero_le,Nat.sub_zero,List.drop_zero,h3,true_and];exact Iff.rfl
def qr5{l:List GTest}{k:Nat}:(rT l).take (k*4)=rT (l.take k):=qhs qdm l k
def qcV(a b c:Nat):ICode:=sq [sq [.r [.f 25 1 1,.d 26 25,.e 27 26,.n 4 27],.blk 0 (.loop (sq [sq [.reg true [.n 28 4,.w 29 .gtr 28 0,.n 30 29,.h 31 1 1 30 true,.j 32 31 30 true,.y 33 4 30,.g 34 (.bin .sub (.t 33) (.k 1)) 30 true,.g 35 (.iAddrS 4 (.t 32) (.t 34)) 30 true,.h 36 3 35 30 true,.j 37 36 30 true,.h 38 2 1 30 true,.j 39 38 30 true,.g 40 (.bin .eql (.t 37) (.t 39)) 30 true,.p 41 30 40],.cond (.t 41) (.skip) (.exit 0)],.blk 1 (.r [.f 44 1 1,.d 45 44,.n 46 4,.w 47 .sub 46 1,.q 48 (.slcS 4 (.t 45) none (some (.t 47)) none),.f 49 1 1,.u (.store 1 (.t 49) (.t 48))]),.r [.n 42 4,.w 43 .sub 42 1,.n 4 43]]))],.r [.v 50 3 1,.u (.store 3 (.t 2) (.t 50))],.ret]
def qi8(a b c:Nat):IFn:=⟨[.cell 2 3 true],sq [.r [.q 1 (.box (.t 0)),.q 2 (.alloc [.w 0,.nils,.w 0])],.r [.v 5 3 1,.l 6 a [.t 5],.u (.store 3 (.t 1) (.t 6))],sq [.r [.f 7 1 1,.d 8 7,.l 9 b [.t 8,(.c (.fn c [] []))],.n 3 9],.r [.n 10 3,.w 11 .geq 10 0],.cond (.t 11) (sq [.r [.f 12 1 1,.d 13 12,.n 14 3,.i 15 4 13 14,.f 16 3 15,.d 17 16,.f 18 2 1,.u (.store 1 (.t 18) (.t 17))],.r [.f 19 1 1,.d 20 19,.n 21 3,.n 22 3,.q 23 (.slcS 4 (.t 20) none (some (.t 21)) (some (.t 22))),.f 24 1 1,.u (.store 1 (.t 24) (.t 23))]]) (.skip)],.cut (qcV a b c)]⟩
def qj0{n0 g1 g2 g3 s:Nat}{tr:Tr Blk}{t:Tr AV}(nr a:Int)(ts:List GTest)(V:AV)(hV:V = .fz ts.length (rT ts)\/V = .e0/\ts=[])(hl:ts.length<=100000)(h0:tr.get 0=some (.v [.w nr,V,.w a]))(h1:∃x y z,tr.get 1=some (.v [x,y,z]))(ht:Has t [(1,.ptr 0 0),(2,.ptr 1 0)]) :
  S P n0 (qcV g1 g2 g3) (xu [.cell 2 3 true] λv' h'=>Frz h' v' (.agg (zu ⟨nr,qgm a ts,a⟩))) t ⟨s,0,tr⟩:=by
 refine S.has _ ht (qk ?_);simp only[qcV,vI,simprocAttr];have hlen:∀k:AV->Prop,k (.j (ts.length:Int))->True:=λ_ _=>trivial
 have loop:∀tt,Has tt [(1,.ptr 0 0),(2,.ptr 1 0),(4,.j (ts.length:Int))]->∀(x:ICode) (Q:X->Tr AV->Hp->Prop),True:=by simp_all
 rcases hV with rfl|⟨rfl,rfl⟩
 .simp +decide only[↓vS,vT,simprocAttr,h0]
  refine SL.loopP (α:=List GTest) (λu=>[(1,.ptr 0 0),(2,.ptr 1 0),(4,.j (u.length:Int))])
   (λu h=>u.length<=ts.length/\qgm a u=qgm a ts/\∃tr',h=⟨s,0,tr'⟩/\tr'.get 0=some (.v [.w nr,.fz u.length (rT u),.w a])/\∃x y z,tr'.get 1=some (.v [x,y,z])) (λu=>u.length) ?_ ts ?_ ?_
  .rintro u h1 ⟨hu,he,tr',rfl,g0,x,y,z,g1⟩ G ih;simp only[vI,simprocAttr];rcases List.eq_nil_or_concat u with rfl|⟨u0,t0,rfl⟩
   .have hz:¬(0:Int)<(([]:List GTest).length:Int):=by simp
    simp +decide only[↓vS,vT,simprocAttr];refine zB ?_;simp +decide only[↓vS,vT,simprocAttr,hz,g0,g1];have e0:qgm a ts=[]:=by rw[<- he];rfl
    simp[vZ,vP,Tr.get_set,zu,e0,rT]
   .rw[List.concat_eq_append]at hu he g0 ih ⊢;have hul:(u0++[t0]).length=u0.length+1:=by simp
    have hget:(u0++[t0])[u0.length]?=some t0:=by simp
    rw[hul]at hu g0 ⊢;have hz:(0:Int)<((u0.length+1:Nat):Int):=by omega
    have e1:IntKind.wrap .i64 (((u0.length+1:Nat):Int)-1)=(u0.length:Int):=by rw[qp (by omega) (by omega)];omega
    have hg3:(rT (u0++[t0]))[u0.length*4+3]?=some (.w t0.act):=qxf hget (by omega);have hlt:u0.length<u0.length+1:=by omega
    rw[qmf]at he;simp +decide only[↓vS,vT,simprocAttr];refine zB ?_
    by_cases ha:t0.act=a
    .rw[if_pos ha]at he;have k1:u0.length<=u0.length+1:=by omega
     have k2:u0.length*4<=(rT (u0++[t0])).length:=by rw[qeZ,hul];omega
     have k3:(rT (u0++[t0])).take (u0.length*4)=rT u0:=by rw[qr5];simp
     simp +decide only[↓vS,vT,simprocAttr,hz,g0,e1,hlt,hg3,eq_true ha,↓qAz k1 k2,k3];refine ih u0 _ _ (by simp) (by simp[qg,ql,Tr.get_set]) (by grind[Tr.get_set])
    .rw[if_neg ha]at he;simp +decide only[↓vS,vT,simprocAttr,hz,g0,g1,e1,hlt,hg3,ha];simp[vZ,vP,Tr.get_set,zu,<- he,zj zX]
  all_goals simp_all[qg,ql,Tr.get_set]
 .simp +decide only[↓vS,vT,simprocAttr,h0];refine SL.loopP (α:=Unit) (λu=>[(1,.ptr 0 0),(2,.ptr 1 0),(4,.j 0)]) (λu h=>h=⟨s,0,tr⟩) (λu=>0) ?_ () ?_ rfl
  .rintro u h2 rfl G ih;obtain⟨x,y,z,g1⟩:=h1;simp only[vI,simprocAttr];simp +decide only[↓vS,vT,simprocAttr];refine zB ?_;simp +decide only[↓vS,vT,simprocAttr,h0,g1];simp[vZ,vP,Tr.get_set,zu,qgm,rT]
  grind[qg,ql,Tr.get_set]
def qBq{g1 g2 g3:Nat}(hc:qc P f (qi8 g1 g2 g3)=true)(h1:∀r:GRule,r.tests.length<=100000->qa P g1 [.agg (zu r)] (.agg (zu r)))(h2:qfH 4 P g2)(h3:∀t:GTest,qa P g3 [.agg (jz t)] (.b (decide (t.mask=0))))(r:GRule)(hl:r.tests.length<=100000) :
  qa P f [.agg (zu r)] (.agg (zu (x7 r))):=by
 have e1:=h1 r hl;have e2:=h2 jz (λt=>decide (t.mask=0)) g3 [] [] r.tests qdm rfl rfl (by simp only[qi];omega) λt _=>by simpa using h3 t
 simp only[show r.tests.flatMap jz=rT r.tests from rfl]at e2
 refine qa.mk hc (by simp[qt,clo,zu,zX]) ?_;simp only[qi8,zu,vI,simprocAttr];simp only[zu]at e1;simp +decide only[↓vS,vT,simprocAttr];refine e1.sc ?_;simp +decide only[↓vS,vT,simprocAttr];refine e2.sc ?_;unfold x7;rcases qu7 r.tests r.act with⟨q1,q2⟩|⟨i,t,q1,q2,q3⟩
 .rw[q1,q2];simp +decide only[↓vS,vT,simprocAttr];refine qj0 r.nr r.act r.tests _ (.inl rfl) hl ?_ ?_ ?_
  all_goals simp_all[Tr.get_set,qg,ql]
 .rw[q1,q3];have hi:i<r.tests.length:=by grind
  have n0:(0:Int)<=(i:Int):=by omega
  have g3':(rT r.tests)[i*4+3]?=some (.w t.act):=qxf q2 (by omega);have k2:i<=r.tests.length:=by omega
  have k3:i*4<=(rT r.tests).length:=by rw[qeZ];omega
  have hlen:(r.tests.take i).length=i:=by simp_all
  rcases Nat.eq_zero_or_pos i with hz|hz
  .have es:∀(h:Hp) (k:AV->Prop),slK 4 none (some (.j (i:Int))) (some (.j (i:Int))) (.fz r.tests.length (rT r.tests)) h k↔evA .e0 k:=λh k=>by
    rw[hz];simp only[slK,qkM,qkJ];show(ifK (0<=r.tests.length) (ifK (0<=0) _))↔_;simp only[ifK,Nat.zero_le,true_and,Option.isSome_some];exact Iff.rfl
   have htk:r.tests.take i=[]:=by rw[hz];rfl
   rw[htk];simp +decide only[↓vS,vT,simprocAttr,n0,hi,g3',↓es];refine qj0 r.nr t.act [] .e0 (by simp_all) (by simp) ?_ ?_ ?_
   all_goals simp_all[Tr.get_set,qg,ql]
  .simp +decide only[↓vS,vT,simprocAttr,n0,hi,g3',↓qse hz k2 k3,qr5];refine qj0 r.nr t.act (r.tests.take i) _ (.inl (by rw[hlen])) (by omega) ?_ ?_ ?_
   all_goals simp_all[Tr.get_set,qg,ql]
def qbO(d:Int)(r:GRule):Bool:=decide (0<r.tests.length)||decide (r.act≠d)
def jW(x:GFil):GFil:=⟨x.arch,(x.rules.map x7).filter (qbO x.dflt),x.dflt⟩
noncomputable def qsw(x:GFil):AV:=if jq x=true then .tup [.agg (zq (jW x)),.j 0]else .tup [.agg [.j 0,.fz 0 [],.w 0],.j 210]
def qfN(a b:Nat):IFn:=⟨[.cell 2 3 true,.tmp 3],sq [.r [.q 1 (.box (.t 0)),.q 2 (.alloc [.j 0,.nils,.w 0]),.m 3 (.k 0)],sq [.r [.v 7 3 1,.l 8 a [.t 7],.q 9 (.un .not (.t 8))],.cond (.t 9) (sq [.r [.q 10 (.build [.j 0,.nils,.w 0] []),.u (.store 3 (.t 2) (.t 10)),.m 3 (.k 210)],.ret]) (.skip)],.r [.f 11 0 1,.d 12 11,.f 13 2 1,.d 14 13,.q 15 (.build [.j 0,.nils,.w 0] [(0,1,(.t 12)),(2,1,(.t 14))]),.q 4 (.alloc [.j 0,.nils,.w 0]),.u (.store 3 (.t 4) (.t 15))],sq [.r [.f 16 1 1,.d 17 16,.e 18 17,.m 19 (.k 0)],.blk 0 (.loop (sq [.r [.s 20 19 18],.cond (.t 20) (.skip) (.exit 0),.blk 1 (sq [.r [.i 21 3 17 19,.v 22 3 21,.q 6 (.alloc [.w 0,.nils,.w 0]),.u (.store 3 (.t 6) (.t 22))],.r [.v 23 3 6,.l 24 b [.t 23],.u (.store 3 (.t 6) (.t 24))],.r [.f 25 1 6,.d 26 25,.e 27 26,.w 28 .gtr 27 0,.n 29 28,.h 30 2 6 29 false,.j 31 30 29 false,.h 32 2 1 29 false,.j 33 32 29 false,.g 34 (.bin .neq (.t 31) (.t 33)) 29 false,.o 35 29 34],.cond (.t 35) (.r [.f 36 1 4,.d 37 36,.v 38 3 6,.q 39 (.buildS 1 [.w 0,.nils,.w 0] [(0,3,(.t 38))]),.q 40 (.app 3 40 true (.t 37) (.t 39)),.f 41 1 4,.u (.store 1 (.t 41) (.t 40))]) (.skip)]),.r [.a 42 19 1,.n 19 42]]))],.r [.v 43 3 4,.u (.store 3 (.t 2) (.t 43)),.m 3 (.k 0)],.ret]⟩
def qou{g1 g2:Nat}(hc:qc P f (qfN g1 g2)=true)(x:GFil)(h1:qa P g1 [.agg (zq x)] (.b (jq x)))(h2:∀r:GRule,r.tests.length<=100000->qa P g2 [.agg (zu r)] (.agg (zu (x7 r))))(hl:x.rules.length<=100000)(ht:∀r ∈ x.rules,r.tests.length<=100000) :
  qa P f [.agg (zq x)] (qsw x):=by
 refine qa.mk hc (by simp[qt,clo,zq,qq]) ?_;simp only[qfN,zq,vI,simprocAttr];simp only[zq]at h1;simp +decide only[↓vS,vT,simprocAttr];refine h1.sc ?_;unfold qsw;cases hK:jq x with
 | false =>
  simp +decide only[↓vS,vT,simprocAttr];simp[vZ,vP,Tr.get_set]
 | true =>
  simp +decide only[↓vS,vT,simprocAttr]
  refine SL.loopP (α:=Nat×Nat) (λi=>[(1,.ptr 0 0),(2,.ptr 1 0),(4,.ptr 2 0),(17,.fz x.rules.length (rR x.rules)),(18,.j (x.rules.length:Int)),(19,.j (i.1:Int))])
   (λi h=>i.1<=x.rules.length/\∃s tr,h=⟨s,0,tr⟩/\3<=s/\tr.get 0=some (.v [.j x.arch,.fz x.rules.length (rR x.rules),.w x.dflt])/\(∃a b c,tr.get 1=some (.v [a,b,c])) /\
    tr.get 2=some (.v [.j x.arch,qc0 (((x.rules.take i.1).map x7).filter (qbO x.dflt)).length i.2,.w x.dflt])/\((((x.rules.take i.1).map x7).filter (qbO x.dflt)).length≠0->tr.get i.2=some (.cells 3 true true (rR (((x.rules.take i.1).map x7).filter (qbO x.dflt))))/\3<=i.2/\i.2<s)) (λi=>x.rules.length-i.1) ?_ (0,0) ?_ ?_
  .rintro⟨i,bo⟩ h ⟨hi,s,tr,rfl,hs,t0,⟨a,b,c,t1⟩,t2,to⟩ G ih;simp only at hi t2 to;simp only[vI,simprocAttr];obtain⟨A,hA⟩:∃A,A=((x.rules.take i).map x7).filter (qbO x.dflt):=⟨_,rfl⟩;rw[<- hA]at t2 to
   have hAl:A.length<=i:=by
    rw[hA];grind
   by_cases hlt:i<x.rules.length
   .have hlt':(i:Int)<x.rules.length:=by omega
    obtain⟨r,hr⟩:∃r,x.rules[i]?=some r:=⟨_,zzE hlt⟩;have hel:=qr1 hr;have h3:i*3+3<=(rR x.rules).length:=by rw[qhe];omega
    have hw1:IntKind.wrap .i64 ((i:Int)+1)=((i+1:Nat):Int):=by rw[qp (by omega) (by omega)];simp
    have hn:=h2 r (by grind)
    have hA2:((x.rules.take (i+1)).map x7).filter (qbO x.dflt)=A++if qbO x.dflt (x7 r)=true then [x7 r]else []:=by
     rw[qbt hr,List.map_append,List.filter_append,<- hA]
     by_cases hk:qbO x.dflt (x7 r)=true<;>simp[hk]
    obtain⟨q,hq⟩:∃q,q=x7 r:=⟨_,rfl⟩;rw[<- hq]at hn hA2;simp only[zu]at hn;have n0:¬0=s:=by omega
    have n1:¬1=s:=by omega
    have n2:¬2=s:=by omega
    have n3:¬s=s+1:=by omega
    have n4:¬2=s+1:=by omega
    have n5:¬2=s+1+1:=by omega
    have n6:¬s=2:=by omega
    simp +decide only[↓vS,vT,simprocAttr,hlt',hlt,h3,hel,zu,n0,n1,n2,n3];refine hn.sc ?_
    have e0:∀(tf:Tr Blk),(∀c,c<s->c≠2->c≠bo->tf.get c=tr.get c)->bo≠0/\bo≠1\/A.length=0->(A.length=0->∀c,c<s->c≠2->tf.get c=tr.get c)->tf.get 0=some (.v [.j x.arch,.fz x.rules.length (rR x.rules),.w x.dflt])/\∃a b c,tf.get 1=some (.v [a,b,c]):=λtf q1 q2 q3=>by
     grind
    by_cases hk:qbO x.dflt q=true
    .rw[if_pos hk]at hA2;have app:∀k:Prop,(∀(u:IntKind),True)->k->k:=λ_ _ h=>h
     have hcond:(0:Int)<(q.tests.length:Int)\/¬(0:Int)<(q.tests.length:Int)/\¬q.act=x.dflt:=by
      simp only[qbO,zzO,decide_eq_true_eq]at hk;omega
     by_cases hz:A.length=0
     .have hV:qc0 A.length bo = .nils:=by simp[qc0,hz]
      have hAn:A=[]:=by grind
      rw[hV]at t2
      have fin:∀tf tt,(∀c,c<s->c≠2->tf.get c=tr.get c)->tf.get 2=some (.v [.j x.arch,.own (s+1+1) 1,.w x.dflt])->tf.get (s+1+1)=some (.cells 3 true true [.w q.nr,.fz q.tests.length (rT q.tests),.w q.act])->Has tt [(1,.ptr 0 0),(2,.ptr 1 0),(4,.ptr 2 0),(17,.fz x.rules.length (rR x.rules)),(18,.j (x.rules.length:Int)),(19,.j ((i+1:Nat):Int))]->G tt ⟨s+1+1+1,0,tf⟩:=λtf tt q1 q2 q3 q4=>by
       refine ih (i+1,s+1+1) _ _ (by omega) q4 ⟨by omega,_,tf,rfl,by omega,by grind,by grind,?_,λ_=>⟨?_,by omega,by omega⟩⟩
       .simp only[hA2,hAn];rw[q2];rfl
       .simp only[hA2,hAn];rw[q3];simp[rR,zu]
      rcases hcond with hc1|⟨hc1,hc2⟩
      .simp +decide only[↓vS,vT,simprocAttr,hc1,t2,n0,n1,n2,n3,n4,n5,n6,hw1];refine fin _ _ (λc c1 c2=>?_) (by rw[Tr.get_set,if_pos rfl]) ?_ (by simp[qg,ql,Tr.get_set])
       .simp only[Tr.get_set];repeat rw[if_neg (by omega)]
       grind[Tr.get_set]
      .simp +decide only[↓vS,vT,simprocAttr,hc1,hc2,t0,t2,n0,n1,n2,n3,n4,n5,n6,hw1];refine fin _ _ (λc c1 c2=>?_) (by rw[Tr.get_set,if_pos rfl]) ?_ (by simp[qg,ql,Tr.get_set])
       .simp only[Tr.get_set];repeat rw[if_neg (by omega)]
       grind[Tr.get_set]
     .obtain⟨o1,o2,o3⟩:=to hz;have hV:qc0 A.length bo = .own bo A.length:=by simp[qc0,hz]
      rw[hV]at t2;have m1:¬bo=s:=by omega
      have m2:¬bo=s+1:=by omega
      have m3:¬s+1=bo:=by omega
      have m4:¬2=bo:=by omega
      have rr1:A.length+1<=qi:=by simp only[qi];omega
      have rr2:(A.length+1)*40<=qi:=by simp only[qi];omega
      have hrl:(rR A).length=A.length*3:=qhe
      have fin:∀tf tt,(∀c,c<s->c≠2->c≠bo->tf.get c=tr.get c)->tf.get 2=some (.v [.j x.arch,.own (s+1+1) (A.length+1),.w x.dflt])->tf.get (s+1+1)=some (.cells 3 true true (rR A++[.w q.nr,.fz q.tests.length (rT q.tests),.w q.act]))->Has tt [(1,.ptr 0 0),(2,.ptr 1 0),(4,.ptr 2 0),(17,.fz x.rules.length (rR x.rules)),(18,.j (x.rules.length:Int)),(19,.j ((i+1:Nat):Int))]->G tt ⟨s+1+1+1,0,tf⟩:=λtf tt q1 q2 q3 q4=>by
       refine ih (i+1,s+1+1) _ _ (by omega) q4 ⟨by omega,_,tf,rfl,by omega,by grind,by grind,?_,λ_=>⟨?_,by omega,by omega⟩⟩
       .simp only[hA2];rw[q2];simp[qc0]
       .simp only[hA2];rw[q3,<- qw8];simp[rR,zu]
      rcases hcond with hc1|⟨hc1,hc2⟩
      .simp +decide only[↓vS,vT,simprocAttr,hc1,t2,o1,m1,m2,m3,m4,rr1,rr2,hrl,n0,n1,n2,n3,n4,n5,n6,hw1];refine fin _ _ (λc c1 c2 c3=>?_) (by rw[Tr.get_set,if_pos rfl]) ?_ (by simp[qg,ql,Tr.get_set])
       .simp only[Tr.get_set];repeat rw[if_neg (by omega)]
       grind[Tr.get_set]
      .simp +decide only[↓vS,vT,simprocAttr,hc1,hc2,t0,t2,o1,m1,m2,m3,m4,rr1,rr2,hrl,n0,n1,n2,n3,n4,n5,n6,hw1];refine fin _ _ (λc c1 c2 c3=>?_) (by rw[Tr.get_set,if_pos rfl]) ?_ (by simp[qg,ql,Tr.get_set])
       .simp only[Tr.get_set];repeat rw[if_neg (by omega)]
       grind[Tr.get_set]
    .rw[if_neg hk,List.append_nil]at hA2;have hc1:¬(0:Int)<(q.tests.length:Int):=λh=>hk (by simp only[qbO,zzO,decide_eq_true_eq];omega)
     have hc2:q.act=x.dflt:=by
      rcases Classical.em (q.act=x.dflt)with h|h
      .exact h
      .exact absurd (by simp[qbO,h]) hk
     simp +decide only[↓vS,vT,simprocAttr,hc1,eq_true hc2,t0,n0,n1,n2,n3,hw1];refine ih (i+1,bo) _ _ (by omega) (by simp[qg,ql,Tr.get_set]) ⟨by omega,s+1,_,rfl,by omega,?_,⟨a,b,c,?_⟩,?_,λhz=>?_⟩
     .grind[Tr.get_set]
     .grind[Tr.get_set]
     .grind[Tr.get_set]
     .simp only[hA2]at hz ⊢;obtain⟨o1,o2,o3⟩:=to hz;refine⟨?_,o2,by omega⟩
      simp only[Tr.get_set];grind
   .obtain rfl:i=x.rules.length:=by omega
    have hlt':¬((x.rules.length:Int)<x.rules.length):=by omega
    rw[List.take_length]at hA;have hnF:(jW x).rules=A:=hA.symm
    by_cases hz:A.length=0
    .have hV:qc0 A.length bo = .nils:=by simp[qc0,hz]
     have hAn:A=[]:=by grind
     rw[hV]at t2;simp +decide only[↓vS,vT,simprocAttr,hlt',t2,t1];simp only[zq,hnF,hAn];simp[vZ,vP,Tr.get_set,rR,jW]
    .obtain⟨o1,o2,o3⟩:=to hz;have hV:qc0 A.length bo = .own bo A.length:=by simp[qc0,hz]
     have m1:¬bo=1:=by omega
     rw[hV]at t2;simp +decide only[↓vS,vT,simprocAttr,hlt',t2,t1];simp only[zq,hnF];have hA0:¬A=[]:=(by grind);simp[vZ,vP,Tr.get_set,o1,m1,zj qq,hA0,jW]
  .simp[qg,ql,Tr.get_set]
  .refine⟨Nat.zero_le _,_,_,rfl,by omega,?_,⟨.j 0,.nils,.w 0,?_⟩,?_,by simp_all⟩
   .simp[Tr.get_set]
   .simp[Tr.get_set]
   .simp[Tr.get_set,qc0]
def WkB(fl:List AV)(ar row prg:AV):Blk:=.v (fl++[ar,row,prg])
section
variable {b s:Nat} {tr:Tr Blk} {k:AV->Hp->Prop} {x:GFil} {ar row prg:AV}
def zV(a:Nat):IFn:=⟨[.tmp 2],sq [.r [.m 2 (.k 0)],.r [.n 4 0,.n 5 0,.q 6 (.nilChk (.t 5)),.f 7 0 6,.v 8 3 7,.l 9 a [.t 8],.n 3 9,.x 10 3 0,.x 11 3 1,.q 12 (.nilChk (.t 4)),.f 13 4 12,.u (.store 1 (.t 13) (.t 10)),.n 2 11],.r [.n 14 2,.n 2 14],.ret]⟩
def qmk{g:Nat}(hc:qc P f (zV g)=true)(fl:List AV)(hfl:fl.length=3)(h:tr.get b=some (WkB fl ar row prg))(r:AV)(e:Int)(hr:ze r=true/\qcQ r=true/\cellsOf r=[r])(hg:qa P g [.agg fl] (.tup [r,.j e]))
  (hk:∀tr',(∀c,c≠b->tr'.get c=tr.get c)->tr'.get b=some (WkB fl ar r prg)->k (.j e) ⟨s,0,tr'⟩):SC P f [.ptr b 0] ⟨s,0,tr⟩ k:=by
 obtain⟨a1,a2,a3,rfl⟩:∃a1 a2 a3,fl=[a1,a2,a3]:=by
  match fl,hfl with
  | [a1,a2,a3],_=>exact by simp_all
 obtain⟨r1,r2,r3⟩:=hr;simp only[WkB,zzC,zzN]at h hk;refine SC.mk hc (qk ?_);simp only[zV,vI,simprocAttr];simp +decide only[↓vS,vT,simprocAttr,h];refine hg.sc ?_;simp +decide only[↓vS,vT,simprocAttr,h,r1,r2,r3]
 simp_all[Tr.get_set]
def z6(a:Nat):IFn:=⟨[.tmp 2],sq [.r [.m 2 (.k 0)],.r [.n 4 0,.n 5 0,.q 6 (.nilChk (.t 5)),.f 7 0 6,.v 8 3 7,.l 9 a [.t 8],.n 3 9,.x 10 3 0,.x 11 3 1,.q 12 (.nilChk (.t 4)),.f 13 0 12,.u (.store 3 (.t 13) (.t 10)),.n 2 11],.r [.n 14 2,.n 2 14],.ret]⟩
def qml{g:Nat}(hc:qc P f (z6 g)=true)(fl:List AV)(hfl:fl.length=3)(h:tr.get b=some (WkB fl ar row prg))(fl2:List AV)(hf2:fl2.length=3)(e:Int)(hr:qD fl2=true)(hg:qa P g [.agg fl] (.tup [.agg fl2,.j e]))
  (hk:∀tr',(∀c,c≠b->tr'.get c=tr.get c)->tr'.get b=some (WkB fl2 ar row prg)->k (.j e) ⟨s,0,tr'⟩):SC P f [.ptr b 0] ⟨s,0,tr⟩ k:=by
 obtain⟨a1,a2,a3,rfl⟩:∃a1 a2 a3,fl=[a1,a2,a3]:=by
  match fl,hfl with
  | [a1,a2,a3],_=>exact by simp_all
 obtain⟨c1,c2,c3,rfl⟩:∃a1 a2 a3,fl2=[a1,a2,a3]:=by
  match fl2,hf2 with
  | [a1,a2,a3],_=>exact by simp_all
 simp only[WkB,zzC,zzN]at h hk;refine SC.mk hc (qk ?_);simp only[z6,vI,simprocAttr];simp +decide only[↓vS,vT,simprocAttr,h];refine hg.sc ?_;simp +decide only[↓vS,vT,simprocAttr,h,hr]
 simp_all[Tr.get_set]
def zQ(a:Nat):IFn:=⟨[.tmp 2],sq [.r [.m 2 (.k 0)],.r [.n 4 0,.n 5 0,.q 6 (.nilChk (.t 5)),.f 7 3 6,.d 8 7,.l 9 a [.t 8],.n 3 9,.x 10 3 0,.x 11 3 1,.q 12 (.nilChk (.t 4)),.f 13 4 12,.u (.store 1 (.t 13) (.t 10)),.n 2 11],.r [.n 14 2,.n 2 14],.ret]⟩
def qhE{g:Nat}(hc:qc P f (zQ g)=true)(fl:List AV)(hfl:fl.length=3)(h:tr.get b=some (WkB fl ar row prg))(r:AV)(e:Int)(hr:ze r=true/\qcQ r=true/\cellsOf r=[r])(hg:qa P g [ar] (.tup [r,.j e]))
  (hk:∀tr',(∀c,c≠b->tr'.get c=tr.get c)->tr'.get b=some (WkB fl ar r prg)->k (.j e) ⟨s,0,tr'⟩):SC P f [.ptr b 0] ⟨s,0,tr⟩ k:=by
 obtain⟨a1,a2,a3,rfl⟩:∃a1 a2 a3,fl=[a1,a2,a3]:=by
  match fl,hfl with
  | [a1,a2,a3],_=>exact by simp_all
 obtain⟨r1,r2,r3⟩:=hr;simp only[WkB,zzC,zzN]at h hk;refine SC.mk hc (qk ?_);simp only[zQ,vI,simprocAttr];simp +decide only[↓vS,vT,simprocAttr,h];refine hg.sc ?_;simp +decide only[↓vS,vT,simprocAttr,h,r1,r2,r3]
 simp_all[Tr.get_set]
def za(a:Nat):IFn:=⟨[.tmp 2],sq [.r [.m 2 (.k 0)],.r [.n 4 0,.n 5 0,.q 6 (.nilChk (.t 5)),.f 7 4 6,.d 8 7,.l 9 a [.t 8],.n 3 9,.x 10 3 0,.x 11 3 1,.q 12 (.nilChk (.t 4)),.f 13 4 12,.u (.store 1 (.t 13) (.t 10)),.n 2 11],.r [.n 14 2,.n 2 14],.ret]⟩
def qmj{g:Nat}(hc:qc P f (za g)=true)(fl:List AV)(hfl:fl.length=3)(h:tr.get b=some (WkB fl ar row prg))(r:AV)(e:Int)(hr:ze r=true/\qcQ r=true/\cellsOf r=[r])(hg:qa P g [row] (.tup [r,.j e]))
  (hk:∀tr',(∀c,c≠b->tr'.get c=tr.get c)->tr'.get b=some (WkB fl ar r prg)->k (.j e) ⟨s,0,tr'⟩):SC P f [.ptr b 0] ⟨s,0,tr⟩ k:=by
 obtain⟨a1,a2,a3,rfl⟩:∃a1 a2 a3,fl=[a1,a2,a3]:=by
  match fl,hfl with
  | [a1,a2,a3],_=>exact by simp_all
 obtain⟨r1,r2,r3⟩:=hr;simp only[WkB,zzC,zzN]at h hk;refine SC.mk hc (qk ?_);simp only[za,vI,simprocAttr];simp +decide only[↓vS,vT,simprocAttr,h];refine hg.sc ?_;simp +decide only[↓vS,vT,simprocAttr,h,r1,r2,r3]
 simp_all[Tr.get_set]
def qL(a:Nat):IFn:=⟨[.tmp 2],sq [.r [.m 2 (.k 0)],.r [.n 4 0,.n 5 0,.q 6 (.nilChk (.t 5)),.f 7 4 6,.d 8 7,.l 9 a [.t 8],.n 3 9,.x 10 3 0,.x 11 3 1,.q 12 (.nilChk (.t 4)),.f 13 5 12,.u (.store 1 (.t 13) (.t 10)),.n 2 11],.r [.n 14 2,.n 2 14],.ret]⟩
def qfZ{g:Nat}(hc:qc P f (qL g)=true)(fl:List AV)(hfl:fl.length=3)(h:tr.get b=some (WkB fl ar row prg))(r:AV)(e:Int)(hr:ze r=true/\qcQ r=true/\cellsOf r=[r])(hg:qa P g [row] (.tup [r,.j e]))
  (hk:∀tr',(∀c,c≠b->tr'.get c=tr.get c)->tr'.get b=some (WkB fl ar row r)->k (.j e) ⟨s,0,tr'⟩):SC P f [.ptr b 0] ⟨s,0,tr⟩ k:=by
 obtain⟨a1,a2,a3,rfl⟩:∃a1 a2 a3,fl=[a1,a2,a3]:=by
  match fl,hfl with
  | [a1,a2,a3],_=>exact by simp_all
 obtain⟨r1,r2,r3⟩:=hr;simp only[WkB,zzC,zzN]at h hk;refine SC.mk hc (qk ?_);simp only[qL,vI,simprocAttr];simp +decide only[↓vS,vT,simprocAttr,h];refine hg.sc ?_;simp +decide only[↓vS,vT,simprocAttr,h,r1,r2,r3]
 simp_all[Tr.get_set]
def qM:IFn:=⟨[.tmp 4,.tmp 5],sq [.r [.m 4 .N,.m 5 (.k 0)],sq [.r [.n 9 1,.e 10 9,.m 11 (.k 0)],.blk 0 (.loop (sq [.r [.s 12 11 10],.cond (.t 12) (.skip) (.exit 0),.blk 1 (sq [.r [.i 13 1 9 11,.d 14 13,.n 7 14],.r [.n 15 7,⟨(some 16),.callV (.t 15) [],none⟩,.n 8 16],.r [.n 17 8,.w 18 .neq 17 0],.cond (.t 18) (sq [.r [.n 19 8,.m 4 .N,.n 5 19],.ret]) (.skip)]),.r [.a 20 11 1,.n 11 20]]))],.r [.n 21 0,.q 22 (.nilChk (.t 21)),.f 23 5 22,.d 24 23,.n 4 24,.m 5 (.k 0)],.ret]⟩
def qxT(hc:qc P f qM=true){bx e:Nat}{wf a:Bool}(gs:List Nat)(hx:tr.get bx=some (.cells e wf a (gs.map λg=>.fn g [.ptr b 0] [])))(hbx:bx≠b)(J:Nat->AV->Blk->Prop)(n:Nat)(hn:gs.length=n)(hn9:n<=9)
  (B0:Blk) (h0:tr.get b=some B0) (hJ0:J 0 (.j 0) B0)
  (step:∀(i:Nat) g B (s':Nat) (tr':Tr Blk) (k':AV->Hp->Prop),gs[i]?=some g->J i (.j 0) B->tr'.get b=some B->(∀(v:Int) B' tr2,(∀c,c≠b->tr2.get c=tr'.get c)->tr2.get b=some B'->J (i+1) (.j v) B'->k' (.j v) ⟨s',0,tr2⟩)->SC P g [.ptr b 0] ⟨s',0,tr'⟩ k')
  (hbad:∀(i:Nat) (v:Int) B tr2,(∀c,c≠b->tr2.get c=tr.get c)->v≠0->J i (.j v) B->k (.tup [.nils,.j v]) ⟨s,0,tr2⟩)
  (hok:∀B tr2,(∀c,c≠b->tr2.get c=tr.get c)->J n (.j 0) B->tr2.get b=some B->∃fl ar row prg,fl.length=3/\B=WkB fl ar row prg/\k (.tup [prg,.j 0]) ⟨s,0,tr2⟩) :
  SC P f [.ptr b 0,.sl bx 0 n n false] ⟨s,0,tr⟩ k:=by
 refine SC.mk hc (qk ?_);simp only[qM,vI,simprocAttr];simp +decide only[↓vS,vT,simprocAttr]
 refine SL.loopP (α:=Nat) (λi=>[(0,.ptr b 0),(9,.sl bx 0 n n false),(10,.j (n:Int)),(11,.j (i:Int))])
  (λi h=>i<=n/\∃tr' B,h=⟨s,0,tr'⟩/\(∀c,c≠b->tr'.get c=tr.get c)/\tr'.get bx=some (.cells e wf a (gs.map λg=>.fn g [.ptr b 0] []))/\tr'.get b=some B/\J i (.j 0) B) (λi=>n-i) ?_ 0 ?_ ?_
 .rintro i h ⟨hi,tr',B,rfl,gf,gx,gb,hj⟩ G ih;simp only[vI,simprocAttr]
  by_cases hlt:i<n
  .have hlt':(i:Int)<n:=by omega
   obtain⟨g,hg⟩:∃g,gs[i]?=some g:=⟨_,zzE (by omega)⟩;have hgm:(gs.map λg=>AV.fn g [.ptr b 0] [])[i]?=some (.fn g [.ptr b 0] []):=by simp[hg]
   have hw1:IntKind.wrap .i64 ((i:Int)+1)=((i+1:Nat):Int):=by rw[qp (by omega) (by omega)];simp
   simp +decide only[↓vS,vT,simprocAttr,hlt',hlt,gx,hgm,zzU];refine step i g B s tr' _ hg hj gb λv B' tr2 q1 q2 q3=>?_
   by_cases hv:v=0
   .subst hv;simp +decide only[↓vS,vT,simprocAttr,hw1];exact ih (i+1) _ _ (by omega) (by simp[qg,ql,Tr.get_set]) (by grind)
   .simp +decide only[↓vS,vT,simprocAttr,hv];exact by grind
  .obtain rfl:i=n:=by omega
   have hlt':¬((i:Int)<i):=by omega
   obtain⟨fl,ar,row,prg,hfl,hB,hk⟩:=hok B tr' gf hj gb
   obtain⟨a1,a2,a3,rfl⟩:∃a1 a2 a3,fl=[a1,a2,a3]:=by
    match fl,hfl with
    | [a1,a2,a3],_=>exact by grind
   rw[hB]at gb;simp only[WkB,zzC,zzN]at gb;simp +decide only[↓vS,vT,simprocAttr,hlt',gb];exact hk
 all_goals grind[qg,ql,Tr.get_set]
def qhk(hc:qc P f qM=true){bx e:Nat}{wf a:Bool}(gs:List Nat)(hx:tr.get bx=some (.cells e wf a (gs.map λg=>.fn g [.ptr b 0] [])))(hbx:bx≠b)(Bs:Nat->Blk)(vs:Nat->Int)(n:Nat)(hn:gs.length=n)(hn9:n<=9)(h0:tr.get b=some (Bs 0))(hv0:vs 0=0)
  (step:∀(i:Nat) g (s':Nat) (tr':Tr Blk) (k':AV->Hp->Prop),gs[i]?=some g->(∀j,j<=i->vs j=0)->tr'.get b=some (Bs i)->(∀tr2,(∀c,c≠b->tr2.get c=tr'.get c)->tr2.get b=some (Bs (i+1))->k' (.j (vs (i+1))) ⟨s',0,tr2⟩)->SC P g [.ptr b 0] ⟨s',0,tr'⟩ k')
  (hbad:∀(i:Nat) tr2,(∀c,c≠b->tr2.get c=tr.get c)->vs i≠0->(∀j,j<i->vs j=0)->k (.tup [.nils,.j (vs i)]) ⟨s,0,tr2⟩)
  (hok:∀tr2,(∀c,c≠b->tr2.get c=tr.get c)->(∀j,j<=n->vs j=0)->tr2.get b=some (Bs n)->∃fl ar row prg,fl.length=3/\Bs n=WkB fl ar row prg/\k (.tup [prg,.j 0]) ⟨s,0,tr2⟩) :
  SC P f [.ptr b 0,.sl bx 0 n n false] ⟨s,0,tr⟩ k:=by
 refine qxT hc gs hx hbx (λi v B=>v = .j (vs i)/\B=Bs i/\∀j,j<i->vs j=0) n hn hn9 (Bs 0) h0 ⟨by rw[hv0],rfl,λj hj=>by omega⟩ ?_ ?_ ?_
 .rintro i g B s' tr' k' hg ⟨h1,rfl,h2⟩ hB hk';have hvi:vs i=0:=by grind
  refine step i g s' tr' k' hg (λj hj=>?_) hB λtr2 q1 q2=>hk' _ _ _ q1 q2 ⟨rfl,rfl,λj hj=>?_⟩
  .rcases Nat.lt_or_ge j i with h|h
   .exact h2 j h
   .rw[show j=i by omega];exact hvi
  .rcases Nat.lt_or_ge j i with h|h
   .exact h2 j h
   .rw[show j=i by omega];exact hvi
 all_goals grind
def xV:IFn:=⟨[.tmp 8,.tmp 9],sq [.r [.m 8 .N,.m 9 (.k 0)],sq [.r [.n 10 3,.w 11 .neq 10 0,.n 12 11,.z 13 1 12,.g 14 (.bin .eql (.t 13) (.k 0)) 12 false,.z 15 14 12,.y 16 0 15,.g 17 (.len false (.t 16)) 15 true,.y 18 2 15,.g 19 (.len false (.t 18)) 15 true,.g 20 (.bin .lss (.t 17) (.t 19)) 15 true,.g 21 (.pick (.t 15) (.t 20) .F) 12 false,.o 22 12 21],.cond (.t 22) (sq [.r [.n 23 0,.n 24 1,.n 8 23,.n 9 24],.ret]) (.skip)],.r [.n 25 2,.n 26 3,.n 8 25,.n 9 26],.ret]⟩
def qiE(v:AV)(p:List Ins):Prop:=v = .fz p.length (rP p)\/v = .nils/\p=[]
def qcl(u v:List Ins×Int):List Ins×Int:=if v.2≠0\/(u.2=0/\u.1.length<v.1.length)then u else v
def qiE.clo{v:AV}{p:List Ins}(h:qiE v p):Go.Kc.clo v=true:=by
 rcases h with rfl|⟨rfl,_⟩
 .simp[Go.Kc.clo,qw]
 .rfl
def qjv(hc:qc P f xV=true)(u v:List Ins×Int)(x y:AV)(hx:qiE x u.1)(hy:qiE y v.1) :
  ∃z,qiE z (qcl u v).1/\qa P f [x,.j u.2,y,.j v.2] (.tup [z,.j (qcl u v).2]):=by
 have key:∀(h:Bool),(decide (v.2≠0\/(u.2=0/\u.1.length<v.1.length)))=h->qa P f [x,.j u.2,y,.j v.2] (.tup [if h=true then x else y,.j (if h=true then u.2 else v.2)]):=by
  intro h hh;refine qa.mk hc (by simp[qt,Go.Kc.clo,hx.clo,hy.clo]) ?_;simp only[xV,vI,simprocAttr]
  by_cases h1:v.2=0
  .by_cases h2:u.2=0
   .have e:h=decide (u.1.length<v.1.length):=by rw[<- hh];simp[h1,h2]
    rw[e];rcases hx with rfl|⟨rfl,hx⟩<;>rcases hy with rfl|⟨rfl,hy⟩
    .by_cases h3:u.1.length<v.1.length
     .simp +decide only[↓vS,vT,simprocAttr,h1,h2,Int.ofNat_lt,h3];simp[vZ,zj (qw _)]
     .simp +decide only[↓vS,vT,simprocAttr,h1,h2,Int.ofNat_lt,h3];simp[vZ,zj (qw _)]
    .have h3:¬u.1.length<v.1.length:=by rw[hy];simp
     have h3':¬(u.1.length:Int)<0:=by omega
     simp +decide only[↓vS,vT,simprocAttr,h1,h2,h3',h3];simp[vZ]
    .rw[hx]
     by_cases h3:0<v.1.length
     .have h3':(0:Int)<v.1.length:=by omega
      simp +decide only[↓vS,vT,simprocAttr,h1,h2,h3',h3];simp[vZ]
     .have h3':¬(0:Int)<v.1.length:=by omega
      simp +decide only[↓vS,vT,simprocAttr,h1,h2,h3',h3];simp[vZ,zj (qw _)]
    .rw[hx,hy];simp +decide only[↓vS,vT,simprocAttr,h1,h2];simp[vZ]
   .have e:h=false:=by rw[<- hh];simp[h1,h2]
    rw[e];simp +decide only[↓vS,vT,simprocAttr,h1,h2];simp[vZ,h1,Frz.self hy.clo]
  .have e:h=true:=by rw[<- hh];simp[h1]
   rw[e];simp +decide only[↓vS,vT,simprocAttr,h1];simp[vZ,Frz.self hx.clo]
 unfold qcl
 grind
end
end Go.Kc
end
