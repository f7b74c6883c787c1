/- Part 8 of the abstract machine and of the functions' walks. Conditions: with each theorem. -/
import Derived.Test.YtgaodkfneooonaaGreatBK7
set_option maxHeartbeats 4000000
set_option linter.unusedSectionVars false
set_option linter.unusedSimpArgs false
set_option linter.unusedVariables false
set_option linter.unnecessarySimpa false
section
namespace Go.Kc
variable {P:Program} {f:Nat}
def cVm(m:Mac)(d:GData):List AV:=.i .u32 m.a :: .i .u32 m.x::(rI .u32 m.cl++(qw d++[.i .u32 m.told,.b m.over]))
theorem qfS{m:Mac}{d:GData}(h:m.cl.length=16):(cVm m d).length=29:=by
 show (rI .u32 m.cl++(qw d++[AV.i .u32 m.told,AV.b m.over])).length+2=29;rw[List.length_append,qaM,h];rfl
theorem qm{m:Mac}{d:GData}:qu (cVm m d)=true:=by
 show qu (rI .u32 m.cl++(qw d++[AV.i .u32 m.told,AV.b m.over]))=true;rw[xr,x5];rfl
def qb6(a:Nat):IFn:=⟨[.tmp 4],.seq (.r [.q 3 (.box (.t 1)),.m 4 (.c (.i .u32 0))]) (.seq (.seq (.r [.f 5 0 3,.d 6 5,.l 7 a [.t 6]]) (.cond (.t 7) (.seq (.r [.n 8 0,.q 9 (.nilChk (.t 8)),.f 10 1 9,.d 11 10,.n 4 11]) (.ret)) (.skip))) (.seq (.r [.f 12 3 3,.d 13 12,.n 4 13]) (.ret)))⟩
theorem qxY{g:Nat}(hc:qc P f (qb6 g)=true)(hg:cWX P g)(m:Mac)(d:GData)(hl:m.cl.length=16)(i:Ins):Rd P f [.ptr 0 0,.agg (qD i)] [.cells 0 true false (cVm m d)] (.i .u32 (qcx m i)):=by
 refine Rd.mk hc (by simp[qam,bnd,qD]) rfl ?_;have hX:=hg i.code;have g1:(cVm m d)[1]?=some (.i .u32 m.x):=rfl;unfold qcx;simp only[qb6,qD,vI,simprocAttr];cases hx:jk i.code with
 | true =>
  rw[hx] at hX;simp +decide only[↓vS,vT,simprocAttr];refine hX.sc ?_;simp +decide only[↓vS,vT,simprocAttr,g1]
 | false =>
  rw[hx] at hX;simp +decide only[↓vS,vT,simprocAttr];refine hX.sc ?_;simp +decide only[↓vS,vT,simprocAttr]
def qCA(P:Program)(g:Nat):Prop:=∀(m:Mac) (d:GData),m.cl.length=16->∀i:Ins,Rd P g [.ptr 0 0,.agg (qD i)] [.cells 0 true false (cVm m d)] (.i .u32 (qcx m i))
def qCv(P:Program)(g:Nat):Prop:=∀c:Int,c4L.contains c=true->c≠5->∃(b:Int) (o:Option Nat) (k:Nat),qd P g [.i .u16 c] (.agg (qaH (b,o,some k)))∧∀x y:Int,qd P k [.i .u32 x,.i .u32 y] (.b (qbi (qP c) x y))
def qc5(a b:Nat):IFn:=⟨[.tmp 4],.seq (.r [.q 3 (.box (.t 1)),.m 4 (.k 0)]) (.seq (.blk 0 (.seq (.r [.f 6 0 3,.d 7 6,.q 8 (.bin .eql (.t 7) (.c (.i .u16 5))),.n 5 8]) (.cond (.t 5) (.seq (.r [.f 9 3 3,.d 10 9,.q 11 (.cvInt .i64 (.t 10)),.n 4 11]) (.ret)) (.seq (.reg true [.f 13 0 3,.d 14 13,.l 15 a [.t 14],.q 16 (.fld 2 none (.t 15)),.n 17 0,.q 18 (.nilChk (.t 17)),.f 19 0 18,.d 20 19,.n 21 0,.v 22 4 3,.l 23 b [.t 21,.t 22],⟨(some 24),.callV (.t 16) [.t 20,.t 23],none⟩,.n 12 24]) (.cond (.t 12) (.seq (.r [.f 25 1 3,.d 26 25,.q 27 (.cvInt .i64 (.t 26)),.n 4 27]) (.ret)) (.skip)))))) (.seq (.r [.f 28 2 3,.d 29 28,.q 30 (.cvInt .i64 (.t 29)),.n 4 30]) (.ret)))⟩
theorem qE5{g1 g2:Nat}(hc:qc P f (qc5 g1 g2)=true)(h1:qCv P g1)(h2:qCA P g2)(m:Mac)(d:GData)(hl:m.cl.length=16)(i:Ins)(hi:InsOk i)(hcls:ql i.code=4) :
  Upd P f [.ptr 0 0,.agg (qD i)] [.cells 0 true false (cVm m d)] (.i .i64 (qgA m i)) [.cells 0 true false (cVm m d)]:=by
 refine Upd.mk hc (by simp[qam,bnd,qD]) (by simp) ?_;have g0:(cVm m d)[0]?=some (.i .u32 m.a):=rfl;have wk:IntKind.wrap .i64 i.k=i.k:=by have:=hi.k0;have:=hi.k1;exact qq (by omega) (by omega)
 have wt:IntKind.wrap .i64 i.jt=i.jt:=by have:=hi.t0;have:=hi.t1;exact qq (by omega) (by omega)
 have wf:IntKind.wrap .i64 i.jf=i.jf:=by have:=hi.f0;have:=hi.f1;exact qq (by omega) (by omega)
 have hmem:c4L.contains i.code=true:=by
  unfold ql at hcls;cases hcm:qah i.code with
  | none=>rw[hcm] at hcls;cases hcls
  | some x =>
   rw[hcm] at hcls;obtain⟨q1,q2⟩:=qcG hcm;rw[← q2];exact qA5 x q1 hcls
 have hsec:=h2 m d hl i;unfold qgA;simp only[qc5,qD,vI,simprocAttr] at hsec ⊢
 by_cases c5:i.code=5
 ·simp +decide only[↓vS,vT,simprocAttr,c5,wk];intro _;refine⟨[0],?_⟩;simp[vw,qh,qm]
 obtain⟨b,o,k,hby,hho⟩:=h1 i.code hmem c5;simp only[qaH] at hby;rw[if_neg c5];simp +decide only[↓vS,vT,simprocAttr,c5];refine zD ?_;simp +decide only[↓vS,vT,simprocAttr];refine hby.pc ?_;simp +decide only[↓vS,vT,simprocAttr,fnO,g0];refine hsec.pc (vs:=[.ptr 0 0,.agg [.i .u16 i.code,.i .u8 i.jt,.i .u8 i.jf,.i .u32 i.k]]) [0] (Lent.of (by decide) ?_) ?_
 ·simp[vL,vw,zP qm,qN qm]
 simp +decide only[↓vS,vT,simprocAttr];refine (hho m.a (qcx m i)).pc ?_;simp only[Hp.up,Hp.down];cases hh:qbi (qP i.code) m.a (qcx m i) with
 | true =>
  simp +decide only[↓vS,vT,simprocAttr,wt];intro _;refine⟨[0],?_⟩;simp[vw,qh,qm]
 | false =>
  simp +decide only[↓vS,vT,simprocAttr,wf];intro _;refine⟨[0],?_⟩;simp[vw,qh,qm]
theorem qmw{m:Mac}{d:GData}(h:m.cl.length=16)(v:Bool):List.take 28 (cVm m d)++(AV.b v::List.drop 29 (cVm m d))=cVm { m with over:=v } d:=by
 have e:List.take 26 (rI .u32 m.cl++(qw d++[AV.i .u32 m.told,AV.b m.over]))++(AV.b v::List.drop 27 (rI .u32 m.cl++(qw d++[AV.i .u32 m.told,AV.b m.over])))=rI .u32 m.cl++(qw d++[AV.i .u32 m.told,AV.b v]):=by
  have hl:(rI .u32 m.cl).length=16:=by rw[qaM,h]
  rw[List.take_append,hl,List.take_of_length_le (by rw[hl];decide),List.drop_eq_nil_of_le (by rw[List.length_append,hl];exact Nat.le_refl 27),List.append_assoc];rfl
 show AV.i .u32 m.a::AV.i .u32 m.x::(List.take 26 (rI .u32 m.cl++(qw d++[AV.i .u32 m.told,AV.b m.over]))++(AV.b v::List.drop 27 (rI .u32 m.cl++(qw d++[AV.i .u32 m.told,AV.b m.over]))))=_;rw[e];rfl
def qwU(c a b:Int):Int:=if c=52 then a / b else if c=100∨c=116 then qc7 (decide (c=100)) (b % 32).toNat a else opM c a b
def qCw(P:Program)(g:Nat):Prop:=∀c:Int,c3L.contains c=true->∃(b:Int) (k:Nat) (o:Option Nat),qd P g [.i .u16 c] (.agg (qaH (b,some k,o)))∧∀x y:Int,u32 x->u32 y->(qP c=52->0<y)->qd P k [.i .u32 x,.i .u32 y] (.i .u32 (qwU (qP c) x y))
theorem qow:∀c:Int,c3L.contains c=true->(qP c=52↔c=52∨c=60)∧(qP c=100↔c=100∨c=108)∧(qP c=116↔c=116∨c=124)∧(jk c=true↔c≠132∧8<=c % 16):=by
 intro c h;have key:∀c ∈ c3L,(qP c=52↔c=52∨c=60)∧(qP c=100↔c=100∨c=108)∧(qP c=116↔c=116∨c=124)∧(jk c=true↔c≠132∧8<=c % 16):=by decide
 exact key c (by simpa using h)
def qb5(a b c:Nat):IFn:=⟨[],.seq (.r [.q 3 (.box (.t 1))]) (.seq (.r [.n 5 0,.v 6 4 3,.l 7 a [.t 5,.t 6],.n 4 7]) (.blk 0 (.seq (.r [.f 22 0 3,.d 23 22,.q 24 (.bin .eql (.t 23) (.c (.i .u16 52))),.n 25 24,.y 26 4 25,.g 27 (.bin .eql (.t 26) (.c (.i .u32 0))) 25 true,.p 28 25 27,.n 21 28]) (.cond (.t 21) (.r [.l 29 b [.k 44]]) (.seq (.r [.f 31 0 3,.d 32 31,.q 33 (.bin .eql (.t 32) (.c (.i .u16 60))),.n 34 33,.y 35 4 34,.g 36 (.bin .eql (.t 35) (.c (.i .u32 0))) 34 true,.p 37 34 36,.n 30 37]) (.cond (.t 30) (.r [.n 38 0,.q 39 (.nilChk (.t 38)),.f 40 28 39,.u (.store 1 (.t 40) .T)]) (.seq (.r [.f 42 0 3,.d 43 42,.q 44 (.bin .eql (.t 43) (.c (.i .u16 100))),.n 45 44,.h 46 0 3 45 false,.j 47 46 45 false,.g 48 (.bin .eql (.t 47) (.c (.i .u16 116))) 45 false,.o 49 45 48,.n 50 49,.y 51 4 50,.g 52 (.bin .gtr (.t 51) (.c (.i .u32 31))) 50 true,.p 53 50 52,.n 41 53]) (.cond (.t 41) (.r [.l 54 b [.k 45]]) (.reg true [.n 8 0,.f 9 0 3,.d 10 9,.l 11 c [.t 10],.q 12 (.fld 1 none (.t 11)),.n 13 0,.q 14 (.nilChk (.t 13)),.f 15 0 14,.d 16 15,.n 17 4,⟨(some 18),.callV (.t 12) [.t 16,.t 17],none⟩,.q 19 (.nilChk (.t 8)),.f 20 0 19,.u (.store 1 (.t 20) (.t 18))])))))))))⟩
theorem qDM{g1 g2 g3:Nat}(hc:qc P f (qb5 g1 g2 g3)=true)(h1:qCA P g1)(h3:qCw P g3)(m:Mac)(hm:MacOk m)(d:GData)(i:Ins)(hi:InsOk i)(hcls:ql i.code=3)(hz:(nuM m i).2=0) :
  Upd P f [.ptr 0 0,.agg (qD i)] [.cells 0 true false (cVm m d)] (.tup []) [.cells 0 true false (cVm (nuM m i).1 d)]:=by
 refine Upd.mk hc (by simp[qam,bnd,qD]) (by simp) ?_;have hl:=qfS (d:=d) hm.len;have g0:(cVm m d)[0]?=some (.i .u32 m.a):=rfl;have s0:∀v:Int,AV.i .u32 v::List.drop 1 (cVm m d)=cVm { m with a:=v } d:=fun _=>rfl
 have so:=qmw (d:=d) hm.len true
 have hmem:c3L.contains i.code=true:=by
  unfold ql at hcls;cases hcm:qah i.code with
  | none=>rw[hcm] at hcls;cases hcls
  | some x =>
   rw[hcm] at hcls;obtain⟨q1,q2⟩:=qcG hcm;rw[← q2];exact qul x q1 hcls
 obtain⟨e52,e100,e116,eX⟩:=qow i.code hmem
 have hB:u32 (qcx m i):=by
  unfold qcx;split
  ·exact hm.x
  ·exact⟨hi.k0,hi.k1⟩
 obtain⟨b,k,o,hby,hres⟩:=h3 i.code hmem;have hsec:=h1 m d hm.len i;have hr:=hres m.a (qcx m i) hm.a hB;have hb0:=hB.1;unfold nuM at hz ⊢;simp only[qaH] at hby;simp only[qb5,qD,vI,simprocAttr] at hsec ⊢;generalize qcx m i=y at hz hsec hr hb0 ⊢;simp +decide only[↓vS,vT,simprocAttr];refine hsec.sc (vs:=[.ptr 0 0,.agg [.i .u16 i.code,.i .u8 i.jt,.i .u8 i.jf,.i .u32 i.k]]) [0] (Lent.of (by decide) ?_) ?_
 ·simp[vL,vw,zP qm,qN qm]
 by_cases c60:i.code=60∧y=0
 ·have b52:=e52.2 (.inr c60.1);have hX:jk i.code=true:=eX.2 (by rw[c60.1];decide);rw[if_pos b52,if_neg (by omega),if_pos hX];simp +decide only[↓vS,vT,simprocAttr,c60.1,c60.2,hl,so];intro _;refine⟨[0],?_⟩;simp[vw,qh,qm]
 have h52:i.code=52->y≠0:=fun hc52 h0=>by
  have b52:=e52.2 (.inl hc52);have hX:¬jk i.code=true:=fun h=>by have:=(eX.1 h).2;rw[hc52] at this;omega
  rw[if_pos b52,if_neg (by omega),if_neg hX] at hz;cases hz
 have h60:i.code=60->y≠0:=fun hc60 h0=>c60 ⟨hc60,h0⟩
 have hsh:(i.code=100∨i.code=116)->y<=31:=fun hs=>by
  have hX:jk i.code=false:=by
   cases h:jk i.code with
   | false=>rfl
   | true =>
    have:=(eX.1 h).2;rcases hs with hs|hs<;>(rw[hs] at this;omega)
  have hb:qP i.code=100∨qP i.code=116:=hs.elim (fun h=>.inl (e100.2 (.inl h))) (fun h=>.inr (e116.2 (.inl h)))
  have hn:¬qP i.code=52:=by rcases hb with hb|hb<;>(rw[hb];decide)
  rw[if_neg hn,if_pos hb] at hz
  by_cases h31:31<y
  ·rw[if_pos ⟨hX,h31⟩] at hz;cases hz
  ·omega
 have hnu:(if qP i.code=52 then (if 0<y then (({ m with a:=m.a / y }:Mac),(0:Int)) else if jk i.code=true then ({ m with over:=true },0) else (m,44)) else if qP i.code=100∨qP i.code=116 then (if jk i.code=false∧31<y then (m,45) else ({ m with a:=qc7 (decide (qP i.code=100)) (y % 32).toNat m.a },0)) else ({ m with a:=opM (qP i.code) m.a y },0)).1={ m with a:=qwU (qP i.code) m.a y }:=by
  unfold qwU
  by_cases b52:qP i.code=52
  ·have hy:0<y:=by
    rcases e52.1 b52 with h|h
    ·have:=h52 h;omega
    ·have:=h60 h;omega
   rw[if_pos b52,if_pos hy,if_pos b52]
  ·rw[if_neg b52,if_neg b52]
   by_cases bs:qP i.code=100∨qP i.code=116
   ·rw[if_pos bs,if_pos bs,if_neg];rintro⟨hX,h31⟩
    have hc:i.code=100∨i.code=116:=by
     rcases bs with bs|bs
     ·rcases e100.1 bs with h|h
      ·exact .inl h
      ·have:jk i.code=true:=eX.2 (by rw[h];decide);rw[hX] at this;cases this
     ·rcases e116.1 bs with h|h
      ·exact .inr h
      ·have:jk i.code=true:=eX.2 (by rw[h];decide);rw[hX] at this;cases this
    have:=hsh hc;omega
   ·rw[if_neg bs,if_neg bs]
 rw[hnu]
 have hr:=hr fun b52=>by
  rcases e52.1 b52 with h|h
  ·have:=h52 h;omega
  ·have:=h60 h;omega
 generalize qwU (qP i.code) m.a y=R at hr ⊢;clear hz hnu hres
 by_cases d52:i.code=52
 ·have hy0:=h52 d52;simp +decide only[↓vS,vT,simprocAttr,d52,hy0];refine zD ?_;simp +decide only[↓vS,vT,simprocAttr];refine hby.pc ?_;simp +decide only[↓vS,vT,simprocAttr,fnO,g0];refine hr.pc ?_;simp only[Hp.up,Hp.down];simp +decide only[↓vS,vT,simprocAttr,hl,s0];intro _;refine⟨[0],?_⟩;simp[vw,qh,qm]
 by_cases d60:i.code=60
 ·have hy0:=h60 d60;simp +decide only[↓vS,vT,simprocAttr,d60,hy0];refine zD ?_;simp +decide only[↓vS,vT,simprocAttr];refine hby.pc ?_;simp +decide only[↓vS,vT,simprocAttr,fnO,g0];refine hr.pc ?_;simp only[Hp.up,Hp.down];simp +decide only[↓vS,vT,simprocAttr,hl,s0];intro _;refine⟨[0],?_⟩;simp[vw,qh,qm]
 by_cases d100:i.code=100
 ·have hy1:=hsh (.inl d100);have hy0:¬31<y:=by omega
  simp +decide only[↓vS,vT,simprocAttr,d100,hy0];refine zD ?_;simp +decide only[↓vS,vT,simprocAttr];refine hby.pc ?_;simp +decide only[↓vS,vT,simprocAttr,fnO,g0];refine hr.pc ?_;simp only[Hp.up,Hp.down];simp +decide only[↓vS,vT,simprocAttr,hl,s0];intro _;refine⟨[0],?_⟩;simp[vw,qh,qm]
 by_cases d116:i.code=116
 ·have hy1:=hsh (.inr d116);have hy0:¬31<y:=by omega
  simp +decide only[↓vS,vT,simprocAttr,d116,hy0];refine zD ?_;simp +decide only[↓vS,vT,simprocAttr];refine hby.pc ?_;simp +decide only[↓vS,vT,simprocAttr,fnO,g0];refine hr.pc ?_;simp only[Hp.up,Hp.down];simp +decide only[↓vS,vT,simprocAttr,hl,s0];intro _;refine⟨[0],?_⟩;simp[vw,qh,qm]
 simp +decide only[↓vS,vT,simprocAttr,d52,d60,d100,d116];refine zD ?_;simp +decide only[↓vS,vT,simprocAttr];refine hby.pc ?_;simp +decide only[↓vS,vT,simprocAttr,fnO,g0];refine hr.pc ?_;simp only[Hp.up,Hp.down];simp +decide only[↓vS,vT,simprocAttr,hl,s0];intro _;refine⟨[0],?_⟩;simp[vw,qh,qm]
structure Prs (P:Program) (g:Nat->Nat):Prop where
 p1:∀a b:Int,qd P (g 1) [.i .u32 a,.i .u32 b] (.i .u32 (opM 4 a b))
 p2:∀a b:Int,qd P (g 2) [.i .u32 a,.i .u32 b] (.i .u32 (opM 20 a b))
 p3:∀a b:Int,qd P (g 3) [.i .u32 a,.i .u32 b] (.i .u32 (opM 36 a b))
 p4:∀a b:Int,0<=a->a<=4294967295->0<b->qd P (g 4) [.i .u32 a,.i .u32 b] (.i .u32 (a / b))
 p5:∀a b:Int,qd P (g 5) [.i .u32 a,.i .u32 b] (.i .u32 (opM 68 a b))
 p6:∀a b:Int,qd P (g 6) [.i .u32 a,.i .u32 b] (.i .u32 (opM 84 a b))
 p7:∀a b:Int,0<=a->a<=4294967295->0<=b->qd P (g 7) [.i .u32 a,.i .u32 b] (.i .u32 (qc7 true (b % 32).toNat a))
 p8:∀a b:Int,0<=a->a<=4294967295->0<=b->qd P (g 8) [.i .u32 a,.i .u32 b] (.i .u32 (qc7 false (b % 32).toNat a))
 p9:∀a b:Int,qd P (g 9) [.i .u32 a,.i .u32 b] (.i .u32 (opM 164 a b))
 p10:∀a b:Int,qd P (g 10) [.i .u32 a,.i .u32 b] (.i .u32 (opM 132 a b))
 p11:∀a b:Int,qd P (g 11) [.i .u32 a,.i .u32 b] (.b (qbi 21 a b))
 p12:∀a b:Int,qd P (g 12) [.i .u32 a,.i .u32 b] (.b (qbi 37 a b))
 p13:∀a b:Int,qd P (g 13) [.i .u32 a,.i .u32 b] (.b (qbi 53 a b))
 p14:∀a b:Int,qd P (g 14) [.i .u32 a,.i .u32 b] (.b (qbi 69 a b))
def qDv(g:Nat->Nat):List (Int×Option Nat×Option Nat):=qAA (g 1) (g 2) (g 3) (g 4) (g 5) (g 6) (g 7) (g 8) (g 9) (g 10) (g 11) (g 12) (g 13) (g 14)
theorem qmp:∀c:Int,c3L.contains c=true∨(c4L.contains c=true∧c≠5)->qjs c=qP c:=by
 have k3:∀c ∈ c3L,qjs c=qP c:=by decide
 have k4:∀c ∈ c4L,c≠5->qjs c=qP c:=by decide
 rintro c (h|h)
 ·exact k3 c (by simpa using h)
 ·exact k4 c (by simpa using h.1) h.2
theorem qyy:∀c:Int,c3L.contains c=true->qP c=4∨qP c=20∨qP c=36∨qP c=52∨qP c=68∨qP c=84∨qP c=100∨qP c=116∨qP c=164∨qP c=132:=by
 have k:∀c ∈ c3L,qP c=4∨qP c=20∨qP c=36∨qP c=52∨qP c=68∨qP c=84∨qP c=100∨qP c=116∨qP c=164∨qP c=132:=by decide
 exact fun c h=>k c (by simpa using h)
theorem qyz:∀c:Int,c4L.contains c=true->c≠5->qP c=21∨qP c=37∨qP c=53∨qP c=69:=by
 have k:∀c ∈ c4L,c≠5->qP c=21∨qP c=37∨qP c=53∨qP c=69:=by decide
 exact fun c h=>k c (by simpa using h)
theorem byN{g:Nat->Nat}(hp:Prs P g)(hb:∀(c:Int) (r:Int×Option Nat×Option Nat),((qDv g).find? fun x=>decide (x.1=qjs c))=some r->qd P f [.i .u16 c] (.agg (qaH r))):qCw P f:=by
 intro c hc;have hbv:=qmp c (.inl hc);have hb:=hb c;rw[hbv] at hb;have n1:∀{x y:Int},u32 x->u32 y->0<=x∧x<=4294967295∧0<=y:=fun h h'=>⟨h.1,h.2,h'.1⟩
 rcases qyy c hc with e|e|e|e|e|e|e|e|e|e<;>rw[e] at hb ⊢
 ·exact⟨4,g 1,none,hb _ rfl,fun x y _ _ _=>hp.p1 x y⟩
 ·exact⟨20,g 2,none,hb _ rfl,fun x y _ _ _=>hp.p2 x y⟩
 ·exact⟨36,g 3,none,hb _ rfl,fun x y _ _ _=>hp.p3 x y⟩
 ·exact⟨52,g 4,none,hb _ rfl,fun x y hx _ h0=>hp.p4 x y hx.1 hx.2 (h0 rfl)⟩
 ·exact⟨68,g 5,none,hb _ rfl,fun x y _ _ _=>hp.p5 x y⟩
 ·exact⟨84,g 6,none,hb _ rfl,fun x y _ _ _=>hp.p6 x y⟩
 ·exact⟨100,g 7,none,hb _ rfl,fun x y hx hy _=>hp.p7 x y hx.1 hx.2 hy.1⟩
 ·exact⟨116,g 8,none,hb _ rfl,fun x y hx hy _=>hp.p8 x y hx.1 hx.2 hy.1⟩
 ·exact⟨164,g 9,none,hb _ rfl,fun x y _ _ _=>hp.p9 x y⟩
 ·exact⟨132,g 10,none,hb _ rfl,fun x y _ _ _=>hp.p10 x y⟩
theorem byJ{g:Nat->Nat}(hp:Prs P g)(hb:∀(c:Int) (r:Int×Option Nat×Option Nat),((qDv g).find? fun x=>decide (x.1=qjs c))=some r->qd P f [.i .u16 c] (.agg (qaH r))):qCv P f:=by
 intro c hc c5;have hbv:=qmp c (.inr ⟨hc,c5⟩);have hb:=hb c;rw[hbv] at hb;rcases qyz c hc c5 with e|e|e|e<;>rw[e] at hb ⊢
 ·exact⟨21,none,g 11,hb _ rfl,hp.p11⟩
 ·exact⟨37,none,g 12,hb _ rfl,hp.p12⟩
 ·exact⟨53,none,g 13,hb _ rfl,hp.p13⟩
 ·exact⟨69,none,g 14,hb _ rfl,hp.p14⟩
theorem qmv{m:Mac}{d:GData}{k:Nat}{c:Int}(h:m.cl[k]?=some c):(cVm m d)[2+k]?=some (.i .u32 c):=by
 rw[show 2+k=k+2 from by omega]
 show (rI .u32 m.cl++(qw d++[AV.i .u32 m.told,AV.b m.over]))[k]?=_;rw[List.getElem?_append_left (by rw[qaM];exact (zzS.1 h).1),qlV,h];rfl
theorem qrF{m:Mac}{d:GData}(h:m.cl.length=16):List.take 9 (List.drop 18 (cVm m d))=qw d:=by
 show List.take 9 (List.drop 16 (rI .u32 m.cl++(qw d++[AV.i .u32 m.told,AV.b m.over])))=_;have hl:(rI .u32 m.cl).length=16:=by rw[qaM,h]
 rw[List.drop_append,hl,List.drop_eq_nil_of_le (by rw[hl];exact Nat.le_refl _)];rfl
def qc4(a:Nat):IFn:=⟨[.tmp 4],.seq (.r [.m 4 (.c (.nilp))]) (.seq (.seq (.r [.n 5 1,.q 6 (.bin .geq (.t 5) (.c (.i .u32 16)))]) (.cond (.t 6) (.r [.l 7 a [.k 43]]) (.skip))) (.seq (.r [.n 8 0,.n 9 1,.q 10 (.nilChk (.t 8)),.f 11 2 10,.q 12 (.iAddrA 16 1 (.t 11) (.t 9)),.n 4 12]) (.ret)))⟩
theorem qE4{g:Nat}(hc:qc P f (qc4 g)=true)(m:Mac)(d:GData)(n:Nat)(hn:n<16):Upd P f [.ptr 0 0,.i .u32 (n:Int)] [.cells 0 true false (cVm m d)] (.ptr 0 (2+n)) [.cells 0 true false (cVm m d)]:=by
 refine Upd.mk hc (by simp[qam,bnd]) (by simp) ?_;have hn':¬(16:Int)<=(n:Int):=by omega
 simp only[qc4,vI,simprocAttr];simp +decide only[↓vS,vT,simprocAttr,hn',hn,Nat.mul_one];intro _;refine⟨[0],?_⟩;simp[vw,qh,qm]
def qrA(P:Program)(g:Nat):Prop:=∀(m:Mac) (d:GData) (n:Nat),n<16->Upd P g [.ptr 0 0,.i .u32 (n:Int)] [.cells 0 true false (cVm m d)] (.ptr 0 (2+n)) [.cells 0 true false (cVm m d)]
def c1L:List Int:=[32,128,0,96,129,1,97]
theorem qA4:∀x ∈ qaF,x.2.2=1->c1L.contains x.1=true:=by decide
def qc6(a b c:Nat):IFn:=⟨[],.seq (.r [.q 3 (.box (.t 1))]) (.seq (.r [.f 6 0 3,.d 7 6]) (.blk 0 (.seq (.r [.q 9 (.bin .eql (.t 7) (.c (.i .u16 32))),.n 8 9]) (.cond (.t 8) (.seq (.reg true [.n 11 0,.q 12 (.nilChk (.t 11)),.f 13 18 12,.v 14 9 13,.f 15 3 3,.d 16 15,.l 17 a [.t 14,.t 16],.n 10 17,.x 18 10 0,.x 19 10 1,.n 4 18,.n 5 19]) (.seq (.seq (.r [.n 20 5,.w 21 .neq 20 0]) (.cond (.t 21) (.r [.n 22 5,.l 23 b [.t 22]]) (.skip))) (.r [.n 24 0,.n 25 4,.q 26 (.nilChk (.t 24)),.f 27 0 26,.u (.store 1 (.t 27) (.t 25))]))) (.seq (.r [.q 29 (.bin .eql (.t 7) (.c (.i .u16 128))),.n 28 29]) (.cond (.t 28) (.r [.n 30 0,.q 31 (.nilChk (.t 30)),.f 32 0 31,.u (.store 1 (.t 32) (.c (.i .u32 64)))]) (.seq (.r [.q 34 (.bin .eql (.t 7) (.c (.i .u16 129))),.n 33 34]) (.cond (.t 33) (.r [.n 35 0,.q 36 (.nilChk (.t 35)),.f 37 1 36,.u (.store 1 (.t 37) (.c (.i .u32 64)))]) (.seq (.r [.q 39 (.bin .eql (.t 7) (.c (.i .u16 0))),.n 38 39]) (.cond (.t 38) (.r [.n 40 0,.f 41 3 3,.d 42 41,.q 43 (.nilChk (.t 40)),.f 44 0 43,.u (.store 1 (.t 44) (.t 42))]) (.seq (.r [.q 46 (.bin .eql (.t 7) (.c (.i .u16 1))),.n 45 46]) (.cond (.t 45) (.r [.n 47 0,.f 48 3 3,.d 49 48,.q 50 (.nilChk (.t 47)),.f 51 1 50,.u (.store 1 (.t 51) (.t 49))]) (.seq (.r [.q 53 (.bin .eql (.t 7) (.c (.i .u16 96))),.n 52 53]) (.cond (.t 52) (.r [.n 54 0,.n 55 0,.f 56 3 3,.d 57 56,.l 58 c [.t 55,.t 57],.q 59 (.nilChk (.t 58)),.d 60 59,.q 61 (.nilChk (.t 54)),.f 62 0 61,.u (.store 1 (.t 62) (.t 60))]) (.seq (.r [.q 64 (.bin .eql (.t 7) (.c (.i .u16 97))),.n 63 64]) (.cond (.t 63) (.r [.n 65 0,.n 66 0,.f 67 3 3,.d 68 67,.l 69 c [.t 66,.t 68],.q 70 (.nilChk (.t 69)),.d 71 70,.q 72 (.nilChk (.t 65)),.f 73 1 72,.u (.store 1 (.t 73) (.t 71))]) (.skip)))))))))))))))))⟩
theorem qE6{g1 g2 g3:Nat}(hc:qc P f (qc6 g1 g2 g3)=true)(h1:qrJ P g1)(h3:qrA P g3)(m:Mac)(hm:MacOk m)(d:GData)(hd:DatOk d)(i:Ins)(hi:InsOk i)(hcls:ql i.code=1)(hz:(qdt m i d).2=0) :
  Upd P f [.ptr 0 0,.agg (qD i)] [.cells 0 true false (cVm m d)] (.tup []) [.cells 0 true false (cVm (qdt m i d).1 d)]:=by
 refine Upd.mk hc (by simp[qam,bnd,qD]) (by simp) ?_;have hl:=qfS (d:=d) hm.len;have g0:(cVm m d)[0]?=some (.i .u32 m.a):=rfl;have s0:∀v:Int,AV.i .u32 v::List.drop 1 (cVm m d)=cVm { m with a:=v } d:=fun _=>rfl
 have s1:∀v:Int,List.take 1 (cVm m d)++(AV.i .u32 v::List.drop 2 (cVm m d))=cVm { m with x:=v } d:=fun _=>rfl
 have hdt:=qrF (d:=d) hm.len
 have hmem:c1L.contains i.code=true:=by
  unfold ql at hcls;cases hcm:qah i.code with
  | none=>rw[hcm] at hcls;cases hcls
  | some x =>
   rw[hcm] at hcls;obtain⟨q1,q2⟩:=qcG hcm;rw[← q2];exact qA4 x q1 hcls
 simp only[c1L,List.contains_iff_mem,List.mem_cons,List.not_mem_nil,or_false] at hmem;have hw:=h1 d hd i.k hi.k0 hi.k1;unfold qlk at hw;unfold qdt qfD at hz ⊢;have k0:=hi.k0;simp only[qc6,qD,vI,simprocAttr];rcases hmem with e|e|e|e|e|e|e
 ·by_cases hb:i.k % 4≠0∨64<=i.k
  ·simp[e,hb] at hz
  ·rw[if_neg hb] at hw;simp +decide only[↓vS,vT,simprocAttr,e];refine zD ?_;simp +decide only[↓vS,vT,simprocAttr,hl,hdt];refine hw.pc ?_;simp +decide only[↓vS,vT,simprocAttr,hl,s0];intro _;refine⟨[0],?_⟩;simp only[e,if_neg hb];simp[vw,qh,qm]
 ·simp +decide only[↓vS,vT,simprocAttr,e,hl,s0];intro _;refine⟨[0],?_⟩;simp[vw,qh,qm,e]
 ·simp +decide only[↓vS,vT,simprocAttr,e,hl,s0];intro _;refine⟨[0],?_⟩;simp[vw,qh,qm,e]
 rotate_left
 ·simp +decide only[↓vS,vT,simprocAttr,e,hl,s1];intro _;refine⟨[0],?_⟩;simp[vw,qh,qm,e]
 ·simp +decide only[↓vS,vT,simprocAttr,e,hl,s1];intro _;refine⟨[0],?_⟩;simp[vw,qh,qm,e]
 ·have hb:¬15<i.k:=by
   intro h;simp[e,h] at hz
  obtain⟨n,hn⟩:∃n:Nat,i.k=(n:Int):=⟨i.k.toNat,by omega⟩
  have hk16:n<16:=by omega
  obtain⟨c,hcx⟩:∃c,m.cl[n]?=some c:=⟨_,zzE (by rw[hm.len];exact hk16)⟩;have gc:=qmv (m:=m) (d:=d) hcx;have htn:i.k.toNat=n:=by omega
  simp +decide only[↓vS,vT,simprocAttr,e,hn];refine (h3 m d n hk16).sc (vs:=[.ptr 0 0,.i .u32 (n:Int)]) [0] (Lent.of (by decide) ?_) ?_
  ·simp[vL,vw,zP qm,qN qm]
  simp only[vK,simprocAttr,qN qm];simp +decide only[↓vS,vT,simprocAttr,gc,hl,s1];intro _;refine⟨[0],?_⟩;have hb':¬(15:Int)<(n:Int):=by omega
  simp[vw,qh,qm,e,hn,hb',hcx]
 ·have hb:¬15<i.k:=by
   intro h;simp[e,h] at hz
  obtain⟨n,hn⟩:∃n:Nat,i.k=(n:Int):=⟨i.k.toNat,by omega⟩
  have hk16:n<16:=by omega
  obtain⟨c,hcx⟩:∃c,m.cl[n]?=some c:=⟨_,zzE (by rw[hm.len];exact hk16)⟩;have gc:=qmv (m:=m) (d:=d) hcx;have htn:i.k.toNat=n:=by omega
  simp +decide only[↓vS,vT,simprocAttr,e,hn];refine (h3 m d n hk16).sc (vs:=[.ptr 0 0,.i .u32 (n:Int)]) [0] (Lent.of (by decide) ?_) ?_
  ·simp[vL,vw,zP qm,qN qm]
  simp only[vK,simprocAttr,qN qm];simp +decide only[↓vS,vT,simprocAttr,gc,hl,s0];intro _;refine⟨[0],?_⟩;have hb':¬(15:Int)<(n:Int):=by omega
  simp[vw,qh,qm,e,hn,hb',hcx]
theorem qrH{m:Mac}{d:GData}{k:Nat}(h:k<m.cl.length)(v:Int):List.take (2+k) (cVm m d)++(AV.i .u32 v::List.drop (2+k+1) (cVm m d))=cVm { m with cl:=m.cl.set k v } d:=by
 obtain⟨R,hR⟩:∃R,R=qw d++[AV.i .u32 m.told,AV.b m.over]:=⟨_,rfl⟩
 have e:List.take k (rI .u32 m.cl++R)++(AV.i .u32 v::List.drop (k+1) (rI .u32 m.cl++R))=rI .u32 (m.cl.set k v)++R:=by
  rw[List.take_append_of_le_length (by rw[qaM];omega),List.drop_append_of_le_length (by rw[qaM];omega),← qoe h v,List.append_assoc];rfl
 rw[show 2+k=k+2 from by omega]
 subst hR;show AV.i .u32 m.a::AV.i .u32 m.x::(List.take k (rI .u32 m.cl++(qw d++[AV.i .u32 m.told,AV.b m.over]))++(AV.i .u32 v::List.drop (k+1) (rI .u32 m.cl++(qw d++[AV.i .u32 m.told,AV.b m.over]))))=_;rw[e];rfl
theorem qmx{m:Mac}{d:GData}(h:m.cl.length=16)(v:Int):List.take 27 (cVm m d)++(AV.i .u32 v::List.drop 28 (cVm m d))=cVm { m with told:=v } d:=by
 have e:List.take 25 (rI .u32 m.cl++(qw d++[AV.i .u32 m.told,AV.b m.over]))++(AV.i .u32 v::List.drop 26 (rI .u32 m.cl++(qw d++[AV.i .u32 m.told,AV.b m.over])))=rI .u32 m.cl++(qw d++[AV.i .u32 v,AV.b m.over]):=by
  have hl:(rI .u32 m.cl).length=16:=by rw[qaM,h]
  rw[List.take_append,hl,List.take_of_length_le (by rw[hl];decide),List.drop_append,hl,List.drop_eq_nil_of_le (by rw[hl];decide),List.append_assoc];rfl
 show AV.i .u32 m.a::AV.i .u32 m.x::(List.take 25 (rI .u32 m.cl++(qw d++[AV.i .u32 m.told,AV.b m.over]))++(AV.i .u32 v::List.drop 26 (rI .u32 m.cl++(qw d++[AV.i .u32 m.told,AV.b m.over]))))=_;rw[e];rfl
theorem qxc:∀x ∈ qaF,(x.2.2=2->x.1=2∨x.1=3)∧(x.2.2=5->x.1=6∨x.1=22)∧(x.2.2=6->x.1=7∨x.1=135)∧1<=x.2.2∧x.2.2<=6:=by decide
def qyK(P:Program)(g:Nat):Prop:=∀(m:Mac),MacOk m->∀d:GData,DatOk d->∀i:Ins,InsOk i->ql i.code=1->(qdt m i d).2=0->Upd P g [.ptr 0 0,.agg (qD i)] [.cells 0 true false (cVm m d)] (.tup []) [.cells 0 true false (cVm (qdt m i d).1 d)]
def qCy(P:Program)(g:Nat):Prop:=∀(m:Mac),MacOk m->∀(d:GData) (i:Ins),InsOk i->ql i.code=3->(nuM m i).2=0->Upd P g [.ptr 0 0,.agg (qD i)] [.cells 0 true false (cVm m d)] (.tup []) [.cells 0 true false (cVm (nuM m i).1 d)]
def qyI(P:Program)(g:Nat):Prop:=∀(m:Mac) (d:GData),m.cl.length=16->∀i:Ins,InsOk i->ql i.code=4->Upd P g [.ptr 0 0,.agg (qD i)] [.cells 0 true false (cVm m d)] (.i .i64 (qgA m i)) [.cells 0 true false (cVm m d)]
def qec(a b c d e g:Nat):IFn:=⟨[.tmp 4],.seq (.r [.q 3 (.box (.t 1)),.m 4 (.k 0)]) (.seq (.seq (.r [.f 6 0 3,.d 7 6,.l 8 a [.t 7]]) (.blk 0 (.seq (.r [.q 11 (.bin .eql (.t 8) (.c (.i .u8 1))),.n 10 11]) (.cond (.t 10) (.r [.n 12 0,.v 13 4 3,.l 14 b [.t 12,.t 13]]) (.seq (.r [.q 16 (.bin .eql (.t 8) (.c (.i .u8 2))),.n 15 16]) (.cond (.t 15) (.seq (.r [.n 17 0,.q 18 (.nilChk (.t 17)),.f 19 0 18,.d 20 19,.n 5 20]) (.seq (.seq (.r [.f 21 0 3,.d 22 21,.q 23 (.bin .eql (.t 22) (.c (.i .u16 3)))]) (.cond (.t 23) (.r [.n 24 0,.q 25 (.nilChk (.t 24)),.f 26 1 25,.d 27 26,.n 5 27]) (.skip))) (.r [.n 28 0,.f 29 3 3,.d 30 29,.l 31 c [.t 28,.t 30],.n 32 5,.q 33 (.nilChk (.t 31)),.u (.store 1 (.t 33) (.t 32))]))) (.seq (.r [.q 35 (.bin .eql (.t 8) (.c (.i .u8 3))),.n 34 35]) (.cond (.t 34) (.r [.n 36 0,.v 37 4 3,.l 38 d [.t 36,.t 37]]) (.seq (.r [.q 40 (.bin .eql (.t 8) (.c (.i .u8 4))),.n 39 40]) (.cond (.t 39) (.seq (.r [.n 41 0,.v 42 4 3,.l 43 e [.t 41,.t 42],.n 4 43]) (.ret)) (.seq (.r [.q 45 (.bin .eql (.t 8) (.c (.i .u8 5))),.n 44 45]) (.cond (.t 44) (.seq (.r [.n 46 0,.n 47 0,.f 48 3 3,.d 49 48,.q 50 (.nilChk (.t 46)),.f 51 27 50,.u (.store 1 (.t 51) (.t 49)),.q 52 (.nilChk (.t 47)),.f 53 28 52,.u (.store 1 (.t 53) .T)]) (.seq (.r [.f 54 0 3,.d 55 54,.q 56 (.bin .eql (.t 55) (.c (.i .u16 22)))]) (.cond (.t 56) (.r [.n 57 0,.n 58 0,.q 59 (.nilChk (.t 58)),.f 60 0 59,.d 61 60,.q 62 (.nilChk (.t 57)),.f 63 27 62,.u (.store 1 (.t 63) (.t 61))]) (.skip)))) (.seq (.r [.q 65 (.bin .eql (.t 8) (.c (.i .u8 6))),.n 64 65]) (.cond (.t 64) (.seq (.r [.f 66 0 3,.d 67 66,.q 68 (.bin .eql (.t 67) (.c (.i .u16 7)))]) (.cond (.t 68) (.r [.n 69 0,.n 70 0,.q 71 (.nilChk (.t 70)),.f 72 0 71,.d 73 72,.q 74 (.nilChk (.t 69)),.f 75 1 74,.u (.store 1 (.t 75) (.t 73))]) (.r [.n 76 0,.n 77 0,.q 78 (.nilChk (.t 77)),.f 79 1 78,.d 80 79,.q 81 (.nilChk (.t 76)),.f 82 0 81,.u (.store 1 (.t 82) (.t 80))]))) (.r [.l 9 g [.k 40]]))))))))))))))) (.seq (.r [.m 4 (.k 0)]) (.ret)))⟩
theorem qFv{g1 g2 g3 g4 g5 g6:Nat}(hc:qc P f (qec g1 g2 g3 g4 g5 g6)=true)(h1:cOf P g1)(h2:qyK P g2)(h3:qrA P g3)(h4:qCy P g4)(h5:qyI P g5)(m:Mac)(hm:MacOk m)(d:GData)(hd:DatOk d)(i:Ins)(hi:InsOk i)(hz:(doR m i d).2.2=0) :
  Upd P f [.ptr 0 0,.agg (qD i)] [.cells 0 true false (cVm m d)] (.i .i64 (doR m i d).2.1) [.cells 0 true false (cVm (doR m i d).1 d)]:=by
 refine Upd.mk hc (by simp[qam,bnd,qD]) (by simp) ?_;have hl:=qfS (d:=d) hm.len;have g0:(cVm m d)[0]?=some (.i .u32 m.a):=rfl;have g1':(cVm m d)[1]?=some (.i .u32 m.x):=rfl;have s0:∀v:Int,AV.i .u32 v::List.drop 1 (cVm m d)=cVm { m with a:=v } d:=fun _=>rfl
 have s1:∀v:Int,List.take 1 (cVm m d)++(AV.i .u32 v::List.drop 2 (cVm m d))=cVm { m with x:=v } d:=fun _=>rfl
 have hof:=h1 i.code;unfold doR at hz ⊢;have hkn:¬zN i.code=false:=fun h=>by rw[if_pos h] at hz;cases hz
 rw[if_neg hkn] at hz ⊢
 obtain⟨x,hcm⟩:∃x,qah i.code=some x:=by
  unfold zN at hkn;cases h:qah i.code with
  | none=>rw[h] at hkn;exact absurd rfl hkn
  | some x=>exact⟨x,rfl⟩
 obtain⟨hxm,hxc⟩:=qcG hcm;have hcl:ql i.code=x.2.2:=by unfold ql;rw[hcm];rfl
 obtain⟨t2,t5,t6,t1a,t1b⟩:=qxc x hxm;rw[← hcl,hxc] at t2 t5 t6;rw[← hcl] at t1a t1b;have hcase:ql i.code=1∨ql i.code=2∨ql i.code=3∨ql i.code=4∨ql i.code=5∨ql i.code=6:=by omega
 simp only[qec,qD,vI,simprocAttr];rcases hcase with c|c|c|c|c|c
 ·rw[if_pos (.inl c)] at hz ⊢;have hu:=h2 m hm d hd i hi c hz;simp only[qD] at hu;simp +decide only[↓vS,vT,simprocAttr];refine hof.sc ?_;simp +decide only[↓vS,vT,simprocAttr,c];refine hu.sc (vs:=[.ptr 0 0,.agg [.i .u16 i.code,.i .u8 i.jt,.i .u8 i.jf,.i .u32 i.k]]) [0] (Lent.of (by decide) ?_) ?_
  ·simp[vL,vw,zP qm,qN qm]
  simp only[vK,simprocAttr,qN qm];simp +decide only[↓vS,vT,simprocAttr];intro _;refine⟨[0],?_⟩;simp[vw,qh,qm]
 ·rw[if_pos (.inr (.inl c))] at hz ⊢;unfold qdt qfD at hz ⊢
  have hb:¬15<i.k:=by
   intro h;rcases t2 c with e|e<;>simp[e,h] at hz
  have k0:=hi.k0;obtain⟨n,hn⟩:∃n:Nat,i.k=(n:Int):=⟨i.k.toNat,by omega⟩
  have hk16:n<16:=by omega
  have sc:=fun v=>qrH (m:=m) (d:=d) (k:=n) (by rw[hm.len];exact hk16) v
  have hle:2+n+1<=29:=by omega
  have hb':¬(15:Int)<(n:Int):=by omega
  rcases t2 c with e|e
  ·simp +decide only[↓vS,vT,simprocAttr];refine hof.sc ?_;simp +decide only[↓vS,vT,simprocAttr,c,e,hn,hl,g0,g1'];refine (h3 m d n hk16).sc (vs:=[.ptr 0 0,.i .u32 (n:Int)]) [0] (Lent.of (by decide) ?_) ?_
   ·simp[vL,vw,zP qm,qN qm]
   simp only[vK,simprocAttr,qN qm];simp +decide only[↓vS,vT,simprocAttr,hl,sc,hle];intro _;refine⟨[0],?_⟩;simp[vw,qh,qm,e,hn,hb']
  ·simp +decide only[↓vS,vT,simprocAttr];refine hof.sc ?_;simp +decide only[↓vS,vT,simprocAttr,c,e,hn,hl,g0,g1'];refine (h3 m d n hk16).sc (vs:=[.ptr 0 0,.i .u32 (n:Int)]) [0] (Lent.of (by decide) ?_) ?_
   ·simp[vL,vw,zP qm,qN qm]
   simp only[vK,simprocAttr,qN qm];simp +decide only[↓vS,vT,simprocAttr,hl,sc,hle];intro _;refine⟨[0],?_⟩;simp[vw,qh,qm,e,hn,hb']
 ·rw[if_neg (by omega),if_pos c] at hz ⊢;have hu:=h4 m hm d i hi c hz;simp only[qD] at hu;simp +decide only[↓vS,vT,simprocAttr];refine hof.sc ?_;simp +decide only[↓vS,vT,simprocAttr,c];refine hu.sc (vs:=[.ptr 0 0,.agg [.i .u16 i.code,.i .u8 i.jt,.i .u8 i.jf,.i .u32 i.k]]) [0] (Lent.of (by decide) ?_) ?_
  ·simp[vL,vw,zP qm,qN qm]
  simp only[vK,simprocAttr,qN qm];simp +decide only[↓vS,vT,simprocAttr];intro _;refine⟨[0],?_⟩;simp[vw,qh,qm]
 ·rw[if_neg (by omega),if_neg (by omega),if_pos c];have hu:=h5 m d hm.len i hi c;simp only[qD] at hu;simp +decide only[↓vS,vT,simprocAttr];refine hof.sc ?_;simp +decide only[↓vS,vT,simprocAttr,c];refine hu.sc (vs:=[.ptr 0 0,.agg [.i .u16 i.code,.i .u8 i.jt,.i .u8 i.jf,.i .u32 i.k]]) [0] (Lent.of (by decide) ?_) ?_
  ·simp[vL,vw,zP qm,qN qm]
  simp only[vK,simprocAttr,qN qm];simp +decide only[↓vS,vT,simprocAttr];intro _;refine⟨[0],?_⟩;simp[vw,qh,qm]
 ·rw[if_neg (by omega),if_neg (by omega),if_neg (by omega)];have tt:=fun v=>qmx (d:=d) hm.len v
  obtain⟨m1,hm1⟩:∃m1,m1={ m with told:=i.k }:=⟨_,rfl⟩;have tk:=tt i.k;rw[← hm1] at tk;have hl1:(cVm m1 d).length=29:=qfS (by rw[hm1];exact hm.len);have to:List.take 28 (cVm m1 d)++(AV.b true::List.drop 29 (cVm m1 d))=cVm { m1 with over:=true } d:=qmw (by rw[hm1];exact hm.len) true;obtain⟨m2,hm2⟩:∃m2,m2={ m1 with over:=true }:=⟨_,rfl⟩;rw[← hm2] at to;have hl2:(cVm m2 d).length=29:=qfS (by rw[hm2,hm1];exact hm.len);have g02:(cVm m2 d)[0]?=some (.i .u32 m.a):=by rw[hm2,hm1];rfl
  have t3:List.take 27 (cVm m2 d)++(AV.i .u32 m.a::List.drop 28 (cVm m2 d))=cVm { m2 with told:=m.a } d:=qmx (by rw[hm2,hm1];exact hm.len) m.a;rcases t5 c with e|e
  ·simp +decide only[↓vS,vT,simprocAttr];refine hof.sc ?_;simp +decide only[↓vS,vT,simprocAttr,c,e,hl,tk,hl1,to];intro _;refine⟨[0],?_⟩;simp[vw,qh,qm,qpq,e,hm2,hm1]
  ·simp +decide only[↓vS,vT,simprocAttr];refine hof.sc ?_;simp +decide only[↓vS,vT,simprocAttr,c,e,hl,tk,hl1,to,hl2,g02,t3];intro _;refine⟨[0],?_⟩;simp[vw,qh,qm,qpq,e,hm2,hm1]
 ·rw[if_pos (.inr (.inr c))] at hz ⊢;unfold qdt qfD at hz ⊢;rcases t6 c with e|e
  ·simp +decide only[↓vS,vT,simprocAttr];refine hof.sc ?_;simp +decide only[↓vS,vT,simprocAttr,c,e,hl,g0,s1];intro _;refine⟨[0],?_⟩;simp[vw,qh,qm,e]
  ·simp +decide only[↓vS,vT,simprocAttr];refine hof.sc ?_;simp +decide only[↓vS,vT,simprocAttr,c,e,hl,g1',s0];intro _;refine⟨[0],?_⟩;simp[vw,qh,qm,e]
end Go.Kc
end
section
namespace Go.Kc
theorem qo2{i:Ins}{n:Nat}(h:qe6 i n=0):qgF i=false∧qf9 i=false∧qhc i=false∧qhd i=false∧qhe i=false∧qhf i n=false:=by
 unfold qe6 at h;revert h;cases qgF i<;>cases qf9 i<;>cases qhc i<;>cases qhd i<;>cases qhe i<;>cases qhf i n<;>simp
theorem qp1{m:Mac}{i:Ins}(hi:InsOk i){d:GData}{n:Nat}(h:qe6 i n=0):(doR m i d).2.2=0:=by
 obtain⟨b1,b2,b3,b4,b5,_⟩:=qo2 h;have hkn:¬zN i.code=false:=by unfold qgF at b1;simpa using b1
 unfold doR;rw[if_neg hkn]
 by_cases hA:ql i.code=1∨ql i.code=2∨ql i.code=6
 ·rw[if_pos hA];show (qdt m i d).2=0;unfold qdt
  have hc:¬(qfD i=true∧15<i.k):=by
   rintro⟨h1,h2⟩;unfold qfD at h1;have h16:16<=i.k:=by omega
   unfold qhc at b3;have h2c:=qyQ (c:=i.code);simp only[Bool.or_eq_true,decide_eq_true_eq] at h1
   have:(decide (i.code=96)||decide (i.code=97)||decide (ql i.code=2))=true:=by
    simp only[Bool.or_eq_true,decide_eq_true_eq];rw[h2c];rcases h1 with ((h1|h1)|h1)|h1
    ·exact .inl (.inl h1)
    ·exact .inl (.inr h1)
    ·exact .inr (.inl h1)
    ·exact .inr (.inr h1)
   rw[this,Bool.true_and] at b3;simp[h16] at b3
  rw[if_neg hc]
  by_cases c32:i.code=32
  ·rw[if_pos c32]
   have:¬(i.k % 4≠0∨64<=i.k):=by
    intro h';unfold qf9 at b2;rw[c32] at b2;rcases h' with h'|h'<;>simp[h'] at b2
   rw[if_neg this]
  rw[if_neg c32]
  repeat' (first|rfl|(split))
 rw[if_neg hA]
 by_cases c3:ql i.code=3
 ·rw[if_pos c3];show (nuM m i).2=0
  have hmem:c3L.contains i.code=true:=by
   have c3':=c3;unfold ql at c3';cases hcm:qah i.code with
   | none=>rw[hcm] at c3';cases c3'
   | some x =>
    rw[hcm] at c3';obtain⟨q1,q2⟩:=qcG hcm;rw[← q2];exact qul x q1 c3'
  obtain⟨e52,e100,e116,eX⟩:=qow i.code hmem;unfold nuM
  by_cases b52:qP i.code=52
  ·rw[if_pos b52]
   by_cases hy:0<qcx m i
   ·rw[if_pos hy]
   ·rw[if_neg hy]
    by_cases hX:jk i.code=true
    ·rw[if_pos hX]
    ·exfalso
     have hc:i.code=52:=by
      rcases e52.1 b52 with h'|h'
      ·exact h'
      ·exact absurd (eX.2 (by rw[h'];decide)) hX
     unfold qhd at b4;unfold qcx at hy;rw[if_neg hX] at hy;have:i.k=0:=by have:=hi.k0;omega
     simp[hc,this] at b4
  ·rw[if_neg b52]
   by_cases bs:qP i.code=100∨qP i.code=116
   ·rw[if_pos bs]
    by_cases hq:jk i.code=false∧31<qcx m i
    ·exfalso
     obtain⟨hX,h31⟩:=hq
     have hc:i.code=100∨i.code=116:=by
      rcases bs with bs|bs
      ·rcases e100.1 bs with h'|h'
       ·exact .inl h'
       ·have:jk i.code=true:=eX.2 (by rw[h'];decide);rw[hX] at this;cases this
      ·rcases e116.1 bs with h'|h'
       ·exact .inr h'
       ·have:jk i.code=true:=eX.2 (by rw[h'];decide);rw[hX] at this;cases this
     unfold qcx at h31;rw[hX,if_neg (by simp)] at h31;unfold qhe at b5;rcases hc with hc|hc<;>simp[hc] at b5<;>omega
    ·rw[if_neg hq]
   ·rw[if_neg bs]
 rw[if_neg c3]
 by_cases c4:ql i.code=4
 ·rw[if_pos c4]
 ·rw[if_neg c4]
theorem qy1{p:List Ins}(hok:∀i ∈ p,InsOk i)(hall:∀(k:Nat) (i:Ins),p[k]?=some i->qe6 i (p.length-1-k)=0)(hlast:ql (qhD p)=5){k:Nat}{i:Ins}(h:p[k]?=some i)(m:Mac)(d:GData) :
  (doR m i d).1.over=true∨k+1+(doR m i d).2.1.toNat<p.length:=by
 have hk:k<p.length:=(zzS.1 h).1;have hi:=hok i (zzM h);obtain⟨b1,_,_,_,_,b6⟩:=qo2 (hall k i h);have hkn:¬zN i.code=false:=by unfold qgF at b1;simpa using b1
 have notlast:ql i.code≠5->k+1<p.length:=by
  intro hc
  by_cases e:k=p.length-1
  ·exfalso
   apply hc;have:qhD p=i.code:=by unfold qhD;rw[List.getD_eq_getElem?_getD,← e,h];rfl
   rw[← this];exact hlast
  ·omega
 unfold doR;rw[if_neg hkn]
 by_cases hA:ql i.code=1∨ql i.code=2∨ql i.code=6
 ·rw[if_pos hA];right;have:=notlast (by omega);show k+1+(0:Int).toNat<p.length;simpa using this
 rw[if_neg hA]
 by_cases c3:ql i.code=3
 ·rw[if_pos c3];right;have:=notlast (by omega);show k+1+(0:Int).toNat<p.length;simpa using this
 rw[if_neg c3]
 by_cases c4:ql i.code=4
 ·rw[if_pos c4];right;show k+1+(qgA m i).toNat<p.length;unfold qhf at b6;unfold qgA
  by_cases c5:i.code=5
  ·rw[if_pos c5] at b6 ⊢;have hk0:=hi.k0;have:¬((p.length-1-k:Nat):Int)<=i.k:=by simpa using b6
   omega
  ·rw[if_neg c5] at b6 ⊢;rw[c4] at b6;have hh:¬((p.length-1-k:Nat):Int)<=hiM i:=by simpa using b6
   have h1:=hi.t0;have h2:=hi.f0;unfold hiM at hh;split at hh<;>split<;>omega
 rw[if_neg c4];left;rfl
end Go.Kc
end
section
namespace Go.Kc
variable {P:Program} {f:Nat}
def qEe(P:Program)(g:Nat):Prop:=∀(m:Mac),MacOk m->∀d:GData,DatOk d->∀i:Ins,InsOk i->(doR m i d).2.2=0->Upd P g [.ptr 0 0,.agg (qD i)] [.cells 0 true false (cVm m d)] (.i .i64 (doR m i d).2.1) [.cells 0 true false (cVm (doR m i d).1 d)]
structure PrgGood (p:List Ins):Prop where
 len:p.length<=4096
 ne:p.length≠0
 ins:∀i ∈ p,InsOk i
 one:∀(k:Nat) (i:Ins),p[k]?=some i->qe6 i (p.length-1-k)=0
 last:ql (qhD p)=5
def qe8(p:List Ins)(d:GData):Int×Nat×List Nat×Int:=qkc p d (p.length+1) qta 0 46 []
theorem Own.mkD{f fd:Nat}{i:IFn}{vs:List AV}{v:AV}{bs:List Blk}(hc:qlw P f fd i=true)(hcl:qu vs=true)(hV:VDf P 0 fd i.body (qac i.res (quI v bs)) (qcr vs 0 .leaf) H0):Own P f vs v bs:=Own.of_SC hcl (SC.mkD hc hV)
theorem qrG{m:Mac}{d:GData}(h:m.cl.length=16):(cVm m d)[28]?=some (.b m.over):=by
 show (rI .u32 m.cl++(qw d++[AV.i .u32 m.told,AV.b m.over]))[26]?=_;rw[List.getElem?_append_right (by rw[qaM,h];decide),qaM,h];rfl
theorem qrI{m:Mac}{d:GData}(h:m.cl.length=16):(cVm m d)[27]?=some (.i .u32 m.told):=by
 show (rI .u32 m.cl++(qw d++[AV.i .u32 m.told,AV.b m.over]))[25]?=_;rw[List.getElem?_append_right (by rw[qaM,h];decide),qaM,h];rfl
def qkV(a b c d:Nat):IFn:=⟨[.cell 4 1 false,.tmp 5,.tmp 6,.cell 7 1 false],.seq (.r [.q 3 (.box (.t 1)),.q 4 (.alloc [.i .u32 0]),.m 5 (.k 0),.m 6 .N,.q 7 (.alloc [.i .i64 0])]) (.seq (.r [.v 11 9 3,.q 12 (.build [.i .u32 0,.i .u32 0,.i .u32 0,.i .u32 0,.i .u32 0,.i .u32 0,.i .u32 0,.i .u32 0,.i .u32 0,.i .u32 0,.i .u32 0,.i .u32 0,.i .u32 0,.i .u32 0,.i .u32 0,.i .u32 0,.i .u32 0,.i .u32 0,.i .u32 0,.i .u32 0,.i .u64 0,.i .u64 0,.i .u64 0,.i .u64 0,.i .u64 0,.i .u64 0,.i .u64 0,.i .u32 0,.b false] [(18,9,(.t 11))]),.q 13 (.box (.t 12)),.n 8 13]) (.seq (.r [.q 14 (.mkF a [] [.t 4,.t 7]),.u (.no)]) (.seq (.r [.m 9 (.k 46)]) (.seq (.seq (.r [.m 10 (.k 0)]) (.blk 0 (.loop (.seq (.seq (.r [.n 15 8,.q 16 (.nilChk (.t 15)),.f 17 28 16,.d 18 17,.q 19 (.un .not (.t 18))]) (.cond (.t 19) (.skip) (.exit 0))) (.seq (.blk 1 (.seq (.seq (.r [.n 22 10,.n 23 0,.e 24 23,.b 25 .geq 22 24]) (.cond (.t 25) (.r [.n 26 9,.l 27 b [.t 26]]) (.skip))) (.seq (.r [.n 28 6,.n 29 10,.q 30 (.buildS 1 [.i .i64 0] [(0,1,(.t 29))]),.q 31 (.app 1 8 true (.t 28) (.t 30)),.n 6 31]) (.seq (.r [.m 9 (.k 46)]) (.seq (.seq (.r [.n 32 0,.n 33 10,.i 34 4 32 33,.f 35 0 34,.d 36 35,.l 37 c [.t 36],.q 38 (.bin .eql (.t 37) (.c (.i .u8 4)))]) (.cond (.t 38) (.r [.m 9 (.k 42)]) (.skip))) (.r [.n 39 10,.n 40 8,.n 41 0,.n 42 10,.i 43 4 41 42,.v 44 4 43,.l 45 d [.t 40,.t 44],.q 46 (.bin .add (.k 1) (.t 45)),.b 47 .add 39 46,.n 10 47])))))) (.r [.n 20 5,.a 21 20 1,.n 5 21])))))) (.seq (.r [.n 48 8,.q 49 (.nilChk (.t 48)),.f 50 27 49,.d 51 50,.n 52 5,.n 53 6,.u (.store 1 (.t 4) (.t 51)),.n 5 52,.n 6 53,.u (.store 1 (.t 7) (.k 0))]) (.ret))))))⟩
theorem qB2{fd g1 g2 g3:Nat}(hc:qlw P f fd (qkV fd g1 g2 g3)=true)(h2:cOf P g2)(h3:qEe P g3)(p:List Ins)(hp:PrgGood p)(d:GData)(hd:DatOk d) :
  ∃n:Int,Own P f [.fz p.length (rP p),.agg (qw d)] (.tup [.i .u32 (qe8 p d).1,.i .i64 n,.own 0 (qe8 p d).2.2.1.length,.i .i64 0]) [.cells 1 true true (rNt (qe8 p d).2.2.1)]:=by
 obtain⟨R,hR⟩:∃R,R=qe8 p d:=⟨_,rfl⟩;rw[← hR];refine⟨(R.2.2.1.length:Int),Own.mkD hc (by simp[qu,clo,qx,qls]) ?_⟩;have hpl:=hp.len;have hne:=hp.ne;have e0:List.take 18 ([.i .u32 0,.i .u32 0,.i .u32 0,.i .u32 0,.i .u32 0,.i .u32 0,.i .u32 0,.i .u32 0,.i .u32 0,.i .u32 0,.i .u32 0,.i .u32 0,.i .u32 0,.i .u32 0,.i .u32 0,.i .u32 0,.i .u32 0,.i .u32 0,.i .u32 0,.i .u32 0,.i .u64 0,.i .u64 0,.i .u64 0,.i .u64 0,.i .u64 0,.i .u64 0,.i .u64 0,.i .u32 0,.b false]:List AV)++(qw d++List.drop 27 [.i .u32 0,.i .u32 0,.i .u32 0,.i .u32 0,.i .u32 0,.i .u32 0,.i .u32 0,.i .u32 0,.i .u32 0,.i .u32 0,.i .u32 0,.i .u32 0,.i .u32 0,.i .u32 0,.i .u32 0,.i .u32 0,.i .u32 0,.i .u32 0,.i .u32 0,.i .u32 0,.i .u64 0,.i .u64 0,.i .u64 0,.i .u64 0,.i .u64 0,.i .u64 0,.i .u64 0,.i .u32 0,.b false])=cVm qta d:=rfl;have cd9:List.take 9 (qw d)=qw d:=rfl;have l9:(qw d).length=9:=rfl;simp only[qkV,VDf,vI,simprocAttr];simp +decide only[↓vS,vT,simprocAttr,qrK,qxx,l9,cd9,e0];refine⟨⟨14,[.ptr 1 0,.ptr 2 0],rfl,by simp[Tr.get_set]⟩,?_⟩
 simp +decide only[↓vS,vT,simprocAttr]
 refine SL.loop (α:=Nat×Mac×Nat×Int×List Nat) (fun s=>[(0,.fz p.length (rP p)),(4,.ptr 0 0),(5,.i .i64 (s.2.2.2.2.length:Int)),(6,.own 3 s.2.2.2.2.length),(7,.ptr 1 0),(8,.ptr 2 0),(9,.i .i64 s.2.2.2.1),(10,.i .i64 (s.2.2.1:Int))])
  (fun s=>[.cells 0 true false [.i .u32 0],.cells 0 true false [.i .i64 0],.cells 0 true false (cVm s.2.1 d),.cells 1 true true (rNt s.2.2.2.2)])
  (fun s=>MacOk s.2.1∧s.2.2.1<=5000000000∧((s.2.1.over=false∧s.2.2.1<p.length∧p.length+1<=s.1+s.2.2.1∧s.2.2.2.2.length<=s.2.2.1∧qkc p d s.1 s.2.1 s.2.2.1 s.2.2.2.1 s.2.2.2.2=R)∨(s.2.1.over=true∧s.2.2.2.2.length<=5000∧R=(s.2.1.told,s.2.2.2.2.length,s.2.2.2.2,0)))) (fun s=>s.1) (p.length+1,qta,0,46,[]) [1,2,3,99] ?_ ?_ ?_ rfl ?_ ?_
 ·simp[vw,qx]
 ·simp[vw,qh,qm];exact NVs.refl (vs:=cVm qta d) qm
 ·simp
 ·exact⟨qv9,Nat.zero_le _,.inl ⟨rfl,by show 0<p.length;omega,Nat.le_refl _,Nat.zero_le _,by rw[hR];rfl⟩⟩
 rintro⟨n,m,a,bh,l⟩ ⟨hm,ha,hI⟩ G ih;simp only at hm ha hI;have hl29:=qfS (d:=d) hm.len;have go:(cVm m d)[28]?=some (.b m.over):=qrG hm.len;have gt:(cVm m d)[27]?=some (.i .u32 m.told):=qrI hm.len;simp only[vI,simprocAttr];rcases hI with⟨hov,hlt,hna,hla,hI⟩|⟨hov,hla,hI⟩
 ·obtain⟨n,rfl⟩:∃n',n=n'+1:=⟨n-1,by omega⟩
  rw[qio] at hI;obtain⟨i,hpi⟩:∃i,p[a]?=some i:=⟨_,zzE hlt⟩;have hii:=hp.ins i (zzM hpi);rw[hpi] at hI;simp only at hI;have hz:=qp1 (m:=m) (d:=d) hii (hp.one a i hpi);rw[if_neg (by simpa using hz)] at hI;have hin:=qy1 hp.ins hp.one hp.last hpi m d;have hel:=zj (f:=qD) (m:=4) qaN hpi;rw[show p.flatMap qD=rP p from rfl] at hel
  have h4:a*4+4<=(rP p).length:=by rw[qdS];omega
  have g0:=qb2 (f:=qD) (m:=4) qaN hpi (i:=0) (by omega);rw[show p.flatMap qD=rP p from rfl] at g0
  simp only[qD,Nat.add_zero,List.getElem?_cons_zero] at g0;have hge:¬(p.length:Int)<=(a:Int):=by omega
  obtain⟨hm2,hk0,hk1⟩:=qy2 hm hii hd;have hdo:=h3 m hm d hd i hii hz;have hgc:=h2 i.code;generalize doR m i d=r at hI hin hm2 hk0 hk1 hdo;obtain⟨m2,k,e⟩:=r;simp only at hI hin hm2 hk0 hk1 hdo;have hr1:l.length+1<=qg:=by simp only[qg];omega
  have hr2:(l.length+1)*8<=qg:=by simp only[qg];omega
  have hap:rNt l++[.i .i64 (a:Int)]=rNt (l++[a]):=by rw[← qpa];rfl
  have hll:(rNt l).length=l.length:=qji;have hla1:(l++[a]).length=l.length+1:=by simp
  have w1:IntKind.wrap .i64 (1+k)=1+k:=qq (by omega) (by omega);have w2:IntKind.wrap .i64 ((a:Int)+(1+k))=((a+1+k.toNat:Nat):Int):=by rw[qq (by omega) (by omega)];omega
  have w3:IntKind.wrap .i64 ((l.length:Int)+1)=((l.length+1:Nat):Int):=by rw[qq (by omega) (by omega)];omega
  have fin:∀b2:Int,(m2.over=false->qkc p d n m2 (a+1+k.toNat) b2 (l++[a])=R)->MacOk m2∧a+1+k.toNat<=5000000000∧((m2.over=false∧a+1+k.toNat<p.length∧p.length+1<=n+(a+1+k.toNat)∧(l++[a]).length<=a+1+k.toNat∧qkc p d n m2 (a+1+k.toNat) b2 (l++[a])=R)∨(m2.over=true∧(l++[a]).length<=5000∧R=(m2.told,(l++[a]).length,l++[a],0))):=by
   intro b2 hb2;refine⟨hm2,by omega,?_⟩
   cases ho:m2.over with
   | false =>
    rw[ho] at hin;have hin:=hin.resolve_left (by simp);exact .inl ⟨rfl,hin,by omega,by rw[hla1];omega,hb2 ho⟩
   | true =>
    rw[ho,if_pos rfl] at hI;exact .inr ⟨rfl,by rw[hla1];omega,by rw[← hI,hla1]⟩
  rw[hov] at go;simp only[qD] at hdo hel;simp +decide only[↓vS,vT,simprocAttr,go,hge,hlt,hr1,hr2,hll,hap,Nat.mul_one,g0];refine hgc.sc ?_
  by_cases c4:ql i.code=4
  ·rw[if_pos c4] at hI;have fin2:=fin 42 (fun ho=>by rw[ho] at hI;simpa using hI)
   simp +decide only[↓vS,vT,simprocAttr,c4,hlt,hel,h4];refine hdo.sc (vs:=[.ptr 0 0,.agg [.i .u16 i.code,.i .u8 i.jt,.i .u8 i.jf,.i .u32 i.k]]) [2] (Lent.of (by decide) ?_) ?_
   ·simp[vL,vw,zP qm,qN qm]
   simp only[vK,simprocAttr,qN qm];simp +decide only[↓vS,vT,simprocAttr,w1,w2,w3];refine ih (n,m2,a+1+k.toNat,42,l++[a]) fin2 (by simp only;omega) _ _ (Wk.mk _ _ [0,1,2,5] ?_ ?_ ?_ rfl)
   ·simp[vw,qx]
   ·simp[vw,qh,qT,qm]
   ·simp
  ·rw[if_neg c4] at hI;have fin2:=fin 46 (fun ho=>by rw[ho] at hI;simpa using hI)
   simp +decide only[↓vS,vT,simprocAttr,c4,hlt,hel,h4];refine hdo.sc (vs:=[.ptr 0 0,.agg [.i .u16 i.code,.i .u8 i.jt,.i .u8 i.jf,.i .u32 i.k]]) [2] (Lent.of (by decide) ?_) ?_
   ·simp[vL,vw,zP qm,qN qm]
   simp only[vK,simprocAttr,qN qm];simp +decide only[↓vS,vT,simprocAttr,w1,w2,w3];refine ih (n,m2,a+1+k.toNat,46,l++[a]) fin2 (by simp only;omega) _ _ (Wk.mk _ _ [0,1,2,5] ?_ ?_ ?_ rfl)
   ·simp[vw,qx]
   ·simp[vw,qh,qT,qm]
   ·simp
 ·rw[hov] at go;rw[hI];simp +decide only[↓vS,vT,simprocAttr,go,gt];intro _;refine⟨[3],?_⟩;simp[vw,qh,qT]
def qkU(a:Nat):IFn:=⟨[.tmp 4,.tmp 5,.tmp 6],.seq (.r [.q 3 (.box (.t 1)),.m 4 (.c (.i .u32 0)),.m 5 (.k 0),.m 6 (.k 0)]) (.seq (.r [.n 8 0,.v 9 9 3,.l 10 a [.t 8,.t 9],.n 7 10,.x 11 7 0,.x 12 7 1,.x 13 7 2,.x 14 7 3,.n 4 11,.n 5 12,.n 6 14]) (.seq (.r [.n 15 4,.n 16 5,.n 17 6,.n 4 15,.n 5 16,.n 6 17]) (.ret)))⟩
theorem qFr{g:Nat}(hc:qc P f (qkU g)=true)(hg:∀p,PrgGood p->∀d,DatOk d->∃n:Int,Own P g [.fz p.length (rP p),.agg (qw d)] (.tup [.i .u32 (qe8 p d).1,.i .i64 n,.own 0 (qe8 p d).2.2.1.length,.i .i64 0]) [.cells 1 true true (rNt (qe8 p d).2.2.1)])(p:List Ins)(hp:PrgGood p)(d:GData)(hd:DatOk d) :
  ∃n:Int,qd P f [.fz p.length (rP p),.agg (qw d)] (.tup [.i .u32 (qe8 p d).1,.i .i64 n,.i .i64 0]):=by
 obtain⟨n,hn⟩:=hg p hp d hd;refine⟨n,qd.mk hc (by simp[qu,clo,qx,qls]) ?_⟩;simp only[qkU,vI,simprocAttr];simp +decide only[↓vS,vT,simprocAttr,qrK,qxx];refine hn.sc ?_;simp only[vJ,simprocAttr,jh qT];simp +decide only[↓vS,vT,simprocAttr];simp[vZ]

instance:DecidableEq Ins:=fun a b=>decidable_of_iff (a.code=b.code∧a.jt=b.jt∧a.jf=b.jf∧a.k=b.k) ⟨fun h=>by cases a;cases b;simp only at h;obtain⟨rfl,rfl,rfl,rfl⟩:=h;rfl,fun h=>by subst h;exact⟨rfl,rfl,rfl,rfl⟩⟩
instance:DecidableEq Prg:=fun a b=>decidable_of_iff (a.dir=b.dir∧a.arch=b.arch∧a.ins=b.ins) ⟨fun h=>by cases a;cases b;simp only at h;obtain⟨rfl,rfl,rfl⟩:=h;rfl,fun h=>by subst h;exact⟨rfl,rfl,rfl⟩⟩



def qCz(P:Program)(g:Nat):Prop:=∀p,PrgGood p->∀d,DatOk d->∃n:Int,qd P g [.fz p.length (rP p),.agg (qw d)] (.tup [.i .u32 (qe8 p d).1,.i .i64 n,.i .i64 0])
def qCu(P:Program)(g:Nat):Prop:=∀p:List Ins,(∀i ∈ p,InsOk i)->∃n:Int,qd P g [.fz p.length (rP p)] (.tup [.i .i64 n,.i .i64 (atU p (qer p)).2])
theorem quO{p:List Ins}(u:List Nat)(h:4096<p.length):atU p u=(0,60):=by unfold atU;rw[if_pos (.inr h)]
theorem qxy{g1 g2 g3:Nat}(hc:qc P f (qdm g1 g2 g3)=true)(h:cAt P f):qCu P f:=by
 intro p hi
 by_cases hb:p.length<=5000
 ·exact⟨_,h p hi hb⟩
 ·have hb4:4096<p.length:=by omega
  rw[quO _ hb4];refine⟨0,qd.mk hc (by simp[qu,clo,qx]) ?_⟩;have hz':¬(p.length:Int)<1:=by omega
  have hb':(4096:Int)<p.length:=by omega
  simp only[qdm,vI,simprocAttr];simp +decide only[↓vS,vT,simprocAttr,hz',hb'];simp[vZ]
theorem qBo{g:Nat}(hc:qc P f (qfr g)=true)(hg:qCu P g)(p:List Ins)(hi:∀i ∈ p,InsOk i):qd P f [.fz p.length (rP p)] (.i .i64 (atU p (qer p)).2):=by
 refine qd.mk hc (by simp[qu,clo,qx]) ?_;simp only[qfr,vI,simprocAttr];simp +decide only[↓vS,vT,simprocAttr];obtain⟨n,hn⟩:=hg p hi;refine hn.sc ?_;simp +decide only[↓vS,vT,simprocAttr];simp[vZ]
end Go.Kc
end
section
namespace Go.Kc
variable {P:Program} {n:Nat}
def Has(t:Tr AV)(l:List (Nat×AV)):Prop:=∀p ∈ l,t.get p.1=some p.2
theorem qi{t:Tr AV}:Has t []↔True:=iff_true_intro fun p hp=>by cases hp
theorem qf{t:Tr AV}{p:Nat×AV}{l:List (Nat×AV)}:Has t (p::l)↔t.get p.1=some p.2∧Has t l:=by simp[Has]
theorem Has.tr{t:Tr AV}{l:List (Nat×AV)}(h:Has t l){ρ:Ren}{tm:Array Value}(ht:TR σ0 ρ t tm):TR σ0 ρ (mkT l) tm:=fun j v hj=>ht j v (h (j,v) (qdv hj))
theorem S.has{x:ICode}{Q:X->Tr AV->Hp->Prop}{t:Tr AV}{h:Hp}(l:List (Nat×AV))(hl:Has t l)(hs:S P n x Q (mkT l) h):S P n x Q t h :=
 fun nt cx hc hn ro hro ρ B w a ht hsz r=>hs nt cx hc hn ro hro ρ B w a (hl.tr ht) hsz r
theorem SL.has{x:ICode}{Q:X->Tr AV->Hp->Prop}{t:Tr AV}{h:Hp}(l:List (Nat×AV))(hl:Has t l)(hs:SL P n x Q (mkT l) h):SL P n x Q t h :=
 fun nt cx hc hn ro hro ρ B w a ht hsz r=>hs nt cx hc hn ro hro ρ B w a (hl.tr ht) hsz r
theorem SL.loopP{α:Type}{x:ICode}{Q:X->Tr AV->Hp->Prop}(T:α->List (Nat×AV))(I:α->Hp->Prop)(μ:α->Nat)
  (step:∀a h,I a h->∀G:Tr AV->Hp->Prop,(∀a' t' h',μ a'<μ a->Has t' (T a')->I a' h'->G t' h')->V P n x (fun e t h=>onX e (G t h) (fun id=>Q (.exit id) t h) (Q .ret t h)) (mkT (T a)) h)
  (a0:α) {t:Tr AV} {h:Hp} (ht:Has t (T a0)) (h0:I a0 h):SL P n x Q t h:=by
 have main:∀m a t h,μ a<=m->Has t (T a)->I a h->SL P n x Q t h:=by
  intro m
  induction m with
  | zero =>
   intro a t h hm ht hi;refine SL.has _ ht (qiX (step a h hi _ ?_));intro a' t' h' hlt _ _;omega
  | succ m ih =>
   intro a t h hm ht hi;refine SL.has _ ht (qiX (step a h hi _ ?_));intro a' t' h' hlt ht' hi';exact ih a' t' h' (by omega) ht' hi'
 exact main _ a0 t h (Nat.le_refl _) ht h0
end Go.Kc
end
section
namespace Go.Kc
variable {P:Program} {f:Nat}
structure Sy where
 code:Int
 k:Int
 th:Nat
 el:Nat
def cSy(s:Sy):List AV:=[.i .u16 s.code,.i .u32 s.k,.i .i64 (s.th:Int),.i .i64 (s.el:Int)]
def rSy(l:List Sy):List AV:=l.flatMap cSy
theorem qal{l:List Sy}:(rSy l).length=l.length*4:=by
 induction l with
 | nil=>rfl
 | cons s l ih=>simp only[rSy,List.flatMap_cons,List.length_append,List.length_cons] at ih ⊢;rw[ih];simp[cSy];omega
theorem qpg{l m:List Sy}:rSy l++rSy m=rSy (l++m):=by simp[rSy]
theorem qwR{s:Sy}:cSy s=rSy [s]:=by simp[rSy]
def Sy.raw(s:Sy):Sy:=⟨s.code,s.k,0,0⟩
def qX:IFn:=⟨[],.r [.n 4 0,.n 5 0,.q 6 (.nilChk (.t 5)),.f 7 0 6,.d 8 7,.n 9 1,.q 10 (.app 4 24 true (.t 8) (.t 9)),.q 11 (.nilChk (.t 4)),.f 12 0 11,.u (.store 1 (.t 12) (.t 10))]⟩
theorem qAD(hc:qc P f qX=true){w s fl bx bl m e:Nat}{tr:Tr Blk}{x:AV}{a:Bool}{ys:List AV}(y:Sy){k:AV->Hp->Prop}
  (hw:tr.get w=some (.cells 0 true false [.own bl m,x])) (hl:tr.get bl=some (.cells 4 true true ys)) (hy:ys.length=m*4) (hx:tr.get bx=some (.cells e true a (cSy y))) (hm:m<=1000000)
  (hwl:w≠bl) (hws:w<s) (hfw:fl<=w) (hfl:fl<=bl) (hxok:qcg x=true∧zg x=true) (hk:k (.tup []) ⟨s+1,fl,((tr.set bl .dead).set s (.cells 4 true true (ys++cSy y))).set w (.cells 0 true false [.own s (m+1),x])⟩) :
  SC P f [.ptr w 0,.sl bx 0 1 1 false] ⟨s,fl,tr⟩ k:=by
 refine SC.mk hc (qj ?_);have hr1:m+1<=qg:=by simp only[qg];omega
 have hr2:(m+1)*24<=qg:=by simp only[qg];omega
 have hws':¬w=s:=by omega
 simp only[qX,vI,simprocAttr];simp +decide only[↓vS,vT,simprocAttr,hw,hl,hy,hx,cSy,hr1,hr2,hwl,hws',hfw,hfl];exact hk
def xj:IFn:=⟨[],.r [.n 4 1,.n 5 0,.q 6 (.nilChk (.t 5)),.f 7 0 6,.d 8 7,.e 9 8,.q 10 (.nilChk (.t 4)),.f 11 0 10,.u (.store 1 (.t 11) (.t 9))]⟩
theorem qvP(hc:qc P f xj=true){w s fl bl m b:Nat}{tr:Tr Blk}{x:AV}{old:AV}{k:AV->Hp->Prop}
  (hw:tr.get w=some (.cells 0 true false [.own bl m,x])) (hb:tr.get b=some (.cells 0 true false [old]))
  (hfb:fl<=b) (hk:k (.tup []) ⟨s,fl,tr.set b (.cells 0 true false [.i .i64 (m:Int)])⟩) :
  SC P f [.ptr w 0,.ptr b 0] ⟨s,fl,tr⟩ k:=by
 refine SC.mk hc (qj ?_);simp only[xj,vI,simprocAttr];simp +decide only[↓vS,vT,simprocAttr,hw,hb,hfb];exact hk
inductive Kd where
 | no|fr|w|l|t|box
 | lab (F:Nat) (p:Bool)
def kdS(κ:Nat->Kd)(b:Nat)(x:Kd):Nat->Kd:=fun c=>if c=b then x else κ c
theorem qA{κ:Nat->Kd}{b:Nat}{x:Kd}:kdS κ b x b=x:=if_pos rfl
theorem qe{κ:Nat->Kd}{b c:Nat}{x:Kd}(h:c≠b):kdS κ b x c=κ c:=if_neg h
def Bx(κ:Nat->Kd)(tr:Tr Blk)(b:Nat)(v:AV):Prop:=κ b = .box∧tr.get b=some (.cells 0 true false [v])
def JOk(g w:Nat)(κ:Nat->Kd)(tr:Tr Blk)(RV:List Sy)(j:Nat)(c:AV):Prop :=
 ∃b5 b6 b8 b9 b10 X p o y,c = .fn g [] [.ptr b8 0,.ptr b5 0,.ptr b10 0,.ptr b6 0,.ptr b9 0]∧RV[j]?=some y∧Bx κ tr b5 (.ptr w 0)∧Bx κ tr b6 (.i .u16 y.code)∧Bx κ tr b8 (.ptr X 0)∧Bx κ tr b9 o∧Bx κ tr b10 (.i .i64 (j:Int)) ∧
  κ X = .lab y.th p∧((y.code=5∧o = .nilp∧y.el=0)∨(y.code≠5∧∃Y p',o = .ptr Y 0∧κ Y = .lab y.el p'))
def qfa(g w:Nat)(κ:Nat->Kd)(tr:Tr Blk)(RV:List Sy):List Nat->List AV->Prop
 | [],[]=>True
 | j::js,c::cs=>JOk g w κ tr RV j c∧qfa g w κ tr RV js cs
 | _,_=>False
structure WI (g w:Nat) (κ:Nat->Kd) (s:Nat) (tr:Tr Blk) (RV:List Sy) (N:List Nat):Prop where
 dom:∀b,κ b≠.no->b<s
 rows:∃bl bt cs js,κ w = .w∧κ bl = .l∧κ bt = .t∧tr.get w=some (.cells 0 true false [.own bl RV.length,.own bt cs.length])∧tr.get bl=some (.cells 4 true true (rSy (RV.map Sy.raw)))∧tr.get bt=some (.cells 1 true true cs) ∧
  qfa g w κ tr RV js cs∧cs.length+N.length<=RV.length∧∀(j:Nat) y,RV[j]?=some y->j ∉ js->j ∉ N->y.raw=y
 lab:∀b F p,κ b = .lab F p->∃x:Int,tr.get b=some (.cells 0 true false [.i .i64 x])∧(p=true->x=F)
structure Stp (L:List Nat) (κ:Nat->Kd) (s:Nat) (tr:Tr Blk) (κ':Nat->Kd) (s':Nat) (tr':Tr Blk):Prop where
 le:s<=s'
 fr:∀b,κ b = .fr->κ' b = .fr∧tr'.get b=tr.get b
 box:∀b,κ b = .box->κ' b = .box∧tr'.get b=tr.get b
 lab:∀b F p,κ b = .lab F p->κ' b = .lab F p
 nw:∀b F,κ' b = .lab F false->κ b = .lab F false∨b ∈ L
theorem Stp.refl{κ:Nat->Kd}{s:Nat}{tr:Tr Blk}:Stp [] κ s tr κ s tr:=⟨Nat.le_refl _,fun _ h=>⟨h,rfl⟩,fun _ h=>⟨h,rfl⟩,fun _ _ _ h=>h,fun _ _ h=>.inl h⟩
theorem Stp.trans{L M:List Nat}{κ κ1 κ2:Nat->Kd}{s s1 s2:Nat}{tr t1 t2:Tr Blk}(a:Stp L κ s tr κ1 s1 t1)(b:Stp M κ1 s1 t1 κ2 s2 t2):Stp (L++M) κ s tr κ2 s2 t2 :=
 ⟨Nat.le_trans a.le b.le,fun x h=>⟨(b.fr x (a.fr x h).1).1,(b.fr x (a.fr x h).1).2.trans (a.fr x h).2⟩,fun x h=>⟨(b.box x (a.box x h).1).1,(b.box x (a.box x h).1).2.trans (a.box x h).2⟩,fun x F p h=>b.lab x F p (a.lab x F p h),
  fun x F h=>by
   rcases b.nw x F h with h|h
   ·rcases a.nw x F h with h|h
    ·exact .inl h
    ·exact .inr (List.mem_append_left _ h)
   ·exact .inr (List.mem_append_right _ h)⟩
theorem JOk.mono{g w:Nat}{κ κ':Nat->Kd}{tr tr':Tr Blk}{RV RV':List Sy}{j:Nat}{c:AV}(h:JOk g w κ tr RV j c)(hb:∀b,κ b = .box->κ' b = .box∧tr'.get b=tr.get b)(hl:∀b F p,κ b = .lab F p->∃p',κ' b = .lab F p')
  (hr:∀(j:Nat) y,RV[j]?=some y->RV'[j]?=some y):JOk g w κ' tr' RV' j c:=by
 obtain⟨b5,b6,b8,b9,b10,X,p,o,y,h0,h1,h2,h3,h4,h5,h6,h7,h8⟩:=h;have bx:∀b v,Bx κ tr b v->Bx κ' tr' b v:=fun b v q=>⟨(hb b q.1).1,(hb b q.1).2.trans q.2⟩
 obtain⟨p1,h7'⟩:=hl X _ p h7;refine⟨b5,b6,b8,b9,b10,X,p1,o,y,h0,hr _ _ h1,bx _ _ h2,bx _ _ h3,bx _ _ h4,bx _ _ h5,bx _ _ h6,h7',?_⟩;rcases h8 with h8|⟨h8,Y,p',h9,h10⟩
 ·exact .inl h8
 ·obtain⟨p2,h10'⟩:=hl Y _ p' h10;exact .inr ⟨h8,Y,p2,h9,h10'⟩
theorem qfa.mono{g w:Nat}{κ κ':Nat->Kd}{tr tr':Tr Blk}{RV RV':List Sy}(hb:∀b,κ b = .box->κ' b = .box∧tr'.get b=tr.get b)(hl:∀b F p,κ b = .lab F p->∃p',κ' b = .lab F p')
  (hr:∀(j:Nat) y,RV[j]?=some y->RV'[j]?=some y):∀{js:List Nat} {cs:List AV},qfa g w κ tr RV js cs->qfa g w κ' tr' RV' js cs
 | [],[],_=>trivial
 | _::_,_::_,h=>⟨h.1.mono hb hl hr,qfa.mono hb hl hr h.2⟩
 | [],_::_,h=>h.elim
 | _::_,[],h=>h.elim
theorem qfa.app{g w:Nat}{κ:Nat->Kd}{tr:Tr Blk}{RV:List Sy}{j:Nat}{c:AV}(hj:JOk g w κ tr RV j c):∀{js:List Nat} {cs:List AV},qfa g w κ tr RV js cs->qfa g w κ tr RV (js++[j]) (cs++[c])
 | [],[],_=>⟨hj,trivial⟩
 | _::_,_::_,h=>⟨h.1,qfa.app hj h.2⟩
 | [],_::_,h=>h.elim
 | _::_,[],h=>h.elim
section
variable {g w s:Nat} {κ:Nat->Kd} {tr:Tr Blk} {RV:List Sy} {N:List Nat}
theorem WI.fresh(h:WI g w κ s tr RV N):κ s = .no:=by
 cases hk:κ s with
 | no=>rfl
 | _=>exact absurd (h.dom s (by rw[hk];simp)) (Nat.lt_irrefl _)
theorem WI.new(h:WI g w κ s tr RV N)(kd:Kd)(x:Blk)(hk:kd = .no∨kd = .fr∨kd = .box∨∃F,kd = .lab F false∧x = .cells 0 true false [.i .i64 0]):WI g w (kdS κ s kd) (s+1) (tr.set s x) RV N:=by
 have hs:=h.fresh;have ne:∀{b},κ b≠.no->b≠s:=fun hb e=>hb (e ▸ hs)
 obtain⟨bl,bt,cs,js,r1,r2,r3,r4,r5,r6,r7,r8,r9⟩:=h.rows;refine⟨fun b hb=>?_,⟨bl,bt,cs,js,?_,?_,?_,?_,?_,?_,r7.mono ?_ ?_ fun _ _ q=>q,r8,r9⟩,fun b F p hb=>?_⟩
 ·by_cases e:b=s
  ·omega
  ·rw[qe e] at hb;have:=h.dom b hb;omega
 ·rw[qe (ne (by rw[r1];simp))];exact r1
 ·rw[qe (ne (by rw[r2];simp))];exact r2
 ·rw[qe (ne (by rw[r3];simp))];exact r3
 ·rw[Tr.get_set,if_neg (ne (by rw[r1];simp))];exact r4
 ·rw[Tr.get_set,if_neg (ne (by rw[r2];simp))];exact r5
 ·rw[Tr.get_set,if_neg (ne (by rw[r3];simp))];exact r6
 ·intro b hb;have e:=ne (b:=b) (by rw[hb];simp);rw[qe e,Tr.get_set,if_neg e];exact⟨hb,rfl⟩
 ·intro b F p hb;rw[qe (ne (by rw[hb];simp))];exact⟨p,hb⟩
 ·by_cases e:b=s
  ·subst e;rw[qA] at hb;rcases hk with hk|hk|hk|⟨F',hk,hx⟩
   ·rw[hk] at hb;cases hb
   ·rw[hk] at hb;cases hb
   ·rw[hk] at hb;cases hb
   ·rw[hk] at hb;cases hb;exact⟨0,by rw[Tr.get_set,if_pos rfl,hx],by simp⟩
  ·rw[qe e] at hb;rw[Tr.get_set,if_neg e];exact h.lab b F p hb
theorem WI.stpLab(h:WI g w κ s tr RV N)(kd:Kd)(x:Blk):Stp [s] κ s tr (kdS κ s kd) (s+1) (tr.set s x):=by
 have hs:=h.fresh;have ne:∀{b},κ b≠.no->b≠s:=fun hb e=>hb (e ▸ hs)
 refine⟨by omega,fun b hb=>?_,fun b hb=>?_,fun b F p hb=>?_,fun b F hb=>?_⟩
 ·have e:=ne (b:=b) (by rw[hb];simp);rw[qe e,Tr.get_set,if_neg e];exact⟨hb,rfl⟩
 ·have e:=ne (b:=b) (by rw[hb];simp);rw[qe e,Tr.get_set,if_neg e];exact⟨hb,rfl⟩
 ·rw[qe (ne (by rw[hb];simp))];exact hb
 ·by_cases e:b=s
  ·exact .inr (by simp[e])
  ·rw[qe e] at hb;exact .inl hb
theorem WI.stpNew(h:WI g w κ s tr RV N)(kd:Kd)(x:Blk)(hk:∀F,kd≠.lab F false):Stp [] κ s tr (kdS κ s kd) (s+1) (tr.set s x):=by
 refine { h.stpLab kd x with nw:=fun b F hb=>?_ }
 by_cases e:b=s
 ·rw[e,qA] at hb;exact absurd hb (hk F)
 ·rw[qe e] at hb;exact .inl hb
theorem WI.chg(h:WI g w κ s tr RV N){b:Nat}(kd:Kd)(x:Blk)(hb:κ b = .fr∨κ b = .no)(hbs:b<s)(hk:kd = .no∨kd = .fr∨kd = .box):WI g w (kdS κ b kd) s (tr.set b x) RV N:=by
 have ne:∀{c},κ c≠.no->κ c≠.fr->c≠b:=fun h1 h2 e=>by subst e;rcases hb with q|q<;>contradiction
 obtain⟨bl,bt,cs,js,r1,r2,r3,r4,r5,r6,r7,r8,r9⟩:=h.rows;refine⟨fun c hc=>?_,⟨bl,bt,cs,js,?_,?_,?_,?_,?_,?_,r7.mono ?_ ?_ fun _ _ q=>q,r8,r9⟩,fun c F p hc=>?_⟩
 ·by_cases e:c=b
  ·omega
  ·rw[qe e] at hc;exact h.dom c hc
 ·rw[qe (ne (by rw[r1];simp) (by rw[r1];simp))];exact r1
 ·rw[qe (ne (by rw[r2];simp) (by rw[r2];simp))];exact r2
 ·rw[qe (ne (by rw[r3];simp) (by rw[r3];simp))];exact r3
 ·rw[Tr.get_set,if_neg (ne (by rw[r1];simp) (by rw[r1];simp))];exact r4
 ·rw[Tr.get_set,if_neg (ne (by rw[r2];simp) (by rw[r2];simp))];exact r5
 ·rw[Tr.get_set,if_neg (ne (by rw[r3];simp) (by rw[r3];simp))];exact r6
 ·intro c hc;have e:=ne (c:=c) (by rw[hc];simp) (by rw[hc];simp);rw[qe e,Tr.get_set,if_neg e];exact⟨hc,rfl⟩
 ·intro c F p hc;rw[qe (ne (by rw[hc];simp) (by rw[hc];simp))];exact⟨p,hc⟩
 ·by_cases e:c=b
  ·subst e;rw[qA] at hc;rcases hk with hk|hk|hk<;>rw[hk] at hc<;>cases hc
  ·rw[qe e] at hc;rw[Tr.get_set,if_neg e];exact h.lab c F p hc
theorem qxX{bx e:Nat}{a:Bool}(hc:qc P f qX=true)(h:WI g w κ s tr RV N)(y:Sy)(hx:tr.get bx=some (.cells e true a (cSy y.raw)))(hm:RV.length<=1000000) :
  ∃κ' s' tr',Stp [] κ s tr κ' s' tr'∧WI g w κ' s' tr' (RV++[y]) (RV.length::N)∧∀k:AV->Hp->Prop,k (.tup []) ⟨s',0,tr'⟩->SC P f [.ptr w 0,.sl bx 0 1 1 false] ⟨s,0,tr⟩ k:=by
 obtain⟨bl,bt,cs,js,r1,r2,r3,r4,r5,r6,r7,r8,r9⟩:=h.rows;have hs:=h.fresh;have ne:∀{b c},κ b≠κ c->b≠c:=fun q e=>q (e ▸ rfl)
 have ns:∀{b},κ b≠.no->b≠s:=fun hb e=>hb (e ▸ hs)
 have wl:w≠bl:=ne (by rw[r1,r2];simp);have tl:bt≠bl:=ne (by rw[r3,r2];simp);have tw:bt≠w:=ne (by rw[r3,r1];simp);have sw:s≠w:=fun e=>ns (b:=w) (by rw[r1];simp) e.symm
 have sl:s≠bl:=fun e=>ns (b:=bl) (by rw[r2];simp) e.symm
 have st:bt≠s:=ns (by rw[r3];simp)
 have ge:∀b,κ b≠.w->κ b≠.l->κ b≠.no->(((tr.set bl .dead).set s (.cells 4 true true (rSy (RV.map Sy.raw)++cSy y.raw))).set w (.cells 0 true false [.own s (RV.length+1),.own bt cs.length])).get b=tr.get b:=fun b h1 h2 h3=>by
  rw[Tr.get_set,if_neg (ne (by rw[r1];exact h1)),Tr.get_set,if_neg (ns h3),Tr.get_set,if_neg (ne (by rw[r2];exact h2))]
 have gk:∀b,κ b≠.l->κ b≠.no->kdS (kdS κ bl .no) s .l b=κ b:=fun b h1 h2=>by
  rw[qe (ns h2),qe (ne (by rw[r2];exact h1))]
 refine⟨kdS (kdS κ bl .no) s .l,s+1,((tr.set bl .dead).set s (.cells 4 true true (rSy (RV.map Sy.raw)++cSy y.raw))).set w (.cells 0 true false [.own s (RV.length+1),.own bt cs.length]),⟨by omega,fun b hb=>?_,fun b hb=>?_,fun b F p hb=>?_,fun b F hb=>.inl (by
  by_cases e:b=s
  ·rw[e,qA] at hb;cases hb
  ·rw[qe e] at hb
   by_cases e2:b=bl
   ·rw[e2,qA] at hb;cases hb
   ·rw[qe e2] at hb;exact hb)⟩,⟨fun b hb=>?_,⟨s,bt,cs,js,?_,?_,?_,?_,?_,?_,r7.mono ?_ ?_ ?_,?_,?_⟩,fun b F p hb=>?_⟩,
  fun k hk=>qAD hc y.raw r4 r5 (by rw[qal,List.length_map]) hx hm wl (h.dom w (by rw[r1];simp)) (Nat.zero_le _) (Nat.zero_le _) ⟨rfl,rfl⟩ hk⟩
 ·exact⟨by rw[gk b (by rw[hb];simp) (by rw[hb];simp)];exact hb,ge b (by rw[hb];simp) (by rw[hb];simp) (by rw[hb];simp)⟩
 ·exact⟨by rw[gk b (by rw[hb];simp) (by rw[hb];simp)];exact hb,ge b (by rw[hb];simp) (by rw[hb];simp) (by rw[hb];simp)⟩
 ·rw[gk b (by rw[hb];simp) (by rw[hb];simp)];exact hb
 ·by_cases e:b=s
  ·omega
  ·rw[qe e] at hb
   by_cases e2:b=bl
   ·rw[e2,qA] at hb;exact absurd rfl hb
   ·rw[qe e2] at hb;have:=h.dom b hb;omega
 ·rw[gk w (by rw[r1];simp) (by rw[r1];simp)];exact r1
 ·rw[qA]
 ·rw[gk bt (by rw[r3];simp) (by rw[r3];simp)];exact r3
 ·rw[Tr.get_set,if_pos rfl];simp
 ·rw[Tr.get_set,if_neg sw,Tr.get_set,if_pos rfl];rw[qwR,qpg];simp
 ·rw[ge bt (by rw[r3];simp) (by rw[r3];simp) (by rw[r3];simp)];exact r6
 ·intro b hb;exact⟨by rw[gk b (by rw[hb];simp) (by rw[hb];simp)];exact hb,ge b (by rw[hb];simp) (by rw[hb];simp) (by rw[hb];simp)⟩
 ·intro b F p hb;exact⟨p,by rw[gk b (by rw[hb];simp) (by rw[hb];simp)];exact hb⟩
 ·intro j z hz;rw[List.getElem?_append_left (zzS.1 hz).1];exact hz
 ·simp;omega
 ·intro j z hz hj hn
  by_cases e:j<RV.length
  ·rw[List.getElem?_append_left e] at hz;exact r9 j z hz hj fun q=>hn (List.mem_cons_of_mem _ q)
  ·have:j<(RV++[y]).length:=(zzS.1 hz).1;rw[List.length_append,List.length_singleton] at this;exact absurd (List.mem_cons.2 (.inl (show j=RV.length by omega))) hn
 ·by_cases e:b=s
  ·rw[e,qA] at hb;cases hb
  ·rw[qe e] at hb
   by_cases e2:b=bl
   ·rw[e2,qA] at hb;cases hb
   ·rw[qe e2] at hb;obtain⟨x,q1,q2⟩:=h.lab b F p hb;exact⟨x,by rw[ge b (by rw[hb];simp) (by rw[hb];simp) (by rw[hb];simp)];exact q1,q2⟩
theorem qtO{k:AV->Hp->Prop}{bx e:Nat}{a:Bool}(hc:qc P f qX=true)(h:WI g w κ s tr RV N)(y:Sy)(hx:tr.get bx=some (.cells e true a (cSy y.raw)))(hm:RV.length<=1000000)
  (hk:∀κ' s' tr',Stp [] κ s tr κ' s' tr'->WI g w κ' s' tr' (RV++[y]) (RV.length::N)->k (.tup []) ⟨s',0,tr'⟩):SC P f [.ptr w 0,.sl bx 0 1 1 false] ⟨s,0,tr⟩ k:=by
 obtain⟨κ',s',tr',q1,q2,q3⟩:=qxX hc h y hx hm;exact q3 k (hk κ' s' tr' q1 q2)
theorem WI.drop{n:Nat}(h:WI g w κ s tr RV (n::N))(hn:∀y,RV[n]?=some y->y.raw=y):WI g w κ s tr RV N:=by
 obtain⟨bl,bt,cs,js,r1,r2,r3,r4,r5,r6,r7,r8,r9⟩:=h.rows;refine⟨h.dom,⟨bl,bt,cs,js,r1,r2,r3,r4,r5,r6,r7,by simp at r8;omega,fun j y hy hj hN=>?_⟩,h.lab⟩
 by_cases e:j=n
 ·subst e;exact hn y hy
 ·exact r9 j y hy hj fun q=>by rcases List.mem_cons.1 q with q|q<;>contradiction
theorem WI.add{n bl bt m:Nat}{c:AV}{cs:List AV}(h:WI g w κ s tr RV (n::N))(hj:JOk g w κ tr RV n c)(hw:tr.get w=some (.cells 0 true false [.own bl RV.length,.own bt m]))(ht:tr.get bt=some (.cells 1 true true cs)) :
  WI g w (kdS (kdS κ bt .no) s .t) (s+1) (((tr.set bt .dead).set s (.cells 1 true true (cs++[c]))).set w (.cells 0 true false [.own bl RV.length,.own s (m+1)])) RV N ∧
  Stp [] κ s tr (kdS (kdS κ bt .no) s .t) (s+1) (((tr.set bt .dead).set s (.cells 1 true true (cs++[c]))).set w (.cells 0 true false [.own bl RV.length,.own s (m+1)])):=by
 obtain⟨bl',bt',cs',js,r1,r2,r3,r4,r5,r6,r7,r8,r9⟩:=h.rows;rw[hw] at r4;cases r4;rw[ht] at r6;cases r6;have hs:=h.fresh;have ne:∀{b c},κ b≠κ c->b≠c:=fun q e=>q (e ▸ rfl)
 have ns:∀{b},κ b≠.no->b≠s:=fun hb e=>hb (e ▸ hs)
 have sw:s≠w:=fun e=>ns (b:=w) (by rw[r1];simp) e.symm
 have sb:s≠bt:=fun e=>ns (b:=bt) (by rw[r3];simp) e.symm
 have ge:∀b,κ b≠.w->κ b≠.t->κ b≠.no->(((tr.set bt .dead).set s (.cells 1 true true (cs++[c]))).set w (.cells 0 true false [.own bl RV.length,.own s (cs.length+1)])).get b=tr.get b:=fun b h1 h2 h3=>by
  rw[Tr.get_set,if_neg (ne (by rw[r1];exact h1)),Tr.get_set,if_neg (ns h3),Tr.get_set,if_neg (ne (by rw[r3];exact h2))]
 have gk:∀b,κ b≠.t->κ b≠.no->kdS (kdS κ bt .no) s .t b=κ b:=fun b h1 h2=>by
  rw[qe (ns h2),qe (ne (by rw[r3];exact h1))]
 have hB:∀b,κ b = .box->kdS (kdS κ bt .no) s .t b = .box∧(((tr.set bt .dead).set s (.cells 1 true true (cs++[c]))).set w (.cells 0 true false [.own bl RV.length,.own s (cs.length+1)])).get b=tr.get b:=fun b hb =>
  ⟨by rw[gk b (by rw[hb];simp) (by rw[hb];simp)];exact hb,ge b (by rw[hb];simp) (by rw[hb];simp) (by rw[hb];simp)⟩
 have hL:∀b F p,κ b = .lab F p->kdS (kdS κ bt .no) s .t b = .lab F p:=fun b F p hb=>by rw[gk b (by rw[hb];simp) (by rw[hb];simp)];exact hb
 refine⟨⟨fun b hb=>?_,⟨bl,s,cs++[c],js++[n],?_,?_,?_,?_,?_,?_,?_,?_,?_⟩,fun b F p hb=>?_⟩,⟨by omega,fun b hb=>?_,hB,hL,fun b F hb=>.inl (by
  by_cases e:b=s
  ·rw[e,qA] at hb;cases hb
  ·rw[qe e] at hb
   by_cases e2:b=bt
   ·rw[e2,qA] at hb;cases hb
   ·rw[qe e2] at hb;exact hb)⟩⟩
 ·by_cases e:b=s
  ·omega
  ·rw[qe e] at hb
   by_cases e2:b=bt
   ·rw[e2,qA] at hb;exact absurd rfl hb
   ·rw[qe e2] at hb;have:=h.dom b hb;omega
 ·rw[gk w (by rw[r1];simp) (by rw[r1];simp)];exact r1
 ·rw[gk bl (by rw[r2];simp) (by rw[r2];simp)];exact r2
 ·rw[qA]
 ·rw[Tr.get_set,if_pos rfl];simp
 ·rw[ge bl (by rw[r2];simp) (by rw[r2];simp) (by rw[r2];simp)];exact r5
 ·rw[Tr.get_set,if_neg sw,Tr.get_set,if_pos rfl]
 ·exact qfa.app (hj.mono hB (fun b F p hb=>⟨p,hL b F p hb⟩) fun _ _ q=>q) (r7.mono hB (fun b F p hb=>⟨p,hL b F p hb⟩) fun _ _ q=>q)
 ·simp at r8 ⊢;omega
 ·intro j y hy hj hN
  exact r9 j y hy (fun q=>hj (by simp[q])) fun q=>by
   rcases List.mem_cons.1 q with q|q
   ·exact hj (by simp[q])
   ·exact hN q
 ·by_cases e:b=s
  ·rw[e,qA] at hb;cases hb
  ·rw[qe e] at hb
   by_cases e2:b=bt
   ·rw[e2,qA] at hb;cases hb
   ·rw[qe e2] at hb;obtain⟨x,q1,q2⟩:=h.lab b F p hb;exact⟨x,by rw[ge b (by rw[hb];simp) (by rw[hb];simp) (by rw[hb];simp)];exact q1,q2⟩
 ·exact⟨by rw[gk b (by rw[hb];simp) (by rw[hb];simp)];exact hb,ge b (by rw[hb];simp) (by rw[hb];simp) (by rw[hb];simp)⟩
end
section
variable {g w s gp:Nat} {κ:Nat->Kd} {tr:Tr Blk} {RV:List Sy} {N:List Nat} {k:AV->Hp->Prop}
theorem WI.dropS{y:Sy}(h:WI g w κ s tr (RV++[y]) (RV.length::N))(hy:y.raw=y):WI g w κ s tr (RV++[y]) N:=h.drop fun z hz=>by
 simp at hz;rw[← hz];exact hy
def xZ(a:Nat):IFn:=⟨[],.r [.n 4 0,.n 5 1,.q 6 (.build [.i .u16 0,.i .u32 0,.i .i64 0,.i .i64 0] [(0,1,(.c (.i .u16 32))),(1,1,(.t 5))]),.q 7 (.buildS 1 [.i .u16 0,.i .u32 0,.i .i64 0,.i .i64 0] [(0,4,(.t 6))]),.l 8 a [.t 4,.t 7]]⟩
theorem qjT(hc:qc P f (xZ gp)=true)(hp:qc P gp qX=true)(h:WI g w κ s tr RV N)(a:Int)(hm:RV.length<=1000000)
  (hk:∀κ' s' tr',Stp [] κ s tr κ' s' tr'->WI g w κ' s' tr' (RV++[⟨32,a,0,0⟩]) N->k (.tup []) ⟨s',0,tr'⟩):SC P f [.ptr w 0,.i .u32 a] ⟨s,0,tr⟩ k:=by
 refine SC.mk hc (qj ?_);simp only[xZ,vI,simprocAttr];simp +decide only[↓vS,vT,simprocAttr];refine qtO hp (h.new .no _ (.inl rfl)) ⟨32,a,0,0⟩ (by rw[Tr.get_set,if_pos rfl];rfl) hm ?_;intro κ' s' tr' st hw;simp +decide only[↓vS,vT,simprocAttr];exact hk _ _ _ ((h.stpNew .no _ (by simp)).trans st) (hw.dropS rfl)
def qaY(a:Nat):IFn:=⟨[],.r [.n 4 0,.n 5 1,.q 6 (.build [.i .u16 0,.i .u32 0,.i .i64 0,.i .i64 0] [(0,1,(.c (.i .u16 6))),(1,1,(.t 5))]),.q 7 (.buildS 1 [.i .u16 0,.i .u32 0,.i .i64 0,.i .i64 0] [(0,4,(.t 6))]),.l 8 a [.t 4,.t 7]]⟩
theorem qk7(hc:qc P f (qaY gp)=true)(hp:qc P gp qX=true)(h:WI g w κ s tr RV N)(a:Int)(hm:RV.length<=1000000)
  (hk:∀κ' s' tr',Stp [] κ s tr κ' s' tr'->WI g w κ' s' tr' (RV++[⟨6,a,0,0⟩]) N->k (.tup []) ⟨s',0,tr'⟩):SC P f [.ptr w 0,.i .u32 a] ⟨s,0,tr⟩ k:=by
 refine SC.mk hc (qj ?_);simp only[qaY,vI,simprocAttr];simp +decide only[↓vS,vT,simprocAttr];refine qtO hp (h.new .no _ (.inl rfl)) ⟨6,a,0,0⟩ (by rw[Tr.get_set,if_pos rfl];rfl) hm ?_;intro κ' s' tr' st hw;simp +decide only[↓vS,vT,simprocAttr];exact hk _ _ _ ((h.stpNew .no _ (by simp)).trans st) (hw.dropS rfl)
theorem qaJ(hc:qc P f xj=true)(h:WI g w κ s tr RV N){b:Nat}{p:Bool}(hb:κ b = .lab RV.length p)
  (hk:∀tr',(∀c,κ c = .fr->tr'.get c=tr.get c)->(∀c,κ c = .box->tr'.get c=tr.get c)->WI g w (kdS κ b (.lab RV.length true)) s tr' RV N->k (.tup []) ⟨s,0,tr'⟩):SC P f [.ptr w 0,.ptr b 0] ⟨s,0,tr⟩ k:=by
 obtain⟨bl,bt,cs,js,r1,r2,r3,r4,r5,r6,r7,r8,r9⟩:=h.rows;obtain⟨x,q1,q2⟩:=h.lab _ _ _ hb;have ne:∀{b c},κ b≠κ c->b≠c:=fun q e=>q (e ▸ rfl)
 have nb:∀{c},(∀F p,κ c≠.lab F p)->c≠b:=fun q e=>q _ _ (e ▸ hb)
 refine qvP hc r4 q1 (Nat.zero_le _) (hk _ (fun c hc=>?_) (fun c hc=>?_) ⟨fun c hc=>?_,⟨bl,bt,cs,js,?_,?_,?_,?_,?_,?_,r7.mono ?_ ?_ fun _ _ q=>q,r8,r9⟩,fun c F p hc=>?_⟩)
 ·rw[Tr.get_set,if_neg (nb (by rw[hc];simp))]
 ·rw[Tr.get_set,if_neg (nb (by rw[hc];simp))]
 ·by_cases e:c=b
  ·rw[e];exact h.dom b (by rw[hb];simp)
  ·rw[qe e] at hc;exact h.dom c hc
 ·rw[qe (nb (by rw[r1];simp))];exact r1
 ·rw[qe (nb (by rw[r2];simp))];exact r2
 ·rw[qe (nb (by rw[r3];simp))];exact r3
 ·rw[Tr.get_set,if_neg (nb (by rw[r1];simp))];exact r4
 ·rw[Tr.get_set,if_neg (nb (by rw[r2];simp))];exact r5
 ·rw[Tr.get_set,if_neg (nb (by rw[r3];simp))];exact r6
 ·intro c hc;have e:c≠b:=nb (by rw[hc];simp);rw[qe e,Tr.get_set,if_neg e];exact⟨hc,rfl⟩
 ·intro c F p hc
  by_cases e:c=b
  ·rw[e,hb] at hc;cases hc;exact⟨true,by rw[e,qA]⟩
  ·rw[qe e];exact⟨p,hc⟩
 ·by_cases e:c=b
  ·rw[e,qA] at hc;cases hc;exact⟨(RV.length:Int),by rw[e,Tr.get_set,if_pos rfl],fun _=>rfl⟩
  ·rw[qe e] at hc;rw[Tr.get_set,if_neg e];exact h.lab c F p hc
def xk(a b:Nat):IFn:=⟨[],.seq (.r [.q 5 (.box (.t 0)),.q 6 (.box (.t 1)),.q 8 (.box (.t 3)),.q 9 (.box (.t 4))]) (.seq (.r [.d 11 5,.q 12 (.nilChk (.t 11)),.f 13 0 12,.d 14 13,.e 15 14,.q 10 (.alloc [.i .i64 0]),.u (.store 1 (.t 10) (.t 15))]) (.seq (.r [.d 16 5,.d 17 6,.n 18 2,.q 19 (.build [.i .u16 0,.i .u32 0,.i .i64 0,.i .i64 0] [(0,1,(.t 17)),(1,1,(.t 18))]),.q 20 (.buildS 1 [.i .u16 0,.i .u32 0,.i .i64 0,.i .i64 0] [(0,4,(.t 19))]),.l 21 a [.t 16,.t 20]]) (.reg true [.d 22 5,.d 23 5,.q 24 (.nilChk (.t 23)),.f 25 1 24,.d 26 25,.q 27 (.mkF b [] [.t 8,.t 5,.t 10,.t 6,.t 9]),.q 28 (.buildS 1 [.nilf] [(0,1,(.t 27))]),.q 29 (.appD 1 8 (.t 26) (.t 28) [5]),.q 30 (.nilChk (.t 22)),.f 31 1 30,.u (.store 1 (.t 31) (.t 29))])))⟩
theorem qsR(hc:qc P f (xk gp g)=true)(hp:qc P gp qX=true)(h:WI g w κ s tr RV N)(y:Sy){X:Nat}{p:Bool}{o:AV}(hX:κ X = .lab y.th p)
  (ho:(y.code=5∧o = .nilp∧y.el=0)∨(y.code≠5∧∃Y p',o = .ptr Y 0∧κ Y = .lab y.el p')) (hm:RV.length<=1000000) :
  ∃κ' s' tr',Stp [] κ s tr κ' s' tr'∧WI g w κ' s' tr' (RV++[y]) N∧∀k:AV->Hp->Prop,k (.tup []) ⟨s',0,tr'⟩->SC P f [.ptr w 0,.i .u16 y.code,.i .u32 y.k,.ptr X 0,o] ⟨s,0,tr⟩ k:=by
 obtain⟨bl,bt,cs,js,r1,r2,r3,r4,r5,r6,r7,r8,r9⟩:=h.rows;have hs:=h.fresh;have ws:w<s:=h.dom w (by rw[r1];simp)
 have hod:qcg o=true∧cellsOf o=[o]∧zg o=true:=by
  rcases ho with⟨_,rfl,_⟩|⟨_,Y,_,rfl,_⟩<;>exact⟨rfl,rfl,rfl⟩
 obtain⟨o1,o2,o3⟩:=hod;have w0:¬w=s:=by omega
 have w1:¬w=s+1:=by omega
 have w2:¬w=s+1+1:=by omega
 have w3:¬w=s+1+1+1:=by omega
 have w4:¬w=s+1+1+1+1:=by omega
 have s1:¬s=s+1:=by omega
 have s2:¬s=s+1+1:=by omega
 have s3:¬s=s+1+1+1:=by omega
 have s4:¬s=s+1+1+1+1:=by omega
 have s0:¬s=s+1+1+1+1+1:=by omega
 have s5:¬s+1=s+1+1:=by omega
 have s6:¬s+1=s+1+1+1:=by omega
 have s7:¬s+1=s+1+1+1+1:=by omega
 have h1:=h.new .box (.cells 0 true false [.ptr w 0]) (.inr (.inr (.inl rfl)));have h2:=h1.new .box (.cells 0 true false [.i .u16 y.code]) (.inr (.inr (.inl rfl)));have h3:=h2.new .box (.cells 0 true false [.ptr X 0]) (.inr (.inr (.inl rfl)));have h4:=h3.new .box (.cells 0 true false [o]) (.inr (.inr (.inl rfl)));have h5:=h4.new .no (.cells 0 true false [.i .i64 0]) (.inl rfl);have h6:=h5.chg (b:=s+1+1+1+1) .box (.cells 0 true false [.i .i64 (RV.length:Int)]) (.inr qA) (by omega) (.inr (.inr rfl));have h7:=h6.new .no (.cells 0 true false [.i .u16 y.code,.i .u32 y.k,.i .i64 0,.i .i64 0]) (.inl rfl);obtain⟨κ',s',tr',st',hw,hput⟩:=qxX hp h7 y (by rw[Tr.get_set,if_pos rfl];rfl) hm;have d0:∀{b},b<s'->¬b=s':=fun h e=>by omega
 obtain⟨bl',bt',cs',js',q1,q2,q3,q4,q5,q6,q7,q8,q9⟩:=hw.rows;have ne:∀{b c},κ' b≠κ' c->b≠c:=fun q e=>q (e ▸ rfl)
 have nn:∀a:Nat,¬s=s+a+1:=fun a h=>by omega
 have ke:∀c:Nat,c<5->kdS (kdS (kdS (kdS (kdS (kdS (kdS κ s .box) (s+1) .box) (s+1+1) .box) (s+1+1+1) .box) (s+1+1+1+1) .no) (s+1+1+1+1) .box) (s+1+1+1+1+1) .no (s+c) = .box:=by
  intro c hc;simp only[kdS];have:c=0∨c=1∨c=2∨c=3∨c=4:=by omega
  rcases this with rfl|rfl|rfl|rfl|rfl<;>simp[s0,s1,s2,s3,s4]
 have b0:=st'.box (s+0) (ke 0 (by omega));have b1:=st'.box (s+1) (ke 1 (by omega));have b2:=st'.box (s+2) (ke 2 (by omega));have b3:=st'.box (s+3) (ke 3 (by omega));have b4:=st'.box (s+4) (ke 4 (by omega));have g0:tr'.get s=some (.cells 0 true false [.ptr w 0]):=by rw[show s=s+0 from rfl,b0.2];simp[Tr.get_set,s0,s1,s2,s3,s4]
 have g1:tr'.get (s+1)=some (.cells 0 true false [.i .u16 y.code]):=by rw[b1.2];simp[Tr.get_set]
 have g2:tr'.get (s+2)=some (.cells 0 true false [.ptr X 0]):=by rw[b2.2];simp[Tr.get_set]
 have g3:tr'.get (s+3)=some (.cells 0 true false [o]):=by rw[b3.2];simp[Tr.get_set]
 have g4:tr'.get (s+4)=some (.cells 0 true false [.i .i64 (RV.length:Int)]):=by rw[b4.2];simp[Tr.get_set]
 have ws':w<s':=hw.dom w (by rw[q1];simp);have bs':bt'<s':=hw.dom bt' (by rw[q3];simp);have le':s+6<=s':=st'.le;have l0:¬s=s':=by omega
 have l1:¬w=s':=by omega
 have l2:¬bt'=s':=by omega
 have l3:¬w=s'+1:=by omega
 have l4:¬w=bt':=ne (by rw[q1,q3];simp);have l5:¬s=s'+1:=by omega
 have l6:¬s=bt':=ne (by rw[q3,show s=s+0 from rfl,b0.1];simp)
 have hr1:cs'.length+1<=qg:=by simp only[qg];simp at q8;omega
 have hr2:(cs'.length+1)*8<=qg:=by simp only[qg];simp at q8;omega
 have hw1:=hw.new .no (.cells 0 true false [.fn g [] [.ptr (s+1+1) 0,.ptr s 0,.ptr (s+1+1+1+1) 0,.ptr (s+1) 0,.ptr (s+1+1+1) 0]]) (.inl rfl)
 have bx:∀c v,c<5->κ' (s+c) = .box->tr'.get (s+c)=some (.cells 0 true false [v])->Bx (kdS κ' s' .no) (tr'.set s' (.cells 0 true false [.fn g [] [.ptr (s+1+1) 0,.ptr s 0,.ptr (s+1+1+1+1) 0,.ptr (s+1) 0,.ptr (s+1+1+1) 0]])) (s+c) v:=fun c v hc e1 e2=>by
  have:s+c≠s':=by omega
  exact⟨by rw[qe this];exact e1,by rw[Tr.get_set,if_neg this];exact e2⟩
 have lk:∀b F p,κ b = .lab F p->kdS κ' s' .no b = .lab F p:=fun b F p hb=>by
  have hbs:b<s:=h.dom b (by rw[hb];simp);rw[qe (by omega)];refine st'.lab b F p ?_;simp only[kdS];rw[if_neg (by omega),if_neg (by omega),if_neg (by omega),if_neg (by omega),if_neg (by omega),if_neg (by omega),if_neg (by omega)];exact hb
 have hj:JOk g w (kdS κ' s' .no) (tr'.set s' (.cells 0 true false [.fn g [] [.ptr (s+1+1) 0,.ptr s 0,.ptr (s+1+1+1+1) 0,.ptr (s+1) 0,.ptr (s+1+1+1) 0]])) (RV++[y]) RV.length (.fn g [] [.ptr (s+1+1) 0,.ptr s 0,.ptr (s+1+1+1+1) 0,.ptr (s+1) 0,.ptr (s+1+1+1) 0]):=by
  refine⟨s+0,s+1,s+2,s+3,s+4,X,p,o,y,rfl,by simp,bx 0 _ (by omega) b0.1 g0,bx 1 _ (by omega) b1.1 g1,bx 2 _ (by omega) b2.1 g2,bx 3 _ (by omega) b3.1 g3,bx 4 _ (by omega) b4.1 g4,lk _ _ _ hX,?_⟩
  rcases ho with ho|⟨h1,Y,p',h2,h3⟩
  ·exact .inl ho
  ·exact .inr ⟨h1,Y,p',h2,lk _ _ _ h3⟩
 obtain⟨e1,e2⟩:=hw1.add hj (by rw[Tr.get_set,if_neg l1];exact q4) (by rw[Tr.get_set,if_neg l2];exact q6);refine⟨_,_,_,?_,e1,fun k hk=>?_⟩
 rotate_left
 ·refine SC.mk hc (qj ?_);simp only[xk,vI,simprocAttr];simp +decide only[↓vS,vT,simprocAttr,o1,o2,o3,r4,w0,w1,w2,w3,w4,s1,s2,s3,s4,s5,s6,s7];refine hput _ ?_;simp +decide only[↓vS,vT,simprocAttr];refine zD ?_;simp +decide only[↓vS,vT,simprocAttr,g0,q4,q6,l0,l1,l2,l3,l4,l5,l6,ws',bs',hr1,hr2,Nat.mul_one];exact hk
 refine Stp.trans (L:=[]) ?_ (st'.trans ((hw.stpNew .no _ (by simp)).trans e2));refine⟨by omega,fun b hb=>?_,fun b hb=>?_,fun b F p hb=>?_,fun b F hb=>.inl ?_⟩
 rotate_left 3
 ·simp only[kdS] at hb
  repeat' split at hb
  all_goals first|(cases hb;done)|exact hb
 all_goals have hbs:b<s:=h.dom b (by rw[hb];simp)
 ·simp only[kdS,Tr.get_set]
  iterate 7 rw[if_neg (by omega)]
  iterate 7 rw[if_neg (by omega)]
  exact⟨hb,rfl⟩
 ·simp only[kdS,Tr.get_set]
  iterate 7 rw[if_neg (by omega)]
  iterate 7 rw[if_neg (by omega)]
  exact⟨hb,rfl⟩
 ·simp only[kdS]
  iterate 7 rw[if_neg (by omega)]
  exact hb
theorem qdN(hc:qc P f (xk gp g)=true)(hp:qc P gp qX=true)(h:WI g w κ s tr RV N)(y:Sy){X:Nat}{p:Bool}{o:AV}(hX:κ X = .lab y.th p)
  (ho:(y.code=5∧o = .nilp∧y.el=0)∨(y.code≠5∧∃Y p',o = .ptr Y 0∧κ Y = .lab y.el p')) (hm:RV.length<=1000000)
  (hk:∀κ' s' tr',Stp [] κ s tr κ' s' tr'->WI g w κ' s' tr' (RV++[y]) N->k (.tup []) ⟨s',0,tr'⟩):SC P f [.ptr w 0,.i .u16 y.code,.i .u32 y.k,.ptr X 0,o] ⟨s,0,tr⟩ k:=by
 obtain⟨κ',s',tr',q1,q2,q3⟩:=qsR hc hp h y hX ho hm;exact q3 k (hk κ' s' tr' q1 q2)
end
theorem qfm{α:Type}{f:α->List AV}{m:Nat}(h:∀x,(f x).length=m){xs:List α}{j:Nat}{x x':α}{i:Nat}{v:AV}(hx:xs[j]?=some x)(hi:i<m)(hf:f x'=(f x).take i++([v]++(f x).drop (i+1))) :
  (xs.flatMap f).take (j*m+i)++([v]++(xs.flatMap f).drop (j*m+i+1))=(xs.set j x').flatMap f:=by
 obtain⟨hj,hx⟩:=zzS.1 hx;have e:xs=xs.take j++x::xs.drop (j+1):=by rw[← hx,List.getElem_cons_drop,List.take_append_drop]
 have hl:(xs.take j).length=j:=by rw[List.length_take];omega
 have hA:((xs.take j).flatMap f).length=j*m:=by rw[zl h,hl]
 have e1:xs.flatMap f=(xs.take j).flatMap f++(f x++(xs.drop (j+1)).flatMap f):=by
  conv=>lhs;rw[e]
  simp
 have e2:(xs.set j x').flatMap f=(xs.take j).flatMap f++(f x'++(xs.drop (j+1)).flatMap f):=by
  rw[List.set_eq_take_append_cons_drop,if_pos hj];simp
 rw[e1,e2,hf,← hA,List.take_length_add_append,show ((xs.take j).flatMap f).length+i+1=((xs.take j).flatMap f).length+(i+1) from rfl,List.drop_length_add_append]
 rw[List.take_append_of_le_length (by rw[h];omega),List.drop_append_of_le_length (by rw[h];omega)];simp
theorem qdj(s:Sy):(cSy s).length=4:=rfl
def qK:IFn:=⟨[],.seq (.reg true [.d 5 1,.q 6 (.nilChk (.t 5)),.f 7 0 6,.d 8 7,.d 9 2,.d 10 0,.q 11 (.nilChk (.t 10)),.f 12 0 11,.d 13 12,.i 14 4 8 9,.f 15 2 14,.u (.store 1 (.t 15) (.t 13))]) (.seq (.r [.d 16 3,.q 17 (.bin .neq (.t 16) (.c (.i .u16 5)))]) (.cond (.t 17) (.reg true [.d 18 1,.q 19 (.nilChk (.t 18)),.f 20 0 19,.d 21 20,.d 22 2,.d 23 4,.q 24 (.nilChk (.t 23)),.f 25 0 24,.d 26 25,.i 27 4 21 22,.f 28 3 27,.u (.store 1 (.t 28) (.t 26))]) (.skip)))⟩
theorem qsP(hc:qc P f qK=true){s w bl j b5 b6 b8 b9 b10 X F:Nat}{L:List Sy}{z:Sy}{x o:AV}{c:Int}{e:Nat}{tr:Tr Blk}{k:AV->Hp->Prop}
  (hw:tr.get w=some (.cells 0 true false [.own bl L.length,x])) (hl:tr.get bl=some (.cells 4 true true (rSy L))) (hz:L[j]?=some z)
  (g5:tr.get b5=some (.cells 0 true false [.ptr w 0])) (g6:tr.get b6=some (.cells 0 true false [.i .u16 c])) (g8:tr.get b8=some (.cells 0 true false [.ptr X 0])) (g9:tr.get b9=some (.cells 0 true false [o])) (g10:tr.get b10=some (.cells 0 true false [.i .i64 (j:Int)]))
  (gX:tr.get X=some (.cells 0 true false [.i .i64 (F:Int)])) (hn:w≠bl∧b5≠bl∧b6≠bl∧b8≠bl∧b9≠bl∧b10≠bl∧X≠bl) (hd:bl<s)
  (ho:(c=5∧e=z.el)∨(c≠5∧∃Y,o = .ptr Y 0∧Y≠bl∧tr.get Y=some (.cells 0 true false [.i .i64 (e:Int)])))
  (hk:∀tr',(∀b,tr'.get b=if b=bl then some (.cells 4 true true (rSy (L.set j ⟨z.code,z.k,F,e⟩))) else tr.get b)->k (.tup []) ⟨s,0,tr'⟩) :
  SC P f [.ptr b8 0,.ptr b5 0,.ptr b10 0,.ptr b6 0,.ptr b9 0] ⟨s,0,tr⟩ k:=by
 obtain⟨n1,n2,n3,n4,n5,n6,n7⟩:=hn;have hj:j<L.length:=(zzS.1 hz).1;have hj4:j*4+2+1<=(rSy L).length:=by rw[qal];omega
 have h1:(rSy L).take (j*4+2) ++ .i .i64 (F:Int)::(rSy L).drop (j*4+2+1)=rSy (L.set j ⟨z.code,z.k,F,z.el⟩):=qfm qdj hz (by omega) rfl;have hz2:(L.set j ⟨z.code,z.k,F,z.el⟩)[j]?=some ⟨z.code,z.k,F,z.el⟩:=by simp[hj]
 have h2:(rSy (L.set j ⟨z.code,z.k,F,z.el⟩)).take (j*4+3) ++ .i .i64 (e:Int)::(rSy (L.set j ⟨z.code,z.k,F,z.el⟩)).drop (j*4+3+1)=rSy (L.set j ⟨z.code,z.k,F,e⟩):=by
  have:=qfm (x':=⟨z.code,z.k,F,e⟩) (v:=.i .i64 (e:Int)) (i:=3) qdj hz2 (by omega) rfl;rw[List.set_set] at this;exact this
 have hj5:j*4+3+1<=(rSy (L.set j ⟨z.code,z.k,F,z.el⟩)).length:=by rw[qal,List.length_set];omega
 refine SC.mk hc (qj ?_);simp only[qK,vI,simprocAttr];refine zD ?_;simp +decide only[↓vS,vT,simprocAttr,g5,hw,g10,g8,gX,hl,n1,n2,n3,n4,n5,n6,n7,hj,hd,hj4,h1];rcases ho with⟨rfl,rfl⟩|⟨hc5,Y,rfl,nY,gY⟩
 ·simp +decide only[↓vS,vT,simprocAttr,g6];refine hk _ fun b=>?_
  rw[Tr.get_set]
 ·simp +decide only[↓vS,vT,simprocAttr,g6,hc5];refine zD ?_;have n1':¬w=bl:=n1;simp +decide only[↓vS,vT,simprocAttr,g5,hw,g10,g9,gY,hl,n1,n2,n3,n4,n5,n6,n7,nY,hj,hd,hj5,List.length_set,h2];refine hk _ fun b=>?_
  simp only[Tr.get_set];split<;>rfl
def zb:IFn:=⟨[.tmp 2],.seq (.r [.m 2 .N]) (.seq (.seq (.r [.n 5 0,.q 6 (.nilChk (.t 5)),.f 7 1 6,.d 8 7,.e 9 8,.m 10 (.k 0)]) (.blk 0 (.loop (.seq (.r [.s 11 10 9]) (.seq (.cond (.t 11) (.skip) (.exit 0)) (.seq (.blk 1 (.seq (.r [.i 12 1 8 10,.d 13 12,.n 4 13]) (.r [.n 14 4,⟨(some 15),.callV (.t 14) [],none⟩]))) (.r [.a 16 10 1,.n 10 16]))))))) (.seq (.r [.n 17 0,.q 18 (.nilChk (.t 17)),.f 19 0 18,.d 20 19,.n 2 20]) (.ret)))⟩
def qeh(js:List Nat)(RV:List Sy):List Sy:=RV.mapIdx fun j y=>if j ∈ js then y else y.raw
theorem qqN{RV:List Sy}:qeh [] RV=RV.map Sy.raw:=by
 apply List.ext_getElem?;intro i;simp[qeh]
theorem qk4{js:List Nat}{RV:List Sy}:(qeh js RV).length=RV.length:=by simp[qeh]
theorem qei{js:List Nat}{RV:List Sy}{j:Nat}:(qeh js RV)[j]?=(RV[j]?).map fun y=>if j ∈ js then y else y.raw:=by simp[qeh]
theorem qod{js:List Nat}{RV:List Sy}{j:Nat}{y:Sy}(hy:RV[j]?=some y):(qeh js RV).set j y=qeh (js++[j]) RV:=by
 have hj:j<RV.length:=(zzS.1 hy).1;apply List.ext_getElem?;intro i;rw[List.getElem?_set]
 by_cases e:j=i
 ·subst e;rw[if_pos rfl,if_pos (by rw[qk4];exact hj),qei,hy];simp
 ·rw[if_neg e,qei,qei]
  congr 1;funext y
  have:(i ∈ js++[j])↔i ∈ js:=by simp[Ne.symm e]
  simp[this]
theorem qqM{js:List Nat}{RV:List Sy}(h:∀(j:Nat) y,RV[j]?=some y->j ∉ js->y.raw=y):qeh js RV=RV:=by
 apply List.ext_getElem?;intro i;rw[qei];cases hi:RV[i]? with
 | none=>rfl
 | some y =>
  by_cases e:i ∈ js
  ·simp[e]
  ·simp[e,h i y hi e]
theorem qfa.get{g w:Nat}{κ:Nat->Kd}{tr:Tr Blk}{RV:List Sy}:∀{js:List Nat} {cs:List AV},qfa g w κ tr RV js cs->∀{i:Nat} {c:AV},cs[i]?=some c->∃j,js[i]?=some j∧JOk g w κ tr RV j c
 | [],[],_,_,_,h=>by simp at h
 | j::js,c::cs,h,0,_,hi=>by simp at hi;subst hi;exact⟨j,rfl,h.1⟩
 | j::js,c::cs,h,i+1,_,hi=>by simpa using qfa.get h.2 (by simpa using hi)
 | [],_::_,h,_,_,_=>h.elim
 | _::_,[],h,_,_,_=>h.elim
theorem qfa.len{g w:Nat}{κ:Nat->Kd}{tr:Tr Blk}{RV:List Sy}:∀{js:List Nat} {cs:List AV},qfa g w κ tr RV js cs->js.length=cs.length
 | [],[],_=>rfl
 | _::_,_::_,h=>by simp[qfa.len h.2]
 | [],_::_,h=>h.elim
 | _::_,[],h=>h.elim
theorem qr1{g w s:Nat}{κ:Nat->Kd}{tr:Tr Blk}{RV:List Sy}{k:AV->Hp->Prop}(hc:qc P f zb=true)(hg:qc P g qK=true)(h:WI g w κ s tr RV [])(hp:∀b F p,κ b = .lab F p->p=true)(hm:RV.length<=1000000)
  (hk:∀tr' b,tr'.get b=some (.cells 4 true true (rSy RV))->b<s->k (.own b RV.length) ⟨s,0,tr'⟩):SC P f [.ptr w 0] ⟨s,0,tr⟩ k:=by
 obtain⟨bl,bt,cs,js,r1,r2,r3,r4,r5,r6,r7,r8,r9⟩:=h.rows;have ne:∀{b c},κ b≠κ c->b≠c:=fun q e=>q (e ▸ rfl)
 have hjl:=r7.len;refine SC.mk hc (qj ?_);simp only[zb,vI,simprocAttr];simp +decide only[↓vS,vT,simprocAttr,r4];have wl:w≠bl:=ne (by rw[r1,r2];simp);have tl:bt≠bl:=ne (by rw[r3,r2];simp)
 refine SL.loopP (α:=Nat) (fun i=>[(0,.ptr w 0),(2,.nils),(8,.own bt cs.length),(9,.i .i64 (cs.length:Int)),(10,.i .i64 (i:Int))])
  (fun i h=>i<=cs.length∧∃tr',h=⟨s,0,tr'⟩∧∀b,tr'.get b=if b=bl then some (.cells 4 true true (rSy (qeh (js.take i) RV))) else tr.get b) (fun i=>cs.length-i) ?_ 0 ?_ ?_
 ·rintro i h1 ⟨hi,tr',rfl,hget⟩ G ih;simp only[vI,simprocAttr];have g4:tr'.get w=some (.cells 0 true false [.own bl RV.length,.own bt cs.length]):=by rw[hget,if_neg wl];exact r4
  have g5:tr'.get bl=some (.cells 4 true true (rSy (qeh (js.take i) RV))):=by rw[hget,if_pos rfl]
  have g6:tr'.get bt=some (.cells 1 true true cs):=by rw[hget,if_neg tl];exact r6
  by_cases hlt:i<cs.length
  ·obtain⟨j,hj,b5,b6,b8,b9,b10,X,p,o,y,h0,h1,h2,h3,h4,h5,h6,h7,h8⟩:=r7.get (zzE hlt);have hci:cs[i]?=some (.fn g [] [.ptr b8 0,.ptr b5 0,.ptr b10 0,.ptr b6 0,.ptr b9 0]):=by rw[zzE hlt,h0]
   have nb:∀{b v},Bx κ tr b v->b≠bl∧tr'.get b=some (.cells 0 true false [v]):=fun {b v} q=>by
    have e:b≠bl:=ne (by rw[q.1,r2];simp);exact⟨e,by rw[hget,if_neg e];exact q.2⟩
   have nl:∀{b F p},κ b = .lab F p->b≠bl∧tr'.get b=some (.cells 0 true false [.i .i64 (F:Int)]):=fun {b F p} q=>by
    have e:b≠bl:=ne (by rw[q,r2];simp);obtain⟨x,q1,q2⟩:=h.lab b F p q;exact⟨e,by rw[hget,if_neg e,q1,q2 (hp _ _ _ q)]⟩
   have hlt':(i:Int)<cs.length:=by omega
   have hw1:IntKind.wrap .i64 ((i:Int)+1)=((i+1:Nat):Int):=by rw[qq (by omega) (by omega)];simp
   simp +decide only[↓vS,vT,simprocAttr,hlt',hlt,g6,hci,Nat.mul_one];have hz:(qeh (js.take i) RV)[j]?=some (if j ∈ js.take i then y else y.raw):=by rw[qei,h1];rfl
   refine qsP (F:=y.th) (e:=y.el) (c:=y.code) (L:=qeh (js.take i) RV) hg (by rw[qk4];exact g4) g5 hz (nb h2).2 (nb h3).2 (nb h4).2 (nb h5).2 (nb h6).2 (nl h7).2 ⟨wl,(nb h2).1,(nb h3).1,(nb h4).1,(nb h5).1,(nb h6).1,(nl h7).1⟩ (h.dom bl (by rw[r2];simp)) ?_ ?_
   ·rcases h8 with⟨h8,rfl,h9⟩|⟨h8,Y,p',rfl,h9⟩
    ·exact .inl ⟨h8,by split<;>simp[h9,Sy.raw]⟩
    ·exact .inr ⟨h8,Y,rfl,(nl h9).1,(nl h9).2⟩
   ·intro tr2 hget2;have ec:∀b:Bool,(⟨(if j ∈ js.take i then y else y.raw).code,(if j ∈ js.take i then y else y.raw).k,y.th,y.el⟩:Sy)=y:=fun _=>by split<;>rfl
    rw[ec true,qod h1] at hget2;simp +decide only[↓vS,vT,simprocAttr,hw1];refine ih (i+1) _ _ (by omega) ?_ ⟨by omega,tr2,rfl,fun b=>?_⟩
    ·simp[qf,qi,Tr.get_set]
    ·rw[hget2,hget];have:js.take (i+1)=js.take i++[j]:=by rw[List.take_add_one,hj];rfl
     rw[this];split<;>rfl
  ·obtain rfl:i=cs.length:=by omega
   have hlt':¬((cs.length:Int)<cs.length):=by omega
   simp +decide only[↓vS,vT,simprocAttr,hlt',g4];rw[show js.take cs.length=js from by rw[← hjl,List.take_length]] at g5
   rw[qqM fun j y hy hj=>r9 j y hy hj (by simp)] at g5
   exact hk _ _ g5 (h.dom bl (by rw[r2];simp))
 ·simp[qf,qi,Tr.get_set]
 ·refine⟨Nat.zero_le _,tr,rfl,fun b=>?_⟩
  simp only[List.take_zero,qqN];split
  ·rename_i e;rw[e];exact r5
  ·rfl
theorem Stp.kd{L L':List Nat}{κ κ1:Nat->Kd}{s s1:Nat}{tr t1 t2:Tr Blk}(a:Stp L κ s tr κ1 s1 t1)(hd:∀b,κ b≠.no->b<s){b F':Nat}(hb:s<=b)(hf:∀c,κ1 c = .fr->t2.get c=t1.get c)(hx:∀c,κ1 c = .box->t2.get c=t1.get c)(hL:∀c ∈ L,c=b∨c ∈ L'):Stp L' κ s tr (kdS κ1 b (.lab F' true)) s1 t2:=by
 have ne:∀{c},κ c≠.no->c≠b:=fun h e=>by have:=hd _ h;omega
 refine⟨a.le,fun c hc=>?_,fun c hc=>?_,fun c F p hc=>?_,fun c F hc=>?_⟩
 ·rw[qe (ne (by rw[hc];simp))];exact⟨(a.fr c hc).1,(hf c (a.fr c hc).1).trans (a.fr c hc).2⟩
 ·rw[qe (ne (by rw[hc];simp))];exact⟨(a.box c hc).1,(hx c (a.box c hc).1).trans (a.box c hc).2⟩
 ·rw[qe (ne (by rw[hc];simp))];exact a.lab c F p hc
 ·by_cases e:c=b
  ·rw[e,qA] at hc;cases hc
  ·rw[qe e] at hc;rcases a.nw c F hc with h|h
   ·exact .inl h
   ·exact .inr ((hL c h).resolve_left e)
def qc0(a mask v:Int)(p F:Nat):List Sy :=
 if mask=0 then [] else if mask=4294967295 then [⟨32,a,0,0⟩,⟨21,v,p+2,F⟩] else [⟨32,a,0,0⟩,⟨84,mask,0,0⟩,⟨21,v,p+3,F⟩]
def qbD(mask:Int):Nat:=if mask=0 then 0 else if mask=4294967295 then 2 else 3
theorem qbH{a m v:Int}{p F:Nat}:(qc0 a m v p F).length=qbD m:=by
 unfold qc0 qbD;split
 ·rfl
 ·split<;>rfl
section
variable {g w s gl gp gj gh:Nat} {κ:Nat->Kd} {tr:Tr Blk} {RV:List Sy} {N:List Nat} {k:AV->Hp->Prop}
def xi(a b c d:Nat):IFn:=⟨[],.seq (.seq (.r [.n 11 2,.q 12 (.bin .eql (.t 11) (.c (.i .u32 0)))]) (.cond (.t 12) (.ret) (.skip))) (.seq (.r [.n 13 0,.n 14 1,.l 15 a [.t 13,.t 14]]) (.seq (.seq (.r [.n 16 2,.q 17 (.bin .neq (.t 16) (.c (.i .u32 4294967295)))]) (.cond (.t 17) (.r [.n 18 0,.n 19 2,.q 20 (.build [.i .u16 0,.i .u32 0,.i .i64 0,.i .i64 0] [(0,1,(.c (.i .u16 84))),(1,1,(.t 19))]),.q 21 (.buildS 1 [.i .u16 0,.i .u32 0,.i .i64 0,.i .i64 0] [(0,4,(.t 20))]),.l 22 b [.t 18,.t 21]]) (.skip))) (.seq (.r [.q 23 (.build [.i .i64 0] []),.q 24 (.box (.t 23)),.n 10 24]) (.seq (.r [.n 25 0,.n 26 3,.n 27 10,.n 28 4,.l 29 c [.t 25,(.c (.i .u16 21)),.t 26,.t 27,.t 28]]) (.r [.n 30 0,.n 31 10,.l 32 d [.t 30,.t 31]])))))⟩
theorem qsE(hc:qc P f (xi gl gp gj gh)=true)(h1:qc P gl (xZ gp)=true)(h2:qc P gp qX=true)(h3:qc P gj (xk gp g)=true)(h4:qc P gh xj=true)
  (h:WI g w κ s tr RV N) (a m v:Int) {X F:Nat} {p:Bool} (hX:κ X = .lab F p) (hm:RV.length+3<=1000000)
  (hk:∀κ' s' tr',Stp [] κ s tr κ' s' tr'->WI g w κ' s' tr' (RV++qc0 a m v RV.length F) N->k (.tup []) ⟨s',0,tr'⟩):SC P f [.ptr w 0,.i .u32 a,.i .u32 m,.i .u32 v,.ptr X 0] ⟨s,0,tr⟩ k:=by
 refine SC.mk hc (qj ?_);simp only[xi,vI,simprocAttr];unfold qc0 at hk
 by_cases m0:m=0
 ·rw[if_pos m0] at hk;simp +decide only[↓vS,vT,simprocAttr,m0];exact hk κ s tr .refl (by rw[List.append_nil];exact h)
 rw[if_neg m0] at hk;simp +decide only[↓vS,vT,simprocAttr,m0];refine qjT h1 h2 h a (by omega) fun κ1 s1 t1 st1 w1=>?_
 by_cases m1:m=4294967295
 ·rw[if_pos m1] at hk;simp +decide only[↓vS,vT,simprocAttr,m1];have w2:=w1.new (.lab (RV.length+2) false) _ (.inr (.inr (.inr ⟨_,rfl,rfl⟩)));have st2:=st1.trans (w1.stpLab (.lab (RV.length+2) false) (.cells 0 true false [.i .i64 0]));refine qdN h3 h2 w2 ⟨21,v,RV.length+2,F⟩ qA (.inr ⟨(by decide:(21:Int)≠5),X,p,rfl,st2.lab X F p hX⟩) (by simp;omega) fun κ3 s3 t3 st3 w3=>?_
  simp +decide only[↓vS,vT,simprocAttr]
  have hb:κ3 s1 = .lab (RV++[(⟨32,a,0,0⟩:Sy)]++[(⟨21,v,RV.length+2,F⟩:Sy)]).length false:=by
   rw[st3.lab s1 _ _ qA];simp
  refine qaJ h4 w3 hb fun t4 q1 q2 w4=>?_
  simp +decide only[↓vS,vT,simprocAttr];rw[List.append_assoc] at w4;exact hk _ _ _ (((st2.trans st3)).kd h.dom st1.le q1 q2 (by simp)) w4
 ·rw[if_neg m1] at hk;simp +decide only[↓vS,vT,simprocAttr,m1];refine qtO h2 (w1.new .no _ (.inl rfl)) ⟨84,m,0,0⟩ (by rw[Tr.get_set,if_pos rfl];rfl) (by simp;omega) fun κ2 s2 t2 st2 w2=>?_
  have w2:=w2.dropS rfl;have st2:=st1.trans ((w1.stpNew _ _ (by simp)).trans st2);simp +decide only[↓vS,vT,simprocAttr];have w3:=w2.new (.lab (RV.length+3) false) _ (.inr (.inr (.inr ⟨_,rfl,rfl⟩)));have st3:=st2.trans (w2.stpLab (.lab (RV.length+3) false) (.cells 0 true false [.i .i64 0]));refine qdN h3 h2 w3 ⟨21,v,RV.length+3,F⟩ qA (.inr ⟨(by decide:(21:Int)≠5),X,p,rfl,st3.lab X F p hX⟩) (by simp;omega) fun κ4 s4 t4 st4 w4=>?_
  simp +decide only[↓vS,vT,simprocAttr]
  have hb:κ4 s2 = .lab (RV++[(⟨32,a,0,0⟩:Sy)]++[(⟨84,m,0,0⟩:Sy)]++[(⟨21,v,RV.length+3,F⟩:Sy)]).length false:=by
   rw[st4.lab s2 _ _ qA];simp
  refine qaJ h4 w4 hb fun t5 q1 q2 w5=>?_
  simp +decide only[↓vS,vT,simprocAttr];rw[List.append_assoc,List.append_assoc] at w5;exact hk _ _ _ ((st3.trans st4).kd h.dom st2.le q1 q2 (by simp)) w5
end
def qgl:IFn:=⟨[.tmp 4,.tmp 5],.seq (.r [.m 4 (.c (.i .u32 0)),.m 5 .F]) (.seq (.seq (.r [.n 6 0,.w 7 .lss 6 0,.n 8 7,.z 9 0 8,.g 10 (.bin .gtr (.t 9) (.k 5)) 8 false,.o 11 8 10]) (.cond (.t 11) (.seq (.r [.m 4 (.c (.i .u32 0)),.m 5 .F]) (.ret)) (.skip))) (.seq (.r [.n 12 0,.q 13 (.bin .mul (.k 8) (.t 12)),.q 14 (.bin .add (.k 16) (.t 13)),.n 15 1,.b 16 .add 14 15,.q 17 (.cvInt .u32 (.t 16)),.n 4 17,.m 5 .T]) (.ret)))⟩
theorem qAz(hc:qc P f qgl=true)(a b:Int)(h0:0<=a)(h6:a<6)(hb0:0<=b)(hb:b<=4):qd P f [.i .i64 a,.i .i64 b] (.tup [.i .u32 (16+8*a+b),.b true]):=by
 refine qd.mk hc rfl ?_;have n1:¬a<0:=by omega
 have n2:¬5<a:=by omega
 have e1:IntKind.wrap .i64 (8*a)=8*a:=qq (by omega) (by omega);have e2:IntKind.wrap .i64 (16+8*a)=16+8*a:=qq (by omega) (by omega);have e3:IntKind.wrap .i64 (16+8*a+b)=16+8*a+b:=qq (by omega) (by omega);have e4:IntKind.wrap .u32 (16+8*a+b)=16+8*a+b:=qcD (by omega) (by omega);simp only[qgl,vI,simprocAttr];simp +decide only[↓vS,vT,simprocAttr,n1,n2,e1,e2,e3,e4];simp[vZ]
def qiA(a:Nat):IFn:=⟨[.tmp 2,.tmp 3],.seq (.r [.m 2 (.c (.i .u32 0)),.m 3 .F]) (.seq (.r [.n 4 0,.l 5 a [.t 4,.k 0],.x 6 5 0,.x 7 5 1,.n 2 6,.n 3 7]) (.ret))⟩
theorem qBL{g:Nat}(hc:qc P f (qiA g)=true)(hg:∀a b:Int,0<=a->a<6->0<=b->b<=4->qd P g [.i .i64 a,.i .i64 b] (.tup [.i .u32 (16+8*a+b),.b true]))(a:Int)(h0:0<=a)(h6:a<6):qd P f [.i .i64 a] (.tup [.i .u32 (16+8*a),.b true]):=by
 refine qd.mk hc rfl ?_;simp only[qiA,vI,simprocAttr];simp +decide only[↓vS,vT,simprocAttr];refine (hg a 0 h0 h6 (by omega) (by omega)).sc ?_;simp +decide only[↓vS,vT,simprocAttr];simp[vZ]
def qhv(a:Nat):IFn:=⟨[.tmp 2,.tmp 3],.seq (.r [.m 2 (.c (.i .u32 0)),.m 3 .F]) (.seq (.r [.n 4 0,.l 5 a [.t 4,.k 4],.x 6 5 0,.x 7 5 1,.n 2 6,.n 3 7]) (.ret))⟩
theorem qzo{g:Nat}(hc:qc P f (qhv g)=true)(hg:∀a b:Int,0<=a->a<6->0<=b->b<=4->qd P g [.i .i64 a,.i .i64 b] (.tup [.i .u32 (16+8*a+b),.b true]))(a:Int)(h0:0<=a)(h6:a<6):qd P f [.i .i64 a] (.tup [.i .u32 (16+8*a+4),.b true]):=by
 refine qd.mk hc rfl ?_;simp only[qhv,vI,simprocAttr];simp +decide only[↓vS,vT,simprocAttr];refine (hg a 4 h0 h6 (by omega) (by omega)).sc ?_;simp +decide only[↓vS,vT,simprocAttr];simp[vZ]
def qbz(t:GTest):Nat:=qbD (loW t.mask)+qbD (hiW t.mask)+1
def qgD(t:GTest)(p:Nat):List Sy :=
 qc0 (16+8*t.arg) (loW t.mask) (loW t.val) p (p+qbz t)++qc0 (16+8*t.arg+4) (hiW t.mask) (hiW t.val) (p+qbD (loW t.mask)) (p+qbz t)++[⟨6,t.act,0,0⟩]
theorem qcM{t:GTest}{p:Nat}:(qgD t p).length=qbz t:=by simp[qgD,qbz,qbH];omega
theorem qhp{m:Int}:qbD m<=3:=by unfold qbD;split;omega;split<;>omega
theorem qnB{t:GTest}:qbz t<=7:=by have:=qhp (m:=loW t.mask);have:=qhp (m:=hiW t.mask);unfold qbz;omega
structure TstOk (t:GTest):Prop where
 a0:0<=t.arg
 a1:t.arg<6
 m0:0<=t.mask
 m1:t.mask<18446744073709551616
 v0:0<=t.val
 v1:t.val<18446744073709551616
def qpO(P:Program)(f:Nat)(b:Int):Prop:=∀a:Int,0<=a->a<6->qd P f [.i .i64 a] (.tup [.i .u32 (16+8*a+b),.b true])
structure WFn (P:Program) (g gl gp gj gh gr:Nat):Prop where
 ld:qc P gl (xZ gp)=true
 put:qc P gp qX=true
 jmp:qc P gj (xk gp g)=true
 here:qc P gh xj=true
 ret:qc P gr (qaY gp)=true
section
variable {g w s gl gp gj gh gr g1 g2 g3 g4 g5:Nat} {κ:Nat->Kd} {tr:Tr Blk} {RV:List Sy} {N:List Nat} {k:AV->Hp->Prop}
def x4(a b c d e g:Nat):IFn:=⟨[],.seq (.r [.q 3 (.box (.t 1))]) (.seq (.r [.q 13 (.build [.i .i64 0] []),.q 14 (.box (.t 13)),.n 4 14]) (.seq (.r [.f 16 0 3,.d 17 16,.l 18 a [.t 17],.n 15 18,.x 19 15 0,.x 20 15 1,.n 5 19,.n 6 20]) (.seq (.r [.f 22 0 3,.d 23 22,.l 24 b [.t 23],.n 21 24,.x 25 21 0,.x 26 21 1,.n 7 25,.n 8 26]) (.seq (.r [.f 28 1 3,.d 29 28,.l 30 c [.t 29],.n 27 30,.x 31 27 0,.x 32 27 1,.n 9 31,.n 10 32]) (.seq (.r [.f 34 2 3,.d 35 34,.l 36 c [.t 35],.n 33 36,.x 37 33 0,.x 38 33 1,.n 11 37,.n 12 38]) (.seq (.r [.n 39 0,.n 40 5,.n 41 9,.n 42 11,.n 43 4,.l 44 d [.t 39,.t 40,.t 41,.t 42,.t 43]]) (.seq (.r [.n 45 0,.n 46 7,.n 47 10,.n 48 12,.n 49 4,.l 50 d [.t 45,.t 46,.t 47,.t 48,.t 49]]) (.seq (.r [.n 51 0,.f 52 3 3,.d 53 52,.l 54 e [.t 51,.t 53]]) (.r [.n 55 0,.n 56 4,.l 57 g [.t 55,.t 56]])))))))))⟩
theorem qA6(hc:qc P f (x4 g1 g2 g3 g4 gr gh)=true)(W:WFn P g gl gp gj gh gr)(c1:qpO P g1 0)(c2:qpO P g2 4)(c3:qu9 P g3)(c4:qc P g4 (xi gl gp gj gh)=true)
  (h:WI g w κ s tr RV N) (t:GTest) (ht:TstOk t) (hm:RV.length+7<=1000000)
  (hk:∀κ' s' tr',Stp [] κ s tr κ' s' tr'->WI g w κ' s' tr' (RV++qgD t RV.length) N->k (.tup []) ⟨s',0,tr'⟩):SC P f [.ptr w 0,.agg (zQ t)] ⟨s,0,tr⟩ k:=by
 refine SC.mk hc (qj ?_);simp only[x4,zQ,vI,simprocAttr];simp +decide only[↓vS,vT,simprocAttr];have s1:¬s=s+1:=by omega
 have w1:=h.new .fr (.cells 0 true false [.i .i64 t.arg,.i .u64 t.mask,.i .u64 t.val,.i .u32 t.act]) (.inr (.inl rfl));have w2:=w1.new (.lab (RV.length+qbz t) false) _ (.inr (.inr (.inr ⟨_,rfl,rfl⟩)));have st2:=(h.stpNew .fr (.cells 0 true false [.i .i64 t.arg,.i .u64 t.mask,.i .u64 t.val,.i .u32 t.act]) (by simp)).trans (w1.stpLab (.lab (RV.length+qbz t) false) (.cells 0 true false [.i .i64 0]));have hX:=qA (κ:=kdS κ s .fr) (b:=s+1) (x:=.lab (RV.length+qbz t) false);have hf:kdS (kdS κ s .fr) (s+1) (.lab (RV.length+qbz t) false) s = .fr:=by rw[qe (by omega),qA]
 simp only[s1,↓vS,vT,simprocAttr];refine (c1 t.arg ht.a0 ht.a1).sc ?_;simp only[↓vS,vT,simprocAttr,s1];refine (c2 t.arg ht.a0 ht.a1).sc ?_;simp only[↓vS,vT,simprocAttr,s1];refine (c3 t.mask ht.m0 ht.m1).sc ?_;simp only[↓vS,vT,simprocAttr,s1];refine (c3 t.val ht.v0 ht.v1).sc ?_;simp only[↓vS,vT,simprocAttr,s1];refine qsE c4 W.ld W.put W.jmp W.here w2 _ _ _ hX (by omega) fun κ3 s3 t3 st3 w3=>?_
 simp only[↓vS,vT,simprocAttr];have l3:(RV++qc0 (16+8*t.arg+0) (loW t.mask) (loW t.val) RV.length (RV.length+qbz t)).length=RV.length+qbD (loW t.mask):=by rw[List.length_append,qbH]
 have n1:=qhp (m:=loW t.mask);have n2:=qhp (m:=hiW t.mask);refine qsE c4 W.ld W.put W.jmp W.here w3 _ _ _ (st3.lab _ _ _ hX) (by rw[l3];omega) fun κ4 s4 t4 st4 w4=>?_
 rw[l3] at w4
 have g4:t4.get s=some (.cells 0 true false [.i .i64 t.arg,.i .u64 t.mask,.i .u64 t.val,.i .u32 t.act]):=by
  rw[((st3.trans st4).fr s hf).2,Tr.get_set,if_neg (by omega),Tr.get_set,if_pos rfl]
 simp only[↓vS,vT,simprocAttr,g4];refine qk7 W.ret W.put w4 t.act (by simp[qbH];omega) fun κ5 s5 t5 st5 w5=>?_
 simp only[↓vS,vT,simprocAttr]
 have e5:RV++qc0 (16+8*t.arg+0) (loW t.mask) (loW t.val) RV.length (RV.length+qbz t)++qc0 (16+8*t.arg+4) (hiW t.mask) (hiW t.val) (RV.length+qbD (loW t.mask)) (RV.length+qbz t)++[⟨6,t.act,0,0⟩]=RV++qgD t RV.length:=by
  simp[qgD]
 rw[e5] at w5;refine qaJ W.here w5 (p:=false) (by rw[List.length_append,qcM];exact ((st3.trans st4).trans st5).lab _ _ _ hX) fun t6 q1 q2 w6=>?_
 simp only[↓vS,vT,simprocAttr];exact hk _ _ _ ((((st2.trans st3).trans st4).trans st5).kd h.dom (by omega) q1 q2 (by simp)) w6
end
def qbS:List GTest->Int->Nat->List Sy
 | [],a,_=>[⟨6,a,0,0⟩]
 | t::ts,a,p=>qgD t p++if t.mask=0 then [] else qbS ts a (p+qbz t)
def qqU(r:GRule)(p:Nat):List Sy:=qbS r.tests r.act p
section
variable {g w s gl gp gj gh gr g1 g2 g3 g4 g5:Nat} {κ:Nat->Kd} {tr:Tr Blk} {RV:List Sy} {N:List Nat} {k:AV->Hp->Prop}
def qaK(a b:Nat):IFn:=⟨[],.seq (.r [.q 3 (.box (.t 1))]) (.seq (.seq (.r [.f 6 1 3,.d 7 6,.e 8 7,.m 9 (.k 0)]) (.blk 0 (.loop (.seq (.r [.s 10 9 8]) (.seq (.cond (.t 10) (.skip) (.exit 0)) (.seq (.blk 1 (.seq (.r [.i 11 4 7 9,.v 12 4 11,.q 5 (.alloc [.i .i64 0,.i .u64 0,.i .u64 0,.i .u32 0]),.u (.store 4 (.t 5) (.t 12))]) (.seq (.r [.n 13 0,.v 14 4 5,.l 15 a [.t 13,.t 14]]) (.seq (.r [.f 16 1 5,.d 17 16,.q 18 (.bin .eql (.t 17) (.c (.i .u64 0)))]) (.cond (.t 18) (.ret) (.skip)))))) (.r [.a 19 9 1,.n 9 19]))))))) (.r [.n 20 0,.f 21 2 3,.d 22 21,.l 23 b [.t 20,.t 22]]))⟩
theorem qAN(hc:qc P f (qaK g5 gr)=true)(W:WFn P g gl gp gj gh gr)(h5:qc P g5 (x4 g1 g2 g3 g4 gr gh)=true)(c1:qpO P g1 0)(c2:qpO P g2 4)(c3:qu9 P g3)(c4:qc P g4 (xi gl gp gj gh)=true)
  (h:WI g w κ s tr RV N) (r:GRule) (ht:∀t ∈ r.tests,TstOk t) (hm:RV.length+r.tests.length*7+1<=1000000)
  (hk:∀κ' s' tr',Stp [] κ s tr κ' s' tr'->WI g w κ' s' tr' (RV++qqU r RV.length) N->k (.tup []) ⟨s',0,tr'⟩):SC P f [.ptr w 0,.agg (qM r)] ⟨s,0,tr⟩ k:=by
 refine SC.mk hc (qj ?_);simp only[qaK,qM,vI,simprocAttr];simp +decide only[↓vS,vT,simprocAttr];have w1:=h.new .fr (.cells 0 true false [.i .u32 r.nr,.fz r.tests.length (rT r.tests),.i .u32 r.act]) (.inr (.inl rfl));have st1:=h.stpNew .fr (.cells 0 true false [.i .u32 r.nr,.fz r.tests.length (rT r.tests),.i .u32 r.act]) (by simp)
 refine SL.loopP (α:=Nat) (fun i=>[(0,.ptr w 0),(3,.ptr s 0),(7,.fz r.tests.length (rT r.tests)),(8,.i .i64 (r.tests.length:Int)),(9,.i .i64 (i:Int))])
  (fun i h=>i<=r.tests.length∧∃κ' s' tr' RV',h=⟨s',0,tr'⟩∧Stp [] (kdS κ s .fr) (s+1) (tr.set s (.cells 0 true false [.i .u32 r.nr,.fz r.tests.length (rT r.tests),.i .u32 r.act])) κ' s' tr'∧WI g w κ' s' tr' RV' N ∧
   RV'++qbS (r.tests.drop i) r.act RV'.length=RV++qqU r RV.length∧RV'.length<=RV.length+i*7) (fun i=>r.tests.length-i) ?_ 0 ?_ ?_
 ·rintro i h1 ⟨hi,κ',s',tr',RV',rfl,st,w',he,hl⟩ G ih;simp only[vI,simprocAttr]
  have gs:tr'.get s=some (.cells 0 true false [.i .u32 r.nr,.fz r.tests.length (rT r.tests),.i .u32 r.act]):=by
   rw[(st.fr s qA).2,Tr.get_set,if_pos rfl]
  by_cases hlt:i<r.tests.length
  ·have hlt':(i:Int)<r.tests.length:=by omega
   obtain⟨t,hti⟩:∃t,r.tests[i]?=some t:=⟨_,zzE hlt⟩;have hel:=qph hti;have h4:i*4+4<=(rT r.tests).length:=by rw[qik];omega
   have hd:r.tests.drop i=t::r.tests.drop (i+1):=by rw[← (zzS.1 hti).2,List.getElem_cons_drop]
   rw[hd] at he;have hw1:IntKind.wrap .i64 ((i:Int)+1)=((i+1:Nat):Int):=by rw[qq (by omega) (by omega)];simp
   simp +decide only[↓vS,vT,simprocAttr,hlt',hlt,h4,hel,zQ];have wa:=w'.new .fr (.cells 0 true false [.i .i64 0,.i .u64 0,.i .u64 0,.i .u32 0]) (.inr (.inl rfl));have wb:=wa.chg (b:=s') .fr (.cells 0 true false (zQ t)) (.inl qA) (by omega) (.inr (.inl rfl));refine qA6 h5 W c1 c2 c3 c4 wb t (ht t (zzM hti)) (by omega) fun κ2 s2 t2 st2 w2=>?_
   have fb:=st2.fr s' qA
   have gb:t2.get s'=some (.cells 0 true false [.i .i64 t.arg,.i .u64 t.mask,.i .u64 t.val,.i .u32 t.act]):=by
    rw[fb.2,Tr.get_set,if_pos rfl];rfl
   have ss:s<s':=by have:=st.le;omega
   have st3:Stp [] κ' s' tr' κ2 s2 t2:=by
    refine Stp.trans (L:=[]) ?_ st2;refine⟨by omega,fun b hb=>?_,fun b hb=>?_,fun b F p hb=>?_,fun b F hb=>.inl ?_⟩
    rotate_left 3
    ·simp only[kdS] at hb
     repeat' split at hb
     all_goals first|(cases hb;done)|exact hb
    all_goals have hbs:b<s':=w'.dom b (by rw[hb];simp)
    ·rw[qe (by omega),qe (by omega),Tr.get_set,if_neg (by omega),Tr.get_set,if_neg (by omega)];exact⟨hb,rfl⟩
    ·rw[qe (by omega),qe (by omega),Tr.get_set,if_neg (by omega),Tr.get_set,if_neg (by omega)];exact⟨hb,rfl⟩
    ·rw[qe (by omega),qe (by omega)];exact hb
   simp +decide only[↓vS,vT,simprocAttr,gb];unfold qbS at he
   by_cases hm0:t.mask=0
   ·rw[if_pos hm0,List.append_nil] at he;simp +decide only[↓vS,vT,simprocAttr,hm0];rw[he] at w2;exact hk _ _ _ (st1.trans (st.trans st3)) w2
   ·rw[if_neg hm0] at he;simp +decide only[↓vS,vT,simprocAttr,hm0,hw1];refine ih (i+1) _ _ (by omega) ?_ ⟨by omega,κ2,s2,t2,_,rfl,st.trans st3,w2,?_,?_⟩
    ·simp[qf,qi,Tr.get_set]
    ·rw[← he,List.length_append,qcM,List.append_assoc]
    ·have:=qnB (t:=t);rw[List.length_append,qcM];omega
  ·obtain rfl:i=r.tests.length:=by omega
   have hlt':¬((r.tests.length:Int)<r.tests.length):=by omega
   rw[List.drop_length] at he;simp +decide only[↓vS,vT,simprocAttr,hlt',gs];refine qk7 W.ret W.put w' r.act (by omega) fun κ2 s2 t2 st2 w2=>?_
   simp +decide only[↓vS,vT,simprocAttr];unfold qbS at he;rw[he] at w2;exact hk _ _ _ (st1.trans (st.trans st2)) w2
 ·simp[qf,qi,Tr.get_set]
 ·exact⟨Nat.zero_le _,_,_,_,RV,rfl,.refl,w1,rfl,by simp⟩
end
def ju(a:Int):Nat:=if a=0 then 4 else if a=2 then 4 else 3
def qa3(a:Int)(p F:Nat):List Sy :=
 [⟨32,4,0,0⟩,⟨21,qcB a,p+2,F⟩,⟨32,0,0,0⟩]++if a=0 then [⟨69,1073741824,F,p+4⟩] else if a=2 then [⟨69,1073741824,p+4,F⟩] else []
theorem jA{a:Int}{p F:Nat}:(qa3 a p F).length=ju a:=by unfold qa3 ju;split;rfl;split<;>rfl
theorem qo3{a:Int}:ju a<=4:=by unfold ju;split;omega;split<;>omega
def qnW(P:Program)(f:Nat):Prop:=∀a:Int,0<=a->a<6->qd P f [.i .i64 a] (.tup [.i .u32 (qcB a),.i .i64 0])
section
variable {g w s gl gp gj gh gr g1 g2 g3 g4 g5:Nat} {κ:Nat->Kd} {tr:Tr Blk} {RV:List Sy} {N:List Nat} {k:AV->Hp->Prop}
def qaX(a b c d:Nat):IFn:=⟨[],.seq (.r [.q 10 (.build [.i .i64 0] []),.q 11 (.box (.t 10)),.q 12 (.build [.i .i64 0] []),.q 13 (.box (.t 12)),.n 6 11,.n 7 13]) (.seq (.r [.n 15 1,.l 16 a [.t 15],.n 14 16,.x 17 14 0,.x 18 14 1,.n 8 17,.n 9 18]) (.seq (.r [.n 19 0,.l 20 b [.t 19,(.c (.i .u32 4))]]) (.seq (.r [.n 21 0,.n 22 8,.n 23 6,.n 24 2,.l 25 c [.t 21,(.c (.i .u16 21)),.t 22,.t 23,.t 24]]) (.seq (.r [.n 26 0,.n 27 6,.l 28 d [.t 26,.t 27]]) (.seq (.r [.n 29 0,.l 30 b [.t 29,(.c (.i .u32 0))]]) (.seq (.seq (.r [.n 31 1]) (.blk 0 (.seq (.r [.w 33 .eql 31 0,.n 32 33]) (.cond (.t 32) (.r [.n 34 0,.n 35 2,.n 36 7,.l 37 c [.t 34,(.c (.i .u16 69)),(.c (.i .u32 1073741824)),.t 35,.t 36]]) (.seq (.r [.w 39 .eql 31 2,.n 38 39]) (.cond (.t 38) (.r [.n 40 0,.n 41 7,.n 42 2,.l 43 c [.t 40,(.c (.i .u16 69)),(.c (.i .u32 1073741824)),.t 41,.t 42]]) (.skip))))))) (.r [.n 44 0,.n 45 7,.l 46 d [.t 44,.t 45]])))))))⟩
theorem qDt(hc:qc P f (qaX g1 gl gj gh)=true)(W:WFn P g gl gp gj gh gr)(c1:qnW P g1)
  (h:WI g w κ s tr RV N) (a:Int) (h0:0<=a) (h6:a<6) {X F:Nat} {p:Bool} (hX:κ X = .lab F p) (hm:RV.length+4<=1000000)
  (hk:∀κ' s' tr',Stp [] κ s tr κ' s' tr'->WI g w κ' s' tr' (RV++qa3 a RV.length F) N->k (.tup []) ⟨s',0,tr'⟩):SC P f [.ptr w 0,.i .i64 a,.ptr X 0] ⟨s,0,tr⟩ k:=by
 refine SC.mk hc (qj ?_);simp only[qaX,vI,simprocAttr];simp +decide only[↓vS,vT,simprocAttr];have w1:=h.new (.lab (RV.length+2) false) _ (.inr (.inr (.inr ⟨_,rfl,rfl⟩)));have w2:=w1.new (.lab (RV.length+ju a) false) _ (.inr (.inr (.inr ⟨_,rfl,rfl⟩)));have st2:=(h.stpLab (.lab (RV.length+2) false) (.cells 0 true false [.i .i64 0])).trans (w1.stpLab (.lab (RV.length+ju a) false) (.cells 0 true false [.i .i64 0]));have hon:kdS (kdS κ s (.lab (RV.length+2) false)) (s+1) (.lab (RV.length+ju a) false) s = .lab (RV.length+2) false:=by rw[qe (by omega),qA]
 have hbit:=qA (κ:=kdS κ s (.lab (RV.length+2) false)) (b:=s+1) (x:=.lab (RV.length+ju a) false);have hX2:=st2.lab X F p hX;have hXs:X<s:=h.dom X (by rw[hX];simp);refine (c1 a h0 h6).sc ?_;simp only[↓vS,vT,simprocAttr];refine qjT W.ld W.put w2 4 (by omega) fun κ3 s3 t3 st3 w3=>?_
 simp only[↓vS,vT,simprocAttr];refine qdN W.jmp W.put w3 ⟨21,qcB a,RV.length+2,F⟩ (st3.lab _ _ _ hon) (.inr ⟨(by decide:(21:Int)≠5),X,p,rfl,st3.lab _ _ _ hX2⟩) (by simp;omega) fun κ4 s4 t4 st4 w4=>?_
 simp only[↓vS,vT,simprocAttr];have st34:=st3.trans st4;refine qaJ W.here w4 (p:=false) (b:=s) (by rw[st34.lab _ _ _ hon];simp) fun t5 q1 q2 w5=>?_
 simp only[↓vS,vT,simprocAttr];have st5:=(st2.trans st34).kd h.dom (Nat.le_refl s) (F':=(RV++[(⟨32,4,0,0⟩:Sy)]++[(⟨21,qcB a,RV.length+2,F⟩:Sy)]).length) (L':=[s+1]) q1 q2 (by simp);refine qjT W.ld W.put w5 0 (by simp;omega) fun κ6 s6 t6 st6 w6=>?_
 simp only[↓vS,vT,simprocAttr];have hX6:κ6 X = .lab F p:=(st5.trans st6).lab _ _ _ hX;have hb6:κ6 (s+1) = .lab (RV.length+ju a) false:=st6.lab _ _ _ (by rw[qe (by omega)];exact st34.lab _ _ _ hbit)
 have st56:=st5.trans st6
 by_cases a0:a=0
 ·subst a0;simp +decide only[↓vS,vT,simprocAttr];refine qdN W.jmp W.put w6 ⟨69,1073741824,F,RV.length+4⟩ hX6 (.inr ⟨(by decide:(69:Int)≠5),s+1,false,rfl,hb6⟩) (by simp;omega) fun κ7 s7 t7 st7 w7=>?_
  simp only[↓vS,vT,simprocAttr];refine qaJ W.here w7 (p:=false) (by rw[st7.lab _ _ _ hb6];simp[ju]) fun t8 q1 q2 w8=>?_
  simp only[↓vS,vT,simprocAttr];have e:RV++[⟨32,4,0,0⟩]++[⟨21,qcB 0,RV.length+2,F⟩]++[⟨32,0,0,0⟩]++[⟨69,1073741824,F,RV.length+4⟩]=RV++qa3 0 RV.length F:=by simp[qa3]
  rw[e] at w8;exact hk _ _ _ ((st56.trans st7).kd h.dom (by omega) q1 q2 (by simp)) w8
 ·by_cases a2:a=2
  ·subst a2;simp +decide only[↓vS,vT,simprocAttr];refine qdN W.jmp W.put w6 ⟨69,1073741824,RV.length+4,F⟩ hb6 (.inr ⟨(by decide:(69:Int)≠5),X,p,rfl,hX6⟩) (by simp;omega) fun κ7 s7 t7 st7 w7=>?_
   simp only[↓vS,vT,simprocAttr];refine qaJ W.here w7 (p:=false) (by rw[st7.lab _ _ _ hb6];simp[ju]) fun t8 q1 q2 w8=>?_
   simp only[↓vS,vT,simprocAttr];have e:RV++[⟨32,4,0,0⟩]++[⟨21,qcB 2,RV.length+2,F⟩]++[⟨32,0,0,0⟩]++[⟨69,1073741824,RV.length+4,F⟩]=RV++qa3 2 RV.length F:=by simp[qa3]
   rw[e] at w8;exact hk _ _ _ ((st56.trans st7).kd h.dom (by omega) q1 q2 (by simp)) w8
  ·simp +decide only[↓vS,vT,simprocAttr,a0,a2];refine qaJ W.here w6 (p:=false) (by rw[hb6];simp[ju,a0,a2]) fun t8 q1 q2 w8=>?_
   simp only[↓vS,vT,simprocAttr];have e:RV++[⟨32,4,0,0⟩]++[⟨21,qcB a,RV.length+2,F⟩]++[⟨32,0,0,0⟩]=RV++qa3 a RV.length F:=by simp[qa3,a0,a2]
   rw[e] at w8;exact hk _ _ _ (st56.kd h.dom (by omega) q1 q2 (by simp)) w8
end
end Go.Kc
end
