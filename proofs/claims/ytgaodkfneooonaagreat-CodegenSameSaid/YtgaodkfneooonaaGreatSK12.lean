/- Part 12 of the abstract machine and of the functions' walks. Conditions: with each theorem. -/
import Derived.Test.YtgaodkfneooonaaGreatSK11
set_option maxHeartbeats 4000000
set_option linter.unusedSectionVars false
set_option linter.unusedSimpArgs false
set_option linter.unusedVariables false
set_option linter.unnecessarySimpa false
section
namespace Go.Kc
variable {P:Program} {f:Nat}
def zN(a b c d e g h i:Nat):ICode:=.seq (.r [.v 99 3 4,.l 100 h [.t 99,.F],.n 98 100,.x 101 98 0,.x 102 98 1,.n 16 101,.n 17 102]) (.seq (.r [.v 104 3 4,.l 105 h [.t 104,.T],.n 103 105,.x 106 103 0,.x 107 103 1,.n 18 106,.n 19 107]) (.seq (.seq (.r [.n 108 17,.w 109 .neq 108 0]) (.cond (.t 109) (.seq (.r [.n 110 17,.n 111 19,.b 112 .eql 110 111,.n 113 112,.g 114 (.loadN 3 (.t 4)) 113 false,⟨(some 115),.callF i [.t 114],(some (113,false))⟩,.g 116 (.bin .gtr (.t 115) (.k 1365)) 113 false,.o 117 113 116,.n 8 117]) (.ret)) (.skip))) (.seq (.r [.n 119 16,.v 120 9 6,.l 121 d [.t 119,.t 120],.n 118 121,.x 122 118 0,.x 123 118 1,.x 124 118 2,.n 20 122,.n 21 123,.n 22 124]) (.seq (.r [.n 125 19,.w 126 .eql 125 0,.n 127 126,.y 128 22 127,.g 129 (.bin .eql (.t 128) (.k 0)) 127 true,.p 130 127 129,.n 131 130,.y 132 18 131,.g 133 (.loadN 9 (.t 6)) 131 true,.y 134 20 131,⟨(some 135),.callF e [.t 132,.t 133,.t 134],(some (131,true))⟩,.p 136 131 135,.n 137 136,.y 138 18 137,.g 139 (.len false (.t 138)) 137 true,.y 140 16 137,.g 141 (.len false (.t 140)) 137 true,.g 142 (.bin .leq (.t 139) (.t 141)) 137 true,.p 143 137 142,.n 144 143,.y 145 18 144,⟨(some 146),.callF g [.t 145],(some (144,true))⟩,.g 147 (.bin .eql (.t 146) (.k 0)) 144 true,.p 148 144 147,.n 8 148]) (.ret)))))
def zM(a b c d e g h i:Nat):ICode:=.seq (.seq (.r [.n 82 3,.w 83 .geq 82 0,.n 84 83,.y 85 3 84,.h 86 1 4 84 true,.j 87 86 84 true,.g 88 (.len false (.t 87)) 84 true,.g 89 (.bin .lss (.t 85) (.t 88)) 84 true,.p 90 84 89]) (.cond (.t 90) (.r [.f 91 1 4,.d 92 91,.n 93 3,.i 94 3 92 93,.f 95 0 94,.d 96 95,.f 97 0 6,.u (.store 1 (.t 97) (.t 96))]) (.skip))) (.cut (zN a b c d e g h i))
def x7(a b c d e g h i:Nat):IFn:=⟨[.tmp 8],.seq (.r [.q 4 (.box (.t 0)),.q 6 (.box (.t 2)),.m 8 .F]) (.seq (.seq (.r [.l 23 a [],.q 24 (.un .not (.t 23))]) (.cond (.t 24) (.seq (.r [.m 8 .F]) (.ret)) (.skip))) (.seq (.seq (.r [.v 25 3 4,.l 26 b [.t 25],.n 27 26,.z 28 1 27,.g 29 (.len false (.t 28)) 27 false,.g 30 (.bin .gtr (.t 29) (.k 50)) 27 false,.o 31 27 30]) (.cond (.t 31) (.seq (.r [.m 8 .T]) (.ret)) (.skip))) (.seq (.r [.n 33 1,.l 34 c [.t 33,.F],.n 32 34,.x 35 32 0,.x 36 32 1,.n 9 35,.n 10 36]) (.seq (.r [.n 38 1,.l 39 c [.t 38,.T],.n 37 39,.x 40 37 0,.x 41 37 1,.n 11 40,.n 12 41]) (.seq (.seq (.r [.n 42 10,.n 43 12,.b 44 .neq 42 43,.n 45 44,.z 46 10 45,.g 47 (.bin .eql (.t 46) (.k 0)) 45 false,.o 48 45 47]) (.cond (.t 48) (.seq (.r [.n 50 9,.v 51 9 6,.l 52 d [.t 50,.t 51],.n 49 52,.x 53 49 0,.x 54 49 1,.x 55 49 2,.n 13 53,.n 14 54,.n 15 55]) (.seq (.r [.n 56 10,.n 57 12,.b 58 .neq 56 57,.n 59 58,.z 60 15 59,.g 61 (.bin .neq (.t 60) (.k 0)) 59 false,.o 62 59 61,.n 63 62,.z 64 11 63,.g 65 (.loadN 9 (.t 6)) 63 false,.z 66 13 63,⟨(some 67),.callF e [.t 64,.t 65,.t 66],(some (63,false))⟩,.g 68 (.un .not (.t 67)) 63 false,.o 69 63 68,.n 70 69,.z 71 11 70,.g 72 (.len false (.t 71)) 70 false,.z 73 9 70,.g 74 (.len false (.t 73)) 70 false,.g 75 (.bin .gtr (.t 72) (.t 74)) 70 false,.o 76 70 75,.n 77 76,.z 78 11 77,⟨(some 79),.callF g [.t 78],(some (77,false))⟩,.g 80 (.bin .neq (.t 79) (.k 0)) 77 false,.o 81 77 80]) (.cond (.t 81) (.seq (.r [.m 8 .F]) (.ret)) (.skip)))) (.skip))) (.cut (zM a b c d e g h i)))))))⟩
section
variable {g1 g2 g3 g4 g5 g6 g7 g8:Nat}
def qyE(P:Program)(g:Nat):Prop:=∀p:List Ins,(∀i ∈ p,InsOk i)->qd P g [.fz p.length (rP p)] (.i .i64 (atU p (qfH p)).2)
def cTl(P:Program)(g:Nat):Prop:=∀p,PrgGood p->∀d,DatOk d->∀w:Int,(qej p d).1=w->qd P g [.fz p.length (rP p),.agg (qT d),.i .u32 w] (.b true)
theorem qwZ(h4:qox P g4)(h5:cTl P g5)(h6:qyE P g6)(h7:qmn P g7)(h8:∀x,qf6 x->qd P g8 [.agg (qN x)] (.i .i64 (szF x:Int)))(x:GFil)(hR:FilR x)(hU:FilU x)(hL:qf6 x)(d:GData)(hd:DatOk d)
  {t':Tr AV} {h':Hp} (hw:Wk 0 t' h' (mkT [(4,.ptr 0 0),(6,.ptr 1 0)]) (mkH 0 [.cells 0 true false (qN x),.cells 0 true false (qT d)])) :
  S P 0 (zN g1 g2 g3 g4 g5 g6 g7 g8) (qam [.tmp 8] fun v' h'=>Frz h' v' (.b true)) t' h':=by
 refine S.weak hw (ql ?_);have c1:=h7 x hR hL false;have c2:=h7 x hR hL true;have c8:=h8 x hL;simp only[qN] at c1 c2 c8;simp only[zN,qN,qT,vI,simprocAttr];simp +decide only[↓vS,vT,simprocAttr];cases hK:xB x with
 | false =>
  rw[qoA hK] at c1 c2;refine c1.sc ?_;simp +decide only[↓vS,vT,simprocAttr];refine c2.sc ?_;simp +decide only[↓vS,vT,simprocAttr];simp[vZ]
 | true =>
  have a1:=qnT hK hR hU false;have a2:=qnT hK hR hU true;have le:=qvl (x:=x);generalize qaq x false=q1 at c1 a1 le;generalize qaq x true=q2 at c2 a2 le;obtain⟨p,e⟩:=q1;obtain⟨q,k⟩:=q2;simp only at c1 c2;refine c1.sc ?_;simp +decide only[↓vS,vT,simprocAttr];refine c2.sc ?_;rcases a1 with⟨z1,z2,z3⟩|⟨z1,b1⟩
  ·simp only at z1 z2;subst z1;rcases a2 with⟨y1,y2,y3⟩|⟨y1,b2⟩
   ·simp only at y1;subst y1;simp +decide only[↓vS,vT,simprocAttr];simp[vZ]
   ·simp only at y1;subst y1;have z3':(1365:Int)<(szF x:Int):=by omega
    simp +decide only[↓vS,vT,simprocAttr];refine c8.sc ?_;simp +decide only[↓vS,vT,simprocAttr,z3'];simp[vZ]
  ·simp only at z1 b1;subst z1;obtain⟨le1,le2⟩:=le rfl;simp only at le1 le2;subst le1
   have b2:PrgT q (szF x) (qiG x):=by
    rcases a2 with⟨y1,_,_⟩|⟨_,b2⟩
    ·cases y1
    ·exact b2
   obtain⟨n,r1⟩:=h4 p b1.good d hd;have r2:=h5 q b2.good d hd (qej p d).1 (by rw[(b2.tells d hd).1,(b1.tells d hd).1])
   have r3:=h6 q b2.good.ins;rw[b2.um,qoL b2.good] at r3;generalize (qej p d).1=w at r1 r2;simp only[qT] at r1 r2;have le':(q.length:Int)<=(p.length:Int):=by omega
   simp +decide only[↓vS,vT,simprocAttr];refine r1.sc ?_;simp +decide only[↓vS,vT,simprocAttr];refine r2.sc ?_;simp +decide only[↓vS,vT,simprocAttr,le'];refine r3.sc ?_;simp +decide only[↓vS,vT,simprocAttr];simp[vZ]
theorem qwY(h4:qox P g4)(h5:cTl P g5)(h6:qyE P g6)(h7:qmn P g7)(h8:∀x,qf6 x->qd P g8 [.agg (qN x)] (.i .i64 (szF x:Int)))(x:GFil)(hR:FilR x)(hU:FilU x)(hL:qf6 x)(d:GData)(hd:DatOk d)(i:Int)(hi:i<=9223372036854775807)
  {t':Tr AV} {h':Hp} (hw:Wk 0 t' h' (mkT [(3,.i .i64 i),(4,.ptr 0 0),(6,.ptr 1 0)]) (mkH 0 [.cells 0 true false (qN x),.cells 0 true false (qT d)])) :
  S P 0 (zM g1 g2 g3 g4 g5 g6 g7 g8) (qam [.tmp 8] fun v' h'=>Frz h' v' (.b true)) t' h':=by
 refine S.weak hw (ql ?_);have fin:=fun d (hd:DatOk d) (t':Tr AV) (h':Hp) hw=>qwZ (P:=P) (g1:=g1) (g2:=g2) (g3:=g3) (g4:=g4) (g5:=g5) (g6:=g6) (g7:=g7) (g8:=g8) h4 h5 h6 h7 h8 x hR hU hL d hd (t':=t') (h':=h') hw
 simp only[zM,qN,qT,vI,simprocAttr]
 by_cases h0:0<=i
 ·by_cases h1:i<(x.rules.length:Int)
  ·obtain⟨j,rfl⟩:∃j:Nat,i=(j:Int):=⟨i.toNat,by omega⟩
   have hjl:j<x.rules.length:=by omega
   obtain⟨r,hr⟩:∃r,x.rules[j]?=some r:=⟨_,zzE hjl⟩
   have g0:(rR x.rules)[j*3]?=some (.i .u32 r.nr):=by
    have:=qbm (f:=zc) (m:=3) qaz hr (i:=0) (by omega);simpa[zc,rR] using this
   have hrn:=hR.nr r (zzM hr);simp +decide only[↓vS,vT,simprocAttr,h0,h1,hjl,g0];refine fin ⟨r.nr,d.arch,d.ip,d.a0,d.a1,d.a2,d.a3,d.a4,d.a5⟩ ⟨hrn.1,by simp only;omega,hd.ar0,hd.ar1,hd.wid⟩ _ _ (Wk.mk _ _ [0,1] ?_ ?_ ?_ rfl)
   ·simp[vw]
   ·simp[vw,qN,qT,qi,xI]
   ·simp
  ·simp +decide only[↓vS,vT,simprocAttr,h0,h1];refine fin d hd _ _ (Wk.mk _ _ [0,1] ?_ ?_ ?_ rfl)
   ·simp[vw]
   ·simp[vw,qN,qT,qi,xI]
   ·simp
 ·simp +decide only[↓vS,vT,simprocAttr,h0];refine fin d hd _ _ (Wk.mk _ _ [0,1] ?_ ?_ ?_ rfl)
  ·simp[vw]
  ·simp[vw,qN,qT,qi,xI]
  ·simp
theorem qq0(hc:qc P f (x7 g1 g2 g3 g4 g5 g6 g7 g8)=true)(h1:qd P g1 [] (.b true))(h2:∀x,FilB x->qd P g2 [.agg (qN x)] (.b (qkq 0 x.rules)))(h3:qu8 P g3)(h4:qox P g4)(h5:cTl P g5)(h6:qyE P g6)(h7:qmn P g7)(h8:∀x,qf6 x->qd P g8 [.agg (qN x)] (.i .i64 (szF x:Int)))
  (x:GFil) (hB:FilB x) (hR:FilR x) (hU:FilU x) (l:List Int) (d:GData) (hd:DatOk d) (i:Int) (hi:i<=9223372036854775807):qd P f [.agg (qN x),.fz l.length (rI .i64 l),.agg (qT d),.i .i64 i] (.b true):=by
 refine qd.mk hc (by simp[qw,clo,qN,qT,xI,xH]) ?_;have e2:=h2 x hB;simp only[x7,qN,qT,vI,simprocAttr] at e2 ⊢;simp +decide only[↓vS,vT,simprocAttr];refine h1.sc ?_;simp +decide only[↓vS,vT,simprocAttr];refine e2.sc ?_;cases hG:qkq 0 x.rules with
 | true =>
  simp +decide only[↓vS,vT,simprocAttr];simp[vZ]
 | false =>
  obtain⟨l1,l2⟩:=qoM (by omega) hG;have hL:qf6 x:=⟨by omega,fun r hr=>by have:=l2 r hr;omega⟩
  by_cases hn:(50:Int)<(l.length:Int)
  ·simp +decide only[↓vS,vT,simprocAttr,hn];simp[vZ]
  simp +decide only[↓vS,vT,simprocAttr,hn];have r0:l.length<=qg:=by simp only[qg];omega
  have c1:=h3 l r0 false;have c2:=h3 l r0 true;have fin:=fun (t':Tr AV) (h':Hp) hw=>qwY (P:=P) (g1:=g1) (g2:=g2) (g3:=g3) (g4:=g4) (g5:=g5) (g6:=g6) (g7:=g7) (g8:=g8) h4 h5 h6 h7 h8 x hR hU hL d hd i hi (t':=t') (h':=h') hw
  cases hb:qkp l with
  | true =>
   rw[qsr hb] at c1 c2;refine c1.sc ?_;simp +decide only[↓vS,vT,simprocAttr];refine c2.sc ?_;simp +decide only[↓vS,vT,simprocAttr];refine fin _ _ (Wk.mk _ _ [0,1] ?_ ?_ ?_ rfl)
   ·simp[vw]
   ·simp[vw,qN,qT,qi,xI]
   ·simp
  | false =>
   have a1:=qsq hb false;have a2:=qsq hb true;have le:=qzh hb;generalize gdC l false=q1 at c1 a1 le;generalize gdC l true=q2 at c2 a2 le;obtain⟨p,e⟩:=q1;obtain⟨q,k⟩:=q2;obtain⟨z1,b1⟩:=a1;obtain⟨z2,b2⟩:=a2;simp only at z1 z2 b1 b2 c1 c2 le;subst z1;subst z2;obtain⟨n,r1⟩:=h4 p b1.good d hd;have r2:=h5 q b2.good d hd (qej p d).1 (by rw[(b2.tells d hd).1,(b1.tells d hd).1])
   have r3:=h6 q b2.good.ins;rw[b2.um,qoL b2.good] at r3;generalize (qej p d).1=w at r1 r2;simp only[qT] at r1 r2;have le':¬(p.length:Int)<(q.length:Int):=by omega
   refine c1.sc ?_;simp +decide only[↓vS,vT,simprocAttr];refine c2.sc ?_;simp +decide only[↓vS,vT,simprocAttr];refine r1.sc ?_;simp +decide only[↓vS,vT,simprocAttr];refine r2.sc ?_;simp +decide only[↓vS,vT,simprocAttr,le'];refine r3.sc ?_;simp +decide only[↓vS,vT,simprocAttr];refine fin _ _ (Wk.mk _ _ [0,1] ?_ ?_ ?_ rfl)
   ·simp[vw]
   ·simp[vw,qN,qT,qi,xI]
   ·simp
end
end Go.Kc
end
