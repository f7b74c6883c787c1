/- Part 4 of the proof. No condition. -/
import Derived.Test.YtgaodkfneooonaaGreatMK3
import Derived.Shelf.GgSortFunc.InsertionK
import Derived.Lib.Join
import Derived.Below
import Derived.Lib.ItoaLen
set_option maxHeartbeats 4000000
set_option maxRecDepth 1000000
set_option linter.defProp false
set_option linter.unusedSectionVars false
set_option linter.unusedSimpArgs false
set_option linter.unusedVariables false
set_option linter.unnecessarySimpa false
namespace Go.Kc
noncomputable section
section
variable {P:Program}{f:Nat}
def qkl(a own:Int)(l:List GCall):List GRule:=l.flatMap λc=>zz a own [] [c.name]
def ql0(p:Pol)(a:Int):Bool×List GRule×Int:=(zJ p.log.mode p.log.calls.length false true,qkl a (if p.log.mode=2 then 2147418112 else 2147221504) p.log.calls,if p.log.mode=2 then 2147221504 else 2147418112)
def qrf(a own:Int):∀l,(qkl a own l).length<=l.length
 | []=>zzL _
 | c::l=>by
  have h1:=qrf a own l;have h2:=qaP a own [] [c.name];simp only[qkl,zzv,zzP,zze,List.length_nil]at h1 h2 ⊢;exact Ab
def qvv{a own:Int}{l:List GCall}{j:Nat}{c:GCall}(h:l[j]?=some c):qkl a own (l.take (j+1))=qkl a own (l.take j)++zz a own [] [c.name]:=by
 rw[zz2,h];simp[qkl]
def qac(a b:Nat):ICode:=icJ 248 [287,a,289,b] 15
def qeA(a b:Nat):IFn:=irJ 248 [287,a,289,b] [15] [qac a b]
def qtA{g2 g3:Nat}(h2:qdI P g2)(h3:∀mode n al dn,qc P g3 [.y mode,.j (n:Nat),.b al,.b dn] (.b (zJ mode n al dn)))
  (p:Pol) (a d own:Int) (hp:PolOk p) {t':Tr AV}{h':Hp}(hw:Wk 2 t' h' (mkT [(0,.ptr 0 0),(3,.w own)]) (mkH 0 [mkB p a d 1 0,.cells 3 true true (rR [])])) :
  S P 2 (qac g2 g3) (zQ [.tmp 2] (qqa 2 (.b (zJ p.log.mode p.log.calls.length false true)) [mkB p a d 2 (qkl a own p.log.calls).length,.dead,.cells 3 true true (rR (qkl a own p.log.calls))])) t' h':=by
 have hl:=hp.l;refine Ay ?_;simp only[qac,mkB,mkC,qm,zzC,zzN,vI,simprocAttr];refine Ac ?_
 refine SL.loopd (α:=Nat) (λj=>[(0,.ptr 0 0),(3,.w own),(22,.fz p.log.calls.length (rC p.log.calls)),(23,.j p.log.calls.length),(24,.j j)])
  (λj=>[mkB p a d 2 (qkl a own (p.log.calls.take j)).length,.dead,.cells 3 true true (rR (qkl a own (p.log.calls.take j)))])
  (λj=>j<=p.log.calls.length) (λj=>p.log.calls.length-j) 0 [0,1,1] ?_ ?_ ?_ rfl (by simp) ?_ ?_ ?_
 .simp[vw,qg]
 .simp[vw,mkB,mkC,qm,qkl,qa,qu,qg,qd]
 .exact Jf
 .intro b hb;have:b=0\/b=1:=Ab
  exact Ax
 .exact Ab
 rintro j hj G ih;refine Hg ?_
 by_cases hlt:j<p.log.calls.length
 .have hx:p.log.calls[j]?=some p.log.calls[j]:=Ae
  have he:=qpL hx;have hb:=qnr hlt;have hw:=wS j;have hA1:=qvv (a:=a) (own:=own) hx;have hl1:=qrf a own (p.log.calls.take j);rw[zzm,Nat.min_eq_left Ab]at hl1;generalize hA:qkl a own (p.log.calls.take j)=A at hA1 hl1;generalize hc0:p.log.calls[j]=c at he hA1;simp only[↓vS,vT,simprocAttr,hlt,hb,he,qfW];refine SC.give (vs':=[.ptr 0 0,.w own,.fz 0 (rT []),.fz 1 (rS [c.name])]) [(4,.v [.s c.name])] ?_ ?_ ?_
  .exact Gf
  .refine Dj ?_;simp[vw,trP,rS]
  refine El ?_;refine(h2 p a d own [] [c.name] A (by simp) Ag).sc (vs:=[.ptr 0 0,.w own,.fz 0 (rT []),.fz 1 (rS [c.name])]) [0,2] (Lent.of Af ?_) ?_
  .exact Au
  rw[<- hA1];refine Aw ?_;refine Sb hw ?_;refine ih (j+1) hlt Ab _ _ (Wk.mkd _ _ [0,1,5] ?_ ?_ ?_ rfl (by simp) ?_)
  .simp[vw,qg]
  .exact Cd
  .exact Jf
  .intro b hb;have:b=0\/b=1:=Ab
   exact Ax
 .have hj':j=p.log.calls.length:=Ab
  subst hj';refine D3 ?_;refine Ac ?_;refine(h3 p.log.mode p.log.calls.length false true).pc ?_;refine Ac ?_;rw[zz0];intro _;refine Hb ?_
  exact Ag
def qKi{g2 g3:Nat}(hc:Ck P f (qeA g2 g3))(h2:qdI P g2)(h3:∀mode n al dn,qc P g3 [.y mode,.j (n:Nat),.b al,.b dn] (.b (zJ mode n al dn))):xH P f ql0:=by
 intro p a hp hR;refine Bl ?_;simp only[qeA,mkB,mkC,qm,vI,simprocAttr,zzC,zzN]
 by_cases m:p.log.mode=2
 .refine Sb m ?_;have e:ql0 p a=(zJ p.log.mode p.log.calls.length false true,qkl a 2147418112 p.log.calls,2147221504):=by simp[ql0,m]
  rw[e];refine qtA h2 h3 p a 2147221504 2147418112 hp (Wk.mkd _ _ [0,1] ?_ ?_ ?_ rfl (by simp) ?_)
  .simp[vw]
  .simp[vw,mkB,mkC,qm,qa,qu,qg,qd,m,rR]
  .exact Jf
  .intro b hb;have:b=0\/b=1:=Ab
   exact Ax
 .refine Sb m ?_;have e:ql0 p a=(zJ p.log.mode p.log.calls.length false true,qkl a 2147221504 p.log.calls,2147418112):=by simp[ql0,m]
  rw[e];refine qtA h2 h3 p a 2147418112 2147221504 hp (Wk.mkd _ _ [0,1] ?_ ?_ ?_ rfl (by simp) ?_)
  .simp[vw]
  .exact It
  .exact Jf
  .intro b hb;have:b=0\/b=1:=Ab
   exact Ax
def qjd(P:Program)(f:Nat):Prop:=∀(arg mask act:Int) (l:List Int),l.length<=100000->qc P f [.j arg,.x mask,.w act,.fz l.length (rI .u64 l)] (.fz (qG arg mask act l).length (rT (qG arg mask act l)))
def qDw(P:Program)(f:Nat):Prop:=∀(arg act:Int) (l:List Int),l.length<=100000->qc P f [.j arg,.w act,.fz l.length (rI .u64 l)] (.fz (qK arg act l).length (rT (qK arg act l)))
theorem qpi.pure(h:qpi P f):qjd P f:=by
 intro arg mask act l hl;rw[show(qG arg mask act l).length=l.length by simp[qG]]
 refine(h arg mask act l hl).pure Ea ?_;exact Bk
theorem qph.pure(h:qph P f):qDw P f:=by
 intro arg act l hl;rw[show(qK arg act l).length=l.length from Iy]
 refine(h arg act l hl).pure Ea ?_;exact Bk
def qcs:List UInt8:=[115,99,104,101,100,95,115,101,116,115,99,104,101,100,117,108,101,114]
def rtM(p:Pol)(a:Int):Bool×List GRule×Int:=(p.rt,zz a 327681 (qG 1 4294967295 2147418112 [0,3,5]) [qcs],2147418112)
def qbL(a b:Nat):IFn:=irJ 253 [290,a,287,b]
def qAq{g1 g2:Nat}(hc:Ck P f (qbL g1 g2))(h1:qjd P g1)(h2:qdI P g2):xH P f rtM:=by
 intro p a hp hR;refine Bl ?_;simp only[qbL,mkB,mkC,qm,vI,simprocAttr,zzC,zzN];refine Ac ?_;refine SC.give (vs':=[.j 1,.x 4294967295,.w 2147418112,.fz 3 (rI .u64 [0,3,5])]) [(2,.v [.x 0,.x 3,.x 5])] ?_ ?_ ?_
 .intro q hq;simp at hq;subst hq;exact Be
 .refine Ap ?_;simp[vw,trP,rI]
 refine El ?_;refine(h1 1 4294967295 2147418112 [0,3,5] Af).sc ?_;generalize hts:qG 1 4294967295 2147418112 [0,3,5]=ts;have hl:ts.length<=100000:=by rw[<- hts];exact Af
 refine Ac ?_;refine SC.give (vs':=[.ptr 0 0,.w 327681,.fz ts.length (rT ts),.fz 1 (rS [qcs])]) [(3,.v [.s qcs])] ?_ ?_ ?_
 .intro q hq;simp at hq;subst hq;simp[zz4,qcs]
 .refine Ap ?_;simp[vw,trP,rS,qcs]
 refine El ?_;refine(h2 p a 2147418112 327681 ts [qcs] [] hl (by simp)).sc (vs:=[.ptr 0 0,.w 327681,.fz ts.length (rT ts),.fz 1 (rS [qcs])]) [0,1] (Lent.of Af ?_) ?_
 .exact Au
 refine Aw ?_;refine Ac ?_;intro _;refine⟨[0,1,4],?_⟩;simp[vw,rtM,hts,mkB,mkC,qm,qa,qu,qg,qd,xF,rl]
 exact Ag
def xW:List UInt8:=[115,111,99,107,101,116]
def zU:List UInt8:=[117,110,115,104,97,114,101]
def x6:List UInt8:=[99,108,111,110,101]
def xM:List UInt8:=[115,101,116,110,115]
def xL:List UInt8:=[99,108,111,110,101,51]
def qbG:List UInt8:=[109,109,97,112]
def xB:List UInt8:=[109,112,114,111,116,101,99,116]
def zh:List UInt8:=[112,107,101,121,95,109,112,114,111,116,101,99,116]
def vu:List UInt8:=[115,104,109,97,116]
def zH:List UInt8:=[112,101,114,115,111,110,97,108,105,116,121]
def peM(p:Pol)(a:Int):Bool×List GRule×Int:=(p.pe,zz a 327681 (qG 0 4294967295 2147418112 [0,4294967295]) [zH],2147418112)
def qaw(a b:Nat):IFn:=irJ 252 [290,a,287,b]
def qvA{g1 g2:Nat}(hc:Ck P f (qaw g1 g2))(h1:qjd P g1)(h2:qdI P g2):xH P f peM:=by
 intro p a hp hR;refine Bl ?_;simp only[qaw,mkB,mkC,qm,vI,simprocAttr,zzC,zzN];refine Ac ?_;refine SC.give (vs':=[.j 0,.x 4294967295,.w 2147418112,.fz 2 (rI .u64 [0,4294967295])]) [(2,.v [.x 0,.x 4294967295])] ?_ ?_ ?_
 .intro q hq;simp at hq;subst hq;exact Be
 .refine Ap ?_;simp[vw,trP,rI]
 refine El ?_;refine(h1 0 4294967295 2147418112 [0,4294967295] Af).sc ?_;generalize hts0:qG 0 4294967295 2147418112 [0,4294967295]=ts0;have hlts0:ts0.length<=100000:=by rw[<- hts0];exact Af
 refine Ac ?_;refine SC.give (vs':=[.ptr 0 0,.w 327681,.fz ts0.length (rT ts0),.fz 1 (rS [zH])]) [(3,.v [.s zH])] ?_ ?_ ?_
 .intro q hq;simp at hq;subst hq;simp[zz4,zH]
 .refine Ap ?_;simp[vw,trP,rS,zH]
 refine El ?_;refine(h2 p a 2147418112 327681 ts0 [zH] [] hlts0 (by simp)).sc (vs:=[.ptr 0 0,.w 327681,.fz ts0.length (rT ts0),.fz 1 (rS [zH])]) [0,1] (Lent.of Af ?_) ?_
 .exact Au
 refine Aw ?_
 have hlA:(zz a 327681 ts0 [zH]).length<=1:=by
  have:=qaP a 327681 ts0 [zH];simp only[zzP,zze,List.length_nil]at this ⊢;exact Ab
 generalize hA0:zz a 327681 ts0 [zH]=A0 at hlA;refine Ac ?_;intro _;refine⟨[0,1,4],?_⟩;have e:(peM p a).2.1=A0:=by simp only[peM,<- hA0,<- hts0]
 rw[e];simp[vw,peM,mkB,mkC,qm,qa,qu,qg,qd,xF,rl]
 exact Ag
def weM(p:Pol)(a:Int):Bool×List GRule×Int:=(p.we,zz a 2147418112 (qK 2 327681 [6]) [qbG]++zz a 2147418112 (qK 2 327681 [4]) [xB,zh]++zz a 2147418112 (qK 2 327681 [32768]) [vu],2147418112)
def qaj(a b:Nat):IFn:=irJ 251 [292,a,287,b]
def qtC{g1 g2:Nat}(hc:Ck P f (qaj g1 g2))(h1:qDw P g1)(h2:qdI P g2):xH P f weM:=by
 intro p a hp hR;refine Bl ?_;simp only[qaj,mkB,mkC,qm,vI,simprocAttr,zzC,zzN];refine Ac ?_;refine SC.give (vs':=[.j 2,.w 327681,.fz 1 (rI .u64 [6])]) [(2,.v [.x 6])] ?_ ?_ ?_
 .intro q hq;simp at hq;subst hq;exact Be
 .exact Cm
 refine El ?_;refine(h1 2 327681 [6] Af).sc ?_;generalize hts0:qK 2 327681 [6]=ts0;have hlts0:ts0.length<=100000:=by rw[<- hts0];exact Af
 refine Ac ?_;refine SC.give (vs':=[.ptr 0 0,.w 2147418112,.fz ts0.length (rT ts0),.fz 1 (rS [qbG])]) [(3,.v [.s qbG])] ?_ ?_ ?_
 .intro q hq;simp at hq;subst hq;simp[zz4,qbG]
 .refine Ap ?_;simp[vw,trP,rS,qbG]
 refine El ?_;refine(h2 p a 2147418112 2147418112 ts0 [qbG] [] hlts0 (by simp)).sc (vs:=[.ptr 0 0,.w 2147418112,.fz ts0.length (rT ts0),.fz 1 (rS [qbG])]) [0,1] (Lent.of Af ?_) ?_
 .exact Au
 refine Aw ?_
 have hlA:(zz a 2147418112 ts0 [qbG]).length<=1:=by
  have:=qaP a 2147418112 ts0 [qbG];simp only[zzP,zze,List.length_nil]at this ⊢;exact Ab
 generalize hA0:zz a 2147418112 ts0 [qbG]=A0 at hlA;refine Ac ?_;refine SC.give (vs':=[.j 2,.w 327681,.fz 1 (rI .u64 [4])]) [(5,.v [.x 4])] ?_ ?_ ?_
 .intro q hq;simp at hq;subst hq;exact Be
 .exact Cm
 refine El ?_;refine(h1 2 327681 [4] Af).sc ?_;generalize hts1:qK 2 327681 [4]=ts1;have hlts1:ts1.length<=100000:=by rw[<- hts1];exact Af
 refine Ac ?_;refine SC.give (vs':=[.ptr 0 0,.w 2147418112,.fz ts1.length (rT ts1),.fz 2 (rS [xB,zh])]) [(6,.v [.s xB,.s zh])] ?_ ?_ ?_
 .intro q hq;simp at hq;subst hq;simp[zz4,xB,zh]
 .refine Ap ?_;simp[vw,trP,rS,xB,zh]
 refine El ?_;refine(h2 p a 2147418112 2147418112 ts1 [xB,zh] A0 hlts1 (by simp;exact Ab)).sc (vs:=[.ptr 0 0,.w 2147418112,.fz ts1.length (rT ts1),.fz 2 (rS [xB,zh])]) [0,4] (Lent.of Af ?_) ?_
 .exact Au
 refine Aw ?_
 have hlA:(A0++zz a 2147418112 ts1 [xB,zh]).length<=3:=by
  have:=qaP a 2147418112 ts1 [xB,zh];simp only[zzP,zze,List.length_nil]at this ⊢;exact Ab
 generalize hA1:A0++zz a 2147418112 ts1 [xB,zh]=A1 at hlA;refine Ac ?_;refine SC.give (vs':=[.j 2,.w 327681,.fz 1 (rI .u64 [32768])]) [(8,.v [.x 32768])] ?_ ?_ ?_
 .intro q hq;simp at hq;subst hq;exact Be
 .exact Cm
 refine El ?_;refine(h1 2 327681 [32768] Af).sc ?_;generalize hts2:qK 2 327681 [32768]=ts2;have hlts2:ts2.length<=100000:=by rw[<- hts2];exact Af
 refine Ac ?_;refine SC.give (vs':=[.ptr 0 0,.w 2147418112,.fz ts2.length (rT ts2),.fz 1 (rS [vu])]) [(9,.v [.s vu])] ?_ ?_ ?_
 .intro q hq;simp at hq;subst hq;simp[zz4,vu]
 .refine Ap ?_;simp[vw,trP,rS,vu]
 refine El ?_;refine(h2 p a 2147418112 2147418112 ts2 [vu] A1 hlts2 (by simp;exact Ab)).sc (vs:=[.ptr 0 0,.w 2147418112,.fz ts2.length (rT ts2),.fz 1 (rS [vu])]) [0,7] (Lent.of Af ?_) ?_
 .exact Au
 refine Aw ?_
 have hlA:(A1++zz a 2147418112 ts2 [vu]).length<=4:=by
  have:=qaP a 2147418112 ts2 [vu];simp only[zzP,zze,List.length_nil]at this ⊢;exact Ab
 generalize hA2:A1++zz a 2147418112 ts2 [vu]=A2 at hlA;refine Ac ?_;intro _;refine⟨[0,1,10],?_⟩;have e:(weM p a).2.1=A2:=by simp only[weM,<- hA2,<- hA1,<- hA0,<- hts0,<- hts1,<- hts2]
 rw[e];simp[vw,weM,mkB,mkC,qm,qa,qu,qg,qd,xF,rl]
 exact Ag
def nsM(p:Pol)(a:Int):Bool×List GRule×Int:=(decide (p.spaces≠0),zz a 2147418112 (qK 0 327681 (xq p.spaces)) [zU,x6]++zz a 2147418112 (qK 1 327681 (xq p.spaces)++qG 1 4294967295 327681 [0]) [xM]++zz a 327718 [] [xL],2147418112)
def qaQ(a b c d:Nat):IFn:=irJ 250 [291,a,292,b,287,c,290,d]
def qwf{g0 g1 g2 g3:Nat}(hc:Ck P f (qaQ g0 g1 g2 g3))(h0:∀s,qc P g0 [.x s] (.fz (xq s).length (rI .u64 (xq s))))(hb:qph P g1)(h1:qjd P g3)(h2:qdI P g2):xH P f nsM:=by
 intro p a hp hR;refine Bl ?_;simp only[qaQ,mkB,mkC,qm,vI,simprocAttr,zzC,zzN];refine Ac ?_;refine(h0 p.spaces).sc ?_;have hfl:(xq p.spaces).length<=8:=zzg (List.length_filter_le _ _) Af;generalize hF:xq p.spaces=F at hfl;refine Ac ?_;refine(hb.pure 0 327681 F Ab).sc ?_;have hlts0:(qK 0 327681 F).length<=100000:=by simp[qK];exact Ab
 generalize hts0:qK 0 327681 F=ts0 at hlts0;refine Ac ?_;refine SC.give (vs':=[.ptr 0 0,.w 2147418112,.fz ts0.length (rT ts0),.fz 2 (rS [zU,x6])]) [(2,.v [.s zU,.s x6])] ?_ ?_ ?_
 .intro q hq;simp at hq;subst hq;simp[zz4,zU,x6]
 .refine Ap ?_;simp[vw,trP,rS,zU,x6]
 refine El ?_;refine(h2 p a 2147418112 2147418112 ts0 [zU,x6] [] hlts0 (by simp)).sc (vs:=[.ptr 0 0,.w 2147418112,.fz ts0.length (rT ts0),.fz 2 (rS [zU,x6])]) [0,1] (Lent.of Af ?_) ?_
 .exact Au
 refine Aw ?_
 have hlA:(zz a 2147418112 ts0 [zU,x6]).length<=2:=by
  have:=qaP a 2147418112 ts0 [zU,x6];simp only[zzP,zze,List.length_nil]at this ⊢;exact Ab
 generalize hA0:zz a 2147418112 ts0 [zU,x6]=A0 at hlA;refine Ac ?_;refine(hb 1 327681 F Ab).sc ?_;simp only[vJ,simprocAttr,xw zt];have hlb:(qK 1 327681 F).length=F.length:=Iy
 have hlbT:(rT (qK 1 327681 F)).length=F.length*4:=by rw[qae,hlb]
 refine Ac ?_;refine SC.give (vs':=[.j 1,.x 4294967295,.w 327681,.fz 1 (rI .u64 [0])]) [(5,.v [.x 0])] ?_ ?_ ?_
 .intro q hq;simp at hq;subst hq;exact Be
 .refine Ap ?_;simp[vw,trP,rI]
 refine El ?_;refine(h1 1 4294967295 327681 [0] Af).sc ?_;generalize hts1:qG 1 4294967295 327681 [0]=ts1;have hlts1:ts1.length<=100000:=by rw[<- hts1];exact Af
 refine Ac ?_;have hl1:ts1.length=1:=by rw[<- hts1];rfl
 have hl1T:(rT ts1).length=4:=by rw[qae,hl1]
 obtain⟨ts2,hts2⟩:∃x,qK 1 327681 F++ts1=x:=⟨_,rfl⟩;have hl2:F.length+1=ts2.length:=by rw[<- hts2,zzP,hlb,hl1]
 have hr1:ts2.length<=qe:=by simp only[qe];exact Ab
 have hr2:ts2.length*32<=qe:=by simp only[qe];exact Ab
 have hlts2:ts2.length<=100000:=Ab
 have htk:(rT (qK 1 327681 F)).take (F.length*4)=rT (qK 1 327681 F):=zzt Ab;have htk1:(rT ts1).take 4=rT ts1:=Ag
 have hok:qQ (rT ts1)=true:=qzF;simp +decide only[↓vS,vT,simprocAttr,hl1,hl1T,hlbT,htk,htk1,hl2,hr1,hr2,qgO,hts2,hok];refine SC.give (vs':=[.ptr 0 0,.w 2147418112,.fz ts2.length (rT ts2),.fz 1 (rS [xM])]) [(6,.cells 4 true true (rT ts2)),(7,.v [.s xM])] ?_ ?_ ?_
 .intro q hq;simp at hq;rcases hq with rfl|rfl<;>simp[zz4,xM]
 .refine .keep _ _ _ (.keep _ _ _ (.fz _ _ _ _ (.own 6 _ 4 true (rT ts2) _ ?_ (λh0=>?_) (Frzs.self zt)) (.fz _ _ _ _ (.cut 1 rfl (zzL _) ?_) .nil)))
  .simp[trP,zz4]
  .exact Dq
  simp[vw,trP,rS,xM]
 refine El ?_;refine(h2 p a 2147418112 2147418112 ts2 [xM] A0 hlts2 (by simp;exact Ab)).sc (vs:=[.ptr 0 0,.w 2147418112,.fz ts2.length (rT ts2),.fz 1 (rS [xM])]) [0,3] (Lent.of Af ?_) ?_
 .exact Au
 refine Aw ?_
 have hlA:(A0++zz a 2147418112 ts2 [xM]).length<=3:=by
  have:=qaP a 2147418112 ts2 [xM];simp only[zzP,zze,List.length_nil]at this ⊢;exact Ab
 generalize hA1:A0++zz a 2147418112 ts2 [xM]=A1 at hlA;refine Ac ?_;refine SC.give (vs':=[.ptr 0 0,.w 327718,.fz 0 (rT []),.fz 1 (rS [xL])]) [(9,.v [.s xL])] ?_ ?_ ?_
 .intro q hq;simp at hq;subst hq;simp[zz4,xL]
 .refine Dj ?_;simp[vw,trP,rS,xL]
 refine El ?_;refine(h2 p a 2147418112 327718 [] [xL] A1 (by simp) (by simp;exact Ab)).sc (vs:=[.ptr 0 0,.w 327718,.fz 0 (rT []),.fz 1 (rS [xL])]) [0,8] (Lent.of Af ?_) ?_
 .exact Au
 refine Aw ?_
 have hlA:(A1++zz a 327718 [] [xL]).length<=4:=by
  have:=qaP a 327718 [] [xL];simp only[zzP,zze,List.length_nil]at this ⊢;exact Ab
 generalize hA2:A1++zz a 327718 [] [xL]=A2 at hlA;refine Ac ?_;intro _;refine⟨[0,1,10],?_⟩;have e:(nsM p a).2.1=A2:=by simp only[nsM,<- hA2,<- hA1,<- hA0,<- hts2,<- hts0,<- hts1,<- hF]
 rw[e];simp[vw,nsM,mkB,mkC,qm,qa,qu,qg,qd,xF,rl]
 exact Ag
def fmM(p:Pol)(a:Int):Bool×List GRule×Int :=
 (zJ p.fmode p.fams.length true false,zz a (if p.fmode=2 then 2147418112 else 327777) (qG 0 4294967295 (if p.fmode=2 then 327777 else 2147418112) p.fams) [xW],2147418112)
def jR(a b c:Nat):ICode:=icJ 249 [290,a,287,b,289,c] 63
def jQ(a b c:Nat):ICode:=icJ 249 [290,a,287,b,289,c] 15 [7] [jR a b c]
def qbK(a b c:Nat):IFn:=irJ 249 [290,a,287,b,289,c] [15] [jQ a b c]
def qB4{g1 g2 g3:Nat}(h1:qjd P g1)(h2:qdI P g2)(h3:∀mode n al dn,qc P g3 [.y mode,.j (n:Nat),.b al,.b dn] (.b (zJ mode n al dn)))
  (p:Pol) (a nm ot:Int) (hp:PolOk p) {t':Tr AV}{h':Hp}(hw:Wk 2 t' h' (mkT [(0,.ptr 0 0),(2,.b false),(3,.w nm),(4,.w ot),(5,.own 2 p.fams.length)]) (mkH 0 [mkB p a 2147418112 1 0,.cells 3 true true (rR []),.cells 1 true true (rI .u64 p.fams)])) :
  S P 2 (jR g1 g2 g3) (zQ [.tmp 2] (qqa 2 (.b (zJ p.fmode p.fams.length true false)) [mkB p a 2147418112 2 (zz a ot (qG 0 4294967295 nm p.fams) [xW]).length,.dead,.cells 3 true true (rR (zz a ot (qG 0 4294967295 nm p.fams) [xW]))])) t' h':=by
 have hl:=hp.f;refine Ay ?_;simp only[jR,mkB,mkC,qm,zzC,zzN,vI,simprocAttr];refine Ac ?_;refine SC.give (vs':=[.j 0,.x 4294967295,.w nm,.fz p.fams.length (rI .u64 p.fams)]) [(2,.cells 1 true true (rI .u64 p.fams))] ?_ ?_ ?_
 .intro q hq;simp at hq;subst hq;exact Be
 .refine .keep _ _ _ (.keep _ _ _ (.keep _ _ _ (.fz _ _ _ _ (.own 2 _ 1 true (rI .u64 p.fams) _ ?_ (λh0=>?_) (Frzs.self qd)) .nil)))
  .simp[trP,zz4]
  .exact Dq
 refine El ?_;refine(h1 0 4294967295 nm p.fams Ab).sc ?_;have hlts:(qG 0 4294967295 nm p.fams).length<=100000:=by simp[qG];exact Ab
 generalize hts:qG 0 4294967295 nm p.fams=ts at hlts;refine Ac ?_;refine SC.give (vs':=[.ptr 0 0,.w ot,.fz ts.length (rT ts),.fz 1 (rS [xW])]) [(3,.v [.s xW])] ?_ ?_ ?_
 .intro q hq;simp at hq;subst hq;simp[zz4,xW]
 .refine Ap ?_;simp[vw,trP,rS,xW]
 refine El ?_;refine(h2 p a 2147418112 ot ts [xW] [] hlts (by simp)).sc (vs:=[.ptr 0 0,.w ot,.fz ts.length (rT ts),.fz 1 (rS [xW])]) [0,1] (Lent.of Af ?_) ?_
 .exact Au
 refine Aw ?_;generalize hA:zz a ot ts [xW]=A;refine Ac ?_;refine qX ?_;refine Ac ?_;refine(h3 p.fmode p.fams.length true false).pc ?_;refine Ac ?_;intro _;refine⟨[0,1,4],?_⟩;simp[vw,mkB,mkC,qm,qa,qu,qg,qd,xF,rl]
 exact Ag
def qty{g1 g2 g3:Nat}(h1:qjd P g1)(h2:qdI P g2)(h3:∀mode n al dn,qc P g3 [.y mode,.j (n:Nat),.b al,.b dn] (.b (zJ mode n al dn)))
  (p:Pol) (a nm ot:Int) (hp:PolOk p) (hR:PolR p) {t':Tr AV}{h':Hp}(hw:Wk 2 t' h' (mkT [(0,.ptr 0 0),(2,.b false),(3,.w nm),(4,.w ot)]) (mkH 0 [mkB p a 2147418112 1 0,.cells 3 true true (rR [])])) :
  S P 2 (jQ g1 g2 g3) (zQ [.tmp 2] (qqa 2 (.b (zJ p.fmode p.fams.length true false)) [mkB p a 2147418112 2 (zz a ot (qG 0 4294967295 nm p.fams) [xW]).length,.dead,.cells 3 true true (rR (zz a ot (qG 0 4294967295 nm p.fams) [xW]))])) t' h':=by
 have hl:=hp.f;refine Ay ?_;simp only[jQ,mkB,mkC,qm,zzC,zzN,vI,simprocAttr];refine Ac ?_
 refine SL.loopd (α:=Nat) (λj=>[(0,.ptr 0 0),(2,.b false),(3,.w nm),(4,.w ot),(5,.own 2 j),(20,.fz p.fams.length (rI .u32 p.fams)),(21,.j p.fams.length),(22,.j j)])
  (λj=>[mkB p a 2147418112 1 0,.cells 3 true true (rR []),.cells 1 true true (rI .u64 (p.fams.take j))])
  (λj=>j<=p.fams.length) (λj=>p.fams.length-j) 0 [0,1,99] ?_ ?_ ?_ rfl (by simp) ?_ ?_ ?_
 .exact Jc
 .exact Cd
 .exact Jf
 .intro b hb;have:b=0\/b=1:=Ab
  exact Ax
 .exact Ab
 rintro j hj G ih;refine Hg ?_
 by_cases hlt:j<p.fams.length
 .have hx:p.fams[j]?=some p.fams[j]:=Ae
  have hw:=wS j;have hb:=hR.fams p.fams[j] Ae;have hln:(rI .u64 (p.fams.take j)).length=j:=by rw[xv];exact Ae
  have htk:(rI .u64 (p.fams.take j)).take j=rI .u64 (p.fams.take j):=zzt Ab
  have hap:rI .u64 (p.fams.take j)++[AV.x p.fams[j]]=rI .u64 (p.fams.take (j+1)):=by
   rw[zz2,hx];simp only[Option.toList_some,<- qlh];rfl
  have hcv:IntKind.wrap .u64 p.fams[j]=p.fams[j]:=Eq
  have hr1:j+1<=qe:=by simp only[qe];exact Ab
  have hr2:(j+1)*8<=qe:=by simp only[qe];exact Ab
  refine D9 ?_;refine ih (j+1) hlt Ab _ _ (Wk.mkd _ _ [0,1,4] ?_ ?_ ?_ rfl (by simp) ?_)
  .exact Jc
  .exact Cd
  .exact Jf
  .intro b hb;have:b=0\/b=1:=Ab
   exact Ax
 .have hj':j=p.fams.length:=Ab
  subst hj';refine Sb hlt ?_;refine qB4 h1 h2 h3 p a nm ot hp (Wk.mkd _ _ [0,1,2] ?_ ?_ ?_ rfl (by simp) ?_)
  .simp[vw]
  .exact Cd
  .exact Jf
  .intro b hb;have:b=0\/b=1:=Ab
   exact Ax
def qAp{g1 g2 g3:Nat}(hc:Ck P f (qbK g1 g2 g3))(h1:qjd P g1)(h2:qdI P g2)(h3:∀mode n al dn,qc P g3 [.y mode,.j (n:Nat),.b al,.b dn] (.b (zJ mode n al dn))):xH P f fmM:=by
 intro p a hp hR;refine Bl ?_;simp only[qbK,mkB,mkC,qm,vI,simprocAttr,zzC,zzN]
 by_cases m:p.fmode=2
 .refine Sb m ?_;have e:fmM p a=(zJ p.fmode p.fams.length true false,zz a 2147418112 (qG 0 4294967295 327777 p.fams) [xW],2147418112):=by simp[fmM,m]
  rw[e];refine qty h1 h2 h3 p a 327777 2147418112 hp hR (Wk.mkd _ _ [0,1] ?_ ?_ ?_ rfl (by simp) ?_)
  .simp[vw]
  .simp[vw,mkB,mkC,qm,qa,qu,qg,qd,m]
  .exact Jf
  .intro b hb;have:b=0\/b=1:=Ab
   exact Ax
 .refine Sb m ?_;have e:fmM p a=(zJ p.fmode p.fams.length true false,zz a 327777 (qG 0 4294967295 2147418112 p.fams) [xW],2147418112):=by simp[fmM,m]
  rw[e];refine qty h1 h2 h3 p a 2147418112 327777 hp hR (Wk.mkd _ _ [0,1] ?_ ?_ ?_ rfl (by simp) ?_)
  .simp[vw]
  .exact Cd
  .exact Jf
  .intro b hb;have:b=0\/b=1:=Ab
   exact Ax
def jE(rs:List GRule):List GRule:=rs.mergeSort λx y=>decide (x.nr<=y.nr)
def qmH(P:Program)(f c:Nat):Prop:=∀rs:List GRule,rs.length<=100000->(rs.map GRule.nr).Nodup->
 Upd P f [.own 0 rs.length,.fn c [] []] [.cells 3 true true (rR rs)] (.tup []) [.cells 3 true true (rR (jE rs))]
def qd3(d:Int):Option (Pol->Int->Bool×List GRule×Int) :=
 if d=1 then some qlW else if d=2 then some ql0 else if d=3 then some fmM else if d=4 then some nsM else if d=5 then some weM else if d=6 then some peM else if d=7 then some rtM else none
def qeI(p:Pol)(d a:Int):Bool:=decide (0<=d)&&decide (d<8)&&(decide (0<=a)&&decide (a<6))&&qbz p&&inA p.arches a
def qby(p:Pol)(d a:Int):Option GFil :=
 if qeI p d a=true then(qd3 d).bind λF=>if(F p a).1=true then some ⟨a,jE (F p a).2.1,(F p a).2.2⟩else none else none
def qhr:Option GFil->AV
 | some x=>.tup [.agg (ze x),.b true]
 | none=>.tup [.agg [.i .i64 0,.fz 0 [],.i .u32 0],.b false]
def qAr(F:Pol->Int->Bool×List GRule×Int):Prop:=∀p a,PolOk p->qbz p=true->0<=a->a<6->(F p a).2.1.length<=100000/\((F p a).2.1.map GRule.nr).Nodup
def qg8(a b c d e g h:Nat):IFn:=irJ 193 [247,a,248,b,249,c,250,d,251,e,252,g,253,h]
def qDX{g1 g2 g3 g4 g5 g6 g7:Nat}(hc:Ck P f (qg8 g1 g2 g3 g4 g5 g6 g7)):qc P f [] (.agg [.nilf,.fn g1 [] [],.fn g2 [] [],.fn g3 [] [],.fn g4 [] [],.fn g5 [] [],.fn g6 [] [],.fn g7 [] []]):=by
 refine Al ?_;simp only[qg8,vI,simprocAttr];refine Ac ?_;simp[vZ]
def qcd(a b c d e g:Nat):ICode:=icJ 132 [124,a,70,b,192,c,193,d,194,e,195,g] 31
def qcc(a b c d e g:Nat):ICode:=icJ 132 [124,a,70,b,192,c,193,d,194,e,195,g] 15 [3] [qcd a b c d e g]
def qcb(a b c d e g:Nat):ICode:=icJ 132 [124,a,70,b,192,c,193,d,194,e,195,g] 7 [3] [qcc a b c d e g]
def qhQ(a b c d e g:Nat):IFn:=irJ 132 [124,a,70,b,192,c,193,d,194,e,195,g] [7] [qcb a b c d e g]
def qyG{g1 g2 g3 g4 g5 g6:Nat}(h5:qmH P g5 g6)(p:Pol)(a d:Int)(rs:List GRule)(hr:rs.length<=100000)(hn:(rs.map GRule.nr).Nodup){t':Tr AV}{h':Hp}(hw:Wk 0 t' h' (mkT [(6,.ptr 0 0),(7,.b false),(8,.ptr 1 0)]) (mkH 0 [.v [.j 0,.nils,.w 0],mkB p a d 2 rs.length,.cells 3 true true (rR rs)])) :
  S P 0 (qcd g1 g2 g3 g4 g5 g6) (zQ [.cell 6 3 true,.tmp 7] λv' h'=>Frz h' v' (qhr (some ⟨a,jE rs,d⟩))) t' h':=by
 refine Ay ?_;simp only[qcd,mkB,mkC,qm,zzC,zzN,vI,simprocAttr];refine Ac ?_;refine(h5 rs hr hn).sc (vs:=[.own 0 rs.length,.fn g6 [] []]) [2] (Lent.of Af ?_) ?_
 .simp[vL,vw,qy qu,qi qu]
 simp only[vK,simprocAttr,qi qu];refine Ac ?_;have hsl:(jE rs).length=rs.length:=List.length_mergeSort _;simp only[qhr,ze,hsl];refine .tup _ _ (.cons _ _ _ _ (.agg _ _ (.cons _ _ _ _ (.i _ _) (.cons _ _ _ _ (.own 2 _ 3 true (rR (jE rs)) _ ?_ (λh0=>?_) (Frzs.self qu)) (.cons _ _ _ _ (.i _ _) .nil)))) (.cons _ _ _ _ (.b _) .nil))
 .exact Be
 .rw[List.eq_nil_of_length_eq_zero (hsl.trans h0)];rfl
def qyF{g1 g2 g3 g4 g5 g6 m1 m2 m3 m4 m5 m6 m7:Nat}(h4:qc P g4 [] (.agg [.nilf,.fn m1 [] [],.fn m2 [] [],.fn m3 [] [],.fn m4 [] [],.fn m5 [] [],.fn m6 [] [],.fn m7 [] []]))(h5:qmH P g5 g6)
  (hm1:xH P m1 qlW) (hm2:xH P m2 ql0) (hm3:xH P m3 fmM) (hm4:xH P m4 nsM) (hm5:xH P m5 weM) (hm6:xH P m6 peM) (hm7:xH P m7 rtM)
  (hM:∀d F,qd3 d=some F->qAr F) (p:Pol) (hp:PolOk p) (hR:PolR p) (a d:Int) (ha:0<=a) (ha6:a<6) (hmay:qbz p=true) (hd0:0<=d) (hd8:d<8) {t':Tr AV}{h':Hp}(hw:Wk 0 t' h' (mkT [(1,.j d),(6,.ptr 0 0),(7,.b false),(8,.ptr 1 0)]) (mkH 0 [.v [.j 0,.nils,.w 0],mkB p a 2147418112 2 0,.cells 3 true true (rR [])])) :
  S P 0 (qcc g1 g2 g3 g4 g5 g6) (zQ [.cell 6 3 true,.tmp 7] λv' h'=>Frz h' v' (qhr ((qd3 d).bind λF=>if(F p a).1=true then some ⟨a,jE (F p a).2.1,(F p a).2.2⟩else none))) t' h':=by
 refine Ay ?_;simp only[qcc,mkB,mkC,qm,zzC,zzN,vI,simprocAttr];refine Ac ?_;refine h4.sc ?_;obtain⟨j,rfl⟩:∃j:Nat,d=j:=⟨d.toNat,Ab⟩
 have hj:j<8:=Ab
 by_cases h0:j=0
 .subst h0;refine Ac ?_;exact C9
 .have hh:∃g F,([.nilf,.fn m1 [] [],.fn m2 [] [],.fn m3 [] [],.fn m4 [] [],.fn m5 [] [],.fn m6 [] [],.fn m7 [] []]:List AV)[j]?=some (.fn g [] [])/\qd3 j=some F/\xH P g F:=by
   have:j=1\/j=2\/j=3\/j=4\/j=5\/j=6\/j=7:=Ab
   rcases this with rfl|rfl|rfl|rfl|rfl|rfl|rfl
   .exact⟨_,_,rfl,rfl,hm1⟩
   .exact⟨_,_,rfl,rfl,hm2⟩
   .exact⟨_,_,rfl,rfl,hm3⟩
   .exact⟨_,_,rfl,rfl,hm4⟩
   .exact⟨_,_,rfl,rfl,hm5⟩
   .exact⟨_,_,rfl,rfl,hm6⟩
   .exact⟨_,_,rfl,rfl,hm7⟩
  obtain⟨g,F,he,hF,hg⟩:=hh;obtain⟨hl,hn⟩:=hM _ _ hF p a hp hmay ha ha6;obtain⟨ok,rs,df,hFp⟩:∃ok rs df,F p a=(ok,rs,df):=⟨_,_,_,rfl⟩;have hu:=hg p a hp hR;have e:((qd3 j).bind λF=>if(F p a).1=true then some (⟨a,jE (F p a).2.1,(F p a).2.2⟩:GFil)else none)=if ok=true then some ⟨a,jE rs,df⟩else none:=by rw[hF];exact Ag
  rw[e];rw[hFp]at hl hn hu;dsimp only at hl hn hu;generalize([.nilf,.fn m1 [] [],.fn m2 [] [],.fn m3 [] [],.fn m4 [] [],.fn m5 [] [],.fn m6 [] [],.fn m7 [] []]:List AV)=L at he;simp only[↓vS,vT,simprocAttr,hj,zzU,he];refine hu.sc (vs:=[.ptr 0 0]) [1,2] (Lent.of Af ?_) ?_
  .exact Au
  refine Aw ?_;cases ok with
  | false =>
   refine Ac ?_;exact C9
  | true =>
   refine Ac ?_;refine qyG h5 p a df rs hl hn (Wk.mk _ _ [0,1,3] ?_ ?_ ?_ rfl)
   .simp[vw]
   .exact Cd
   .simp
def qyE{g1 g2 g3 g4 g5 g6 m1 m2 m3 m4 m5 m6 m7:Nat}(h4:qc P g4 [] (.agg [.nilf,.fn m1 [] [],.fn m2 [] [],.fn m3 [] [],.fn m4 [] [],.fn m5 [] [],.fn m6 [] [],.fn m7 [] []]))(h5:qmH P g5 g6)
  (hm1:xH P m1 qlW) (hm2:xH P m2 ql0) (hm3:xH P m3 fmM) (hm4:xH P m4 nsM) (hm5:xH P m5 weM) (hm6:xH P m6 peM) (hm7:xH P m7 rtM)
  (hM:∀d F,qd3 d=some F->qAr F) (p:Pol) (hp:PolOk p) (hR:PolR p) (a d:Int) (ha:0<=a) (ha6:a<6) (hmay:qbz p=true) (hd0:0<=d) (hd8:d<8) {t':Tr AV}{h':Hp}(hw:Wk 0 t' h' (mkT [(1,.j d),(2,.j a),(3,.ptr 0 0),(6,.ptr 1 0),(7,.b false)]) (mkH 0 [.v (qm p),.v [.j 0,.nils,.w 0]])) :
  S P 0 (qcb g1 g2 g3 g4 g5 g6) (zQ [.cell 6 3 true,.tmp 7] λv' h'=>Frz h' v' (qhr ((qd3 d).bind λF=>if(F p a).1=true then some ⟨a,jE (F p a).2.1,(F p a).2.2⟩else none))) t' h':=by
 refine Ay ?_;simp only[qcb,qm,vI,simprocAttr];refine Ac ?_;refine qyF h4 h5 hm1 hm2 hm3 hm4 hm5 hm6 hm7 hM p hp hR a d ha ha6 hmay hd0 hd8 (Wk.mk _ _ [1,2,99] ?_ ?_ ?_ rfl)
 .simp[vw]
 .exact It
 .simp
def qGc{g1 g2 g3 g4 g5 g6 m1 m2 m3 m4 m5 m6 m7:Nat}(hc:Ck P f (qhQ g1 g2 g3 g4 g5 g6))(h1:∀a,qc P g1 [.j a] (.s (qiL a)))(h2:∀p,PolOk p->qc P g2 [.agg (qm p)] (.b (qbz p)))(h3:∀(xs:List Int) (x:Int),xs.length<=qe->qc P g3 [.fz xs.length (rI .i64 xs),.j x] (.b (inA xs x)))
  (h4:qc P g4 [] (.agg [.nilf,.fn m1 [] [],.fn m2 [] [],.fn m3 [] [],.fn m4 [] [],.fn m5 [] [],.fn m6 [] [],.fn m7 [] []])) (h5:qmH P g5 g6)
  (hm1:xH P m1 qlW) (hm2:xH P m2 ql0) (hm3:xH P m3 fmM) (hm4:xH P m4 nsM) (hm5:xH P m5 weM) (hm6:xH P m6 peM) (hm7:xH P m7 rtM)
  (hM:∀d F,qd3 d=some F->qAr F) (p:Pol) (hp:PolOk p) (hR:PolR p) (d a:Int):qc P f [.agg (qm p),.j d,.j a] (qhr (qby p d a)):=by
 have hl:=hp.a;refine Al ?_
 have no:qeI p d a=false->∀{h:Hp},Frz h (.tup [.agg [.j 0,.nils,.w 0],.b false]) (qhr (qby p d a)):=by
  intro h0 h;rw[qby,h0];exact Dc
 simp only[qhQ,qm,vI,simprocAttr]
 by_cases k1:d<0
 .refine Sb k1 ?_;exact no (by simp only[qeI,decide_eq_false (Ab:¬0<=d)];simp)
 by_cases k2:8<=d
 .refine Sb (zzA k1 k2) ?_;exact no (by simp only[qeI,decide_eq_false (Ab:¬d<8)];simp)
 refine Sb (zzA k1 k2) ?_;refine(h1 a).sc ?_;have hN:=qqh a
 by_cases k3:qiL a=[]
 .have k3':(decide (0<=a)&&decide (a<6))=false:=by
   rw[Bool.eq_false_iff];exact Ae
  refine Sb k3 ?_;exact no (by simp only[qeI,k3'];simp)
 have ⟨a0,a6⟩:=hN.1 k3;refine Sb k3 ?_;refine(h2 p hp).sc ?_;cases k4:qbz p with
 | false =>
  refine Ac ?_;exact no (by simp[qeI,k4])
 | true =>
  refine Ac ?_;refine(h3 p.arches a (by simp only[qe];exact Ab)).sc ?_;cases k5:inA p.arches a with
  | false =>
   refine Ac ?_;exact no (by simp[qeI,k5])
  | true =>
   have hok:qeI p d a=true:=by simp[qeI,k4,k5,a0,a6];exact Ab
   have e:qby p d a=(qd3 d).bind λF=>if(F p a).1=true then some ⟨a,jE (F p a).2.1,(F p a).2.2⟩else none:=by rw[qby,if_pos hok]
   rw[e];refine Ac ?_;refine qyE h4 h5 hm1 hm2 hm3 hm4 hm5 hm6 hm7 hM p hp hR a d a0 a6 k4 Ab Ab (Wk.mk _ _ [0,1] ?_ ?_ ?_ rfl)
   .simp[vw]
   .exact H7
   .simp
def qlU(P:Program)(f:Nat):Prop:=∀p,PolOk p->PolR p->∀d a:Int,qc P f [.agg (qm p),.j d,.j a] (qhr (qby p d a))
def qlz:IFn:=irJ 131 []
def qK6(hc:Ck P f qlz):qc P f [] (.fz 6 (rI .i64 [0,1,2,3,4,5])):=by
 refine Al ?_;simp only[qlz,vI,simprocAttr];refine Ac ?_;refine SL.loop (α:=Nat) (λj=>[(1,.own 0 j),(3,.j j)]) (λj=>[.cells 1 true true (rI .i64 ([0,1,2,3,4,5].take j))]) (λj=>j<=6) (λj=>6-j) 0 [9] ?_ ?_ ?_ rfl ?_ ?_
 .simp[vw]
 .simp[vw,rI]
 .simp
 .exact Ab
 rintro j hj G ih;refine Ak ?_
 by_cases hlt:j<6
 .have hlt':(j:Int)<6:=Ab
  have hw:=wS j;have hln:(rI .i64 (([0,1,2,3,4,5]:List Int).take j)).length=j:=by rw[xv];exact Ae
  have htk:(rI .i64 (([0,1,2,3,4,5]:List Int).take j)).take j=rI .i64 (([0,1,2,3,4,5]:List Int).take j):=Ag
  have hap:rI .i64 (([0,1,2,3,4,5]:List Int).take j)++[AV.j (j:Int)]=rI .i64 (([0,1,2,3,4,5]:List Int).take (j+1)):=by
   have:j=0\/j=1\/j=2\/j=3\/j=4\/j=5:=Ab
   rcases this with rfl|rfl|rfl|rfl|rfl|rfl<;>rfl
  have hr1:j+1<=qe:=by simp only[qe];exact Ab
  have hr2:(j+1)*8<=qe:=by simp only[qe];exact Ab
  generalize hL:(([0,1,2,3,4,5]:List Int).take j)=L at *;simp +decide only[↓vS,vT,simprocAttr,hlt',zzU,hw,hr1,hr2,hln,htk,hap];refine ih (j+1) hlt Ab _ _ (Wk.mk _ _ [2] ?_ ?_ ?_ rfl)
  .simp[vw]
  .simp[vw,qa,qd]
  .simp
 .have hj':j=6:=Ab
  subst hj';have hlt':¬(((6:Nat):Int)<6):=Af
  refine Sb hlt' ?_;refine .own 0 6 1 true (rI .i64 [0,1,2,3,4,5]) _ ?_ Ab (Frzs.self qd);exact Be
def qxJ{s:Int}(h0:0<=s)(h1:s<18446744073709551616)(k:Nat)(hk:k<64):(xA .u64 s ((2 ^ k:Nat):Int)≠0)↔(IntKind.wrap .u64 (s.tdiv ((2 ^ k:Nat):Int))).tmod 2=1:=by
 obtain⟨m,rfl⟩:=Int.eq_ofNat_of_zero_le h0;have hm:m<2 ^ 64:=Ab
 have hp:2 ^ k<2 ^ 64:=Nat.pow_lt_pow_right Af hk;have hp0:0<2 ^ k:=Nat.two_pow_pos k
 have e1:xA .u64 (m:Int) ((2 ^ k:Nat):Int)=((m &&& 2 ^ k:Nat):Int):=by
  have a1:(BitVec.ofInt 64 (m:Int)).toNat=m:=by rw[BitVec.toNat_ofInt];exact Ab
  have a2:(BitVec.ofInt 64 ((2 ^ k:Nat):Int)).toNat=2 ^ k:=by rw[BitVec.toNat_ofInt];exact Ab
  show IntKind.wrap .u64 ((BitVec.ofInt 64 (m:Int) &&& BitVec.ofInt 64 ((2 ^ k:Nat):Int)).toNat:Int)=_;rw[BitVec.toNat_and,a1,a2];exact jJ Ab (by have:=@Nat.and_le_left m (2 ^ k);exact Ab)
 have hd:m / 2 ^ k<=m:=Nat.div_le_self _ _
 have e2:IntKind.wrap .u64 ((m:Int).tdiv ((2 ^ k:Nat):Int))=((m / 2 ^ k:Nat):Int):=by
  rw[Int.tdiv_eq_ediv_of_nonneg Ab,show(m:Int) / ((2 ^ k:Nat):Int)=((m / 2 ^ k:Nat):Int)from rfl]
  generalize m / 2 ^ k=q at hd;exact Eq
 have e3:(m &&& 2 ^ k≠0)↔m.testBit k=true:=by
  constructor
  .intro h;cases hb:m.testBit k with
   | true=>rfl
   | false =>
    exfalso;apply h
    apply Nat.eq_of_testBit_eq;intro i;rw[Nat.testBit_and,Nat.testBit_two_pow,Nat.zero_testBit]
    by_cases hi:k=i
    .subst hi;simp[hb]
    .simp[hi]
  .intro h h0;have:(m &&& 2 ^ k).testBit k=true:=by rw[Nat.testBit_and,Nat.testBit_two_pow];simp[h]
   rw[h0]at this;simp at this
 have e4:((m &&& 2 ^ k:Nat):Int)≠0↔m &&& 2 ^ k≠0:=Ab
 rw[e1,e2,e4,e3,Nat.testBit_eq_decide_div_mod_eq]
 exact Ag
def qxK{s:Int}(h0:0<=s)(h1:s<18446744073709551616):∀x ∈ qx,(xA .u64 s x.2≠0↔(IntKind.wrap .u64 (s.tdiv x.2)).tmod 2=1)/\x.2≠0:=by
 intro x hx
 have ex:∃k:Nat,k<64/\x.2=((2 ^ k:Nat):Int):=by
  simp only[qx,zzc,List.not_mem_nil,or_false]at hx;rcases hx with rfl|rfl|rfl|rfl|rfl|rfl|rfl|rfl
  .exact⟨7,Af,Af⟩
  .exact⟨17,Af,Af⟩
  .exact⟨25,Af,Af⟩
  .exact⟨26,Af,Af⟩
  .exact⟨27,Af,Af⟩
  .exact⟨28,Af,Af⟩
  .exact⟨29,Af,Af⟩
  .exact⟨30,Af,Af⟩
 obtain⟨k,hk,e⟩:=ex;rw[e];exact⟨qxJ h0 h1 k hk,by have:=Nat.two_pow_pos k;exact Ab⟩
def qbS(a:Nat):IFn:=irJ 203 [136,a]
def qLa{g:Nat}(hc:Ck P f (qbS g))(hg:qc P g [] (.fz 8 (qx.flatMap (xb .u64))))(s:Int)(h0:0<=s)(h1:s<18446744073709551616):qc P f [.x s] (.fz (xq s).length (rI .u64 (xq s))):=by
 refine Al ?_;simp only[qbS,vI,simprocAttr];refine Ac ?_;refine hg.sc ?_;refine Ac ?_;have hlen:(qx.flatMap (xb .u64)).length=16:=Af
 have hTc:qt (qx.flatMap (xb .u64))=true:=rfl
 refine SL.loop (α:=Nat) (λj=>[(0,.x s),(4,.own 0 ((((qx.take j).map (·.2)).filter λn=>decide (xA .u64 s n≠0)).length)),(3,.fz 8 (qx.flatMap (xb .u64))),(5,.j j)])
  (λj=>[.cells 1 true true (rI .u64 (((qx.take j).map (·.2)).filter λn=>decide (xA .u64 s n≠0)))])
  (λj=>j<=8) (λj=>8-j) 0 [9] ?_ ?_ ?_ rfl ?_ ?_
 .simp[vw,hTc]
 .simp[vw,rI]
 .simp
 .exact Ab
 rintro j hj G ih;refine Ak ?_
 by_cases hlt:j<8
 .have hlt':(j:Int)<8:=Ab
  have hjl:j<qx.length:=hlt;have hx:qx[j]?=some qx[j]:=Ae
  have hw:=wS j;have g1:(qx.flatMap (xb .u64))[j*2+1]?=some (.x qx[j].2):=by simpa[xb]using zq (f:=xb .u64) (m:=2) qeO hx (i:=1) Af
  obtain⟨hfb,hne⟩:=qxK h0 h1 qx[j] Ae;generalize hA:((qx.take j).map (·.2)).filter (λn=>decide (xA .u64 s n≠0))=A
  have hA1:((qx.take (j+1)).map (·.2)).filter (λn=>decide (xA .u64 s n≠0))=A++(if xA .u64 s qx[j].2=0 then []else [qx[j].2]):=Eb
  have hAl:A.length<=j:=by
   rw[<- hA];exact Ag
  generalize hc0:qx[j]=c at hx g1 hA1 hfb hne;generalize hT:qx.flatMap (xb .u64)=T at g1 hlen hTc;have hr1:A.length+1<=qe:=by simp only[qe];exact Ab
  have hr2:(A.length+1)*8<=qe:=by simp only[qe];exact Ab
  have h2:(2:Int)≠0:=Af
  by_cases hz:xA .u64 s c.2=0
  .rw[if_pos hz,List.append_nil]at hA1;have hq:¬(IntKind.wrap .u64 (s.tdiv c.2)).tmod 2=1:=λh=>hfb.2 h hz
   simp only[↓vS,vT,simprocAttr,hlt',hlt,g1,↓zk hne,↓zW h2,hq,hw];refine ih (j+1) hlt Ab _ _ (Wk.mk _ _ [0] ?_ ?_ ?_ rfl)
   .rw[hA1,hT];simp[vw,hTc]
   .rw[hA1];simp[vw,qa,qd]
   .simp
  .rw[if_neg hz]at hA1;have hq:(IntKind.wrap .u64 (s.tdiv c.2)).tmod 2=1:=hfb.1 hz;have hap:rI .u64 A++[AV.x c.2]=rI .u64 (A++[c.2]):=Io
   simp +decide only[↓vS,vT,simprocAttr,hlt',hlt,g1,↓zk hne,↓zW h2,hq,hw,hr1,hr2,xv,zzU,hap];refine ih (j+1) hlt Ab _ _ (Wk.mk _ _ [2] ?_ ?_ ?_ rfl)
   .rw[hA1,hT];simp[vw,hTc]
   .rw[hA1];simp[vw,qa,qd]
   .simp
 .have hj':j=8:=Ab
  subst hj';have hlt':¬(((8:Nat):Int)<8):=Af
  refine Sb hlt' ?_;refine .own 0 _ 1 true (rI .u64 (xq s)) _ ?_ (λh0=>?_) (Frzs.self qd)
  .simp[zz4,xq,qx]
  .have h0:(xq s).length=0:=h0;exact Dq
def qeU(p:Pol)(d:Int):Bool :=
 if d=1 then zJ p.filter.mode p.filter.calls.length true false else if d=2 then zJ p.log.mode p.log.calls.length false true else if d=3 then zJ p.fmode p.fams.length true false
 else if d=4 then decide (p.spaces≠0)else if d=5 then p.we else if d=6 then p.pe else if d=7 then p.rt else false
def qbe:IFn:=irJ 137 []
def qJc(hc:Ck P f qbe)(p:Pol)(d:Int):qc P f [.agg (qm p),.j d] (.b (qeU p d)):=by
 refine Al ?_;simp only[qbe,qm,vI,simprocAttr]
 by_cases d1:d=1
 .subst d1
  by_cases m1:p.filter.mode=1
  .refine Sb m1 ?_;simp[vZ,qeU,zJ,m1]
  by_cases m2:p.filter.mode=2
  .refine Ek ?_;simp[vZ,qeU,zJ,m2]
  .refine Ek ?_;simp[vZ,qeU,zJ,m1,m2]
 by_cases d2:d=2
 .subst d2
  by_cases m2:p.log.mode=2
  .refine Sb m2 ?_;simp[vZ,qeU,zJ,m2]
  by_cases m1:p.log.mode=1
  .refine Ek ?_;simp[vZ,qeU,zJ,m1]
  .refine Ek ?_;simp[vZ,qeU,zJ,m1,m2]
 by_cases d3:d=3
 .subst d3
  by_cases m1:p.fmode=1
  .refine Sb m1 ?_;simp[vZ,qeU,zJ,m1]
  by_cases m2:p.fmode=2
  .refine Ek ?_;simp[vZ,qeU,zJ,m2]
  .refine Ek ?_;simp[vZ,qeU,zJ,m1,m2]
 by_cases d4:d=4
 .subst d4;refine Ac ?_;simp[vZ,qeU]
 by_cases d5:d=5
 .subst d5;refine Ac ?_;simp[vZ,qeU]
 by_cases d6:d=6
 .subst d6;refine Ac ?_;simp[vZ,qeU]
 by_cases d7:d=7
 .subst d7;refine Ac ?_;simp[vZ,qeU]
 simp only[↓vS,vT,simprocAttr,d1,d2,d3,d4,d5,d6,d7];simp[vZ,qeU,d1,d2,d3,d4,d5,d6,d7]
def qsh(l:List GCall)(s:List UInt8):Int:=match vh l s with|some c=>c.act|none=>0
def qkT.act(h:qkT P f)(l:GList)(s:List UInt8)(hl:l.calls.length<=100000):qc P f [.agg (xN l),.s s] (.tup [.w (qsh l.calls s),.b (vh l.calls s).isSome]):=h l s hl
def qwn(p:Pol)(s:List UInt8):Int:=if qsh p.filter.calls s=0 then(if p.filter.mode=1 then 2147418112 else p.deny)else qsh p.filter.calls s
def qaf(s:List UInt8):Int:=if s=qbG then 6 else if s=xB\/s=zh then 4 else if s=vu then 32768 else 0
def qjA(p:Pol)(d:Int)(s:List UInt8):Bool×List GTest×Int :=
 if d=1 then((vh p.filter.calls s).isSome,[],qwn p s)
 else if d=2 then((vh p.log.calls s).isSome,[],if p.log.mode=1 then 2147221504 else 2147418112)
 else if d=3 then(decide (s=xW),qG 0 4294967295 (if p.fmode=2 then 327777 else 2147418112) p.fams,if p.fmode=2 then 2147418112 else 327777)
 else if d=4 then(if s=xL then(true,[],327718)else(decide (s=xM)||decide (s=zU)||decide (s=x6),qK (if s=xM then 1 else 0) 327681 (xq p.spaces)++(if s=xM then [⟨1,4294967295,0,327681⟩]else []),2147418112))
 else if d=5 then(decide (0<qaf s),[⟨2,qaf s,qaf s,327681⟩],2147418112)
 else if d=6 then(decide (s=zH),qG 0 4294967295 2147418112 [0,4294967295],327681)
 else(decide (s=qcs),qG 1 4294967295 2147418112 [0,3,5],327681)
def qdd(x:Bool×List GTest×Int):AV:=.tup [.agg [.w 0,.fz x.2.1.length (rT x.2.1),.w x.2.2],.b x.1]
def qr(a b:Nat):IFn:=irJ 139 [202,a,203,b]
section
variable {g1 g2:Nat}
def qCT(hc:Ck P f (qr g1 g2))(h1:qkT P g1)(p:Pol)(hp:PolOk p)(s:List UInt8):qc P f [.agg (qm p),.j 1,.s s] (qdd ((vh p.filter.calls s).isSome,[],qwn p s)):=by
 have hl:=hp.c;refine Al ?_;refine By ?_;refine Ac ?_;refine(h1.act p.filter s Ab).sc ?_;have ea:qwn p s=if qsh p.filter.calls s=0 then(if p.filter.mode=1 then 2147418112 else p.deny)else qsh p.filter.calls s:=rfl
 generalize(vh p.filter.calls s).isSome=ok;generalize qsh p.filter.calls s=x at ea
 by_cases x0:x=0
 .rw[if_pos x0]at ea
  by_cases m1:p.filter.mode=1
  .rw[if_pos m1]at ea;refine Sa (zzA x0 m1) ?_;rw[ea];simp[vZ,qdd,rT]
  .rw[if_neg m1]at ea;refine Sa (zzA x0 m1) ?_;rw[ea];simp[vZ,qdd,rT]
 .rw[if_neg x0]at ea;refine Sa x0 ?_;rw[ea];simp[vZ,qdd,rT]
def qCU(hc:Ck P f (qr g1 g2))(h1:qkT P g1)(p:Pol)(hp:PolOk p)(s:List UInt8):qc P f [.agg (qm p),.j 2,.s s] (qdd ((vh p.log.calls s).isSome,[],if p.log.mode=1 then 2147221504 else 2147418112)):=by
 have hl:=hp.l;refine Al ?_;refine By ?_;refine Aa ?_;refine(h1.act p.log s Ab).sc ?_;generalize(vh p.log.calls s).isSome=ok
 by_cases m1:p.log.mode=1
 .refine Sa m1 ?_;simp[vZ,qdd,rT]
 .refine Sa m1 ?_;simp[vZ,qdd,rT]
def qCX(hc:Ck P f (qr g1 g2))(p:Pol)(s:List UInt8):qc P f [.agg (qm p),.j 5,.s s] (qdd (decide (0<qaf s),[⟨2,qaf s,qaf s,327681⟩],2147418112)):=by
 have go:∀b,qaf s=b->qc P f [.agg (qm p),.j 5,.s s] (qdd (decide (0<b),[⟨2,b,b,327681⟩],2147418112))->qc P f [.agg (qm p),.j 5,.s s] (qdd (decide (0<qaf s),[⟨2,qaf s,qaf s,327681⟩],2147418112)):=by
  rintro b rfl h;exact h
 have fin:∀{h:Hp}{b x:Int},h.tr.get 3=some (.v [.j 2,.x b,.x b,.w 327681])->∀ok,Frz h (.tup [.agg [.w 0,.sl 3 0 1 1 false,.w x],.b ok]) (qdd (ok,[⟨2,b,b,327681⟩],x)):=by
  intro h b x hg ok;refine .tup _ _ (.cons _ _ _ _ (.agg _ _ (.cons _ _ _ _ (.i _ _) (.cons _ _ _ _ (.sl 3 0 1 1 false 0 false _ 4 _ hg (zzL _) (zzL 4) (λh=>absurd h Af) (Frzs.self rfl)) (.cons _ _ _ _ (.i _ _) .nil)))) (.cons _ _ _ _ (.b _) .nil))
 by_cases k1:s=qbG
 .refine go 6 (by simp[qaf,k1]) (qc.mk hc rfl ?_);have k1':(s=[109,109,97,112])=True:=eq_true k1;refine By ?_;refine Sa k1' ?_;exact fin Be _
 have k1':(s=[109,109,97,112])=False:=eq_false k1
 by_cases k2:s=xB
 .refine go 4 (by simp[qaf,k1,k2];exact Af) (qc.mk hc rfl ?_);have k2':(s=[109,112,114,111,116,101,99,116])=True:=eq_true k2;refine By ?_;refine Sa (zzA k1' k2') ?_;exact fin Be _
 have k2':(s=[109,112,114,111,116,101,99,116])=False:=eq_false k2
 by_cases k3:s=zh
 .refine go 4 (by simp[qaf,k1,k3];exact Af) (qc.mk hc rfl ?_);have k3':(s=[112,107,101,121,95,109,112,114,111,116,101,99,116])=True:=eq_true k3;refine By ?_;refine Sa (zzA k1' (zzA k2' k3')) ?_;exact fin Be _
 have k3':(s=[112,107,101,121,95,109,112,114,111,116,101,99,116])=False:=eq_false k3
 by_cases k4:s=vu
 .refine go 32768 (by simp[qaf,k4];exact Af) (qc.mk hc rfl ?_);have k4':(s=[115,104,109,97,116])=True:=eq_true k4;refine By ?_;refine Sa (zzA k1' (zzA k2' (zzA k3' k4'))) ?_;exact fin Be _
 .refine go 0 (by simp[qaf,k1,k2,k3,k4]) (qc.mk hc rfl ?_);have k4':(s=[115,104,109,97,116])=False:=eq_false k4;refine By ?_;refine Sa (zzA k1' (zzA k2' (zzA k3' k4'))) ?_;exact fin Be _
def qCY(hc:Ck P f (qr g1 g2))(p:Pol)(s:List UInt8):qc P f [.agg (qm p),.j 6,.s s] (qdd (decide (s=zH),qG 0 4294967295 2147418112 [0,4294967295],327681)):=by
 have fin:∀{h:Hp}{x:Int},h.tr.get 3=some (.v (rT (qG 0 4294967295 2147418112 [0,4294967295])))->∀ok,Frz h (.tup [.agg [.w 0,.sl 3 0 2 2 false,.w x],.b ok]) (qdd (ok,qG 0 4294967295 2147418112 [0,4294967295],x)):=by
  intro h x hg ok;exact .tup _ _ (.cons _ _ _ _ (.agg _ _ (.cons _ _ _ _ (.i _ _) (.cons _ _ _ _ (.sl 3 0 2 2 false 0 false _ 8 _ hg (zzL _) (zzL 8) (λh=>absurd h Af) (Frzs.self rfl)) (.cons _ _ _ _ (.i _ _) .nil)))) (.cons _ _ _ _ (.b _) .nil))
 refine Al ?_;refine By ?_;refine Aa ?_;exact fin (by simp[zz4,rT,qG,xg]) _
def qCZ(hc:Ck P f (qr g1 g2))(p:Pol)(d:Int)(d1:d≠1)(d2:d≠2)(d3:d≠3)(d4:d≠4)(d5:d≠5)(d6:d≠6)(s:List UInt8):qc P f [.agg (qm p),.j d,.s s] (qdd (decide (s=qcs),qG 1 4294967295 2147418112 [0,3,5],327681)):=by
 have fin:∀{h:Hp}{x:Int},h.tr.get 3=some (.v (rT (qG 1 4294967295 2147418112 [0,3,5])))->∀ok,Frz h (.tup [.agg [.w 0,.sl 3 0 3 3 false,.w x],.b ok]) (qdd (ok,qG 1 4294967295 2147418112 [0,3,5],x)):=by
  intro h x hg ok;exact .tup _ _ (.cons _ _ _ _ (.agg _ _ (.cons _ _ _ _ (.i _ _) (.cons _ _ _ _ (.sl 3 0 3 3 false 0 false _ 12 _ hg (zzL _) (zzL 12) (λh=>absurd h Af) (Frzs.self rfl)) (.cons _ _ _ _ (.i _ _) .nil)))) (.cons _ _ _ _ (.b _) .nil))
 refine Al ?_;refine By ?_;simp +decide only[↓vS,vT,simprocAttr,d1,d2,d3,d4,d5,d6];exact fin (by simp[zz4,rT,qG,xg]) _
def qCV(hc:Ck P f (qr g1 g2))(p:Pol)(hp:PolOk p)(hR:PolR p)(s:List UInt8):qc P f [.agg (qm p),.j 3,.s s] (qdd (decide (s=xW),qG 0 4294967295 (if p.fmode=2 then 327777 else 2147418112) p.fams,if p.fmode=2 then 2147418112 else 327777)):=by
 have hl:=hp.f
 by_cases m:p.fmode=2
 .rw[if_pos m,if_pos m];refine Al ?_;refine By ?_;refine Sa m ?_
  refine SL.loop (α:=Nat) (λj=>[(2,.s s),(3,.ptr 0 0),(6,.ptr 1 0),(8,.ptr 2 0),(13,.w 327777),(14,.w 2147418112),(15,.j j)])
   (λj=>[.v (qm p),.v [.w 0,.nils,.w 0],.v [.w 0,.own 3 j,.w 2147418112],.cells 4 true true (rT (qG 0 4294967295 327777 (p.fams.take j)))])
   (λj=>j<=p.fams.length) (λj=>p.fams.length-j) 0 [0,1,2,99] ?_ ?_ ?_ rfl ?_ ?_
  .simp[vw]
  .simp[vw,qm,qa,qg,qd,qG,rT,m]
  .simp
  .exact zzu _
  rintro j hj G ih;refine Fe ?_
  by_cases hlt:j<p.fams.length
  .have hx:p.fams[j]?=some p.fams[j]:=zzE hlt;have hw:=wS j;have hb:=hR.fams p.fams[j] (List.getElem_mem hlt);have hcv:IntKind.wrap .u64 p.fams[j]=p.fams[j]:=jJ Ab Ab;have hln:(rT (qG 0 4294967295 327777 (p.fams.take j))).length=j*4:=by rw[qae];simp[qG];exact Ab
   have htk:(rT (qG 0 4294967295 327777 (p.fams.take j))).take (j*4)=rT (qG 0 4294967295 327777 (p.fams.take j)):=zzt Ab
   have hap:rT (qG 0 4294967295 327777 (p.fams.take j))++[AV.j 0,.x 4294967295,.x p.fams[j],.w 327777]=rT (qG 0 4294967295 327777 (p.fams.take (j+1))):=Bw
   have hr1:j+1<=qe:=by simp only[qe];exact Ab
   have hr2:(j+1)*32<=qe:=by simp only[qe];exact Ab
   refine D3 ?_;refine D9 ?_;refine ih (j+1) hlt Ab _ _ (Wk.mk _ _ [0,1,2,5] ?_ ?_ ?_ rfl)
   .simp[vw]
   .exact H6
   .simp
  .have hj':j=p.fams.length:=Ab
   subst hj';simp only[↓vS,vT,simprocAttr,hlt,zz0];have hl2:(qG 0 4294967295 327777 p.fams).length=p.fams.length:=by simp[qG]
   simp only[qdd,hl2];refine .tup _ _ (.cons _ _ _ _ (.agg _ _ (.cons _ _ _ _ (.i _ _) (.cons _ _ _ _ (.own 3 _ 4 true (rT (qG 0 4294967295 327777 p.fams)) _ ?_ (λh0=>?_) (Frzs.self zt)) (.cons _ _ _ _ (.i _ _) .nil)))) (.cons _ _ _ _ (.b _) .nil))
   .exact Be
   .exact Jv
 .rw[if_neg m,if_neg m];refine Al ?_;refine By ?_;refine Sa m ?_
  refine SL.loop (α:=Nat) (λj=>[(2,.s s),(3,.ptr 0 0),(6,.ptr 1 0),(8,.ptr 2 0),(13,.w 2147418112),(14,.w 327777),(15,.j j)])
   (λj=>[.v (qm p),.v [.w 0,.nils,.w 0],.v [.w 0,.own 3 j,.w 2147418112],.cells 4 true true (rT (qG 0 4294967295 2147418112 (p.fams.take j)))])
   (λj=>j<=p.fams.length) (λj=>p.fams.length-j) 0 [0,1,2,99] ?_ ?_ ?_ rfl ?_ ?_
  .simp[vw]
  .simp[vw,qm,qa,qg,qd,qG,rT]
  .simp
  .exact zzu _
  rintro j hj G ih;refine Fe ?_
  by_cases hlt:j<p.fams.length
  .have hx:p.fams[j]?=some p.fams[j]:=zzE hlt;have hw:=wS j;have hb:=hR.fams p.fams[j] (List.getElem_mem hlt);have hcv:IntKind.wrap .u64 p.fams[j]=p.fams[j]:=jJ Ab Ab;have hln:(rT (qG 0 4294967295 2147418112 (p.fams.take j))).length=j*4:=by rw[qae];simp[qG];exact Ab
   have htk:(rT (qG 0 4294967295 2147418112 (p.fams.take j))).take (j*4)=rT (qG 0 4294967295 2147418112 (p.fams.take j)):=zzt Ab
   have hap:rT (qG 0 4294967295 2147418112 (p.fams.take j))++[AV.j 0,.x 4294967295,.x p.fams[j],.w 2147418112]=rT (qG 0 4294967295 2147418112 (p.fams.take (j+1))):=Bw
   have hr1:j+1<=qe:=by simp only[qe];exact Ab
   have hr2:(j+1)*32<=qe:=by simp only[qe];exact Ab
   refine D3 ?_;refine D9 ?_;refine ih (j+1) hlt Ab _ _ (Wk.mk _ _ [0,1,2,5] ?_ ?_ ?_ rfl)
   .simp[vw]
   .exact H6
   .simp
  .have hj':j=p.fams.length:=Ab
   subst hj';simp only[↓vS,vT,simprocAttr,hlt,zz0];have hl2:(qG 0 4294967295 2147418112 p.fams).length=p.fams.length:=by simp[qG]
   simp only[qdd,hl2];refine .tup _ _ (.cons _ _ _ _ (.agg _ _ (.cons _ _ _ _ (.i _ _) (.cons _ _ _ _ (.own 3 _ 4 true (rT (qG 0 4294967295 2147418112 p.fams)) _ ?_ (λh0=>?_) (Frzs.self zt)) (.cons _ _ _ _ (.i _ _) .nil)))) (.cons _ _ _ _ (.b _) .nil))
   .exact Be
   .exact Jv
end
section
variable {g1 g2:Nat}
def qwY(P:Program)(f:Nat):Prop:=∀s,0<=s->s<18446744073709551616->qc P f [.x s] (.fz (xq s).length (rI .u64 (xq s)))
def ns4(p:Pol)(s:List UInt8):Bool×List GTest×Int:=if s=xL then(true,[],327718)else(decide (s=xM)||decide (s=zU)||decide (s=x6),qK (if s=xM then 1 else 0) 327681 (xq p.spaces)++(if s=xM then [⟨1,4294967295,0,327681⟩]else []),2147418112)
def qCW(hc:Ck P f (qr g1 g2))(h2:qwY P g2)(p:Pol)(hR:PolR p)(s:List UInt8):qc P f [.agg (qm p),.j 4,.s s] (qdd (ns4 p s)):=by
 by_cases k1:s=xM
 .have n1:(s=[115,101,116,110,115])=True:=eq_true k1;have n2:(s=[99,108,111,110,101,51])=False:=Ae
  have e:ns4 p s=(true,qK 1 327681 (xq p.spaces)++[⟨1,4294967295,0,327681⟩],2147418112):=by
   unfold ns4;rw[if_neg (by rw[k1];exact Af),if_pos k1,if_pos k1];exact Ag
  rw[e];refine Al ?_;refine By ?_;refine E8 ?_;have hfl:(xq p.spaces).length<=8:=zzg (List.length_filter_le _ _) Af;generalize xq p.spaces=F at hfl;refine Sa (zzA n1 n2) ?_
  refine SL.loop (α:=Nat) (λj=>[(2,.s s),(3,.ptr 0 0),(6,.ptr 1 0),(8,.ptr 2 0),(16,.j 1),(17,.fz F.length (rI .u64 F)),(18,.j j)])
   (λj=>[.v (qm p),.v [.w 0,.nils,.w 0],.v [.w 0,.own 3 j,.w 2147418112],.cells 4 true true (rT (qK 1 327681 (F.take j)))])
   (λj=>j<=F.length) (λj=>F.length-j) 0 [0,1,2,99] ?_ ?_ ?_ rfl ?_ ?_
  .exact Jc
  .simp[vw,qm,qa,qg,qd,qK,rT]
  .simp
  .exact Ab
  rintro j hj G ih;refine Fe ?_
  by_cases hlt:j<F.length
  .have hx:F[j]?=some F[j]:=Ae
   have hw:=wS j;have hln:(rT (qK 1 327681 (F.take j))).length=j*4:=by rw[qae];simp[qK];exact Ab
   have htk:(rT (qK 1 327681 (F.take j))).take (j*4)=rT (qK 1 327681 (F.take j)):=zzt Ab
   have hap:rT (qK 1 327681 (F.take j))++[AV.j 1,.x F[j],.x F[j],.w 327681]=rT (qK 1 327681 (F.take (j+1))):=Bd
   have hr1:j+1<=qe:=by simp only[qe];exact Ab
   have hr2:(j+1)*32<=qe:=by simp only[qe];exact Ab
   refine D3 ?_;refine Bn ?_;refine ih (j+1) hlt Ab _ _ (Wk.mk _ _ [0,1,2,5] ?_ ?_ ?_ rfl)
   .exact Jc
   .exact H6
   .simp
  .have hj':j=F.length:=Ab
   subst hj';have hl2:(qK 1 327681 F).length=F.length:=Iy
   have hln:(rT (qK 1 327681 F)).length=F.length*4:=by rw[qae,hl2]
   have htk:(rT (qK 1 327681 F)).take (F.length*4)=rT (qK 1 327681 F):=zzt Ab;have hr1:F.length+1<=qe:=by simp only[qe];exact Ab
   have hr2:(F.length+1)*32<=qe:=by simp only[qe];exact Ab
   clear ih;rw[zz0];have hap:rT (qK 1 327681 F)++[AV.j 1,.x 4294967295,.x 0,.w 327681]=rT (qK 1 327681 F++[⟨1,4294967295,0,327681⟩]):=by rw[<- qgO];rfl
   refine Sb hlt ?_;simp +decide only[↓vS,vT,simprocAttr,n1,n2,hln,htk,hr1,hr2,hap];have hl3:(qK 1 327681 F++[(⟨1,4294967295,0,327681⟩:GTest)]).length=F.length+1:=Iy
   simp only[qdd,hl3];refine .tup _ _ (.cons _ _ _ _ (.agg _ _ (.cons _ _ _ _ (.i _ _) (.cons _ _ _ _ (.own 5 _ 4 true (rT (qK 1 327681 F++[⟨1,4294967295,0,327681⟩])) _ ?_ (λh0=>?_) (Frzs.self zt)) (.cons _ _ _ _ (.i _ _) .nil)))) (.cons _ _ _ _ (.b _) .nil))
   all_goals simp_all[zz4]
 by_cases k2:s=xL
 .have n1:(s=[115,101,116,110,115])=False:=eq_false k1;have n2:(s=[99,108,111,110,101,51])=True:=eq_true k2;have e:ns4 p s=(true,[],327718):=by unfold ns4;rw[if_pos k2]
  rw[e];refine Al ?_;refine By ?_;refine E8 ?_;have hfl:(xq p.spaces).length<=8:=zzg (List.length_filter_le _ _) Af;generalize xq p.spaces=F at hfl;refine Sa (zzA n1 n2) ?_
  refine SL.loop (α:=Nat) (λj=>[(2,.s s),(3,.ptr 0 0),(6,.ptr 1 0),(8,.ptr 2 0),(16,.j 0),(17,.fz F.length (rI .u64 F)),(18,.j j)])
   (λj=>[.v (qm p),.v [.w 0,.nils,.w 0],.v [.w 0,.own 3 j,.w 2147418112],.cells 4 true true (rT (qK 0 327681 (F.take j)))])
   (λj=>j<=F.length) (λj=>F.length-j) 0 [0,1,2,99] ?_ ?_ ?_ rfl ?_ ?_
  .exact Jc
  .simp[vw,qm,qa,qg,qd,qK,rT]
  .simp
  .exact Ab
  rintro j hj G ih;refine Fe ?_
  by_cases hlt:j<F.length
  .have hx:F[j]?=some F[j]:=Ae
   have hw:=wS j;have hln:(rT (qK 0 327681 (F.take j))).length=j*4:=by rw[qae];simp[qK];exact Ab
   have htk:(rT (qK 0 327681 (F.take j))).take (j*4)=rT (qK 0 327681 (F.take j)):=zzt Ab
   have hap:rT (qK 0 327681 (F.take j))++[AV.j 0,.x F[j],.x F[j],.w 327681]=rT (qK 0 327681 (F.take (j+1))):=Bd
   have hr1:j+1<=qe:=by simp only[qe];exact Ab
   have hr2:(j+1)*32<=qe:=by simp only[qe];exact Ab
   refine D3 ?_;refine Bn ?_;refine ih (j+1) hlt Ab _ _ (Wk.mk _ _ [0,1,2,5] ?_ ?_ ?_ rfl)
   .exact Jc
   .exact H6
   .simp
  .have hj':j=F.length:=Ab
   subst hj';have hl2:(qK 0 327681 F).length=F.length:=Iy
   have hln:(rT (qK 0 327681 F)).length=F.length*4:=by rw[qae,hl2]
   have htk:(rT (qK 0 327681 F)).take (F.length*4)=rT (qK 0 327681 F):=zzt Ab;have hr1:F.length+1<=qe:=by simp only[qe];exact Ab
   have hr2:(F.length+1)*32<=qe:=by simp only[qe];exact Ab
   clear ih;rw[zz0];refine Sa (zzA hlt (zzA n1 n2)) ?_;simp[vZ,qdd,rT]
 .have n1:(s=[115,101,116,110,115])=False:=eq_false k1;have n2:(s=[99,108,111,110,101,51])=False:=eq_false k2
  have e:ns4 p s=(decide (s=zU)||decide (s=x6),qK 0 327681 (xq p.spaces),2147418112):=by
   unfold ns4;rw[if_neg k2,if_neg k1,if_neg k1];exact Ag
  rw[e];refine Al ?_;refine By ?_;refine E8 ?_;have hfl:(xq p.spaces).length<=8:=zzg (List.length_filter_le _ _) Af;generalize xq p.spaces=F at hfl;refine Sa (zzA n1 n2) ?_
  refine SL.loop (α:=Nat) (λj=>[(2,.s s),(3,.ptr 0 0),(6,.ptr 1 0),(8,.ptr 2 0),(16,.j 0),(17,.fz F.length (rI .u64 F)),(18,.j j)])
   (λj=>[.v (qm p),.v [.w 0,.nils,.w 0],.v [.w 0,.own 3 j,.w 2147418112],.cells 4 true true (rT (qK 0 327681 (F.take j)))])
   (λj=>j<=F.length) (λj=>F.length-j) 0 [0,1,2,99] ?_ ?_ ?_ rfl ?_ ?_
  .exact Jc
  .simp[vw,qm,qa,qg,qd,qK,rT]
  .simp
  .exact Ab
  rintro j hj G ih;refine Fe ?_
  by_cases hlt:j<F.length
  .have hx:F[j]?=some F[j]:=Ae
   have hw:=wS j;have hln:(rT (qK 0 327681 (F.take j))).length=j*4:=by rw[qae];simp[qK];exact Ab
   have htk:(rT (qK 0 327681 (F.take j))).take (j*4)=rT (qK 0 327681 (F.take j)):=zzt Ab
   have hap:rT (qK 0 327681 (F.take j))++[AV.j 0,.x F[j],.x F[j],.w 327681]=rT (qK 0 327681 (F.take (j+1))):=Bd
   have hr1:j+1<=qe:=by simp only[qe];exact Ab
   have hr2:(j+1)*32<=qe:=by simp only[qe];exact Ab
   refine D3 ?_;refine Bn ?_;refine ih (j+1) hlt Ab _ _ (Wk.mk _ _ [0,1,2,5] ?_ ?_ ?_ rfl)
   .exact Jc
   .exact H6
   .simp
  .have hj':j=F.length:=Ab
   subst hj';have hl2:(qK 0 327681 F).length=F.length:=Iy
   have hln:(rT (qK 0 327681 F)).length=F.length*4:=by rw[qae,hl2]
   have htk:(rT (qK 0 327681 F)).take (F.length*4)=rT (qK 0 327681 F):=zzt Ab;have hr1:F.length+1<=qe:=by simp only[qe];exact Ab
   have hr2:(F.length+1)*32<=qe:=by simp only[qe];exact Ab
   clear ih;rw[zz0]
   by_cases k3:s=zU
   .have n3:(s=[117,110,115,104,97,114,101])=True:=eq_true k3;refine Sa (zzA hlt (zzA n1 (zzA n2 n3))) ?_;have e2:(decide (s=zU)||decide (s=x6))=true:=by simp[k3]
    rw[e2];simp only[qdd,hl2];refine .tup _ _ (.cons _ _ _ _ (.agg _ _ (.cons _ _ _ _ (.i _ _) (.cons _ _ _ _ (.own 3 _ 4 true (rT (qK 0 327681 F)) _ ?_ (λh0=>?_) (Frzs.self zt)) (.cons _ _ _ _ (.i _ _) .nil)))) (.cons _ _ _ _ (.b _) .nil))
    .exact Be
    exact Ae
   .have n3:(s=[117,110,115,104,97,114,101])=False:=eq_false k3;refine Sa (zzA hlt (zzA n1 (zzA n2 n3))) ?_;have e2:(decide (s=zU)||decide (s=x6))=decide (s=x6):=by simp[k3]
    rw[e2];simp only[qdd,hl2];refine .tup _ _ (.cons _ _ _ _ (.agg _ _ (.cons _ _ _ _ (.i _ _) (.cons _ _ _ _ (.own 3 _ 4 true (rT (qK 0 327681 F)) _ ?_ (λh0=>?_) (Frzs.self zt)) (.cons _ _ _ _ (.i _ _) .nil)))) (.cons _ _ _ _ (.b _) .nil))
    .exact Be
    exact Ae
def qma(P:Program)(f:Nat):Prop:=∀p,PolOk p->PolR p->∀(d:Int) (s:List UInt8),qc P f [.agg (qm p),.j d,.s s] (qdd (qjA p d s))
def qMj(hc:Ck P f (qr g1 g2))(h1:qkT P g1)(h2:qwY P g2):qma P f:=by
 intro p hp hR d s;unfold qjA
 by_cases d1:d=1
 .subst d1;rw[if_pos rfl];exact qCT hc h1 p hp s
 rw[if_neg d1]
 by_cases d2:d=2
 .subst d2;rw[if_pos rfl];exact qCU hc h1 p hp s
 rw[if_neg d2]
 by_cases d3:d=3
 .subst d3;rw[if_pos rfl];exact qCV hc p hp hR s
 rw[if_neg d3]
 by_cases d4:d=4
 .subst d4;rw[if_pos rfl];exact qCW hc h2 p hR s
 rw[if_neg d4]
 by_cases d5:d=5
 .subst d5;rw[if_pos rfl];exact qCX hc p s
 rw[if_neg d5]
 by_cases d6:d=6
 .subst d6;rw[if_pos rfl];exact qCY hc p s
 rw[if_neg d6];exact qCZ hc p d d1 d2 d3 d4 d5 d6 s
end
def qpx(c:GCall):List GCall->List GCall
 | []=>[c]
 | x::l=>if c.act<=x.act then c::x::l else x::qpx c l
def qhq(a:Int):List GCall:=(zo.filterMap λx=>(qgI x a).map λn=>(⟨x.1,n⟩:GCall)).foldr qpx []
def qwU(P:Program)(f:Nat):Prop:=∀a:Int,0<=a->a<6->qc P f [.j a] (.fz (qhq a).length (rC (qhq a)))
theorem qq5(c:GCall):∀l,(qpx c l).length=l.length+1
 | []=>rfl
 | x::l=>by unfold qpx;split<;>simp[qq5 c l]
def qwo(a:Int):(qhq a).length<=40:=by
 unfold qhq
 have h1:∀l:List GCall,(l.foldr qpx []).length=l.length:=by
  intro l;induction l<;>grind[qq5]
 rw[h1];exact zzg (List.length_filterMap_le _ _) Af
def dfR(p:Pol)(d:Int):Int:=if d=1/\p.filter.mode=1 then p.deny else if d=2/\p.log.mode=2 then 2147221504 else 2147418112
def ruR(p:Pol)(d:Int)(l:List GCall):List GRule:=l.filterMap λc=>if(qjA p d c.name).1=true then some ⟨c.act,(qjA p d c.name).2.1,(qjA p d c.name).2.2⟩else none
def qgQ(p:Pol)(d a:Int):Option GFil:=if(decide (0<=a)&&decide (a<6)&&qbz p&&inA p.arches a&&qeU p d)=true then some ⟨a,ruR p d (qhq a),dfR p d⟩else none
def qzQ{p:Pol}{d:Int}{l:List GCall}{j:Nat}{c:GCall}(h:l[j]?=some c):ruR p d (l.take (j+1))=ruR p d (l.take j)++(if(qjA p d c.name).1=true then [⟨c.act,(qjA p d c.name).2.1,(qjA p d c.name).2.2⟩]else []):=by
 rw[zz2,h];unfold ruR;rw[List.filterMap_append];split<;>rename_i hh<;>simp[hh]
def jY(a b c d e:Nat):ICode:=icJ 79 [32,a,78,b,137,c,138,d,139,e] 63
def jX(a b c d e:Nat):ICode:=icJ 79 [32,a,78,b,137,c,138,d,139,e] 7 [15] [jY a b c d e]
def qbU(a b c d e:Nat):IFn:=irJ 79 [32,a,78,b,137,c,138,d,139,e] [7] [jX a b c d e]
section
variable {g1 g2 g3 g4 g5:Nat}
def qkB(h4:qwU P g4)(h5:qma P g5)(p:Pol)(hp:PolOk p)(hR:PolR p)(a d df:Int)(ha:0<=a)(ha6:a<6){t':Tr AV}{h':Hp}(hw:Wk 0 t' h' (mkT [(1,.j d),(2,.j a),(3,.ptr 0 0),(6,.ptr 1 0),(8,.ptr 2 0)]) (mkH 0 [.v (qm p),.v [.j 0,.nils,.w 0],.v [.j a,.nils,.w df]])) :
  S P 0 (jY g1 g2 g3 g4 g5) (zQ [.cell 6 3 true,.tmp 7] λv' h'=>Frz h' v' (qhr (some ⟨a,ruR p d (qhq a),df⟩))) t' h':=by
 refine Ay ?_;simp only[jY,qm,vI,simprocAttr];refine Ac ?_;refine(h4 a ha ha6).sc ?_;have hL:=qwo a;generalize qhq a=L at hL;refine Ac ?_
 refine SL.loop (α:=Nat) (λj=>[(1,.j d),(3,.ptr 0 0),(6,.ptr 1 0),(8,.ptr 2 0),(9,.fz L.length (rC L)),(10,.j j)])
  (λj=>[.v (qm p),.v [.j 0,.nils,.w 0],.v [.j a,.own 3 (ruR p d (L.take j)).length,.w df],.cells 3 true true (rR (ruR p d (L.take j)))])
  (λj=>j<=L.length) (λj=>L.length-j) 0 [0,1,2,99] ?_ ?_ ?_ rfl ?_ ?_
 .simp[vw,qg]
 .simp[vw,qm,qa,qg,qd,ruR,rR]
 .simp
 .exact Ab
 rintro j hj G ih;refine Fe ?_
 by_cases hlt:j<L.length
 .have hx:L[j]?=some L[j]:=Ae
  have g0:(rC L)[j*2]?=some (.s L[j].name):=qgL hx (i:=0) Af;have g1:(rC L)[j*2+1]?=some (.w L[j].act):=qgL hx (i:=1) Af;have hw:=wS j;have hA1:=qzQ (p:=p) (d:=d) hx
  have hAl:(ruR p d (L.take j)).length<=j:=by
   unfold ruR;exact Ag
  generalize hA:ruR p d (L.take j)=A at hA1 hAl;generalize hc0:L[j]=c at g0 g1 hA1;refine D3 ?_;refine Sb (zzA hlt g0) ?_;refine(h5 p hp hR d c.name).pc ?_;generalize qjA p d c.name=r at hA1;obtain⟨ok,ts,act⟩:=r;dsimp only at hA1;cases ok with
  | false =>
   rw[if_neg Af,List.append_nil]at hA1;simp only[qdd,↓vS,vT,simprocAttr,hlt,g1,hw];refine ih (j+1) hlt Ab _ _ (Wk.mk _ _ [0,1,2,3] ?_ ?_ ?_ rfl)
   .simp[vw,qg]
   .rw[hA1];simp[vw,qm,qa,qg,qd,qu]
   .simp
  | true =>
   rw[if_pos rfl]at hA1;have hln:(rR A).length=A.length*3:=qfM;have htk:(rR A).take (A.length*3)=rR A:=Ag
   have hap:rR A++[AV.w c.act,.fz ts.length (rT ts),.w act]=rR (A++[⟨c.act,ts,act⟩]):=by rw[<- qsx];rfl
   have hr1:A.length+1<=qe:=by simp only[qe];exact Ab
   have hr2:(A.length+1)*40<=qe:=by simp only[qe];exact Ab
   simp +decide only[qdd,↓vS,vT,simprocAttr,hlt,g1,hw,hln,htk,hap,hr1,hr2];refine ih (j+1) hlt Ab _ _ (Wk.mk _ _ [0,1,2,6] ?_ ?_ ?_ rfl)
   .simp[vw,qg]
   .rw[hA1];simp[vw,qm,qa,qg,qd,qu]
   .simp
 .have hj':j=L.length:=Ab
  subst hj';clear ih;rw[zz0];refine Sb hlt ?_;refine .tup _ _ (.cons _ _ _ _ (.agg _ _ (.cons _ _ _ _ (.i _ _) (.cons _ _ _ _ (.own 3 _ 3 true (rR (ruR p d L)) _ ?_ (λh0=>?_) (Frzs.self qu)) (.cons _ _ _ _ (.i _ _) .nil)))) (.cons _ _ _ _ (.b _) .nil))
  .exact Be
  .exact Dq
def qCR(h4:qwU P g4)(h5:qma P g5)(p:Pol)(hp:PolOk p)(hR:PolR p)(a d:Int)(ha:0<=a)(ha6:a<6){t':Tr AV}{h':Hp}(hw:Wk 0 t' h' (mkT [(1,.j d),(2,.j a),(3,.ptr 0 0),(6,.ptr 1 0)]) (mkH 0 [.v (qm p),.v [.j 0,.nils,.w 0]])) :
  S P 0 (jX g1 g2 g3 g4 g5) (zQ [.cell 6 3 true,.tmp 7] λv' h'=>Frz h' v' (qhr (some ⟨a,ruR p d (qhq a),dfR p d⟩))) t' h':=by
 refine Ay ?_;simp only[jX,qm,vI,simprocAttr]
 by_cases k1:d=1
 .subst k1
  by_cases m1:p.filter.mode=1
  .rw[show dfR p 1=p.deny by simp[dfR,m1]]
   refine Sa m1 ?_;refine qkB h4 h5 p hp hR a 1 _ ha ha6 (Wk.mk _ _ [0,1,2] ?_ ?_ ?_ rfl)
   .simp[vw]
   .simp[vw,qm,qa,qg,qd,m1]
   .simp
  .rw[show dfR p 1=2147418112 by simp[dfR,m1]]
   refine Sa m1 ?_;refine qkB h4 h5 p hp hR a 1 _ ha ha6 (Wk.mk _ _ [0,1,2] ?_ ?_ ?_ rfl)
   .simp[vw]
   .exact H7
   .simp
 by_cases k2:d=2
 .subst k2
  by_cases m2:p.log.mode=2
  .rw[show dfR p 2=2147221504 by simp[dfR,m2]]
   refine Sa m2 ?_;refine qkB h4 h5 p hp hR a 2 _ ha ha6 (Wk.mk _ _ [0,1,2] ?_ ?_ ?_ rfl)
   .simp[vw]
   .simp[vw,qm,qa,qg,qd,m2]
   .simp
  .rw[show dfR p 2=2147418112 by simp[dfR,m2]]
   refine Sa m2 ?_;refine qkB h4 h5 p hp hR a 2 _ ha ha6 (Wk.mk _ _ [0,1,2] ?_ ?_ ?_ rfl)
   .simp[vw]
   .exact H7
   .simp
 rw[show dfR p d=2147418112 by simp[dfR,k1,k2]]
 refine Sa (zzA k1 k2) ?_;refine qkB h4 h5 p hp hR a d _ ha ha6 (Wk.mk _ _ [0,1,2] ?_ ?_ ?_ rfl)
 .simp[vw]
 .exact H7
 .simp
def qw1(P:Program)(f:Nat):Prop:=∀p,PolOk p->PolR p->∀d a:Int,qc P f [.agg (qm p),.j d,.j a] (qhr (qgQ p d a))
def qIB(hc:Ck P f (qbU g1 g2 g3 g4 g5))(h1:∀p,PolOk p->PolR p->qc P g1 [.agg (qm p)] (.b (qbz p)))(h2:∀(xs:List Int) (x:Int),xs.length<=qe->qc P g2 [.fz xs.length (rI .i64 xs),.j x] (.b (inA xs x)))
  (h3:∀p d,qc P g3 [.agg (qm p),.j d] (.b (qeU p d))) (h4:qwU P g4) (h5:qma P g5):qw1 P f:=by
 intro p hp hR d a;have hl:=hp.a;refine Al ?_
 have no:(decide (0<=a)&&decide (a<6)&&qbz p&&inA p.arches a&&qeU p d)=false->∀{h:Hp},Frz h (.tup [.agg [.j 0,.nils,.w 0],.b false]) (qhr (qgQ p d a)):=by
  intro h0 h;rw[qgQ,h0];exact Dc
 simp only[qbU,qm,vI,simprocAttr]
 by_cases k1:a<0
 .refine Sb k1 ?_
  exact Ag
 by_cases k2:5<a
 .refine Sb (zzA k1 k2) ?_
  exact Ag
 refine Sb (zzA k1 k2) ?_;refine(h1 p hp hR).sc ?_;cases k3:qbz p with
 | false =>
  refine Ac ?_
  exact Ae
 | true =>
  refine Ac ?_;refine(h2 p.arches a (by simp only[qe];exact Ab)).sc ?_;cases k4:inA p.arches a with
  | false =>
   refine Ac ?_
   exact Ae
  | true =>
   refine Ac ?_;refine(h3 p d).sc ?_;cases k5:qeU p d with
   | false =>
    refine Ac ?_
    exact Ae
   | true =>
    have e:qgQ p d a=some ⟨a,ruR p d (qhq a),dfR p d⟩:=by
     rw[qgQ,if_pos];exact Ag
    rw[e];refine Ac ?_;refine qCR h4 h5 p hp hR a d Ab Ab (Wk.mk _ _ [0,1] ?_ ?_ ?_ rfl)
    .simp[vw]
    .exact H7
    .simp
end
end
section
def qlm{α:Type}(k:α->Int):∀{l m:List α},l.Pairwise (λx y=>k x<k y)->m.Pairwise (λx y=>k x<k y)->(∀x,x ∈ l↔x ∈ m)->l=m
 | [],[],_,_,_=>rfl
 | [],y::m,_,_,h=>by have:=(h y).2 (by simp);exact Ae
 | x::l,[],_,_,h=>by have:=(h x).1 (by simp);exact Ae
 | x::l,y::m,hl,hm,h=>by
  obtain⟨h1,h2⟩:=List.pairwise_cons.1 hl;obtain⟨h3,h4⟩:=List.pairwise_cons.1 hm
  have e:x=y:=by
   rcases zzc.1 ((h x).1 (by simp))with e|e
   .exact e
   .rcases zzc.1 ((h y).2 (by simp))with e'|e'
    .exact e'.symm
    .have:=h3 x e;have:=h1 y e';exact Ab
  subst e
  congr 1
  refine qlm k h2 h4 λz=>?_
  exact Ag
def qkG{rs:List GRule}(hn:(rs.map GRule.nr).Nodup):(jE rs).Pairwise (λx y=>x.nr<y.nr):=by
 have h1:(jE rs).Pairwise (λx y=>decide (x.nr<=y.nr)=true):=List.pairwise_mergeSort Ag Ag rs
 have h2:((jE rs).map GRule.nr).Nodup:=((List.mergeSort_perm rs _).map GRule.nr).nodup_iff.2 hn;have h3:(jE rs).Pairwise (λx y=>x.nr≠y.nr):=Ag
 refine(h1.and h3).imp ?_
 exact Ag
def qoX{rs:List GRule}{r:GRule}:r ∈ jE rs↔r ∈ rs:=(List.mergeSort_perm rs _).mem_iff
theorem qq6{c x:GCall}:∀{l:List GCall},x ∈ qpx c l↔x=c\/x ∈ l
 | []=>by simp[qpx]
 | y::l=>by
  unfold qpx;split
  .simp
  .rw[zzc,qq6,zzc]
   exact Ag
def quj{a:Int}{c:GCall}:c ∈ qhq a↔∃x ∈ zo,qgI x a=some c.act/\x.1=c.name:=by
 unfold qhq
 have h1:∀l:List GCall,c ∈ l.foldr qpx []↔c ∈ l:=by
  intro l;induction l<;>grind[qq6]
 rw[h1,List.mem_filterMap];constructor
 .rintro⟨x,hx,h⟩;cases hn:qgI x a<;>grind
 .rintro⟨x,hx,h,h2⟩;refine⟨x,hx,?_⟩;rw[h]
  exact Ae
def qwb:(zo.map (·.1)).Nodup:=by decide +kernel
def qon{α:Type}(k:α->List UInt8){l:List α}(hn:(l.map k).Nodup){x:α}(hx:x ∈ l):l.find? (λy=>decide (k y=k x))=some x:=by
 induction l<;>grind
def qjI{a:Int}{c:GCall}:c ∈ qhq a↔qgH a c.name=some c.act:=by
 rw[quj];unfold qgH;constructor
 .rintro⟨x,hx,h,h2⟩;rw[<- h2,qon (·.1) qwb hx];exact h
 .intro h;cases hf:zo.find? (λx=>decide (x.1=c.name))<;>grind
def qls{a:Int}(h0:0<=a)(h6:a<6):(qhq a).Pairwise (λx y=>x.act<y.act):=by
 have:a=0\/a=1\/a=2\/a=3\/a=4\/a=5:=Ab
 rcases this with rfl|rfl|rfl|rfl|rfl|rfl<;>decide +kernel
theorem qCc{a:Int}(h0:0<=a)(h6:a<6){s t:List UInt8}{n:Int}(h1:qgH a s=some n)(h2:qgH a t=some n):s=t:=by
 have hs:(⟨s,n⟩:GCall) ∈ qhq a:=qjI.2 h1;have ht:(⟨t,n⟩:GCall) ∈ qhq a:=qjI.2 h2;have hp:=qls h0 h6
 by_cases e:s=t
 .exact e
 .exfalso
  have:∀{l:List GCall},l.Pairwise (λx y=>x.act<y.act)->(⟨s,n⟩:GCall) ∈ l->(⟨t,n⟩:GCall) ∈ l->False:=by
   intro l;induction l with
   | nil=>intro _ h;exact G3
   | cons x l ih =>
    intro hl h1 h2;obtain⟨k1,k2⟩:=List.pairwise_cons.1 hl;rcases zzc.1 h1 with e1|e1<;>rcases zzc.1 h2 with e2|e2
    .rw[<- e2]at e1;simp at e1;exact e e1
    .subst e1;have:=k1 _ e2;simp at this
    .subst e2;have:=k1 _ e1;simp at this
    .exact ih k2 e1 e2
  exact Ae
def qdn(a:Int)(g:List UInt8->List GTest×Int)(ns:List (List UInt8)):List GRule:=ns.filterMap λs=>(qgH a s).map λn=>⟨n,(g s).1,(g s).2⟩
def qqU{a:Int}{g:List UInt8->List GTest×Int}{ns:List (List UInt8)}{r:GRule}:r ∈ qdn a g ns↔∃s ∈ ns,qgH a s=some r.nr/\r.tests=(g s).1/\r.act=(g s).2:=by
 unfold qdn;rw[List.mem_filterMap];constructor
 .rintro⟨s,hs,h⟩;cases hn:qgH a s<;>grind
 .rintro⟨s,hs,h,h2,h3⟩;refine⟨s,hs,?_⟩;rw[h];cases r;exact Ae
def qmW{a:Int}(h0:0<=a)(h6:a<6){g:List UInt8->List GTest×Int}{ns:List (List UInt8)}(hn:ns.Nodup):((qdn a g ns).map GRule.nr).Nodup:=by
 induction ns with
 | nil=>exact List.nodup_nil
 | cons s ns ih =>
  obtain⟨h1,h2⟩:=List.nodup_cons.1 hn;unfold qdn;rw[List.filterMap_cons];cases hs:qgH a s with
  | none=>exact ih h2
  | some n =>
   simp only[zza,zz3];refine List.nodup_cons.2 ⟨?_,ih h2⟩;intro hm;obtain⟨r,hr,e⟩:=zzl.1 hm;obtain⟨t,ht,k1,_,_⟩:=qqU.1 hr;rw[e]at k1
   grind[qCc]
def qxU{a:Int}{g:List UInt8->List GTest×Int}{ns:List (List UInt8)}:(qdn a g ns).length<=ns.length:=List.length_filterMap_le _ _
def qhD{a:Int}{g:List UInt8->List GTest×Int}{ns ms:List (List UInt8)}:qdn a g (ns++ms)=qdn a g ns++qdn a g ms:=List.filterMap_append
def ve{a act:Int}{ts:List GTest}{g:List UInt8->List GTest×Int}:∀{ns:List (List UInt8)},(∀s ∈ ns,g s=(ts,act))->zz a act ts ns=qdn a g ns
 | [],_=>rfl
 | s::ns,h=>by
  have e:=ve (a:=a) (ns:=ns) λt ht=>h t (List.mem_cons_of_mem _ ht)
  unfold zz qdn at *;rw[List.filterMap_cons,List.filterMap_cons,e,h s (by simp)]
def qgz{p:Pol}{d a:Int}(h0:0<=a)(h6:a<6){ns:List (List UInt8)}{g:List UInt8->List GTest×Int}(hn:ns.Nodup)(h1:∀s n,qgH a s=some n->((qjA p d s).1=true↔s ∈ ns))(h2:∀s ∈ ns,g s=(qjA p d s).2):jE (qdn a g ns)=ruR p d (qhq a):=by
 refine qlm GRule.nr (qkG (qmW h0 h6 hn)) ?_ λr=>?_
 .unfold ruR;refine List.Pairwise.filterMap _ ?_ (qls h0 h6);intro c c' hlt x hx y hy;split at hx
  .split at hy
   .cases hx;cases hy;exact hlt
   .cases hy
  .cases hx
 .rw[qoX,qqU];unfold ruR;rw[List.mem_filterMap];constructor
  .rintro⟨s,hs,k1,k2,k3⟩;have k:=(h1 s _ k1).2 hs;refine⟨⟨s,r.nr⟩,qjI.2 k1,?_⟩;rw[h2 s hs]at k2 k3;rw[if_pos k];cases r;exact Ae
  .rintro⟨c,hc,h⟩;have k1:=qjI.1 hc;split at h
   .rename_i k;cases h;have hs:=(h1 c.name _ k1).1 k;exact⟨c.name,hs,k1,by rw[h2 _ hs],by rw[h2 _ hs]⟩
   .cases h
def qgf{l:GList}(h:qad l=true):(l.calls.map (·.name)).Nodup:=by
 have h2:=((qyN l).1 h).2.2;exact List.pairwise_map.2 (List.Pairwise.imp (λhab=>qGd hab) h2)
def qjq{p:Pol}(h:qbz p=true):qad p.filter=true/\qad p.log=true:=by
 unfold qbz qc7 at h
 exact Ae
def qu5{l:List GCall}(hn:(l.map (·.name)).Nodup){c:GCall}(hc:c ∈ l):vh l c.name=some c:=qon GCall.name hn hc
def qom{l:List GCall}{s:List UInt8}:(vh l s).isSome=true↔s ∈ l.map (·.name):=by
 unfold vh;rw[List.find?_isSome];simp only[zzb,zzl]
def qmS{a:Int}{g:List UInt8->List GTest×Int}{A:GCall->Int}:∀{l:List GCall},(∀c ∈ l,g c.name=([],A c))->(l.flatMap λc=>zz a (A c) [] [c.name])=qdn a g (l.map (·.name))
 | [],_=>rfl
 | c::l,h=>by
  have e:=qmS (a:=a) (A:=A) (l:=l) λx hx=>h x (List.mem_cons_of_mem _ hx)
  rw[zzv,e,ve (g:=g) Ae,<- qhD];rfl
def qJV(p:Pol)(s:List UInt8):List GTest×Int:=([],qwn p s)
def qta{p:Pol}{a:Int}(hm:qad p.filter=true):(qlW p a).2.1=qdn a (qJV p) (p.filter.calls.map (·.name)):=by
 refine qmS λc hc=>?_
 have hf:=qu5 (qgf hm) hc;simp only[qJV,qwn,qsh,hf]
def qLQ(p:Pol)(_:List UInt8):List GTest×Int:=([],if p.log.mode=2 then 2147418112 else 2147221504)
def qtt{p:Pol}{a:Int}:(ql0 p a).2.1=qdn a (qLQ p) (p.log.calls.map (·.name)):=qmS (A:=λ_=>if p.log.mode=2 then 2147418112 else 2147221504) λ_ _=>rfl
def qjY(p:Pol)(d:Int)(s:List UInt8):List GTest×Int:=(qjA p d s).2
def qs9{p:Pol}{a:Int}:(fmM p a).2.1=qdn a (qjY p 3) [xW]:=ve λ_ _=>rfl
def nsL:List (List UInt8):=[zU,x6,xM,xL]
def qy2{p:Pol}{a:Int}:(nsM p a).2.1=qdn a (qjY p 4) nsL:=by
 have h1:zz a 2147418112 (qK 0 327681 (xq p.spaces)) [zU,x6]=qdn a (qjY p 4) [zU,x6]:=ve λs hs=>by
  simp only[zzc,List.not_mem_nil,or_false]at hs;rcases hs with rfl|rfl<;>simp (decide:=true) [qjY,qjA,zU,x6,xL,xM]
 have h2:zz a 2147418112 (qK 1 327681 (xq p.spaces)++qG 1 4294967295 327681 [0]) [xM]=qdn a (qjY p 4) [xM]:=ve λs hs=>by
  simp only[zzc,List.not_mem_nil,or_false]at hs;subst hs;simp (decide:=true) [qjY,qjA,xL,xM,qG]
 have h3:zz a 327718 [] [xL]=qdn a (qjY p 4) [xL]:=ve λs hs=>by
  simp only[zzc,List.not_mem_nil,or_false]at hs;subst hs;simp (decide:=true) [qjY,qjA]
 show _++_++_=_;rw[h1,h2,h3,<- qhD,<- qhD];rfl
def weL:List (List UInt8):=[qbG,xB,zh,vu]
def qAi{p:Pol}{a:Int}:(weM p a).2.1=qdn a (qjY p 5) weL:=by
 have h1:zz a 2147418112 (qK 2 327681 [6]) [qbG]=qdn a (qjY p 5) [qbG]:=ve λs hs=>Gd
 have h2:zz a 2147418112 (qK 2 327681 [4]) [xB,zh]=qdn a (qjY p 5) [xB,zh]:=ve λs hs=>by
  simp only[zzc,List.not_mem_nil,or_false]at hs;rcases hs with rfl|rfl<;>rfl
 have h3:zz a 2147418112 (qK 2 327681 [32768]) [vu]=qdn a (qjY p 5) [vu]:=ve λs hs=>Gd
 show _++_++_=_;rw[h1,h2,h3,<- qhD,<- qhD];rfl
def qzm{p:Pol}{a:Int}:(peM p a).2.1=qdn a (qjY p 6) [zH]:=ve λ_ _=>rfl
def qzP{p:Pol}{a:Int}:(rtM p a).2.1=qdn a (qjY p 7) [qcs]:=ve λ_ _=>rfl
def qB3:∀d F,qd3 d=some F->qAr F:=by
 intro d F h p a hp hmay h0 h6;obtain⟨hf,hl⟩:=qjq hmay
 have k:∀{g:List UInt8->List GTest×Int}{ns:List (List UInt8)}{rs:List GRule},rs=qdn a g ns->ns.Nodup->ns.length<=1000->rs.length<=100000/\(rs.map GRule.nr).Nodup:=by
  rintro g ns rs rfl hn hle;exact⟨by have:=qxU (a:=a) (g:=g) (ns:=ns);exact Ab,qmW h0 h6 hn⟩
 unfold qd3 at h;split at h
 .cases h;exact k (qta hf) (qgf hf) (by rw[zzz];exact hp.c)
 split at h
 .cases h;exact k qtt (qgf hl) (by rw[zzz];exact hp.l)
 split at h
 .cases h;exact k qs9 Af Af
 split at h
 .cases h;exact k qy2 Af Af
 split at h
 .cases h;exact k qAi Af Af
 split at h
 .cases h;exact k qzm Af Af
 split at h
 .cases h;exact k qzP Af Af
 exact Ag
def qHV(s:List UInt8):(0<qaf s)↔s ∈ weL:=by
 unfold qaf weL
 exact Ag
def qeJ{p:Pol}{d a:Int}{F:Pol->Int->Bool×List GRule×Int}(hF:qd3 d=some F)(hd:0<=d/\d<8)(h1:qeU p d=(F p a).1)
  (h2:qeI p d a=true->(F p a).1=true->jE (F p a).2.1=ruR p d (qhq a)/\(F p a).2.2=dfR p d):qgQ p d a=qby p d a:=by
 have e:qeI p d a=(decide (0<=a)&&decide (a<6)&&qbz p&&inA p.arches a):=by
  unfold qeI;simp[hd.1,hd.2]
 unfold qgQ qby;rw[hF]
 exact Ag
def qaA{p:Pol}{d a:Int}(h:qeI p d a=true):0<=a/\a<6/\qbz p=true:=by
 unfold qeI at h
 exact Ae
def qGb(p:Pol)(d a:Int):qgQ p d a=qby p d a:=by
 by_cases d1:d=1
 .subst d1;refine qeJ (F:=qlW) rfl Af rfl λhk _=>?_
  obtain⟨h0,h6,hm⟩:=qaA hk;have hf:=(qjq hm).1;refine⟨?_,?_⟩
  .rw[qta hf];refine qgz h0 h6 (qgf hf) (λs n _=>?_) λs _=>?_
   .show (vh p.filter.calls s).isSome=true↔_;exact qom
   .rfl
  .show (if p.filter.mode=1 then p.deny else 2147418112)=_
   simp[dfR]
 by_cases d2:d=2
 .subst d2;refine qeJ (F:=ql0) rfl Af rfl λhk hact=>?_
  obtain⟨h0,h6,hm⟩:=qaA hk;have hl:=(qjq hm).2
  have hmode:p.log.mode=1\/p.log.mode=2:=by
   have hact:zJ p.log.mode p.log.calls.length false true=true:=hact;unfold zJ at hact
   exact Ag
  refine⟨?_,?_⟩
  .rw[qtt];refine qgz h0 h6 (qgf hl) (λs n _=>?_) λs _=>?_
   .show (vh p.log.calls s).isSome=true↔_;exact qom
   .show ([],_)=([],if p.log.mode=1 then(2147221504:Int)else 2147418112)
    rcases hmode with h|h<;>simp[h]
  .show (if p.log.mode=2 then 2147221504 else 2147418112)=_
   simp[dfR]
 by_cases d3:d=3
 .subst d3;refine qeJ (F:=fmM) rfl Af rfl λhk _=>?_
  obtain⟨h0,h6,hm⟩:=qaA hk;refine⟨?_,by simp[dfR,fmM]⟩
  rw[qs9];refine qgz h0 h6 Af (λs n _=>?_) λs _=>rfl
  show decide (s=xW)=true↔_;simp
 by_cases d4:d=4
 .subst d4;refine qeJ (F:=nsM) rfl Af rfl λhk _=>?_
  obtain⟨h0,h6,hm⟩:=qaA hk;refine⟨?_,by simp[dfR,nsM]⟩
  rw[qy2];refine qgz h0 h6 Af (λs n _=>?_) λs _=>rfl
  show(if s=xL then((true,[],327718):Bool×List GTest×Int)else(decide (s=xM)||decide (s=zU)||decide (s=x6),_,_)).1=true↔_
  unfold nsL
  exact Ag
 by_cases d5:d=5
 .subst d5;refine qeJ (F:=weM) rfl Af rfl λhk _=>?_
  obtain⟨h0,h6,hm⟩:=qaA hk;refine⟨?_,by simp[dfR,weM]⟩
  rw[qAi];refine qgz h0 h6 Af (λs n _=>?_) λs _=>rfl
  show decide (0<qaf s)=true↔_;rw[zzb];exact qHV s
 by_cases d6:d=6
 .subst d6;refine qeJ (F:=peM) rfl Af rfl λhk _=>?_
  obtain⟨h0,h6,hm⟩:=qaA hk;refine⟨?_,by simp[dfR,peM]⟩
  rw[qzm];refine qgz h0 h6 Af (λs n _=>?_) λs _=>rfl
  show decide (s=zH)=true↔_;simp
 by_cases d7:d=7
 .subst d7;refine qeJ (F:=rtM) rfl Af rfl λhk _=>?_
  obtain⟨h0,h6,hm⟩:=qaA hk;refine⟨?_,by simp[dfR,rtM]⟩
  rw[qzP];refine qgz h0 h6 Af (λs n _=>?_) λs _=>rfl
  show decide (s=qcs)=true↔_;simp
 have e1:qeU p d=false:=by simp[qeU,d1,d2,d3,d4,d5,d6,d7]
 have e2:qd3 d=none:=by simp[qd3,d1,d2,d3,d4,d5,d6,d7]
 unfold qgQ qby;rw[e1,e2,Bool.and_false,if_neg Af];split<;>rfl
def qw1.low{P:Program}{f:Nat}(h:qw1 P f):qlU P f:=λp hp hR d a=>by rw[<- qGb];exact h p hp hR d a
end
section
open Go.Sort Go.Proofs Go.Shelf Go.RowKit
variable {P:Program}{f g:Nat}
def qAs(P:Program)(f g:Nat):Prop :=
 (∀(a:Option Addr) (cap:Nat) (w:World),Calls P f #[.slice a 0 cap,.func (.func g) #[] #[]] w λe w'=>e = .returned (.tuple #[])/\w'=w) /\
 ∀(n:Nat) (i0:Inhabited (Fin n)) (nr:Fin n->Int) (cs:Fin n->List Value),(∀i j,nr i=nr j->i=j)->(∀i,∃t u,cs i=[.int .u32 (nr i),t,u]/\t.oneCell'=true/\u.oneCell'=true)->
  ∀(blk off cap:Nat) (w:World),HoldsK cs 3 w blk off (List.finRange n).toArray->blk<w.heap.size->n<4611686018427387904->
   Calls P f #[.slice (some ⟨blk,off,none⟩) n cap,.func (.func g) #[] #[]] w λe w'=>e = .returned (.tuple #[])/\∃q os,w'=sortWorldK cs 3 w blk off q ((List.finRange n).mergeSort λx y=>decide (nr x<=nr y)).toArray os
def qzW(rs:List GRule)(hn:(rs.map GRule.nr).Nodup):jE rs=((List.finRange rs.length).mergeSort λx y=>decide ((rs[x]).nr<=(rs[y]).nr)).map λi=>rs[i]:=by
 have e:(List.finRange rs.length).map (λi=>rs[i])=rs:=by
  apply List.ext_getElem
  .simp
  .intro i h1 h2;simp
 have p1:(((List.finRange rs.length).mergeSort λx y=>decide ((rs[x]).nr<=(rs[y]).nr)).map λi=>rs[i]).Perm rs:=by
  have:=(List.mergeSort_perm (List.finRange rs.length) λx y=>decide ((rs[x]).nr<=(rs[y]).nr)).map (λi=>rs[i])
  rw[e]at this;exact this
 refine qlm GRule.nr (qkG hn) ?_ λr=>by rw[qoX];exact p1.mem_iff.symm
 have h1:((List.finRange rs.length).mergeSort λx y=>decide ((rs[x]).nr<=(rs[y]).nr)).Pairwise (λx y=>decide ((rs[x]).nr<=(rs[y]).nr)=true):=List.pairwise_mergeSort Ag Ag _
 have h2:((((List.finRange rs.length).mergeSort λx y=>decide ((rs[x]).nr<=(rs[y]).nr)).map λi=>rs[i]).map GRule.nr).Nodup:=(p1.map GRule.nr).nodup_iff.2 hn
 have h3:=List.pairwise_map.1 (List.pairwise_map.1 h2);refine List.pairwise_map.2 ((h1.and h3).imp ?_)
 exact Ag
def Wk.same{n:Nat}{t:Tr AV}{h:Hp}(hn:n<=h.sz):Wk n t h t h:=λZ B w tm ht r=>by grind[Kep.refl]
def qKN(hcod:qoh P f)(hK:qAs P f g):qmH P f g:=by
 intro rs hl hn;refine⟨by simp[jF,bnd,qu],by simp,trivial,?_⟩
 intro Z B w args r ha;have hsl:(jE rs).length=rs.length:=List.length_mergeSort _;generalize hA:args.toList=L at ha;cases ha with
 | cons _ _ _ _ a1 a2 =>
  rename_i v1 vs1;cases a2 with
  | cons _ _ _ _ b1 b2 =>
   rename_i v2 vs2;cases b2;have hargs:args = #[v1,v2]:=Ag
   obtain⟨a',c',h7,h8,rfl⟩:=b1.un_fn
   have ea:a' = #[]:=by
    apply Array.ext';generalize a'.toList=X at h7;cases h7;rfl
   have ec:c' = #[]:=by
    apply Array.ext';generalize c'.toList=X at h8;cases h8;rfl
   subst ea ec hargs
   have zero:∀(a:Option Addr) (cap:Nat),rs=[]->v1 = .slice a 0 cap->qo7 P σ0 f #[v1,.func (.func g) #[] #[]] Z B (mkH 0 [.cells 3 true true (rR rs)]) w (qAt [Blk.cells 3 true true (rR rs)].length (.tup []) [.cells 3 true true (rR (jE rs))]):=by
    rintro a cap rfl rfl;refine .inl ⟨hcod,(hK.1 a cap w).mono ?_⟩;rintro e w' ⟨rfl,rfl⟩;have e0:jE []=[]:=Ae
    rw[e0];refine⟨.tup [],.tuple #[],mkH 0 [.cells 3 true true (rR [])],Z,rfl,?_,.tup [] #[] .nil,r,Kept.refl _ _ _ _⟩;exact λ_=>Wk.same (zzL _)
   generalize hrl:rs.length=n at a1;cases a1 with
   | own0 _ ad hb=>exact Ae
   | own _ _ cap L0 h0 h1 h2 =>
    by_cases hz:rs=[]
    .exact Ae
    have hn0:0<rs.length:=Ag
    obtain⟨q1,c,ty,fz,q2,q3,q4,q5,q6⟩:=r.cells 0 L0 3 true true (rR rs) h0 Jw;have hRl:(rR rs).length=rs.length*3:=qfM;subst hrl
    let i0:Inhabited (Fin rs.length):=⟨⟨0,hn0⟩⟩
    let cs:Fin rs.length->List Value:=λi=>[c[L0.off+(i.val*3+0)]!,c[L0.off+(i.val*3+1)]!,c[L0.off+(i.val*3+2)]!]
    have hcell:∀(i:Fin rs.length) (k:Nat),k<3->∃a,(zn rs[i])[k]?=some a/\VR σ0 Z a (c[L0.off+(i.val*3+k)]!):=by
     intro i k hk;have hx:rs[i.val]?=some rs[i]:=Ae
     have hg:=qpQ hx hk
     have ⟨a,ha⟩:∃a,(zn rs[i])[k]?=some a:=by
      have:k<(zn rs[i]).length:=hk;exact Ae
     exact Ag
    have hcs:∀i,∃t u,cs i=[.int .u32 (rs[i]).nr,t,u]/\t.oneCell'=true/\u.oneCell'=true:=by
     intro i;obtain⟨x0,e0,k0⟩:=hcell i 0 Af;obtain⟨x1,e1,k1⟩:=hcell i 1 Af;obtain⟨x2,e2,k2⟩:=hcell i 2 Af;simp[zn]at e0 e1 e2;subst e0 e1 e2;have hσ:qag σ0:=λ_=>rfl
     refine⟨c[L0.off+(i.val*3+1)]!,c[L0.off+(i.val*3+2)]!,?_,qkV hσ k1 rfl,qkV hσ k2 rfl⟩;have:c[L0.off+(i.val*3+0)]! = .int .u32 (rs[i]).nr:=k0.un_i
     exact Ag
    have hlen:∀i,(cs i).length=3:=λ_=>rfl
    have hfl:∀(d:Array (Fin rs.length)) (t:Nat),t<d.size*3->(flatK cs 3 d)[t]! = c[L0.off+((d[t / 3]!).val*3+t % 3)]!:=by
     intro d t ht;rw[get_flatK cs 3 d t ht];have:t % 3=0\/t % 3=1\/t % 3=2:=Ab
     rcases this with e|e|e<;>rw[e]<;>rfl
    have hsz:(List.finRange rs.length).toArray.size=rs.length:=by simp
    have hH:HoldsK cs 3 w L0.blk L0.off (List.finRange rs.length).toArray:=by
     intro j hj;have hj':j<rs.length*3:=by simpa[hsz]using hj
     have hcj:L0.off+j<c.size:=Ab
     constructor
     .show (match w.heap[L0.blk]? with|some (.cells c _ _)=>if(none:Option _).isSome then none else c[L0.off+j]? | _=>none)=_
      rw[q2];have e1:c[L0.off+j]?=some c[L0.off+j]!:=by rw[getElem!_pos c _ hcj];exact Ag
      show c[L0.off+j]?=_;rw[e1];have e2:=hfl (List.finRange rs.length).toArray j (by rw[hsz];exact hj')
      have e3:((List.finRange rs.length).toArray[j / 3]!).val=j / 3:=by
       rw[getElem!_pos _ _ (by rw[hsz];exact Ab)];simp
      rw[e3,show j / 3*3+j % 3=j from Ab]at e2
      exact Ag
     .show (match w.heap[L0.blk]? with|some (.cells _ _ (lo,hi))=>decide (lo<=L0.off+j)&&decide (L0.off+j<hi)|_=>false)=false
      rw[q2];have:=q6 rfl (L0.off+j) (.inl Ab)
      exact Ag
    have hblk:L0.blk<w.heap.size:=Ag
    refine .inl ⟨hcod,(hK.2 rs.length i0 (λi=>(rs[i]).nr) cs ?_ hcs L0.blk L0.off cap w hH hblk Ab).mono ?_⟩
    .intro i j hij;have hx:(rs.map GRule.nr)[i.val]'(by simp)=(rs.map GRule.nr)[j.val]'(by simp):=by simpa using hij
     grind[List.getElem_inj]
    rintro e w' ⟨rfl,q,os,hw'⟩;have hsm:=qzW rs hn;generalize hD:(List.finRange rs.length).mergeSort (λx y=>decide ((rs[x]).nr<=(rs[y]).nr))=D at hw' hsm
    have hDl:D.length=rs.length:=by rw[<- hD,List.length_mergeSort];simp
    have hFs:(flatK cs 3 D.toArray).size=rs.length*3:=by rw[size_flatK];exact Ag
    have hv:VRs σ0 Z (rR (jE rs)) (flatK cs 3 D.toArray).toList:=by
     have el1:=qfM (l:=jE rs);have el2:(flatK cs 3 D.toArray).toList.length=rs.length*3:=by rw[Array.length_toList];exact Ab
     refine VRs.of_get Ab λt a ht=>?_
     have htl:t<rs.length*3:=by
      have:=(zzS.1 ht).1;exact Ab
     have hj:t / 3<D.length:=Ab
     have hDa:D.toArray[t / 3]! = D[t / 3]:=by rw[getElem!_pos _ _ Ab];rfl
     refine⟨(flatK cs 3 D.toArray)[t]!,?_,?_⟩
     .rw[getElem!_pos (flatK cs 3 D.toArray) t (by rw[hFs];exact htl)];exact Ag
     .rw[hfl D.toArray t (by simp[hDl];exact htl),hDa];obtain⟨a',k1,k2⟩:=hcell D[t / 3] (t % 3) Ab;have hx:(jE rs)[t / 3]?=some rs[D[t / 3]]:=by rw[hsm,zzo,zzE hj];rfl
      have hg:=qpQ hx (i:=t % 3) Ab;rw[show t / 3*3+t % 3=t from Ab,ht]at hg
      rw[k1]at hg
      exact Ag
    have hspl:Spl c (L0.off+0) (flatK cs 3 D.toArray).toList (putCells id L0.off (flatK cs 3 D.toArray) c):=by
     refine⟨by simp[putCells],λj hj=>?_,λj v hj=>?_⟩
     .rw[Array.length_toList]at hj;unfold putCells;rw[Array.getElem?_mapIdx];cases c[j]? with
      | none=>rfl
      | some x =>
       simp only[zza];rw[if_neg Ab]
     .have hjl:j<(flatK cs 3 D.toArray).size:=by
       have:=(zzS.1 hj).1;exact Ab
      have hjc:L0.off+j<c.size:=Ab
      unfold putCells;rw[Nat.add_zero,Array.getElem?_mapIdx,Array.getElem?_eq_getElem hjc];simp only[zza];rw[if_pos Ab,Nat.add_sub_cancel_left,getElem!_pos (flatK cs 3 D.toArray) j hjl];rw[Array.getElem?_toList,Array.getElem?_eq_getElem hjl]at hj;exact hj
    have hheap:(putRowK cs 3 (Go.Sort.ahead w q) L0.blk L0.off D.toArray).heap=w.heap.setIfInBounds L0.blk (.cells (putCells id L0.off (flatK cs 3 D.toArray) c) ty fz):=by
     show w.heap.modify L0.blk (onCells _)=_;apply Array.ext_getElem?;intro k;rw[Array.getElem?_modify,zzw]
     by_cases hk:L0.blk=k
     .subst hk;rw[if_pos rfl,if_pos rfl,if_pos hblk,q2];rfl
     exact Ag
    have el3:=qfM (l:=jE rs);obtain⟨r2,k2⟩:=r.store (w':=putRowK cs 3 (Go.Sort.ahead w q) L0.blk L0.off D.toArray) h0 Jw (zzL _) 0 (rR (jE rs)) _ hv Ab q2 hspl hheap ⟨rfl,rfl⟩
    have hY:(rR rs).take 0++(rR (jE rs)++(rR rs).drop (0+(rR (jE rs)).length))=rR (jE rs):=by
     rw[List.drop_of_length_le Ab];simp
    rw[hY]at r2 k2;have hh:(mkH 0 [.cells 3 true true (rR rs)]).put 0 (.cells 3 true true (rR (jE rs)))=mkH 0 [.cells 3 true true (rR (jE rs))]:=rfl;rw[hh]at r2 k2
    have hg:∀n,n<(putRowK cs 3 (Go.Sort.ahead w q) L0.blk L0.off D.toArray).heap.size->w'.heap[n]?=(putRowK cs 3 (Go.Sort.ahead w q) L0.blk L0.off D.toArray).heap[n]?:=by
     intro n hn;rw[hw'];exact Array.getElem?_append_left hn
    have hsz':(putRowK cs 3 (Go.Sort.ahead w q) L0.blk L0.off D.toArray).heap.size<=w'.heap.size:=by
     rw[hw']
     exact Ag
    have r3:=r2.world hg hsz';refine⟨.tup [],.tuple #[],_,Z,rfl,λ_=>Wk.same (zzL _),.tup [] #[] .nil,r3,k2.trans ?_⟩
    have hio:w'.os=w.os/\w'.output=w.output:=by rw[hw'];exact⟨rfl,rfl⟩
    exact⟨λ_ _=>rfl,zzL _,rfl,λ_ _ _=>rfl,by grind[Rel.base],hsz',hio,λ_ _ h=>h,λ_ _ h=>.inl h,zzL _⟩
end
section
variable {P:Program}{f:Nat}
def ql3(p:List UInt8×Int):List AV:=[.w p.2,.s p.1]
def qzO(p:List UInt8×Int):(ql3 p).length=2:=rfl
def jr:List (List UInt8×Int):=[([107,105,108,108],2147483648),([107,105,108,108,116,104,114,101,97,100],0),([116,114,97,112],196608),([101,114,114,110,111],327680),([110,111,116,105,102,121],2143289344),([116,114,97,99,101],2146435072),([108,111,103],2147221504),([97,108,108,111,119],2147418112)]
def qgZ:IFn:=irJ 169 []
def qJb(hc:Ck P f qgZ):qc P f [] (.agg (jr.flatMap ql3)):=by
 refine Al ?_;simp only[qgZ,vI,simprocAttr];simp only[↓vS,vT,simprocAttr,jr,ql3,zzv,List.flatMap_nil,vZ]
def qhF:IFn:=irJ 87 []
def qK5(hc:Ck P f qhF)(n:Int):qc P f [.w n] (.w (qdh .u32 n 65535)):=by
 refine Al ?_;simp only[qhF,vI,simprocAttr];exact Cu
def qhG(a b:Nat):IFn:=irJ 105 [169,a,87,b]
def qK4{g1 g2:Nat}(hc:Ck P f (qhG g1 g2))(h1:qc P g1 [] (.agg (jr.flatMap ql3)))(h2:∀n,qc P g2 [.w n] (.w (qdh .u32 n 65535)))(n:Int):qc P f [.w n] (.s (wU (qdh .u32 n 65535) jr)):=by
 refine Al ?_;simp only[qhG,vI,simprocAttr];refine Ac ?_;refine h1.sc ?_;refine Ac ?_;have hlen:(jr.flatMap ql3).length=16:=Af
 have hTc:qt (jr.flatMap ql3)=true:=rfl;refine SL.loop (α:=Nat) (λj=>[(0,.w n),(5,.agg (jr.flatMap ql3)),(6,.j j)]) (λ_=>[]) (λj=>j<=8/\wU (qdh .u32 n 65535) jr=wU (qdh .u32 n 65535) (jr.drop j)) (λj=>8-j) 0 [] ?_ ?_ ?_ rfl ?_ ?_
 .simp[vw,jr,ql3]
 .trivial
 .simp
 .exact Ae
 rintro j ⟨hj,hI⟩ G ih;refine Ak ?_
 by_cases hlt:j<8
 .have hlt':(j:Int)<8:=Ab
  have hjl:j<jr.length:=hlt;have hx:jr[j]?=some jr[j]:=Ae
  have hw:=wS j;have he:=qS (f:=ql3) (m:=2) qzO hx;have hb:j*2+2<=(jr.flatMap ql3).length:=Ab
  rw[zzf hjl,wU]at hI;generalize hc0:jr[j]=c at he hI;generalize hT:jr.flatMap ql3=T at he hb hlen hTc;simp only[↓vS,vT,simprocAttr,hlt',hlt,he,hb,ql3];refine qX ?_;refine Ac ?_;refine(h2 n).pc ?_
  by_cases hs:c.2=qdh .u32 n 65535
  .rw[if_pos hs]at hI;refine Sb hs ?_;simp[vZ,hI]
  .rw[if_neg hs]at hI;refine Sb (zzA hs hw) ?_;refine ih (j+1) ⟨hlt,hI⟩ Ab _ _ (Wk.mk _ _ [] ?_ ?_ ?_ rfl)
   .rw[hT];simp[vw,qa,hTc]
   .trivial
   .simp
 .have hj':j=8:=Ab
  subst hj';have hlt':¬(((8:Nat):Int)<8):=Af
  refine Sb hlt' ?_;rw[hI];simp[vZ,jr,wU]
def knA(n:Int):Bool:=decide (wU (qdh .u32 n 65535) jr≠[])
def qgX(a:Nat):IFn:=irJ 57 [105,a]
def qI9{g:Nat}(hc:Ck P f (qgX g))(hg:∀n,qc P g [.w n] (.s (wU (qdh .u32 n 65535) jr)))(n:Int):qc P f [.w n] (.b (knA n)):=by
 refine Al ?_;simp only[qgX,vI,simprocAttr];refine Ac ?_;refine(hg n).sc ?_;unfold knA;generalize wU (qdh .u32 n 65535) jr=s
 by_cases h:s=[] <;>
 .refine Sb h ?_;simp[vZ,h]
def qcK(t:GTest):Bool:=decide (0<=t.arg)&&decide (t.arg<6)&&decide (qdh .u64 t.val t.mask=0)&&knA t.act
def qiZ(a:Nat):IFn:=irJ 107 [57,a]
def qLk{g:Nat}(hg:∀n,qc P g [.w n] (.b (knA n)))(hc:Ck P f (qiZ g))(t:GTest):qc P f [.agg (xg t)] (.b (qcK t)):=by
 refine Al ?_;simp only[qiZ,xg,vI,simprocAttr]
 by_cases k1:0<=t.arg
 .by_cases k2:t.arg<6
  .by_cases k3:qdh .u64 t.val t.mask=0
   .refine Sb (zzA k1 (zzA k2 k3)) ?_;refine(hg t.act).sc ?_;refine Ac ?_;simp[vZ,qcK,k1,k2,k3]
   .refine Sb (zzA k1 (zzA k2 k3)) ?_;simp[vZ,qcK,k3]
  .refine Sb (zzA k1 k2) ?_;simp[vZ,qcK,k2]
 .refine Sb k1 ?_;simp[vZ,qcK,k1]
def qg7(a:Nat):IFn:=irJ 106 [107,a]
def qIt{g:Nat}(hc:Ck P f (qg7 g))(hg:∀t,qc P g [.agg (xg t)] (.b (qcK t)))(t:GTest):qc P f [.agg (xg t)] (.b (!qcK t)):=by
 refine Al ?_;simp only[qg7,xg,vI,simprocAttr];refine Ac ?_;refine(hg t).sc ?_;refine Ac ?_;simp[vZ]
def jp:IFn:=irJ 119 []
def qtn(hc:Ck P f jp):qcN 4 P f:=by
 intro α enc p g a c l hlen ha hc' hl hp;refine Cv ?_;simp only[jp,vI,simprocAttr];refine Ac ?_;refine SL.loop (α:=Nat) (λj=>[(0,.fz l.length (l.flatMap enc)),(1,.fn g a c),(7,.j l.length),(8,.j j)]) (λ_=>[]) (λj=>j<=l.length/\zL p l 0=zL p (l.drop j) j) (λj=>l.length-j) 0 [] ?_ ?_ ?_ rfl ?_ ?_
 .exact Dw
 .trivial
 .simp
 .simp
 rintro j ⟨hj,hI⟩ G ih;refine Ak ?_
 by_cases hlt:j<l.length
 .have hx:l[j]?=some l[j]:=Ae
  have hw:IntKind.wrap .i64 ((j:Int)+1)=(j:Int)+1:=qC Ab (by have:=hl;simp only[qe]at this;exact Ab)
  have he:=qS hlen hx;have hb:j*4+4<=(l.flatMap enc).length:=by rw[qY hlen];exact Ab
  rw[zzf hlt,zL]at hI;refine Dr ?_;refine(hp l[j] Ae).sc ?_
  by_cases hpx:p l[j]=true
  .exact A9
  .rw[if_neg hpx]at hI;refine Sb (zzA hpx hw) ?_;refine ih (j+1) ⟨Ab,hI⟩ Ab _ _ (Wk.mk _ _ [] ?_ ?_ ?_ rfl)
   .exact Dw
   .trivial
   .simp
 .refine Sb hlt ?_;rw[zzk Ab]at hI;simp[hI,zL,vZ]
def jo:IFn:=irJ 108 []
def qtm(hc:Ck P f jo):qcN 3 P f:=by
 intro α enc p g a c l hlen ha hc' hl hp;refine Cv ?_;simp only[jo,vI,simprocAttr];refine Ac ?_;refine SL.loop (α:=Nat) (λj=>[(0,.fz l.length (l.flatMap enc)),(1,.fn g a c),(7,.j l.length),(8,.j j)]) (λ_=>[]) (λj=>j<=l.length/\zL p l 0=zL p (l.drop j) j) (λj=>l.length-j) 0 [] ?_ ?_ ?_ rfl ?_ ?_
 .exact Dw
 .trivial
 .simp
 .simp
 rintro j ⟨hj,hI⟩ G ih;refine Ak ?_
 by_cases hlt:j<l.length
 .have hx:l[j]?=some l[j]:=zzE hlt;have hw:IntKind.wrap .i64 ((j:Int)+1)=(j:Int)+1:=qC Ab (by have:=hl;simp only[qe]at this;exact Ab)
  have he:=qS hlen hx;have hb:j*3+3<=(l.flatMap enc).length:=by rw[qY hlen];exact Ab
  rw[zzf hlt,zL]at hI;refine Dr ?_;refine(hp l[j] (List.getElem_mem hlt)).sc ?_
  by_cases hpx:p l[j]=true
  .exact A9
  .rw[if_neg hpx]at hI;refine Sb (zzA hpx hw) ?_;refine ih (j+1) ⟨Ab,hI⟩ Ab _ _ (Wk.mk _ _ [] ?_ ?_ ?_ rfl)
   .exact Dw
   .trivial
   .simp
 .refine Sb hlt ?_;rw[zzk Ab]at hI;simp[hI,zL,vZ]
def qpa(p:GTest->Bool)(l:List GTest):AV:=match l.find? p with|some t=>.tup [.agg (xg t),.b true]|none=>.tup [.agg [.j 0,.x 0,.x 0,.w 0],.b false]
def qdq(a:Nat):IFn:=irJ 67 [119,a]
def qFE{g:Nat}(hc:Ck P f (qdq g))(h2:qcN 4 P g)(l:List GTest)(k:Nat)(a c:List AV)(p:GTest->Bool)(ha:qt a=true)(hcc:qt c=true)(hk:∀t ∈ l,qc P k (a++([.agg (xg t)]++c)) (.b (p t)))(hl:l.length<=100000):qc P f [.fz l.length (rT l),.fn k a c] (qpa p l):=by
 refine qc.mk hc (by simp[qt,clo,zt,ha,hcc]) ?_;simp only[qdq,vI,simprocAttr];refine Ac ?_;refine(h2 xg p k a c l qed ha hcc (by simp only[qe];exact Ab) hk).sc ?_;rcases qit p l 0 with⟨e1,e2⟩|⟨i,x,e1,e2,e3,e4,e5⟩
 .rw[e1];refine Ac ?_;simp[vZ,qpa,e2]
 .have hi:i<l.length:=Ag
  have hn:(0:Int)<=(i:Int):=Ab
  have he:=qpS e2;have hb:=qry hi;rw[e1,Nat.zero_add];simp only[↓vS,vT,simprocAttr,hn,hi,he,hb,xg];simp[vZ,qpa,e4,xg]
def qcJ(r:GRule):Bool:=decide (r.tests.length<=32)&&r.tests.all qcK&&knA r.act
def qxI{α:Type}(p:α->Bool)(l:List α):(l.find? λt=>!p t).isSome = !l.all p:=Ag
def qiY(a b c:Nat):IFn:=irJ 58 [67,a,106,b,57,c]
def qLj{g1 g2 g3:Nat}(hc:Ck P f (qiY g1 g2 g3))(h1:∀(l:List GTest) (k:Nat) (a c:List AV) (p:GTest->Bool),qt a=true->qt c=true->(∀t ∈ l,qc P k (a++([.agg (xg t)]++c)) (.b (p t)))->l.length<=100000->qc P g1 [.fz l.length (rT l),.fn k a c] (qpa p l))
  (h2:∀t,qc P g2 [.agg (xg t)] (.b (!qcK t))) (h3:∀n,qc P g3 [.w n] (.b (knA n))) (r:GRule) (hl:r.tests.length<=100000):qc P f [.agg (zn r)] (.b (qcJ r)):=by
 refine Al ?_;simp only[qiY,zn,vI,simprocAttr];refine Ac ?_;refine(h1 r.tests g2 [] [] (λt=>!qcK t) rfl rfl (λt _=>h2 t) hl).sc ?_
 have hf:=qxI qcK r.tests
 have fin:∀odd:Bool,odd = !r.tests.all qcK->(decide (r.tests.length<=32) && !odd&&knA r.act)=qcJ r:=by
  rintro odd rfl;simp[qcJ]
 unfold qpa;cases hq:r.tests.find? (λt=>!qcK t)with
 | none =>
  rw[hq]at hf;have fin:=fin false hf
  by_cases k1:r.tests.length<=32
  .have k1':((r.tests.length:Int)<=32)=True:=eq_true Ab;refine Sb k1' ?_;refine(h3 r.act).sc ?_;refine Ac ?_;simp[vZ,<- fin,k1]
  .have k1':((r.tests.length:Int)<=32)=False:=eq_false Ab;refine Sb k1' ?_;simp[vZ,<- fin,k1]
 | some t =>
  rw[hq]at hf;have fin:=fin true hf
  by_cases k1:r.tests.length<=32
  .have k1':((r.tests.length:Int)<=32)=True:=eq_true Ab;exact Jg
  .have k1':((r.tests.length:Int)<=32)=False:=eq_false Ab;exact Jg
def upR:Option GRule->List GRule->Bool
 | _,[]=>true
 | o,r::l=>qcJ r&&(o.elim true λb=>decide (b.nr<r.nr))&&upR (some r) l
def wZ(x:GFil):Bool:=decide (0<=x.arch)&&decide (x.arch<6)&&decide (x.rules.length<=400)&&knA x.dflt&&upR none x.rules
def qou(a b:Nat):IFn:=irJ 22 [57,a,58,b]
def qMD{g1 g2:Nat}(hc:Ck P f (qou g1 g2))(h1:∀n,qc P g1 [.w n] (.b (knA n)))(h2:∀r:GRule,r.tests.length<=100000->qc P g2 [.agg (zn r)] (.b (qcJ r)))(x:GFil)(hl:x.rules.length<=100000)(ht:∀r ∈ x.rules,r.tests.length<=100000):qc P f [.agg (ze x)] (.b (wZ x)):=by
 refine Al ?_;simp only[qou,ze,vI,simprocAttr]
 by_cases k1:x.arch<0
 .have hw:wZ x=false:=by simp only[wZ,decide_eq_false (Ab:¬0<=x.arch)];simp
  refine Sb k1 ?_;simp[vZ,hw]
 by_cases k2:6<=x.arch
 .have hw:wZ x=false:=by simp only[wZ,decide_eq_false (Ab:¬x.arch<6)];simp
  refine Sb (zzA k1 k2) ?_;simp[vZ,hw]
 by_cases k3:(400:Int)<x.rules.length
 .have hw:wZ x=false:=by simp only[wZ,decide_eq_false (Ab:¬x.rules.length<=400)];simp
  refine Sb (zzA k1 (zzA k2 k3)) ?_;simp[vZ,hw]
 refine Sb (zzA k1 (zzA k2 k3)) ?_;refine(h1 x.dflt).sc ?_;cases k4:knA x.dflt with
 | false =>
  have hw:wZ x=false:=by simp[wZ,k4]
  refine Ac ?_;simp[vZ,hw]
 | true =>
  have hw:wZ x=upR none x.rules:=by
   unfold wZ;rw[k4,decide_eq_true (Ab:0<=x.arch),decide_eq_true (Ab:x.arch<6),decide_eq_true (Ab:x.rules.length<=400)];rfl
  rw[hw];refine Ac ?_
  refine SL.loop (α:=Nat) (λj=>[(1,.ptr 0 0),(26,.fz x.rules.length (rR x.rules)),(27,.j x.rules.length),(28,.j j)]) (λ_=>[.v (ze x)])
   (λj=>j<=x.rules.length/\upR none x.rules=upR (if j=0 then none else x.rules[j-1]?) (x.rules.drop j)) (λj=>x.rules.length-j) 0 [0] ?_ ?_ ?_ rfl ?_ ?_
  .simp[vw,qu]
  .simp[vw,ze,qu]
  .simp
  .exact Ae
  rintro j ⟨hj,hI⟩ G ih;simp only[vI,simprocAttr,ze]
  by_cases hlt:j<x.rules.length
  .have hx:x.rules[j]?=some x.rules[j]:=Ae
   have he:=qmq hx;have hb:=qrw hlt;have hw:=wS j;have htl:=ht _ (List.getElem_mem hlt);rw[zzf hlt,upR]at hI;generalize hc0:x.rules[j]=r at hI he hx htl;simp only[↓vS,vT,simprocAttr,hlt,hb,he,zn];refine qX ?_;refine Ac ?_;refine(h2 r htl).pc ?_;cases hk:qcJ r with
   | false =>
    have hwf:upR none x.rules=false:=by rw[hI];exact Ag
    refine Ac ?_;simp[vZ,hwf]
   | true =>
    by_cases h0:j=0
    .subst h0;have hn:¬(0:Int)<((0:Nat):Int):=Af
     refine Sb (zzA hn hw) ?_;refine ih 1 ⟨Ab,?_⟩ Ab _ _ (Wk.mk _ _ [0] ?_ ?_ ?_ rfl)
     .rw[hI,hk];exact Ag
     .simp[vw,qu]
      exact Ae
     .simp[vw,ze,qu]
     .simp
    .have hp:(0:Int)<(j:Int):=Ab
     have hpl:j-1<x.rules.length:=Ab
     have hy:x.rules[j-1]?=some x.rules[j-1]:=Ae
     have hw2:IntKind.wrap .i64 ((j:Int)-1)=((j-1:Nat):Int):=by rw[qC Ab Ab];exact Ab
     have g0:(rR x.rules)[(j-1)*3]?=some (.w x.rules[j-1].nr):=qpQ hy (i:=0) Af;rw[if_neg h0,hy]at hI
     by_cases hlt2:r.nr<=x.rules[j-1].nr
     .have hwf:upR none x.rules=false:=by rw[hI];exact Ag
      exact Ic
     .simp only[↓vS,vT,simprocAttr,hp,hw2,hpl,g0,hlt2,hw];refine ih (j+1) ⟨Ab,?_⟩ Ab _ _ (Wk.mk _ _ [0] ?_ ?_ ?_ rfl)
      .rw[hI,hk];exact Ae
      .simp[vw,qu]
      .simp[vw,ze,qu]
      .simp
  .rw[List.drop_of_length_le Ab,upR]at hI;exact Ft
instance:DecidableEq GCall:=λa b=>if h:a.name=b.name/\a.act=b.act then isTrue (by obtain⟨h1,h2⟩:=h;cases a;cases b;exact Ae)else isFalse (by rintro rfl;exact h ⟨rfl,rfl⟩)
structure GData where
 nr:Int
 arch:Int
 ip:Int
 a0:Int
 a1:Int
 a2:Int
 a3:Int
 a4:Int
 a5:Int
def qq(d:GData):List AV:=[.w d.nr,.w d.arch,.x d.ip,.x d.a0,.x d.a1,.x d.a2,.x d.a3,.x d.a4,.x d.a5]
def qmy(d:GData)(k:Int):Int:=if k=0 then d.a0 else if k=1 then d.a1 else if k=2 then d.a2 else if k=3 then d.a3 else if k=4 then d.a4 else d.a5
def qr0(p:GRule->Bool)(l:List GRule):AV:=match l.find? p with|some r=>.tup [.agg (zn r),.b true]|none=>.tup [.agg [.w 0,.nils,.w 0],.b false]
def qdp(a:Nat):IFn:=irJ 59 [108,a]
def qFD{g:Nat}(hc:Ck P f (qdp g))(h2:qcN 3 P g)(l:List GRule)(k:Nat)(a c:List AV)(p:GRule->Bool)(ha:qt a=true)(hcc:qt c=true)(hk:∀t ∈ l,qc P k (a++([.agg (zn t)]++c)) (.b (p t)))(hl:l.length<=100000):qc P f [.fz l.length (rR l),.fn k a c] (qr0 p l):=by
 refine qc.mk hc (by simp[qt,clo,qu,ha,hcc]) ?_;simp only[qdp,vI,simprocAttr];refine Ac ?_;refine(h2 zn p k a c l qbJ ha hcc (by simp only[qe];exact Ab) hk).sc ?_;rcases qit p l 0 with⟨e1,e2⟩|⟨i,x,e1,e2,e3,e4,e5⟩
 .rw[e1];refine Ac ?_;simp[vZ,qr0,e2]
 .have hi:i<l.length:=(zzS.1 e2).1;have hn:(0:Int)<=(i:Int):=Ab
  have he:=qmq e2;have hb:=qrw hi;rw[e1,Nat.zero_add];simp only[↓vS,vT,simprocAttr,hn,hi,he,hb,zn];simp[vZ,qr0,e4,zn,qP zt]
def qj3:IFn:=irJ 118 []
def qM2(hc:Ck P f qj3)(t:Int)(x:List UInt8×Int):qc P f [.agg (xb .u32 x),.pf [.w t] 0] (.b (decide (x.2=t))):=by
 refine qc.mk hc (by simp[qt,clo,xb]) ?_;simp only[qj3,xb,vI,simprocAttr];exact Cu
def ofM(t n:Int):Int×Bool :=
 if zL (λx=>decide (x.2=t)) zf 0<0 then(0,false)
 else if zL (λx=>decide (x.2=t)) zf 0=0/\xA .u32 n 1073741824≠0 then(2,true)
 else(zL (λx=>decide (x.2=t)) zf 0,true)
def qm1(a b:Nat):IFn:=irJ 65 [118,a,117,b]
def qLm{g1 g2:Nat}(hc:Ck P f (qm1 g1 g2))(h1:∀t x,qc P g1 [.agg (xb .u32 x),.pf [.w t] 0] (.b (decide (x.2=t))))(h2:qob P g2)(t n:Int):qc P f [.w t,.w n] (.tup [.j (ofM t n).1,.b (ofM t n).2]):=by
 refine qc.mk hc Ea ?_;simp only[qm1,vI,simprocAttr];refine Ac ?_;refine(h2 (λx=>decide (x.2=t)) g1 [] [.pf [.w t] 0] rfl rfl (λx _=>h1 t x)).lend (vs':=[.fn g1 [] [.pf [.w t] 0]]) ?_ rfl ?_
 .exact Fg
 unfold ofM;generalize zL (λx:List UInt8×Int=>decide (x.2=t)) zf 0=i
 by_cases h0:i<0
 .simp only[↓vS,vT,simprocAttr,h0,if_true];simp[vZ]
 by_cases h1':i=0
 .by_cases h2':xA .u32 n 1073741824=0
  .refine Sa (zzA h0 (zzA h1' h2')) ?_;simp[vZ]
  .refine Sa (zzA h0 (zzA h1' h2')) ?_;simp[vZ,h2']
 .refine Sa (zzA h0 h1') ?_;simp[vZ]
def qeb(a:Int):Int:=(zf.getD a.toNat ([],0)).2
def qiO(a:Nat):IFn:=irJ 178 [184,a]
def qHN{g:Nat}(hc:Ck P f (qiO g))(hg:qc P g [] (.agg (zf.flatMap (xb .u32))))(a:Int)(h0:0<=a)(h6:a<6):qc P f [.j a] (.tup [.w (qeb a),.j 0]):=by
 refine Al ?_;simp only[qiO,vI,simprocAttr];have n1:¬a<0:=Ab
 have n2:¬6<=a:=Ab
 refine Sb (zzA n1 n2) ?_;refine hg.sc ?_;have h3:a=0\/a=1\/a=2\/a=3\/a=4\/a=5:=Ab
 rcases h3 with rfl|rfl|rfl|rfl|rfl|rfl <;>
 .refine H2 ?_;simp[vZ,qeb,zf]
def xr(t:GTest)(d:GData):Bool:=decide (0<=t.arg)&&decide (t.arg<6)&&decide (xA .u64 (qmy d t.arg) t.mask=t.val)
def qlD:IFn:=irJ 69 []
def qFR(hc:Ck P f qlD)(t:GTest)(d:GData):qc P f [.agg (xg t),.agg (qq d)] (.b (xr t d)):=by
 refine Al ?_;simp only[qlD,xg,qq,vI,simprocAttr]
 by_cases h0:0<=t.arg
 .by_cases h6:t.arg<6
  .have h3:t.arg=0\/t.arg=1\/t.arg=2\/t.arg=3\/t.arg=4\/t.arg=5:=Ab
   exact Fc
  .refine Sb (zzA h0 h6) ?_;refine qX ?_;refine Sb (zzA h0 h6) ?_;simp[vZ,xr,h6]
 .exact Iu
def qhN:IFn:=irJ 66 []
def qJI(hc:Ck P f qhN)(d:GData)(r:GRule):qc P f [.agg (zn r),.pf (qq d) 0] (.b (decide (r.nr=d.nr))):=by
 refine qc.mk hc (by simp[qt,clo,zn,qq]) ?_;simp only[qhN,zn,qq,vI,simprocAttr];exact Cu
def qhO(a:Nat):IFn:=irJ 68 [69,a]
def qJJ{g:Nat}(hc:Ck P f (qhO g))(hg:∀t d,qc P g [.agg (xg t),.agg (qq d)] (.b (xr t d)))(d:GData)(t:GTest):qc P f [.agg (xg t),.pf (qq d) 0] (.b (xr t d)):=by
 refine qc.mk hc (by simp[qt,clo,xg,qq]) ?_;have:=hg t d;simp only[qhO,xg,qq,vI,simprocAttr]at this ⊢;refine Aa ?_;refine this.sc ?_;exact Cu
def qd8(x:GFil)(d:GData):Int :=
 if(ofM d.arch d.nr).2=false\/(ofM d.arch d.nr).1≠x.arch then 2147418112
 else match x.rules.find? (λr=>decide (r.nr=d.nr))with
  | none=>x.dflt
  | some r=>match r.tests.find? (λt=>xr t d)with
   | some t=>t.act
   | none=>r.act
def qdM(a b c d e:Nat):ICode:=icJ 28 [65,a,66,b,59,c,68,d,67,e] 7
def qkc(a b c d e:Nat):IFn:=irJ 28 [65,a,66,b,59,c,68,d,67,e] [7] [qdM a b c d e]
section
variable {g1 g2 g3 g4 g5:Nat}
def quS(h2:∀d r,qc P g2 [.agg (zn r),.pf (qq d) 0] (.b (decide (r.nr=d.nr))))
  (h3:∀(l:List GRule) (k:Nat) (a c:List AV) (p:GRule->Bool),qt a=true->qt c=true->(∀t ∈ l,qc P k (a++([.agg (zn t)]++c)) (.b (p t)))->l.length<=100000->qc P g3 [.fz l.length (rR l),.fn k a c] (qr0 p l))
  (h4:∀d t,qc P g4 [.agg (xg t),.pf (qq d) 0] (.b (xr t d)))
  (h5:∀(l:List GTest) (k:Nat) (a c:List AV) (p:GTest->Bool),qt a=true->qt c=true->(∀t ∈ l,qc P k (a++([.agg (xg t)]++c)) (.b (p t)))->l.length<=100000->qc P g5 [.fz l.length (rT l),.fn k a c] (qpa p l))
  (x:GFil) (d:GData) (hr:x.rules.length<=100000) (ht:∀r ∈ x.rules,r.tests.length<=100000) {t':Tr AV}{h':Hp}(hw:Wk 0 t' h' (mkT [(2,.ptr 0 0),(3,.pf (qq d) 0)]) (mkH 0 [.v (ze x)])) :
  S P 0 (qdM g1 g2 g3 g4 g5) (zQ [.tmp 4] λv' h'=>Frz h' v' (.w (match x.rules.find? (λr=>decide (r.nr=d.nr))with
   | none=>x.dflt
   | some r=>match r.tests.find? (λt=>xr t d)with
    | some t=>t.act
    | none=>r.act))) t' h':=by
 refine Ay ?_;have hcd:qt [AV.pf (qq d) 0]=true:=by simp[qt,clo,qq]
 have a3:=h3 x.rules g2 [] [.pf (qq d) 0] (λr=>decide (r.nr=d.nr)) rfl hcd (λr _=>h2 d r) hr
 simp only[qdM,ze,vI,simprocAttr];refine Ac ?_;refine a3.sc ?_;cases hf:x.rules.find? (λr=>decide (r.nr=d.nr))with
 | none =>
  simp +decide only[↓vS,vT,simprocAttr,qr0,hf];simp[vZ]
 | some r =>
  have hm:r ∈ x.rules:=List.mem_of_find?_eq_some hf;have a5:=h5 r.tests g4 [] [.pf (qq d) 0] (λt=>xr t d) rfl hcd (λt _=>h4 d t) (ht r hm)
  simp +decide only[↓vS,vT,simprocAttr,qr0,hf,zn];refine a5.sc ?_;cases hg:r.tests.find? (λt=>xr t d)with
  | none =>
   simp +decide only[↓vS,vT,simprocAttr,qpa,hg];simp[vZ,hg]
  | some t =>
   simp +decide only[↓vS,vT,simprocAttr,qpa,hg,xg];simp[vZ,hg]
def qDJ(hc:Ck P f (qkc g1 g2 g3 g4 g5))(h1:∀t n,qc P g1 [.w t,.w n] (.tup [.j (ofM t n).1,.b (ofM t n).2]))
  (h2:∀d r,qc P g2 [.agg (zn r),.pf (qq d) 0] (.b (decide (r.nr=d.nr))))
  (h3:∀(l:List GRule) (k:Nat) (a c:List AV) (p:GRule->Bool),qt a=true->qt c=true->(∀t ∈ l,qc P k (a++([.agg (zn t)]++c)) (.b (p t)))->l.length<=100000->qc P g3 [.fz l.length (rR l),.fn k a c] (qr0 p l))
  (h4:∀d t,qc P g4 [.agg (xg t),.pf (qq d) 0] (.b (xr t d)))
  (h5:∀(l:List GTest) (k:Nat) (a c:List AV) (p:GTest->Bool),qt a=true->qt c=true->(∀t ∈ l,qc P k (a++([.agg (xg t)]++c)) (.b (p t)))->l.length<=100000->qc P g5 [.fz l.length (rT l),.fn k a c] (qpa p l))
  (x:GFil) (d:GData) (hr:x.rules.length<=100000) (ht:∀r ∈ x.rules,r.tests.length<=100000):qc P f [.agg (ze x),.agg (qq d)] (.w (qd8 x d)):=by
 refine Al ?_;simp only[qkc,ze,qq,vI,simprocAttr];refine Ac ?_;refine(h1 d.arch d.nr).sc ?_;unfold qd8;cases ho:(ofM d.arch d.nr).2 with
 | false =>
  refine Sa ho ?_;simp[vZ]
 | true =>
  by_cases ha:(ofM d.arch d.nr).1=x.arch
  .refine Sa (zzA ho ha) ?_;rw[if_neg (by simp[ha])];refine S.weak (Wk.mk [(2,.ptr 0 0),(3,.ptr 1 0)] [.v (ze x),.v (qq d)] [0,1] ?_ ?_ ?_ rfl) ?_
   .simp[vw]
   .simp[vw,ze,qq,qa,qu]
    try exact ha
   .simp
   refine S.weak (Wk.freeze 1 1 0 rfl (by simp[qt,clo,qq]) (zzu _) (by simp)) ?_;refine quS h2 h3 h4 h5 x d hr ht (Wk.mk _ _ [0] ?_ ?_ ?_ rfl)
   .simp[vw,mkT,fzv,qhl,qq]
   .simp[vw,mkH,trL,fzB,qhl,fzv,ze,qa,qu]
   .simp[mkH]
  .refine Sa (zzA ho ha) ?_;simp[vZ,ha]
end
end
section
def fnd(q:GTest->Bool)(y:Int)(l:List GTest):Int:=match l.find? q with|some t=>t.act|none=>y
theorem qjV(q:GTest->Bool)(y:Int):fnd q y []=y:=rfl
theorem qdm(q:GTest->Bool)(y:Int)(t:GTest)(l:List GTest):fnd q y (t::l)=if q t=true then t.act else fnd q y l:=by
 unfold fnd;rw[List.find?_cons];cases q t<;>rfl
def idxS:List Nat:=[25,27,30,17,29,7,28,26]
end
section
variable {P:Program}{f:Nat}
def wR(x:Int×List UInt8×Int):List AV:=[.h x.1,.s x.2.1,.y x.2.2]
def qig(x:Int×List UInt8×Int):(wR x).length=3:=rfl
def vf:List (Int×List UInt8×Int):=[(32,[108,100,97,98,115],1),(128,[108,100,108,101,110],1),(0,[108,100,105],1),(96,[108,100,109],1),(129,[108,100,120,108,101,110],1),(1,[108,100,120,105],1),(97,[108,100,120,109],1),(2,[115,116],2),(3,[115,116,120],2),(4,[97,100,100],3),(20,[115,117,98],3),(36,[109,117,108],3),(52,[100,105,118],3),(68,[111,114],3),(84,[97,110,100],3),(100,[108,115,104],3),(116,[114,115,104],3),(164,[120,111,114],3),(12,[97,100,100,120],3),(28,[115,117,98,120],3),(44,[109,117,108,120],3),(60,[100,105,118,120],3),(76,[111,114,120],3),(92,[97,110,100,120],3),(108,[108,115,104,120],3),(124,[114,115,104,120],3),(172,[120,111,114,120],3),(132,[110,101,103],3),(5,[106,97],4),(21,[106,101,113],4),(37,[106,103,116],4),(53,[106,103,101],4),(69,[106,115,101,116],4),(29,[106,101,113,120],4),(45,[106,103,116,120],4),(61,[106,103,101,120],4),(77,[106,115,101,116,120],4),(6,[114,101,116],5),(22,[114,101,116,97],5),(7,[116,97,120],6),(135,[116,120,97],6)]
def qbi:List (Int×List UInt8×Int):=[(32,[108,100,97,98,115],1),(128,[108,100,108,101,110],1),(0,[108,100,105],1),(96,[108,100,109],1),(129,[108,100,120,108,101,110],1),(1,[108,100,120,105],1),(97,[108,100,120,109],1),(2,[115,116],2),(3,[115,116,120],2),(132,[110,101,103],3),(5,[106,97],4),(6,[114,101,116],5),(22,[114,101,116,97],5),(7,[116,97,120],6),(135,[116,120,97],6),(4,[97,100,100],3),(12,[97,100,100,120],3),(20,[115,117,98],3),(28,[115,117,98,120],3),(36,[109,117,108],3),(44,[109,117,108,120],3),(52,[100,105,118],3),(60,[100,105,118,120],3),(68,[111,114],3),(76,[111,114,120],3),(84,[97,110,100],3),(92,[97,110,100,120],3),(100,[108,115,104],3),(108,[108,115,104,120],3),(116,[114,115,104],3),(124,[114,115,104,120],3),(164,[120,111,114],3),(172,[120,111,114,120],3),(21,[106,101,113],4),(29,[106,101,113,120],4),(37,[106,103,116],4),(45,[106,103,116,120],4),(53,[106,103,101],4),(61,[106,103,101,120],4),(69,[106,115,101,116],4),(77,[106,115,101,116,120],4)]
def zE:List AV:=[.h 0,.s [],.y 0]
def qM(c:Int):Option (Int×List UInt8×Int):=vf.find? λx=>decide (x.1=c)
def xj:Option (Int×List UInt8×Int)->List AV
 | some x=>wR x
 | none=>zE
def ql(c:Int):Int:=(qM c).elim 0 λx=>x.2.2
def zI(c:Int):Bool:=(qM c).isSome
def qg6:IFn:=irJ 279 []
def qDL(hc:Ck P f qg6):qc P f [] (.agg (vf.flatMap wR)):=by
 refine Al ?_;simp only[qg6,vI,simprocAttr];simp only[↓vS,vT,simprocAttr,vf,wR,zzv,List.flatMap_nil,vZ]
def qkb(a:Nat):IFn:=irJ 228 [279,a]
def qIk{e:Nat}(hc:Ck P f (qkb e))(he:qc P e [] (.agg (vf.flatMap wR))){g:Nat}{a c:List AV}(ha:qt a=true)(hcc:qt c=true)(p:Int×List UInt8×Int->Bool)(hp:∀x ∈ vf,qc P g (a++([.agg (wR x)]++c)) (.b (p x))) :
  qc P f [.fn g a c] (.tup [.agg (xj (vf.find? p)),.b (vf.find? p).isSome]):=by
 refine qc.mk hc If ?_;simp only[qkb,vI,simprocAttr];refine Ac ?_;refine he.sc ?_;refine Ac ?_;have hlen:(vf.flatMap wR).length=123:=by rw[qY (m:=3) qig];rfl
 have hTc:qt (vf.flatMap wR)=true:=rfl;refine SL.loop (α:=Nat) (λj=>[(0,.fn g a c),(2,.ptr 0 0),(6,.agg (vf.flatMap wR)),(7,.j j)]) (λ_=>[.v zE]) (λj=>j<=41/\vf.find? p=(vf.drop j).find? p) (λj=>41-j) 0 [0] ?_ ?_ ?_ rfl ?_ ?_
 .generalize vf.flatMap wR=T at hTc;simp[vw,qa,hTc,ha,hcc]
 .simp[vw,zE]
 .simp
 .exact Ae
 rintro j ⟨hj,hI⟩ G ih;refine Ak ?_
 by_cases hlt:j<41
 .have hlt':(j:Int)<41:=Ab
  have hjl:j<vf.length:=hlt;have hx:vf[j]?=some vf[j]:=Ae
  have hw:=wS j;have hel:=qS (f:=wR) (m:=3) qig hx;have hb:j*3+3<=(vf.flatMap wR).length:=Ab
  have hpx:=hp _ (List.getElem_mem hjl);rw[zzf hjl,List.find?_cons]at hI;generalize hc0:vf[j]=x at hel hI hpx;generalize hT:vf.flatMap wR=T at hel hb hlen hTc;simp only[wR]at hpx;simp only[↓vS,vT,simprocAttr,hlt',hlt,hel,hb,wR,zE];refine hpx.sc ?_;cases hs:p x with
  | true =>
   rw[hs]at hI;refine Aa ?_;rw[hI];simp[vZ,xj,wR]
  | false =>
   rw[hs]at hI;refine Sa hw ?_;refine ih (j+1) ⟨hlt,hI⟩ Ab _ _ (Wk.mk _ _ [0] ?_ ?_ ?_ rfl)
   .rw[hT];simp[vw,qa,hTc,ha,hcc]
   .simp[vw,zE]
   .simp
 .have hj':j=41:=Ab
  subst hj';have hlt':¬(((41:Nat):Int)<41):=Af
  have hI':vf.find? p=none:=hI;clear ih;generalize vf.flatMap wR=T;exact He
def qka:IFn:=irJ 229 []
def qJ1(hc:Ck P f qka)(x:Int×List UInt8×Int)(n:Int):qc P f [.agg (wR x),.pf [.h n] 0] (.b (decide (x.1=n))):=by
 refine qc.mk hc (by simp[qt,clo,wR]) ?_;simp only[qka,wR,vI,simprocAttr];exact Cu
def qm3(a b:Nat):IFn:=irJ 170 [229,a,228,b]
def qLf{g1 g2:Nat}(hc:Ck P f (qm3 g1 g2))(h1:∀x n,qc P g1 [.agg (wR x),.pf [.h n] 0] (.b (decide (x.1=n))))(h2:∀(g:Nat) (a c:List AV),qt a=true->qt c=true->∀p:Int×List UInt8×Int->Bool,(∀x ∈ vf,qc P g (a++([.agg (wR x)]++c)) (.b (p x)))->qc P g2 [.fn g a c] (.tup [.agg (xj (vf.find? p)),.b (vf.find? p).isSome]))(n:Int) :
  qc P f [.h n] (.tup [.agg (xj (qM n)),.b (zI n)]):=by
 refine Al ?_;have h:=h2 g1 [] [.pf [.h n] 0] rfl rfl (λx=>decide (x.1=n)) (λx _=>h1 x n)
 unfold zI qM;have hce:qt (xj (vf.find? λx=>decide (x.1=n)))=true/\(xj (vf.find? λx=>decide (x.1=n))).length=3:=by cases vf.find? λx=>decide (x.1=n)<;>exact⟨rfl,rfl⟩
 generalize(vf.find? λx=>decide (x.1=n))=o at h hce ⊢
 simp only[qm3,vI,simprocAttr];refine Ac ?_;refine(h.lend (vs':=[.fn g1 [] [.pf [.h n] 0]]) ?_ ?_ ?_)
 .exact Fg
 .cases o<;>rfl
 cases o with
 | none =>
  exact Df
 | some x =>
  simp +decide only[↓vS,vT,simprocAttr,xj,wR];simp[vZ]
def qm2(a:Nat):IFn:=irJ 112 [170,a]
def qLe{g:Nat}(hc:Ck P f (qm2 g))(hg:∀n,qc P g [.h n] (.tup [.agg (xj (qM n)),.b (zI n)]))(n:Int):qc P f [.h n] (.y (ql n)):=by
 refine Al ?_;have h:=hg n;unfold zI at h;simp only[qm2,vI,simprocAttr];refine Ac ?_;exact B9
def qiW(a:Nat):IFn:=irJ 236 [170,a]
def qFS{g:Nat}(hc:Ck P f (qiW g))(hg:∀n,qc P g [.h n] (.tup [.agg (xj (qM n)),.b (zI n)]))(n:Int):qc P f [.h n] (.b (zI n)):=by
 refine Al ?_;have h:=hg n;unfold zI at h;simp only[qiW,vI,simprocAttr];refine Ac ?_;exact B9
def quL(c:Int):(qbi.find? λx=>decide (x.1=c))=qM c:=by
 unfold qM
 by_cases h:c ∈ vf.map (·.1)
 .have key:∀c ∈ vf.map (·.1),(qbi.find? λx=>decide (x.1=c))=vf.find? λx=>decide (x.1=c):=Af
  exact key c h
 .have h2:c ∉ qbi.map (·.1):=by
   have key:∀c ∈ qbi.map (·.1),c ∈ vf.map (·.1):=Af
   exact λhh=>h (key c hh)
  rw[List.find?_eq_none.2,List.find?_eq_none.2]
  .intro x hx;simp only[zzb];exact λe=>h (zzl.2 ⟨x,hx,e⟩)
  .intro x hx;simp only[zzb];exact λe=>h2 (zzl.2 ⟨x,hx,e⟩)
def qdr(a:Nat):IFn:=irJ 82 [141,a]
def qM1{g:Nat}(hc:Ck P f (qdr g))(hg:qc P g [] (.fz 41 (qbi.flatMap wR)))(n:Int):qc P f [.h n] (.agg (xj (qM n))):=by
 refine Al ?_;rw[<- quL];simp only[qdr,vI,simprocAttr];refine Ac ?_;refine hg.sc ?_;refine Ac ?_;have hlen:(qbi.flatMap wR).length=123:=by rw[qY (m:=3) qig];rfl
 have hTc:qt (qbi.flatMap wR)=true:=rfl;refine SL.loop (α:=Nat) (λj=>[(0,.h n),(2,.ptr 0 0),(3,.fz 41 (qbi.flatMap wR)),(4,.j j)]) (λ_=>[.v zE]) (λj=>j<=41/\(qbi.find? λx=>decide (x.1=n))=(qbi.drop j).find? λx=>decide (x.1=n)) (λj=>41-j) 0 [0] ?_ ?_ ?_ rfl ?_ ?_
 .generalize qbi.flatMap wR=T at hTc;simp[vw,qa,hTc]
 .simp[vw,zE]
 .simp
 .exact⟨zzu _,rfl⟩
 rintro j ⟨hj,hI⟩ G ih;refine Ak ?_
 by_cases hlt:j<41
 .have hlt':(j:Int)<41:=Ab
  have hjl:j<qbi.length:=hlt;have hx:qbi[j]?=some qbi[j]:=zzE hjl;have hw:=wS j;have hel:=qS (f:=wR) (m:=3) qig hx;have g0:(qbi.flatMap wR)[j*3]?=some (.h qbi[j].1):=zq (f:=wR) (m:=3) qig hx (i:=0) Af;have hb:j*3+3<=(qbi.flatMap wR).length:=Ab
  rw[zzf hjl,List.find?_cons]at hI;generalize hc0:qbi[j]=x at hel hI g0;generalize hT:qbi.flatMap wR=T at hel hb hlen hTc g0
  by_cases hs:x.1=n
  .have hd:decide (x.1=n)=true:=decide_eq_true hs;rw[hd]at hI;simp +decide only[↓vS,vT,simprocAttr,hlt',hlt,g0,hel,hb,wR,zE,hs];rw[hI];simp[vZ,xj,wR,hs]
  .have hd:decide (x.1=n)=false:=decide_eq_false hs;rw[hd]at hI;simp +decide only[↓vS,vT,simprocAttr,hlt',hlt,g0,hs,hw,zE];refine ih (j+1) ⟨hlt,hI⟩ Ab _ _ (Wk.mk _ _ [0] ?_ ?_ ?_ rfl)
   .rw[hT];simp[vw,qa,hTc]
   .simp[vw,zE]
   .simp
 .have hj':j=41:=Ab
  subst hj';have hlt':¬(((41:Nat):Int)<41):=Af
  have hI':(qbi.find? λx=>decide (x.1=n))=none:=hI
  clear ih;generalize qbi.flatMap wR=T;exact He
def leM:List Int->Int
 | []=>0
 | x::l=>x+256*leM l
def qbo(b:List Int):Prop:=∀x ∈ b,0<=x/\x<=255
def qtr:∀(l:List Int) (x:Int),leM (l++[x])=leM l+256 ^ l.length*x
 | [],x=>by simp[leM]
 | y::l,x=>by
  simp only[zzC,leM,qtr l x,zze,Int.pow_succ,Int.mul_add];have:256*(256 ^ l.length*x)=256 ^ l.length*256*x:=by rw[<- Int.mul_assoc,Int.mul_comm 256]
  rw[this];exact Ab
def qk6:∀{l:List Int},qbo l->0<=leM l/\leM l<256 ^ l.length
 | [],_=>by simp[leM]
 | x::l,h=>by
  have h1:=qk6 (l:=l) λy hy=>h y Ag
  have h2:=h x (by simp);simp only[leM,zze,Int.pow_succ];exact Ab
def qqr{b:List Int}(h:qbo b)(n:Nat):qbo (b.take n):=λx hx=>h x Ag
def qqq{b:List Int}(h:qbo b)(n:Nat):qbo (b.drop n):=λx hx=>h x Ag
def qCx{q:IntKind}(hq:q = .u16\/q = .u32){x c:Int}{i:Nat}(hi:8*(i+1)<=q.bits)(hx0:0<=x)(hx:x<256 ^ i)(hc0:0<=c)(hc:c<=255):orI q x (qpY q (q.wrap c) (8*(i:Int)))=x+256 ^ i*c:=by
 obtain⟨a,rfl⟩:∃a:Nat,x=a:=⟨x.toNat,Ab⟩
 obtain⟨d,rfl⟩:∃d:Nat,c=d:=⟨c.toNat,Ab⟩
 have e256:∀i:Nat,(256:Int) ^ i=((2 ^ (8*i):Nat):Int):=λi=>by
  rw[Nat.pow_mul];simp
 rw[e256]at hx ⊢;have ha:a<2 ^ (8*i):=Ab
 have hle:2 ^ (8*(i+1))<=2 ^ q.bits:=Nat.pow_le_pow_right Af hi
 have hd:d*2 ^ (8*i)+a<2 ^ q.bits:=by
  have h1:d*2 ^ (8*i)<=255*2 ^ (8*i):=Nat.mul_le_mul_right _ Ab;have h2:2 ^ (8*(i+1))=256*2 ^ (8*i):=by rw[Nat.mul_add,Nat.pow_add,Nat.mul_comm]
  exact Ab
 have hpos:0<2 ^ (8*i):=Ab
 have hor:(2 ^ (8*i)*d ||| a)=2 ^ (8*i)*d+a:=(Nat.two_pow_add_eq_or_of_lt ha d).symm
 have hd2:d*2 ^ (8*i)<2 ^ q.bits:=Ab
 rcases hq with rfl|rfl
 .have hb:(2:Nat) ^ IntKind.u16.bits=65536:=Af
  rw[hb]at hd hd2;have h8:i<=1:=by simp only[IntKind.bits]at hi;exact Ab
  have w1:IntKind.wrap .u16 (d:Int)=d:=by
   show((d:Int) % 65536)=d;exact Ab
  have w2:qpY .u16 (d:Int) (8*(i:Int))=((d*2 ^ (8*i):Nat):Int):=by
   rcases(Ab:i=0\/i=1)with rfl|rfl
   .show IntKind.wrap .u16 _=_;simp[p2,IntKind.wrap,IntKind.bits,IntKind.signed];exact Ab
   .show IntKind.wrap .u16 _=_;simp[p2,IntKind.wrap,IntKind.bits,IntKind.signed]at hd2 ⊢;exact Ab
  rw[w1,w2];show IntKind.wrap .u16 (((BitVec.ofInt 16 (a:Int) ||| BitVec.ofInt 16 ((d*2 ^ (8*i):Nat):Int)).toNat:Nat):Int)=_
  have e1:(BitVec.ofInt 16 (a:Int)).toNat=a:=by rw[BitVec.toNat_ofInt];exact Ab
  have e2:(BitVec.ofInt 16 ((d*2 ^ (8*i):Nat):Int)).toNat=d*2 ^ (8*i):=by rw[BitVec.toNat_ofInt];exact Ab
  rw[BitVec.toNat_or,e1,e2,Nat.or_comm,Nat.mul_comm d,hor];rw[Nat.mul_comm]at hd;show((2 ^ (8*i)*d+a:Nat):Int) % 65536=_;rw[Int.emod_eq_of_lt Ab Ab];exact Ab
 .have hb:(2:Nat) ^ IntKind.u32.bits=4294967296:=Af
  rw[hb]at hd hd2;have h8:i<=3:=by simp only[IntKind.bits]at hi;exact Ab
  have w1:IntKind.wrap .u32 (d:Int)=d:=by
   show((d:Int) % 4294967296)=d;exact Ab
  have w2:qpY .u32 (d:Int) (8*(i:Int))=((d*2 ^ (8*i):Nat):Int):=by
   rcases(Ab:i=0\/i=1\/i=2\/i=3)with rfl|rfl|rfl|rfl <;>
   .show IntKind.wrap .u32 _=_;simp[p2,IntKind.wrap,IntKind.bits,IntKind.signed]at hd2 ⊢;exact Ab
  rw[w1,w2];show IntKind.wrap .u32 (((BitVec.ofInt 32 (a:Int) ||| BitVec.ofInt 32 ((d*2 ^ (8*i):Nat):Int)).toNat:Nat):Int)=_
  have e1:(BitVec.ofInt 32 (a:Int)).toNat=a:=by rw[BitVec.toNat_ofInt];exact Ab
  have e2:(BitVec.ofInt 32 ((d*2 ^ (8*i):Nat):Int)).toNat=d*2 ^ (8*i):=by rw[BitVec.toNat_ofInt];exact Ab
  rw[BitVec.toNat_or,e1,e2,Nat.or_comm,Nat.mul_comm d,hor];rw[Nat.mul_comm]at hd;show((2 ^ (8*i)*d+a:Nat):Int) % 4294967296=_;rw[Int.emod_eq_of_lt Ab Ab];exact Ab
def rB(b:List Int):List AV:=rI .u8 b
def qnq(b:List Int):(rB b).length=b.length:=xv
def wG(b:List Int):qt (rB b)=true:=qd
def qzx(b:List Int)(j:Nat):(rB b)[j]?=(b[j]?).map (.i .u8):=xl
def qcx(b:List Int)(at' n:Nat):List Int:=(b.drop at').take n
def qrM{b:List Int}{at' n:Nat}(h:at'+n<=b.length):(qcx b at' n).length=n:=by unfold qcx;exact Ag
def qv8{b:List Int}{at' j:Nat}{c:Int}(h:b[at'+j]?=some c):qcx b at' (j+1)=qcx b at' j++[c]:=by
 unfold qcx;rw[zz2,zzp,h];rfl
def qv9{b:List Int}{at' n:Nat}{c:Int}(h:b[at']?=some c):qcx b at' (n+1)=c::qcx b (at'+1) n:=by
 unfold qcx
 exact A6
def qt7{b:List Int}(h:qbo b)(at' n:Nat):qbo (qcx b at' n):=qqr (qqq h at') n
def qu8(b:List Int)(at':Nat):AV:=if at'+2<=b.length then .tup [.h (leM (qcx b at' 2)),.b true]else .tup [.h 0,.b false]
def qd1:IFn:=irJ 147 []
def qMs(hc:Ck P f qd1)(b:List Int)(hb:qbo b)(hl:b.length<=2000000)(at':Nat)(ha:at'<=2000000):qc P f [.fz b.length (rB b),.j at',.j 2] (qu8 b at'):=by
 refine qc.mk hc Jh ?_;have hn:¬(at':Int)<0:=Ab
 have hw0:IntKind.wrap .i64 ((b.length:Int)-2)=(b.length:Int)-2:=B6
 unfold qu8;simp only[qd1,vI,simprocAttr]
 by_cases h:at'+2<=b.length
 .have h':¬(b.length:Int)-2<(at':Int):=Ab
  rw[if_pos h];refine Sa (zzA hn (zzA h' hw0)) ?_;refine SL.loop (α:=Nat) (λj=>[(0,.fz b.length (rB b)),(1,.j at'),(8,.h (leM (qcx b at' j))),(20,.j 2),(21,.j j)]) (λ_=>[]) (λj=>j<=2) (λj=>2-j) 0 [] ?_ ?_ ?_ rfl ?_ ?_
  .simp[vw,wG,qcx,leM]
  .trivial
  .simp
  .exact Ab
  rintro j hj G ih;refine Ak ?_
  by_cases hlt:j<2
  .have hlt':(j:Int)<2:=Ab
   have hjl:at'+j<b.length:=Ab
   obtain⟨c,hcx⟩:∃c,b[at'+j]?=some c:=⟨_,zzE hjl⟩;have hcb:=hb c Ag;have hw:=wS j;have hw2:IntKind.wrap .i64 ((at':Int)+(j:Int))=((at'+j:Nat):Int):=by rw[qC Ab Ab];exact Ab
   have hw3:IntKind.wrap .i64 (8*(j:Int))=8*(j:Int):=B6
   have h8:(0:Int)<=8*(j:Int):=Ab
   have hbd:=qk6 (qt7 hb at' j);have hsl:(qcx b at' j).length=j:=qrM Ab;rw[hsl]at hbd;have hor:=qCx (q:=.u16) (by simp) (i:=j) (x:=leM (qcx b at' j)) (c:=c) (by simp only[IntKind.bits];exact Ab) hbd.1 hbd.2 hcb.1 hcb.2;have hnx:leM (qcx b at' (j+1))=leM (qcx b at' j)+256 ^ j*c:=by rw[qv8 hcx,qtr,hsl]
   have ih2:=ih (j+1);rw[hnx]at ih2;simp +decide only[↓vS,vT,simprocAttr,hlt',hw2,hjl,zzU,qzx,hcx,zza,hw3,h8,hor,hw];refine ih2 Ab Ab _ _ (Wk.mk _ _ [] ?_ ?_ ?_ rfl)
   .simp[vw,wG]
   .trivial
   .simp
  .have hlt':¬(j:Int)<2:=Ab
   obtain rfl:j=2:=Ab
   clear ih;refine Sa hlt' ?_;simp[vZ]
 .have h':(b.length:Int)-2<(at':Int):=Ab
  rw[if_neg h];refine Sa (zzA hn (zzA h' hw0)) ?_;simp[vZ]
def qh4(a:Nat):IFn:=irJ 91 [147,a]
def qMr{g:Nat}(hc:Ck P f (qh4 g))(hg:∀(b:List Int),qbo b->b.length<=2000000->∀at':Nat,at'<=2000000->qc P g [.fz b.length (rB b),.j at',.j 2] (qu8 b at'))(b:List Int)(hb:qbo b)(hl:b.length<=2000000)(at':Nat)(ha:at'<=2000000):qc P f [.fz b.length (rB b),.j at'] (qu8 b at'):=by
 refine qc.mk hc Jh ?_;have h:=hg b hb hl at' ha;unfold qu8 at h ⊢;simp only[qh4,vI,simprocAttr];refine Ac ?_;refine h.sc ?_;split
 .refine Aa ?_;simp[vZ]
 .refine Aa ?_;simp[vZ]
def qBC(b:List Int)(at' n:Nat):AV:=if at'+n<=b.length then .tup [.x (leM (qcx b at' n)),.b true]else .tup [.x 0,.b false]
def qcA:IFn:=irJ 277 []
def qMB(hc:Ck P f qcA)(b:List Int)(hb:qbo b)(hl:b.length<=2000000)(at':Nat)(ha:at'<=2000000)(n:Nat)(hn8:n<=7):qc P f [.fz b.length (rB b),.j at',.j n] (qBC b at' n):=by
 refine qc.mk hc Jh ?_;have hn:¬(at':Int)<0:=Ab
 have hw0:IntKind.wrap .i64 ((b.length:Int)-(n:Int))=(b.length:Int)-n:=B6
 have hw1:IntKind.wrap .i64 ((n:Int)-1)=(n:Int)-1:=B6
 unfold qBC;simp only[qcA,vI,simprocAttr]
 by_cases h:at'+n<=b.length
 .have h1:¬(b.length:Int)<(n:Int):=Ab
  have h':¬(b.length:Int)-n<(at':Int):=Ab
  rw[if_pos h];refine Sa (zzA hn (zzA h1 (zzA h' (zzA hw0 hw1)))) ?_;refine SL.loop (α:=Nat) (λr=>[(0,.fz b.length (rB b)),(1,.j at'),(8,.x (leM (qcx b (at'+r) (n-r)))),(9,.j ((r:Int)-1))]) (λ_=>[]) (λr=>r<=n) (λr=>r) n [] ?_ ?_ ?_ rfl ?_ ?_
  .simp[vw,wG,qcx,leM]
  .trivial
  .simp
  .exact Ab
  rintro r hr G ih;refine Ak ?_
  by_cases hr0:r=0
  .subst hr0;clear ih;refine Aa ?_;simp[vZ]
  .obtain⟨j,rfl⟩:∃j,r=j+1:=⟨r-1,Ab⟩
   have hge:(0:Int)<=((j+1:Nat):Int)-1:=Ab
   have hgel:¬((j+1:Nat):Int)-1<0:=Ab
   have hjl:at'+j<b.length:=Ab
   obtain⟨c,hcx⟩:∃c,b[at'+j]?=some c:=⟨_,zzE hjl⟩;have hcb:=hb c Ag;have hw2:IntKind.wrap .i64 ((at':Int)+(((j+1:Nat):Int)-1))=((at'+j:Nat):Int):=by rw[qC Ab Ab];exact Ab
   have hw3:IntKind.wrap .i64 ((((j+1:Nat):Int)-1)-1)=(j:Int)-1:=by rw[qC Ab Ab];exact Ab
   have hp:qcx b (at'+j) (n-j)=c::qcx b (at'+(j+1)) (n-(j+1)):=by
    have:n-j=(n-(j+1))+1:=Ab
    rw[this,qv9 hcx];rfl
   have hbd:=qk6 (qt7 hb (at'+(j+1)) (n-(j+1)));have hsl:(qcx b (at'+(j+1)) (n-(j+1))).length=n-(j+1):=qrM Ab;rw[hsl]at hbd
   have hpw:(256:Int) ^ (n-(j+1))<=256 ^ 6:=by
    have:(256:Nat) ^ (n-(j+1))<=256 ^ 6:=Nat.pow_le_pow_right Af Ab;have h2:=Int.ofNat_le.2 this;rw[Int.natCast_pow,Int.natCast_pow]at h2;exact h2
   have h6:(256:Int) ^ 6=281474976710656:=Af
   rw[h6]at hpw;have hx:leM (qcx b (at'+j) (n-j))=leM (qcx b (at'+(j+1)) (n-(j+1)))*256+c:=by rw[hp];simp only[leM];exact Ab
   have ih2:=ih j;rw[hx]at ih2;generalize leM (qcx b (at'+(j+1)) (n-(j+1)))=x at hbd ih2 ⊢;have hw4:IntKind.wrap .u64 (x*256)=x*256:=Eq
   have hw5:IntKind.wrap .u64 c=c:=Eq
   have hw6:IntKind.wrap .u64 (x*256+c)=x*256+c:=Eq
   simp only[↓vS,vT,simprocAttr,hgel,hge,hw2,hjl,zzU,qzx,hcx,zza,hw3,hw4,hw5,hw6];refine ih2 Ab Ab _ _ (Wk.mk _ _ [] ?_ ?_ ?_ rfl)
   .simp[vw,wG]
   .trivial
   .simp
 .rw[if_neg h]
  by_cases h1:(b.length:Int)<(n:Int)
  .refine Sa (zzA hn h1) ?_;simp[vZ]
  .have h':(b.length:Int)-n<(at':Int):=Ab
   refine Sa (zzA hn (zzA h1 (zzA h' hw0))) ?_;simp[vZ]
structure Ins where
 code:Int
 jt:Int
 jf:Int
 k:Int
def qD(i:Ins):List AV:=[.h i.code,.y i.jt,.y i.jf,.w i.k]
def xf(i:Ins):(qD i).length=4:=rfl
def qLA(P:Program)(g:Nat):Prop:=∀(b:List Int),qbo b->b.length<=2000000->∀at':Nat,at'<=2000000->qc P g [.fz b.length (rB b),.j at'] (qu8 b at')
def qJt(P:Program)(g:Nat):Prop:=∀(b:List Int),qbo b->b.length<=2000000->∀at':Nat,at'<=2000000->∀n:Nat,n<=7->qc P g [.fz b.length (rB b),.j at',.j n] (qBC b at' n)
def rP(p:List Ins):List AV:=p.flatMap qD
def qdS(p:List Ins):(rP p).length=p.length*4:=qY xf p
theorem qo(p:List Ins):qt (rP p)=true:=jk (λ_=>rfl)
def qHv{h:Hp}{esz n a c:Nat}{q q2 q3:IntKind}{cs:List AV}{k:AV->Prop}(h1:a<c)(h2:c<=n)(h3:c*esz<=cs.length):slK esz (some (.i q (a:Int))) (some (.i q2 (c:Int))) (some (.i q3 (c:Int))) (.fz n cs) h k↔evA (.fz (c-a) ((cs.drop (a*esz)).take ((c-a)*esz))) k:=by
 have hne:Nat.beq c a=false:=by
  grind[Nat.eq_of_beq_eq_true]
 have e1:a*esz<=cs.length:=zzg (Nat.mul_le_mul_right _ Ab) h3
 have e2:(c-a)*esz<=(cs.drop (a*esz)).length:=by
  rw[List.length_drop,Nat.sub_mul];exact Ab
 have hac:a<=c:=Ab
 simp only[slK,ql8,qsW];show(ifK (c<=n) (ifK (c<=c) (ifK (a<=c) _)))↔_;simp only[ifK,h2,hac,zzL,true_and,Option.isSome_some,hne,Bool.true_and,Bool.false_eq_true,if_false];show(a*esz<=cs.length/\(c-a)*esz<=(cs.drop (a*esz)).length/\_)↔_;simp only[e1,e2,true_and];exact Bt
def qj1{sz fl:Nat}{tr:Tr Blk}{x:Blk}:Hp.push ⟨sz,fl,tr⟩ x=⟨sz+1,fl,tr.set sz x⟩:=rfl
def qeM{r:Loop}(h:r.state = .ready)(h2:r.pending=none):rdy r=r:=by cases r;simp_all [rdy]
def qsP(x:BitVec 16):IntKind.wrap .u16 (x.toNat:Int)=(x.toNat:Int):=by
 have:=x.isLt;show((x.toNat:Int)) % 65536=_;exact Ab
def qiy(x:BitVec 16):BitVec.ofInt 16 (x.toNat:Int)=x:=by simp
def qKA(x y:BitVec 16):orI .u16 (x.toNat:Int) (y.toNat:Int)=((x ||| y).toNat:Int):=by
 show IntKind.wrap .u16 ((BitVec.ofInt 16 (x.toNat:Int) ||| BitVec.ofInt 16 (y.toNat:Int)).toNat:Int)=_
 rw[qiy,qiy,qsP]
def qDt(x y:BitVec 16):xA .u16 (x.toNat:Int) (y.toNat:Int)=((x &&& y).toNat:Int):=by
 show IntKind.wrap .u16 ((BitVec.ofInt 16 (x.toNat:Int) &&& BitVec.ofInt 16 (y.toNat:Int)).toNat:Int)=_;rw[qiy,qiy,qsP]
def qDG(x y:BitVec 16):qdh .u16 (x.toNat:Int) (y.toNat:Int)=((x &&& ~~~ y).toNat:Int):=by
 show IntKind.wrap .u16 ((BitVec.ofInt 16 (x.toNat:Int) &&& ~~~ (BitVec.ofInt 16 (y.toNat:Int))).toNat:Int)=_;rw[qiy,qiy,qsP]
def cell(k:Int):BitVec 16:=1#16 <<< k.toNat
def qt2{k:Int}(h0:0<=k)(h:k<16):qpY .u16 1 k=((cell k).toNat:Int):=by
 have key:∀n:Fin 16,qpY .u16 1 (n.val:Int)=((cell (n.val:Int)).toNat:Int):=Af
 have:=key ⟨k.toNat,Ab⟩
 exact Ag
structure InsOk (i:Ins):Prop where
 c0:0<=i.code
 c1:i.code<=65535
 t0:0<=i.jt
 t1:i.jt<=255
 f0:0<=i.jf
 f1:i.jf<=255
 k0:0<=i.k
 k1:i.k<=4294967295
def cOf(P:Program)(g:Nat):Prop:=∀n,qc P g [.h n] (.y (ql n))
def wrM(i:Ins):BitVec 16:=if ql i.code=2/\i.k<16 then cell i.k else 0#16
def rdM(i:Ins):BitVec 16:=if(i.code=96\/i.code=97)/\i.k<16 then cell i.k else 0#16
def qg3(a:Nat):IFn:=irJ 244 [112,a]
def qEp{g:Nat}(hc:Ck P f (qg3 g))(hg:cOf P g)(i:Ins)(hi:InsOk i):qc P f [.agg (qD i)] (.h ((wrM i).toNat:Int)):=by
 refine qc.mk hc (by rfl) ?_;have h0:=hi.k0;unfold wrM;simp only[qg3,qD,vI,simprocAttr];refine Aa ?_;refine(hg _).sc ?_
 by_cases h2:ql i.code=2
 .by_cases hk:i.k<16
  .have hk':¬16<=i.k:=Ab
   rw[if_pos ⟨h2,hk⟩];simp +decide only[↓vS,vT,simprocAttr,h2,hk,hk',h0,qt2 h0 hk];simp[vZ]
  .have hk':16<=i.k:=Ab
   rw[if_neg (λh=>hk h.2)]
   refine Sa (zzA h2 (zzA hk hk')) ?_;simp[vZ]
 .rw[if_neg (λh=>h2 h.1)]
  refine Sa h2 ?_;simp[vZ]
def qhJ:IFn:=irJ 183 []
def qHk(hc:Ck P f qhJ)(i:Ins)(hi:InsOk i):qc P f [.agg (qD i)] (.h ((rdM i).toNat:Int)):=by
 refine qc.mk hc (by rfl) ?_;have h0:=hi.k0;unfold rdM;simp only[qhJ,qD,vI,simprocAttr]
 by_cases hk:i.k<16
 .have hk':¬16<=i.k:=Ab
  by_cases h1:i.code=96
  .rw[if_pos ⟨.inl h1,hk⟩];simp +decide only[↓vS,vT,simprocAttr,h1,hk',h0,qt2 h0 hk];simp[vZ]
  .by_cases h2:i.code=97
   .rw[if_pos ⟨.inr h2,hk⟩];simp +decide only[↓vS,vT,simprocAttr,h2,hk',h0,qt2 h0 hk];simp[vZ]
   .rw[if_neg Ab];exact Dv
 .have hk':16<=i.k:=Ab
  rw[if_neg (λh=>hk h.2)]
  by_cases h1:i.code=96
  .refine Sa (zzA h1 hk') ?_;simp[vZ]
  .by_cases h2:i.code=97
   .refine Sa (zzA h2 hk') ?_;simp[vZ]
   .exact Dv
def rW(s:List (BitVec 16)):List AV:=s.map λx=>.h (x.toNat:Int)
def rTt(r:List Bool):List AV:=r.map .b
def qpT{s:List (BitVec 16)}:(rW s).length=s.length:=by simp[rW]
def qgP{s:List Bool}:(rTt s).length=s.length:=by simp[rTt]
def qN{s:List (BitVec 16)}:qt (rW s)=true:=qdg λ_=>rfl
def qA{s:List Bool}:qt (rTt s)=true:=qdg λ_=>rfl
def qjy{s:List (BitVec 16)}{j:Nat}:(rW s)[j]?=(s[j]?).map λx=>.h (x.toNat:Int):=by simp[rW]
def vt{s:List Bool}{j:Nat}:(rTt s)[j]?=(s[j]?).map .b:=by simp[rTt]
def qtx{α:Type}{F:α->AV}{L:List α}{j:Nat}(h:j<L.length)(x:α):(L.map F).take j++(F x::(L.map F).drop (j+1))=(L.set j x).map F:=by
 rw[<- List.map_take,<- List.map_drop,<- zz3,<- List.map_append,List.set_eq_take_append_cons_drop,if_pos h]
def qzG{s:List (BitVec 16)}{j:Nat}(h:j<s.length)(x:BitVec 16):(rW s).take j++(.h (x.toNat:Int)::(rW s).drop (j+1))=rW (s.set j x):=qtx h x
def qkt{s:List Bool}{j:Nat}(h:j<s.length)(x:Bool):(rTt s).take j++(.b x::(rTt s).drop (j+1))=rTt (s.set j x):=qtx h x
def qdj(s:List (BitVec 16))(r:List Bool)(j:Nat)(x:BitVec 16):List (BitVec 16):=s.set j (if r.getD j false=true then s.getD j 0 &&& x else x)
def qhy(nv:List AV)(s:List (BitVec 16))(r:List Bool):List Blk:=[.v (rW s),.v (rTt r),.v [.sl 0 0 s.length s.length false],.v [.sl 1 0 s.length s.length false]]
def qg2:IFn:=irJ 242 []
def qJD(hc:Ck P f qg2)(s:List (BitVec 16))(r:List Bool)(hr:r.length=s.length)(j:Nat)(hj:j<s.length)(x:BitVec 16) :
  Upd P f [.j j,.h (x.toNat:Int),.ptr 3 0,.ptr 2 0] (qhy [] s r) (.tup []) (qhy [] (qdj s r j x) (r.set j true)):=by
 refine Upd.mk hc (by simp[jF,bnd,qhy]) (by simp[qhy]) ?_;have hjr:j<r.length:=Ab
 obtain⟨y,hy⟩:∃y,s[j]?=some y:=⟨_,zzE hj⟩;obtain⟨b,hb⟩:∃b,r[j]?=some b:=⟨_,zzE hjr⟩;have hl1:j+1<=(rTt r).length:=by rw[qgP];exact Ab
 have hl2:∀s':List (BitVec 16),s'.length=s.length->j+1<=(rW s').length:=λs' h=>by rw[qpT];exact Ab
 have hb1:∀y:Bool,List.take j (rTt r)++(AV.b y::List.drop (j+1) (rTt r))=rTt (r.set j y):=λy=>qkt hjr y
 have hb2:∀(s':List (BitVec 16)) (y:BitVec 16),s'.length=s.length->List.take j (rW s')++(AV.h (y.toNat:Int)::List.drop (j+1) (rW s'))=rW (s'.set j y):=λs' y h=>qzG Ab y
 have hc0:=hl2 s rfl;have hc1:=hb2 s (y &&& x) rfl;have hd0:=hl2 (s.set j 65535#16) (by simp);have hd1:=hb2 s 65535#16 rfl;have hd2:=hb2 (s.set j 65535#16) x (by simp);rw[show(((65535#16).toNat:Nat):Int)=65535 from rfl]at hd1
 have hy2:(s.set j 65535#16)[j]?=some 65535#16:=by rw[List.getElem?_set_self Ab]
 have hand:xA .u16 65535 (x.toNat:Int)=(x.toNat:Int):=by
  rw[show(65535:Int)=((65535#16).toNat:Int)from rfl,qDt,show(65535#16:BitVec 16)=BitVec.allOnes 16 from rfl,BitVec.allOnes_and]
 have ht3:(65535#16).toNat=65535:=rfl;simp only[qg2,qhy,qdj,zzs,hy,hb,Option.getD_some,vI,simprocAttr];cases b with
 | true =>
  simp +decide only[↓vS,vT,simprocAttr,zzU,qjy,vt,hy,hb,zza,hl1,hb1,hc0,hc1,qDt,hj];intro _;refine⟨[0,1,2,3],?_⟩;simp[vw,qa,qN,qA];exact Af
 | false =>
  simp +decide only[↓vS,vT,simprocAttr,zzU,qjy,vt,hy,hb,zza,hl1,hb1,hc0,hd0,hd1,hy2,hand,hd2,hj];intro _;refine⟨[0,1,2,3],?_⟩;simp[vw,qa,qN,qA];exact Af
def rNt(l:List Nat):List AV:=l.map λn:Nat=>.j (n:Int)
def qiB{l:List Nat}:(rNt l).length=l.length:=by simp[rNt]
def qF{l:List Nat}:qt (rNt l)=true:=qdg λ_=>rfl
def qmp{l:List Nat}{j:Nat}:(rNt l)[j]?=(l[j]?).map λn:Nat=>.j (n:Int):=by simp[rNt]
def qmo{l m:List Nat}:rNt l++rNt m=rNt (l++m):=by simp[rNt]
def qlq(i:Ins)(x:BitVec 16)(at':Nat)(l:List Nat):List Nat:=if rdM i &&& ~~~ x=0#16 then l else l++[at']
def qe4(a:Nat):IFn:=irJ 182 [183,a]
def qIQ{g:Nat}(hc:Ck P f (qe4 g))(hg:∀i,InsOk i->qc P g [.agg (qD i)] (.h ((rdM i).toNat:Int)))(p:List Ins)(hp:p.length<=4096)(l:List Nat)(hl:l.length<=4096)(j:Nat)(i:Ins)(hj:p[j]?=some i)(hi:InsOk i)(x:BitVec 16) :
  Upd P f [.j j,.h (x.toNat:Int),.ptr 0 0,.ptr 1 0] [.v [.fz p.length (rP p)],.v [.own 2 l.length],.cells 1 true true (rNt l)] (.tup [])
   [.v [.fz p.length (rP p)],.v [.own 3 (qlq i x j l).length],.dead,.cells 1 true true (rNt (qlq i x j l))]:=by
 refine Upd.mkd hc (by simp[jF,bnd,qy (qo p)]) (by simp) ?_
 have hjl:j<p.length:=Ag
 have hel:=qS (f:=qD) (m:=4) xf hj;rw[show p.flatMap qD=rP p from rfl]at hel
 have h4:j*4+4<=(rP p).length:=by rw[qdS];exact Ab
 have hr1:l.length+1<=qe:=by simp only[qe];exact Ab
 have hr2:(l.length+1)*8<=qe:=by simp only[qe];exact Ab
 have hap:rNt l++[.j (j:Int)]=rNt (l++[j]):=Ip
 have hll:(rNt l).length=l.length:=qiB;simp only[qe4,vI,simprocAttr];refine Sa (zzA hjl (zzA hel h4)) ?_;refine(hg i hi).sc ?_;unfold qlq
 by_cases h0:rdM i &&& ~~~ x=0#16
 .have h0':(((rdM i &&& ~~~ x).toNat:Nat):Int)=0:=by rw[h0];rfl
  rw[if_pos h0];refine Sa (zzA @qDG h0') ?_;intro _;refine⟨[0,1,2,2],?_⟩;simp[vw,qa,qo,qF,xF,rl]
  exact Ag
 .have h0':¬(((rdM i &&& ~~~ x).toNat:Nat):Int)=0:=λh=>h0 (by
   have:(rdM i &&& ~~~ x).toNat=0:=Ab
   exact BitVec.eq_of_toNat_eq this)
  rw[if_neg h0];simp +decide only[↓vS,vT,simprocAttr,qDG,h0',zzU,hr1,hr2,hll,hap];intro _;refine⟨[0,1,2,4],?_⟩;simp[vw,qa,qo,qF,xF,rl]
  exact Ag
def qW:IFn:=irJ 284 []
def qxk(hc:Ck P f qW):qc P f [.nils] .nils:=by
 refine Al ?_;simp only[qW,vI,simprocAttr];refine Aa ?_;simp[vZ]
def qqC(hc:Ck P f qW)(x:Int):Upd P f [.sl 0 0 1 1 false] [.v [.j x]] (.sl 0 0 1 1 false) [.v [.j x]]:=by
 refine Upd.mk hc (by simp[jF,bnd]) (by simp) ?_;simp only[qW,vI,simprocAttr];refine Aa ?_;intro _;refine⟨[0],?_⟩;simp[vw,qa]
def qqD(hc:Ck P f qW)(x y:Int):Upd P f [.sl 0 0 2 2 false] [.v [.j x,.j y]] (.sl 0 0 (if x=y then 1 else 2) 2 false) [.v [.j x,.j (if x=y then 0 else y)]]:=by
 refine Upd.mk hc (by simp[jF,bnd]) (by simp) ?_;simp only[qW,vI,simprocAttr];refine Aa ?_;refine SL.loopn (α:=Nat) (λk=>[(0,.sl 0 0 2 2 false),(3,.j (k:Int))]) (λ_=>[.v [.j x,.j y]]) (λk=>k=1\/k=2/\x≠y) (λk=>2-k) 1 [0] ?_ ?_ ?_ rfl ?_ ?_ ?_ ?_
 .simp[vw]
 .simp[vw]
 .simp
 .simp
 .intro b hb;obtain rfl:b=0:=Ab
  rfl
 .exact Ab
 rintro k hk G ih;have hw0:IntKind.wrap .i64 0=0:=rfl;have hw1:IntKind.wrap .i64 1=1:=rfl;have hw2:IntKind.wrap .i64 2=2:=rfl;refine Ak ?_;rcases hk with rfl|⟨rfl,hne⟩
 .by_cases h:x=y
  .subst h;refine Aa ?_;refine qX ?_;refine Sa hw0 ?_;refine SL.loopn (α:=Unit) (λ_=>[(0,.sl 0 0 2 2 false),(3,.j 1),(4,.sl 0 1 1 1 false),(5,.j 1)]) (λ_=>[.v [.j x,.j x]]) (λ_=>True) (λ_=>0) () [0] ?_ ?_ ?_ rfl ?_ ?_ ?_ ?_
   .simp[vw]
   .simp[vw]
   .simp
   .simp
   .intro b hb;obtain rfl:b=0:=Ab
    rfl
   .trivial
   rintro _ _ G2 _;refine Ak ?_;refine Aa ?_;intro _;refine⟨[0],?_⟩;simp[vw,qa]
  .have h':¬y=x:=λe=>h e.symm
   refine Aa ?_;refine qX ?_;refine Sa (zzA h' (zzA hw0 (zzA hw1 hw2))) ?_;refine ih 2 (.inr ⟨rfl,h⟩) Af _ _ (Wk.mkn _ _ [0] ?_ ?_ ?_ rfl ?_ ?_)
   .simp[vw]
   .simp[vw]
   .simp
   .simp
   .intro b hb;obtain rfl:b=0:=Ab
    rfl
 .simp +decide only[↓vS,vT,simprocAttr,hne,if_false];intro _;refine⟨[0],?_⟩;simp[vw,qa,hne]
def loM(i:Ins):Int:=if i.jf<i.jt then i.jf else i.jt
def hiM(i:Ins):Int:=if i.jt<i.jf then i.jf else i.jt
def wJ(i:Ins)(at':Nat):List Nat :=
 if ql i.code=0\/ql i.code=5 then []
 else if ql i.code=4 then(if i.code=5 then [at'+1+i.k.toNat]else if loM i=hiM i then [at'+1+(loM i).toNat]else [at'+1+(loM i).toNat,at'+1+(hiM i).toNat])
 else [at'+1]
def goM(n:Nat)(x:BitVec 16):List Nat->List (BitVec 16)×List Bool->List (BitVec 16)×List Bool
 | [],st=>st
 | m::L,st=>if m<n then goM n x L (qdj st.1 st.2 m x,st.2.set m true)else st
def qxV{n:Nat}{x:BitVec 16}{m:Nat}{L:List Nat}{st:List (BitVec 16)×List Bool}:goM n x (m::L) st=if m<n then goM n x L (qdj st.1 st.2 m x,st.2.set m true)else st:=rfl
theorem qti{n:Nat}{x:BitVec 16}:∀(L:List Nat) (st:List (BitVec 16)×List Bool),(goM n x L st).1.length=st.1.length/\(goM n x L st).2.length=st.2.length
 | [],_=>⟨rfl,rfl⟩
 | m::L,st=>by
  unfold goM;split
  .have:=qti (n:=n) (x:=x) L (qdj st.1 st.2 m x,st.2.set m true);simpa[qdj]using this
  exact Ab
def wkB(p:List Ins)(gc:Nat)(l:List Nat)(st:List (BitVec 16)×List Bool):List Blk:=[.v [.fz p.length (rP p)],.v [.own 2 l.length],.cells 1 true true (rNt l),.v (rW st.1),.v (rTt st.2),.v [.sl 3 0 st.1.length st.1.length false],.v [.sl 4 0 st.1.length st.1.length false],.v [.fn gc [] [.ptr 6 0,.ptr 5 0]]]
def wI(p:List Ins)(gc:Nat)(l:List Nat)(st:List (BitVec 16)×List Bool)(j:Nat)(i:Ins):List Blk:=wkB p gc l st++[.v [.j (j:Int)],.v (qD i)]
def qfR(gv:Nat):AV:=.fn gv [] [.ptr 0 0,.ptr 1 0]
def qkP(gw:Nat)(p:List Ins)(j:Nat)(i:Ins):AV:=.fn gw [] [.pf (qD i) 0,.pf [.j (j:Int)] 0,.pf [.j (p.length:Int)] 0]
def wT(gv:Nat)(p:List Ins)(j:Nat):List (Nat×AV):=[(0,.fz p.length (rP p)),(1,qfR gv),(4,.ptr 5 0),(5,.ptr 6 0),(6,.ptr 7 0),(20,.fz p.length (rP p)),(21,.j (p.length:Int)),(22,.j (j:Int))]
def wTr(gv gw:Nat)(p:List Ins)(j:Nat)(i:Ins):List (Nat×AV):=wT gv p j++[(7,.ptr 8 0),(8,.ptr 9 0),(47,qkP gw p j i)]
def xX(a b:Nat):ICode:=icJ 283 [112,a,284,b] 15
def vH(a b:Nat):IFn:=irJ 283 [112,a,284,b] [15] [xX a b]
def qb9(a b c:Nat):ICode:=icJ 181 [242,a,243,b,244,c] 975 [] [] ⟨[],true,[4]⟩
def qb8(a b c:Nat):ICode:=icJ 181 [242,a,243,b,244,c] 31951 [] [] ⟨[],true,[4]⟩
def qb7(a b c:Nat):ICode:=icJ 181 [242,a,243,b,244,c] 7375 [7] [qb8 a b c] ⟨[],true,[4]⟩
def qiR(a b c:Nat):IFn:=irJ 181 [242,a,243,b,244,c] [7375,975] [qb7 a b c,qb9 a b c] ⟨[],true,[4]⟩
def aW:ICode:=.r [.m 9 (.t 48)]
def bW(fw:Nat):ICode:=.blk 3 (.reg true [.q 49 (.load1 (.t 6)),.m 50 (.t 9),.q 51 (.load1 (.t 4)),.q 52 (.load1 (.t 7)),.q 53 (.iAddrS 1 (.t 51) (.t 52)),.q 54 (.load1 (.t 53)),.q 55 (.loadN 4 (.t 8)),.l 56 fw [.t 55],.q 57 (.bin .or (.t 54) (.t 56)),⟨(some 58),.callVW (.t 49) [.t 50,.t 57],none⟩])
structure RecOk (P:Program) (r0:Loop) (ps:List Nat) (ai bi:ICode):Prop where
 st:r0.state = .ready
 pd:r0.pending=none
 ok:LoopOk P r0 ps ai bi
def qxg{i:Ins}:List.take 4 (List.drop 0 (qD i))=qD i:=rfl
def qDF{i:Ins}:4<=(qD i).length:=zzL 4
def qs0(P:Program)(gc:Nat):Prop:=∀(s:List (BitVec 16)) (r:List Bool),r.length=s.length->∀j:Nat,j<s.length->∀x:BitVec 16,
  Upd P gc [.j j,.h (x.toNat:Int),.ptr 3 0,.ptr 2 0] (qhy [] s r) (.tup []) (qhy [] (qdj s r j x) (r.set j true))
def cWr(P:Program)(g:Nat):Prop:=∀i,InsOk i->qc P g [.agg (qD i)] (.h ((wrM i).toNat:Int))
def qmv{g1 g2 g3 gc gv gw:Nat}(hcome:qs0 P gc)(hwr:cWr P g3)(p:List Ins)(hp:p.length<=4096)(i:Ins)(hi:InsOk i)(j:Nat)(l:List Nat)
  (r0:Loop) (hr:RecOk P r0 [48] aW (bW g3)) (L:List Nat) (ex:List AV) (hex:qt ex=true) (cp:Nat) (hcp:L.length<=cp) (hL:∀n ∈ L,j<n) (hL4:L.length<=4)
  (x:BitVec 16) (s0:List (BitVec 16)×List Bool) (hs1:s0.1.length=p.length) (hs2:s0.2.length=p.length) (hx:s0.1[j]?=some x) (Qf:AV->Hp->Prop)
  (hQ:Qf (.tup []) (mkH 0 (wI p gc l (goM p.length (x ||| wrM i) L s0) j i++[.map (zV r0 (wTr gv gw p j i)),.v (rNt L++ex)])))
  {t':Tr AV}{h':Hp}(hw:Wk 11 t' h' (mkT [(0,.yl 10),(3,.pf [.j (p.length:Int)] 0),(49,.sl 11 0 L.length cp false),(50,.j (L.length:Int)),(51,.j 0)]) (mkH 0 (wI p gc l s0 j i++[.map (zV r0 (wTr gv gw p j i)),.v (rNt L++ex)]))) :
  S P 11 (xX g1 g2) (zQ [] Qf) t' h':=by
 refine Ay ?_;have hid:=qeM hr.st hr.pd;simp only[xX,wI,wkB,zzC,zzN,vI,simprocAttr];refine Aa ?_
 refine SL.loopn (α:=Nat×(List (BitVec 16)×List Bool)) (λa=>[(0,.yl 10),(3,.pf [.j (p.length:Int)] 0),(49,.sl 11 0 L.length cp false),(50,.j (L.length:Int)),(51,.j (a.1:Int))])
  (λa=>wI p gc l a.2 j i++[.map (zV r0 (wTr gv gw p j i)),.v (rNt L++ex)])
  (λa=>a.1<=L.length/\a.2.1.length=p.length/\a.2.2.length=p.length/\a.2.1[j]?=some x/\goM p.length (x ||| wrM i) (L.drop a.1) a.2=goM p.length (x ||| wrM i) L s0) (λa=>L.length-a.1) (0,s0) [0,1,2,3,4,5,6,7,8,9,10,11] ?_ ?_ ?_ rfl ?_ ?_ ?_ ?_
 .simp[vw,wI,wkB]
 .exact Hf
 .simp
 .simp[wI,wkB]
 .intro b hb;have:b=0\/b=1\/b=2\/b=3\/b=4\/b=5\/b=6\/b=7\/b=8\/b=9\/b=10:=Ab
  exact A7
 .exact Ae
 rintro⟨q,s,r⟩ ⟨hq,hl1,hl2,hxq,hgo⟩ G ih;simp only at hq hl1 hl2 hxq hgo;simp only[wI,wkB,zzC,zzN,vI,simprocAttr]
 by_cases hlt:q<L.length
 .obtain⟨n,hn⟩:∃n,L[q]?=some n:=⟨_,zzE hlt⟩;have hjn:=hL n Ag;have hgn:(rNt L++ex)[q]?=some (.j (n:Int)):=by rw[zzj (by rw[qiB];exact Ab),qmp,hn];rfl
  have hqc:q<cp:=Ab
  simp +decide only[↓vS,vT,simprocAttr,hlt,zzU,hgn]
  have hdr:L.drop q=n::L.drop (q+1):=A6
  rw[hdr,qxV]at hgo
  by_cases hnl:n<p.length
  .have hnl':¬(p.length:Int)<=(n:Int):=Ab
   rw[if_pos hnl]at hgo;have hw1:=wS q;have hjs:j<p.length:=Ab
   have hcm:=hcome s r Ab n Ab (x ||| wrM i)
   have hln:(qdj s r n (x ||| wrM i)).length=p.length:=by simp[qdj,hl1]
   have hxn:(qdj s r n (x ||| wrM i))[j]?=some x:=by unfold qdj;rw[List.getElem?_set_ne Ab];exact Ab
   have hln2:(r.set n true).length=p.length:=Ag
   have ih2:=ih (q+1,qdj s r n (x ||| wrM i),r.set n true) Ag Ab
   refine Sa hnl' ?_;refine SY.mk (r:=r0) (ts:=wTr gv gw p j i) (ps:=[48]) (ai:=aW) (bi:=bW g3) Be hr.st hr.ok (zzu _) Ag rfl ?_;rw[show mkT (wTr gv gw p j i)=mkT [(0,.fz p.length (rP p)),(1,qfR gv),(4,.ptr 5 0),(5,.ptr 6 0),(6,.ptr 7 0),(20,.fz p.length (rP p)),(21,.j (p.length:Int)),(22,.j (j:Int)),(7,.ptr 8 0),(8,.ptr 9 0),(47,qkP gw p j i)]from rfl]
   refine qh ?_;simp only[aW,qlg,vI,simprocAttr];refine Ac ?_;refine⟨wTr gv gw p j i,Be,?_⟩
   refine qh ?_;simp only[qI,bW,vI,simprocAttr];refine Aa ?_;refine qX ?_;simp +decide only[↓vS,vT,simprocAttr,hl1,hjs,zzU,qjy,hxq,zza,qxg,qDF];refine(hwr i hi).pc ?_;refine Sa @qKA ?_;refine hcm.pc (vs:=[.j n,.h ((x ||| wrM i).toNat:Int),.ptr 3 0,.ptr 2 0]) [3,4,5,6] (Lent.of Af ?_) ?_
   .simp[vL,vw,qhy,qy qN,qi qN,qy qA,qi qA,hl1]
   simp only[vK,simprocAttr,qhy,qi qN,qi qA];refine Aa ?_;refine⟨bsy r0,wTr gv gw p j i,Be,?_⟩
   rw[qc9,hid];simp only[qI];refine Sa (zzA hw1 hnl') ?_;refine ih2 _ _ (Wk.mkn _ _ [0,1,2,3,4,5,6,7,8,9,10,11] ?_ ?_ ?_ rfl ?_ ?_)
   .simp[vw,wI,wkB]
   .exact Hf
   .simp
   .simp[wI,wkB]
   .intro b hb;have:b=0\/b=1\/b=2\/b=3\/b=4\/b=5\/b=6\/b=7\/b=8\/b=9\/b=10:=Ab
    exact A7
  .have hnl':(p.length:Int)<=(n:Int):=Ab
   rw[if_neg hnl]at hgo;refine Sa hnl' ?_;rw[<- hgo]at hQ;exact hQ
 .obtain rfl:q=L.length:=Ab
  refine Sa hlt ?_;rw[List.drop_length]at hgo;rw[<- hgo]at hQ;exact hQ
def qiS(a:Nat):IFn:=irJ 243 [283,a]
def qLr{g:Nat}(hc:Ck P f (qiS g))(i:Ins)(j n:Nat):qc P f [.agg (qD i),.j (j:Int),.j (n:Int)] (.fn g [] [.pf (qD i) 0,.pf [.j (j:Int)] 0,.pf [.j (n:Int)] 0]):=by
 refine Al ?_;simp only[qiS,vI,simprocAttr];refine Aa ?_;simp[vZ,vP,zz4,qD]
def qpM{x:Nat}:rNt [x]=[.j (x:Int)]:=rfl
def qpN{x y:Nat}:rNt [x,y]=[.j (x:Int),.j (y:Int)]:=rfl
def qAg{g1 g2:Nat}(g3 gv gw gc:Nat)(p:List Ins)(i:Ins)(j:Nat)(l:List Nat)(r0:Loop)(s0:List (BitVec 16)×List Bool)(Qf:AV->Hp->Prop)
  (hQ:Qf (.tup []) (mkH 0 (wI p gc l s0 j i++[.map (zV r0 (wTr gv gw p j i))])))
  {t':Tr AV}{h':Hp}(hw:Wk 11 t' h' (mkT [(50,.j 0),(51,.j 0)]) (mkH 0 (wI p gc l s0 j i++[.map (zV r0 (wTr gv gw p j i))]))) :
  S P 11 (xX g1 g2) (zQ [] Qf) t' h':=by
 refine Ay ?_;simp only[xX,wI,wkB,zzC,zzN,vI,simprocAttr];refine Aa ?_;refine SL.loopn (α:=Unit) (λ_=>[(50,.j 0),(51,.j 0)]) (λ_=>wI p gc l s0 j i++[.map (zV r0 (wTr gv gw p j i))]) (λ_=>True) (λ_=>0) () [0,1,2,3,4,5,6,7,8,9,10] ?_ ?_ ?_ rfl ?_ ?_ ?_ ?_
 .simp[vw,wI,wkB]
 .simp[vw,wI,wkB,wTr,wT,qfR,qkP,qo,qF,qN,qA,qa,qD,qb5,qcv,qaI,wg,xO]
 .simp
 .simp[wI,wkB]
 .intro b hb;have:b=0\/b=1\/b=2\/b=3\/b=4\/b=5\/b=6\/b=7\/b=8\/b=9\/b=10:=Ab
  exact A7
 .trivial
 rintro _ _ G _;simp only[wI,wkB,zzC,zzN,vI,simprocAttr];refine Aa ?_;exact hQ
def qAf{g1 g2 g3 g4 gc gv gw:Nat}(hcw:Ck P gw (vH g1 g2))(hof:cOf P g1)(hcc:Ck P g2 qW)(hcome:qs0 P gc)(hwr:cWr P g3)
  (hwy:∀i (j n:Nat),qc P g4 [.agg (qD i),.j (j:Int),.j (n:Int)] (.fn gw [] [.pf (qD i) 0,.pf [.j (j:Int)] 0,.pf [.j (n:Int)] 0]))
  (p:List Ins) (hp:p.length<=4096) (i:Ins) (hi:InsOk i) (j:Nat) (hj:j<p.length) (l:List Nat)
  (x:BitVec 16) (s0:List (BitVec 16)×List Bool) (hs1:s0.1.length=p.length) (hs2:s0.2.length=p.length) (hx:s0.1[j]?=some x) (Q:X->Tr AV->Hp->Prop)
  (hQ:∀t'' h'',Wk 2 t'' h'' (mkT (wT gv p j)) (mkH 0 (wkB p gc l (goM p.length (x ||| wrM i) (wJ i j) s0)))->Q .normal t'' h'')
  {t':Tr AV}{h':Hp}(hw:Wk 2 t' h' (mkT (wT gv p j++[(7,.ptr 8 0),(8,.ptr 9 0)])) (mkH 0 (wI p gc l s0 j i))) :
  S P 2 (qb8 gc g4 g3) Q t' h':=by
 refine Ay ?_;simp only[qb8,wT,wI,wkB,zzC,zzN,vI,simprocAttr];refine Sa (zzA @qxg @qDF) ?_;refine(hwy i j p.length).sc ?_;refine Aa ?_;refine S.weak (Wk.mkn (wTr gv gw p j i) (wI p gc l s0 j i) [0,1,2,3,4,5,6,7,8,9] ?_ ?_ ?_ rfl ?_ ?_) ?_
 .simp[vw,wTr,wT,qfR,qkP,qo,wI,wkB,qD]
 .simp[vw,wI,wkB,qo,qF,qN,qA,qa,qD]
 .simp
 .simp[wI,wkB]
 .intro b hb;have:b=0\/b=1:=Ab
  exact B8
 refine S.rangeF (by simp[xF,wI,wkB]) (by simp[wTr,wT]) ⟨rfl,rfl⟩ ?_;refine qjR.2 ⟨qkP gw p j i,by simp[wTr,wT,mkT,zz4],?_⟩
 refine⟨qdi hcw,λr0 hr0 hp0 hlo=>SC.mk hcw ?_⟩
 have hrec:RecOk P r0 [48] aW (bW g3):=⟨hr0,hp0,hlo⟩;have hid:=qeM hr0 hp0;obtain⟨Qf,hQf⟩:∃Qf:AV->Hp->Prop,Qf=qBg (mkH 0 (wI p gc l s0 j i)).sz (λe t h=>onX e (Q .normal t h) (λi=>if i=2 then Q .normal t h else Q (.exit i) t h) (Q .ret t h)) (mkT (wTr gv gw p j i)):=⟨_,rfl⟩
 have hfin0:Qf (.tup []) (mkH 0 (wI p gc l (goM p.length (x ||| wrM i) (wJ i j) s0) j i++[.map (zV r0 (wTr gv gw p j i))])):=by
  skip
  rw[hQf];refine⟨r0,wTr gv gw p j i,Jw,by rw[hr0];exact Af,?_⟩
  rw[hp0];simp only[wI,wkB,wTr,wT,zzC,zzN,vI,simprocAttr,qI];simp only[qjv];refine hQ _ _ (Wk.mkn _ _ [0,1,2,3,4,5,6,7] ?_ ?_ ?_ rfl ?_ ?_)
  .simp[vw,wT,qfR,qkP,qo,wkB,qD]
  .simp[vw,wkB,qo,qF,qN,qA,qa,qD]
  .simp
  .simp[wkB]
  .intro b hb;have:b=0\/b=1:=Ab
   exact B8
 have hfin1:∀cs:List AV,Qf (.tup []) (mkH 0 (wI p gc l (goM p.length (x ||| wrM i) (wJ i j) s0) j i++[.map (zV r0 (wTr gv gw p j i)),.v cs])):=by
  intro cs;rw[hQf];refine⟨r0,wTr gv gw p j i,Jw,by rw[hr0];exact Af,?_⟩
  rw[hp0];simp only[wI,wkB,wTr,wT,zzC,zzN,vI,simprocAttr,qI];simp only[qjv];refine hQ _ _ (Wk.mkn _ _ [0,1,2,3,4,5,6,7] ?_ ?_ ?_ rfl ?_ ?_)
  .simp[vw,wT,qfR,qkP,qo,wkB,qD]
  .simp[vw,wkB,qo,qF,qN,qA,qa,qD]
  .simp
  .simp[wkB]
  .intro b hb;have:b=0\/b=1:=Ab
   exact B8
 rw[<- hQf];show S P 11 (vH g1 g2).body (zQ [] Qf) (qb0 [.yl 10,.pf (qD i) 0,.pf [.j (j:Int)] 0,.pf [.j (p.length:Int)] 0] 0 .leaf) (mkH 0 (wI p gc l s0 j i++[.map (zV r0 (wTr gv gw p j i))]));refine qh ?_;simp only[vH,wI,wkB,qD,zzC,zzN,vI,simprocAttr];refine Aa ?_;refine(hof i.code).sc ?_;refine Aa ?_;have hj1:=wS j
 have hjj:∀a:Int,0<=a->a<=4294967295->IntKind.wrap .i64 (IntKind.wrap .i64 ((j:Int)+1)+IntKind.wrap .i64 a)=((j+1+a.toNat:Nat):Int):=B6
 have hk:=hjj i.k hi.k0 hi.k1;have hlo0:0<=loM i/\loM i<=255:=by have:=hi.t0;have:=hi.t1;have:=hi.f0;have:=hi.f1;unfold loM;exact Ga
 have hhi0:0<=hiM i/\hiM i<=255:=by have:=hi.t0;have:=hi.t1;have:=hi.f0;have:=hi.f1;exact Et
 have hlo:=hjj (loM i) hlo0.1 Ab;have hhi:=hjj (hiM i) hhi0.1 Ab
 by_cases hA:ql i.code=0\/ql i.code=5
 .have hwl:wJ i j=[]:=by unfold wJ;rw[if_pos hA]
  have h4:¬ql i.code=4:=Ab
  rw[hwl]at hfin0;have fin0:∀{t':Tr AV}{h':Hp},Wk 11 t' h' (mkT [(50,.j 0),(51,.j 0)]) (mkH 0 (wI p gc l s0 j i++[.map (zV r0 (wTr gv gw p j i))]))->S P 11 (xX g1 g2) (zQ [] Qf) t' h':=λhw=>qAg g3 gv gw gc p i j l r0 s0 Qf hfin0 hw
  rcases hA with hA|hA<;>(
   simp +decide only[↓vS,vT,simprocAttr,hA];refine(qxk hcc).sc ?_;simp +decide only[↓vS,vT,simprocAttr];refine fin0 (Wk.mkn _ _ [0,1,2,3,4,5,6,7,8,9,10] ?_ ?_ ?_ rfl ?_ ?_)
   .simp[vw,wI,wkB]
   .simp[vw,wI,wkB,wTr,wT,qfR,qkP,qo,qF,qN,qA,qa,qD,qb5,qcv,qaI,wg,xO]
   .simp
   .simp[wI,wkB]
   .intro b hb;have:b=0\/b=1\/b=2\/b=3\/b=4\/b=5\/b=6\/b=7\/b=8\/b=9\/b=10:=Ab
    rcases this with rfl|rfl|rfl|rfl|rfl|rfl|rfl|rfl|rfl|rfl|rfl<;>rfl)
 by_cases h4:ql i.code=4
 .have h0:¬ql i.code=0:=Ab
  have h5:¬ql i.code=5:=Ab
  refine Sa (zzA h4 hj1) ?_
  by_cases hja:i.code=5
  .have hwl:wJ i j=[j+1+i.k.toNat]:=Ig
   rw[if_pos hja];simp only[hk];refine(qqC hcc ((j+1+i.k.toNat:Nat):Int)).sc (vs:=[.sl 0 0 1 1 false]) [12] (Lent.of Af ?_) ?_
   .simp[vL,vw]
   simp only[vK,simprocAttr];refine Aa ?_;refine qmv (gv:=gv) (gw:=gw) (gc:=gc) hcome hwr p hp i hi j l r0 hrec [j+1+i.k.toNat] [] rfl 1 (by simp) Ag (by simp) x s0 hs1 hs2 hx Qf (by rw[<- hwl];exact Ae) (Wk.mkn _ _ [0,1,2,3,4,5,6,7,8,9,10,12] ?_ ?_ ?_ rfl ?_ ?_)
   .simp[vw,wI,wkB]
   .exact B4
   .simp
   .simp[wI,wkB]
   .intro b hb;have:b=0\/b=1\/b=2\/b=3\/b=4\/b=5\/b=6\/b=7\/b=8\/b=9\/b=10:=Ab
    exact A7
  .rw[if_neg hja];simp only[show(if i.jf<i.jt then i.jf else i.jt)=loM i from rfl,show(if i.jt<i.jf then i.jf else i.jt)=hiM i from rfl,hlo,hhi]
   by_cases hlh:loM i=hiM i
   .have hwl:wJ i j=[j+1+(loM i).toNat]:=by unfold wJ;rw[if_neg hA,if_pos h4,if_neg hja,if_pos hlh]
    refine(qqD hcc ((j+1+(loM i).toNat:Nat):Int) ((j+1+(hiM i).toNat:Nat):Int)).sc (vs:=[.sl 0 0 2 2 false]) [11] (Lent.of Af ?_) ?_
    .simp[vL,vw]
    rw[hlh,if_pos rfl,if_pos rfl];rw[hlh]at hwl;simp only[vK,simprocAttr];refine Aa ?_;refine qmv (gv:=gv) (gw:=gw) (gc:=gc) hcome hwr p hp i hi j l r0 hrec [j+1+(hiM i).toNat] [.j 0] rfl 2 (by simp) Ag (by simp) x s0 hs1 hs2 hx Qf (by rw[<- hwl];exact Ae) (Wk.mkn _ _ [0,1,2,3,4,5,6,7,8,9,10,11] ?_ ?_ ?_ rfl ?_ ?_)
    .simp[vw,wI,wkB]
    .exact B4
    .simp
    .simp[wI,wkB]
    .intro b hb;have:b=0\/b=1\/b=2\/b=3\/b=4\/b=5\/b=6\/b=7\/b=8\/b=9\/b=10:=Ab
     exact A7
   .have hwl:wJ i j=[j+1+(loM i).toNat,j+1+(hiM i).toNat]:=by unfold wJ;rw[if_neg hA,if_pos h4,if_neg hja,if_neg hlh]
    refine(qqD hcc ((j+1+(loM i).toNat:Nat):Int) ((j+1+(hiM i).toNat:Nat):Int)).sc (vs:=[.sl 0 0 2 2 false]) [11] (Lent.of Af ?_) ?_
    .simp[vL,vw]
    rw[if_neg Ab,if_neg Ab];simp only[vK,simprocAttr];refine Aa ?_;refine qmv (gv:=gv) (gw:=gw) (gc:=gc) hcome hwr p hp i hi j l r0 hrec [j+1+(loM i).toNat,j+1+(hiM i).toNat] [] rfl 2 (by simp) (by simp;exact Ab) (by simp) x s0 hs1 hs2 hx Qf (by rw[<- hwl];exact Ae) (Wk.mkn _ _ [0,1,2,3,4,5,6,7,8,9,10,11] ?_ ?_ ?_ rfl ?_ ?_)
    .simp[vw,wI,wkB]
    .exact B4
    .simp
    .simp[wI,wkB]
    .intro b hb;have:b=0\/b=1\/b=2\/b=3\/b=4\/b=5\/b=6\/b=7\/b=8\/b=9\/b=10:=Ab
     exact A7
 .have h0:¬ql i.code=0:=Ab
  have h5:¬ql i.code=5:=Ab
  have hwl:wJ i j=[j+1]:=by unfold wJ;rw[if_neg hA,if_neg h4]
  refine Sa (zzA h0 (zzA h4 (zzA h5 hj1))) ?_;simp only[hj1];refine(qqC hcc ((j+1:Nat):Int)).sc (vs:=[.sl 0 0 1 1 false]) [11] (Lent.of Af ?_) ?_
  .simp[vL,vw]
  simp only[vK,simprocAttr];refine Aa ?_;refine qmv (gv:=gv) (gw:=gw) (gc:=gc) hcome hwr p hp i hi j l r0 hrec [j+1] [] rfl 1 (by simp) Ae (by simp) x s0 hs1 hs2 hx Qf (by rw[<- hwl];exact Ae) (Wk.mkn _ _ [0,1,2,3,4,5,6,7,8,9,10,11] ?_ ?_ ?_ rfl ?_ ?_)
  .simp[vw,wI,wkB]
  .exact B4
  .simp
  .simp[wI,wkB]
  .intro b hb;have:b=0\/b=1\/b=2\/b=3\/b=4\/b=5\/b=6\/b=7\/b=8\/b=9\/b=10:=Ab
   exact A7
abbrev WSt:=List Nat×(List (BitVec 16)×List Bool)
def qeS(j:Nat)(st:List (BitVec 16)×List Bool):List (BitVec 16)×List Bool:=if j=0 then(qdj st.1 st.2 0 0#16,st.2.set 0 true)else st
def stM(n j:Nat)(i:Ins)(st:WSt):WSt :=
 if(qeS j st.2).2.getD j false=true then(qlq i ((qeS j st.2).1.getD j 0#16) j st.1,goM n ((qeS j st.2).1.getD j 0#16 ||| wrM i) (wJ i j) (qeS j st.2))else(st.1,qeS j st.2)
def wkM(n:Nat):Nat->List Ins->WSt->WSt
 | _,[],st=>st
 | j,i::L,st=>wkM n (j+1) L (stM n j i st)
def qdU(p:List Ins):List Nat:=(wkM p.length 0 p ([],(List.replicate p.length 0#16,List.replicate p.length false))).1
def qzY{j:Nat}{st:List (BitVec 16)×List Bool}:(qeS j st).1.length=st.1.length/\(qeS j st).2.length=st.2.length:=by
 unfold qeS;split<;>simp[qdj]
theorem qAe{i:Ins}{x:BitVec 16}{j:Nat}{l:List Nat}:(qlq i x j l).length<=l.length+1:=by
 unfold qlq;split<;>simp
def qJA(P:Program)(gv:Nat):Prop:=∀p:List Ins,p.length<=4096->∀l:List Nat,l.length<=4096->∀(j:Nat) (i:Ins),p[j]?=some i->InsOk i->∀x:BitVec 16,
  Upd P gv [.j j,.h (x.toNat:Int),.ptr 0 0,.ptr 1 0] [.v [.fz p.length (rP p)],.v [.own 2 l.length],.cells 1 true true (rNt l)] (.tup [])
   [.v [.fz p.length (rP p)],.v [.own 3 (qlq i x j l).length],.dead,.cells 1 true true (rNt (qlq i x j l))]
def qrT{g1 g2 g3 g4 gc gv gw:Nat}(hcw:Ck P gw (vH g1 g2))(hof:cOf P g1)(hcc:Ck P g2 qW)(hcome:qs0 P gc)(hwr:cWr P g3)(hvis:qJA P gv)
  (hwy:∀i (j n:Nat),qc P g4 [.agg (qD i),.j (j:Int),.j (n:Int)] (.fn gw [] [.pf (qD i) 0,.pf [.j (j:Int)] 0,.pf [.j (n:Int)] 0]))
  (p:List Ins) (hp:p.length<=4096) (i:Ins) (hi:InsOk i) (j:Nat) (hpi:p[j]?=some i) (l:List Nat) (hl:l.length<=4096)
  (s:List (BitVec 16)) (r:List Bool) (hs1:s.length=p.length) (hs2:r.length=p.length) (Q:X->Tr AV->Hp->Prop)
  (hQ:∀e t'' h'',(e = .normal\/e = .exit 1)->Wk 2 t'' h'' (mkT (wT gv p j)) (mkH 0 (if r.getD j false=true then wkB p gc (qlq i (s.getD j 0#16) j l) (goM p.length (s.getD j 0#16 ||| wrM i) (wJ i j) (s,r))else wkB p gc l (s,r)))->Q e t'' h'')
  {t':Tr AV}{h':Hp}(hw:Wk 2 t' h' (mkT (wT gv p j++[(7,.ptr 8 0),(8,.ptr 9 0)])) (mkH 0 (wI p gc l (s,r) j i))) :
  S P 2 (qb7 gc g4 g3) Q t' h':=by
 refine Ay ?_;have hlt:j<p.length:=Ag
 obtain⟨x,hx⟩:∃x,s[j]?=some x:=⟨_,zzE Ab⟩;obtain⟨b,hb⟩:∃b,r[j]?=some b:=⟨_,zzE Ab⟩;simp only[zzs,hx,hb,Option.getD_some]at hQ;simp only[qb7,wT,wI,wkB,zzC,zzN,vI,simprocAttr];cases b with
 | false =>
  rw[if_neg (by simp)]at hQ;simp +decide only[↓vS,vT,simprocAttr,hs1,hlt,zzU,vt,hb,zza];refine hQ _ _ _ (.inr rfl) (Wk.mkn _ _ [0,1,2,3,4,5,6,7] ?_ ?_ ?_ rfl ?_ ?_)
  .simp[vw,wT,qfR,qo,wkB]
  .simp[vw,wkB,qo,qF,qN,qA,qa,hs1]
  .simp
  .simp[wkB]
  .intro b hb;have:b=0\/b=1:=Ab
   exact B8
 | true =>
  rw[if_pos rfl]at hQ;simp +decide only[↓vS,vT,simprocAttr,hs1,hlt,zzU,vt,hb,zza];refine qX ?_;simp +decide only[↓vS,vT,simprocAttr,hs1,hlt,zzU,qjy,hx,zza,qfR];refine(hvis p hp l hl j i hpi hi x).pc (vs:=[.j j,.h (x.toNat:Int),.ptr 0 0,.ptr 1 0]) [0,1,2] (Lent.of Af ?_) ?_
  .simp[vL,vw,qy (qo p),qi (qo p),qy qF,qi qF]
  simp only[vK,simprocAttr,qi (qo p),qi qF];refine Aa ?_;refine qAf hcw hof hcc hcome hwr hwy p hp i hi j hlt (qlq i x j l) x (s,r) hs1 hs2 hx Q (λt'' h'' hw=>hQ _ _ _ (.inl rfl) hw) (Wk.mkn _ _ [0,1,10,3,4,5,6,7,8,9] ?_ ?_ ?_ rfl ?_ ?_)
  .simp[vw,wT,qfR,qo,wI,wkB]
  .simp[vw,wI,wkB,qo,qF,qN,qA,qa,hs1,qD]
  .simp
  .simp[wI,wkB]
  .intro b hb;have:b=0\/b=1:=Ab
   exact B8
def qg1(a b:Nat):IFn:=irJ 116 [182,a,181,b]
def qEi{g0 g1 g2 g3 g4 gc gv gw:Nat}(hc:Ck P f (qg1 gv g0))(hck:Ck P g0 (qiR gc g4 g3))
  (hcw:Ck P gw (vH g1 g2)) (hof:cOf P g1) (hcc:Ck P g2 qW) (hcome:qs0 P gc) (hwr:cWr P g3) (hvis:qJA P gv)
  (hwy:∀i (j n:Nat),qc P g4 [.agg (qD i),.j (j:Int),.j (n:Int)] (.fn gw [] [.pf (qD i) 0,.pf [.j (j:Int)] 0,.pf [.j (n:Int)] 0]))
  (p:List Ins) (hp:p.length<=4096) (hi:∀i ∈ p,InsOk i):qc P f [.fz p.length (rP p)] (.fz (qdU p).length (rNt (qdU p))):=by
 refine Ce ?_;simp only[qg1,vI,simprocAttr];refine Aa ?_;refine SC.mk hck (qh ?_);have hp':¬4096<(p.length:Int):=Ab
 have hr1:p.length<=qe:=by simp only[qe];exact Ab
 have hr2:2*p.length<=qe:=by simp only[qe];exact Ab
 have hr3:1*p.length<=qe:=Ab
 have hf1:(List.replicate p.length [AV.h 0]).flatten=rW (List.replicate p.length 0#16):=by
  generalize p.length=n
  exact Az
 have hf2:(List.replicate p.length [AV.b false]).flatten=rTt (List.replicate p.length false):=by
  generalize p.length=n
  exact Az
 simp only[qiR,vI,simprocAttr];refine Sa hp' ?_;refine qX ?_;refine Sa (zzA hr1 (zzA hr2 (zzA hr3 (zzA hf1 hf2)))) ?_
 refine SL.loopn (α:=Nat×WSt) (λa=>wT gv p a.1) (λa=>wkB p gc a.2.1 a.2.2)
  (λa=>a.1<=p.length/\a.2.1.length<=a.1/\a.2.2.1.length=p.length/\a.2.2.2.length=p.length/\wkM p.length a.1 (p.drop a.1) a.2=wkM p.length 0 p ([],(List.replicate p.length 0#16,List.replicate p.length false))) (λa=>p.length-a.1) (0,([],(List.replicate p.length 0#16,List.replicate p.length false))) [0,1,99,2,3,4,5,6] ?_ ?_ ?_ rfl ?_ ?_ ?_ ?_
 .simp[vw,wT,qfR,qo,wkB]
 .simp[vw,wkB,qo,qF,qN,qA,qa]
 .simp
 .simp[wkB]
 .intro b hb;have:b=0\/b=1:=Ab
  exact B8
 .exact Ae
 rintro⟨j,l,s,r⟩ ⟨hj,hl,hs1,hs2,hgo⟩ G ih;simp only at hj hl hs1 hs2 hgo;simp only[wT,wkB,zzC,zzN,vI,simprocAttr]
 by_cases hlt:j<p.length
 .obtain⟨i,hpi⟩:∃i,p[j]?=some i:=⟨_,zzE hlt⟩;have hii:=hi i Ag;have hel:=qS (f:=qD) (m:=4) xf hpi;rw[show p.flatMap qD=rP p from rfl]at hel
  have h4:j*4+4<=(rP p).length:=by rw[qdS];exact Ab
  have hdr:p.drop j=i::p.drop (j+1):=A6
  rw[hdr]at hgo;have hw1:=wS j;simp only[qD]at hel;have ih2:=ih (j+1,stM p.length j i (l,s,r));have hst:wkM p.length j (i::p.drop (j+1)) (l,s,r)=wkM p.length (j+1) (p.drop (j+1)) (stM p.length j i (l,s,r)):=rfl;rw[hst]at hgo;have hlen0:=qzY (j:=j) (st:=(s,r))
  have hI:j+1<=p.length/\(stM p.length j i (l,s,r)).1.length<=j+1/\(stM p.length j i (l,s,r)).2.1.length=p.length/\(stM p.length j i (l,s,r)).2.2.length=p.length:=by
   refine⟨hlt,?_⟩;unfold stM
   grind[qAe,qti]
  have ih3:=ih2 Ag Ab
  have hstM:(wkB p gc (stM p.length j i (l,s,r)).1 (stM p.length j i (l,s,r)).2)=if(qeS j (s,r)).2.getD j false=true then wkB p gc (qlq i ((qeS j (s,r)).1.getD j 0#16) j l) (goM p.length ((qeS j (s,r)).1.getD j 0#16 ||| wrM i) (wJ i j) ((qeS j (s,r)).1,(qeS j (s,r)).2))else wkB p gc l ((qeS j (s,r)).1,(qeS j (s,r)).2):=by
   unfold stM;split<;>rfl
  clear hgo hst ih2
  by_cases hj0:j=0
  .have hj0':decide ((j:Int)=0)=true:=by rw[hj0];rfl
   have hcm:=hcome s r Ab 0 Ab 0#16;have he1:(qeS j (s,r)).1=qdj s r 0 0#16:=by unfold qeS;rw[if_pos hj0]
   have he2:(qeS j (s,r)).2=r.set 0 true:=by unfold qeS;rw[if_pos hj0]
   simp only[he1,he2]at hstM;have hs1':(qdj s r 0 0#16).length=p.length:=Ag
   refine Sa (zzA hlt (zzA hel (zzA h4 hj0'))) ?_;refine hcm.sc (vs:=[.j 0,.h 0,.ptr 3 0,.ptr 2 0]) [3,4,5,6] (Lent.of Af ?_) ?_
   .simp[vL,vw,qhy,qy qN,qi qN,qy qA,qi qA]
   simp only[vK,simprocAttr,qhy,qi qN,qi qA];refine Aa ?_;refine qrT hcw hof hcc hcome hwr hvis hwy p hp i hii j hpi l Ab (qdj s r 0 0#16) (r.set 0 true) hs1' Ag _ ?_ (Wk.mkn _ _ [0,1,2,3,4,5,6,7,8,9] ?_ ?_ ?_ rfl ?_ ?_)
   .rintro e t'' h'' (rfl|rfl) hw2<;>(
     simp +decide only[↓vS,vT,simprocAttr];rw[<- hstM]at hw2;refine S.weak hw2 (qh ?_);generalize(stM p.length j i (l,s,r))=st2 at ih3 hI;obtain⟨l2,s2,r2⟩:=st2;simp only at ih3 hI;simp only[qb9,wT,wkB,zzC,zzN,vI,simprocAttr];simp +decide only[↓vS,vT,simprocAttr,hw1];refine ih3 _ _ (Wk.mkn _ _ [0,1,2,3,4,5,6,7] ?_ ?_ ?_ rfl ?_ ?_)
     .simp[vw,wT,qfR,qo,wkB]
     .simp[vw,wkB,qo,qF,qN,qA,qa]
     .simp
     .simp[wkB]
     .intro b hb;have:b=0\/b=1:=Ab
      rcases this with rfl|rfl<;>rfl)
   .simp[vw,wT,qfR,qo,wI,wkB]
   .simp[vw,wI,wkB,qo,qF,qN,qA,qa,qD,hs1,hs1']
   .simp
   .simp[wI,wkB]
   .intro b hb;have:b=0\/b=1:=Ab
    exact B8
  .have hj0':decide ((j:Int)=0)=false:=Ag
   have he1:(qeS j (s,r)).1=s:=by unfold qeS;rw[if_neg hj0]
   have he2:(qeS j (s,r)).2=r:=by unfold qeS;rw[if_neg hj0]
   simp only[he1,he2]at hstM;have hs1':=hs1;refine Sa (zzA hlt (zzA hel (zzA h4 hj0'))) ?_;refine qrT hcw hof hcc hcome hwr hvis hwy p hp i hii j hpi l Ab s r hs1 hs2 _ ?_ (Wk.mkn _ _ [0,1,2,3,4,5,6,7,8,9] ?_ ?_ ?_ rfl ?_ ?_)
   .rintro e t'' h'' (rfl|rfl) hw2<;>(
     simp +decide only[↓vS,vT,simprocAttr];rw[<- hstM]at hw2;refine S.weak hw2 (qh ?_);generalize(stM p.length j i (l,s,r))=st2 at ih3 hI;obtain⟨l2,s2,r2⟩:=st2;simp only at ih3 hI;simp only[qb9,wT,wkB,zzC,zzN,vI,simprocAttr];simp +decide only[↓vS,vT,simprocAttr,hw1];refine ih3 _ _ (Wk.mkn _ _ [0,1,2,3,4,5,6,7] ?_ ?_ ?_ rfl ?_ ?_)
     .simp[vw,wT,qfR,qo,wkB]
     .simp[vw,wkB,qo,qF,qN,qA,qa]
     .simp
     .simp[wkB]
     .intro b hb;have:b=0\/b=1:=Ab
      rcases this with rfl|rfl<;>rfl)
   .simp[vw,wT,qfR,qo,wI,wkB]
   .simp[vw,wI,wkB,qo,qF,qN,qA,qa,qD,hs1,hs1']
   .simp
   .simp[wI,wkB]
   .intro b hb;have:b=0\/b=1:=Ab
    exact B8
 .obtain rfl:j=p.length:=Ab
  have hu:qdU p=l:=by unfold qdU;rw[<- hgo,List.drop_length];rfl
  refine Sa hlt ?_;rw[hu];exact Gx
def qE2(P:Program)(g:Nat):Prop:=∀n,qc P g [.h n] (.b (zI n))
def qgr(i:Ins):Bool:=!zI i.code
def vx(i:Ins):Bool:=decide (i.code=32)&&(decide (i.k % 4≠0)||decide (64<=i.k))
def qaX(i:Ins):Bool:=(decide (i.code=96)||decide (i.code=97)||decide (ql i.code=2))&&decide (16<=i.k)
def qaY(i:Ins):Bool:=decide (i.code=52)&&decide (i.k=0)
def qaZ(i:Ins):Bool:=(decide (i.code=100)||decide (i.code=116))&&decide (31<i.k)
def qa0(i:Ins)(n:Nat):Bool:=if i.code=5 then decide ((n:Int)<=i.k)else decide (ql i.code=4)&&decide ((n:Int)<=hiM i)
def qe6(a:Nat):IFn:=irJ 235 [236,a]
def qMu{g:Nat}(hc:Ck P f (qe6 g))(hg:qE2 P g)(i:Ins)(n:Nat):qc P f [.agg (qD i),.j n] (.b (qgr i)):=by
 refine Al ?_;simp only[qe6,qD,vI,simprocAttr];refine Aa ?_;refine(hg _).sc ?_;refine Aa ?_;simp[vZ,qgr]
def qe7:IFn:=irJ 237 []
def qMv(hc:Ck P f qe7)(i:Ins)(hi:InsOk i)(n:Nat):qc P f [.agg (qD i),.j n] (.b (vx i)):=by
 refine Al ?_;have h40:(4:Int)≠0:=Af
 have h0:=hi.k0;have ht:i.k.tmod 4=i.k % 4:=Ag
 unfold vx;simp only[qe7,qD,vI,simprocAttr]
 by_cases h1:i.code=32
 .by_cases h2:i.k % 4=0
  .simp +decide only[↓vS,vT,simprocAttr,h1,↓zW h40,ht,h2];simp[vZ]
  .simp +decide only[↓vS,vT,simprocAttr,h1,↓zW h40,ht,h2];simp[vZ,h2]
 .exact Hl
def qe8(a:Nat):IFn:=irJ 238 [112,a]
def qMw{g:Nat}(hc:Ck P f (qe8 g))(hg:cOf P g)(i:Ins)(n:Nat):qc P f [.agg (qD i),.j n] (.b (qaX i)):=by
 refine Al ?_;unfold qaX;simp only[qe8,qD,vI,simprocAttr]
 by_cases h1:i.code=96
 .exact Hl
 by_cases h2:i.code=97
 .exact Dv
 refine Sa (zzA h1 h2) ?_;refine(hg _).sc ?_
 by_cases h3:ql i.code=2
 .refine Sa h3 ?_;simp[vZ]
 .refine Sa h3 ?_;simp[vZ,h1,h2]
def qe9:IFn:=irJ 239 []
def qMx(hc:Ck P f qe9)(i:Ins)(n:Nat):qc P f [.agg (qD i),.j n] (.b (qaY i)):=by
 refine Al ?_;unfold qaY;simp only[qe9,qD,vI,simprocAttr]
 by_cases h1:i.code=52
 .exact Hl
 .exact Hl
def qfa:IFn:=irJ 240 []
def qMy(hc:Ck P f qfa)(i:Ins)(n:Nat):qc P f [.agg (qD i),.j n] (.b (qaZ i)):=by
 refine Al ?_;unfold qaZ;simp only[qfa,qD,vI,simprocAttr]
 by_cases h1:i.code=100
 .exact Hl
 by_cases h2:i.code=116
 .exact Dv
 exact Dv
def qfb(a:Nat):IFn:=irJ 241 [112,a]
def qMz{g:Nat}(hc:Ck P f (qfb g))(hg:cOf P g)(i:Ins)(hi:InsOk i)(n:Nat):qc P f [.agg (qD i),.j n] (.b (qa0 i n)):=by
 refine Al ?_;have hk:IntKind.wrap .i64 i.k=i.k:=by have:=hi.k0;have:=hi.k1;exact B6
 have hh:IntKind.wrap .i64 (hiM i)=hiM i:=by
  have:=hi.t0;have:=hi.t1;have:=hi.f0;have:=hi.f1
  refine qC ?_ ?_<;>(unfold hiM;split<;>omega)
 unfold qa0;simp only[qfb,qD,vI,simprocAttr]
 by_cases h1:i.code=5
 .rw[if_pos h1];refine Sa (zzA h1 hk) ?_;simp[vZ]
 rw[if_neg h1];refine Sa h1 ?_;refine(hg _).sc ?_
 by_cases h2:ql i.code=4
 .refine Sa h2 ?_;simp only[show(if i.jt<i.jf then i.jf else i.jt)=hiM i from rfl,hh]
  simp[vZ]
 .refine Sa h2 ?_;simp[vZ]
def qnz(x:Int×Nat×Bool):List AV:=[.j x.1,.fn x.2.1 [] []]
def qrE(x:Int×Nat×Bool):(qnz x).length=2:=rfl
def wsM(g1 g2 g3 g4 g5 g6:Nat)(i:Ins)(n:Nat):List (Int×Nat×Bool):=[(40,g1,qgr i),(41,g2,vx i),(43,g3,qaX i),(44,g4,qaY i),(45,g5,qaZ i),(42,g6,qa0 i n)]
def qc3(i:Ins)(n:Nat):Int:=if qgr i=true then 40 else if vx i=true then 41 else if qaX i=true then 43 else if qaY i=true then 44 else if qaZ i=true then 45 else if qa0 i n=true then 42 else 0
def qg4(a b c d e g:Nat):IFn:=irJ 180 [235,a,237,b,238,c,239,d,240,e,241,g]
def qEq{g1 g2 g3 g4 g5 g6:Nat}(hc:Ck P f (qg4 g1 g2 g3 g4 g5 g6))(i:Ins)(n:Nat):qc P f [] (.agg ((wsM g1 g2 g3 g4 g5 g6 i n).flatMap qnz)):=by
 refine Al ?_;simp only[qg4,vI,simprocAttr];refine Aa ?_;simp[vZ,vP,zz4,wsM,qnz]
def qj5(a:Nat):IFn:=irJ 115 [180,a]
def qKw{g0:Nat}(hc:Ck P f (qj5 g0))(i:Ins)(n:Nat)(ws:List (Int×Nat×Bool))(hw6:ws.length=6)(h0:qc P g0 [] (.agg (ws.flatMap qnz)))(hw:∀x ∈ ws,qc P x.2.1 [.agg (qD i),.j n] (.b x.2.2)) :
  qc P f [.agg (qD i),.j n] (.j ((ws.find? λx=>x.2.2).elim 0 λx=>x.1)):=by
 refine Al ?_;have hn0:¬(n:Int)<0:=Ab
 have hlen:(ws.flatMap qnz).length=12:=by rw[qY qrE,hw6]
 have hcl:qt (ws.flatMap qnz)=true:=jk (λ_=>rfl)
 simp only[qj5,qD,vI,simprocAttr];refine Aa ?_;refine h0.sc ?_;refine Aa ?_;refine SL.loop (α:=Nat) (λj=>[(1,.j (n:Int)),(2,.ptr 0 0),(7,.agg (ws.flatMap qnz)),(8,.j (j:Int))]) (λ_=>[.v (qD i)]) (λj=>j<=6/\(ws.drop j).find? (λx=>x.2.2)=ws.find? (λx=>x.2.2)) (λj=>6-j) 0 [0] ?_ ?_ ?_ rfl ?_ ?_
 .simp[vw,qa,hcl]
 .simp[vw,qD]
 .simp
 .exact Ae
 rintro j ⟨hj,hI⟩ G ih;simp only[vI,simprocAttr,qD]
 by_cases hlt:j<6
 .have hlt':(j:Int)<6:=Ab
  have hjl:j<ws.length:=Ab
  have hx:ws[j]?=some ws[j]:=Ae
  have hw1:=wS j;have hel:=qS (f:=qnz) (m:=2) qrE hx;have hb:j*2+2<=(ws.flatMap qnz).length:=Ab
  have hpx:=hw _ (List.getElem_mem hjl);rw[zzf hjl,List.find?_cons]at hI;generalize hc0:ws[j]=x at hel hI hpx;simp only[qnz]at hel;generalize hT:ws.flatMap qnz=T at hel hb hlen hcl;refine Sa (zzA hlt' (zzA hlt (zzA hel (zzA hb hn0)))) ?_;refine hpx.sc ?_;cases hs:x.2.2 with
  | true =>
   rw[hs]at hI;refine Aa ?_;rw[<- hI];simp[vZ]
  | false =>
   rw[hs]at hI;refine Sa hw1 ?_;refine ih (j+1) ⟨hlt,hI⟩ Ab _ _ (Wk.mk _ _ [0] ?_ ?_ ?_ rfl)
   .simp[vw,qa,hcl,hT]
   .simp[vw,qD]
   .simp
 .obtain rfl:j=6:=Ab
  have hd:ws.drop 6=[]:=Ae
  rw[hd]at hI;rw[<- hI];refine Aa ?_;simp[vZ]
def qLo{g1 g2 g3 g4 g5 g6:Nat}{i:Ins}{n:Nat}:(((wsM g1 g2 g3 g4 g5 g6 i n).find? λx=>x.2.2).elim 0 λx=>x.1)=qc3 i n:=by
 unfold wsM qc3;cases qgr i<;>cases vx i<;>cases qaX i<;>cases qaY i<;>cases qaZ i<;>cases qa0 i n<;>rfl
def qeX(n:Nat):Nat->List Ins->Option (Nat×Int)
 | _,[]=>none
 | j,i::L=>if qc3 i (n-1-j)=0 then qeX n (j+1) L else some (j,qc3 i (n-1-j))
def qeo{n j:Nat}{i:Ins}{L:List Ins}:qeX n j (i::L)=if qc3 i (n-1-j)=0 then qeX n (j+1) L else some (j,qc3 i (n-1-j)):=rfl
def qfg(p:List Ins):Int:=(p.getD (p.length-1) ⟨0,0,0,0⟩).code
def atU(p:List Ins)(u:List Nat):Nat×Int :=
 if p.length=0\/4096<p.length then(0,60)else(qeX p.length 0 p).elim (if ql (qfg p)=5 then(match u with | []=>(0,0)|a::_=>(a,61))else(p.length-1,46)) id
def cAt(P:Program)(f:Nat):Prop:=∀p:List Ins,(∀i ∈ p,InsOk i)->p.length<=5000->qc P f [.fz p.length (rP p)] (.tup [.j ((atU p (qdU p)).1:Int),.j (atU p (qdU p)).2])
def qe5(a b c:Nat):IFn:=irJ 64 [115,a,112,b,116,c]
def qA7{g1 g2 g3:Nat}(hc:Ck P f (qe5 g1 g2 g3))(h1:∀i,InsOk i->∀n:Nat,qc P g1 [.agg (qD i),.j (n:Int)] (.j (qc3 i n)))(h2:cOf P g2)
  (h3:∀p:List Ins,p.length<=4096->(∀i ∈ p,InsOk i)->qc P g3 [.fz p.length (rP p)] (.fz (qdU p).length (rNt (qdU p)))):cAt P f:=by
 intro p hi hp;refine Ce ?_;unfold atU;simp only[qe5,vI,simprocAttr]
 by_cases hz:p.length=0
 .have hz':(p.length:Int)<1:=Ab
  rw[if_pos (.inl hz)];refine Sa hz' ?_;simp[vZ]
 have hz':¬(p.length:Int)<1:=Ab
 by_cases hb:4096<p.length
 .have hb':(4096:Int)<p.length:=Ab
  rw[if_pos (.inr hb)];exact Ij
 have hb':¬(4096:Int)<p.length:=Ab
 rw[if_neg Ab];have hl1:IntKind.wrap .i64 ((p.length:Int)-1)=((p.length-1:Nat):Int):=by rw[qC Ab Ab];exact Ab
 refine Sa (zzA hz' (zzA hb' hl1)) ?_;refine SL.loop (α:=Nat) (λj=>[(0,.fz p.length (rP p)),(4,.j ((p.length-1:Nat):Int)),(21,.fz p.length (rP p)),(22,.j (p.length:Int)),(23,.j (j:Int))]) (λ_=>[]) (λj=>j<=p.length/\qeX p.length j (p.drop j)=qeX p.length 0 p) (λj=>p.length-j) 0 [] ?_ ?_ ?_ rfl ?_ ?_
 .exact Iv
 .trivial
 .simp
 .exact Ae
 rintro j ⟨hj,hI⟩ G ih;refine Ak ?_
 by_cases hlt:j<p.length
 .obtain⟨i,hpi⟩:∃i,p[j]?=some i:=⟨_,zzE hlt⟩;have hii:=hi i Ag;have hel:=qS (f:=qD) (m:=4) xf hpi;rw[show p.flatMap qD=rP p from rfl]at hel
  simp only[qD]at hel;have h4:j*4+4<=(rP p).length:=by rw[qdS];exact Ab
  have hdr:p.drop j=i::p.drop (j+1):=A6
  rw[hdr,qeo]at hI;have hw1:=wS j;have hw2:IntKind.wrap .i64 (((p.length-1:Nat):Int)-(j:Int))=((p.length-1-j:Nat):Int):=by rw[qC Ab Ab];exact Ab
  have hone:=h1 i hii (p.length-1-j);simp only[qD]at hone;refine Sa (zzA hlt (zzA hel (zzA h4 hw2))) ?_;refine hone.sc ?_
  by_cases h0:qc3 i (p.length-1-j)=0
  .rw[if_pos h0]at hI;refine Sa (zzA h0 hw1) ?_;refine ih (j+1) ⟨hlt,hI⟩ Ab _ _ (Wk.mk _ _ [] ?_ ?_ ?_ rfl)
   .exact Iv
   .trivial
   .simp
  .exact Jp
 .obtain rfl:j=p.length:=Ab
  have hd:p.drop p.length=[]:=Ae
  rw[hd]at hI;simp only[qeX]at hI;rw[<- hI];obtain⟨i,hpi⟩:∃i,p[p.length-1]?=some i:=⟨_,zzE Ab⟩;have hlc:qfg p=i.code:=by unfold qfg;rw[zzs,hpi];rfl
  have hg:=zq (f:=qD) (m:=4) xf hpi (i:=0) Ab;rw[show p.flatMap qD=rP p from rfl]at hg
  simp only[qD,Nat.add_zero,zzn]at hg;have hlt2:p.length-1<p.length:=Ab
  refine Sa (zzA hlt (zzA hlt2 hg)) ?_;refine(h2 _).sc ?_
  by_cases h5:ql i.code=5
  .refine Sa h5 ?_;refine(h3 p Ab hi).sc ?_;refine Aa ?_;refine SL.loop (α:=Unit) (λ_=>[(47,.fz (qdU p).length (rNt (qdU p))),(48,.j ((qdU p).length:Int)),(49,.j 0)]) (λ_=>[]) (λ_=>True) (λ_=>0) () [] ?_ ?_ ?_ rfl ?_ ?_
   .simp[vw,qF]
   .trivial
   .simp
   .trivial
   rintro _ _ G2 _;refine Ak ?_;rw[hlc];cases hu:qdU p with
   | nil =>
    exact Hx
   | cons a u =>
    have hgt2:0<(a::u).length:=by simp
    have hga:(rNt (a::u))[0]?=some (.j (a:Int)):=rfl;generalize(a::u).length=m at hgt2 ⊢;generalize rNt (a::u)=T at hga ⊢;have hgt:(0:Int)<(m:Int):=Ab
    exact Hs
  .refine Sa h5 ?_;rw[hlc];simp[vZ,h5]
def qhK(a:Nat):IFn:=irJ 27 [64,a]
def qlu(P:Program)(g:Nat):Prop:=∀n,qc P g [.h n] (.agg (xj (qM n)))
def nxE(n a b:Nat):List Nat:=(if a<n then [a]else [])++(if b<n/\b≠a then [b]else [])
def qld(n:Nat)(i:Ins)(j:Nat):List Nat:=(wJ i j).takeWhile λm=>decide (m<n)
def xh(a:Nat):ICode:=icJ 205 [82,a] 31
def qch(a:Nat):IFn:=irJ 205 [82,a] [31] [xh a]
def qB7(g:Nat)(n:Nat)(p:List AV)(hp:qt p=true)(a b:Nat)(hn:n<=4096){t':Tr AV}{h':Hp}(hw:Wk 0 t' h' (mkT [(0,.fz n p),(5,.j (a:Int)),(6,.j (b:Int))]) (mkH 0 [])) :
  S P 0 (xh g) (zQ [.tmp 4] λv' h'=>Frz h' v' (.fz (nxE n (min a b) (max a b)).length (rNt (nxE n (min a b) (max a b))))) t' h':=by
 refine Ay ?_
 have main:∀x y:Nat,x<=y->min a b=x->max a b=y->(a=x/\b=y\/a=y/\b=x/\x<y)->V P 0 (xh g) (zQ [.tmp 4] λv' h'=>Frz h' v' (.fz (nxE n x y).length (rNt (nxE n x y)))) (mkT [(0,.fz n p),(5,.j (a:Int)),(6,.j (b:Int))]) (mkH 0 []):=by
  intro x y hxy _ _ hab;have hr:1<=qe:=Af
  have hr1:8<=qe:=Af
  have hr2:2<=qe:=Af
  have hr3:16<=qe:=Af
  unfold nxE;simp only[xh,vI,simprocAttr];rcases hab with⟨rfl,rfl⟩|⟨rfl,rfl,hlt⟩
  .have h1:¬(b:Int)<(a:Int):=Ab
   by_cases ha:a<n
   .by_cases hb:b<n
    .by_cases he:b=a
     .have he':(b:Int)=a:=Ab
      refine Sa (zzA h1 (zzA ha (zzA hb (zzA he' he)))) ?_;simp[vZ,vP,zz4,rNt]
     .have he':¬(b:Int)=a:=Ab
      exact Gq
    .exact Di
   .have hb:¬b<n:=Ab
    exact Di
  .have h1:(a:Int)<(b:Int)\/(b:Int)<(a:Int):=Ab
   have h1:(b:Int)<(a:Int):=Ab
   have he:¬a=b:=Ab
   have he':¬(a:Int)=b:=Ab
   by_cases ha:b<n
   .by_cases hb:a<n
    .exact Gq
    .exact Di
   .have hb:¬a<n:=Ab
    exact Di
 exact Ag
def qnk{n a b:Nat}(h:a<=b):nxE n a b=(if a=b then [a]else [a,b]).takeWhile λm=>decide (m<n):=by
 unfold nxE
 by_cases he:a=b
 .subst he
  by_cases ha:a<n<;>simp[ha,List.takeWhile]
 .rw[if_neg he]
  by_cases ha:a<n
  .by_cases hb:b<n
   all_goals simp_all[Ne.symm]
  .have hb:¬b<n:=Ab
   simp[ha,hb,List.takeWhile]
def qL2{g:Nat}(hc:Ck P f (qch g))(hg:qlu P g)(p:List Ins)(hp:p.length<=4096)(j:Nat)(i:Ins)(hj:p[j]?=some i)(hi:InsOk i) :
  qc P f [.fz p.length (rP p),.j (j:Int)] (.fz (qld p.length i j).length (rNt (qld p.length i j))):=by
 refine Ce ?_;have hlt:j<p.length:=Ag
 have hz:¬(j:Int)<0:=Ab
 have hz2:¬(p.length:Int)<=(j:Int):=Ab
 have hz3:¬(4096:Int)<(p.length:Int):=Ab
 have hj1:=wS j
 have hjj:∀a:Int,0<=a->a<=4294967295->IntKind.wrap .i64 (((j+1:Nat):Int)+IntKind.wrap .i64 a)=((j+1+a.toNat:Nat):Int):=B6
 have hk:=hjj i.k hi.k0 hi.k1;have ht:=hjj i.jt hi.t0 (by have:=hi.t1;exact Ab)
 have hf:=hjj i.jf hi.f0 (by have:=hi.f1;exact Ab)
 have g0:=zq (f:=qD) (m:=4) xf hj (i:=0) Ab;have g1:=zq (f:=qD) (m:=4) xf hj (i:=1) Ab;have g2:=zq (f:=qD) (m:=4) xf hj (i:=2) Ab;have g3:=zq (f:=qD) (m:=4) xf hj (i:=3) Ab;rw[show p.flatMap qD=rP p from rfl]at g0 g1 g2 g3
 simp only[qD,Nat.add_zero,zzn,List.getElem?_cons_succ]at g0 g1 g2 g3;have hn0:nxE p.length (j+1) (j+1)=[j+1].takeWhile λm=>decide (m<p.length):=by rw[qnk (zzL _),if_pos rfl]
 have hcl:(xj (qM i.code)).length=3/\(xj (qM i.code))[2]?=some (.y (ql i.code))/\qt (xj (qM i.code))=true:=Ch
 have hgc:=hg i.code;generalize xj (qM i.code)=E at hcl hgc;obtain⟨he1,he2,he3⟩:=hcl;unfold qld;simp only[qch,vI,simprocAttr];simp +decide only[↓vS,vT,simprocAttr,hz,hz2,hz3,hj1,hlt,g0];refine hgc.sc ?_;refine Sa he2 ?_
 have hend:∀(a b:Nat) {t':Tr AV}{h':Hp},nxE p.length (min a b) (max a b)=(wJ i j).takeWhile (λm=>decide (m<p.length))->Wk 0 t' h' (mkT [(0,.fz p.length (rP p)),(5,.j (a:Int)),(6,.j (b:Int))]) (mkH 0 [])->
   S P 0 (xh g) (zQ [.tmp 4] λv' h'=>Frz h' v' (.fz ((wJ i j).takeWhile (λm=>decide (m<p.length))).length (rNt ((wJ i j).takeWhile (λm=>decide (m<p.length)))))) t' h':=by
  intro a b t' h' hE hw;rw[<- hE];exact qB7 g p.length (rP p) (qo p) a b hp hw
 by_cases hA:ql i.code=0\/ql i.code=5
 .have hwl:wJ i j=[]:=by unfold wJ;rw[if_pos hA]
  rw[hwl]
  rcases hA with hA|hA<;>(
   simp +decide only[↓vS,vT,simprocAttr,hA];simp[vZ,List.takeWhile,rNt])
 have h0:¬ql i.code=0:=Ab
 have h5:¬ql i.code=5:=Ab
 by_cases h4:ql i.code=4
 .refine Sa h4 ?_;refine qX ?_;refine Sa (zzA hlt (zzA g0 (zzA g1 (zzA g2 hj1)))) ?_
  by_cases hja:i.code=5
  .have hwl:wJ i j=[j+1+i.k.toNat]:=Ig
   rw[if_pos hja];refine qX ?_;refine Sa (zzA hlt (zzA g3 hj1)) ?_;refine hend (j+1+i.k.toNat) (j+1+i.k.toNat) ?_ (Wk.mk _ _ [] ?_ ?_ ?_ rfl)
   .rw[hwl,Nat.min_self,Nat.max_self,qnk (zzL _),if_pos rfl]
   .simp[vw,qo]
    exact Ag
   .trivial
   .simp
  .rw[if_neg hja];refine hend (j+1+i.jt.toNat) (j+1+i.jf.toNat) ?_ (Wk.mk _ _ [] ?_ ?_ ?_ rfl)
   .have:=hi.t0;have:=hi.f0
    have e1:min (j+1+i.jt.toNat) (j+1+i.jf.toNat)=j+1+(loM i).toNat:=by unfold loM;exact Ga
    have e2:max (j+1+i.jt.toNat) (j+1+i.jf.toNat)=j+1+(hiM i).toNat:=Et
    have e0:(loM i).toNat<=(hiM i).toNat:=by unfold loM hiM;split<;>split<;>omega
    have e3:0<=loM i/\0<=hiM i:=by unfold loM hiM;constructor<;>split<;>omega
    rw[e1,e2,qnk Ab];unfold wJ;rw[if_neg hA,if_pos h4,if_neg hja]
    by_cases he:loM i=hiM i
    .rw[if_pos he,if_pos (by rw[he])]
    .rw[if_neg he,if_neg Ab]
   .simp[vw,qo]
    exact Ae
   .trivial
   .simp
 .have hwl:wJ i j=[j+1]:=by unfold wJ;rw[if_neg hA,if_neg h4]
  refine Sa (zzA h0 (zzA h4 h5)) ?_;refine hend (j+1) (j+1) ?_ (Wk.mk _ _ [] ?_ ?_ ?_ rfl)
  .rw[hwl,Nat.min_self,Nat.max_self];exact Ab
  .simp[vw,qo,hj1]
  .trivial
  .simp
def mkL(L:List Nat)(r:List Bool):List Bool:=L.foldl (λr m=>r.set m true) r
theorem qiw:∀{L:List Nat}{r:List Bool},(mkL L r).length=r.length
 | [],_=>rfl
 | m::L,r=>by show(mkL L (r.set m true)).length=_;rw[qiw];simp
def qrp{m:Nat}{L:List Nat}{r:List Bool}:mkL (m::L) r=mkL L (r.set m true):=rfl
def qtD{n j:Nat}{i:Ins}:∀m ∈ qld n i j,m<n:=λm hm=>by
 unfold qld at hm
 have key:∀l:List Nat,m ∈ l.takeWhile (λm=>decide (m<n))->m<n:=by
  intro l
  induction l with
  | nil=>intro h;cases h
  | cons a l ih =>
   intro h;rw[List.takeWhile_cons]at h;split at h
   .rename_i ha;rcases zzc.1 h with rfl|h
    .exact Ae
    .exact ih h
   .cases h
 exact Ag
def qsN{j:Nat}{i:Ins}:(wJ i j).length<=2:=by
 unfold wJ
 exact Ag
def qoF{n j:Nat}{i:Ins}:(qld n i j).length<=2:=zzg (List.takeWhile_sublist _).length_le qsN
def qky(n:Nat):Nat->List Ins->List Bool->List Bool
 | _,[],r=>r
 | j,i::L,r=>qky n (j+1) L (if r.getD j false=true then mkL (qld n i j) r else r)
def st0(n:Nat):List Bool:=(List.replicate n false).set 0 true
def qtX(n:Nat):(List.replicate n [AV.b false]).flatten=rTt (List.replicate n false):=Az
def qKI(n:Nat):(List.replicate n [AV.h 0]).flatten=rW (List.replicate n 0#16):=Az
def qs2(P:Program)(g:Nat):Prop:=∀p:List Ins,p.length<=4096->∀(j:Nat) (i:Ins),p[j]?=some i->InsOk i->qc P g [.fz p.length (rP p),.j (j:Int)] (.fz (qld p.length i j).length (rNt (qld p.length i j)))
def ju(a:Nat):ICode:=icJ 143 [205,a] 31
def qaS(a:Nat):IFn:=irJ 143 [205,a] [31] [ju a]
def qnt{g:Nat}(hg:qs2 P g)(p:List Ins)(hp:p.length<=4096)(hi:∀i ∈ p,InsOk i)(r0:List Bool)(hr0:r0.length=p.length)
  {t':Tr AV}{h':Hp}(hw:Wk 0 t' h' (mkT [(0,.fz p.length (rP p)),(3,.sl 0 0 p.length p.length false)]) (mkH 0 [.v (rTt r0)])) :
  S P 0 (ju g) (zQ [.tmp 2] λv' h'=>Frz h' v' (.fz p.length (rTt (qky p.length 0 p r0)))) t' h':=by
 refine Ay ?_;simp only[ju,vI,simprocAttr];refine Aa ?_
 refine SL.loop (α:=Nat×List Bool) (λa=>[(0,.fz p.length (rP p)),(3,.sl 0 0 p.length p.length false),(4,.j (a.1:Int))]) (λa=>[.v (rTt a.2)])
  (λa=>a.1<=p.length/\a.2.length=p.length/\qky p.length a.1 (p.drop a.1) a.2=qky p.length 0 p r0) (λa=>p.length-a.1) (0,r0) [0] ?_ ?_ ?_ rfl ?_ ?_
 .exact Iv
 .simp[vw,qa,qA]
 .simp
 .exact Ae
 rintro⟨j,r⟩ ⟨hj,hlr,hI⟩ G ih;simp only at hj hlr hI;refine Ak ?_
 by_cases hlt:j<p.length
 .obtain⟨i,hpi⟩:∃i,p[j]?=some i:=⟨_,zzE hlt⟩;have hii:=hi i Ag
  have hdr:p.drop j=i::p.drop (j+1):=A6
  obtain⟨b,hb⟩:∃b,r[j]?=some b:=⟨_,zzE Ab⟩;have hI2:qky p.length (j+1) (p.drop (j+1)) (if r.getD j false=true then mkL (qld p.length i j) r else r)=qky p.length 0 p r0:=Jx
  rw[zzs,hb,Option.getD_some]at hI2;have hw1:=wS j;cases b with
  | false =>
   rw[if_neg (by simp)]at hI2;simp +decide only[↓vS,vT,simprocAttr,hlt,zzU,vt,hb,zza,hw1];refine ih (j+1,r) ⟨hlt,hlr,hI2⟩ Ab _ _ (Wk.mk _ _ [0] ?_ ?_ ?_ rfl)
   .exact Iv
   .simp[vw,qa,qA]
   .simp
  | true =>
   rw[if_pos rfl]at hI2;refine Em ?_;refine(hg p hp j i hpi hii).sc ?_;have hLlt:=qtD (n:=p.length) (j:=j) (i:=i);have hL2:=qoF (n:=p.length) (j:=j) (i:=i);generalize qld p.length i j=L at hI2 hLlt hL2;refine Aa ?_
   refine SL.loop (α:=Nat×List Bool) (λa=>[(0,.fz p.length (rP p)),(3,.sl 0 0 p.length p.length false),(4,.j (j:Int)),(5,.fz L.length (rNt L)),(6,.j (a.1:Int))]) (λa=>[.v (rTt a.2)])
    (λa=>a.1<=L.length/\a.2.length=p.length/\mkL (L.drop a.1) a.2=mkL L r) (λa=>L.length-a.1) (0,r) [0] ?_ ?_ ?_ rfl ?_ ?_
   .simp[vw,qo,qF]
   .simp[vw,qa,qA]
   .simp
   .exact Ae
   rintro⟨k,r2⟩ ⟨hk,hlr2,hJ⟩ G2 ih2;simp only at hk hlr2 hJ;refine Ak ?_
   by_cases hkl:k<L.length
   .obtain⟨m,hm⟩:∃m,L[k]?=some m:=⟨_,zzE hkl⟩;have hml:=hLlt m Ag
    have hdk:L.drop k=m::L.drop (k+1):=A6
    rw[hdk,qrp]at hJ
    have hw2:IntKind.wrap .i64 ((k:Int)+1)=((k+1:Nat):Int):=by
     rw[qC Ab Ab];exact Ab
    have hs0:m+1<=(rTt r2).length:=by rw[qgP];exact Ab
    have hs1:=qkt (s:=r2) (j:=m) Ab true;simp +decide only[↓vS,vT,simprocAttr,hkl,zzU,qmp,hm,zza,hml,hs0,hs1,hw2];refine ih2 (k+1,r2.set m true) ⟨hkl,Ag,hJ⟩ Ab _ _ (Wk.mk _ _ [0] ?_ ?_ ?_ rfl)
    .simp[vw,qo,qF]
    .simp[vw,qa,qA]
    .simp
   .obtain rfl:k=L.length:=Ab
    rw[List.drop_length]at hJ;have hJ:r2=mkL L r:=hJ;refine Sa (zzA hkl hw1) ?_;refine ih (j+1,r2) ⟨hlt,hlr2,by rw[hJ];exact Ab⟩ Ab _ _ (Wk.mk _ _ [0] ?_ ?_ ?_ rfl)
    .exact Iv
    .simp[vw,qa,qA]
    .simp
 .obtain rfl:j=p.length:=Ab
  rw[List.drop_length]at hI;have hI:r=qky p.length 0 p r0:=hI;rw[<- hI];refine Sa hlt ?_;refine Frz.cut 1 rfl (zzL _) ?_;have ht:(rTt r).take p.length=rTt r:=zzt (by rw[qgP];exact Ab);simp[vZ,vP,zz4,qP qA,ht,qgP,hlr]
def qCN{g:Nat}(hc:Ck P f (qaS g))(hg:qs2 P g)(p:List Ins)(hp:p.length<=4096)(hi:∀i ∈ p,InsOk i):qc P f [.fz p.length (rP p)] (.fz p.length (rTt (qky p.length 0 p (st0 p.length)))):=by
 refine Ce ?_;have hz3:¬(4096:Int)<(p.length:Int):=Ab
 have hr1:p.length<=qe:=by simp only[qe];exact Ab
 have hr3:1*p.length<=qe:=Ab
 simp only[qaS,vI,simprocAttr]
 by_cases h0:p.length=0
 .have h0':¬(0:Int)<(p.length:Int):=Ab
  have hst:st0 p.length=List.replicate p.length false:=by unfold st0;rw[h0];rfl
  rw[hst];simp +decide only[↓vS,vT,simprocAttr,hz3,hr1,hr3,qtX,h0'];refine qnt hg p hp hi (List.replicate p.length false) (by simp) (Wk.mk _ _ [0] ?_ ?_ ?_ rfl)
  .exact Iv
  .simp[vw,qa,qA]
  .simp
 .have h0':(0:Int)<(p.length:Int):=Ab
  have h0n:0<p.length:=Ab
  have hs0:1<=(rTt (List.replicate p.length false)).length:=by rw[qgP];exact Ag
  have hs1:AV.b true::List.drop 1 (rTt (List.replicate p.length false))=rTt (st0 p.length):=qkt (s:=List.replicate p.length false) (j:=0) Ae true;simp +decide only[↓vS,vT,simprocAttr,hz3,hr1,hr3,qtX,h0',h0n,hs0,hs1];refine qnt hg p hp hi (st0 p.length) (by simp[st0]) (Wk.mk _ _ [0] ?_ ?_ ?_ rfl)
  .exact Iv
  .simp[vw,qa,qA]
  .simp
def wrC(i:Ins)(c:Nat):Bool:=(decide (i.code=2)||decide (i.code=3))&&decide (i.k=(c:Int))
def stS(n c j:Nat)(i:Ins)(st:List Bool×List (BitVec 16)):List Bool×List (BitVec 16) :=
 if st.1.getD j false=false then(st.1,st.2.set j (st.2.getD j 0#16 ||| cell c))else if wrC i c=true then st else(mkL (qld n i j) st.1,st.2)
def qiK(n c:Nat):Nat->List Ins->List Bool×List (BitVec 16)->List Bool×List (BitVec 16)
 | _,[],st=>st
 | j,i::L,st=>qiK n c (j+1) L (stS n c j i st)
def qDb{n c j:Nat}{i:Ins}{st:List Bool×List (BitVec 16)}:(stS n c j i st).1.length=st.1.length/\(stS n c j i st).2.length=st.2.length:=by
 unfold stS
 grind[qiw]
def qnF{n c:Nat}:∀{L:List Ins}{j:Nat}{st:List Bool×List (BitVec 16)},(qiK n c j L st).1.length=st.1.length/\(qiK n c j L st).2.length=st.2.length
 | [],_,_=>⟨rfl,rfl⟩
 | i::L,j,st=>by
  show(qiK n c (j+1) L (stS n c j i st)).1.length=_/\(qiK n c (j+1) L (stS n c j i st)).2.length=_;have h1:=qnF (n:=n) (c:=c) (L:=L) (j:=j+1) (st:=stS n c j i st);have h2:=qDb (n:=n) (c:=c) (j:=j) (i:=i) (st:=st);exact Ab
def qwa(p:List Ins):Nat->List (BitVec 16)->List (BitVec 16)
 | 0,out=>out
 | k+1,out=>qwa p k (qiK p.length (16-(k+1)) 0 p (st0 p.length,out)).2
def qp1(p:List Ins):List (BitVec 16):=qwa p 16 (List.replicate p.length 0#16)
def jU(a:Nat):ICode:=icJ 142 [205,a] 919
def jV(a:Nat):ICode:=icJ 142 [205,a] 236695
def jW(a:Nat):ICode:=icJ 142 [205,a] 1875095
def wy(a:Nat):ICode:=icJ 142 [205,a] 7319 [457,57] [jW a,jV a]
def qaT(a:Nat):ICode:=icJ 142 [205,a] 15 [914,114] [wy a,jU a]
def qci(a:Nat):IFn:=irJ 142 [205,a] [15] [qaT a]
def qnG{g:Nat}(p:List Ins)(hp:p.length<=4096)(c j:Nat)(hj:j<p.length)(L:List Nat)(hg:qc P g [.fz p.length (rP p),.j (j:Int)] (.fz L.length (rNt L)))(hLlt:∀m ∈ L,m<p.length)(hL2:L.length<=2)
  (r:List Bool) (hlr:r.length=p.length) (o:List (BitVec 16)) (Q:X->Tr AV->Hp->Prop)
  (hQ:∀t'' h'',Wk 0 t'' h'' (mkT [(0,.fz p.length (rP p)),(3,.sl 0 0 p.length p.length false),(4,.j (c:Int)),(5,.sl 1 0 p.length p.length false),(6,.j (j:Int))]) (mkH 0 [.v (rW o),.v (rTt (mkL L r))])->Q .normal t'' h'')
  {t':Tr AV}{h':Hp}(hw:Wk 0 t' h' (mkT [(0,.fz p.length (rP p)),(3,.sl 0 0 p.length p.length false),(4,.j (c:Int)),(5,.sl 1 0 p.length p.length false),(6,.j (j:Int))]) (mkH 0 [.v (rW o),.v (rTt r)])) :
  S P 0 (jW g) Q t' h':=by
 refine Ay ?_;simp only[jW,vI,simprocAttr];refine Aa ?_;refine hg.sc ?_;refine Aa ?_
 refine SL.loop (α:=Nat×List Bool) (λa=>[(0,.fz p.length (rP p)),(3,.sl 0 0 p.length p.length false),(4,.j (c:Int)),(5,.sl 1 0 p.length p.length false),(6,.j (j:Int)),(7,.fz L.length (rNt L)),(8,.j (a.1:Int))]) (λa=>[.v (rW o),.v (rTt a.2)])
  (λa=>a.1<=L.length/\a.2.length=p.length/\mkL (L.drop a.1) a.2=mkL L r) (λa=>L.length-a.1) (0,r) [0,1] ?_ ?_ ?_ rfl ?_ ?_
 .simp[vw,qo,qF]
 .exact F4
 .simp
 .exact Ae
 rintro⟨k,r2⟩ ⟨hk,hlr2,hJ⟩ G2 ih2;simp only at hk hlr2 hJ;refine Ak ?_
 by_cases hkl:k<L.length
 .obtain⟨m,hm⟩:∃m,L[k]?=some m:=⟨_,zzE hkl⟩;have hml:=hLlt m Ag
  have hdk:L.drop k=m::L.drop (k+1):=A6
  rw[hdk,qrp]at hJ
  have hw2:IntKind.wrap .i64 ((k:Int)+1)=((k+1:Nat):Int):=by
   rw[qC Ab Ab];exact Ab
  have hs0:m+1<=(rTt r2).length:=by rw[qgP];exact Ab
  have hs1:=qkt (s:=r2) (j:=m) Ab true;simp +decide only[↓vS,vT,simprocAttr,hkl,zzU,qmp,hm,zza,hml,hs0,hs1,hw2];refine ih2 (k+1,r2.set m true) ⟨hkl,Ae,hJ⟩ Ab _ _ (Wk.mk _ _ [0,1] ?_ ?_ ?_ rfl)
  .simp[vw,qo,qF]
  .exact F4
  .simp
 .obtain rfl:k=L.length:=Ab
  rw[List.drop_length]at hJ;have hJ:r2=mkL L r:=hJ;refine Sa hkl ?_;rw[<- hJ]at hQ;refine hQ _ _ (Wk.mk _ _ [0,1] ?_ ?_ ?_ rfl)
  .simp[vw,qo,qF]
  .exact F4
  .simp
def qt8{g:Nat}(hg:qs2 P g)(p:List Ins)(hp:p.length<=4096)(hi:∀i ∈ p,InsOk i)(c:Nat)(hc:c<16)(un0:List Bool)(hu0:un0.length=p.length)(out0:List (BitVec 16))(ho0:out0.length=p.length)(Q:X->Tr AV->Hp->Prop)
  (hQ:∀t'' h'',Wk 0 t'' h'' (mkT [(0,.fz p.length (rP p)),(3,.sl 0 0 p.length p.length false),(4,.j (c:Int))]) (mkH 0 [.v (rW (qiK p.length c 0 p (un0,out0)).2)])->Q .normal t'' h'')
  {t':Tr AV}{h':Hp}(hw:Wk 0 t' h' (mkT [(0,.fz p.length (rP p)),(3,.sl 0 0 p.length p.length false),(4,.j (c:Int)),(5,.sl 1 0 p.length p.length false)]) (mkH 0 [.v (rW out0),.v (rTt un0)])) :
  S P 0 (wy g) Q t' h':=by
 refine Ay ?_;have hc0:(0:Int)<=(c:Int):=Ab
 have hsh:qpY .u16 1 (c:Int)=((cell (c:Int)).toNat:Int):=qt2 hc0 Ab;have hcv:IntKind.wrap .u32 (c:Int)=(c:Int):=by show(c:Int) % 4294967296=_;exact Ab
 simp only[wy,vI,simprocAttr];refine Aa ?_
 refine SL.loop (α:=Nat×(List Bool×List (BitVec 16))) (λa=>[(0,.fz p.length (rP p)),(3,.sl 0 0 p.length p.length false),(4,.j (c:Int)),(5,.sl 1 0 p.length p.length false),(6,.j (a.1:Int))]) (λa=>[.v (rW a.2.2),.v (rTt a.2.1)])
  (λa=>a.1<=p.length/\a.2.1.length=p.length/\a.2.2.length=p.length/\qiK p.length c a.1 (p.drop a.1) a.2=qiK p.length c 0 p (un0,out0)) (λa=>p.length-a.1) (0,(un0,out0)) [0,1] ?_ ?_ ?_ rfl ?_ ?_
 .exact Iv
 .exact F4
 .simp
 .exact Ae
 rintro⟨j,r,o⟩ ⟨hj,hlr,hlo,hI⟩ G ih;simp only at hj hlr hlo hI;refine Ak ?_
 by_cases hlt:j<p.length
 .obtain⟨i,hpi⟩:∃i,p[j]?=some i:=⟨_,zzE hlt⟩;have hii:=hi i Ag
  have hdr:p.drop j=i::p.drop (j+1):=A6
  obtain⟨b,hb⟩:∃b,r[j]?=some b:=⟨_,zzE Ab⟩;obtain⟨y,hy⟩:∃y,o[j]?=some y:=⟨_,zzE Ab⟩;have hI2:qiK p.length c (j+1) (p.drop (j+1)) (stS p.length c j i (r,o))=qiK p.length c 0 p (un0,out0):=Jx
  unfold stS at hI2;simp only[zzs,hb,hy,Option.getD_some]at hI2;have hw1:=wS j
  have fin:∀(r2:List Bool) (o2:List (BitVec 16)),r2.length=p.length->o2.length=p.length->qiK p.length c (j+1) (p.drop (j+1)) (r2,o2)=qiK p.length c 0 p (un0,out0)->∀Qc:X->Tr AV->Hp->Prop,(∀t h,G t h->Qc .normal t h)->∀{t':Tr AV}{h':Hp},Wk 0 t' h' (mkT [(0,.fz p.length (rP p)),(3,.sl 0 0 p.length p.length false),(4,.j (c:Int)),(5,.sl 1 0 p.length p.length false),(6,.j (j:Int))]) (mkH 0 [.v (rW o2),.v (rTt r2)])->S P 0 (jV g) Qc t' h':=by
   intro r2 o2 e1 e2 e3 Qc hQc t' h' hw;refine Ay ?_;simp only[jV,vI,simprocAttr];refine Sa hw1 ?_;refine hQc _ _ (ih (j+1,(r2,o2)) Ag Ab _ _ (Wk.mk _ _ [0,1] ?_ ?_ ?_ rfl))
   .exact Iv
   .exact F4
   .simp
  have g0:=zq (f:=qD) (m:=4) xf hpi (i:=0) Ab;have g3:=zq (f:=qD) (m:=4) xf hpi (i:=3) Ab;rw[show p.flatMap qD=rP p from rfl]at g0 g3
  simp only[qD,Nat.add_zero,zzn,List.getElem?_cons_succ]at g0 g3;cases b with
  | false =>
   rw[if_pos rfl]at hI2;have hs0:j+1<=(rW o).length:=by rw[qpT];exact Ab
   have hs1:=qzG (s:=o) (j:=j) Ab (y ||| cell (c:Int))
   refine Em ?_;refine qX ?_;simp +decide only[↓vS,vT,simprocAttr,hlt,zzU,qjy,hy,zza,hc0,hsh,qKA,hs0,hs1];refine fin r (o.set j (y ||| cell (c:Int))) hlr Ag hI2 _ (λ_ _ h=>h) (Wk.mk _ _ [0,1] ?_ ?_ ?_ rfl)
   .exact Iv
   .exact F4
   .simp
  | true =>
   rw[if_neg (by simp)]at hI2
   by_cases hwc:wrC i c=true
   .rw[if_pos hwc]at hI2;have hk:i.k=(c:Int):=by unfold wrC at hwc;exact Ag
    have hcd:i.code=2\/i.code=3:=by unfold wrC at hwc;exact Ag
    rcases hcd with hcd|hcd<;>(
     simp +decide only[↓vS,vT,simprocAttr,hlt,zzU,vt,hb,zza,g0,hcd,g3,hk,hcv];refine fin r o hlr hlo hI2 _ (λ_ _ h=>h) (Wk.mk _ _ [0,1] ?_ ?_ ?_ rfl)
     .simp[vw,qo]
     .simp[vw,qa,qA,qN]
     .simp)
   rw[if_neg hwc]at hI2;have hnx:=hg p hp j i hpi hii;have hLlt:=qtD (n:=p.length) (j:=j) (i:=i);have hL2:=qoF (n:=p.length) (j:=j) (i:=i);generalize qld p.length i j=L at hI2 hLlt hL2 hnx
   have hcs:¬(i.code=2\/i.code=3)\/¬i.k=(c:Int):=by
    unfold wrC at hwc;exact Ag
   by_cases e2:i.code=2
   .have hk:¬i.k=(c:Int):=Ab
    simp +decide only[↓vS,vT,simprocAttr,hlt,zzU,vt,hb,zza,g0,e2,g3,hk,hcv];refine qnG p hp c j hlt L hnx hLlt hL2 r hlr o _ ?_ (Wk.mk _ _ [0,1] ?_ ?_ ?_ rfl)
    .intro t'' h'' hw2;refine Aa ?_;exact fin (mkL L r) o (by rw[qiw];exact Ab) hlo hI2 _ (λ_ _ h=>h) hw2
    .exact Iv
    .exact F4
    .simp
   by_cases e3:i.code=3
   .have hk:¬i.k=(c:Int):=Ab
    simp +decide only[↓vS,vT,simprocAttr,hlt,zzU,vt,hb,zza,g0,e3,g3,hk,hcv];refine qnG p hp c j hlt L hnx hLlt hL2 r hlr o _ ?_ (Wk.mk _ _ [0,1] ?_ ?_ ?_ rfl)
    .intro t'' h'' hw2;refine Aa ?_;exact fin (mkL L r) o (by rw[qiw];exact Ab) hlo hI2 _ (λ_ _ h=>h) hw2
    .exact Iv
    .exact F4
    .simp
   simp +decide only[↓vS,vT,simprocAttr,hlt,zzU,vt,hb,zza,g0,e2,e3];refine qnG p hp c j hlt L hnx hLlt hL2 r hlr o _ ?_ (Wk.mk _ _ [0,1] ?_ ?_ ?_ rfl)
   .intro t'' h'' hw2;refine Aa ?_;exact fin (mkL L r) o (by rw[qiw];exact Ab) hlo hI2 _ (λ_ _ h=>h) hw2
   .exact Iv
   .exact F4
   .simp
 .obtain rfl:j=p.length:=Ab
  rw[List.drop_length]at hI;have hI:(r,o)=qiK p.length c 0 p (un0,out0):=hI;rw[<- hI]at hQ;refine Sa hlt ?_;refine hQ _ _ (Wk.mk _ _ [0] ?_ ?_ ?_ rfl)
  .exact Iv
  .simp[vw,qa,qN]
  .simp
def qoZ{p:List Ins}{k:Nat}{out:List (BitVec 16)}:qwa p (k+1) out=qwa p k (qiK p.length (16-(k+1)) 0 p (st0 p.length,out)).2:=rfl
def qIH{g:Nat}(hc:Ck P f (qci g))(hg:qs2 P g)(p:List Ins)(hp:p.length<=4096)(hi:∀i ∈ p,InsOk i):qc P f [.fz p.length (rP p)] (.fz p.length (rW (qp1 p))):=by
 refine Ce ?_;have hz3:¬(4096:Int)<(p.length:Int):=Ab
 have hr1:p.length<=qe:=by simp only[qe];exact Ab
 have hr2:2*p.length<=qe:=by simp only[qe];exact Ab
 have hr3:1*p.length<=qe:=Ab
 simp only[qci,vI,simprocAttr];refine Sa (zzA hz3 (zzA hr1 (zzA hr2 @qKI))) ?_;refine qh ?_;simp only[qaT,vI,simprocAttr];refine Aa ?_
 refine SL.loop (α:=Nat×List (BitVec 16)) (λa=>[(0,.fz p.length (rP p)),(3,.sl 0 0 p.length p.length false),(4,.j (a.1:Int))]) (λa=>[.v (rW a.2)])
  (λa=>a.1<=16/\a.2.length=p.length/\qwa p (16-a.1) a.2=qp1 p) (λa=>16-a.1) (0,List.replicate p.length 0#16) [0] ?_ ?_ ?_ rfl ?_ ?_
 .exact Iv
 .simp[vw,qa,qN]
 .simp
 .exact⟨zzu _,by simp,rfl⟩
 rintro⟨c,o⟩ ⟨hc16,hlo,hI⟩ G ih;simp only at hc16 hlo hI;refine Ak ?_
 by_cases hlt:c<16
 .have hlt':(c:Int)<16:=Ab
  have e16:16-c=(15-c)+1:=Ab
  rw[e16,qoZ,show 16-(15-c+1)=c from Ab,show 15-c=16-(c+1)from Ab]at hI
  have hw1:=wS c;have hsl:=qnF (n:=p.length) (c:=c) (L:=p) (j:=0) (st:=(st0 p.length,o));have hst:(st0 p.length).length=p.length:=by simp[st0]
  have fin:∀Qc:X->Tr AV->Hp->Prop,(∀t h,G t h->Qc .normal t h)->∀{t':Tr AV}{h':Hp},Wk 0 t' h' (mkT [(0,.fz p.length (rP p)),(3,.sl 0 0 p.length p.length false),(4,.j (c:Int))]) (mkH 0 [.v (rW (qiK p.length c 0 p (st0 p.length,o)).2)])->S P 0 (jU g) Qc t' h':=by
   intro Qc hQc t' h' hw;refine Ay ?_;simp only[jU,vI,simprocAttr];refine Sa hw1 ?_;refine hQc _ _ (ih (c+1,_) ⟨hlt,hsl.2.trans hlo,hI⟩ Ab _ _ (Wk.mk _ _ [0] ?_ ?_ ?_ rfl))
   .exact Iv
   .simp[vw,qa,qN]
   .simp
  by_cases h0:p.length=0
  .have h0':¬(0:Int)<(p.length:Int):=Ab
   have hst2:st0 p.length=List.replicate p.length false:=Ag
   simp +decide only[↓vS,vT,simprocAttr,hlt',hr1,hr3,qtX,h0'];refine qt8 hg p hp hi c hlt (st0 p.length) hst o hlo _ ?_ (Wk.mk _ _ [0,1] ?_ ?_ ?_ rfl)
   .intro t'' h'' hw2;refine Aa ?_;exact fin _ (λ_ _ h=>h) hw2
   .exact Iv
   .simp[vw,qa,qA,qN,hst2]
   .simp
  .have h0':(0:Int)<(p.length:Int):=Ab
   have h0n:0<p.length:=Ab
   have hs0:1<=(rTt (List.replicate p.length false)).length:=by rw[qgP];exact Ag
   have hs1:AV.b true::List.drop 1 (rTt (List.replicate p.length false))=rTt (st0 p.length):=qkt (s:=List.replicate p.length false) (j:=0) Ag true;simp +decide only[↓vS,vT,simprocAttr,hlt',hr1,hr3,qtX,h0',h0n,hs0,hs1];refine qt8 hg p hp hi c hlt (st0 p.length) hst o hlo _ ?_ (Wk.mk _ _ [0,1] ?_ ?_ ?_ rfl)
   .intro t'' h'' hw2;refine Aa ?_;exact fin _ (λ_ _ h=>h) hw2
   .exact Iv
   .exact F4
   .simp
 .obtain rfl:c=16:=Ab
  have hI:o=qp1 p:=hI;rw[<- hI];refine Aa ?_;refine Frz.cut 1 rfl (zzL _) ?_;have ht:(rW o).take p.length=rW o:=zzt (by rw[qpT];exact Ab);simp[vZ,vP,zz4,qP qN,ht,qpT,hlo]
def rdC(i:Ins):Bool:=(decide (i.code=96)||decide (i.code=97))&&decide (i.k<16)
def unC(rch:List Bool)(sur:List (BitVec 16))(j:Nat)(i:Ins):Bool:=rch.getD j false&&rdC i && !(sur.getD j 0#16).getLsbD i.k.toNat
def qlp(rch:List Bool)(sur:List (BitVec 16)):Nat->List Ins->List Nat->List Nat
 | _,[],l=>l
 | j,i::L,l=>qlp rch sur (j+1) L (if unC rch sur j i=true then l++[j]else l)
def qlo(p:List Ins):List Nat:=qlp (qky p.length 0 p (st0 p.length)) (qp1 p) 0 p []
def qJi(x:BitVec 16){k:Int}(h0:0<=k)(h:k<16):(qsF .u16 (x.toNat:Int) k).tmod 2=if x.getLsbD k.toNat=true then 1 else 0:=by
 have hm:min k.toNat 16=k.toNat:=Ab
 unfold qsF;rw[show IntKind.bits .u16=16 from rfl,hm]
 have hp:(2:Int) ^ k.toNat=((2 ^ k.toNat:Nat):Int):=by simp
 rw[hp,Int.fdiv_eq_ediv_of_nonneg _ Ag,<- Int.natCast_ediv];rw[BitVec.getLsbD,Nat.testBit_eq_decide_div_mod_eq];have:((x.toNat / 2 ^ k.toNat:Nat):Int).tmod 2=((x.toNat / 2 ^ k.toNat % 2:Nat):Int):=by rw[Int.tmod_eq_emod_of_nonneg Ag];exact Ab
 rw[this]
 exact Ag
def jv(a b:Nat):ICode:=icJ 83 [142,a,143,b] 919
def jw(a b:Nat):ICode:=icJ 83 [142,a,143,b] 3223
def qa9(a b:Nat):IFn:=irJ 83 [142,a,143,b] [3223,919] [jw a b,jv a b]
def qIO{g1 g2:Nat}(hc:Ck P f (qa9 g1 g2))
  (h1:∀p:List Ins,p.length<=4096->(∀i ∈ p,InsOk i)->qc P g1 [.fz p.length (rP p)] (.fz p.length (rW (qp1 p))))
  (h2:∀p:List Ins,p.length<=4096->(∀i ∈ p,InsOk i)->qc P g2 [.fz p.length (rP p)] (.fz p.length (rTt (qky p.length 0 p (st0 p.length)))))
  (p:List Ins) (hp:p.length<=4096) (hi:∀i ∈ p,InsOk i) (hsl:(qp1 p).length=p.length) (hrl:(qky p.length 0 p (st0 p.length)).length=p.length):qc P f [.fz p.length (rP p)] (.fz (qlo p).length (rNt (qlo p))):=by
 refine Ce ?_;simp only[qa9,vI,simprocAttr];refine Aa ?_;refine(h1 p hp hi).sc ?_;refine Aa ?_;refine(h2 p hp hi).sc ?_;refine Aa ?_;unfold qlo;generalize qp1 p=sur at hsl ⊢;generalize qky p.length 0 p (st0 p.length)=rch at hrl ⊢
 refine SL.loop (α:=Nat×List Nat) (λa=>[(0,.fz p.length (rP p)),(3,.own 0 a.2.length),(4,.fz p.length (rW sur)),(5,.fz p.length (rTt rch)),(6,.j (a.1:Int))]) (λa=>[.cells 1 true true (rNt a.2)])
  (λa=>a.1<=p.length/\a.2.length<=a.1/\qlp rch sur a.1 (p.drop a.1) a.2=qlp rch sur 0 p []) (λa=>p.length-a.1) (0,[]) [99] ?_ ?_ ?_ rfl ?_ ?_
 .simp[vw,qo,qN,qA]
 .simp[vw]
 .simp
 .exact Ae
 rintro⟨j,l⟩ ⟨hj,hl,hI⟩ G ih;simp only at hj hl hI;refine Ak ?_
 by_cases hlt:j<p.length
 .obtain⟨i,hpi⟩:∃i,p[j]?=some i:=⟨_,zzE hlt⟩;have hii:=hi i Ag
  have hdr:p.drop j=i::p.drop (j+1):=A6
  obtain⟨b,hb⟩:∃b,rch[j]?=some b:=⟨_,zzE Ab⟩;obtain⟨y,hy⟩:∃y,sur[j]?=some y:=⟨_,zzE Ab⟩;have hI2:qlp rch sur (j+1) (p.drop (j+1)) (if unC rch sur j i=true then l++[j]else l)=qlp rch sur 0 p []:=Jx
  have hw1:=wS j;have g0:=zq (f:=qD) (m:=4) xf hpi (i:=0) Ab;have g3:=zq (f:=qD) (m:=4) xf hpi (i:=3) Ab;rw[show p.flatMap qD=rP p from rfl]at g0 g3
  simp only[qD,Nat.add_zero,zzn,List.getElem?_cons_succ]at g0 g3
  have fin:∀l2:List Nat,l2.length<=j+1->qlp rch sur (j+1) (p.drop (j+1)) l2=qlp rch sur 0 p []->∀Qc:X->Tr AV->Hp->Prop,(∀t h,G t h->Qc .normal t h)->∀{t':Tr AV}{h':Hp},Wk 0 t' h' (mkT [(0,.fz p.length (rP p)),(3,.own 0 l2.length),(4,.fz p.length (rW sur)),(5,.fz p.length (rTt rch)),(6,.j (j:Int))]) (mkH 0 [.cells 1 true true (rNt l2)])->S P 0 (jv g1 g2) Qc t' h':=by
   intro l2 e1 e2 Qc hQc t' h' hw;refine Ay ?_;simp only[jv,vI,simprocAttr];refine Sa hw1 ?_;refine hQc _ _ (ih (j+1,l2) ⟨hlt,e1,e2⟩ Ab _ _ (Wk.mk _ _ [0] ?_ ?_ ?_ rfl))
   .simp[vw,qo,qN,qA]
   .exact Hm
   .simp
  have c40:∀Qc:X->Tr AV->Hp->Prop,(∀l2 t'' h'',l2.length<=j+1->qlp rch sur (j+1) (p.drop (j+1)) l2=qlp rch sur 0 p []->Wk 0 t'' h'' (mkT [(0,.fz p.length (rP p)),(3,.own 0 l2.length),(4,.fz p.length (rW sur)),(5,.fz p.length (rTt rch)),(6,.j (j:Int))]) (mkH 0 [.cells 1 true true (rNt l2)])->Qc .normal t'' h'')->∀{t':Tr AV}{h':Hp},Wk 0 t' h' (mkT [(0,.fz p.length (rP p)),(3,.own 0 l.length),(4,.fz p.length (rW sur)),(5,.fz p.length (rTt rch)),(6,.j (j:Int)),(7,.b (rdC i))]) (mkH 0 [.cells 1 true true (rNt l)])->S P 0 (jw g1 g2) Qc t' h':=by
   intro Qc hQc t' h' hw;refine Ay ?_;have h20:(2:Int)≠0:=Af
   have hr1:l.length+1<=qe:=by simp only[qe];exact Ab
   have hr2:(l.length+1)*8<=qe:=by simp only[qe];exact Ab
   have hap:rNt l++[.j (j:Int)]=rNt (l++[j]):=Ip
   have hll:(rNt l).length=l.length:=qiB;have hk0:=hii.k0;unfold unC at hI2;simp only[zzs,hb,hy,Option.getD_some]at hI2;simp only[jw,vI,simprocAttr];refine qX ?_;cases b with
   | false =>
    refine Em ?_;rw[if_neg (by simp)]at hI2;refine hQc l _ _ Ab hI2 (Wk.mk _ _ [0] ?_ ?_ ?_ rfl)
    .simp[vw,qo,qN,qA]
    .exact Hm
    .simp
   | true =>
   cases hrc:rdC i with
   | false =>
    rw[hrc]at hI2;refine Em ?_;rw[if_neg (by simp)]at hI2;refine hQc l _ _ Ab hI2 (Wk.mk _ _ [0] ?_ ?_ ?_ rfl)
    .simp[vw,qo,qN,qA]
    .exact Hm
    .simp
   | true =>
   have hk16:i.k<16:=by unfold rdC at hrc;exact Ag
   have hbt:=qJi y hk0 hk16;rw[hrc]at hI2;cases hbb:y.getLsbD i.k.toNat with
   | true =>
    rw[hbb]at hI2 hbt;rw[if_pos rfl]at hbt;simp +decide only[↓vS,vT,simprocAttr,hlt,zzU,vt,hb,zza,qjy,hy,g3,hk0,↓zW h20,hbt];rw[if_neg (by simp)]at hI2;refine hQc l _ _ Ab hI2 (Wk.mk _ _ [0] ?_ ?_ ?_ rfl)
    .simp[vw,qo,qN,qA]
    .exact Hm
    .simp
   | false =>
    rw[hbb]at hI2 hbt;rw[if_neg (by simp)]at hbt;rw[if_pos (by simp)]at hI2;simp +decide only[↓vS,vT,simprocAttr,hlt,zzU,vt,hb,zza,qjy,hy,g3,hk0,↓zW h20,hbt,hr1,hr2,hll,hap];refine hQc (l++[j]) _ _ Ag hI2 (Wk.mk _ _ [2] ?_ ?_ ?_ rfl)
    .simp[vw,qo,qN,qA]
    .exact Hm
    .simp
  clear ih
  by_cases hk16:i.k<16
  .by_cases e1:i.code=96
   .have hrc:rdC i=true:=by unfold rdC;exact Ae
    refine Sa (zzA hlt (zzA g0 (zzA g3 (zzA e1 hk16)))) ?_;refine c40 _ ?_ (Wk.mk _ _ [0] ?_ ?_ ?_ rfl)
    .intro l2 t'' h'' q1 q2 hw2;refine Aa ?_;exact C3
    .exact Hn
    .exact Hm
    .simp
   by_cases e2:i.code=97
   .have hrc:rdC i=true:=by unfold rdC;exact Ae
    simp +decide only[↓vS,vT,simprocAttr,hlt,g0,g3,e1,e2,hk16];refine c40 _ ?_ (Wk.mk _ _ [0] ?_ ?_ ?_ rfl)
    .intro l2 t'' h'' q1 q2 hw2;refine Aa ?_;exact C3
    .exact Hn
    .exact Hm
    .simp
   have hrc:rdC i=false:=by unfold rdC;exact Ae
   refine Sa (zzA hlt (zzA g0 (zzA g3 (zzA e1 e2)))) ?_;refine c40 _ ?_ (Wk.mk _ _ [0] ?_ ?_ ?_ rfl)
   .intro l2 t'' h'' q1 q2 hw2;refine Aa ?_;exact C3
   .exact Hn
   .exact Hm
   .simp
  .have hrc:rdC i=false:=by unfold rdC;exact Ae
   by_cases e1:i.code=96
   .refine Sa (zzA hlt (zzA g0 (zzA g3 (zzA e1 hk16)))) ?_;refine c40 _ ?_ (Wk.mk _ _ [0] ?_ ?_ ?_ rfl)
    .intro l2 t'' h'' q1 q2 hw2;refine Aa ?_;exact C3
    .exact Hn
    .exact Hm
    .simp
   by_cases e2:i.code=97
   .simp +decide only[↓vS,vT,simprocAttr,hlt,g0,g3,e1,e2,hk16];refine c40 _ ?_ (Wk.mk _ _ [0] ?_ ?_ ?_ rfl)
    .intro l2 t'' h'' q1 q2 hw2;refine Aa ?_;exact C3
    .exact Hn
    .exact Hm
    .simp
   refine Sa (zzA hlt (zzA g0 (zzA g3 (zzA e1 e2)))) ?_;refine c40 _ ?_ (Wk.mk _ _ [0] ?_ ?_ ?_ rfl)
   .intro l2 t'' h'' q1 q2 hw2;refine Aa ?_;exact C3
   .exact Hn
   .exact Hm
   .simp
 .obtain rfl:j=p.length:=Ab
  rw[List.drop_length]at hI;have hI:l=qlp rch sur 0 p []:=hI;rw[<- hI];refine Sa hlt ?_;exact Gx
def spN:List (List UInt8):=[[108,100,97,98,115],[108,100,109],[108,100,120,109],[115,116],[115,116,120],[100,105,118],[108,115,104],[114,115,104],[106,97]]
def spC:List Int:=[32,96,97,2,3,52,100,116,5]
def qwc:∀x ∈ vf,spC.contains x.1=false->spN.contains x.2.1=false/\x.2.1≠[]/\x.2.2≠2:=Af
theorem wY{c:Int}{x:Int×List UInt8×Int}(h:qM c=some x):x ∈ vf/\x.1=c:=by
 unfold qM at h;have h1:=List.mem_of_find?_eq_some h;have h2:=List.find?_some h
 exact Ae
def qcD(a:Nat):IFn:=irJ 81 [82,a]
def qMJ{g:Nat}(hc:Ck P f (qcD g))(hg:qlu P g)(i:Ins)(hi:InsOk i)(n:Nat)(hn:n<=5000):qc P f [.agg (qD i),.j n] (.j (qc3 i n)):=by
 refine Al ?_;have hn0:¬(n:Int)<0:=Ab
 have h40:(4:Int)≠0:=Af
 have hk0:=hi.k0;have ht:i.k.tmod 4=i.k % 4:=Ag
 have hk:IntKind.wrap .i64 i.k=i.k:=by have:=hi.k1;exact B6
 have hjt:IntKind.wrap .i64 i.jt=i.jt:=by have:=hi.t0;have:=hi.t1;exact B6
 have hjf:IntKind.wrap .i64 i.jf=i.jf:=by have:=hi.f0;have:=hi.f1;exact B6
 have hgc:=hg i.code;simp only[qcD,qD,vI,simprocAttr];refine Sa hn0 ?_;refine hgc.sc ?_;cases hcm:qM i.code with
 | none =>
  have hb:qgr i=true:=by unfold qgr zI;rw[hcm];rfl
  unfold qc3;rw[if_pos hb];exact Df
 | some x =>
  obtain⟨hxm,hxc⟩:=wY hcm;have hb1:qgr i=false:=by unfold qgr zI;rw[hcm];rfl
  have hcl:ql i.code=x.2.2:=F5
  unfold qc3;rw[hb1];simp only[xj,wR]
  by_cases hs:spC.contains x.1=false
  .obtain⟨hn1,hn2,hn3⟩:=qwc x hxm hs;rw[hxc]at hs;simp[spC]at hs;obtain⟨s1,s2,s3,s4,s5,s6,s7,s8,s9⟩:=hs;simp[spN]at hn1;obtain⟨m1,m2,m3,m4,m5,m6,m7,m8,m9⟩:=hn1;have hb2:vx i=false:=by unfold vx;exact Ag
   have hb3:qaX i=false:=by unfold qaX;exact Ae
   have hb4:qaY i=false:=by unfold qaY;exact Ag
   have hb5:qaZ i=false:=by unfold qaZ;exact Ae
   have hb6:qa0 i n=(decide (x.2.2=4)&&decide ((n:Int)<=hiM i)):=by unfold qa0;rw[if_neg s9,hcl]
   rw[hb2,hb3,hb4,hb5,hb6];generalize x.2.1=nm at *
   by_cases h4:x.2.2=4
   .by_cases hj1:(n:Int)<=i.jt
    .have hh:(n:Int)<=hiM i:=Et
     simp +decide only[↓vS,vT,simprocAttr,hn2,m1,m2,m3,m4,m5,m6,m7,m8,m9,h4,hjt,hj1];simp[vZ,h4,hh]
    .by_cases hj2:(n:Int)<=i.jf
     .have hh:(n:Int)<=hiM i:=Et
      exact Ez
     .have hh:¬(n:Int)<=hiM i:=Et
      exact Ez
   .simp +decide only[↓vS,vT,simprocAttr,hn2,m1,m2,m3,m4,m5,m6,m7,m8,m9,h4];simp[vZ,h4]
  .have hs':i.code=32\/i.code=96\/i.code=97\/i.code=2\/i.code=3\/i.code=52\/i.code=100\/i.code=116\/i.code=5:=by
    rw[hxc]at hs;simp only[spC,Bool.not_eq_false,List.contains_iff_mem,zzc,List.not_mem_nil,or_false]at hs;exact hs
   clear hs;rcases hs' with hcd|hcd|hcd|hcd|hcd|hcd|hcd|hcd|hcd
   .have hx:x=(32,[108,100,97,98,115],1):=by rw[hcd]at hcm;exact Option.some.inj (hcm.symm.trans Af)
    subst hx;rw[hcd]at hcl;simp only at hcl
    by_cases hq:60<i.k
    .refine Sa (zzA hcd hq) ?_
     by_cases h64:64<=i.k
     .simp[vZ,vx,hcd,h64]
     .have:¬i.k % 4=0:=Ab
      simp[vZ,vx,hcd,this]
    by_cases hq2:i.k % 4=0
    .have h64:¬64<=i.k:=Ab
     simp +decide only[↓vS,vT,simprocAttr,hcd,hq,↓zW h40,ht,hq2];simp[vZ,vx,qaX,qaY,qaZ,qa0,hcd,hcl,hq2,h64]
    .have hq3:0<i.k % 4:=Ab
     simp +decide only[↓vS,vT,simprocAttr,hcd,hq,↓zW h40,ht,hq3];simp[vZ,vx,hcd,hq2]
   .have hx:x=(96,[108,100,109],1):=by rw[hcd]at hcm;exact Option.some.inj (hcm.symm.trans Af)
    subst hx;rw[hcd]at hcl;simp only at hcl
    by_cases hq:15<i.k
    .have hq2:16<=i.k:=Ab
     exact Aj
    .have hq2:¬16<=i.k:=Ab
     exact Aj
   .have hx:x=(97,[108,100,120,109],1):=by rw[hcd]at hcm;exact Option.some.inj (hcm.symm.trans Af)
    subst hx;rw[hcd]at hcl;simp only at hcl
    by_cases hq:15<i.k
    .have hq2:16<=i.k:=Ab
     exact Aj
    .have hq2:¬16<=i.k:=Ab
     exact Aj
   .have hx:x=(2,[115,116],2):=by rw[hcd]at hcm;exact Option.some.inj (hcm.symm.trans Af)
    subst hx;rw[hcd]at hcl;simp only at hcl
    by_cases hq:15<i.k
    .have hq2:16<=i.k:=Ab
     exact Aj
    .have hq2:¬16<=i.k:=Ab
     exact Aj
   .have hx:x=(3,[115,116,120],2):=by rw[hcd]at hcm;exact Option.some.inj (hcm.symm.trans Af)
    subst hx;rw[hcd]at hcl;simp only at hcl
    by_cases hq:15<i.k
    .have hq2:16<=i.k:=Ab
     exact Aj
    .have hq2:¬16<=i.k:=Ab
     exact Aj
   .have hx:x=(52,[100,105,118],3):=by rw[hcd]at hcm;exact Option.some.inj (hcm.symm.trans Af)
    subst hx;rw[hcd]at hcl;simp only at hcl
    by_cases hq:i.k=0
    .have hq2:=hq;exact Aj
    .have hq2:=hq;exact Aj
   .have hx:x=(100,[108,115,104],3):=by rw[hcd]at hcm;exact Option.some.inj (hcm.symm.trans Af)
    subst hx;rw[hcd]at hcl;simp only at hcl
    by_cases hq:31<i.k
    .have hq2:=hq;exact Aj
    .have hq2:=hq;exact Aj
   .have hx:x=(116,[114,115,104],3):=by rw[hcd]at hcm;exact Option.some.inj (hcm.symm.trans Af)
    subst hx;rw[hcd]at hcl;simp only at hcl
    by_cases hq:31<i.k
    .have hq2:=hq;exact Aj
    .have hq2:=hq;exact Aj
   .have hx:x=(5,[106,97],4):=by rw[hcd]at hcm;exact Option.some.inj (hcm.symm.trans Af)
    subst hx;rw[hcd]at hcl;simp only at hcl
    by_cases hq:(n:Int)<=i.k
    .have hq2:=hq;exact Aj
    .have hq2:=hq;exact Aj
def qqs(P:Program)(f:Nat):Prop:=∀p:List Ins,(∀i ∈ p,InsOk i)->p.length<=5000->qc P f [.fz p.length (rP p)] (.tup [.j ((atU p (qlo p)).1:Int),.j (atU p (qlo p)).2])
def qds(a b c:Nat):IFn:=irJ 36 [81,a,82,b,83,c]
def qMX{g1 g2 g3:Nat}(hc:Ck P f (qds g1 g2 g3))(h1:∀i,InsOk i->∀n:Nat,n<=5000->qc P g1 [.agg (qD i),.j (n:Int)] (.j (qc3 i n)))(h2:qlu P g2)
  (h3:∀p:List Ins,p.length<=4096->(∀i ∈ p,InsOk i)->qc P g3 [.fz p.length (rP p)] (.fz (qlo p).length (rNt (qlo p)))):qqs P f:=by
 intro p hi hp;refine Ce ?_;unfold atU;simp only[qds,vI,simprocAttr]
 by_cases hz:p.length=0
 .have hz':(p.length:Int)=0:=Ab
  have hp0:p=[]:=Ae
  rw[if_pos (.inl hz)];subst hp0;simp +decide only[↓vS,vT,simprocAttr,hz',List.length_nil];simp[vZ]
 have hz':¬(p.length:Int)=0:=Ab
 by_cases hb:4096<p.length
 .have hb':(4096:Int)<p.length:=Ab
  rw[if_pos (.inr hb)];exact Ij
 have hb':¬(4096:Int)<p.length:=Ab
 rw[if_neg Ab];have hl1:IntKind.wrap .i64 ((p.length:Int)-1)=((p.length-1:Nat):Int):=by rw[qC Ab Ab];exact Ab
 refine Sa (zzA hz' hb') ?_;refine SL.loop (α:=Nat) (λj=>[(0,.fz p.length (rP p)),(4,.j (j:Int))]) (λ_=>[]) (λj=>j<=p.length/\qeX p.length j (p.drop j)=qeX p.length 0 p) (λj=>p.length-j) 0 [] ?_ ?_ ?_ rfl ?_ ?_
 .exact Iv
 .trivial
 .simp
 .exact Ae
 rintro j ⟨hj,hI⟩ G ih;refine Ak ?_
 by_cases hlt:j<p.length
 .obtain⟨i,hpi⟩:∃i,p[j]?=some i:=⟨_,zzE hlt⟩;have hii:=hi i Ag;have hel:=qS (f:=qD) (m:=4) xf hpi;rw[show p.flatMap qD=rP p from rfl]at hel
  simp only[qD]at hel;have h4:j*4+4<=(rP p).length:=by rw[qdS];exact Ab
  have hdr:p.drop j=i::p.drop (j+1):=A6
  rw[hdr,qeo]at hI;have hw1:=wS j;have hw2:IntKind.wrap .i64 (((p.length-1:Nat):Int)-(j:Int))=((p.length-1-j:Nat):Int):=by rw[qC Ab Ab];exact Ab
  have hone:=h1 i hii (p.length-1-j) Ab;simp only[qD]at hone;refine Sa (zzA hlt (zzA hel (zzA h4 (zzA hl1 hw2)))) ?_;refine hone.sc ?_
  by_cases h0:qc3 i (p.length-1-j)=0
  .rw[if_pos h0]at hI;refine Sa (zzA h0 hw1) ?_;refine ih (j+1) ⟨hlt,hI⟩ Ab _ _ (Wk.mk _ _ [] ?_ ?_ ?_ rfl)
   .exact Iv
   .trivial
   .simp
  .exact Jp
 .obtain rfl:j=p.length:=Ab
  have hd:p.drop p.length=[]:=Ae
  rw[hd]at hI;simp only[qeX]at hI;rw[<- hI];obtain⟨i,hpi⟩:∃i,p[p.length-1]?=some i:=⟨_,zzE Ab⟩;have hlc:qfg p=i.code:=by unfold qfg;rw[zzs,hpi];rfl
  have hg:=zq (f:=qD) (m:=4) xf hpi (i:=0) Ab;rw[show p.flatMap qD=rP p from rfl]at hg
  simp only[qD,Nat.add_zero,zzn]at hg;have hlt2:p.length-1<p.length:=Ab
  have hcl:(xj (qM i.code)).length=3/\(xj (qM i.code))[2]?=some (.y (ql i.code))/\qt (xj (qM i.code))=true:=Ch
  have hgc:=h2 i.code;generalize xj (qM i.code)=E at hcl hgc;obtain⟨he1,he2,he3⟩:=hcl;refine Sa (zzA hlt (zzA hlt2 (zzA hl1 hg))) ?_;refine hgc.sc ?_
  by_cases h5:ql i.code=5
  .refine Sa (zzA he2 h5) ?_;refine(h3 p Ab hi).sc ?_;rw[hlc];cases hu:qlo p with
   | nil =>
    exact Hx
   | cons a u =>
    have hgt2:0<(a::u).length:=by simp
    have hga:(rNt (a::u))[0]?=some (.j (a:Int)):=rfl;generalize(a::u).length=m at hgt2 ⊢;generalize rNt (a::u)=T at hga ⊢;have hgt:(0:Int)<(m:Int):=Ab
    exact Hs
  .refine Sa (zzA he2 (zzA h5 hl1)) ?_;rw[hlc];simp[vZ,h5]
end
section
theorem qsJ:∀x ∈ vf,x.2.2=2->x.1=2\/x.1=3:=Af
def qFb{c:Int}:ql c=2↔c=2\/c=3:=by
 constructor
 .intro h;unfold ql at h;cases hc:qM c<;>grind[wY,qsJ]
 .rintro (rfl|rfl)<;>decide
section
variable (p:List Ins)
def qrN:∀(m:Nat) (out:List (BitVec 16)),(qwa p m out).length=out.length
 | 0,_=>rfl
 | m+1,out=>by rw[qoZ,qrN m,qnF.2]
def qKQ:(qp1 p).length=p.length:=by unfold qp1;rw[qrN];simp
def qzI{n:Nat}:∀(L:List Ins) (j:Nat) (r:List Bool),(qky n j L r).length=r.length
 | [],_,_=>rfl
 | i::L,j,r=>by
  show(qky n (j+1) L _).length=_;rw[qzI L];grind[qiw]
end
end
section
variable {P:Program}{f:Nat}
structure Prg where
 dir:Int
 arch:Int
 ins:List Ins
def cPr(x:Prg):List AV:=[.j x.dir,.j x.arch,.fz x.ins.length (rP x.ins)]
def qeY(x:Prg):(cPr x).length=3:=rfl
def rPr(l:List Prg):List AV:=l.flatMap cPr
def qpP(l:List Prg):(rPr l).length=l.length*3:=qY qeY l
def jh(l:List Prg):qt (rPr l)=true:=jk (λx=>by simp[cPr,qt,clo,qo])
def qCI(p q:List Prg):rPr (p++q)=rPr p++rPr q:=List.flatMap_append
def jn:IFn:=irJ 150 []
def qtl(hc:Ck P f jn):qcN 3 P f:=by
 intro α enc p g a c l hlen ha hc' hl hp;refine Cv ?_;simp only[jn,vI,simprocAttr];refine Ac ?_;refine SL.loop (α:=Nat) (λj=>[(0,.fz l.length (l.flatMap enc)),(1,.fn g a c),(7,.j l.length),(8,.j j)]) (λ_=>[]) (λj=>j<=l.length/\zL p l 0=zL p (l.drop j) j) (λj=>l.length-j) 0 [] ?_ ?_ ?_ rfl ?_ ?_
 .exact Dw
 .trivial
 .simp
 .simp
 rintro j ⟨hj,hI⟩ G ih;refine Ak ?_
 by_cases hlt:j<l.length
 .have hx:l[j]?=some l[j]:=Ae
  have hw:IntKind.wrap .i64 ((j:Int)+1)=(j:Int)+1:=qC Ab (by have:=hl;simp only[qe]at this;exact Ab)
  have he:=qS hlen hx;have hb:j*3+3<=(l.flatMap enc).length:=by rw[qY hlen];exact Ab
  rw[zzf hlt,zL]at hI;refine Dr ?_;refine(hp l[j] Ae).sc ?_
  by_cases hpx:p l[j]=true
  .exact A9
  .rw[if_neg hpx]at hI;refine Sb (zzA hpx hw) ?_;refine ih (j+1) ⟨Ab,hI⟩ Ab _ _ (Wk.mk _ _ [] ?_ ?_ ?_ rfl)
   .exact Dw
   .trivial
   .simp
 .refine Sb hlt ?_;rw[zzk Ab]at hI;simp[hI,zL,vZ]
def qot{α:Type}(p:α->Bool):∀(l:List α) (j:Nat),decide (0<=zL p l j)=l.any p
 | [],j=>by simp[zL]
 | x::l,j=>by
  rw[zL]
  by_cases h:p x=true
  .simp[h]
  .rw[if_neg h,qot p l (j+1)];simp[h]
def xV(a:Nat):IFn:=irJ 93 [150,a]
def qxm{g:Nat}(hc:Ck P f (xV g))(h:qcN 3 P g)(l:List Prg)(k:Nat)(p:Prg->Bool)(hk:∀c ∈ l,qc P k [.agg (cPr c)] (.b (p c)))(hl:l.length<=qe):qc P f [.fz l.length (rPr l),.fn k [] []] (.b (l.any p)):=by
 refine qc.mk hc Ji ?_;simp only[xV,vI,simprocAttr];refine Ac ?_;refine(h cPr p k [] [] l qeY rfl rfl hl λx hx=>hk x hx).sc ?_
 refine Ac ?_;simp[vZ,<- qot p l 0]
def qd2(x:Prg):Bool:=decide ((atU x.ins (qdU x.ins)).2=0)&&(if x.dir=0 then decide (x.arch=6)else decide (0<=x.dir)&&decide (x.dir<8)&&decide (0<=x.arch)&&decide (x.arch<6))
def qfH(l:List Prg):Bool:=decide (l.length<=48)&&l.all qd2
def qhf(a:Nat):IFn:=irJ 95 [27,a]
def qhW(a:Nat):IFn:=irJ 94 [95,a]
def qke(a b:Nat):IFn:=irJ 43 [93,a,94,b]
def qcH(a:Nat):IFn:=irJ 35 [36,a]
end
end
end Go.Kc
