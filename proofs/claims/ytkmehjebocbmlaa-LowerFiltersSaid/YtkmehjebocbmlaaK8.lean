/- Part 8 of the abstract machine and of the functions' walks. Conditions: with each theorem. -/
import Derived.Test.YtkmehjebocbmlaaK7
import Derived.Shelf.GgSortFunc.InsertionK
set_option maxHeartbeats 4000000
set_option linter.unusedSectionVars false
set_option linter.unusedSimpArgs false
set_option linter.unusedVariables false
set_option linter.unnecessarySimpa false
section
namespace Go.Kc
variable [Cur]
variable {P:Program} {f:Nat}
def fmM(p:Pol)(a:Int):Bool×List GRule×Int :=
 (qS p.fmode p.fams.length true false,qO a (if p.fmode=2 then 2147418112 else 327777) (qt 0 4294967295 (if p.fmode=2 then 327777 else 2147418112) p.fams) [zu],2147418112)
def zP(a b c:Nat):ICode:=.seq (.r [.n 32 0,.n 33 4,.n 34 3,.n 35 5,.l 36 a [.k 0,(.c (.i .u64 4294967295)),.t 34,.t 35],.q 37 (.buildS 1 [.s []] [(0,1,(.c (.s [115,111,99,107,101,116])))]),.l 38 b [.t 32,.t 33,.t 36,.t 37]]) (.seq (.reg true [.n 39 0,.q 40 (.nilChk (.t 39)),.f 41 0 40,.f 42 7 41,.d 43 42,.n 44 0,.q 45 (.nilChk (.t 44)),.f 46 0 45,.f 47 6 46,.d 48 47,.e 49 48,.l 50 c [.t 43,.t 49,.T,.F],.n 2 50]) (.ret))
def zO(a b c:Nat):ICode:=.seq (.r [.m 5 .N]) (.seq (.seq (.r [.n 16 0,.q 17 (.nilChk (.t 16)),.f 18 0 17,.f 19 6 18,.d 20 19,.e 21 20,.m 22 (.k 0)]) (.blk 0 (.loop (.seq (.r [.s 23 22 21]) (.seq (.cond (.t 23) (.skip) (.exit 0)) (.seq (.blk 1 (.seq (.r [.i 24 1 20 22,.d 25 24,.n 7 25]) (.r [.n 26 5,.n 27 7,.q 28 (.cvInt .u64 (.t 27)),.q 29 (.buildS 1 [.i .u64 0] [(0,1,(.t 28))]),.q 30 (.app 1 8 true (.t 26) (.t 29)),.n 5 30]))) (.r [.a 31 22 1,.n 22 31]))))))) (.cut (zP a b c)))
def ji(a b c:Nat):IFn:=⟨[.tmp 2],.seq (.r [.m 2 .F]) (.seq (.r [.m 3 (.c (.i .u32 2147418112)),.m 4 (.c (.i .u32 327777))]) (.seq (.seq (.r [.n 8 0,.q 9 (.nilChk (.t 8)),.f 10 0 9,.f 11 7 10,.d 12 11,.q 13 (.bin .eql (.t 12) (.c (.i .u8 2)))]) (.cond (.t 13) (.r [.n 14 4,.n 15 3,.n 3 14,.n 4 15]) (.skip))) (.cut (zO a b c))))⟩
theorem qjn{g1 g2 g3:Nat}(h1:y7 P g1)(h2:wx P g2)(h3:∀mode n al dn,qe P g3 [.i .u8 mode,.i .i64 (n:Nat),.b al,.b dn] (.b (qS mode n al dn)))
  (p:Pol) (a nm ot:Int) (hp:PolOk p) {t':Tr AV} {h':Hp} (hw:Wk 2 t' h' (mkT [(0,.ptr 0 0),(2,.b false),(3,.i .u32 nm),(4,.i .u32 ot),(5,.own 2 p.fams.length)]) (mkH 0 [mkB p a 2147418112 1 0,.cells 3 true true (rR []),.cells 1 true true (rI .u64 p.fams)])) :
  S P 2 (zP g1 g2 g3) (js [.tmp 2] (qc9 2 (.b (qS p.fmode p.fams.length true false)) [mkB p a 2147418112 2 (qO a ot (qt 0 4294967295 nm p.fams) [zu]).length,.dead,.cells 3 true true (rR (qO a ot (qt 0 4294967295 nm p.fams) [zu]))])) t' h':=by
 have hl:=hp.f;refine S.weak hw (qJ ?_);simp only[zP,mkB,mkC,qf,List.cons_append,List.nil_append,vI,simprocAttr];simp only[↓vS,vT,simprocAttr];refine SC.give (vs':=[.i .i64 0,.i .u64 4294967295,.i .u32 nm,.fz p.fams.length (rI .u64 p.fams)]) [(2,.cells 1 true true (rI .u64 p.fams))] ?_ ?_ ?_
 ·intro q hq;simp at hq;subst hq;simp[Tr.get_set]
 ·refine .keep _ _ _ (.keep _ _ _ (.keep _ _ _ (.fz _ _ _ _ (.own 2 _ 1 true (rI .u64 p.fams) _ ?_ (fun h0=>?_) (Frzs.self qb)) .nil)))
  ·simp[trP,Tr.get_set]
  ·rw[List.eq_nil_of_length_eq_zero h0];rfl
 simp only[zd,zt,zE];refine (h1 0 4294967295 nm p.fams (by omega)).sc ?_;have hlts:(qt 0 4294967295 nm p.fams).length<=100000:=by simp[qt];omega
 generalize hts:qt 0 4294967295 nm p.fams=ts at hlts;simp only[↓vS,vT,simprocAttr];refine SC.give (vs':=[.ptr 0 0,.i .u32 ot,.fz ts.length (rT ts),.fz 1 (rS [zu])]) [(3,.cells 0 true false [.s zu])] ?_ ?_ ?_
 ·intro q hq;simp at hq;subst hq;simp[Tr.get_set,zu]
 ·refine .keep _ _ _ (.keep _ _ _ (.keep _ _ _ (.fz _ _ _ _ (.cut 1 rfl (Nat.le_refl _) ?_) .nil)));simp[vw,trP,rS,zu]
 simp only[zd,zt,zE];refine (h2 p a 2147418112 ot ts [zu] [] hlts (by simp)).sc (vs:=[.ptr 0 0,.i .u32 ot,.fz ts.length (rT ts),.fz 1 (rS [zu])]) [0,1] (Lent.of (by decide) ?_) ?_
 ·simp[vL,vw,mkB,mkC,qf,qy ql,qh ql,qy qc,qh qc,qy qb,qh qb]
 simp only[vK,simprocAttr,mkB,mkC,qf,List.cons_append,List.nil_append,qh ql,qh qc,qh qb];generalize hA:qO a ot ts [zu]=A;simp only[↓vS,vT,simprocAttr];refine xy ?_;simp only[↓vS,vT,simprocAttr];refine (h3 p.fmode p.fams.length true false).pc ?_;simp only[↓vS,vT,simprocAttr];intro _;refine⟨[0,1,4],?_⟩;simp[vw,mkB,mkC,qf,qk,ql,qc,qb,jc,rl];intro b hb;have:b=0∨b=1:=by omega
 rcases this with rfl|rfl<;>simp
theorem qdX{g1 g2 g3:Nat}(h1:y7 P g1)(h2:wx P g2)(h3:∀mode n al dn,qe P g3 [.i .u8 mode,.i .i64 (n:Nat),.b al,.b dn] (.b (qS mode n al dn)))
  (p:Pol) (a nm ot:Int) (hp:PolOk p) (hR:PolR p) {t':Tr AV} {h':Hp} (hw:Wk 2 t' h' (mkT [(0,.ptr 0 0),(2,.b false),(3,.i .u32 nm),(4,.i .u32 ot)]) (mkH 0 [mkB p a 2147418112 1 0,.cells 3 true true (rR [])])) :
  S P 2 (zO g1 g2 g3) (js [.tmp 2] (qc9 2 (.b (qS p.fmode p.fams.length true false)) [mkB p a 2147418112 2 (qO a ot (qt 0 4294967295 nm p.fams) [zu]).length,.dead,.cells 3 true true (rR (qO a ot (qt 0 4294967295 nm p.fams) [zu]))])) t' h':=by
 have hl:=hp.f;refine S.weak hw (qJ ?_);simp only[zO,mkB,mkC,qf,List.cons_append,List.nil_append,vI,simprocAttr];simp only[↓vS,vT,simprocAttr]
 refine SL.loopd (α:=Nat) (fun j=>[(0,.ptr 0 0),(2,.b false),(3,.i .u32 nm),(4,.i .u32 ot),(5,.own 2 j),(20,.fz p.fams.length (rI .u32 p.fams)),(21,.i .i64 p.fams.length),(22,.i .i64 j)])
  (fun j=>[mkB p a 2147418112 1 0,.cells 3 true true (rR []),.cells 1 true true (rI .u64 (p.fams.take j))])
  (fun j=>j<=p.fams.length) (fun j=>p.fams.length-j) 0 [0,1,99] ?_ ?_ ?_ rfl (by simp) ?_ ?_ ?_
 ·simp[vw,qb]
 ·simp[vw,mkB,mkC,qf,qk,ql,qc,qb]
 ·simp[jc,mkB]
 ·intro b hb;have:b=0∨b=1:=by omega
  rcases this with rfl|rfl<;>simp[yt,rl]
 ·exact Nat.zero_le _
 rintro j hj G ih;simp only[vI,simprocAttr,mkB,mkC,qf,List.cons_append,List.nil_append]
 by_cases hlt:j<p.fams.length
 ·have hx:p.fams[j]?=some p.fams[j]:=zzE hlt;have hw:IntKind.wrap .i64 ((j:Int)+1)=((j+1:Nat):Int):=by rw[qz (by omega) (by omega)];omega
  have hb:=hR.fams p.fams[j] (List.getElem_mem hlt);have hln:(rI .u64 (p.fams.take j)).length=j:=by rw[yp];simp;omega
  have htk:(rI .u64 (p.fams.take j)).take j=rI .u64 (p.fams.take j):=List.take_of_length_le (by omega)
  have hap:rI .u64 (p.fams.take j)++[AV.i .u64 p.fams[j]]=rI .u64 (p.fams.take (j+1)):=by
   rw[List.take_add_one,hx];simp only[Option.toList_some,← qdx];rfl
  have hcv:IntKind.wrap .u64 p.fams[j]=p.fams[j]:=vn (by omega) (by omega);have hr1:j+1<=qd:=by simp only[qd];omega
  have hr2:(j+1)*8<=qd:=by simp only[qd];omega
  simp +decide only[↓vS,vT,simprocAttr,hlt,Nat.mul_one,zx,hx,Option.map_some,hcv,hw,hr1,hr2,hln,htk,hap];refine ih (j+1) hlt (by omega) _ _ (Wk.mkd _ _ [0,1,4] ?_ ?_ ?_ rfl (by simp) ?_)
  ·simp[vw,qb]
  ·simp[vw,mkB,mkC,qf,qk,ql,qc,qb]
  ·simp[jc,mkB]
  ·intro b hb;have:b=0∨b=1:=by omega
   rcases this with rfl|rfl<;>simp[yt,rl]
 ·have hj':j=p.fams.length:=by omega
  subst hj';simp only[↓vS,vT,simprocAttr,hlt];refine qjn h1 h2 h3 p a nm ot hp (Wk.mkd _ _ [0,1,2] ?_ ?_ ?_ rfl (by simp) ?_)
  ·simp[vw]
  ·simp[vw,mkB,mkC,qf,qk,ql,qc,qb]
  ·simp[jc,mkB]
  ·intro b hb;have:b=0∨b=1:=by omega
   rcases this with rfl|rfl<;>simp[yt,rl]
theorem qhW{g1 g2 g3:Nat}(hc:qv P f (ji g1 g2 g3)=true)(h1:y7 P g1)(h2:wx P g2)(h3:∀mode n al dn,qe P g3 [.i .u8 mode,.i .i64 (n:Nat),.b al,.b dn] (.b (qS mode n al dn))):zl P f fmM:=by
 intro p a hp hR;refine Upd.mkd hc (by simp[x5,bnd,mkB]) (by simp) ?_;simp only[ji,mkB,mkC,qf,vI,simprocAttr,List.cons_append,List.nil_append]
 by_cases m:p.fmode=2
 ·simp only[↓vS,vT,simprocAttr,m];have e:fmM p a=(qS p.fmode p.fams.length true false,qO a 2147418112 (qt 0 4294967295 327777 p.fams) [zu],2147418112):=by simp[fmM,m]
  rw[e];refine qdX h1 h2 h3 p a 327777 2147418112 hp hR (Wk.mkd _ _ [0,1] ?_ ?_ ?_ rfl (by simp) ?_)
  ·simp[vw]
  ·simp[vw,mkB,mkC,qf,qk,ql,qc,qb,m]
  ·simp[jc,mkB]
  ·intro b hb;have:b=0∨b=1:=by omega
   rcases this with rfl|rfl<;>simp[yt,rl]
 ·simp only[↓vS,vT,simprocAttr,m];have e:fmM p a=(qS p.fmode p.fams.length true false,qO a 327777 (qt 0 4294967295 2147418112 p.fams) [zu],2147418112):=by simp[fmM,m]
  rw[e];refine qdX h1 h2 h3 p a 2147418112 327777 hp hR (Wk.mkd _ _ [0,1] ?_ ?_ ?_ rfl (by simp) ?_)
  ·simp[vw]
  ·simp[vw,mkB,mkC,qf,qk,ql,qc,qb]
  ·simp[jc,mkB]
  ·intro b hb;have:b=0∨b=1:=by omega
   rcases this with rfl|rfl<;>simp[yt,rl]
def zK(rs:List GRule):List GRule:=rs.mergeSort fun x y=>decide (x.nr<=y.nr)
def qap(P:Program)(f c:Nat):Prop:=∀rs:List GRule,rs.length<=100000->(rs.map GRule.nr).Nodup->
 Upd P f [.own 0 rs.length,.fn c [] []] [.cells 3 true true (rR rs)] (.tup []) [.cells 3 true true (rR (zK rs))]
def vi(d:Int):Option (Pol->Int->Bool×List GRule×Int) :=
 if d=1 then some qay else if d=2 then some qaL else if d=3 then some fmM else if d=4 then some nsM else if d=5 then some weM else if d=6 then some peM else if d=7 then some rtM else none
noncomputable def wV(p:Pol)(d a:Int):Bool:=decide (0<=d)&&decide (d<8)&&(decide (0<=a)&&decide (a<6))&&va p&&inA p.arches a
noncomputable def yO(p:Pol)(d a:Int):Option GFil :=
 if wV p d a=true then (vi d).bind fun F=>if (F p a).1=true then some ⟨a,zK (F p a).2.1,(F p a).2.2⟩ else none else none
def yK:Option GFil->AV
 | some x=>.tup [.agg (ww x),.b true]
 | none=>.tup [.agg [.i .i64 0,.fz 0 [],.i .u32 0],.b false]
def qhY(F:Pol->Int->Bool×List GRule×Int):Prop:=∀p a,PolOk p->va p=true->0<=a->a<6->(F p a).2.1.length<=100000∧((F p a).2.1.map GRule.nr).Nodup
def kJ(a b c d e g h:Nat):IFn:=⟨[.cell 0 8 true],.seq (.r [.q 0 (.alloc [.nilf,.nilf,.nilf,.nilf,.nilf,.nilf,.nilf,.nilf])]) (.seq (.r [.q 1 (.build [.nilf,.nilf,.nilf,.nilf,.nilf,.nilf,.nilf,.nilf] [(0,1,(.c (.nilf))),(1,1,(.c (.fn a [] []))),(2,1,(.c (.fn b [] []))),(3,1,(.c (.fn c [] []))),(4,1,(.c (.fn d [] []))),(5,1,(.c (.fn e [] []))),(6,1,(.c (.fn g [] []))),(7,1,(.c (.fn h [] [])))]),.u (.store 8 (.t 0) (.t 1))]) (.ret))⟩
theorem qkx{g1 g2 g3 g4 g5 g6 g7:Nat}(hc:qv P f (kJ g1 g2 g3 g4 g5 g6 g7)=true):qe P f [] (.agg [.nilf,.fn g1 [] [],.fn g2 [] [],.fn g3 [] [],.fn g4 [] [],.fn g5 [] [],.fn g6 [] [],.fn g7 [] []]):=by
 refine qe.mk hc rfl ?_;simp only[kJ,vI,simprocAttr];simp only[↓vS,vT,simprocAttr];simp[vZ]
def jE(a b c d e g:Nat):ICode:=.seq (.r [.n 51 8,.q 52 (.nilChk (.t 51)),.f 53 13 52,.f 54 1 53,.d 55 54,.l 56 e [.t 55,(.c (.fn g [] []))]]) (.seq (.r [.n 57 8,.q 58 (.nilChk (.t 57)),.f 59 13 58,.v 60 3 59,.u (.store 3 (.t 6) (.t 60)),.m 7 .T]) (.ret))
def jD(a b c d e g:Nat):ICode:=.seq (.seq (.r [.l 39 d [],.n 40 1,.q 41 (.idxA 8 1 false (.t 39) (.t 40)),.n 9 41]) (.seq (.r [.n 42 9,.q 43 (.eqN false .func (.t 42)),.n 44 43,.z 45 9 44,.z 46 8 44,⟨(some 47),.callV (.t 45) [.t 46],(some (44,false))⟩,.g 48 (.un .not (.t 47)) 44 false,.o 49 44 48]) (.cond (.t 49) (.seq (.r [.q 50 (.build [.i .i64 0,.nils,.i .u32 0] []),.u (.store 3 (.t 6) (.t 50)),.m 7 .F]) (.ret)) (.skip)))) (.cut (jE a b c d e g))
def jC(a b c d e g:Nat):ICode:=.seq (.r [.v 34 13 3,.n 35 2,.q 36 (.build [.i .i64 0,.nils,.i .u32 0] [(0,1,(.t 35)),(2,1,(.c (.i .u32 2147418112)))]),.q 37 (.build [.nils,.i .u8 0,.nils,.i .u32 0,.i .u8 0,.nils,.nils,.i .u8 0,.i .u64 0,.b false,.b false,.b false,.b false,.i .i64 0,.nils,.i .u32 0] [(0,13,(.t 34)),(13,3,(.t 36))]),.q 38 (.box (.t 37)),.n 8 38]) (.cut (jD a b c d e g))
def yg(a b c d e g:Nat):IFn:=⟨[.cell 6 3 true,.tmp 7],.seq (.r [.q 3 (.box (.t 0)),.q 6 (.alloc [.i .i64 0,.nils,.i .u32 0]),.m 7 .F]) (.seq (.seq (.r [.n 10 1,.w 11 .lss 10 0,.n 12 11,.z 13 1 12,.g 14 (.bin .geq (.t 13) (.k 8)) 12 false,.o 15 12 14,.n 16 15,.z 17 2 16,⟨(some 18),.callF a [.t 17],(some (16,false))⟩,.g 19 (.bin .eql (.t 18) (.c (.s []))) 16 false,.o 20 16 19,.n 21 20,.g 22 (.loadN 13 (.t 3)) 21 false,⟨(some 23),.callF b [.t 22],(some (21,false))⟩,.g 24 (.un .not (.t 23)) 21 false,.o 25 21 24,.n 26 25,.h 27 0 3 26 false,.j 28 27 26 false,.z 29 2 26,⟨(some 30),.callF c [.t 28,.t 29],(some (26,false))⟩,.g 31 (.un .not (.t 30)) 26 false,.o 32 26 31]) (.cond (.t 32) (.seq (.r [.q 33 (.build [.i .i64 0,.nils,.i .u32 0] []),.u (.store 3 (.t 6) (.t 33)),.m 7 .F]) (.ret)) (.skip))) (.cut (jC a b c d e g)))⟩
theorem qgO{g1 g2 g3 g4 g5 g6:Nat}(h5:qap P g5 g6)(p:Pol)(a d:Int)(rs:List GRule)(hr:rs.length<=100000)(hn:(rs.map GRule.nr).Nodup){t':Tr AV}{h':Hp}(hw:Wk 0 t' h' (mkT [(6,.ptr 0 0),(7,.b false),(8,.ptr 1 0)]) (mkH 0 [.cells 0 true false [.i .i64 0,.nils,.i .u32 0],mkB p a d 2 rs.length,.cells 3 true true (rR rs)])) :
  S P 0 (jE g1 g2 g3 g4 g5 g6) (js [.cell 6 3 true,.tmp 7] fun v' h'=>Frz h' v' (yK (some ⟨a,zK rs,d⟩))) t' h':=by
 refine S.weak hw (qJ ?_);simp only[jE,mkB,mkC,qf,List.cons_append,List.nil_append,vI,simprocAttr];simp only[↓vS,vT,simprocAttr];refine (h5 rs hr hn).sc (vs:=[.own 0 rs.length,.fn g6 [] []]) [2] (Lent.of (by decide) ?_) ?_
 ·simp[vL,vw,qy ql,qh ql]
 simp only[vK,simprocAttr,qh ql];simp only[↓vS,vT,simprocAttr];have hsl:(zK rs).length=rs.length:=List.length_mergeSort _;simp only[yK,ww,hsl];refine .tup _ _ (.cons _ _ _ _ (.agg _ _ (.cons _ _ _ _ (.i _ _) (.cons _ _ _ _ (.own 2 _ 3 true (rR (zK rs)) _ ?_ (fun h0=>?_) (Frzs.self ql)) (.cons _ _ _ _ (.i _ _) .nil)))) (.cons _ _ _ _ (.b _) .nil))
 ·simp[Tr.get_set]
 ·rw[List.eq_nil_of_length_eq_zero (hsl.trans h0)];rfl
theorem qgN{g1 g2 g3 g4 g5 g6 m1 m2 m3 m4 m5 m6 m7:Nat}(h4:qe P g4 [] (.agg [.nilf,.fn m1 [] [],.fn m2 [] [],.fn m3 [] [],.fn m4 [] [],.fn m5 [] [],.fn m6 [] [],.fn m7 [] []]))(h5:qap P g5 g6)
  (hm1:zl P m1 qay) (hm2:zl P m2 qaL) (hm3:zl P m3 fmM) (hm4:zl P m4 nsM) (hm5:zl P m5 weM) (hm6:zl P m6 peM) (hm7:zl P m7 rtM)
  (hM:∀d F,vi d=some F->qhY F) (p:Pol) (hp:PolOk p) (hR:PolR p) (a d:Int) (ha:0<=a) (ha6:a<6) (hmay:va p=true) (hd0:0<=d) (hd8:d<8) {t':Tr AV} {h':Hp} (hw:Wk 0 t' h' (mkT [(1,.i .i64 d),(6,.ptr 0 0),(7,.b false),(8,.ptr 1 0)]) (mkH 0 [.cells 0 true false [.i .i64 0,.nils,.i .u32 0],mkB p a 2147418112 2 0,.cells 3 true true (rR [])])) :
  S P 0 (jD g1 g2 g3 g4 g5 g6) (js [.cell 6 3 true,.tmp 7] fun v' h'=>Frz h' v' (yK ((vi d).bind fun F=>if (F p a).1=true then some ⟨a,zK (F p a).2.1,(F p a).2.2⟩ else none))) t' h':=by
 refine S.weak hw (qJ ?_);simp only[jD,mkB,mkC,qf,List.cons_append,List.nil_append,vI,simprocAttr];simp only[↓vS,vT,simprocAttr];refine h4.sc ?_;obtain⟨j,rfl⟩:∃j:Nat,d=j:=⟨d.toNat,by omega⟩
 have hj:j<8:=by omega
 by_cases h0:j=0
 ·subst h0;simp only[↓vS,vT,simprocAttr];refine .tup _ _ (.cons _ _ _ _ (.agg _ _ (.cons _ _ _ _ (.i _ _) (.cons _ _ _ _ .nilz (.cons _ _ _ _ (.i _ _) .nil)))) (.cons _ _ _ _ (.b _) .nil))
 ·have hh:∃g F,([.nilf,.fn m1 [] [],.fn m2 [] [],.fn m3 [] [],.fn m4 [] [],.fn m5 [] [],.fn m6 [] [],.fn m7 [] []]:List AV)[j]?=some (.fn g [] [])∧vi j=some F∧zl P g F:=by
   have:j=1∨j=2∨j=3∨j=4∨j=5∨j=6∨j=7:=by omega
   rcases this with rfl|rfl|rfl|rfl|rfl|rfl|rfl
   ·exact⟨_,_,rfl,rfl,hm1⟩
   ·exact⟨_,_,rfl,rfl,hm2⟩
   ·exact⟨_,_,rfl,rfl,hm3⟩
   ·exact⟨_,_,rfl,rfl,hm4⟩
   ·exact⟨_,_,rfl,rfl,hm5⟩
   ·exact⟨_,_,rfl,rfl,hm6⟩
   ·exact⟨_,_,rfl,rfl,hm7⟩
  obtain⟨g,F,he,hF,hg⟩:=hh;obtain⟨hl,hn⟩:=hM _ _ hF p a hp hmay ha ha6;obtain⟨ok,rs,df,hFp⟩:∃ok rs df,F p a=(ok,rs,df):=⟨_,_,_,rfl⟩;have hu:=hg p a hp hR;have e:((vi j).bind fun F=>if (F p a).1=true then some (⟨a,zK (F p a).2.1,(F p a).2.2⟩:GFil) else none)=if ok=true then some ⟨a,zK rs,df⟩ else none:=by rw[hF];simp[hFp]
  rw[e];rw[hFp] at hl hn hu;dsimp only at hl hn hu;generalize ([.nilf,.fn m1 [] [],.fn m2 [] [],.fn m3 [] [],.fn m4 [] [],.fn m5 [] [],.fn m6 [] [],.fn m7 [] []]:List AV)=L at he;simp only[↓vS,vT,simprocAttr,hj,Nat.mul_one,he];refine hu.sc (vs:=[.ptr 0 0]) [1,2] (Lent.of (by decide) ?_) ?_
  ·simp[vL,vw,mkB,mkC,qf,qy ql,qh ql,qy qc,qh qc,qy qb,qh qb]
  simp only[vK,simprocAttr,mkB,mkC,qf,List.cons_append,List.nil_append,qh ql,qh qc,qh qb];cases ok with
  | false =>
   simp only[↓vS,vT,simprocAttr];refine .tup _ _ (.cons _ _ _ _ (.agg _ _ (.cons _ _ _ _ (.i _ _) (.cons _ _ _ _ .nilz (.cons _ _ _ _ (.i _ _) .nil)))) (.cons _ _ _ _ (.b _) .nil))
  | true =>
   simp only[↓vS,vT,simprocAttr];refine qgO h5 p a df rs hl hn (Wk.mk _ _ [0,1,3] ?_ ?_ ?_ rfl)
   ·simp[vw]
   ·simp[vw,mkB,mkC,qf,qk,ql,qc,qb]
   ·simp
theorem qgM{g1 g2 g3 g4 g5 g6 m1 m2 m3 m4 m5 m6 m7:Nat}(h4:qe P g4 [] (.agg [.nilf,.fn m1 [] [],.fn m2 [] [],.fn m3 [] [],.fn m4 [] [],.fn m5 [] [],.fn m6 [] [],.fn m7 [] []]))(h5:qap P g5 g6)
  (hm1:zl P m1 qay) (hm2:zl P m2 qaL) (hm3:zl P m3 fmM) (hm4:zl P m4 nsM) (hm5:zl P m5 weM) (hm6:zl P m6 peM) (hm7:zl P m7 rtM)
  (hM:∀d F,vi d=some F->qhY F) (p:Pol) (hp:PolOk p) (hR:PolR p) (a d:Int) (ha:0<=a) (ha6:a<6) (hmay:va p=true) (hd0:0<=d) (hd8:d<8) {t':Tr AV} {h':Hp} (hw:Wk 0 t' h' (mkT [(1,.i .i64 d),(2,.i .i64 a),(3,.ptr 0 0),(6,.ptr 1 0),(7,.b false)]) (mkH 0 [.cells 0 true false (qf p),.cells 0 true false [.i .i64 0,.nils,.i .u32 0]])) :
  S P 0 (jC g1 g2 g3 g4 g5 g6) (js [.cell 6 3 true,.tmp 7] fun v' h'=>Frz h' v' (yK ((vi d).bind fun F=>if (F p a).1=true then some ⟨a,zK (F p a).2.1,(F p a).2.2⟩ else none))) t' h':=by
 refine S.weak hw (qJ ?_);simp only[jC,qf,vI,simprocAttr];simp only[↓vS,vT,simprocAttr];refine qgN h4 h5 hm1 hm2 hm3 hm4 hm5 hm6 hm7 hM p hp hR a d ha ha6 hmay hd0 hd8 (Wk.mk _ _ [1,2,99] ?_ ?_ ?_ rfl)
 ·simp[vw]
 ·simp[vw,mkB,mkC,qf,qk,ql,qc,qb,rR]
 ·simp
theorem qlU{g1 g2 g3 g4 g5 g6 m1 m2 m3 m4 m5 m6 m7:Nat}(hc:qv P f (yg g1 g2 g3 g4 g5 g6)=true)(h1:∀a,qe P g1 [.i .i64 a] (.s (yS a)))(h2:∀p,PolOk p->qe P g2 [.agg (qf p)] (.b (va p)))(h3:∀(xs:List Int) (x:Int),xs.length<=qd->qe P g3 [.fz xs.length (rI .i64 xs),.i .i64 x] (.b (inA xs x)))
  (h4:qe P g4 [] (.agg [.nilf,.fn m1 [] [],.fn m2 [] [],.fn m3 [] [],.fn m4 [] [],.fn m5 [] [],.fn m6 [] [],.fn m7 [] []])) (h5:qap P g5 g6)
  (hm1:zl P m1 qay) (hm2:zl P m2 qaL) (hm3:zl P m3 fmM) (hm4:zl P m4 nsM) (hm5:zl P m5 weM) (hm6:zl P m6 peM) (hm7:zl P m7 rtM)
  (hM:∀d F,vi d=some F->qhY F) (p:Pol) (hp:PolOk p) (hR:PolR p) (d a:Int):qe P f [.agg (qf p),.i .i64 d,.i .i64 a] (yK (yO p d a)):=by
 have hl:=hp.a;refine qe.mk hc rfl ?_
 have no:wV p d a=false->∀{h:Hp},Frz h (.tup [.agg [.i .i64 0,.nils,.i .u32 0],.b false]) (yK (yO p d a)):=by
  intro h0 h;rw[yO,h0];exact .tup _ _ (.cons _ _ _ _ (.agg _ _ (.cons _ _ _ _ (.i _ _) (.cons _ _ _ _ .nilz (.cons _ _ _ _ (.i _ _) .nil)))) (.cons _ _ _ _ (.b _) .nil))
 simp only[yg,qf,vI,simprocAttr]
 by_cases k1:d<0
 ·simp only[↓vS,vT,simprocAttr,k1];exact no (by simp only[wV,decide_eq_false (by omega:¬0<=d)];simp)
 by_cases k2:8<=d
 ·simp only[↓vS,vT,simprocAttr,k1,k2];exact no (by simp only[wV,decide_eq_false (by omega:¬d<8)];simp)
 simp only[↓vS,vT,simprocAttr,k1,k2];refine (h1 a).sc ?_;have hN:=qcf a
 by_cases k3:yS a=[]
 ·have k3':(decide (0<=a)&&decide (a<6))=false:=by
   rw[Bool.eq_false_iff];intro h;exact hN.2 (by simpa using h) k3
  simp only[↓vS,vT,simprocAttr,k3];exact no (by simp only[wV,k3'];simp)
 have ⟨a0,a6⟩:=hN.1 k3;simp only[↓vS,vT,simprocAttr,k3];refine (h2 p hp).sc ?_;cases k4:va p with
 | false =>
  simp only[↓vS,vT,simprocAttr];exact no (by simp[wV,k4])
 | true =>
  simp only[↓vS,vT,simprocAttr];refine (h3 p.arches a (by simp only[qd];omega)).sc ?_;cases k5:inA p.arches a with
  | false =>
   simp only[↓vS,vT,simprocAttr];exact no (by simp[wV,k5])
  | true =>
   have hok:wV p d a=true:=by simp[wV,k4,k5,a0,a6];omega
   have e:yO p d a=(vi d).bind fun F=>if (F p a).1=true then some ⟨a,zK (F p a).2.1,(F p a).2.2⟩ else none:=by rw[yO,if_pos hok]
   rw[e];simp only[↓vS,vT,simprocAttr];refine qgM h4 h5 hm1 hm2 hm3 hm4 hm5 hm6 hm7 hM p hp hR a d a0 a6 k4 (by omega) (by omega) (Wk.mk _ _ [0,1] ?_ ?_ ?_ rfl)
   ·simp[vw]
   ·simp[vw,qf,qk,qc,qb]
   ·simp
section
variable {l m:List GFil} {j:Nat}
end
def qfO(P:Program)(f:Nat):Prop:=∀p,PolOk p->PolR p->∀d a:Int,qe P f [.agg (qf p),.i .i64 d,.i .i64 a] (yK (yO p d a))
def kI(a:Nat):IFn:=⟨[.tmp 6],.seq (.r [.q 3 (.box (.t 0)),.m 6 .F]) (.seq (.r [.v 10 13 3,.n 11 1,.n 12 2,.l 13 a [.t 10,.t 11,.t 12],.n 9 13,.x 14 9 0,.x 15 9 1,.q 7 (.alloc [.i .i64 0,.nils,.i .u32 0]),.u (.store 3 (.t 7) (.t 14)),.n 8 15]) (.seq (.r [.n 16 8,.n 6 16]) (.ret)))⟩
theorem qkk{g:Nat}(hc:qv P f (kI g)=true)(h1:qfO P g)(p:Pol)(hp:PolOk p)(hR:PolR p)(d a:Int):qe P f [.agg (qf p),.i .i64 d,.i .i64 a] (.b (yO p d a).isSome):=by
 refine qe.mk hc rfl ?_;simp only[kI,qf,vI,simprocAttr];simp only[↓vS,vT,simprocAttr];refine (h1 p hp hR d a).sc ?_;cases yO p d a with
 | none =>
  simp only[yK,↓vS,vT,simprocAttr];simp[vZ]
 | some x =>
  simp only[yK,ww,↓vS,vT,simprocAttr];simp[vZ]
def qkr:IFn:=⟨[.tmp 0],.seq (.r [.m 0 .N]) (.seq (.r [.m 1 .N]) (.seq (.seq (.r [.m 3 (.k 0)]) (.blk 0 (.loop (.seq (.r [.w 4 .lss 3 6]) (.seq (.cond (.t 4) (.skip) (.exit 0)) (.seq (.blk 1 (.seq (.r [.n 5 3,.n 2 5]) (.r [.n 6 1,.n 7 2,.q 8 (.buildS 1 [.i .i64 0] [(0,1,(.t 7))]),.q 9 (.app 1 8 true (.t 6) (.t 8)),.n 1 9]))) (.r [.a 10 3 1,.n 3 10]))))))) (.seq (.r [.n 11 1,.n 0 11]) (.ret))))⟩
def qi5(a b:Nat):IFn:=⟨[.tmp 2],.seq (.r [.q 1 (.box (.t 0)),.m 2 .N]) (.seq (.r [.m 3 .N]) (.seq (.seq (.r [.m 9 (.k 0)]) (.blk 0 (.loop (.seq (.r [.w 10 .lss 9 8]) (.seq (.cond (.t 10) (.skip) (.exit 0)) (.seq (.blk 1 (.seq (.r [.n 11 9,.n 4 11]) (.seq (.r [.l 12 a [],.e 13 12,.m 14 (.k 0)]) (.blk 2 (.loop (.seq (.r [.s 15 14 13]) (.seq (.cond (.t 15) (.skip) (.exit 2)) (.seq (.blk 3 (.seq (.r [.i 16 1 12 14,.d 17 16,.n 6 17]) (.seq (.r [.v 19 13 1,.n 20 4,.n 21 6,.l 22 b [.t 19,.t 20,.t 21],.n 18 22,.x 23 18 0,.x 24 18 1,.q 7 (.alloc [.i .i64 0,.nils,.i .u32 0]),.u (.store 3 (.t 7) (.t 23)),.n 8 24]) (.seq (.r [.n 25 8]) (.cond (.t 25) (.r [.n 26 3,.v 27 3 7,.q 28 (.buildS 1 [.i .i64 0,.nils,.i .u32 0] [(0,3,(.t 27))]),.q 29 (.app 3 40 true (.t 26) (.t 28)),.n 3 29]) (.skip)))))) (.r [.a 30 14 1,.n 14 30]))))))))) (.r [.a 31 9 1,.n 9 31]))))))) (.seq (.r [.n 32 3,.n 2 32]) (.ret))))⟩
theorem qgj{s:Int}(h0:0<=s)(h1:s<18446744073709551616)(k:Nat)(hk:k<64):(w9 .u64 s ((2 ^ k:Nat):Int)≠0)↔(IntKind.wrap .u64 (s.tdiv ((2 ^ k:Nat):Int))).tmod 2=1:=by
 obtain⟨m,rfl⟩:=Int.eq_ofNat_of_zero_le h0;have hm:m<2 ^ 64:=by omega
 have hp:2 ^ k<2 ^ 64:=Nat.pow_lt_pow_right (by decide) hk;have hp0:0<2 ^ k:=Nat.two_pow_pos k
 have e1:w9 .u64 (m:Int) ((2 ^ k:Nat):Int)=((m &&& 2 ^ k:Nat):Int):=by
  have a1:(BitVec.ofInt 64 (m:Int)).toNat=m:=by rw[BitVec.toNat_ofInt];omega
  have a2:(BitVec.ofInt 64 ((2 ^ k:Nat):Int)).toNat=2 ^ k:=by rw[BitVec.toNat_ofInt];omega
  show IntKind.wrap .u64 ((BitVec.ofInt 64 (m:Int) &&& BitVec.ofInt 64 ((2 ^ k:Nat):Int)).toNat:Int)=_;rw[BitVec.toNat_and,a1,a2];exact vn (by omega) (by have:=@Nat.and_le_left m (2 ^ k);omega)
 have hd:m / 2 ^ k<=m:=Nat.div_le_self _ _
 have e2:IntKind.wrap .u64 ((m:Int).tdiv ((2 ^ k:Nat):Int))=((m / 2 ^ k:Nat):Int):=by
  rw[Int.tdiv_eq_ediv_of_nonneg (by omega),show (m:Int) / ((2 ^ k:Nat):Int)=((m / 2 ^ k:Nat):Int) from rfl]
  generalize m / 2 ^ k=q at hd;exact vn (by omega) (by omega)
 have e3:(m &&& 2 ^ k≠0)↔m.testBit k=true:=by
  constructor
  ·intro h;cases hb:m.testBit k with
   | true=>rfl
   | false =>
    exfalso;apply h
    apply Nat.eq_of_testBit_eq;intro i;rw[Nat.testBit_and,Nat.testBit_two_pow,Nat.zero_testBit]
    by_cases hi:k=i
    ·subst hi;simp[hb]
    ·simp[hi]
  ·intro h h0;have:(m &&& 2 ^ k).testBit k=true:=by rw[Nat.testBit_and,Nat.testBit_two_pow];simp[h]
   rw[h0] at this;simp at this
 have e4:((m &&& 2 ^ k:Nat):Int)≠0↔m &&& 2 ^ k≠0:=by omega
 rw[e1,e2,e4,e3,Nat.testBit_eq_decide_div_mod_eq];generalize m / 2 ^ k=q;rw[Int.tmod_eq_emod_of_nonneg (by omega),decide_eq_true_eq];omega
theorem qgk{s:Int}(h0:0<=s)(h1:s<18446744073709551616):∀x ∈ qj,(w9 .u64 s x.2≠0↔(IntKind.wrap .u64 (s.tdiv x.2)).tmod 2=1)∧x.2≠0:=by
 intro x hx
 have ex:∃k:Nat,k<64∧x.2=((2 ^ k:Nat):Int):=by
  simp only[qj,List.mem_cons,List.not_mem_nil,or_false] at hx;rcases hx with rfl|rfl|rfl|rfl|rfl|rfl|rfl|rfl
  ·exact⟨7,by decide,by decide⟩
  ·exact⟨17,by decide,by decide⟩
  ·exact⟨25,by decide,by decide⟩
  ·exact⟨26,by decide,by decide⟩
  ·exact⟨27,by decide,by decide⟩
  ·exact⟨28,by decide,by decide⟩
  ·exact⟨29,by decide,by decide⟩
  ·exact⟨30,by decide,by decide⟩
 obtain⟨k,hk,e⟩:=ex;rw[e];exact⟨qgj h0 h1 k hk,by have:=Nat.two_pow_pos k;omega⟩
def jo(a:Nat):IFn:=⟨[.tmp 2],.seq (.r [.m 2 .N]) (.seq (.r [.l 6 a [],.n 3 6]) (.seq (.r [.m 4 .N]) (.seq (.seq (.r [.m 5 (.k 0)]) (.blk 0 (.loop (.seq (.seq (.r [.n 7 5,.n 8 3,.e 9 8,.s 10 7 9]) (.cond (.t 10) (.skip) (.exit 0))) (.seq (.blk 1 (.seq (.r [.n 13 0,.n 14 3,.n 15 5,.i 16 2 14 15,.f 17 1 16,.d 18 17,.b 19 .quo 13 18,.q 20 (.bin .rem (.t 19) (.c (.i .u64 2))),.q 21 (.bin .eql (.t 20) (.c (.i .u64 1)))]) (.cond (.t 21) (.r [.n 22 4,.n 23 3,.n 24 5,.i 25 2 23 24,.f 26 1 25,.d 27 26,.q 28 (.buildS 1 [.i .u64 0] [(0,1,(.t 27))]),.q 29 (.app 1 8 true (.t 22) (.t 28)),.n 4 29]) (.skip)))) (.r [.n 11 5,.a 12 11 1,.n 5 12])))))) (.seq (.r [.n 30 4,.n 2 30]) (.ret)))))⟩
theorem qoW{g:Nat}(hc:qv P f (jo g)=true)(hg:qe P g [] (.fz 8 (qj.flatMap (zn .u64))))(s:Int)(h0:0<=s)(h1:s<18446744073709551616):qe P f [.i .u64 s] (.fz (zj s).length (rI .u64 (zj s))):=by
 refine qe.mk hc rfl ?_;simp only[jo,vI,simprocAttr];simp only[↓vS,vT,simprocAttr];refine hg.sc ?_;simp only[↓vS,vT,simprocAttr];have hlen:(qj.flatMap (zn .u64)).length=16:=by decide
 have hTc:qR (qj.flatMap (zn .u64))=true:=rfl
 refine SL.loop (α:=Nat) (fun j=>[(0,.i .u64 s),(4,.own 0 ((((qj.take j).map (·.2)).filter fun n=>decide (w9 .u64 s n≠0)).length)),(3,.fz 8 (qj.flatMap (zn .u64))),(5,.i .i64 j)])
  (fun j=>[.cells 1 true true (rI .u64 (((qj.take j).map (·.2)).filter fun n=>decide (w9 .u64 s n≠0)))])
  (fun j=>j<=8) (fun j=>8-j) 0 [9] ?_ ?_ ?_ rfl ?_ ?_
 ·simp[vw,hTc]
 ·simp[vw,rI]
 ·simp
 ·exact Nat.zero_le _
 rintro j hj G ih;simp only[vI,simprocAttr]
 by_cases hlt:j<8
 ·have hlt':(j:Int)<8:=by omega
  have hjl:j<qj.length:=hlt;have hx:qj[j]?=some qj[j]:=zzE hjl;have hw:IntKind.wrap .i64 ((j:Int)+1)=((j+1:Nat):Int):=by rw[qz (by omega) (by omega)];omega
  have g1:(qj.flatMap (zn .u64))[j*2+1]?=some (.i .u64 qj[j].2):=by simpa[zn] using jB (f:=zn .u64) (m:=2) kj hx (i:=1) (by decide)
  obtain⟨hfb,hne⟩:=qgk h0 h1 qj[j] (List.getElem_mem hjl);generalize hA:((qj.take j).map (·.2)).filter (fun n=>decide (w9 .u64 s n≠0))=A
  have hA1:((qj.take (j+1)).map (·.2)).filter (fun n=>decide (w9 .u64 s n≠0))=A++(if w9 .u64 s qj[j].2=0 then [] else [qj[j].2]):=by
   rw[List.take_add_one,hx,List.map_append,List.filter_append,hA]
   by_cases h:w9 .u64 s qj[j].2=0<;>simp[h]
  have hAl:A.length<=j:=by
   rw[← hA];refine Nat.le_trans (List.length_filter_le _ _) ?_;simp;omega
  generalize hc0:qj[j]=c at hx g1 hA1 hfb hne;generalize hT:qj.flatMap (zn .u64)=T at g1 hlen hTc;have hr1:A.length+1<=qd:=by simp only[qd];omega
  have hr2:(A.length+1)*8<=qd:=by simp only[qd];omega
  have h2:(2:Int)≠0:=by decide
  by_cases hz:w9 .u64 s c.2=0
  ·rw[if_pos hz,List.append_nil] at hA1;have hq:¬(IntKind.wrap .u64 (s.tdiv c.2)).tmod 2=1:=fun h=>hfb.2 h hz
   simp only[↓vS,vT,simprocAttr,hlt',hlt,g1,↓jw hne,↓vb h2,hq,hw];refine ih (j+1) hlt (by omega) _ _ (Wk.mk _ _ [0] ?_ ?_ ?_ rfl)
   ·rw[hA1,hT];simp[vw,hTc]
   ·rw[hA1];simp[vw,qk,qb]
   ·simp
  ·rw[if_neg hz] at hA1;have hq:(IntKind.wrap .u64 (s.tdiv c.2)).tmod 2=1:=hfb.1 hz;have hap:rI .u64 A++[AV.i .u64 c.2]=rI .u64 (A++[c.2]):=by rw[← qdx];rfl
   simp +decide only[↓vS,vT,simprocAttr,hlt',hlt,g1,↓jw hne,↓vb h2,hq,hw,hr1,hr2,yp,Nat.mul_one,hap];refine ih (j+1) hlt (by omega) _ _ (Wk.mk _ _ [2] ?_ ?_ ?_ rfl)
   ·rw[hA1,hT];simp[vw,hTc]
   ·rw[hA1];simp[vw,qk,qb]
   ·simp
 ·have hj':j=8:=by omega
  subst hj';have hlt':¬(((8:Nat):Int)<8):=by decide
  simp only[↓vS,vT,simprocAttr,hlt'];refine .own 0 _ 1 true (rI .u64 (zj s)) _ ?_ (fun h0=>?_) (Frzs.self qb)
  ·simp[Tr.get_set,zj,qj]
  ·have h0:(zj s).length=0:=h0;rw[List.eq_nil_of_length_eq_zero h0];rfl
def w8(p:Pol)(d:Int):Bool :=
 if d=1 then qS p.filter.mode p.filter.calls.length true false else if d=2 then qS p.log.mode p.log.calls.length false true else if d=3 then qS p.fmode p.fams.length true false
 else if d=4 then decide (p.spaces≠0) else if d=5 then p.we else if d=6 then p.pe else if d=7 then p.rt else false
def ja:IFn:=⟨[.tmp 4],.seq (.r [.q 2 (.box (.t 0)),.m 4 .F]) (.seq (.seq (.r [.n 5 1]) (.blk 0 (.seq (.r [.w 7 .eql 5 1,.n 6 7]) (.cond (.t 6) (.seq (.r [.f 8 1 2,.f 9 0 8,.d 10 9,.q 11 (.bin .eql (.t 10) (.c (.i .u8 1))),.n 12 11,.h 13 1 2 12 false,.h 14 0 13 12 false,.j 15 14 12 false,.g 16 (.bin .eql (.t 15) (.c (.i .u8 2))) 12 false,.z 17 16 12,.h 18 1 2 17 true,.h 19 1 18 17 true,.j 20 19 17 true,.g 21 (.len false (.t 20)) 17 true,.g 22 (.bin .gtr (.t 21) (.k 0)) 17 true,.g 23 (.pick (.t 17) (.t 22) .F) 12 false,.o 24 12 23,.n 4 24]) (.ret)) (.seq (.r [.w 26 .eql 5 2,.n 25 26]) (.cond (.t 25) (.seq (.r [.f 27 4 2,.f 28 0 27,.d 29 28,.q 30 (.bin .eql (.t 29) (.c (.i .u8 2))),.n 31 30,.h 32 4 2 31 false,.h 33 0 32 31 false,.j 34 33 31 false,.g 35 (.bin .eql (.t 34) (.c (.i .u8 1))) 31 false,.z 36 35 31,.h 37 4 2 36 true,.h 38 1 37 36 true,.j 39 38 36 true,.g 40 (.len false (.t 39)) 36 true,.g 41 (.bin .gtr (.t 40) (.k 0)) 36 true,.g 42 (.pick (.t 36) (.t 41) .F) 31 false,.o 43 31 42,.n 4 43]) (.ret)) (.seq (.r [.w 45 .eql 5 3,.n 44 45]) (.cond (.t 44) (.seq (.r [.f 46 7 2,.d 47 46,.q 48 (.bin .eql (.t 47) (.c (.i .u8 1))),.n 49 48,.h 50 7 2 49 false,.j 51 50 49 false,.g 52 (.bin .eql (.t 51) (.c (.i .u8 2))) 49 false,.z 53 52 49,.h 54 6 2 53 true,.j 55 54 53 true,.g 56 (.len false (.t 55)) 53 true,.g 57 (.bin .gtr (.t 56) (.k 0)) 53 true,.g 58 (.pick (.t 53) (.t 57) .F) 49 false,.o 59 49 58,.n 4 59]) (.ret)) (.seq (.r [.w 61 .eql 5 4,.n 60 61]) (.cond (.t 60) (.seq (.r [.f 62 8 2,.d 63 62,.q 64 (.bin .neq (.t 63) (.c (.i .u64 0))),.n 4 64]) (.ret)) (.seq (.r [.w 66 .eql 5 5,.n 65 66]) (.cond (.t 65) (.seq (.r [.f 67 9 2,.d 68 67,.n 4 68]) (.ret)) (.seq (.r [.w 70 .eql 5 6,.n 69 70]) (.cond (.t 69) (.seq (.r [.f 71 10 2,.d 72 71,.n 4 72]) (.ret)) (.seq (.r [.w 74 .eql 5 7,.n 73 74]) (.cond (.t 73) (.seq (.r [.f 75 11 2,.d 76 75,.n 4 76]) (.ret)) (.skip))))))))))))))))) (.seq (.r [.m 4 .F]) (.ret)))⟩
set_option maxRecDepth 4000 in
theorem qnQ(hc:qv P f ja=true)(p:Pol)(d:Int):qe P f [.agg (qf p),.i .i64 d] (.b (w8 p d)):=by
 refine qe.mk hc rfl ?_;simp only[ja,qf,vI,simprocAttr]
 by_cases d1:d=1
 ·subst d1
  by_cases m1:p.filter.mode=1
  ·simp only[↓vS,vT,simprocAttr,m1];simp[vZ,w8,qS,m1]
  by_cases m2:p.filter.mode=2
  ·simp only[↓vS,vT,simprocAttr,m1,m2];simp[vZ,w8,qS,m2]
  ·simp only[↓vS,vT,simprocAttr,m1,m2];simp[vZ,w8,qS,m1,m2]
 by_cases d2:d=2
 ·subst d2
  by_cases m2:p.log.mode=2
  ·simp only[↓vS,vT,simprocAttr,m2];simp[vZ,w8,qS,m2]
  by_cases m1:p.log.mode=1
  ·simp only[↓vS,vT,simprocAttr,m1,m2];simp[vZ,w8,qS,m1]
  ·simp only[↓vS,vT,simprocAttr,m1,m2];simp[vZ,w8,qS,m1,m2]
 by_cases d3:d=3
 ·subst d3
  by_cases m1:p.fmode=1
  ·simp only[↓vS,vT,simprocAttr,m1];simp[vZ,w8,qS,m1]
  by_cases m2:p.fmode=2
  ·simp only[↓vS,vT,simprocAttr,m1,m2];simp[vZ,w8,qS,m2]
  ·simp only[↓vS,vT,simprocAttr,m1,m2];simp[vZ,w8,qS,m1,m2]
 by_cases d4:d=4
 ·subst d4;simp only[↓vS,vT,simprocAttr];simp[vZ,w8]
 by_cases d5:d=5
 ·subst d5;simp only[↓vS,vT,simprocAttr];simp[vZ,w8]
 by_cases d6:d=6
 ·subst d6;simp only[↓vS,vT,simprocAttr];simp[vZ,w8]
 by_cases d7:d=7
 ·subst d7;simp only[↓vS,vT,simprocAttr];simp[vZ,w8]
 simp only[↓vS,vT,simprocAttr,d1,d2,d3,d4,d5,d6,d7];simp[vZ,w8,d1,d2,d3,d4,d5,d6,d7]
def qdj(l:List GCall)(s:List UInt8):Int:=match xl l s with|some c=>c.act|none=>0
theorem QW.act(h:QW P f)(l:GList)(s:List UInt8)(hl:l.calls.length<=100000):qe P f [.agg (qG l),.s s] (.tup [.i .u32 (qdj l.calls s),.b (xl l.calls s).isSome]):=h l s hl
def qfr(p:Pol)(s:List UInt8):Int:=if qdj p.filter.calls s=0 then (if p.filter.mode=1 then 2147418112 else p.deny) else qdj p.filter.calls s
def xw(s:List UInt8):Int:=if s=x4 then 6 else if s=zb∨s=qB then 4 else if s=xe then 32768 else 0
def yr(p:Pol)(d:Int)(s:List UInt8):Bool×List GTest×Int :=
 if d=1 then ((xl p.filter.calls s).isSome,[],qfr p s)
 else if d=2 then ((xl p.log.calls s).isSome,[],if p.log.mode=1 then 2147221504 else 2147418112)
 else if d=3 then (decide (s=zu),qt 0 4294967295 (if p.fmode=2 then 327777 else 2147418112) p.fams,if p.fmode=2 then 2147418112 else 327777)
 else if d=4 then (if s=zh then (true,[],327718) else (decide (s=zm)||decide (s=qV)||decide (s=zA),qu (if s=zm then 1 else 0) 327681 (zj p.spaces)++(if s=zm then [⟨1,4294967295,0,327681⟩] else []),2147418112))
 else if d=5 then (decide (0<xw s),[⟨2,xw s,xw s,327681⟩],2147418112)
 else if d=6 then (decide (s=qQ),qt 0 4294967295 2147418112 [0,4294967295],327681)
 else (decide (s=jO),qt 1 4294967295 2147418112 [0,3,5],327681)
def wb(x:Bool×List GTest×Int):AV:=.tup [.agg [.i .u32 0,.fz x.2.1.length (rT x.2.1),.i .u32 x.2.2],.b x.1]
def qg(a b:Nat):IFn:=⟨[.cell 6 3 true,.tmp 7],.seq (.r [.q 3 (.box (.t 0)),.q 6 (.alloc [.i .u32 0,.nils,.i .u32 0]),.m 7 .F]) (.seq (.r [.q 20 (.build [.i .u32 0,.nils,.i .u32 0] [(2,1,(.c (.i .u32 2147418112)))]),.q 8 (.alloc [.i .u32 0,.nils,.i .u32 0]),.u (.store 3 (.t 8) (.t 20))]) (.seq (.seq (.r [.n 21 1]) (.blk 0 (.seq (.r [.w 23 .eql 21 1,.n 22 23]) (.cond (.t 22) (.seq (.r [.f 25 1 3,.v 26 2 25,.n 27 2,.l 28 a [.t 26,.t 27],.n 24 28,.x 29 24 0,.x 30 24 1,.n 9 29,.n 10 30]) (.seq (.seq (.r [.n 31 9,.q 32 (.bin .eql (.t 31) (.c (.i .u32 0))),.n 33 32,.h 34 1 3 33 true,.h 35 0 34 33 true,.j 36 35 33 true,.g 37 (.bin .eql (.t 36) (.c (.i .u8 1))) 33 true,.p 38 33 37]) (.cond (.t 38) (.r [.m 9 (.c (.i .u32 2147418112))]) (.skip))) (.seq (.seq (.r [.n 39 9,.q 40 (.bin .eql (.t 39) (.c (.i .u32 0)))]) (.cond (.t 40) (.r [.f 41 3 3,.d 42 41,.n 9 42]) (.skip))) (.seq (.r [.n 43 9,.f 44 2 8,.u (.store 1 (.t 44) (.t 43))]) (.seq (.r [.v 45 3 8,.n 46 10,.u (.store 3 (.t 6) (.t 45)),.n 7 46]) (.ret)))))) (.seq (.r [.w 48 .eql 21 2,.n 47 48]) (.cond (.t 47) (.seq (.r [.f 50 4 3,.v 51 2 50,.n 52 2,.l 53 a [.t 51,.t 52],.n 49 53,.x 54 49 0,.x 55 49 1,.n 11 54,.n 12 55]) (.seq (.seq (.r [.f 56 4 3,.f 57 0 56,.d 58 57,.q 59 (.bin .eql (.t 58) (.c (.i .u8 1)))]) (.cond (.t 59) (.r [.f 60 2 8,.u (.store 1 (.t 60) (.c (.i .u32 2147221504)))]) (.skip))) (.seq (.r [.v 61 3 8,.n 62 12,.u (.store 3 (.t 6) (.t 61)),.n 7 62]) (.ret)))) (.seq (.r [.w 64 .eql 21 3,.n 63 64]) (.cond (.t 63) (.seq (.r [.m 13 (.c (.i .u32 2147418112)),.m 14 (.c (.i .u32 327777))]) (.seq (.seq (.r [.f 65 7 3,.d 66 65,.q 67 (.bin .eql (.t 66) (.c (.i .u8 2)))]) (.cond (.t 67) (.r [.n 68 14,.n 69 13,.n 13 68,.n 14 69]) (.skip))) (.seq (.seq (.r [.m 15 (.k 0)]) (.blk 1 (.loop (.seq (.seq (.r [.n 70 15,.f 71 6 3,.d 72 71,.e 73 72,.s 74 70 73]) (.cond (.t 74) (.skip) (.exit 1))) (.seq (.blk 2 (.reg true [.f 77 1 8,.d 78 77,.f 79 6 3,.d 80 79,.n 81 15,.i 82 1 80 81,.d 83 82,.q 84 (.cvInt .u64 (.t 83)),.n 85 13,.q 86 (.build [.i .i64 0,.i .u64 0,.i .u64 0,.i .u32 0] [(1,1,(.c (.i .u64 4294967295))),(2,1,(.t 84)),(3,1,(.t 85))]),.q 87 (.buildS 1 [.i .i64 0,.i .u64 0,.i .u64 0,.i .u32 0] [(0,4,(.t 86))]),.q 88 (.app 4 32 true (.t 78) (.t 87)),.f 89 1 8,.u (.store 1 (.t 89) (.t 88))])) (.r [.n 75 15,.a 76 75 1,.n 15 76])))))) (.seq (.r [.n 90 14,.f 91 2 8,.u (.store 1 (.t 91) (.t 90))]) (.seq (.r [.v 92 3 8,.n 93 2,.q 94 (.bin .eql (.t 93) (.c (.s [115,111,99,107,101,116]))),.u (.store 3 (.t 6) (.t 92)),.n 7 94]) (.ret)))))) (.seq (.r [.w 96 .eql 21 4,.n 95 96]) (.cond (.t 95) (.seq (.r [.m 16 (.k 0)]) (.seq (.seq (.r [.n 97 2,.q 98 (.bin .eql (.t 97) (.c (.s [115,101,116,110,115])))]) (.cond (.t 98) (.r [.m 16 (.k 1)]) (.skip))) (.seq (.r [.f 99 8 3,.d 100 99,.l 101 b [.t 100],.n 17 101]) (.seq (.seq (.r [.m 18 (.k 0)]) (.blk 3 (.loop (.seq (.seq (.r [.n 102 18,.n 103 17,.e 104 103,.s 105 102 104]) (.cond (.t 105) (.skip) (.exit 3))) (.seq (.blk 4 (.reg true [.f 108 1 8,.d 109 108,.n 110 16,.n 111 17,.n 112 18,.i 113 1 111 112,.d 114 113,.n 115 17,.n 116 18,.i 117 1 115 116,.d 118 117,.q 119 (.build [.i .i64 0,.i .u64 0,.i .u64 0,.i .u32 0] [(0,1,(.t 110)),(1,1,(.t 114)),(2,1,(.t 118)),(3,1,(.c (.i .u32 327681)))]),.q 120 (.buildS 1 [.i .i64 0,.i .u64 0,.i .u64 0,.i .u32 0] [(0,4,(.t 119))]),.q 121 (.app 4 32 true (.t 109) (.t 120)),.f 122 1 8,.u (.store 1 (.t 122) (.t 121))])) (.r [.n 106 18,.a 107 106 1,.n 18 107])))))) (.seq (.seq (.r [.n 123 2,.q 124 (.bin .eql (.t 123) (.c (.s [115,101,116,110,115])))]) (.cond (.t 124) (.r [.f 125 1 8,.d 126 125,.q 127 (.build [.i .i64 0,.i .u64 0,.i .u64 0,.i .u32 0] [(0,1,(.k 1)),(1,1,(.c (.i .u64 4294967295))),(3,1,(.c (.i .u32 327681)))]),.q 128 (.buildS 1 [.i .i64 0,.i .u64 0,.i .u64 0,.i .u32 0] [(0,4,(.t 127))]),.q 129 (.app 4 32 true (.t 126) (.t 128)),.f 130 1 8,.u (.store 1 (.t 130) (.t 129))]) (.skip))) (.seq (.seq (.r [.n 131 2,.q 132 (.bin .eql (.t 131) (.c (.s [99,108,111,110,101,51])))]) (.cond (.t 132) (.seq (.r [.q 133 (.build [.i .u32 0,.nils,.i .u32 0] [(2,1,(.c (.i .u32 327718)))]),.u (.store 3 (.t 6) (.t 133)),.m 7 .T]) (.ret)) (.skip))) (.seq (.r [.v 134 3 8,.n 135 2,.q 136 (.bin .eql (.t 135) (.c (.s [115,101,116,110,115]))),.n 137 136,.z 138 2 137,.g 139 (.bin .eql (.t 138) (.c (.s [117,110,115,104,97,114,101]))) 137 false,.o 140 137 139,.n 141 140,.z 142 2 141,.g 143 (.bin .eql (.t 142) (.c (.s [99,108,111,110,101]))) 141 false,.o 144 141 143,.u (.store 3 (.t 6) (.t 134)),.n 7 144]) (.ret)))))))) (.seq (.r [.w 146 .eql 21 5,.n 145 146]) (.cond (.t 145) (.seq (.r [.m 19 (.c (.i .u64 0))]) (.seq (.seq (.r [.n 147 2]) (.blk 5 (.seq (.r [.q 149 (.bin .eql (.t 147) (.c (.s [109,109,97,112]))),.n 148 149]) (.cond (.t 148) (.r [.m 19 (.c (.i .u64 6))]) (.seq (.seq (.r [.q 151 (.bin .eql (.t 147) (.c (.s [109,112,114,111,116,101,99,116]))),.n 150 151]) (.cond (.t 150) (.skip) (.r [.q 152 (.bin .eql (.t 147) (.c (.s [112,107,101,121,95,109,112,114,111,116,101,99,116]))),.n 150 152]))) (.cond (.t 150) (.r [.m 19 (.c (.i .u64 4))]) (.seq (.r [.q 154 (.bin .eql (.t 147) (.c (.s [115,104,109,97,116]))),.n 153 154]) (.cond (.t 153) (.r [.m 19 (.c (.i .u64 32768))]) (.skip))))))))) (.seq (.r [.n 155 19,.n 156 19,.q 157 (.build [.i .i64 0,.i .u64 0,.i .u64 0,.i .u32 0] [(0,1,(.k 2)),(1,1,(.t 155)),(2,1,(.t 156)),(3,1,(.c (.i .u32 327681)))]),.q 158 (.buildS 1 [.i .i64 0,.i .u64 0,.i .u64 0,.i .u32 0] [(0,4,(.t 157))]),.f 159 1 8,.u (.store 1 (.t 159) (.t 158))]) (.seq (.r [.v 160 3 8,.n 161 19,.q 162 (.bin .gtr (.t 161) (.c (.i .u64 0))),.u (.store 3 (.t 6) (.t 160)),.n 7 162]) (.ret))))) (.seq (.r [.w 164 .eql 21 6,.n 163 164]) (.cond (.t 163) (.seq (.r [.q 165 (.build [.i .i64 0,.i .u64 0,.i .u64 0,.i .u32 0] [(1,1,(.c (.i .u64 4294967295))),(3,1,(.c (.i .u32 2147418112)))]),.q 166 (.build [.i .i64 0,.i .u64 0,.i .u64 0,.i .u32 0] [(1,1,(.c (.i .u64 4294967295))),(2,1,(.c (.i .u64 4294967295))),(3,1,(.c (.i .u32 2147418112)))]),.q 167 (.buildS 2 [.i .i64 0,.i .u64 0,.i .u64 0,.i .u32 0] [(0,4,(.t 165)),(4,4,(.t 166))]),.f 168 1 8,.u (.store 1 (.t 168) (.t 167))]) (.seq (.r [.f 169 2 8,.u (.store 1 (.t 169) (.c (.i .u32 327681)))]) (.seq (.r [.v 170 3 8,.n 171 2,.q 172 (.bin .eql (.t 171) (.c (.s [112,101,114,115,111,110,97,108,105,116,121]))),.u (.store 3 (.t 6) (.t 170)),.n 7 172]) (.ret)))) (.skip))))))))))))))) (.seq (.r [.q 173 (.build [.i .i64 0,.i .u64 0,.i .u64 0,.i .u32 0] [(0,1,(.k 1)),(1,1,(.c (.i .u64 4294967295))),(3,1,(.c (.i .u32 2147418112)))]),.q 174 (.build [.i .i64 0,.i .u64 0,.i .u64 0,.i .u32 0] [(0,1,(.k 1)),(1,1,(.c (.i .u64 4294967295))),(2,1,(.c (.i .u64 3))),(3,1,(.c (.i .u32 2147418112)))]),.q 175 (.build [.i .i64 0,.i .u64 0,.i .u64 0,.i .u32 0] [(0,1,(.k 1)),(1,1,(.c (.i .u64 4294967295))),(2,1,(.c (.i .u64 5))),(3,1,(.c (.i .u32 2147418112)))]),.q 176 (.buildS 3 [.i .i64 0,.i .u64 0,.i .u64 0,.i .u32 0] [(0,4,(.t 173)),(4,4,(.t 174)),(8,4,(.t 175))]),.f 177 1 8,.u (.store 1 (.t 177) (.t 176))]) (.seq (.r [.f 178 2 8,.u (.store 1 (.t 178) (.c (.i .u32 327681)))]) (.seq (.r [.v 179 3 8,.n 180 2,.q 181 (.bin .eql (.t 180) (.c (.s [115,99,104,101,100,95,115,101,116,115,99,104,101,100,117,108,101,114]))),.u (.store 3 (.t 6) (.t 179)),.n 7 181]) (.ret))))))⟩
section
variable {g1 g2:Nat}
theorem qj0(hc:qv P f (qg g1 g2)=true)(h1:QW P g1)(p:Pol)(hp:PolOk p)(s:List UInt8):qe P f [.agg (qf p),.i .i64 1,.s s] (wb ((xl p.filter.calls s).isSome,[],qfr p s)):=by
 have hl:=hp.c;refine qe.mk hc rfl ?_;simp only[qg,qf,vI,simprocAttr];simp only[↓vS,vT,simprocAttr];refine (h1.act p.filter s (by omega)).sc ?_;have ea:qfr p s=if qdj p.filter.calls s=0 then (if p.filter.mode=1 then 2147418112 else p.deny) else qdj p.filter.calls s:=rfl
 generalize (xl p.filter.calls s).isSome=ok;generalize qdj p.filter.calls s=x at ea
 by_cases x0:x=0
 ·rw[if_pos x0] at ea
  by_cases m1:p.filter.mode=1
  ·rw[if_pos m1] at ea;simp +decide only[↓vS,vT,simprocAttr,x0,m1];rw[ea];simp[vZ,wb,rT]
  ·rw[if_neg m1] at ea;simp +decide only[↓vS,vT,simprocAttr,x0,m1];rw[ea];simp[vZ,wb,rT]
 ·rw[if_neg x0] at ea;simp +decide only[↓vS,vT,simprocAttr,x0];rw[ea];simp[vZ,wb,rT]
theorem qj1(hc:qv P f (qg g1 g2)=true)(h1:QW P g1)(p:Pol)(hp:PolOk p)(s:List UInt8):qe P f [.agg (qf p),.i .i64 2,.s s] (wb ((xl p.log.calls s).isSome,[],if p.log.mode=1 then 2147221504 else 2147418112)):=by
 have hl:=hp.l;refine qe.mk hc rfl ?_;simp only[qg,qf,vI,simprocAttr];simp +decide only[↓vS,vT,simprocAttr];refine (h1.act p.log s (by omega)).sc ?_;generalize (xl p.log.calls s).isSome=ok
 by_cases m1:p.log.mode=1
 ·simp +decide only[↓vS,vT,simprocAttr,m1];simp[vZ,wb,rT]
 ·simp +decide only[↓vS,vT,simprocAttr,m1];simp[vZ,wb,rT]
set_option maxRecDepth 4000 in
theorem qj4(hc:qv P f (qg g1 g2)=true)(p:Pol)(s:List UInt8):qe P f [.agg (qf p),.i .i64 5,.s s] (wb (decide (0<xw s),[⟨2,xw s,xw s,327681⟩],2147418112)):=by
 have go:∀b,xw s=b->qe P f [.agg (qf p),.i .i64 5,.s s] (wb (decide (0<b),[⟨2,b,b,327681⟩],2147418112))->qe P f [.agg (qf p),.i .i64 5,.s s] (wb (decide (0<xw s),[⟨2,xw s,xw s,327681⟩],2147418112)):=by
  rintro b rfl h;exact h
 have fin:∀{h:Hp} {b x:Int},h.tr.get 3=some (.cells 0 true false [.i .i64 2,.i .u64 b,.i .u64 b,.i .u32 327681])->∀ok,Frz h (.tup [.agg [.i .u32 0,.sl 3 0 1 1 false,.i .u32 x],.b ok]) (wb (ok,[⟨2,b,b,327681⟩],x)):=by
  intro h b x hg ok;refine .tup _ _ (.cons _ _ _ _ (.agg _ _ (.cons _ _ _ _ (.i _ _) (.cons _ _ _ _ (.sl 3 0 1 1 false 0 false _ 4 _ hg (Nat.le_refl _) (Nat.le_refl 4) (fun h=>absurd h (by decide)) (Frzs.self rfl)) (.cons _ _ _ _ (.i _ _) .nil)))) (.cons _ _ _ _ (.b _) .nil))
 by_cases k1:s=x4
 ·refine go 6 (by simp[xw,k1]) (qe.mk hc rfl ?_);have k1':(s=[109,109,97,112])=True:=eq_true k1;simp only[qg,qf,vI,simprocAttr];simp +decide only[↓vS,vT,simprocAttr,k1'];exact fin (by simp[Tr.get_set]) _
 have k1':(s=[109,109,97,112])=False:=eq_false k1
 by_cases k2:s=zb
 ·refine go 4 (by simp[xw,k1,k2];decide) (qe.mk hc rfl ?_);have k2':(s=[109,112,114,111,116,101,99,116])=True:=eq_true k2;simp only[qg,qf,vI,simprocAttr];simp +decide only[↓vS,vT,simprocAttr,k1',k2'];exact fin (by simp[Tr.get_set]) _
 have k2':(s=[109,112,114,111,116,101,99,116])=False:=eq_false k2
 by_cases k3:s=qB
 ·refine go 4 (by simp[xw,k1,k3];decide) (qe.mk hc rfl ?_);have k3':(s=[112,107,101,121,95,109,112,114,111,116,101,99,116])=True:=eq_true k3;simp only[qg,qf,vI,simprocAttr];simp +decide only[↓vS,vT,simprocAttr,k1',k2',k3'];exact fin (by simp[Tr.get_set]) _
 have k3':(s=[112,107,101,121,95,109,112,114,111,116,101,99,116])=False:=eq_false k3
 by_cases k4:s=xe
 ·refine go 32768 (by simp[xw,k4];decide) (qe.mk hc rfl ?_);have k4':(s=[115,104,109,97,116])=True:=eq_true k4;simp only[qg,qf,vI,simprocAttr];simp +decide only[↓vS,vT,simprocAttr,k1',k2',k3',k4'];exact fin (by simp[Tr.get_set]) _
 ·refine go 0 (by simp[xw,k1,k2,k3,k4]) (qe.mk hc rfl ?_);have k4':(s=[115,104,109,97,116])=False:=eq_false k4;simp only[qg,qf,vI,simprocAttr];simp +decide only[↓vS,vT,simprocAttr,k1',k2',k3',k4'];exact fin (by simp[Tr.get_set]) _
theorem qj5(hc:qv P f (qg g1 g2)=true)(p:Pol)(s:List UInt8):qe P f [.agg (qf p),.i .i64 6,.s s] (wb (decide (s=qQ),qt 0 4294967295 2147418112 [0,4294967295],327681)):=by
 have fin:∀{h:Hp} {x:Int},h.tr.get 3=some (.cells 0 true false (rT (qt 0 4294967295 2147418112 [0,4294967295])))->∀ok,Frz h (.tup [.agg [.i .u32 0,.sl 3 0 2 2 false,.i .u32 x],.b ok]) (wb (ok,qt 0 4294967295 2147418112 [0,4294967295],x)):=by
  intro h x hg ok;exact .tup _ _ (.cons _ _ _ _ (.agg _ _ (.cons _ _ _ _ (.i _ _) (.cons _ _ _ _ (.sl 3 0 2 2 false 0 false _ 8 _ hg (Nat.le_refl _) (Nat.le_refl 8) (fun h=>absurd h (by decide)) (Frzs.self rfl)) (.cons _ _ _ _ (.i _ _) .nil)))) (.cons _ _ _ _ (.b _) .nil))
 refine qe.mk hc rfl ?_;simp only[qg,qf,vI,simprocAttr];simp +decide only[↓vS,vT,simprocAttr];exact fin (by simp[Tr.get_set,rT,qt,yV]) _
set_option maxRecDepth 4000 in
theorem qj6(hc:qv P f (qg g1 g2)=true)(p:Pol)(d:Int)(d1:d≠1)(d2:d≠2)(d3:d≠3)(d4:d≠4)(d5:d≠5)(d6:d≠6)(s:List UInt8):qe P f [.agg (qf p),.i .i64 d,.s s] (wb (decide (s=jO),qt 1 4294967295 2147418112 [0,3,5],327681)):=by
 have fin:∀{h:Hp} {x:Int},h.tr.get 3=some (.cells 0 true false (rT (qt 1 4294967295 2147418112 [0,3,5])))->∀ok,Frz h (.tup [.agg [.i .u32 0,.sl 3 0 3 3 false,.i .u32 x],.b ok]) (wb (ok,qt 1 4294967295 2147418112 [0,3,5],x)):=by
  intro h x hg ok;exact .tup _ _ (.cons _ _ _ _ (.agg _ _ (.cons _ _ _ _ (.i _ _) (.cons _ _ _ _ (.sl 3 0 3 3 false 0 false _ 12 _ hg (Nat.le_refl _) (Nat.le_refl 12) (fun h=>absurd h (by decide)) (Frzs.self rfl)) (.cons _ _ _ _ (.i _ _) .nil)))) (.cons _ _ _ _ (.b _) .nil))
 refine qe.mk hc rfl ?_;simp only[qg,qf,vI,simprocAttr];simp +decide only[↓vS,vT,simprocAttr,d1,d2,d3,d4,d5,d6];exact fin (by simp[Tr.get_set,rT,qt,yV]) _
set_option maxRecDepth 4000 in
theorem qj2(hc:qv P f (qg g1 g2)=true)(p:Pol)(hp:PolOk p)(hR:PolR p)(s:List UInt8):qe P f [.agg (qf p),.i .i64 3,.s s] (wb (decide (s=zu),qt 0 4294967295 (if p.fmode=2 then 327777 else 2147418112) p.fams,if p.fmode=2 then 2147418112 else 327777)):=by
 have hl:=hp.f
 by_cases m:p.fmode=2
 ·rw[if_pos m,if_pos m];refine qe.mk hc rfl ?_;simp only[qg,qf,vI,simprocAttr];simp +decide only[↓vS,vT,simprocAttr,m]
  refine SL.loop (α:=Nat) (fun j=>[(2,.s s),(3,.ptr 0 0),(6,.ptr 1 0),(8,.ptr 2 0),(13,.i .u32 327777),(14,.i .u32 2147418112),(15,.i .i64 j)])
   (fun j=>[.cells 0 true false (qf p),.cells 0 true false [.i .u32 0,.nils,.i .u32 0],.cells 0 true false [.i .u32 0,.own 3 j,.i .u32 2147418112],.cells 4 true true (rT (qt 0 4294967295 327777 (p.fams.take j)))])
   (fun j=>j<=p.fams.length) (fun j=>p.fams.length-j) 0 [0,1,2,99] ?_ ?_ ?_ rfl ?_ ?_
  ·simp[vw]
  ·simp[vw,qf,qk,qc,qb,qt,rT,m]
  ·simp
  ·exact Nat.zero_le _
  rintro j hj G ih;simp only[vI,simprocAttr,qf]
  by_cases hlt:j<p.fams.length
  ·have hx:p.fams[j]?=some p.fams[j]:=zzE hlt;have hw:IntKind.wrap .i64 ((j:Int)+1)=((j+1:Nat):Int):=by rw[qz (by omega) (by omega)];omega
   have hb:=hR.fams p.fams[j] (List.getElem_mem hlt);have hcv:IntKind.wrap .u64 p.fams[j]=p.fams[j]:=vn (by omega) (by omega);have hln:(rT (qt 0 4294967295 327777 (p.fams.take j))).length=j*4:=by rw[xO];simp[qt];omega
   have htk:(rT (qt 0 4294967295 327777 (p.fams.take j))).take (j*4)=rT (qt 0 4294967295 327777 (p.fams.take j)):=List.take_of_length_le (by omega)
   have hap:rT (qt 0 4294967295 327777 (p.fams.take j))++[AV.i .i64 0,.i .u64 4294967295,.i .u64 p.fams[j],.i .u32 327777]=rT (qt 0 4294967295 327777 (p.fams.take (j+1))):=by
    rw[List.take_add_one,hx];simp only[Option.toList_some,qt,List.map_append,List.map_cons,List.map_nil];rw[← kE];rfl
   have hr1:j+1<=qd:=by simp only[qd];omega
   have hr2:(j+1)*32<=qd:=by simp only[qd];omega
   simp only[↓vS,vT,simprocAttr,hlt];refine xy ?_;simp +decide only[↓vS,vT,simprocAttr,hlt,Nat.mul_one,zx,hx,Option.map_some,hcv,hw,hr1,hr2,hln,htk,hap];refine ih (j+1) hlt (by omega) _ _ (Wk.mk _ _ [0,1,2,5] ?_ ?_ ?_ rfl)
   ·simp[vw]
   ·simp[vw,qf,qk,qc,qb,zc]
   ·simp
  ·have hj':j=p.fams.length:=by omega
   subst hj';simp only[↓vS,vT,simprocAttr,hlt,List.take_length];have hl2:(qt 0 4294967295 327777 p.fams).length=p.fams.length:=by simp[qt]
   simp only[wb,hl2];refine .tup _ _ (.cons _ _ _ _ (.agg _ _ (.cons _ _ _ _ (.i _ _) (.cons _ _ _ _ (.own 3 _ 4 true (rT (qt 0 4294967295 327777 p.fams)) _ ?_ (fun h0=>?_) (Frzs.self zc)) (.cons _ _ _ _ (.i _ _) .nil)))) (.cons _ _ _ _ (.b _) .nil))
   ·simp[Tr.get_set]
   ·rw[List.eq_nil_of_length_eq_zero (hl2.trans h0)];rfl
 ·rw[if_neg m,if_neg m];refine qe.mk hc rfl ?_;simp only[qg,qf,vI,simprocAttr];simp +decide only[↓vS,vT,simprocAttr,m]
  refine SL.loop (α:=Nat) (fun j=>[(2,.s s),(3,.ptr 0 0),(6,.ptr 1 0),(8,.ptr 2 0),(13,.i .u32 2147418112),(14,.i .u32 327777),(15,.i .i64 j)])
   (fun j=>[.cells 0 true false (qf p),.cells 0 true false [.i .u32 0,.nils,.i .u32 0],.cells 0 true false [.i .u32 0,.own 3 j,.i .u32 2147418112],.cells 4 true true (rT (qt 0 4294967295 2147418112 (p.fams.take j)))])
   (fun j=>j<=p.fams.length) (fun j=>p.fams.length-j) 0 [0,1,2,99] ?_ ?_ ?_ rfl ?_ ?_
  ·simp[vw]
  ·simp[vw,qf,qk,qc,qb,qt,rT]
  ·simp
  ·exact Nat.zero_le _
  rintro j hj G ih;simp only[vI,simprocAttr,qf]
  by_cases hlt:j<p.fams.length
  ·have hx:p.fams[j]?=some p.fams[j]:=zzE hlt;have hw:IntKind.wrap .i64 ((j:Int)+1)=((j+1:Nat):Int):=by rw[qz (by omega) (by omega)];omega
   have hb:=hR.fams p.fams[j] (List.getElem_mem hlt);have hcv:IntKind.wrap .u64 p.fams[j]=p.fams[j]:=vn (by omega) (by omega);have hln:(rT (qt 0 4294967295 2147418112 (p.fams.take j))).length=j*4:=by rw[xO];simp[qt];omega
   have htk:(rT (qt 0 4294967295 2147418112 (p.fams.take j))).take (j*4)=rT (qt 0 4294967295 2147418112 (p.fams.take j)):=List.take_of_length_le (by omega)
   have hap:rT (qt 0 4294967295 2147418112 (p.fams.take j))++[AV.i .i64 0,.i .u64 4294967295,.i .u64 p.fams[j],.i .u32 2147418112]=rT (qt 0 4294967295 2147418112 (p.fams.take (j+1))):=by
    rw[List.take_add_one,hx];simp only[Option.toList_some,qt,List.map_append,List.map_cons,List.map_nil];rw[← kE];rfl
   have hr1:j+1<=qd:=by simp only[qd];omega
   have hr2:(j+1)*32<=qd:=by simp only[qd];omega
   simp only[↓vS,vT,simprocAttr,hlt];refine xy ?_;simp +decide only[↓vS,vT,simprocAttr,hlt,Nat.mul_one,zx,hx,Option.map_some,hcv,hw,hr1,hr2,hln,htk,hap];refine ih (j+1) hlt (by omega) _ _ (Wk.mk _ _ [0,1,2,5] ?_ ?_ ?_ rfl)
   ·simp[vw]
   ·simp[vw,qf,qk,qc,qb,zc]
   ·simp
  ·have hj':j=p.fams.length:=by omega
   subst hj';simp only[↓vS,vT,simprocAttr,hlt,List.take_length];have hl2:(qt 0 4294967295 2147418112 p.fams).length=p.fams.length:=by simp[qt]
   simp only[wb,hl2];refine .tup _ _ (.cons _ _ _ _ (.agg _ _ (.cons _ _ _ _ (.i _ _) (.cons _ _ _ _ (.own 3 _ 4 true (rT (qt 0 4294967295 2147418112 p.fams)) _ ?_ (fun h0=>?_) (Frzs.self zc)) (.cons _ _ _ _ (.i _ _) .nil)))) (.cons _ _ _ _ (.b _) .nil))
   ·simp[Tr.get_set]
   ·rw[List.eq_nil_of_length_eq_zero (hl2.trans h0)];rfl
end
section
variable {g1 g2:Nat}
def qfN(P:Program)(f:Nat):Prop:=∀s,0<=s->s<18446744073709551616->qe P f [.i .u64 s] (.fz (zj s).length (rI .u64 (zj s)))
def ns4(p:Pol)(s:List UInt8):Bool×List GTest×Int:=if s=zh then (true,[],327718) else (decide (s=zm)||decide (s=qV)||decide (s=zA),qu (if s=zm then 1 else 0) 327681 (zj p.spaces)++(if s=zm then [⟨1,4294967295,0,327681⟩] else []),2147418112)
set_option maxRecDepth 4000 in
theorem qj3(hc:qv P f (qg g1 g2)=true)(h2:qfN P g2)(p:Pol)(hR:PolR p)(s:List UInt8):qe P f [.agg (qf p),.i .i64 4,.s s] (wb (ns4 p s)):=by
 by_cases k1:s=zm
 ·have n1:(s=[115,101,116,110,115])=True:=eq_true k1;have n2:(s=[99,108,111,110,101,51])=False:=eq_false (by rw[k1];decide)
  have e:ns4 p s=(true,qu 1 327681 (zj p.spaces)++[⟨1,4294967295,0,327681⟩],2147418112):=by
   unfold ns4;rw[if_neg (by rw[k1];decide),if_pos k1,if_pos k1];simp[k1]
  rw[e];refine qe.mk hc rfl ?_;simp only[qg,qf,vI,simprocAttr];simp +decide only[↓vS,vT,simprocAttr,n1,n2];refine (h2 p.spaces hR.spaces.1 hR.spaces.2).sc ?_;have hfl:(zj p.spaces).length<=8:=Nat.le_trans (List.length_filter_le _ _) (by decide);generalize zj p.spaces=F at hfl;simp +decide only[↓vS,vT,simprocAttr,n1,n2]
  refine SL.loop (α:=Nat) (fun j=>[(2,.s s),(3,.ptr 0 0),(6,.ptr 1 0),(8,.ptr 2 0),(16,.i .i64 1),(17,.fz F.length (rI .u64 F)),(18,.i .i64 j)])
   (fun j=>[.cells 0 true false (qf p),.cells 0 true false [.i .u32 0,.nils,.i .u32 0],.cells 0 true false [.i .u32 0,.own 3 j,.i .u32 2147418112],.cells 4 true true (rT (qu 1 327681 (F.take j)))])
   (fun j=>j<=F.length) (fun j=>F.length-j) 0 [0,1,2,99] ?_ ?_ ?_ rfl ?_ ?_
  ·simp[vw,qb]
  ·simp[vw,qf,qk,qc,qb,qu,rT]
  ·simp
  ·exact Nat.zero_le _
  rintro j hj G ih;simp only[vI,simprocAttr,qf]
  by_cases hlt:j<F.length
  ·have hx:F[j]?=some F[j]:=zzE hlt;have hw:IntKind.wrap .i64 ((j:Int)+1)=((j+1:Nat):Int):=by rw[qz (by omega) (by omega)];omega
   have hln:(rT (qu 1 327681 (F.take j))).length=j*4:=by rw[xO];simp[qu];omega
   have htk:(rT (qu 1 327681 (F.take j))).take (j*4)=rT (qu 1 327681 (F.take j)):=List.take_of_length_le (by omega)
   have hap:rT (qu 1 327681 (F.take j))++[AV.i .i64 1,.i .u64 F[j],.i .u64 F[j],.i .u32 327681]=rT (qu 1 327681 (F.take (j+1))):=by
    rw[List.take_add_one,hx];simp only[Option.toList_some,qu,List.map_append,List.map_cons,List.map_nil];rw[← kE];rfl
   have hr1:j+1<=qd:=by simp only[qd];omega
   have hr2:(j+1)*32<=qd:=by simp only[qd];omega
   simp only[↓vS,vT,simprocAttr,hlt];refine xy ?_;simp +decide only[↓vS,vT,simprocAttr,hlt,Nat.mul_one,zx,hx,Option.map_some,hw,hr1,hr2,hln,htk,hap];refine ih (j+1) hlt (by omega) _ _ (Wk.mk _ _ [0,1,2,5] ?_ ?_ ?_ rfl)
   ·simp[vw,qb]
   ·simp[vw,qf,qk,qc,qb,zc]
   ·simp
  ·have hj':j=F.length:=by omega
   subst hj';have hl2:(qu 1 327681 F).length=F.length:=by simp[qu]
   have hln:(rT (qu 1 327681 F)).length=F.length*4:=by rw[xO,hl2]
   have htk:(rT (qu 1 327681 F)).take (F.length*4)=rT (qu 1 327681 F):=List.take_of_length_le (by omega);have hr1:F.length+1<=qd:=by simp only[qd];omega
   have hr2:(F.length+1)*32<=qd:=by simp only[qd];omega
   clear ih;rw[List.take_length];have hap:rT (qu 1 327681 F)++[AV.i .i64 1,.i .u64 4294967295,.i .u64 0,.i .u32 327681]=rT (qu 1 327681 F++[⟨1,4294967295,0,327681⟩]):=by rw[← kE];rfl
   simp only[↓vS,vT,simprocAttr,hlt];simp +decide only[↓vS,vT,simprocAttr,n1,n2,hln,htk,hr1,hr2,hap];have hl3:(qu 1 327681 F++[(⟨1,4294967295,0,327681⟩:GTest)]).length=F.length+1:=by simp[qu]
   simp only[wb,hl3];refine .tup _ _ (.cons _ _ _ _ (.agg _ _ (.cons _ _ _ _ (.i _ _) (.cons _ _ _ _ (.own 5 _ 4 true (rT (qu 1 327681 F++[⟨1,4294967295,0,327681⟩])) _ ?_ (fun h0=>?_) (Frzs.self zc)) (.cons _ _ _ _ (.i _ _) .nil)))) (.cons _ _ _ _ (.b _) .nil))
   ·simp[Tr.get_set]
   ·omega
 by_cases k2:s=zh
 ·have n1:(s=[115,101,116,110,115])=False:=eq_false k1;have n2:(s=[99,108,111,110,101,51])=True:=eq_true k2;have e:ns4 p s=(true,[],327718):=by unfold ns4;rw[if_pos k2]
  rw[e];refine qe.mk hc rfl ?_;simp only[qg,qf,vI,simprocAttr];simp +decide only[↓vS,vT,simprocAttr,n1,n2];refine (h2 p.spaces hR.spaces.1 hR.spaces.2).sc ?_;have hfl:(zj p.spaces).length<=8:=Nat.le_trans (List.length_filter_le _ _) (by decide);generalize zj p.spaces=F at hfl;simp +decide only[↓vS,vT,simprocAttr,n1,n2]
  refine SL.loop (α:=Nat) (fun j=>[(2,.s s),(3,.ptr 0 0),(6,.ptr 1 0),(8,.ptr 2 0),(16,.i .i64 0),(17,.fz F.length (rI .u64 F)),(18,.i .i64 j)])
   (fun j=>[.cells 0 true false (qf p),.cells 0 true false [.i .u32 0,.nils,.i .u32 0],.cells 0 true false [.i .u32 0,.own 3 j,.i .u32 2147418112],.cells 4 true true (rT (qu 0 327681 (F.take j)))])
   (fun j=>j<=F.length) (fun j=>F.length-j) 0 [0,1,2,99] ?_ ?_ ?_ rfl ?_ ?_
  ·simp[vw,qb]
  ·simp[vw,qf,qk,qc,qb,qu,rT]
  ·simp
  ·exact Nat.zero_le _
  rintro j hj G ih;simp only[vI,simprocAttr,qf]
  by_cases hlt:j<F.length
  ·have hx:F[j]?=some F[j]:=zzE hlt;have hw:IntKind.wrap .i64 ((j:Int)+1)=((j+1:Nat):Int):=by rw[qz (by omega) (by omega)];omega
   have hln:(rT (qu 0 327681 (F.take j))).length=j*4:=by rw[xO];simp[qu];omega
   have htk:(rT (qu 0 327681 (F.take j))).take (j*4)=rT (qu 0 327681 (F.take j)):=List.take_of_length_le (by omega)
   have hap:rT (qu 0 327681 (F.take j))++[AV.i .i64 0,.i .u64 F[j],.i .u64 F[j],.i .u32 327681]=rT (qu 0 327681 (F.take (j+1))):=by
    rw[List.take_add_one,hx];simp only[Option.toList_some,qu,List.map_append,List.map_cons,List.map_nil];rw[← kE];rfl
   have hr1:j+1<=qd:=by simp only[qd];omega
   have hr2:(j+1)*32<=qd:=by simp only[qd];omega
   simp only[↓vS,vT,simprocAttr,hlt];refine xy ?_;simp +decide only[↓vS,vT,simprocAttr,hlt,Nat.mul_one,zx,hx,Option.map_some,hw,hr1,hr2,hln,htk,hap];refine ih (j+1) hlt (by omega) _ _ (Wk.mk _ _ [0,1,2,5] ?_ ?_ ?_ rfl)
   ·simp[vw,qb]
   ·simp[vw,qf,qk,qc,qb,zc]
   ·simp
  ·have hj':j=F.length:=by omega
   subst hj';have hl2:(qu 0 327681 F).length=F.length:=by simp[qu]
   have hln:(rT (qu 0 327681 F)).length=F.length*4:=by rw[xO,hl2]
   have htk:(rT (qu 0 327681 F)).take (F.length*4)=rT (qu 0 327681 F):=List.take_of_length_le (by omega);have hr1:F.length+1<=qd:=by simp only[qd];omega
   have hr2:(F.length+1)*32<=qd:=by simp only[qd];omega
   clear ih;rw[List.take_length];simp +decide only[↓vS,vT,simprocAttr,hlt,n1,n2];simp[vZ,wb,rT]
 ·have n1:(s=[115,101,116,110,115])=False:=eq_false k1;have n2:(s=[99,108,111,110,101,51])=False:=eq_false k2
  have e:ns4 p s=(decide (s=qV)||decide (s=zA),qu 0 327681 (zj p.spaces),2147418112):=by
   unfold ns4;rw[if_neg k2,if_neg k1,if_neg k1];simp[k1]
  rw[e];refine qe.mk hc rfl ?_;simp only[qg,qf,vI,simprocAttr];simp +decide only[↓vS,vT,simprocAttr,n1,n2];refine (h2 p.spaces hR.spaces.1 hR.spaces.2).sc ?_;have hfl:(zj p.spaces).length<=8:=Nat.le_trans (List.length_filter_le _ _) (by decide);generalize zj p.spaces=F at hfl;simp +decide only[↓vS,vT,simprocAttr,n1,n2]
  refine SL.loop (α:=Nat) (fun j=>[(2,.s s),(3,.ptr 0 0),(6,.ptr 1 0),(8,.ptr 2 0),(16,.i .i64 0),(17,.fz F.length (rI .u64 F)),(18,.i .i64 j)])
   (fun j=>[.cells 0 true false (qf p),.cells 0 true false [.i .u32 0,.nils,.i .u32 0],.cells 0 true false [.i .u32 0,.own 3 j,.i .u32 2147418112],.cells 4 true true (rT (qu 0 327681 (F.take j)))])
   (fun j=>j<=F.length) (fun j=>F.length-j) 0 [0,1,2,99] ?_ ?_ ?_ rfl ?_ ?_
  ·simp[vw,qb]
  ·simp[vw,qf,qk,qc,qb,qu,rT]
  ·simp
  ·exact Nat.zero_le _
  rintro j hj G ih;simp only[vI,simprocAttr,qf]
  by_cases hlt:j<F.length
  ·have hx:F[j]?=some F[j]:=zzE hlt;have hw:IntKind.wrap .i64 ((j:Int)+1)=((j+1:Nat):Int):=by rw[qz (by omega) (by omega)];omega
   have hln:(rT (qu 0 327681 (F.take j))).length=j*4:=by rw[xO];simp[qu];omega
   have htk:(rT (qu 0 327681 (F.take j))).take (j*4)=rT (qu 0 327681 (F.take j)):=List.take_of_length_le (by omega)
   have hap:rT (qu 0 327681 (F.take j))++[AV.i .i64 0,.i .u64 F[j],.i .u64 F[j],.i .u32 327681]=rT (qu 0 327681 (F.take (j+1))):=by
    rw[List.take_add_one,hx];simp only[Option.toList_some,qu,List.map_append,List.map_cons,List.map_nil];rw[← kE];rfl
   have hr1:j+1<=qd:=by simp only[qd];omega
   have hr2:(j+1)*32<=qd:=by simp only[qd];omega
   simp only[↓vS,vT,simprocAttr,hlt];refine xy ?_;simp +decide only[↓vS,vT,simprocAttr,hlt,Nat.mul_one,zx,hx,Option.map_some,hw,hr1,hr2,hln,htk,hap];refine ih (j+1) hlt (by omega) _ _ (Wk.mk _ _ [0,1,2,5] ?_ ?_ ?_ rfl)
   ·simp[vw,qb]
   ·simp[vw,qf,qk,qc,qb,zc]
   ·simp
  ·have hj':j=F.length:=by omega
   subst hj';have hl2:(qu 0 327681 F).length=F.length:=by simp[qu]
   have hln:(rT (qu 0 327681 F)).length=F.length*4:=by rw[xO,hl2]
   have htk:(rT (qu 0 327681 F)).take (F.length*4)=rT (qu 0 327681 F):=List.take_of_length_le (by omega);have hr1:F.length+1<=qd:=by simp only[qd];omega
   have hr2:(F.length+1)*32<=qd:=by simp only[qd];omega
   clear ih;rw[List.take_length]
   by_cases k3:s=qV
   ·have n3:(s=[117,110,115,104,97,114,101])=True:=eq_true k3;simp +decide only[↓vS,vT,simprocAttr,hlt,n1,n2,n3];have e2:(decide (s=qV)||decide (s=zA))=true:=by simp[k3]
    rw[e2];simp only[wb,hl2];refine .tup _ _ (.cons _ _ _ _ (.agg _ _ (.cons _ _ _ _ (.i _ _) (.cons _ _ _ _ (.own 3 _ 4 true (rT (qu 0 327681 F)) _ ?_ (fun h0=>?_) (Frzs.self zc)) (.cons _ _ _ _ (.i _ _) .nil)))) (.cons _ _ _ _ (.b _) .nil))
    ·simp[Tr.get_set]
    ·rw[List.eq_nil_of_length_eq_zero (hl2.trans h0)];rfl
   ·have n3:(s=[117,110,115,104,97,114,101])=False:=eq_false k3;simp +decide only[↓vS,vT,simprocAttr,hlt,n1,n2,n3];have e2:(decide (s=qV)||decide (s=zA))=decide (s=zA):=by simp[k3]
    rw[e2];simp only[wb,hl2];refine .tup _ _ (.cons _ _ _ _ (.agg _ _ (.cons _ _ _ _ (.i _ _) (.cons _ _ _ _ (.own 3 _ 4 true (rT (qu 0 327681 F)) _ ?_ (fun h0=>?_) (Frzs.self zc)) (.cons _ _ _ _ (.i _ _) .nil)))) (.cons _ _ _ _ (.b _) .nil))
    ·simp[Tr.get_set]
    ·rw[List.eq_nil_of_length_eq_zero (hl2.trans h0)];rfl
def qac(P:Program)(f:Nat):Prop:=∀p,PolOk p->PolR p->∀(d:Int) (s:List UInt8),qe P f [.agg (qf p),.i .i64 d,.s s] (wb (yr p d s))
theorem qpE(hc:qv P f (qg g1 g2)=true)(h1:QW P g1)(h2:qfN P g2):qac P f:=by
 intro p hp hR d s;unfold yr
 by_cases d1:d=1
 ·subst d1;rw[if_pos rfl];exact qj0 hc h1 p hp s
 rw[if_neg d1]
 by_cases d2:d=2
 ·subst d2;rw[if_pos rfl];exact qj1 hc h1 p hp s
 rw[if_neg d2]
 by_cases d3:d=3
 ·subst d3;rw[if_pos rfl];exact qj2 hc p hp hR s
 rw[if_neg d3]
 by_cases d4:d=4
 ·subst d4;rw[if_pos rfl];exact qj3 hc h2 p hR s
 rw[if_neg d4]
 by_cases d5:d=5
 ·subst d5;rw[if_pos rfl];exact qj4 hc p s
 rw[if_neg d5]
 by_cases d6:d=6
 ·subst d6;rw[if_pos rfl];exact qj5 hc p s
 rw[if_neg d6];exact qj6 hc p d d1 d2 d3 d4 d5 d6 s
end
def qbL(c:GCall):List GCall->List GCall
 | []=>[c]
 | x::l=>if c.act<=x.act then c::x::l else x::qbL c l
def kW(a:Int):List GCall:=(qL.filterMap fun x=>(kT x a).map fun n=>(⟨x.1,n⟩:GCall)).foldr qbL []
def qfM(P:Program)(f:Nat):Prop:=∀a:Int,0<=a->a<6->qe P f [.i .i64 a] (.fz (kW a).length (rC (kW a)))
theorem qcJ(c:GCall):∀l,(qbL c l).length=l.length+1
 | []=>rfl
 | x::l=>by unfold qbL;split<;>simp[qcJ c l]
theorem qcc(a:Int):(kW a).length<=40:=by
 unfold kW
 have h1:∀l:List GCall,(l.foldr qbL []).length=l.length:=by
  intro l;induction l with
  | nil=>rfl
  | cons x l ih=>simp[qcJ,ih]
 rw[h1];exact Nat.le_trans (List.length_filterMap_le _ _) (by decide)
def dfR(p:Pol)(d:Int):Int:=if d=1∧p.filter.mode=1 then p.deny else if d=2∧p.log.mode=2 then 2147221504 else 2147418112
def ruR(p:Pol)(d:Int)(l:List GCall):List GRule:=l.filterMap fun c=>if (yr p d c.name).1=true then some ⟨c.act,(yr p d c.name).2.1,(yr p d c.name).2.2⟩ else none
noncomputable def vD(p:Pol)(d a:Int):Option GFil:=if (decide (0<=a)&&decide (a<6)&&va p&&inA p.arches a&&w8 p d)=true then some ⟨a,ruR p d (kW a),dfR p d⟩ else none
theorem qhG{p:Pol}{d:Int}{l:List GCall}{j:Nat}{c:GCall}(h:l[j]?=some c):ruR p d (l.take (j+1))=ruR p d (l.take j)++(if (yr p d c.name).1=true then [⟨c.act,(yr p d c.name).2.1,(yr p d c.name).2.2⟩] else []):=by
 rw[List.take_add_one,h];unfold ruR;rw[List.filterMap_append];split<;>rename_i hh<;>simp[hh]
def zR(a b c d e:Nat):ICode:=.seq (.r [.n 60 2,.l 61 d [.t 60],.n 9 61]) (.seq (.seq (.r [.m 10 (.k 0)]) (.blk 0 (.loop (.seq (.seq (.r [.n 62 10,.n 63 9,.e 64 63,.s 65 62 64]) (.cond (.t 65) (.skip) (.exit 0))) (.seq (.blk 1 (.seq (.reg true [.v 69 13 3,.n 70 1,.n 71 9,.n 72 10,.i 73 2 71 72,.f 74 0 73,.d 75 74,.l 76 e [.t 69,.t 70,.t 75],.n 68 76,.x 77 68 0,.x 78 68 1,.q 11 (.alloc [.i .u32 0,.nils,.i .u32 0]),.u (.store 3 (.t 11) (.t 77)),.n 12 78]) (.seq (.r [.n 79 9,.n 80 10,.i 81 2 79 80,.f 82 1 81,.d 83 82,.f 84 0 11,.u (.store 1 (.t 84) (.t 83))]) (.seq (.r [.n 85 12]) (.cond (.t 85) (.r [.f 86 1 8,.d 87 86,.v 88 3 11,.q 89 (.buildS 1 [.i .u32 0,.nils,.i .u32 0] [(0,3,(.t 88))]),.q 90 (.app 3 40 true (.t 87) (.t 89)),.f 91 1 8,.u (.store 1 (.t 91) (.t 90))]) (.skip)))))) (.r [.n 66 10,.a 67 66 1,.n 10 67])))))) (.seq (.r [.v 92 3 8,.u (.store 3 (.t 6) (.t 92)),.m 7 .T]) (.ret)))
def zQ(a b c d e:Nat):ICode:=.seq (.r [.n 38 2,.q 39 (.build [.i .i64 0,.nils,.i .u32 0] [(0,1,(.t 38)),(2,1,(.c (.i .u32 2147418112)))]),.q 8 (.alloc [.i .i64 0,.nils,.i .u32 0]),.u (.store 3 (.t 8) (.t 39))]) (.seq (.seq (.r [.n 40 1,.w 41 .eql 40 1,.n 42 41,.h 43 1 3 42 true,.h 44 0 43 42 true,.j 45 44 42 true,.g 46 (.bin .eql (.t 45) (.c (.i .u8 1))) 42 true,.p 47 42 46]) (.cond (.t 47) (.r [.f 48 3 3,.d 49 48,.f 50 2 8,.u (.store 1 (.t 50) (.t 49))]) (.skip))) (.seq (.seq (.r [.n 51 1,.w 52 .eql 51 2,.n 53 52,.h 54 4 3 53 true,.h 55 0 54 53 true,.j 56 55 53 true,.g 57 (.bin .eql (.t 56) (.c (.i .u8 2))) 53 true,.p 58 53 57]) (.cond (.t 58) (.r [.f 59 2 8,.u (.store 1 (.t 59) (.c (.i .u32 2147221504)))]) (.skip))) (.cut (zR a b c d e))))
def jp(a b c d e:Nat):IFn:=⟨[.cell 6 3 true,.tmp 7],.seq (.r [.q 3 (.box (.t 0)),.q 6 (.alloc [.i .i64 0,.nils,.i .u32 0]),.m 7 .F]) (.seq (.seq (.r [.n 13 2,.w 14 .lss 13 0,.n 15 14,.z 16 2 15,.g 17 (.bin .gtr (.t 16) (.k 5)) 15 false,.o 18 15 17,.n 19 18,.g 20 (.loadN 13 (.t 3)) 19 false,⟨(some 21),.callF a [.t 20],(some (19,false))⟩,.g 22 (.un .not (.t 21)) 19 false,.o 23 19 22,.n 24 23,.h 25 0 3 24 false,.j 26 25 24 false,.z 27 2 24,⟨(some 28),.callF b [.t 26,.t 27],(some (24,false))⟩,.g 29 (.un .not (.t 28)) 24 false,.o 30 24 29,.n 31 30,.g 32 (.loadN 13 (.t 3)) 31 false,.z 33 1 31,⟨(some 34),.callF c [.t 32,.t 33],(some (31,false))⟩,.g 35 (.un .not (.t 34)) 31 false,.o 36 31 35]) (.cond (.t 36) (.seq (.r [.q 37 (.build [.i .i64 0,.nils,.i .u32 0] []),.u (.store 3 (.t 6) (.t 37)),.m 7 .F]) (.ret)) (.skip))) (.cut (zQ a b c d e)))⟩
section
variable {g1 g2 g3 g4 g5:Nat}
theorem QO(h4:qfM P g4)(h5:qac P g5)(p:Pol)(hp:PolOk p)(hR:PolR p)(a d df:Int)(ha:0<=a)(ha6:a<6){t':Tr AV}{h':Hp}(hw:Wk 0 t' h' (mkT [(1,.i .i64 d),(2,.i .i64 a),(3,.ptr 0 0),(6,.ptr 1 0),(8,.ptr 2 0)]) (mkH 0 [.cells 0 true false (qf p),.cells 0 true false [.i .i64 0,.nils,.i .u32 0],.cells 0 true false [.i .i64 a,.nils,.i .u32 df]])) :
  S P 0 (zR g1 g2 g3 g4 g5) (js [.cell 6 3 true,.tmp 7] fun v' h'=>Frz h' v' (yK (some ⟨a,ruR p d (kW a),df⟩))) t' h':=by
 refine S.weak hw (qJ ?_);simp only[zR,qf,vI,simprocAttr];simp only[↓vS,vT,simprocAttr];refine (h4 a ha ha6).sc ?_;have hL:=qcc a;generalize kW a=L at hL;simp only[↓vS,vT,simprocAttr]
 refine SL.loop (α:=Nat) (fun j=>[(1,.i .i64 d),(3,.ptr 0 0),(6,.ptr 1 0),(8,.ptr 2 0),(9,.fz L.length (rC L)),(10,.i .i64 j)])
  (fun j=>[.cells 0 true false (qf p),.cells 0 true false [.i .i64 0,.nils,.i .u32 0],.cells 0 true false [.i .i64 a,.own 3 (ruR p d (L.take j)).length,.i .u32 df],.cells 3 true true (rR (ruR p d (L.take j)))])
  (fun j=>j<=L.length) (fun j=>L.length-j) 0 [0,1,2,99] ?_ ?_ ?_ rfl ?_ ?_
 ·simp[vw,qc]
 ·simp[vw,qf,qk,qc,qb,ruR,rR]
 ·simp
 ·exact Nat.zero_le _
 rintro j hj G ih;simp only[vI,simprocAttr,qf]
 by_cases hlt:j<L.length
 ·have hx:L[j]?=some L[j]:=zzE hlt;have g0:(rC L)[j*2]?=some (.s L[j].name):=kD hx (i:=0) (by decide);have g1:(rC L)[j*2+1]?=some (.i .u32 L[j].act):=kD hx (i:=1) (by decide);have hw:IntKind.wrap .i64 ((j:Int)+1)=((j+1:Nat):Int):=by rw[qz (by omega) (by omega)];omega
  have hA1:=qhG (p:=p) (d:=d) hx
  have hAl:(ruR p d (L.take j)).length<=j:=by
   unfold ruR;refine Nat.le_trans (List.length_filterMap_le _ _) ?_;simp;omega
  generalize hA:ruR p d (L.take j)=A at hA1 hAl;generalize hc0:L[j]=c at g0 g1 hA1;simp only[↓vS,vT,simprocAttr,hlt];refine xy ?_;simp only[↓vS,vT,simprocAttr,hlt,g0];refine (h5 p hp hR d c.name).pc ?_;generalize yr p d c.name=r at hA1;obtain⟨ok,ts,act⟩:=r;dsimp only at hA1;cases ok with
  | false =>
   rw[if_neg (by decide),List.append_nil] at hA1;simp only[wb,↓vS,vT,simprocAttr,hlt,g1,hw];refine ih (j+1) hlt (by omega) _ _ (Wk.mk _ _ [0,1,2,3] ?_ ?_ ?_ rfl)
   ·simp[vw,qc]
   ·rw[hA1];simp[vw,qf,qk,qc,qb,ql]
   ·simp
  | true =>
   rw[if_pos rfl] at hA1;have hln:(rR A).length=A.length*3:=w4;have htk:(rR A).take (A.length*3)=rR A:=List.take_of_length_le (by omega);have hap:rR A++[AV.i .u32 c.act,.fz ts.length (rT ts),.i .u32 act]=rR (A++[⟨c.act,ts,act⟩]):=by rw[← qhv];rfl
   have hr1:A.length+1<=qd:=by simp only[qd];omega
   have hr2:(A.length+1)*40<=qd:=by simp only[qd];omega
   simp +decide only[wb,↓vS,vT,simprocAttr,hlt,g1,hw,hln,htk,hap,hr1,hr2];refine ih (j+1) hlt (by omega) _ _ (Wk.mk _ _ [0,1,2,6] ?_ ?_ ?_ rfl)
   ·simp[vw,qc]
   ·rw[hA1];simp[vw,qf,qk,qc,qb,ql]
   ·simp
 ·have hj':j=L.length:=by omega
  subst hj';clear ih;rw[List.take_length];simp only[↓vS,vT,simprocAttr,hlt];refine .tup _ _ (.cons _ _ _ _ (.agg _ _ (.cons _ _ _ _ (.i _ _) (.cons _ _ _ _ (.own 3 _ 3 true (rR (ruR p d L)) _ ?_ (fun h0=>?_) (Frzs.self ql)) (.cons _ _ _ _ (.i _ _) .nil)))) (.cons _ _ _ _ (.b _) .nil))
  ·simp[Tr.get_set]
  ·rw[List.eq_nil_of_length_eq_zero h0];rfl
theorem qjY(h4:qfM P g4)(h5:qac P g5)(p:Pol)(hp:PolOk p)(hR:PolR p)(a d:Int)(ha:0<=a)(ha6:a<6){t':Tr AV}{h':Hp}(hw:Wk 0 t' h' (mkT [(1,.i .i64 d),(2,.i .i64 a),(3,.ptr 0 0),(6,.ptr 1 0)]) (mkH 0 [.cells 0 true false (qf p),.cells 0 true false [.i .i64 0,.nils,.i .u32 0]])) :
  S P 0 (zQ g1 g2 g3 g4 g5) (js [.cell 6 3 true,.tmp 7] fun v' h'=>Frz h' v' (yK (some ⟨a,ruR p d (kW a),dfR p d⟩))) t' h':=by
 refine S.weak hw (qJ ?_);simp only[zQ,qf,vI,simprocAttr]
 by_cases k1:d=1
 ·subst k1
  by_cases m1:p.filter.mode=1
  ·rw[show dfR p 1=p.deny by simp[dfR,m1]]
   simp +decide only[↓vS,vT,simprocAttr,m1];refine QO h4 h5 p hp hR a 1 _ ha ha6 (Wk.mk _ _ [0,1,2] ?_ ?_ ?_ rfl)
   ·simp[vw]
   ·simp[vw,qf,qk,qc,qb,m1]
   ·simp
  ·rw[show dfR p 1=2147418112 by simp[dfR,m1]]
   simp +decide only[↓vS,vT,simprocAttr,m1];refine QO h4 h5 p hp hR a 1 _ ha ha6 (Wk.mk _ _ [0,1,2] ?_ ?_ ?_ rfl)
   ·simp[vw]
   ·simp[vw,qf,qk,qc,qb]
   ·simp
 by_cases k2:d=2
 ·subst k2
  by_cases m2:p.log.mode=2
  ·rw[show dfR p 2=2147221504 by simp[dfR,m2]]
   simp +decide only[↓vS,vT,simprocAttr,m2];refine QO h4 h5 p hp hR a 2 _ ha ha6 (Wk.mk _ _ [0,1,2] ?_ ?_ ?_ rfl)
   ·simp[vw]
   ·simp[vw,qf,qk,qc,qb,m2]
   ·simp
  ·rw[show dfR p 2=2147418112 by simp[dfR,m2]]
   simp +decide only[↓vS,vT,simprocAttr,m2];refine QO h4 h5 p hp hR a 2 _ ha ha6 (Wk.mk _ _ [0,1,2] ?_ ?_ ?_ rfl)
   ·simp[vw]
   ·simp[vw,qf,qk,qc,qb]
   ·simp
 rw[show dfR p d=2147418112 by simp[dfR,k1,k2]]
 simp +decide only[↓vS,vT,simprocAttr,k1,k2];refine QO h4 h5 p hp hR a d _ ha ha6 (Wk.mk _ _ [0,1,2] ?_ ?_ ?_ rfl)
 ·simp[vw]
 ·simp[vw,qf,qk,qc,qb]
 ·simp
def qfP(P:Program)(f:Nat):Prop:=∀p,PolOk p->PolR p->∀d a:Int,qe P f [.agg (qf p),.i .i64 d,.i .i64 a] (yK (vD p d a))
theorem qnp(hc:qv P f (jp g1 g2 g3 g4 g5)=true)(h1:∀p,PolOk p->PolR p->qe P g1 [.agg (qf p)] (.b (va p)))(h2:∀(xs:List Int) (x:Int),xs.length<=qd->qe P g2 [.fz xs.length (rI .i64 xs),.i .i64 x] (.b (inA xs x)))
  (h3:∀p d,qe P g3 [.agg (qf p),.i .i64 d] (.b (w8 p d))) (h4:qfM P g4) (h5:qac P g5):qfP P f:=by
 intro p hp hR d a;have hl:=hp.a;refine qe.mk hc rfl ?_
 have no:(decide (0<=a)&&decide (a<6)&&va p&&inA p.arches a&&w8 p d)=false->∀{h:Hp},Frz h (.tup [.agg [.i .i64 0,.nils,.i .u32 0],.b false]) (yK (vD p d a)):=by
  intro h0 h;rw[vD,h0];exact .tup _ _ (.cons _ _ _ _ (.agg _ _ (.cons _ _ _ _ (.i _ _) (.cons _ _ _ _ .nilz (.cons _ _ _ _ (.i _ _) .nil)))) (.cons _ _ _ _ (.b _) .nil))
 simp only[jp,qf,vI,simprocAttr]
 by_cases k1:a<0
 ·simp only[↓vS,vT,simprocAttr,k1];exact no (by simp only[decide_eq_false (by omega:¬0<=a)];simp)
 by_cases k2:5<a
 ·simp only[↓vS,vT,simprocAttr,k1,k2];exact no (by simp only[decide_eq_false (by omega:¬a<6)];simp)
 simp only[↓vS,vT,simprocAttr,k1,k2];refine (h1 p hp hR).sc ?_;cases k3:va p with
 | false =>
  simp only[↓vS,vT,simprocAttr];exact no (by simp[k3])
 | true =>
  simp only[↓vS,vT,simprocAttr];refine (h2 p.arches a (by simp only[qd];omega)).sc ?_;cases k4:inA p.arches a with
  | false =>
   simp only[↓vS,vT,simprocAttr];exact no (by simp[k4])
  | true =>
   simp only[↓vS,vT,simprocAttr];refine (h3 p d).sc ?_;cases k5:w8 p d with
   | false =>
    simp only[↓vS,vT,simprocAttr];exact no (by simp[k5])
   | true =>
    have e:vD p d a=some ⟨a,ruR p d (kW a),dfR p d⟩:=by
     rw[vD,if_pos];simp[k3,k4,k5];omega
    rw[e];simp only[↓vS,vT,simprocAttr];refine qjY h4 h5 p hp hR a d (by omega) (by omega) (Wk.mk _ _ [0,1] ?_ ?_ ?_ rfl)
    ·simp[vw]
    ·simp[vw,qf,qk,qc,qb]
    ·simp
end
def xK:IFn:=⟨[.tmp 4],.seq (.r [.q 2 (.box (.t 0)),.q 3 (.box (.t 1)),.m 4 .F]) (.seq (.seq (.r [.f 6 0 2,.d 7 6,.f 8 0 3,.d 9 8,.b 10 .neq 7 9,.n 11 10,.h 12 2 2 11 false,.j 13 12 11 false,.h 14 2 3 11 false,.j 15 14 11 false,.g 16 (.bin .neq (.t 13) (.t 15)) 11 false,.o 17 11 16,.n 18 17,.h 19 1 2 18 false,.j 20 19 18 false,.g 21 (.len false (.t 20)) 18 false,.h 22 1 3 18 false,.j 23 22 18 false,.g 24 (.len false (.t 23)) 18 false,.g 25 (.bin .neq (.t 21) (.t 24)) 18 false,.o 26 18 25]) (.cond (.t 26) (.seq (.r [.m 4 .F]) (.ret)) (.skip))) (.seq (.seq (.r [.m 5 (.k 0)]) (.blk 0 (.loop (.seq (.seq (.r [.n 27 5,.f 28 1 2,.d 29 28,.e 30 29,.s 31 27 30]) (.cond (.t 31) (.skip) (.exit 0))) (.seq (.blk 1 (.seq (.reg true [.f 34 1 2,.d 35 34,.n 36 5,.i 37 4 35 36,.v 38 4 37,.f 39 1 3,.d 40 39,.n 41 5,.i 42 4 40 41,.v 43 4 42,.q 44 (.eqA true [.i,.i,.i,.i] (.t 38) (.t 43))]) (.cond (.t 44) (.seq (.r [.m 4 .F]) (.ret)) (.skip)))) (.r [.n 32 5,.a 33 32 1,.n 5 33])))))) (.seq (.r [.m 4 .T]) (.ret))))⟩
theorem qmP(hc:qv P f xK=true)(r:GRule)(hl:r.tests.length<=100000):qe P f [.agg (xz r),.agg (xz r)] (.b true):=by
 refine qe.mk hc rfl ?_;simp only[xK,xz,vI,simprocAttr];simp only[↓vS,vT,simprocAttr];refine SL.loop (α:=Nat) (fun j=>[(2,.ptr 0 0),(3,.ptr 1 0),(5,.i .i64 j)]) (fun _=>[.cells 0 true false (xz r),.cells 0 true false (xz r)]) (fun j=>j<=r.tests.length) (fun j=>r.tests.length-j) 0 [0,1] ?_ ?_ ?_ rfl ?_ ?_
 ·simp[vw]
 ·simp[vw,xz,zc]
 ·simp
 ·exact Nat.zero_le _
 rintro j hj G ih;simp only[vI,simprocAttr,xz]
 by_cases hlt:j<r.tests.length
 ·have hx:r.tests[j]?=some r.tests[j]:=zzE hlt;have he:=qjV hx;have hb:=qhy hlt;have hw:IntKind.wrap .i64 ((j:Int)+1)=((j+1:Nat):Int):=by rw[qz (by omega) (by omega)];omega
  generalize r.tests[j]=c at he;simp only[↓vS,vT,simprocAttr,hlt];refine xy ?_;simp only[↓vS,vT,simprocAttr,hlt,he,hb,yV,hw];refine ih (j+1) hlt (by omega) _ _ (Wk.mk _ _ [0,1] ?_ ?_ ?_ rfl)
  ·simp[vw]
  ·simp[vw,xz,zc]
  ·simp
 ·simp only[↓vS,vT,simprocAttr,hlt];simp[vZ]
def jK(a:Nat):IFn:=⟨[.tmp 4],.seq (.r [.q 2 (.box (.t 0)),.q 3 (.box (.t 1)),.m 4 .F]) (.seq (.seq (.r [.f 6 0 2,.d 7 6,.f 8 0 3,.d 9 8,.b 10 .neq 7 9,.n 11 10,.h 12 2 2 11 false,.j 13 12 11 false,.h 14 2 3 11 false,.j 15 14 11 false,.g 16 (.bin .neq (.t 13) (.t 15)) 11 false,.o 17 11 16,.n 18 17,.h 19 1 2 18 false,.j 20 19 18 false,.g 21 (.len false (.t 20)) 18 false,.h 22 1 3 18 false,.j 23 22 18 false,.g 24 (.len false (.t 23)) 18 false,.g 25 (.bin .neq (.t 21) (.t 24)) 18 false,.o 26 18 25]) (.cond (.t 26) (.seq (.r [.m 4 .F]) (.ret)) (.skip))) (.seq (.seq (.r [.m 5 (.k 0)]) (.blk 0 (.loop (.seq (.seq (.r [.n 27 5,.f 28 1 2,.d 29 28,.e 30 29,.s 31 27 30]) (.cond (.t 31) (.skip) (.exit 0))) (.seq (.blk 1 (.seq (.reg true [.f 34 1 2,.d 35 34,.n 36 5,.i 37 3 35 36,.v 38 3 37,.f 39 1 3,.d 40 39,.n 41 5,.i 42 3 40 41,.v 43 3 42,.l 44 a [.t 38,.t 43],.q 45 (.un .not (.t 44))]) (.cond (.t 45) (.seq (.r [.m 4 .F]) (.ret)) (.skip)))) (.r [.n 32 5,.a 33 32 1,.n 5 33])))))) (.seq (.r [.m 4 .T]) (.ret))))⟩
theorem qpH{g:Nat}(hc:qv P f (jK g)=true)(hg:∀r:GRule,r.tests.length<=100000->qe P g [.agg (xz r),.agg (xz r)] (.b true))(x:GFil)(hl:x.rules.length<=100000)(ht:∀r ∈ x.rules,r.tests.length<=100000):qe P f [.agg (ww x),.agg (ww x)] (.b true):=by
 refine qe.mk hc rfl ?_;simp only[jK,ww,vI,simprocAttr];simp only[↓vS,vT,simprocAttr];refine SL.loop (α:=Nat) (fun j=>[(2,.ptr 0 0),(3,.ptr 1 0),(5,.i .i64 j)]) (fun _=>[.cells 0 true false (ww x),.cells 0 true false (ww x)]) (fun j=>j<=x.rules.length) (fun j=>x.rules.length-j) 0 [0,1] ?_ ?_ ?_ rfl ?_ ?_
 ·simp[vw]
 ·simp[vw,ww,ql]
 ·simp
 ·exact Nat.zero_le _
 rintro j hj G ih;simp only[vI,simprocAttr,ww]
 by_cases hlt:j<x.rules.length
 ·have hx:x.rules[j]?=some x.rules[j]:=zzE hlt;have he:=qjU hx;have hb:=qhw hlt;have hw:IntKind.wrap .i64 ((j:Int)+1)=((j+1:Nat):Int):=by rw[qz (by omega) (by omega)];omega
  have htl:=ht _ (List.getElem_mem hlt);generalize x.rules[j]=c at he htl;simp only[↓vS,vT,simprocAttr,hlt];refine xy ?_;simp only[↓vS,vT,simprocAttr,hlt,he,hb];refine (hg c htl).pc ?_;simp only[↓vS,vT,simprocAttr,hw];refine ih (j+1) hlt (by omega) _ _ (Wk.mk _ _ [0,1] ?_ ?_ ?_ rfl)
  ·simp[vw]
  ·simp[vw,ww,ql]
  ·simp
 ·simp only[↓vS,vT,simprocAttr,hlt];simp[vZ]
end Go.Kc
end
section
namespace Go.Kc
variable [Cur]
theorem Zc{α:Type}(k:α->Int):∀{l m:List α},l.Pairwise (fun x y=>k x<k y)->m.Pairwise (fun x y=>k x<k y)->(∀x,x ∈ l↔x ∈ m)->l=m
 | [],[],_,_,_=>rfl
 | [],y::m,_,_,h=>by have:=(h y).2 (by simp);simp at this
 | x::l,[],_,_,h=>by have:=(h x).1 (by simp);simp at this
 | x::l,y::m,hl,hm,h=>by
  obtain⟨h1,h2⟩:=List.pairwise_cons.1 hl;obtain⟨h3,h4⟩:=List.pairwise_cons.1 hm
  have e:x=y:=by
   rcases List.mem_cons.1 ((h x).1 (by simp)) with e|e
   ·exact e
   ·rcases List.mem_cons.1 ((h y).2 (by simp)) with e'|e'
    ·exact e'.symm
    ·have:=h3 x e;have:=h1 y e';omega
  subst e
  congr 1
  refine Zc k h2 h4 fun z=>?_
  constructor
  ·intro hz;rcases List.mem_cons.1 ((h z).1 (List.mem_cons_of_mem _ hz)) with e|e
   ·subst e;have:=h1 z hz;omega
   ·exact e
  ·intro hz;rcases List.mem_cons.1 ((h z).2 (List.mem_cons_of_mem _ hz)) with e|e
   ·subst e;have:=h3 z hz;omega
   ·exact e
theorem QP{rs:List GRule}(hn:(rs.map GRule.nr).Nodup):(zK rs).Pairwise (fun x y=>x.nr<y.nr):=by
 have h1:(zK rs).Pairwise (fun x y=>decide (x.nr<=y.nr)=true):=List.pairwise_mergeSort (fun a b c h1 h2=>by simp at *;omega) (fun a b=>by simp;omega) rs
 have h2:((zK rs).map GRule.nr).Nodup:=((List.mergeSort_perm rs _).map GRule.nr).nodup_iff.2 hn;have h3:(zK rs).Pairwise (fun x y=>x.nr≠y.nr):=List.pairwise_map.1 h2
 refine (h1.and h3).imp ?_;intro a b ⟨h,h'⟩;simp at h;omega
theorem qbr{rs:List GRule}{r:GRule}:r ∈ zK rs↔r ∈ rs:=(List.mergeSort_perm rs _).mem_iff
theorem qcK{c x:GCall}:∀{l:List GCall},x ∈ qbL c l↔x=c∨x ∈ l
 | []=>by simp[qbL]
 | y::l=>by
  unfold qbL;split
  ·simp
  ·rw[List.mem_cons,qcK,List.mem_cons];constructor
   ·rintro (h|h|h)
    ·exact .inr (.inl h)
    ·exact .inl h
    ·exact .inr (.inr h)
   ·rintro (h|h|h)
    ·exact .inr (.inl h)
    ·exact .inl h
    ·exact .inr (.inr h)
theorem qek{a:Int}{c:GCall}:c ∈ kW a↔∃x ∈ qL,kT x a=some c.act∧x.1=c.name:=by
 unfold kW
 have h1:∀l:List GCall,c ∈ l.foldr qbL []↔c ∈ l:=by
  intro l;induction l with
  | nil=>simp
  | cons y l ih=>rw[List.foldr_cons,qcK,ih,List.mem_cons]
 rw[h1,List.mem_filterMap];constructor
 ·rintro⟨x,hx,h⟩;cases hn:kT x a with
  | none=>rw[hn] at h;cases h
  | some n=>rw[hn] at h;cases h;exact⟨x,hx,hn,rfl⟩
 ·rintro⟨x,hx,h,h2⟩;refine⟨x,hx,?_⟩;rw[h];cases c;simp_all
theorem qfj:(qL.map (·.1)).Nodup:=by decide +kernel
theorem qbc{α:Type}(k:α->List UInt8){l:List α}(hn:(l.map k).Nodup){x:α}(hx:x ∈ l):l.find? (fun y=>decide (k y=k x))=some x:=by
 induction l with
 | nil=>simp at hx
 | cons y l ih =>
  rw[List.map_cons,List.nodup_cons] at hn;rw[List.find?_cons]
  by_cases h:k y=k x
  ·have e:y=x:=by
    rcases List.mem_cons.1 hx with e|e
    ·exact e.symm
    ·exact absurd (by rw[h];exact List.mem_map_of_mem (f:=k) e) hn.1
   subst e;simp
  ·rcases List.mem_cons.1 hx with e|e
   ·subst e;exact absurd rfl h
   ·simp[h];exact ih hn.2 e
theorem Qw{a:Int}{c:GCall}:c ∈ kW a↔ym a c.name=some c.act:=by
 rw[qek];unfold ym;constructor
 ·rintro⟨x,hx,h,h2⟩;rw[← h2,qbc (·.1) qfj hx];exact h
 ·intro h;cases hf:qL.find? (fun x=>decide (x.1=c.name)) with
  | none=>rw[hf] at h;cases h
  | some x =>
   rw[hf] at h;exact⟨x,List.mem_of_find?_eq_some hf,h,by simpa using List.find?_some hf⟩
theorem Ze{a:Int}(h0:0<=a)(h6:a<6):(kW a).Pairwise (fun x y=>x.act<y.act):=by
 have:a=0∨a=1∨a=2∨a=3∨a=4∨a=5:=by omega
 rcases this with rfl|rfl|rfl|rfl|rfl|rfl<;>decide +kernel
theorem qju{a:Int}(h0:0<=a)(h6:a<6){s t:List UInt8}{n:Int}(h1:ym a s=some n)(h2:ym a t=some n):s=t:=by
 have hs:(⟨s,n⟩:GCall) ∈ kW a:=Qw.2 h1;have ht:(⟨t,n⟩:GCall) ∈ kW a:=Qw.2 h2;have hp:=Ze h0 h6
 by_cases e:s=t
 ·exact e
 ·exfalso
  have:∀{l:List GCall},l.Pairwise (fun x y=>x.act<y.act)->(⟨s,n⟩:GCall) ∈ l->(⟨t,n⟩:GCall) ∈ l->False:=by
   intro l;induction l with
   | nil=>intro _ h;simp at h
   | cons x l ih =>
    intro hl h1 h2;obtain⟨k1,k2⟩:=List.pairwise_cons.1 hl;rcases List.mem_cons.1 h1 with e1|e1<;>rcases List.mem_cons.1 h2 with e2|e2
    ·rw[← e2] at e1;simp at e1;exact e e1
    ·subst e1;have:=k1 _ e2;simp at this
    ·subst e2;have:=k1 _ e1;simp at this
    ·exact ih k2 e1 e2
  exact this hp hs ht
def wi(a:Int)(g:List UInt8->List GTest×Int)(ns:List (List UInt8)):List GRule:=ns.filterMap fun s=>(ym a s).map fun n=>⟨n,(g s).1,(g s).2⟩
theorem qcB{a:Int}{g:List UInt8->List GTest×Int}{ns:List (List UInt8)}{r:GRule}:r ∈ wi a g ns↔∃s ∈ ns,ym a s=some r.nr∧r.tests=(g s).1∧r.act=(g s).2:=by
 unfold wi;rw[List.mem_filterMap];constructor
 ·rintro⟨s,hs,h⟩;cases hn:ym a s with
  | none=>rw[hn] at h;cases h
  | some n=>rw[hn] at h;cases h;exact⟨s,hs,hn,rfl,rfl⟩
 ·rintro⟨s,hs,h,h2,h3⟩;refine⟨s,hs,?_⟩;rw[h];cases r;simp_all
theorem qaE{a:Int}(h0:0<=a)(h6:a<6){g:List UInt8->List GTest×Int}{ns:List (List UInt8)}(hn:ns.Nodup):((wi a g ns).map GRule.nr).Nodup:=by
 induction ns with
 | nil=>exact List.nodup_nil
 | cons s ns ih =>
  obtain⟨h1,h2⟩:=List.nodup_cons.1 hn;unfold wi;rw[List.filterMap_cons];cases hs:ym a s with
  | none=>exact ih h2
  | some n =>
   simp only[Option.map_some,List.map_cons];refine List.nodup_cons.2 ⟨?_,ih h2⟩;intro hm;obtain⟨r,hr,e⟩:=List.mem_map.1 hm;obtain⟨t,ht,k1,_,_⟩:=qcB.1 hr;rw[e] at k1;exact h1 (qju h0 h6 hs k1 ▸ ht)
theorem qgt{a:Int}{g:List UInt8->List GTest×Int}{ns:List (List UInt8)}:(wi a g ns).length<=ns.length:=List.length_filterMap_le _ _
theorem yc{a:Int}{g:List UInt8->List GTest×Int}{ns ms:List (List UInt8)}:wi a g (ns++ms)=wi a g ns++wi a g ms:=List.filterMap_append
theorem xk{a act:Int}{ts:List GTest}{g:List UInt8->List GTest×Int}:∀{ns:List (List UInt8)},(∀s ∈ ns,g s=(ts,act))->qO a act ts ns=wi a g ns
 | [],_=>rfl
 | s::ns,h=>by
  have e:=xk (a:=a) (ns:=ns) fun t ht=>h t (List.mem_cons_of_mem _ ht)
  unfold qO wi at *;rw[List.filterMap_cons,List.filterMap_cons,e,h s (by simp)]
theorem kv{p:Pol}{d a:Int}(h0:0<=a)(h6:a<6){ns:List (List UInt8)}{g:List UInt8->List GTest×Int}(hn:ns.Nodup)(h1:∀s n,ym a s=some n->((yr p d s).1=true↔s ∈ ns))(h2:∀s ∈ ns,g s=(yr p d s).2):zK (wi a g ns)=ruR p d (kW a):=by
 refine Zc GRule.nr (QP (qaE h0 h6 hn)) ?_ fun r=>?_
 ·unfold ruR;refine List.Pairwise.filterMap _ ?_ (Ze h0 h6);intro c c' hlt x hx y hy;split at hx
  ·split at hy
   ·cases hx;cases hy;exact hlt
   ·cases hy
  ·cases hx
 ·rw[qbr,qcB];unfold ruR;rw[List.mem_filterMap];constructor
  ·rintro⟨s,hs,k1,k2,k3⟩;have k:=(h1 s _ k1).2 hs;refine⟨⟨s,r.nr⟩,Qw.2 k1,?_⟩;rw[h2 s hs] at k2 k3;rw[if_pos k];cases r;simp_all
  ·rintro⟨c,hc,h⟩;have k1:=Qw.1 hc;split at h
   ·rename_i k;cases h;have hs:=(h1 c.name _ k1).1 k;exact⟨c.name,hs,k1,by rw[h2 _ hs],by rw[h2 _ hs]⟩
   ·cases h
theorem ke{l:GList}(h:xo l=true):(l.calls.map (·.name)).Nodup:=by
 have h2:=((qgV l).1 h).2.2;exact List.pairwise_map.2 (List.Pairwise.imp (fun hab=>qlV hab) h2)
theorem Qi{p:Pol}(h:va p=true):xo p.filter=true∧xo p.log=true:=by
 unfold va j8 at h;simp only[Bool.and_eq_true] at h;exact⟨h.2.1.1,h.2.1.2⟩
theorem qeH{l:List GCall}(hn:(l.map (·.name)).Nodup){c:GCall}(hc:c ∈ l):xl l c.name=some c:=qbc GCall.name hn hc
theorem qbb{l:List GCall}{s:List UInt8}:(xl l s).isSome=true↔s ∈ l.map (·.name):=by
 unfold xl;rw[List.find?_isSome];simp only[decide_eq_true_eq,List.mem_map]
theorem qaA{a:Int}{g:List UInt8->List GTest×Int}{A:GCall->Int}:∀{l:List GCall},(∀c ∈ l,g c.name=([],A c))->(l.flatMap fun c=>qO a (A c) [] [c.name])=wi a g (l.map (·.name))
 | [],_=>rfl
 | c::l,h=>by
  have e:=qaA (a:=a) (A:=A) (l:=l) fun x hx=>h x (List.mem_cons_of_mem _ hx)
  rw[List.flatMap_cons,e,xk (g:=g) (by intro s hs;simp at hs;subst hs;exact h c (by simp)),← yc]
  rfl
def qn9(p:Pol)(s:List UInt8):List GTest×Int:=([],qfr p s)
theorem qdP{p:Pol}{a:Int}(hm:xo p.filter=true):(qay p a).2.1=wi a (qn9 p) (p.filter.calls.map (·.name)):=by
 refine qaA fun c hc=>?_
 have hf:=qeH (ke hm) hc;simp only[qn9,qfr,qdj,hf]
def qpc(p:Pol)(_:List UInt8):List GTest×Int:=([],if p.log.mode=2 then 2147418112 else 2147221504)
theorem qdU{p:Pol}{a:Int}:(qaL p a).2.1=wi a (qpc p) (p.log.calls.map (·.name)):=qaA (A:=fun _=>if p.log.mode=2 then 2147418112 else 2147221504) fun _ _=>rfl
def QF(p:Pol)(d:Int)(s:List UInt8):List GTest×Int:=(yr p d s).2
theorem qdO{p:Pol}{a:Int}:(fmM p a).2.1=wi a (QF p 3) [zu]:=xk fun _ _=>rfl
def nsL:List (List UInt8):=[qV,zA,zm,zh]
theorem qg9{p:Pol}{a:Int}:(nsM p a).2.1=wi a (QF p 4) nsL:=by
 have h1:qO a 2147418112 (qu 0 327681 (zj p.spaces)) [qV,zA]=wi a (QF p 4) [qV,zA]:=xk fun s hs=>by
  simp only[List.mem_cons,List.not_mem_nil,or_false] at hs;rcases hs with rfl|rfl<;>simp (decide:=true) [QF,yr,qV,zA,zh,zm]
 have h2:qO a 2147418112 (qu 1 327681 (zj p.spaces)++qt 1 4294967295 327681 [0]) [zm]=wi a (QF p 4) [zm]:=xk fun s hs=>by
  simp only[List.mem_cons,List.not_mem_nil,or_false] at hs;subst hs;simp (decide:=true) [QF,yr,zh,zm,qt]
 have h3:qO a 327718 [] [zh]=wi a (QF p 4) [zh]:=xk fun s hs=>by
  simp only[List.mem_cons,List.not_mem_nil,or_false] at hs;subst hs;simp (decide:=true) [QF,yr]
 show _++_++_=_;rw[h1,h2,h3,← yc,← yc];rfl
def weL:List (List UInt8):=[x4,zb,qB,xe]
theorem qhU{p:Pol}{a:Int}:(weM p a).2.1=wi a (QF p 5) weL:=by
 have h1:qO a 2147418112 (qu 2 327681 [6]) [x4]=wi a (QF p 5) [x4]:=xk fun s hs=>by
  simp only[List.mem_cons,List.not_mem_nil,or_false] at hs;subst hs;rfl
 have h2:qO a 2147418112 (qu 2 327681 [4]) [zb,qB]=wi a (QF p 5) [zb,qB]:=xk fun s hs=>by
  simp only[List.mem_cons,List.not_mem_nil,or_false] at hs;rcases hs with rfl|rfl<;>rfl
 have h3:qO a 2147418112 (qu 2 327681 [32768]) [xe]=wi a (QF p 5) [xe]:=xk fun s hs=>by
  simp only[List.mem_cons,List.not_mem_nil,or_false] at hs;subst hs;rfl
 show _++_++_=_;rw[h1,h2,h3,← yc,← yc];rfl
theorem qhs{p:Pol}{a:Int}:(peM p a).2.1=wi a (QF p 6) [qQ]:=xk fun _ _=>rfl
theorem qhF{p:Pol}{a:Int}:(rtM p a).2.1=wi a (QF p 7) [jO]:=xk fun _ _=>rfl
theorem qoX:∀d F,vi d=some F->qhY F:=by
 intro d F h p a hp hmay h0 h6;obtain⟨hf,hl⟩:=Qi hmay
 have k:∀{g:List UInt8->List GTest×Int} {ns:List (List UInt8)} {rs:List GRule},rs=wi a g ns->ns.Nodup->ns.length<=1000->rs.length<=100000∧(rs.map GRule.nr).Nodup:=by
  rintro g ns rs rfl hn hle;exact⟨by have:=qgt (a:=a) (g:=g) (ns:=ns);omega,qaE h0 h6 hn⟩
 unfold vi at h;split at h
 ·cases h;exact k (qdP hf) (ke hf) (by rw[List.length_map];exact hp.c)
 split at h
 ·cases h;exact k qdU (ke hl) (by rw[List.length_map];exact hp.l)
 split at h
 ·cases h;exact k qdO (by decide) (by decide)
 split at h
 ·cases h;exact k qg9 (by decide) (by decide)
 split at h
 ·cases h;exact k qhU (by decide) (by decide)
 split at h
 ·cases h;exact k qhs (by decide) (by decide)
 split at h
 ·cases h;exact k qhF (by decide) (by decide)
 ·cases h
theorem qm8(s:List UInt8):(0<xw s)↔s ∈ weL:=by
 unfold xw weL
 by_cases h1:s=x4
 ·simp[h1]
 by_cases h2:s=zb
 ·subst h2;decide
 by_cases h3:s=qB
 ·subst h3;decide
 by_cases h4:s=xe
 ·simp only[if_neg h1,if_neg (not_or.2 ⟨h2,h3⟩),if_pos h4];simp[h4]
 ·simp[h1,h2,h3,h4]
theorem wW{p:Pol}{d a:Int}{F:Pol->Int->Bool×List GRule×Int}(hF:vi d=some F)(hd:0<=d∧d<8)(h1:w8 p d=(F p a).1)
  (h2:wV p d a=true->(F p a).1=true->zK (F p a).2.1=ruR p d (kW a)∧(F p a).2.2=dfR p d):vD p d a=yO p d a:=by
 have e:wV p d a=(decide (0<=a)&&decide (a<6)&&va p&&inA p.arches a):=by
  unfold wV;simp[hd.1,hd.2]
 unfold vD yO;rw[hF];cases hk:wV p d a with
 | false =>
  rw[e] at hk;rw[if_neg (by rw[hk];simp),if_neg (by decide)]
 | true =>
  have hk':=hk;rw[e] at hk';rw[if_pos rfl];simp only[Option.bind_some];cases ha:(F p a).1 with
  | false=>rw[if_neg (by rw[h1,ha];simp),if_neg (by decide)]
  | true =>
   obtain⟨k1,k2⟩:=h2 hk ha;rw[if_pos (by rw[h1,ha,hk'];rfl),if_pos rfl,k1,k2]
theorem xM{p:Pol}{d a:Int}(h:wV p d a=true):0<=a∧a<6∧va p=true:=by
 unfold wV at h;simp only[Bool.and_eq_true,decide_eq_true_eq] at h;exact⟨h.1.1.2.1,h.1.1.2.2,h.1.2⟩
theorem qgL(p:Pol)(d a:Int):vD p d a=yO p d a:=by
 by_cases d1:d=1
 ·subst d1;refine wW (F:=qay) rfl (by decide) rfl fun hk _=>?_
  obtain⟨h0,h6,hm⟩:=xM hk;have hf:=(Qi hm).1;refine⟨?_,?_⟩
  ·rw[qdP hf];refine kv h0 h6 (ke hf) (fun s n _=>?_) fun s _=>?_
   ·show (xl p.filter.calls s).isSome=true↔_;exact qbb
   ·rfl
  ·show (if p.filter.mode=1 then p.deny else 2147418112)=_
   simp[dfR]
 by_cases d2:d=2
 ·subst d2;refine wW (F:=qaL) rfl (by decide) rfl fun hk hact=>?_
  obtain⟨h0,h6,hm⟩:=xM hk;have hl:=(Qi hm).2
  have hmode:p.log.mode=1∨p.log.mode=2:=by
   have hact:qS p.log.mode p.log.calls.length false true=true:=hact;unfold qS at hact;split at hact
   ·exact .inl (by assumption)
   ·split at hact
    ·exact .inr (by assumption)
    ·cases hact
  refine⟨?_,?_⟩
  ·rw[qdU];refine kv h0 h6 (ke hl) (fun s n _=>?_) fun s _=>?_
   ·show (xl p.log.calls s).isSome=true↔_;exact qbb
   ·show ([],_)=([],if p.log.mode=1 then (2147221504:Int) else 2147418112)
    rcases hmode with h|h<;>simp[h]
  ·show (if p.log.mode=2 then 2147221504 else 2147418112)=_
   simp[dfR]
 by_cases d3:d=3
 ·subst d3;refine wW (F:=fmM) rfl (by decide) rfl fun hk _=>?_
  obtain⟨h0,h6,hm⟩:=xM hk;refine⟨?_,by simp[dfR,fmM]⟩
  rw[qdO];refine kv h0 h6 (by decide) (fun s n _=>?_) fun s _=>rfl
  show decide (s=zu)=true↔_;simp
 by_cases d4:d=4
 ·subst d4;refine wW (F:=nsM) rfl (by decide) rfl fun hk _=>?_
  obtain⟨h0,h6,hm⟩:=xM hk;refine⟨?_,by simp[dfR,nsM]⟩
  rw[qg9];refine kv h0 h6 (by decide) (fun s n _=>?_) fun s _=>rfl
  show (if s=zh then ((true,[],327718):Bool×List GTest×Int) else (decide (s=zm)||decide (s=qV)||decide (s=zA),_,_)).1=true↔_
  unfold nsL
  by_cases k:s=zh
  ·simp[k]
  ·rw[if_neg k];simp only[Bool.or_eq_true,decide_eq_true_eq,List.mem_cons,List.not_mem_nil,or_false];constructor
   ·rintro ((h|h)|h)
    ·exact .inr (.inr (.inl h))
    ·exact .inl h
    ·exact .inr (.inl h)
   ·rintro (h|h|h|h)
    ·exact .inl (.inr h)
    ·exact .inr h
    ·exact .inl (.inl h)
    ·exact absurd h k
 by_cases d5:d=5
 ·subst d5;refine wW (F:=weM) rfl (by decide) rfl fun hk _=>?_
  obtain⟨h0,h6,hm⟩:=xM hk;refine⟨?_,by simp[dfR,weM]⟩
  rw[qhU];refine kv h0 h6 (by decide) (fun s n _=>?_) fun s _=>rfl
  show decide (0<xw s)=true↔_;rw[decide_eq_true_eq];exact qm8 s
 by_cases d6:d=6
 ·subst d6;refine wW (F:=peM) rfl (by decide) rfl fun hk _=>?_
  obtain⟨h0,h6,hm⟩:=xM hk;refine⟨?_,by simp[dfR,peM]⟩
  rw[qhs];refine kv h0 h6 (by decide) (fun s n _=>?_) fun s _=>rfl
  show decide (s=qQ)=true↔_;simp
 by_cases d7:d=7
 ·subst d7;refine wW (F:=rtM) rfl (by decide) rfl fun hk _=>?_
  obtain⟨h0,h6,hm⟩:=xM hk;refine⟨?_,by simp[dfR,rtM]⟩
  rw[qhF];refine kv h0 h6 (by decide) (fun s n _=>?_) fun s _=>rfl
  show decide (s=jO)=true↔_;simp
 have e1:w8 p d=false:=by simp[w8,d1,d2,d3,d4,d5,d6,d7]
 have e2:vi d=none:=by simp[vi,d1,d2,d3,d4,d5,d6,d7]
 unfold vD yO;rw[e1,e2,Bool.and_false,if_neg (by decide)];split<;>rfl
theorem qfP.low{P:Program}{f:Nat}(h:qfP P f):qfO P f:=fun p hp hR d a=>by rw[← qgL];exact h p hp hR d a
end Go.Kc
end
section
namespace Go.Kc
variable [Cur]
variable {P:Program} {f:Nat}
theorem qdm(s:Int):(zj s).length<=8:=Nat.le_trans (List.length_filter_le _ _) (by decide)
theorem qhB{p:Pol}(hp:PolOk p)(d:Int)(s:List UInt8):(yr p d s).2.1.length<=1000:=by
 have hf:=hp.f;have h8:=qdm p.spaces;unfold yr;split
 ·simp
 split
 ·simp
 split
 ·simp[qt];exact hf
 split
 ·split
  ·simp
  ·simp only[qu,List.length_append,List.length_map];split<;>simp<;>omega
 split
 ·simp
 split
 ·simp[qt]
 ·simp[qt]
theorem qji{p:Pol}(hp:PolOk p){d a:Int}{x:GFil}(h:yO p d a=some x):x.rules.length<=40∧∀r ∈ x.rules,r.tests.length<=1000:=by
 rw[← qgL] at h;unfold vD at h;split at h
 ·cases h;refine⟨Nat.le_trans (List.length_filterMap_le _ _) (qcc a),fun r hr=>?_⟩
  obtain⟨c,_,hc⟩:=List.mem_filterMap.1 hr;split at hc
  ·cases hc;exact qhB hp d c.name
  ·cases hc
 ·cases h
end Go.Kc
end
section
namespace Go.Kc
variable [Cur]
open Go.Sort Go.Proofs Go.Shelf Go.RowKit
variable {P:Program} {f g:Nat}
def qhZ(P:Program)(f g:Nat):Prop :=
 (∀(a:Option Addr) (cap:Nat) (w:World),Calls P f #[.slice a 0 cap,.func (.func g) #[] #[]] w fun e w'=>e = .returned (.tuple #[])∧w'=w) ∧
 ∀(n:Nat) (i0:Inhabited (Fin n)) (nr:Fin n->Int) (cs:Fin n->List Value),(∀i j,nr i=nr j->i=j)->(∀i,∃t u,cs i=[.int .u32 (nr i),t,u]∧t.oneCell'=true∧u.oneCell'=true)->
  ∀(blk off cap:Nat) (w:World),HoldsK cs 3 w blk off (List.finRange n).toArray->blk<w.heap.size->n<4611686018427387904->
   Calls P f #[.slice (some ⟨blk,off,none⟩) n cap,.func (.func g) #[] #[]] w fun e w'=>e = .returned (.tuple #[])∧∃q os,w'=sortWorldK cs 3 w blk off q ((List.finRange n).mergeSort fun x y=>decide (nr x<=nr y)).toArray os
theorem qhM(rs:List GRule)(hn:(rs.map GRule.nr).Nodup):zK rs=((List.finRange rs.length).mergeSort fun x y=>decide ((rs[x]).nr<=(rs[y]).nr)).map fun i=>rs[i]:=by
 have e:(List.finRange rs.length).map (fun i=>rs[i])=rs:=by
  apply List.ext_getElem
  ·simp
  ·intro i h1 h2;simp
 have p1:(((List.finRange rs.length).mergeSort fun x y=>decide ((rs[x]).nr<=(rs[y]).nr)).map fun i=>rs[i]).Perm rs:=by
  have:=(List.mergeSort_perm (List.finRange rs.length) fun x y=>decide ((rs[x]).nr<=(rs[y]).nr)).map (fun i=>rs[i])
  rw[e] at this;exact this
 refine Zc GRule.nr (QP hn) ?_ fun r=>by rw[qbr];exact p1.mem_iff.symm
 have h1:((List.finRange rs.length).mergeSort fun x y=>decide ((rs[x]).nr<=(rs[y]).nr)).Pairwise (fun x y=>decide ((rs[x]).nr<=(rs[y]).nr)=true):=List.pairwise_mergeSort (fun a b c h1 h2=>by simp at *;omega) (fun a b=>by simp;omega) _
 have h2:((((List.finRange rs.length).mergeSort fun x y=>decide ((rs[x]).nr<=(rs[y]).nr)).map fun i=>rs[i]).map GRule.nr).Nodup:=(p1.map GRule.nr).nodup_iff.2 hn
 have h3:=List.pairwise_map.1 (List.pairwise_map.1 h2);refine List.pairwise_map.2 ((h1.and h3).imp ?_);intro a b ⟨h,h'⟩;simp at h h' ⊢;omega
theorem Wk.same{n:Nat}{t:Tr AV}{h:Hp}(hn:n<=h.sz):Wk n t h t h:=fun ρ B w tm ht r=>⟨ρ,ht,r,Kep.refl ρ B hn w⟩
theorem qoI(hcod:qf2 P f)(hK:qhZ P f g):qap P f g:=by
 intro rs hl hn;refine⟨by simp[x5,bnd,ql],by simp,trivial,?_⟩
 intro ρ B w args r ha;have hsl:(zK rs).length=rs.length:=List.length_mergeSort _;generalize hA:args.toList=L at ha;cases ha with
 | cons _ _ _ _ a1 a2 =>
  rename_i v1 vs1;cases a2 with
  | cons _ _ _ _ b1 b2 =>
   rename_i v2 vs2;cases b2;have hargs:args = #[v1,v2]:=by apply Array.ext';rw[hA]
   obtain⟨a',c',h7,h8,rfl⟩:=b1.un_fn
   have ea:a' = #[]:=by
    apply Array.ext';generalize a'.toList=X at h7;cases h7;rfl
   have ec:c' = #[]:=by
    apply Array.ext';generalize c'.toList=X at h8;cases h8;rfl
   subst ea ec hargs
   have zero:∀(a:Option Addr) (cap:Nat),rs=[]->v1 = .slice a 0 cap->qbu P σ0 f #[v1,.func (.func g) #[] #[]] ρ B (mkH 0 [.cells 3 true true (rR rs)]) w (qh0 [Blk.cells 3 true true (rR rs)].length (.tup []) [.cells 3 true true (rR (zK rs))]):=by
    rintro a cap rfl rfl;refine .inl ⟨hcod,(hK.1 a cap w).mono ?_⟩;rintro e w' ⟨rfl,rfl⟩;have e0:zK []=[]:=by unfold zK;simp
    rw[e0];refine⟨.tup [],.tuple #[],mkH 0 [.cells 3 true true (rR [])],ρ,rfl,?_,.tup [] #[] .nil,r,Kept.refl _ _ _ _⟩;exact fun _=>Wk.same (Nat.le_refl _)
   generalize hrl:rs.length=n at a1;cases a1 with
   | own0 _ ad hb=>exact zero ad 0 (List.eq_nil_of_length_eq_zero hrl) rfl
   | own _ _ cap L0 h0 h1 h2 =>
    by_cases hz:rs=[]
    ·exact zero _ cap hz (by rw[← hrl,hz];rfl)
    have hn0:0<rs.length:=List.length_pos_iff.2 hz;obtain⟨q1,c,ty,fz,q2,q3,q4,q5,q6⟩:=r.cells 0 L0 3 true true (rR rs) h0 (by rw[xp];rfl);have hRl:(rR rs).length=rs.length*3:=w4;subst hrl
    let i0:Inhabited (Fin rs.length):=⟨⟨0,hn0⟩⟩
    let cs:Fin rs.length->List Value:=fun i=>[c[L0.off+(i.val*3+0)]!,c[L0.off+(i.val*3+1)]!,c[L0.off+(i.val*3+2)]!]
    have hcell:∀(i:Fin rs.length) (k:Nat),k<3->∃a,(xz rs[i])[k]?=some a∧VR σ0 ρ a (c[L0.off+(i.val*3+k)]!):=by
     intro i k hk;have hx:rs[i.val]?=some rs[i]:=zzE i.isLt;have hg:=qhx hx hk
     have ⟨a,ha⟩:∃a,(xz rs[i])[k]?=some a:=by
      have:k<(xz rs[i]).length:=hk;exact⟨_,zzE this⟩
     obtain⟨v',k1,k2⟩:=q5 (i.val*3+k) a (by rw[hg];exact ha);refine⟨a,ha,?_⟩;have:c[L0.off+(i.val*3+k)]! = v':=by rw[Array.getElem!_eq_getD,Array.getD_eq_getD_getElem?,k1];rfl
     rw[this];exact k2
    have hcs:∀i,∃t u,cs i=[.int .u32 (rs[i]).nr,t,u]∧t.oneCell'=true∧u.oneCell'=true:=by
     intro i;obtain⟨x0,e0,k0⟩:=hcell i 0 (by decide);obtain⟨x1,e1,k1⟩:=hcell i 1 (by decide);obtain⟨x2,e2,k2⟩:=hcell i 2 (by decide);simp[xz] at e0 e1 e2;subst e0 e1 e2;have hσ:xm σ0:=fun _=>rfl
     refine⟨c[L0.off+(i.val*3+1)]!,c[L0.off+(i.val*3+2)]!,?_,QY hσ k1 rfl,QY hσ k2 rfl⟩;have:c[L0.off+(i.val*3+0)]! = .int .u32 (rs[i]).nr:=k0.un_i;simp only[cs,this]
    have hlen:∀i,(cs i).length=3:=fun _=>rfl
    have hfl:∀(d:Array (Fin rs.length)) (t:Nat),t<d.size*3->(flatK cs 3 d)[t]! = c[L0.off+((d[t / 3]!).val*3+t % 3)]!:=by
     intro d t ht;rw[get_flatK cs 3 d t ht];have:t % 3=0∨t % 3=1∨t % 3=2:=by omega
     rcases this with e|e|e<;>rw[e]<;>rfl
    have hsz:(List.finRange rs.length).toArray.size=rs.length:=by simp
    have hH:HoldsK cs 3 w L0.blk L0.off (List.finRange rs.length).toArray:=by
     intro j hj;have hj':j<rs.length*3:=by simpa[hsz] using hj
     have hcj:L0.off+j<c.size:=by omega
     constructor
     ·show (match w.heap[L0.blk]? with|some (.cells c _ _)=>if (none:Option _).isSome then none else c[L0.off+j]? | _=>none)=_
      rw[q2];have e1:c[L0.off+j]?=some c[L0.off+j]!:=by rw[getElem!_pos c _ hcj];exact Array.getElem?_eq_getElem hcj
      show c[L0.off+j]?=_;rw[e1];have e2:=hfl (List.finRange rs.length).toArray j (by rw[hsz];exact hj')
      have e3:((List.finRange rs.length).toArray[j / 3]!).val=j / 3:=by
       rw[getElem!_pos _ _ (by rw[hsz];omega)];simp
      rw[e3,show j / 3*3+j % 3=j by omega] at e2
      show _=some (id (flatK cs 3 _)[j]!);rw[id,e2]
     ·show (match w.heap[L0.blk]? with|some (.cells _ _ (lo,hi))=>decide (lo<=L0.off+j)&&decide (L0.off+j<hi)|_=>false)=false
      rw[q2];have:=q6 rfl (L0.off+j) (.inl (by omega));obtain⟨lo,hi⟩:=fz;simp only at this ⊢;rw[Bool.and_eq_false_iff,decide_eq_false_iff_not,decide_eq_false_iff_not];omega
    have hblk:L0.blk<w.heap.size:=(Array.getElem?_eq_some_iff.1 q2).1;refine .inl ⟨hcod,(hK.2 rs.length i0 (fun i=>(rs[i]).nr) cs ?_ hcs L0.blk L0.off cap w hH hblk (by omega)).mono ?_⟩
    ·intro i j hij;have hx:(rs.map GRule.nr)[i.val]'(by simp)=(rs.map GRule.nr)[j.val]'(by simp):=by simpa using hij
     exact Fin.ext ((List.getElem_inj hn).1 hx)
    rintro e w' ⟨rfl,q,os,hw'⟩;have hsm:=qhM rs hn;generalize hD:(List.finRange rs.length).mergeSort (fun x y=>decide ((rs[x]).nr<=(rs[y]).nr))=D at hw' hsm
    have hDl:D.length=rs.length:=by rw[← hD,List.length_mergeSort];simp
    have hFs:(flatK cs 3 D.toArray).size=rs.length*3:=by rw[size_flatK];simp[hDl]
    have hv:VRs σ0 ρ (rR (zK rs)) (flatK cs 3 D.toArray).toList:=by
     have el1:=w4 (l:=zK rs);have el2:(flatK cs 3 D.toArray).toList.length=rs.length*3:=by rw[Array.length_toList];exact hFs
     refine VRs.of_get (by omega) fun t a ht=>?_
     have htl:t<rs.length*3:=by
      have:=(zzS.1 ht).1;omega
     have hj:t / 3<D.length:=by omega
     have hDa:D.toArray[t / 3]! = D[t / 3]:=by rw[getElem!_pos _ _ (by simpa using hj)];rfl
     refine⟨(flatK cs 3 D.toArray)[t]!,?_,?_⟩
     ·rw[getElem!_pos (flatK cs 3 D.toArray) t (by rw[hFs];exact htl)];simp[hFs,htl]
     ·rw[hfl D.toArray t (by simp[hDl];exact htl),hDa];obtain⟨a',k1,k2⟩:=hcell D[t / 3] (t % 3) (by omega);have hx:(zK rs)[t / 3]?=some rs[D[t / 3]]:=by rw[hsm,List.getElem?_map,zzE hj];rfl
      have hg:=qhx hx (i:=t % 3) (by omega);rw[show t / 3*3+t % 3=t by omega,ht] at hg
      rw[k1] at hg;cases hg;exact k2
    have hspl:Spl c (L0.off+0) (flatK cs 3 D.toArray).toList (putCells id L0.off (flatK cs 3 D.toArray) c):=by
     refine⟨by simp[putCells],fun j hj=>?_,fun j v hj=>?_⟩
     ·rw[Array.length_toList] at hj;unfold putCells;rw[Array.getElem?_mapIdx];cases c[j]? with
      | none=>rfl
      | some x =>
       simp only[Option.map_some];rw[if_neg (by omega)]
     ·have hjl:j<(flatK cs 3 D.toArray).size:=by
       have:=(zzS.1 hj).1;simpa using this
      have hjc:L0.off+j<c.size:=by omega
      unfold putCells;rw[Nat.add_zero,Array.getElem?_mapIdx,Array.getElem?_eq_getElem hjc];simp only[Option.map_some];rw[if_pos (by omega),Nat.add_sub_cancel_left,getElem!_pos (flatK cs 3 D.toArray) j hjl];rw[Array.getElem?_toList,Array.getElem?_eq_getElem hjl] at hj;exact hj
    have hheap:(putRowK cs 3 (Go.Sort.ahead w q) L0.blk L0.off D.toArray).heap=w.heap.setIfInBounds L0.blk (.cells (putCells id L0.off (flatK cs 3 D.toArray) c) ty fz):=by
     show w.heap.modify L0.blk (onCells _)=_;apply Array.ext_getElem?;intro k;rw[Array.getElem?_modify,Array.getElem?_setIfInBounds]
     by_cases hk:L0.blk=k
     ·subst hk;rw[if_pos rfl,if_pos rfl,if_pos hblk,q2];rfl
     ·rw[if_neg hk,if_neg hk]
    have el3:=w4 (l:=zK rs);obtain⟨r2,k2⟩:=r.store (w':=putRowK cs 3 (Go.Sort.ahead w q) L0.blk L0.off D.toArray) h0 (by rw[xp];rfl) (Nat.le_refl _) 0 (rR (zK rs)) _ hv (by omega) q2 hspl hheap ⟨rfl,rfl⟩
    have hY:(rR rs).take 0++(rR (zK rs)++(rR rs).drop (0+(rR (zK rs)).length))=rR (zK rs):=by
     rw[List.drop_of_length_le (by omega)];simp
    rw[hY] at r2 k2;have hh:(mkH 0 [.cells 3 true true (rR rs)]).put 0 (.cells 3 true true (rR (zK rs)))=mkH 0 [.cells 3 true true (rR (zK rs))]:=rfl;rw[hh] at r2 k2
    have hg:∀n,n<(putRowK cs 3 (Go.Sort.ahead w q) L0.blk L0.off D.toArray).heap.size->w'.heap[n]?=(putRowK cs 3 (Go.Sort.ahead w q) L0.blk L0.off D.toArray).heap[n]?:=by
     intro n hn;rw[hw'];exact Array.getElem?_append_left hn
    have hsz':(putRowK cs 3 (Go.Sort.ahead w q) L0.blk L0.off D.toArray).heap.size<=w'.heap.size:=by
     rw[hw'];show _<=(_++os).size;rw[Array.size_append];exact Nat.le_add_right _ _
    have r3:=r2.world hg hsz';refine⟨.tup [],.tuple #[],_,ρ,rfl,fun _=>Wk.same (Nat.le_refl _),.tup [] #[] .nil,r3,k2.trans ?_⟩
    have hio:w'.os=w.os∧w'.output=w.output:=by rw[hw'];exact⟨rfl,rfl⟩
    exact⟨fun _ _=>rfl,Nat.le_refl _,rfl,fun _ _ _=>rfl,fun k hk=>hg k (r2.base k hk),hsz',hio,fun _ _ h=>h,fun _ _ h=>.inl h,Nat.le_refl _⟩
end Go.Kc
end
section
namespace Go.Kc
variable [Cur]
variable {P:Program} {n:Nat}
def Has(t:Tr AV)(l:List (Nat×AV)):Prop:=∀p ∈ l,t.get p.1=some p.2
theorem ve{t:Tr AV}:Has t []↔True:=iff_true_intro fun p hp=>by cases hp
theorem wj{t:Tr AV}{p:Nat×AV}{l:List (Nat×AV)}:Has t (p::l)↔t.get p.1=some p.2∧Has t l:=by simp[Has]
theorem Has.tr{t:Tr AV}{l:List (Nat×AV)}(h:Has t l){ρ:Ren}{tm:Array Value}(ht:TR σ0 ρ t tm):TR σ0 ρ (mkT l) tm:=fun j v hj=>ht j v (h (j,v) (yD hj))
theorem S.has{x:ICode}{Q:X->Tr AV->Hp->Prop}{t:Tr AV}{h:Hp}(l:List (Nat×AV))(hl:Has t l)(hs:S P n x Q (mkT l) h):S P n x Q t h :=
 fun nt cx hc hn ro hro ρ B w a ht hsz r=>hs nt cx hc hn ro hro ρ B w a (hl.tr ht) hsz r
theorem SL.has{x:ICode}{Q:X->Tr AV->Hp->Prop}{t:Tr AV}{h:Hp}(l:List (Nat×AV))(hl:Has t l)(hs:SL P n x Q (mkT l) h):SL P n x Q t h :=
 fun nt cx hc hn ro hro ρ B w a ht hsz r=>hs nt cx hc hn ro hro ρ B w a (hl.tr ht) hsz r
theorem SL.loopP{α:Type}{x:ICode}{Q:X->Tr AV->Hp->Prop}(T:α->List (Nat×AV))(I:α->Hp->Prop)(μ:α->Nat)
  (step:∀a h,I a h->∀G:Tr AV->Hp->Prop,(∀a' t' h',μ a'<μ a->Has t' (T a')->I a' h'->G t' h')->V P n x (fun e t h=>onX e (G t h) (fun id=>Q (.exit id) t h) (Q .ret t h)) (mkT (T a)) h)
  (a0:α) {t:Tr AV} {h:Hp} (ht:Has t (T a0)) (h0:I a0 h):SL P n x Q t h:=by
 have main:∀m a t h,μ a<=m->Has t (T a)->I a h->SL P n x Q t h:=by
  intro m
  induction m with
  | zero =>
   intro a t h hm ht hi;refine SL.has _ ht (jv (step a h hi _ ?_));intro a' t' h' hlt _ _;omega
  | succ m ih =>
   intro a t h hm ht hi;refine SL.has _ ht (jv (step a h hi _ ?_));intro a' t' h' hlt ht' hi';exact ih a' t' h' (by omega) ht' hi'
 exact main _ a0 t h (Nat.le_refl _) ht h0
end Go.Kc
end
section
namespace Go.Kc
variable [Cur]
variable {P:Program} {f:Nat}
def Emp(a:AV):Prop:=a = .e0∨a = .fz 0 []
def SlO(s s':Nat)(tr:Tr Blk)(a:AV)(l b o:Nat)(cs:List AV):Prop:=(∃c,a = .sl b o l c false∧l<=c)∧s<=b∧b<s'∧tr.get b=some (.cells 4 true false cs)∧o<=cs.length
def qca(s s':Nat)(tr:Tr Blk)(a:AV)(ts:List GTest):Prop:=(ts=[]∧Emp a)∨∃b o cs,SlO s s' tr a ts.length b o cs∧∀(i:Nat) v,(rT ts)[i]?=some v->cs[o+i]?=some v
def qb9(s s':Nat)(tr:Tr Blk)(a:AV)(rs:List GRule):Prop:=(rs=[]∧Emp a)∨∃b o cs,SlO s s' tr a rs.length b o cs∧∀(i:Nat) r,rs[i]?=some r->cs[o+i*3]?=some (.i .u32 r.nr)∧(∃a',cs[o+(i*3+1)]?=some a'∧qca s s' tr a' r.tests)∧cs[o+(i*3+2)]?=some (.i .u32 r.act)
theorem qhz{ts:List GTest}:∀v ∈ rT ts,∃q z,v=AV.i q z:=fun v hv=>by
 obtain⟨t,_,hv⟩:=List.mem_flatMap.1 hv;simp only[yV,List.mem_cons,List.not_mem_nil,or_false] at hv;rcases hv with rfl|rfl|rfl|rfl<;>exact⟨_,_,rfl⟩
theorem qmL{ts:List GTest}(h:ts.length≠0):nou (rT ts)=false:=by
 cases ts with
 | nil=>exact absurd rfl h
 | cons t l=>simp[nou,rT,yV,qeZ]
theorem qmJ{rs:List GRule}(h:rs.length≠0):nou (rR rs)=false:=by
 cases rs with
 | nil=>exact absurd rfl h
 | cons t l=>simp[nou,rR,xz,qeZ]
section
variable {n m:Nat} {φ0 φ:Nat->Option (Array Value)} {w:World} {h:Hp}
theorem qd6(hF:qb8 n m φ0 w ‹Cur› φ){l:Nat}{cs:List AV}{x:Value}(hx:CR σ0 φ (.fz l cs) x)(hl:l=0->cs=[])(hn:l≠0->nou cs=false) :
  (l=0∧Emp (shv h.sz (yI n m φ0 x)))∨∃(b o:Nat) (arr:Array Value),SlO h.sz (xd h ((ws n m φ0 w).map (shb h.sz))).sz (xd h ((ws n m φ0 w).map (shb h.sz))).tr (shv h.sz (yI n m φ0 x)) l b o (kl h.sz (arr.toList.map (yI n m φ0)))∧CRs σ0 φ cs ((arr.toList.drop o).take cs.length):=by
 have hlen:(ws n m φ0 w).length=m:=by simp[ws]
 cases hx with
 | fz0 a=>exact .inl ⟨rfl,.inl (by cases a<;>rfl)⟩
 | fz _ off c _ k arr hn' hφ hs ho =>
  by_cases hz:l=0∧c=0
  ·obtain⟨rfl,rfl⟩:=hz;exact .inl ⟨rfl,.inl rfl⟩
  rw[qh1 hz];rcases hF k off arr cs hφ ho with⟨h1,h2,h3⟩|⟨h1,h2,h3,h4⟩
  ·by_cases h0:l=0
   ·rw[if_neg (by omega),if_pos ⟨h0,h1⟩];exact .inl ⟨h0,.inr rfl⟩
   ·rw[hn h0] at h3;cases h3
  ·rw[if_pos ⟨h1,h2⟩];refine .inr ⟨k-n+h.sz,off,arr,⟨⟨c,rfl,hn'⟩,by omega,by rw[wo,List.length_map,hlen];omega,?_,by rw[wq];simpa using h3⟩,hs⟩
   rw[xt,if_neg (by omega),if_pos (by rw[List.length_map,hlen];omega),show k-n+h.sz-h.sz=k-n from by omega,List.getElem?_map,h4]
   rfl
theorem Qy{cs:List AV}{arr:Array Value}{o:Nat}(hs:CRs σ0 φ cs ((arr.toList.drop o).take cs.length)){i:Nat}{v:AV}(hv:cs[i]?=some v):∃x,(kl h.sz (arr.toList.map (yI n m φ0)))[o+i]?=some (shv h.sz (yI n m φ0 x))∧CR σ0 φ v x:=by
 obtain⟨x,h1,h2⟩:=hs.get hv;have hi:=(zzS.1 hv).1;rw[List.getElem?_take_of_lt hi,List.getElem?_drop] at h1;exact⟨x,by rw[qaY,List.getElem?_map,h1];rfl,h2⟩
theorem qbM{q:IntKind}{z:Int}{x:Value}(h':CR σ0 φ (.i q z) x):shv h.sz (yI n m φ0 x) = .i q z:=by cases h';rfl
theorem qhO(hF:qb8 n m φ0 w ‹Cur› φ){ts:List GTest}{x:Value}(hx:CR σ0 φ (.fz ts.length (rT ts)) x):qca h.sz (xd h ((ws n m φ0 w).map (shb h.sz))).sz (xd h ((ws n m φ0 w).map (shb h.sz))).tr (shv h.sz (yI n m φ0 x)) ts:=by
 rcases qd6 (h:=h) hF hx (fun h0=>by rw[List.eq_nil_of_length_eq_zero h0];rfl) qmL with⟨h0,he⟩|⟨b,o,arr,h1,h2⟩
 ·exact .inl ⟨List.eq_nil_of_length_eq_zero h0,he⟩
 ·refine .inr ⟨b,o,_,h1,fun i v hv=>?_⟩
  obtain⟨q,z,rfl⟩:=qhz v (zzM hv);obtain⟨y,h3,h4⟩:=Qy (n:=n) (m:=m) (φ0:=φ0) (h:=h) h2 hv;rw[h3,qbM h4]
theorem qhH(hF:qb8 n m φ0 w ‹Cur› φ){rs:List GRule}{x:Value}(hx:CR σ0 φ (.fz rs.length (rR rs)) x):qb9 h.sz (xd h ((ws n m φ0 w).map (shb h.sz))).sz (xd h ((ws n m φ0 w).map (shb h.sz))).tr (shv h.sz (yI n m φ0 x)) rs:=by
 rcases qd6 (h:=h) hF hx (fun h0=>by rw[List.eq_nil_of_length_eq_zero h0];rfl) qmJ with⟨h0,he⟩|⟨b,o,arr,h1,h2⟩
 ·exact .inl ⟨List.eq_nil_of_length_eq_zero h0,he⟩
 ·refine .inr ⟨b,o,_,h1,fun i r hr=>?_⟩
  have g:=fun (j:Nat) (hj:j<3)=>jB (f:=xz) (m:=3) vV hr (i:=j) hj
  have g0:=g 0 (by decide);have g1:=g 1 (by decide);have g2:=g 2 (by decide);rw[show rs.flatMap xz=rR rs from rfl] at g0 g1 g2
  simp only[xz,Nat.add_zero,List.getElem?_cons_zero,List.getElem?_cons_succ] at g0 g1 g2;obtain⟨y0,a0,b0⟩:=Qy (n:=n) (m:=m) (φ0:=φ0) (h:=h) h2 g0;obtain⟨y1,a1,b1⟩:=Qy (n:=n) (m:=m) (φ0:=φ0) (h:=h) h2 g1;obtain⟨y2,a2,b2⟩:=Qy (n:=n) (m:=m) (φ0:=φ0) (h:=h) h2 g2;exact⟨by rw[a0,qbM b0],⟨_,a1,qhO hF b1⟩,by rw[a2,qbM b2]⟩
end
theorem qjT{rs:List GRule}:clo (.fz rs.length (rR rs))=true:=rfl
theorem qeI [NoOld]{x:GFil}{vs:List AV}(hcl:qR vs=true)(hpl:yo vs=true)(hp:∀C:Cur,@qe C P f vs (.tup [.agg (ww x),.b true])){h:Hp}{k:AV->Hp->Prop}
  (hk:∀(H:Hp) (a:AV),H.fl=h.fl->h.sz<=H.sz->(∀b,b<h.sz->H.tr.get b=h.tr.get b)->qb9 h.sz H.sz H.tr a x.rules->k (.tup [.agg [.i .i64 x.arch,a,.i .u32 x.dflt],.b true]) H):SC P f vs h k:=by
 refine qe.fresh hcl hpl hp ?_;intro n m φ0 w ρ2 h2 c ρ' v' hv hF;cases hv with
 | tup _ arr hs =>
  obtain⟨l⟩:=arr;cases hs with
  | cons _ _ v1 vs1 q1 hs =>
   cases hs with
   | cons _ _ v2 vs2 q2 hs =>
    cases hs;cases q2;cases q1 with
    | agg _ arr1 q =>
     obtain⟨l1⟩:=arr1;cases q with
     | cons _ _ y1 _ p1 q =>
      cases q with
      | cons _ _ y2 _ p2 q =>
       cases q with
       | cons _ _ y3 _ p3 q =>
        cases q;cases p1;cases p3;refine⟨.tup [.agg [.i .i64 x.arch,yI n m φ0 y2,.i .u32 x.dflt],.b true],.tup _ _ (.cons _ _ _ _ (.agg _ _ (.cons _ _ _ _ (.i _ _) (.cons _ _ _ _ (h2 y2) (.cons _ _ _ _ (.i _ _) .nil)))) (.cons _ _ _ _ (.b _) .nil)),?_⟩;exact hk _ _ kh (by rw[wo];omega) (fun b hb=>by rw[xt,if_pos hb]) (@qhH (c ()) n m φ0 _ w h hF _ _ (@VR.cr (c ()) _ _ _ p2 qjT))
theorem Frzs.of_get{h:Hp}:∀{xs vs:List AV},xs.length=vs.length->(∀(i:Nat) a v,xs[i]?=some a->vs[i]?=some v->Frz h a v)->Frzs h xs vs
 | [],[],_,_=>.nil
 | [],_::_,hl,_=>by cases hl
 | _::_,[],hl,_=>by cases hl
 | a::xs,v::vs,hl,hh=>.cons _ _ _ _ (hh 0 a v rfl rfl) (Frzs.of_get (Nat.succ.inj hl) fun i b w h1 h2=>hh (i+1) b w h1 h2)
theorem qd7{cs:List AV}{o m:Nat}(h0:o<=cs.length)(h:∀i,i<m->∃v,cs[o+i]?=some v):o+m<=cs.length:=by
 rcases m with _|m
 ·exact h0
 ·obtain⟨v,hv⟩:=h m (Nat.lt_succ_self _);have:=(zzS.1 hv).1;omega
theorem qca.frz{s s' z fl:Nat}{tr:Tr Blk}{a:AV}{ts:List GTest}(h:qca s s' tr a ts):Frz ⟨z,fl,tr⟩ a (.fz ts.length (rT ts)):=by
 rcases h with⟨rfl,rfl|rfl⟩|⟨b,o,cs,⟨⟨c,rfl,hc⟩,h1,h2,h3,h4⟩,h5⟩
 ·exact .e0z
 ·exact .fz 0 []
 ·have hm:o+ts.length*4<=cs.length:=qd7 h4 fun i hi=>by
   obtain⟨v,hv⟩:∃v,(rT ts)[i]?=some v:=⟨_,zzE (by rw[xO];exact hi)⟩;exact⟨v,h5 i v hv⟩
  refine .sl b o _ c false 4 false cs (ts.length*4) (rT ts) h3 hc hm (fun h0=>by omega) (Frzs.of_get (by rw[List.length_take,List.length_drop,xO];omega) fun i x v hx hv=>?_)
  have hi:=(zzS.1 hv).1;rw[xO] at hi;rw[List.getElem?_take_of_lt hi,List.getElem?_drop,h5 i v hv] at hx;obtain⟨q,y,rfl⟩:=qhz v (zzM hv);cases hx;exact .i _ _
theorem qdE{rs:List GRule}{i:Nat}{v:AV}(h:(rR rs)[i]?=some v):∃j r,rs[j]?=some r∧((i=j*3∧v = .i .u32 r.nr)∨(i=j*3+1∧v = .fz r.tests.length (rT r.tests))∨(i=j*3+2∧v = .i .u32 r.act)):=by
 have hi:=(zzS.1 h).1;rw[w4] at hi;have hj:i / 3<rs.length:=by omega
 refine⟨i / 3,rs[i / 3],zzE hj,?_⟩;have g:=fun (j:Nat) (hj':j<3)=>jB (f:=xz) (m:=3) vV (zzE hj) (i:=j) hj'
 rw[show rs.flatMap xz=rR rs from rfl] at g
 have hk:i % 3=0∨i % 3=1∨i % 3=2:=by omega
 rcases hk with k|k|k
 ·have e:i=i / 3*3+0:=by omega
  rw[e,g 0 (by decide)] at h;exact .inl ⟨by omega,(Option.some.inj h).symm⟩
 ·have e:i=i / 3*3+1:=by omega
  rw[e,g 1 (by decide)] at h;exact .inr (.inl ⟨e,(Option.some.inj h).symm⟩)
 ·have e:i=i / 3*3+2:=by omega
  rw[e,g 2 (by decide)] at h;exact .inr (.inr ⟨e,(Option.some.inj h).symm⟩)
theorem qb9.frz{s s' z fl:Nat}{tr:Tr Blk}{a:AV}{rs:List GRule}(h:qb9 s s' tr a rs):Frz ⟨z,fl,tr⟩ a (.fz rs.length (rR rs)):=by
 rcases h with⟨rfl,rfl|rfl⟩|⟨b,o,cs,⟨⟨c,rfl,hc⟩,h1,h2,h3,h4⟩,h5⟩
 ·exact .e0z
 ·exact .fz 0 []
 ·have key:∀(i:Nat) v,(rR rs)[i]?=some v->∃x,cs[o+i]?=some x∧Frz ⟨z,fl,tr⟩ x v:=fun i v hv=>by
   obtain⟨j,r,hr,hk⟩:=qdE hv;obtain⟨k0,⟨a',k1,k2⟩,k3⟩:=h5 j r hr;rcases hk with⟨rfl,rfl⟩|⟨rfl,rfl⟩|⟨rfl,rfl⟩
   ·exact⟨_,k0,.i _ _⟩
   ·exact⟨_,k1,k2.frz⟩
   ·exact⟨_,k3,.i _ _⟩
  have hm:o+rs.length*3<=cs.length:=qd7 h4 fun i hi=>by
   obtain⟨v,hv⟩:∃v,(rR rs)[i]?=some v:=⟨_,zzE (by rw[w4];exact hi)⟩;obtain⟨x,hx,_⟩:=key i v hv;exact⟨x,hx⟩
  refine .sl b o _ c false 4 false cs (rs.length*3) (rR rs) h3 hc hm (fun h0=>by omega) (Frzs.of_get (by rw[List.length_take,List.length_drop,w4];omega) fun i x v hx hv=>?_)
  have hi:=(zzS.1 hv).1;rw[w4] at hi;obtain⟨y,hy,hf⟩:=key i v hv;rw[List.getElem?_take_of_lt hi,List.getElem?_drop,hy] at hx;cases hx;exact hf
def WC(cs cs':List AV):Prop:=cs'.length=cs.length∧∀j:Nat,cs'[j]?=cs[j]?∨((∃z,cs[j]?=some (.i .i64 z))∧cs'[j]?=some (.i .i64 99))
def Wd(s:Nat)(tr tr':Tr Blk):Prop:=∀b,2<=b->b<s->∀cs,tr.get b=some (.cells 4 true false cs)->∃cs',tr'.get b=some (.cells 4 true false cs')∧WC cs cs'
theorem WC.refl(cs:List AV):WC cs cs:=⟨rfl,fun _=>.inl rfl⟩
theorem WC.set{cs cs':List AV}(h:WC cs cs'){j:Nat}{z:Int}(hj:cs[j]?=some (.i .i64 z)):WC cs (cs'.set j (.i .i64 99)):=by
 refine⟨by rw[List.length_set];exact h.1,fun i=>?_⟩
 by_cases e:i=j
 ·subst e;have hi:=(zzS.1 hj).1;exact .inr ⟨⟨z,hj⟩,List.getElem?_set_self (by rw[h.1];exact hi)⟩
 ·rw[List.getElem?_set_ne (Ne.symm e)];exact h.2 i
theorem WC.get{cs cs':List AV}(h:WC cs cs'){j:Nat}{v:AV}(hj:cs[j]?=some v)(hv:∀z,v≠.i .i64 z):cs'[j]?=some v:=by
 rcases h.2 j with e|⟨⟨z,e⟩,_⟩
 ·rw[e];exact hj
 ·rw[hj] at e;cases e;exact absurd rfl (hv z)
theorem qmM{s s':Nat}{tr:Tr Blk}{a:AV}{ts:List GTest}(h:qca s s' tr a ts):∀z,a≠.i .i64 z:=by
 rcases h with⟨_,rfl|rfl⟩|⟨b,o,cs,⟨⟨c,rfl,_⟩,_⟩,_⟩<;>intro z h<;>cases h
def qnS:Asg:=⟨[],0,[],[],[]⟩
theorem qdv{q:IntKind}(hq:q≠.u64):∀{l:List Int},nou (rI q l)=true∧yo (rI q l)=true
 | []=>⟨rfl,rfl⟩
 | x::l=>by
  obtain⟨h1,h2⟩:=qdv hq (l:=l);refine⟨?_,?_⟩
  ·show (qeZ (.i q x)&&nou (rI q l))=true;rw[h1,Bool.and_true];cases q<;>first|rfl|exact absurd rfl hq
  ·show (plA (.i q x)&&yo (rI q l))=true;rw[h2];rfl
theorem qdu:∀{l:List GCall},nou (rC l)=true∧yo (rC l)=true
 | []=>⟨rfl,rfl⟩
 | x::l=>by
  obtain⟨h1,h2⟩:=qdu (l:=l);exact⟨by show (qeZ (.s x.name)&&(qeZ (.i .u32 x.act)&&nou (rC l)))=true;rw[h1];rfl,by show (plA (.s x.name)&&(plA (.i .u32 x.act)&&yo (rC l)))=true;rw[h2];rfl⟩
theorem qjQ(p:Pol)(d a:Int):yo [.agg (qf p),.i .i64 d,.i .i64 a]=true:=by
 have h1:=qdv (q:=.i64) (by simp) (l:=p.arches);have h2:=qdv (q:=.u32) (by simp) (l:=p.fams);have h3:=qdu (l:=p.filter.calls);have h4:=qdu (l:=p.log.calls);simp[plA,yo,qf,h1,h2,h3,h4]
def ze(a b c d e g h i:Nat):ICode:=.seq (.seq (.r [.m 12 (.k 0)]) (.blk 0 (.loop (.seq (.seq (.r [.n 52 12,.f 53 1 8,.d 54 53,.e 55 54,.s 56 52 55]) (.cond (.t 56) (.skip) (.exit 0))) (.seq (.blk 1 (.seq (.r [.m 13 (.k 0)]) (.blk 2 (.loop (.seq (.seq (.r [.n 59 13,.f 60 1 8,.d 61 60,.n 62 12,.i 63 3 61 62,.f 64 1 63,.d 65 64,.e 66 65,.s 67 59 66]) (.cond (.t 67) (.skip) (.exit 2))) (.seq (.blk 3 (.r [.f 70 1 8,.d 71 70,.n 72 12,.i 73 3 71 72,.f 74 1 73,.d 75 74,.n 76 13,.i 77 4 75 76,.f 78 0 77,.u (.store 1 (.t 78) (.k 99))])) (.r [.n 68 13,.a 69 68 1,.n 13 69]))))))) (.r [.n 57 12,.a 58 57 1,.n 12 58])))))) (.seq (.r [.v 80 13 7,.n 81 1,.n 82 2,.l 83 c [.t 80,.t 81,.t 82],.n 79 83,.x 84 79 0,.x 85 79 1,.q 14 (.alloc [.i .i64 0,.nils,.i .u32 0]),.u (.store 3 (.t 14) (.t 84)),.n 15 85]) (.seq (.r [.v 86 3 14,.v 87 3 10,.l 88 g [.t 86,.t 87],.n 89 88,.g 90 (.loadN 13 (.t 7)) 89 true,.g 91 (.loadN 13 (.t 3)) 89 true,⟨(some 92),.callF h [.t 90,.t 91],(some (89,true))⟩,.p 93 89 92,.n 94 93,⟨(some 95),.callF i [],(some (94,true))⟩,.p 96 94 95,.n 6 96]) (.ret)))
def xi(a b c d e g h i:Nat):IFn:=⟨[.tmp 6],.seq (.r [.q 3 (.box (.t 0)),.m 6 .F]) (.seq (.seq (.r [.v 16 13 3,.q 17 (.build [.s [],.i .i64 0,.s [],.s [],.s []] []),.l 18 a [.t 16,.t 17]]) (.cond (.t 18) (.seq (.r [.m 6 .T]) (.ret)) (.skip))) (.seq (.r [.v 19 13 3,.l 20 b [.t 19],.q 7 (.alloc [.nils,.i .u8 0,.nils,.i .u32 0,.i .u8 0,.nils,.nils,.i .u8 0,.i .u64 0,.b false,.b false,.b false,.b false]),.u (.store 13 (.t 7) (.t 20))]) (.seq (.r [.v 22 13 7,.n 23 1,.n 24 2,.l 25 c [.t 22,.t 23,.t 24],.n 21 25,.x 26 21 0,.x 27 21 1,.q 8 (.alloc [.i .i64 0,.nils,.i .u32 0]),.u (.store 3 (.t 8) (.t 26)),.n 9 27]) (.seq (.r [.v 29 13 3,.n 30 1,.n 31 2,.l 32 d [.t 29,.t 30,.t 31],.n 28 32,.x 33 28 0,.x 34 28 1,.q 10 (.alloc [.i .i64 0,.nils,.i .u32 0]),.u (.store 3 (.t 10) (.t 33)),.n 11 34]) (.seq (.seq (.r [.n 35 9,.n 36 11,.q 37 (.eqB true (.t 35) (.t 36)),.n 38 37,.g 39 (.loadN 13 (.t 7)) 38 false,.z 40 1 38,.z 41 2 38,⟨(some 42),.callF e [.t 39,.t 40,.t 41],(some (38,false))⟩,.z 43 11 38,.g 44 (.eqB true (.t 42) (.t 43)) 38 false,.o 45 38 44,.n 46 45,.g 47 (.loadN 3 (.t 8)) 46 false,.g 48 (.loadN 3 (.t 10)) 46 false,⟨(some 49),.callF g [.t 47,.t 48],(some (46,false))⟩,.g 50 (.un .not (.t 49)) 46 false,.o 51 46 50]) (.cond (.t 51) (.seq (.r [.m 6 .F]) (.ret)) (.skip))) (.cut (ze a b c d e g h i)))))))⟩
section
variable {g1 g2 g3 g4 g5 g6 g7 g8:Nat}
theorem qgH(h3:qfO P g3)(h6:∀x:GFil,x.rules.length<=100000->(∀r ∈ x.rules,r.tests.length<=100000)->qe P g6 [.agg (ww x),.agg (ww x)] (.b true))(h7:∀p,PolOk p->qe P g7 [.agg (qf p),.agg (qf p)] (.b true))(h8:qe P g8 [] (.b true))
  (p:Pol) (hp:PolOk p) (hR:PolR p) (d a:Int) (x:GFil) (bb:Bool) (hx:yK (yO p d a) = .tup [.agg (ww x),.b bb]) (hl:x.rules.length<=100000) (htl:∀r ∈ x.rules,r.tests.length<=100000)
  {s:Nat} {tr0:Tr Blk} {t:Tr AV} {A:AV} (hs:2<=s) (ht:Has t [(1,.i .i64 d),(2,.i .i64 a),(3,.ptr 0 0),(7,.ptr 1 0),(8,.ptr s 0),(10,.ptr (s+1) 0)])
  (b0:tr0.get 0=some (.cells 0 true false (qf p))) (b1:tr0.get 1=some (.cells 0 true false (qf p))) (bf:tr0.get s=some (.cells 0 true false [.i .i64 x.arch,A,.i .u32 x.dflt])) (bg:tr0.get (s+1)=some (.cells 0 true false (ww x)))
  (hrep:qb9 2 s tr0 A x.rules):S P 0 (ze g1 g2 g3 g4 g5 g6 g7 g8) (js [.tmp 6] fun v' h'=>Frz h' v' (.b true)) t ⟨s+2,0,tr0⟩:=by
 refine S.has _ ht (qJ ?_);simp only[ze,vI,simprocAttr];simp +decide only[↓vS,vT,simprocAttr];have n0:¬0=s:=by omega
 have n1:¬1=s:=by omega
 have n2:¬0=s+1:=by omega
 have n3:¬1=s+1:=by omega
 have n4:¬s=s+1:=by omega
 refine SL.loopP (α:=Nat) (fun i=>[(1,.i .i64 d),(2,.i .i64 a),(3,.ptr 0 0),(7,.ptr 1 0),(8,.ptr s 0),(10,.ptr (s+1) 0),(12,.i .i64 (i:Int))])
  (fun i h=>i<=x.rules.length∧∃tr,h=⟨s+2,0,tr⟩∧tr.get 0=some (.cells 0 true false (qf p))∧tr.get 1=some (.cells 0 true false (qf p))∧tr.get s=some (.cells 0 true false [.i .i64 x.arch,A,.i .u32 x.dflt])∧tr.get (s+1)=some (.cells 0 true false (ww x))∧Wd s tr0 tr) (fun i=>x.rules.length-i) ?_ 0 ?_ ?_
 ·rintro i h ⟨hi,tr,rfl,t0,t1,tf,tg,hW⟩ G ih;simp only[vI,simprocAttr]
  by_cases hlt:i<x.rules.length
  ·rcases hrep with⟨h0,_⟩|⟨b,o,cs,⟨⟨c,rfl,hc⟩,q1,q2,q3,q4⟩,q5⟩
   ·rw[h0] at hlt;exact absurd hlt (Nat.not_lt_zero _)
   obtain⟨r,hr⟩:∃r,x.rules[i]?=some r:=⟨_,zzE hlt⟩;obtain⟨_,⟨a',k1,k2⟩,_⟩:=q5 i r hr;have hw1:IntKind.wrap .i64 ((i:Int)+1)=((i+1:Nat):Int):=by rw[qz (by omega) (by omega)];simp
   simp +decide only[↓vS,vT,simprocAttr,tf,hlt];have hrt:=htl r (zzM hr)
   refine SL.loopP (α:=Nat) (fun j=>[(1,.i .i64 d),(2,.i .i64 a),(3,.ptr 0 0),(7,.ptr 1 0),(8,.ptr s 0),(10,.ptr (s+1) 0),(12,.i .i64 (i:Int)),(13,.i .i64 (j:Int))])
    (fun j h=>j<=r.tests.length∧∃tr,h=⟨s+2,0,tr⟩∧tr.get 0=some (.cells 0 true false (qf p))∧tr.get 1=some (.cells 0 true false (qf p))∧tr.get s=some (.cells 0 true false [.i .i64 x.arch,.sl b o x.rules.length c false,.i .u32 x.dflt])∧tr.get (s+1)=some (.cells 0 true false (ww x))∧Wd s tr0 tr) (fun j=>r.tests.length-j) ?_ 0 ?_ ?_
   ·rintro j h ⟨hj,tr,rfl,t0,t1,tf,tg,hW⟩ G2 ih2;obtain⟨cs',w1,w2⟩:=hW b q1 q2 cs q3;have k1':=w2.get k1 (qmM k2);rw[← Nat.add_assoc] at k1';simp only[vI,simprocAttr]
    by_cases hlj:j<r.tests.length
    ·rcases k2 with⟨h0,_⟩|⟨bt,ot,ct,⟨⟨ce,rfl,hce⟩,u1,u2,u3,u4⟩,u5⟩
     ·rw[h0] at hlj;exact absurd hlj (Nat.not_lt_zero _)
     obtain⟨y,hy⟩:∃y,r.tests[j]?=some y:=⟨_,zzE hlj⟩;have g0:=jB (f:=yV) (m:=4) QX hy (i:=0) (by decide);rw[show r.tests.flatMap yV=rT r.tests from rfl] at g0
     have g1:=u5 _ _ g0;obtain⟨ct',v1,v2⟩:=hW bt u1 u2 ct u3;have hw2:IntKind.wrap .i64 ((j:Int)+1)=((j+1:Nat):Int):=by rw[qz (by omega) (by omega)];simp
     have hlen:ot+j*4<ct'.length:=by
      have:=(zzS.1 g1).1;rw[v2.1];exact this
     have hlen1:ot+j*4+1<=ct'.length:=hlen
     have hset:List.take (ot+j*4) ct'++AV.i .i64 99::List.drop (ot+j*4+1) ct'=ct'.set (ot+j*4) (.i .i64 99):=by
      rw[List.set_eq_take_append_cons_drop,if_pos hlen]
     have hbt:bt<s+2:=by omega
     have hb0:¬0=bt:=by omega
     have hb1:¬1=bt:=by omega
     have hbs:¬s=bt:=by omega
     have hbs1:¬s+1=bt:=by omega
     simp +decide only[↓vS,vT,simprocAttr,tf,w1,k1',hlt,hlj,v1,hlen,hlen1,hbt,hw2,Nat.add_zero];rw[hset];refine ih2 (j+1) _ _ (by omega) (by simp[wj,ve,Tr.get_set]) ⟨hlj,tr.set bt (.cells 4 true false (ct'.set (ot+j*4) (.i .i64 99))),rfl,by rw[Tr.get_set,if_neg hb0];exact t0,by rw[Tr.get_set,if_neg hb1];exact t1,by rw[Tr.get_set,if_neg hbs];exact tf,by rw[Tr.get_set,if_neg hbs1];exact tg,fun b' m1 m2 cs0 m3=>?_⟩
     rw[Tr.get_set];split
     ·rename_i e;subst e;rw[u3] at m3;cases m3;exact⟨_,rfl,v2.set g1⟩
     ·exact hW b' m1 m2 cs0 m3
    ·obtain rfl:j=r.tests.length:=by omega
     have fin:∀tt:Tr AV,Has tt [(1,.i .i64 d),(2,.i .i64 a),(3,.ptr 0 0),(7,.ptr 1 0),(8,.ptr s 0),(10,.ptr (s+1) 0),(12,.i .i64 ((i+1:Nat):Int))]->G tt ⟨s+2,0,tr⟩:=fun tt hh =>
      ih (i+1) _ _ (by omega) hh ⟨hlt,tr,rfl,t0,t1,tf,tg,hW⟩
     rcases k2 with⟨h0,rfl|rfl⟩|⟨bt,ot,ct,⟨⟨ce,rfl,hce⟩,_⟩,_⟩
     ·rw[h0] at hlj;simp +decide only[↓vS,vT,simprocAttr,tf,w1,k1',hlt,h0,List.length_nil,hw1];exact fin _ (by simp[wj,ve,Tr.get_set])
     ·rw[h0] at hlj;simp +decide only[↓vS,vT,simprocAttr,tf,w1,k1',hlt,h0,List.length_nil,hw1];exact fin _ (by simp[wj,ve,Tr.get_set])
     ·simp +decide only[↓vS,vT,simprocAttr,tf,w1,k1',hlt,hlj,hw1];exact fin _ (by simp[wj,ve,Tr.get_set])
   ·simp[wj,ve,Tr.get_set]
   ·exact⟨Nat.zero_le _,tr,rfl,t0,t1,tf,tg,hW⟩
  ·obtain rfl:i=x.rules.length:=by omega
   have h3':=h3 p hp hR d a;rw[hx] at h3';have h6':=h6 x hl htl;have h7':=h7 p hp
   have hA:(x.rules.length=0∧(A = .e0∨A = .fz 0 []))∨∃b o c,A = .sl b o x.rules.length c false:=by
    rcases hrep with⟨h0,he⟩|⟨b,o,_,⟨⟨c,he,_⟩,_⟩,_⟩
    ·exact .inl ⟨by rw[h0];rfl,he⟩
    ·exact .inr ⟨b,o,c,he⟩
   clear hrep hW ih;simp only[qf] at t0 t1 h3' h7';simp only[ww] at tg h3' h6';have z0:¬0=s+2:=by omega
   have z1:¬1=s+2:=by omega
   have z2:¬s+1=s+2:=by omega
   have hz0:(¬((x.rules.length:Nat):Int)<0)∧True:=⟨by omega,trivial⟩
   rcases hA with⟨hz,rfl|rfl⟩|⟨b,o,c,hz⟩
   rotate_left 2
   ·subst hz;have hz:=hlt;simp +decide only[↓vS,vT,simprocAttr,tf,t0,t1,tg,hlt,hz];refine h3'.sc ?_;simp +decide only[↓vS,vT,simprocAttr,tf,t0,t1,tg,z0,z1,z2];refine h6'.sc ?_;simp +decide only[↓vS,vT,simprocAttr,tf,t0,t1,tg,z0,z1,z2];refine h7'.sc ?_;simp +decide only[↓vS,vT,simprocAttr];refine h8.sc ?_;simp +decide only[↓vS,vT,simprocAttr];simp[vZ]
   all_goals
    simp +decide only[↓vS,vT,simprocAttr,tf,t0,t1,tg,hlt,hz];refine h3'.sc ?_;simp +decide only[↓vS,vT,simprocAttr,tf,t0,t1,tg,z0,z1,z2];refine h6'.sc ?_;simp +decide only[↓vS,vT,simprocAttr,tf,t0,t1,tg,z0,z1,z2];refine h7'.sc ?_;simp +decide only[↓vS,vT,simprocAttr];refine h8.sc ?_;simp +decide only[↓vS,vT,simprocAttr];simp[vZ]
 ·simp[wj,ve,Tr.get_set]
 ·exact⟨Nat.zero_le _,tr0,rfl,b0,b1,bf,bg,fun b _ _ cs h=>⟨cs,h,WC.refl cs⟩⟩
theorem qca.keep{s:Nat}{tr tr':Tr Blk}{A:AV}{ts:List GTest}(hk:∀b,2<=b->b<s->tr'.get b=tr.get b)(h:qca 2 s tr A ts):qca 2 s tr' A ts:=by
 rcases h with h|⟨b,o,cs,⟨h0,h1,h2,h3,h4⟩,h5⟩
 ·exact .inl h
 ·exact .inr ⟨b,o,cs,⟨h0,h1,h2,by rw[hk b h1 h2];exact h3,h4⟩,h5⟩
theorem qb9.keep{s:Nat}{tr tr':Tr Blk}{A:AV}{rs:List GRule}(hk:∀b,2<=b->b<s->tr'.get b=tr.get b)(h:qb9 2 s tr A rs):qb9 2 s tr' A rs:=by
 rcases h with h|⟨b,o,cs,⟨h0,h1,h2,h3,h4⟩,h5⟩
 ·exact .inl h
 ·exact .inr ⟨b,o,cs,⟨h0,h1,h2,by rw[hk b h1 h2];exact h3,h4⟩,fun i r hr=>let ⟨k1,⟨a',k2,k3⟩,k4⟩:=h5 i r hr;⟨k1,⟨a',k2,k3.keep hk⟩,k4⟩⟩
theorem qdV [NoOld](hc:qv P f (xi g1 g2 g3 g4 g5 g6 g7 g8)=true)(h1:∀p a,qe P g1 [.agg (qf p),.agg (qk8 a)] (.b (xR p a)))(h2:qdK P g2)(h3:∀C:Cur,@qfO C P g3)(h4:qfO P g4)
  (h5:∀p,PolOk p->PolR p->∀d a:Int,qe P g5 [.agg (qf p),.i .i64 d,.i .i64 a] (.b (yO p d a).isSome)) (h6:∀x:GFil,x.rules.length<=100000->(∀r ∈ x.rules,r.tests.length<=100000)->qe P g6 [.agg (ww x),.agg (ww x)] (.b true)) (h7:∀p,PolOk p->qe P g7 [.agg (qf p),.agg (qf p)] (.b true)) (h8:qe P g8 [] (.b true))
  (p:Pol) (hR:PolR p) (d a:Int):qe P f [.agg (qf p),.i .i64 d,.i .i64 a] (.b true):=by
 refine qe.mk hc rfl ?_;simp only[xi,qf,vI,simprocAttr];simp +decide only[↓vS,vT,simprocAttr];refine (h1 p qnS).sc ?_;cases hG:xR p qnS with
 | true =>
  simp +decide only[↓vS,vT,simprocAttr];simp[vZ]
 | false =>
  have hp:=(qgu hG).2.2.1;simp +decide only[↓vS,vT,simprocAttr];refine (h2 p hp).sc ?_;simp +decide only[↓vS,vT,simprocAttr,qf];cases hL:yO p d a with
  | none =>
   have k3:=h3 inferInstance p hp hR d a;have k4:=h4 p hp hR d a;have k5:=h5 p hp hR d a;have k6:=h6 ⟨0,[],0⟩ (Nat.zero_le _) (fun r h=>by cases h)
   rw[hL] at k3 k4 k5;simp only[yK] at k3 k4;refine k3.sc ?_;simp +decide only[↓vS,vT,simprocAttr];refine k4.sc ?_;simp +decide only[↓vS,vT,simprocAttr];refine k5.sc ?_;simp +decide only[↓vS,vT,simprocAttr];refine k6.sc ?_;simp +decide only[↓vS,vT,simprocAttr];refine qgH (s:=2) (A:=.fz 0 []) (x:=⟨0,[],0⟩) (bb:=false) (h3 inferInstance) h6 h7 h8 p hp hR d a (by rw[hL];rfl) (Nat.zero_le _) (fun r h=>by cases h) (Nat.le_refl _) (by simp[wj,ve,Tr.get_set]) ?_ ?_ ?_ ?_ (.inl ⟨rfl,.inr rfl⟩)
   all_goals simp[Tr.get_set,qf,ww,rR]
  | some x =>
   obtain⟨hl,htl⟩:=qji hp hL;have k4:=h4 p hp hR d a;have k5:=h5 p hp hR d a;have k6:=h6 x (by omega) (fun r hr=>by have:=htl r hr;omega)
   rw[hL] at k4 k5;simp only[yK,ww] at k4;refine qeI (x:=x) rfl (qjQ p d a) (fun C=>by have k3:=h3 C p hp hR d a;rw[hL] at k3;exact k3) ?_
   rintro⟨s,fl,tr⟩ A hfl hsz hold hrep;simp only at hfl hsz hold hrep;subst hfl;have t0:=hold 0 (by decide);have t1:=hold 1 (by decide);simp +decide only[Tr.get_set,if_true,if_false] at t0 t1;have n0:¬0=s:=by omega
   have n1:¬1=s:=by omega
   have n2:¬0=s+1:=by omega
   have n3:¬1=s+1:=by omega
   have n4:¬s=s+1:=by omega
   have hcA:zi A=true:=by rcases hrep with⟨_,rfl|rfl⟩|⟨_,_,_,⟨⟨_,rfl,_⟩,_⟩,_⟩<;>rfl
   simp +decide only[↓vS,vT,simprocAttr,t0,t1,n0,n1,n2,n3,n4,hcA];refine k4.sc ?_;simp +decide only[↓vS,vT,simprocAttr,t0,t1,n0,n1,n2,n3,n4];refine k5.sc ?_;simp +decide only[↓vS,vT,simprocAttr,t0,t1,n0,n1,n2,n3,n4];have hk:∀(B B' C C':Blk) b,2<=b->b<s->((((tr.set s B).set s B').set (s+1) C).set (s+1) C').get b=tr.get b:=fun B B' C C' b _ hb=>by rw[Tr.get_set,if_neg (by omega),Tr.get_set,if_neg (by omega),Tr.get_set,if_neg (by omega),Tr.get_set,if_neg (by omega)]
   refine (k6.lend (vs':=[.agg (ww x),.agg (ww x)]) ?_ rfl ?_)
   ·exact .cons _ _ _ _ (.agg _ _ (.cons _ _ _ _ (.i _ _) (.cons _ _ _ _ (hrep.keep (hk _ _ _ _)).frz (.cons _ _ _ _ (.i _ _) .nil)))) (Frzs.self rfl)
   simp +decide only[↓vS,vT,simprocAttr];refine qgH (s:=s) (A:=A) (x:=x) (bb:=true) (h3 inferInstance) h6 h7 h8 p hp hR d a (by rw[hL];rfl) (by omega) (fun r hr=>by have:=htl r hr;omega) hsz (by simp[wj,ve,Tr.get_set]) ?_ ?_ ?_ ?_ (hrep.keep (hk _ _ _ _))
   ·rw[Tr.get_set,if_neg n2,Tr.get_set,if_neg n2,Tr.get_set,if_neg n0,Tr.get_set,if_neg n0];exact t0
   ·rw[Tr.get_set,if_neg n3,Tr.get_set,if_neg n3,Tr.get_set,if_neg n1,Tr.get_set,if_neg n1];exact t1
   ·rw[Tr.get_set,if_neg n4,Tr.get_set,if_neg n4,Tr.get_set,if_pos rfl]
   ·rw[Tr.get_set,if_pos rfl];rfl
end
instance cur0:Cur:=⟨fun _ _=>False,fun _=>False,fun _=>True,fun _ _ h=>h⟩
instance noOld0:@NoOld cur0:=@NoOld.mk cur0 (fun _ h=>h) (fun _=>trivial)
end Go.Kc
end
