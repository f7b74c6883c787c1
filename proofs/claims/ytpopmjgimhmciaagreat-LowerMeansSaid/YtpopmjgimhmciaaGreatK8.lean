/- Part 8 of the abstract machine and of the functions' walks. Conditions: with each theorem. -/
import Derived.Test.YtpopmjgimhmciaaGreatK7
import Derived.Shelf.GgSortFunc.InsertionK
set_option linter.unusedSimpArgs false
set_option linter.unusedVariables false
set_option linter.unnecessarySimpa false
section
/- What lower.Lower answers. Condition: the functions' texts are these. -/
namespace Go.Kc
variable {P:Program} {f:Nat}
def zQ(rs:List GRule):List GRule:=rs.mergeSort fun x y=>decide (x.nr<=y.nr)
def qar(P:Program)(f c:Nat):Prop:=∀rs:List GRule,rs.length<=100000->(rs.map GRule.nr).Nodup->
 Upd P f [.own 0 rs.length,.fn c [] []] [.cells 3 true true (rR rs)] (.tup []) [.cells 3 true true (rR (zQ rs))]
def wQ(d:Int):Option (Pol->Int->Bool×List GRule×Int) :=
 if d=1 then some qax else if d=2 then some qaL else if d=3 then some fmM else if d=4 then some nsM else if d=5 then some weM else if d=6 then some peM else if d=7 then some rtM else none
noncomputable def wE(p:Pol)(d a:Int):Bool:=decide (0<=d)&&decide (d<8)&&(decide (0<=a)&&decide (a<6))&&wK p&&inA p.arches a
noncomputable def QI(p:Pol)(d a:Int):Option GFil :=
 if wE p d a=true then (wQ d).bind fun F=>if (F p a).1=true then some ⟨a,zQ (F p a).2.1,(F p a).2.2⟩ else none else none
def qa7:Option GFil->AV
 | some x=>.tup [.agg (y5 x),.b true]
 | none=>.tup [.agg [.i .i64 0,.fz 0 [],.i .u32 0],.b false]
def qhZ(F:Pol->Int->Bool×List GRule×Int):Prop:=∀p a,PolOk p->wK p=true->0<=a->a<6->(F p a).2.1.length<=100000∧((F p a).2.1.map GRule.nr).Nodup
def kq(a b c d e g h:Nat):IFn:=⟨[.cell 0 8 true],.seq (.r [.q 0 (.alloc [.nilf,.nilf,.nilf,.nilf,.nilf,.nilf,.nilf,.nilf])]) (.seq (.r [.q 1 (.build [.nilf,.nilf,.nilf,.nilf,.nilf,.nilf,.nilf,.nilf] [(0,1,(.c (.nilf))),(1,1,(.c (.fn a [] []))),(2,1,(.c (.fn b [] []))),(3,1,(.c (.fn c [] []))),(4,1,(.c (.fn d [] []))),(5,1,(.c (.fn e [] []))),(6,1,(.c (.fn g [] []))),(7,1,(.c (.fn h [] [])))]),.u (.store 8 (.t 0) (.t 1))]) (.ret))⟩
theorem qkC{g1 g2 g3 g4 g5 g6 g7:Nat}(hc:qt P f (kq g1 g2 g3 g4 g5 g6 g7)=true):qb P f [] (.agg [.nilf,.fn g1 [] [],.fn g2 [] [],.fn g3 [] [],.fn g4 [] [],.fn g5 [] [],.fn g6 [] [],.fn g7 [] []]):=by
 refine qb.mk hc rfl ?_;simp only[kq,vI,simprocAttr];simp only[↓vS,vT,simprocAttr];simp[vZ]
def jw(a b c d e g:Nat):ICode:=.seq (.r [.n 51 8,.q 52 (.nilChk (.t 51)),.f 53 13 52,.f 54 1 53,.d 55 54,.l 56 e [.t 55,(.c (.fn g [] []))]]) (.seq (.r [.n 57 8,.q 58 (.nilChk (.t 57)),.f 59 13 58,.v 60 3 59,.u (.store 3 (.t 6) (.t 60)),.m 7 .T]) (.ret))
def jv(a b c d e g:Nat):ICode:=.seq (.seq (.r [.l 39 d [],.n 40 1,.q 41 (.idxA 8 1 false (.t 39) (.t 40)),.n 9 41]) (.seq (.r [.n 42 9,.q 43 (.eqN false .func (.t 42)),.n 44 43,.z 45 9 44,.z 46 8 44,⟨(some 47),.callV (.t 45) [.t 46],(some (44,false))⟩,.g 48 (.un .not (.t 47)) 44 false,.o 49 44 48]) (.cond (.t 49) (.seq (.r [.q 50 (.build [.i .i64 0,.nils,.i .u32 0] []),.u (.store 3 (.t 6) (.t 50)),.m 7 .F]) (.ret)) (.skip)))) (.cut (jw a b c d e g))
def ju(a b c d e g:Nat):ICode:=.seq (.r [.v 34 13 3,.n 35 2,.q 36 (.build [.i .i64 0,.nils,.i .u32 0] [(0,1,(.t 35)),(2,1,(.c (.i .u32 2147418112)))]),.q 37 (.build [.nils,.i .u8 0,.nils,.i .u32 0,.i .u8 0,.nils,.nils,.i .u8 0,.i .u64 0,.b false,.b false,.b false,.b false,.i .i64 0,.nils,.i .u32 0] [(0,13,(.t 34)),(13,3,(.t 36))]),.q 38 (.box (.t 37)),.n 8 38]) (.cut (jv a b c d e g))
def kP(a b c d e g:Nat):IFn:=⟨[.cell 6 3 true,.tmp 7],.seq (.r [.q 3 (.box (.t 0)),.q 6 (.alloc [.i .i64 0,.nils,.i .u32 0]),.m 7 .F]) (.seq (.seq (.r [.n 10 1,.w 11 .lss 10 0,.n 12 11,.z 13 1 12,.g 14 (.bin .geq (.t 13) (.k 8)) 12 false,.o 15 12 14,.n 16 15,.z 17 2 16,⟨(some 18),.callF a [.t 17],(some (16,false))⟩,.g 19 (.bin .eql (.t 18) (.c (.s []))) 16 false,.o 20 16 19,.n 21 20,.g 22 (.loadN 13 (.t 3)) 21 false,⟨(some 23),.callF b [.t 22],(some (21,false))⟩,.g 24 (.un .not (.t 23)) 21 false,.o 25 21 24,.n 26 25,.h 27 0 3 26 false,.j 28 27 26 false,.z 29 2 26,⟨(some 30),.callF c [.t 28,.t 29],(some (26,false))⟩,.g 31 (.un .not (.t 30)) 26 false,.o 32 26 31]) (.cond (.t 32) (.seq (.r [.q 33 (.build [.i .i64 0,.nils,.i .u32 0] []),.u (.store 3 (.t 6) (.t 33)),.m 7 .F]) (.ret)) (.skip))) (.cut (ju a b c d e g)))⟩
theorem qgV{g1 g2 g3 g4 g5 g6:Nat}(h5:qar P g5 g6)(p:Pol)(a d:Int)(rs:List GRule)(hr:rs.length<=100000)(hn:(rs.map GRule.nr).Nodup){t':Tr AV}{h':Hp}(hw:Wk 0 t' h' (mkT [(6,.ptr 0 0),(7,.b false),(8,.ptr 1 0)]) (mkH 0 [.cells 0 true false [.i .i64 0,.nils,.i .u32 0],mkB p a d 2 rs.length,.cells 3 true true (rR rs)])) :
  S P 0 (jw g1 g2 g3 g4 g5 g6) (jJ [.cell 6 3 true,.tmp 7] fun v' h'=>Frz h' v' (qa7 (some ⟨a,zQ rs,d⟩))) t' h':=by
 refine S.weak hw (qP ?_);simp only[jw,mkB,mkC,qr,List.cons_append,List.nil_append,vI,simprocAttr];simp only[↓vS,vT,simprocAttr];refine (h5 rs hr hn).sc (vs:=[.own 0 rs.length,.fn g6 [] []]) [2] (Lent.of (by decide) ?_) ?_
 ·simp[vL,vw,qw qi,qd qi]
 simp only[vK,simprocAttr,qd qi];simp only[↓vS,vT,simprocAttr];have hsl:(zQ rs).length=rs.length:=List.length_mergeSort _;simp only[qa7,y5,hsl];refine .tup _ _ (.cons _ _ _ _ (.agg _ _ (.cons _ _ _ _ (.i _ _) (.cons _ _ _ _ (.own 2 _ 3 true (rR (zQ rs)) _ ?_ (fun h0=>?_) (Frzs.self qi)) (.cons _ _ _ _ (.i _ _) .nil)))) (.cons _ _ _ _ (.b _) .nil))
 ·simp[Tr.get_set]
 ·rw[List.eq_nil_of_length_eq_zero (hsl.trans h0)];rfl
theorem qgU{g1 g2 g3 g4 g5 g6 m1 m2 m3 m4 m5 m6 m7:Nat}(h4:qb P g4 [] (.agg [.nilf,.fn m1 [] [],.fn m2 [] [],.fn m3 [] [],.fn m4 [] [],.fn m5 [] [],.fn m6 [] [],.fn m7 [] []]))(h5:qar P g5 g6)
  (hm1:zk P m1 qax) (hm2:zk P m2 qaL) (hm3:zk P m3 fmM) (hm4:zk P m4 nsM) (hm5:zk P m5 weM) (hm6:zk P m6 peM) (hm7:zk P m7 rtM)
  (hM:∀d F,wQ d=some F->qhZ F) (p:Pol) (hp:PolOk p) (hR:PolR p) (a d:Int) (ha:0<=a) (ha6:a<6) (hmay:wK p=true) (hd0:0<=d) (hd8:d<8) {t':Tr AV} {h':Hp} (hw:Wk 0 t' h' (mkT [(1,.i .i64 d),(6,.ptr 0 0),(7,.b false),(8,.ptr 1 0)]) (mkH 0 [.cells 0 true false [.i .i64 0,.nils,.i .u32 0],mkB p a 2147418112 2 0,.cells 3 true true (rR [])])) :
  S P 0 (jv g1 g2 g3 g4 g5 g6) (jJ [.cell 6 3 true,.tmp 7] fun v' h'=>Frz h' v' (qa7 ((wQ d).bind fun F=>if (F p a).1=true then some ⟨a,zQ (F p a).2.1,(F p a).2.2⟩ else none))) t' h':=by
 refine S.weak hw (qP ?_);simp only[jv,mkB,mkC,qr,List.cons_append,List.nil_append,vI,simprocAttr];simp only[↓vS,vT,simprocAttr];refine h4.sc ?_;obtain⟨j,rfl⟩:∃j:Nat,d=j:=⟨d.toNat,by omega⟩
 have hj:j<8:=by omega
 by_cases h0:j=0
 ·subst h0;simp only[↓vS,vT,simprocAttr];refine .tup _ _ (.cons _ _ _ _ (.agg _ _ (.cons _ _ _ _ (.i _ _) (.cons _ _ _ _ .nilz (.cons _ _ _ _ (.i _ _) .nil)))) (.cons _ _ _ _ (.b _) .nil))
 ·have hh:∃g F,([.nilf,.fn m1 [] [],.fn m2 [] [],.fn m3 [] [],.fn m4 [] [],.fn m5 [] [],.fn m6 [] [],.fn m7 [] []]:List AV)[j]?=some (.fn g [] [])∧wQ j=some F∧zk P g F:=by
   have:j=1∨j=2∨j=3∨j=4∨j=5∨j=6∨j=7:=by omega
   rcases this with rfl|rfl|rfl|rfl|rfl|rfl|rfl
   ·exact⟨_,_,rfl,rfl,hm1⟩
   ·exact⟨_,_,rfl,rfl,hm2⟩
   ·exact⟨_,_,rfl,rfl,hm3⟩
   ·exact⟨_,_,rfl,rfl,hm4⟩
   ·exact⟨_,_,rfl,rfl,hm5⟩
   ·exact⟨_,_,rfl,rfl,hm6⟩
   ·exact⟨_,_,rfl,rfl,hm7⟩
  obtain⟨g,F,he,hF,hg⟩:=hh;obtain⟨hl,hn⟩:=hM _ _ hF p a hp hmay ha ha6;obtain⟨ok,rs,df,hFp⟩:∃ok rs df,F p a=(ok,rs,df):=⟨_,_,_,rfl⟩;have hu:=hg p a hp hR;have e:((wQ j).bind fun F=>if (F p a).1=true then some (⟨a,zQ (F p a).2.1,(F p a).2.2⟩:GFil) else none)=if ok=true then some ⟨a,zQ rs,df⟩ else none:=by rw[hF];simp[hFp]
  rw[e];rw[hFp] at hl hn hu;dsimp only at hl hn hu;generalize ([.nilf,.fn m1 [] [],.fn m2 [] [],.fn m3 [] [],.fn m4 [] [],.fn m5 [] [],.fn m6 [] [],.fn m7 [] []]:List AV)=L at he;simp only[↓vS,vT,simprocAttr,hj,Nat.mul_one,he];refine hu.sc (vs:=[.ptr 0 0]) [1,2] (Lent.of (by decide) ?_) ?_
  ·simp[vL,vw,mkB,mkC,qr,qw qi,qd qi,qw qe,qd qe,qw qc,qd qc]
  simp only[vK,simprocAttr,mkB,mkC,qr,List.cons_append,List.nil_append,qd qi,qd qe,qd qc];cases ok with
  | false =>
   simp only[↓vS,vT,simprocAttr];refine .tup _ _ (.cons _ _ _ _ (.agg _ _ (.cons _ _ _ _ (.i _ _) (.cons _ _ _ _ .nilz (.cons _ _ _ _ (.i _ _) .nil)))) (.cons _ _ _ _ (.b _) .nil))
  | true =>
   simp only[↓vS,vT,simprocAttr];refine qgV h5 p a df rs hl hn (Wk.mk _ _ [0,1,3] ?_ ?_ ?_ rfl)
   ·simp[vw]
   ·simp[vw,mkB,mkC,qr,ql,qi,qe,qc]
   ·simp
theorem qgT{g1 g2 g3 g4 g5 g6 m1 m2 m3 m4 m5 m6 m7:Nat}(h4:qb P g4 [] (.agg [.nilf,.fn m1 [] [],.fn m2 [] [],.fn m3 [] [],.fn m4 [] [],.fn m5 [] [],.fn m6 [] [],.fn m7 [] []]))(h5:qar P g5 g6)
  (hm1:zk P m1 qax) (hm2:zk P m2 qaL) (hm3:zk P m3 fmM) (hm4:zk P m4 nsM) (hm5:zk P m5 weM) (hm6:zk P m6 peM) (hm7:zk P m7 rtM)
  (hM:∀d F,wQ d=some F->qhZ F) (p:Pol) (hp:PolOk p) (hR:PolR p) (a d:Int) (ha:0<=a) (ha6:a<6) (hmay:wK p=true) (hd0:0<=d) (hd8:d<8) {t':Tr AV} {h':Hp} (hw:Wk 0 t' h' (mkT [(1,.i .i64 d),(2,.i .i64 a),(3,.ptr 0 0),(6,.ptr 1 0),(7,.b false)]) (mkH 0 [.cells 0 true false (qr p),.cells 0 true false [.i .i64 0,.nils,.i .u32 0]])) :
  S P 0 (ju g1 g2 g3 g4 g5 g6) (jJ [.cell 6 3 true,.tmp 7] fun v' h'=>Frz h' v' (qa7 ((wQ d).bind fun F=>if (F p a).1=true then some ⟨a,zQ (F p a).2.1,(F p a).2.2⟩ else none))) t' h':=by
 refine S.weak hw (qP ?_);simp only[ju,qr,vI,simprocAttr];simp only[↓vS,vT,simprocAttr];refine qgU h4 h5 hm1 hm2 hm3 hm4 hm5 hm6 hm7 hM p hp hR a d ha ha6 hmay hd0 hd8 (Wk.mk _ _ [1,2,99] ?_ ?_ ?_ rfl)
 ·simp[vw]
 ·simp[vw,mkB,mkC,qr,ql,qi,qe,qc,rR]
 ·simp
theorem ql9{g1 g2 g3 g4 g5 g6 m1 m2 m3 m4 m5 m6 m7:Nat}(hc:qt P f (kP g1 g2 g3 g4 g5 g6)=true)(h1:∀a,qb P g1 [.i .i64 a] (.s (yx a)))(h2:∀p,PolOk p->qb P g2 [.agg (qr p)] (.b (wK p)))(h3:∀(xs:List Int) (x:Int),xs.length<=qg->qb P g3 [.fz xs.length (rI .i64 xs),.i .i64 x] (.b (inA xs x)))
  (h4:qb P g4 [] (.agg [.nilf,.fn m1 [] [],.fn m2 [] [],.fn m3 [] [],.fn m4 [] [],.fn m5 [] [],.fn m6 [] [],.fn m7 [] []])) (h5:qar P g5 g6)
  (hm1:zk P m1 qax) (hm2:zk P m2 qaL) (hm3:zk P m3 fmM) (hm4:zk P m4 nsM) (hm5:zk P m5 weM) (hm6:zk P m6 peM) (hm7:zk P m7 rtM)
  (hM:∀d F,wQ d=some F->qhZ F) (p:Pol) (hp:PolOk p) (hR:PolR p) (d a:Int):qb P f [.agg (qr p),.i .i64 d,.i .i64 a] (qa7 (QI p d a)):=by
 have hl:=hp.a;refine qb.mk hc rfl ?_
 have no:wE p d a=false->∀{h:Hp},Frz h (.tup [.agg [.i .i64 0,.nils,.i .u32 0],.b false]) (qa7 (QI p d a)):=by
  intro h0 h;rw[QI,h0];exact .tup _ _ (.cons _ _ _ _ (.agg _ _ (.cons _ _ _ _ (.i _ _) (.cons _ _ _ _ .nilz (.cons _ _ _ _ (.i _ _) .nil)))) (.cons _ _ _ _ (.b _) .nil))
 simp only[kP,qr,vI,simprocAttr]
 by_cases k1:d<0
 ·simp only[↓vS,vT,simprocAttr,k1];exact no (by simp only[wE,decide_eq_false (by omega:¬0<=d)];simp)
 by_cases k2:8<=d
 ·simp only[↓vS,vT,simprocAttr,k1,k2];exact no (by simp only[wE,decide_eq_false (by omega:¬d<8)];simp)
 simp only[↓vS,vT,simprocAttr,k1,k2];refine (h1 a).sc ?_;have hN:=qcm a
 by_cases k3:yx a=[]
 ·have k3':(decide (0<=a)&&decide (a<6))=false:=by
   rw[Bool.eq_false_iff];intro h;exact hN.2 (by simpa using h) k3
  simp only[↓vS,vT,simprocAttr,k3];exact no (by simp only[wE,k3'];simp)
 have ⟨a0,a6⟩:=hN.1 k3;simp only[↓vS,vT,simprocAttr,k3];refine (h2 p hp).sc ?_;cases k4:wK p with
 | false =>
  simp only[↓vS,vT,simprocAttr];exact no (by simp[wE,k4])
 | true =>
  simp only[↓vS,vT,simprocAttr];refine (h3 p.arches a (by simp only[qg];omega)).sc ?_;cases k5:inA p.arches a with
  | false =>
   simp only[↓vS,vT,simprocAttr];exact no (by simp[wE,k5])
  | true =>
   have hok:wE p d a=true:=by simp[wE,k4,k5,a0,a6];omega
   have e:QI p d a=(wQ d).bind fun F=>if (F p a).1=true then some ⟨a,zQ (F p a).2.1,(F p a).2.2⟩ else none:=by rw[QI,if_pos hok]
   rw[e];simp only[↓vS,vT,simprocAttr];refine qgT h4 h5 hm1 hm2 hm3 hm4 hm5 hm6 hm7 hM p hp hR a d a0 a6 k4 (by omega) (by omega) (Wk.mk _ _ [0,1] ?_ ?_ ?_ rfl)
   ·simp[vw]
   ·simp[vw,qr,ql,qe,qc]
   ·simp
end Go.Kc
end
section
/- What lower.Active, lower.All answer. Condition: the functions' texts are these. -/
namespace Go.Kc
variable {P:Program} {f:Nat}
section
variable {l m:List GFil} {j:Nat}
end
def qis(P:Program)(f:Nat):Prop:=∀p,PolOk p->PolR p->∀d a:Int,qb P f [.agg (qr p),.i .i64 d,.i .i64 a] (qa7 (QI p d a))
def qfy(a:Nat):IFn:=⟨[.tmp 6],.seq (.r [.q 3 (.box (.t 0)),.m 6 .F]) (.seq (.r [.v 10 13 3,.n 11 1,.n 12 2,.l 13 a [.t 10,.t 11,.t 12],.n 9 13,.x 14 9 0,.x 15 9 1,.q 7 (.alloc [.i .i64 0,.nils,.i .u32 0]),.u (.store 3 (.t 7) (.t 14)),.n 8 15]) (.seq (.r [.n 16 8,.n 6 16]) (.ret)))⟩
def qkw:IFn:=⟨[.tmp 0],.seq (.r [.m 0 .N]) (.seq (.r [.m 1 .N]) (.seq (.seq (.r [.m 3 (.k 0)]) (.blk 0 (.loop (.seq (.r [.w 4 .lss 3 6]) (.seq (.cond (.t 4) (.skip) (.exit 0)) (.seq (.blk 1 (.seq (.r [.n 5 3,.n 2 5]) (.r [.n 6 1,.n 7 2,.q 8 (.buildS 1 [.i .i64 0] [(0,1,(.t 7))]),.q 9 (.app 1 8 true (.t 6) (.t 8)),.n 1 9]))) (.r [.a 10 3 1,.n 3 10]))))))) (.seq (.r [.n 11 1,.n 0 11]) (.ret))))⟩
def qi7(a b:Nat):IFn:=⟨[.tmp 2],.seq (.r [.q 1 (.box (.t 0)),.m 2 .N]) (.seq (.r [.m 3 .N]) (.seq (.seq (.r [.m 9 (.k 0)]) (.blk 0 (.loop (.seq (.r [.w 10 .lss 9 8]) (.seq (.cond (.t 10) (.skip) (.exit 0)) (.seq (.blk 1 (.seq (.r [.n 11 9,.n 4 11]) (.seq (.r [.l 12 a [],.e 13 12,.m 14 (.k 0)]) (.blk 2 (.loop (.seq (.r [.s 15 14 13]) (.seq (.cond (.t 15) (.skip) (.exit 2)) (.seq (.blk 3 (.seq (.r [.i 16 1 12 14,.d 17 16,.n 6 17]) (.seq (.r [.v 19 13 1,.n 20 4,.n 21 6,.l 22 b [.t 19,.t 20,.t 21],.n 18 22,.x 23 18 0,.x 24 18 1,.q 7 (.alloc [.i .i64 0,.nils,.i .u32 0]),.u (.store 3 (.t 7) (.t 23)),.n 8 24]) (.seq (.r [.n 25 8]) (.cond (.t 25) (.r [.n 26 3,.v 27 3 7,.q 28 (.buildS 1 [.i .i64 0,.nils,.i .u32 0] [(0,3,(.t 27))]),.q 29 (.app 3 40 true (.t 26) (.t 28)),.n 3 29]) (.skip)))))) (.r [.a 30 14 1,.n 14 30]))))))))) (.r [.a 31 9 1,.n 9 31]))))))) (.seq (.r [.n 32 3,.n 2 32]) (.ret))))⟩
end Go.Kc
end
section
/- The document's flags, which directives are active. Condition: the functions' texts are these. -/
namespace Go.Kc
variable {P:Program} {f:Nat}
end Go.Kc
end
section
/- Which directives are active, by the document; its rule of a call. Condition: the functions' texts are these. -/
namespace Go.Kc
variable {P:Program} {f:Nat}
def jE(p:Pol)(d:Int):Bool :=
 if d=1 then qS p.filter.mode p.filter.calls.length true false else if d=2 then qS p.log.mode p.log.calls.length false true else if d=3 then qS p.fmode p.fams.length true false
 else if d=4 then decide (p.spaces≠0) else if d=5 then p.we else if d=6 then p.pe else if d=7 then p.rt else false
end Go.Kc
end
section
/- The document's rule of a call. Condition: the functions' texts are these. -/
namespace Go.Kc
variable {P:Program} {f:Nat}
def qa9(l:List GCall)(s:List UInt8):Int:=match zJ l s with|some c=>c.act|none=>0
theorem qaq.act(h:qaq P f)(l:GList)(s:List UInt8)(hl:l.calls.length<=100000):qb P f [.agg (xn l),.s s] (.tup [.i .u32 (qa9 l.calls s),.b (zJ l.calls s).isSome]):=h l s hl
def qfH(p:Pol)(s:List UInt8):Int:=if qa9 p.filter.calls s=0 then (if p.filter.mode=1 then 2147418112 else p.deny) else qa9 p.filter.calls s
def xR(s:List UInt8):Int:=if s=zV then 6 else if s=qK∨s=qq then 4 else if s=zj then 32768 else 0
def xw(p:Pol)(d:Int)(s:List UInt8):Bool×List GTest×Int :=
 if d=1 then ((zJ p.filter.calls s).isSome,[],qfH p s)
 else if d=2 then ((zJ p.log.calls s).isSome,[],if p.log.mode=1 then 2147221504 else 2147418112)
 else if d=3 then (decide (s=qZ),qH 0 4294967295 (if p.fmode=2 then 327777 else 2147418112) p.fams,if p.fmode=2 then 2147418112 else 327777)
 else if d=4 then (if s=qY then (true,[],327718) else (decide (s=qT)||decide (s=qQ)||decide (s=zt),zf (if s=qT then 1 else 0) 327681 (zW p.spaces)++(if s=qT then [⟨1,4294967295,0,327681⟩] else []),2147418112))
 else if d=5 then (decide (0<xR s),[⟨2,xR s,xR s,327681⟩],2147418112)
 else if d=6 then (decide (s=qC),qH 0 4294967295 2147418112 [0,4294967295],327681)
 else (decide (s=xr),qH 1 4294967295 2147418112 [0,3,5],327681)
section
variable {g1 g2:Nat}
end
end Go.Kc
end
section
/- The document's rule of a call: namespaces, and all of it. Condition: the functions' texts are these. -/
namespace Go.Kc
variable {P:Program} {f:Nat}
section
variable {g1 g2:Nat}
def ns4(p:Pol)(s:List UInt8):Bool×List GTest×Int:=if s=qY then (true,[],327718) else (decide (s=qT)||decide (s=qQ)||decide (s=zt),zf (if s=qT then 1 else 0) 327681 (zW p.spaces)++(if s=qT then [⟨1,4294967295,0,327681⟩] else []),2147418112)
end
end Go.Kc
end
section
/- What the document's Lower answers. Condition: the functions' texts are these. -/
namespace Go.Kc
variable {P:Program} {f:Nat}
def qb0(c:GCall):List GCall->List GCall
 | []=>[c]
 | x::l=>if c.act<=x.act then c::x::l else x::qb0 c l
def xY(a:Int):List GCall:=(qE.filterMap fun x=>(jy x a).map fun n=>(⟨x.1,n⟩:GCall)).foldr qb0 []
theorem qcR(c:GCall):∀l,(qb0 c l).length=l.length+1
 | []=>rfl
 | x::l=>by unfold qb0;split<;>simp[qcR c l]
theorem qcj(a:Int):(xY a).length<=40:=by
 unfold xY
 have h1:∀l:List GCall,(l.foldr qb0 []).length=l.length:=by
  intro l;induction l with
  | nil=>rfl
  | cons x l ih=>simp[qcR,ih]
 rw[h1];exact Nat.le_trans (List.length_filterMap_le _ _) (by decide)
def dfR(p:Pol)(d:Int):Int:=if d=1∧p.filter.mode=1 then p.deny else if d=2∧p.log.mode=2 then 2147221504 else 2147418112
def ruR(p:Pol)(d:Int)(l:List GCall):List GRule:=l.filterMap fun c=>if (xw p d c.name).1=true then some ⟨c.act,(xw p d c.name).2.1,(xw p d c.name).2.2⟩ else none
noncomputable def yY(p:Pol)(d a:Int):Option GFil:=if (decide (0<=a)&&decide (a<6)&&wK p&&inA p.arches a&&jE p d)=true then some ⟨a,ruR p d (xY a),dfR p d⟩ else none
section
variable {g1 g2 g3 g4 g5:Nat}
def qkq(P:Program)(f:Nat):Prop:=∀p,PolOk p->PolR p->∀d a:Int,qb P f [.agg (qr p),.i .i64 d,.i .i64 a] (qa7 (yY p d a))
end
end Go.Kc
end
section
/- When two filters are the same, by the document; all its filters. Condition: the functions' texts are these. -/
namespace Go.Kc
variable {P:Program} {f:Nat}
end Go.Kc
end
section
/- The plain law of lower: what its code makes is what the document says. No condition. -/
namespace Go.Kc
theorem QS{α:Type}(k:α->Int):∀{l m:List α},l.Pairwise (fun x y=>k x<k y)->m.Pairwise (fun x y=>k x<k y)->(∀x,x ∈ l↔x ∈ m)->l=m
 | [],[],_,_,_=>rfl
 | [],y::m,_,_,h=>by have:=(h y).2 (by simp);simp at this
 | x::l,[],_,_,h=>by have:=(h x).1 (by simp);simp at this
 | x::l,y::m,hl,hm,h=>by
  obtain⟨h1,h2⟩:=List.pairwise_cons.1 hl;obtain⟨h3,h4⟩:=List.pairwise_cons.1 hm
  have e:x=y:=by
   rcases List.mem_cons.1 ((h x).1 (by simp)) with e|e
   ·exact e
   ·rcases List.mem_cons.1 ((h y).2 (by simp)) with e'|e'
    ·exact e'.symm
    ·have:=h3 x e;have:=h1 y e';omega
  subst e
  congr 1
  refine QS k h2 h4 fun z=>?_
  constructor
  ·intro hz;rcases List.mem_cons.1 ((h z).1 (List.mem_cons_of_mem _ hz)) with e|e
   ·subst e;have:=h1 z hz;omega
   ·exact e
  ·intro hz;rcases List.mem_cons.1 ((h z).2 (List.mem_cons_of_mem _ hz)) with e|e
   ·subst e;have:=h3 z hz;omega
   ·exact e
theorem Qt{rs:List GRule}(hn:(rs.map GRule.nr).Nodup):(zQ rs).Pairwise (fun x y=>x.nr<y.nr):=by
 have h1:(zQ rs).Pairwise (fun x y=>decide (x.nr<=y.nr)=true):=List.pairwise_mergeSort (fun a b c h1 h2=>by simp at *;omega) (fun a b=>by simp;omega) rs
 have h2:((zQ rs).map GRule.nr).Nodup:=((List.mergeSort_perm rs _).map GRule.nr).nodup_iff.2 hn;have h3:(zQ rs).Pairwise (fun x y=>x.nr≠y.nr):=List.pairwise_map.1 h2
 refine (h1.and h3).imp ?_;intro a b ⟨h,h'⟩;simp at h;omega
theorem qbG{rs:List GRule}{r:GRule}:r ∈ zQ rs↔r ∈ rs:=(List.mergeSort_perm rs _).mem_iff
theorem qcS{c x:GCall}:∀{l:List GCall},x ∈ qb0 c l↔x=c∨x ∈ l
 | []=>by simp[qb0]
 | y::l=>by
  unfold qb0;split
  ·simp
  ·rw[List.mem_cons,qcS,List.mem_cons];constructor
   ·rintro (h|h|h)
    ·exact .inr (.inl h)
    ·exact .inl h
    ·exact .inr (.inr h)
   ·rintro (h|h|h)
    ·exact .inr (.inl h)
    ·exact .inl h
    ·exact .inr (.inr h)
theorem yd{a:Int}{c:GCall}:c ∈ xY a↔∃x ∈ qE,jy x a=some c.act∧x.1=c.name:=by
 unfold xY
 have h1:∀l:List GCall,c ∈ l.foldr qb0 []↔c ∈ l:=by
  intro l;induction l with
  | nil=>simp
  | cons y l ih=>rw[List.foldr_cons,qcS,ih,List.mem_cons]
 rw[h1,List.mem_filterMap];constructor
 ·rintro⟨x,hx,h⟩;cases hn:jy x a with
  | none=>rw[hn] at h;cases h
  | some n=>rw[hn] at h;cases h;exact⟨x,hx,hn,rfl⟩
 ·rintro⟨x,hx,h,h2⟩;refine⟨x,hx,?_⟩;rw[h];cases c;simp_all
theorem qfx:(qE.map (·.1)).Nodup:=by decide +kernel
theorem qbj{α:Type}(k:α->List UInt8){l:List α}(hn:(l.map k).Nodup){x:α}(hx:x ∈ l):l.find? (fun y=>decide (k y=k x))=some x:=by
 induction l with
 | nil=>simp at hx
 | cons y l ih =>
  rw[List.map_cons,List.nodup_cons] at hn;rw[List.find?_cons]
  by_cases h:k y=k x
  ·have e:y=x:=by
    rcases List.mem_cons.1 hx with e|e
    ·exact e.symm
    ·exact absurd (by rw[h];exact List.mem_map_of_mem (f:=k) e) hn.1
   subst e;simp
  ·rcases List.mem_cons.1 hx with e|e
   ·subst e;exact absurd rfl h
   ·simp[h];exact ih hn.2 e
theorem jp{a:Int}{c:GCall}:c ∈ xY a↔vq a c.name=some c.act:=by
 rw[yd];unfold vq;constructor
 ·rintro⟨x,hx,h,h2⟩;rw[← h2,qbj (·.1) qfx hx];exact h
 ·intro h;cases hf:qE.find? (fun x=>decide (x.1=c.name)) with
  | none=>rw[hf] at h;cases h
  | some x =>
   rw[hf] at h;exact⟨x,List.mem_of_find?_eq_some hf,h,by simpa using List.find?_some hf⟩
theorem QU{a:Int}(h0:0<=a)(h6:a<6):(xY a).Pairwise (fun x y=>x.act<y.act):=by
 have:a=0∨a=1∨a=2∨a=3∨a=4∨a=5:=by omega
 rcases this with rfl|rfl|rfl|rfl|rfl|rfl<;>decide +kernel
theorem qeh{a:Int}(h0:0<=a)(h6:a<6){s t:List UInt8}{n:Int}(h1:vq a s=some n)(h2:vq a t=some n):s=t:=by
 have hs:(⟨s,n⟩:GCall) ∈ xY a:=jp.2 h1;have ht:(⟨t,n⟩:GCall) ∈ xY a:=jp.2 h2;have hp:=QU h0 h6
 by_cases e:s=t
 ·exact e
 ·exfalso
  have:∀{l:List GCall},l.Pairwise (fun x y=>x.act<y.act)->(⟨s,n⟩:GCall) ∈ l->(⟨t,n⟩:GCall) ∈ l->False:=by
   intro l;induction l with
   | nil=>intro _ h;simp at h
   | cons x l ih =>
    intro hl h1 h2;obtain⟨k1,k2⟩:=List.pairwise_cons.1 hl;rcases List.mem_cons.1 h1 with e1|e1<;>rcases List.mem_cons.1 h2 with e2|e2
    ·rw[← e2] at e1;simp at e1;exact e e1
    ·subst e1;have:=k1 _ e2;simp at this
    ·subst e2;have:=k1 _ e1;simp at this
    ·exact ih k2 e1 e2
  exact this hp hs ht
def jT(a:Int)(g:List UInt8->List GTest×Int)(ns:List (List UInt8)):List GRule:=ns.filterMap fun s=>(vq a s).map fun n=>⟨n,(g s).1,(g s).2⟩
theorem qcI{a:Int}{g:List UInt8->List GTest×Int}{ns:List (List UInt8)}{r:GRule}:r ∈ jT a g ns↔∃s ∈ ns,vq a s=some r.nr∧r.tests=(g s).1∧r.act=(g s).2:=by
 unfold jT;rw[List.mem_filterMap];constructor
 ·rintro⟨s,hs,h⟩;cases hn:vq a s with
  | none=>rw[hn] at h;cases h
  | some n=>rw[hn] at h;cases h;exact⟨s,hs,hn,rfl,rfl⟩
 ·rintro⟨s,hs,h,h2,h3⟩;refine⟨s,hs,?_⟩;rw[h];cases r;simp_all
theorem qaF{a:Int}(h0:0<=a)(h6:a<6){g:List UInt8->List GTest×Int}{ns:List (List UInt8)}(hn:ns.Nodup):((jT a g ns).map GRule.nr).Nodup:=by
 induction ns with
 | nil=>exact List.nodup_nil
 | cons s ns ih =>
  obtain⟨h1,h2⟩:=List.nodup_cons.1 hn;unfold jT;rw[List.filterMap_cons];cases hs:vq a s with
  | none=>exact ih h2
  | some n =>
   simp only[Option.map_some,List.map_cons];refine List.nodup_cons.2 ⟨?_,ih h2⟩;intro hm;obtain⟨r,hr,e⟩:=List.mem_map.1 hm;obtain⟨t,ht,k1,_,_⟩:=qcI.1 hr;rw[e] at k1;exact h1 (qeh h0 h6 hs k1 ▸ ht)
theorem qgC{a:Int}{g:List UInt8->List GTest×Int}{ns:List (List UInt8)}:(jT a g ns).length<=ns.length:=List.length_filterMap_le _ _
theorem kJ{a:Int}{g:List UInt8->List GTest×Int}{ns ms:List (List UInt8)}:jT a g (ns++ms)=jT a g ns++jT a g ms:=List.filterMap_append
theorem xm{a act:Int}{ts:List GTest}{g:List UInt8->List GTest×Int}:∀{ns:List (List UInt8)},(∀s ∈ ns,g s=(ts,act))->qN a act ts ns=jT a g ns
 | [],_=>rfl
 | s::ns,h=>by
  have e:=xm (a:=a) (ns:=ns) fun t ht=>h t (List.mem_cons_of_mem _ ht)
  unfold qN jT at *;rw[List.filterMap_cons,List.filterMap_cons,e,h s (by simp)]
theorem kb{p:Pol}{d a:Int}(h0:0<=a)(h6:a<6){ns:List (List UInt8)}{g:List UInt8->List GTest×Int}(hn:ns.Nodup)(h1:∀s n,vq a s=some n->((xw p d s).1=true↔s ∈ ns))(h2:∀s ∈ ns,g s=(xw p d s).2):zQ (jT a g ns)=ruR p d (xY a):=by
 refine QS GRule.nr (Qt (qaF h0 h6 hn)) ?_ fun r=>?_
 ·unfold ruR;refine List.Pairwise.filterMap _ ?_ (QU h0 h6);intro c c' hlt x hx y hy;split at hx
  ·split at hy
   ·cases hx;cases hy;exact hlt
   ·cases hy
  ·cases hx
 ·rw[qbG,qcI];unfold ruR;rw[List.mem_filterMap];constructor
  ·rintro⟨s,hs,k1,k2,k3⟩;have k:=(h1 s _ k1).2 hs;refine⟨⟨s,r.nr⟩,jp.2 k1,?_⟩;rw[h2 s hs] at k2 k3;rw[if_pos k];cases r;simp_all
  ·rintro⟨c,hc,h⟩;have k1:=jp.1 hc;split at h
   ·rename_i k;cases h;have hs:=(h1 c.name _ k1).1 k;exact⟨c.name,hs,k1,by rw[h2 _ hs],by rw[h2 _ hs]⟩
   ·cases h
theorem vp{l:GList}(h:jY l=true):(l.calls.map (·.name)).Nodup:=by
 have h2:=((qaO l).1 h).2.2;exact List.pairwise_map.2 (List.Pairwise.imp (fun hab=>qma hab) h2)
theorem yR{p:Pol}(h:wK p=true):jY p.filter=true∧jY p.log=true:=by
 unfold wK jN at h;simp only[Bool.and_eq_true] at h;exact⟨h.2.1.1,h.2.1.2⟩
theorem qeV{l:List GCall}(hn:(l.map (·.name)).Nodup){c:GCall}(hc:c ∈ l):zJ l c.name=some c:=qbj GCall.name hn hc
theorem qbi{l:List GCall}{s:List UInt8}:(zJ l s).isSome=true↔s ∈ l.map (·.name):=by
 unfold zJ;rw[List.find?_isSome];simp only[decide_eq_true_eq,List.mem_map]
theorem qaA{a:Int}{g:List UInt8->List GTest×Int}{A:GCall->Int}:∀{l:List GCall},(∀c ∈ l,g c.name=([],A c))->(l.flatMap fun c=>qN a (A c) [] [c.name])=jT a g (l.map (·.name))
 | [],_=>rfl
 | c::l,h=>by
  have e:=qaA (a:=a) (A:=A) (l:=l) fun x hx=>h x (List.mem_cons_of_mem _ hx)
  rw[List.flatMap_cons,e,xm (g:=g) (by intro s hs;simp at hs;subst hs;exact h c (by simp)),← kJ]
  rfl
def qoB(p:Pol)(s:List UInt8):List GTest×Int:=([],qfH p s)
theorem qdY{p:Pol}{a:Int}(hm:jY p.filter=true):(qax p a).2.1=jT a (qoB p) (p.filter.calls.map (·.name)):=by
 refine qaA fun c hc=>?_
 have hf:=qeV (vp hm) hc;simp only[qoB,qfH,qa9,hf]
def qpF(p:Pol)(_:List UInt8):List GTest×Int:=([],if p.log.mode=2 then 2147418112 else 2147221504)
theorem qd9{p:Pol}{a:Int}:(qaL p a).2.1=jT a (qpF p) (p.log.calls.map (·.name)):=qaA (A:=fun _=>if p.log.mode=2 then 2147418112 else 2147221504) fun _ _=>rfl
def Qe(p:Pol)(d:Int)(s:List UInt8):List GTest×Int:=(xw p d s).2
theorem qdX{p:Pol}{a:Int}:(fmM p a).2.1=jT a (Qe p 3) [qZ]:=xm fun _ _=>rfl
def nsL:List (List UInt8):=[qQ,zt,qT,qY]
theorem qhb{p:Pol}{a:Int}:(nsM p a).2.1=jT a (Qe p 4) nsL:=by
 have h1:qN a 2147418112 (zf 0 327681 (zW p.spaces)) [qQ,zt]=jT a (Qe p 4) [qQ,zt]:=xm fun s hs=>by
  simp only[List.mem_cons,List.not_mem_nil,or_false] at hs;rcases hs with rfl|rfl<;>simp (decide:=true) [Qe,xw,qQ,zt,qY,qT]
 have h2:qN a 2147418112 (zf 1 327681 (zW p.spaces)++qH 1 4294967295 327681 [0]) [qT]=jT a (Qe p 4) [qT]:=xm fun s hs=>by
  simp only[List.mem_cons,List.not_mem_nil,or_false] at hs;subst hs;simp (decide:=true) [Qe,xw,qY,qT,qH]
 have h3:qN a 327718 [] [qY]=jT a (Qe p 4) [qY]:=xm fun s hs=>by
  simp only[List.mem_cons,List.not_mem_nil,or_false] at hs;subst hs;simp (decide:=true) [Qe,xw]
 show _++_++_=_;rw[h1,h2,h3,← kJ,← kJ];rfl
def weL:List (List UInt8):=[zV,qK,qq,zj]
theorem qhU{p:Pol}{a:Int}:(weM p a).2.1=jT a (Qe p 5) weL:=by
 have h1:qN a 2147418112 (zf 2 327681 [6]) [zV]=jT a (Qe p 5) [zV]:=xm fun s hs=>by
  simp only[List.mem_cons,List.not_mem_nil,or_false] at hs;subst hs;rfl
 have h2:qN a 2147418112 (zf 2 327681 [4]) [qK,qq]=jT a (Qe p 5) [qK,qq]:=xm fun s hs=>by
  simp only[List.mem_cons,List.not_mem_nil,or_false] at hs;rcases hs with rfl|rfl<;>rfl
 have h3:qN a 2147418112 (zf 2 327681 [32768]) [zj]=jT a (Qe p 5) [zj]:=xm fun s hs=>by
  simp only[List.mem_cons,List.not_mem_nil,or_false] at hs;subst hs;rfl
 show _++_++_=_;rw[h1,h2,h3,← kJ,← kJ];rfl
theorem qhu{p:Pol}{a:Int}:(peM p a).2.1=jT a (Qe p 6) [qC]:=xm fun _ _=>rfl
theorem qhF{p:Pol}{a:Int}:(rtM p a).2.1=jT a (Qe p 7) [xr]:=xm fun _ _=>rfl
theorem qpo:∀d F,wQ d=some F->qhZ F:=by
 intro d F h p a hp hmay h0 h6;obtain⟨hf,hl⟩:=yR hmay
 have k:∀{g:List UInt8->List GTest×Int} {ns:List (List UInt8)} {rs:List GRule},rs=jT a g ns->ns.Nodup->ns.length<=1000->rs.length<=100000∧(rs.map GRule.nr).Nodup:=by
  rintro g ns rs rfl hn hle;exact⟨by have:=qgC (a:=a) (g:=g) (ns:=ns);omega,qaF h0 h6 hn⟩
 unfold wQ at h;split at h
 ·cases h;exact k (qdY hf) (vp hf) (by rw[List.length_map];exact hp.c)
 split at h
 ·cases h;exact k qd9 (vp hl) (by rw[List.length_map];exact hp.l)
 split at h
 ·cases h;exact k qdX (by decide) (by decide)
 split at h
 ·cases h;exact k qhb (by decide) (by decide)
 split at h
 ·cases h;exact k qhU (by decide) (by decide)
 split at h
 ·cases h;exact k qhu (by decide) (by decide)
 split at h
 ·cases h;exact k qhF (by decide) (by decide)
 ·cases h
end Go.Kc
end
section
/- The plain law of lower: its filters are the document's. No condition. -/
namespace Go.Kc
theorem qno(s:List UInt8):(0<xR s)↔s ∈ weL:=by
 unfold xR weL
 by_cases h1:s=zV
 ·simp[h1]
 by_cases h2:s=qK
 ·subst h2;decide
 by_cases h3:s=qq
 ·subst h3;decide
 by_cases h4:s=zj
 ·simp only[if_neg h1,if_neg (not_or.2 ⟨h2,h3⟩),if_pos h4];simp[h4]
 ·simp[h1,h2,h3,h4]
theorem wF{p:Pol}{d a:Int}{F:Pol->Int->Bool×List GRule×Int}(hF:wQ d=some F)(hd:0<=d∧d<8)(h1:jE p d=(F p a).1)
  (h2:wE p d a=true->(F p a).1=true->zQ (F p a).2.1=ruR p d (xY a)∧(F p a).2.2=dfR p d):yY p d a=QI p d a:=by
 have e:wE p d a=(decide (0<=a)&&decide (a<6)&&wK p&&inA p.arches a):=by
  unfold wE;simp[hd.1,hd.2]
 unfold yY QI;rw[hF];cases hk:wE p d a with
 | false =>
  rw[e] at hk;rw[if_neg (by rw[hk];simp),if_neg (by decide)]
 | true =>
  have hk':=hk;rw[e] at hk';rw[if_pos rfl];simp only[Option.bind_some];cases ha:(F p a).1 with
  | false=>rw[if_neg (by rw[h1,ha];simp),if_neg (by decide)]
  | true =>
   obtain⟨k1,k2⟩:=h2 hk ha;rw[if_pos (by rw[h1,ha,hk'];rfl),if_pos rfl,k1,k2]
theorem xO{p:Pol}{d a:Int}(h:wE p d a=true):0<=a∧a<6∧wK p=true:=by
 unfold wE at h;simp only[Bool.and_eq_true,decide_eq_true_eq] at h;exact⟨h.1.1.2.1,h.1.1.2.2,h.1.2⟩
theorem qdC(p:Pol)(d a:Int):yY p d a=QI p d a:=by
 by_cases d1:d=1
 ·subst d1;refine wF (F:=qax) rfl (by decide) rfl fun hk _=>?_
  obtain⟨h0,h6,hm⟩:=xO hk;have hf:=(yR hm).1;refine⟨?_,?_⟩
  ·rw[qdY hf];refine kb h0 h6 (vp hf) (fun s n _=>?_) fun s _=>?_
   ·show (zJ p.filter.calls s).isSome=true↔_;exact qbi
   ·rfl
  ·show (if p.filter.mode=1 then p.deny else 2147418112)=_
   simp[dfR]
 by_cases d2:d=2
 ·subst d2;refine wF (F:=qaL) rfl (by decide) rfl fun hk hact=>?_
  obtain⟨h0,h6,hm⟩:=xO hk;have hl:=(yR hm).2
  have hmode:p.log.mode=1∨p.log.mode=2:=by
   have hact:qS p.log.mode p.log.calls.length false true=true:=hact;unfold qS at hact;split at hact
   ·exact .inl (by assumption)
   ·split at hact
    ·exact .inr (by assumption)
    ·cases hact
  refine⟨?_,?_⟩
  ·rw[qd9];refine kb h0 h6 (vp hl) (fun s n _=>?_) fun s _=>?_
   ·show (zJ p.log.calls s).isSome=true↔_;exact qbi
   ·show ([],_)=([],if p.log.mode=1 then (2147221504:Int) else 2147418112)
    rcases hmode with h|h<;>simp[h]
  ·show (if p.log.mode=2 then 2147221504 else 2147418112)=_
   simp[dfR]
 by_cases d3:d=3
 ·subst d3;refine wF (F:=fmM) rfl (by decide) rfl fun hk _=>?_
  obtain⟨h0,h6,hm⟩:=xO hk;refine⟨?_,by simp[dfR,fmM]⟩
  rw[qdX];refine kb h0 h6 (by decide) (fun s n _=>?_) fun s _=>rfl
  show decide (s=qZ)=true↔_;simp
 by_cases d4:d=4
 ·subst d4;refine wF (F:=nsM) rfl (by decide) rfl fun hk _=>?_
  obtain⟨h0,h6,hm⟩:=xO hk;refine⟨?_,by simp[dfR,nsM]⟩
  rw[qhb];refine kb h0 h6 (by decide) (fun s n _=>?_) fun s _=>rfl
  show (if s=qY then ((true,[],327718):Bool×List GTest×Int) else (decide (s=qT)||decide (s=qQ)||decide (s=zt),_,_)).1=true↔_
  unfold nsL
  by_cases k:s=qY
  ·simp[k]
  ·rw[if_neg k];simp only[Bool.or_eq_true,decide_eq_true_eq,List.mem_cons,List.not_mem_nil,or_false];constructor
   ·rintro ((h|h)|h)
    ·exact .inr (.inr (.inl h))
    ·exact .inl h
    ·exact .inr (.inl h)
   ·rintro (h|h|h|h)
    ·exact .inl (.inr h)
    ·exact .inr h
    ·exact .inl (.inl h)
    ·exact absurd h k
 by_cases d5:d=5
 ·subst d5;refine wF (F:=weM) rfl (by decide) rfl fun hk _=>?_
  obtain⟨h0,h6,hm⟩:=xO hk;refine⟨?_,by simp[dfR,weM]⟩
  rw[qhU];refine kb h0 h6 (by decide) (fun s n _=>?_) fun s _=>rfl
  show decide (0<xR s)=true↔_;rw[decide_eq_true_eq];exact qno s
 by_cases d6:d=6
 ·subst d6;refine wF (F:=peM) rfl (by decide) rfl fun hk _=>?_
  obtain⟨h0,h6,hm⟩:=xO hk;refine⟨?_,by simp[dfR,peM]⟩
  rw[qhu];refine kb h0 h6 (by decide) (fun s n _=>?_) fun s _=>rfl
  show decide (s=qC)=true↔_;simp
 by_cases d7:d=7
 ·subst d7;refine wF (F:=rtM) rfl (by decide) rfl fun hk _=>?_
  obtain⟨h0,h6,hm⟩:=xO hk;refine⟨?_,by simp[dfR,rtM]⟩
  rw[qhF];refine kb h0 h6 (by decide) (fun s n _=>?_) fun s _=>rfl
  show decide (s=xr)=true↔_;simp
 have e1:jE p d=false:=by simp[jE,d1,d2,d3,d4,d5,d6,d7]
 have e2:wQ d=none:=by simp[wQ,d1,d2,d3,d4,d5,d6,d7]
 unfold yY QI;rw[e1,e2,Bool.and_false,if_neg (by decide)];split<;>rfl
theorem qkq.low{P:Program}{f:Nat}(h:qkq P f):qis P f:=fun p hp hR d a=>by rw[← qdC];exact h p hp hR d a
end Go.Kc
end
section
/- LowerAll: what the law answers. Condition: the functions' texts are these. -/
namespace Go.Kc
variable {P:Program} {f:Nat}
theorem qdw(s:Int):(zW s).length<=8:=Nat.le_trans (List.length_filter_le _ _) (by decide)
theorem qhC{p:Pol}(hp:PolOk p)(d:Int)(s:List UInt8):(xw p d s).2.1.length<=1000:=by
 have hf:=hp.f;have h8:=qdw p.spaces;unfold xw;split
 ·simp
 split
 ·simp
 split
 ·simp[qH];exact hf
 split
 ·split
  ·simp
  ·simp only[zf,List.length_append,List.length_map];split<;>simp<;>omega
 split
 ·simp
 split
 ·simp[qH]
 ·simp[qH]
theorem qjl{p:Pol}(hp:PolOk p){d a:Int}{x:GFil}(h:QI p d a=some x):x.rules.length<=40∧∀r ∈ x.rules,r.tests.length<=1000:=by
 rw[← qdC] at h;unfold yY at h;split at h
 ·cases h;refine⟨Nat.le_trans (List.length_filterMap_le _ _) (qcj a),fun r hr=>?_⟩
  obtain⟨c,_,hc⟩:=List.mem_filterMap.1 hr;split at hc
  ·cases hc;exact qhC hp d c.name
  ·cases hc
 ·cases h
def qoj:Asg:=⟨[],0,[],[],[]⟩
end Go.Kc
end
section
/- Actions that are known, rules and filters that may be, a call's name by its number. Condition: the functions' texts are these. -/
namespace Go.Kc
variable {P:Program} {f:Nat}
end Go.Kc
end
section
/- Rules and filters that may be; a call's name by its number. Condition: the functions' texts are these. -/
namespace Go.Kc
variable {P:Program} {f:Nat}
def zG:IFn:=⟨[.tmp 4],.seq (.r [.m 4 (.k 0)]) (.seq (.seq (.r [.n 6 0,.e 7 6,.m 8 (.k 0)]) (.blk 0 (.loop (.seq (.r [.s 9 8 7]) (.seq (.cond (.t 9) (.skip) (.exit 0)) (.seq (.blk 1 (.seq (.r [.n 10 8,.n 5 10]) (.seq (.r [.n 11 1,.n 12 0,.n 13 5,.i 14 4 12 13,.v 15 4 14,⟨(some 16),.callV (.t 11) [.t 15],none⟩]) (.cond (.t 16) (.seq (.r [.n 17 5,.n 4 17]) (.ret)) (.skip))))) (.r [.a 18 8 1,.n 8 18]))))))) (.seq (.r [.q 4 (.mov (.c (.i .i64 (-1))))]) (.ret)))⟩
theorem qd7(hc:qt P f zG=true):ww 4 P f:=by
 intro α enc p g a c l hlen ha hc' hl hp;refine qb.mk hc (by simp[qx,clo,ha,hc']) ?_;simp only[zG,vI,simprocAttr];simp only[↓vS,vT,simprocAttr];refine SL.loop (α:=Nat) (fun j=>[(0,.fz l.length (l.flatMap enc)),(1,.fn g a c),(7,.i .i64 l.length),(8,.i .i64 j)]) (fun _=>[]) (fun j=>j<=l.length∧xH p l 0=xH p (l.drop j) j) (fun j=>l.length-j) 0 [] ?_ ?_ ?_ rfl ?_ ?_
 ·simp[vw,ql,ha,hc']
 ·trivial
 ·simp
 ·simp
 rintro j ⟨hj,hI⟩ G ih;simp only[vI,simprocAttr]
 by_cases hlt:j<l.length
 ·have hx:l[j]?=some l[j]:=List.getElem?_eq_getElem hlt;have hw:IntKind.wrap .i64 ((j:Int)+1)=(j:Int)+1:=zg (by omega) (by have:=hl;simp only[qg] at this;omega)
  have he:=xj hlen hx;have hb:j*4+4<=(l.flatMap enc).length:=by rw[z2 hlen];omega
  rw[List.drop_eq_getElem_cons hlt,xH] at hI;simp only[↓vS,vT,simprocAttr,hlt,hb,he,hw];refine (hp l[j] (List.getElem_mem hlt)).sc ?_
  by_cases hpx:p l[j]=true
  ·rw[if_pos hpx] at hI;simp only[↓vS,vT,simprocAttr,hpx,vZ,hI]
  ·rw[if_neg hpx] at hI;simp only[↓vS,vT,simprocAttr,hpx,hw];refine ih (j+1) ⟨by omega,hI⟩ (by omega) _ _ (Wk.mk _ _ [] ?_ ?_ ?_ rfl)
   ·simp[vw,ql,ha,hc']
   ·trivial
   ·simp
 ·simp only[↓vS,vT,simprocAttr,hlt];rw[List.drop_eq_nil_of_le (by omega)] at hI;simp[hI,xH,vZ]
def zF:IFn:=⟨[.tmp 4],.seq (.r [.m 4 (.k 0)]) (.seq (.seq (.r [.n 6 0,.e 7 6,.m 8 (.k 0)]) (.blk 0 (.loop (.seq (.r [.s 9 8 7]) (.seq (.cond (.t 9) (.skip) (.exit 0)) (.seq (.blk 1 (.seq (.r [.n 10 8,.n 5 10]) (.seq (.r [.n 11 1,.n 12 0,.n 13 5,.i 14 3 12 13,.v 15 3 14,⟨(some 16),.callV (.t 11) [.t 15],none⟩]) (.cond (.t 16) (.seq (.r [.n 17 5,.n 4 17]) (.ret)) (.skip))))) (.r [.a 18 8 1,.n 8 18]))))))) (.seq (.r [.q 4 (.mov (.c (.i .i64 (-1))))]) (.ret)))⟩
theorem qd6(hc:qt P f zF=true):ww 3 P f:=by
 intro α enc p g a c l hlen ha hc' hl hp;refine qb.mk hc (by simp[qx,clo,ha,hc']) ?_;simp only[zF,vI,simprocAttr];simp only[↓vS,vT,simprocAttr];refine SL.loop (α:=Nat) (fun j=>[(0,.fz l.length (l.flatMap enc)),(1,.fn g a c),(7,.i .i64 l.length),(8,.i .i64 j)]) (fun _=>[]) (fun j=>j<=l.length∧xH p l 0=xH p (l.drop j) j) (fun j=>l.length-j) 0 [] ?_ ?_ ?_ rfl ?_ ?_
 ·simp[vw,ql,ha,hc']
 ·trivial
 ·simp
 ·simp
 rintro j ⟨hj,hI⟩ G ih;simp only[vI,simprocAttr]
 by_cases hlt:j<l.length
 ·have hx:l[j]?=some l[j]:=List.getElem?_eq_getElem hlt;have hw:IntKind.wrap .i64 ((j:Int)+1)=(j:Int)+1:=zg (by omega) (by have:=hl;simp only[qg] at this;omega)
  have he:=xj hlen hx;have hb:j*3+3<=(l.flatMap enc).length:=by rw[z2 hlen];omega
  rw[List.drop_eq_getElem_cons hlt,xH] at hI;simp only[↓vS,vT,simprocAttr,hlt,hb,he,hw];refine (hp l[j] (List.getElem_mem hlt)).sc ?_
  by_cases hpx:p l[j]=true
  ·rw[if_pos hpx] at hI;simp only[↓vS,vT,simprocAttr,hpx,vZ,hI]
  ·rw[if_neg hpx] at hI;simp only[↓vS,vT,simprocAttr,hpx,hw];refine ih (j+1) ⟨by omega,hI⟩ (by omega) _ _ (Wk.mk _ _ [] ?_ ?_ ?_ rfl)
   ·simp[vw,ql,ha,hc']
   ·trivial
   ·simp
 ·simp only[↓vS,vT,simprocAttr,hlt];rw[List.drop_eq_nil_of_le (by omega)] at hI;simp[hI,xH,vZ]
def qdi(p:GTest->Bool)(l:List GTest):AV:=match l.find? p with|some t=>.tup [.agg (jq t),.b true]|none=>.tup [.agg [.i .i64 0,.i .u64 0,.i .u64 0,.i .u32 0],.b false]
def jW(a:Nat):IFn:=⟨[.cell 4 4 true,.tmp 5],.seq (.r [.q 4 (.alloc [.i .i64 0,.i .u64 0,.i .u64 0,.i .u32 0]),.m 5 .F]) (.seq (.seq (.r [.n 8 0,.n 9 1,.l 10 a [.t 8,.t 9],.n 6 10]) (.seq (.r [.n 11 6,.w 12 .geq 11 0]) (.cond (.t 12) (.seq (.r [.n 13 0,.n 14 6,.i 15 4 13 14,.v 16 4 15,.u (.store 4 (.t 4) (.t 16)),.m 5 .T]) (.ret)) (.skip)))) (.seq (.r [.q 7 (.alloc [.i .i64 0,.i .u64 0,.i .u64 0,.i .u32 0])]) (.seq (.r [.v 17 4 7,.u (.store 4 (.t 4) (.t 17)),.m 5 .F]) (.ret))))⟩
theorem qlI{g:Nat}(hc:qt P f (jW g)=true)(h2:ww 4 P g)(l:List GTest)(k:Nat)(a c:List AV)(p:GTest->Bool)(ha:qx a=true)(hcc:qx c=true)(hk:∀t ∈ l,qb P k (a++([.agg (jq t)]++c)) (.b (p t)))(hl:l.length<=100000):qb P f [.fz l.length (rT l),.fn k a c] (qdi p l):=by
 refine qb.mk hc (by simp[qx,clo,xf,ha,hcc]) ?_;simp only[jW,vI,simprocAttr];simp only[↓vS,vT,simprocAttr];refine (h2 jq p k a c l Qz ha hcc (by simp only[qg];omega) hk).sc ?_;rcases vk p l 0 with⟨e1,e2⟩|⟨i,x,e1,e2,e3,e4,e5⟩
 ·rw[e1];simp only[↓vS,vT,simprocAttr];simp[vZ,qdi,e2]
 ·have hi:i<l.length:=(List.getElem?_eq_some_iff.1 e2).1;have hn:(0:Int)<=(i:Int):=by omega
  have he:=qjV e2;have hb:=qhA hi;rw[e1,Nat.zero_add];simp only[↓vS,vT,simprocAttr,hn,hi,he,hb,jq];simp[vZ,qdi,e4,jq]
def zd(a n:Int):List UInt8:=match qE.find? (fun x=>decide (jy x a=some n)) with|some x=>x.1|none=>[]
def ko(a:Nat):IFn:=⟨[.tmp 4],.seq (.r [.q 3 (.box (.t 0)),.m 4 .F]) (.seq (.r [.v 8 7 3,.d 9 1,.l 10 a [.t 8,.t 9],.n 7 10,.x 11 7 0,.x 12 7 1,.n 5 11,.n 6 12]) (.seq (.r [.n 13 6,.n 14 13,.y 15 5 14,.j 16 2 14 true,.g 17 (.bin .eql (.t 15) (.t 16)) 14 true,.p 18 14 17,.n 4 18]) (.ret)))⟩
theorem qpn{g:Nat}(hc:qt P f (ko g)=true)(hg:∀x a,qb P g [.agg (xy x),.i .i64 a] (match jy x a with|some n=>.tup [.i .u32 n,.b true]|none=>.tup [.i .u32 0,.b false]))(a n:Int)(x:List UInt8×List Int):qb P f [.agg (xy x),.pf [.i .i64 a] 0,.pf [.i .u32 n] 0] (.b (decide (jy x a=some n))):=by
 refine qb.mk hc (by simp[qx,clo,xy]) ?_;simp only[ko,xy,vI,simprocAttr];simp only[↓vS,vT,simprocAttr];refine (hg x a).sc ?_;cases hq:jy x a with
 | none =>
  simp only[↓vS,vT,simprocAttr];simp[vZ]
 | some m =>
  by_cases k:m=n <;>
  ·simp only[↓vS,vT,simprocAttr,k];simp[vZ,k]
def yC(a b:Nat):IFn:=⟨[.tmp 4],.seq (.r [.q 2 (.box (.t 0)),.q 3 (.box (.t 1)),.m 4 (.c (.s []))]) (.seq (.r [.q 8 (.mkF a [] [.t 2,.t 3]),.l 9 b [.t 8],.n 7 9,.x 10 7 0,.x 11 7 1,.q 5 (.alloc [.s [],.i .i64 0,.i .i64 0,.i .i64 0,.i .i64 0,.i .i64 0,.i .i64 0]),.u (.store 7 (.t 5) (.t 10)),.n 6 11]) (.seq (.r [.f 12 0 5,.d 13 12,.n 4 13]) (.ret)))⟩
theorem qqf{g1 g2:Nat}(hc:qt P f (yC g1 g2)=true)(h1:∀a n x,qb P g1 [.agg (xy x),.pf [.i .i64 a] 0,.pf [.i .u32 n] 0] (.b (decide (jy x a=some n))))
  (h2:∀(p:List UInt8×List Int->Bool) (g:Nat) (a c:List AV),qx a=true->qx c=true->(∀x ∈ qE,qb P g (a++([.agg (xy x)]++c)) (.b (p x)))->qb P g2 [.fn g a c] (Zh p)) (a n:Int):qb P f [.i .i64 a,.i .u32 n] (.s (zd a n)):=by
 refine qb.mk hc rfl ?_;simp only[yC,vI,simprocAttr];simp only[↓vS,vT,simprocAttr];refine (h2 (fun x=>decide (jy x a=some n)) g1 [] [.pf [.i .i64 a] 0,.pf [.i .u32 n] 0] rfl rfl (fun x _=>h1 a n x)).lend (vs':=[.fn g1 [] [.pf [.i .i64 a] 0,.pf [.i .u32 n] 0]]) ?_ ?_ ?_
 ·simp[vZ,vP,Tr.get_set]
 ·unfold Zh;split<;>rfl
 unfold Zh zd;cases hf:qE.find? (fun x=>decide (jy x a=some n)) with
 | none =>
  simp only[↓vS,vT,simprocAttr];simp[vZ]
 | some x =>
  simp only[xy,↓vS,vT,simprocAttr];simp[vZ]
end Go.Kc
end
section
/- Filters that may be; LowerMay: what the law answers. Condition: the functions' texts are these. -/
namespace Go.Kc
variable {P:Program} {f:Nat}
end Go.Kc
end
section
/- The plain law of LowerMay: lower's filters may be, their numbers have names. No condition. -/
namespace Go.Kc
end Go.Kc
end
section
/- LowerMay: what the law answers. Condition: the functions' texts are these. -/
namespace Go.Kc
variable {P:Program} {f:Nat}
theorem qdx{p:Pol}{a:Asg}(h:xE p a=false):PolOk p∧p.fams.length<=20:=⟨(qcK h).2.2.1,(qcK h).2.1⟩
end Go.Kc
end
section
/- What a filter says of data. Condition: the functions' texts are these. -/
namespace Go.Kc
variable {P:Program} {f:Nat}
structure GData where
 nr:Int
 arch:Int
 ip:Int
 a0:Int
 a1:Int
 a2:Int
 a3:Int
 a4:Int
 a5:Int
def qI(d:GData):List AV:=[.i .u32 d.nr,.i .u32 d.arch,.i .u64 d.ip,.i .u64 d.a0,.i .u64 d.a1,.i .u64 d.a2,.i .u64 d.a3,.i .u64 d.a4,.i .u64 d.a5]
def qfQ(d:GData)(k:Int):Int:=if k=0 then d.a0 else if k=1 then d.a1 else if k=2 then d.a2 else if k=3 then d.a3 else if k=4 then d.a4 else d.a5
def qdj(p:GRule->Bool)(l:List GRule):AV:=match l.find? p with|some r=>.tup [.agg (x5 r),.b true]|none=>.tup [.agg [.i .u32 0,.nils,.i .u32 0],.b false]
def jV(a:Nat):IFn:=⟨[.cell 4 3 true,.tmp 5],.seq (.r [.q 4 (.alloc [.i .u32 0,.nils,.i .u32 0]),.m 5 .F]) (.seq (.seq (.r [.n 8 0,.n 9 1,.l 10 a [.t 8,.t 9],.n 6 10]) (.seq (.r [.n 11 6,.w 12 .geq 11 0]) (.cond (.t 12) (.seq (.r [.n 13 0,.n 14 6,.i 15 3 13 14,.v 16 3 15,.u (.store 3 (.t 4) (.t 16)),.m 5 .T]) (.ret)) (.skip)))) (.seq (.r [.q 7 (.alloc [.i .u32 0,.nils,.i .u32 0])]) (.seq (.r [.v 17 3 7,.u (.store 3 (.t 4) (.t 17)),.m 5 .F]) (.ret))))⟩
theorem qlH{g:Nat}(hc:qt P f (jV g)=true)(h2:ww 3 P g)(l:List GRule)(k:Nat)(a c:List AV)(p:GRule->Bool)(ha:qx a=true)(hcc:qx c=true)(hk:∀t ∈ l,qb P k (a++([.agg (x5 t)]++c)) (.b (p t)))(hl:l.length<=100000):qb P f [.fz l.length (rR l),.fn k a c] (qdj p l):=by
 refine qb.mk hc (by simp[qx,clo,qi,ha,hcc]) ?_;simp only[jV,vI,simprocAttr];simp only[↓vS,vT,simprocAttr];refine (h2 x5 p k a c l yf ha hcc (by simp only[qg];omega) hk).sc ?_;rcases vk p l 0 with⟨e1,e2⟩|⟨i,x,e1,e2,e3,e4,e5⟩
 ·rw[e1];simp only[↓vS,vT,simprocAttr];simp[vZ,qdj,e2]
 ·have hi:i<l.length:=(List.getElem?_eq_some_iff.1 e2).1;have hn:(0:Int)<=(i:Int):=by omega
  have he:=qjU e2;have hb:=qhy hi;rw[e1,Nat.zero_add];simp only[↓vS,vT,simprocAttr,hn,hi,he,hb,x5];simp[vZ,qdj,e4,x5,qbl xf]
def Qg:IFn:=⟨[.tmp 3],.seq (.r [.q 2 (.box (.t 0)),.m 3 .F]) (.seq (.r [.f 4 1 2,.d 5 4,.d 6 1,.b 7 .eql 5 6,.n 3 7]) (.ret))⟩
theorem qqk(hc:qt P f Qg=true)(t:Int)(x:List UInt8×Int):qb P f [.agg (xd .u32 x),.pf [.i .u32 t] 0] (.b (decide (x.2=t))):=by
 refine qb.mk hc (by simp[qx,clo,xd]) ?_;simp only[Qg,xd,vI,simprocAttr];simp only[↓vS,vT,simprocAttr,vZ]
def ofM(t n:Int):Int×Bool :=
 if xH (fun x=>decide (x.2=t)) zc 0<0 then (0,false)
 else if xH (fun x=>decide (x.2=t)) zc 0=0∧zZ .u32 n 1073741824≠0 then (2,true)
 else (xH (fun x=>decide (x.2=t)) zc 0,true)
def qaI(a b:Nat):IFn:=⟨[.tmp 4,.tmp 5],.seq (.r [.q 2 (.box (.t 0)),.m 4 (.k 0),.m 5 .F]) (.seq (.r [.q 7 (.mkF a [] [.t 2]),.l 8 b [.t 7],.n 6 8]) (.seq (.blk 0 (.seq (.r [.n 10 6,.w 11 .lss 10 0,.n 9 11]) (.cond (.t 9) (.seq (.r [.m 4 (.k 0),.m 5 .F]) (.ret)) (.seq (.r [.n 13 6,.w 14 .eql 13 0,.n 15 14,.y 16 1 15,.g 17 (.bin .and (.t 16) (.c (.i .u32 1073741824))) 15 true,.g 18 (.bin .neq (.t 17) (.c (.i .u32 0))) 15 true,.p 19 15 18,.n 12 19]) (.cond (.t 12) (.seq (.r [.m 4 (.k 2),.m 5 .T]) (.ret)) (.skip)))))) (.seq (.r [.n 20 6,.n 4 20,.m 5 .T]) (.ret))))⟩
theorem qpq{g1 g2:Nat}(hc:qt P f (qaI g1 g2)=true)(h1:∀t x,qb P g1 [.agg (xd .u32 x),.pf [.i .u32 t] 0] (.b (decide (x.2=t))))(h2:qbf P g2)(t n:Int):qb P f [.i .u32 t,.i .u32 n] (.tup [.i .i64 (ofM t n).1,.b (ofM t n).2]):=by
 refine qb.mk hc (by simp[qx,clo]) ?_;simp only[qaI,vI,simprocAttr];simp only[↓vS,vT,simprocAttr];refine (h2 (fun x=>decide (x.2=t)) g1 [] [.pf [.i .u32 t] 0] rfl rfl (fun x _=>h1 t x)).lend (vs':=[.fn g1 [] [.pf [.i .u32 t] 0]]) ?_ rfl ?_
 ·simp[vZ,vP,Tr.get_set]
 unfold ofM;generalize xH (fun x:List UInt8×Int=>decide (x.2=t)) zc 0=i
 by_cases h0:i<0
 ·simp only[↓vS,vT,simprocAttr,h0,if_true];simp[vZ]
 by_cases h1':i=0
 ·by_cases h2':zZ .u32 n 1073741824=0
  ·simp (decide:=true) only [↓vS,vT,simprocAttr,h0,h1',h2'];simp[vZ]
  ·simp (decide:=true) only [↓vS,vT,simprocAttr,h0,h1',h2'];simp[vZ,h2']
 ·simp (decide:=true) only [↓vS,vT,simprocAttr,h0,h1'];simp[vZ]
def qhO(a:Int):Int:=(zc.getD a.toNat ([],0)).2
def yA(a:Nat):IFn:=⟨[.tmp 2,.tmp 3],.seq (.r [.m 2 (.c (.i .u32 0)),.m 3 (.k 0)]) (.seq (.seq (.r [.n 4 0,.w 5 .lss 4 0,.n 6 5,.z 7 0 6,.g 8 (.bin .geq (.t 7) (.k 6)) 6 false,.o 9 6 8]) (.cond (.t 9) (.seq (.r [.m 2 (.c (.i .u32 0)),.m 3 (.k 80)]) (.ret)) (.skip))) (.seq (.r [.l 10 a [],.n 11 0,.q 12 (.idxA 6 2 true (.t 10) (.t 11)),.q 13 (.fld 1 none (.t 12)),.n 2 13,.m 3 (.k 0)]) (.ret)))⟩
theorem qni{g:Nat}(hc:qt P f (yA g)=true)(hg:qb P g [] (.agg (zc.flatMap (xd .u32))))(a:Int)(h0:0<=a)(h6:a<6):qb P f [.i .i64 a] (.tup [.i .u32 (qhO a),.i .i64 0]):=by
 refine qb.mk hc rfl ?_;simp only[yA,vI,simprocAttr];have n1:¬a<0:=by omega
 have n2:¬6<=a:=by omega
 simp only[↓vS,vT,simprocAttr,n1,n2];refine hg.sc ?_;have h3:a=0∨a=1∨a=2∨a=3∨a=4∨a=5:=by omega
 rcases h3 with rfl|rfl|rfl|rfl|rfl|rfl <;>
 ·simp only[↓vS,vT,simprocAttr,zc,xd,List.flatMap_cons,List.flatMap_nil];simp[vZ,qhO,zc]
def zI(t:GTest)(d:GData):Bool:=decide (0<=t.arg)&&decide (t.arg<6)&&decide (zZ .u64 (qfQ d t.arg) t.mask=t.val)
def Q1:IFn:=⟨[.tmp 4],.seq (.r [.q 2 (.box (.t 0)),.q 3 (.box (.t 1)),.m 4 .F]) (.seq (.reg true [.f 5 0 2,.d 6 5,.w 7 .geq 6 0,.n 8 7,.h 9 0 2 8 true,.j 10 9 8 true,.g 11 (.bin .lss (.t 10) (.k 6)) 8 true,.p 12 8 11,.n 13 12,.h 14 0 2 13 true,.j 15 14 13 true,.h 16 3 3 13 true,.g 17 (.iAddrA 6 1 (.t 16) (.t 15)) 13 true,.j 18 17 13 true,.h 19 1 2 13 true,.j 20 19 13 true,.g 21 (.bin .and (.t 18) (.t 20)) 13 true,.h 22 2 2 13 true,.j 23 22 13 true,.g 24 (.bin .eql (.t 21) (.t 23)) 13 true,.p 25 13 24,.n 4 25]) (.ret))⟩
theorem qlU(hc:qt P f Q1=true)(t:GTest)(d:GData):qb P f [.agg (jq t),.agg (qI d)] (.b (zI t d)):=by
 refine qb.mk hc rfl ?_;simp only[Q1,jq,qI,vI,simprocAttr]
 by_cases h0:0<=t.arg
 ·by_cases h6:t.arg<6
  ·have h3:t.arg=0∨t.arg=1∨t.arg=2∨t.arg=3∨t.arg=4∨t.arg=5:=by omega
   rcases h3 with e|e|e|e|e|e <;>
   ·simp (decide:=true) only [↓vS,vT,simprocAttr,e];refine kC ?_;simp (decide:=true) only [↓vS,vT,simprocAttr,e];simp[vZ,zI,qfQ,e]
  ·simp only[↓vS,vT,simprocAttr,h0,h6];refine kC ?_;simp only[↓vS,vT,simprocAttr,h0,h6];simp[vZ,zI,h6]
 ·simp only[↓vS,vT,simprocAttr,h0];refine kC ?_;simp only[↓vS,vT,simprocAttr,h0];simp[vZ,zI,h0]
def kN:IFn:=⟨[.tmp 3],.seq (.r [.q 2 (.box (.t 0)),.m 3 .F]) (.seq (.r [.f 4 0 2,.d 5 4,.f 6 0 1,.d 7 6,.b 8 .eql 5 7,.n 3 8]) (.ret))⟩
theorem qop(hc:qt P f kN=true)(d:GData)(r:GRule):qb P f [.agg (x5 r),.pf (qI d) 0] (.b (decide (r.nr=d.nr))):=by
 refine qb.mk hc (by simp[qx,clo,x5,qI]) ?_;simp only[kN,x5,qI,vI,simprocAttr];simp only[↓vS,vT,simprocAttr,vZ]
def kO(a:Nat):IFn:=⟨[.tmp 3],.seq (.r [.q 2 (.box (.t 0)),.m 3 .F]) (.seq (.r [.v 4 4 2,.v 5 9 1,.l 6 a [.t 4,.t 5],.n 3 6]) (.ret))⟩
theorem qoq{g:Nat}(hc:qt P f (kO g)=true)(hg:∀t d,qb P g [.agg (jq t),.agg (qI d)] (.b (zI t d)))(d:GData)(t:GTest):qb P f [.agg (jq t),.pf (qI d) 0] (.b (zI t d)):=by
 refine qb.mk hc (by simp[qx,clo,jq,qI]) ?_;have:=hg t d;simp only[kO,jq,qI,vI,simprocAttr] at this ⊢;simp (decide:=true) only [↓vS,vT,simprocAttr];refine this.sc ?_;simp only[↓vS,vT,simprocAttr,vZ]
def qdu(x:GFil)(d:GData):Int :=
 if (ofM d.arch d.nr).2=false∨(ofM d.arch d.nr).1≠x.arch then 2147418112
 else match x.rules.find? (fun r=>decide (r.nr=d.nr)) with
  | none=>x.dflt
  | some r=>match r.tests.find? (fun t=>zI t d) with
   | some t=>t.act
   | none=>r.act
def wa(a b c d e:Nat):ICode:=.seq (.r [.f 28 1 2,.d 29 28,.q 30 (.mkF b [] [.t 3]),.l 31 c [.t 29,.t 30],.n 27 31,.x 32 27 0,.x 33 27 1,.q 7 (.alloc [.i .u32 0,.nils,.i .u32 0]),.u (.store 3 (.t 7) (.t 32)),.n 8 33]) (.seq (.seq (.r [.n 34 8,.q 35 (.un .not (.t 34))]) (.cond (.t 35) (.seq (.r [.f 36 2 2,.d 37 36,.n 4 37]) (.ret)) (.skip))) (.seq (.seq (.r [.f 39 1 7,.d 40 39,.q 41 (.mkF d [] [.t 3]),.l 42 e [.t 40,.t 41],.n 38 42,.x 43 38 0,.x 44 38 1,.q 9 (.alloc [.i .i64 0,.i .u64 0,.i .u64 0,.i .u32 0]),.u (.store 4 (.t 9) (.t 43)),.n 10 44]) (.seq (.r [.n 45 10]) (.cond (.t 45) (.seq (.r [.f 46 3 9,.d 47 46,.n 4 47]) (.ret)) (.skip)))) (.seq (.r [.f 48 2 7,.d 49 48,.n 4 49]) (.ret))))
def Qk(a b c d e:Nat):IFn:=⟨[.tmp 4],.seq (.r [.q 2 (.box (.t 0)),.q 3 (.box (.t 1)),.m 4 (.c (.i .u32 0))]) (.seq (.seq (.r [.f 12 1 3,.d 13 12,.f 14 0 3,.d 15 14,.l 16 a [.t 13,.t 15],.n 11 16,.x 17 11 0,.x 18 11 1,.n 5 17,.n 6 18]) (.seq (.r [.n 19 6,.q 20 (.un .not (.t 19)),.n 21 20,.z 22 5 21,.h 23 0 2 21 false,.j 24 23 21 false,.g 25 (.bin .neq (.t 22) (.t 24)) 21 false,.o 26 21 25]) (.cond (.t 26) (.seq (.r [.m 4 (.c (.i .u32 2147418112))]) (.ret)) (.skip)))) (.cut (wa a b c d e)))⟩
section
variable {g1 g2 g3 g4 g5:Nat}
theorem qeO(h2:∀d r,qb P g2 [.agg (x5 r),.pf (qI d) 0] (.b (decide (r.nr=d.nr))))
  (h3:∀(l:List GRule) (k:Nat) (a c:List AV) (p:GRule->Bool),qx a=true->qx c=true->(∀t ∈ l,qb P k (a++([.agg (x5 t)]++c)) (.b (p t)))->l.length<=100000->qb P g3 [.fz l.length (rR l),.fn k a c] (qdj p l))
  (h4:∀d t,qb P g4 [.agg (jq t),.pf (qI d) 0] (.b (zI t d)))
  (h5:∀(l:List GTest) (k:Nat) (a c:List AV) (p:GTest->Bool),qx a=true->qx c=true->(∀t ∈ l,qb P k (a++([.agg (jq t)]++c)) (.b (p t)))->l.length<=100000->qb P g5 [.fz l.length (rT l),.fn k a c] (qdi p l))
  (x:GFil) (d:GData) (hr:x.rules.length<=100000) (ht:∀r ∈ x.rules,r.tests.length<=100000) {t':Tr AV} {h':Hp} (hw:Wk 0 t' h' (mkT [(2,.ptr 0 0),(3,.pf (qI d) 0)]) (mkH 0 [.cells 0 true false (y5 x)])) :
  S P 0 (wa g1 g2 g3 g4 g5) (jJ [.tmp 4] fun v' h'=>Frz h' v' (.i .u32 (match x.rules.find? (fun r=>decide (r.nr=d.nr)) with
   | none=>x.dflt
   | some r=>match r.tests.find? (fun t=>zI t d) with
    | some t=>t.act
    | none=>r.act))) t' h':=by
 refine S.weak hw (qP ?_);have hcd:qx [AV.pf (qI d) 0]=true:=by simp[qx,clo,qI]
 have a3:=h3 x.rules g2 [] [.pf (qI d) 0] (fun r=>decide (r.nr=d.nr)) rfl hcd (fun r _=>h2 d r) hr
 simp only[wa,y5,vI,simprocAttr];simp only[↓vS,vT,simprocAttr];refine a3.sc ?_;cases hf:x.rules.find? (fun r=>decide (r.nr=d.nr)) with
 | none =>
  simp (decide:=true) only [↓vS,vT,simprocAttr,qdj,hf];simp[vZ]
 | some r =>
  have hm:r ∈ x.rules:=List.mem_of_find?_eq_some hf;have a5:=h5 r.tests g4 [] [.pf (qI d) 0] (fun t=>zI t d) rfl hcd (fun t _=>h4 d t) (ht r hm)
  simp (decide:=true) only [↓vS,vT,simprocAttr,qdj,hf,x5];refine a5.sc ?_;cases hg:r.tests.find? (fun t=>zI t d) with
  | none =>
   simp (decide:=true) only [↓vS,vT,simprocAttr,qdi,hg];simp[vZ,hg]
  | some t =>
   simp (decide:=true) only [↓vS,vT,simprocAttr,qdi,hg,jq];simp[vZ,hg]
theorem qkt(hc:qt P f (Qk g1 g2 g3 g4 g5)=true)(h1:∀t n,qb P g1 [.i .u32 t,.i .u32 n] (.tup [.i .i64 (ofM t n).1,.b (ofM t n).2]))
  (h2:∀d r,qb P g2 [.agg (x5 r),.pf (qI d) 0] (.b (decide (r.nr=d.nr))))
  (h3:∀(l:List GRule) (k:Nat) (a c:List AV) (p:GRule->Bool),qx a=true->qx c=true->(∀t ∈ l,qb P k (a++([.agg (x5 t)]++c)) (.b (p t)))->l.length<=100000->qb P g3 [.fz l.length (rR l),.fn k a c] (qdj p l))
  (h4:∀d t,qb P g4 [.agg (jq t),.pf (qI d) 0] (.b (zI t d)))
  (h5:∀(l:List GTest) (k:Nat) (a c:List AV) (p:GTest->Bool),qx a=true->qx c=true->(∀t ∈ l,qb P k (a++([.agg (jq t)]++c)) (.b (p t)))->l.length<=100000->qb P g5 [.fz l.length (rT l),.fn k a c] (qdi p l))
  (x:GFil) (d:GData) (hr:x.rules.length<=100000) (ht:∀r ∈ x.rules,r.tests.length<=100000):qb P f [.agg (y5 x),.agg (qI d)] (.i .u32 (qdu x d)):=by
 refine qb.mk hc rfl ?_;simp only[Qk,y5,qI,vI,simprocAttr];simp only[↓vS,vT,simprocAttr];refine (h1 d.arch d.nr).sc ?_;unfold qdu;cases ho:(ofM d.arch d.nr).2 with
 | false =>
  simp (decide:=true) only [↓vS,vT,simprocAttr,ho];simp[vZ]
 | true =>
  by_cases ha:(ofM d.arch d.nr).1=x.arch
  ·simp (decide:=true) only [↓vS,vT,simprocAttr,ho,ha];rw[if_neg (by simp[ha])];refine S.weak (Wk.mk [(2,.ptr 0 0),(3,.ptr 1 0)] [.cells 0 true false (y5 x),.cells 0 true false (qI d)] [0,1] ?_ ?_ ?_ rfl) ?_
   ·simp[vw]
   ·simp[vw,y5,qI,ql,qi]
    try exact ha
   ·simp
   refine S.weak (Wk.freeze 1 1 0 rfl (by simp[qx,clo,qI]) (Nat.zero_le _) (by simp)) ?_;refine qeO h2 h3 h4 h5 x d hr ht (Wk.mk _ _ [0] ?_ ?_ ?_ rfl)
   ·simp[vw,mkT,fzv,kA,qI]
   ·simp[vw,mkH,trL,fzB,kA,fzv,y5,ql,qi]
   ·simp[mkH]
  ·simp (decide:=true) only [↓vS,vT,simprocAttr,ho,ha];simp[vZ,ha]
end
end Go.Kc
end
section
/- What the law's table says of data. Condition: the functions' texts are these. -/
namespace Go.Kc
variable {P:Program} {f:Nat}
def qbz(p:Pol)(s:List UInt8):Int :=
 if p.filter.mode=1∧(zJ p.filter.calls s).isSome=true∧qa9 p.filter.calls s=0 then 2147418112
 else if (p.filter.mode=1∧(zJ p.filter.calls s).isSome=false)∨(p.filter.mode=2∧(zJ p.filter.calls s).isSome=true∧qa9 p.filter.calls s=0) then p.deny
 else if (zJ p.filter.calls s).isSome=true then qa9 p.filter.calls s else 2147418112
def qbA(p:Pol)(s:List UInt8):Int :=
 if (p.log.mode=1∧(zJ p.log.calls s).isSome=true)∨(p.log.mode=2∧(zJ p.log.calls s).isSome=false) then 2147221504 else 2147418112
def qbB(p:Pol)(s:List UInt8)(x:GData):Int :=
 if s=qZ∧((p.fmode=1∧¬IntKind.wrap .u32 x.a0 ∈ p.fams)∨(p.fmode=2∧IntKind.wrap .u32 x.a0 ∈ p.fams)) then 327777 else 2147418112
def qbC(p:Pol)(s:List UInt8)(x:GData):Int :=
 if p.spaces=0 then 2147418112 else if s=qY then 327718
 else if ((s=qQ∨s=zt)∧zZ .u64 x.a0 p.spaces≠0)∨(s=qT∧(zZ .u64 x.a1 p.spaces≠0∨IntKind.wrap .u32 x.a1=0)) then 327681 else 2147418112
def qbD(p:Pol)(s:List UInt8)(x:GData):Int :=
 if p.we=true∧((s=zV∧zZ .u64 x.a2 6=6)∨((s=qK∨s=qq)∧zZ .u64 x.a2 4≠0)∨(s=zj∧zZ .u64 x.a2 32768≠0)) then 327681 else 2147418112
def qbE(p:Pol)(s:List UInt8)(x:GData):Int :=
 if p.pe=true∧s=qC∧IntKind.wrap .u32 x.a0≠0∧IntKind.wrap .u32 x.a0≠4294967295 then 327681 else 2147418112
def qbF(p:Pol)(s:List UInt8)(x:GData):Int :=
 if p.rt=true∧s=xr∧IntKind.wrap .u32 x.a1≠0∧IntKind.wrap .u32 x.a1≠3∧IntKind.wrap .u32 x.a1≠5 then 327681 else 2147418112
def qo(a b:Nat):IFn:=⟨[.tmp 8],.seq (.r [.q 4 (.box (.t 0)),.q 7 (.box (.t 3)),.m 8 (.c (.i .u32 0))]) (.seq (.r [.n 17 2,.f 18 0 7,.d 19 18,.l 20 a [.t 17,.t 19],.n 9 20]) (.seq (.seq (.r [.n 21 1]) (.blk 0 (.seq (.r [.w 23 .eql 21 1,.n 22 23]) (.cond (.t 22) (.seq (.r [.f 25 1 4,.v 26 2 25,.n 27 9,.l 28 b [.t 26,.t 27],.n 24 28,.x 29 24 0,.x 30 24 1,.n 10 29,.n 11 30]) (.blk 1 (.seq (.r [.f 32 1 4,.f 33 0 32,.d 34 33,.q 35 (.bin .eql (.t 34) (.c (.i .u8 1))),.n 36 35,.y 37 11 36,.p 38 36 37,.n 39 38,.y 40 10 39,.g 41 (.bin .eql (.t 40) (.c (.i .u32 0))) 39 true,.p 42 39 41,.n 31 42]) (.cond (.t 31) (.seq (.r [.m 8 (.c (.i .u32 2147418112))]) (.ret)) (.seq (.seq (.r [.f 44 1 4,.f 45 0 44,.d 46 45,.q 47 (.bin .eql (.t 46) (.c (.i .u8 1))),.n 48 47,.y 49 11 48,.g 50 (.un .not (.t 49)) 48 true,.p 51 48 50,.n 43 51]) (.cond (.t 43) (.skip) (.r [.f 52 1 4,.f 53 0 52,.d 54 53,.q 55 (.bin .eql (.t 54) (.c (.i .u8 2))),.n 56 55,.y 57 11 56,.p 58 56 57,.n 59 58,.y 60 10 59,.g 61 (.bin .eql (.t 60) (.c (.i .u32 0))) 59 true,.p 62 59 61,.n 43 62]))) (.cond (.t 43) (.seq (.r [.f 63 3 4,.d 64 63,.n 8 64]) (.ret)) (.seq (.r [.n 66 11,.n 65 66]) (.cond (.t 65) (.seq (.r [.n 67 10,.n 8 67]) (.ret)) (.skip))))))))) (.seq (.r [.w 69 .eql 21 2,.n 68 69]) (.cond (.t 68) (.seq (.r [.f 71 4 4,.v 72 2 71,.n 73 9,.l 74 b [.t 72,.t 73],.n 70 74,.x 75 70 0,.x 76 70 1,.n 12 75,.n 13 76]) (.seq (.r [.f 77 4 4,.f 78 0 77,.d 79 78,.q 80 (.bin .eql (.t 79) (.c (.i .u8 1))),.n 81 80,.y 82 13 81,.p 83 81 82,.n 84 83,.h 85 4 4 84 false,.h 86 0 85 84 false,.j 87 86 84 false,.g 88 (.bin .eql (.t 87) (.c (.i .u8 2))) 84 false,.z 89 88 84,.y 90 13 89,.g 91 (.un .not (.t 90)) 89 true,.g 92 (.pick (.t 89) (.t 91) .F) 84 false,.o 93 84 92]) (.cond (.t 93) (.seq (.r [.m 8 (.c (.i .u32 2147221504))]) (.ret)) (.skip)))) (.seq (.r [.w 95 .eql 21 3,.n 94 95]) (.cond (.t 94) (.seq (.r [.m 14 .F]) (.seq (.seq (.r [.m 15 (.k 0)]) (.blk 2 (.loop (.seq (.seq (.r [.n 96 15,.f 97 6 4,.d 98 97,.e 99 98,.s 100 96 99]) (.cond (.t 100) (.skip) (.exit 2))) (.seq (.blk 3 (.reg true [.n 103 14,.n 104 103,.h 105 3 7 104 false,.g 106 (.iAddrA 6 1 (.t 105) (.k 0)) 104 false,.j 107 106 104 false,.g 108 (.cvInt .u32 (.t 107)) 104 false,.h 109 6 4 104 false,.j 110 109 104 false,.z 111 15 104,.g 112 (.iAddrS 1 (.t 110) (.t 111)) 104 false,.j 113 112 104 false,.g 114 (.bin .eql (.t 108) (.t 113)) 104 false,.o 115 104 114,.n 14 115])) (.r [.n 101 15,.a 102 101 1,.n 15 102])))))) (.seq (.r [.n 116 9,.q 117 (.bin .eql (.t 116) (.c (.s [115,111,99,107,101,116]))),.n 118 117,.h 119 7 4 118 true,.j 120 119 118 true,.g 121 (.bin .eql (.t 120) (.c (.i .u8 1))) 118 true,.y 122 121 118,.y 123 14 122,.g 124 (.un .not (.t 123)) 122 true,.g 125 (.pick (.t 122) (.t 124) .F) 118 true,.y 126 125 118,.h 127 7 4 126 false,.j 128 127 126 false,.g 129 (.bin .eql (.t 128) (.c (.i .u8 2))) 126 false,.z 130 129 126,.y 131 14 130,.g 132 (.pick (.t 130) (.t 131) .F) 126 false,.g 133 (.pick (.t 126) .T (.t 132)) 118 true,.p 134 118 133]) (.cond (.t 134) (.seq (.r [.m 8 (.c (.i .u32 327777))]) (.ret)) (.skip))))) (.seq (.r [.w 136 .eql 21 4,.n 135 136]) (.cond (.t 135) (.seq (.seq (.r [.f 137 8 4,.d 138 137,.q 139 (.bin .eql (.t 138) (.c (.i .u64 0)))]) (.cond (.t 139) (.seq (.r [.m 8 (.c (.i .u32 2147418112))]) (.ret)) (.skip))) (.seq (.seq (.r [.n 140 9,.q 141 (.bin .eql (.t 140) (.c (.s [99,108,111,110,101,51])))]) (.cond (.t 141) (.seq (.r [.m 8 (.c (.i .u32 327718))]) (.ret)) (.skip))) (.seq (.r [.n 142 9,.q 143 (.bin .eql (.t 142) (.c (.s [117,110,115,104,97,114,101]))),.n 144 143,.z 145 9 144,.g 146 (.bin .eql (.t 145) (.c (.s [99,108,111,110,101]))) 144 false,.o 147 144 146,.n 148 147,.h 149 3 7 148 true,.g 150 (.iAddrA 6 1 (.t 149) (.k 0)) 148 true,.j 151 150 148 true,.h 152 8 4 148 true,.j 153 152 148 true,.g 154 (.bin .and (.t 151) (.t 153)) 148 true,.g 155 (.bin .neq (.t 154) (.c (.i .u64 0))) 148 true,.p 156 148 155,.n 157 156,.z 158 9 157,.g 159 (.bin .eql (.t 158) (.c (.s [115,101,116,110,115]))) 157 false,.z 160 159 157,.h 161 3 7 160 true,.g 162 (.iAddrA 6 1 (.t 161) (.k 1)) 160 true,.j 163 162 160 true,.h 164 8 4 160 true,.j 165 164 160 true,.g 166 (.bin .and (.t 163) (.t 165)) 160 true,.g 167 (.bin .neq (.t 166) (.c (.i .u64 0))) 160 true,.y 168 167 160,.h 169 3 7 168 false,.g 170 (.iAddrA 6 1 (.t 169) (.k 1)) 168 false,.j 171 170 168 false,.g 172 (.cvInt .u32 (.t 171)) 168 false,.g 173 (.bin .eql (.t 172) (.c (.i .u32 0))) 168 false,.g 174 (.pick (.t 168) .T (.t 173)) 160 true,.g 175 (.pick (.t 160) (.t 174) .F) 157 false,.o 176 157 175]) (.cond (.t 176) (.seq (.r [.m 8 (.c (.i .u32 327681))]) (.ret)) (.skip))))) (.seq (.r [.w 178 .eql 21 5,.n 177 178]) (.cond (.t 177) (.seq (.r [.f 179 9 4,.d 180 179,.n 181 180,.y 182 9 181,.g 183 (.bin .eql (.t 182) (.c (.s [109,109,97,112]))) 181 true,.y 184 183 181,.h 185 3 7 184 true,.g 186 (.iAddrA 6 1 (.t 185) (.k 2)) 184 true,.j 187 186 184 true,.g 188 (.bin .and (.t 187) (.c (.i .u64 6))) 184 true,.g 189 (.bin .eql (.t 188) (.c (.i .u64 6))) 184 true,.g 190 (.pick (.t 184) (.t 189) .F) 181 true,.y 191 190 181,.z 192 9 191,.g 193 (.bin .eql (.t 192) (.c (.s [109,112,114,111,116,101,99,116]))) 191 false,.z 194 193 191,.z 195 9 194,.g 196 (.bin .eql (.t 195) (.c (.s [112,107,101,121,95,109,112,114,111,116,101,99,116]))) 194 false,.g 197 (.pick (.t 194) .T (.t 196)) 191 false,.z 198 197 191,.h 199 3 7 198 true,.g 200 (.iAddrA 6 1 (.t 199) (.k 2)) 198 true,.j 201 200 198 true,.g 202 (.bin .and (.t 201) (.c (.i .u64 4))) 198 true,.g 203 (.bin .neq (.t 202) (.c (.i .u64 0))) 198 true,.g 204 (.pick (.t 198) (.t 203) .F) 191 false,.g 205 (.pick (.t 191) .T (.t 204)) 181 true,.y 206 205 181,.z 207 9 206,.g 208 (.bin .eql (.t 207) (.c (.s [115,104,109,97,116]))) 206 false,.z 209 208 206,.h 210 3 7 209 true,.g 211 (.iAddrA 6 1 (.t 210) (.k 2)) 209 true,.j 212 211 209 true,.g 213 (.bin .and (.t 212) (.c (.i .u64 32768))) 209 true,.g 214 (.bin .neq (.t 213) (.c (.i .u64 0))) 209 true,.g 215 (.pick (.t 209) (.t 214) .F) 206 false,.g 216 (.pick (.t 206) .T (.t 215)) 181 true,.p 217 181 216]) (.cond (.t 217) (.seq (.r [.m 8 (.c (.i .u32 327681))]) (.ret)) (.skip))) (.seq (.r [.w 219 .eql 21 6,.n 218 219]) (.cond (.t 218) (.seq (.r [.f 220 10 4,.d 221 220,.n 222 221,.y 223 9 222,.g 224 (.bin .eql (.t 223) (.c (.s [112,101,114,115,111,110,97,108,105,116,121]))) 222 true,.p 225 222 224,.n 226 225,.h 227 3 7 226 true,.g 228 (.iAddrA 6 1 (.t 227) (.k 0)) 226 true,.j 229 228 226 true,.g 230 (.cvInt .u32 (.t 229)) 226 true,.g 231 (.bin .neq (.t 230) (.c (.i .u32 0))) 226 true,.p 232 226 231,.n 233 232,.h 234 3 7 233 true,.g 235 (.iAddrA 6 1 (.t 234) (.k 0)) 233 true,.j 236 235 233 true,.g 237 (.cvInt .u32 (.t 236)) 233 true,.g 238 (.bin .neq (.t 237) (.c (.i .u32 4294967295))) 233 true,.p 239 233 238]) (.cond (.t 239) (.seq (.r [.m 8 (.c (.i .u32 327681))]) (.ret)) (.skip))) (.seq (.r [.w 241 .eql 21 7,.n 240 241]) (.cond (.t 240) (.seq (.r [.f 242 3 7,.q 243 (.iAddrA 6 1 (.t 242) (.k 1)),.d 244 243,.q 245 (.cvInt .u32 (.t 244)),.n 16 245]) (.seq (.r [.f 246 11 4,.d 247 246,.n 248 247,.y 249 9 248,.g 250 (.bin .eql (.t 249) (.c (.s [115,99,104,101,100,95,115,101,116,115,99,104,101,100,117,108,101,114]))) 248 true,.p 251 248 250,.n 252 251,.y 253 16 252,.g 254 (.bin .neq (.t 253) (.c (.i .u32 0))) 252 true,.p 255 252 254,.n 256 255,.y 257 16 256,.g 258 (.bin .neq (.t 257) (.c (.i .u32 3))) 256 true,.p 259 256 258,.n 260 259,.y 261 16 260,.g 262 (.bin .neq (.t 261) (.c (.i .u32 5))) 260 true,.p 263 260 262]) (.cond (.t 263) (.seq (.r [.m 8 (.c (.i .u32 327681))]) (.ret)) (.skip)))) (.skip))))))))))))))))) (.seq (.r [.m 8 (.c (.i .u32 2147418112))]) (.ret))))⟩
section
variable {g1 g2:Nat}
theorem qj3(hc:qt P f (qo g1 g2)=true)(h1:∀a n,qb P g1 [.i .i64 a,.i .u32 n] (.s (zd a n)))(h2:qaq P g2)(p:Pol)(hp:PolOk p)(a:Int)(x:GData):qb P f [.agg (qr p),.i .i64 2,.i .i64 a,.agg (qI x)] (.i .u32 (qbA p (zd a x.nr))):=by
 have hl:=hp.l;refine qb.mk hc rfl ?_;simp only[qo,qr,qI,vI,simprocAttr];simp (decide:=true) only [↓vS,vT,simprocAttr];refine (h1 a x.nr).sc ?_;generalize zd a x.nr=s;simp (decide:=true) only [↓vS,vT,simprocAttr];refine (h2.act p.log s (by omega)).sc ?_;unfold qbA;cases (zJ p.log.calls s).isSome<;>by_cases m1:p.log.mode=1<;>by_cases m2:p.log.mode=2 <;>
 ·simp (decide:=true) only [↓vS,vT,simprocAttr,m1,m2];simp[vZ,m1,m2]
theorem qj2(hc:qt P f (qo g1 g2)=true)(h1:∀a n,qb P g1 [.i .i64 a,.i .u32 n] (.s (zd a n)))(h2:qaq P g2)(p:Pol)(hp:PolOk p)(a:Int)(x:GData):qb P f [.agg (qr p),.i .i64 1,.i .i64 a,.agg (qI x)] (.i .u32 (qbz p (zd a x.nr))):=by
 have hl:=hp.c;refine qb.mk hc rfl ?_;simp only[qo,qr,qI,vI,simprocAttr];simp (decide:=true) only [↓vS,vT,simprocAttr];refine (h1 a x.nr).sc ?_;generalize zd a x.nr=s;simp (decide:=true) only [↓vS,vT,simprocAttr];refine (h2.act p.filter s (by omega)).sc ?_;unfold qbz;generalize qa9 p.filter.calls s=y;cases (zJ p.filter.calls s).isSome<;>by_cases m1:p.filter.mode=1<;>by_cases m2:p.filter.mode=2<;>by_cases y0:y=0 <;>
 ·simp (decide:=true) only [↓vS,vT,simprocAttr,m1,m2,y0];simp[vZ,m1,m2,y0]
theorem qj7(hc:qt P f (qo g1 g2)=true)(h1:∀a n,qb P g1 [.i .i64 a,.i .u32 n] (.s (zd a n)))(p:Pol)(a:Int)(x:GData):qb P f [.agg (qr p),.i .i64 6,.i .i64 a,.agg (qI x)] (.i .u32 (qbE p (zd a x.nr) x)):=by
 refine qb.mk hc rfl ?_;simp only[qo,qr,qI,vI,simprocAttr];simp (decide:=true) only [↓vS,vT,simprocAttr];refine (h1 a x.nr).sc ?_;generalize zd a x.nr=s;unfold qbE;simp only[qC]
 by_cases hs:s=[112,101,114,115,111,110,97,108,105,116,121]
 ·by_cases w0:IntKind.wrap .u32 x.a0=0<;>by_cases w1:IntKind.wrap .u32 x.a0=4294967295<;>cases hpe:p.pe <;>
  ·simp (decide:=true) only [↓vS,vT,simprocAttr,hs,hpe,w0,w1];simp[vZ,hs,w0,w1]
 ·cases hpe:p.pe <;>
  ·simp (decide:=true) only [↓vS,vT,simprocAttr,hs,hpe];simp[vZ,hs]
theorem qj8(hc:qt P f (qo g1 g2)=true)(h1:∀a n,qb P g1 [.i .i64 a,.i .u32 n] (.s (zd a n)))(p:Pol)(a:Int)(x:GData):qb P f [.agg (qr p),.i .i64 7,.i .i64 a,.agg (qI x)] (.i .u32 (qbF p (zd a x.nr) x)):=by
 refine qb.mk hc rfl ?_;simp only[qo,qr,qI,vI,simprocAttr];simp (decide:=true) only [↓vS,vT,simprocAttr];refine (h1 a x.nr).sc ?_;generalize zd a x.nr=s;unfold qbF;simp only[xr]
 by_cases hs:s=[115,99,104,101,100,95,115,101,116,115,99,104,101,100,117,108,101,114]
 ·by_cases w0:IntKind.wrap .u32 x.a1=0<;>by_cases w1:IntKind.wrap .u32 x.a1=3<;>by_cases w2:IntKind.wrap .u32 x.a1=5<;>cases hpe:p.rt <;>
  ·simp (decide:=true) only [↓vS,vT,simprocAttr,hs,hpe,w0,w1,w2];simp[vZ,hs,w0,w1,w2]
 ·cases hpe:p.rt <;>
  ·simp (decide:=true) only [↓vS,vT,simprocAttr,hs,hpe];simp[vZ,hs]
set_option maxRecDepth 8000 in
theorem qj6(hc:qt P f (qo g1 g2)=true)(h1:∀a n,qb P g1 [.i .i64 a,.i .u32 n] (.s (zd a n)))(p:Pol)(a:Int)(x:GData):qb P f [.agg (qr p),.i .i64 5,.i .i64 a,.agg (qI x)] (.i .u32 (qbD p (zd a x.nr) x)):=by
 refine qb.mk hc rfl ?_;simp only[qo,qr,qI,vI,simprocAttr];simp (decide:=true) only [↓vS,vT,simprocAttr];refine (h1 a x.nr).sc ?_;generalize zd a x.nr=s;unfold qbD;simp only[zV,qK,qq,zj]
 by_cases k1:s=[109,109,97,112]
 ·by_cases w:zZ .u64 x.a2 6=6<;>cases hw:p.we <;>
  ·simp (decide:=true) only [↓vS,vT,simprocAttr,hw,k1,w];simp[vZ,k1,w]
 by_cases k2:s=[109,112,114,111,116,101,99,116]
 ·by_cases w:zZ .u64 x.a2 4=0<;>cases hw:p.we <;>
  ·simp (decide:=true) only [↓vS,vT,simprocAttr,hw,k1,k2,w];simp[vZ,k1,k2,w]
 by_cases k3:s=[112,107,101,121,95,109,112,114,111,116,101,99,116]
 ·by_cases w:zZ .u64 x.a2 4=0<;>cases hw:p.we <;>
  ·simp (decide:=true) only [↓vS,vT,simprocAttr,hw,k1,k2,k3,w];simp[vZ,k1,k2,k3,w]
 by_cases k4:s=[115,104,109,97,116]
 ·by_cases w:zZ .u64 x.a2 32768=0<;>cases hw:p.we <;>
  ·simp (decide:=true) only [↓vS,vT,simprocAttr,hw,k1,k2,k3,k4,w];simp[vZ,k1,k2,k3,k4,w]
 ·cases hw:p.we <;>
  ·simp (decide:=true) only [↓vS,vT,simprocAttr,hw,k1,k2,k3,k4];simp[vZ,k1,k2,k3,k4]
set_option maxRecDepth 8000 in
theorem qj5(hc:qt P f (qo g1 g2)=true)(h1:∀a n,qb P g1 [.i .i64 a,.i .u32 n] (.s (zd a n)))(p:Pol)(a:Int)(x:GData):qb P f [.agg (qr p),.i .i64 4,.i .i64 a,.agg (qI x)] (.i .u32 (qbC p (zd a x.nr) x)):=by
 refine qb.mk hc rfl ?_;simp only[qo,qr,qI,vI,simprocAttr];simp (decide:=true) only [↓vS,vT,simprocAttr];refine (h1 a x.nr).sc ?_;generalize zd a x.nr=s;unfold qbC;simp only[qY,qQ,zt,qT]
 by_cases k0:p.spaces=0
 ·simp (decide:=true) only [↓vS,vT,simprocAttr,k0];simp[vZ,k0]
 by_cases k1:s=[99,108,111,110,101,51]
 ·simp (decide:=true) only [↓vS,vT,simprocAttr,k0,k1];simp[vZ,k0,k1]
 by_cases k2:s=[117,110,115,104,97,114,101]
 ·by_cases w:zZ .u64 x.a0 p.spaces=0 <;>
  ·simp (decide:=true) only [↓vS,vT,simprocAttr,k0,k1,k2,w];simp[vZ,k0,k1,k2,w]
 by_cases k3:s=[99,108,111,110,101]
 ·by_cases w:zZ .u64 x.a0 p.spaces=0 <;>
  ·simp (decide:=true) only [↓vS,vT,simprocAttr,k0,k1,k2,k3,w];simp[vZ,k0,k1,k2,k3,w]
 by_cases k4:s=[115,101,116,110,115]
 ·by_cases w:zZ .u64 x.a1 p.spaces=0<;>by_cases w1:IntKind.wrap .u32 x.a1=0 <;>
  ·simp (decide:=true) only [↓vS,vT,simprocAttr,k0,k1,k2,k3,k4,w,w1];simp[vZ,k0,k1,k2,k3,k4,w,w1]
 ·simp (decide:=true) only [↓vS,vT,simprocAttr,k0,k1,k2,k3,k4];simp[vZ,k0,k1,k2,k3,k4]
set_option maxRecDepth 8000 in
theorem qj4(hc:qt P f (qo g1 g2)=true)(h1:∀a n,qb P g1 [.i .i64 a,.i .u32 n] (.s (zd a n)))(p:Pol)(hp:PolOk p)(a:Int)(x:GData):qb P f [.agg (qr p),.i .i64 3,.i .i64 a,.agg (qI x)] (.i .u32 (qbB p (zd a x.nr) x)):=by
 have hl:=hp.f;refine qb.mk hc rfl ?_;simp only[qo,qr,qI,vI,simprocAttr];simp (decide:=true) only [↓vS,vT,simprocAttr];refine (h1 a x.nr).sc ?_;generalize zd a x.nr=s;generalize hw0:IntKind.wrap .u32 x.a0=w;simp (decide:=true) only [↓vS,vT,simprocAttr]
 refine SL.loop (α:=Nat) (fun j=>[(4,.ptr 0 0),(7,.ptr 1 0),(9,.s s),(14,.b (decide (w ∈ p.fams.take j))),(15,.i .i64 j)])
  (fun _=>[.cells 0 true false (qr p),.cells 0 true false (qI x)]) (fun j=>j<=p.fams.length) (fun j=>p.fams.length-j) 0 [0,1] ?_ ?_ ?_ rfl ?_ ?_
 ·simp[vw]
 ·simp[vw,qr,qI,ql,qc,qe]
 ·simp
 ·exact Nat.zero_le _
 rintro j hj G ih;simp only[vI,simprocAttr,qr,qI]
 by_cases hlt:j<p.fams.length
 ·have hx:p.fams[j]?=some p.fams[j]:=List.getElem?_eq_getElem hlt;have hwj:IntKind.wrap .i64 ((j:Int)+1)=((j+1:Nat):Int):=by rw[zg (by omega) (by omega)];omega
  have ht:(decide (w ∈ p.fams.take (j+1)))=(decide (w ∈ p.fams.take j)||decide (w=p.fams[j])):=by
   have ht0:p.fams.take (j+1)=p.fams.take j++[p.fams[j]]:=by rw[List.take_add_one,hx];rfl
   rw[ht0,Bool.eq_iff_iff];simp only[decide_eq_true_eq,Bool.or_eq_true,List.mem_append,List.mem_singleton]
  have ih2:=ih (j+1);rw[ht] at ih2;generalize p.fams[j]=y at hx ih2;generalize decide (w ∈ p.fams.take j)=b at ih2 ⊢;simp (decide:=true) only [↓vS,vT,simprocAttr,hlt];refine kC ?_;cases b with
  | true =>
   simp (decide:=true) only [↓vS,vT,simprocAttr,hlt,hwj];refine ih2 (by omega) (by omega) _ _ (Wk.mk _ _ [0,1] ?_ ?_ ?_ rfl)
   ·simp[vw]
   ·simp[vw,qr,qI,ql,qc,qe]
   ·simp
  | false =>
   by_cases hy:w=y
   ·simp (decide:=true) only [↓vS,vT,simprocAttr,hlt,wc,hx,Option.map_some,Nat.mul_one,hw0,hy,hwj];refine ih2 (by omega) (by omega) _ _ (Wk.mk _ _ [0,1] ?_ ?_ ?_ rfl)
    ·simp[vw,hy]
    ·simp[vw,qr,qI,ql,qc,qe]
    ·simp
   ·simp (decide:=true) only [↓vS,vT,simprocAttr,hlt,wc,hx,Option.map_some,Nat.mul_one,hw0,hy,hwj];refine ih2 (by omega) (by omega) _ _ (Wk.mk _ _ [0,1] ?_ ?_ ?_ rfl)
    ·simp[vw,hy]
    ·simp[vw,qr,qI,ql,qc,qe]
    ·simp
 ·clear ih;rw[List.take_of_length_le (by omega)];unfold qbB;simp only[qZ,hw0]
  by_cases hs:s=[115,111,99,107,101,116]<;>by_cases hin:w ∈ p.fams<;>by_cases m1:p.fmode=1<;>by_cases m2:p.fmode=2 <;>
  ·simp (decide:=true) only [↓vS,vT,simprocAttr,hlt,hs,hin,m1,m2];simp[vZ,hs,hin,m1,m2]
end
end Go.Kc
end
section
/- What a filter says of data is what the table says. No condition. -/
namespace Go.Kc
def qhM(p:Pol)(d:Int)(s:List UInt8)(x:GData):Int :=
 if d=1 then qbz p s else if d=2 then qbA p s else if d=3 then qbB p s x else if d=4 then qbC p s x else if d=5 then qbD p s x else if d=6 then qbE p s x else if d=7 then qbF p s x else 2147418112
theorem qg1{a n:Int}(h0:0<=a)(h6:a<6){s:List UInt8}(h:vq a s=some n):zd a n=s:=by
 obtain⟨x,hx,h1,h2⟩:=yd.1 ((jp (c:=⟨s,n⟩)).2 h);unfold zd;cases hf:qE.find? (fun x=>decide (jy x a=some n)) with
 | none=>exact absurd (List.find?_eq_none.1 hf x hx) (by simpa using h1)
 | some y =>
  have hy:jy y a=some n:=by simpa using List.find?_some hf
  have:=jp.1 (yd.2 ⟨y,List.mem_of_find?_eq_some hf,hy,rfl⟩:(⟨y.1,n⟩:GCall) ∈ xY a);exact qeh h0 h6 this h
theorem qfb{a n:Int}(h:zd a n≠[]):vq a (zd a n)=some n:=by
 unfold zd at h ⊢;cases hf:qE.find? (fun x=>decide (jy x a=some n)) with
 | none=>rw[hf] at h;exact absurd rfl h
 | some y =>
  have hy:jy y a=some n:=by simpa using List.find?_some hf
  exact jp.1 (yd.2 ⟨y,List.mem_of_find?_eq_some hf,hy,rfl⟩:(⟨y.1,n⟩:GCall) ∈ xY a)
theorem qen{p:Pol}{d a:Int}{r:GRule}:r ∈ ruR p d (xY a)↔∃s,vq a s=some r.nr∧(xw p d s).1=true∧r=⟨r.nr,(xw p d s).2.1,(xw p d s).2.2⟩:=by
 unfold ruR;rw[List.mem_filterMap];constructor
 ·rintro⟨c,hc,h⟩
  by_cases hk:(xw p d c.name).1=true
  ·rw[if_pos hk] at h;cases h;exact⟨c.name,jp.1 hc,hk,rfl⟩
  ·rw[if_neg hk] at h;cases h
 ·rintro⟨s,h1,h2,h3⟩;exact⟨⟨s,r.nr⟩,jp.2 h1,by rw[if_pos h2,← h3]⟩
theorem qgu{p:Pol}{d a n:Int}(h0:0<=a)(h6:a<6)(hne:∀s,(xw p d s).1=true->s≠[]) :
  (ruR p d (xY a)).find? (fun r=>decide (r.nr=n))=if (xw p d (zd a n)).1=true then some ⟨n,(xw p d (zd a n)).2.1,(xw p d (zd a n)).2.2⟩ else none:=by
 have uniq:∀r ∈ ruR p d (xY a),r.nr=n->(xw p d (zd a n)).1=true∧r=⟨n,(xw p d (zd a n)).2.1,(xw p d (zd a n)).2.2⟩:=by
  intro r hr hn;obtain⟨s,h1,h2,h3⟩:=qen.1 hr;rw[hn] at h1 h3;rw[qg1 h0 h6 h1];exact⟨h2,h3⟩
 cases hf:(ruR p d (xY a)).find? (fun r=>decide (r.nr=n)) with
 | some r =>
  obtain⟨h1,h2⟩:=uniq r (List.mem_of_find?_eq_some hf) (by simpa using List.find?_some hf);rw[if_pos h1,h2]
 | none =>
  by_cases hk:(xw p d (zd a n)).1=true
  ·have hm:(⟨n,(xw p d (zd a n)).2.1,(xw p d (zd a n)).2.2⟩:GRule) ∈ ruR p d (xY a):=qen.2 ⟨zd a n,qfb (hne _ hk),hk,rfl⟩;have:=List.find?_eq_none.1 hf _ hm;simp at this
  ·rw[if_neg hk]
def fnd(q:GTest->Bool)(y:Int)(l:List GTest):Int:=match l.find? q with|some t=>t.act|none=>y
theorem yi(q:GTest->Bool)(y:Int):fnd q y []=y:=rfl
theorem Qc(q:GTest->Bool)(y:Int)(t:GTest)(l:List GTest):fnd q y (t::l)=if q t=true then t.act else fnd q y l:=by
 unfold fnd;rw[List.find?_cons];cases q t<;>rfl
theorem yj(q:GTest->Bool)(y arg mask act:Int):∀l:List Int,fnd q y (qH arg mask act l)=if (l.any fun v=>q ⟨arg,mask,v,act⟩)=true then act else y
 | []=>rfl
 | v::l=>by
  have:=yj q y arg mask act l;simp only[qH,List.map_cons,List.any_cons] at this ⊢;rw[Qc,this]
  by_cases hq:q ⟨arg,mask,v,act⟩=true<;>simp[hq]
theorem qaC(q:GTest->Bool)(y arg act:Int)(l2:List GTest):∀l:List Int,fnd q y (zf arg act l++l2)=if (l.any fun v=>q ⟨arg,v,v,act⟩)=true then act else fnd q y l2
 | []=>rfl
 | v::l=>by
  have:=qaC q y arg act l2 l;simp only[zf,List.map_cons,List.any_cons,List.cons_append] at this ⊢;rw[Qc,this]
  by_cases hq:q ⟨arg,v,v,act⟩=true<;>simp[hq]
def U64(b:Int):Prop:=0<=b∧b<18446744073709551616
theorem vD(b:Int)(v:BitVec 64):zZ .u64 b (v.toNat:Int)=((BitVec.ofInt 64 b &&& v).toNat:Int):=by
 have e:BitVec.ofInt 64 ((v.toNat:Nat):Int)=v:=by rw[BitVec.ofInt_natCast,BitVec.ofNat_toNat,BitVec.setWidth_eq]
 show IntKind.wrap .u64 _=_;have hw:∀x:BitVec 64,IntKind.wrap .u64 (x.toNat:Int)=x.toNat:=fun x=>qak (by omega) (by have:=x.isLt;omega)
 show IntKind.wrap .u64 (((BitVec.ofInt 64 b &&& BitVec.ofInt 64 ((v.toNat:Nat):Int)).toNat:Nat):Int)=_;rw[e,hw]
theorem qfK{b:Int}(h:U64 b):zZ .u64 b 4294967295=IntKind.wrap .u32 b:=by
 obtain⟨n,rfl⟩:=Int.eq_ofNat_of_zero_le h.1;have hn:n<2 ^ 64:=by have:=h.2;omega
 have e:=vD (n:Int) 4294967295#64;have e2:((4294967295#64:BitVec 64).toNat:Int)=4294967295:=rfl;rw[e2] at e;rw[e,BitVec.ofInt_natCast,BitVec.toNat_and];have e3:(BitVec.ofNat 64 n).toNat=n:=by rw[BitVec.toNat_ofNat,Nat.mod_eq_of_lt hn]
 have e4:(4294967295#64:BitVec 64).toNat=2 ^ 32-1:=rfl;rw[e3,e4,Nat.and_two_pow_sub_one_eq_mod];change ((n % 2 ^ 32:Nat):Int)=(n:Int) % 4294967296;omega
theorem qhQ{i:Nat}(h:i<64):(BitVec.twoPow 64 i).toNat≠0:=by
 rw[BitVec.toNat_twoPow,Nat.mod_eq_of_lt (Nat.pow_lt_pow_right (by decide) h)];exact Nat.ne_of_gt (Nat.two_pow_pos i)
theorem qao(b:Int){i:Nat}(h:i<64):(zZ .u64 b ((BitVec.twoPow 64 i).toNat:Int)=((BitVec.twoPow 64 i).toNat:Int))↔(BitVec.ofInt 64 b).getLsbD i=true:=by
 rw[vD,BitVec.and_twoPow];have:=qhQ h;split
 ·rename_i hb;exact⟨fun _=>hb,fun _=>rfl⟩
 ·rename_i hb;refine⟨fun he=>?_,fun he=>absurd he hb⟩
  have e0:(0#64:BitVec 64).toNat=0:=rfl;rw[e0] at he;omega
theorem Qy(b:Int){i:Nat}(h:i<64):(zZ .u64 b ((BitVec.twoPow 64 i).toNat:Int)≠0)↔(BitVec.ofInt 64 b).getLsbD i=true:=by
 rw[vD,BitVec.and_twoPow];have:=qhQ h;split
 ·rename_i hb;exact⟨fun _=>hb,fun _=>by omega⟩
 ·rename_i hb;refine⟨fun he=>absurd rfl he,fun he=>absurd he hb⟩
def idxS:List Nat:=[25,27,30,17,29,7,28,26]
theorem qaZ:∀v,v ∈ qy.map (·.2)↔∃i ∈ idxS,v=((BitVec.twoPow 64 i).toNat:Int):=by
 intro v
 have e:∀v,v ∈ qy.map (·.2)↔v ∈ idxS.map fun i=>((BitVec.twoPow 64 i).toNat:Int):=by
  have h1:∀v ∈ qy.map (·.2),v ∈ idxS.map fun i=>((BitVec.twoPow 64 i).toNat:Int):=by decide +kernel
  have h2:∀v ∈ idxS.map (fun i=>((BitVec.twoPow 64 i).toNat:Int)),v ∈ qy.map (·.2):=by decide +kernel
  exact fun v=>⟨h1 v,h2 v⟩
 rw[e,List.mem_map];exact⟨fun⟨i,h1,h2⟩=>⟨i,h1,h2.symm⟩,fun⟨i,h1,h2⟩=>⟨i,h1,h2.symm⟩⟩
theorem qgE:∀i ∈ idxS,i<64:=by decide
theorem qbk{b s:Int}(hs:U64 s)(hc:qds .u64 s 2114060416=0):((zW s).any fun v=>decide (zZ .u64 b v=v))=decide (zZ .u64 b s≠0):=by
 have hS:s=((BitVec.ofInt 64 s).toNat:Int):=by rw[BitVec.toNat_ofInt];have:=hs.1;have:=hs.2;omega
 have hM:BitVec.ofInt 64 s &&& ~~~(2114060416#64)=0#64:=by
  have hw:∀x:BitVec 64,IntKind.wrap .u64 (x.toNat:Int)=x.toNat:=fun x=>qak (by omega) (by have:=x.isLt;omega)
  have e:qds .u64 s 2114060416=((BitVec.ofInt 64 s &&& ~~~(2114060416#64)).toNat:Int):=hw _;rw[e] at hc;exact BitVec.eq_of_toNat_eq (by have:(0#64:BitVec 64).toNat=0:=rfl;omega)
 have hr:(zZ .u64 b s≠0)↔BitVec.ofInt 64 b &&& BitVec.ofInt 64 s≠0#64:=by
  conv=>lhs;rw[hS]
  rw[vD];constructor
  ·intro h e;rw[e] at h;exact h rfl
  ·intro h e;exact h (BitVec.eq_of_toNat_eq (by have:(0#64:BitVec 64).toNat=0:=rfl;omega))
 rw[Bool.eq_iff_iff,List.any_eq_true,decide_eq_true_eq,hr];constructor
 ·rintro⟨v,hv,hb⟩;unfold zW at hv;obtain⟨h1,h2⟩:=List.mem_filter.1 hv;obtain⟨i,hi,rfl⟩:=(qaZ v).1 h1;have k1:=(Qy s (qgE i hi)).1 (by simpa using h2);have k2:=(qao b (qgE i hi)).1 (by simpa using hb);intro e;have:=congrArg (fun z:BitVec 64=>z.getLsbD i) e
  simp[k1,k2] at this
 ·intro hne;apply Classical.byContradiction;intro hno;apply hne;refine BitVec.eq_of_getLsbD_eq fun i hi=>?_
  rw[BitVec.getLsbD_and,BitVec.getLsbD_zero]
  by_cases hm:(2114060416#64:BitVec 64).getLsbD i=true
  ·have hidx:i ∈ idxS:=by
    have:∀i<64,(2114060416#64:BitVec 64).getLsbD i=true->i ∈ idxS:=by decide +kernel
    exact this i hi hm
   cases hbi:(BitVec.ofInt 64 b).getLsbD i with
   | false=>rfl
   | true =>
    cases hsi:(BitVec.ofInt 64 s).getLsbD i with
    | false=>rfl
    | true =>
     exfalso
     refine hno ⟨((BitVec.twoPow 64 i).toNat:Int),?_,?_⟩
     ·unfold zW;exact List.mem_filter.2 ⟨(qaZ _).2 ⟨i,hidx,rfl⟩,by simpa using (Qy s hi).2 hsi⟩
     ·simpa using (qao b hi).2 hbi
  ·have:=congrArg (fun z:BitVec 64=>z.getLsbD i) hM
   simp only[BitVec.getLsbD_and,BitVec.getLsbD_not,BitVec.getLsbD_zero,hi,decide_true,Bool.true_and] at this;have hm':(2114060416#64:BitVec 64).getLsbD i=false:=by simpa using hm
   rw[hm'] at this;have hsi:(BitVec.ofInt 64 s).getLsbD i=false:=by simpa using this
   rw[hsi,Bool.and_false]
structure DOk (x:GData):Prop where
 a0:U64 x.a0
 a1:U64 x.a1
 a2:U64 x.a2
theorem kc{x:GData}{k v act:Int}(h0:0<=k)(h6:k<6)(hu:U64 (qfQ x k)):zI ⟨k,4294967295,v,act⟩ x=decide (IntKind.wrap .u32 (qfQ x k)=v):=by
 unfold zI;simp only[h0,h6,decide_true,Bool.true_and,qfK hu]
theorem qdy{x:GData}{k v act:Int}(h0:0<=k)(h6:k<6):zI ⟨k,v,v,act⟩ x=decide (zZ .u64 (qfQ x k) v=v):=by
 unfold zI;simp only[h0,h6,decide_true,Bool.true_and]
theorem QY{l:GList}(h:jY l=true):zJ l.calls []=none:=by
 unfold zJ;rw[List.find?_eq_none];intro c hc hn;have hk:=((qaO l).1 h).2.1 c hc;have he:c.name=[]:=by simpa using hn
 simp only[okC,he,Bool.and_eq_true] at hk;exact absurd hk.1 (by decide)
def yv(p:Pol)(d:Int)(s:List UInt8)(x:GData):Int:=if (xw p d s).1=true then fnd (fun t=>zI t x) (xw p d s).2.2 (xw p d s).2.1 else dfR p d
theorem qp8{p:Pol}(h0:0<=p.filter.mode)(hm:jY p.filter=true)(s:List UInt8)(x:GData):(jE p 1=true->yv p 1 s x=qbz p s)∧(jE p 1=false->qbz p s=2147418112):=by
 have ha:jE p 1=qS p.filter.mode p.filter.calls.length true false:=rfl;have hd:dfR p 1=if p.filter.mode=1 then p.deny else 2147418112:=by simp[dfR]
 have hr:xw p 1 s=((zJ p.filter.calls s).isSome,[],qfH p s):=rfl;have he:p.filter.calls=[]->zJ p.filter.calls s=none:=fun e=>by rw[e];rfl
 have hmm:=((qaO p.filter).1 hm).1;unfold yv;rw[ha,hd,hr];simp only[yi,qfH,qbz,qS]
 by_cases m1:p.filter.mode=1
 ·refine⟨fun _=>?_,fun h=>by simp[m1] at h⟩
  cases hf:(zJ p.filter.calls s).isSome<;>by_cases hz:qa9 p.filter.calls s=0<;>simp[m1,hz]
 ·by_cases m2:p.filter.mode=2
  ·refine⟨fun _=>?_,fun h=>?_⟩
   ·cases hf:(zJ p.filter.calls s).isSome<;>by_cases hz:qa9 p.filter.calls s=0<;>simp[m2,hz]
   ·have hn:p.filter.calls=[]:=by
     simp[m2] at h;exact h
    simp[he hn,m2]
  ·refine⟨fun h=>by simp[m1,m2] at h,fun _=>?_⟩
   have hn:p.filter.calls=[]:=by
    rcases hmm with⟨q1,q2⟩;rcases q2 with q2|q2
    ·omega
    ·exact q2
   simp[he hn,m1,m2]
theorem qp9(p:Pol)(s:List UInt8)(x:GData):(jE p 2=true->yv p 2 s x=qbA p s)∧(jE p 2=false->qbA p s=2147418112):=by
 have ha:jE p 2=qS p.log.mode p.log.calls.length false true:=rfl;have hd:dfR p 2=if p.log.mode=2 then 2147221504 else 2147418112:=by simp[dfR]
 have hr:xw p 2 s=((zJ p.log.calls s).isSome,[],if p.log.mode=1 then 2147221504 else 2147418112):=rfl
 have he:p.log.calls=[]->zJ p.log.calls s=none:=fun e=>by rw[e];rfl
 unfold yv;rw[ha,hd,hr];simp only[yi,qbA,qS]
 by_cases m1:p.log.mode=1
 ·refine⟨fun _=>?_,fun h=>?_⟩
  ·cases hf:(zJ p.log.calls s).isSome<;>simp[m1]
  ·have hn:p.log.calls=[]:=by
    simp[m1] at h;exact h
   simp[he hn,m1]
 ·by_cases m2:p.log.mode=2
  ·refine⟨fun _=>?_,fun h=>by simp[m2] at h⟩
   cases hf:(zJ p.log.calls s).isSome<;>simp[m2]
  ·exact⟨fun h=>by simp[m1,m2] at h,fun _=>by simp[m1,m2]⟩
theorem qqa(p:Pol)(s:List UInt8){x:GData}(hx:DOk x):(jE p 3=true->yv p 3 s x=qbB p s x)∧(jE p 3=false->qbB p s x=2147418112):=by
 have ha:jE p 3=qS p.fmode p.fams.length true false:=rfl;have hd:dfR p 3=2147418112:=by simp[dfR]
 have hr:xw p 3 s=(decide (s=qZ),qH 0 4294967295 (if p.fmode=2 then 327777 else 2147418112) p.fams,if p.fmode=2 then 2147418112 else 327777):=rfl
 have hh:∀act,(p.fams.any fun v=>zI ⟨0,4294967295,v,act⟩ x)=decide (IntKind.wrap .u32 x.a0 ∈ p.fams):=by
  intro act;have e:(fun v=>zI ⟨0,4294967295,v,act⟩ x)=fun v=>decide (IntKind.wrap .u32 x.a0=v):=funext fun v=>kc (by decide) (by decide) hx.a0
  rw[e,Bool.eq_iff_iff,List.any_eq_true,decide_eq_true_eq];constructor
  ·rintro⟨v,h1,h2⟩;rw[of_decide_eq_true h2];exact h1
  ·intro h;exact⟨_,h,by simp⟩
 unfold yv;rw[ha,hd,hr];simp only[yj,hh,qbB,qS]
 by_cases m1:p.fmode=1
 ·refine⟨fun _=>?_,fun h=>by simp[m1] at h⟩
  by_cases hs:s=qZ<;>by_cases hin:IntKind.wrap .u32 x.a0 ∈ p.fams<;>simp[m1,hs,hin]
 ·by_cases m2:p.fmode=2
  ·refine⟨fun _=>?_,fun h=>?_⟩
   ·by_cases hs:s=qZ<;>by_cases hin:IntKind.wrap .u32 x.a0 ∈ p.fams<;>simp[m2,hs,hin]
   ·have hn:p.fams=[]:=by
     simp[m2] at h;exact h
    simp[hn,m2]
  ·exact⟨fun h=>by simp[m1,m2] at h,fun _=>by simp[m1,m2]⟩
theorem qqb{p:Pol}(hs:U64 p.spaces)(hc:qds .u64 p.spaces 2114060416=0)(s:List UInt8){x:GData}(hx:DOk x):(jE p 4=true->yv p 4 s x=qbC p s x)∧(jE p 4=false->qbC p s x=2147418112):=by
 have ha:jE p 4=decide (p.spaces≠0):=rfl;have hd:dfR p 4=2147418112:=by simp[dfR]
 have hr:xw p 4 s=ns4 p s:=rfl
 have f0:∀act,((zW p.spaces).any fun v=>zI ⟨0,v,v,act⟩ x)=decide (zZ .u64 x.a0 p.spaces≠0):=fun act=>by
  rw[← qbk hs hc]
  congr 1
 have f1:∀act,((zW p.spaces).any fun v=>zI ⟨1,v,v,act⟩ x)=decide (zZ .u64 x.a1 p.spaces≠0):=fun act=>by
  rw[← qbk hs hc]
  congr 1
 have g1:∀act,zI ⟨1,4294967295,0,act⟩ x=decide (IntKind.wrap .u32 x.a1=0):=fun act=>kc (by decide) (by decide) hx.a1
 unfold yv;rw[ha,hd,hr];simp only[ns4,qbC]
 by_cases k0:p.spaces=0
 ·exact⟨fun h=>by simp[k0] at h,fun _=>by simp[k0]⟩
 refine⟨fun _=>?_,fun h=>by simp[k0] at h⟩
 by_cases k1:s=qY
 ·simp[k0,k1,yi]
 by_cases k2:s=qT
 ·have n1:¬qT=qQ:=by decide
  have n2:¬qT=zt:=by decide
  have n3:¬qT=qY:=by decide
  subst k2;simp only[k0,n1,n2,n3,if_false,if_true,decide_true,Bool.true_or,qaC,f1,Qc,yi,g1,false_or,true_and]
  by_cases w:zZ .u64 x.a1 p.spaces=0<;>by_cases w1:IntKind.wrap .u32 x.a1=0<;>simp[w,w1]
 ·have hn:(zf 0 327681 (zW p.spaces)++[])=zf 0 327681 (zW p.spaces):=List.append_nil _;simp only[k0,k1,k2,if_false,qaC,f0,yi,decide_false,Bool.false_or,false_and,or_false]
  by_cases k3:s=qQ
  ·by_cases w:zZ .u64 x.a0 p.spaces=0<;>simp[k3,w]
  ·by_cases k4:s=zt
   ·by_cases w:zZ .u64 x.a0 p.spaces=0<;>simp[k4,w]
   ·simp[k3,k4]
theorem qf0(b:Int){v:Int}{i:Nat}(h:i<64)(hv:v=((BitVec.twoPow 64 i).toNat:Int)):decide (zZ .u64 b v=v)=decide (zZ .u64 b v≠0):=by
 subst hv;rw[Bool.eq_iff_iff,decide_eq_true_eq,decide_eq_true_eq,qao b h,Qy b h]
theorem qqc(p:Pol)(s:List UInt8)(x:GData):(jE p 5=true->yv p 5 s x=qbD p s x)∧(jE p 5=false->qbD p s x=2147418112):=by
 have ha:jE p 5=p.we:=rfl;have hd:dfR p 5=2147418112:=by simp[dfR]
 have hr:xw p 5 s=(decide (0<xR s),[⟨2,xR s,xR s,327681⟩],2147418112):=rfl;have hb:∀v act,zI ⟨2,v,v,act⟩ x=decide (zZ .u64 x.a2 v=v):=fun v act=>qdy (by decide) (by decide)
 have b4:=qf0 x.a2 (v:=4) (i:=2) (by decide) rfl;have b15:=qf0 x.a2 (v:=32768) (i:=15) (by decide) (by decide +kernel);unfold yv;rw[ha,hd,hr];simp only[Qc,yi,hb,qbD];cases hw:p.we with
 | false=>exact⟨fun h=>(by cases h),fun _=>by simp⟩
 | true =>
  refine⟨fun _=>?_,fun h=>by cases h⟩
  by_cases k1:s=zV
  ·have e:xR s=6:=by simp[xR,k1]
   have n2:¬zV=qK:=by decide
   have n3:¬zV=qq:=by decide
   have n4:¬zV=zj:=by decide
   rw[e]
   by_cases w:zZ .u64 x.a2 6=6<;>simp[k1,n2,n3,n4,w]
  by_cases k2:s=qK∨s=qq
  ·have e:xR s=4:=by simp[xR,k1,k2]
   have n4:¬s=zj:=by rintro rfl;revert k2;decide
   rw[e,b4]
   by_cases w:zZ .u64 x.a2 4=0<;>simp[k1,k2,n4,w]
  by_cases k4:s=zj
  ·have e:xR s=32768:=by
    subst k4;decide
   have n1:¬zj=zV:=by decide
   have n2:¬zj=qK:=by decide
   have n3:¬zj=qq:=by decide
   rw[e,b15]
   by_cases w:zZ .u64 x.a2 32768=0<;>simp[n1,n2,n3,k4,w]
  ·have e:xR s=0:=by simp[xR,k1,k2,k4]
   rw[e];simp[k1,k2,k4]
theorem qqd(p:Pol)(s:List UInt8){x:GData}(hx:DOk x):(jE p 6=true->yv p 6 s x=qbE p s x)∧(jE p 6=false->qbE p s x=2147418112):=by
 have ha:jE p 6=p.pe:=rfl;have hd:dfR p 6=2147418112:=by simp[dfR]
 have hr:xw p 6 s=(decide (s=qC),qH 0 4294967295 2147418112 [0,4294967295],327681):=rfl;have hb:∀v act,zI ⟨0,4294967295,v,act⟩ x=decide (IntKind.wrap .u32 x.a0=v):=fun v act=>kc (by decide) (by decide) hx.a0
 unfold yv;rw[ha,hd,hr];simp only[yj,hb,qbE,List.any_cons,List.any_nil];cases hw:p.pe with
 | false=>exact⟨fun h=>(by cases h),fun _=>by simp⟩
 | true =>
  refine⟨fun _=>?_,fun h=>by cases h⟩
  by_cases hs:s=qC<;>by_cases w0:IntKind.wrap .u32 x.a0=0<;>by_cases w1:IntKind.wrap .u32 x.a0=4294967295<;>simp[hs,w0,w1]
theorem qqe(p:Pol)(s:List UInt8){x:GData}(hx:DOk x):(jE p 7=true->yv p 7 s x=qbF p s x)∧(jE p 7=false->qbF p s x=2147418112):=by
 have ha:jE p 7=p.rt:=rfl;have hd:dfR p 7=2147418112:=by simp[dfR]
 have hr:xw p 7 s=(decide (s=xr),qH 1 4294967295 2147418112 [0,3,5],327681):=rfl;have hb:∀v act,zI ⟨1,4294967295,v,act⟩ x=decide (IntKind.wrap .u32 x.a1=v):=fun v act=>kc (by decide) (by decide) hx.a1
 unfold yv;rw[ha,hd,hr];simp only[yj,hb,qbF,List.any_cons,List.any_nil];cases hw:p.rt with
 | false=>exact⟨fun h=>(by cases h),fun _=>by simp⟩
 | true =>
  refine⟨fun _=>?_,fun h=>by cases h⟩
  by_cases hs:s=xr<;>by_cases w0:IntKind.wrap .u32 x.a1=0<;>by_cases w1:IntKind.wrap .u32 x.a1=3<;>by_cases w2:IntKind.wrap .u32 x.a1=5<;>simp[hs,w0,w1,w2]
end Go.Kc
end
section
/- The law LowerMeans. Condition: the functions' texts are these. -/
namespace Go.Kc
variable {P:Program} {f:Nat}
def qbI(p:Pol)(d a:Int)(x:GData):Int:=if (ofM x.arch x.nr).2=true∧(ofM x.arch x.nr).1=a∧inA p.arches a=true then qhM p d (zd a x.nr) x else 2147418112
theorem qbu{p:Pol}(h:wK p=true):jY p.filter=true∧jY p.log=true∧qds .u64 p.spaces 2114060416=0:=by
 unfold wK at h;simp only[Bool.and_eq_true] at h;have h2:=h.2;unfold jN at h2;simp only[Bool.and_eq_true,decide_eq_true_eq] at h2;exact⟨h2.1.1,h2.1.2,h2.2⟩
theorem qjW{p:Pol}(h:wK p=true)(d:Int)(s:List UInt8)(hs:(xw p d s).1=true):s≠[]:=by
 obtain⟨h1,h2,_⟩:=qbu h;rintro rfl;unfold xw at hs;split at hs
 ·simp[QY h1] at hs
 split at hs
 ·simp[QY h2] at hs
 split at hs
 ·simp[qZ] at hs
 split at hs
 ·rw[if_neg (by decide)] at hs;simp[qT,qQ,zt] at hs
 split at hs
 ·simp[xR,zV,qK,qq,zj] at hs
 split at hs
 ·simp[qC] at hs
 ·simp[xr] at hs
theorem qkg{p:Pol}{d:Int}(hd1:1<=d)(hd7:d<=7)(hm:wK p=true)(hf:0<=p.filter.mode)(hR:PolR p){x:GData}(hx:DOk x)(s:List UInt8):(jE p d=true->yv p d s x=qhM p d s x)∧(jE p d=false->qhM p d s x=2147418112):=by
 obtain⟨m1,m2,m3⟩:=qbu hm;have:d=1∨d=2∨d=3∨d=4∨d=5∨d=6∨d=7:=by omega
 rcases this with rfl|rfl|rfl|rfl|rfl|rfl|rfl
 ·exact qp8 hf m1 s x
 ·exact qp9 p s x
 ·exact qqa p s hx
 ·exact qqb hR.spaces m3 s hx
 ·exact qqc p s x
 ·exact qqd p s hx
 ·exact qqe p s hx
theorem qe7{p:Pol}{d a:Int}(h0:0<=a)(h6:a<6)(hd1:1<=d)(hd7:d<=7)(hm:wK p=true)(hf:0<=p.filter.mode)(hR:PolR p){x:GData}(hx:DOk x) :
  match QI p d a with
  | some y=>inA p.arches a=true∧y.arch=a∧qdu y x=qbI p d a x
  | none=>qbI p d a x=2147418112:=by
 rw[← qdC];have T:=qkg hd1 hd7 hm hf hR hx (zd a x.nr);unfold yY;cases hin:inA p.arches a with
 | false =>
  rw[if_neg (by simp)];dsimp only;unfold qbI;rw[hin,if_neg (by simp)]
 | true =>
  cases hact:jE p d with
  | false =>
   rw[if_neg (by simp)];dsimp only;unfold qbI;split
   ·exact T.2 hact
   ·rfl
  | true =>
   rw[if_pos (by simp[h0,h6,hm])];refine⟨rfl,rfl,?_⟩;unfold qdu qbI;dsimp only
   by_cases ho:(ofM x.arch x.nr).2=true∧(ofM x.arch x.nr).1=a
   ·rw[if_neg (by simp[ho.1,ho.2]),if_pos ⟨ho.1,ho.2,hin⟩,← T.1 hact,qgu h0 h6 (qjW hm d)];unfold yv
    by_cases hk:(xw p d (zd a x.nr)).1=true
    ·rw[if_pos hk,if_pos hk];rfl
    ·rw[if_neg hk,if_neg hk]
   ·have h1:(ofM x.arch x.nr).2=false∨(ofM x.arch x.nr).1≠a:=by
     by_cases h2:(ofM x.arch x.nr).2=true
     ·exact .inr fun h3=>ho ⟨h2,h3⟩
     ·exact .inl (by simpa using h2)
    have h2:¬((ofM x.arch x.nr).2=true∧(ofM x.arch x.nr).1=a∧inA p.arches a=true):=fun h=>ho ⟨h.1,h.2.1⟩
    rw[if_pos h1,if_neg h2]
def qko(P:Program)(f:Nat):Prop:=∀a:Int,0<=a->a<6->qb P f [.i .i64 a] (.fz (xY a).length (rC (xY a)))
theorem qfI{a:Int}(h0:0<=a)(h6:a<6):0<(xY a).length:=by
 have:a=0∨a=1∨a=2∨a=3∨a=4∨a=5:=by omega
 rcases this with rfl|rfl|rfl|rfl|rfl|rfl<;>decide +kernel
def qdS(P:Program)(f:Nat):Prop:=∀(p:Pol) (d a:Int) (x:GData),PolOk p->1<=d->d<=7->qb P f [.agg (qr p),.i .i64 d,.i .i64 a,.agg (qI x)] (.i .u32 (qhM p d (zd a x.nr) x))
theorem qo6{g1 g2:Nat}(hc:qt P f (qo g1 g2)=true)(h1:∀a n,qb P g1 [.i .i64 a,.i .u32 n] (.s (zd a n)))(h2:qaq P g2):qdS P f:=by
 intro p d a x hp hd1 hd7;have:d=1∨d=2∨d=3∨d=4∨d=5∨d=6∨d=7:=by omega
 rcases this with rfl|rfl|rfl|rfl|rfl|rfl|rfl
 ·exact qj2 hc h1 h2 p hp a x
 ·exact qj3 hc h1 h2 p hp a x
 ·exact qj4 hc h1 p hp a x
 ·exact qj5 hc h1 p a x
 ·exact qj6 hc h1 p a x
 ·exact qj7 hc h1 p a x
 ·exact qj8 hc h1 p a x
def zq(a b c d e g h i j k:Nat):ICode:=.seq (.r [.v 70 13 6,.n 71 1,.n 72 2,.l 73 g [.t 70,.t 71,.t 72],.n 69 73,.x 74 69 0,.x 75 69 1,.q 16 (.alloc [.i .i64 0,.nils,.i .u32 0]),.u (.store 3 (.t 16) (.t 74)),.n 17 75]) (.seq (.r [.f 77 1 9,.d 78 77,.f 79 0 9,.d 80 79,.l 81 h [.t 78,.t 80],.n 76 81,.x 82 76 0,.x 83 76 1,.n 18 82,.n 19 83]) (.seq (.r [.f 84 0 6,.d 85 84,.n 86 2,.l 87 i [.t 85,.t 86],.n 20 87]) (.seq (.seq (.r [.n 88 17,.n 89 88,.y 90 20 89,.g 91 (.un .not (.t 90)) 89 true,.p 92 89 91]) (.cond (.t 92) (.seq (.r [.m 12 .F]) (.ret)) (.skip))) (.seq (.r [.m 21 (.c (.i .u32 2147418112))]) (.seq (.seq (.r [.n 93 19,.n 94 93,.y 95 18 94,.y 96 2 94,.g 97 (.bin .eql (.t 95) (.t 96)) 94 true,.p 98 94 97,.n 99 98,.y 100 20 99,.p 101 99 100]) (.cond (.t 101) (.r [.v 102 13 6,.n 103 1,.n 104 2,.v 105 9 9,.l 106 j [.t 102,.t 103,.t 104,.t 105],.n 21 106]) (.skip))) (.seq (.seq (.r [.n 107 17,.q 108 (.un .not (.t 107))]) (.cond (.t 108) (.seq (.r [.n 109 21,.q 110 (.bin .eql (.t 109) (.c (.i .u32 2147418112))),.n 111 110,⟨(some 112),.callF c [],(some (111,true))⟩,.p 113 111 112,.n 12 113]) (.ret)) (.skip))) (.seq (.r [.f 114 0 16,.d 115 114,.n 116 2,.b 117 .eql 115 116,.n 118 117,.g 119 (.loadN 3 (.t 16)) 118 true,.g 120 (.loadN 9 (.t 9)) 118 true,⟨(some 121),.callF k [.t 119,.t 120],(some (118,true))⟩,.y 122 21 118,.g 123 (.bin .eql (.t 121) (.t 122)) 118 true,.p 124 118 123,.n 125 124,⟨(some 126),.callF c [],(some (125,true))⟩,.p 127 125 126,.n 12 127]) (.ret))))))))
def zp(a b c d e g h i j k:Nat):ICode:=.seq (.seq (.r [.n 40 4]) (.cond (.t 40) (.seq (.r [.n 42 2,.l 43 d [.t 42],.n 41 43,.x 44 41 0,.x 45 41 1,.n 13 44,.n 14 45]) (.seq (.r [.n 46 2,.l 47 e [.t 46],.n 15 47]) (.seq (.seq (.r [.n 48 14,.w 49 .neq 48 0,.n 50 49,.z 51 15 50,.g 52 (.len false (.t 51)) 50 false,.g 53 (.bin .eql (.t 52) (.k 0)) 50 false,.o 54 50 53]) (.cond (.t 54) (.seq (.r [.m 12 .F]) (.ret)) (.skip))) (.seq (.r [.n 55 13,.f 56 1 9,.u (.store 1 (.t 56) (.t 55))]) (.r [.n 57 15,.n 58 5,.q 59 (.cvInt .u64 (.t 58)),.n 60 15,.e 61 60,.q 62 (.cvInt .u64 (.t 61)),.b 63 .rem 59 62,.q 64 (.cvInt .i64 (.t 63)),.i 65 2 57 64,.f 66 1 65,.d 67 66,.f 68 0 9,.u (.store 1 (.t 68) (.t 67))]))))) (.skip))) (.cut (zq a b c d e g h i j k))
def xt(a b c d e g h i j k:Nat):IFn:=⟨[.tmp 12],.seq (.r [.q 6 (.box (.t 0)),.q 9 (.box (.t 3)),.m 12 .F]) (.seq (.seq (.r [.v 22 13 6,.q 23 (.build [.s [],.i .i64 0,.s [],.s [],.s []] []),.l 24 a [.t 22,.t 23],.n 25 24,.g 26 (.loadN 13 (.t 6)) 25 false,⟨(some 27),.callF b [.t 26],(some (25,false))⟩,.g 28 (.un .not (.t 27)) 25 false,.o 29 25 28]) (.cond (.t 29) (.seq (.r [.l 30 c [],.n 12 30]) (.ret)) (.skip))) (.seq (.r [.n 31 1,.q 32 (.cvInt .u64 (.t 31)),.q 33 (.bin .rem (.t 32) (.c (.i .u64 7))),.q 34 (.cvInt .i64 (.t 33)),.q 35 (.bin .add (.k 1) (.t 34)),.n 1 35]) (.seq (.r [.n 36 2,.q 37 (.cvInt .u64 (.t 36)),.q 38 (.bin .rem (.t 37) (.c (.i .u64 6))),.q 39 (.cvInt .i64 (.t 38)),.n 2 39]) (.cut (zp a b c d e g h i j k)))))⟩
section
variable {g1 g2 g3 g4 g5 g6 g7 g8 g9 g10:Nat}
theorem qbo(h3:qb P g3 [] (.b true))(h6:qis P g6)(h7:∀t n,qb P g7 [.i .u32 t,.i .u32 n] (.tup [.i .i64 (ofM t n).1,.b (ofM t n).2]))(h8:∀(xs:List Int) (x:Int),xs.length<=qg->qb P g8 [.fz xs.length (rI .i64 xs),.i .i64 x] (.b (inA xs x)))(h9:qdS P g9)
  (h10:∀(y:GFil) (x:GData),y.rules.length<=100000->(∀r ∈ y.rules,r.tests.length<=100000)->qb P g10 [.agg (y5 y),.agg (qI x)] (.i .u32 (qdu y x)))
  (p:Pol) (hp:PolOk p) (hR:PolR p) (hm:wK p=true) (hf:0<=p.filter.mode) (d a:Int) (h0:0<=a) (ha6:a<6) (hd1:1<=d) (hd7:d<=7) (x:GData) (hx:DOk x) {t':Tr AV} {h':Hp}
  (hw:Wk 0 t' h' (mkT [(1,.i .i64 d),(2,.i .i64 a),(6,.ptr 0 0),(9,.ptr 1 0)]) (mkH 0 [.cells 0 true false (qr p),.cells 0 true false (qI x)])) :
  S P 0 (zq g1 g2 g3 g4 g5 g6 g7 g8 g9 g10) (jJ [.tmp 12] fun v' h'=>Frz h' v' (.b true)) t' h':=by
 refine S.weak hw (qP ?_);have hpa:=hp.a;have M:=qe7 h0 ha6 hd1 hd7 hm hf hR hx;have k6:=h6 p hp hR d a;have k7:=h7 x.arch x.nr;have k8:=h8 p.arches a (by simp only[qg];omega);have k9:=h9 p d a x hp hd1 hd7;simp only[zq,qr,qI,vI,simprocAttr] at k6 k9 ⊢;unfold qbI at M;simp only[↓vS,vT,simprocAttr];refine k6.sc ?_;cases hl:QI p d a with
 | none =>
  rw[hl] at M;simp (decide:=true) only [↓vS,vT,simprocAttr,qa7];refine k7.sc ?_;simp (decide:=true) only [↓vS,vT,simprocAttr];refine k8.sc ?_;cases ho:(ofM x.arch x.nr).2 with
  | false =>
   simp (decide:=true) only [↓vS,vT,simprocAttr,ho];refine h3.sc ?_;simp (decide:=true) only [↓vS,vT,simprocAttr];simp[vZ]
  | true =>
   by_cases hoa:(ofM x.arch x.nr).1=a
   ·cases hin:inA p.arches a with
    | false =>
     simp (decide:=true) only [↓vS,vT,simprocAttr,ho,hoa,hin];refine h3.sc ?_;simp (decide:=true) only [↓vS,vT,simprocAttr];simp[vZ]
    | true =>
     have e:qhM p d (zd a x.nr) x=2147418112:=by
      have:=M;simp only[ho,hoa,hin,and_self,if_true] at this;exact this
     rw[e] at k9;simp (decide:=true) only [↓vS,vT,simprocAttr,ho,hoa,hin];refine k9.sc ?_;simp (decide:=true) only [↓vS,vT,simprocAttr];refine h3.sc ?_;simp (decide:=true) only [↓vS,vT,simprocAttr];simp[vZ]
   ·simp (decide:=true) only [↓vS,vT,simprocAttr,ho,hoa];refine h3.sc ?_;simp (decide:=true) only [↓vS,vT,simprocAttr];simp[vZ]
 | some y =>
  rw[hl] at M;obtain⟨m1,m2,m3⟩:=M;obtain⟨l1,l2⟩:=qjl hp hl;have k10:=h10 y x (by omega) (fun r hr=>by have:=l2 r hr;omega)
  rw[m3] at k10;simp only[y5,qI,m2] at k10;simp (decide:=true) only [↓vS,vT,simprocAttr,qa7,y5];refine k7.sc ?_;simp (decide:=true) only [↓vS,vT,simprocAttr];refine k8.sc ?_;rw[m1] at k10 ⊢;cases ho:(ofM x.arch x.nr).2 with
  | false =>
   rw[ho,if_neg (by simp)] at k10;simp (decide:=true) only [↓vS,vT,simprocAttr,ho,m2];refine k10.sc ?_;simp (decide:=true) only [↓vS,vT,simprocAttr];refine h3.sc ?_;simp (decide:=true) only [↓vS,vT,simprocAttr];simp[vZ]
  | true =>
   by_cases hoa:(ofM x.arch x.nr).1=a
   ·rw[ho,hoa,if_pos (by simp)] at k10;simp (decide:=true) only [↓vS,vT,simprocAttr,ho,hoa];refine k9.sc ?_;simp (decide:=true) only [↓vS,vT,simprocAttr,m2];refine k10.sc ?_;simp (decide:=true) only [↓vS,vT,simprocAttr];refine h3.sc ?_;simp (decide:=true) only [↓vS,vT,simprocAttr];simp[vZ]
   ·rw[ho,if_neg (by simp[hoa])] at k10;simp (decide:=true) only [↓vS,vT,simprocAttr,ho,hoa,m2];refine k10.sc ?_;simp (decide:=true) only [↓vS,vT,simprocAttr];refine h3.sc ?_;simp (decide:=true) only [↓vS,vT,simprocAttr];simp[vZ]
theorem qb9(w n:Int)(hn:0<n)(hb:n<=1000):∃k:Nat,IntKind.wrap .i64 ((IntKind.wrap .u64 w).tmod n)=(k:Int)∧(k:Int)<n:=by
 have hu:0<=IntKind.wrap .u64 w:=by
  show 0<=Int.emod _ _;exact Int.emod_nonneg _ (by decide)
 have h3:=Int.emod_nonneg (IntKind.wrap .u64 w) (by omega:n≠0);have h4:=Int.emod_lt_of_pos (IntKind.wrap .u64 w) hn;rw[Int.tmod_eq_emod_of_nonneg hu];refine⟨((IntKind.wrap .u64 w) % n).toNat,?_,by omega⟩
 rw[zg (by omega) (by omega)];omega
theorem qe5(h3:qb P g3 [] (.b true))(h4:∀a,0<=a->a<6->qb P g4 [.i .i64 a] (.tup [.i .u32 (qhO a),.i .i64 0]))(h5:qko P g5)(h6:qis P g6)(h7:∀t n,qb P g7 [.i .u32 t,.i .u32 n] (.tup [.i .i64 (ofM t n).1,.b (ofM t n).2]))(h8:∀(xs:List Int) (x:Int),xs.length<=qg->qb P g8 [.fz xs.length (rI .i64 xs),.i .i64 x] (.b (inA xs x)))(h9:qdS P g9)
  (h10:∀(y:GFil) (x:GData),y.rules.length<=100000->(∀r ∈ y.rules,r.tests.length<=100000)->qb P g10 [.agg (y5 y),.agg (qI x)] (.i .u32 (qdu y x)))
  (p:Pol) (hp:PolOk p) (hR:PolR p) (hm:wK p=true) (hf:0<=p.filter.mode) (d a:Int) (h0:0<=a) (ha6:a<6) (hd1:1<=d) (hd7:d<=7) (x:GData) (hx:DOk x) (own:Bool) (which:Int) {t':Tr AV} {h':Hp}
  (hw:Wk 0 t' h' (mkT [(1,.i .i64 d),(2,.i .i64 a),(4,.b own),(5,.i .i64 which),(6,.ptr 0 0),(9,.ptr 1 0)]) (mkH 0 [.cells 0 true false (qr p),.cells 0 true false (qI x)])) :
  S P 0 (zp g1 g2 g3 g4 g5 g6 g7 g8 g9 g10) (jJ [.tmp 12] fun v' h'=>Frz h' v' (.b true)) t' h':=by
 refine S.weak hw (qP ?_);simp only[zp,qr,qI,vI,simprocAttr];cases own with
 | false =>
  simp (decide:=true) only [↓vS,vT,simprocAttr];refine qbo h3 h6 h7 h8 h9 h10 p hp hR hm hf d a h0 ha6 hd1 hd7 x hx (Wk.mk _ _ [0,1] ?_ ?_ ?_ rfl)
  ·simp[vw]
  ·simp[vw,qr,qI,ql,qc,qe]
  ·simp
 | true =>
  have hpos:=qfI h0 ha6;have hlen:=qcj a;have hne:¬((xY a).length:Int)=0:=by omega
  have hwl:IntKind.wrap .u64 ((xY a).length:Int)=(xY a).length:=qak (by omega) (by omega);have hnz:((xY a).length:Int)≠0:=hne;obtain⟨k,hk,hkl⟩:=qb9 which ((xY a).length:Int) (by omega) (by omega);have hlt:k<(xY a).length:=by omega
  have hx0:(xY a)[k]?=some (xY a)[k]:=List.getElem?_eq_getElem hlt;have g1:(rC (xY a))[k*2+1]?=some (.i .u32 (xY a)[k].act):=qdH hx0 (i:=1) (by decide);have h5':=h5 a h0 ha6;generalize (xY a)[k]=c at g1;generalize xY a=L at *;simp (decide:=true) only [↓vS,vT,simprocAttr];refine (h4 a h0 ha6).sc ?_;simp (decide:=true) only [↓vS,vT,simprocAttr];refine h5'.sc ?_;simp (decide:=true) only [↓vS,vT,simprocAttr,hne,hwl,↓qbL hnz,hk,hlt,g1];refine qbo h3 h6 h7 h8 h9 h10 p hp hR hm hf d a h0 ha6 hd1 hd7 { x with nr:=c.act,arch:=qhO a } ⟨hx.a0,hx.a1,hx.a2⟩ (Wk.mk _ _ [0,1] ?_ ?_ ?_ rfl)
  ·simp[vw]
  ·simp[vw,qr,qI,ql,qc,qe]
  ·simp
theorem qkB(hc:qt P f (xt g1 g2 g3 g4 g5 g6 g7 g8 g9 g10)=true)(h1:∀p a,qb P g1 [.agg (qr p),.agg (qlk a)] (.b (xE p a)))(h2:∀p,PolOk p->qb P g2 [.agg (qr p)] (.b (wK p)))(h3:qb P g3 [] (.b true))(h4:∀a,0<=a->a<6->qb P g4 [.i .i64 a] (.tup [.i .u32 (qhO a),.i .i64 0]))(h5:qko P g5)(h6:qis P g6)(h7:∀t n,qb P g7 [.i .u32 t,.i .u32 n] (.tup [.i .i64 (ofM t n).1,.b (ofM t n).2]))(h8:∀(xs:List Int) (x:Int),xs.length<=qg->qb P g8 [.fz xs.length (rI .i64 xs),.i .i64 x] (.b (inA xs x)))(h9:qdS P g9)
  (h10:∀(y:GFil) (x:GData),y.rules.length<=100000->(∀r ∈ y.rules,r.tests.length<=100000)->qb P g10 [.agg (y5 y),.agg (qI x)] (.i .u32 (qdu y x)))
  (p:Pol) (hR:PolR p) (hf:0<=p.filter.mode) (d a:Int) (x:GData) (hx:DOk x) (own:Bool) (which:Int) :
  qb P f [.agg (qr p),.i .i64 d,.i .i64 a,.agg (qI x),.b own,.i .i64 which] (.b true):=by
 refine qb.mk hc rfl ?_;simp only[xt,qr,qI,vI,simprocAttr];simp only[↓vS,vT,simprocAttr];have k1:=h1 p qoj;simp only[qr] at k1;refine k1.sc ?_;cases hG:xE p qoj with
 | true =>
  simp (decide:=true) only [↓vS,vT,simprocAttr];refine h3.sc ?_;simp (decide:=true) only [↓vS,vT,simprocAttr];simp[vZ]
 | false =>
  obtain⟨hp,_⟩:=qdx hG;have k2:=h2 p hp;simp only[qr] at k2;simp (decide:=true) only [↓vS,vT,simprocAttr];refine k2.sc ?_;cases hm:wK p with
  | false =>
   simp (decide:=true) only [↓vS,vT,simprocAttr];refine h3.sc ?_;simp (decide:=true) only [↓vS,vT,simprocAttr];simp[vZ]
  | true =>
   obtain⟨k,e1,e2⟩:=qb9 d 7 (by decide) (by decide);obtain⟨m,e3,e4⟩:=qb9 a 6 (by decide) (by decide);have h7z:(7:Int)≠0:=by decide
   have h6z:(6:Int)≠0:=by decide
   have hw:IntKind.wrap .i64 (1+(k:Int))=1+(k:Int):=zg (by omega) (by omega);simp (decide:=true) only [↓vS,vT,simprocAttr,↓qbL h7z,↓qbL h6z,e1,e3,hw];refine qe5 h3 h4 h5 h6 h7 h8 h9 h10 p hp hR hm hf (1+(k:Int)) (m:Int) (by omega) (by omega) (by omega) (by omega) x hx own which (Wk.mk _ _ [0,1] ?_ ?_ ?_ rfl)
   ·simp[vw]
   ·simp[vw,qr,qI,ql,qc,qe]
   ·simp
end
end Go.Kc
end
section
/- The kit's law of slices.SortFunc, as an updating call on a row of rules. No condition. -/
namespace Go.Kc
open Go.Sort Go.Proofs Go.Shelf Go.RowKit
variable {P:Program} {f g:Nat}
def qh1(P:Program)(f g:Nat):Prop :=
 (∀(a:Option Addr) (cap:Nat) (w:World),Calls P f #[.slice a 0 cap,.func (.func g) #[] #[]] w fun e w'=>e = .returned (.tuple #[])∧w'=w) ∧
 ∀(n:Nat) (i0:Inhabited (Fin n)) (nr:Fin n->Int) (cs:Fin n->List Value),(∀i j,nr i=nr j->i=j)->(∀i,∃t u,cs i=[.int .u32 (nr i),t,u]∧t.oneCell'=true∧u.oneCell'=true)->
  ∀(blk off cap:Nat) (w:World),HoldsK cs 3 w blk off (List.finRange n).toArray->blk<w.heap.size->n<4611686018427387904->
   Calls P f #[.slice (some ⟨blk,off,none⟩) n cap,.func (.func g) #[] #[]] w fun e w'=>e = .returned (.tuple #[])∧∃q os,w'=sortWorldK cs 3 w blk off q ((List.finRange n).mergeSort fun x y=>decide (nr x<=nr y)).toArray os
theorem qhK(rs:List GRule)(hn:(rs.map GRule.nr).Nodup):zQ rs=((List.finRange rs.length).mergeSort fun x y=>decide ((rs[x]).nr<=(rs[y]).nr)).map fun i=>rs[i]:=by
 have e:(List.finRange rs.length).map (fun i=>rs[i])=rs:=by
  apply List.ext_getElem
  ·simp
  ·intro i h1 h2;simp
 have p1:(((List.finRange rs.length).mergeSort fun x y=>decide ((rs[x]).nr<=(rs[y]).nr)).map fun i=>rs[i]).Perm rs:=by
  have:=(List.mergeSort_perm (List.finRange rs.length) fun x y=>decide ((rs[x]).nr<=(rs[y]).nr)).map (fun i=>rs[i])
  rw[e] at this;exact this
 refine QS GRule.nr (Qt hn) ?_ fun r=>by rw[qbG];exact p1.mem_iff.symm
 have h1:((List.finRange rs.length).mergeSort fun x y=>decide ((rs[x]).nr<=(rs[y]).nr)).Pairwise (fun x y=>decide ((rs[x]).nr<=(rs[y]).nr)=true):=List.pairwise_mergeSort (fun a b c h1 h2=>by simp at *;omega) (fun a b=>by simp;omega) _
 have h2:((((List.finRange rs.length).mergeSort fun x y=>decide ((rs[x]).nr<=(rs[y]).nr)).map fun i=>rs[i]).map GRule.nr).Nodup:=(p1.map GRule.nr).nodup_iff.2 hn
 have h3:=List.pairwise_map.1 (List.pairwise_map.1 h2);refine List.pairwise_map.2 ((h1.and h3).imp ?_);intro a b ⟨h,h'⟩;simp at h h' ⊢;omega
theorem Wk.same{n:Nat}{t:Tr AV}{h:Hp}(hn:n<=h.sz):Wk n t h t h:=fun ρ B w tm ht r=>⟨ρ,ht,r,Kep.refl ρ B hn w⟩
theorem qo9(hcod:qdU P f)(hK:qh1 P f g):qar P f g:=by
 intro rs hl hn;refine⟨by simp[xS,bnd,qi],by simp,trivial,?_⟩
 intro ρ B w args r ha;have hsl:(zQ rs).length=rs.length:=List.length_mergeSort _;generalize hA:args.toList=L at ha;cases ha with
 | cons _ _ _ _ a1 a2 =>
  rename_i v1 vs1;cases a2 with
  | cons _ _ _ _ b1 b2 =>
   rename_i v2 vs2;cases b2;have hargs:args = #[v1,v2]:=by apply Array.ext';rw[hA]
   obtain⟨a',c',h7,h8,rfl⟩:=b1.un_fn
   have ea:a' = #[]:=by
    apply Array.ext';generalize a'.toList=X at h7;cases h7;rfl
   have ec:c' = #[]:=by
    apply Array.ext';generalize c'.toList=X at h8;cases h8;rfl
   subst ea ec hargs
   have zero:∀(a:Option Addr) (cap:Nat),rs=[]->v1 = .slice a 0 cap->qbJ P σ0 f #[v1,.func (.func g) #[] #[]] ρ B (mkH 0 [.cells 3 true true (rR rs)]) w (qfC [Blk.cells 3 true true (rR rs)].length (.tup []) [.cells 3 true true (rR (zQ rs))]):=by
    rintro a cap rfl rfl;refine .inl ⟨hcod,(hK.1 a cap w).mono ?_⟩;rintro e w' ⟨rfl,rfl⟩;have e0:zQ []=[]:=by unfold zQ;simp
    rw[e0];refine⟨.tup [],.tuple #[],mkH 0 [.cells 3 true true (rR [])],ρ,rfl,?_,.tup [] #[] .nil,r,Kept.refl _ _ _ _⟩;exact fun _=>Wk.same (Nat.le_refl _)
   generalize hrl:rs.length=n at a1;cases a1 with
   | own0 _ ad hb=>exact zero ad 0 (List.eq_nil_of_length_eq_zero hrl) rfl
   | own _ _ cap L0 h0 h1 h2 =>
    by_cases hz:rs=[]
    ·exact zero _ cap hz (by rw[← hrl,hz];rfl)
    have hn0:0<rs.length:=List.length_pos_iff.2 hz;obtain⟨q1,c,ty,fz,q2,q3,q4,q5,q6⟩:=r.cells 0 L0 3 true true (rR rs) h0 (by rw[zO];rfl);have hRl:(rR rs).length=rs.length*3:=QO;subst hrl
    let i0:Inhabited (Fin rs.length):=⟨⟨0,hn0⟩⟩
    let cs:Fin rs.length->List Value:=fun i=>[c[L0.off+(i.val*3+0)]!,c[L0.off+(i.val*3+1)]!,c[L0.off+(i.val*3+2)]!]
    have hcell:∀(i:Fin rs.length) (k:Nat),k<3->∃a,(x5 rs[i])[k]?=some a∧VR σ0 ρ a (c[L0.off+(i.val*3+k)]!):=by
     intro i k hk;have hx:rs[i.val]?=some rs[i]:=List.getElem?_eq_getElem i.isLt;have hg:=qhz hx hk
     have ⟨a,ha⟩:∃a,(x5 rs[i])[k]?=some a:=by
      have:k<(x5 rs[i]).length:=hk;exact⟨_,List.getElem?_eq_getElem this⟩
     obtain⟨v',k1,k2⟩:=q5 (i.val*3+k) a (by rw[hg];exact ha);refine⟨a,ha,?_⟩;have:c[L0.off+(i.val*3+k)]! = v':=by rw[Array.getElem!_eq_getD,Array.getD_eq_getD_getElem?,k1];rfl
     rw[this];exact k2
    have hcs:∀i,∃t u,cs i=[.int .u32 (rs[i]).nr,t,u]∧t.oneCell'=true∧u.oneCell'=true:=by
     intro i;obtain⟨x0,e0,k0⟩:=hcell i 0 (by decide);obtain⟨x1,e1,k1⟩:=hcell i 1 (by decide);obtain⟨x2,e2,k2⟩:=hcell i 2 (by decide);simp[x5] at e0 e1 e2;subst e0 e1 e2;have hσ:xo σ0:=fun _=>rfl
     refine⟨c[L0.off+(i.val*3+1)]!,c[L0.off+(i.val*3+2)]!,?_,QA hσ k1 rfl,QA hσ k2 rfl⟩;have:c[L0.off+(i.val*3+0)]! = .int .u32 (rs[i]).nr:=k0.un_i;simp only[cs,this]
    have hlen:∀i,(cs i).length=3:=fun _=>rfl
    have hfl:∀(d:Array (Fin rs.length)) (t:Nat),t<d.size*3->(flatK cs 3 d)[t]! = c[L0.off+((d[t / 3]!).val*3+t % 3)]!:=by
     intro d t ht;rw[get_flatK cs 3 d t ht];have:t % 3=0∨t % 3=1∨t % 3=2:=by omega
     rcases this with e|e|e<;>rw[e]<;>rfl
    have hsz:(List.finRange rs.length).toArray.size=rs.length:=by simp
    have hH:HoldsK cs 3 w L0.blk L0.off (List.finRange rs.length).toArray:=by
     intro j hj;have hj':j<rs.length*3:=by simpa[hsz] using hj
     have hcj:L0.off+j<c.size:=by omega
     constructor
     ·show (match w.heap[L0.blk]? with|some (.cells c _ _)=>if (none:Option _).isSome then none else c[L0.off+j]? | _=>none)=_
      rw[q2];have e1:c[L0.off+j]?=some c[L0.off+j]!:=by rw[getElem!_pos c _ hcj];exact Array.getElem?_eq_getElem hcj
      show c[L0.off+j]?=_;rw[e1];have e2:=hfl (List.finRange rs.length).toArray j (by rw[hsz];exact hj')
      have e3:((List.finRange rs.length).toArray[j / 3]!).val=j / 3:=by
       rw[getElem!_pos _ _ (by rw[hsz];omega)];simp
      rw[e3,show j / 3*3+j % 3=j by omega] at e2
      show _=some (id (flatK cs 3 _)[j]!);rw[id,e2]
     ·show (match w.heap[L0.blk]? with|some (.cells _ _ (lo,hi))=>decide (lo<=L0.off+j)&&decide (L0.off+j<hi)|_=>false)=false
      rw[q2];have:=q6 rfl (L0.off+j) (.inl (by omega));obtain⟨lo,hi⟩:=fz;simp only at this ⊢;rw[Bool.and_eq_false_iff,decide_eq_false_iff_not,decide_eq_false_iff_not];omega
    have hblk:L0.blk<w.heap.size:=(Array.getElem?_eq_some_iff.1 q2).1;refine .inl ⟨hcod,(hK.2 rs.length i0 (fun i=>(rs[i]).nr) cs ?_ hcs L0.blk L0.off cap w hH hblk (by omega)).mono ?_⟩
    ·intro i j hij;have hx:(rs.map GRule.nr)[i.val]'(by simp)=(rs.map GRule.nr)[j.val]'(by simp):=by simpa using hij
     exact Fin.ext ((List.getElem_inj hn).1 hx)
    rintro e w' ⟨rfl,q,os,hw'⟩;have hsm:=qhK rs hn;generalize hD:(List.finRange rs.length).mergeSort (fun x y=>decide ((rs[x]).nr<=(rs[y]).nr))=D at hw' hsm
    have hDl:D.length=rs.length:=by rw[← hD,List.length_mergeSort];simp
    have hFs:(flatK cs 3 D.toArray).size=rs.length*3:=by rw[size_flatK];simp[hDl]
    have hv:VRs σ0 ρ (rR (zQ rs)) (flatK cs 3 D.toArray).toList:=by
     have el1:=QO (l:=zQ rs);have el2:(flatK cs 3 D.toArray).toList.length=rs.length*3:=by rw[Array.length_toList];exact hFs
     refine VRs.of_get (by omega) fun t a ht=>?_
     have htl:t<rs.length*3:=by
      have:=(List.getElem?_eq_some_iff.1 ht).1;omega
     have hj:t / 3<D.length:=by omega
     have hDa:D.toArray[t / 3]! = D[t / 3]:=by rw[getElem!_pos _ _ (by simpa using hj)];rfl
     refine⟨(flatK cs 3 D.toArray)[t]!,?_,?_⟩
     ·rw[getElem!_pos (flatK cs 3 D.toArray) t (by rw[hFs];exact htl)];simp[hFs,htl]
     ·rw[hfl D.toArray t (by simp[hDl];exact htl),hDa];obtain⟨a',k1,k2⟩:=hcell D[t / 3] (t % 3) (by omega);have hx:(zQ rs)[t / 3]?=some rs[D[t / 3]]:=by rw[hsm,List.getElem?_map,List.getElem?_eq_getElem hj];rfl
      have hg:=qhz hx (i:=t % 3) (by omega);rw[show t / 3*3+t % 3=t by omega,ht] at hg
      rw[k1] at hg;cases hg;exact k2
    have hspl:Spl c (L0.off+0) (flatK cs 3 D.toArray).toList (putCells id L0.off (flatK cs 3 D.toArray) c):=by
     refine⟨by simp[putCells],fun j hj=>?_,fun j v hj=>?_⟩
     ·rw[Array.length_toList] at hj;unfold putCells;rw[Array.getElem?_mapIdx];cases c[j]? with
      | none=>rfl
      | some x =>
       simp only[Option.map_some];rw[if_neg (by omega)]
     ·have hjl:j<(flatK cs 3 D.toArray).size:=by
       have:=(List.getElem?_eq_some_iff.1 hj).1;simpa using this
      have hjc:L0.off+j<c.size:=by omega
      unfold putCells;rw[Nat.add_zero,Array.getElem?_mapIdx,Array.getElem?_eq_getElem hjc];simp only[Option.map_some];rw[if_pos (by omega),Nat.add_sub_cancel_left,getElem!_pos (flatK cs 3 D.toArray) j hjl];rw[Array.getElem?_toList,Array.getElem?_eq_getElem hjl] at hj;exact hj
    have hheap:(putRowK cs 3 (Go.Sort.ahead w q) L0.blk L0.off D.toArray).heap=w.heap.setIfInBounds L0.blk (.cells (putCells id L0.off (flatK cs 3 D.toArray) c) ty fz):=by
     show w.heap.modify L0.blk (onCells _)=_;apply Array.ext_getElem?;intro k;rw[Array.getElem?_modify,Array.getElem?_setIfInBounds]
     by_cases hk:L0.blk=k
     ·subst hk;rw[if_pos rfl,if_pos rfl,if_pos hblk,q2];rfl
     ·rw[if_neg hk,if_neg hk]
    have el3:=QO (l:=zQ rs);obtain⟨r2,k2⟩:=r.store (w':=putRowK cs 3 (Go.Sort.ahead w q) L0.blk L0.off D.toArray) h0 (by rw[zO];rfl) (Nat.le_refl _) 0 (rR (zQ rs)) _ hv (by omega) q2 hspl hheap ⟨rfl,rfl⟩
    have hY:(rR rs).take 0++(rR (zQ rs)++(rR rs).drop (0+(rR (zQ rs)).length))=rR (zQ rs):=by
     rw[List.drop_of_length_le (by omega)];simp
    rw[hY] at r2 k2;have hh:(mkH 0 [.cells 3 true true (rR rs)]).put 0 (.cells 3 true true (rR (zQ rs)))=mkH 0 [.cells 3 true true (rR (zQ rs))]:=rfl;rw[hh] at r2 k2
    have hg:∀n,n<(putRowK cs 3 (Go.Sort.ahead w q) L0.blk L0.off D.toArray).heap.size->w'.heap[n]?=(putRowK cs 3 (Go.Sort.ahead w q) L0.blk L0.off D.toArray).heap[n]?:=by
     intro n hn;rw[hw'];exact Array.getElem?_append_left hn
    have hsz':(putRowK cs 3 (Go.Sort.ahead w q) L0.blk L0.off D.toArray).heap.size<=w'.heap.size:=by
     rw[hw'];show _<=(_++os).size;rw[Array.size_append];exact Nat.le_add_right _ _
    have r3:=r2.world hg hsz';refine⟨.tup [],.tuple #[],_,ρ,rfl,fun _=>Wk.same (Nat.le_refl _),.tup [] #[] .nil,r3,k2.trans ?_⟩
    have hio:w'.os=w.os∧w'.output=w.output:=by rw[hw'];exact⟨rfl,rfl⟩
    exact⟨fun _ _=>rfl,Nat.le_refl _,rfl,fun _ _ _=>rfl,fun k hk=>hg k (r2.base k hk),hsz',hio,fun _ _ h=>h,fun _ _ h=>.inl h,Nat.le_refl _⟩
end Go.Kc
end
