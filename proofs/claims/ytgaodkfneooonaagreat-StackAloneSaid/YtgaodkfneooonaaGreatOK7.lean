/- Part 7 of the abstract machine and of the functions' walks. Conditions: with each theorem. -/
import Derived.Test.YtgaodkfneooonaaGreatOK6
import Derived.Shelf.GgSortFunc.InsertionK
import Derived.Lib.Join
import Derived.Below
import Derived.Lib.ItoaLen
set_option maxHeartbeats 4000000
set_option linter.defProp false
set_option linter.unusedSectionVars false
set_option linter.unusedSimpArgs false
set_option linter.unusedVariables false
set_option linter.unnecessarySimpa false
section
namespace Go.Kc
variable {P:Program} {f:Nat}
def jd(rs:List GRule):List GRule:=rs.mergeSort λx y=>decide (x.nr<=y.nr)
def qlj(P:Program)(f c:Nat):Prop:=∀rs:List GRule,rs.length<=100000->(rs.map GRule.nr).Nodup->
 Upd P f [.own 0 rs.length,.fn c [] []] [.cells 3 true true (rR rs)] (.tup []) [.cells 3 true true (rR (jd rs))]
def qdV(d:Int):Option (Pol->Int->Bool×List GRule×Int) :=
 if d=1 then some qlu else if d=2 then some qlP else if d=3 then some fmM else if d=4 then some nsM else if d=5 then some weM else if d=6 then some peM else if d=7 then some rtM else none
noncomputable def qg8(p:Pol)(d a:Int):Bool:=decide (0<=d)&&decide (d<8)&&(decide (0<=a)&&decide (a<6))&&qhK p&&inA p.arches a
noncomputable def qfp(p:Pol)(d a:Int):Option GFil :=
 if qg8 p d a=true then(qdV d).bind λF=>if(F p a).1=true then some ⟨a,jd (F p a).2.1,(F p a).2.2⟩else none else none
def qnB:Option GFil->AV
 | some x=>.tup [.agg (zq x),.b true]
 | none=>.tup [.agg [.i .i64 0,.fz 0 [],.i .u32 0],.b false]
def qx2(F:Pol->Int->Bool×List GRule×Int):Prop:=∀p a,PolOk p->qhK p=true->0<=a->a<6->(F p a).2.1.length<=100000/\((F p a).2.1.map GRule.nr).Nodup
def qgc(a b c d e g h:Nat):IFn:=⟨[.cell 0 8 true],sq [.r [.q 0 (.alloc [.nilf,.nilf,.nilf,.nilf,.nilf,.nilf,.nilf,.nilf])],.r [.q 1 (.build [.nilf,.nilf,.nilf,.nilf,.nilf,.nilf,.nilf,.nilf] [(0,1,(.c (.nilf))),(1,1,(.c (.fn a [] []))),(2,1,(.c (.fn b [] []))),(3,1,(.c (.fn c [] []))),(4,1,(.c (.fn d [] []))),(5,1,(.c (.fn e [] []))),(6,1,(.c (.fn g [] []))),(7,1,(.c (.fn h [] [])))]),.u (.store 8 (.t 0) (.t 1))],.ret]⟩
def qBl{g1 g2 g3 g4 g5 g6 g7:Nat}(hc:qc P f (qgc g1 g2 g3 g4 g5 g6 g7)=true):qa P f [] (.agg [.nilf,.fn g1 [] [],.fn g2 [] [],.fn g3 [] [],.fn g4 [] [],.fn g5 [] [],.fn g6 [] [],.fn g7 [] []]):=by
 refine qa.mk hc rfl ?_;simp only[qgc,vI,simprocAttr];simp only[↓vS,vT,simprocAttr];simp[vZ]
def qbK(a b c d e g:Nat):ICode:=sq [.r [.n 51 8,.q 52 (.nilChk (.t 51)),.f 53 13 52,.f 54 1 53,.d 55 54,.l 56 e [.t 55,(.c (.fn g [] []))]],.r [.n 57 8,.q 58 (.nilChk (.t 57)),.f 59 13 58,.v 60 3 59,.u (.store 3 (.t 6) (.t 60)),.m 7 .T],.ret]
def qbJ(a b c d e g:Nat):ICode:=sq [sq [.r [.l 39 d [],.n 40 1,.q 41 (.idxA 8 1 false (.t 39) (.t 40)),.n 9 41],.r [.n 42 9,.q 43 (.eqN false .func (.t 42)),.n 44 43,.z 45 9 44,.z 46 8 44,⟨(some 47),.callV (.t 45) [.t 46],(some (44,false))⟩,.g 48 (.un .not (.t 47)) 44 false,.o 49 44 48],.cond (.t 49) (sq [.r [.q 50 (.build [.j 0,.nils,.w 0] []),.u (.store 3 (.t 6) (.t 50)),.m 7 .F],.ret]) (.skip)],.cut (qbK a b c d e g)]
def qbI(a b c d e g:Nat):ICode:=sq [.r [.v 34 13 3,.n 35 2,.q 36 (.build [.j 0,.nils,.w 0] [(0,1,(.t 35)),(2,1,(.c (.w 2147418112)))]),.q 37 (.build [.nils,.y 0,.nils,.w 0,.y 0,.nils,.nils,.y 0,.x 0,.b false,.b false,.b false,.b false,.j 0,.nils,.w 0] [(0,13,(.t 34)),(13,3,(.t 36))]),.q 38 (.box (.t 37)),.n 8 38],.cut (qbJ a b c d e g)]
def qgN(a b c d e g:Nat):IFn:=⟨[.cell 6 3 true,.tmp 7],sq [.r [.q 3 (.box (.t 0)),.q 6 (.alloc [.j 0,.nils,.w 0]),.m 7 .F],sq [.r [.n 10 1,.w 11 .lss 10 0,.n 12 11,.z 13 1 12,.g 14 (.bin .geq (.t 13) (.k 8)) 12 false,.o 15 12 14,.n 16 15,.z 17 2 16,⟨(some 18),.callF a [.t 17],(some (16,false))⟩,.g 19 (.bin .eql (.t 18) (.c (.s []))) 16 false,.o 20 16 19,.n 21 20,.g 22 (.loadN 13 (.t 3)) 21 false,⟨(some 23),.callF b [.t 22],(some (21,false))⟩,.g 24 (.un .not (.t 23)) 21 false,.o 25 21 24,.n 26 25,.h 27 0 3 26 false,.j 28 27 26 false,.z 29 2 26,⟨(some 30),.callF c [.t 28,.t 29],(some (26,false))⟩,.g 31 (.un .not (.t 30)) 26 false,.o 32 26 31],.cond (.t 32) (sq [.r [.q 33 (.build [.j 0,.nils,.w 0] []),.u (.store 3 (.t 6) (.t 33)),.m 7 .F],.ret]) (.skip)],.cut (qbI a b c d e g)]⟩
def qwk{g1 g2 g3 g4 g5 g6:Nat}(h5:qlj P g5 g6)(p:Pol)(a d:Int)(rs:List GRule)(hr:rs.length<=100000)(hn:(rs.map GRule.nr).Nodup){t':Tr AV}{h':Hp}(hw:Wk 0 t' h' (mkT [(6,.ptr 0 0),(7,.b false),(8,.ptr 1 0)]) (mkH 0 [.v [.j 0,.nils,.w 0],mkB p a d 2 rs.length,.cells 3 true true (rR rs)])) :
  S P 0 (qbK g1 g2 g3 g4 g5 g6) (xu [.cell 6 3 true,.tmp 7] λv' h'=>Frz h' v' (qnB (some ⟨a,jd rs,d⟩))) t' h':=by
 refine S.weak hw (qk ?_);simp only[qbK,mkB,mkC,qx,zzC,zzN,vI,simprocAttr];simp only[↓vS,vT,simprocAttr];refine(h5 rs hr hn).sc (vs:=[.own 0 rs.length,.fn g6 [] []]) [2] (Lent.of (by decide) ?_) ?_
 .simp[vL,vw,qu qq,qf qq]
 simp only[vK,simprocAttr,qf qq];simp only[↓vS,vT,simprocAttr];have hsl:(jd rs).length=rs.length:=List.length_mergeSort _;simp only[qnB,zq,hsl];refine .tup _ _ (.cons _ _ _ _ (.agg _ _ (.cons _ _ _ _ (.i _ _) (.cons _ _ _ _ (.own 2 _ 3 true (rR (jd rs)) _ ?_ (λh0=>?_) (Frzs.self qq)) (.cons _ _ _ _ (.i _ _) .nil)))) (.cons _ _ _ _ (.b _) .nil))
 .simp[Tr.get_set]
 .rw[List.eq_nil_of_length_eq_zero (hsl.trans h0)];rfl
def qwj{g1 g2 g3 g4 g5 g6 m1 m2 m3 m4 m5 m6 m7:Nat}(h4:qa P g4 [] (.agg [.nilf,.fn m1 [] [],.fn m2 [] [],.fn m3 [] [],.fn m4 [] [],.fn m5 [] [],.fn m6 [] [],.fn m7 [] []]))(h5:qlj P g5 g6)
  (hm1:zZ P m1 qlu) (hm2:zZ P m2 qlP) (hm3:zZ P m3 fmM) (hm4:zZ P m4 nsM) (hm5:zZ P m5 weM) (hm6:zZ P m6 peM) (hm7:zZ P m7 rtM)
  (hM:∀d F,qdV d=some F->qx2 F) (p:Pol) (hp:PolOk p) (hR:PolR p) (a d:Int) (ha:0<=a) (ha6:a<6) (hmay:qhK p=true) (hd0:0<=d) (hd8:d<8) {t':Tr AV} {h':Hp} (hw:Wk 0 t' h' (mkT [(1,.j d),(6,.ptr 0 0),(7,.b false),(8,.ptr 1 0)]) (mkH 0 [.v [.j 0,.nils,.w 0],mkB p a 2147418112 2 0,.cells 3 true true (rR [])])) :
  S P 0 (qbJ g1 g2 g3 g4 g5 g6) (xu [.cell 6 3 true,.tmp 7] λv' h'=>Frz h' v' (qnB ((qdV d).bind λF=>if(F p a).1=true then some ⟨a,jd (F p a).2.1,(F p a).2.2⟩else none))) t' h':=by
 refine S.weak hw (qk ?_);simp only[qbJ,mkB,mkC,qx,zzC,zzN,vI,simprocAttr];simp only[↓vS,vT,simprocAttr];refine h4.sc ?_;obtain⟨j,rfl⟩:∃j:Nat,d=j:=⟨d.toNat,by omega⟩
 have hj:j<8:=by omega
 by_cases h0:j=0
 .subst h0;simp only[↓vS,vT,simprocAttr];refine .tup _ _ (.cons _ _ _ _ (.agg _ _ (.cons _ _ _ _ (.i _ _) (.cons _ _ _ _ .nilz (.cons _ _ _ _ (.i _ _) .nil)))) (.cons _ _ _ _ (.b _) .nil))
 .have hh:∃g F,([.nilf,.fn m1 [] [],.fn m2 [] [],.fn m3 [] [],.fn m4 [] [],.fn m5 [] [],.fn m6 [] [],.fn m7 [] []]:List AV)[j]?=some (.fn g [] [])/\qdV j=some F/\zZ P g F:=by
   have:j=1\/j=2\/j=3\/j=4\/j=5\/j=6\/j=7:=by omega
   rcases this with rfl|rfl|rfl|rfl|rfl|rfl|rfl
   .exact⟨_,_,rfl,rfl,hm1⟩
   .exact⟨_,_,rfl,rfl,hm2⟩
   .exact⟨_,_,rfl,rfl,hm3⟩
   .exact⟨_,_,rfl,rfl,hm4⟩
   .exact⟨_,_,rfl,rfl,hm5⟩
   .exact⟨_,_,rfl,rfl,hm6⟩
   .exact⟨_,_,rfl,rfl,hm7⟩
  obtain⟨g,F,he,hF,hg⟩:=hh;obtain⟨hl,hn⟩:=hM _ _ hF p a hp hmay ha ha6;obtain⟨ok,rs,df,hFp⟩:∃ok rs df,F p a=(ok,rs,df):=⟨_,_,_,rfl⟩;have hu:=hg p a hp hR;have e:((qdV j).bind λF=>if(F p a).1=true then some (⟨a,jd (F p a).2.1,(F p a).2.2⟩:GFil)else none)=if ok=true then some ⟨a,jd rs,df⟩else none:=by rw[hF];grind
  rw[e];rw[hFp]at hl hn hu;dsimp only at hl hn hu;generalize([.nilf,.fn m1 [] [],.fn m2 [] [],.fn m3 [] [],.fn m4 [] [],.fn m5 [] [],.fn m6 [] [],.fn m7 [] []]:List AV)=L at he;simp only[↓vS,vT,simprocAttr,hj,zzU,he];refine hu.sc (vs:=[.ptr 0 0]) [1,2] (Lent.of (by decide) ?_) ?_
  .simp[vL,vw,mkB,mkC,qx,qu qq,qf qq,qu qn,qf qn,qu qh,qf qh]
  simp only[vK,simprocAttr,mkB,mkC,qx,zzC,zzN,qf qq,qf qn,qf qh];cases ok with
  | false =>
   simp only[↓vS,vT,simprocAttr];refine .tup _ _ (.cons _ _ _ _ (.agg _ _ (.cons _ _ _ _ (.i _ _) (.cons _ _ _ _ .nilz (.cons _ _ _ _ (.i _ _) .nil)))) (.cons _ _ _ _ (.b _) .nil))
  | true =>
   simp only[↓vS,vT,simprocAttr];refine qwk h5 p a df rs hl hn (Wk.mk _ _ [0,1,3] ?_ ?_ ?_ rfl)
   .simp[vw]
   .simp[vw,mkB,mkC,qx,qe,qq,qn,qh]
   .simp
def qwi{g1 g2 g3 g4 g5 g6 m1 m2 m3 m4 m5 m6 m7:Nat}(h4:qa P g4 [] (.agg [.nilf,.fn m1 [] [],.fn m2 [] [],.fn m3 [] [],.fn m4 [] [],.fn m5 [] [],.fn m6 [] [],.fn m7 [] []]))(h5:qlj P g5 g6)
  (hm1:zZ P m1 qlu) (hm2:zZ P m2 qlP) (hm3:zZ P m3 fmM) (hm4:zZ P m4 nsM) (hm5:zZ P m5 weM) (hm6:zZ P m6 peM) (hm7:zZ P m7 rtM)
  (hM:∀d F,qdV d=some F->qx2 F) (p:Pol) (hp:PolOk p) (hR:PolR p) (a d:Int) (ha:0<=a) (ha6:a<6) (hmay:qhK p=true) (hd0:0<=d) (hd8:d<8) {t':Tr AV} {h':Hp} (hw:Wk 0 t' h' (mkT [(1,.j d),(2,.j a),(3,.ptr 0 0),(6,.ptr 1 0),(7,.b false)]) (mkH 0 [.v (qx p),.v [.j 0,.nils,.w 0]])) :
  S P 0 (qbI g1 g2 g3 g4 g5 g6) (xu [.cell 6 3 true,.tmp 7] λv' h'=>Frz h' v' (qnB ((qdV d).bind λF=>if(F p a).1=true then some ⟨a,jd (F p a).2.1,(F p a).2.2⟩else none))) t' h':=by
 refine S.weak hw (qk ?_);simp only[qbI,qx,vI,simprocAttr];simp only[↓vS,vT,simprocAttr];refine qwj h4 h5 hm1 hm2 hm3 hm4 hm5 hm6 hm7 hM p hp hR a d ha ha6 hmay hd0 hd8 (Wk.mk _ _ [1,2,99] ?_ ?_ ?_ rfl)
 .simp[vw]
 .simp[vw,mkB,mkC,qx,qe,qq,qn,qh,rR]
 .simp
def qDk{g1 g2 g3 g4 g5 g6 m1 m2 m3 m4 m5 m6 m7:Nat}(hc:qc P f (qgN g1 g2 g3 g4 g5 g6)=true)(h1:∀a,qa P g1 [.j a] (.s (qhM a)))(h2:∀p,PolOk p->qa P g2 [.agg (qx p)] (.b (qhK p)))(h3:∀(xs:List Int) (x:Int),xs.length<=qi->qa P g3 [.fz xs.length (rI .i64 xs),.j x] (.b (inA xs x)))
  (h4:qa P g4 [] (.agg [.nilf,.fn m1 [] [],.fn m2 [] [],.fn m3 [] [],.fn m4 [] [],.fn m5 [] [],.fn m6 [] [],.fn m7 [] []])) (h5:qlj P g5 g6)
  (hm1:zZ P m1 qlu) (hm2:zZ P m2 qlP) (hm3:zZ P m3 fmM) (hm4:zZ P m4 nsM) (hm5:zZ P m5 weM) (hm6:zZ P m6 peM) (hm7:zZ P m7 rtM)
  (hM:∀d F,qdV d=some F->qx2 F) (p:Pol) (hp:PolOk p) (hR:PolR p) (d a:Int):qa P f [.agg (qx p),.j d,.j a] (qnB (qfp p d a)):=by
 have hl:=hp.a;refine qa.mk hc rfl ?_
 have no:qg8 p d a=false->∀{h:Hp},Frz h (.tup [.agg [.j 0,.nils,.w 0],.b false]) (qnB (qfp p d a)):=by
  intro h0 h;rw[qfp,h0];exact .tup _ _ (.cons _ _ _ _ (.agg _ _ (.cons _ _ _ _ (.i _ _) (.cons _ _ _ _ .nilz (.cons _ _ _ _ (.i _ _) .nil)))) (.cons _ _ _ _ (.b _) .nil))
 simp only[qgN,qx,vI,simprocAttr]
 by_cases k1:d<0
 .simp only[↓vS,vT,simprocAttr,k1];exact no (by simp only[qg8,decide_eq_false (by omega:¬0<=d)];simp)
 by_cases k2:8<=d
 .simp only[↓vS,vT,simprocAttr,k1,k2];exact no (by simp only[qg8,decide_eq_false (by omega:¬d<8)];simp)
 simp only[↓vS,vT,simprocAttr,k1,k2];refine(h1 a).sc ?_;have hN:=qoF a
 by_cases k3:qhM a=[]
 .have k3':(decide (0<=a)&&decide (a<6))=false:=by
   rw[Bool.eq_false_iff];simp_all
  simp only[↓vS,vT,simprocAttr,k3];exact no (by simp only[qg8,k3'];simp)
 have ⟨a0,a6⟩:=hN.1 k3;simp only[↓vS,vT,simprocAttr,k3];refine(h2 p hp).sc ?_;cases k4:qhK p with
 | false =>
  simp only[↓vS,vT,simprocAttr];exact no (by simp[qg8,k4])
 | true =>
  simp only[↓vS,vT,simprocAttr];refine(h3 p.arches a (by simp only[qi];omega)).sc ?_;cases k5:inA p.arches a with
  | false =>
   simp only[↓vS,vT,simprocAttr];exact no (by simp[qg8,k5])
  | true =>
   have hok:qg8 p d a=true:=by simp[qg8,k4,k5,a0,a6];omega
   have e:qfp p d a=(qdV d).bind λF=>if(F p a).1=true then some ⟨a,jd (F p a).2.1,(F p a).2.2⟩else none:=by rw[qfp,if_pos hok]
   rw[e];simp only[↓vS,vT,simprocAttr];refine qwi h4 h5 hm1 hm2 hm3 hm4 hm5 hm6 hm7 hM p hp hR a d a0 a6 k4 (by omega) (by omega) (Wk.mk _ _ [0,1] ?_ ?_ ?_ rfl)
   .simp[vw]
   .simp[vw,qx,qe,qn,qh]
   .simp
section
variable {l m:List GFil} {j:Nat}
end
def qyB(P:Program)(f:Nat):Prop:=∀p,PolOk p->PolR p->∀d a:Int,qa P f [.agg (qx p),.j d,.j a] (qnB (qfp p d a))
def qke:IFn:=⟨[.tmp 0],sq [.r [.m 0 .N],.r [.m 1 .N],sq [.r [.m 3 (.k 0)],.blk 0 (.loop (sq [.r [.w 4 .lss 3 6],.cond (.t 4) (.skip) (.exit 0),.blk 1 (sq [.r [.n 5 3,.n 2 5],.r [.n 6 1,.n 7 2,.q 8 (.buildS 1 [.j 0] [(0,1,(.t 7))]),.q 9 (.app 1 8 true (.t 6) (.t 8)),.n 1 9]]),.r [.a 10 3 1,.n 3 10]]))],.r [.n 11 1,.n 0 11],.ret]⟩
def qH2(hc:qc P f qke=true):qa P f [] (.fz 6 (rI .i64 [0,1,2,3,4,5])):=by
 refine qa.mk hc rfl ?_;simp only[qke,vI,simprocAttr];simp only[↓vS,vT,simprocAttr];refine SL.loop (α:=Nat) (λj=>[(1,.own 0 j),(3,.j j)]) (λj=>[.cells 1 true true (rI .i64 ([0,1,2,3,4,5].take j))]) (λj=>j<=6) (λj=>6-j) 0 [9] ?_ ?_ ?_ rfl ?_ ?_
 .simp[vw]
 .simp[vw,rI]
 .simp
 .omega
 rintro j hj G ih;simp only[vI,simprocAttr]
 by_cases hlt:j<6
 .have hlt':(j:Int)<6:=by omega
  have hw:IntKind.wrap .i64 ((j:Int)+1)=((j+1:Nat):Int):=by rw[qp (by omega) (by omega)];omega
  have hln:(rI .i64 (([0,1,2,3,4,5]:List Int).take j)).length=j:=by rw[qad];simp_all
  have htk:(rI .i64 (([0,1,2,3,4,5]:List Int).take j)).take j=rI .i64 (([0,1,2,3,4,5]:List Int).take j):=by grind
  have hap:rI .i64 (([0,1,2,3,4,5]:List Int).take j)++[AV.j (j:Int)]=rI .i64 (([0,1,2,3,4,5]:List Int).take (j+1)):=by
   have:j=0\/j=1\/j=2\/j=3\/j=4\/j=5:=by omega
   rcases this with rfl|rfl|rfl|rfl|rfl|rfl<;>rfl
  have hr1:j+1<=qi:=by simp only[qi];omega
  have hr2:(j+1)*8<=qi:=by simp only[qi];omega
  generalize hL:(([0,1,2,3,4,5]:List Int).take j)=L at *;simp +decide only[↓vS,vT,simprocAttr,hlt',zzU,hw,hr1,hr2,hln,htk,hap];refine ih (j+1) hlt (by omega) _ _ (Wk.mk _ _ [2] ?_ ?_ ?_ rfl)
  .simp[vw]
  .simp[vw,qe,qh]
  .simp
 .have hj':j=6:=by omega
  subst hj';have hlt':¬(((6:Nat):Int)<6):=by decide
  simp only[↓vS,vT,simprocAttr,hlt'];refine .own 0 6 1 true (rI .i64 [0,1,2,3,4,5]) _ ?_ (by omega) (Frzs.self qh);simp[Tr.get_set]


def qCM(l:List GCall)(s:List UInt8):Int:=match qri l s with|some c=>c.act|none=>0
def qBS(p:Pol)(s:List UInt8):Int:=if qCM p.filter.calls s=0 then(if p.filter.mode=1 then 2147418112 else p.deny)else qCM p.filter.calls s
def qqW(s:List UInt8):Int:=if s=qbT then 6 else if s=xb\/s=qU then 4 else if s=qap then 32768 else 0
def qAo(p:Pol)(d:Int)(s:List UInt8):Bool×List GTest×Int :=
 if d=1 then((qri p.filter.calls s).isSome,[],qBS p s)
 else if d=2 then((qri p.log.calls s).isSome,[],if p.log.mode=1 then 2147221504 else 2147418112)
 else if d=3 then(decide (s=xK),zr 0 4294967295 (if p.fmode=2 then 327777 else 2147418112) p.fams,if p.fmode=2 then 2147418112 else 327777)
 else if d=4 then(if s=xJ then(true,[],327718)else(decide (s=je)||decide (s=xj)||decide (s=jM),zU (if s=je then 1 else 0) 327681 (qaR p.spaces)++(if s=je then [⟨1,4294967295,0,327681⟩]else []),2147418112))
 else if d=5 then(decide (0<qqW s),[⟨2,qqW s,qqW s,327681⟩],2147418112)
 else if d=6 then(decide (s=zI),zr 0 4294967295 2147418112 [0,4294967295],327681)
 else(decide (s=qdh),zr 1 4294967295 2147418112 [0,3,5],327681)
section
variable {g1 g2:Nat}
end
section
variable {g1 g2:Nat}
end
def qs7(c:GCall):List GCall->List GCall
 | []=>[c]
 | x::l=>if c.act<=x.act then c::x::l else x::qs7 c l
def qsp(a:Int):List GCall:=(zp.filterMap λx=>(qfT x a).map λn=>(⟨x.1,n⟩:GCall)).foldr qs7 []
section
variable {g1 g2 g3 g4 g5:Nat}
end

end Go.Kc
end
section
namespace Go.Kc
def qno{α:Type}(k:α->Int):∀{l m:List α},l.Pairwise (λx y=>k x<k y)->m.Pairwise (λx y=>k x<k y)->(∀x,x ∈ l↔x ∈ m)->l=m
 | [],[],_,_,_=>rfl
 | [],y::m,_,_,h=>by have:=(h y).2 (by simp);simp_all
 | x::l,[],_,_,h=>by have:=(h x).1 (by simp);simp_all
 | x::l,y::m,hl,hm,h=>by
  obtain⟨h1,h2⟩:=List.pairwise_cons.1 hl;obtain⟨h3,h4⟩:=List.pairwise_cons.1 hm
  have e:x=y:=by
   rcases List.mem_cons.1 ((h x).1 (by simp))with e|e
   .exact e
   .rcases List.mem_cons.1 ((h y).2 (by simp))with e'|e'
    .exact e'.symm
    .have:=h3 x e;have:=h1 y e';omega
  subst e
  congr 1
  refine qno k h2 h4 λz=>?_
  grind
def qok{rs:List GRule}(hn:(rs.map GRule.nr).Nodup):(jd rs).Pairwise (λx y=>x.nr<y.nr):=by
 have h1:(jd rs).Pairwise (λx y=>decide (x.nr<=y.nr)=true):=List.pairwise_mergeSort (by grind) (by grind) rs
 have h2:((jd rs).map GRule.nr).Nodup:=((List.mergeSort_perm rs _).map GRule.nr).nodup_iff.2 hn;have h3:(jd rs).Pairwise (λx y=>x.nr≠y.nr):=(by grind)
 refine(h1.and h3).imp ?_
 grind
def qtW{rs:List GRule}{r:GRule}:r ∈ jd rs↔r ∈ rs:=(List.mergeSort_perm rs _).mem_iff
theorem qpj{c x:GCall}:∀{l:List GCall},x ∈ qs7 c l↔x=c\/x ∈ l
 | []=>by simp[qs7]
 | y::l=>by
  unfold qs7;split
  .simp
  .rw[List.mem_cons,qpj,List.mem_cons]
   grind
def qsq{a:Int}{c:GCall}:c ∈ qsp a↔∃x ∈ zp,qfT x a=some c.act/\x.1=c.name:=by
 unfold qsp
 have h1:∀l:List GCall,c ∈ l.foldr qs7 []↔c ∈ l:=by
  intro l;induction l<;>grind[qpj]
 rw[h1,List.mem_filterMap];constructor
 .rintro⟨x,hx,h⟩;cases hn:qfT x a<;>grind
 .rintro⟨x,hx,h,h2⟩;refine⟨x,hx,?_⟩;rw[h]
  simp_all
def qt0:(zp.map (·.1)).Nodup:=by decide +kernel
def qmQ{α:Type}(k:α->List UInt8){l:List α}(hn:(l.map k).Nodup){x:α}(hx:x ∈ l):l.find? (λy=>decide (k y=k x))=some x:=by
 induction l<;>grind
def qox{a:Int}{c:GCall}:c ∈ qsp a↔qgq a c.name=some c.act:=by
 rw[qsq];unfold qgq;constructor
 .rintro⟨x,hx,h,h2⟩;rw[<- h2,qmQ (·.1) qt0 hx];exact h
 .intro h;cases hf:zp.find? (λx=>decide (x.1=c.name))<;>grind
def qoy{a:Int}(h0:0<=a)(h6:a<6):(qsp a).Pairwise (λx y=>x.act<y.act):=by
 have:a=0\/a=1\/a=2\/a=3\/a=4\/a=5:=by omega
 rcases this with rfl|rfl|rfl|rfl|rfl|rfl<;>decide +kernel
theorem qzM{a:Int}(h0:0<=a)(h6:a<6){s t:List UInt8}{n:Int}(h1:qgq a s=some n)(h2:qgq a t=some n):s=t:=by
 have hs:(⟨s,n⟩:GCall) ∈ qsp a:=qox.2 h1;have ht:(⟨t,n⟩:GCall) ∈ qsp a:=qox.2 h2;have hp:=qoy h0 h6
 by_cases e:s=t
 .exact e
 .exfalso
  have:∀{l:List GCall},l.Pairwise (λx y=>x.act<y.act)->(⟨s,n⟩:GCall) ∈ l->(⟨t,n⟩:GCall) ∈ l->False:=by
   intro l;induction l with
   | nil=>intro _ h;simp at h
   | cons x l ih =>
    intro hl h1 h2;obtain⟨k1,k2⟩:=List.pairwise_cons.1 hl;rcases List.mem_cons.1 h1 with e1|e1<;>rcases List.mem_cons.1 h2 with e2|e2
    .rw[<- e2]at e1;simp at e1;exact e e1
    .subst e1;have:=k1 _ e2;simp at this
    .subst e2;have:=k1 _ e1;simp at this
    .exact ih k2 e1 e2
  simp_all
def qcS(a:Int)(g:List UInt8->List GTest×Int)(ns:List (List UInt8)):List GRule:=ns.filterMap λs=>(qgq a s).map λn=>⟨n,(g s).1,(g s).2⟩
def qvC{a:Int}{g:List UInt8->List GTest×Int}{ns:List (List UInt8)}{r:GRule}:r ∈ qcS a g ns↔∃s ∈ ns,qgq a s=some r.nr/\r.tests=(g s).1/\r.act=(g s).2:=by
 unfold qcS;rw[List.mem_filterMap];constructor
 .rintro⟨s,hs,h⟩;cases hn:qgq a s<;>grind
 .rintro⟨s,hs,h,h2,h3⟩;refine⟨s,hs,?_⟩;rw[h];cases r;simp_all
def qqw{a:Int}(h0:0<=a)(h6:a<6){g:List UInt8->List GTest×Int}{ns:List (List UInt8)}(hn:ns.Nodup):((qcS a g ns).map GRule.nr).Nodup:=by
 induction ns with
 | nil=>exact List.nodup_nil
 | cons s ns ih =>
  obtain⟨h1,h2⟩:=List.nodup_cons.1 hn;unfold qcS;rw[List.filterMap_cons];cases hs:qgq a s with
  | none=>exact ih h2
  | some n =>
   simp only[Option.map_some,List.map_cons];refine List.nodup_cons.2 ⟨?_,ih h2⟩;intro hm;obtain⟨r,hr,e⟩:=List.mem_map.1 hm;obtain⟨t,ht,k1,_,_⟩:=qvC.1 hr;rw[e]at k1
   grind[qzM]
def qvB{a:Int}{g:List UInt8->List GTest×Int}{ns:List (List UInt8)}:(qcS a g ns).length<=ns.length:=List.length_filterMap_le _ _
def qgC{a:Int}{g:List UInt8->List GTest×Int}{ns ms:List (List UInt8)}:qcS a g (ns++ms)=qcS a g ns++qcS a g ms:=List.filterMap_append
def jC{a act:Int}{ts:List GTest}{g:List UInt8->List GTest×Int}:∀{ns:List (List UInt8)},(∀s ∈ ns,g s=(ts,act))->zc a act ts ns=qcS a g ns
 | [],_=>rfl
 | s::ns,h=>by
  have e:=jC (a:=a) (ns:=ns) λt ht=>h t (List.mem_cons_of_mem _ ht)
  unfold zc qcS at *;rw[List.filterMap_cons,List.filterMap_cons,e,h s (by simp)]
def qjY{l:GList}(h:qd3 l=true):(l.calls.map (·.name)).Nodup:=by
 have h2:=((qwn l).1 h).2.2;exact List.pairwise_map.2 (List.Pairwise.imp (λhab=>qDl hab) h2)
def qqC{p:Pol}(h:qhK p=true):qd3 p.filter=true/\qd3 p.log=true:=by
 unfold qhK qde at h
 simp_all
def qs1{l:List GCall}(hn:(l.map (·.name)).Nodup){c:GCall}(hc:c ∈ l):qri l c.name=some c:=qmQ GCall.name hn hc
def qlx{a:Int}{g:List UInt8->List GTest×Int}{A:GCall->Int}:∀{l:List GCall},(∀c ∈ l,g c.name=([],A c))->(l.flatMap λc=>zc a (A c) [] [c.name])=qcS a g (l.map (·.name))
 | [],_=>rfl
 | c::l,h=>by
  have e:=qlx (a:=a) (A:=A) (l:=l) λx hx=>h x (List.mem_cons_of_mem _ hx)
  rw[List.flatMap_cons,e,jC (g:=g) (by simp_all),<- qgC];rfl
def qGS(p:Pol)(s:List UInt8):List GTest×Int:=([],qBS p s)
def qy4{p:Pol}{a:Int}(hm:qd3 p.filter=true):(qlu p a).2.1=qcS a (qGS p) (p.filter.calls.map (·.name)):=by
 refine qlx λc hc=>?_
 have hf:=qs1 (qjY hm) hc;simp only[qGS,qBS,qCM,hf]
def qIB(p:Pol)(_:List UInt8):List GTest×Int:=([],if p.log.mode=2 then 2147418112 else 2147221504)
def qzz{p:Pol}{a:Int}:(qlP p a).2.1=qcS a (qIB p) (p.log.calls.map (·.name)):=qlx (A:=λ_=>if p.log.mode=2 then 2147418112 else 2147221504) λ_ _=>rfl
def qiX(p:Pol)(d:Int)(s:List UInt8):List GTest×Int:=(qAo p d s).2
def qy3{p:Pol}{a:Int}:(fmM p a).2.1=qcS a (qiX p 3) [xK]:=jC λ_ _=>rfl
def nsL:List (List UInt8):=[xj,jM,je,xJ]
def qDH{p:Pol}{a:Int}:(nsM p a).2.1=qcS a (qiX p 4) nsL:=by
 have h1:zc a 2147418112 (zU 0 327681 (qaR p.spaces)) [xj,jM]=qcS a (qiX p 4) [xj,jM]:=jC λs hs=>by
  simp only[List.mem_cons,List.not_mem_nil,or_false]at hs;rcases hs with rfl|rfl<;>simp (decide:=true) [qiX,qAo,xj,jM,xJ,je]
 have h2:zc a 2147418112 (zU 1 327681 (qaR p.spaces)++zr 1 4294967295 327681 [0]) [je]=qcS a (qiX p 4) [je]:=jC λs hs=>by
  simp only[List.mem_cons,List.not_mem_nil,or_false]at hs;subst hs;simp (decide:=true) [qiX,qAo,xJ,je,zr]
 have h3:zc a 327718 [] [xJ]=qcS a (qiX p 4) [xJ]:=jC λs hs=>by
  simp only[List.mem_cons,List.not_mem_nil,or_false]at hs;subst hs;simp (decide:=true) [qiX,qAo]
 show _++_++_=_;rw[h1,h2,h3,<- qgC,<- qgC];rfl
def weL:List (List UInt8):=[qbT,xb,qU,qap]
def qE8{p:Pol}{a:Int}:(weM p a).2.1=qcS a (qiX p 5) weL:=by
 have h1:zc a 2147418112 (zU 2 327681 [6]) [qbT]=qcS a (qiX p 5) [qbT]:=jC λs hs=>by
  simp only[List.mem_cons,List.not_mem_nil,or_false]at hs;subst hs;rfl
 have h2:zc a 2147418112 (zU 2 327681 [4]) [xb,qU]=qcS a (qiX p 5) [xb,qU]:=jC λs hs=>by
  simp only[List.mem_cons,List.not_mem_nil,or_false]at hs;rcases hs with rfl|rfl<;>rfl
 have h3:zc a 2147418112 (zU 2 327681 [32768]) [qap]=qcS a (qiX p 5) [qap]:=jC λs hs=>by
  simp only[List.mem_cons,List.not_mem_nil,or_false]at hs;subst hs;rfl
 show _++_++_=_;rw[h1,h2,h3,<- qgC,<- qgC];rfl
def qEd{p:Pol}{a:Int}:(peM p a).2.1=qcS a (qiX p 6) [zI]:=jC λ_ _=>rfl
def qEy{p:Pol}{a:Int}:(rtM p a).2.1=qcS a (qiX p 7) [qdh]:=jC λ_ _=>rfl
def qzE:∀d F,qdV d=some F->qx2 F:=by
 intro d F h p a hp hmay h0 h6;obtain⟨hf,hl⟩:=qqC hmay
 have k:∀{g:List UInt8->List GTest×Int} {ns:List (List UInt8)} {rs:List GRule},rs=qcS a g ns->ns.Nodup->ns.length<=1000->rs.length<=100000/\(rs.map GRule.nr).Nodup:=by
  rintro g ns rs rfl hn hle;exact⟨by have:=qvB (a:=a) (g:=g) (ns:=ns);omega,qqw h0 h6 hn⟩
 unfold qdV at h;split at h
 .cases h;exact k (qy4 hf) (qjY hf) (by rw[List.length_map];exact hp.c)
 split at h
 .cases h;exact k qzz (qjY hl) (by rw[List.length_map];exact hp.l)
 split at h
 .cases h;exact k qy3 (by decide) (by decide)
 split at h
 .cases h;exact k qDH (by decide) (by decide)
 split at h
 .cases h;exact k qE8 (by decide) (by decide)
 split at h
 .cases h;exact k qEd (by decide) (by decide)
 split at h
 .cases h;exact k qEy (by decide) (by decide)
 grind
end Go.Kc
end
section
namespace Go.Kc
variable {P:Program} {f:Nat}
end Go.Kc
end
section
namespace Go.Kc
open Go.Sort Go.Proofs Go.Shelf Go.RowKit
variable {P:Program} {f g:Nat}
def qx3(P:Program)(f g:Nat):Prop :=
 (∀(a:Option Addr) (cap:Nat) (w:World),Calls P f #[.slice a 0 cap,.func (.func g) #[] #[]] w λe w'=>e = .returned (.tuple #[])/\w'=w) /\
 ∀(n:Nat) (i0:Inhabited (Fin n)) (nr:Fin n->Int) (cs:Fin n->List Value),(∀i j,nr i=nr j->i=j)->(∀i,∃t u,cs i=[.int .u32 (nr i),t,u]/\t.oneCell'=true/\u.oneCell'=true)->
  ∀(blk off cap:Nat) (w:World),HoldsK cs 3 w blk off (List.finRange n).toArray->blk<w.heap.size->n<4611686018427387904->
   Calls P f #[.slice (some ⟨blk,off,none⟩) n cap,.func (.func g) #[] #[]] w λe w'=>e = .returned (.tuple #[])/\∃q os,w'=sortWorldK cs 3 w blk off q ((List.finRange n).mergeSort λx y=>decide (nr x<=nr y)).toArray os
def qxt(rs:List GRule)(hn:(rs.map GRule.nr).Nodup):jd rs=((List.finRange rs.length).mergeSort λx y=>decide ((rs[x]).nr<=(rs[y]).nr)).map λi=>rs[i]:=by
 have e:(List.finRange rs.length).map (λi=>rs[i])=rs:=by
  apply List.ext_getElem
  .simp
  .intro i h1 h2;simp
 have p1:(((List.finRange rs.length).mergeSort λx y=>decide ((rs[x]).nr<=(rs[y]).nr)).map λi=>rs[i]).Perm rs:=by
  have:=(List.mergeSort_perm (List.finRange rs.length) λx y=>decide ((rs[x]).nr<=(rs[y]).nr)).map (λi=>rs[i])
  rw[e]at this;exact this
 refine qno GRule.nr (qok hn) ?_ λr=>by rw[qtW];exact p1.mem_iff.symm
 have h1:((List.finRange rs.length).mergeSort λx y=>decide ((rs[x]).nr<=(rs[y]).nr)).Pairwise (λx y=>decide ((rs[x]).nr<=(rs[y]).nr)=true):=List.pairwise_mergeSort (by grind) (by grind) _
 have h2:((((List.finRange rs.length).mergeSort λx y=>decide ((rs[x]).nr<=(rs[y]).nr)).map λi=>rs[i]).map GRule.nr).Nodup:=(p1.map GRule.nr).nodup_iff.2 hn
 have h3:=List.pairwise_map.1 (List.pairwise_map.1 h2);refine List.pairwise_map.2 ((h1.and h3).imp ?_)
 grind
def Wk.same{n:Nat}{t:Tr AV}{h:Hp}(hn:n<=h.sz):Wk n t h t h:=λρ B w tm ht r=>by grind[Kep.refl]
def qHK(hcod:qmM P f)(hK:qx3 P f g):qlj P f g:=by
 intro rs hl hn;refine⟨by simp[ji,bnd,qq],by simp,trivial,?_⟩
 intro ρ B w args r ha;have hsl:(jd rs).length=rs.length:=List.length_mergeSort _;generalize hA:args.toList=L at ha;cases ha with
 | cons _ _ _ _ a1 a2 =>
  rename_i v1 vs1;cases a2 with
  | cons _ _ _ _ b1 b2 =>
   rename_i v2 vs2;cases b2;have hargs:args = #[v1,v2]:=by grind
   obtain⟨a',c',h7,h8,rfl⟩:=b1.un_fn
   have ea:a' = #[]:=by
    apply Array.ext';generalize a'.toList=X at h7;cases h7;rfl
   have ec:c' = #[]:=by
    apply Array.ext';generalize c'.toList=X at h8;cases h8;rfl
   subst ea ec hargs
   have zero:∀(a:Option Addr) (cap:Nat),rs=[]->v1 = .slice a 0 cap->qnx P σ0 f #[v1,.func (.func g) #[] #[]] ρ B (mkH 0 [.cells 3 true true (rR rs)]) w (qx4 [Blk.cells 3 true true (rR rs)].length (.tup []) [.cells 3 true true (rR (jd rs))]):=by
    rintro a cap rfl rfl;refine .inl ⟨hcod,(hK.1 a cap w).mono ?_⟩;rintro e w' ⟨rfl,rfl⟩;have e0:jd []=[]:=by simp_all
    rw[e0];refine⟨.tup [],.tuple #[],mkH 0 [.cells 3 true true (rR [])],ρ,rfl,?_,.tup [] #[] .nil,r,Kept.refl _ _ _ _⟩;exact λ_=>Wk.same (zzL _)
   generalize hrl:rs.length=n at a1;cases a1 with
   | own0 _ ad hb=>simp_all
   | own _ _ cap L0 h0 h1 h2 =>
    by_cases hz:rs=[]
    .simp_all
    have hn0:0<rs.length:=by grind
    obtain⟨q1,c,ty,fz,q2,q3,q4,q5,q6⟩:=r.cells 0 L0 3 true true (rR rs) h0 (by rw[qam];rfl);have hRl:(rR rs).length=rs.length*3:=qhe;subst hrl
    let i0:Inhabited (Fin rs.length):=⟨⟨0,hn0⟩⟩
    let cs:Fin rs.length->List Value:=λi=>[c[L0.off+(i.val*3+0)]!,c[L0.off+(i.val*3+1)]!,c[L0.off+(i.val*3+2)]!]
    have hcell:∀(i:Fin rs.length) (k:Nat),k<3->∃a,(zu rs[i])[k]?=some a/\VR σ0 ρ a (c[L0.off+(i.val*3+k)]!):=by
     intro i k hk;have hx:rs[i.val]?=some rs[i]:=by simp_all
     have hg:=qqJ hx hk
     have ⟨a,ha⟩:∃a,(zu rs[i])[k]?=some a:=by
      have:k<(zu rs[i]).length:=hk;exact by simp_all
     grind
    have hcs:∀i,∃t u,cs i=[.int .u32 (rs[i]).nr,t,u]/\t.oneCell'=true/\u.oneCell'=true:=by
     intro i;obtain⟨x0,e0,k0⟩:=hcell i 0 (by decide);obtain⟨x1,e1,k1⟩:=hcell i 1 (by decide);obtain⟨x2,e2,k2⟩:=hcell i 2 (by decide);simp[zu]at e0 e1 e2;subst e0 e1 e2;have hσ:qae σ0:=λ_=>rfl
     refine⟨c[L0.off+(i.val*3+1)]!,c[L0.off+(i.val*3+2)]!,?_,qjK hσ k1 rfl,qjK hσ k2 rfl⟩;have:c[L0.off+(i.val*3+0)]! = .int .u32 (rs[i]).nr:=k0.un_i
     grind
    have hlen:∀i,(cs i).length=3:=λ_=>rfl
    have hfl:∀(d:Array (Fin rs.length)) (t:Nat),t<d.size*3->(flatK cs 3 d)[t]! = c[L0.off+((d[t / 3]!).val*3+t % 3)]!:=by
     intro d t ht;rw[get_flatK cs 3 d t ht];have:t % 3=0\/t % 3=1\/t % 3=2:=by omega
     rcases this with e|e|e<;>rw[e]<;>rfl
    have hsz:(List.finRange rs.length).toArray.size=rs.length:=by simp
    have hH:HoldsK cs 3 w L0.blk L0.off (List.finRange rs.length).toArray:=by
     intro j hj;have hj':j<rs.length*3:=by simpa[hsz]using hj
     have hcj:L0.off+j<c.size:=by omega
     constructor
     .show (match w.heap[L0.blk]? with|some (.cells c _ _)=>if(none:Option _).isSome then none else c[L0.off+j]? | _=>none)=_
      rw[q2];have e1:c[L0.off+j]?=some c[L0.off+j]!:=by rw[getElem!_pos c _ hcj];exact by grind
      show c[L0.off+j]?=_;rw[e1];have e2:=hfl (List.finRange rs.length).toArray j (by rw[hsz];exact hj')
      have e3:((List.finRange rs.length).toArray[j / 3]!).val=j / 3:=by
       rw[getElem!_pos _ _ (by rw[hsz];omega)];simp
      rw[e3,show j / 3*3+j % 3=j by omega]at e2
      grind
     .show (match w.heap[L0.blk]? with|some (.cells _ _ (lo,hi))=>decide (lo<=L0.off+j)&&decide (L0.off+j<hi)|_=>false)=false
      rw[q2];have:=q6 rfl (L0.off+j) (.inl (by omega))
      grind
    have hblk:L0.blk<w.heap.size:=by grind
    refine .inl ⟨hcod,(hK.2 rs.length i0 (λi=>(rs[i]).nr) cs ?_ hcs L0.blk L0.off cap w hH hblk (by omega)).mono ?_⟩
    .intro i j hij;have hx:(rs.map GRule.nr)[i.val]'(by simp)=(rs.map GRule.nr)[j.val]'(by simp):=by simpa using hij
     grind[List.getElem_inj]
    rintro e w' ⟨rfl,q,os,hw'⟩;have hsm:=qxt rs hn;generalize hD:(List.finRange rs.length).mergeSort (λx y=>decide ((rs[x]).nr<=(rs[y]).nr))=D at hw' hsm
    have hDl:D.length=rs.length:=by rw[<- hD,List.length_mergeSort];simp
    have hFs:(flatK cs 3 D.toArray).size=rs.length*3:=by rw[size_flatK];grind
    have hv:VRs σ0 ρ (rR (jd rs)) (flatK cs 3 D.toArray).toList:=by
     have el1:=qhe (l:=jd rs);have el2:(flatK cs 3 D.toArray).toList.length=rs.length*3:=by rw[Array.length_toList];omega
     refine VRs.of_get (by omega) λt a ht=>?_
     have htl:t<rs.length*3:=by
      have:=(zzS.1 ht).1;omega
     have hj:t / 3<D.length:=by omega
     have hDa:D.toArray[t / 3]! = D[t / 3]:=by rw[getElem!_pos _ _ (by omega)];rfl
     refine⟨(flatK cs 3 D.toArray)[t]!,?_,?_⟩
     .rw[getElem!_pos (flatK cs 3 D.toArray) t (by rw[hFs];exact htl)];grind
     .rw[hfl D.toArray t (by simp[hDl];exact htl),hDa];obtain⟨a',k1,k2⟩:=hcell D[t / 3] (t % 3) (by omega);have hx:(jd rs)[t / 3]?=some rs[D[t / 3]]:=by rw[hsm,List.getElem?_map,zzE hj];rfl
      have hg:=qqJ hx (i:=t % 3) (by omega);rw[show t / 3*3+t % 3=t by omega,ht]at hg
      rw[k1]at hg
      grind
    have hspl:Spl c (L0.off+0) (flatK cs 3 D.toArray).toList (putCells id L0.off (flatK cs 3 D.toArray) c):=by
     refine⟨by simp[putCells],λj hj=>?_,λj v hj=>?_⟩
     .rw[Array.length_toList]at hj;unfold putCells;rw[Array.getElem?_mapIdx];cases c[j]? with
      | none=>rfl
      | some x =>
       simp only[Option.map_some];rw[if_neg (by omega)]
     .have hjl:j<(flatK cs 3 D.toArray).size:=by
       have:=(zzS.1 hj).1;omega
      have hjc:L0.off+j<c.size:=by omega
      unfold putCells;rw[Nat.add_zero,Array.getElem?_mapIdx,Array.getElem?_eq_getElem hjc];simp only[Option.map_some];rw[if_pos (by omega),Nat.add_sub_cancel_left,getElem!_pos (flatK cs 3 D.toArray) j hjl];rw[Array.getElem?_toList,Array.getElem?_eq_getElem hjl]at hj;exact hj
    have hheap:(putRowK cs 3 (Go.Sort.ahead w q) L0.blk L0.off D.toArray).heap=w.heap.setIfInBounds L0.blk (.cells (putCells id L0.off (flatK cs 3 D.toArray) c) ty fz):=by
     show w.heap.modify L0.blk (onCells _)=_;apply Array.ext_getElem?;intro k;rw[Array.getElem?_modify,Array.getElem?_setIfInBounds]
     by_cases hk:L0.blk=k
     .subst hk;rw[if_pos rfl,if_pos rfl,if_pos hblk,q2];rfl
     grind
    have el3:=qhe (l:=jd rs);obtain⟨r2,k2⟩:=r.store (w':=putRowK cs 3 (Go.Sort.ahead w q) L0.blk L0.off D.toArray) h0 (by rw[qam];rfl) (zzL _) 0 (rR (jd rs)) _ hv (by omega) q2 hspl hheap ⟨rfl,rfl⟩
    have hY:(rR rs).take 0++(rR (jd rs)++(rR rs).drop (0+(rR (jd rs)).length))=rR (jd rs):=by
     rw[List.drop_of_length_le (by omega)];simp
    rw[hY]at r2 k2;have hh:(mkH 0 [.cells 3 true true (rR rs)]).put 0 (.cells 3 true true (rR (jd rs)))=mkH 0 [.cells 3 true true (rR (jd rs))]:=rfl;rw[hh]at r2 k2
    have hg:∀n,n<(putRowK cs 3 (Go.Sort.ahead w q) L0.blk L0.off D.toArray).heap.size->w'.heap[n]?=(putRowK cs 3 (Go.Sort.ahead w q) L0.blk L0.off D.toArray).heap[n]?:=by
     intro n hn;rw[hw'];exact Array.getElem?_append_left hn
    have hsz':(putRowK cs 3 (Go.Sort.ahead w q) L0.blk L0.off D.toArray).heap.size<=w'.heap.size:=by
     rw[hw']
     grind
    have r3:=r2.world hg hsz';refine⟨.tup [],.tuple #[],_,ρ,rfl,λ_=>Wk.same (zzL _),.tup [] #[] .nil,r3,k2.trans ?_⟩
    have hio:w'.os=w.os/\w'.output=w.output:=by rw[hw'];exact⟨rfl,rfl⟩
    exact⟨λ_ _=>rfl,zzL _,rfl,λ_ _ _=>rfl,by grind[Rel.base],hsz',hio,λ_ _ h=>h,λ_ _ h=>.inl h,zzL _⟩
end Go.Kc
end
section
namespace Go.Kc
variable {P:Program} {f:Nat}
def qkD(p:List UInt8×Int):List AV:=[.w p.2,.s p.1]
def qxl(p:List UInt8×Int):(qkD p).length=2:=rfl
def xC:List (List UInt8×Int):=[([107,105,108,108],2147483648),([107,105,108,108,116,104,114,101,97,100],0),([116,114,97,112],196608),([101,114,114,110,111],327680),([110,111,116,105,102,121],2143289344),([116,114,97,99,101],2146435072),([108,111,103],2147221504),([97,108,108,111,119],2147418112)]
def qf3:IFn:=⟨[.cell 0 16 true],sq [.r [.q 0 (.alloc [.w 0,.s [],.w 0,.s [],.w 0,.s [],.w 0,.s [],.w 0,.s [],.w 0,.s [],.w 0,.s [],.w 0,.s []])],.r [.q 1 (.build [.w 0,.s []] [(0,1,(.c (.w 2147483648))),(1,1,(.c (.s [107,105,108,108])))]),.q 2 (.build [.w 0,.s []] [(0,1,(.c (.w 0))),(1,1,(.c (.s [107,105,108,108,116,104,114,101,97,100])))]),.q 3 (.build [.w 0,.s []] [(0,1,(.c (.w 196608))),(1,1,(.c (.s [116,114,97,112])))]),.q 4 (.build [.w 0,.s []] [(0,1,(.c (.w 327680))),(1,1,(.c (.s [101,114,114,110,111])))]),.q 5 (.build [.w 0,.s []] [(0,1,(.c (.w 2143289344))),(1,1,(.c (.s [110,111,116,105,102,121])))]),.q 6 (.build [.w 0,.s []] [(0,1,(.c (.w 2146435072))),(1,1,(.c (.s [116,114,97,99,101])))]),.q 7 (.build [.w 0,.s []] [(0,1,(.c (.w 2147221504))),(1,1,(.c (.s [108,111,103])))]),.q 8 (.build [.w 0,.s []] [(0,1,(.c (.w 2147418112))),(1,1,(.c (.s [97,108,108,111,119])))]),.q 9 (.build [.w 0,.s [],.w 0,.s [],.w 0,.s [],.w 0,.s [],.w 0,.s [],.w 0,.s [],.w 0,.s [],.w 0,.s []] [(0,2,(.t 1)),(2,2,(.t 2)),(4,2,(.t 3)),(6,2,(.t 4)),(8,2,(.t 5)),(10,2,(.t 6)),(12,2,(.t 7)),(14,2,(.t 8))]),.u (.store 16 (.t 0) (.t 9))],.ret]⟩
def qGk(hc:qc P f qf3=true):qa P f [] (.agg (xC.flatMap qkD)):=by
 refine qa.mk hc rfl ?_;simp only[qf3,vI,simprocAttr];simp only[↓vS,vT,simprocAttr,xC,qkD,List.flatMap_cons,List.flatMap_nil,vZ]
def qgE:IFn:=⟨[.tmp 2],sq [.r [.m 2 (.c (.w 0))],.r [.n 3 0,.q 4 (.bin .andNot (.t 3) (.c (.w 65535))),.n 2 4],.ret]⟩
def qH1(hc:qc P f qgE=true)(n:Int):qa P f [.w n] (.w (qeH .u32 n 65535)):=by
 refine qa.mk hc rfl ?_;simp only[qgE,vI,simprocAttr];simp only[↓vS,vT,simprocAttr,vZ]
def qgF(a b:Nat):IFn:=⟨[.tmp 2],sq [.r [.m 2 (.c (.s []))],sq [.r [.l 5 a [],.m 6 (.k 0)],.blk 0 (.loop (sq [.r [.w 7 .lss 6 8],.cond (.t 7) (.skip) (.exit 0),.blk 1 (sq [.r [.q 8 (.idxA 8 2 true (.t 5) (.t 6)),.q 4 (.alloc [.w 0,.s []]),.u (.store 2 (.t 4) (.t 8))],.reg true [.f 9 0 4,.d 10 9,.n 11 0,.l 12 b [.t 11],.b 13 .eql 10 12],.cond (.t 13) (sq [.r [.f 14 1 4,.d 15 14,.n 2 15],.ret]) (.skip)]),.r [.a 16 6 1,.n 6 16]]))],.r [.m 2 (.c (.s []))],.ret]⟩
def qH0{g1 g2:Nat}(hc:qc P f (qgF g1 g2)=true)(h1:qa P g1 [] (.agg (xC.flatMap qkD)))(h2:∀n,qa P g2 [.w n] (.w (qeH .u32 n 65535)))(n:Int):qa P f [.w n] (.s (qbP (qeH .u32 n 65535) xC)):=by
 refine qa.mk hc rfl ?_;simp only[qgF,vI,simprocAttr];simp only[↓vS,vT,simprocAttr];refine h1.sc ?_;simp only[↓vS,vT,simprocAttr];have hlen:(xC.flatMap qkD).length=16:=by decide
 have hTc:qt (xC.flatMap qkD)=true:=rfl;refine SL.loop (α:=Nat) (λj=>[(0,.w n),(5,.agg (xC.flatMap qkD)),(6,.j j)]) (λ_=>[]) (λj=>j<=8/\qbP (qeH .u32 n 65535) xC=qbP (qeH .u32 n 65535) (xC.drop j)) (λj=>8-j) 0 [] ?_ ?_ ?_ rfl ?_ ?_
 .simp[vw,xC,qkD]
 .trivial
 .simp
 .simp_all
 rintro j ⟨hj,hI⟩ G ih;simp only[vI,simprocAttr]
 by_cases hlt:j<8
 .have hlt':(j:Int)<8:=by omega
  have hjl:j<xC.length:=hlt;have hx:xC[j]?=some xC[j]:=by simp_all
  have hw:IntKind.wrap .i64 ((j:Int)+1)=((j+1:Nat):Int):=by rw[qp (by omega) (by omega)];omega
  have he:=qS (f:=qkD) (m:=2) qxl hx;have hb:j*2+2<=(xC.flatMap qkD).length:=by omega
  rw[List.drop_eq_getElem_cons hjl,qbP]at hI;generalize hc0:xC[j]=c at he hI;generalize hT:xC.flatMap qkD=T at he hb hlen hTc;simp only[↓vS,vT,simprocAttr,hlt',hlt,he,hb,qkD];refine zB ?_;simp only[↓vS,vT,simprocAttr];refine(h2 n).pc ?_
  by_cases hs:c.2=qeH .u32 n 65535
  .rw[if_pos hs]at hI;simp only[↓vS,vT,simprocAttr,hs];simp[vZ,hI]
  .rw[if_neg hs]at hI;simp only[↓vS,vT,simprocAttr,hs,hw];refine ih (j+1) ⟨hlt,hI⟩ (by omega) _ _ (Wk.mk _ _ [] ?_ ?_ ?_ rfl)
   .rw[hT];simp[vw,qe,hTc]
   .trivial
   .simp
 .have hj':j=8:=by omega
  subst hj';have hlt':¬(((8:Nat):Int)<8):=by decide
  simp only[↓vS,vT,simprocAttr,hlt'];rw[hI];simp[vZ,xC,qbP]
def knA(n:Int):Bool:=decide (qbP (qeH .u32 n 65535) xC≠[])
def qf1(a:Nat):IFn:=⟨[.tmp 2],sq [.r [.m 2 .F],.r [.n 3 0,.l 4 a [.t 3],.q 5 (.bin .neq (.t 4) (.c (.s []))),.n 2 5],.ret]⟩
def qGi{g:Nat}(hc:qc P f (qf1 g)=true)(hg:∀n,qa P g [.w n] (.s (qbP (qeH .u32 n 65535) xC)))(n:Int):qa P f [.w n] (.b (knA n)):=by
 refine qa.mk hc rfl ?_;simp only[qf1,vI,simprocAttr];simp only[↓vS,vT,simprocAttr];refine(hg n).sc ?_;unfold knA;generalize qbP (qeH .u32 n 65535) xC=s
 by_cases h:s=[] <;>
 .simp only[↓vS,vT,simprocAttr,h];simp[vZ,h]
def qb3(t:GTest):Bool:=decide (0<=t.arg)&&decide (t.arg<6)&&decide (qeH .u64 t.val t.mask=0)&&knA t.act
def qh0(a:Nat):IFn:=⟨[.tmp 2],sq [.r [.q 1 (.box (.t 0)),.m 2 .F],.r [.f 3 0 1,.d 4 3,.w 5 .geq 4 0,.n 6 5,.h 7 0 1 6 true,.j 8 7 6 true,.g 9 (.bin .lss (.t 8) (.k 6)) 6 true,.p 10 6 9,.n 11 10,.h 12 2 1 11 true,.j 13 12 11 true,.h 14 1 1 11 true,.j 15 14 11 true,.g 16 (.bin .andNot (.t 13) (.t 15)) 11 true,.g 17 (.bin .eql (.t 16) (.c (.x 0))) 11 true,.p 18 11 17,.n 19 18,.h 20 3 1 19 true,.j 21 20 19 true,⟨(some 22),.callF a [.t 21],(some (19,true))⟩,.p 23 19 22,.n 2 23],.ret]⟩
def qIg{g:Nat}(hg:∀n,qa P g [.w n] (.b (knA n)))(hc:qc P f (qh0 g)=true)(t:GTest):qa P f [.agg (jz t)] (.b (qb3 t)):=by
 refine qa.mk hc rfl ?_;simp only[qh0,jz,vI,simprocAttr]
 by_cases k1:0<=t.arg
 .by_cases k2:t.arg<6
  .by_cases k3:qeH .u64 t.val t.mask=0
   .simp only[↓vS,vT,simprocAttr,k1,k2,k3];refine(hg t.act).sc ?_;simp only[↓vS,vT,simprocAttr];simp[vZ,qb3,k1,k2,k3]
   .simp only[↓vS,vT,simprocAttr,k1,k2,k3];simp[vZ,qb3,k3]
  .simp only[↓vS,vT,simprocAttr,k1,k2];simp[vZ,qb3,k2]
 .simp only[↓vS,vT,simprocAttr,k1];simp[vZ,qb3,k1]
def qgb(a:Nat):IFn:=⟨[.tmp 2],sq [.r [.q 1 (.box (.t 0)),.m 2 .F],.r [.v 3 4 1,.l 4 a [.t 3],.q 5 (.un .not (.t 4)),.n 2 5],.ret]⟩
def qFE{g:Nat}(hc:qc P f (qgb g)=true)(hg:∀t,qa P g [.agg (jz t)] (.b (qb3 t)))(t:GTest):qa P f [.agg (jz t)] (.b (!qb3 t)):=by
 refine qa.mk hc rfl ?_;simp only[qgb,jz,vI,simprocAttr];simp only[↓vS,vT,simprocAttr];refine(hg t).sc ?_;simp only[↓vS,vT,simprocAttr];simp[vZ]
def xA:IFn:=⟨[.tmp 4],sq [.r [.m 4 (.k 0)],sq [.r [.n 6 0,.e 7 6,.m 8 (.k 0)],.blk 0 (.loop (sq [.r [.s 9 8 7],.cond (.t 9) (.skip) (.exit 0),.blk 1 (sq [.r [.n 10 8,.n 5 10],.r [.n 11 1,.n 12 0,.n 13 5,.i 14 4 12 13,.v 15 4 14,⟨(some 16),.callV (.t 11) [.t 15],none⟩],.cond (.t 16) (sq [.r [.n 17 5,.n 4 17],.ret]) (.skip)]),.r [.a 18 8 1,.n 8 18]]))],.r [.q 4 (.mov (.c (.j (-1))))],.ret]⟩
def qru(hc:qc P f xA=true):qfH 4 P f:=by
 intro α enc p g a c l hlen ha hc' hl hp;refine qa.mk hc (by simp[qt,clo,ha,hc']) ?_;simp only[xA,vI,simprocAttr];simp only[↓vS,vT,simprocAttr];refine SL.loop (α:=Nat) (λj=>[(0,.fz l.length (l.flatMap enc)),(1,.fn g a c),(7,.j l.length),(8,.j j)]) (λ_=>[]) (λj=>j<=l.length/\xq p l 0=xq p (l.drop j) j) (λj=>l.length-j) 0 [] ?_ ?_ ?_ rfl ?_ ?_
 .simp[vw,qe,ha,hc']
 .trivial
 .simp
 .simp
 rintro j ⟨hj,hI⟩ G ih;simp only[vI,simprocAttr]
 by_cases hlt:j<l.length
 .have hx:l[j]?=some l[j]:=by simp_all
  have hw:IntKind.wrap .i64 ((j:Int)+1)=(j:Int)+1:=qp (by omega) (by have:=hl;simp only[qi]at this;omega)
  have he:=qS hlen hx;have hb:j*4+4<=(l.flatMap enc).length:=by rw[qW hlen];omega
  rw[List.drop_eq_getElem_cons hlt,xq]at hI;simp only[↓vS,vT,simprocAttr,hlt,hb,he,hw];refine(hp l[j] (by simp_all)).sc ?_
  by_cases hpx:p l[j]=true
  .rw[if_pos hpx]at hI;simp only[↓vS,vT,simprocAttr,hpx,vZ,hI]
  .rw[if_neg hpx]at hI;simp only[↓vS,vT,simprocAttr,hpx,hw];refine ih (j+1) ⟨by omega,hI⟩ (by omega) _ _ (Wk.mk _ _ [] ?_ ?_ ?_ rfl)
   .simp[vw,qe,ha,hc']
   .trivial
   .simp
 .simp only[↓vS,vT,simprocAttr,hlt];rw[List.drop_eq_nil_of_le (by omega)]at hI;simp[hI,xq,vZ]
def quj(p:GTest->Bool)(l:List GTest):AV:=match l.find? p with|some t=>.tup [.agg (jz t),.b true]|none=>.tup [.agg [.j 0,.x 0,.x 0,.w 0],.b false]
def qcB(a:Nat):IFn:=⟨[.cell 4 4 true,.tmp 5],sq [.r [.q 4 (.alloc [.j 0,.x 0,.x 0,.w 0]),.m 5 .F],sq [.r [.n 8 0,.n 9 1,.l 10 a [.t 8,.t 9],.n 6 10],.r [.n 11 6,.w 12 .geq 11 0],.cond (.t 12) (sq [.r [.n 13 0,.n 14 6,.i 15 4 13 14,.v 16 4 15,.u (.store 4 (.t 4) (.t 16)),.m 5 .T],.ret]) (.skip)],.r [.q 7 (.alloc [.j 0,.x 0,.x 0,.w 0])],.r [.v 17 4 7,.u (.store 4 (.t 4) (.t 17)),.m 5 .F],.ret]⟩
def qCQ{g:Nat}(hc:qc P f (qcB g)=true)(h2:qfH 4 P g)(l:List GTest)(k:Nat)(a c:List AV)(p:GTest->Bool)(ha:qt a=true)(hcc:qt c=true)(hk:∀t ∈ l,qa P k (a++([.agg (jz t)]++c)) (.b (p t)))(hl:l.length<=100000):qa P f [.fz l.length (rT l),.fn k a c] (quj p l):=by
 refine qa.mk hc (by simp[qt,clo,zX,ha,hcc]) ?_;simp only[qcB,vI,simprocAttr];simp only[↓vS,vT,simprocAttr];refine(h2 jz p k a c l qdm ha hcc (by simp only[qi];omega) hk).sc ?_;rcases qjR p l 0 with⟨e1,e2⟩|⟨i,x,e1,e2,e3,e4,e5⟩
 .rw[e1];simp only[↓vS,vT,simprocAttr];simp[vZ,quj,e2]
 .have hi:i<l.length:=by grind
  have hn:(0:Int)<=(i:Int):=by omega
  have he:=qr3 e2;have hb:=qxd hi;rw[e1,Nat.zero_add];simp only[↓vS,vT,simprocAttr,hn,hi,he,hb,jz];simp[vZ,quj,e4,jz]
noncomputable def qb2(r:GRule):Bool:=decide (r.tests.length<=32)&&r.tests.all qb3&&knA r.act
def qvs{α:Type}(p:α->Bool)(l:List α):(l.find? λt=>!p t).isSome = !l.all p:=by
 grind
def qhZ(a b c:Nat):IFn:=⟨[.tmp 2],sq [.r [.q 1 (.box (.t 0)),.m 2 .F],.r [.f 6 1 1,.d 7 6,.l 8 a [.t 7,(.c (.fn b [] []))],.n 5 8,.x 9 5 0,.x 10 5 1,.q 3 (.alloc [.j 0,.x 0,.x 0,.w 0]),.u (.store 4 (.t 3) (.t 9)),.n 4 10],.r [.f 11 1 1,.d 12 11,.e 13 12,.w 14 .leq 13 32,.n 15 14,.y 16 4 15,.g 17 (.un .not (.t 16)) 15 true,.p 18 15 17,.n 19 18,.h 20 2 1 19 true,.j 21 20 19 true,⟨(some 22),.callF c [.t 21],(some (19,true))⟩,.p 23 19 22,.n 2 23],.ret]⟩
def qIf{g1 g2 g3:Nat}(hc:qc P f (qhZ g1 g2 g3)=true)(h1:∀(l:List GTest) (k:Nat) (a c:List AV) (p:GTest->Bool),qt a=true->qt c=true->(∀t ∈ l,qa P k (a++([.agg (jz t)]++c)) (.b (p t)))->l.length<=100000->qa P g1 [.fz l.length (rT l),.fn k a c] (quj p l))
  (h2:∀t,qa P g2 [.agg (jz t)] (.b (!qb3 t))) (h3:∀n,qa P g3 [.w n] (.b (knA n))) (r:GRule) (hl:r.tests.length<=100000):qa P f [.agg (zu r)] (.b (qb2 r)):=by
 refine qa.mk hc rfl ?_;simp only[qhZ,zu,vI,simprocAttr];simp only[↓vS,vT,simprocAttr];refine(h1 r.tests g2 [] [] (λt=>!qb3 t) rfl rfl (λt _=>h2 t) hl).sc ?_
 have hf:=qvs qb3 r.tests
 have fin:∀odd:Bool,odd = !r.tests.all qb3->(decide (r.tests.length<=32) && !odd&&knA r.act)=qb2 r:=by
  rintro odd rfl;simp[qb2]
 unfold quj;cases hq:r.tests.find? (λt=>!qb3 t)with
 | none =>
  rw[hq]at hf;have fin:=fin false hf
  by_cases k1:r.tests.length<=32
  .have k1':((r.tests.length:Int)<=32)=True:=eq_true (by omega);simp only[↓vS,vT,simprocAttr,k1'];refine(h3 r.act).sc ?_;simp only[↓vS,vT,simprocAttr];simp[vZ,<- fin,k1]
  .have k1':((r.tests.length:Int)<=32)=False:=eq_false (by omega);simp only[↓vS,vT,simprocAttr,k1'];simp[vZ,<- fin,k1]
 | some t =>
  rw[hq]at hf;have fin:=fin true hf
  by_cases k1:r.tests.length<=32
  .have k1':((r.tests.length:Int)<=32)=True:=eq_true (by omega);simp only[jz,↓vS,vT,simprocAttr,k1'];simp[vZ,<- fin]
  .have k1':((r.tests.length:Int)<=32)=False:=eq_false (by omega);simp only[jz,↓vS,vT,simprocAttr,k1'];simp[vZ,<- fin]
noncomputable def upR:Option GRule->List GRule->Bool
 | _,[]=>true
 | o,r::l=>qb2 r&&(o.elim true λb=>decide (b.nr<r.nr))&&upR (some r) l
noncomputable def jq(x:GFil):Bool:=decide (0<=x.arch)&&decide (x.arch<6)&&decide (x.rules.length<=400)&&knA x.dflt&&upR none x.rules
def qmY(a b:Nat):IFn:=⟨[.tmp 2],sq [.r [.q 1 (.box (.t 0)),.m 2 .F],sq [.r [.f 5 0 1,.d 6 5,.w 7 .lss 6 0,.n 8 7,.h 9 0 1 8 false,.j 10 9 8 false,.g 11 (.bin .geq (.t 10) (.k 6)) 8 false,.o 12 8 11,.n 13 12,.h 14 1 1 13 false,.j 15 14 13 false,.g 16 (.len false (.t 15)) 13 false,.g 17 (.bin .gtr (.t 16) (.k 400)) 13 false,.o 18 13 17,.n 19 18,.h 20 2 1 19 false,.j 21 20 19 false,⟨(some 22),.callF a [.t 21],(some (19,false))⟩,.g 23 (.un .not (.t 22)) 19 false,.o 24 19 23],.cond (.t 24) (sq [.r [.m 2 .F],.ret]) (.skip)],sq [.r [.f 25 1 1,.d 26 25,.e 27 26,.m 28 (.k 0)],.blk 0 (.loop (sq [.r [.s 29 28 27],.cond (.t 29) (.skip) (.exit 0),.blk 1 (sq [.r [.n 30 28,.i 31 3 26 28,.v 32 3 31,.q 4 (.alloc [.w 0,.nils,.w 0]),.n 3 30,.u (.store 3 (.t 4) (.t 32))],.reg true [.v 33 3 4,.l 34 b [.t 33],.q 35 (.un .not (.t 34)),.n 36 35,.z 37 3 36,.g 38 (.bin .gtr (.t 37) (.k 0)) 36 false,.z 39 38 36,.h 40 0 4 39 true,.j 41 40 39 true,.h 42 1 1 39 true,.j 43 42 39 true,.y 44 3 39,.g 45 (.bin .sub (.t 44) (.k 1)) 39 true,.g 46 (.iAddrS 3 (.t 43) (.t 45)) 39 true,.h 47 0 46 39 true,.j 48 47 39 true,.g 49 (.bin .leq (.t 41) (.t 48)) 39 true,.g 50 (.pick (.t 39) (.t 49) .F) 36 false,.o 51 36 50],.cond (.t 51) (sq [.r [.m 2 .F],.ret]) (.skip)]),.r [.a 52 28 1,.n 28 52]]))],.r [.m 2 .T],.ret]⟩
def qJv{g1 g2:Nat}(hc:qc P f (qmY g1 g2)=true)(h1:∀n,qa P g1 [.w n] (.b (knA n)))(h2:∀r:GRule,r.tests.length<=100000->qa P g2 [.agg (zu r)] (.b (qb2 r)))(x:GFil)(hl:x.rules.length<=100000)(ht:∀r ∈ x.rules,r.tests.length<=100000):qa P f [.agg (zq x)] (.b (jq x)):=by
 refine qa.mk hc rfl ?_;simp only[qmY,zq,vI,simprocAttr]
 by_cases k1:x.arch<0
 .have hw:jq x=false:=by simp only[jq,decide_eq_false (by omega:¬0<=x.arch)];simp
  simp only[↓vS,vT,simprocAttr,k1];simp[vZ,hw]
 by_cases k2:6<=x.arch
 .have hw:jq x=false:=by simp only[jq,decide_eq_false (by omega:¬x.arch<6)];simp
  simp only[↓vS,vT,simprocAttr,k1,k2];simp[vZ,hw]
 by_cases k3:(400:Int)<x.rules.length
 .have hw:jq x=false:=by simp only[jq,decide_eq_false (by omega:¬x.rules.length<=400)];simp
  simp only[↓vS,vT,simprocAttr,k1,k2,k3];simp[vZ,hw]
 simp only[↓vS,vT,simprocAttr,k1,k2,k3];refine(h1 x.dflt).sc ?_;cases k4:knA x.dflt with
 | false =>
  have hw:jq x=false:=by simp[jq,k4]
  simp only[↓vS,vT,simprocAttr];simp[vZ,hw]
 | true =>
  have hw:jq x=upR none x.rules:=by
   unfold jq;rw[k4,decide_eq_true (by omega:0<=x.arch),decide_eq_true (by omega:x.arch<6),decide_eq_true (by omega:x.rules.length<=400)];rfl
  rw[hw];simp only[↓vS,vT,simprocAttr]
  refine SL.loop (α:=Nat) (λj=>[(1,.ptr 0 0),(26,.fz x.rules.length (rR x.rules)),(27,.j x.rules.length),(28,.j j)]) (λ_=>[.v (zq x)])
   (λj=>j<=x.rules.length/\upR none x.rules=upR (if j=0 then none else x.rules[j-1]?) (x.rules.drop j)) (λj=>x.rules.length-j) 0 [0] ?_ ?_ ?_ rfl ?_ ?_
  .simp[vw,qq]
  .simp[vw,zq,qq]
  .simp
  .simp_all
  rintro j ⟨hj,hI⟩ G ih;simp only[vI,simprocAttr,zq]
  by_cases hlt:j<x.rules.length
  .have hx:x.rules[j]?=some x.rules[j]:=by simp_all
   have he:=qr0 hx;have hb:=qw8 hlt;have hw:IntKind.wrap .i64 ((j:Int)+1)=((j+1:Nat):Int):=by rw[qp (by omega) (by omega)];omega
   have htl:=ht _ (List.getElem_mem hlt);rw[List.drop_eq_getElem_cons hlt,upR]at hI;generalize hc0:x.rules[j]=r at hI he hx htl;simp only[↓vS,vT,simprocAttr,hlt,hb,he,zu];refine zB ?_;simp only[↓vS,vT,simprocAttr];refine(h2 r htl).pc ?_;cases hk:qb2 r with
   | false =>
    have hwf:upR none x.rules=false:=by rw[hI];grind
    simp only[↓vS,vT,simprocAttr];simp[vZ,hwf]
   | true =>
    by_cases h0:j=0
    .subst h0;have hn:¬(0:Int)<((0:Nat):Int):=by decide
     simp only[↓vS,vT,simprocAttr,hn,hw];refine ih 1 ⟨by omega,?_⟩ (by omega) _ _ (Wk.mk _ _ [0] ?_ ?_ ?_ rfl)
     .rw[hI,hk];grind
     .simp[vw,qq]
      simp_all
     .simp[vw,zq,qq]
     .simp
    .have hp:(0:Int)<(j:Int):=by omega
     have hpl:j-1<x.rules.length:=by omega
     have hy:x.rules[j-1]?=some x.rules[j-1]:=by simp_all
     have hw2:IntKind.wrap .i64 ((j:Int)-1)=((j-1:Nat):Int):=by rw[qp (by omega) (by omega)];omega
     have g0:(rR x.rules)[(j-1)*3]?=some (.w x.rules[j-1].nr):=qqJ hy (i:=0) (by decide);rw[if_neg h0,hy]at hI
     by_cases hlt2:r.nr<=x.rules[j-1].nr
     .have hwf:upR none x.rules=false:=by rw[hI];grind
      simp only[↓vS,vT,simprocAttr,hp,hw2,hpl,g0,hlt2];simp[vZ,hwf]
     .simp only[↓vS,vT,simprocAttr,hp,hw2,hpl,g0,hlt2,hw];refine ih (j+1) ⟨by omega,?_⟩ (by omega) _ _ (Wk.mk _ _ [0] ?_ ?_ ?_ rfl)
      .rw[hI,hk];simp_all
      .simp[vw,qq]
      .simp[vw,zq,qq]
      .simp
  .rw[List.drop_of_length_le (by omega),upR]at hI;simp only[↓vS,vT,simprocAttr,hlt];simp[vZ,hI]
end Go.Kc
end
section
namespace Go.Kc
end Go.Kc
end
section
namespace Go.Kc
variable {P:Program} {f:Nat}
end Go.Kc
end
section
namespace Go.Kc
variable {P:Program} {f:Nat}
section
variable {g1 g2 g3 g4 g5:Nat}
end
end Go.Kc
end
section
namespace Go.Kc
variable {E:List UInt8->List (List UInt8)×Int}
variable (E)
variable {E}
end Go.Kc
end
section
namespace Go.Kc
variable {P:Program} {f:Nat}
instance:DecidableEq GCall:=λa b=>if h:a.name=b.name/\a.act=b.act then isTrue (by obtain⟨h1,h2⟩:=h;cases a;cases b;simp_all)else isFalse (by rintro rfl;exact h ⟨rfl,rfl⟩)
section
variable {l m:List Asg} {j:Nat}
end
end Go.Kc
end
section
namespace Go.Kc
variable {P:Program} {f:Nat}
variable {E:List UInt8->List (List UInt8)×Int}
section
variable {g1 g2 g3 g4:Nat}
end
end Go.Kc
end
section
namespace Go.Kc
variable {P:Program} {f:Nat}
end Go.Kc
end
section
namespace Go.Kc
open Go.RowKit
variable {P:Program} {f:Nat}
end Go.Kc
end
section
namespace Go.Kc
variable {P:Program} {f:Nat}
structure GData where
 nr:Int
 arch:Int
 ip:Int
 a0:Int
 a1:Int
 a2:Int
 a3:Int
 a4:Int
 a5:Int
def zt(d:GData):List AV:=[.w d.nr,.w d.arch,.x d.ip,.x d.a0,.x d.a1,.x d.a2,.x d.a3,.x d.a4,.x d.a5]
def qnC(d:GData)(k:Int):Int:=if k=0 then d.a0 else if k=1 then d.a1 else if k=2 then d.a2 else if k=3 then d.a3 else if k=4 then d.a4 else d.a5
def ofM(t n:Int):Int×Bool :=
 if xq (λx=>decide (x.2=t)) zH 0<0 then(0,false)
 else if xq (λx=>decide (x.2=t)) zH 0=0/\xS .u32 n 1073741824≠0 then(2,true)
 else(xq (λx=>decide (x.2=t)) zH 0,true)
def qdj(a:Int):Int:=(zH.getD a.toNat ([],0)).2
def qhP(a:Nat):IFn:=⟨[.tmp 2,.tmp 3],sq [.r [.m 2 (.c (.w 0)),.m 3 (.k 0)],sq [.r [.n 4 0,.w 5 .lss 4 0,.n 6 5,.z 7 0 6,.g 8 (.bin .geq (.t 7) (.k 6)) 6 false,.o 9 6 8],.cond (.t 9) (sq [.r [.m 2 (.c (.w 0)),.m 3 (.k 80)],.ret]) (.skip)],.r [.l 10 a [],.n 11 0,.q 12 (.idxA 6 2 true (.t 10) (.t 11)),.q 13 (.fld 1 none (.t 12)),.n 2 13,.m 3 (.k 0)],.ret]⟩
def qE0{g:Nat}(hc:qc P f (qhP g)=true)(hg:qa P g [] (.agg (zH.flatMap (qa1 .u32))))(a:Int)(h0:0<=a)(h6:a<6):qa P f [.j a] (.tup [.w (qdj a),.j 0]):=by
 refine qa.mk hc rfl ?_;simp only[qhP,vI,simprocAttr];have n1:¬a<0:=by omega
 have n2:¬6<=a:=by omega
 simp only[↓vS,vT,simprocAttr,n1,n2];refine hg.sc ?_;have h3:a=0\/a=1\/a=2\/a=3\/a=4\/a=5:=by omega
 rcases h3 with rfl|rfl|rfl|rfl|rfl|rfl <;>
 .simp only[↓vS,vT,simprocAttr,zH,qa1,List.flatMap_cons,List.flatMap_nil];simp[vZ,qdj,zH]
def qb8(t:GTest)(d:GData):Bool:=decide (0<=t.arg)&&decide (t.arg<6)&&decide (xS .u64 (qnC d t.arg) t.mask=t.val)
def qmx(x:GFil)(d:GData):Int :=
 if(ofM d.arch d.nr).2=false\/(ofM d.arch d.nr).1≠x.arch then 2147418112
 else match x.rules.find? (λr=>decide (r.nr=d.nr))with
  | none=>x.dflt
  | some r=>match r.tests.find? (λt=>qb8 t d)with
   | some t=>t.act
   | none=>r.act
section
variable {g1 g2 g3 g4 g5:Nat}
end
section
variable {g1 g2:Nat}
end
end Go.Kc
end
section
namespace Go.Kc
def fnd(q:GTest->Bool)(y:Int)(l:List GTest):Int:=match l.find? q with|some t=>t.act|none=>y
theorem qkT(q:GTest->Bool)(y:Int):fnd q y []=y:=rfl
theorem qdH(q:GTest->Bool)(y:Int)(t:GTest)(l:List GTest):fnd q y (t::l)=if q t=true then t.act else fnd q y l:=by
 unfold fnd;rw[List.find?_cons];cases q t<;>rfl
def idxS:List Nat:=[25,27,30,17,29,7,28,26]
end Go.Kc
end
section
namespace Go.Kc
variable {P:Program} {f:Nat}

section
variable {e1 e2 g3 g4 g5 g6 g7:Nat}
end
section
variable {g1 g2 g3 g4 g5 g6 g7 g8 g9 g10 g11 g12:Nat}
end



end Go.Kc
end
section
namespace Go.Kc
variable {P:Program} {f g1 g2:Nat}

end Go.Kc
end
section
namespace Go.Kc
variable {P:Program} {f:Nat}
section
variable {g1 g2 g3 g4 g5 g6 g7 g8 g9:Nat}
end
end Go.Kc
end
section
namespace Go.Kc
section
variable {P:Program} {f g1 g2 g3 g4 g5 g6 g7 g8 g9:Nat}
end
section
variable {P:Program} {f g1 g2 g3 g4 g5 g6 g7 g8 g9:Nat}
end
end Go.Kc
end
section
namespace Go.Kc
variable {P:Program} {f:Nat}
def qc2(x:Int×List UInt8×Int):List AV:=[.h x.1,.s x.2.1,.y x.2.2]
def qpQ(x:Int×List UInt8×Int):(qc2 x).length=3:=rfl
def qaO:List (Int×List UInt8×Int):=[(32,[108,100,97,98,115],1),(128,[108,100,108,101,110],1),(0,[108,100,105],1),(96,[108,100,109],1),(129,[108,100,120,108,101,110],1),(1,[108,100,120,105],1),(97,[108,100,120,109],1),(2,[115,116],2),(3,[115,116,120],2),(4,[97,100,100],3),(20,[115,117,98],3),(36,[109,117,108],3),(52,[100,105,118],3),(68,[111,114],3),(84,[97,110,100],3),(100,[108,115,104],3),(116,[114,115,104],3),(164,[120,111,114],3),(12,[97,100,100,120],3),(28,[115,117,98,120],3),(44,[109,117,108,120],3),(60,[100,105,118,120],3),(76,[111,114,120],3),(92,[97,110,100,120],3),(108,[108,115,104,120],3),(124,[114,115,104,120],3),(172,[120,111,114,120],3),(132,[110,101,103],3),(5,[106,97],4),(21,[106,101,113],4),(37,[106,103,116],4),(53,[106,103,101],4),(69,[106,115,101,116],4),(29,[106,101,113,120],4),(45,[106,103,116,120],4),(61,[106,103,101,120],4),(77,[106,115,101,116,120],4),(6,[114,101,116],5),(22,[114,101,116,97],5),(7,[116,97,120],6),(135,[116,120,97],6)]
def zE:List AV:=[.h 0,.s [],.y 0]
def qag(c:Int):Option (Int×List UInt8×Int):=qaO.find? λx=>decide (x.1=c)
def qff:Option (Int×List UInt8×Int)->List AV
 | some x=>qc2 x
 | none=>zE
def qm(c:Int):Int:=(qag c).elim 0 λx=>x.2.2
def zY(c:Int):Bool:=(qag c).isSome
def qga:IFn:=⟨[.cell 0 123 true],sq [.r [.q 0 (.alloc [.h 0,.s [],.y 0,.h 0,.s [],.y 0,.h 0,.s [],.y 0,.h 0,.s [],.y 0,.h 0,.s [],.y 0,.h 0,.s [],.y 0,.h 0,.s [],.y 0,.h 0,.s [],.y 0,.h 0,.s [],.y 0,.h 0,.s [],.y 0,.h 0,.s [],.y 0,.h 0,.s [],.y 0,.h 0,.s [],.y 0,.h 0,.s [],.y 0,.h 0,.s [],.y 0,.h 0,.s [],.y 0,.h 0,.s [],.y 0,.h 0,.s [],.y 0,.h 0,.s [],.y 0,.h 0,.s [],.y 0,.h 0,.s [],.y 0,.h 0,.s [],.y 0,.h 0,.s [],.y 0,.h 0,.s [],.y 0,.h 0,.s [],.y 0,.h 0,.s [],.y 0,.h 0,.s [],.y 0,.h 0,.s [],.y 0,.h 0,.s [],.y 0,.h 0,.s [],.y 0,.h 0,.s [],.y 0,.h 0,.s [],.y 0,.h 0,.s [],.y 0,.h 0,.s [],.y 0,.h 0,.s [],.y 0,.h 0,.s [],.y 0,.h 0,.s [],.y 0,.h 0,.s [],.y 0,.h 0,.s [],.y 0,.h 0,.s [],.y 0,.h 0,.s [],.y 0])],.r [.q 1 (.build [.h 0,.s [],.y 0] [(0,1,(.c (.h 32))),(1,1,(.c (.s [108,100,97,98,115]))),(2,1,(.c (.y 1)))]),.q 2 (.build [.h 0,.s [],.y 0] [(0,1,(.c (.h 128))),(1,1,(.c (.s [108,100,108,101,110]))),(2,1,(.c (.y 1)))]),.q 3 (.build [.h 0,.s [],.y 0] [(0,1,(.c (.h 0))),(1,1,(.c (.s [108,100,105]))),(2,1,(.c (.y 1)))]),.q 4 (.build [.h 0,.s [],.y 0] [(0,1,(.c (.h 96))),(1,1,(.c (.s [108,100,109]))),(2,1,(.c (.y 1)))]),.q 5 (.build [.h 0,.s [],.y 0] [(0,1,(.c (.h 129))),(1,1,(.c (.s [108,100,120,108,101,110]))),(2,1,(.c (.y 1)))]),.q 6 (.build [.h 0,.s [],.y 0] [(0,1,(.c (.h 1))),(1,1,(.c (.s [108,100,120,105]))),(2,1,(.c (.y 1)))]),.q 7 (.build [.h 0,.s [],.y 0] [(0,1,(.c (.h 97))),(1,1,(.c (.s [108,100,120,109]))),(2,1,(.c (.y 1)))]),.q 8 (.build [.h 0,.s [],.y 0] [(0,1,(.c (.h 2))),(1,1,(.c (.s [115,116]))),(2,1,(.c (.y 2)))]),.q 9 (.build [.h 0,.s [],.y 0] [(0,1,(.c (.h 3))),(1,1,(.c (.s [115,116,120]))),(2,1,(.c (.y 2)))]),.q 10 (.build [.h 0,.s [],.y 0] [(0,1,(.c (.h 4))),(1,1,(.c (.s [97,100,100]))),(2,1,(.c (.y 3)))]),.q 11 (.build [.h 0,.s [],.y 0] [(0,1,(.c (.h 20))),(1,1,(.c (.s [115,117,98]))),(2,1,(.c (.y 3)))]),.q 12 (.build [.h 0,.s [],.y 0] [(0,1,(.c (.h 36))),(1,1,(.c (.s [109,117,108]))),(2,1,(.c (.y 3)))]),.q 13 (.build [.h 0,.s [],.y 0] [(0,1,(.c (.h 52))),(1,1,(.c (.s [100,105,118]))),(2,1,(.c (.y 3)))]),.q 14 (.build [.h 0,.s [],.y 0] [(0,1,(.c (.h 68))),(1,1,(.c (.s [111,114]))),(2,1,(.c (.y 3)))]),.q 15 (.build [.h 0,.s [],.y 0] [(0,1,(.c (.h 84))),(1,1,(.c (.s [97,110,100]))),(2,1,(.c (.y 3)))]),.q 16 (.build [.h 0,.s [],.y 0] [(0,1,(.c (.h 100))),(1,1,(.c (.s [108,115,104]))),(2,1,(.c (.y 3)))]),.q 17 (.build [.h 0,.s [],.y 0] [(0,1,(.c (.h 116))),(1,1,(.c (.s [114,115,104]))),(2,1,(.c (.y 3)))]),.q 18 (.build [.h 0,.s [],.y 0] [(0,1,(.c (.h 164))),(1,1,(.c (.s [120,111,114]))),(2,1,(.c (.y 3)))]),.q 19 (.build [.h 0,.s [],.y 0] [(0,1,(.c (.h 12))),(1,1,(.c (.s [97,100,100,120]))),(2,1,(.c (.y 3)))]),.q 20 (.build [.h 0,.s [],.y 0] [(0,1,(.c (.h 28))),(1,1,(.c (.s [115,117,98,120]))),(2,1,(.c (.y 3)))]),.q 21 (.build [.h 0,.s [],.y 0] [(0,1,(.c (.h 44))),(1,1,(.c (.s [109,117,108,120]))),(2,1,(.c (.y 3)))]),.q 22 (.build [.h 0,.s [],.y 0] [(0,1,(.c (.h 60))),(1,1,(.c (.s [100,105,118,120]))),(2,1,(.c (.y 3)))]),.q 23 (.build [.h 0,.s [],.y 0] [(0,1,(.c (.h 76))),(1,1,(.c (.s [111,114,120]))),(2,1,(.c (.y 3)))]),.q 24 (.build [.h 0,.s [],.y 0] [(0,1,(.c (.h 92))),(1,1,(.c (.s [97,110,100,120]))),(2,1,(.c (.y 3)))]),.q 25 (.build [.h 0,.s [],.y 0] [(0,1,(.c (.h 108))),(1,1,(.c (.s [108,115,104,120]))),(2,1,(.c (.y 3)))]),.q 26 (.build [.h 0,.s [],.y 0] [(0,1,(.c (.h 124))),(1,1,(.c (.s [114,115,104,120]))),(2,1,(.c (.y 3)))]),.q 27 (.build [.h 0,.s [],.y 0] [(0,1,(.c (.h 172))),(1,1,(.c (.s [120,111,114,120]))),(2,1,(.c (.y 3)))]),.q 28 (.build [.h 0,.s [],.y 0] [(0,1,(.c (.h 132))),(1,1,(.c (.s [110,101,103]))),(2,1,(.c (.y 3)))]),.q 29 (.build [.h 0,.s [],.y 0] [(0,1,(.c (.h 5))),(1,1,(.c (.s [106,97]))),(2,1,(.c (.y 4)))]),.q 30 (.build [.h 0,.s [],.y 0] [(0,1,(.c (.h 21))),(1,1,(.c (.s [106,101,113]))),(2,1,(.c (.y 4)))]),.q 31 (.build [.h 0,.s [],.y 0] [(0,1,(.c (.h 37))),(1,1,(.c (.s [106,103,116]))),(2,1,(.c (.y 4)))]),.q 32 (.build [.h 0,.s [],.y 0] [(0,1,(.c (.h 53))),(1,1,(.c (.s [106,103,101]))),(2,1,(.c (.y 4)))]),.q 33 (.build [.h 0,.s [],.y 0] [(0,1,(.c (.h 69))),(1,1,(.c (.s [106,115,101,116]))),(2,1,(.c (.y 4)))]),.q 34 (.build [.h 0,.s [],.y 0] [(0,1,(.c (.h 29))),(1,1,(.c (.s [106,101,113,120]))),(2,1,(.c (.y 4)))]),.q 35 (.build [.h 0,.s [],.y 0] [(0,1,(.c (.h 45))),(1,1,(.c (.s [106,103,116,120]))),(2,1,(.c (.y 4)))]),.q 36 (.build [.h 0,.s [],.y 0] [(0,1,(.c (.h 61))),(1,1,(.c (.s [106,103,101,120]))),(2,1,(.c (.y 4)))]),.q 37 (.build [.h 0,.s [],.y 0] [(0,1,(.c (.h 77))),(1,1,(.c (.s [106,115,101,116,120]))),(2,1,(.c (.y 4)))]),.q 38 (.build [.h 0,.s [],.y 0] [(0,1,(.c (.h 6))),(1,1,(.c (.s [114,101,116]))),(2,1,(.c (.y 5)))]),.q 39 (.build [.h 0,.s [],.y 0] [(0,1,(.c (.h 22))),(1,1,(.c (.s [114,101,116,97]))),(2,1,(.c (.y 5)))]),.q 40 (.build [.h 0,.s [],.y 0] [(0,1,(.c (.h 7))),(1,1,(.c (.s [116,97,120]))),(2,1,(.c (.y 6)))]),.q 41 (.build [.h 0,.s [],.y 0] [(0,1,(.c (.h 135))),(1,1,(.c (.s [116,120,97]))),(2,1,(.c (.y 6)))]),.q 42 (.build [.h 0,.s [],.y 0,.h 0,.s [],.y 0,.h 0,.s [],.y 0,.h 0,.s [],.y 0,.h 0,.s [],.y 0,.h 0,.s [],.y 0,.h 0,.s [],.y 0,.h 0,.s [],.y 0,.h 0,.s [],.y 0,.h 0,.s [],.y 0,.h 0,.s [],.y 0,.h 0,.s [],.y 0,.h 0,.s [],.y 0,.h 0,.s [],.y 0,.h 0,.s [],.y 0,.h 0,.s [],.y 0,.h 0,.s [],.y 0,.h 0,.s [],.y 0,.h 0,.s [],.y 0,.h 0,.s [],.y 0,.h 0,.s [],.y 0,.h 0,.s [],.y 0,.h 0,.s [],.y 0,.h 0,.s [],.y 0,.h 0,.s [],.y 0,.h 0,.s [],.y 0,.h 0,.s [],.y 0,.h 0,.s [],.y 0,.h 0,.s [],.y 0,.h 0,.s [],.y 0,.h 0,.s [],.y 0,.h 0,.s [],.y 0,.h 0,.s [],.y 0,.h 0,.s [],.y 0,.h 0,.s [],.y 0,.h 0,.s [],.y 0,.h 0,.s [],.y 0,.h 0,.s [],.y 0,.h 0,.s [],.y 0,.h 0,.s [],.y 0,.h 0,.s [],.y 0] [(0,3,(.t 1)),(3,3,(.t 2)),(6,3,(.t 3)),(9,3,(.t 4)),(12,3,(.t 5)),(15,3,(.t 6)),(18,3,(.t 7)),(21,3,(.t 8)),(24,3,(.t 9)),(27,3,(.t 10)),(30,3,(.t 11)),(33,3,(.t 12)),(36,3,(.t 13)),(39,3,(.t 14)),(42,3,(.t 15)),(45,3,(.t 16)),(48,3,(.t 17)),(51,3,(.t 18)),(54,3,(.t 19)),(57,3,(.t 20)),(60,3,(.t 21)),(63,3,(.t 22)),(66,3,(.t 23)),(69,3,(.t 24)),(72,3,(.t 25)),(75,3,(.t 26)),(78,3,(.t 27)),(81,3,(.t 28)),(84,3,(.t 29)),(87,3,(.t 30)),(90,3,(.t 31)),(93,3,(.t 32)),(96,3,(.t 33)),(99,3,(.t 34)),(102,3,(.t 35)),(105,3,(.t 36)),(108,3,(.t 37)),(111,3,(.t 38)),(114,3,(.t 39)),(117,3,(.t 40)),(120,3,(.t 41))]),.u (.store 123 (.t 0) (.t 42))],.ret]⟩
set_option maxRecDepth 20000 in
def qBb(hc:qc P f qga=true):qa P f [] (.agg (qaO.flatMap qc2)):=by
 refine qa.mk hc rfl ?_;simp only[qga,vI,simprocAttr];simp only[↓vS,vT,simprocAttr,qaO,qc2,List.flatMap_cons,List.flatMap_nil,vZ]
def qi7(a:Nat):IFn:=⟨[.cell 2 3 true,.tmp 3],sq [.r [.q 2 (.alloc [.h 0,.s [],.y 0]),.m 3 .F],sq [.r [.l 6 a [],.m 7 (.k 0)],.blk 0 (.loop (sq [.r [.w 8 .lss 7 41],.cond (.t 8) (.skip) (.exit 0),.blk 1 (sq [.r [.q 9 (.idxA 41 3 true (.t 6) (.t 7)),.q 5 (.alloc [.h 0,.s [],.y 0]),.u (.store 3 (.t 5) (.t 9))],.r [.n 10 0,.v 11 3 5,⟨(some 12),.callV (.t 10) [.t 11],none⟩],.cond (.t 12) (sq [.r [.v 13 3 5,.u (.store 3 (.t 2) (.t 13)),.m 3 .T],.ret]) (.skip)]),.r [.a 14 7 1,.n 7 14]]))],.r [.q 15 (.build [.h 0,.s [],.y 0] []),.u (.store 3 (.t 2) (.t 15)),.m 3 .F],.ret]⟩
def qFv{e:Nat}(hc:qc P f (qi7 e)=true)(he:qa P e [] (.agg (qaO.flatMap qc2))){g:Nat}{a c:List AV}(ha:qt a=true)(hcc:qt c=true)(p:Int×List UInt8×Int->Bool)(hp:∀x ∈ qaO,qa P g (a++([.agg (qc2 x)]++c)) (.b (p x))) :
  qa P f [.fn g a c] (.tup [.agg (qff (qaO.find? p)),.b (qaO.find? p).isSome]):=by
 refine qa.mk hc (by simp[qt,clo,ha,hcc]) ?_;simp only[qi7,vI,simprocAttr];simp only[↓vS,vT,simprocAttr];refine he.sc ?_;simp only[↓vS,vT,simprocAttr];have hlen:(qaO.flatMap qc2).length=123:=by rw[qW (m:=3) qpQ];rfl
 have hTc:qt (qaO.flatMap qc2)=true:=rfl;refine SL.loop (α:=Nat) (λj=>[(0,.fn g a c),(2,.ptr 0 0),(6,.agg (qaO.flatMap qc2)),(7,.j j)]) (λ_=>[.v zE]) (λj=>j<=41/\qaO.find? p=(qaO.drop j).find? p) (λj=>41-j) 0 [0] ?_ ?_ ?_ rfl ?_ ?_
 .generalize qaO.flatMap qc2=T at hTc;simp[vw,qe,hTc,ha,hcc]
 .simp[vw,zE]
 .simp
 .simp_all
 rintro j ⟨hj,hI⟩ G ih;simp only[vI,simprocAttr]
 by_cases hlt:j<41
 .have hlt':(j:Int)<41:=by omega
  have hjl:j<qaO.length:=hlt;have hx:qaO[j]?=some qaO[j]:=by simp_all
  have hw:IntKind.wrap .i64 ((j:Int)+1)=((j+1:Nat):Int):=by rw[qp (by omega) (by omega)];omega
  have hel:=qS (f:=qc2) (m:=3) qpQ hx;have hb:j*3+3<=(qaO.flatMap qc2).length:=by omega
  have hpx:=hp _ (List.getElem_mem hjl);rw[List.drop_eq_getElem_cons hjl,List.find?_cons]at hI;generalize hc0:qaO[j]=x at hel hI hpx;generalize hT:qaO.flatMap qc2=T at hel hb hlen hTc;simp only[qc2]at hpx;simp only[↓vS,vT,simprocAttr,hlt',hlt,hel,hb,qc2,zE];refine hpx.sc ?_;cases hs:p x with
  | true =>
   rw[hs]at hI;simp +decide only[↓vS,vT,simprocAttr];rw[hI];simp[vZ,qff,qc2]
  | false =>
   rw[hs]at hI;simp +decide only[↓vS,vT,simprocAttr,hw];refine ih (j+1) ⟨hlt,hI⟩ (by omega) _ _ (Wk.mk _ _ [0] ?_ ?_ ?_ rfl)
   .rw[hT];simp[vw,qe,hTc,ha,hcc]
   .simp[vw,zE]
   .simp
 .have hj':j=41:=by omega
  subst hj';have hlt':¬(((41:Nat):Int)<41):=by decide
  have hI':qaO.find? p=none:=hI;clear ih;generalize qaO.flatMap qc2=T;simp +decide only[↓vS,vT,simprocAttr,hlt',zE];rw[hI'];simp[vZ,qff,zE]
def qi6:IFn:=⟨[.tmp 3],sq [.r [.q 2 (.box (.t 0)),.m 3 .F],.r [.f 4 0 2,.d 5 4,.d 6 1,.b 7 .eql 5 6,.n 3 7],.ret]⟩
def qGY(hc:qc P f qi6=true)(x:Int×List UInt8×Int)(n:Int):qa P f [.agg (qc2 x),.pf [.h n] 0] (.b (decide (x.1=n))):=by
 refine qa.mk hc (by simp[qt,clo,qc2]) ?_;simp only[qi6,qc2,vI,simprocAttr];simp only[↓vS,vT,simprocAttr,vZ]
def qlF(a b:Nat):IFn:=⟨[.cell 2 3 true,.tmp 3],sq [.r [.q 1 (.box (.t 0)),.q 2 (.alloc [.h 0,.s [],.y 0]),.m 3 .F],.r [.q 4 (.mkF a [] [.t 1]),.l 5 b [.t 4],.x 6 5 0,.x 7 5 1,.u (.store 3 (.t 2) (.t 6)),.n 3 7],.ret]⟩
def qIa{g1 g2:Nat}(hc:qc P f (qlF g1 g2)=true)(h1:∀x n,qa P g1 [.agg (qc2 x),.pf [.h n] 0] (.b (decide (x.1=n))))(h2:∀(g:Nat) (a c:List AV),qt a=true->qt c=true->∀p:Int×List UInt8×Int->Bool,(∀x ∈ qaO,qa P g (a++([.agg (qc2 x)]++c)) (.b (p x)))->qa P g2 [.fn g a c] (.tup [.agg (qff (qaO.find? p)),.b (qaO.find? p).isSome]))(n:Int) :
  qa P f [.h n] (.tup [.agg (qff (qag n)),.b (zY n)]):=by
 refine qa.mk hc rfl ?_;have h:=h2 g1 [] [.pf [.h n] 0] rfl rfl (λx=>decide (x.1=n)) (λx _=>h1 x n)
 unfold zY qag;have hce:qt (qff (qaO.find? λx=>decide (x.1=n)))=true/\(qff (qaO.find? λx=>decide (x.1=n))).length=3:=by cases qaO.find? λx=>decide (x.1=n)<;>exact⟨rfl,rfl⟩
 generalize(qaO.find? λx=>decide (x.1=n))=o at h hce ⊢
 simp only[qlF,vI,simprocAttr];simp only[↓vS,vT,simprocAttr];refine(h.lend (vs':=[.fn g1 [] [.pf [.h n] 0]]) ?_ ?_ ?_)
 .simp[vZ,vP,Tr.get_set]
 .cases o<;>rfl
 cases o with
 | none =>
  simp +decide only[↓vS,vT,simprocAttr,qff,zE];simp[vZ]
 | some x =>
  simp +decide only[↓vS,vT,simprocAttr,qff,qc2];simp[vZ]
def qlE(a:Nat):IFn:=⟨[.tmp 2],sq [.r [.m 2 (.c (.y 0))],.r [.n 6 0,.l 7 a [.t 6],.n 5 7,.x 8 5 0,.x 9 5 1,.q 3 (.alloc [.h 0,.s [],.y 0]),.u (.store 3 (.t 3) (.t 8)),.n 4 9],.r [.f 10 2 3,.d 11 10,.n 2 11],.ret]⟩
def qH9{g:Nat}(hc:qc P f (qlE g)=true)(hg:∀n,qa P g [.h n] (.tup [.agg (qff (qag n)),.b (zY n)]))(n:Int):qa P f [.h n] (.y (qm n)):=by
 refine qa.mk hc rfl ?_;have h:=hg n;unfold zY at h;simp only[qlE,vI,simprocAttr];simp only[↓vS,vT,simprocAttr];refine h.sc ?_;cases hcn:qag n with
 | none =>
  simp +decide only[↓vS,vT,simprocAttr,qff,zE];simp[vZ,qm,zY,hcn]
 | some x =>
  simp +decide only[↓vS,vT,simprocAttr,qff,qc2];simp[vZ,qm,zY,hcn]
def qhX(a:Nat):IFn:=⟨[.tmp 2],sq [.r [.m 2 .F],.r [.n 6 0,.l 7 a [.t 6],.n 5 7,.x 8 5 0,.x 9 5 1,.q 3 (.alloc [.h 0,.s [],.y 0]),.u (.store 3 (.t 3) (.t 8)),.n 4 9],.r [.n 10 4,.n 2 10],.ret]⟩
def qC1{g:Nat}(hc:qc P f (qhX g)=true)(hg:∀n,qa P g [.h n] (.tup [.agg (qff (qag n)),.b (zY n)]))(n:Int):qa P f [.h n] (.b (zY n)):=by
 refine qa.mk hc rfl ?_;have h:=hg n;unfold zY at h;simp only[qhX,vI,simprocAttr];simp only[↓vS,vT,simprocAttr];refine h.sc ?_;cases hcn:qag n with
 | none =>
  simp +decide only[↓vS,vT,simprocAttr,qff,zE];simp[vZ,qm,zY,hcn]
 | some x =>
  simp +decide only[↓vS,vT,simprocAttr,qff,qc2];simp[vZ,qm,zY,hcn]
end Go.Kc
end
section
namespace Go.Kc
variable {P:Program} {f:Nat}
def leM:List Int->Int
 | []=>0
 | x::l=>x+256*leM l
def qdz(b:List Int):Prop:=∀x ∈ b,0<=x/\x<=255
def qry:∀(l:List Int) (x:Int),leM (l++[x])=leM l+256 ^ l.length*x
 | [],x=>by simp[leM]
 | y::l,x=>by
  simp only[zzC,leM,qry l x,List.length_cons,Int.pow_succ,Int.mul_add];have:256*(256 ^ l.length*x)=256 ^ l.length*256*x:=by rw[<- Int.mul_assoc,Int.mul_comm 256]
  rw[this];omega
def qm2:∀{l:List Int},qdz l->0<=leM l/\leM l<256 ^ l.length
 | [],_=>by simp[leM]
 | x::l,h=>by
  have h1:=qm2 (l:=l) λy hy=>h y (by grind)
  have h2:=h x (by simp);simp only[leM,List.length_cons,Int.pow_succ];omega
def qoO{b:List Int}(h:qdz b)(n:Nat):qdz (b.take n):=λx hx=>h x (by grind)
def qoN{b:List Int}(h:qdz b)(n:Nat):qdz (b.drop n):=λx hx=>h x (by grind)
def qz7{q:IntKind}(hq:q = .u16\/q = .u32){x c:Int}{i:Nat}(hi:8*(i+1)<=q.bits)(hx0:0<=x)(hx:x<256 ^ i)(hc0:0<=c)(hc:c<=255):orI q x (qpX q (q.wrap c) (8*(i:Int)))=x+256 ^ i*c:=by
 obtain⟨a,rfl⟩:∃a:Nat,x=a:=⟨x.toNat,by omega⟩
 obtain⟨d,rfl⟩:∃d:Nat,c=d:=⟨c.toNat,by omega⟩
 have e256:∀i:Nat,(256:Int) ^ i=((2 ^ (8*i):Nat):Int):=λi=>by
  rw[Nat.pow_mul];simp
 rw[e256]at hx ⊢;have ha:a<2 ^ (8*i):=by omega
 have hle:2 ^ (8*(i+1))<=2 ^ q.bits:=Nat.pow_le_pow_right (by decide) hi
 have hd:d*2 ^ (8*i)+a<2 ^ q.bits:=by
  have h1:d*2 ^ (8*i)<=255*2 ^ (8*i):=Nat.mul_le_mul_right _ (by omega);have h2:2 ^ (8*(i+1))=256*2 ^ (8*i):=by rw[Nat.mul_add,Nat.pow_add,Nat.mul_comm]
  omega
 have hpos:0<2 ^ (8*i):=by omega
 have hor:(2 ^ (8*i)*d ||| a)=2 ^ (8*i)*d+a:=(Nat.two_pow_add_eq_or_of_lt ha d).symm
 have hd2:d*2 ^ (8*i)<2 ^ q.bits:=by omega
 rcases hq with rfl|rfl
 .have hb:(2:Nat) ^ IntKind.u16.bits=65536:=by decide
  rw[hb]at hd hd2;have h8:i<=1:=by simp only[IntKind.bits]at hi;omega
  have w1:IntKind.wrap .u16 (d:Int)=d:=by
   show((d:Int) % 65536)=d;omega
  have w2:qpX .u16 (d:Int) (8*(i:Int))=((d*2 ^ (8*i):Nat):Int):=by
   rcases(by omega:i=0\/i=1)with rfl|rfl
   .show IntKind.wrap .u16 _=_;simp[p2,IntKind.wrap,IntKind.bits,IntKind.signed];omega
   .show IntKind.wrap .u16 _=_;simp[p2,IntKind.wrap,IntKind.bits,IntKind.signed]at hd2 ⊢;omega
  rw[w1,w2];show IntKind.wrap .u16 (((BitVec.ofInt 16 (a:Int) ||| BitVec.ofInt 16 ((d*2 ^ (8*i):Nat):Int)).toNat:Nat):Int)=_
  have e1:(BitVec.ofInt 16 (a:Int)).toNat=a:=by rw[BitVec.toNat_ofInt];omega
  have e2:(BitVec.ofInt 16 ((d*2 ^ (8*i):Nat):Int)).toNat=d*2 ^ (8*i):=by rw[BitVec.toNat_ofInt];omega
  rw[BitVec.toNat_or,e1,e2,Nat.or_comm,Nat.mul_comm d,hor];rw[Nat.mul_comm]at hd;show((2 ^ (8*i)*d+a:Nat):Int) % 65536=_;rw[Int.emod_eq_of_lt (by omega) (by omega)];omega
 .have hb:(2:Nat) ^ IntKind.u32.bits=4294967296:=by decide
  rw[hb]at hd hd2;have h8:i<=3:=by simp only[IntKind.bits]at hi;omega
  have w1:IntKind.wrap .u32 (d:Int)=d:=by
   show((d:Int) % 4294967296)=d;omega
  have w2:qpX .u32 (d:Int) (8*(i:Int))=((d*2 ^ (8*i):Nat):Int):=by
   rcases(by omega:i=0\/i=1\/i=2\/i=3)with rfl|rfl|rfl|rfl <;>
   .show IntKind.wrap .u32 _=_;simp[p2,IntKind.wrap,IntKind.bits,IntKind.signed]at hd2 ⊢;omega
  rw[w1,w2];show IntKind.wrap .u32 (((BitVec.ofInt 32 (a:Int) ||| BitVec.ofInt 32 ((d*2 ^ (8*i):Nat):Int)).toNat:Nat):Int)=_
  have e1:(BitVec.ofInt 32 (a:Int)).toNat=a:=by rw[BitVec.toNat_ofInt];omega
  have e2:(BitVec.ofInt 32 ((d*2 ^ (8*i):Nat):Int)).toNat=d*2 ^ (8*i):=by rw[BitVec.toNat_ofInt];omega
  rw[BitVec.toNat_or,e1,e2,Nat.or_comm,Nat.mul_comm d,hor];rw[Nat.mul_comm]at hd;show((2 ^ (8*i)*d+a:Nat):Int) % 4294967296=_;rw[Int.emod_eq_of_lt (by omega) (by omega)];omega
def rB(b:List Int):List AV:=rI .u8 b
def qk0(b:List Int):qt (rB b)=true:=qh
def qEm(b:List Int)(j:Nat):(rB b)[j]?=(b[j]?).map (.i .u8):=qaW
def qj7(b:List Int)(at' n:Nat):List Int:=(b.drop at').take n
def qxx{b:List Int}{at' n:Nat}(h:at'+n<=b.length):(qj7 b at' n).length=n:=by unfold qj7;grind
def qtZ{b:List Int}{at' j:Nat}{c:Int}(h:b[at'+j]?=some c):qj7 b at' (j+1)=qj7 b at' j++[c]:=by
 unfold qj7;rw[List.take_add_one,List.getElem?_drop,h];rfl
def qAH{b:List Int}(h:qdz b)(at' n:Nat):qdz (qj7 b at' n):=qoO (qoN h at') n
def qqx(b:List Int)(at':Nat):AV:=if at'+2<=b.length then .tup [.h (leM (qj7 b at' 2)),.b true]else .tup [.h 0,.b false]
def qda:IFn:=⟨[.tmp 6,.tmp 7],sq [.r [.m 6 (.c (.h 0)),.m 7 .F],sq [.r [.n 10 1,.w 11 .lss 10 0,.n 12 11,.z 13 1 12,.z 14 0 12,.g 15 (.len false (.t 14)) 12 false,.z 16 2 12,.g 17 (.bin .sub (.t 15) (.t 16)) 12 false,.g 18 (.bin .gtr (.t 13) (.t 17)) 12 false,.o 19 12 18],.cond (.t 19) (sq [.r [.m 6 (.c (.h 0)),.m 7 .F],.ret]) (.skip)],.r [.m 8 (.c (.h 0))],sq [.r [.n 20 2,.m 21 (.k 0)],.blk 0 (.loop (sq [.r [.s 22 21 20],.cond (.t 22) (.skip) (.exit 0),.blk 1 (sq [.r [.n 23 21,.n 9 23],.r [.n 24 8,.n 25 0,.n 26 1,.n 27 9,.b 28 .add 26 27,.i 29 1 25 28,.d 30 29,.q 31 (.cvInt .u16 (.t 30)),.n 32 9,.q 33 (.bin .mul (.k 8) (.t 32)),.b 34 .shl 31 33,.b 35 .or 24 34,.n 8 35]]),.r [.a 36 21 1,.n 21 36]]))],.r [.n 37 8,.n 6 37,.m 7 .T],.ret]⟩
def qJn(hc:qc P f qda=true)(b:List Int)(hb:qdz b)(hl:b.length<=2000000)(at':Nat)(ha:at'<=2000000):qa P f [.fz b.length (rB b),.j at',.j 2] (qqx b at'):=by
 refine qa.mk hc (by simp[qt,clo,qk0]) ?_;have hn:¬(at':Int)<0:=by omega
 have hw0:IntKind.wrap .i64 ((b.length:Int)-2)=(b.length:Int)-2:=by grind[qp]
 unfold qqx;simp only[qda,vI,simprocAttr]
 by_cases h:at'+2<=b.length
 .have h':¬(b.length:Int)-2<(at':Int):=by omega
  rw[if_pos h];simp +decide only[↓vS,vT,simprocAttr,hn,h',hw0];refine SL.loop (α:=Nat) (λj=>[(0,.fz b.length (rB b)),(1,.j at'),(8,.h (leM (qj7 b at' j))),(20,.j 2),(21,.j j)]) (λ_=>[]) (λj=>j<=2) (λj=>2-j) 0 [] ?_ ?_ ?_ rfl ?_ ?_
  .simp[vw,qk0,qj7,leM]
  .trivial
  .simp
  .omega
  rintro j hj G ih;simp only[vI,simprocAttr]
  by_cases hlt:j<2
  .have hlt':(j:Int)<2:=by omega
   have hjl:at'+j<b.length:=by omega
   obtain⟨c,hcx⟩:∃c,b[at'+j]?=some c:=⟨_,zzE hjl⟩;have hcb:=hb c (by grind);have hw:IntKind.wrap .i64 ((j:Int)+1)=((j+1:Nat):Int):=by rw[qp (by omega) (by omega)];omega
   have hw2:IntKind.wrap .i64 ((at':Int)+(j:Int))=((at'+j:Nat):Int):=by rw[qp (by omega) (by omega)];omega
   have hw3:IntKind.wrap .i64 (8*(j:Int))=8*(j:Int):=by grind[qp]
   have h8:(0:Int)<=8*(j:Int):=by omega
   have hbd:=qm2 (qAH hb at' j);have hsl:(qj7 b at' j).length=j:=qxx (by omega);rw[hsl]at hbd;have hor:=qz7 (q:=.u16) (by simp) (i:=j) (x:=leM (qj7 b at' j)) (c:=c) (by simp only[IntKind.bits];omega) hbd.1 hbd.2 hcb.1 hcb.2;have hnx:leM (qj7 b at' (j+1))=leM (qj7 b at' j)+256 ^ j*c:=by rw[qtZ hcx,qry,hsl]
   have ih2:=ih (j+1);rw[hnx]at ih2;simp +decide only[↓vS,vT,simprocAttr,hlt',hw2,hjl,zzU,qEm,hcx,Option.map_some,hw3,h8,hor,hw];refine ih2 (by omega) (by omega) _ _ (Wk.mk _ _ [] ?_ ?_ ?_ rfl)
   .simp[vw,qk0]
   .trivial
   .simp
  .have hlt':¬(j:Int)<2:=by omega
   obtain rfl:j=2:=by omega
   clear ih;simp +decide only[↓vS,vT,simprocAttr,hlt'];simp[vZ]
 .have h':(b.length:Int)-2<(at':Int):=by omega
  rw[if_neg h];simp +decide only[↓vS,vT,simprocAttr,hn,h',hw0];simp[vZ]
def qg3(a:Nat):IFn:=⟨[.tmp 4,.tmp 5],sq [.r [.m 4 (.c (.h 0)),.m 5 .F],.r [.n 6 0,.n 7 1,.l 8 a [.t 6,.t 7,.k 2],.x 9 8 0,.x 10 8 1,.n 4 9,.n 5 10],.ret]⟩
def qJm{g:Nat}(hc:qc P f (qg3 g)=true)(hg:∀(b:List Int),qdz b->b.length<=2000000->∀at':Nat,at'<=2000000->qa P g [.fz b.length (rB b),.j at',.j 2] (qqx b at'))(b:List Int)(hb:qdz b)(hl:b.length<=2000000)(at':Nat)(ha:at'<=2000000):qa P f [.fz b.length (rB b),.j at'] (qqx b at'):=by
 refine qa.mk hc (by simp[qt,clo,qk0]) ?_;have h:=hg b hb hl at' ha;unfold qqx at h ⊢;simp only[qg3,vI,simprocAttr];simp only[↓vS,vT,simprocAttr];refine h.sc ?_;split
 .simp +decide only[↓vS,vT,simprocAttr];simp[vZ]
 .simp +decide only[↓vS,vT,simprocAttr];simp[vZ]
structure Ins where
 code:Int
 jt:Int
 jf:Int
 k:Int
def qI(i:Ins):List AV:=[.h i.code,.y i.jt,.y i.jf,.w i.k]
def qaX(i:Ins):(qI i).length=4:=rfl
def qCh(P:Program)(g:Nat):Prop:=∀(b:List Int),qdz b->b.length<=2000000->∀at':Nat,at'<=2000000->qa P g [.fz b.length (rB b),.j at'] (qqx b at')
def rP(p:List Ins):List AV:=p.flatMap qI
def qeY(p:List Ins):(rP p).length=p.length*4:=qW qaX p
theorem qw(p:List Ins):qt (rP p)=true:=xP (λ_=>rfl)
def qEG{h:Hp}{esz n a c:Nat}{q q2 q3:IntKind}{cs:List AV}{k:AV->Prop}(h1:a<c)(h2:c<=n)(h3:c*esz<=cs.length):slK esz (some (.i q (a:Int))) (some (.i q2 (c:Int))) (some (.i q3 (c:Int))) (.fz n cs) h k↔evA (.fz (c-a) ((cs.drop (a*esz)).take ((c-a)*esz))) k:=by
 have hne:Nat.beq c a=false:=by
  grind[Nat.eq_of_beq_eq_true]
 have e1:a*esz<=cs.length:=Nat.le_trans (Nat.mul_le_mul_right _ (by omega)) h3
 have e2:(c-a)*esz<=(cs.drop (a*esz)).length:=by
  rw[List.length_drop,Nat.sub_mul];omega
 have hac:a<=c:=by omega
 simp only[slK,qkM,qq6];show(ifK (c<=n) (ifK (c<=c) (ifK (a<=c) _)))↔_;simp only[ifK,h2,hac,zzL,true_and,Option.isSome_some,hne,Bool.true_and,Bool.false_eq_true,if_false];show(a*esz<=cs.length/\(c-a)*esz<=(cs.drop (a*esz)).length/\_)↔_;simp only[e1,e2,true_and];exact Iff.rfl
def qlA{sz fl:Nat}{tr:Tr Blk}{x:Blk}:Hp.push ⟨sz,fl,tr⟩ x=⟨sz+1,fl,tr.set sz x⟩:=rfl
def qfX{r:Loop}(h:r.state = .ready)(h2:r.pending=none):rdy r=r:=by cases r;simp_all [rdy]
def qqY(x:BitVec 16):IntKind.wrap .u16 (x.toNat:Int)=(x.toNat:Int):=by
 have:=x.isLt;show((x.toNat:Int)) % 65536=_;omega
def qhw(x:BitVec 16):BitVec.ofInt 16 (x.toNat:Int)=x:=by simp
def qIN(x y:BitVec 16):orI .u16 (x.toNat:Int) (y.toNat:Int)=((x ||| y).toNat:Int):=by
 show IntKind.wrap .u16 ((BitVec.ofInt 16 (x.toNat:Int) ||| BitVec.ofInt 16 (y.toNat:Int)).toNat:Int)=_
 rw[qhw,qhw,qqY]
def qAW(x y:BitVec 16):xS .u16 (x.toNat:Int) (y.toNat:Int)=((x &&& y).toNat:Int):=by
 show IntKind.wrap .u16 ((BitVec.ofInt 16 (x.toNat:Int) &&& BitVec.ofInt 16 (y.toNat:Int)).toNat:Int)=_;rw[qhw,qhw,qqY]
def qA7(x y:BitVec 16):qeH .u16 (x.toNat:Int) (y.toNat:Int)=((x &&& ~~~ y).toNat:Int):=by
 show IntKind.wrap .u16 ((BitVec.ofInt 16 (x.toNat:Int) &&& ~~~ (BitVec.ofInt 16 (y.toNat:Int))).toNat:Int)=_;rw[qhw,qhw,qqY]
def cell(k:Int):BitVec 16:=1#16 <<< k.toNat
def qxr{k:Int}(h0:0<=k)(h:k<16):qpX .u16 1 k=((cell k).toNat:Int):=by
 have key:∀n:Fin 16,qpX .u16 1 (n.val:Int)=((cell (n.val:Int)).toNat:Int):=by decide
 have:=key ⟨k.toNat,by omega⟩
 grind
structure InsOk (i:Ins):Prop where
 c0:0<=i.code
 c1:i.code<=65535
 t0:0<=i.jt
 t1:i.jt<=255
 f0:0<=i.jf
 f1:i.jf<=255
 k0:0<=i.k
 k1:i.k<=4294967295
def cOf(P:Program)(g:Nat):Prop:=∀n,qa P g [.h n] (.y (qm n))
def wrM(i:Ins):BitVec 16:=if qm i.code=2/\i.k<16 then cell i.k else 0#16
def rdM(i:Ins):BitVec 16:=if(i.code=96\/i.code=97)/\i.k<16 then cell i.k else 0#16
def qf7(a:Nat):IFn:=⟨[.tmp 2],sq [.r [.q 1 (.box (.t 0)),.m 2 (.c (.h 0))],sq [.r [.f 3 0 1,.d 4 3,.l 5 a [.t 4],.q 6 (.bin .neq (.t 5) (.c (.y 2))),.n 7 6,.h 8 3 1 7 false,.j 9 8 7 false,.g 10 (.bin .geq (.t 9) (.c (.w 16))) 7 false,.o 11 7 10],.cond (.t 11) (sq [.r [.m 2 (.c (.h 0))],.ret]) (.skip)],.r [.f 12 3 1,.d 13 12,.q 14 (.bin .shl (.c (.h 1)) (.t 13)),.n 2 14],.ret]⟩
def qBG{g:Nat}(hc:qc P f (qf7 g)=true)(hg:cOf P g)(i:Ins)(hi:InsOk i):qa P f [.agg (qI i)] (.h ((wrM i).toNat:Int)):=by
 refine qa.mk hc (by rfl) ?_;have h0:=hi.k0;unfold wrM;simp only[qf7,qI,vI,simprocAttr];simp +decide only[↓vS,vT,simprocAttr];refine(hg _).sc ?_
 by_cases h2:qm i.code=2
 .by_cases hk:i.k<16
  .have hk':¬16<=i.k:=by omega
   rw[if_pos ⟨h2,hk⟩];simp +decide only[↓vS,vT,simprocAttr,h2,hk,hk',h0,qxr h0 hk];simp[vZ]
  .have hk':16<=i.k:=by omega
   rw[if_neg (λh=>hk h.2)]
   simp +decide only[↓vS,vT,simprocAttr,h2,hk,hk'];simp[vZ]
 .rw[if_neg (λh=>h2 h.1)]
  simp +decide only[↓vS,vT,simprocAttr,h2];simp[vZ]
def qgI:IFn:=⟨[.tmp 2],sq [.r [.q 1 (.box (.t 0)),.m 2 (.c (.h 0))],sq [.r [.f 3 0 1,.d 4 3,.q 5 (.bin .neq (.t 4) (.c (.h 96))),.n 6 5,.h 7 0 1 6 true,.j 8 7 6 true,.g 9 (.bin .neq (.t 8) (.c (.h 97))) 6 true,.p 10 6 9,.n 11 10,.h 12 3 1 11 false,.j 13 12 11 false,.g 14 (.bin .geq (.t 13) (.c (.w 16))) 11 false,.o 15 11 14],.cond (.t 15) (sq [.r [.m 2 (.c (.h 0))],.ret]) (.skip)],.r [.f 16 3 1,.d 17 16,.q 18 (.bin .shl (.c (.h 1)) (.t 17)),.n 2 18],.ret]⟩
def qEu(hc:qc P f qgI=true)(i:Ins)(hi:InsOk i):qa P f [.agg (qI i)] (.h ((rdM i).toNat:Int)):=by
 refine qa.mk hc (by rfl) ?_;have h0:=hi.k0;unfold rdM;simp only[qgI,qI,vI,simprocAttr]
 by_cases hk:i.k<16
 .have hk':¬16<=i.k:=by omega
  by_cases h1:i.code=96
  .rw[if_pos ⟨.inl h1,hk⟩];simp +decide only[↓vS,vT,simprocAttr,h1,hk',h0,qxr h0 hk];simp[vZ]
  .by_cases h2:i.code=97
   .rw[if_pos ⟨.inr h2,hk⟩];simp +decide only[↓vS,vT,simprocAttr,h2,hk',h0,qxr h0 hk];simp[vZ]
   .rw[if_neg (by omega)];simp +decide only[↓vS,vT,simprocAttr,h1,h2];simp[vZ]
 .have hk':16<=i.k:=by omega
  rw[if_neg (λh=>hk h.2)]
  by_cases h1:i.code=96
  .simp +decide only[↓vS,vT,simprocAttr,h1,hk'];simp[vZ]
  .by_cases h2:i.code=97
   .simp +decide only[↓vS,vT,simprocAttr,h2,hk'];simp[vZ]
   .simp +decide only[↓vS,vT,simprocAttr,h1,h2];simp[vZ]
def rW(s:List (BitVec 16)):List AV:=s.map λx=>.h (x.toNat:Int)
def rTt(r:List Bool):List AV:=r.map .b
def qEs{s:List (BitVec 16)}:(rW s).length=s.length:=by simp[rW]
def qAm{s:List Bool}:(rTt s).length=s.length:=by simp[rTt]
def zN{s:List (BitVec 16)}:qt (rW s)=true:=qcv λ_=>rfl
def zo{s:List Bool}:qt (rTt s)=true:=qcv λ_=>rfl
def qog{s:List (BitVec 16)}{j:Nat}:(rW s)[j]?=(s[j]?).map λx=>.h (x.toNat:Int):=by simp[rW]
def qk5{s:List Bool}{j:Nat}:(rTt s)[j]?=(s[j]?).map .b:=by simp[rTt]
def qrD{α:Type}{F:α->AV}{L:List α}{j:Nat}(h:j<L.length)(x:α):(L.map F).take j++(F x::(L.map F).drop (j+1))=(L.set j x).map F:=by
 rw[<- List.map_take,<- List.map_drop,<- List.map_cons,<- List.map_append,List.set_eq_take_append_cons_drop,if_pos h]
def qEt{s:List (BitVec 16)}{j:Nat}(h:j<s.length)(x:BitVec 16):(rW s).take j++(.h (x.toNat:Int)::(rW s).drop (j+1))=rW (s.set j x):=qrD h x
def qAn{s:List Bool}{j:Nat}(h:j<s.length)(x:Bool):(rTt s).take j++(.b x::(rTt s).drop (j+1))=rTt (s.set j x):=qrD h x
def qcw(s:List (BitVec 16))(r:List Bool)(j:Nat)(x:BitVec 16):List (BitVec 16):=s.set j (if r.getD j false=true then s.getD j 0 &&& x else x)
def qgA(nv:List AV)(s:List (BitVec 16))(r:List Bool):List Blk:=[.v (rW s),.v (rTt r),.v [.sl 0 0 s.length s.length false],.v [.sl 1 0 s.length s.length false]]
def qf6:IFn:=⟨[],sq [sq [.r [.d 6 2,.n 7 0,.i 8 1 6 7,.d 9 8,.q 10 (.un .not (.t 9))],.cond (.t 10) (.r [.d 11 3,.n 12 0,.i 13 1 11 12,.u (.store 1 (.t 13) (.c (.h 65535)))]) (.skip)],.r [.d 14 2,.n 15 0,.i 16 1 14 15,.u (.store 1 (.t 16) .T)],.r [.d 17 3,.n 18 0,.i 19 1 17 18,.d 20 19,.n 21 1,.b 22 .and 20 21,.i 23 1 17 18,.u (.store 1 (.t 23) (.t 22))]]⟩
def qGE(hc:qc P f qf6=true)(s:List (BitVec 16))(r:List Bool)(hr:r.length=s.length)(j:Nat)(hj:j<s.length)(x:BitVec 16) :
  Upd P f [.j j,.h (x.toNat:Int),.ptr 3 0,.ptr 2 0] (qgA [] s r) (.tup []) (qgA [] (qcw s r j x) (r.set j true)):=by
 refine Upd.mk hc (by simp[ji,bnd,qgA]) (by simp[qgA]) ?_;have hjr:j<r.length:=by omega
 obtain⟨y,hy⟩:∃y,s[j]?=some y:=⟨_,zzE hj⟩;obtain⟨b,hb⟩:∃b,r[j]?=some b:=⟨_,zzE hjr⟩;have hl1:j+1<=(rTt r).length:=by rw[qAm];omega
 have hl2:∀s':List (BitVec 16),s'.length=s.length->j+1<=(rW s').length:=λs' h=>by rw[qEs];omega
 have hb1:∀y:Bool,List.take j (rTt r)++(AV.b y::List.drop (j+1) (rTt r))=rTt (r.set j y):=λy=>qAn hjr y
 have hb2:∀(s':List (BitVec 16)) (y:BitVec 16),s'.length=s.length->List.take j (rW s')++(AV.h (y.toNat:Int)::List.drop (j+1) (rW s'))=rW (s'.set j y):=λs' y h=>qEt (by omega) y
 have hc0:=hl2 s rfl;have hc1:=hb2 s (y &&& x) rfl;have hd0:=hl2 (s.set j 65535#16) (by simp);have hd1:=hb2 s 65535#16 rfl;have hd2:=hb2 (s.set j 65535#16) x (by simp);rw[show(((65535#16).toNat:Nat):Int)=65535 from rfl]at hd1
 have hy2:(s.set j 65535#16)[j]?=some 65535#16:=by rw[List.getElem?_set_self (by omega)]
 have hand:xS .u16 65535 (x.toNat:Int)=(x.toNat:Int):=by
  rw[show(65535:Int)=((65535#16).toNat:Int)from rfl,qAW,show(65535#16:BitVec 16)=BitVec.allOnes 16 from rfl,BitVec.allOnes_and]
 have ht3:(65535#16).toNat=65535:=rfl;simp only[qf6,qgA,qcw,List.getD_eq_getElem?_getD,hy,hb,Option.getD_some,vI,simprocAttr];cases b with
 | true =>
  simp +decide only[↓vS,vT,simprocAttr,zzU,qog,qk5,hy,hb,Option.map_some,hl1,hb1,hc0,hc1,qAW,hj];intro _;refine⟨[0,1,2,3],?_⟩;simp[vw,qe,zN,zo];decide
 | false =>
  simp +decide only[↓vS,vT,simprocAttr,zzU,qog,qk5,hy,hb,Option.map_some,hl1,hb1,hc0,hd0,hd1,hy2,hand,hd2,hj];intro _;refine⟨[0,1,2,3],?_⟩;simp[vw,qe,zN,zo];decide
def rNt(l:List Nat):List AV:=l.map λn:Nat=>.j (n:Int)
def qk4{l:List Nat}:(rNt l).length=l.length:=by simp[rNt]
def qY{l:List Nat}:qt (rNt l)=true:=qcv λ_=>rfl
def qrV{l:List Nat}{j:Nat}:(rNt l)[j]?=(l[j]?).map λn:Nat=>.j (n:Int):=by simp[rNt]
def qrU{l m:List Nat}:rNt l++rNt m=rNt (l++m):=by simp[rNt]
def qj9(i:Ins)(x:BitVec 16)(at':Nat)(l:List Nat):List Nat:=if rdM i &&& ~~~ x=0#16 then l else l++[at']
def qef(a:Nat):IFn:=⟨[],sq [.r [.d 6 2,.n 7 0,.i 8 4 6 7,.v 9 4 8,.l 10 a [.t 9],.n 11 1,.b 12 .andNot 10 11,.q 13 (.bin .neq (.t 12) (.c (.h 0)))],.cond (.t 13) (.r [.d 14 3,.n 15 0,.q 16 (.buildS 1 [.j 0] [(0,1,(.t 15))]),.q 17 (.app 1 8 true (.t 14) (.t 16)),.u (.store 1 (.t 3) (.t 17))]) (.skip)]⟩
def qFY{g:Nat}(hc:qc P f (qef g)=true)(hg:∀i,InsOk i->qa P g [.agg (qI i)] (.h ((rdM i).toNat:Int)))(p:List Ins)(hp:p.length<=4096)(l:List Nat)(hl:l.length<=4096)(j:Nat)(i:Ins)(hj:p[j]?=some i)(hi:InsOk i)(x:BitVec 16) :
  Upd P f [.j j,.h (x.toNat:Int),.ptr 0 0,.ptr 1 0] [.v [.fz p.length (rP p)],.v [.own 2 l.length],.cells 1 true true (rNt l)] (.tup [])
   [.v [.fz p.length (rP p)],.v [.own 3 (qj9 i x j l).length],.dead,.cells 1 true true (rNt (qj9 i x j l))]:=by
 refine Upd.mkd hc (by simp[ji,bnd,qu (qw p)]) (by simp) ?_
 have hjl:j<p.length:=by grind
 have hel:=qS (f:=qI) (m:=4) qaX hj;rw[show p.flatMap qI=rP p from rfl]at hel
 have h4:j*4+4<=(rP p).length:=by rw[qeY];omega
 have hr1:l.length+1<=qi:=by simp only[qi];omega
 have hr2:(l.length+1)*8<=qi:=by simp only[qi];omega
 have hap:rNt l++[.j (j:Int)]=rNt (l++[j]):=by rw[<- qrU];rfl
 have hll:(rNt l).length=l.length:=qk4;simp only[qef,vI,simprocAttr];simp +decide only[↓vS,vT,simprocAttr,hjl,hel,h4];refine(hg i hi).sc ?_;unfold qj9
 by_cases h0:rdM i &&& ~~~ x=0#16
 .have h0':(((rdM i &&& ~~~ x).toNat:Nat):Int)=0:=by rw[h0];rfl
  rw[if_pos h0];simp +decide only[↓vS,vT,simprocAttr,qA7,h0'];intro _;refine⟨[0,1,2,2],?_⟩;simp[vw,qe,qw,qY,jD,rl]
  grind
 .have h0':¬(((rdM i &&& ~~~ x).toNat:Nat):Int)=0:=λh=>h0 (by
   have:(rdM i &&& ~~~ x).toNat=0:=by omega
   exact BitVec.eq_of_toNat_eq this)
  rw[if_neg h0];simp +decide only[↓vS,vT,simprocAttr,qA7,h0',zzU,hr1,hr2,hll,hap];intro _;refine⟨[0,1,2,4],?_⟩;simp[vw,qe,qw,qY,jD,rl]
  grind
def qH:IFn:=⟨[.tmp 2],sq [.r [.m 2 .N],sq [.r [.n 6 0,.e 7 6,.w 8 .lss 7 2],.cond (.t 8) (sq [.r [.n 9 0,.n 2 9],.ret]) (.skip)],sq [.r [.m 3 (.k 1)],.blk 0 (.loop (sq [sq [.r [.n 10 3,.n 11 0,.e 12 11,.s 13 10 12],.cond (.t 13) (.skip) (.exit 0)],.blk 1 (sq [.reg true [.n 16 0,.n 17 3,.i 18 1 16 17,.d 19 18,.n 20 0,.n 21 3,.w 22 .sub 21 1,.i 23 1 20 22,.d 24 23,.b 25 .eql 19 24],.cond (.t 25) (sq [.r [.n 26 0,.n 27 3,.q 28 (.slcS 1 (.t 26) (some (.t 27)) none none),.n 4 28],sq [.r [.m 5 (.k 1)],.blk 2 (.loop (sq [sq [.r [.n 29 5,.n 30 4,.e 31 30,.s 32 29 31],.cond (.t 32) (.skip) (.exit 2)],.blk 3 (sq [.reg true [.n 35 4,.n 36 5,.i 37 1 35 36,.d 38 37,.n 39 4,.n 40 5,.w 41 .sub 40 1,.i 42 1 39 41,.d 43 42,.b 44 .neq 38 43],.cond (.t 44) (sq [.r [.n 45 0,.n 46 3,.n 47 4,.n 48 5,.i 49 1 47 48,.d 50 49,.i 51 1 45 46,.u (.store 1 (.t 51) (.t 50))],.r [.n 52 3,.a 53 52 1,.n 3 53]]) (.skip)]),.r [.n 33 5,.a 34 33 1,.n 5 34]]))],.r [.n 54 0,.n 55 3,.q 56 (.slcS 1 (.t 54) (some (.t 55)) none none),.u (.clear [.j 0] (.t 56))],.r [.n 57 0,.n 58 3,.q 59 (.slcS 1 (.t 57) none (some (.t 58)) none),.n 2 59],.ret]) (.skip)]),.r [.n 14 3,.a 15 14 1,.n 3 15]]))],.r [.n 60 0,.n 2 60],.ret]⟩
def qu3(hc:qc P f qH=true):qa P f [.nils] .nils:=by
 refine qa.mk hc rfl ?_;simp only[qH,vI,simprocAttr];simp +decide only[↓vS,vT,simprocAttr];simp[vZ]
def qoX(hc:qc P f qH=true)(x:Int):Upd P f [.sl 0 0 1 1 false] [.v [.j x]] (.sl 0 0 1 1 false) [.v [.j x]]:=by
 refine Upd.mk hc (by simp[ji,bnd]) (by simp) ?_;simp only[qH,vI,simprocAttr];simp +decide only[↓vS,vT,simprocAttr];intro _;refine⟨[0],?_⟩;simp[vw,qe]
def qoY(hc:qc P f qH=true)(x y:Int):Upd P f [.sl 0 0 2 2 false] [.v [.j x,.j y]] (.sl 0 0 (if x=y then 1 else 2) 2 false) [.v [.j x,.j (if x=y then 0 else y)]]:=by
 refine Upd.mk hc (by simp[ji,bnd]) (by simp) ?_;simp only[qH,vI,simprocAttr];simp +decide only[↓vS,vT,simprocAttr];refine SL.loopn (α:=Nat) (λk=>[(0,.sl 0 0 2 2 false),(3,.j (k:Int))]) (λ_=>[.v [.j x,.j y]]) (λk=>k=1\/k=2/\x≠y) (λk=>2-k) 1 [0] ?_ ?_ ?_ rfl ?_ ?_ ?_ ?_
 .simp[vw]
 .simp[vw]
 .simp
 .simp
 .intro b hb;obtain rfl:b=0:=by omega
  rfl
 .omega
 rintro k hk G ih;have hw0:IntKind.wrap .i64 0=0:=rfl;have hw1:IntKind.wrap .i64 1=1:=rfl;have hw2:IntKind.wrap .i64 2=2:=rfl;simp only[vI,simprocAttr];rcases hk with rfl|⟨rfl,hne⟩
 .by_cases h:x=y
  .subst h;simp +decide only[↓vS,vT,simprocAttr];refine zB ?_;simp +decide only[↓vS,vT,simprocAttr,hw0];refine SL.loopn (α:=Unit) (λ_=>[(0,.sl 0 0 2 2 false),(3,.j 1),(4,.sl 0 1 1 1 false),(5,.j 1)]) (λ_=>[.v [.j x,.j x]]) (λ_=>True) (λ_=>0) () [0] ?_ ?_ ?_ rfl ?_ ?_ ?_ ?_
   .simp[vw]
   .simp[vw]
   .simp
   .simp
   .intro b hb;obtain rfl:b=0:=by omega
    rfl
   .trivial
   rintro _ _ G2 _;simp only[vI,simprocAttr];simp +decide only[↓vS,vT,simprocAttr];intro _;refine⟨[0],?_⟩;simp[vw,qe]
  .have h':¬y=x:=λe=>h e.symm
   simp +decide only[↓vS,vT,simprocAttr];refine zB ?_;simp +decide only[↓vS,vT,simprocAttr,h',hw0,hw1,hw2];refine ih 2 (.inr ⟨rfl,h⟩) (by decide) _ _ (Wk.mkn _ _ [0] ?_ ?_ ?_ rfl ?_ ?_)
   .simp[vw]
   .simp[vw]
   .simp
   .simp
   .intro b hb;obtain rfl:b=0:=by omega
    rfl
 .simp +decide only[↓vS,vT,simprocAttr,hne,if_false];intro _;refine⟨[0],?_⟩;simp[vw,qe,hne]
def loM(i:Ins):Int:=if i.jf<i.jt then i.jf else i.jt
def hiM(i:Ins):Int:=if i.jt<i.jf then i.jf else i.jt
def qcL(i:Ins)(at':Nat):List Nat :=
 if qm i.code=0\/qm i.code=5 then []
 else if qm i.code=4 then(if i.code=5 then [at'+1+i.k.toNat]else if loM i=hiM i then [at'+1+(loM i).toNat]else [at'+1+(loM i).toNat,at'+1+(hiM i).toNat])
 else [at'+1]
def goM(n:Nat)(x:BitVec 16):List Nat->List (BitVec 16)×List Bool->List (BitVec 16)×List Bool
 | [],st=>st
 | m::L,st=>if m<n then goM n x L (qcw st.1 st.2 m x,st.2.set m true)else st
def qvD{n:Nat}{x:BitVec 16}{m:Nat}{L:List Nat}{st:List (BitVec 16)×List Bool}:goM n x (m::L) st=if m<n then goM n x L (qcw st.1 st.2 m x,st.2.set m true)else st:=rfl
theorem qrp{n:Nat}{x:BitVec 16}:∀(L:List Nat) (st:List (BitVec 16)×List Bool),(goM n x L st).1.length=st.1.length/\(goM n x L st).2.length=st.2.length
 | [],_=>⟨rfl,rfl⟩
 | m::L,st=>by
  unfold goM;split
  .have:=qrp (n:=n) (x:=x) L (qcw st.1 st.2 m x,st.2.set m true);simpa[qcw]using this
  omega
def wkB(p:List Ins)(gc:Nat)(l:List Nat)(st:List (BitVec 16)×List Bool):List Blk:=[.v [.fz p.length (rP p)],.v [.own 2 l.length],.cells 1 true true (rNt l),.v (rW st.1),.v (rTt st.2),.v [.sl 3 0 st.1.length st.1.length false],.v [.sl 4 0 st.1.length st.1.length false],.v [.fn gc [] [.ptr 6 0,.ptr 5 0]]]
def wI(p:List Ins)(gc:Nat)(l:List Nat)(st:List (BitVec 16)×List Bool)(j:Nat)(i:Ins):List Blk:=wkB p gc l st++[.v [.j (j:Int)],.v (qI i)]
def qe4(gv:Nat):AV:=.fn gv [] [.ptr 0 0,.ptr 1 0]
def qjF(gw:Nat)(p:List Ins)(j:Nat)(i:Ins):AV:=.fn gw [] [.pf (qI i) 0,.pf [.j (j:Int)] 0,.pf [.j (p.length:Int)] 0]
def wT(gv:Nat)(p:List Ins)(j:Nat):List (Nat×AV):=[(0,.fz p.length (rP p)),(1,qe4 gv),(4,.ptr 5 0),(5,.ptr 6 0),(6,.ptr 7 0),(20,.fz p.length (rP p)),(21,.j (p.length:Int)),(22,.j (j:Int))]
def wTr(gv gw:Nat)(p:List Ins)(j:Nat)(i:Ins):List (Nat×AV):=wT gv p j++[(7,.ptr 8 0),(8,.ptr 9 0),(47,qjF gw p j i)]
def xh(a b:Nat):ICode:=.blk 1 (.loop (sq [.r [.s 52 51 50],.cond (.t 52) (.skip) (.exit 1),.blk 2 (sq [.r [.i 53 1 49 51,.d 54 53,.n 7 54],.r [.n 55 7,.d 56 3,.b 57 .geq 55 56,.n 58 57,.z 59 0 58,.z 60 7 58,⟨(some 61),.callV (.t 59) [.t 60],(some (58,false))⟩,.g 62 (.un .not (.t 61)) 58 false,.o 63 58 62],.cond (.t 63) (.ret) (.skip)]),.r [.a 64 51 1,.n 51 64]]))
def jR(a b:Nat):IFn:=⟨[],sq [.r [.m 5 .N],sq [.r [.f 8 0 1,.d 9 8,.l 10 a [.t 9]],.blk 0 (sq [sq [.r [.q 15 (.bin .eql (.t 10) (.c (.y 0))),.n 14 15],.cond (.t 14) (.skip) (.r [.q 16 (.bin .eql (.t 10) (.c (.y 5))),.n 14 16])],.cond (.t 14) (.skip) (sq [.r [.q 18 (.bin .eql (.t 10) (.c (.y 4))),.n 17 18],.cond (.t 17) (sq [.r [.d 19 2,.a 20 19 1,.f 21 1 1,.d 22 21,.f 23 2 1,.d 24 23,.q 25 (.min (.t 22) (.t 24)),.q 26 (.cvInt .i64 (.t 25)),.b 27 .add 20 26,.d 28 2,.a 29 28 1,.f 30 1 1,.d 31 30,.f 32 2 1,.d 33 32,.q 34 (.max (.t 31) (.t 33)),.q 35 (.cvInt .i64 (.t 34)),.b 36 .add 29 35,.q 37 (.buildS 2 [.j 0] [(0,1,(.t 27)),(1,1,(.t 36))]),.n 5 37],.r [.f 38 0 1,.d 39 38,.q 40 (.bin .eql (.t 39) (.c (.h 5)))],.cond (.t 40) (.r [.d 41 2,.a 42 41 1,.f 43 3 1,.d 44 43,.q 45 (.cvInt .i64 (.t 44)),.b 46 .add 42 45,.q 47 (.buildS 1 [.j 0] [(0,1,(.t 46))]),.n 5 47]) (.skip)]) (.r [.d 11 2,.a 12 11 1,.q 13 (.buildS 1 [.j 0] [(0,1,(.t 12))]),.n 5 13])])])],.r [.n 48 5,.l 49 b [.t 48],.e 50 49,.m 51 (.k 0)],.cut (xh a b)]⟩
def qbG(a b c:Nat):ICode:=.r [.a 59 22 1,.n 22 59]
def qbF(a b c:Nat):ICode:=sq [.r [.v 43 4 8,.d 44 7,.n 45 0,.e 46 45,.l 47 b [.t 43,.t 44,.t 46]],.blk 2 (.rangeF 0 (.t 47) [48] (.r [.n 9 48]) (.blk 3 (.reg true [.d 49 6,.n 50 9,.d 51 4,.d 52 7,.i 53 1 51 52,.d 54 53,.v 55 4 8,.l 56 c [.t 55],.b 57 .or 54 56,⟨(some 58),.callVW (.t 49) [.t 50,.t 57],none⟩])))]
def qbE(a b c:Nat):ICode:=sq [sq [.r [.d 31 5,.d 32 7,.i 33 1 31 32,.d 34 33,.q 35 (.un .not (.t 34))],.cond (.t 35) (.exit 1) (.skip)],.reg true [.n 36 1,.d 37 7,.d 38 4,.d 39 7,.i 40 1 38 39,.d 41 40,⟨(some 42),.callVW (.t 36) [.t 37,.t 41],none⟩],.cut (qbF a b c)]
def qhS(a b c:Nat):IFn:=⟨[],sq [sq [.r [.n 10 0,.e 11 10,.w 12 .gtr 11 4096],.cond (.t 12) (.ret) (.skip)],.reg true [.n 13 0,.e 14 13,.q 15 (.mkS 1 2 [.h 0] (.t 14) (.t 14)),.n 16 0,.e 17 16,.q 18 (.mkS 1 1 [.b false] (.t 17) (.t 17)),.q 4 (.alloc [.nils]),.q 5 (.alloc [.nils]),.u (.storeD 1 (.t 4) (.t 15) []),.u (.store 1 (.t 5) (.t 18))],.r [.q 19 (.mkF a [] [.t 5,.t 4]),.q 6 (.alloc [.nilf]),.u (.store 1 (.t 6) (.t 19))],.r [.n 20 0,.e 21 20,.m 22 (.k 0)],.blk 0 (.loop (sq [.r [.s 23 22 21],.cond (.t 23) (.skip) (.exit 0),.blk 1 (sq [.r [.n 24 22,.i 25 4 20 22,.v 26 4 25,.q 7 (.alloc [.j 0]),.q 8 (.alloc [.h 0,.y 0,.y 0,.w 0]),.u (.store 1 (.t 7) (.t 24)),.u (.store 4 (.t 8) (.t 26))],sq [.r [.d 27 7,.w 28 .eql 27 0],.cond (.t 28) (.r [.d 29 6,⟨(some 30),.callVW (.t 29) [.k 0,(.c (.h 0))],none⟩]) (.skip)],.cut (qbE a b c)]),.cut (qbG a b c)]))]⟩
def aW:ICode:=.r [.n 9 48]
def bW(fw:Nat):ICode:=.blk 3 (.reg true [.d 49 6,.n 50 9,.d 51 4,.d 52 7,.i 53 1 51 52,.d 54 53,.v 55 4 8,.l 56 fw [.t 55],.b 57 .or 54 56,⟨(some 58),.callVW (.t 49) [.t 50,.t 57],none⟩])
structure RecOk (P:Program) (r0:Loop) (ps:List Nat) (ai bi:ICode):Prop where
 st:r0.state = .ready
 pd:r0.pending=none
 ok:LoopOk P r0 ps ai bi
def quY{i:Ins}:List.take 4 (List.drop 0 (qI i))=qI i:=rfl
def qA6{i:Ins}:4<=(qI i).length:=zzL 4
def qq9(P:Program)(gc:Nat):Prop:=∀(s:List (BitVec 16)) (r:List Bool),r.length=s.length->∀j:Nat,j<s.length->∀x:BitVec 16,
  Upd P gc [.j j,.h (x.toNat:Int),.ptr 3 0,.ptr 2 0] (qgA [] s r) (.tup []) (qgA [] (qcw s r j x) (r.set j true))
def cWr(P:Program)(g:Nat):Prop:=∀i,InsOk i->qa P g [.agg (qI i)] (.h ((wrM i).toNat:Int))
def qla{g1 g2 g3 gc gv gw:Nat}(hcome:qq9 P gc)(hwr:cWr P g3)(p:List Ins)(hp:p.length<=4096)(i:Ins)(hi:InsOk i)(j:Nat)(l:List Nat)
  (r0:Loop) (hr:RecOk P r0 [48] aW (bW g3)) (L:List Nat) (ex:List AV) (hex:qt ex=true) (cp:Nat) (hcp:L.length<=cp) (hL:∀n ∈ L,j<n) (hL4:L.length<=4)
  (x:BitVec 16) (s0:List (BitVec 16)×List Bool) (hs1:s0.1.length=p.length) (hs2:s0.2.length=p.length) (hx:s0.1[j]?=some x) (Qf:AV->Hp->Prop)
  (hQ:Qf (.tup []) (mkH 0 (wI p gc l (goM p.length (x ||| wrM i) L s0) j i++[.map (zJ r0 (wTr gv gw p j i)),.v (rNt L++ex)])))
  {t':Tr AV} {h':Hp} (hw:Wk 11 t' h' (mkT [(0,.yl 10),(3,.pf [.j (p.length:Int)] 0),(49,.sl 11 0 L.length cp false),(50,.j (L.length:Int)),(51,.j 0)]) (mkH 0 (wI p gc l s0 j i++[.map (zJ r0 (wTr gv gw p j i)),.v (rNt L++ex)]))) :
  S P 11 (xh g1 g2) (xu [] Qf) t' h':=by
 refine S.weak hw (qk ?_);have hid:=qfX hr.st hr.pd;simp only[xh,wI,wkB,zzC,zzN,vI,simprocAttr];simp +decide only[↓vS,vT,simprocAttr]
 refine SL.loopn (α:=Nat×(List (BitVec 16)×List Bool)) (λa=>[(0,.yl 10),(3,.pf [.j (p.length:Int)] 0),(49,.sl 11 0 L.length cp false),(50,.j (L.length:Int)),(51,.j (a.1:Int))])
  (λa=>wI p gc l a.2 j i++[.map (zJ r0 (wTr gv gw p j i)),.v (rNt L++ex)])
  (λa=>a.1<=L.length/\a.2.1.length=p.length/\a.2.2.length=p.length/\a.2.1[j]?=some x/\goM p.length (x ||| wrM i) (L.drop a.1) a.2=goM p.length (x ||| wrM i) L s0) (λa=>L.length-a.1) (0,s0) [0,1,2,3,4,5,6,7,8,9,10,11] ?_ ?_ ?_ rfl ?_ ?_ ?_ ?_
 .simp[vw,wI,wkB]
 .simp[vw,wI,wkB,wTr,wT,qe4,qjF,qw,qY,zN,zo,qe,hex,qI,qbB,qbW,qaG,x5,xN]
 .simp
 .simp[wI,wkB]
 .intro b hb;have:b=0\/b=1\/b=2\/b=3\/b=4\/b=5\/b=6\/b=7\/b=8\/b=9\/b=10:=by omega
  rcases this with rfl|rfl|rfl|rfl|rfl|rfl|rfl|rfl|rfl|rfl|rfl<;>rfl
 .simp_all
 rintro⟨q,s,r⟩ ⟨hq,hl1,hl2,hxq,hgo⟩ G ih;simp only at hq hl1 hl2 hxq hgo;simp only[wI,wkB,zzC,zzN,vI,simprocAttr]
 by_cases hlt:q<L.length
 .obtain⟨n,hn⟩:∃n,L[q]?=some n:=⟨_,zzE hlt⟩;have hjn:=hL n (by grind);have hgn:(rNt L++ex)[q]?=some (.j (n:Int)):=by rw[List.getElem?_append_left (by rw[qk4];omega),qrV,hn];rfl
  have hqc:q<cp:=by omega
  simp +decide only[↓vS,vT,simprocAttr,hlt,zzU,hgn]
  have hdr:L.drop q=n::L.drop (q+1):=by
   grind[List.drop_eq_getElem_cons]
  rw[hdr,qvD]at hgo
  by_cases hnl:n<p.length
  .have hnl':¬(p.length:Int)<=(n:Int):=by omega
   rw[if_pos hnl]at hgo;have hw1:IntKind.wrap .i64 ((q:Int)+1)=((q+1:Nat):Int):=by rw[qp (by omega) (by omega)];omega
   have hjs:j<p.length:=by omega
   have hcm:=hcome s r (by omega) n (by omega) (x ||| wrM i)
   have hln:(qcw s r n (x ||| wrM i)).length=p.length:=by simp[qcw,hl1]
   have hxn:(qcw s r n (x ||| wrM i))[j]?=some x:=by unfold qcw;rw[List.getElem?_set_ne (by omega)];omega
   have hln2:(r.set n true).length=p.length:=by grind
   have ih2:=ih (q+1,qcw s r n (x ||| wrM i),r.set n true) (by grind) (by omega)
   simp +decide only[↓vS,vT,simprocAttr,hnl'];refine SY.mk (r:=r0) (ts:=wTr gv gw p j i) (ps:=[48]) (ai:=aW) (bi:=bW g3) (by simp[Tr.get_set]) hr.st hr.ok (Nat.zero_le _) (by grind) rfl ?_;rw[show mkT (wTr gv gw p j i)=mkT [(0,.fz p.length (rP p)),(1,qe4 gv),(4,.ptr 5 0),(5,.ptr 6 0),(6,.ptr 7 0),(20,.fz p.length (rP p)),(21,.j (p.length:Int)),(22,.j (j:Int)),(7,.ptr 8 0),(8,.ptr 9 0),(47,qjF gw p j i)]from rfl]
   refine qk ?_;simp only[aW,qkB,vI,simprocAttr];simp only[↓vS,vT,simprocAttr];refine⟨wTr gv gw p j i,by simp[Tr.get_set],?_⟩
   refine qk ?_;simp only[qB,bW,vI,simprocAttr];simp +decide only[↓vS,vT,simprocAttr];refine zB ?_;simp +decide only[↓vS,vT,simprocAttr,hl1,hjs,zzU,qog,hxq,Option.map_some,quY,qA6];refine(hwr i hi).pc ?_;simp +decide only[↓vS,vT,simprocAttr,qIN];refine hcm.pc (vs:=[.j n,.h ((x ||| wrM i).toNat:Int),.ptr 3 0,.ptr 2 0]) [3,4,5,6] (Lent.of (by decide) ?_) ?_
   .simp[vL,vw,qgA,qu zN,qf zN,qu zo,qf zo,hl1]
   simp only[vK,simprocAttr,qgA,qf zN,qf zo];simp +decide only[↓vS,vT,simprocAttr];refine⟨bsy r0,wTr gv gw p j i,by simp[Tr.get_set],?_⟩
   rw[qey,hid];simp only[qB];simp +decide only[↓vS,vT,simprocAttr,hw1,hnl'];refine ih2 _ _ (Wk.mkn _ _ [0,1,2,3,4,5,6,7,8,9,10,11] ?_ ?_ ?_ rfl ?_ ?_)
   .simp[vw,wI,wkB]
   .simp[vw,wI,wkB,wTr,wT,qe4,qjF,qw,qY,zN,zo,qe,hex,qI,qbB,qbW,qaG,x5,xN]
   .simp
   .simp[wI,wkB]
   .intro b hb;have:b=0\/b=1\/b=2\/b=3\/b=4\/b=5\/b=6\/b=7\/b=8\/b=9\/b=10:=by omega
    rcases this with rfl|rfl|rfl|rfl|rfl|rfl|rfl|rfl|rfl|rfl|rfl<;>rfl
  .have hnl':(p.length:Int)<=(n:Int):=by omega
   rw[if_neg hnl]at hgo;simp +decide only[↓vS,vT,simprocAttr,hnl'];rw[<- hgo]at hQ;exact hQ
 .obtain rfl:q=L.length:=by omega
  simp +decide only[↓vS,vT,simprocAttr,hlt];rw[List.drop_length]at hgo;rw[<- hgo]at hQ;exact hQ
def qhT(a:Nat):IFn:=⟨[.tmp 6],sq [.r [.q 3 (.box (.t 0)),.q 4 (.box (.t 1)),.q 5 (.box (.t 2)),.m 6 (.c (.nilf))],.r [.q 7 (.mkF a [] [.t 3,.t 4,.t 5]),.n 6 7],.ret]⟩
def qIk{g:Nat}(hc:qc P f (qhT g)=true)(i:Ins)(j n:Nat):qa P f [.agg (qI i),.j (j:Int),.j (n:Int)] (.fn g [] [.pf (qI i) 0,.pf [.j (j:Int)] 0,.pf [.j (n:Int)] 0]):=by
 refine qa.mk hc rfl ?_;simp only[qhT,vI,simprocAttr];simp +decide only[↓vS,vT,simprocAttr];simp[vZ,vP,Tr.get_set,qI]
def qoc{x:Nat}:rNt [x]=[.j (x:Int)]:=rfl
def qod{x y:Nat}:rNt [x,y]=[.j (x:Int),.j (y:Int)]:=rfl
def qxR{g1 g2:Nat}(g3 gv gw gc:Nat)(p:List Ins)(i:Ins)(j:Nat)(l:List Nat)(r0:Loop)(s0:List (BitVec 16)×List Bool)(Qf:AV->Hp->Prop)
  (hQ:Qf (.tup []) (mkH 0 (wI p gc l s0 j i++[.map (zJ r0 (wTr gv gw p j i))])))
  {t':Tr AV} {h':Hp} (hw:Wk 11 t' h' (mkT [(50,.j 0),(51,.j 0)]) (mkH 0 (wI p gc l s0 j i++[.map (zJ r0 (wTr gv gw p j i))]))) :
  S P 11 (xh g1 g2) (xu [] Qf) t' h':=by
 refine S.weak hw (qk ?_);simp only[xh,wI,wkB,zzC,zzN,vI,simprocAttr];simp +decide only[↓vS,vT,simprocAttr];refine SL.loopn (α:=Unit) (λ_=>[(50,.j 0),(51,.j 0)]) (λ_=>wI p gc l s0 j i++[.map (zJ r0 (wTr gv gw p j i))]) (λ_=>True) (λ_=>0) () [0,1,2,3,4,5,6,7,8,9,10] ?_ ?_ ?_ rfl ?_ ?_ ?_ ?_
 .simp[vw,wI,wkB]
 .simp[vw,wI,wkB,wTr,wT,qe4,qjF,qw,qY,zN,zo,qe,qI,qbB,qbW,qaG,x5,xN]
 .simp
 .simp[wI,wkB]
 .intro b hb;have:b=0\/b=1\/b=2\/b=3\/b=4\/b=5\/b=6\/b=7\/b=8\/b=9\/b=10:=by omega
  rcases this with rfl|rfl|rfl|rfl|rfl|rfl|rfl|rfl|rfl|rfl|rfl<;>rfl
 .trivial
 rintro _ _ G _;simp only[wI,wkB,zzC,zzN,vI,simprocAttr];simp +decide only[↓vS,vT,simprocAttr];exact hQ
def qxQ{g1 g2 g3 g4 gc gv gw:Nat}(hcw:qc P gw (jR g1 g2)=true)(hof:cOf P g1)(hcc:qc P g2 qH=true)(hcome:qq9 P gc)(hwr:cWr P g3)
  (hwy:∀i (j n:Nat),qa P g4 [.agg (qI i),.j (j:Int),.j (n:Int)] (.fn gw [] [.pf (qI i) 0,.pf [.j (j:Int)] 0,.pf [.j (n:Int)] 0]))
  (p:List Ins) (hp:p.length<=4096) (i:Ins) (hi:InsOk i) (j:Nat) (hj:j<p.length) (l:List Nat)
  (x:BitVec 16) (s0:List (BitVec 16)×List Bool) (hs1:s0.1.length=p.length) (hs2:s0.2.length=p.length) (hx:s0.1[j]?=some x) (Q:X->Tr AV->Hp->Prop)
  (hQ:∀t'' h'',Wk 2 t'' h'' (mkT (wT gv p j)) (mkH 0 (wkB p gc l (goM p.length (x ||| wrM i) (qcL i j) s0)))->Q .normal t'' h'')
  {t':Tr AV} {h':Hp} (hw:Wk 2 t' h' (mkT (wT gv p j++[(7,.ptr 8 0),(8,.ptr 9 0)])) (mkH 0 (wI p gc l s0 j i))) :
  S P 2 (qbF gc g4 g3) Q t' h':=by
 refine S.weak hw (qk ?_);simp only[qbF,wT,wI,wkB,zzC,zzN,vI,simprocAttr];simp +decide only[↓vS,vT,simprocAttr,quY,qA6];refine(hwy i j p.length).sc ?_;simp +decide only[↓vS,vT,simprocAttr];refine S.weak (Wk.mkn (wTr gv gw p j i) (wI p gc l s0 j i) [0,1,2,3,4,5,6,7,8,9] ?_ ?_ ?_ rfl ?_ ?_) ?_
 .simp[vw,wTr,wT,qe4,qjF,qw,wI,wkB,qI]
 .simp[vw,wI,wkB,qw,qY,zN,zo,qe,qI]
 .simp
 .simp[wI,wkB]
 .intro b hb;have:b=0\/b=1:=by omega
  rcases this with rfl|rfl<;>rfl
 refine S.rangeF (by simp[jD,wI,wkB]) (by simp[wTr,wT]) ⟨rfl,rfl⟩ ?_;refine qkc.2 ⟨qjF gw p j i,by simp[wTr,wT,mkT,Tr.get_set],?_⟩
 refine⟨qdD hcw,λr0 hr0 hp0 hlo=>SC.mk hcw ?_⟩
 have hrec:RecOk P r0 [48] aW (bW g3):=⟨hr0,hp0,hlo⟩;have hid:=qfX hr0 hp0;obtain⟨Qf,hQf⟩:∃Qf:AV->Hp->Prop,Qf=qyV (mkH 0 (wI p gc l s0 j i)).sz (λe t h=>onX e (Q .normal t h) (λi=>if i=2 then Q .normal t h else Q (.exit i) t h) (Q .ret t h)) (mkT (wTr gv gw p j i)):=⟨_,rfl⟩
 have hfin0:Qf (.tup []) (mkH 0 (wI p gc l (goM p.length (x ||| wrM i) (qcL i j) s0) j i++[.map (zJ r0 (wTr gv gw p j i))])):=by
  skip
  rw[hQf];refine⟨r0,wTr gv gw p j i,by rw[qam];rfl,by rw[hr0];decide,?_⟩
  rw[hp0];simp only[wI,wkB,wTr,wT,zzC,zzN,vI,simprocAttr,qB];simp only[qiy];refine hQ _ _ (Wk.mkn _ _ [0,1,2,3,4,5,6,7] ?_ ?_ ?_ rfl ?_ ?_)
  .simp[vw,wT,qe4,qjF,qw,wkB,qI]
  .simp[vw,wkB,qw,qY,zN,zo,qe,qI]
  .simp
  .simp[wkB]
  .intro b hb;have:b=0\/b=1:=by omega
   rcases this with rfl|rfl<;>rfl
 have hfin1:∀cs:List AV,Qf (.tup []) (mkH 0 (wI p gc l (goM p.length (x ||| wrM i) (qcL i j) s0) j i++[.map (zJ r0 (wTr gv gw p j i)),.v cs])):=by
  intro cs;rw[hQf];refine⟨r0,wTr gv gw p j i,by rw[qam];rfl,by rw[hr0];decide,?_⟩
  rw[hp0];simp only[wI,wkB,wTr,wT,zzC,zzN,vI,simprocAttr,qB];simp only[qiy];refine hQ _ _ (Wk.mkn _ _ [0,1,2,3,4,5,6,7] ?_ ?_ ?_ rfl ?_ ?_)
  .simp[vw,wT,qe4,qjF,qw,wkB,qI]
  .simp[vw,wkB,qw,qY,zN,zo,qe,qI]
  .simp
  .simp[wkB]
  .intro b hb;have:b=0\/b=1:=by omega
   rcases this with rfl|rfl<;>rfl
 rw[<- hQf];show S P 11 (jR g1 g2).body (xu [] Qf) (qbY [.yl 10,.pf (qI i) 0,.pf [.j (j:Int)] 0,.pf [.j (p.length:Int)] 0] 0 .leaf) (mkH 0 (wI p gc l s0 j i++[.map (zJ r0 (wTr gv gw p j i))]));refine qk ?_;simp only[jR,wI,wkB,qI,zzC,zzN,vI,simprocAttr];simp +decide only[↓vS,vT,simprocAttr];refine(hof i.code).sc ?_;simp +decide only[↓vS,vT,simprocAttr];have hj1:IntKind.wrap .i64 ((j:Int)+1)=((j+1:Nat):Int):=by rw[qp (by omega) (by omega)];omega
 have hjj:∀a:Int,0<=a->a<=4294967295->IntKind.wrap .i64 (IntKind.wrap .i64 ((j:Int)+1)+IntKind.wrap .i64 a)=((j+1+a.toNat:Nat):Int):=by
  grind[qp]
 have hk:=hjj i.k hi.k0 hi.k1;have hlo0:0<=loM i/\loM i<=255:=by have:=hi.t0;have:=hi.t1;have:=hi.f0;have:=hi.f1;unfold loM;split<;>omega
 have hhi0:0<=hiM i/\hiM i<=255:=by have:=hi.t0;have:=hi.t1;have:=hi.f0;have:=hi.f1;unfold hiM;split<;>omega
 have hlo:=hjj (loM i) hlo0.1 (by omega);have hhi:=hjj (hiM i) hhi0.1 (by omega)
 by_cases hA:qm i.code=0\/qm i.code=5
 .have hwl:qcL i j=[]:=by unfold qcL;rw[if_pos hA]
  have h4:¬qm i.code=4:=by omega
  rw[hwl]at hfin0;have fin0:∀{t':Tr AV} {h':Hp},Wk 11 t' h' (mkT [(50,.j 0),(51,.j 0)]) (mkH 0 (wI p gc l s0 j i++[.map (zJ r0 (wTr gv gw p j i))]))->S P 11 (xh g1 g2) (xu [] Qf) t' h':=λhw=>qxR g3 gv gw gc p i j l r0 s0 Qf hfin0 hw
  rcases hA with hA|hA<;>(
   simp +decide only[↓vS,vT,simprocAttr,hA];refine(qu3 hcc).sc ?_;simp +decide only[↓vS,vT,simprocAttr];refine fin0 (Wk.mkn _ _ [0,1,2,3,4,5,6,7,8,9,10] ?_ ?_ ?_ rfl ?_ ?_)
   .simp[vw,wI,wkB]
   .simp[vw,wI,wkB,wTr,wT,qe4,qjF,qw,qY,zN,zo,qe,qI,qbB,qbW,qaG,x5,xN]
   .simp
   .simp[wI,wkB]
   .intro b hb;have:b=0\/b=1\/b=2\/b=3\/b=4\/b=5\/b=6\/b=7\/b=8\/b=9\/b=10:=by omega
    rcases this with rfl|rfl|rfl|rfl|rfl|rfl|rfl|rfl|rfl|rfl|rfl<;>rfl)
 by_cases h4:qm i.code=4
 .have h0:¬qm i.code=0:=by omega
  have h5:¬qm i.code=5:=by omega
  simp +decide only[↓vS,vT,simprocAttr,h4,hj1]
  by_cases hja:i.code=5
  .have hwl:qcL i j=[j+1+i.k.toNat]:=by unfold qcL;rw[if_neg hA,if_pos h4,if_pos hja]
   rw[if_pos hja];simp only[hk];refine(qoX hcc ((j+1+i.k.toNat:Nat):Int)).sc (vs:=[.sl 0 0 1 1 false]) [12] (Lent.of (by decide) ?_) ?_
   .simp[vL,vw]
   simp only[vK,simprocAttr];simp +decide only[↓vS,vT,simprocAttr];refine qla (gv:=gv) (gw:=gw) (gc:=gc) hcome hwr p hp i hi j l r0 hrec [j+1+i.k.toNat] [] rfl 1 (by simp) (by grind) (by simp) x s0 hs1 hs2 hx Qf (by rw[<- hwl];simp_all) (Wk.mkn _ _ [0,1,2,3,4,5,6,7,8,9,10,12] ?_ ?_ ?_ rfl ?_ ?_)
   .simp[vw,wI,wkB]
   .simp[vw,wI,wkB,wTr,wT,qe4,qjF,qw,qY,zN,zo,qe,qI,qbB,qbW,qaG,x5,xN,qoc,qod]
   .simp
   .simp[wI,wkB]
   .intro b hb;have:b=0\/b=1\/b=2\/b=3\/b=4\/b=5\/b=6\/b=7\/b=8\/b=9\/b=10:=by omega
    rcases this with rfl|rfl|rfl|rfl|rfl|rfl|rfl|rfl|rfl|rfl|rfl<;>rfl
  .rw[if_neg hja];simp only[show(if i.jf<i.jt then i.jf else i.jt)=loM i from rfl,show(if i.jt<i.jf then i.jf else i.jt)=hiM i from rfl,hlo,hhi]
   by_cases hlh:loM i=hiM i
   .have hwl:qcL i j=[j+1+(loM i).toNat]:=by unfold qcL;rw[if_neg hA,if_pos h4,if_neg hja,if_pos hlh]
    refine(qoY hcc ((j+1+(loM i).toNat:Nat):Int) ((j+1+(hiM i).toNat:Nat):Int)).sc (vs:=[.sl 0 0 2 2 false]) [11] (Lent.of (by decide) ?_) ?_
    .simp[vL,vw]
    rw[hlh,if_pos rfl,if_pos rfl];rw[hlh]at hwl;simp only[vK,simprocAttr];simp +decide only[↓vS,vT,simprocAttr];refine qla (gv:=gv) (gw:=gw) (gc:=gc) hcome hwr p hp i hi j l r0 hrec [j+1+(hiM i).toNat] [.j 0] rfl 2 (by simp) (by grind) (by simp) x s0 hs1 hs2 hx Qf (by rw[<- hwl];simp_all) (Wk.mkn _ _ [0,1,2,3,4,5,6,7,8,9,10,11] ?_ ?_ ?_ rfl ?_ ?_)
    .simp[vw,wI,wkB]
    .simp[vw,wI,wkB,wTr,wT,qe4,qjF,qw,qY,zN,zo,qe,qI,qbB,qbW,qaG,x5,xN,qoc,qod]
    .simp
    .simp[wI,wkB]
    .intro b hb;have:b=0\/b=1\/b=2\/b=3\/b=4\/b=5\/b=6\/b=7\/b=8\/b=9\/b=10:=by omega
     rcases this with rfl|rfl|rfl|rfl|rfl|rfl|rfl|rfl|rfl|rfl|rfl<;>rfl
   .have hwl:qcL i j=[j+1+(loM i).toNat,j+1+(hiM i).toNat]:=by unfold qcL;rw[if_neg hA,if_pos h4,if_neg hja,if_neg hlh]
    refine(qoY hcc ((j+1+(loM i).toNat:Nat):Int) ((j+1+(hiM i).toNat:Nat):Int)).sc (vs:=[.sl 0 0 2 2 false]) [11] (Lent.of (by decide) ?_) ?_
    .simp[vL,vw]
    rw[if_neg (by omega),if_neg (by omega)];simp only[vK,simprocAttr];simp +decide only[↓vS,vT,simprocAttr];refine qla (gv:=gv) (gw:=gw) (gc:=gc) hcome hwr p hp i hi j l r0 hrec [j+1+(loM i).toNat,j+1+(hiM i).toNat] [] rfl 2 (by simp) (by simp;omega) (by simp) x s0 hs1 hs2 hx Qf (by rw[<- hwl];simp_all) (Wk.mkn _ _ [0,1,2,3,4,5,6,7,8,9,10,11] ?_ ?_ ?_ rfl ?_ ?_)
    .simp[vw,wI,wkB]
    .simp[vw,wI,wkB,wTr,wT,qe4,qjF,qw,qY,zN,zo,qe,qI,qbB,qbW,qaG,x5,xN,qoc,qod]
    .simp
    .simp[wI,wkB]
    .intro b hb;have:b=0\/b=1\/b=2\/b=3\/b=4\/b=5\/b=6\/b=7\/b=8\/b=9\/b=10:=by omega
     rcases this with rfl|rfl|rfl|rfl|rfl|rfl|rfl|rfl|rfl|rfl|rfl<;>rfl
 .have h0:¬qm i.code=0:=by omega
  have h5:¬qm i.code=5:=by omega
  have hwl:qcL i j=[j+1]:=by unfold qcL;rw[if_neg hA,if_neg h4]
  simp +decide only[↓vS,vT,simprocAttr,h0,h4,h5,hj1];simp only[hj1];refine(qoX hcc ((j+1:Nat):Int)).sc (vs:=[.sl 0 0 1 1 false]) [11] (Lent.of (by decide) ?_) ?_
  .simp[vL,vw]
  simp only[vK,simprocAttr];simp +decide only[↓vS,vT,simprocAttr];refine qla (gv:=gv) (gw:=gw) (gc:=gc) hcome hwr p hp i hi j l r0 hrec [j+1] [] rfl 1 (by simp) (by simp_all) (by simp) x s0 hs1 hs2 hx Qf (by rw[<- hwl];simp_all) (Wk.mkn _ _ [0,1,2,3,4,5,6,7,8,9,10,11] ?_ ?_ ?_ rfl ?_ ?_)
  .simp[vw,wI,wkB]
  .simp[vw,wI,wkB,wTr,wT,qe4,qjF,qw,qY,zN,zo,qe,qI,qbB,qbW,qaG,x5,xN,qoc,qod]
  .simp
  .simp[wI,wkB]
  .intro b hb;have:b=0\/b=1\/b=2\/b=3\/b=4\/b=5\/b=6\/b=7\/b=8\/b=9\/b=10:=by omega
   rcases this with rfl|rfl|rfl|rfl|rfl|rfl|rfl|rfl|rfl|rfl|rfl<;>rfl
abbrev WSt:=List Nat×(List (BitVec 16)×List Bool)
def qd1(j:Nat)(st:List (BitVec 16)×List Bool):List (BitVec 16)×List Bool:=if j=0 then(qcw st.1 st.2 0 0#16,st.2.set 0 true)else st
def stM(n j:Nat)(i:Ins)(st:WSt):WSt :=
 if(qd1 j st.2).2.getD j false=true then(qj9 i ((qd1 j st.2).1.getD j 0#16) j st.1,goM n ((qd1 j st.2).1.getD j 0#16 ||| wrM i) (qcL i j) (qd1 j st.2))else(st.1,qd1 j st.2)
def wkM(n:Nat):Nat->List Ins->WSt->WSt
 | _,[],st=>st
 | j,i::L,st=>wkM n (j+1) L (stM n j i st)
def qd5(p:List Ins):List Nat:=(wkM p.length 0 p ([],(List.replicate p.length 0#16,List.replicate p.length false))).1
def qxv{j:Nat}{st:List (BitVec 16)×List Bool}:(qd1 j st).1.length=st.1.length/\(qd1 j st).2.length=st.2.length:=by
 unfold qd1;split<;>simp[qcw]
theorem qxP{i:Ins}{x:BitVec 16}{j:Nat}{l:List Nat}:(qj9 i x j l).length<=l.length+1:=by
 unfold qj9;split<;>simp
def qGB(P:Program)(gv:Nat):Prop:=∀p:List Ins,p.length<=4096->∀l:List Nat,l.length<=4096->∀(j:Nat) (i:Ins),p[j]?=some i->InsOk i->∀x:BitVec 16,
  Upd P gv [.j j,.h (x.toNat:Int),.ptr 0 0,.ptr 1 0] [.v [.fz p.length (rP p)],.v [.own 2 l.length],.cells 1 true true (rNt l)] (.tup [])
   [.v [.fz p.length (rP p)],.v [.own 3 (qj9 i x j l).length],.dead,.cells 1 true true (rNt (qj9 i x j l))]
def qp6{g1 g2 g3 g4 gc gv gw:Nat}(hcw:qc P gw (jR g1 g2)=true)(hof:cOf P g1)(hcc:qc P g2 qH=true)(hcome:qq9 P gc)(hwr:cWr P g3)(hvis:qGB P gv)
  (hwy:∀i (j n:Nat),qa P g4 [.agg (qI i),.j (j:Int),.j (n:Int)] (.fn gw [] [.pf (qI i) 0,.pf [.j (j:Int)] 0,.pf [.j (n:Int)] 0]))
  (p:List Ins) (hp:p.length<=4096) (i:Ins) (hi:InsOk i) (j:Nat) (hpi:p[j]?=some i) (l:List Nat) (hl:l.length<=4096)
  (s:List (BitVec 16)) (r:List Bool) (hs1:s.length=p.length) (hs2:r.length=p.length) (Q:X->Tr AV->Hp->Prop)
  (hQ:∀e t'' h'',(e = .normal\/e = .exit 1)->Wk 2 t'' h'' (mkT (wT gv p j)) (mkH 0 (if r.getD j false=true then wkB p gc (qj9 i (s.getD j 0#16) j l) (goM p.length (s.getD j 0#16 ||| wrM i) (qcL i j) (s,r))else wkB p gc l (s,r)))->Q e t'' h'')
  {t':Tr AV} {h':Hp} (hw:Wk 2 t' h' (mkT (wT gv p j++[(7,.ptr 8 0),(8,.ptr 9 0)])) (mkH 0 (wI p gc l (s,r) j i))) :
  S P 2 (qbE gc g4 g3) Q t' h':=by
 refine S.weak hw (qk ?_);have hlt:j<p.length:=by grind
 obtain⟨x,hx⟩:∃x,s[j]?=some x:=⟨_,zzE (by omega)⟩;obtain⟨b,hb⟩:∃b,r[j]?=some b:=⟨_,zzE (by omega)⟩;simp only[List.getD_eq_getElem?_getD,hx,hb,Option.getD_some]at hQ;simp only[qbE,wT,wI,wkB,zzC,zzN,vI,simprocAttr];cases b with
 | false =>
  rw[if_neg (by simp)]at hQ;simp +decide only[↓vS,vT,simprocAttr,hs1,hlt,zzU,qk5,hb,Option.map_some];refine hQ _ _ _ (.inr rfl) (Wk.mkn _ _ [0,1,2,3,4,5,6,7] ?_ ?_ ?_ rfl ?_ ?_)
  .simp[vw,wT,qe4,qw,wkB]
  .simp[vw,wkB,qw,qY,zN,zo,qe,hs1]
  .simp
  .simp[wkB]
  .intro b hb;have:b=0\/b=1:=by omega
   rcases this with rfl|rfl<;>rfl
 | true =>
  rw[if_pos rfl]at hQ;simp +decide only[↓vS,vT,simprocAttr,hs1,hlt,zzU,qk5,hb,Option.map_some];refine zB ?_;simp +decide only[↓vS,vT,simprocAttr,hs1,hlt,zzU,qog,hx,Option.map_some,qe4];refine(hvis p hp l hl j i hpi hi x).pc (vs:=[.j j,.h (x.toNat:Int),.ptr 0 0,.ptr 1 0]) [0,1,2] (Lent.of (by decide) ?_) ?_
  .simp[vL,vw,qu (qw p),qf (qw p),qu qY,qf qY]
  simp only[vK,simprocAttr,qf (qw p),qf qY];simp +decide only[↓vS,vT,simprocAttr];refine qxQ hcw hof hcc hcome hwr hwy p hp i hi j hlt (qj9 i x j l) x (s,r) hs1 hs2 hx Q (λt'' h'' hw=>hQ _ _ _ (.inl rfl) hw) (Wk.mkn _ _ [0,1,10,3,4,5,6,7,8,9] ?_ ?_ ?_ rfl ?_ ?_)
  .simp[vw,wT,qe4,qw,wI,wkB]
  .simp[vw,wI,wkB,qw,qY,zN,zo,qe,hs1,qI]
  .simp
  .simp[wI,wkB]
  .intro b hb;have:b=0\/b=1:=by omega
   rcases this with rfl|rfl<;>rfl
def qf5(a b:Nat):IFn:=⟨[.tmp 2],sq [.r [.q 1 (.box (.t 0)),.m 2 .N],.r [.q 3 (.alloc [.nils])],.r [.d 4 1,.q 5 (.mkF a [] [.t 1,.t 3]),.l 6 b [.t 4,.t 5]],.r [.d 7 3,.n 2 7],.ret]⟩
def qBz{g0 g1 g2 g3 g4 gc gv gw:Nat}(hc:qc P f (qf5 gv g0)=true)(hck:qc P g0 (qhS gc g4 g3)=true)
  (hcw:qc P gw (jR g1 g2)=true) (hof:cOf P g1) (hcc:qc P g2 qH=true) (hcome:qq9 P gc) (hwr:cWr P g3) (hvis:qGB P gv)
  (hwy:∀i (j n:Nat),qa P g4 [.agg (qI i),.j (j:Int),.j (n:Int)] (.fn gw [] [.pf (qI i) 0,.pf [.j (j:Int)] 0,.pf [.j (n:Int)] 0]))
  (p:List Ins) (hp:p.length<=4096) (hi:∀i ∈ p,InsOk i):qa P f [.fz p.length (rP p)] (.fz (qd5 p).length (rNt (qd5 p))):=by
 refine qa.mk hc (by simp[qt,clo,qw]) ?_;simp only[qf5,vI,simprocAttr];simp +decide only[↓vS,vT,simprocAttr];refine SC.mk hck (qk ?_);have hp':¬4096<(p.length:Int):=by omega
 have hr1:p.length<=qi:=by simp only[qi];omega
 have hr2:2*p.length<=qi:=by simp only[qi];omega
 have hr3:1*p.length<=qi:=by omega
 have hf1:(List.replicate p.length [AV.h 0]).flatten=rW (List.replicate p.length 0#16):=by
  generalize p.length=n
  induction n with
  | zero=>rfl
  | succ n ih=>rw[List.replicate_succ,List.replicate_succ,List.flatten_cons,ih];rfl
 have hf2:(List.replicate p.length [AV.b false]).flatten=rTt (List.replicate p.length false):=by
  generalize p.length=n
  induction n with
  | zero=>rfl
  | succ n ih=>rw[List.replicate_succ,List.replicate_succ,List.flatten_cons,ih];rfl
 simp only[qhS,vI,simprocAttr];simp +decide only[↓vS,vT,simprocAttr,hp'];refine zB ?_;simp +decide only[↓vS,vT,simprocAttr,hr1,hr2,hr3,hf1,hf2]
 refine SL.loopn (α:=Nat×WSt) (λa=>wT gv p a.1) (λa=>wkB p gc a.2.1 a.2.2)
  (λa=>a.1<=p.length/\a.2.1.length<=a.1/\a.2.2.1.length=p.length/\a.2.2.2.length=p.length/\wkM p.length a.1 (p.drop a.1) a.2=wkM p.length 0 p ([],(List.replicate p.length 0#16,List.replicate p.length false))) (λa=>p.length-a.1) (0,([],(List.replicate p.length 0#16,List.replicate p.length false))) [0,1,99,2,3,4,5,6] ?_ ?_ ?_ rfl ?_ ?_ ?_ ?_
 .simp[vw,wT,qe4,qw,wkB]
 .simp[vw,wkB,qw,qY,zN,zo,qe]
 .simp
 .simp[wkB]
 .intro b hb;have:b=0\/b=1:=by omega
  rcases this with rfl|rfl<;>rfl
 .simp_all
 rintro⟨j,l,s,r⟩ ⟨hj,hl,hs1,hs2,hgo⟩ G ih;simp only at hj hl hs1 hs2 hgo;simp only[wT,wkB,zzC,zzN,vI,simprocAttr]
 by_cases hlt:j<p.length
 .obtain⟨i,hpi⟩:∃i,p[j]?=some i:=⟨_,zzE hlt⟩;have hii:=hi i (by grind);have hel:=qS (f:=qI) (m:=4) qaX hpi;rw[show p.flatMap qI=rP p from rfl]at hel
  have h4:j*4+4<=(rP p).length:=by rw[qeY];omega
  have hdr:p.drop j=i::p.drop (j+1):=by
   grind[List.drop_eq_getElem_cons]
  rw[hdr]at hgo;have hw1:IntKind.wrap .i64 ((j:Int)+1)=((j+1:Nat):Int):=by rw[qp (by omega) (by omega)];omega
  simp only[qI]at hel;have ih2:=ih (j+1,stM p.length j i (l,s,r));have hst:wkM p.length j (i::p.drop (j+1)) (l,s,r)=wkM p.length (j+1) (p.drop (j+1)) (stM p.length j i (l,s,r)):=rfl;rw[hst]at hgo;have hlen0:=qxv (j:=j) (st:=(s,r))
  have hI:j+1<=p.length/\(stM p.length j i (l,s,r)).1.length<=j+1/\(stM p.length j i (l,s,r)).2.1.length=p.length/\(stM p.length j i (l,s,r)).2.2.length=p.length:=by
   refine⟨hlt,?_⟩;unfold stM
   grind[qxP,qrp]
  have ih3:=ih2 (by grind) (by omega)
  have hstM:(wkB p gc (stM p.length j i (l,s,r)).1 (stM p.length j i (l,s,r)).2)=if(qd1 j (s,r)).2.getD j false=true then wkB p gc (qj9 i ((qd1 j (s,r)).1.getD j 0#16) j l) (goM p.length ((qd1 j (s,r)).1.getD j 0#16 ||| wrM i) (qcL i j) ((qd1 j (s,r)).1,(qd1 j (s,r)).2))else wkB p gc l ((qd1 j (s,r)).1,(qd1 j (s,r)).2):=by
   unfold stM;split<;>rfl
  clear hgo hst ih2
  by_cases hj0:j=0
  .have hj0':decide ((j:Int)=0)=true:=by rw[hj0];rfl
   have hcm:=hcome s r (by omega) 0 (by omega) 0#16;have he1:(qd1 j (s,r)).1=qcw s r 0 0#16:=by unfold qd1;rw[if_pos hj0]
   have he2:(qd1 j (s,r)).2=r.set 0 true:=by unfold qd1;rw[if_pos hj0]
   simp only[he1,he2]at hstM;have hs1':(qcw s r 0 0#16).length=p.length:=by grind
   simp +decide only[↓vS,vT,simprocAttr,hlt,hel,h4,hj0'];refine hcm.sc (vs:=[.j 0,.h 0,.ptr 3 0,.ptr 2 0]) [3,4,5,6] (Lent.of (by decide) ?_) ?_
   .simp[vL,vw,qgA,qu zN,qf zN,qu zo,qf zo]
   simp only[vK,simprocAttr,qgA,qf zN,qf zo];simp +decide only[↓vS,vT,simprocAttr];refine qp6 hcw hof hcc hcome hwr hvis hwy p hp i hii j hpi l (by omega) (qcw s r 0 0#16) (r.set 0 true) hs1' (by grind) _ ?_ (Wk.mkn _ _ [0,1,2,3,4,5,6,7,8,9] ?_ ?_ ?_ rfl ?_ ?_)
   .rintro e t'' h'' (rfl|rfl) hw2<;>(
     simp +decide only[↓vS,vT,simprocAttr];rw[<- hstM]at hw2;refine S.weak hw2 (qk ?_);generalize(stM p.length j i (l,s,r))=st2 at ih3 hI;obtain⟨l2,s2,r2⟩:=st2;simp only at ih3 hI;simp only[qbG,wT,wkB,zzC,zzN,vI,simprocAttr];simp +decide only[↓vS,vT,simprocAttr,hw1];refine ih3 _ _ (Wk.mkn _ _ [0,1,2,3,4,5,6,7] ?_ ?_ ?_ rfl ?_ ?_)
     .simp[vw,wT,qe4,qw,wkB]
     .simp[vw,wkB,qw,qY,zN,zo,qe]
     .simp
     .simp[wkB]
     .intro b hb;have:b=0\/b=1:=by omega
      rcases this with rfl|rfl<;>rfl)
   .simp[vw,wT,qe4,qw,wI,wkB]
   .simp[vw,wI,wkB,qw,qY,zN,zo,qe,qI,hs1,hs1']
   .simp
   .simp[wI,wkB]
   .intro b hb;have:b=0\/b=1:=by omega
    rcases this with rfl|rfl<;>rfl
  .have hj0':decide ((j:Int)=0)=false:=by grind
   have he1:(qd1 j (s,r)).1=s:=by unfold qd1;rw[if_neg hj0]
   have he2:(qd1 j (s,r)).2=r:=by unfold qd1;rw[if_neg hj0]
   simp only[he1,he2]at hstM;have hs1':=hs1;simp +decide only[↓vS,vT,simprocAttr,hlt,hel,h4,hj0'];refine qp6 hcw hof hcc hcome hwr hvis hwy p hp i hii j hpi l (by omega) s r hs1 hs2 _ ?_ (Wk.mkn _ _ [0,1,2,3,4,5,6,7,8,9] ?_ ?_ ?_ rfl ?_ ?_)
   .rintro e t'' h'' (rfl|rfl) hw2<;>(
     simp +decide only[↓vS,vT,simprocAttr];rw[<- hstM]at hw2;refine S.weak hw2 (qk ?_);generalize(stM p.length j i (l,s,r))=st2 at ih3 hI;obtain⟨l2,s2,r2⟩:=st2;simp only at ih3 hI;simp only[qbG,wT,wkB,zzC,zzN,vI,simprocAttr];simp +decide only[↓vS,vT,simprocAttr,hw1];refine ih3 _ _ (Wk.mkn _ _ [0,1,2,3,4,5,6,7] ?_ ?_ ?_ rfl ?_ ?_)
     .simp[vw,wT,qe4,qw,wkB]
     .simp[vw,wkB,qw,qY,zN,zo,qe]
     .simp
     .simp[wkB]
     .intro b hb;have:b=0\/b=1:=by omega
      rcases this with rfl|rfl<;>rfl)
   .simp[vw,wT,qe4,qw,wI,wkB]
   .simp[vw,wI,wkB,qw,qY,zN,zo,qe,qI,hs1,hs1']
   .simp
   .simp[wI,wkB]
   .intro b hb;have:b=0\/b=1:=by omega
    rcases this with rfl|rfl<;>rfl
 .obtain rfl:j=p.length:=by omega
  have hu:qd5 p=l:=by unfold qd5;rw[<- hgo,List.drop_length];rfl
  simp +decide only[↓vS,vT,simprocAttr,hlt];rw[hu];simp[vZ,vP,Tr.get_set,zi qY];intro h0;rw[h0];rfl
end Go.Kc
end
