/- Part 8 of the abstract machine and of the functions' walks. Conditions: with each theorem. -/
import Derived.Test.YtpgbjeabmkbmbaaGreatEK7
set_option maxHeartbeats 4000000
set_option linter.unusedSectionVars false
set_option linter.unusedSimpArgs false
set_option linter.unusedVariables false
set_option linter.unnecessarySimpa false
section
namespace Go.Kc
variable [Cur]
variable {P:Program} {f:Nat}
structure Prg where
 dir:Int
 arch:Int
 ins:List Ins
def cPr(x:Prg):List AV:=[.i .i64 x.dir,.i .i64 x.arch,.fz x.ins.length (rP x.ins)]
theorem yU(x:Prg):(cPr x).length=3:=rfl
def rPr(l:List Prg):List AV:=l.flatMap cPr
theorem qal(l:List Prg):(rPr l).length=l.length*3:=xY yU l
theorem qX(l:List Prg):qx (rPr l)=true:=yY (fun x=>by simp[cPr,qx,clo,qn])
theorem qkV(p q:List Prg):rPr (p++q)=rPr p++rPr q:=List.flatMap_append
structure PrgOk (x:Prg):Prop where
 len:x.ins.length<=4096
 ins:∀i ∈ x.ins,InsOk i
def zt:IFn:=⟨[.tmp 4],.seq (.r [.m 4 (.k 0)]) (.seq (.seq (.r [.n 6 0,.e 7 6,.m 8 (.k 0)]) (.blk 0 (.loop (.seq (.r [.s 9 8 7]) (.seq (.cond (.t 9) (.skip) (.exit 0)) (.seq (.blk 1 (.seq (.r [.n 10 8,.n 5 10]) (.seq (.r [.n 11 1,.n 12 0,.n 13 5,.i 14 3 12 13,.v 15 3 14,⟨(some 16),.callV (.t 11) [.t 15],none⟩]) (.cond (.t 16) (.seq (.r [.n 17 5,.n 4 17]) (.ret)) (.skip))))) (.r [.a 18 8 1,.n 8 18]))))))) (.seq (.r [.q 4 (.mov (.c (.i .i64 (-1))))]) (.ret)))⟩
theorem qeU(hc:qh P f zt=true):qgZ 3 P f:=by
 intro α enc p g a c l hlen ha hc' hl hp;refine qb.mk hc (by simp[qx,clo,ha,hc']) ?_;simp only[zt,vI,simprocAttr];simp only[↓vS,vT,simprocAttr];refine SL.loop (α:=Nat) (fun j=>[(0,.fz l.length (l.flatMap enc)),(1,.fn g a c),(7,.i .i64 l.length),(8,.i .i64 j)]) (fun _=>[]) (fun j=>j<=l.length∧Xc p l 0=Xc p (l.drop j) j) (fun j=>l.length-j) 0 [] ?_ ?_ ?_ rfl ?_ ?_
 ·simp[vw,qc,ha,hc']
 ·trivial
 ·simp
 ·simp
 rintro j ⟨hj,hI⟩ G ih;simp only[vI,simprocAttr]
 by_cases hlt:j<l.length
 ·have hx:l[j]?=some l[j]:=zzE hlt;have hw:IntKind.wrap .i64 ((j:Int)+1)=(j:Int)+1:=qv (by omega) (by have:=hl;simp only[qe] at this;omega)
  have he:=zP hlen hx;have hb:j*3+3<=(l.flatMap enc).length:=by rw[xY hlen];omega
  rw[List.drop_eq_getElem_cons hlt,Xc] at hI;simp only[↓vS,vT,simprocAttr,hlt,hb,he,hw];refine (hp l[j] (List.getElem_mem hlt)).sc ?_
  by_cases hpx:p l[j]=true
  ·rw[if_pos hpx] at hI;simp only[↓vS,vT,simprocAttr,hpx,vZ,hI]
  ·rw[if_neg hpx] at hI;simp only[↓vS,vT,simprocAttr,hpx,hw];refine ih (j+1) ⟨by omega,hI⟩ (by omega) _ _ (Wk.mk _ _ [] ?_ ?_ ?_ rfl)
   ·simp[vw,qc,ha,hc']
   ·trivial
   ·simp
 ·simp only[↓vS,vT,simprocAttr,hlt];rw[List.drop_eq_nil_of_le (by omega)] at hI;simp[hI,Xc,vZ]
theorem qbE{α:Type}(p:α->Bool):∀(l:List α) (j:Nat),decide (0<=Xc p l j)=l.any p
 | [],j=>by simp[Xc]
 | x::l,j=>by
  rw[Xc]
  by_cases h:p x=true
  ·simp[h]
  ·rw[if_neg h,qbE p l (j+1)];simp[h]
def zl(a:Nat):IFn:=⟨[.tmp 4],.seq (.r [.m 4 .F]) (.seq (.r [.n 5 0,.n 6 1,.l 7 a [.t 5,.t 6],.w 8 .geq 7 0,.n 4 8]) (.ret))⟩
theorem qhi{g:Nat}(hc:qh P f (zl g)=true)(h:qgZ 3 P g)(l:List Prg)(k:Nat)(p:Prg->Bool)(hk:∀c ∈ l,qb P k [.agg (cPr c)] (.b (p c)))(hl:l.length<=qe):qb P f [.fz l.length (rPr l),.fn k [] []] (.b (l.any p)):=by
 refine qb.mk hc (by simp[qx,clo,qX]) ?_;simp only[zl,vI,simprocAttr];simp only[↓vS,vT,simprocAttr];refine (h cPr p k [] [] l yU rfl rfl hl fun x hx=>hk x hx).sc ?_
 simp only[↓vS,vT,simprocAttr];simp[vZ,← qbE p l 0]
def jn(x:Prg):Bool:=decide ((atU x.ins (kq x.ins)).2=0)&&(if x.dir=0 then decide (x.arch=6) else decide (0<=x.dir)&&decide (x.dir<8)&&decide (0<=x.arch)&&decide (x.arch<6))
def zz(l:List Prg):Bool:=decide (l.length<=48)&&l.all jn
def xU(a:Nat):IFn:=⟨[.tmp 2],.seq (.r [.q 1 (.box (.t 0)),.m 2 .F]) (.seq (.blk 0 (.seq (.r [.f 4 0 1,.d 5 4,.w 6 .eql 5 0,.n 3 6]) (.cond (.t 3) (.seq (.r [.f 7 1 1,.d 8 7,.w 9 .eql 8 6,.n 10 9,.h 11 2 1 10 true,.j 12 11 10 true,⟨(some 13),.callF a [.t 12],(some (10,true))⟩,.g 14 (.bin .eql (.t 13) (.k 0)) 10 true,.p 15 10 14,.n 2 15]) (.ret)) (.seq (.r [.f 17 0 1,.d 18 17,.w 19 .lss 18 0,.n 20 19,.h 21 0 1 20 false,.j 22 21 20 false,.g 23 (.bin .geq (.t 22) (.k 8)) 20 false,.o 24 20 23,.n 25 24,.h 26 1 1 25 false,.j 27 26 25 false,.g 28 (.bin .lss (.t 27) (.k 0)) 25 false,.o 29 25 28,.n 30 29,.h 31 1 1 30 false,.j 32 31 30 false,.g 33 (.bin .geq (.t 32) (.k 6)) 30 false,.o 34 30 33,.n 16 34]) (.cond (.t 16) (.seq (.r [.m 2 .F]) (.ret)) (.skip)))))) (.seq (.r [.f 35 2 1,.d 36 35,.l 37 a [.t 36],.w 38 .eql 37 0,.n 2 38]) (.ret)))⟩
theorem qlE{g:Nat}(hc:qh P f (xU g)=true)(hg:∀p:List Ins,(∀i ∈ p,InsOk i)->p.length<=5000->qb P g [.fz p.length (rP p)] (.i .i64 (atU p (kq p)).2))(x:Prg)(hx:PrgOk x):qb P f [.agg (cPr x)] (.b (jn x)):=by
 refine qb.mk hc (by simp[qx,clo,cPr,qn]) ?_;have hl:=hx.len;have h:=hg x.ins hx.ins (by omega);unfold jn;generalize (atU x.ins (kq x.ins)).2=e at h;simp only[xU,cPr,vI,simprocAttr]
 by_cases h0:x.dir=0
 ·rw[if_pos h0]
  by_cases h6:x.arch=6
  ·simp +decide only[↓vS,vT,simprocAttr,h0,h6];refine h.sc ?_;simp +decide only[↓vS,vT,simprocAttr];simp[vZ,h6]
  ·simp +decide only[↓vS,vT,simprocAttr,h0,h6];simp[vZ,h6]
 rw[if_neg h0]
 by_cases h1:x.dir<0
 ·have h1':¬0<=x.dir:=by omega
  simp +decide only[↓vS,vT,simprocAttr,h0,h1];simp[vZ,h1']
 have h1':0<=x.dir:=by omega
 by_cases h2:8<=x.dir
 ·have h2':¬x.dir<8:=by omega
  simp +decide only[↓vS,vT,simprocAttr,h0,h1,h2];simp[vZ,h2']
 have h2':x.dir<8:=by omega
 by_cases h3:x.arch<0
 ·have h3':¬0<=x.arch:=by omega
  simp +decide only[↓vS,vT,simprocAttr,h0,h1,h2,h3];simp[vZ,h3']
 have h3':0<=x.arch:=by omega
 by_cases h4:6<=x.arch
 ·have h4':¬x.arch<6:=by omega
  simp +decide only[↓vS,vT,simprocAttr,h0,h1,h2,h3,h4];simp[vZ,h4']
 have h4':x.arch<6:=by omega
 simp +decide only[↓vS,vT,simprocAttr,h0,h1,h2,h3,h4];refine h.sc ?_;simp +decide only[↓vS,vT,simprocAttr];simp[vZ,h1',h2',h3',h4']
def jl(a:Nat):IFn:=⟨[.tmp 2],.seq (.r [.q 1 (.box (.t 0)),.m 2 .F]) (.seq (.r [.v 3 3 1,.l 4 a [.t 3],.q 5 (.un .not (.t 4)),.n 2 5]) (.ret))⟩
theorem qo3{g:Nat}(hc:qh P f (jl g)=true)(hg:∀x,PrgOk x->qb P g [.agg (cPr x)] (.b (jn x)))(x:Prg)(hx:PrgOk x):qb P f [.agg (cPr x)] (.b (!jn x)):=by
 refine qb.mk hc (by simp[qx,clo,cPr,qn]) ?_;have h:=hg x hx;simp only[cPr] at h;simp only[jl,cPr,vI,simprocAttr];simp +decide only[↓vS,vT,simprocAttr];refine h.sc ?_;simp +decide only[↓vS,vT,simprocAttr];simp[vZ]
def wp(a b:Nat):IFn:=⟨[.tmp 2],.seq (.r [.m 2 .F]) (.seq (.r [.n 3 0,.e 4 3,.w 5 .leq 4 48,.n 6 5,.y 7 0 6,⟨(some 8),.callF a [.t 7,(.c (.fn b [] []))],(some (6,true))⟩,.g 9 (.un .not (.t 8)) 6 true,.p 10 6 9,.n 2 10]) (.ret))⟩
theorem qja{g1 g2:Nat}(hc:qh P f (wp g1 g2)=true)(h1:∀(l:List Prg) (k:Nat) (p:Prg->Bool),(∀c ∈ l,qb P k [.agg (cPr c)] (.b (p c)))->l.length<=qe->qb P g1 [.fz l.length (rPr l),.fn k [] []] (.b (l.any p)))
  (h2:∀x,PrgOk x->qb P g2 [.agg (cPr x)] (.b (!jn x))) (l:List Prg) (hl:l.length<=10000) (hx:∀x ∈ l,PrgOk x):qb P f [.fz l.length (rPr l)] (.b (zz l)):=by
 refine qb.mk hc (by simp[qx,clo,qX]) ?_;have h:=h1 l g2 (fun x=>!jn x) (fun c hc=>h2 c (hx c hc)) (by simp only[qe];omega)
 have ha:(!l.any fun x=>!jn x)=l.all jn:=by rw[List.not_any_eq_all_not];simp
 unfold zz;simp only[wp,vI,simprocAttr]
 by_cases h48:l.length<=48
 ·have h48':(l.length:Int)<=48:=by omega
  simp +decide only[↓vS,vT,simprocAttr,h48'];refine h.sc ?_;simp +decide only[↓vS,vT,simprocAttr];simp only[ha];simp[vZ,h48]
 ·have h48':¬(l.length:Int)<=48:=by omega
  simp +decide only[↓vS,vT,simprocAttr,h48'];simp[vZ,h48]

def wq(b:List Int):Nat:=(leM (qY b 2 2)).toNat
def mkP(b:List Int):Prg:=⟨b.getD 0 0,b.getD 1 0,kU (qY b 4 (8*wq b)) (wq b)⟩
def ZM(lim:Nat):Nat->List Int->List Prg->Option (List Prg)
 | 0,b,out=>if b.length=0 then some out else none
 | k+1,b,out=>if b.length=0 then some out else if b.length<4∨b.length<4+8*wq b∨lim<=out.length then none else ZM lim k (b.drop (4+8*wq b)) (out++[mkP b])
theorem ZN{lim k:Nat}{b:List Int}{out:List Prg}:ZM lim (k+1) b out=if b.length=0 then some out else if b.length<4∨b.length<4+8*wq b∨lim<=out.length then none else ZM lim k (b.drop (4+8*wq b)) (out++[mkP b]):=rfl
def Xa:AV:=.tup [.fz 0 [],.i .i64 290]
def qb5(o:Option (List Prg)):AV:=match o with
 | none=>Xa
 | some out=>if zz out=true then .tup [.fz out.length (rPr out),.i .i64 0] else Xa
theorem qrl{b:List Int}(hb:qG b)(h:4<=b.length):0<=leM (qY b 2 2)∧leM (qY b 2 2)<=65535:=by
 have h1:=wE (wv hb 2 2);rw[xm (by omega)] at h1;exact⟨h1.1,by have:=h1.2;omega⟩
theorem qeV{b:List Int}(hb:qG b)(h:4<=b.length):leM (qY b 2 2)=((wq b:Nat):Int)∧wq b<=65535:=by
 have:=qrl hb h;unfold wq;omega
theorem wC{b:List Int}(hb:qG b)(j:Nat):0<=b.getD j 0∧b.getD j 0<=255:=by
 rw[List.getD_eq_getElem?_getD];cases h:b[j]? with
 | none=>simp
 | some x=>exact hb x (zzM h)
theorem qjQ{b:List Int}(hb:qG b)(h:b.length=8):InsOk (qcb b):=by
 have h1:=wE (wv hb 0 2);have h2:=wE (wv hb 4 4);rw[xm (by omega)] at h1 h2;have h3:=wC hb 2;have h4:=wC hb 3;exact⟨h1.1,by have:=h1.2;show leM (qY b 0 2)<=65535;omega,h3.1,h3.2,h4.1,h4.2,h2.1,by have:=h2.2;show leM (qY b 4 4)<=4294967295;omega⟩
theorem qic{b:List Int}(hb:qG b)(h:4+8*wq b<=b.length)(hl:b.length<=8000):PrgOk (mkP b):=by
 refine⟨by show (kU _ _).length<=4096;rw[yk];omega,fun i hi=>?_⟩
 have hi:i ∈ kU (qY b 4 (8*wq b)) (wq b):=hi;unfold kU at hi;obtain⟨j,hj,rfl⟩:=List.mem_map.1 hi;have hj:=List.mem_range.1 hj;refine qjQ (wv (wv hb _ _) _ _) (xm ?_);rw[xm (by omega)];omega
def qll(P:Program)(g:Nat):Prop:=∀b:List Int,qG b->∀m:Nat,b.length=8*m->b.length<=32768->qb P g [.fz b.length (rB b)] (.tup [.fz m (rP (kU b m)),.i .i64 0])
theorem qpB{g:Nat}(h:∀b:List Int,qG b->b.length<=1000000->qb P g [.fz b.length (rB b)] (if b.length % 8≠0 then .tup [.fz 0 [],.i .i64 20] else if 32768<b.length then .tup [.fz 0 [],.i .i64 3] else .tup [.fz (b.length / 8) (rP (qhM b)),.i .i64 0])):qll P g:=by
 intro b hb m hm hl;have:=h b hb (by omega);rw[if_neg (by omega),if_neg (by omega)] at this;have e:b.length / 8=m:=by omega
 unfold qhM at this;rw[e] at this;exact this
def qpD(P:Program)(g:Nat):Prop:=∀l:List Prg,l.length<=10000->(∀x ∈ l,PrgOk x)->qb P g [.fz l.length (rPr l)] (.b (zz l))
def yv(a b c:Nat):IFn:=⟨[.tmp 2,.tmp 3],.seq (.r [.m 2 .N,.m 3 (.k 0)]) (.seq (.r [.m 4 .N]) (.seq (.blk 0 (.loop (.seq (.seq (.r [.n 10 0,.e 11 10,.w 12 .gtr 11 0]) (.cond (.t 12) (.skip) (.exit 0))) (.blk 1 (.seq (.r [.n 14 0,.l 15 a [.t 14,.k 2],.n 13 15,.x 16 13 0,.x 17 13 1,.n 5 16,.n 6 17]) (.seq (.r [.n 18 5,.q 19 (.cvInt .i64 (.t 18)),.q 20 (.bin .mul (.k 8) (.t 19)),.q 21 (.bin .add (.k 4) (.t 20)),.n 7 21]) (.seq (.seq (.r [.n 22 6,.q 23 (.un .not (.t 22)),.n 24 23,.z 25 7 24,.z 26 0 24,.g 27 (.len false (.t 26)) 24 false,.g 28 (.bin .gtr (.t 25) (.t 27)) 24 false,.o 29 24 28,.n 30 29,.z 31 4 30,.g 32 (.len false (.t 31)) 30 false,.g 33 (.bin .geq (.t 32) (.k 48)) 30 false,.o 34 30 33]) (.cond (.t 34) (.seq (.r [.m 2 .N,.m 3 (.k 290)]) (.ret)) (.skip))) (.seq (.r [.n 36 0,.n 37 7,.q 38 (.slcS 1 (.t 36) (some (.k 4)) (some (.t 37)) none),.l 39 b [.t 38],.n 35 39,.x 40 35 0,.x 41 35 1,.n 8 40,.n 9 41]) (.seq (.seq (.r [.n 42 9,.w 43 .neq 42 0]) (.cond (.t 43) (.seq (.r [.m 2 .N,.m 3 (.k 290)]) (.ret)) (.skip))) (.seq (.reg true [.n 44 4,.n 45 0,.q 46 (.iAddrS 1 (.t 45) (.k 0)),.d 47 46,.q 48 (.cvInt .i64 (.t 47)),.n 49 0,.q 50 (.iAddrS 1 (.t 49) (.k 1)),.d 51 50,.q 52 (.cvInt .i64 (.t 51)),.n 53 8,.q 54 (.build [.i .i64 0,.i .i64 0,.nils] [(0,1,(.t 48)),(1,1,(.t 52)),(2,1,(.t 53))]),.q 55 (.buildS 1 [.i .i64 0,.i .i64 0,.nils] [(0,3,(.t 54))]),.q 56 (.app 3 40 true (.t 44) (.t 55)),.n 4 56]) (.r [.n 57 0,.n 58 7,.q 59 (.slcS 1 (.t 57) (some (.t 58)) none none),.n 0 59]))))))))))) (.seq (.seq (.r [.n 60 4,.l 61 c [.t 60],.q 62 (.un .not (.t 61))]) (.cond (.t 62) (.seq (.r [.m 2 .N,.m 3 (.k 290)]) (.ret)) (.skip))) (.seq (.r [.n 63 4,.n 2 63,.m 3 (.k 0)]) (.ret)))))⟩
theorem qgv{g1 g2 g3:Nat}(hc:qh P f (yv g1 g2 g3)=true)(h1:qgY P g1)(h2:qll P g2)(h3:qpD P g3)(b:List Int)(hb:qG b)(hl:b.length<=8000):qb P f [.fz b.length (rB b)] (qb5 (ZM 48 b.length b [])):=by
 refine qb.mk hc (by simp[qx,clo,qC]) ?_;simp only[yv,vI,simprocAttr];simp +decide only[↓vS,vT,simprocAttr]
 refine SL.loop (α:=Nat×List Int×List Prg) (fun a=>[(0,.fz a.2.1.length (rB a.2.1)),(4,.own 0 a.2.2.length)]) (fun a=>[.cells 3 true true (rPr a.2.2)])
  (fun a=>a.2.1.length<=a.1∧a.2.1.length<=8000∧qG a.2.1∧a.2.2.length<=48∧(∀x ∈ a.2.2,PrgOk x)∧ZM 48 a.1 a.2.1 a.2.2=ZM 48 b.length b []) (fun a=>a.2.1.length) (b.length,b,[]) [99] ?_ ?_ ?_ rfl ?_ ?_
 ·simp[vw,qC]
 ·simp[vw]
 ·simp
 ·exact⟨Nat.le_refl _,hl,hb,by simp,by simp,rfl⟩
 rintro⟨k,r,out⟩ ⟨hk,hr8,hrb,ho,hox,hI⟩ G ih;simp only at hk hr8 hrb ho hox hI;simp only[vI,simprocAttr]
 by_cases hz:r.length=0
 ·have hz':¬(0:Int)<(r.length:Int):=by omega
  have hI2:ZM 48 k r out=some out:=by cases k<;>exact if_pos hz
  rw[hI2] at hI;rw[← hI];have hh:=h3 out (by omega) hox;rw[show qb5 (some out)=if zz out=true then .tup [.fz out.length (rPr out),.i .i64 0] else Xa from rfl]
  generalize zz out=m at hh ⊢;simp +decide only[↓vS,vT,simprocAttr,hz'];refine (hh.lend (vs':=[.fz out.length (rPr out)]) ?_ ?_ ?_)
  -- (by omega) hox).lend (vs':=[.fz out.length (rPr out)]) ?_ ?_ ?_)
  ·simp[vZ,vP,Tr.get_set,zC (qX _)];intro h0;rw[h0];rfl
  ·rfl
  cases m with
  | true =>
   simp +decide only[↓vS,vT,simprocAttr];simp[vZ,vP,Tr.get_set,zC (qX _)];intro h0;rw[h0];rfl
  | false =>
   simp +decide only[↓vS,vT,simprocAttr];simp[vZ,Xa]
 ·have hz':(0:Int)<(r.length:Int):=by omega
  obtain⟨k,rfl⟩:∃k',k=k'+1:=⟨k-1,by omega⟩
  rw[ZN,if_neg hz] at hI;have hg:=h1 r hrb (by omega) 2 (by omega);unfold qdg at hg;simp +decide only[↓vS,vT,simprocAttr,hz'];refine hg.sc ?_
  by_cases h4:r.length<4
  ·rw[if_pos (.inl h4)] at hI;rw[← hI,if_neg (by omega)];simp +decide only[↓vS,vT,simprocAttr];simp[vZ,qb5,Xa]
  obtain⟨hle,hlu⟩:=qeV hrb (by omega);rw[if_pos (by omega),hle];obtain⟨n,hn⟩:∃n,n=wq r:=⟨_,rfl⟩;rw[← hn] at hI hle hlu ⊢;have w1:IntKind.wrap .i64 (n:Int)=(n:Int):=qv (by omega) (by omega);have w2:IntKind.wrap .i64 (8*(n:Int))=8*(n:Int):=qv (by omega) (by omega);have w3:IntKind.wrap .i64 (4+8*(n:Int))=((4+8*n:Nat):Int):=by rw[qv (by omega) (by omega)];omega
  by_cases h5:r.length<4+8*n
  ·have h5':(r.length:Int)<((4+8*n:Nat):Int):=by omega
   rw[if_pos (.inr (.inl h5))] at hI;rw[← hI];simp +decide only[↓vS,vT,simprocAttr,w1,w2,w3,h5',h5];simp[vZ,qb5,Xa]
  have h5':¬(r.length:Int)<((4+8*n:Nat):Int):=by omega
  by_cases h6:48<=out.length
  ·have h6':(48:Int)<=(out.length:Int):=by omega
   rw[if_pos (.inr (.inr h6))] at hI;rw[← hI];simp +decide only[↓vS,vT,simprocAttr,w1,w2,w3,h5',h5,h6'];simp[vZ,qb5,Xa]
  have h6':¬(48:Int)<=(out.length:Int):=by omega
  rw[if_neg (by omega)] at hI;have e1:4<=4+8*n:=by omega
  have e2:4+8*n<=r.length:=by omega
  have e3:4+8*n<=(rB r).length:=by rw[wc];omega
  have e4:4+8*n-4=8*n:=by omega
  have hsl:(qY r 4 (8*n)).length=8*n:=xm (by omega);have hpar:=h2 (qY r 4 (8*n)) (wv hrb _ _) n hsl (by omega);rw[hsl] at hpar;simp +decide only[↓vS,vT,simprocAttr,w1,w2,w3,h5',h5,h6',e1,e2,e3,e4,Nat.mul_one,qa6];refine hpar.sc ?_;have q0:0<r.length:=by omega
  have q1:1<r.length:=by omega
  have b0:(rB r)[0]?=some (.i .u8 (r.getD 0 0)):=by rw[qa5,getD_some q0];rfl
  have b1:(rB r)[1]?=some (.i .u8 (r.getD 1 0)):=by rw[qa5,getD_some q1];rfl
  have hb0:=wC hrb 0;have hb1:=wC hrb 1;have hm:mkP r=⟨r.getD 0 0,r.getD 1 0,kU (qY r 4 (8*n)) n⟩:=by unfold mkP;rw[← hn]
  have hil:=yk (qY r 4 (8*n)) n;have hok:=qic hrb (by rw[← hn];omega) hr8;generalize hA:kU (qY r 4 (8*n)) n=A at hm hil ⊢;generalize r.getD 0 0=c0 at hm b0 hb0;generalize r.getD 1 0=c1 at hm b1 hb1;have wc0:IntKind.wrap .i64 c0=c0:=qv (by omega) (by omega);have wc1:IntKind.wrap .i64 c1=c1:=qv (by omega) (by omega);have hlr:(rPr out).length=out.length*3:=qal out;have hr1:out.length+1<=qe:=by simp only[qe];omega
  have hr2:(out.length+1)*40<=qe:=by simp only[qe];omega
  have hap:rPr out++[.i .i64 c0,.i .i64 c1,.fz n (rP A)]=rPr (out++[mkP r]):=by
   rw[qkV,hm];show _=rPr out++(cPr ⟨c0,c1,A⟩++[]);rw[List.append_nil];unfold cPr;simp only;rw[hil]
  have ht:List.take (r.length-(4+8*n)) (List.drop (4+8*n) r)=List.drop (4+8*n) r:=List.take_of_length_le (by rw[List.length_drop];omega);have e5:4+8*n+(r.length-(4+8*n))<=(rB r).length:=by rw[wc];omega
  have ih2:=ih (k,r.drop (4+8*n),out++[mkP r]);generalize mkP r=x at hap ih2 hI hok;simp +decide only[↓vS,vT,simprocAttr];refine xK ?_;simp +decide only[↓vS,vT,simprocAttr,q0,q1,Nat.mul_one,b0,b1,wc0,wc1,hlr,hr1,hr2,hap,e2,e3,e5,qa6,ht];refine ih2 ⟨by simp only[List.length_drop];omega,by simp only[List.length_drop];omega,ZS hrb _,by simp;omega,?_,hI⟩ (by simp only[List.length_drop];omega) _ _ (Wk.mk _ _ [2] ?_ ?_ ?_ rfl)
  ·intro y hy;rcases List.mem_append.1 hy with hy|hy
   ·exact hox y hy
   ·rw[List.mem_singleton.1 hy];exact hok
  ·simp[vw,qC]
  ·simp[vw,qc,qX]
  ·simp


def loW(x:Int):Int:=x % 4294967296
def hiW(x:Int):Int:=x / 4294967296
def qdT(d:GData):List Int:=[d.ip,d.a0,d.a1,d.a2,d.a3,d.a4,d.a5]
def xO(d:GData):List Int:=d.nr::d.arch::(qdT d).flatMap fun x=>[loW x,hiW x]
structure DatOk (d:GData):Prop where
 nr0:0<=d.nr
 nr1:d.nr<=4294967295
 ar0:0<=d.arch
 ar1:d.arch<=4294967295
 wid:∀x ∈ qdT d,0<=x∧x<18446744073709551616
def kP:IFn:=⟨[.tmp 2,.tmp 3],.seq (.r [.m 2 (.c (.i .u32 0)),.m 3 (.c (.i .u32 0))]) (.seq (.r [.n 4 0,.q 5 (.cvInt .u32 (.t 4)),.n 6 0,.q 7 (.bin .shr (.t 6) (.c (.i .u64 32))),.q 8 (.cvInt .u32 (.t 7)),.n 2 5,.n 3 8]) (.ret))⟩
theorem qlw(hc:qh P f kP=true)(x:Int)(h0:0<=x)(h1:x<18446744073709551616):qb P f [.i .u64 x] (.tup [.i .u32 (loW x),.i .u32 (hiW x)]):=by
 refine qb.mk hc rfl ?_;have e1:IntKind.wrap .u32 x=loW x:=rfl
 have e2:IntKind.wrap .u32 (qbh .u64 x 32)=hiW x:=by
  have:qbh .u64 x 32=x / 4294967296:=by
   show x.fdiv (2 ^ 32)=_;rw[Int.fdiv_eq_ediv_of_nonneg _ (by decide)];rfl
  rw[this];show (x / 4294967296) % 4294967296=x / 4294967296;omega
 simp only[kP,vI,simprocAttr];simp +decide only[↓vS,vT,simprocAttr,e1,e2];simp[vZ]
theorem qgm{q:IntKind}{l:List Int}:wa (rI q l)=true:=by
 unfold rI;induction l with
 | nil=>rfl
 | cons a l ih=>exact ih
def Zh:IFn:=⟨[.tmp 4],.seq (.r [.m 4 .N]) (.seq (.r [.n 5 0,.q 6 (.buildS 1 [.i .u64 0] [(0,1,(.t 5))]),.n 7 1,.q 8 (.app 1 8 true (.t 6) (.t 7)),.n 4 8]) (.ret))⟩
theorem qqL(hc:qh P f Zh=true)(x:Int)(l:List Int)(hl:l.length=6):qbr P f [.i .u64 x,.fz l.length (rI .u64 l)] (.own 0 (1+l.length)) [.cells 1 true true (rI .u64 (x::l))]:=by
 refine qbr.mk hc rfl (by simp[qeO,qgm]) ?_;have hr1:1+l.length<=qe:=by rw[hl];decide
 have hr2:(1+l.length)*8<=qe:=by rw[hl];decide
 have hll:(rI .u64 l).length=l.length:=xf;simp only[Zh,vI,simprocAttr];have hne:¬1+l.length<=1:=by omega
 have htk:List.take l.length (rI .u64 l)=rI .u64 l:=List.take_of_length_le (by rw[xf];omega);simp +decide only[↓vS,vT,simprocAttr,hne,hr1,hr2,hll,htk,Nat.mul_one];intro _;refine⟨[1],?_⟩;simp[vw,qfb,qc,zk]
def ke(d:GData)(j:Nat):List Int:=(xO d).take (2+2*j)++List.replicate (14-2*j) 0
theorem qfS(d:GData){j:Nat}(h:j<=7):(ke d j).length=16:=by
 have:(xO d).length=16:=rfl;unfold ke;rw[List.length_append,List.length_take,List.length_replicate,this];omega
theorem qd8(d:GData){j:Nat}{x:Int}(h:(qdT d)[j]?=some x):((ke d j).set (2+2*j) (loW x)).set (3+2*j) (hiW x)=ke d (j+1):=by
 have hj:j<7:=(zzS.1 h).1;have:j=0∨j=1∨j=2∨j=3∨j=4∨j=5∨j=6:=by omega
 rcases this with rfl|rfl|rfl|rfl|rfl|rfl|rfl<;>(cases h;rfl)
def qq5(P:Program)(g:Nat):Prop:=∀x:Int,0<=x->x<18446744073709551616->qb P g [.i .u64 x] (.tup [.i .u32 (loW x),.i .u32 (hiW x)])
def qq6(P:Program)(g:Nat):Prop:=∀(x:Int) (l:List Int),l.length=6->qbr P g [.i .u64 x,.fz l.length (rI .u64 l)] (.own 0 (1+l.length)) [.cells 1 true true (rI .u64 (x::l))]
def Qo(a b:Nat):IFn:=⟨[.cell 2 16 true],.seq (.r [.q 1 (.box (.t 0)),.q 2 (.alloc [.i .u32 0,.i .u32 0,.i .u32 0,.i .u32 0,.i .u32 0,.i .u32 0,.i .u32 0,.i .u32 0,.i .u32 0,.i .u32 0,.i .u32 0,.i .u32 0,.i .u32 0,.i .u32 0,.i .u32 0,.i .u32 0])]) (.seq (.r [.f 6 0 1,.d 7 6,.f 8 1 1,.d 9 8,.q 10 (.build [.i .u32 0,.i .u32 0,.i .u32 0,.i .u32 0,.i .u32 0,.i .u32 0,.i .u32 0,.i .u32 0,.i .u32 0,.i .u32 0,.i .u32 0,.i .u32 0,.i .u32 0,.i .u32 0,.i .u32 0,.i .u32 0] [(0,1,(.t 7)),(1,1,(.t 9))]),.q 3 (.alloc [.i .u32 0,.i .u32 0,.i .u32 0,.i .u32 0,.i .u32 0,.i .u32 0,.i .u32 0,.i .u32 0,.i .u32 0,.i .u32 0,.i .u32 0,.i .u32 0,.i .u32 0,.i .u32 0,.i .u32 0,.i .u32 0]),.u (.store 16 (.t 3) (.t 10))]) (.seq (.seq (.reg true [.f 11 2 1,.d 12 11,.f 13 3 1,.q 14 (.slcA 6 1 (.t 13) none none none),.l 15 a [.t 12,.t 14],.e 16 15,.m 17 (.k 0)]) (.blk 0 (.loop (.seq (.r [.s 18 17 16]) (.seq (.cond (.t 18) (.skip) (.exit 0)) (.seq (.blk 1 (.seq (.r [.n 19 17,.i 20 1 15 17,.d 21 20,.n 4 19,.n 5 21]) (.r [.n 23 4,.q 24 (.bin .mul (.k 2) (.t 23)),.q 25 (.bin .add (.k 2) (.t 24)),.n 26 4,.q 27 (.bin .mul (.k 2) (.t 26)),.q 28 (.bin .add (.k 3) (.t 27)),.n 29 5,.l 30 b [.t 29],.n 22 30,.x 31 22 0,.x 32 22 1,.q 33 (.iAddrA 16 1 (.t 3) (.t 25)),.u (.store 1 (.t 33) (.t 31)),.q 34 (.iAddrA 16 1 (.t 3) (.t 28)),.u (.store 1 (.t 34) (.t 32))]))) (.r [.a 35 17 1,.n 17 35]))))))) (.seq (.r [.v 36 16 3,.u (.store 16 (.t 2) (.t 36))]) (.ret))))⟩
theorem qoP{g1 g2:Nat}(hc:qh P f (Qo g1 g2)=true)(h1:qq6 P g1)(h2:qq5 P g2)(d:GData)(hd:DatOk d):qb P f [.agg (qP d)] (.agg (rI .u32 (xO d))):=by
 refine qb.mk hc rfl ?_;simp only[Qo,qP,vI,simprocAttr];simp +decide only[↓vS,vT,simprocAttr];refine xK ?_;simp +decide only[↓vS,vT,simprocAttr];refine (h1 d.ip [d.a0,d.a1,d.a2,d.a3,d.a4,d.a5] rfl).pc (vs:=[.i .u64 d.ip,.sl 0 3 6 6 false]) ?_ ?_
 ·refine .cons _ _ _ _ (.i _ _) (.cons _ _ _ _ (Frz.cut 1 rfl (Nat.le_refl _) ?_) .nil);simp[vP,Tr.get_set,vZ,rI]
 simp only[vJ,simprocAttr,jZ zk];simp +decide only[↓vS,vT,simprocAttr]
 refine SL.loop (α:=Nat) (fun j=>[(2,.ptr 0 0),(3,.ptr 1 0),(15,.own 2 7),(16,.i .i64 7),(17,.i .i64 (j:Int))]) (fun j=>[.cells 0 true false [.i .u32 0,.i .u32 0,.i .u32 0,.i .u32 0,.i .u32 0,.i .u32 0,.i .u32 0,.i .u32 0,.i .u32 0,.i .u32 0,.i .u32 0,.i .u32 0,.i .u32 0,.i .u32 0,.i .u32 0,.i .u32 0],.cells 0 true false (rI .u32 (ke d j)),.cells 1 true true (rI .u64 (qdT d))])
  (fun j=>j<=7) (fun j=>7-j) 0 [1,2,3] ?_ ?_ ?_ rfl ?_ ?_
 ·simp[vw]
 ·simp[vw,ke,xO,qdT,rI]
 ·simp
 ·exact Nat.zero_le _
 rintro j hj G ih;simp only[vI,simprocAttr]
 by_cases hlt:j<7
 ·have hlt':(j:Int)<7:=by omega
  obtain⟨x,hx⟩:∃x,(qdT d)[j]?=some x:=⟨_,zzE (show j<(qdT d).length from hlt)⟩
  have hxr:=hd.wid x (zzM hx);have hl:=qfS d hj;have hnx:=qd8 d hx;have w1:IntKind.wrap .i64 (2*(j:Int))=((2*j:Nat):Int):=by rw[qv (by omega) (by omega)];omega
  have w2:IntKind.wrap .i64 (2+((2*j:Nat):Int))=((2+2*j:Nat):Int):=by rw[qv (by omega) (by omega)];omega
  have w3:IntKind.wrap .i64 (3+((2*j:Nat):Int))=((3+2*j:Nat):Int):=by rw[qv (by omega) (by omega)];omega
  have w4:IntKind.wrap .i64 ((j:Int)+1)=((j+1:Nat):Int):=by rw[qv (by omega) (by omega)];omega
  simp +decide only[↓vS,vT,simprocAttr,hlt',hlt,Nat.mul_one,qa7,hx,Option.map_some,w1,w2,w3];refine (h2 x hxr.1 hxr.2).sc ?_;have hA:2+2*j<(ke d j).length:=by omega
  have hB:3+2*j<((ke d j).set (2+2*j) (loW x)).length:=by simp;omega
  have s1:=qa8 (k:=.u32) hA (loW x);have s2:=qa8 (k:=.u32) hB (hiW x);rw[hnx] at s2;have k1:2+2*j<16:=by omega
  have k2:3+2*j<16:=by omega
  have k3:2+2*j+1<=(rI .u32 (ke d j)).length:=by rw[xf];omega
  have k4:3+2*j+1<=(rI .u32 ((ke d j).set (2+2*j) (loW x))).length:=by rw[xf];omega
  simp +decide only[↓vS,vT,simprocAttr,k1,k2,k3,k4,s1,s2,Nat.mul_one,w4];refine ih (j+1) hlt (by omega) _ _ (Wk.mk _ _ [0,1,2] ?_ ?_ ?_ rfl)
  ·simp[vw]
  ·simp[vw,qc,zk]
  ·simp
 ·obtain rfl:j=7:=by omega
  have h16:16<=(rI .u32 (ke d 7)).length:=Nat.le_refl 16;have ht:List.take 16 (List.drop 0 (rI .u32 (ke d 7)))=rI .u32 (xO d):=rfl;have hlen:(rI .u32 (xO d)).length=16:=rfl;have hfd:ke d 7=xO d:=rfl;have ht2:List.take 16 (rI .u32 (xO d))=rI .u32 (xO d):=rfl;rw[hfd];simp +decide only[↓vS,vT,simprocAttr,h16,ht2,hlen,qlK];simp[vZ,vP,Tr.get_set,zC zk]
def qfn(d:GData)(k:Int):AV:=if k % 4≠0∨64<=k then .tup [.i .u32 0,.i .i64 41] else .tup [.i .u32 ((xO d).getD (k / 4).toNat 0),.i .i64 0]
def Zg(a:Nat):IFn:=⟨[.tmp 4,.tmp 5],.seq (.r [.q 2 (.box (.t 0)),.m 4 (.c (.i .u32 0)),.m 5 (.k 0)]) (.seq (.seq (.r [.n 6 1,.q 7 (.bin .rem (.t 6) (.c (.i .u32 4))),.q 8 (.bin .neq (.t 7) (.c (.i .u32 0))),.n 9 8,.z 10 1 9,.g 11 (.bin .geq (.t 10) (.c (.i .u32 64))) 9 false,.o 12 9 11]) (.cond (.t 12) (.seq (.r [.m 4 (.c (.i .u32 0)),.m 5 (.k 41)]) (.ret)) (.skip))) (.seq (.r [.v 13 9 2,.l 14 a [.t 13],.n 15 1,.q 16 (.bin .quo (.t 15) (.c (.i .u32 4))),.q 17 (.idxA 16 1 false (.t 14) (.t 16)),.n 4 17,.m 5 (.k 0)]) (.ret)))⟩
theorem qpP{g:Nat}(hc:qh P f (Zg g)=true)(hg:∀d,DatOk d->qb P g [.agg (qP d)] (.agg (rI .u32 (xO d))))(d:GData)(hd:DatOk d)(k:Int)(h0:0<=k)(h1:k<=4294967295):qb P f [.agg (qP d),.i .u32 k] (qfn d k):=by
 refine qb.mk hc rfl ?_;have h40:(4:Int)≠0:=by decide
 have ht:k.tmod 4=k % 4:=Int.tmod_eq_emod_of_nonneg h0;have hq:k.tdiv 4=k / 4:=Int.tdiv_eq_ediv_of_nonneg h0;have hg:=hg d hd;unfold qfn;simp only[Zg,qP,vI,simprocAttr] at hg ⊢
 by_cases hm:k % 4=0
 ·by_cases hb:64<=k
  ·rw[if_pos (.inr hb)];simp +decide only[↓vS,vT,simprocAttr,↓jJ h40,ht,hm,hb];simp[vZ]
  ·rw[if_neg (by omega)];have hn:(k / 4).toNat<16:=by omega
   obtain⟨x,hx⟩:∃x,(xO d)[(k / 4).toNat]?=some x:=⟨_,zzE hn⟩;rw[List.getD_eq_getElem?_getD,hx];have hk:k / 4=(((k / 4).toNat:Nat):Int):=by omega
   have hw:IntKind.wrap .u32 (k / 4)=(((k / 4).toNat:Nat):Int):=by
    show (k / 4) % 4294967296=_;omega
   simp +decide only[↓vS,vT,simprocAttr,↓jJ h40,ht,hm,hb];refine hg.sc ?_;generalize xO d=W at hx;simp +decide only[↓vS,vT,simprocAttr,↓qeD h40,hq,hw,hn,Nat.mul_one,qa7,hx,Option.map_some];simp[vZ]
 ·rw[if_pos (.inl hm)];simp +decide only[↓vS,vT,simprocAttr,↓jJ h40,ht,hm];simp[vZ]
def zL:Nat->Int->List Int
 | 0,_=>[]
 | n+1,x=>x % 256::zL n (x / 256)
theorem jr:∀(n:Nat) (x:Int),(zL n x).length=n
 | 0,_=>rfl
 | n+1,x=>by show (zL n (x / 256)).length+1=n+1;rw[jr]
theorem qbT:∀(n:Nat) (x:Int),zL (n+1) x=zL n x++[x / 256 ^ n % 256]
 | 0,x=>by simp[zL]
 | n+1,x=>by
  show x % 256::zL (n+1) (x / 256)=x % 256::(zL n (x / 256)++_);rw[qbT n,Int.ediv_ediv_of_nonneg (by decide),show (256:Int)*256 ^ n=256 ^ (n+1) from by rw[Int.pow_succ];exact Int.mul_comm _ _]
def j9(n j:Nat)(x:Int):List Int:=zL j x++List.replicate (n-j) 0
theorem Zc{n j:Nat}{x:Int}(h:j<=n):(j9 n j x).length=n:=by unfold j9;rw[List.length_append,jr,List.length_replicate];omega
theorem qbB{n j:Nat}{x:Int}(h:j<n):(j9 n j x).set j (x / 256 ^ j % 256)=j9 n (j+1) x:=by
 unfold j9;rw[List.set_append_right _ _ (by rw[jr];exact Nat.le_refl _),jr,Nat.sub_self,qbT,show n-j=(n-(j+1))+1 from by omega,List.replicate_succ,List.append_assoc]
 rfl

def qpx(c:Int):Bool:=!decide (Z9 .u16 c 8=0)
def xy(c:Int):Bool:=(decide (qm c=3)||decide (qm c=4))&&qpx c
def Qs(a:Nat):IFn:=⟨[.tmp 2],.seq (.r [.m 2 .F]) (.seq (.r [.n 6 0,.l 7 a [.t 6],.n 5 7,.x 8 5 0,.x 9 5 1,.q 3 (.alloc [.i .u16 0,.s [],.i .u8 0]),.u (.store 3 (.t 3) (.t 8)),.n 4 9]) (.seq (.r [.n 10 4,.n 11 10,.h 12 2 3 11 true,.j 13 12 11 true,.g 14 (.bin .eql (.t 13) (.c (.i .u8 3))) 11 true,.y 15 14 11,.h 16 2 3 15 false,.j 17 16 15 false,.g 18 (.bin .eql (.t 17) (.c (.i .u8 4))) 15 false,.g 19 (.pick (.t 15) .T (.t 18)) 11 true,.p 20 11 19,.n 21 20,.y 22 0 21,.g 23 (.bin .and (.t 22) (.c (.i .u16 8))) 21 true,.g 24 (.bin .neq (.t 23) (.c (.i .u16 0))) 21 true,.p 25 21 24,.n 2 25]) (.ret)))⟩
theorem qoK{g:Nat}(hc:qh P f (Qs g)=true)(hg:∀n,qb P g [.i .u16 n] (.tup [.agg (kc (xr n)),.b (zO n)]))(c:Int):qb P f [.i .u16 c] (.b (xy c)):=by
 refine qb.mk hc rfl ?_
 have hcl:(kc (xr c)).length=3∧(kc (xr c))[2]?=some (.i .u8 (qm c))∧qF (kc (xr c))=true:=by
  unfold qm;cases xr c<;>exact⟨rfl,rfl,rfl⟩
 have hk:zO c=false->qm c=0:=by unfold zO qm;cases xr c<;>simp
 have hgc:=hg c;generalize kc (xr c)=E at hcl hgc;obtain⟨he1,he2,he3⟩:=hcl;unfold xy qpx;simp only[Qs,vI,simprocAttr];simp +decide only[↓vS,vT,simprocAttr];refine hgc.sc ?_;cases hkn:zO c with
 | false =>
  have h0:=hk hkn;simp +decide only[↓vS,vT,simprocAttr,he1,he3];simp[vZ,h0]
 | true =>
  by_cases h3:qm c=3
  ·simp +decide only[↓vS,vT,simprocAttr,he1,he2,he3,h3];simp[vZ,h3]
  by_cases h4:qm c=4
  ·simp +decide only[↓vS,vT,simprocAttr,he1,he2,he3,h3,h4];simp[vZ,h4]
  ·simp +decide only[↓vS,vT,simprocAttr,he1,he2,he3,h3,h4];simp[vZ,h3,h4]
def wR(left:Bool):Nat->Int->Int
 | 0,a=>a
 | n+1,a=>wR left n (if left=true then a*2 % 4294967296 else a / 2)
theorem qaS:∀(n:Nat) (a:Int),0<=a->a<=4294967295->wR true n a=a*2 ^ n % 4294967296
 | 0,a,h0,h1=>by show a=a*1 % 4294967296;omega
 | n+1,a,h0,h1=>by
  show wR true n (a*2 % 4294967296)=_;rw[qaS n _ (by omega) (by omega),Int.pow_succ,Int.mul_emod,Int.emod_emod,← Int.mul_emod,Int.mul_assoc,Int.mul_comm 2]
theorem ZZ:∀(n:Nat) (a:Int),0<=a->wR false n a=a / 2 ^ n
 | 0,a,_=>by show a=a / 1;omega
 | n+1,a,h0=>by
  show wR false n (a / 2)=_;rw[ZZ n _ (by omega),Int.ediv_ediv_of_nonneg (by decide),Int.pow_succ,Int.mul_comm]
structure Mac where
 a:Int
 x:Int
 told:Int
 cl:List Int
 over:Bool
def u32(x:Int):Prop:=0<=x∧x<=4294967295
structure MacOk (m:Mac):Prop where
 a:u32 m.a
 x:u32 m.x
 told:u32 m.told
 len:m.cl.length=16
 cl:∀c ∈ m.cl,u32 c
def QP(i:Ins):Bool:=decide (i.code=96)||decide (i.code=97)||decide (i.code=2)||decide (i.code=3)
def kj(m:Mac)(i:Ins)(d:GData):Mac×Int :=
 if QP i=true∧15<i.k then (m,43)
 else if i.code=32 then (if i.k % 4≠0∨64<=i.k then (m,41) else ({ m with a:=(xO d).getD (i.k / 4).toNat 0 },0))
 else if i.code=128 then ({ m with a:=64 },0)
 else if i.code=129 then ({ m with x:=64 },0)
 else if i.code=0 then ({ m with a:=i.k },0)
 else if i.code=1 then ({ m with x:=i.k },0)
 else if i.code=96 then ({ m with a:=m.cl.getD i.k.toNat 0 },0)
 else if i.code=97 then ({ m with x:=m.cl.getD i.k.toNat 0 },0)
 else if i.code=2 then ({ m with cl:=m.cl.set i.k.toNat m.a },0)
 else if i.code=3 then ({ m with cl:=m.cl.set i.k.toNat m.x },0)
 else if i.code=7 then ({ m with x:=m.a },0)
 else if i.code=135 then ({ m with a:=m.x },0)
 else (m,0)
def qmu(P:Program)(g:Nat):Prop:=∀d,DatOk d->∀k:Int,0<=k->k<=4294967295->qb P g [.agg (qP d),.i .u32 k] (qfn d k)
def opM(c a b:Int):Int :=
 if c=4 then IntKind.wrap .u32 (a+b) else if c=20 then IntKind.wrap .u32 (a-b) else if c=36 then IntKind.wrap .u32 (a*b)
 else if c=68 then orI .u32 a b else if c=84 then Z9 .u32 a b else if c=164 then qoM .u32 a b else IntKind.wrap .u32 (0-a)
def w7(m:Mac)(i:Ins):Int:=if xy i.code=true then m.x else i.k
def qE(c:Int):Int:=if xy c=true then c-8 else c
def nuM(m:Mac)(i:Ins):Mac×Int :=
 if qE i.code=52 then (if 0<w7 m i then ({ m with a:=m.a / w7 m i },0) else if xy i.code=true then ({ m with over:=true },0) else (m,44))
 else if qE i.code=100∨qE i.code=116 then (if xy i.code=false∧31<w7 m i then (m,45) else ({ m with a:=wR (decide (qE i.code=100)) (w7 m i % 32).toNat m.a },0))
 else ({ m with a:=opM (qE i.code) m.a (w7 m i) },0)
def c3L:List Int:=[4,12,20,28,36,44,52,60,68,76,84,92,100,108,116,124,164,172,132]
theorem qiY:∀x ∈ xJ,x.2.2=3->c3L.contains x.1=true:=by decide
def cWX(P:Program)(g:Nat):Prop:=∀c:Int,qb P g [.i .u16 c] (.b (xy c))
def QO(c a b:Int):Bool:=if c=21 then decide (a=b) else if c=37 then decide (b<a) else if c=53 then decide (b<=a) else decide (0<Z9 .u32 a b)
def Z0(m:Mac)(i:Ins):Int:=if i.code=5 then i.k else if QO (qE i.code) m.a (w7 m i)=true then i.jt else i.jf
def c4L:List Int:=[21,29,37,45,53,61,69,77,5]
theorem qoE:∀x ∈ xJ,x.2.2=4->c4L.contains x.1=true:=by decide
def qiZ(m:Mac)(i:Ins):Mac:={ m with over:=true,told:=if i.code=22 then m.a else i.k }
def doR(m:Mac)(i:Ins)(d:GData):Mac×Int×Int :=
 if zO i.code=false then (m,0,40)
 else if qm i.code=1∨qm i.code=2∨qm i.code=6 then ((kj m i d).1,0,(kj m i d).2)
 else if qm i.code=3 then ((nuM m i).1,0,(nuM m i).2)
 else if qm i.code=4 then (m,Z0 m i,0)
 else (qiZ m i,0,0)
theorem j7(x:Int):u32 (IntKind.wrap .u32 x):=by show 0<=x % 4294967296∧x % 4294967296<=4294967295;omega
theorem qdq(left:Bool):∀(n:Nat) (a:Int),u32 a->u32 (wR left n a)
 | 0,_,h=>h
 | n+1,a,h=>by
  refine qdq left n _ ?_;unfold u32 at h ⊢;split<;>omega
theorem qev{d:GData}(hd:DatOk d){x:Int}(hm:x ∈ xO d):u32 x:=by
 unfold xO at hm;rcases List.mem_cons.1 hm with rfl|hm
 ·exact⟨hd.nr0,hd.nr1⟩
 rcases List.mem_cons.1 hm with rfl|hm
 ·exact⟨hd.ar0,hd.ar1⟩
 obtain⟨y,hy,hm⟩:=List.mem_flatMap.1 hm;have:=hd.wid y hy;simp only[List.mem_cons,List.not_mem_nil,or_false] at hm;unfold u32;rcases hm with rfl|rfl
 ·unfold loW;omega
 ·unfold hiW;omega
theorem qaM{l:List Int}(h:∀c ∈ l,u32 c)(j:Nat):u32 (l.getD j 0):=by
 rw[List.getD_eq_getElem?_getD];cases hx:l[j]? with
 | none=>exact⟨Int.le_refl _,by decide⟩
 | some x=>exact h x (zzM hx)
theorem qh3{m:Mac}(hm:MacOk m){i:Ins}(hi:InsOk i){d:GData}(hd:DatOk d):MacOk (kj m i d).1:=by
 have hk:u32 i.k:=⟨hi.k0,hi.k1⟩;have h64:u32 64:=⟨by decide,by decide⟩
 unfold kj
 by_cases c1:QP i=true∧15<i.k
 ·rw[if_pos c1];exact hm
 rw[if_neg c1]
 by_cases c2:i.code=32
 ·rw[if_pos c2]
  by_cases c3:i.k % 4≠0∨64<=i.k
  ·rw[if_pos c3];exact hm
  ·rw[if_neg c3];exact⟨qaM (fun c hc=>qev hd hc) _,hm.x,hm.told,hm.len,hm.cl⟩
 rw[if_neg c2]
 by_cases d1:i.code=128
 ·rw[if_pos d1];exact⟨h64,hm.x,hm.told,hm.len,hm.cl⟩
 rw[if_neg d1]
 by_cases d2:i.code=129
 ·rw[if_pos d2];exact⟨hm.a,h64,hm.told,hm.len,hm.cl⟩
 rw[if_neg d2]
 by_cases d3:i.code=0
 ·rw[if_pos d3];exact⟨hk,hm.x,hm.told,hm.len,hm.cl⟩
 rw[if_neg d3]
 by_cases d4:i.code=1
 ·rw[if_pos d4];exact⟨hm.a,hk,hm.told,hm.len,hm.cl⟩
 rw[if_neg d4]
 by_cases d5:i.code=96
 ·rw[if_pos d5];exact⟨qaM hm.cl _,hm.x,hm.told,hm.len,hm.cl⟩
 rw[if_neg d5]
 by_cases d6:i.code=97
 ·rw[if_pos d6];exact⟨hm.a,qaM hm.cl _,hm.told,hm.len,hm.cl⟩
 rw[if_neg d6]
 by_cases d7:i.code=2
 ·rw[if_pos d7];exact⟨hm.a,hm.x,hm.told,by simpa using hm.len,fun c hc=>(List.mem_or_eq_of_mem_set hc).elim (hm.cl c) (fun e=>e ▸ hm.a)⟩
 rw[if_neg d7]
 by_cases d8:i.code=3
 ·rw[if_pos d8];exact⟨hm.a,hm.x,hm.told,by simpa using hm.len,fun c hc=>(List.mem_or_eq_of_mem_set hc).elim (hm.cl c) (fun e=>e ▸ hm.x)⟩
 rw[if_neg d8]
 by_cases d9:i.code=7
 ·rw[if_pos d9];exact⟨hm.a,hm.a,hm.told,hm.len,hm.cl⟩
 rw[if_neg d9]
 by_cases d10:i.code=135
 ·rw[if_pos d10];exact⟨hm.x,hm.x,hm.told,hm.len,hm.cl⟩
 rw[if_neg d10];exact hm
theorem qnO(c a b:Int):u32 (opM c a b):=by
 unfold opM;split
 ·exact j7 _
 split
 ·exact j7 _
 split
 ·exact j7 _
 split
 ·exact j7 _
 split
 ·exact j7 _
 split
 ·exact j7 _
 ·exact j7 _
theorem qnF{m:Mac}(hm:MacOk m)(i:Ins):MacOk (nuM m i).1:=by
 unfold nuM;split
 ·split
  ·rename_i hb;have h1:m.a / w7 m i<=m.a:=Int.ediv_le_self _ hm.a.1;have h2:0<=m.a / w7 m i:=Int.ediv_nonneg hm.a.1 (by omega);have h3:=hm.a.2;exact⟨⟨h2,by show m.a / w7 m i<=4294967295;omega⟩,hm.x,hm.told,hm.len,hm.cl⟩
  split
  ·exact⟨hm.a,hm.x,hm.told,hm.len,hm.cl⟩
  ·exact hm
 split
 ·split
  ·exact hm
  ·exact⟨qdq _ _ _ hm.a,hm.x,hm.told,hm.len,hm.cl⟩
 ·exact⟨qnO _ _ _,hm.x,hm.told,hm.len,hm.cl⟩
theorem qhV{m:Mac}{i:Ins}(hi:InsOk i):u32 (Z0 m i):=by
 have:=hi.t0;have:=hi.t1;have:=hi.f0;have:=hi.f1;have:=hi.k0;have:=hi.k1
 unfold Z0 u32;split
 ·omega
 split<;>omega
theorem qhl{m:Mac}(hm:MacOk m){i:Ins}(hi:InsOk i){d:GData}(hd:DatOk d):MacOk (doR m i d).1∧u32 (doR m i d).2.1:=by
 have h0:u32 0:=⟨by decide,by decide⟩
 unfold doR;split
 ·exact⟨hm,h0⟩
 split
 ·exact⟨qh3 hm hi hd,h0⟩
 split
 ·exact⟨qnF hm i,h0⟩
 split
 ·exact⟨hm,qhV hi⟩
 ·refine⟨⟨hm.a,hm.x,?_,hm.len,hm.cl⟩,h0⟩;show u32 (if i.code=22 then m.a else i.k)
  split
  ·exact hm.a
  ·exact⟨hi.k0,hi.k1⟩
def runR(p:List Ins)(d:GData):Nat->Mac->Nat->Int->List Nat->Int×Nat×List Nat×Int
 | 0,_,_,_,l=>(0,0,l,0)
 | n+1,m,at',bh,l=>match p[at']? with
  | none=>(0,l.length,l,bh)
  | some i=>if (doR m i d).2.2≠0 then (0,l.length,l++[at'],(doR m i d).2.2)
   else if (doR m i d).1.over=true then ((doR m i d).1.told,l.length+1,l++[at'],0)
   else runR p d n (doR m i d).1 (at'+1+(doR m i d).2.1.toNat) (if qm i.code=4 then 42 else 46) (l++[at'])
def qh6:Mac:=⟨0,0,0,List.replicate 16 0,false⟩
theorem QK{d:GData}:List.take 9 (List.drop 0 (qP d))=qP d:=rfl
theorem qay{d:GData}:9<=(qP d).length:=Nat.le_refl 9
theorem zY{d:GData}:qx (qP d)=true:=rfl
theorem qeY:MacOk qh6:=⟨⟨by decide,by decide⟩,⟨by decide,by decide⟩,⟨by decide,by decide⟩,rfl,fun c hc=>by
 have:=List.eq_of_mem_replicate hc;subst this;exact⟨by decide,by decide⟩⟩
theorem qbX{p:List Ins}{d:GData}{n:Nat}{m:Mac}{at':Nat}{bh:Int}{l:List Nat}:runR p d (n+1) m at' bh l=match p[at']? with
  | none=>(0,l.length,l,bh)
  | some i=>if (doR m i d).2.2≠0 then (0,l.length,l++[at'],(doR m i d).2.2)
   else if (doR m i d).1.over=true then ((doR m i d).1.told,l.length+1,l++[at'],0)
   else runR p d n (doR m i d).1 (at'+1+(doR m i d).2.1.toNat) (if qm i.code=4 then 42 else 46) (l++[at']):=rfl
def Qt:IFn:=⟨[.tmp 4],.seq (.r [.m 4 (.c (.i .u32 0))]) (.seq (.r [.n 5 0,.n 6 1,.b 7 .add 5 6,.n 4 7]) (.ret))⟩
theorem qsb(hc:qh P f Qt=true)(a b:Int):qb P f [.i .u32 a,.i .u32 b] (.i .u32 (opM 4 a b)):=by
 refine qb.mk hc rfl ?_;simp only[Qt,vI,simprocAttr];simp +decide only[↓vS,vT,simprocAttr];simp[vZ,opM]
def Qu:IFn:=⟨[.tmp 4],.seq (.r [.m 4 (.c (.i .u32 0))]) (.seq (.r [.n 5 0,.n 6 1,.b 7 .sub 5 6,.n 4 7]) (.ret))⟩
theorem qsc(hc:qh P f Qu=true)(a b:Int):qb P f [.i .u32 a,.i .u32 b] (.i .u32 (opM 20 a b)):=by
 refine qb.mk hc rfl ?_;simp only[Qu,vI,simprocAttr];simp +decide only[↓vS,vT,simprocAttr];simp[vZ,opM]
def Qv:IFn:=⟨[.tmp 4],.seq (.r [.m 4 (.c (.i .u32 0))]) (.seq (.r [.n 5 0,.n 6 1,.b 7 .mul 5 6,.n 4 7]) (.ret))⟩
theorem qsd(hc:qh P f Qv=true)(a b:Int):qb P f [.i .u32 a,.i .u32 b] (.i .u32 (opM 36 a b)):=by
 refine qb.mk hc rfl ?_;simp only[Qv,vI,simprocAttr];simp +decide only[↓vS,vT,simprocAttr];simp[vZ,opM]
def Qx:IFn:=⟨[.tmp 4],.seq (.r [.m 4 (.c (.i .u32 0))]) (.seq (.r [.n 5 0,.n 6 1,.b 7 .or 5 6,.n 4 7]) (.ret))⟩
theorem qsf(hc:qh P f Qx=true)(a b:Int):qb P f [.i .u32 a,.i .u32 b] (.i .u32 (opM 68 a b)):=by
 refine qb.mk hc rfl ?_;simp only[Qx,vI,simprocAttr];simp +decide only[↓vS,vT,simprocAttr];simp[vZ,opM]
def Qy:IFn:=⟨[.tmp 4],.seq (.r [.m 4 (.c (.i .u32 0))]) (.seq (.r [.n 5 0,.n 6 1,.b 7 .and 5 6,.n 4 7]) (.ret))⟩
theorem qsg(hc:qh P f Qy=true)(a b:Int):qb P f [.i .u32 a,.i .u32 b] (.i .u32 (opM 84 a b)):=by
 refine qb.mk hc rfl ?_;simp only[Qy,vI,simprocAttr];simp +decide only[↓vS,vT,simprocAttr];simp[vZ,opM]
def QB:IFn:=⟨[.tmp 4],.seq (.r [.m 4 (.c (.i .u32 0))]) (.seq (.r [.n 5 0,.n 6 1,.b 7 .xor 5 6,.n 4 7]) (.ret))⟩
theorem qsj(hc:qh P f QB=true)(a b:Int):qb P f [.i .u32 a,.i .u32 b] (.i .u32 (opM 164 a b)):=by
 refine qb.mk hc rfl ?_;simp only[QB,vI,simprocAttr];simp +decide only[↓vS,vT,simprocAttr];simp[vZ,opM]
def yx:IFn:=⟨[.tmp 4],.seq (.r [.m 4 (.c (.i .u32 0))]) (.seq (.r [.n 5 0,.q 6 (.un .neg (.t 5)),.n 4 6]) (.ret))⟩
theorem qrr(hc:qh P f yx=true)(a b:Int):qb P f [.i .u32 a,.i .u32 b] (.i .u32 (opM 132 a b)):=by
 refine qb.mk hc rfl ?_;simp only[yx,vI,simprocAttr];simp +decide only[↓vS,vT,simprocAttr];simp[vZ,opM]
def Qw:IFn:=⟨[.tmp 4],.seq (.r [.m 4 (.c (.i .u32 0))]) (.seq (.r [.n 5 0,.n 6 1,.q 7 (.max (.t 6) (.c (.i .u32 1))),.b 8 .quo 5 7,.n 4 8]) (.ret))⟩
theorem qse(hc:qh P f Qw=true)(a b:Int)(a0:0<=a)(a1:a<=4294967295)(b0:0<b):qb P f [.i .u32 a,.i .u32 b] (.i .u32 (a / b)):=by
 refine qb.mk hc rfl ?_;have h1:¬b<1:=by omega
 have hne:b≠0:=by omega
 have hq:a.tdiv b=a / b:=Int.tdiv_eq_ediv_of_nonneg a0;have hle:a / b<=a:=Int.ediv_le_self _ a0;have hge:0<=a / b:=Int.ediv_nonneg a0 (by omega);have hwq:IntKind.wrap .u32 (a / b)=a / b:=by show (a / b) % 4294967296=_;omega
 simp only[Qw,vI,simprocAttr];simp +decide only[↓vS,vT,simprocAttr,h1,↓qeD hne,hq,hwq];simp[vZ]
def Qz:IFn:=⟨[.tmp 4],.seq (.r [.m 4 (.c (.i .u32 0))]) (.seq (.r [.n 5 0,.n 6 1,.q 7 (.bin .rem (.t 6) (.c (.i .u32 32))),.b 8 .shl 5 7,.n 4 8]) (.ret))⟩
theorem qsh(hc:qh P f Qz=true)(a b:Int)(a0:0<=a)(a1:a<=4294967295)(b0:0<=b):qb P f [.i .u32 a,.i .u32 b] (.i .u32 (wR true (b % 32).toNat a)):=by
 refine qb.mk hc rfl ?_;have h32:(32:Int)≠0:=by decide
 have hr:b.tmod 32=b % 32:=Int.tmod_eq_emod_of_nonneg b0;have hp:0<=b % 32:=by omega
 have hm:min (b % 32).toNat 32=(b % 32).toNat:=by omega
 have hsh:qdM .u32 a (b % 32)=wR true (b % 32).toNat a:=by
  rw[qaS (b % 32).toNat a a0 a1];unfold qdM;rw[show IntKind.bits .u32=32 from rfl,hm]
  rfl
 simp only[Qz,vI,simprocAttr];simp +decide only[↓vS,vT,simprocAttr,↓jJ h32,hr,hp,hsh];simp[vZ]
def QA:IFn:=⟨[.tmp 4],.seq (.r [.m 4 (.c (.i .u32 0))]) (.seq (.r [.n 5 0,.n 6 1,.q 7 (.bin .rem (.t 6) (.c (.i .u32 32))),.b 8 .shr 5 7,.n 4 8]) (.ret))⟩
theorem qsi(hc:qh P f QA=true)(a b:Int)(a0:0<=a)(a1:a<=4294967295)(b0:0<=b):qb P f [.i .u32 a,.i .u32 b] (.i .u32 (wR false (b % 32).toNat a)):=by
 refine qb.mk hc rfl ?_;have h32:(32:Int)≠0:=by decide
 have hr:b.tmod 32=b % 32:=Int.tmod_eq_emod_of_nonneg b0;have hp:0<=b % 32:=by omega
 have hm:min (b % 32).toNat 32=(b % 32).toNat:=by omega
 have hsh:qbh .u32 a (b % 32)=wR false (b % 32).toNat a:=by
  rw[ZZ (b % 32).toNat a a0];unfold qbh;rw[show IntKind.bits .u32=32 from rfl,hm]
  exact Int.fdiv_eq_ediv_of_nonneg _ (Int.le_of_lt (Int.pow_pos (by decide)))
 simp only[QA,vI,simprocAttr];simp +decide only[↓vS,vT,simprocAttr,↓jJ h32,hr,hp,hsh];simp[vZ]
def yy:IFn:=⟨[.tmp 4],.seq (.r [.m 4 .F]) (.seq (.r [.n 5 0,.n 6 1,.b 7 .eql 5 6,.n 4 7]) (.ret))⟩
theorem qrs(hc:qh P f yy=true)(a b:Int):qb P f [.i .u32 a,.i .u32 b] (.b (QO 21 a b)):=by
 refine qb.mk hc rfl ?_;simp only[yy,vI,simprocAttr];simp +decide only[↓vS,vT,simprocAttr];simp[vZ,QO]
def yz:IFn:=⟨[.tmp 4],.seq (.r [.m 4 .F]) (.seq (.r [.n 5 0,.n 6 1,.b 7 .gtr 5 6,.n 4 7]) (.ret))⟩
theorem qrt(hc:qh P f yz=true)(a b:Int):qb P f [.i .u32 a,.i .u32 b] (.b (QO 37 a b)):=by
 refine qb.mk hc rfl ?_;simp only[yz,vI,simprocAttr];simp +decide only[↓vS,vT,simprocAttr];simp[vZ,QO]
def yA:IFn:=⟨[.tmp 4],.seq (.r [.m 4 .F]) (.seq (.r [.n 5 0,.n 6 1,.b 7 .geq 5 6,.n 4 7]) (.ret))⟩
theorem qru(hc:qh P f yA=true)(a b:Int):qb P f [.i .u32 a,.i .u32 b] (.b (QO 53 a b)):=by
 refine qb.mk hc rfl ?_;simp only[yA,vI,simprocAttr];simp +decide only[↓vS,vT,simprocAttr];simp[vZ,QO]
theorem qjc(a b:Int):0<=Z9 .u32 a b:=(j7 _).1
def yB:IFn:=⟨[.tmp 4],.seq (.r [.m 4 .F]) (.seq (.r [.n 5 0,.n 6 1,.b 7 .and 5 6,.q 8 (.bin .neq (.t 7) (.c (.i .u32 0))),.n 4 8]) (.ret))⟩
theorem qrv(hc:qh P f yB=true)(a b:Int):qb P f [.i .u32 a,.i .u32 b] (.b (QO 69 a b)):=by
 refine qb.mk hc rfl ?_;have h:=qjc a b;simp only[yB,vI,simprocAttr];simp +decide only[↓vS,vT,simprocAttr];simp[vZ,QO]
 by_cases h0:0<Z9 .u32 a b
 ·have h1:¬Z9 .u32 a b=0:=by omega
  simp[h0,h1]
 ·have h1:Z9 .u32 a b=0:=by omega
  simp[h1]
def fnO:Option Nat->AV
 | none=>.nilf
 | some g=>.fn g [] []
def xM(x:Int×Option Nat×Option Nat):List AV:=[.i .u16 x.1,fnO x.2.1,fnO x.2.2]
theorem qbV(x:Int×Option Nat×Option Nat):(xM x).length=3:=rfl
def qob(g1 g2 g3 g4 g5 g6 g7 g8 g9 g10 g11 g12 g13 g14:Nat):List (Int×Option Nat×Option Nat):=[(4,some g1,none),(20,some g2,none),(36,some g3,none),(52,some g4,none),(68,some g5,none),(84,some g6,none),(100,some g7,none),(116,some g8,none),(164,some g9,none),(132,some g10,none),(21,none,some g11),(37,none,some g12),(53,none,some g13),(69,none,some g14)]
def ZX(a b c d e g h i j k l m n o:Nat):IFn:=⟨[.cell 0 42 true],.seq (.r [.q 0 (.alloc [.i .u16 0,.nilf,.nilf,.i .u16 0,.nilf,.nilf,.i .u16 0,.nilf,.nilf,.i .u16 0,.nilf,.nilf,.i .u16 0,.nilf,.nilf,.i .u16 0,.nilf,.nilf,.i .u16 0,.nilf,.nilf,.i .u16 0,.nilf,.nilf,.i .u16 0,.nilf,.nilf,.i .u16 0,.nilf,.nilf,.i .u16 0,.nilf,.nilf,.i .u16 0,.nilf,.nilf,.i .u16 0,.nilf,.nilf,.i .u16 0,.nilf,.nilf])]) (.seq (.r [.q 1 (.build [.i .u16 0,.nilf,.nilf] [(0,1,(.c (.i .u16 4))),(1,1,(.c (.fn a [] [])))]),.q 2 (.build [.i .u16 0,.nilf,.nilf] [(0,1,(.c (.i .u16 20))),(1,1,(.c (.fn b [] [])))]),.q 3 (.build [.i .u16 0,.nilf,.nilf] [(0,1,(.c (.i .u16 36))),(1,1,(.c (.fn c [] [])))]),.q 4 (.build [.i .u16 0,.nilf,.nilf] [(0,1,(.c (.i .u16 52))),(1,1,(.c (.fn d [] [])))]),.q 5 (.build [.i .u16 0,.nilf,.nilf] [(0,1,(.c (.i .u16 68))),(1,1,(.c (.fn e [] [])))]),.q 6 (.build [.i .u16 0,.nilf,.nilf] [(0,1,(.c (.i .u16 84))),(1,1,(.c (.fn g [] [])))]),.q 7 (.build [.i .u16 0,.nilf,.nilf] [(0,1,(.c (.i .u16 100))),(1,1,(.c (.fn h [] [])))]),.q 8 (.build [.i .u16 0,.nilf,.nilf] [(0,1,(.c (.i .u16 116))),(1,1,(.c (.fn i [] [])))]),.q 9 (.build [.i .u16 0,.nilf,.nilf] [(0,1,(.c (.i .u16 164))),(1,1,(.c (.fn j [] [])))]),.q 10 (.build [.i .u16 0,.nilf,.nilf] [(0,1,(.c (.i .u16 132))),(1,1,(.c (.fn k [] [])))]),.q 11 (.build [.i .u16 0,.nilf,.nilf] [(0,1,(.c (.i .u16 21))),(2,1,(.c (.fn l [] [])))]),.q 12 (.build [.i .u16 0,.nilf,.nilf] [(0,1,(.c (.i .u16 37))),(2,1,(.c (.fn m [] [])))]),.q 13 (.build [.i .u16 0,.nilf,.nilf] [(0,1,(.c (.i .u16 53))),(2,1,(.c (.fn n [] [])))]),.q 14 (.build [.i .u16 0,.nilf,.nilf] [(0,1,(.c (.i .u16 69))),(2,1,(.c (.fn o [] [])))]),.q 15 (.build [.i .u16 0,.nilf,.nilf,.i .u16 0,.nilf,.nilf,.i .u16 0,.nilf,.nilf,.i .u16 0,.nilf,.nilf,.i .u16 0,.nilf,.nilf,.i .u16 0,.nilf,.nilf,.i .u16 0,.nilf,.nilf,.i .u16 0,.nilf,.nilf,.i .u16 0,.nilf,.nilf,.i .u16 0,.nilf,.nilf,.i .u16 0,.nilf,.nilf,.i .u16 0,.nilf,.nilf,.i .u16 0,.nilf,.nilf,.i .u16 0,.nilf,.nilf] [(0,3,(.t 1)),(3,3,(.t 2)),(6,3,(.t 3)),(9,3,(.t 4)),(12,3,(.t 5)),(15,3,(.t 6)),(18,3,(.t 7)),(21,3,(.t 8)),(24,3,(.t 9)),(27,3,(.t 10)),(30,3,(.t 11)),(33,3,(.t 12)),(36,3,(.t 13)),(39,3,(.t 14))]),.u (.store 42 (.t 0) (.t 15))]) (.ret))⟩
set_option maxRecDepth 8000 in
theorem qn9{g1 g2 g3 g4 g5 g6 g7 g8 g9 g10 g11 g12 g13 g14:Nat}(hc:qh P f (ZX g1 g2 g3 g4 g5 g6 g7 g8 g9 g10 g11 g12 g13 g14)=true):qb P f [] (.agg ((qob g1 g2 g3 g4 g5 g6 g7 g8 g9 g10 g11 g12 g13 g14).flatMap xM)):=by
 refine qb.mk hc rfl ?_;simp only[ZX,vI,simprocAttr];simp +decide only[↓vS,vT,simprocAttr];simp[vZ,vP,Tr.get_set,qob,xM,fnO]
def qat(c:Int):Int:=if xy c=true then qbs .u16 c 8 else c
theorem qaf(o:Option Nat):clo (fnO o)=true:=by cases o<;>rfl
def yw(a b:Nat):ICode:=.seq (.seq (.r [.l 9 b [],.m 10 (.k 0)]) (.blk 0 (.loop (.seq (.r [.w 11 .lss 10 14]) (.seq (.cond (.t 11) (.skip) (.exit 0)) (.seq (.blk 1 (.seq (.r [.q 12 (.idxA 14 3 true (.t 9) (.t 10)),.q 4 (.alloc [.i .u16 0,.nilf,.nilf]),.u (.store 3 (.t 4) (.t 12))]) (.seq (.r [.f 13 0 4,.d 14 13,.n 15 0,.b 16 .eql 14 15]) (.cond (.t 16) (.seq (.r [.v 17 3 4,.u (.store 3 (.t 2) (.t 17))]) (.ret)) (.skip))))) (.r [.a 18 10 1,.n 10 18]))))))) (.seq (.r [.q 19 (.build [.i .u16 0,.nilf,.nilf] []),.u (.store 3 (.t 2) (.t 19))]) (.ret))
def qdo(a b:Nat):IFn:=⟨[.cell 2 3 true],.seq (.r [.q 2 (.alloc [.i .u16 0,.nilf,.nilf])]) (.seq (.seq (.r [.n 5 0,.l 6 a [.t 5]]) (.cond (.t 6) (.r [.n 7 0,.q 8 (.bin .andNot (.t 7) (.c (.i .u16 8))),.n 0 8]) (.skip))) (.cut (yw a b)))⟩
theorem qlj{g1 g2:Nat}(ws:List (Int×Option Nat×Option Nat))(hw:ws.length=14)(h2:qb P g2 [] (.agg (ws.flatMap xM)))(b:Int)(r:Int×Option Nat×Option Nat)(hr:(ws.find? fun x=>decide (x.1=b))=some r)
  {t':Tr AV} {h':Hp} (hwk:Wk 0 t' h' (mkT [(0,.i .u16 b),(2,.ptr 0 0)]) (mkH 0 [.cells 0 true false [.i .u16 0,.nilf,.nilf]])) :
  S P 0 (yw g1 g2) (jd [.cell 2 3 true] fun v' h'=>Frz h' v' (.agg (xM r))) t' h':=by
 refine S.weak hwk (qr ?_);have hlen:(ws.flatMap xM).length=42:=by rw[xY qbV,hw]
 have hcl:qx (ws.flatMap xM)=true:=yY (fun x=>by simp[xM,qx,clo,qaf])
 simp only[yw,vI,simprocAttr];simp +decide only[↓vS,vT,simprocAttr];refine h2.sc ?_;simp +decide only[↓vS,vT,simprocAttr];refine SL.loop (α:=Nat) (fun j=>[(0,.i .u16 b),(2,.ptr 0 0),(9,.agg (ws.flatMap xM)),(10,.i .i64 (j:Int))]) (fun _=>[.cells 0 true false [.i .u16 0,.nilf,.nilf]]) (fun j=>j<=14∧((ws.drop j).find? fun x=>decide (x.1=b))=some r) (fun j=>14-j) 0 [0] ?_ ?_ ?_ rfl ?_ ?_
 ·simp[vw,qc,hcl]
 ·simp[vw]
 ·simp
 ·exact⟨Nat.zero_le _,hr⟩
 rintro j ⟨hj,hI⟩ G ih;simp only[vI,simprocAttr]
 by_cases hlt:j<14
 ·have hlt':(j:Int)<14:=by omega
  have hjl:j<ws.length:=by omega
  have hx:ws[j]?=some ws[j]:=zzE hjl;have hw1:IntKind.wrap .i64 ((j:Int)+1)=((j+1:Nat):Int):=by rw[qv (by omega) (by omega)];omega
  have hel:=zP (f:=xM) (m:=3) qbV hx;have hb:j*3+3<=(ws.flatMap xM).length:=by omega
  rw[List.drop_eq_getElem_cons hjl,List.find?_cons] at hI;generalize hc0:ws[j]=x at hel hI;simp only[xM] at hel;generalize hT:ws.flatMap xM=T at hel hb hlen hcl;have hf1:=qaf x.2.1;have hf2:=qaf x.2.2;have hok:qF [AV.i .u16 x.1,fnO x.2.1,fnO x.2.2]=true:=by obtain⟨_,o1,o2⟩:=x;cases o1<;>cases o2<;>rfl
  by_cases hxb:x.1=b
  ·have hd:decide (x.1=b)=true:=by simpa using hxb
   rw[hd] at hI;obtain rfl:x=r:=by simpa using hI
   have hok':qW (fnO x.2.1)=true∧qW (fnO x.2.2)=true:=by obtain⟨_,o1,o2⟩:=x;cases o1<;>cases o2<;>exact⟨rfl,rfl⟩
   simp +decide only[↓vS,vT,simprocAttr,hlt',hlt,hel,hb,hok,hok'.1,hok'.2,hxb];have fz:∀(h:Hp) (o:Option Nat),Frz h (fnO o) (fnO o):=fun h o=>Frz.self (qaf o)
   simp[vZ,xM,hxb,fz]
  ·have hd:decide (x.1=b)=false:=by simpa using hxb
   rw[hd] at hI;simp +decide only[↓vS,vT,simprocAttr,hlt',hlt,hel,hb,hok,hxb,hw1];refine ih (j+1) ⟨hlt,hI⟩ (by omega) _ _ (Wk.mk _ _ [0] ?_ ?_ ?_ rfl)
   ·simp[vw,qc,hcl,hT]
   ·simp[vw]
   ·simp
 ·obtain rfl:j=14:=by omega
  have hd:ws.drop 14=[]:=List.drop_eq_nil_of_le (by omega);rw[hd] at hI;cases hI
theorem qqS{g1 g2:Nat}(hc:qh P f (qdo g1 g2)=true)(h1:cWX P g1)(ws:List (Int×Option Nat×Option Nat))(hw:ws.length=14)(h2:qb P g2 [] (.agg (ws.flatMap xM)))(c:Int)(r:Int×Option Nat×Option Nat)(hr:(ws.find? fun x=>decide (x.1=qat c))=some r) :
  qb P f [.i .u16 c] (.agg (xM r)):=by
 refine qb.mk hc rfl ?_;have hX:=h1 c;unfold qat at hr;simp only[qdo,vI,simprocAttr];cases hx:xy c with
 | true =>
  rw[hx] at hX hr;rw[if_pos rfl] at hr;simp +decide only[↓vS,vT,simprocAttr];refine hX.sc ?_;simp +decide only[↓vS,vT,simprocAttr];refine qlj ws hw h2 (qbs .u16 c 8) r hr (Wk.mk _ _ [0] ?_ ?_ ?_ rfl)
  ·simp[vw]
  ·simp[vw]
  ·simp
 | false =>
  rw[hx] at hX hr;rw[if_neg (by simp)] at hr;simp +decide only[↓vS,vT,simprocAttr];refine hX.sc ?_;simp +decide only[↓vS,vT,simprocAttr];refine qlj ws hw h2 c r hr (Wk.mk _ _ [0] ?_ ?_ ?_ rfl)
  ·simp[vw]
  ·simp[vw]
  ·simp
def cVm(m:Mac)(d:GData):List AV:=.i .u32 m.a :: .i .u32 m.x::(rI .u32 m.cl++(qP d++[.i .u32 m.told,.b m.over]))
theorem yV{m:Mac}{d:GData}(h:m.cl.length=16):(cVm m d).length=29:=by
 show (rI .u32 m.cl++(qP d++[AV.i .u32 m.told,AV.b m.over])).length+2=29;rw[List.length_append,xf,h];rfl
theorem qg{m:Mac}{d:GData}:qx (cVm m d)=true:=by
 show qx (rI .u32 m.cl++(qP d++[AV.i .u32 m.told,AV.b m.over]))=true;rw[zA,zk];rfl
def jW(a:Nat):IFn:=⟨[.tmp 4],.seq (.r [.q 3 (.box (.t 1)),.m 4 (.c (.i .u32 0))]) (.seq (.seq (.r [.f 5 0 3,.d 6 5,.l 7 a [.t 6]]) (.cond (.t 7) (.seq (.r [.n 8 0,.q 9 (.nilChk (.t 8)),.f 10 1 9,.d 11 10,.n 4 11]) (.ret)) (.skip))) (.seq (.r [.f 12 3 3,.d 13 12,.n 4 13]) (.ret)))⟩
theorem qlL{g:Nat}(hc:qh P f (jW g)=true)(hg:cWX P g)(m:Mac)(d:GData)(hl:m.cl.length=16)(i:Ins):Rd P f [.ptr 0 0,.agg (qt i)] [.cells 0 true false (cVm m d)] (.i .u32 (w7 m i)):=by
 refine Rd.mk hc (by simp[xo,bnd,qt]) rfl ?_;have hX:=hg i.code;have g1:(cVm m d)[1]?=some (.i .u32 m.x):=rfl;unfold w7;simp only[jW,qt,vI,simprocAttr];cases hx:xy i.code with
 | true =>
  rw[hx] at hX;simp +decide only[↓vS,vT,simprocAttr];refine hX.sc ?_;simp +decide only[↓vS,vT,simprocAttr,g1]
 | false =>
  rw[hx] at hX;simp +decide only[↓vS,vT,simprocAttr];refine hX.sc ?_;simp +decide only[↓vS,vT,simprocAttr]
def qpH(P:Program)(g:Nat):Prop:=∀(m:Mac) (d:GData),m.cl.length=16->∀i:Ins,Rd P g [.ptr 0 0,.agg (qt i)] [.cells 0 true false (cVm m d)] (.i .u32 (w7 m i))
def qpz(P:Program)(g:Nat):Prop:=∀c:Int,c4L.contains c=true->c≠5->∃(b:Int) (o:Option Nat) (k:Nat),qb P g [.i .u16 c] (.agg (xM (b,o,some k)))∧∀x y:Int,qb P k [.i .u32 x,.i .u32 y] (.b (QO (qE c) x y))
def wP(a b:Nat):IFn:=⟨[.tmp 4],.seq (.r [.q 3 (.box (.t 1)),.m 4 (.k 0)]) (.seq (.blk 0 (.seq (.r [.f 6 0 3,.d 7 6,.q 8 (.bin .eql (.t 7) (.c (.i .u16 5))),.n 5 8]) (.cond (.t 5) (.seq (.r [.f 9 3 3,.d 10 9,.q 11 (.cvInt .i64 (.t 10)),.n 4 11]) (.ret)) (.seq (.reg true [.f 13 0 3,.d 14 13,.l 15 a [.t 14],.q 16 (.fld 2 none (.t 15)),.n 17 0,.q 18 (.nilChk (.t 17)),.f 19 0 18,.d 20 19,.n 21 0,.v 22 4 3,.l 23 b [.t 21,.t 22],⟨(some 24),.callV (.t 16) [.t 20,.t 23],none⟩,.n 12 24]) (.cond (.t 12) (.seq (.r [.f 25 1 3,.d 26 25,.q 27 (.cvInt .i64 (.t 26)),.n 4 27]) (.ret)) (.skip)))))) (.seq (.r [.f 28 2 3,.d 29 28,.q 30 (.cvInt .i64 (.t 29)),.n 4 30]) (.ret)))⟩
theorem qrU{g1 g2:Nat}(hc:qh P f (wP g1 g2)=true)(h1:qpz P g1)(h2:qpH P g2)(m:Mac)(d:GData)(hl:m.cl.length=16)(i:Ins)(hi:InsOk i)(hcls:qm i.code=4) :
  Upd P f [.ptr 0 0,.agg (qt i)] [.cells 0 true false (cVm m d)] (.i .i64 (Z0 m i)) [.cells 0 true false (cVm m d)]:=by
 refine Upd.mk hc (by simp[xo,bnd,qt]) (by simp) ?_;have g0:(cVm m d)[0]?=some (.i .u32 m.a):=rfl;have wk:IntKind.wrap .i64 i.k=i.k:=by have:=hi.k0;have:=hi.k1;exact qv (by omega) (by omega)
 have wt:IntKind.wrap .i64 i.jt=i.jt:=by have:=hi.t0;have:=hi.t1;exact qv (by omega) (by omega)
 have wf:IntKind.wrap .i64 i.jf=i.jf:=by have:=hi.f0;have:=hi.f1;exact qv (by omega) (by omega)
 have hmem:c4L.contains i.code=true:=by
  unfold qm at hcls;cases hcm:xr i.code with
  | none=>rw[hcm] at hcls;cases hcls
  | some x =>
   rw[hcm] at hcls;obtain⟨q1,q2⟩:=wA hcm;rw[← q2];exact qoE x q1 hcls
 have hsec:=h2 m d hl i;unfold Z0;simp only[wP,qt,vI,simprocAttr] at hsec ⊢
 by_cases c5:i.code=5
 ·simp +decide only[↓vS,vT,simprocAttr,c5,wk];intro _;refine⟨[0],?_⟩;simp[vw,qc,qg]
 obtain⟨b,o,k,hby,hho⟩:=h1 i.code hmem c5;simp only[xM] at hby;rw[if_neg c5];simp +decide only[↓vS,vT,simprocAttr,c5];refine xK ?_;simp +decide only[↓vS,vT,simprocAttr];refine hby.pc ?_;simp +decide only[↓vS,vT,simprocAttr,fnO,g0];refine hsec.pc (vs:=[.ptr 0 0,.agg [.i .u16 i.code,.i .u8 i.jt,.i .u8 i.jf,.i .u32 i.k]]) [0] (Lent.of (by decide) ?_) ?_
 ·simp[vL,vw,ze qg,qB qg]
 simp +decide only[↓vS,vT,simprocAttr];refine (hho m.a (w7 m i)).pc ?_;simp only[Hp.up,Hp.down];cases hh:QO (qE i.code) m.a (w7 m i) with
 | true =>
  simp +decide only[↓vS,vT,simprocAttr,wt];intro _;refine⟨[0],?_⟩;simp[vw,qc,qg]
 | false =>
  simp +decide only[↓vS,vT,simprocAttr,wf];intro _;refine⟨[0],?_⟩;simp[vw,qc,qg]
theorem qcU{m:Mac}{d:GData}(h:m.cl.length=16)(v:Bool):List.take 28 (cVm m d)++(AV.b v::List.drop 29 (cVm m d))=cVm { m with over:=v } d:=by
 have e:List.take 26 (rI .u32 m.cl++(qP d++[AV.i .u32 m.told,AV.b m.over]))++(AV.b v::List.drop 27 (rI .u32 m.cl++(qP d++[AV.i .u32 m.told,AV.b m.over])))=rI .u32 m.cl++(qP d++[AV.i .u32 m.told,AV.b v]):=by
  have hl:(rI .u32 m.cl).length=16:=by rw[xf,h]
  rw[List.take_append,hl,List.take_of_length_le (by rw[hl];decide),List.drop_eq_nil_of_le (by rw[List.length_append,hl];exact Nat.le_refl 27),List.append_assoc];rfl
 show AV.i .u32 m.a::AV.i .u32 m.x::(List.take 26 (rI .u32 m.cl++(qP d++[AV.i .u32 m.told,AV.b m.over]))++(AV.b v::List.drop 27 (rI .u32 m.cl++(qP d++[AV.i .u32 m.told,AV.b m.over]))))=_;rw[e];rfl
def qkY(c a b:Int):Int:=if c=52 then a / b else if c=100∨c=116 then wR (decide (c=100)) (b % 32).toNat a else opM c a b
def qpA(P:Program)(g:Nat):Prop:=∀c:Int,c3L.contains c=true->∃(b:Int) (k:Nat) (o:Option Nat),qb P g [.i .u16 c] (.agg (xM (b,some k,o)))∧∀x y:Int,u32 x->u32 y->(qE c=52->0<y)->qb P k [.i .u32 x,.i .u32 y] (.i .u32 (qkY (qE c) x y))
theorem qeB:∀c:Int,c3L.contains c=true->(qE c=52↔c=52∨c=60)∧(qE c=100↔c=100∨c=108)∧(qE c=116↔c=116∨c=124)∧(xy c=true↔c≠132∧8<=c % 16):=by
 intro c h;have key:∀c ∈ c3L,(qE c=52↔c=52∨c=60)∧(qE c=100↔c=100∨c=108)∧(qE c=116↔c=116∨c=124)∧(xy c=true↔c≠132∧8<=c % 16):=by decide
 exact key c (by simpa using h)
def jV(a b c:Nat):IFn:=⟨[],.seq (.r [.q 3 (.box (.t 1))]) (.seq (.r [.n 5 0,.v 6 4 3,.l 7 a [.t 5,.t 6],.n 4 7]) (.blk 0 (.seq (.r [.f 22 0 3,.d 23 22,.q 24 (.bin .eql (.t 23) (.c (.i .u16 52))),.n 25 24,.y 26 4 25,.g 27 (.bin .eql (.t 26) (.c (.i .u32 0))) 25 true,.p 28 25 27,.n 21 28]) (.cond (.t 21) (.r [.l 29 b [.k 44]]) (.seq (.r [.f 31 0 3,.d 32 31,.q 33 (.bin .eql (.t 32) (.c (.i .u16 60))),.n 34 33,.y 35 4 34,.g 36 (.bin .eql (.t 35) (.c (.i .u32 0))) 34 true,.p 37 34 36,.n 30 37]) (.cond (.t 30) (.r [.n 38 0,.q 39 (.nilChk (.t 38)),.f 40 28 39,.u (.store 1 (.t 40) .T)]) (.seq (.r [.f 42 0 3,.d 43 42,.q 44 (.bin .eql (.t 43) (.c (.i .u16 100))),.n 45 44,.h 46 0 3 45 false,.j 47 46 45 false,.g 48 (.bin .eql (.t 47) (.c (.i .u16 116))) 45 false,.o 49 45 48,.n 50 49,.y 51 4 50,.g 52 (.bin .gtr (.t 51) (.c (.i .u32 31))) 50 true,.p 53 50 52,.n 41 53]) (.cond (.t 41) (.r [.l 54 b [.k 45]]) (.reg true [.n 8 0,.f 9 0 3,.d 10 9,.l 11 c [.t 10],.q 12 (.fld 1 none (.t 11)),.n 13 0,.q 14 (.nilChk (.t 13)),.f 15 0 14,.d 16 15,.n 17 4,⟨(some 18),.callV (.t 12) [.t 16,.t 17],none⟩,.q 19 (.nilChk (.t 8)),.f 20 0 19,.u (.store 1 (.t 20) (.t 18))])))))))))⟩
theorem qqJ{g1 g2 g3:Nat}(hc:qh P f (jV g1 g2 g3)=true)(h1:qpH P g1)(h3:qpA P g3)(m:Mac)(hm:MacOk m)(d:GData)(i:Ins)(hi:InsOk i)(hcls:qm i.code=3)(hz:(nuM m i).2=0) :
  Upd P f [.ptr 0 0,.agg (qt i)] [.cells 0 true false (cVm m d)] (.tup []) [.cells 0 true false (cVm (nuM m i).1 d)]:=by
 refine Upd.mk hc (by simp[xo,bnd,qt]) (by simp) ?_;have hl:=yV (d:=d) hm.len;have g0:(cVm m d)[0]?=some (.i .u32 m.a):=rfl;have s0:∀v:Int,AV.i .u32 v::List.drop 1 (cVm m d)=cVm { m with a:=v } d:=fun _=>rfl
 have so:=qcU (d:=d) hm.len true
 have hmem:c3L.contains i.code=true:=by
  unfold qm at hcls;cases hcm:xr i.code with
  | none=>rw[hcm] at hcls;cases hcls
  | some x =>
   rw[hcm] at hcls;obtain⟨q1,q2⟩:=wA hcm;rw[← q2];exact qiY x q1 hcls
 obtain⟨e52,e100,e116,eX⟩:=qeB i.code hmem
 have hB:u32 (w7 m i):=by
  unfold w7;split
  ·exact hm.x
  ·exact⟨hi.k0,hi.k1⟩
 obtain⟨b,k,o,hby,hres⟩:=h3 i.code hmem;have hsec:=h1 m d hm.len i;have hr:=hres m.a (w7 m i) hm.a hB;have hb0:=hB.1;unfold nuM at hz ⊢;simp only[xM] at hby;simp only[jV,qt,vI,simprocAttr] at hsec ⊢;generalize w7 m i=y at hz hsec hr hb0 ⊢;simp +decide only[↓vS,vT,simprocAttr];refine hsec.sc (vs:=[.ptr 0 0,.agg [.i .u16 i.code,.i .u8 i.jt,.i .u8 i.jf,.i .u32 i.k]]) [0] (Lent.of (by decide) ?_) ?_
 ·simp[vL,vw,ze qg,qB qg]
 by_cases c60:i.code=60∧y=0
 ·have b52:=e52.2 (.inr c60.1);have hX:xy i.code=true:=eX.2 (by rw[c60.1];decide);rw[if_pos b52,if_neg (by omega),if_pos hX];simp +decide only[↓vS,vT,simprocAttr,c60.1,c60.2,hl,so];intro _;refine⟨[0],?_⟩;simp[vw,qc,qg]
 have h52:i.code=52->y≠0:=fun hc52 h0=>by
  have b52:=e52.2 (.inl hc52);have hX:¬xy i.code=true:=fun h=>by have:=(eX.1 h).2;rw[hc52] at this;omega
  rw[if_pos b52,if_neg (by omega),if_neg hX] at hz;cases hz
 have h60:i.code=60->y≠0:=fun hc60 h0=>c60 ⟨hc60,h0⟩
 have hsh:(i.code=100∨i.code=116)->y<=31:=fun hs=>by
  have hX:xy i.code=false:=by
   cases h:xy i.code with
   | false=>rfl
   | true =>
    have:=(eX.1 h).2;rcases hs with hs|hs<;>(rw[hs] at this;omega)
  have hb:qE i.code=100∨qE i.code=116:=hs.elim (fun h=>.inl (e100.2 (.inl h))) (fun h=>.inr (e116.2 (.inl h)))
  have hn:¬qE i.code=52:=by rcases hb with hb|hb<;>(rw[hb];decide)
  rw[if_neg hn,if_pos hb] at hz
  by_cases h31:31<y
  ·rw[if_pos ⟨hX,h31⟩] at hz;cases hz
  ·omega
 have hnu:(if qE i.code=52 then (if 0<y then (({ m with a:=m.a / y }:Mac),(0:Int)) else if xy i.code=true then ({ m with over:=true },0) else (m,44)) else if qE i.code=100∨qE i.code=116 then (if xy i.code=false∧31<y then (m,45) else ({ m with a:=wR (decide (qE i.code=100)) (y % 32).toNat m.a },0)) else ({ m with a:=opM (qE i.code) m.a y },0)).1={ m with a:=qkY (qE i.code) m.a y }:=by
  unfold qkY
  by_cases b52:qE i.code=52
  ·have hy:0<y:=by
    rcases e52.1 b52 with h|h
    ·have:=h52 h;omega
    ·have:=h60 h;omega
   rw[if_pos b52,if_pos hy,if_pos b52]
  ·rw[if_neg b52,if_neg b52]
   by_cases bs:qE i.code=100∨qE i.code=116
   ·rw[if_pos bs,if_pos bs,if_neg];rintro⟨hX,h31⟩
    have hc:i.code=100∨i.code=116:=by
     rcases bs with bs|bs
     ·rcases e100.1 bs with h|h
      ·exact .inl h
      ·have:xy i.code=true:=eX.2 (by rw[h];decide);rw[hX] at this;cases this
     ·rcases e116.1 bs with h|h
      ·exact .inr h
      ·have:xy i.code=true:=eX.2 (by rw[h];decide);rw[hX] at this;cases this
    have:=hsh hc;omega
   ·rw[if_neg bs,if_neg bs]
 rw[hnu]
 have hr:=hr fun b52=>by
  rcases e52.1 b52 with h|h
  ·have:=h52 h;omega
  ·have:=h60 h;omega
 generalize qkY (qE i.code) m.a y=R at hr ⊢;clear hz hnu hres
 by_cases d52:i.code=52
 ·have hy0:=h52 d52;simp +decide only[↓vS,vT,simprocAttr,d52,hy0];refine xK ?_;simp +decide only[↓vS,vT,simprocAttr];refine hby.pc ?_;simp +decide only[↓vS,vT,simprocAttr,fnO,g0];refine hr.pc ?_;simp only[Hp.up,Hp.down];simp +decide only[↓vS,vT,simprocAttr,hl,s0];intro _;refine⟨[0],?_⟩;simp[vw,qc,qg]
 by_cases d60:i.code=60
 ·have hy0:=h60 d60;simp +decide only[↓vS,vT,simprocAttr,d60,hy0];refine xK ?_;simp +decide only[↓vS,vT,simprocAttr];refine hby.pc ?_;simp +decide only[↓vS,vT,simprocAttr,fnO,g0];refine hr.pc ?_;simp only[Hp.up,Hp.down];simp +decide only[↓vS,vT,simprocAttr,hl,s0];intro _;refine⟨[0],?_⟩;simp[vw,qc,qg]
 by_cases d100:i.code=100
 ·have hy1:=hsh (.inl d100);have hy0:¬31<y:=by omega
  simp +decide only[↓vS,vT,simprocAttr,d100,hy0];refine xK ?_;simp +decide only[↓vS,vT,simprocAttr];refine hby.pc ?_;simp +decide only[↓vS,vT,simprocAttr,fnO,g0];refine hr.pc ?_;simp only[Hp.up,Hp.down];simp +decide only[↓vS,vT,simprocAttr,hl,s0];intro _;refine⟨[0],?_⟩;simp[vw,qc,qg]
 by_cases d116:i.code=116
 ·have hy1:=hsh (.inr d116);have hy0:¬31<y:=by omega
  simp +decide only[↓vS,vT,simprocAttr,d116,hy0];refine xK ?_;simp +decide only[↓vS,vT,simprocAttr];refine hby.pc ?_;simp +decide only[↓vS,vT,simprocAttr,fnO,g0];refine hr.pc ?_;simp only[Hp.up,Hp.down];simp +decide only[↓vS,vT,simprocAttr,hl,s0];intro _;refine⟨[0],?_⟩;simp[vw,qc,qg]
 simp +decide only[↓vS,vT,simprocAttr,d52,d60,d100,d116];refine xK ?_;simp +decide only[↓vS,vT,simprocAttr];refine hby.pc ?_;simp +decide only[↓vS,vT,simprocAttr,fnO,g0];refine hr.pc ?_;simp only[Hp.up,Hp.down];simp +decide only[↓vS,vT,simprocAttr,hl,s0];intro _;refine⟨[0],?_⟩;simp[vw,qc,qg]
structure Prs (P:Program) (g:Nat->Nat):Prop where
 p1:∀a b:Int,qb P (g 1) [.i .u32 a,.i .u32 b] (.i .u32 (opM 4 a b))
 p2:∀a b:Int,qb P (g 2) [.i .u32 a,.i .u32 b] (.i .u32 (opM 20 a b))
 p3:∀a b:Int,qb P (g 3) [.i .u32 a,.i .u32 b] (.i .u32 (opM 36 a b))
 p4:∀a b:Int,0<=a->a<=4294967295->0<b->qb P (g 4) [.i .u32 a,.i .u32 b] (.i .u32 (a / b))
 p5:∀a b:Int,qb P (g 5) [.i .u32 a,.i .u32 b] (.i .u32 (opM 68 a b))
 p6:∀a b:Int,qb P (g 6) [.i .u32 a,.i .u32 b] (.i .u32 (opM 84 a b))
 p7:∀a b:Int,0<=a->a<=4294967295->0<=b->qb P (g 7) [.i .u32 a,.i .u32 b] (.i .u32 (wR true (b % 32).toNat a))
 p8:∀a b:Int,0<=a->a<=4294967295->0<=b->qb P (g 8) [.i .u32 a,.i .u32 b] (.i .u32 (wR false (b % 32).toNat a))
 p9:∀a b:Int,qb P (g 9) [.i .u32 a,.i .u32 b] (.i .u32 (opM 164 a b))
 p10:∀a b:Int,qb P (g 10) [.i .u32 a,.i .u32 b] (.i .u32 (opM 132 a b))
 p11:∀a b:Int,qb P (g 11) [.i .u32 a,.i .u32 b] (.b (QO 21 a b))
 p12:∀a b:Int,qb P (g 12) [.i .u32 a,.i .u32 b] (.b (QO 37 a b))
 p13:∀a b:Int,qb P (g 13) [.i .u32 a,.i .u32 b] (.b (QO 53 a b))
 p14:∀a b:Int,qb P (g 14) [.i .u32 a,.i .u32 b] (.b (QO 69 a b))
def qqv(g:Nat->Nat):List (Int×Option Nat×Option Nat):=qob (g 1) (g 2) (g 3) (g 4) (g 5) (g 6) (g 7) (g 8) (g 9) (g 10) (g 11) (g 12) (g 13) (g 14)
theorem qcM:∀c:Int,c3L.contains c=true∨(c4L.contains c=true∧c≠5)->qat c=qE c:=by
 have k3:∀c ∈ c3L,qat c=qE c:=by decide
 have k4:∀c ∈ c4L,c≠5->qat c=qE c:=by decide
 rintro c (h|h)
 ·exact k3 c (by simpa using h)
 ·exact k4 c (by simpa using h.1) h.2
theorem qmg:∀c:Int,c3L.contains c=true->qE c=4∨qE c=20∨qE c=36∨qE c=52∨qE c=68∨qE c=84∨qE c=100∨qE c=116∨qE c=164∨qE c=132:=by
 have k:∀c ∈ c3L,qE c=4∨qE c=20∨qE c=36∨qE c=52∨qE c=68∨qE c=84∨qE c=100∨qE c=116∨qE c=164∨qE c=132:=by decide
 exact fun c h=>k c (by simpa using h)
theorem qmh:∀c:Int,c4L.contains c=true->c≠5->qE c=21∨qE c=37∨qE c=53∨qE c=69:=by
 have k:∀c ∈ c4L,c≠5->qE c=21∨qE c=37∨qE c=53∨qE c=69:=by decide
 exact fun c h=>k c (by simpa using h)
theorem byN{g:Nat->Nat}(hp:Prs P g)(hb:∀(c:Int) (r:Int×Option Nat×Option Nat),((qqv g).find? fun x=>decide (x.1=qat c))=some r->qb P f [.i .u16 c] (.agg (xM r))):qpA P f:=by
 intro c hc;have hbv:=qcM c (.inl hc);have hb:=hb c;rw[hbv] at hb;have n1:∀{x y:Int},u32 x->u32 y->0<=x∧x<=4294967295∧0<=y:=fun h h'=>⟨h.1,h.2,h'.1⟩
 rcases qmg c hc with e|e|e|e|e|e|e|e|e|e<;>rw[e] at hb ⊢
 ·exact⟨4,g 1,none,hb _ rfl,fun x y _ _ _=>hp.p1 x y⟩
 ·exact⟨20,g 2,none,hb _ rfl,fun x y _ _ _=>hp.p2 x y⟩
 ·exact⟨36,g 3,none,hb _ rfl,fun x y _ _ _=>hp.p3 x y⟩
 ·exact⟨52,g 4,none,hb _ rfl,fun x y hx _ h0=>hp.p4 x y hx.1 hx.2 (h0 rfl)⟩
 ·exact⟨68,g 5,none,hb _ rfl,fun x y _ _ _=>hp.p5 x y⟩
 ·exact⟨84,g 6,none,hb _ rfl,fun x y _ _ _=>hp.p6 x y⟩
 ·exact⟨100,g 7,none,hb _ rfl,fun x y hx hy _=>hp.p7 x y hx.1 hx.2 hy.1⟩
 ·exact⟨116,g 8,none,hb _ rfl,fun x y hx hy _=>hp.p8 x y hx.1 hx.2 hy.1⟩
 ·exact⟨164,g 9,none,hb _ rfl,fun x y _ _ _=>hp.p9 x y⟩
 ·exact⟨132,g 10,none,hb _ rfl,fun x y _ _ _=>hp.p10 x y⟩
theorem byJ{g:Nat->Nat}(hp:Prs P g)(hb:∀(c:Int) (r:Int×Option Nat×Option Nat),((qqv g).find? fun x=>decide (x.1=qat c))=some r->qb P f [.i .u16 c] (.agg (xM r))):qpz P f:=by
 intro c hc c5;have hbv:=qcM c (.inr ⟨hc,c5⟩);have hb:=hb c;rw[hbv] at hb;rcases qmh c hc c5 with e|e|e|e<;>rw[e] at hb ⊢
 ·exact⟨21,none,g 11,hb _ rfl,hp.p11⟩
 ·exact⟨37,none,g 12,hb _ rfl,hp.p12⟩
 ·exact⟨53,none,g 13,hb _ rfl,hp.p13⟩
 ·exact⟨69,none,g 14,hb _ rfl,hp.p14⟩
theorem qcT{m:Mac}{d:GData}{k:Nat}{c:Int}(h:m.cl[k]?=some c):(cVm m d)[2+k]?=some (.i .u32 c):=by
 rw[show 2+k=k+2 from by omega]
 show (rI .u32 m.cl++(qP d++[AV.i .u32 m.told,AV.b m.over]))[k]?=_;rw[List.getElem?_append_left (by rw[xf];exact (zzS.1 h).1),qa7,h];rfl
theorem qg2{m:Mac}{d:GData}(h:m.cl.length=16):List.take 9 (List.drop 18 (cVm m d))=qP d:=by
 show List.take 9 (List.drop 16 (rI .u32 m.cl++(qP d++[AV.i .u32 m.told,AV.b m.over])))=_;have hl:(rI .u32 m.cl).length=16:=by rw[xf,h]
 rw[List.drop_append,hl,List.drop_eq_nil_of_le (by rw[hl];exact Nat.le_refl _)];rfl
def wO(a:Nat):IFn:=⟨[.tmp 4],.seq (.r [.m 4 (.c (.nilp))]) (.seq (.seq (.r [.n 5 1,.q 6 (.bin .geq (.t 5) (.c (.i .u32 16)))]) (.cond (.t 6) (.r [.l 7 a [.k 43]]) (.skip))) (.seq (.r [.n 8 0,.n 9 1,.q 10 (.nilChk (.t 8)),.f 11 2 10,.q 12 (.iAddrA 16 1 (.t 11) (.t 9)),.n 4 12]) (.ret)))⟩
theorem qrT{g:Nat}(hc:qh P f (wO g)=true)(m:Mac)(d:GData)(n:Nat)(hn:n<16):Upd P f [.ptr 0 0,.i .u32 (n:Int)] [.cells 0 true false (cVm m d)] (.ptr 0 (2+n)) [.cells 0 true false (cVm m d)]:=by
 refine Upd.mk hc (by simp[xo,bnd]) (by simp) ?_;have hn':¬(16:Int)<=(n:Int):=by omega
 simp only[wO,vI,simprocAttr];simp +decide only[↓vS,vT,simprocAttr,hn',hn,Nat.mul_one];intro _;refine⟨[0],?_⟩;simp[vw,qc,qg]
def qgX(P:Program)(g:Nat):Prop:=∀(m:Mac) (d:GData) (n:Nat),n<16->Upd P g [.ptr 0 0,.i .u32 (n:Int)] [.cells 0 true false (cVm m d)] (.ptr 0 (2+n)) [.cells 0 true false (cVm m d)]
def c1L:List Int:=[32,128,0,96,129,1,97]
theorem qoD:∀x ∈ xJ,x.2.2=1->c1L.contains x.1=true:=by decide
def wQ(a b c:Nat):IFn:=⟨[],.seq (.r [.q 3 (.box (.t 1))]) (.seq (.r [.f 6 0 3,.d 7 6]) (.blk 0 (.seq (.r [.q 9 (.bin .eql (.t 7) (.c (.i .u16 32))),.n 8 9]) (.cond (.t 8) (.seq (.reg true [.n 11 0,.q 12 (.nilChk (.t 11)),.f 13 18 12,.v 14 9 13,.f 15 3 3,.d 16 15,.l 17 a [.t 14,.t 16],.n 10 17,.x 18 10 0,.x 19 10 1,.n 4 18,.n 5 19]) (.seq (.seq (.r [.n 20 5,.w 21 .neq 20 0]) (.cond (.t 21) (.r [.n 22 5,.l 23 b [.t 22]]) (.skip))) (.r [.n 24 0,.n 25 4,.q 26 (.nilChk (.t 24)),.f 27 0 26,.u (.store 1 (.t 27) (.t 25))]))) (.seq (.r [.q 29 (.bin .eql (.t 7) (.c (.i .u16 128))),.n 28 29]) (.cond (.t 28) (.r [.n 30 0,.q 31 (.nilChk (.t 30)),.f 32 0 31,.u (.store 1 (.t 32) (.c (.i .u32 64)))]) (.seq (.r [.q 34 (.bin .eql (.t 7) (.c (.i .u16 129))),.n 33 34]) (.cond (.t 33) (.r [.n 35 0,.q 36 (.nilChk (.t 35)),.f 37 1 36,.u (.store 1 (.t 37) (.c (.i .u32 64)))]) (.seq (.r [.q 39 (.bin .eql (.t 7) (.c (.i .u16 0))),.n 38 39]) (.cond (.t 38) (.r [.n 40 0,.f 41 3 3,.d 42 41,.q 43 (.nilChk (.t 40)),.f 44 0 43,.u (.store 1 (.t 44) (.t 42))]) (.seq (.r [.q 46 (.bin .eql (.t 7) (.c (.i .u16 1))),.n 45 46]) (.cond (.t 45) (.r [.n 47 0,.f 48 3 3,.d 49 48,.q 50 (.nilChk (.t 47)),.f 51 1 50,.u (.store 1 (.t 51) (.t 49))]) (.seq (.r [.q 53 (.bin .eql (.t 7) (.c (.i .u16 96))),.n 52 53]) (.cond (.t 52) (.r [.n 54 0,.n 55 0,.f 56 3 3,.d 57 56,.l 58 c [.t 55,.t 57],.q 59 (.nilChk (.t 58)),.d 60 59,.q 61 (.nilChk (.t 54)),.f 62 0 61,.u (.store 1 (.t 62) (.t 60))]) (.seq (.r [.q 64 (.bin .eql (.t 7) (.c (.i .u16 97))),.n 63 64]) (.cond (.t 63) (.r [.n 65 0,.n 66 0,.f 67 3 3,.d 68 67,.l 69 c [.t 66,.t 68],.q 70 (.nilChk (.t 69)),.d 71 70,.q 72 (.nilChk (.t 65)),.f 73 1 72,.u (.store 1 (.t 73) (.t 71))]) (.skip)))))))))))))))))⟩
theorem qrV{g1 g2 g3:Nat}(hc:qh P f (wQ g1 g2 g3)=true)(h1:qmu P g1)(h3:qgX P g3)(m:Mac)(hm:MacOk m)(d:GData)(hd:DatOk d)(i:Ins)(hi:InsOk i)(hcls:qm i.code=1)(hz:(kj m i d).2=0) :
  Upd P f [.ptr 0 0,.agg (qt i)] [.cells 0 true false (cVm m d)] (.tup []) [.cells 0 true false (cVm (kj m i d).1 d)]:=by
 refine Upd.mk hc (by simp[xo,bnd,qt]) (by simp) ?_;have hl:=yV (d:=d) hm.len;have g0:(cVm m d)[0]?=some (.i .u32 m.a):=rfl;have s0:∀v:Int,AV.i .u32 v::List.drop 1 (cVm m d)=cVm { m with a:=v } d:=fun _=>rfl
 have s1:∀v:Int,List.take 1 (cVm m d)++(AV.i .u32 v::List.drop 2 (cVm m d))=cVm { m with x:=v } d:=fun _=>rfl
 have hdt:=qg2 (d:=d) hm.len
 have hmem:c1L.contains i.code=true:=by
  unfold qm at hcls;cases hcm:xr i.code with
  | none=>rw[hcm] at hcls;cases hcls
  | some x =>
   rw[hcm] at hcls;obtain⟨q1,q2⟩:=wA hcm;rw[← q2];exact qoD x q1 hcls
 simp only[c1L,List.contains_iff_mem,List.mem_cons,List.not_mem_nil,or_false] at hmem;have hw:=h1 d hd i.k hi.k0 hi.k1;unfold qfn at hw;unfold kj QP at hz ⊢;have k0:=hi.k0;simp only[wQ,qt,vI,simprocAttr];rcases hmem with e|e|e|e|e|e|e
 ·by_cases hb:i.k % 4≠0∨64<=i.k
  ·simp[e,hb] at hz
  ·rw[if_neg hb] at hw;simp +decide only[↓vS,vT,simprocAttr,e];refine xK ?_;simp +decide only[↓vS,vT,simprocAttr,hl,hdt];refine hw.pc ?_;simp +decide only[↓vS,vT,simprocAttr,hl,s0];intro _;refine⟨[0],?_⟩;simp only[e,if_neg hb];simp[vw,qc,qg]
 ·simp +decide only[↓vS,vT,simprocAttr,e,hl,s0];intro _;refine⟨[0],?_⟩;simp[vw,qc,qg,e]
 ·simp +decide only[↓vS,vT,simprocAttr,e,hl,s0];intro _;refine⟨[0],?_⟩;simp[vw,qc,qg,e]
 rotate_left
 ·simp +decide only[↓vS,vT,simprocAttr,e,hl,s1];intro _;refine⟨[0],?_⟩;simp[vw,qc,qg,e]
 ·simp +decide only[↓vS,vT,simprocAttr,e,hl,s1];intro _;refine⟨[0],?_⟩;simp[vw,qc,qg,e]
 ·have hb:¬15<i.k:=by
   intro h;simp[e,h] at hz
  obtain⟨n,hn⟩:∃n:Nat,i.k=(n:Int):=⟨i.k.toNat,by omega⟩
  have hk16:n<16:=by omega
  obtain⟨c,hcx⟩:∃c,m.cl[n]?=some c:=⟨_,zzE (by rw[hm.len];exact hk16)⟩;have gc:=qcT (m:=m) (d:=d) hcx;have htn:i.k.toNat=n:=by omega
  simp +decide only[↓vS,vT,simprocAttr,e,hn];refine (h3 m d n hk16).sc (vs:=[.ptr 0 0,.i .u32 (n:Int)]) [0] (Lent.of (by decide) ?_) ?_
  ·simp[vL,vw,ze qg,qB qg]
  simp only[vK,simprocAttr,qB qg];simp +decide only[↓vS,vT,simprocAttr,gc,hl,s1];intro _;refine⟨[0],?_⟩;have hb':¬(15:Int)<(n:Int):=by omega
  simp[vw,qc,qg,e,hn,hb',hcx]
 ·have hb:¬15<i.k:=by
   intro h;simp[e,h] at hz
  obtain⟨n,hn⟩:∃n:Nat,i.k=(n:Int):=⟨i.k.toNat,by omega⟩
  have hk16:n<16:=by omega
  obtain⟨c,hcx⟩:∃c,m.cl[n]?=some c:=⟨_,zzE (by rw[hm.len];exact hk16)⟩;have gc:=qcT (m:=m) (d:=d) hcx;have htn:i.k.toNat=n:=by omega
  simp +decide only[↓vS,vT,simprocAttr,e,hn];refine (h3 m d n hk16).sc (vs:=[.ptr 0 0,.i .u32 (n:Int)]) [0] (Lent.of (by decide) ?_) ?_
  ·simp[vL,vw,ze qg,qB qg]
  simp only[vK,simprocAttr,qB qg];simp +decide only[↓vS,vT,simprocAttr,gc,hl,s0];intro _;refine⟨[0],?_⟩;have hb':¬(15:Int)<(n:Int):=by omega
  simp[vw,qc,qg,e,hn,hb',hcx]
theorem qg4{m:Mac}{d:GData}{k:Nat}(h:k<m.cl.length)(v:Int):List.take (2+k) (cVm m d)++(AV.i .u32 v::List.drop (2+k+1) (cVm m d))=cVm { m with cl:=m.cl.set k v } d:=by
 obtain⟨R,hR⟩:∃R,R=qP d++[AV.i .u32 m.told,AV.b m.over]:=⟨_,rfl⟩
 have e:List.take k (rI .u32 m.cl++R)++(AV.i .u32 v::List.drop (k+1) (rI .u32 m.cl++R))=rI .u32 (m.cl.set k v)++R:=by
  rw[List.take_append_of_le_length (by rw[xf];omega),List.drop_append_of_le_length (by rw[xf];omega),← qa8 h v,List.append_assoc];rfl
 rw[show 2+k=k+2 from by omega]
 subst hR;show AV.i .u32 m.a::AV.i .u32 m.x::(List.take k (rI .u32 m.cl++(qP d++[AV.i .u32 m.told,AV.b m.over]))++(AV.i .u32 v::List.drop (k+1) (rI .u32 m.cl++(qP d++[AV.i .u32 m.told,AV.b m.over]))))=_;rw[e];rfl
theorem qcV{m:Mac}{d:GData}(h:m.cl.length=16)(v:Int):List.take 27 (cVm m d)++(AV.i .u32 v::List.drop 28 (cVm m d))=cVm { m with told:=v } d:=by
 have e:List.take 25 (rI .u32 m.cl++(qP d++[AV.i .u32 m.told,AV.b m.over]))++(AV.i .u32 v::List.drop 26 (rI .u32 m.cl++(qP d++[AV.i .u32 m.told,AV.b m.over])))=rI .u32 m.cl++(qP d++[AV.i .u32 v,AV.b m.over]):=by
  have hl:(rI .u32 m.cl).length=16:=by rw[xf,h]
  rw[List.take_append,hl,List.take_of_length_le (by rw[hl];decide),List.drop_append,hl,List.drop_eq_nil_of_le (by rw[hl];decide),List.append_assoc];rfl
 show AV.i .u32 m.a::AV.i .u32 m.x::(List.take 25 (rI .u32 m.cl++(qP d++[AV.i .u32 m.told,AV.b m.over]))++(AV.i .u32 v::List.drop 26 (rI .u32 m.cl++(qP d++[AV.i .u32 m.told,AV.b m.over]))))=_;rw[e];rfl
theorem qlc:∀x ∈ xJ,(x.2.2=2->x.1=2∨x.1=3)∧(x.2.2=5->x.1=6∨x.1=22)∧(x.2.2=6->x.1=7∨x.1=135)∧1<=x.2.2∧x.2.2<=6:=by decide
def qmt(P:Program)(g:Nat):Prop:=∀(m:Mac),MacOk m->∀d:GData,DatOk d->∀i:Ins,InsOk i->qm i.code=1->(kj m i d).2=0->Upd P g [.ptr 0 0,.agg (qt i)] [.cells 0 true false (cVm m d)] (.tup []) [.cells 0 true false (cVm (kj m i d).1 d)]
def qpE(P:Program)(g:Nat):Prop:=∀(m:Mac),MacOk m->∀(d:GData) (i:Ins),InsOk i->qm i.code=3->(nuM m i).2=0->Upd P g [.ptr 0 0,.agg (qt i)] [.cells 0 true false (cVm m d)] (.tup []) [.cells 0 true false (cVm (nuM m i).1 d)]
def qmr(P:Program)(g:Nat):Prop:=∀(m:Mac) (d:GData),m.cl.length=16->∀i:Ins,InsOk i->qm i.code=4->Upd P g [.ptr 0 0,.agg (qt i)] [.cells 0 true false (cVm m d)] (.i .i64 (Z0 m i)) [.cells 0 true false (cVm m d)]
def kf(a b c d e g:Nat):IFn:=⟨[.tmp 4],.seq (.r [.q 3 (.box (.t 1)),.m 4 (.k 0)]) (.seq (.seq (.r [.f 6 0 3,.d 7 6,.l 8 a [.t 7]]) (.blk 0 (.seq (.r [.q 11 (.bin .eql (.t 8) (.c (.i .u8 1))),.n 10 11]) (.cond (.t 10) (.r [.n 12 0,.v 13 4 3,.l 14 b [.t 12,.t 13]]) (.seq (.r [.q 16 (.bin .eql (.t 8) (.c (.i .u8 2))),.n 15 16]) (.cond (.t 15) (.seq (.r [.n 17 0,.q 18 (.nilChk (.t 17)),.f 19 0 18,.d 20 19,.n 5 20]) (.seq (.seq (.r [.f 21 0 3,.d 22 21,.q 23 (.bin .eql (.t 22) (.c (.i .u16 3)))]) (.cond (.t 23) (.r [.n 24 0,.q 25 (.nilChk (.t 24)),.f 26 1 25,.d 27 26,.n 5 27]) (.skip))) (.r [.n 28 0,.f 29 3 3,.d 30 29,.l 31 c [.t 28,.t 30],.n 32 5,.q 33 (.nilChk (.t 31)),.u (.store 1 (.t 33) (.t 32))]))) (.seq (.r [.q 35 (.bin .eql (.t 8) (.c (.i .u8 3))),.n 34 35]) (.cond (.t 34) (.r [.n 36 0,.v 37 4 3,.l 38 d [.t 36,.t 37]]) (.seq (.r [.q 40 (.bin .eql (.t 8) (.c (.i .u8 4))),.n 39 40]) (.cond (.t 39) (.seq (.r [.n 41 0,.v 42 4 3,.l 43 e [.t 41,.t 42],.n 4 43]) (.ret)) (.seq (.r [.q 45 (.bin .eql (.t 8) (.c (.i .u8 5))),.n 44 45]) (.cond (.t 44) (.seq (.r [.n 46 0,.n 47 0,.f 48 3 3,.d 49 48,.q 50 (.nilChk (.t 46)),.f 51 27 50,.u (.store 1 (.t 51) (.t 49)),.q 52 (.nilChk (.t 47)),.f 53 28 52,.u (.store 1 (.t 53) .T)]) (.seq (.r [.f 54 0 3,.d 55 54,.q 56 (.bin .eql (.t 55) (.c (.i .u16 22)))]) (.cond (.t 56) (.r [.n 57 0,.n 58 0,.q 59 (.nilChk (.t 58)),.f 60 0 59,.d 61 60,.q 62 (.nilChk (.t 57)),.f 63 27 62,.u (.store 1 (.t 63) (.t 61))]) (.skip)))) (.seq (.r [.q 65 (.bin .eql (.t 8) (.c (.i .u8 6))),.n 64 65]) (.cond (.t 64) (.seq (.r [.f 66 0 3,.d 67 66,.q 68 (.bin .eql (.t 67) (.c (.i .u16 7)))]) (.cond (.t 68) (.r [.n 69 0,.n 70 0,.q 71 (.nilChk (.t 70)),.f 72 0 71,.d 73 72,.q 74 (.nilChk (.t 69)),.f 75 1 74,.u (.store 1 (.t 75) (.t 73))]) (.r [.n 76 0,.n 77 0,.q 78 (.nilChk (.t 77)),.f 79 1 78,.d 80 79,.q 81 (.nilChk (.t 76)),.f 82 0 81,.u (.store 1 (.t 82) (.t 80))]))) (.r [.l 9 g [.k 40]]))))))))))))))) (.seq (.r [.m 4 (.k 0)]) (.ret)))⟩
theorem qsn{g1 g2 g3 g4 g5 g6:Nat}(hc:qh P f (kf g1 g2 g3 g4 g5 g6)=true)(h1:cOf P g1)(h2:qmt P g2)(h3:qgX P g3)(h4:qpE P g4)(h5:qmr P g5)(m:Mac)(hm:MacOk m)(d:GData)(hd:DatOk d)(i:Ins)(hi:InsOk i)(hz:(doR m i d).2.2=0) :
  Upd P f [.ptr 0 0,.agg (qt i)] [.cells 0 true false (cVm m d)] (.i .i64 (doR m i d).2.1) [.cells 0 true false (cVm (doR m i d).1 d)]:=by
 refine Upd.mk hc (by simp[xo,bnd,qt]) (by simp) ?_;have hl:=yV (d:=d) hm.len;have g0:(cVm m d)[0]?=some (.i .u32 m.a):=rfl;have g1':(cVm m d)[1]?=some (.i .u32 m.x):=rfl;have s0:∀v:Int,AV.i .u32 v::List.drop 1 (cVm m d)=cVm { m with a:=v } d:=fun _=>rfl
 have s1:∀v:Int,List.take 1 (cVm m d)++(AV.i .u32 v::List.drop 2 (cVm m d))=cVm { m with x:=v } d:=fun _=>rfl
 have hof:=h1 i.code;unfold doR at hz ⊢;have hkn:¬zO i.code=false:=fun h=>by rw[if_pos h] at hz;cases hz
 rw[if_neg hkn] at hz ⊢
 obtain⟨x,hcm⟩:∃x,xr i.code=some x:=by
  unfold zO at hkn;cases h:xr i.code with
  | none=>rw[h] at hkn;exact absurd rfl hkn
  | some x=>exact⟨x,rfl⟩
 obtain⟨hxm,hxc⟩:=wA hcm;have hcl:qm i.code=x.2.2:=by unfold qm;rw[hcm];rfl
 obtain⟨t2,t5,t6,t1a,t1b⟩:=qlc x hxm;rw[← hcl,hxc] at t2 t5 t6;rw[← hcl] at t1a t1b;have hcase:qm i.code=1∨qm i.code=2∨qm i.code=3∨qm i.code=4∨qm i.code=5∨qm i.code=6:=by omega
 simp only[kf,qt,vI,simprocAttr];rcases hcase with c|c|c|c|c|c
 ·rw[if_pos (.inl c)] at hz ⊢;have hu:=h2 m hm d hd i hi c hz;simp only[qt] at hu;simp +decide only[↓vS,vT,simprocAttr];refine hof.sc ?_;simp +decide only[↓vS,vT,simprocAttr,c];refine hu.sc (vs:=[.ptr 0 0,.agg [.i .u16 i.code,.i .u8 i.jt,.i .u8 i.jf,.i .u32 i.k]]) [0] (Lent.of (by decide) ?_) ?_
  ·simp[vL,vw,ze qg,qB qg]
  simp only[vK,simprocAttr,qB qg];simp +decide only[↓vS,vT,simprocAttr];intro _;refine⟨[0],?_⟩;simp[vw,qc,qg]
 ·rw[if_pos (.inr (.inl c))] at hz ⊢;unfold kj QP at hz ⊢
  have hb:¬15<i.k:=by
   intro h;rcases t2 c with e|e<;>simp[e,h] at hz
  have k0:=hi.k0;obtain⟨n,hn⟩:∃n:Nat,i.k=(n:Int):=⟨i.k.toNat,by omega⟩
  have hk16:n<16:=by omega
  have sc:=fun v=>qg4 (m:=m) (d:=d) (k:=n) (by rw[hm.len];exact hk16) v
  have hle:2+n+1<=29:=by omega
  have hb':¬(15:Int)<(n:Int):=by omega
  rcases t2 c with e|e
  ·simp +decide only[↓vS,vT,simprocAttr];refine hof.sc ?_;simp +decide only[↓vS,vT,simprocAttr,c,e,hn,hl,g0,g1'];refine (h3 m d n hk16).sc (vs:=[.ptr 0 0,.i .u32 (n:Int)]) [0] (Lent.of (by decide) ?_) ?_
   ·simp[vL,vw,ze qg,qB qg]
   simp only[vK,simprocAttr,qB qg];simp +decide only[↓vS,vT,simprocAttr,hl,sc,hle];intro _;refine⟨[0],?_⟩;simp[vw,qc,qg,e,hn,hb']
  ·simp +decide only[↓vS,vT,simprocAttr];refine hof.sc ?_;simp +decide only[↓vS,vT,simprocAttr,c,e,hn,hl,g0,g1'];refine (h3 m d n hk16).sc (vs:=[.ptr 0 0,.i .u32 (n:Int)]) [0] (Lent.of (by decide) ?_) ?_
   ·simp[vL,vw,ze qg,qB qg]
   simp only[vK,simprocAttr,qB qg];simp +decide only[↓vS,vT,simprocAttr,hl,sc,hle];intro _;refine⟨[0],?_⟩;simp[vw,qc,qg,e,hn,hb']
 ·rw[if_neg (by omega),if_pos c] at hz ⊢;have hu:=h4 m hm d i hi c hz;simp only[qt] at hu;simp +decide only[↓vS,vT,simprocAttr];refine hof.sc ?_;simp +decide only[↓vS,vT,simprocAttr,c];refine hu.sc (vs:=[.ptr 0 0,.agg [.i .u16 i.code,.i .u8 i.jt,.i .u8 i.jf,.i .u32 i.k]]) [0] (Lent.of (by decide) ?_) ?_
  ·simp[vL,vw,ze qg,qB qg]
  simp only[vK,simprocAttr,qB qg];simp +decide only[↓vS,vT,simprocAttr];intro _;refine⟨[0],?_⟩;simp[vw,qc,qg]
 ·rw[if_neg (by omega),if_neg (by omega),if_pos c];have hu:=h5 m d hm.len i hi c;simp only[qt] at hu;simp +decide only[↓vS,vT,simprocAttr];refine hof.sc ?_;simp +decide only[↓vS,vT,simprocAttr,c];refine hu.sc (vs:=[.ptr 0 0,.agg [.i .u16 i.code,.i .u8 i.jt,.i .u8 i.jf,.i .u32 i.k]]) [0] (Lent.of (by decide) ?_) ?_
  ·simp[vL,vw,ze qg,qB qg]
  simp only[vK,simprocAttr,qB qg];simp +decide only[↓vS,vT,simprocAttr];intro _;refine⟨[0],?_⟩;simp[vw,qc,qg]
 ·rw[if_neg (by omega),if_neg (by omega),if_neg (by omega)];have tt:=fun v=>qcV (d:=d) hm.len v
  obtain⟨m1,hm1⟩:∃m1,m1={ m with told:=i.k }:=⟨_,rfl⟩;have tk:=tt i.k;rw[← hm1] at tk;have hl1:(cVm m1 d).length=29:=yV (by rw[hm1];exact hm.len);have to:List.take 28 (cVm m1 d)++(AV.b true::List.drop 29 (cVm m1 d))=cVm { m1 with over:=true } d:=qcU (by rw[hm1];exact hm.len) true;obtain⟨m2,hm2⟩:∃m2,m2={ m1 with over:=true }:=⟨_,rfl⟩;rw[← hm2] at to;have hl2:(cVm m2 d).length=29:=yV (by rw[hm2,hm1];exact hm.len);have g02:(cVm m2 d)[0]?=some (.i .u32 m.a):=by rw[hm2,hm1];rfl
  have t3:List.take 27 (cVm m2 d)++(AV.i .u32 m.a::List.drop 28 (cVm m2 d))=cVm { m2 with told:=m.a } d:=qcV (by rw[hm2,hm1];exact hm.len) m.a;rcases t5 c with e|e
  ·simp +decide only[↓vS,vT,simprocAttr];refine hof.sc ?_;simp +decide only[↓vS,vT,simprocAttr,c,e,hl,tk,hl1,to];intro _;refine⟨[0],?_⟩;simp[vw,qc,qg,qiZ,e,hm2,hm1]
  ·simp +decide only[↓vS,vT,simprocAttr];refine hof.sc ?_;simp +decide only[↓vS,vT,simprocAttr,c,e,hl,tk,hl1,to,hl2,g02,t3];intro _;refine⟨[0],?_⟩;simp[vw,qc,qg,qiZ,e,hm2,hm1]
 ·rw[if_pos (.inr (.inr c))] at hz ⊢;unfold kj QP at hz ⊢;rcases t6 c with e|e
  ·simp +decide only[↓vS,vT,simprocAttr];refine hof.sc ?_;simp +decide only[↓vS,vT,simprocAttr,c,e,hl,g0,s1];intro _;refine⟨[0],?_⟩;simp[vw,qc,qg,e]
  ·simp +decide only[↓vS,vT,simprocAttr];refine hof.sc ?_;simp +decide only[↓vS,vT,simprocAttr,c,e,hl,g1',s0];intro _;refine⟨[0],?_⟩;simp[vw,qc,qg,e]
end Go.Kc
end
section
namespace Go.Kc
variable [Cur]
theorem qar{n:Nat}:∀{L:List Ins} {j:Nat},Qk n j L=none->∀(k:Nat) (i:Ins),L[k]?=some i->yJ i (n-1-(j+k))=0
 | [],_,_,_,_,h=>by cases h
 | a::L,j,hb,k,i,h=>by
  rw[QH] at hb
  by_cases h0:yJ a (n-1-j)=0
  ·rw[if_pos h0] at hb;cases k with
   | zero=>cases h;exact h0
   | succ k =>
    have:=qar hb k i (by simpa using h);rw[show j+(k+1)=j+1+k from by omega];exact this
  ·rw[if_neg h0] at hb;cases hb
theorem qas{n:Nat}:∀{L:List Ins} {j:Nat} {x:Nat×Int},Qk n j L=some x->x.2≠0
 | [],_,_,h=>by cases h
 | a::L,j,x,h=>by
  rw[QH] at h
  by_cases h0:yJ a (n-1-j)=0
  ·rw[if_pos h0] at h;exact qas h
  ·rw[if_neg h0] at h;cases h;exact h0
theorem qmd{p:List Ins}{u:List Nat}(h:(atU p u).2=0):p.length≠0∧p.length<=4096∧(∀(k:Nat) (i:Ins),p[k]?=some i->yJ i (p.length-1-k)=0)∧qm (QD p)=5∧u=[]:=by
 unfold atU at h
 by_cases hb:p.length=0∨4096<p.length
 ·rw[if_pos hb] at h;cases h
 rw[if_neg hb] at h;cases hba:Qk p.length 0 p with
 | some x =>
  rw[hba] at h;exact absurd h (qas hba)
 | none =>
  rw[hba] at h;have h:(if qm (QD p)=5 then (match u with | []=>((0,0):Nat×Int)|a::_=>(a,61)) else (p.length-1,46)).2=0:=h
  by_cases h5:qm (QD p)=5
  ·rw[if_pos h5] at h;refine⟨by omega,by omega,fun k i hk=>?_,h5,?_⟩
   ·have:=qar hba k i hk;rwa [Nat.zero_add] at this
   ·cases u with
    | nil=>rfl
    | cons a u=>cases h
  ·rw[if_neg h5] at h;cases h
theorem qe4{i:Ins}{n:Nat}(h:yJ i n=0):qb6 i=false∧qcH i=false∧qcI i=false∧qcJ i=false∧qcK i=false∧qcL i n=false:=by
 unfold yJ at h;revert h;cases qb6 i<;>cases qcH i<;>cases qcI i<;>cases qcJ i<;>cases qcK i<;>cases qcL i n<;>simp
theorem qfM{m:Mac}{i:Ins}(hi:InsOk i){d:GData}{n:Nat}(h:yJ i n=0):(doR m i d).2.2=0:=by
 obtain⟨b1,b2,b3,b4,b5,_⟩:=qe4 h;have hkn:¬zO i.code=false:=by unfold qb6 at b1;simpa using b1
 unfold doR;rw[if_neg hkn]
 by_cases hA:qm i.code=1∨qm i.code=2∨qm i.code=6
 ·rw[if_pos hA];show (kj m i d).2=0;unfold kj
  have hc:¬(QP i=true∧15<i.k):=by
   rintro⟨h1,h2⟩;unfold QP at h1;have h16:16<=i.k:=by omega
   unfold qcI at b3;have h2c:=qmA (c:=i.code);simp only[Bool.or_eq_true,decide_eq_true_eq] at h1
   have:(decide (i.code=96)||decide (i.code=97)||decide (qm i.code=2))=true:=by
    simp only[Bool.or_eq_true,decide_eq_true_eq];rw[h2c];rcases h1 with ((h1|h1)|h1)|h1
    ·exact .inl (.inl h1)
    ·exact .inl (.inr h1)
    ·exact .inr (.inl h1)
    ·exact .inr (.inr h1)
   rw[this,Bool.true_and] at b3;simp[h16] at b3
  rw[if_neg hc]
  by_cases c32:i.code=32
  ·rw[if_pos c32]
   have:¬(i.k % 4≠0∨64<=i.k):=by
    intro h';unfold qcH at b2;rw[c32] at b2;rcases h' with h'|h'<;>simp[h'] at b2
   rw[if_neg this]
  rw[if_neg c32]
  repeat' (first|rfl|(split))
 rw[if_neg hA]
 by_cases c3:qm i.code=3
 ·rw[if_pos c3];show (nuM m i).2=0
  have hmem:c3L.contains i.code=true:=by
   have c3':=c3;unfold qm at c3';cases hcm:xr i.code with
   | none=>rw[hcm] at c3';cases c3'
   | some x =>
    rw[hcm] at c3';obtain⟨q1,q2⟩:=wA hcm;rw[← q2];exact qiY x q1 c3'
  obtain⟨e52,e100,e116,eX⟩:=qeB i.code hmem;unfold nuM
  by_cases b52:qE i.code=52
  ·rw[if_pos b52]
   by_cases hy:0<w7 m i
   ·rw[if_pos hy]
   ·rw[if_neg hy]
    by_cases hX:xy i.code=true
    ·rw[if_pos hX]
    ·exfalso
     have hc:i.code=52:=by
      rcases e52.1 b52 with h'|h'
      ·exact h'
      ·exact absurd (eX.2 (by rw[h'];decide)) hX
     unfold qcJ at b4;unfold w7 at hy;rw[if_neg hX] at hy;have:i.k=0:=by have:=hi.k0;omega
     simp[hc,this] at b4
  ·rw[if_neg b52]
   by_cases bs:qE i.code=100∨qE i.code=116
   ·rw[if_pos bs]
    by_cases hq:xy i.code=false∧31<w7 m i
    ·exfalso
     obtain⟨hX,h31⟩:=hq
     have hc:i.code=100∨i.code=116:=by
      rcases bs with bs|bs
      ·rcases e100.1 bs with h'|h'
       ·exact .inl h'
       ·have:xy i.code=true:=eX.2 (by rw[h'];decide);rw[hX] at this;cases this
      ·rcases e116.1 bs with h'|h'
       ·exact .inr h'
       ·have:xy i.code=true:=eX.2 (by rw[h'];decide);rw[hX] at this;cases this
     unfold w7 at h31;rw[hX,if_neg (by simp)] at h31;unfold qcK at b5;rcases hc with hc|hc<;>simp[hc] at b5<;>omega
    ·rw[if_neg hq]
   ·rw[if_neg bs]
 rw[if_neg c3]
 by_cases c4:qm i.code=4
 ·rw[if_pos c4]
 ·rw[if_neg c4]
theorem qmH{p:List Ins}(hok:∀i ∈ p,InsOk i)(hall:∀(k:Nat) (i:Ins),p[k]?=some i->yJ i (p.length-1-k)=0)(hlast:qm (QD p)=5){k:Nat}{i:Ins}(h:p[k]?=some i)(m:Mac)(d:GData) :
  (doR m i d).1.over=true∨k+1+(doR m i d).2.1.toNat<p.length:=by
 have hk:k<p.length:=(zzS.1 h).1;have hi:=hok i (zzM h);obtain⟨b1,_,_,_,_,b6⟩:=qe4 (hall k i h);have hkn:¬zO i.code=false:=by unfold qb6 at b1;simpa using b1
 have notlast:qm i.code≠5->k+1<p.length:=by
  intro hc
  by_cases e:k=p.length-1
  ·exfalso
   apply hc;have:QD p=i.code:=by unfold QD;rw[List.getD_eq_getElem?_getD,← e,h];rfl
   rw[← this];exact hlast
  ·omega
 unfold doR;rw[if_neg hkn]
 by_cases hA:qm i.code=1∨qm i.code=2∨qm i.code=6
 ·rw[if_pos hA];right;have:=notlast (by omega);show k+1+(0:Int).toNat<p.length;simpa using this
 rw[if_neg hA]
 by_cases c3:qm i.code=3
 ·rw[if_pos c3];right;have:=notlast (by omega);show k+1+(0:Int).toNat<p.length;simpa using this
 rw[if_neg c3]
 by_cases c4:qm i.code=4
 ·rw[if_pos c4];right;show k+1+(Z0 m i).toNat<p.length;unfold qcL at b6;unfold Z0
  by_cases c5:i.code=5
  ·rw[if_pos c5] at b6 ⊢;have hk0:=hi.k0;have:¬((p.length-1-k:Nat):Int)<=i.k:=by simpa using b6
   omega
  ·rw[if_neg c5] at b6 ⊢;rw[c4] at b6;have hh:¬((p.length-1-k:Nat):Int)<=hiM i:=by simpa using b6
   have h1:=hi.t0;have h2:=hi.f0;unfold hiM at hh;split at hh<;>split<;>omega
 rw[if_neg c4];left;rfl
end Go.Kc
end
section
namespace Go.Kc
variable [Cur]
variable {P:Program} {f:Nat}
def qq4(P:Program)(g:Nat):Prop:=∀(m:Mac),MacOk m->∀d:GData,DatOk d->∀i:Ins,InsOk i->(doR m i d).2.2=0->Upd P g [.ptr 0 0,.agg (qt i)] [.cells 0 true false (cVm m d)] (.i .i64 (doR m i d).2.1) [.cells 0 true false (cVm (doR m i d).1 d)]
structure PrgGood (p:List Ins):Prop where
 len:p.length<=4096
 ne:p.length≠0
 ins:∀i ∈ p,InsOk i
 one:∀(k:Nat) (i:Ins),p[k]?=some i->yJ i (p.length-1-k)=0
 last:qm (QD p)=5
def Qg(p:List Ins)(d:GData):Int×Nat×List Nat×Int:=runR p d (p.length+1) qh6 0 46 []
theorem qi2:u32 0:=⟨by decide,by decide⟩
theorem qbY{p:List Ins}(hok:∀i ∈ p,InsOk i){d:GData}(hd:DatOk d):∀(n:Nat) (m:Mac) (a:Nat) (bh:Int) (l:List Nat),MacOk m->u32 (runR p d n m a bh l).1
 | 0,_,_,_,_,_=>qi2
 | n+1,m,a,bh,l,hm=>by
  rw[qbX];cases hp:p[a]? with
  | none=>exact qi2
  | some i =>
   simp only;have h2:=(qhl hm (hok i (zzM hp)) hd).1;split
   ·exact qi2
   ·split
    ·exact h2.told
    ·exact qbY hok hd n _ _ _ _ h2
theorem qbW{p:List Ins}(hok:∀i ∈ p,InsOk i){d:GData}(hd:DatOk d):u32 (Qg p d).1:=qbY hok hd _ _ _ _ _ qeY
theorem Own.mkD{f fd:Nat}{i:IFn}{vs:List AV}{v:AV}{bs:List Blk}(hc:wJ P f fd i=true)(hcl:qx vs=true)(hV:VDf P 0 fd i.body (jd i.res (qgx v bs)) (xz vs 0 .leaf) H0):Own P f vs v bs:=Own.of_SC hcl (SC.mkD hc hV)
theorem qg3{m:Mac}{d:GData}(h:m.cl.length=16):(cVm m d)[28]?=some (.b m.over):=by
 show (rI .u32 m.cl++(qP d++[AV.i .u32 m.told,AV.b m.over]))[26]?=_;rw[List.getElem?_append_right (by rw[xf,h];decide),xf,h];rfl
theorem qg5{m:Mac}{d:GData}(h:m.cl.length=16):(cVm m d)[27]?=some (.i .u32 m.told):=by
 show (rI .u32 m.cl++(qP d++[AV.i .u32 m.told,AV.b m.over]))[25]?=_;rw[List.getElem?_append_right (by rw[xf,h];decide),xf,h];rfl
def qbH(a b c d:Nat):IFn:=⟨[.cell 4 1 false,.tmp 5,.tmp 6,.cell 7 1 false],.seq (.r [.q 3 (.box (.t 1)),.q 4 (.alloc [.i .u32 0]),.m 5 (.k 0),.m 6 .N,.q 7 (.alloc [.i .i64 0])]) (.seq (.r [.v 11 9 3,.q 12 (.build [.i .u32 0,.i .u32 0,.i .u32 0,.i .u32 0,.i .u32 0,.i .u32 0,.i .u32 0,.i .u32 0,.i .u32 0,.i .u32 0,.i .u32 0,.i .u32 0,.i .u32 0,.i .u32 0,.i .u32 0,.i .u32 0,.i .u32 0,.i .u32 0,.i .u32 0,.i .u32 0,.i .u64 0,.i .u64 0,.i .u64 0,.i .u64 0,.i .u64 0,.i .u64 0,.i .u64 0,.i .u32 0,.b false] [(18,9,(.t 11))]),.q 13 (.box (.t 12)),.n 8 13]) (.seq (.r [.q 14 (.mkF a [] [.t 4,.t 7]),.u (.no)]) (.seq (.r [.m 9 (.k 46)]) (.seq (.seq (.r [.m 10 (.k 0)]) (.blk 0 (.loop (.seq (.seq (.r [.n 15 8,.q 16 (.nilChk (.t 15)),.f 17 28 16,.d 18 17,.q 19 (.un .not (.t 18))]) (.cond (.t 19) (.skip) (.exit 0))) (.seq (.blk 1 (.seq (.seq (.r [.n 22 10,.n 23 0,.e 24 23,.b 25 .geq 22 24]) (.cond (.t 25) (.r [.n 26 9,.l 27 b [.t 26]]) (.skip))) (.seq (.r [.n 28 6,.n 29 10,.q 30 (.buildS 1 [.i .i64 0] [(0,1,(.t 29))]),.q 31 (.app 1 8 true (.t 28) (.t 30)),.n 6 31]) (.seq (.r [.m 9 (.k 46)]) (.seq (.seq (.r [.n 32 0,.n 33 10,.i 34 4 32 33,.f 35 0 34,.d 36 35,.l 37 c [.t 36],.q 38 (.bin .eql (.t 37) (.c (.i .u8 4)))]) (.cond (.t 38) (.r [.m 9 (.k 42)]) (.skip))) (.r [.n 39 10,.n 40 8,.n 41 0,.n 42 10,.i 43 4 41 42,.v 44 4 43,.l 45 d [.t 40,.t 44],.q 46 (.bin .add (.k 1) (.t 45)),.b 47 .add 39 46,.n 10 47])))))) (.r [.n 20 5,.a 21 20 1,.n 5 21])))))) (.seq (.r [.n 48 8,.q 49 (.nilChk (.t 48)),.f 50 27 49,.d 51 50,.n 52 5,.n 53 6,.u (.store 1 (.t 4) (.t 51)),.n 5 52,.n 6 53,.u (.store 1 (.t 7) (.k 0))]) (.ret))))))⟩
theorem qpd{fd g1 g2 g3:Nat}(hc:wJ P f fd (qbH fd g1 g2 g3)=true)(h2:cOf P g2)(h3:qq4 P g3)(p:List Ins)(hp:PrgGood p)(d:GData)(hd:DatOk d) :
  ∃n:Int,Own P f [.fz p.length (rP p),.agg (qP d)] (.tup [.i .u32 (Qg p d).1,.i .i64 n,.own 0 (Qg p d).2.2.1.length,.i .i64 0]) [.cells 1 true true (rNt (Qg p d).2.2.1)]:=by
 obtain⟨R,hR⟩:∃R,R=Qg p d:=⟨_,rfl⟩;rw[← hR];refine⟨(R.2.2.1.length:Int),Own.mkD hc (by simp[qx,clo,qn,zY]) ?_⟩;have hpl:=hp.len;have hne:=hp.ne;have e0:List.take 18 ([.i .u32 0,.i .u32 0,.i .u32 0,.i .u32 0,.i .u32 0,.i .u32 0,.i .u32 0,.i .u32 0,.i .u32 0,.i .u32 0,.i .u32 0,.i .u32 0,.i .u32 0,.i .u32 0,.i .u32 0,.i .u32 0,.i .u32 0,.i .u32 0,.i .u32 0,.i .u32 0,.i .u64 0,.i .u64 0,.i .u64 0,.i .u64 0,.i .u64 0,.i .u64 0,.i .u64 0,.i .u32 0,.b false]:List AV)++(qP d++List.drop 27 [.i .u32 0,.i .u32 0,.i .u32 0,.i .u32 0,.i .u32 0,.i .u32 0,.i .u32 0,.i .u32 0,.i .u32 0,.i .u32 0,.i .u32 0,.i .u32 0,.i .u32 0,.i .u32 0,.i .u32 0,.i .u32 0,.i .u32 0,.i .u32 0,.i .u32 0,.i .u32 0,.i .u64 0,.i .u64 0,.i .u64 0,.i .u64 0,.i .u64 0,.i .u64 0,.i .u64 0,.i .u32 0,.b false])=cVm qh6 d:=rfl;have cd9:List.take 9 (qP d)=qP d:=rfl;have l9:(qP d).length=9:=rfl;simp only[qbH,VDf,vI,simprocAttr];simp +decide only[↓vS,vT,simprocAttr,QK,qay,l9,cd9,e0];refine⟨⟨14,[.ptr 1 0,.ptr 2 0],rfl,by simp[Tr.get_set]⟩,?_⟩
 simp +decide only[↓vS,vT,simprocAttr]
 refine SL.loop (α:=Nat×Mac×Nat×Int×List Nat) (fun s=>[(0,.fz p.length (rP p)),(4,.ptr 0 0),(5,.i .i64 (s.2.2.2.2.length:Int)),(6,.own 3 s.2.2.2.2.length),(7,.ptr 1 0),(8,.ptr 2 0),(9,.i .i64 s.2.2.2.1),(10,.i .i64 (s.2.2.1:Int))])
  (fun s=>[.cells 0 true false [.i .u32 0],.cells 0 true false [.i .i64 0],.cells 0 true false (cVm s.2.1 d),.cells 1 true true (rNt s.2.2.2.2)])
  (fun s=>MacOk s.2.1∧s.2.2.1<=5000000000∧((s.2.1.over=false∧s.2.2.1<p.length∧p.length+1<=s.1+s.2.2.1∧s.2.2.2.2.length<=s.2.2.1∧runR p d s.1 s.2.1 s.2.2.1 s.2.2.2.1 s.2.2.2.2=R)∨(s.2.1.over=true∧s.2.2.2.2.length<=5000∧R=(s.2.1.told,s.2.2.2.2.length,s.2.2.2.2,0)))) (fun s=>s.1) (p.length+1,qh6,0,46,[]) [1,2,3,99] ?_ ?_ ?_ rfl ?_ ?_
 ·simp[vw,qn]
 ·simp[vw,qc,qg];exact NVs.refl (vs:=cVm qh6 d) qg
 ·simp
 ·exact⟨qeY,Nat.zero_le _,.inl ⟨rfl,by show 0<p.length;omega,Nat.le_refl _,Nat.zero_le _,by rw[hR];rfl⟩⟩
 rintro⟨n,m,a,bh,l⟩ ⟨hm,ha,hI⟩ G ih;simp only at hm ha hI;have hl29:=yV (d:=d) hm.len;have go:(cVm m d)[28]?=some (.b m.over):=qg3 hm.len;have gt:(cVm m d)[27]?=some (.i .u32 m.told):=qg5 hm.len;simp only[vI,simprocAttr];rcases hI with⟨hov,hlt,hna,hla,hI⟩|⟨hov,hla,hI⟩
 ·obtain⟨n,rfl⟩:∃n',n=n'+1:=⟨n-1,by omega⟩
  rw[qbX] at hI;obtain⟨i,hpi⟩:∃i,p[a]?=some i:=⟨_,zzE hlt⟩;have hii:=hp.ins i (zzM hpi);rw[hpi] at hI;simp only at hI;have hz:=qfM (m:=m) (d:=d) hii (hp.one a i hpi);rw[if_neg (by simpa using hz)] at hI;have hin:=qmH hp.ins hp.one hp.last hpi m d;have hel:=zP (f:=qt) (m:=4) jP hpi;rw[show p.flatMap qt=rP p from rfl] at hel
  have h4:a*4+4<=(rP p).length:=by rw[ZO];omega
  have g0:=qaJ (f:=qt) (m:=4) jP hpi (i:=0) (by omega);rw[show p.flatMap qt=rP p from rfl] at g0
  simp only[qt,Nat.add_zero,List.getElem?_cons_zero] at g0;have hge:¬(p.length:Int)<=(a:Int):=by omega
  obtain⟨hm2,hk0,hk1⟩:=qhl hm hii hd;have hdo:=h3 m hm d hd i hii hz;have hgc:=h2 i.code;generalize doR m i d=r at hI hin hm2 hk0 hk1 hdo;obtain⟨m2,k,e⟩:=r;simp only at hI hin hm2 hk0 hk1 hdo;have hr1:l.length+1<=qe:=by simp only[qe];omega
  have hr2:(l.length+1)*8<=qe:=by simp only[qe];omega
  have hap:rNt l++[.i .i64 (a:Int)]=rNt (l++[a]):=by rw[← qfc];rfl
  have hll:(rNt l).length=l.length:=qcr;have hla1:(l++[a]).length=l.length+1:=by simp
  have w1:IntKind.wrap .i64 (1+k)=1+k:=qv (by omega) (by omega);have w2:IntKind.wrap .i64 ((a:Int)+(1+k))=((a+1+k.toNat:Nat):Int):=by rw[qv (by omega) (by omega)];omega
  have w3:IntKind.wrap .i64 ((l.length:Int)+1)=((l.length+1:Nat):Int):=by rw[qv (by omega) (by omega)];omega
  have fin:∀b2:Int,(m2.over=false->runR p d n m2 (a+1+k.toNat) b2 (l++[a])=R)->MacOk m2∧a+1+k.toNat<=5000000000∧((m2.over=false∧a+1+k.toNat<p.length∧p.length+1<=n+(a+1+k.toNat)∧(l++[a]).length<=a+1+k.toNat∧runR p d n m2 (a+1+k.toNat) b2 (l++[a])=R)∨(m2.over=true∧(l++[a]).length<=5000∧R=(m2.told,(l++[a]).length,l++[a],0))):=by
   intro b2 hb2;refine⟨hm2,by omega,?_⟩
   cases ho:m2.over with
   | false =>
    rw[ho] at hin;have hin:=hin.resolve_left (by simp);exact .inl ⟨rfl,hin,by omega,by rw[hla1];omega,hb2 ho⟩
   | true =>
    rw[ho,if_pos rfl] at hI;exact .inr ⟨rfl,by rw[hla1];omega,by rw[← hI,hla1]⟩
  rw[hov] at go;simp only[qt] at hdo hel;simp +decide only[↓vS,vT,simprocAttr,go,hge,hlt,hr1,hr2,hll,hap,Nat.mul_one,g0];refine hgc.sc ?_
  by_cases c4:qm i.code=4
  ·rw[if_pos c4] at hI;have fin2:=fin 42 (fun ho=>by rw[ho] at hI;simpa using hI)
   simp +decide only[↓vS,vT,simprocAttr,c4,hlt,hel,h4];refine hdo.sc (vs:=[.ptr 0 0,.agg [.i .u16 i.code,.i .u8 i.jt,.i .u8 i.jf,.i .u32 i.k]]) [2] (Lent.of (by decide) ?_) ?_
   ·simp[vL,vw,ze qg,qB qg]
   simp only[vK,simprocAttr,qB qg];simp +decide only[↓vS,vT,simprocAttr,w1,w2,w3];refine ih (n,m2,a+1+k.toNat,42,l++[a]) fin2 (by simp only;omega) _ _ (Wk.mk _ _ [0,1,2,5] ?_ ?_ ?_ rfl)
   ·simp[vw,qn]
   ·simp[vw,qc,qH,qg]
   ·simp
  ·rw[if_neg c4] at hI;have fin2:=fin 46 (fun ho=>by rw[ho] at hI;simpa using hI)
   simp +decide only[↓vS,vT,simprocAttr,c4,hlt,hel,h4];refine hdo.sc (vs:=[.ptr 0 0,.agg [.i .u16 i.code,.i .u8 i.jt,.i .u8 i.jf,.i .u32 i.k]]) [2] (Lent.of (by decide) ?_) ?_
   ·simp[vL,vw,ze qg,qB qg]
   simp only[vK,simprocAttr,qB qg];simp +decide only[↓vS,vT,simprocAttr,w1,w2,w3];refine ih (n,m2,a+1+k.toNat,46,l++[a]) fin2 (by simp only;omega) _ _ (Wk.mk _ _ [0,1,2,5] ?_ ?_ ?_ rfl)
   ·simp[vw,qn]
   ·simp[vw,qc,qH,qg]
   ·simp
 ·rw[hov] at go;rw[hI];simp +decide only[↓vS,vT,simprocAttr,go,gt];intro _;refine⟨[3],?_⟩;simp[vw,qc,qH]
def qbG(a:Nat):IFn:=⟨[.tmp 4,.tmp 5,.tmp 6],.seq (.r [.q 3 (.box (.t 1)),.m 4 (.c (.i .u32 0)),.m 5 (.k 0),.m 6 (.k 0)]) (.seq (.r [.n 8 0,.v 9 9 3,.l 10 a [.t 8,.t 9],.n 7 10,.x 11 7 0,.x 12 7 1,.x 13 7 2,.x 14 7 3,.n 4 11,.n 5 12,.n 6 14]) (.seq (.r [.n 15 4,.n 16 5,.n 17 6,.n 4 15,.n 5 16,.n 6 17]) (.ret)))⟩
theorem qsk{g:Nat}(hc:qh P f (qbG g)=true)(hg:∀p,PrgGood p->∀d,DatOk d->∃n:Int,Own P g [.fz p.length (rP p),.agg (qP d)] (.tup [.i .u32 (Qg p d).1,.i .i64 n,.own 0 (Qg p d).2.2.1.length,.i .i64 0]) [.cells 1 true true (rNt (Qg p d).2.2.1)])(p:List Ins)(hp:PrgGood p)(d:GData)(hd:DatOk d) :
  ∃n:Int,qb P f [.fz p.length (rP p),.agg (qP d)] (.tup [.i .u32 (Qg p d).1,.i .i64 n,.i .i64 0]):=by
 obtain⟨n,hn⟩:=hg p hp d hd;refine⟨n,qb.mk hc (by simp[qx,clo,qn,zY]) ?_⟩;simp only[qbG,vI,simprocAttr];simp +decide only[↓vS,vT,simprocAttr,QK,qay];refine hn.sc ?_;simp only[vJ,simprocAttr,jZ qH];simp +decide only[↓vS,vT,simprocAttr];simp[vZ]
theorem qrk(x:BitVec 32):x &&& ~~~ 65535#32=(x >>> 16) <<< 16:=by
 apply BitVec.eq_of_getLsbD_eq;intro i hi;have h:∀i,i<32->(65535#32).getLsbD i=decide (i<16):=by decide
 rw[BitVec.getLsbD_and,BitVec.getLsbD_not,h i hi,BitVec.getLsbD_shiftLeft,BitVec.getLsbD_ushiftRight]
 by_cases h16:i<16
 ·simp[h16]
 ·have:16+(i-16)=i:=by omega
  simp[h16,hi,this]
theorem qe5{a:Int}(h0:0<=a)(h1:a<=4294967295):qbs .u32 a 65535=a / 65536*65536:=by
 obtain⟨n,rfl⟩:∃n:Nat,a=n:=⟨a.toNat,by omega⟩
 have e:(BitVec.ofInt 32 (n:Int))=BitVec.ofNat 32 n:=by simp
 unfold qbs;show IntKind.wrap .u32 (((BitVec.ofInt 32 (n:Int)) &&& ~~~ (65535#32)).toNat:Int)=_;rw[e,qrk];have hn:n<2 ^ 32:=by omega
 have:((BitVec.ofNat 32 n >>> 16) <<< 16).toNat=n / 65536*65536:=by
  rw[BitVec.toNat_shiftLeft,BitVec.toNat_ushiftRight,BitVec.toNat_ofNat,Nat.mod_eq_of_lt hn,Nat.shiftLeft_eq,Nat.shiftRight_eq_div_pow];omega
 rw[this];show ((n / 65536*65536:Nat):Int) % 4294967296=_;omega
def qdK(x:Int):Int:=if 32768<=x / 65536 then x / 65536-65536 else x / 65536
def QE(a b:Int):Bool:=decide (qdK a<qdK b)
def kT:List Int->Int
 | []=>2147418112
 | x::l=>if QE x (kT l)=true then x else kT l
theorem qbz{x:Int}{l:List Int}:kT (x::l)=if QE x (kT l)=true then x else kT l:=rfl
theorem qc2:∀{l:List Int},(∀x ∈ l,u32 x)->u32 (kT l)
 | [],_=>⟨by decide,by decide⟩
 | x::l,h=>by
  rw[qbz];split
  ·exact h x (by simp)
  ·exact qc2 fun y hy=>h y (by simp[hy])
theorem qb2{a:Int}(h0:0<=a)(h1:a<=4294967295):IntKind.wrap .i32 (a / 65536*65536)=qdK a*65536:=by
 unfold qdK;simp only[IntKind.wrap,IntKind.bits,IntKind.signed,Bool.true_and,decide_eq_true_eq,show (2:Int) ^ 32=4294967296 from rfl,show (2:Int) ^ (32-1)=2147483648 from rfl]
 by_cases hh:32768<=a / 65536
 ·rw[if_pos hh,if_pos (by omega)];omega
 ·rw[if_neg hh,if_neg (by omega)];omega
def ym(a:Nat):IFn:=⟨[.tmp 4],.seq (.r [.m 4 .F]) (.seq (.r [.n 5 0,.l 6 a [.t 5],.q 7 (.cvInt .i32 (.t 6)),.n 8 1,.l 9 a [.t 8],.q 10 (.cvInt .i32 (.t 9)),.s 11 7 10,.n 4 11]) (.ret))⟩
theorem qqP{g:Nat}(hc:qh P f (ym g)=true)(hg:∀n,qb P g [.i .u32 n] (.i .u32 (qbs .u32 n 65535)))(a b:Int)(ha:u32 a)(hb:u32 b):qb P f [.i .u32 a,.i .u32 b] (.b (QE a b)):=by
 refine qb.mk hc rfl ?_;have w1:=qb2 ha.1 ha.2;have w2:=qb2 hb.1 hb.2;rw[← qe5 ha.1 ha.2] at w1;rw[← qe5 hb.1 hb.2] at w2;have hlt:(qdK a*65536<qdK b*65536)=(qdK a<qdK b):=propext ⟨fun h=>by omega,fun h=>by omega⟩
 unfold QE;simp only[ym,vI,simprocAttr];simp +decide only[↓vS,vT,simprocAttr];refine (hg a).sc ?_;simp +decide only[↓vS,vT,simprocAttr];refine (hg b).sc ?_;simp +decide only[↓vS,vT,simprocAttr,w1,w2,hlt];simp[vZ]
def qpC(P:Program)(g:Nat):Prop:=∀a b:Int,u32 a->u32 b->qb P g [.i .u32 a,.i .u32 b] (.b (QE a b))
def kJ(a:Nat):IFn:=⟨[.tmp 2],.seq (.r [.m 2 (.c (.i .u32 0))]) (.seq (.r [.n 6 0,.q 7 (.iAddrS 1 (.t 6) (.k 0)),.d 8 7,.n 3 8]) (.seq (.seq (.r [.n 9 0,.q 10 (.slcS 1 (.t 9) (some (.k 1)) none none),.e 11 10,.m 12 (.k 0)]) (.blk 0 (.loop (.seq (.r [.s 13 12 11]) (.seq (.cond (.t 13) (.skip) (.exit 0)) (.seq (.blk 1 (.seq (.r [.i 14 1 10 12,.d 15 14,.n 5 15]) (.seq (.r [.n 16 5,.n 17 3,.l 18 a [.t 16,.t 17]]) (.cond (.t 18) (.r [.n 19 5,.n 3 19]) (.skip))))) (.r [.a 20 12 1,.n 12 20]))))))) (.seq (.r [.n 21 3,.n 2 21]) (.ret))))⟩
theorem qpv{g:Nat}(hc:qh P f (kJ g)=true)(hg:qpC P g)(a b:Int)(ha:u32 a)(hb:u32 b):qb P f [.fz 2 (rI .u32 [a,b])] (.i .u32 (if QE b a=true then b else a)):=by
 refine qb.mk hc (by simp[qx,clo,zk]) ?_;have hl:=hg b a hb ha;have e0:(rI .u32 [a,b])[0]?=some (.i .u32 a):=rfl;have e1:(rI .u32 [b])[0]?=some (.i .u32 b):=rfl;simp only[kJ,vI,simprocAttr];simp +decide only[↓vS,vT,simprocAttr,e0,qoh,qfb];refine SL.loop (α:=Nat) (fun j=>[(3,.i .u32 (if j=0 then a else if QE b a=true then b else a)),(10,.fz 1 [.i .u32 b]),(11,.i .i64 1),(12,.i .i64 (j:Int))]) (fun _=>[]) (fun j=>j<=1) (fun j=>1-j) 0 [] ?_ ?_ ?_ rfl ?_ ?_
 ·simp[vw]
 ·trivial
 ·simp
 ·exact Nat.zero_le _
 rintro j hj G ih;simp only[vI,simprocAttr]
 by_cases h0:j=0
 ·subst h0;have ih2:=ih 1 (by decide) (by decide);simp +decide only[↓vS,vT,simprocAttr];refine hl.sc ?_;cases hls:QE b a with
  | true =>
   rw[hls] at ih2;simp +decide only[↓vS,vT,simprocAttr];refine ih2 _ _ (Wk.mk _ _ [] ?_ ?_ ?_ rfl)
   ·simp[vw];rfl
   ·trivial
   ·simp
  | false =>
   rw[hls] at ih2;simp +decide only[↓vS,vT,simprocAttr];refine ih2 _ _ (Wk.mk _ _ [] ?_ ?_ ?_ rfl)
   ·simp[vw];rfl
   ·trivial
   ·simp
 ·obtain rfl:j=1:=by omega
  simp +decide only[↓vS,vT,simprocAttr];simp[vZ]
theorem qqx{k:IntKind}{l:List Int}{j:Nat}{x:Int}(h:l[j]?=some x):(rI k l)[j]?=some (.i k x):=by rw[qa7,h];rfl
theorem qfK{l:List Int}{j:Nat}{x:Int}(h:l[j]?=some x):kT (l.drop j)=if QE x (kT (l.drop (j+1)))=true then x else kT (l.drop (j+1)):=by
 obtain⟨hj,rfl⟩:=zzS.1 h;rw[List.drop_eq_getElem_cons hj,qbz]
instance:DecidableEq Ins:=fun a b=>decidable_of_iff (a.code=b.code∧a.jt=b.jt∧a.jf=b.jf∧a.k=b.k) ⟨fun h=>by cases a;cases b;simp only at h;obtain⟨rfl,rfl,rfl,rfl⟩:=h;rfl,fun h=>by subst h;exact⟨rfl,rfl,rfl,rfl⟩⟩
instance:DecidableEq Prg:=fun a b=>decidable_of_iff (a.dir=b.dir∧a.arch=b.arch∧a.ins=b.ins) ⟨fun h=>by cases a;cases b;simp only at h;obtain⟨rfl,rfl,rfl⟩:=h;rfl,fun h=>by subst h;exact⟨rfl,rfl,rfl⟩⟩
structure PrgIn (x:Prg):Prop where
 len:x.ins.length<=9223372036854775807
 ins:∀i ∈ x.ins,InsOk i
theorem qrQ{x:Int}{j:Nat}(hj:j<2):IntKind.wrap .u8 (qbh .u16 x ((8*j:Nat):Int))=x / 256 ^ j % 256:=by
 have e:qbh .u16 x ((8*j:Nat):Int)=x / 256 ^ j:=by
  unfold qbh
  have hm:min ((8*j:Nat):Int).toNat (IntKind.bits .u16)=8*j:=by
   have:IntKind.bits .u16=16:=rfl;rw[this];omega
  rw[hm,Int.fdiv_eq_ediv_of_nonneg _ (Int.le_of_lt (Int.pow_pos (by decide))),Int.pow_mul];rfl
 rw[e];rfl
def wm:IFn:=⟨[.tmp 4],.seq (.r [.m 4 .N]) (.seq (.r [.n 7 1,.q 8 (.mkS 1 1 [.i .u8 0] (.t 7) (.t 7)),.n 5 8]) (.seq (.seq (.r [.n 9 5,.e 10 9,.m 11 (.k 0)]) (.blk 0 (.loop (.seq (.r [.s 12 11 10]) (.seq (.cond (.t 12) (.skip) (.exit 0)) (.seq (.blk 1 (.seq (.r [.n 13 11,.n 6 13]) (.r [.n 14 5,.n 15 6,.n 16 0,.n 17 6,.q 18 (.bin .mul (.k 8) (.t 17)),.b 19 .shr 16 18,.q 20 (.cvInt .u8 (.t 19)),.i 21 1 14 15,.u (.store 1 (.t 21) (.t 20))]))) (.r [.a 22 11 1,.n 11 22]))))))) (.seq (.r [.n 23 5,.n 4 23]) (.ret))))⟩
theorem qr2(hc:qh P f wm=true)(x:Int):qb P f [.i .u16 x,.i .i64 2] (.fz 2 (rB (zL 2 x))):=by
 refine qb.mk hc rfl ?_;have hr1:2<=qe:=by simp only[qe];omega
 have hrep:(List.replicate 2 [AV.i .u8 0]).flatten=rB (j9 2 0 x):=rfl;simp only[wm,vI,simprocAttr];simp +decide only[↓vS,vT,simprocAttr,hr1,hrep];refine SL.loop (α:=Nat) (fun j=>[(0,.i .u16 x),(5,.sl 0 0 2 2 false),(10,.i .i64 2),(11,.i .i64 (j:Int))]) (fun j=>[.cells 0 true false (rB (j9 2 j x))]) (fun j=>j<=2) (fun j=>2-j) 0 [0] ?_ ?_ ?_ rfl ?_ ?_
 ·simp[vw]
 ·simp[vw,qc,qC];exact NVs.refl (vs:=rB (j9 2 0 x)) (qC _)
 ·simp
 ·exact Nat.zero_le _
 rintro j hj G ih;simp only[vI,simprocAttr]
 by_cases hlt:j<2
 ·have hlt':(j:Int)<2:=by omega
  have hst:=qa8 (k:=.u8) (L:=j9 2 j x) (j:=j) (by rw[Zc hj];exact hlt) (x / 256 ^ j % 256);rw[qbB hlt] at hst;have hst:(rB (j9 2 j x)).take j++(AV.i .u8 (x / 256 ^ j % 256)::(rB (j9 2 j x)).drop (j+1))=rB (j9 2 (j+1) x):=hst;have hle:j+1<=(rB (j9 2 j x)).length:=by rw[wc,Zc hj];exact hlt
  have hw8:IntKind.wrap .i64 (8*(j:Int))=((8*j:Nat):Int):=by rw[qv (by omega) (by omega)];omega
  have hge:(0:Int)<=((8*j:Nat):Int):=by omega
  have hsh:=qrQ (x:=x) hlt;have w1:IntKind.wrap .i64 ((j:Int)+1)=((j+1:Nat):Int):=by rw[qv (by omega) (by omega)];omega
  simp +decide only[↓vS,vT,simprocAttr,hlt,hlt',hw8,hge,hsh,Nat.mul_one,hle,hst,w1];refine ih (j+1) hlt (by omega) _ _ (Wk.mk _ _ [0] ?_ ?_ ?_ rfl)
  ·simp[vw]
  ·simp[vw,qc,qC]
  ·simp
 ·obtain rfl:j=2:=by omega
  have hf:j9 2 2 x=zL 2 x:=by unfold j9;rw[Nat.sub_self];exact List.append_nil _
  rw[hf];simp +decide only[↓vS,vT,simprocAttr];refine Frz.cut 1 rfl (Nat.le_refl _) ?_;have hl:(rB (zL 2 x)).length=2:=by rw[wc,jr]
  have ht:(rB (zL 2 x)).take 2=rB (zL 2 x):=List.take_of_length_le (by rw[hl];exact Nat.le_refl _);simp[vZ,vP,Tr.get_set,zC (qC _),ht,hl]
def yE(a:Nat):IFn:=⟨[.tmp 2],.seq (.r [.m 2 .N]) (.seq (.r [.n 3 0,.l 4 a [.t 3,.k 2],.n 2 4]) (.ret))⟩
theorem qrY{g:Nat}(hc:qh P f (yE g)=true)(hg:∀x:Int,qb P g [.i .u16 x,.i .i64 2] (.fz 2 (rB (zL 2 x))))(x:Int):qb P f [.i .u16 x] (.fz 2 (rB (zL 2 x))):=by
 refine qb.mk hc rfl ?_;simp only[yE,vI,simprocAttr];simp +decide only[↓vS,vT,simprocAttr];refine (hg x).sc ?_;simp +decide only[↓vS,vT,simprocAttr];simp[vZ]
theorem qrR{x:Int}{j:Nat}(hj:j<4):IntKind.wrap .u8 (qbh .u32 x ((8*j:Nat):Int))=x / 256 ^ j % 256:=by
 have e:qbh .u32 x ((8*j:Nat):Int)=x / 256 ^ j:=by
  unfold qbh
  have hm:min ((8*j:Nat):Int).toNat (IntKind.bits .u32)=8*j:=by
   have:IntKind.bits .u32=32:=rfl;rw[this];omega
  rw[hm,Int.fdiv_eq_ediv_of_nonneg _ (Int.le_of_lt (Int.pow_pos (by decide))),Int.pow_mul];rfl
 rw[e];rfl
def wn:IFn:=⟨[.tmp 4],.seq (.r [.m 4 .N]) (.seq (.r [.n 7 1,.q 8 (.mkS 1 1 [.i .u8 0] (.t 7) (.t 7)),.n 5 8]) (.seq (.seq (.r [.n 9 5,.e 10 9,.m 11 (.k 0)]) (.blk 0 (.loop (.seq (.r [.s 12 11 10]) (.seq (.cond (.t 12) (.skip) (.exit 0)) (.seq (.blk 1 (.seq (.r [.n 13 11,.n 6 13]) (.r [.n 14 5,.n 15 6,.n 16 0,.n 17 6,.q 18 (.bin .mul (.k 8) (.t 17)),.b 19 .shr 16 18,.q 20 (.cvInt .u8 (.t 19)),.i 21 1 14 15,.u (.store 1 (.t 21) (.t 20))]))) (.r [.a 22 11 1,.n 11 22]))))))) (.seq (.r [.n 23 5,.n 4 23]) (.ret))))⟩
theorem qr3(hc:qh P f wn=true)(x:Int):qb P f [.i .u32 x,.i .i64 4] (.fz 4 (rB (zL 4 x))):=by
 refine qb.mk hc rfl ?_;have hr1:4<=qe:=by simp only[qe];omega
 have hrep:(List.replicate 4 [AV.i .u8 0]).flatten=rB (j9 4 0 x):=rfl;simp only[wn,vI,simprocAttr];simp +decide only[↓vS,vT,simprocAttr,hr1,hrep];refine SL.loop (α:=Nat) (fun j=>[(0,.i .u32 x),(5,.sl 0 0 4 4 false),(10,.i .i64 4),(11,.i .i64 (j:Int))]) (fun j=>[.cells 0 true false (rB (j9 4 j x))]) (fun j=>j<=4) (fun j=>4-j) 0 [0] ?_ ?_ ?_ rfl ?_ ?_
 ·simp[vw]
 ·simp[vw,qc,qC];exact NVs.refl (vs:=rB (j9 4 0 x)) (qC _)
 ·simp
 ·exact Nat.zero_le _
 rintro j hj G ih;simp only[vI,simprocAttr]
 by_cases hlt:j<4
 ·have hlt':(j:Int)<4:=by omega
  have hst:=qa8 (k:=.u8) (L:=j9 4 j x) (j:=j) (by rw[Zc hj];exact hlt) (x / 256 ^ j % 256);rw[qbB hlt] at hst;have hst:(rB (j9 4 j x)).take j++(AV.i .u8 (x / 256 ^ j % 256)::(rB (j9 4 j x)).drop (j+1))=rB (j9 4 (j+1) x):=hst;have hle:j+1<=(rB (j9 4 j x)).length:=by rw[wc,Zc hj];exact hlt
  have hw8:IntKind.wrap .i64 (8*(j:Int))=((8*j:Nat):Int):=by rw[qv (by omega) (by omega)];omega
  have hge:(0:Int)<=((8*j:Nat):Int):=by omega
  have hsh:=qrR (x:=x) hlt;have w1:IntKind.wrap .i64 ((j:Int)+1)=((j+1:Nat):Int):=by rw[qv (by omega) (by omega)];omega
  simp +decide only[↓vS,vT,simprocAttr,hlt,hlt',hw8,hge,hsh,Nat.mul_one,hle,hst,w1];refine ih (j+1) hlt (by omega) _ _ (Wk.mk _ _ [0] ?_ ?_ ?_ rfl)
  ·simp[vw]
  ·simp[vw,qc,qC]
  ·simp
 ·obtain rfl:j=4:=by omega
  have hf:j9 4 4 x=zL 4 x:=by unfold j9;rw[Nat.sub_self];exact List.append_nil _
  rw[hf];simp +decide only[↓vS,vT,simprocAttr];refine Frz.cut 1 rfl (Nat.le_refl _) ?_;have hl:(rB (zL 4 x)).length=4:=by rw[wc,jr]
  have ht:(rB (zL 4 x)).take 4=rB (zL 4 x):=List.take_of_length_le (by rw[hl];exact Nat.le_refl _);simp[vZ,vP,Tr.get_set,zC (qC _),ht,hl]
def yF(a:Nat):IFn:=⟨[.tmp 2],.seq (.r [.m 2 .N]) (.seq (.r [.n 3 0,.l 4 a [.t 3,.k 4],.n 2 4]) (.ret))⟩
theorem qrZ{g:Nat}(hc:qh P f (yF g)=true)(hg:∀x:Int,qb P g [.i .u32 x,.i .i64 4] (.fz 4 (rB (zL 4 x))))(x:Int):qb P f [.i .u32 x] (.fz 4 (rB (zL 4 x))):=by
 refine qb.mk hc rfl ?_;simp only[yF,vI,simprocAttr];simp +decide only[↓vS,vT,simprocAttr];refine (hg x).sc ?_;simp +decide only[↓vS,vT,simprocAttr];simp[vZ]
def qlk(P:Program)(g:Nat):Prop:=∀n:Nat,1<=n->n<=10000000->Own P g [.nils,.i .i64 (n:Int)] (.sl 0 0 0 n true) [.cells 1 true true (rB (List.replicate n 0))]
def xQ:IFn:=⟨[.tmp 4],.seq (.r [.m 4 .N]) (.seq (.seq (.r [.n 5 1,.w 6 .lss 5 0]) (.cond (.t 6) (.r [.q 7 (.no),.u (.no)]) (.skip))) (.seq (.seq (.r [.n 8 1,.n 9 0,.q 10 (.cap (.t 9)),.n 11 0,.e 12 11,.b 13 .sub 10 12,.b 14 .sub 8 13,.n 1 14]) (.seq (.r [.n 15 1,.w 16 .gtr 15 0]) (.cond (.t 16) (.r [.n 17 0,.n 18 0,.q 19 (.cap (.t 18)),.q 20 (.slcS 1 (.t 17) none (some (.t 19)) none),.n 21 1,.q 22 (.appZ 1 1 [.i .u8 0] (.t 20) (.t 21)),.n 23 0,.e 24 23,.q 25 (.slcS 1 (.t 22) none (some (.t 24)) none),.n 0 25]) (.skip)))) (.seq (.r [.n 26 0,.n 4 26]) (.ret))))⟩
theorem qp1(hc:qh P f xQ=true):qlk P f:=by
 intro n h0 h1;refine Own.mk hc rfl ?_;have hn:¬(n:Int)<0:=by omega
 have hw:IntKind.wrap .i64 ((n:Int)-0)=(n:Int):=by rw[qv (by omega) (by omega)];omega
 have hp:(0:Int)<(n:Int):=by omega
 have hw0:IntKind.wrap .i64 0=0:=rfl;have hp0:(0:Int)<=(n:Int):=by omega
 have htn:((n:Int)).toNat=n:=by omega
 have hr1:n<=qe:=by simp only[qe];omega
 have hn0:¬n=0:=by omega
 have hrep:(List.replicate n [AV.i .u8 0]).flatten=rB (List.replicate n 0):=by
  simp[rB,rI,List.flatten_replicate_singleton]
 simp only[xQ,vI,simprocAttr];simp +decide only[↓vS,vT,simprocAttr,hn,hw0,hw,hp,hp0,htn,h0,hr1,hn0,hrep,Nat.mul_one];intro _;refine⟨[0],?_⟩;simp[vw,qc,qC]
def rL(L:List (List Int)):List AV:=L.map fun b=>.fz b.length (rB b)
theorem qoj(L:List (List Int)):(rL L).length=L.length:=by simp[rL]
theorem jM(L:List (List Int)):qx (rL L)=true:=k9 fun b=>by simp[clo,qC]
theorem qiJ{L:List (List Int)}{j:Nat}{b:List Int}(h:L[j]?=some b):(rL L)[j]?=some (.fz b.length (rB b)):=by simp[rL,h]
theorem qoi(L M:List (List Int)):rL L++rL M=rL (L++M):=by simp[rL]
theorem qbC{L:List (List Int)}{j:Nat}{b:List Int}(h:L[j]?=some b):(L.take (j+1)).flatten=(L.take j).flatten++b:=by
 rw[List.take_add_one,h];simp
theorem qeP{L:List (List Int)}(j:Nat):(L.take j).flatten.length<=L.flatten.length:=by
 have:L.flatten=(L.take j).flatten++(L.drop j).flatten:=by rw[← List.flatten_append,List.take_append_drop]
 rw[this,List.length_append];omega
theorem qof(a b:List Int):rB a++rB b=rB (a++b):=qej
theorem qqw(a:List Int):qF (rB a)=true:=qlK
theorem qoe{a:List Int}{n:Nat}(h:a.length=n):(rB a).take n=rB a:=List.take_of_length_le (by rw[wc,h];exact Nat.le_refl _)
def zr(a:Nat):ICode:=.seq (.seq (.r [.n 25 0,.e 26 25,.m 27 (.k 0)]) (.blk 2 (.loop (.seq (.r [.s 28 27 26]) (.seq (.cond (.t 28) (.skip) (.exit 2)) (.seq (.blk 3 (.seq (.r [.i 29 1 25 27,.d 30 29,.n 8 30]) (.r [.n 31 6,.n 32 8,.q 33 (.app 1 1 true (.t 31) (.t 32)),.n 6 33]))) (.r [.a 34 27 1,.n 27 34]))))))) (.seq (.r [.n 35 6,.n 2 35]) (.ret))
def xD(a:Nat):IFn:=⟨[.tmp 2],.seq (.r [.m 2 .N]) (.seq (.r [.m 3 (.k 0)]) (.seq (.seq (.r [.n 9 0,.e 10 9,.m 11 (.k 0)]) (.blk 0 (.loop (.seq (.r [.s 12 11 10]) (.seq (.cond (.t 12) (.skip) (.exit 0)) (.seq (.blk 1 (.seq (.r [.i 13 1 9 11,.d 14 13,.n 5 14]) (.seq (.r [.n 15 3,.n 16 5,.e 17 16,.b 18 .add 15 17,.n 3 18]) (.seq (.r [.n 19 3,.w 20 .lss 19 0]) (.cond (.t 20) (.r [.q 21 (.no),.u (.no)]) (.skip)))))) (.r [.a 22 11 1,.n 11 22]))))))) (.seq (.r [.n 23 3,.l 24 a [.N,.t 23],.n 6 24]) (.cut (zr a)))))⟩
theorem qhh(g n:Nat)(L:List (List Int))(hn:1<=n)(h2:L.flatten.length<=10000000)(h3:L.length<=10000000){t':Tr AV}{h':Hp}(hw:Wk 0 t' h' (mkT [(0,.fz L.length (rL L)),(6,.sl 0 0 0 n true)]) (mkH 0 [.cells 1 true true (rB (List.replicate n 0))])) :
  S P 0 (zr g) (jd [.tmp 2] fun v' h'=>Frz h' v' (.fz L.flatten.length (rB L.flatten))) t' h':=by
 refine S.weak hw (S.weak (Wk.trunc 6 0 n 1 (cs:=rB (List.replicate n 0)) (by simp[mkT,Tr.get_set]) rfl (by rw[wc];simp) hn (Nat.zero_le _)) (qr ?_));simp only[zr,List.set_cons_zero,vI,simprocAttr];simp +decide only[↓vS,vT,simprocAttr];refine SL.loop (α:=Nat) (fun j=>[(6,.own 0 (L.take j).flatten.length),(25,.fz L.length (rL L)),(26,.i .i64 L.length),(27,.i .i64 (j:Int))]) (fun j=>[.cells 1 true true (rB (L.take j).flatten)]) (fun j=>j<=L.length) (fun j=>L.length-j) 0 [0] ?_ ?_ ?_ rfl ?_ ?_
 ·simp[vw,jM]
 ·simp[vw,qc,rB,rI]
 ·simp
 ·exact Nat.zero_le _
 rintro j hj G ih;simp only[vI,simprocAttr]
 by_cases hlt:j<L.length
 ·obtain⟨b,hb⟩:∃b,L[j]?=some b:=⟨_,zzE hlt⟩;have gb:=qiJ hb;have hw1:IntKind.wrap .i64 ((j:Int)+1)=((j+1:Nat):Int):=by rw[qv (by omega) (by omega)];omega
  have ih2:=ih (j+1) hlt (by omega);have hle:=qeP (L:=L) (j+1);rw[qbC hb] at ih2 hle;rw[List.length_append] at hle;generalize (L.take j).flatten=A at ih2 hle ⊢;have hr1:A.length+b.length<=qe:=by simp only[qe];omega
  have htk:=qoe (a:=b) rfl;simp +decide only[↓vS,vT,simprocAttr,hlt,gb,hr1,Nat.mul_one,htk,wc,qof,qqw,hw1];refine ih2 _ _ (Wk.mk _ _ [1] ?_ ?_ ?_ rfl)
  ·simp[vw,jM]
  ·simp[vw,qc,qC]
  ·simp
 ·obtain rfl:j=L.length:=by omega
  simp +decide only[↓vS,vT,simprocAttr,hlt,List.take_length];simp[vZ,vP,Tr.get_set,zC (qC _)];intro h0;have:L.flatten=[]:=List.eq_nil_of_length_eq_zero (by simpa using h0);rw[this];rfl
def qau(P:Program)(g:Nat):Prop:=∀L:List (List Int),1<=L.flatten.length->L.flatten.length<=10000000->L.length<=10000000->qb P g [.fz L.length (rL L)] (.fz L.flatten.length (rB L.flatten))
theorem qlp{g:Nat}(hc:qh P f (xD g)=true)(hg:qlk P g):qau P f:=by
 intro L h1 h2 h3;refine qb.mk hc (by simp[qx,clo,jM]) ?_;simp only[xD,vI,simprocAttr];simp +decide only[↓vS,vT,simprocAttr];refine SL.loop (α:=Nat) (fun j=>[(0,.fz L.length (rL L)),(3,.i .i64 ((L.take j).flatten.length:Int)),(9,.fz L.length (rL L)),(10,.i .i64 L.length),(11,.i .i64 (j:Int))]) (fun _=>[]) (fun j=>j<=L.length) (fun j=>L.length-j) 0 [] ?_ ?_ ?_ rfl ?_ ?_
 ·simp[vw,jM]
 ·trivial
 ·simp
 ·exact Nat.zero_le _
 rintro j hj G ih;simp only[vI,simprocAttr]
 by_cases hlt:j<L.length
 ·obtain⟨b,hb⟩:∃b,L[j]?=some b:=⟨_,zzE hlt⟩;have gb:=qiJ hb;have hw1:IntKind.wrap .i64 ((j:Int)+1)=((j+1:Nat):Int):=by rw[qv (by omega) (by omega)];omega
  have ih2:=ih (j+1) hlt (by omega);have hle:=qeP (L:=L) (j+1);rw[qbC hb] at ih2 hle;rw[List.length_append] at ih2 hle;generalize (L.take j).flatten.length=A at ih2 hle ⊢;have hw2:IntKind.wrap .i64 ((A:Int)+(b.length:Int))=((A+b.length:Nat):Int):=by rw[qv (by omega) (by omega)];omega
  have hneg:¬((A+b.length:Nat):Int)<0:=by omega
  simp +decide only[↓vS,vT,simprocAttr,hlt,gb,hw1,hw2,hneg,Nat.mul_one];refine ih2 _ _ (Wk.mk _ _ [] ?_ ?_ ?_ rfl)
  ·simp[vw,jM]
  ·trivial
  ·simp
 ·obtain rfl:j=L.length:=by omega
  simp +decide only[↓vS,vT,simprocAttr,hlt,List.take_length];refine (hg L.flatten.length h1 h2).sc ?_;simp only[vJ,simprocAttr,jZ (qC _)];simp +decide only[↓vS,vT,simprocAttr];refine qhh g L.flatten.length L h1 h2 h3 (Wk.mk _ _ [0] ?_ ?_ ?_ rfl)
  ·simp[vw,jM]
  ·simp[vw,qc,qC]
  ·simp
def Zl(a:Nat):IFn:=⟨[.tmp 2],.seq (.r [.m 2 .N]) (.seq (.r [.n 3 0,.l 4 a [.t 3],.n 2 4]) (.ret))⟩
theorem qso{g:Nat}(hc:qh P f (Zl g)=true)(hg:qau P g):qau P f:=by
 intro L h1 h2 h3;refine qb.mk hc (by simp[qx,clo,jM]) ?_;simp only[Zl,vI,simprocAttr];simp +decide only[↓vS,vT,simprocAttr];refine (hg L h1 h2 h3).sc ?_;simp +decide only[↓vS,vT,simprocAttr];simp[vZ]
def kb(i:Ins):List Int:=zL 2 i.code++([i.jt,i.jf]++zL 4 i.k)
theorem ye(i:Ins):(kb i).length=8:=rfl
def yr(a b c:Nat):IFn:=⟨[.tmp 2],.seq (.r [.q 1 (.box (.t 0)),.m 2 .N]) (.seq (.reg true [.f 3 0 1,.d 4 3,.l 5 a [.t 4],.f 6 1 1,.d 7 6,.f 8 2 1,.d 9 8,.q 10 (.buildS 2 [.i .u8 0] [(0,1,(.t 7)),(1,1,(.t 9))]),.f 11 3 1,.d 12 11,.l 13 b [.t 12],.q 14 (.buildS 3 [.nils] [(0,1,(.t 5)),(1,1,(.t 10)),(2,1,(.t 13))]),⟨(some 15),.callW c [.t 14],none⟩,.n 2 15]) (.ret))⟩
theorem qlz{g1 g2 g3:Nat}(hc:qh P f (yr g1 g2 g3)=true)(h1:∀x:Int,qb P g1 [.i .u16 x] (.fz 2 (rB (zL 2 x))))(h2:∀x:Int,qb P g2 [.i .u32 x] (.fz 4 (rB (zL 4 x))))(h3:qau P g3)(i:Ins):qb P f [.agg (qt i)] (.fz 8 (rB (kb i))):=by
 refine qb.mk hc rfl ?_;have hfl:([zL 2 i.code,[i.jt,i.jf],zL 4 i.k]:List (List Int)).flatten=kb i:=by simp[kb]
 have hcat:=h3 [zL 2 i.code,[i.jt,i.jf],zL 4 i.k] (by rw[hfl,ye];decide) (by rw[hfl,ye];decide) (by simp);rw[hfl,ye] at hcat;simp only[yr,qt,vI,simprocAttr];simp +decide only[↓vS,vT,simprocAttr];refine xK ?_;simp +decide only[↓vS,vT,simprocAttr];refine (h1 i.code).pc ?_;simp +decide only[↓vS,vT,simprocAttr];refine (h2 i.k).pc ?_;simp +decide only[↓vS,vT,simprocAttr];refine PC.give (vs':=[.fz 3 (rL [zL 2 i.code,[i.jt,i.jf],zL 4 i.k])]) [(2,.cells 0 true false [.fz 2 (rB (zL 2 i.code)),.sl 1 0 2 2 false,.fz 4 (rB (zL 4 i.k))]),(1,.cells 0 true false [.i .u8 i.jt,.i .u8 i.jf])] ?_ ?_ ?_
 ·intro q hq;simp at hq;rcases hq with rfl|rfl<;>simp[Tr.get_set]
 ·refine .fz _ _ _ _ (.cut 1 rfl (Nat.le_refl _) ?_) .nil;simp[vw,trP,rL,jr];refine Frz.cut 1 rfl (Nat.le_refl _) ?_;simp[vw,trP,rB,rI]
 simp only[jH,wS,zj];refine hcat.pc ?_;simp +decide only[↓vS,vT,simprocAttr];simp[vZ]
def kx(p:List Ins):List Int:=p.flatMap kb
theorem qaD:∀p:List Ins,(kx p).length=p.length*8
 | []=>rfl
 | i::p=>by
  have h:=qaD p;have h2:kx (i::p)=kb i++kx p:=rfl;rw[h2,List.length_append,ye,h,List.length_cons];omega
theorem ZD(p:List Ins):(p.map kb).flatten=kx p:=by simp[kx,List.flatMap_def]
def Zj(a:Nat):IFn:=⟨[.tmp 2],.seq (.r [.q 1 (.box (.t 0)),.m 2 (.c (.nilf))]) (.seq (.r [.q 3 (.mkF a [] [.t 1]),.n 2 3]) (.ret))⟩
theorem qqT{g:Nat}(hc:qh P f (Zj g)=true)(p:List Ins):qb P f [.fz p.length (rP p)] (.fn g [] [.pf [.fz p.length (rP p)] 0]):=by
 refine qb.mk hc (by simp[qx,clo,qn]) ?_;simp only[Zj,vI,simprocAttr];simp +decide only[↓vS,vT,simprocAttr];simp[vZ,vP,Tr.get_set,qn]
 done
def yt(a:Nat):IFn:=⟨[],.seq (.r [.d 5 1,.e 6 5,.m 7 (.k 0)]) (.blk 0 (.loop (.seq (.r [.s 8 7 6]) (.seq (.cond (.t 8) (.skip) (.exit 0)) (.seq (.blk 1 (.seq (.r [.i 9 4 5 7,.v 10 4 9,.q 4 (.alloc [.i .u16 0,.i .u8 0,.i .u8 0,.i .u32 0]),.u (.store 4 (.t 4) (.t 10))]) (.seq (.r [.n 11 0,.v 12 4 4,.l 13 a [.t 12],⟨(some 14),.callV (.t 11) [.t 13],none⟩,.q 15 (.un .not (.t 14))]) (.cond (.t 15) (.ret) (.skip))))) (.r [.a 16 7 1,.n 7 16]))))))⟩
def jF(a b:Nat):ICode:=.seq (.r [.d 16 4,.l 17 b [.t 16],.n 2 17,.m 3 (.k 0)]) (.ret)
def Qr(a b:Nat):IFn:=⟨[.tmp 2,.tmp 3],.seq (.r [.m 2 .N,.m 3 (.k 0)]) (.seq (.seq (.r [.n 6 0,.e 7 6,.w 8 .gtr 7 4096]) (.cond (.t 8) (.seq (.r [.m 2 .N,.m 3 (.k 3)]) (.ret)) (.skip))) (.seq (.r [.q 4 (.alloc [.nils])]) (.seq (.seq (.r [.n 9 0,.l 10 a [.t 9]]) (.blk 0 (.rangeF 0 (.t 10) [11] (.r [.n 5 11]) (.blk 1 (.r [.d 12 4,.n 13 5,.q 14 (.buildS 1 [.nils] [(0,1,(.t 13))]),.q 15 (.app 1 24 true (.t 12) (.t 14)),.u (.store 1 (.t 4) (.t 15))]))))) (.cut (jF a b)))))⟩
def prT(g:Nat)(p:List Ins):List (Nat×AV):=[(4,.ptr 0 0),(10,.fn g [] [.pf [.fz p.length (rP p)] 0])]
theorem qiF{g1 g2:Nat}(hg:qau P g2)(p:List Ins)(h1:1<=p.length)(h2:p.length<=4096){t':Tr AV}{h':Hp}(hw:Wk 0 t' h' (mkT [(4,.ptr 0 0)]) (mkH 0 [.cells 0 true false [.own 1 p.length],.cells 1 true true (rL (p.map kb))])) :
  S P 0 (jF g1 g2) (jd [.tmp 2,.tmp 3] fun v' h'=>Frz h' v' (.tup [.fz (kx p).length (rB (kx p)),.i .i64 0])) t' h':=by
 refine S.weak hw (qr ?_);have hl:=qaD p;have hcat:=hg (p.map kb) (by rw[ZD,hl];omega) (by rw[ZD,hl];omega) (by rw[List.length_map];omega);rw[ZD,List.length_map] at hcat;simp only[jF,vI,simprocAttr];simp +decide only[↓vS,vT,simprocAttr];refine hcat.give [(1,.cells 1 true true (rL (p.map kb)))] (by simp[Tr.get_set]) rfl ?_ ?_
 ·simp[vZ,vP,Tr.get_set,zC (jM _),trP];intro h0;rw[h0];rfl
 simp only[jH,wS,zj];simp +decide only[↓vS,vT,simprocAttr];simp[vZ]
def qpF(P:Program)(g:Nat):Prop:=∀p:List Ins,1<=p.length->p.length<=4096->qb P g [.fz p.length (rP p)] (.tup [.fz (kx p).length (rB (kx p)),.i .i64 0])
theorem qm5{g1 g2 g3 g4:Nat}(hc:qh P f (Qr g1 g2)=true)(h1:∀p:List Ins,qb P g1 [.fz p.length (rP p)] (.fn g3 [] [.pf [.fz p.length (rP p)] 0]))(hc3:qh P g3 (yt g4)=true)(h2:qau P g2)
  (h4:∀i:Ins,qb P g4 [.agg (qt i)] (.fz 8 (rB (kb i)))):qpF P f:=by
 intro p hp1 hp2;refine qb.mk hc (by simp[qx,clo,qn]) ?_;have hbig:¬(4096:Int)<p.length:=by omega
 simp only[Qr,vI,simprocAttr];simp +decide only[↓vS,vT,simprocAttr,hbig];refine (h1 p).sc ?_;simp +decide only[↓vS,vT,simprocAttr];refine S.weak (Wk.mk (prT g3 p) [.cells 0 true false [.nils]] [0] ?_ ?_ ?_ rfl) ?_
 ·simp[vw,prT,qn]
 ·simp[vw]
 ·simp
 refine S.rangeF (by simp[yI]) (by simp[prT]) ⟨rfl,rfl⟩ ?_;refine qc9.2 ⟨.fn g3 [] [.pf [.fz p.length (rP p)] 0],by simp[prT,mkT,Tr.get_set],?_⟩
 refine⟨ya hc3,fun r0 hr0 hp0 hlo=>SC.mk hc3 ?_⟩
 have hid:=qa9 hr0 hp0;show S P 2 _ _ (xz [.yl 1,.pf [.fz p.length (rP p)] 0] 0 .leaf) ⟨2,0,(Tr.leaf.set 0 (.cells 0 true false [.nils])).set 1 (.map (qZ r0 (prT g3 p)))⟩;refine qr ?_;simp only[yt,vI,simprocAttr];simp only[↓vS,vT,simprocAttr];refine SL.loopn (α:=Nat) (fun j=>[(0,.yl 1),(1,.pf [.fz p.length (rP p)] 0),(5,.fz p.length (rP p)),(6,.i .i64 (p.length:Int)),(7,.i .i64 (j:Int))]) (fun j=>[.cells 0 true false [.own 2 j],.map (qZ r0 (prT g3 p)),.cells 1 true true (rL ((p.take j).map kb))]) (fun j=>j<=p.length) (fun j=>p.length-j) 0 [0,1,99] ?_ ?_ ?_ rfl ?_ ?_ ?_ ?_
 ·simp[vw,qn]
 ·simp[vw,prT,qn,rL,xd,xg,zK,za]
 ·simp
 ·simp
 ·intro x hx;have:x=0∨x=1:=by omega
  rcases this with rfl|rfl<;>rfl
 ·exact Nat.zero_le _
 rintro j hj G ih;simp only[vI,simprocAttr]
 by_cases hlt:j<p.length
 ·have hlt':(j:Int)<p.length:=by omega
  obtain⟨i,hpi⟩:∃i,p[j]?=some i:=⟨_,zzE hlt⟩;have hel:=zP (f:=qt) (m:=4) jP hpi;rw[show p.flatMap qt=rP p from rfl] at hel
  have h4':j*4+4<=(rP p).length:=by rw[ZO];omega
  have hw1:IntKind.wrap .i64 ((j:Int)+1)=((j+1:Nat):Int):=by rw[qv (by omega) (by omega)];omega
  have henc:=h4 i;have hnx:(p.take (j+1)).map kb=(p.take j).map kb++[kb i]:=by rw[List.take_add_one,hpi];simp
  have ih2:=ih (j+1);rw[hnx] at ih2;have hAl:((p.take j).map kb).length=j:=by rw[List.length_map,List.length_take];omega
  generalize (p.take j).map kb=A at ih2 hAl ⊢;have e8:=ye i;generalize kb i=E at henc e8 ih2;have hr1:j+1<=qe:=by simp only[qe];omega
  have hr2:(j+1)*24<=qe:=by simp only[qe];omega
  have hlr:(rL A).length=j:=by rw[qoj,hAl]
  have hap:rL A++[.fz 8 (rB E)]=rL (A++[E]):=by rw[← qoi];simp[rL,e8]
  simp only[qt] at hel henc;simp +decide only[↓vS,vT,simprocAttr,hlt,hlt',hel,h4'];refine henc.sc ?_;simp +decide only[↓vS,vT,simprocAttr];change SY P 1 [.fz 8 (rB E)] _ _;refine SY.mk (r:=r0) (ts:=prT g3 p) (ps:=[11]) (by simp[Tr.get_set]) hr0 hlo (Nat.zero_le _) (by show 1<4;decide) rfl ?_;rw[show mkT (prT g3 p)=(Tr.leaf.set 10 (.fn g3 [] [.pf [.fz p.length (rP p)] 0])).set 4 (.ptr 0 0) from rfl]
  refine qr ?_;simp only[qa3,vI,simprocAttr];simp only[↓vS,vT,simprocAttr];refine⟨prT g3 p,by simp[Tr.get_set],?_⟩
  refine qr ?_;simp only[zj,vI,simprocAttr];simp +decide only[↓vS,vT,simprocAttr,hr1,hr2,hlr,hap,Nat.mul_one];refine⟨bsy r0,prT g3 p,by simp[Tr.get_set],?_⟩
  rw[qan,hid];simp only[zj];simp +decide only[↓vS,vT,simprocAttr,hw1];refine ih2 (by omega) (by omega) _ _ (Wk.mkn _ _ [0,1,5] ?_ ?_ ?_ rfl ?_ ?_)
  ·simp[vw,qn]
  ·simp[vw,prT,qn,xd,xg,zK,za,qc,jM]
  ·simp
  ·simp
  ·intro x hx;have:x=0∨x=1:=by omega
   rcases this with rfl|rfl<;>rfl
 ·clear ih;obtain rfl:j=p.length:=by omega
  simp +decide only[↓vS,vT,simprocAttr,hlt];refine⟨r0,prT g3 p,by simp[Tr.get_set],by rw[hr0];decide,?_⟩
  rw[hp0];simp only[zj];simp only[↓vS,vT,simprocAttr];refine qiF h2 p hp1 hp2 (Wk.mk _ _ [0,2] ?_ ?_ ?_ rfl)
  ·simp[vw,prT,mkT]
  ·simp[vw,qc,jM]
  ·simp
def qcw(x:Prg):List Int:=[IntKind.wrap .u8 x.dir,IntKind.wrap .u8 x.arch]++(zL 2 x.ins.length++kx x.ins)
def ko(l:List Prg):List Int:=l.flatMap qcw
theorem qdP(x:Prg):(qcw x).length=4+x.ins.length*8:=by
 unfold qcw;rw[List.length_append,List.length_append,jr,qaD];simp;omega
theorem qgs{l:List Prg}{j:Nat}{x:Prg}(h:l[j]?=some x):ko (l.take (j+1))=ko (l.take j)++qcw x:=by
 rw[List.take_add_one,h];simp[ko]
theorem qfi:∀{l:List Prg},(∀x ∈ l,x.ins.length<=4096)->(ko l).length<=40000*l.length
 | [],_=>Nat.zero_le _
 | x::l,h=>by
  have h1:=qfi (l:=l) fun y hy=>h y (by simp[hy])
  have h2:=h x (by simp);have h3:ko (x::l)=qcw x++ko l:=rfl;rw[h3,List.length_append,qdP,List.length_cons];omega
end Go.Kc
end
