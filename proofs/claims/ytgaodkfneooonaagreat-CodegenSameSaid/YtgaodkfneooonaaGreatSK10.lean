/- Part 10 of the abstract machine and of the functions' walks. Conditions: with each theorem. -/
import Derived.Test.YtgaodkfneooonaaGreatSK9
set_option maxHeartbeats 4000000
set_option linter.unusedSectionVars false
set_option linter.unusedSimpArgs false
set_option linter.unusedVariables false
set_option linter.unnecessarySimpa false
section
namespace Go.Kc
variable {P:Program} {f:Nat}
def zR(A:List Bool)(j:Nat):Nat:=(A.take j).countP (· = true)
def rPl(A:List Bool)(n:Nat):List AV:=(List.range n).map fun j=>.i .i64 (zR A j:Int)
theorem qlP{A:List Bool}{n:Nat}:(rPl A n).length=n:=by simp[rPl]
theorem qpe{A:List Bool}{n j:Nat}(h:j<n):(rPl A n)[j]?=some (.i .i64 (zR A j:Int)):=by simp[rPl,h]
theorem qd1{A:List Bool}{j:Nat}{b:Bool}(h:A[j]?=some b):zR A (j+1)=zR A j+if b=true then 1 else 0:=by
 unfold zR;rw[qaF h,List.countP_append];cases b<;>simp
theorem qlq{A:List Bool}{j:Nat}:zR A j<=j:=by
 unfold zR;exact Nat.le_trans List.countP_le_length (by rw[List.length_take];omega)
def qca{α:Type}:List Bool->List α->List α
 | b::A,x::l=>if b=true then x::qca A l else qca A l
 | _,_=>[]
theorem qk6{α:Type}:∀{A:List Bool} {l:List α} {j:Nat} {b:Bool} {x:α},A[j]?=some b->l[j]?=some x->qca (A.take (j+1)) (l.take (j+1))=qca (A.take j) (l.take j)++if b=true then [x] else []
 | [],_,_,_,_,h,_=>by simp at h
 | _::_,[],_,_,_,_,h=>by simp at h
 | c::A,y::l,0,b,x,h1,h2=>by
  simp at h1 h2;subst h1 h2;cases c<;>simp[qca]
 | c::A,y::l,j+1,b,x,h1,h2=>by
  have:=qk6 (A:=A) (l:=l) (j:=j) (b:=b) (x:=x) (by simpa using h1) (by simpa using h2);rw[List.take_succ_cons,List.take_succ_cons,List.take_succ_cons,List.take_succ_cons];simp only[qca,this];cases c<;>simp
theorem qno{α:Type}:∀{A:List Bool} {l:List α},A.length=l.length->(qca A l).length=A.countP (· = true)
 | [],[],_=>rfl
 | b::A,x::l,h=>by
  have:=qno (A:=A) (l:=l) (by simpa using h);cases b<;>simp[qca,this]
 | [],_::_,h=>by simp at h
 | _::_,[],h=>by simp at h
def qfz(l:List Sy):List Sy:=qca (zw l) (l.map (qa1 (zR (zw l))))
def qcn(n b:Nat):AV:=if n=0 then .nils else .own b n
def qaR:IFn:=⟨[.tmp 3],.seq (.r [.m 3 (.k 0)]) (.seq (.r [.d 4 1,.n 5 0,.i 6 1 4 5,.d 7 6,.n 3 7]) (.ret))⟩
def qbR(a b c:Nat):ICode:=.seq (.r [.m 7 .N]) (.seq (.seq (.r [.n 31 0,.q 32 (.mkF b [] [.t 4]),.l 33 c [.t 31,.t 32],.e 34 33,.m 35 (.k 0)]) (.blk 2 (.loop (.seq (.r [.s 36 35 34]) (.seq (.cond (.t 36) (.skip) (.exit 2)) (.seq (.blk 3 (.seq (.r [.n 37 35,.i 38 4 33 35,.v 39 4 38,.q 9 (.alloc [.i .u16 0,.i .u32 0,.i .i64 0,.i .i64 0]),.n 8 37,.u (.store 4 (.t 9) (.t 39))]) (.seq (.r [.n 40 3,.n 41 8,.i 42 1 40 41,.d 43 42]) (.cond (.t 43) (.r [.n 44 7,.v 45 4 9,.q 46 (.buildS 1 [.i .u16 0,.i .u32 0,.i .i64 0,.i .i64 0] [(0,4,(.t 45))]),.q 47 (.app 4 24 true (.t 44) (.t 46)),.n 7 47]) (.skip))))) (.r [.a 48 35 1,.n 35 48]))))))) (.seq (.r [.n 49 7,.n 2 49]) (.ret)))
def qdC(a b c:Nat):IFn:=⟨[.tmp 2],.seq (.r [.m 2 .N]) (.seq (.r [.n 10 0,.l 11 a [.t 10],.n 3 11]) (.seq (.r [.n 12 0,.e 13 12,.q 14 (.mkS 1 8 [.i .i64 0] (.t 13) (.t 13)),.q 4 (.alloc [.nils]),.u (.store 1 (.t 4) (.t 14))]) (.seq (.r [.m 5 (.k 0)]) (.seq (.seq (.r [.n 15 0,.e 16 15,.m 17 (.k 0)]) (.blk 0 (.loop (.seq (.r [.s 18 17 16]) (.seq (.cond (.t 18) (.skip) (.exit 0)) (.seq (.blk 1 (.seq (.r [.n 19 17,.n 6 19]) (.seq (.r [.d 20 4,.n 21 6,.n 22 5,.i 23 1 20 21,.u (.store 1 (.t 23) (.t 22))]) (.seq (.r [.n 24 3,.n 25 6,.i 26 1 24 25,.d 27 26]) (.cond (.t 27) (.r [.n 28 5,.a 29 28 1,.n 5 29]) (.skip)))))) (.r [.a 30 17 1,.n 17 30]))))))) (.cut (qbR a b c))))))⟩
theorem qqp{n0 g1 g2 g3 h1 h2 h3 s:Nat}{tr:Tr Blk}{t:Tr AV}(hc1:qc P g2 qaR=true)(hc3:qc P g3 (xG h1 h2 h3)=true)(c1:qcT P h1 4 24)(c2:cOf P h2)(c3:qfc P h3)(l:List Sy)(hl:l.length<=200000)(hin:qkw l)
  (hs:2<=s) (t0:tr.get 0=some (.cells 0 true false (rPl (zw l) l.length))) (t1:tr.get 1=some (.cells 0 true false [.sl 0 0 l.length l.length false]))
  (ht:Has t [(0,.fz l.length (rSy l)),(3,.fz l.length (rBo (zw l))),(4,.ptr 1 0)]) :
  S P n0 (qbR g1 g2 g3) (qam [.tmp 2] fun v' h'=>Frz h' v' (.fz (qfz l).length (rSy (qfz l)))) t ⟨s,0,tr⟩:=by
 have hAl:(zw l).length=l.length:=qbi;refine S.has _ ht (ql ?_);simp only[qbR,vI,simprocAttr];simp +decide only[↓vS,vT,simprocAttr];refine qjL hc3 c1 c2 c3 l hl (Nat.zero_le _) (zR (zw l)) (fun x hx j hj s' tr' k' hs' hold hk'=>?_) fun s' tr' bm hs' hold hb1 hb2 hg=>?_
 ·have hjl:=hin x hx j hj;have g0:=(hold 0 (by omega)).trans t0;have g1:=(hold 1 (by omega)).trans t1;have gp:=qpe (A:=zw l) hjl;refine SC.mk hc1 (ql ?_);simp only[qaR,vI,simprocAttr];simp +decide only[↓vS,vT,simprocAttr,g0,g1,gp,hjl,Nat.mul_one];exact hk'
 obtain⟨M,hM⟩:∃M,M=l.map (qa1 (zR (zw l))):=⟨_,rfl⟩;have hMl:M.length=l.length:=by rw[hM];simp
 have hliv:qfz l=qca (zw l) M:=by rw[hM];rfl
 rw[← hM] at hg;simp +decide only[↓vS,vT,simprocAttr]
 refine SL.loopP (α:=Nat×Nat) (fun i=>[(3,.fz l.length (rBo (zw l))),(7,qcn (zR (zw l) i.1) i.2),(33,.own bm l.length),(34,.i .i64 (l.length:Int)),(35,.i .i64 (i.1:Int))])
  (fun i h=>i.1<=l.length∧∃s2 t2,h=⟨s2,0,t2⟩∧bm<s2∧t2.get bm=some (.cells 4 true true (rSy M))∧(zR (zw l) i.1≠0->t2.get i.2=some (.cells 4 true true (rSy (qca ((zw l).take i.1) (M.take i.1))))∧i.2<s2∧i.2≠bm)) (fun i=>l.length-i.1) ?_ (0,0) ?_ ?_
 ·rintro⟨i,bo⟩ h1 ⟨hi,s2,t2,rfl,hb,gm,go⟩ G ih;simp only at hi go;simp only[vI,simprocAttr];have hsel:(qca ((zw l).take i) (M.take i)).length=zR (zw l) i:=qno (by simp;omega)
  by_cases hlt:i<l.length
  ·have hlt':(i:Int)<l.length:=by omega
   obtain⟨x,hx⟩:∃x,M[i]?=some x:=⟨_,zzE (by omega)⟩;obtain⟨b,hbb⟩:∃b,(zw l)[i]?=some b:=⟨_,zzE (by omega)⟩;have hgb:(rBo (zw l))[i]?=some (.b b):=by rw[qlL,hbb];rfl
   have hel:=qei hx;have h4:i*4+4<=(rSy M).length:=by rw[qak];omega
   have hw1:IntKind.wrap .i64 ((i:Int)+1)=((i+1:Nat):Int):=by rw[qu (by omega) (by omega)];simp
   have hsn:=qk6 hbb hx;have hcn:=qd1 hbb;have n1:¬bm=s2:=by omega
   have n2:¬s2=s2+1:=by omega
   have n3:¬s2+1=s2:=by omega
   have n4:¬bm=s2+1:=by omega
   have n5:¬bm=s2+1+1:=by omega
   have hci:=qlq (A:=zw l) (j:=i);cases b with
   | false =>
    simp at hcn hsn;simp +decide only[↓vS,vT,simprocAttr,hlt',hlt,h4,hel,cSy,gm,hgb,n1,Nat.mul_one,hw1];refine ih (i+1,bo) _ _ (by simp only;omega) ?_ ⟨by simp only;omega,s2+1,_,rfl,by omega,?_,fun h0=>?_⟩
    ·simp only[hcn];simp[qf,qh,Tr.get_set]
    ·simp only[Tr.get_set];rw[if_neg n1,if_neg n1];exact gm
    ·simp only at h0;rw[hcn] at h0;obtain⟨q1,q2,q3⟩:=go h0;refine⟨?_,by simp only;omega,q3⟩
     simp only[Tr.get_set];rw[if_neg (by omega),if_neg (by omega),hsn];exact q1
   | true =>
    simp at hcn hsn
    by_cases hz:zR (zw l) i=0
    ·have hV:qcn (zR (zw l) i) bo = .nils:=by simp[qcn,hz]
     have hnil:qca ((zw l).take i) (M.take i)=[]:=List.eq_nil_of_length_eq_zero (by omega);rw[hV];simp +decide only[↓vS,vT,simprocAttr,hlt',hlt,h4,hel,cSy,gm,hgb,n1,n2,n3,Nat.mul_one,hw1];refine ih (i+1,s2+1+1) _ _ (by simp only;omega) ?_ ⟨by simp only;omega,s2+1+1+1,_,rfl,by omega,?_,fun h0=>⟨?_,by simp only;omega,by simp only;omega⟩⟩
     ·have e:qcn (zR (zw l) (i+1)) (s2+1+1) = .own (s2+1+1) 1:=by rw[hcn,hz];rfl
      simp only[e];simp[qf,qh,Tr.get_set]
     ·simp only[Tr.get_set];rw[if_neg n5,if_neg n4,if_neg n1,if_neg n1];exact gm
     ·simp only[Tr.get_set];rw[hsn,hnil];simp[rSy,cSy]
    ·obtain⟨q1,q2,q3⟩:=go hz;have hV:qcn (zR (zw l) i) bo = .own bo (zR (zw l) i):=by simp[qcn,hz]
     rw[hV];have n6:¬bo=s2:=by omega
     have n7:¬bo=s2+1:=by omega
     have n8:¬s2+1=bo:=by omega
     have hr1:zR (zw l) i+1<=qg:=by simp only[qg];omega
     have hr2:(zR (zw l) i+1)*24<=qg:=by simp only[qg];omega
     have hql:(rSy (qca ((zw l).take i) (M.take i))).length=zR (zw l) i*4:=by rw[qak,hsel]
     simp +decide only[↓vS,vT,simprocAttr,hlt',hlt,h4,hel,cSy,gm,hgb,n1,n2,n3,n6,n7,n8,q1,hr1,hr2,hql,Nat.mul_one,hw1];refine ih (i+1,s2+1+1) _ _ (by simp only;omega) ?_ ⟨by simp only;omega,s2+1+1+1,_,rfl,by omega,?_,fun h0=>⟨?_,by simp only;omega,by simp only;omega⟩⟩
     ·have e:qcn (zR (zw l) (i+1)) (s2+1+1) = .own (s2+1+1) (zR (zw l) i+1):=by rw[hcn];simp[qcn]
      simp only[e];simp[qf,qh,Tr.get_set]
     ·simp only[Tr.get_set];rw[if_neg n5,if_neg (Ne.symm q3),if_neg n4,if_neg n1,if_neg n1];exact gm
     ·simp only[Tr.get_set];rw[hsn,← qpg];simp[rSy,cSy]
  ·obtain rfl:i=l.length:=by omega
   have hlt':¬((l.length:Int)<l.length):=by omega
   have e1:(zw l).take l.length=zw l:=List.take_of_length_le (by omega);have e2:M.take l.length=M:=List.take_of_length_le (by omega);rw[e1,e2] at hsel go;simp +decide only[↓vS,vT,simprocAttr,hlt'];rw[hliv]
   by_cases hz:zR (zw l) l.length=0
   ·have hV:qcn (zR (zw l) l.length) bo = .nils:=by simp[qcn,hz]
    have hnil:qca (zw l) M=[]:=List.eq_nil_of_length_eq_zero (by omega);rw[hV,hnil];exact .nilz
   ·obtain⟨q1,q2,q3⟩:=go hz;have hV:qcn (zR (zw l) l.length) bo = .own bo (zR (zw l) l.length):=by simp[qcn,hz]
    rw[hV];show Frz _ _ _;refine qsm.2 ⟨hsel.symm,?_⟩;rw[q1];simp[vP,hz];exact Frzs.self qS
 ·have e:qcn (zR (zw l) 0) 0 = .nils:=by simp[qcn,zR]
  simp only[e,hMl];simp[qf,qh,Tr.get_set]
 ·exact⟨Nat.zero_le _,s',tr',rfl,hb2,hg,fun h=>absurd (by simp[zR]) h⟩
theorem qm2{g1 g2 g3 h1 h2 h3:Nat}(hc:qc P f (qdC g1 g2 g3)=true)(hc1:qc P g2 qaR=true)(hc3:qc P g3 (xG h1 h2 h3)=true)(c1:qcT P h1 4 24)(c2:cOf P h2)(c3:qfc P h3)(l:List Sy)(ha:qd P g1 [.fz l.length (rSy l)] (.fz l.length (rBo (zw l))))
  (hl:l.length<=200000) (hin:qkw l):qd P f [.fz l.length (rSy l)] (.fz (qfz l).length (rSy (qfz l))):=by
 have hAl:(zw l).length=l.length:=qbi;refine qd.mk hc (by simp[qw,clo,qS]) ?_;have r1:l.length<=qg:=by simp only[qg];omega
 have r2:8*l.length<=qg:=by simp only[qg];omega
 simp only[qdC,vI,simprocAttr];simp +decide only[↓vS,vT,simprocAttr];refine ha.sc ?_;simp +decide only[↓vS,vT,simprocAttr,r1,r2]
 refine SL.loopP (α:=Nat) (fun i=>[(0,.fz l.length (rSy l)),(3,.fz l.length (rBo (zw l))),(4,.ptr 1 0),(5,.i .i64 (zR (zw l) i:Int)),(16,.i .i64 (l.length:Int)),(17,.i .i64 (i:Int))])
  (fun i h=>i<=l.length∧∃s tr,h=⟨s,0,tr⟩∧2<=s∧tr.get 0=some (.cells 0 true false ((rPl (zw l) l.length).take i++List.replicate (l.length-i) (.i .i64 0)))∧tr.get 1=some (.cells 0 true false [.sl 0 0 l.length l.length false])) (fun i=>l.length-i) ?_ 0 ?_ ?_
 ·rintro i h1' ⟨hi,s,tr,rfl,hs,t0,t1⟩ G ih;simp only[vI,simprocAttr]
  by_cases hlt:i<l.length
  ·have hlt':(i:Int)<l.length:=by omega
   obtain⟨b,hbb⟩:∃b,(zw l)[i]?=some b:=⟨_,zzE (by omega)⟩;have hgb:(rBo (zw l))[i]?=some (.b b):=by rw[qlL,hbb];rfl
   have hcn:=qd1 hbb;have hci:=qlq (A:=zw l) (j:=i);have hw1:IntKind.wrap .i64 ((i:Int)+1)=((i+1:Nat):Int):=by rw[qu (by omega) (by omega)];simp
   have hw2:IntKind.wrap .i64 ((zR (zw l) i:Int)+1)=((zR (zw l) i+1:Nat):Int):=by rw[qu (by omega) (by omega)];simp
   have hfill:=qj1 (n:=l.length) (z:=.i .i64 0) qlP (qpe (A:=zw l) hlt);have hb4:i+1<=((rPl (zw l) l.length).take i++List.replicate (l.length-i) (AV.i .i64 0)).length:=by simp[qlP];omega
   cases b with
   | false =>
    simp at hcn;simp +decide only[↓vS,vT,simprocAttr,hlt',hlt,t0,t1,hgb,hb4,hfill,Nat.mul_one,hw1];refine ih (i+1) _ _ (by omega) ?_ ⟨by omega,s,_,rfl,hs,by rw[Tr.get_set,if_pos rfl],by rw[Tr.get_set,if_neg (by decide)];exact t1⟩
    rw[hcn];simp[qf,qh,Tr.get_set]
   | true =>
    simp at hcn;simp +decide only[↓vS,vT,simprocAttr,hlt',hlt,t0,t1,hgb,hb4,hfill,Nat.mul_one,hw1,hw2];refine ih (i+1) _ _ (by omega) ?_ ⟨by omega,s,_,rfl,hs,by rw[Tr.get_set,if_pos rfl],by rw[Tr.get_set,if_neg (by decide)];exact t1⟩
    rw[hcn];simp[qf,qh,Tr.get_set]
  ·obtain rfl:i=l.length:=by omega
   have hlt':¬((l.length:Int)<l.length):=by omega
   simp +decide only[↓vS,vT,simprocAttr,hlt'];refine qqp hc1 hc3 c1 c2 c3 l hl hin hs ?_ t1 ?_
   ·rw[t0,List.take_of_length_le (by rw[qlP];omega)];simp
   ·simp[qf,qh,Tr.get_set]
 ·simp[qf,qh,Tr.get_set,zR]
 ·refine⟨Nat.zero_le _,_,_,rfl,by omega,?_,?_⟩<;>simp[Tr.get_set]
def qyI(P:Program)(g:Nat)(l m:List Sy):Prop:=qd P g [.fz l.length (rSy l)] (.fz m.length (rSy m))
def qfr(a:Nat):IFn:=⟨[.tmp 4,.tmp 5],.seq (.r [.m 4 .N,.m 5 (.k 0)]) (.seq (.seq (.r [.n 8 0,.l 9 a [.t 8],.q 10 (.un .not (.t 9))]) (.cond (.t 10) (.seq (.r [.m 4 .N,.m 5 (.k 250)]) (.ret)) (.skip))) (.seq (.seq (.r [.n 11 1,.e 12 11,.m 13 (.k 0)]) (.blk 0 (.loop (.seq (.r [.s 14 13 12]) (.seq (.cond (.t 14) (.skip) (.exit 0)) (.seq (.blk 1 (.seq (.r [.i 15 1 11 13,.d 16 15,.n 7 16]) (.r [.n 17 7,.n 18 0,⟨(some 19),.callV (.t 17) [.t 18],none⟩,.n 0 19]))) (.r [.a 20 13 1,.n 13 20]))))))) (.seq (.r [.n 21 0,.n 4 21,.m 5 (.k 0)]) (.ret))))⟩
theorem qwC{gM a b c:Nat}(hc:qc P f (qfr gM)=true)(l0 l1 l2 l3:List Sy)(hm:qd P gM [.fz l0.length (rSy l0)] (.b true))(h1:qyI P a l0 l1)(h2:qyI P b l1 l2)(h3:qyI P c l2 l3) :
  qd P f [.fz l0.length (rSy l0),.fz 3 [.fn a [] [],.fn b [] [],.fn c [] []]] (.tup [.fz l3.length (rSy l3),.i .i64 0]):=by
 refine qd.mk hc (by simp[qw,clo,qS]) ?_;simp only[qfr,vI,simprocAttr];simp +decide only[↓vS,vT,simprocAttr];refine hm.sc ?_;simp +decide only[↓vS,vT,simprocAttr]
 refine SL.loopP (α:=Nat) (fun i=>[(0,match i with|0=>.fz l0.length (rSy l0)|1=>.fz l1.length (rSy l1)|2=>.fz l2.length (rSy l2)|_=>.fz l3.length (rSy l3)),(11,.fz 3 [.fn a [] [],.fn b [] [],.fn c [] []]),(12,.i .i64 3),(13,.i .i64 (i:Int))])
  (fun i h=>i<=3∧h.fl=0) (fun i=>3-i) ?_ 0 ?_ ?_
 ·rintro i ⟨s,fl,tr⟩ ⟨hi,rfl⟩ G ih;simp only[vI,simprocAttr];have hi4:i=0∨i=1∨i=2∨i=3:=by omega
  rcases hi4 with rfl|rfl|rfl|rfl
  ·simp +decide only[↓vS,vT,simprocAttr];refine h1.sc ?_;simp +decide only[↓vS,vT,simprocAttr];exact ih 1 _ _ (by omega) (by simp[qf,qh,Tr.get_set];decide) ⟨by omega,rfl⟩
  ·simp +decide only[↓vS,vT,simprocAttr];refine h2.sc ?_;simp +decide only[↓vS,vT,simprocAttr];exact ih 2 _ _ (by omega) (by simp[qf,qh,Tr.get_set];decide) ⟨by omega,rfl⟩
  ·simp +decide only[↓vS,vT,simprocAttr];refine h3.sc ?_;simp +decide only[↓vS,vT,simprocAttr];exact ih 3 _ _ (by omega) (by simp[qf,qh,Tr.get_set];decide) ⟨by omega,rfl⟩
  ·simp +decide only[↓vS,vT,simprocAttr];simp[vZ,zq qS]
 ·simp[qf,qh,Tr.get_set]
 ·exact⟨Nat.zero_le _,rfl⟩
def qdD(a b c:Nat):IFn:=⟨[.cell 0 3 true],.seq (.r [.q 0 (.alloc [.nilf,.nilf,.nilf])]) (.seq (.r [.q 1 (.build [.nilf,.nilf,.nilf] [(0,1,(.c (.fn a [] []))),(1,1,(.c (.fn b [] []))),(2,1,(.c (.fn c [] [])))]),.u (.store 3 (.t 0) (.t 1))]) (.ret))⟩
theorem qne{a b c:Nat}(hc:qc P f (qdD a b c)=true):qd P f [] (.agg [.fn a [] [],.fn b [] [],.fn c [] []]):=by
 refine qd.mk hc rfl ?_;simp only[qdD,vI,simprocAttr];simp +decide only[↓vS,vT,simprocAttr];simp[vZ,vP,Tr.get_set]
def qgK(a b:Nat):IFn:=⟨[.tmp 2,.tmp 3],.seq (.r [.m 2 .N,.m 3 (.k 0)]) (.seq (.r [.l 5 a [],.q 4 (.alloc [.nilf,.nilf,.nilf]),.u (.store 3 (.t 4) (.t 5))]) (.seq (.r [.n 6 0,.q 7 (.slcA 3 1 (.t 4) none none none),.l 8 b [.t 6,.t 7],.x 9 8 0,.x 10 8 1,.n 2 9,.n 3 10]) (.ret)))⟩
theorem qtG{g1 g2 a b c:Nat}(hc:qc P f (qgK g1 g2)=true)(h1:qd P g1 [] (.agg [.fn a [] [],.fn b [] [],.fn c [] []]))(l m:List Sy)(h2:qd P g2 [.fz l.length (rSy l),.fz 3 [.fn a [] [],.fn b [] [],.fn c [] []]] (.tup [.fz m.length (rSy m),.i .i64 0])) :
  qd P f [.fz l.length (rSy l)] (.tup [.fz m.length (rSy m),.i .i64 0]):=by
 refine qd.mk hc (by simp[qw,clo,qS]) ?_;simp only[qgK,vI,simprocAttr];simp +decide only[↓vS,vT,simprocAttr];refine h1.sc ?_;simp +decide only[↓vS,vT,simprocAttr];refine h2.give [(0,.cells 0 true false [.fn a [] [],.fn b [] [],.fn c [] []])] ?_ (by simp[qw,clo,qS]) ?_ ?_
 ·intro p hp;rw[List.mem_singleton] at hp;subst hp;exact⟨by simp[Tr.get_set],Nat.zero_le _⟩
 ·refine qaN.2 ⟨Frz.self (by simp[clo,qS]),qaN.2 ⟨Frz.cut 1 rfl (Nat.le_refl _) ?_,qex.2 trivial⟩⟩;simp[trP,Tr.get_set,vP,vZ]
 ·simp +decide only[↓vS,vT,simprocAttr,qkQ,qm0,zW];simp[vZ,vP,zq qS]
def qe6(p:List Ins)(i:Nat):List Ins:=p.mapIdx fun t x=>if t<i∨p.length-i<=t then p.getD (p.length-1-t) x else x
theorem qax{p:List Ins}{i:Nat}:(qe6 p i).length=p.length:=by simp[qe6]
theorem qfF{p:List Ins}{i t:Nat}:(qe6 p i)[t]?=(p[t]?).map fun x=>if t<i∨p.length-i<=t then p.getD (p.length-1-t) x else x:=by simp[qe6]
theorem qAH{p:List Ins}:qe6 p 0=p:=by
 apply List.ext_getElem?;intro t;rw[qfF];cases h:p[t]? with
 | none=>rfl
 | some x =>
  have:=(zzS.1 h).1;simp;intro h2;omega
theorem qt4{p:List Ins}{i:Nat}(h:p.length<=2*i+1):qe6 p i=p.reverse:=by
 apply List.ext_getElem?;intro t;rw[qfF]
 by_cases ht:t<p.length
 ·rw[List.getElem?_reverse ht,zzE ht,zzE (by omega)];simp only[Option.map_some,Option.some.injEq]
  by_cases h1:t<i∨p.length-i<=t
  ·rw[if_pos h1,List.getD_eq_getElem?_getD,zzE (by omega)];rfl
  ·rw[if_neg h1];have:p.length-1-t=t:=by omega
   simp only[this]
 ·rw[List.getElem?_eq_none (by omega),List.getElem?_eq_none (by simp;omega)];rfl
theorem qqQ{p:List Ins}{i:Nat}{x y:Ins}(h:2*i+1<p.length)(hx:(qe6 p i)[i]?=some x)(hy:(qe6 p i)[p.length-1-i]?=some y):((qe6 p i).set i y).set (p.length-1-i) x=qe6 p (i+1):=by
 rw[qfF,zzE (by omega)] at hx hy;simp only[Option.map_some,Option.some.injEq] at hx hy;rw[if_neg (by omega)] at hx hy;apply List.ext_getElem?;intro t
 by_cases ht:t<p.length
 ·rw[List.getElem?_set,List.length_set,qax,List.getElem?_set,qax,qfF,qfF,zzE ht];simp only[Option.map_some]
  by_cases e1:p.length-1-i=t
  ·subst e1;rw[if_pos rfl,if_pos ht,if_pos (by omega),List.getD_eq_getElem?_getD,← hx];have:p.length-1-(p.length-1-i)=i:=by omega
   rw[this,zzE (by omega)];rfl
  ·rw[if_neg e1]
   by_cases e2:i=t
   ·subst e2;rw[if_pos rfl,if_pos ht,if_pos (by omega),List.getD_eq_getElem?_getD,zzE (by omega),← hy];rfl
   ·rw[if_neg e2]
    congr 1
    by_cases h3:t<i∨p.length-i<=t
    ·rw[if_pos h3,if_pos (by omega)]
    ·rw[if_neg h3,if_neg (by omega)]
 ·rw[List.getElem?_eq_none (by simp[qax];omega),List.getElem?_eq_none (by rw[qax];omega)]
theorem qpc{T:List Ins}{j:Nat}{x:Ins}(h:T[j]?=some x):((rP T).drop (j*4)).take 4=qC x:=zp qaL h
theorem qpd{l:List Ins}{j:Nat}(y:Ins)(hj:j<l.length):(rP l).take (j*4)++(qC y++(rP l).drop (j*4+4))=rP (l.set j y):=qkG qaL y hj
def zA:IFn:=⟨[],.seq (.r [.n 4 0,.e 5 4,.w 6 .sub 5 1,.m 2 (.k 0),.n 3 6]) (.blk 0 (.loop (.seq (.seq (.r [.n 7 2,.n 8 3,.s 9 7 8]) (.cond (.t 9) (.skip) (.exit 0))) (.seq (.blk 1 (.reg true [.n 14 0,.n 15 2,.n 16 0,.n 17 3,.n 18 0,.n 19 3,.i 20 4 18 19,.v 21 4 20,.n 22 0,.n 23 2,.i 24 4 22 23,.v 25 4 24,.i 26 4 14 15,.u (.store 4 (.t 26) (.t 21)),.i 27 4 16 17,.u (.store 4 (.t 27) (.t 25))])) (.r [.n 10 2,.a 11 10 1,.n 12 3,.w 13 .sub 12 1,.n 2 11,.n 3 13])))))⟩
theorem qoc(hc:qc P f zA=true){s b:Nat}{tr:Tr Blk}(p:List Ins)(hp:p.length<=1000000){k:AV->Hp->Prop}(hb:tr.get b=some (.cells 4 true true (rP p)))(hk:∀tr',(∀c,c≠b->tr'.get c=tr.get c)->tr'.get b=some (.cells 4 true true (rP p.reverse))->k (.tup []) ⟨s,0,tr'⟩) :
  SC P f [.own b p.length] ⟨s,0,tr⟩ k:=by
 refine SC.mk hc (ql ?_);have e1:IntKind.wrap .i64 ((p.length:Int)-1)=(p.length:Int)-1:=qu (by omega) (by omega);simp only[zA,vI,simprocAttr];simp +decide only[↓vS,vT,simprocAttr,e1]
 refine SL.loopP (α:=Nat) (fun i=>[(0,.own b p.length),(2,.i .i64 (i:Int)),(3,.i .i64 ((p.length:Int)-1-i))])
  (fun i h=>2*i<=p.length∧∃tr',h=⟨s,0,tr'⟩∧(∀c,c≠b->tr'.get c=tr.get c)∧tr'.get b=some (.cells 4 true true (rP (qe6 p i)))) (fun i=>p.length-i) ?_ 0 ?_ ?_
 ·rintro i h1 ⟨hi,tr',rfl,hold,hrow⟩ G ih;simp only[vI,simprocAttr]
  by_cases hlt:2*i+1<p.length
  ·have hlt':(i:Int)<(p.length:Int)-1-i:=by omega
   have ej:(p.length:Int)-1-i=((p.length-1-i:Nat):Int):=by omega
   obtain⟨x,hx⟩:∃x,(qe6 p i)[i]?=some x:=⟨_,zzE (by rw[qax];omega)⟩;obtain⟨y,hy⟩:∃x,(qe6 p i)[p.length-1-i]?=some x:=⟨_,zzE (by rw[qax];omega)⟩;have hst:=qqQ hlt hx hy;have elx:=qpc hx;have ely:=qpc hy;have lx:i*4+4<=(rP (qe6 p i)).length:=by rw[qdO,qax];omega
   have ly:(p.length-1-i)*4+4<=(rP (qe6 p i)).length:=by rw[qdO,qax];omega
   have lx2:i<p.length:=by omega
   have ly2:p.length-1-i<p.length:=by omega
   have s1:=qpd (l:=qe6 p i) (j:=i) y (by rw[qax];omega);have s2:=qpd (l:=(qe6 p i).set i y) (j:=p.length-1-i) x (by rw[List.length_set,qax];omega);rw[hst] at s2;have ly3:(p.length-1-i)*4+4<=(rP ((qe6 p i).set i y)).length:=by rw[qdO,List.length_set,qax];omega
   simp only[qC,List.cons_append,List.nil_append] at s1 s2 elx ely;have w1:IntKind.wrap .i64 ((i:Int)+1)=((i+1:Nat):Int):=by rw[qu (by omega) (by omega)];simp
   have w2:IntKind.wrap .i64 (((p.length-1-i:Nat):Int)-1)=(p.length:Int)-1-((i+1:Nat):Int):=by rw[qu (by omega) (by omega)];omega
   rw[ej] at hlt' ⊢;simp +decide only[↓vS,vT,simprocAttr,hlt'];refine zT ?_;simp +decide only[↓vS,vT,simprocAttr,lx2,ly2,hrow,elx,ely,lx,ly,s1,ly3,s2,w1,w2];refine ih (i+1) _ _ (by omega) (by simp[qf,qh,Tr.get_set]) ⟨by omega,_,rfl,fun c hc=>?_,by rw[Tr.get_set,if_pos rfl]⟩
   rw[Tr.get_set,if_neg hc,Tr.get_set,if_neg hc];exact hold c hc
  ·have hlt':¬(i:Int)<(p.length:Int)-1-i:=by omega
   simp +decide only[↓vS,vT,simprocAttr,hlt'];rw[qt4 (by omega)] at hrow;exact hk _ hold hrow
 ·simp[qf,qh,Tr.get_set]
 ·exact⟨by omega,tr,rfl,fun _ _=>rfl,by rw[qAH];exact hb⟩
structure LI (kb n:Nat) (back:List Ins) (pl:List Nat) (s:Nat) (tr:Tr Blk) (bb bp:Nat) (far:Int):Prop where
 k:tr.get kb=some (.cells 0 true false [.own bb back.length,.sl bp 0 n n false,.i .i64 far])
 b:tr.get bb=some (.cells 4 true true (rP back))
 p:tr.get bp=some (.cells 0 true false (rNt pl))
 len:pl.length=n
 kb':kb≠bb
 kp:kb≠bp
 bp':bb≠bp
 ks:kb<s
 bs:bb<s
 ps:bp<s
theorem LI.keep{kb n bb bp s s':Nat}{back:List Ins}{pl:List Nat}{tr tr':Tr Blk}{far:Int}(h:LI kb n back pl s tr bb bp far)(hs:s<=s')(e:∀c,c=kb∨c=bb∨c=bp->tr'.get c=tr.get c):LI kb n back pl s' tr' bb bp far :=
 ⟨(e kb (.inl rfl)).trans h.k,(e bb (.inr (.inl rfl))).trans h.b,(e bp (.inr (.inr rfl))).trans h.p,h.len,h.kb',h.kp,h.bp',Nat.lt_of_lt_of_le h.ks hs,Nat.lt_of_lt_of_le h.bs hs,Nat.lt_of_lt_of_le h.ps hs⟩
def z9:IFn:=⟨[.tmp 4],.seq (.r [.m 4 (.k 0)]) (.seq (.reg true [.n 5 0,.q 6 (.nilChk (.t 5)),.f 7 0 6,.d 8 7,.e 9 8,.n 10 0,.q 11 (.nilChk (.t 10)),.f 12 1 11,.d 13 12,.n 14 1,.i 15 1 13 14,.d 16 15,.b 17 .sub 9 16,.n 4 17]) (.ret))⟩
theorem qlt(hc:qc P f z9=true){kb n s fl bb bp:Nat}{back:List Ins}{pl:List Nat}{tr:Tr Blk}{far:Int}{k:AV->Hp->Prop}(h:LI kb n back pl s tr bb bp far){j q:Nat}(hj:pl[j]?=some q)(hq:q<=back.length)(hb:back.length<=1000000)
  (hk:k (.i .i64 ((back.length-q:Nat):Int)) ⟨s,fl,tr⟩):SC P f [.ptr kb 0,.i .i64 (j:Int)] ⟨s,fl,tr⟩ k:=by
 refine SC.mk hc (ql ?_);have hjl:j<n:=by rw[← h.len];exact (zzS.1 hj).1
 have hg:(rNt pl)[j]?=some (.i .i64 (q:Int)):=by rw[qpb,hj];rfl
 have e:IntKind.wrap .i64 ((back.length:Int)-q)=((back.length-q:Nat):Int):=by rw[qu (by omega) (by omega)];omega
 simp only[z9,vI,simprocAttr];simp +decide only[↓vS,vT,simprocAttr];refine zT ?_;simp +decide only[↓vS,vT,simprocAttr,h.k,h.p,hjl,hg,Nat.mul_one,e];exact hk
def xf(a:Nat):IFn:=⟨[.tmp 2],.seq (.r [.q 1 (.box (.t 0)),.m 2 (.c (.nilf))]) (.seq (.r [.q 3 (.mkF a [] [.t 1]),.n 2 3]) (.ret))⟩
theorem qCj{g:Nat}(hc:qc P f (xf g)=true)(l:List Ins):qd P f [.fz l.length (rP l)] (.fn g [] [.pf [.fz l.length (rP l)] 0]):=by
 refine qd.mk hc (by simp[qw,clo,qv]) ?_;simp only[xf,vI,simprocAttr];simp +decide only[↓vS,vT,simprocAttr];simp[vZ,vP,Tr.get_set,zq (qv l)]
def ji(a:Nat):IFn:=⟨[],.seq (.r [.q 2 (.box (.t 0))]) (.seq (.r [.n 6 1,.l 7 a [.t 6]]) (.blk 0 (.rangeF 0 (.t 7) [8,9] (.r [.q 5 (.alloc [.i .u16 0,.i .u8 0,.i .u8 0,.i .u32 0]),.u (.store 4 (.t 5) (.t 9))]) (.blk 1 (.reg true [.d 10 2,.d 11 2,.q 12 (.nilChk (.t 11)),.f 13 0 12,.d 14 13,.v 15 4 5,.q 16 (.buildS 1 [.i .u16 0,.i .u8 0,.i .u8 0,.i .u32 0] [(0,4,(.t 15))]),.q 17 (.appD 4 8 (.t 14) (.t 16) [2]),.q 18 (.nilChk (.t 10)),.f 19 0 18,.u (.store 1 (.t 19) (.t 17))])))))⟩
def puT(s gi:Nat)(l:List Ins):List (Nat×AV):=[(2,.ptr s 0),(7,.fn gi [] [.pf [.fz l.length (rP l)] 0])]
def puA:ICode:=.reg false [⟨some 5,.op (.alloc [.i .u16 0,.i .u8 0,.i .u8 0,.i .u32 0]),none⟩,⟨none,.op (.store 4 (.t 5) (.t 9)),none⟩]
def puB:ICode:=.blk 1 (.reg true [.d 10 2,.d 11 2,.q 12 (.nilChk (.t 11)),.f 13 0 12,.d 14 13,.v 15 4 5,.q 16 (.buildS 1 [.i .u16 0,.i .u8 0,.i .u8 0,.i .u32 0] [(0,4,(.t 15))]),.q 17 (.appD 4 8 (.t 14) (.t 16) [2]),.q 18 (.nilChk (.t 10)),.f 19 0 18,.u (.store 1 (.t 19) (.t 17))])
theorem qtL{kb n s0 s gi bb bp lb:Nat}{back l:List Ins}{pl:List Nat}{r0:Loop}{tr:Tr Blk}{far:Int}{k:AV->Hp->Prop}(hr0:r0.state = .ready)(hp0:r0.pending=none)(hlo:LoopOk P r0 [8,9] puA puB)
  (h:LI kb n back pl s tr bb bp far) (g0:tr.get s0=some (.cells 0 true false [.ptr kb 0])) (gl:tr.get lb=some (.map (zr r0 (puT s0 gi l)))) (hlb:lb<s) (hs0:s0<s) (hn:kb≠lb∧bb≠lb∧bp≠lb∧s0≠lb∧s0≠kb∧s0≠bb) (i:Int) (x:Ins) (hb:back.length<=1000000)
  (hk:∀s' tr' bb',s<=s'->(∀c,c<s->c≠kb->c≠bb->tr'.get c=tr.get c)->s<=bb'->LI kb n (back++[x]) pl s' tr' bb' bp far->k (.b true) ⟨s',0,tr'⟩):SY P lb [.i .i64 i,.agg (qC x)] ⟨s,0,tr⟩ k:=by
 obtain⟨e1,e2,e3,e4,e5,e6⟩:=hn;have hks:=h.ks;have hbs:=h.bs;have hps:=h.ps;have hkb:=h.kb';have hkp:=h.kp;have hbp:=h.bp';refine SY.mk (r:=r0) (ts:=puT s0 gi l) (ps:=[8,9]) gl hr0 hlo (Nat.zero_le _) hlb rfl ?_;rw[show mkT (puT s0 gi l)=(Tr.leaf.set 7 (.fn gi [] [.pf [.fz l.length (rP l)] 0])).set 2 (.ptr s0 0) from rfl]
 refine ql ?_;simp only[qks,puA,qC,vI,simprocAttr];simp +decide only[↓vS,vT,simprocAttr];have n1:¬lb=s:=by omega
 have n2:¬s0=s:=by omega
 have n3:¬kb=s:=by omega
 have n4:¬bb=s:=by omega
 have n5:¬s=lb:=by omega
 have n6:¬s=s+1:=by omega
 have n7:¬s0=s+1:=by omega
 have n8:¬kb=s+1:=by omega
 have n9:¬bb=s+1:=by omega
 have n10:¬s+1=bb:=by omega
 have n11:¬kb=s+1+1:=by omega
 have n12:¬s0=bb:=e6;have n13:¬s=bb:=by omega
 have n14:¬s0=s+1+1:=by omega
 have r1:back.length+1<=qg:=by simp only[qg];omega
 have r2:(back.length+1)*8<=qg:=by simp only[qg];omega
 refine⟨puT s0 gi l,by simp[Tr.get_set,n1,gl],?_⟩
 refine ql ?_;simp only[zW,puB,vI,simprocAttr];simp +decide only[↓vS,vT,simprocAttr];refine zT ?_;simp +decide only[↓vS,vT,simprocAttr,g0,h.k,h.b,e1,e2,e4,n1,n2,n3,n4,n5,n6,n7,n8,n9,n10,n11,n12,n13,n14,hkb,r1,r2,qdO,hbs,e5,e6];refine⟨Go.Kc.bsy r0,puT s0 gi l,?_,?_⟩
 ·simp only[Tr.get_set];rw[if_neg (by omega),if_neg (by omega),if_neg (by omega),if_neg (by omega)];simp
 rw[qhH,qid hr0 hp0];simp only[zW];simp +decide only[↓vS,vT,simprocAttr];refine hk _ _ (s+1+1) (by omega) (fun c q1 q2 q3=>?_) (by omega) ⟨?_,?_,?_,h.len,by omega,hkp,by omega,by omega,by omega,by omega⟩
 ·by_cases hcl:c=lb
  ·subst hcl;rw[Tr.get_set,if_pos rfl,gl]
  ·simp only[Tr.get_set];repeat rw[if_neg (by omega)]
 ·simp only[Tr.get_set];rw[if_neg e1];simp
 ·simp only[Tr.get_set];rw[if_neg (by omega),if_neg (by omega)];simp[rP,qC]
 ·simp only[Tr.get_set];repeat rw[if_neg (by omega)]
  exact h.p
theorem qoT{gB gi kb n s bb bp bx:Nat}{back l:List Ins}{pl:List Nat}{tr:Tr Blk}{far:Int}{k:AV->Hp->Prop}(hc:qc P f (ji gB)=true)(hB:∀l:List Ins,qd P gB [.fz l.length (rP l)] (.fn gi [] [.pf [.fz l.length (rP l)] 0]))(hi:qc P gi qG=true)
  (h:LI kb n back pl s tr bb bp far) (hx:tr.get bx=some (.cells 0 true false (rP l))) (hn:bx≠kb∧bx≠bb∧bx≠bp) (hxs:bx<s) (hl:l.length<=10) (hb:back.length<=900000)
  (hk:∀s' tr' bb',s<=s'->(∀c,c<s->c≠kb->c≠bb->c≠bx->tr'.get c=tr.get c)->(bb'=bb∨s<=bb')->LI kb n (back++l.reverse) pl s' tr' bb' bp far->k (.tup []) ⟨s',0,tr'⟩):SC P f [.ptr kb 0,.sl bx 0 l.length l.length false] ⟨s,0,tr⟩ k:=by
 obtain⟨x1,x2,x3⟩:=hn;have hks:=h.ks;have hbs:=h.bs;have hps:=h.ps;refine SC.mk hc (ql ?_);simp only[ji,vI,simprocAttr];simp +decide only[↓vS,vT,simprocAttr];refine (hB l).give [(bx,.cells 0 true false (rP l))] ?_ (by simp[clo,qw,qv]) ?_ ?_
 ·intro p hp;rw[List.mem_singleton] at hp;subst hp;refine⟨?_,Nat.zero_le _⟩;rw[Tr.get_set,if_neg (by show ¬bx=s;omega)];exact hx
 ·refine qaN.2 ⟨Frz.cut 4 rfl (Nat.le_refl _) ?_,qex.2 trivial⟩;simp[trP,Tr.get_set,vP,qdO];rw[List.take_of_length_le (by rw[qdO];omega)];exact Frzs.self (qv l)
 simp only[qkQ,qm0,zW];simp +decide only[↓vS,vT,simprocAttr];refine S.rangeFL (ts:=puT s gi l) (Nat.zero_le _) (by intro p hp;simp only[puT,List.mem_cons,List.not_mem_nil,or_false] at hp;rcases hp with rfl|rfl<;>simp[Tr.get_set]) ⟨rfl,rfl⟩ ?_;refine qkE.2 ⟨.fn gi [] [.pf [.fz l.length (rP l)] 0],by simp[Tr.get_set],?_⟩
 refine⟨qfe hi,fun r0 hr0 hp0 hlo=>⟨r0,.inl ⟨rfl,hlo.real⟩,?_⟩⟩
 have hlo:LoopOk P r0 [8,9] puA puB:=hlo
 have old:∀c,c<s->c≠bx->((((tr.set s (.cells 0 true false [.ptr kb 0])).set bx .dead).set (s+1) (.map (zr r0 (puT s gi l))))).get c=tr.get c:=fun c h1 h2=>by
  simp only[Tr.get_set];repeat rw[if_neg (by omega)]
 refine qaa (c:=qC) hi qaL (by omega) (fun i h=>i<=l.length∧∃s' tr' bb',h=⟨s',0,tr'⟩∧s+2<=s'∧(∀c,c<s->c≠kb->c≠bb->c≠bx->tr'.get c=tr.get c)∧(bb'=bb∨s+2<=bb')∧LI kb n (back++(l.drop i).reverse) pl s' tr' bb' bp far∧tr'.get s=some (.cells 0 true false [.ptr kb 0])∧tr'.get (s+1)=some (.map (zr r0 (puT s gi l)))) ?_ ?_ ?_
 ·rintro i x hh hx ⟨hil,s',tr',bb',rfl,q1,q2,q3,q4,q5,q6⟩ k hk;have hd:l.drop i=x::l.drop (i+1):=by rw[← (zzS.1 hx).2,List.getElem_cons_drop]
  refine qtL (s0:=s) (lb:=s+1) hr0 hp0 hlo q4 q5 q6 (by omega) (by omega) ⟨by omega,by omega,by omega,by omega,by omega,by omega⟩ _ x (by simp;omega) fun s2 t2 b2 p1 p2 p3 p4=>hk _ ⟨by omega,s2,t2,b2,rfl,by omega,fun c c1 c2 c3 c4=>?_,by omega,?_,?_,?_⟩
  ·rw[p2 c (by omega) c2 (by omega)];exact q2 c c1 c2 c3 c4
  ·rw[hd,List.reverse_cons,← List.append_assoc];exact p4
  ·rw[p2 s (by omega) (by omega) (by omega)];exact q5
  ·rw[p2 (s+1) (by omega) (by omega) (by omega)];exact q6
 ·refine⟨Nat.le_refl _,s+1+1,_,bb,rfl,by omega,fun c c1 c2 c3 c4=>old c c1 c4,.inl rfl,?_,?_,?_⟩
  ·rw[List.drop_length];simp only[List.reverse_nil,List.append_nil];refine h.keep (by omega) fun c hc=>old c ?_ ?_
   ·rcases hc with rfl|rfl|rfl<;>omega
   ·rcases hc with rfl|rfl|rfl<;>omega
  ·show ((((tr.set s (.cells 0 true false [.ptr kb 0])).set bx .dead).set (s+1) (.map (zr r0 (puT s gi l))))).get s=_;simp only[Tr.get_set];rw[if_neg (by omega),if_neg (by omega)];simp
  ·show ((((tr.set s (.cells 0 true false [.ptr kb 0])).set bx .dead).set (s+1) (.map (zr r0 (puT s gi l))))).get (s+1)=_;rw[Tr.get_set,if_pos rfl]
 ·rintro hh ⟨_,s',tr',bb',rfl,q1,q2,q3,q4,q5,q6⟩;refine⟨r0,puT s gi l,q6,by rw[hr0];decide,?_⟩
  rw[hp0];simp only[zW];simp only[↓vS,vT,simprocAttr];refine hk _ _ bb' (by omega) (fun c c1 c2 c3 c4=>?_) (by omega) ?_
  ·rw[Tr.get_set,if_neg (by show ¬c=s+1;omega)];exact q2 c c1 c2 c3 c4
  ·have hq:=q4;rw[List.drop_zero] at hq;refine hq.keep (Nat.le_refl _) fun c hc=>?_
   have:c≠s+1:=by rcases hc with rfl|rfl|rfl<;>omega
   rw[Tr.get_set,if_neg this]
def jp(n:Nat)(pl:List Nat)(x:Sy):List Ins :=
 if x.code=5 then [⟨5,0,0,(n-pl.getD x.th 0:Nat)⟩] else if qk x.code≠4 then [⟨x.code,0,0,x.k⟩] else
  if max (n-pl.getD x.th 0) (n-pl.getD x.el 0)<=255 then [⟨x.code,(n-pl.getD x.th 0:Nat),(n-pl.getD x.el 0:Nat),x.k⟩] else
   [⟨x.code,0,1,x.k⟩,⟨5,0,0,(n-pl.getD x.th 0+1:Nat)⟩,⟨5,0,0,(n-pl.getD x.el 0:Nat)⟩]
theorem qm3{n:Nat}{pl:List Nat}{x:Sy}:(jp n pl x).length<=3∧1<=(jp n pl x).length:=by
 unfold jp;repeat' split
 all_goals simp
def qaZ(a b c:Nat):IFn:=⟨[],.seq (.r [.q 3 (.box (.t 1))]) (.blk 0 (.seq (.r [.f 53 0 3,.d 54 53,.q 55 (.bin .eql (.t 54) (.c (.i .u16 5))),.n 52 55]) (.cond (.t 52) (.r [.n 56 0,.n 57 0,.f 58 2 3,.d 59 58,.l 60 a [.t 57,.t 59],.q 61 (.cvInt .u32 (.t 60)),.q 62 (.build [.i .u16 0,.i .u8 0,.i .u8 0,.i .u32 0] [(0,1,(.c (.i .u16 5))),(3,1,(.t 61))]),.q 63 (.buildS 1 [.i .u16 0,.i .u8 0,.i .u8 0,.i .u32 0] [(0,4,(.t 62))]),.l 64 b [.t 56,.t 63]]) (.seq (.r [.f 66 0 3,.d 67 66,.l 68 c [.t 67],.q 69 (.bin .neq (.t 68) (.c (.i .u8 4))),.n 65 69]) (.cond (.t 65) (.r [.n 70 0,.f 71 0 3,.d 72 71,.f 73 1 3,.d 74 73,.q 75 (.build [.i .u16 0,.i .u8 0,.i .u8 0,.i .u32 0] [(0,1,(.t 72)),(3,1,(.t 74))]),.q 76 (.buildS 1 [.i .u16 0,.i .u8 0,.i .u8 0,.i .u32 0] [(0,4,(.t 75))]),.l 77 b [.t 70,.t 76]]) (.seq (.reg true [.n 6 0,.f 7 2 3,.d 8 7,.l 9 a [.t 6,.t 8],.n 10 0,.f 11 3 3,.d 12 11,.l 13 a [.t 10,.t 12],.n 4 9,.n 5 13]) (.seq (.seq (.r [.n 14 4,.n 15 5,.q 16 (.max (.t 14) (.t 15)),.w 17 .leq 16 255]) (.cond (.t 17) (.seq (.r [.n 18 0,.f 19 0 3,.d 20 19,.n 21 4,.q 22 (.cvInt .u8 (.t 21)),.n 23 5,.q 24 (.cvInt .u8 (.t 23)),.f 25 1 3,.d 26 25,.q 27 (.build [.i .u16 0,.i .u8 0,.i .u8 0,.i .u32 0] [(0,1,(.t 20)),(1,1,(.t 22)),(2,1,(.t 24)),(3,1,(.t 26))]),.q 28 (.buildS 1 [.i .u16 0,.i .u8 0,.i .u8 0,.i .u32 0] [(0,4,(.t 27))]),.l 29 b [.t 18,.t 28]]) (.ret)) (.skip))) (.seq (.r [.n 30 0,.q 31 (.nilChk (.t 30)),.f 32 2 31,.d 33 32,.a 34 33 1,.q 35 (.nilChk (.t 30)),.f 36 2 35,.u (.store 1 (.t 36) (.t 34))]) (.r [.n 37 0,.f 38 0 3,.d 39 38,.f 40 1 3,.d 41 40,.q 42 (.build [.i .u16 0,.i .u8 0,.i .u8 0,.i .u32 0] [(0,1,(.t 39)),(2,1,(.c (.i .u8 1))),(3,1,(.t 41))]),.n 43 4,.q 44 (.cvInt .u32 (.t 43)),.q 45 (.bin .add (.t 44) (.c (.i .u32 1))),.q 46 (.build [.i .u16 0,.i .u8 0,.i .u8 0,.i .u32 0] [(0,1,(.c (.i .u16 5))),(3,1,(.t 45))]),.n 47 5,.q 48 (.cvInt .u32 (.t 47)),.q 49 (.build [.i .u16 0,.i .u8 0,.i .u8 0,.i .u32 0] [(0,1,(.c (.i .u16 5))),(3,1,(.t 48))]),.q 50 (.buildS 3 [.i .u16 0,.i .u8 0,.i .u8 0,.i .u32 0] [(0,4,(.t 42)),(4,4,(.t 46)),(8,4,(.t 49))]),.l 51 b [.t 37,.t 50]])))))))))⟩
theorem qz6{gD gO gP gB gi kb n s bb bp:Nat}{back:List Ins}{pl:List Nat}{tr:Tr Blk}{far:Int}{k:AV->Hp->Prop}(hc:qc P f (qaZ gD gP gO)=true)(hD:qc P gD z9=true)(hO:cOf P gO)(hP:qc P gP (ji gB)=true)
  (hB:∀l:List Ins,qd P gB [.fz l.length (rP l)] (.fn gi [] [.pf [.fz l.length (rP l)] 0])) (hi:qc P gi qG=true)
  (h:LI kb n back pl s tr bb bp far) (x:Sy) (hb:back.length<=800000) (hj:∀j:Nat,(x.code=5∨qk x.code=4)∧j=x.th∨(qk x.code=4∧x.code≠5)∧j=x.el->∃q,pl[j]?=some q∧q<=back.length)
  (hk:∀s' tr' bb' far',s<=s'->(∀c,c<s->c≠kb->c≠bb->tr'.get c=tr.get c)->(bb'=bb∨s<=bb')->LI kb n (back++(jp back.length pl x).reverse) pl s' tr' bb' bp far'->k (.tup []) ⟨s',0,tr'⟩):SC P f [.ptr kb 0,.agg (cSy x)] ⟨s,0,tr⟩ k:=by
 have hks:=h.ks;have hbs:=h.bs;have hps:=h.ps;have hkb:=h.kb';have hkp:=h.kp;have hbp:=h.bp'
 have h1:∀(y:Blk),LI kb n back pl (s+1) (tr.set s y) bb bp far:=fun y=>h.keep (by omega) fun c hc=>by
  rw[Tr.get_set,if_neg (by rcases hc with rfl|rfl|rfl<;>omega)]
 have h2:∀(y z:Blk),LI kb n back pl (s+1+1) ((tr.set s y).set (s+1) z) bb bp far:=fun y z=>(h1 y).keep (by omega) fun c hc=>by
  rw[Tr.get_set,if_neg (by rcases hc with rfl|rfl|rfl<;>omega)]
 have n1:¬s=s+1:=by omega
 have put:∀(y z:Blk) (l:List Ins),z = .cells 0 true false (rP l)->l.length<=10->jp back.length pl x=l->∀k2:AV->Hp->Prop,(∀h,k (.tup []) h->k2 (.tup []) h)->SC P gP [.ptr kb 0,.sl (s+1) 0 l.length l.length false] ⟨s+1+1,0,(tr.set s y).set (s+1) z⟩ k2:=fun y z l hz hl he k2 hk2=>by
  refine qoT hP hB hi (h2 y z) (by rw[Tr.get_set,if_pos rfl,hz]) ⟨by omega,by omega,by omega⟩ (by omega) hl (by omega) fun s' tr' bb' q1 q2 q3 q4=>hk2 _ (hk s' tr' bb' far (by omega) (fun c c1 c2 c3=>?_) (by omega) (by rw[he];exact q4))
  rw[q2 c (by omega) c2 c3 (by omega)];simp only[Tr.get_set];rw[if_neg (by omega),if_neg (by omega)]
 refine SC.mk hc (ql ?_);simp only[qaZ,cSy,vI,simprocAttr]
 by_cases h5:x.code=5
 ·obtain⟨q,hq,hql⟩:=hj x.th (.inl ⟨.inl h5,rfl⟩);have hqD:pl.getD x.th 0=q:=by rw[List.getD_eq_getElem?_getD,hq];rfl
  have he:jp back.length pl x=[⟨5,0,0,((back.length-q:Nat):Int)⟩]:=by unfold jp;rw[if_pos h5,hqD]
  have hw:IntKind.wrap .u32 ((back.length-q:Nat):Int)=((back.length-q:Nat):Int):=qcC (by omega) (by omega);simp +decide only[↓vS,vT,simprocAttr,eq_true h5];refine qlt hD (h1 _) hq hql (by omega) ?_;simp +decide only[↓vS,vT,simprocAttr,hw];exact put _ _ [⟨5,0,0,((back.length-q:Nat):Int)⟩] (by simp[rP,qC]) (by simp) he _ fun h hv=>by simp +decide only[↓vS,vT,simprocAttr];exact hv
 ·by_cases hc4:qk x.code=4
  ·obtain⟨q,hq,hql⟩:=hj x.th (.inl ⟨.inr hc4,rfl⟩);obtain⟨r,hr,hrl⟩:=hj x.el (.inr ⟨⟨hc4,h5⟩,rfl⟩);have hqD:pl.getD x.th 0=q:=by rw[List.getD_eq_getElem?_getD,hq];rfl
   have hrD:pl.getD x.el 0=r:=by rw[List.getD_eq_getElem?_getD,hr];rfl
   simp +decide only[↓vS,vT,simprocAttr,h5];refine (hO x.code).sc ?_;simp +decide only[↓vS,vT,simprocAttr,hc4];refine zT ?_;simp +decide only[↓vS,vT,simprocAttr];refine⟨_,_,fun k' hk'=>qlt hD (h1 _) hq hql (by omega) hk',?_⟩
   simp +decide only[↓vS,vT,simprocAttr];refine⟨_,_,fun k' hk'=>qlt hD (h1 _) hr hrl (by omega) hk',?_⟩
   have he:jp back.length pl x=if max (back.length-q) (back.length-r)<=255 then [⟨x.code,((back.length-q:Nat):Int),((back.length-r:Nat):Int),x.k⟩] else [⟨x.code,0,1,x.k⟩,⟨5,0,0,((back.length-q+1:Nat):Int)⟩,⟨5,0,0,((back.length-r:Nat):Int)⟩]:=by
    unfold jp;rw[if_neg h5,if_neg (by simp[hc4]),hqD,hrD]
   obtain⟨a,ha⟩:∃a,a=back.length-q:=⟨_,rfl⟩;obtain⟨b,hb'⟩:∃b,b=back.length-r:=⟨_,rfl⟩;rw[← ha,← hb'] at he ⊢;have hal:a<=800000:=by omega
   have hbl:b<=800000:=by omega
   simp +decide only[↓vS,vT,simprocAttr];have hmx:(if a<b then (b:Int) else a)=((max a b:Nat):Int):=by split<;>omega
   rw[hmx]
   by_cases hm:max a b<=255
   ·have hm':((max a b:Nat):Int)<=255:=by omega
    rw[if_pos hm] at he;have w1:IntKind.wrap .u8 (a:Int)=a:=quC (by omega) (by omega);have w2:IntKind.wrap .u8 (b:Int)=b:=quC (by omega) (by omega);simp +decide only[↓vS,vT,simprocAttr,hm'];rw[w1,w2];exact put _ _ [⟨x.code,(a:Int),(b:Int),x.k⟩] (by simp[rP,qC]) (by simp) he _ fun h hv=>by simp +decide only[↓vS,vT,simprocAttr];exact hv
   ·have hm':¬((max a b:Nat):Int)<=255:=by omega
    rw[if_neg hm] at he;have w1:IntKind.wrap .u32 (a:Int)=a:=qcC (by omega) (by omega);have w2:IntKind.wrap .u32 (b:Int)=b:=qcC (by omega) (by omega);have w3:IntKind.wrap .u32 ((a:Int)+1)=((a+1:Nat):Int):=by rw[qcC (by omega) (by omega)];simp
    have n2:¬kb=s:=by omega
    have n3:¬s=kb:=by omega
    simp +decide only[↓vS,vT,simprocAttr,hm',w1,w2,w3,h.k,n2,n3,n1];refine qoT hP hB hi (l:=[⟨x.code,0,1,x.k⟩,⟨5,0,0,((a+1:Nat):Int)⟩,⟨5,0,0,((b:Nat):Int)⟩]) (far:=IntKind.wrap .i64 (far+1)) (s:=s+1+1) (bb:=bb) (bp:=bp) (n:=n) (pl:=pl) (back:=back) ⟨?_,?_,?_,h.len,hkb,hkp,hbp,by omega,by omega,by omega⟩ ?_ ⟨by omega,by omega,by omega⟩ (by omega) (by simp) (by omega) fun s' tr' bb' q1 q2 q3 q4=>?_
    ·simp only[Tr.get_set];rw[if_neg (by omega)];simp
    ·simp only[Tr.get_set];rw[if_neg (by omega),if_neg (by omega),if_neg (by omega)];exact h.b
    ·simp only[Tr.get_set];rw[if_neg (by omega),if_neg (by omega),if_neg (by omega)];exact h.p
    ·rw[Tr.get_set,if_pos rfl];simp[rP,qC]
    ·simp +decide only[↓vS,vT,simprocAttr];refine hk s' tr' bb' _ (by omega) (fun c c1 c2 c3=>?_) (by omega) (by rw[he];exact q4)
     rw[q2 c (by omega) c2 c3 (by omega)];simp only[Tr.get_set];rw[if_neg (by omega),if_neg c2,if_neg (by omega)]
  ·have he:jp back.length pl x=[⟨x.code,0,0,x.k⟩]:=by unfold jp;rw[if_neg h5,if_pos hc4]
   simp +decide only[↓vS,vT,simprocAttr,h5];refine (hO x.code).sc ?_;simp +decide only[↓vS,vT,simprocAttr,hc4];exact put _ _ [⟨x.code,0,0,x.k⟩] (by simp[rP,qC]) (by simp) he _ fun h hv=>by simp +decide only[↓vS,vT,simprocAttr];exact hv
def zj(l:List Sy):Nat->List Ins×List Nat
 | 0=>([],List.replicate l.length 0)
 | m+1=>match l[l.length-(m+1)]? with
  | some x=>((zj l m).1++(jp (zj l m).1.length (zj l m).2 x).reverse,(zj l m).2.set (l.length-(m+1)) ((zj l m).1++(jp (zj l m).1.length (zj l m).2 x).reverse).length)
  | none=>zj l m
theorem qfX{l:List Sy}:∀m,(zj l m).2.length=l.length∧(∀q ∈ (zj l m).2,q<=(zj l m).1.length)∧(zj l m).1.length<=3*m
 | 0=>by
  refine⟨by simp[zj],fun q hq=>?_,by simp[zj]⟩
  simp only[zj,List.mem_replicate] at hq;omega
 | m+1=>by
  obtain⟨h1,h2,h3⟩:=qfX (l:=l) m;unfold zj;split
  ·rename_i x hx;refine⟨by simp[h1],fun q hq=>?_,?_⟩
   ·rcases List.mem_or_eq_of_mem_set hq with hq|hq
    ·have:=h2 q hq;simp;omega
    ·rw[hq];exact Nat.le_refl _
   ·have:=(qm3 (n:=(zj l m).1.length) (pl:=(zj l m).2) (x:=x)).1;simp;omega
  ·exact⟨h1,h2,by omega⟩
def xl(l:List Sy):List Ins:=(zj l l.length).1.reverse
theorem qwL{l:List Nat}{j v:Nat}(hj:j<l.length):(rNt l).take j ++ .i .i64 (v:Int)::(rNt l).drop (j+1)=rNt (l.set j v):=by
 rw[List.set_eq_take_append_cons_drop,if_pos hj];simp[rNt,List.map_take,List.map_drop]
def qbq(a b c:Nat):ICode:=.seq (.r [.d 33 4,.n 2 33,.m 3 .T]) (.ret)
def qc0(a b c:Nat):IFn:=⟨[.tmp 2,.tmp 3],.seq (.r [.m 2 (.c (.nilp)),.m 3 .F]) (.seq (.seq (.r [.n 7 0,.l 8 a [.t 7],.q 9 (.un .not (.t 8))]) (.cond (.t 9) (.seq (.r [.m 2 (.c (.nilp)),.m 3 .F]) (.ret)) (.skip))) (.seq (.r [.n 10 0,.e 11 10,.q 12 (.mkS 1 8 [.i .i64 0] (.t 11) (.t 11)),.q 13 (.build [.nils,.nils,.i .i64 0] [(1,1,(.t 12))]),.q 14 (.box (.t 13)),.q 4 (.alloc [.nilp]),.u (.store 1 (.t 4) (.t 14))]) (.seq (.seq (.r [.n 15 0,.l 16 b [.t 15]]) (.blk 0 (.rangeF 0 (.t 16) [17,18] (.seq (.r [.n 5 17]) (.r [.q 6 (.alloc [.i .u16 0,.i .u32 0,.i .i64 0,.i .i64 0]),.u (.store 4 (.t 6) (.t 18))])) (.blk 1 (.seq (.r [.d 19 4,.v 20 4 6,.l 21 c [.t 19,.t 20]]) (.reg true [.d 22 4,.q 23 (.nilChk (.t 22)),.f 24 1 23,.d 25 24,.n 26 5,.d 27 4,.q 28 (.nilChk (.t 27)),.f 29 0 28,.d 30 29,.e 31 30,.i 32 1 25 26,.u (.store 1 (.t 32) (.t 31))])))))) (.cut (qbq a b c)))))⟩
def liT(gi:Nat)(l:List Sy):List (Nat×AV):=[(4,.ptr 2 0),(16,.fn gi [] [.pf [.fz l.length (rSy l)] 0])]
def liA:ICode:=.seq (.reg false [⟨some 5,.op (.mov (.t 17)),none⟩]) (.reg false [⟨some 6,.op (.alloc [.i .u16 0,.i .u32 0,.i .i64 0,.i .i64 0]),none⟩,⟨none,.op (.store 4 (.t 6) (.t 18)),none⟩])
def liB(g1:Nat):ICode:=.blk 1 (.seq (.r [.d 19 4,.v 20 4 6,.l 21 g1 [.t 19,.t 20]]) (.reg true [.d 22 4,.q 23 (.nilChk (.t 22)),.f 24 1 23,.d 25 24,.n 26 5,.d 27 4,.q 28 (.nilChk (.t 27)),.f 29 0 28,.d 30 29,.e 31 30,.i 32 1 25 26,.u (.store 1 (.t 32) (.t 31))]))
def qva(P:Program)(g:Nat):Prop:=∀(kb n s bb bp:Nat) (back:List Ins) (pl:List Nat) (tr:Tr Blk) (far:Int) (k:AV->Hp->Prop),LI kb n back pl s tr bb bp far->∀x:Sy,back.length<=800000->(∀j:Nat,(x.code=5∨qk x.code=4)∧j=x.th∨(qk x.code=4∧x.code≠5)∧j=x.el->∃q,pl[j]?=some q∧q<=back.length)->
 (∀s' tr' bb' far',s<=s'->(∀c,c<s->c≠kb->c≠bb->tr'.get c=tr.get c)->(bb'=bb∨s<=bb')->LI kb n (back++(jp back.length pl x).reverse) pl s' tr' bb' bp far'->k (.tup []) ⟨s',0,tr'⟩)->SC P g [.ptr kb 0,.agg (cSy x)] ⟨s,0,tr⟩ k
theorem qsW{gi g1 s bb n:Nat}{back:List Ins}{pl:List Nat}{l:List Sy}{r0:Loop}{tr:Tr Blk}{far:Int}{k:AV->Hp->Prop}(h1:qva P g1)(hr0:r0.state = .ready)(hp0:r0.pending=none)(hlo:LoopOk P r0 [17,18] liA (liB g1))
  (h:LI 1 n back pl s tr bb 0 far) (g2:tr.get 2=some (.cells 0 true false [.ptr 1 0])) (g4:tr.get 4=some (.map (zr r0 (liT gi l)))) (hs:5<=s) (hb3:3<=bb) (hb4:bb≠4) (hb:back.length<=800000) (i:Nat) (hi:i<n) (x:Sy)
  (hj:∀j:Nat,(x.code=5∨qk x.code=4)∧j=x.th∨(qk x.code=4∧x.code≠5)∧j=x.el->∃q,pl[j]?=some q∧q<=back.length)
  (hk:∀s' tr' bb' far',5<=s'->LI 1 n (back++(jp back.length pl x).reverse) (pl.set i (back++(jp back.length pl x).reverse).length) s' tr' bb' 0 far'->tr'.get 2=some (.cells 0 true false [.ptr 1 0])->tr'.get 4=some (.map (zr r0 (liT gi l)))->3<=bb'->bb'≠4->k (.b true) ⟨s',0,tr'⟩) :
  SY P 4 [.i .i64 (i:Int),.agg (cSy x)] ⟨s,0,tr⟩ k:=by
 have hbs:=h.bs;refine SY.mk (r:=r0) (ts:=liT gi l) (ps:=[17,18]) g4 hr0 hlo (Nat.zero_le _) (by show 4<s;omega) rfl ?_;rw[show mkT (liT gi l)=(Tr.leaf.set 16 (.fn gi [] [.pf [.fz l.length (rSy l)] 0])).set 4 (.ptr 2 0) from rfl]
 refine ql ?_;simp only[qks,liA,cSy,vI,simprocAttr];simp +decide only[↓vS,vT,simprocAttr];have n1:¬4=s:=by omega
 have n2:¬2=s:=by omega
 have n3:¬s=4:=by omega
 refine⟨liT gi l,by simp[Tr.get_set,n1,g4],?_⟩
 refine ql ?_;simp only[zW,liB,vI,simprocAttr];have e24:¬(2:Nat)=4:=by decide
 simp +decide only[↓vS,vT,simprocAttr,g2,e24,n2,n3]
 have old:∀c,c<s->c≠4->(((tr.set s (.cells 0 true false [.i .u16 0,.i .u32 0,.i .i64 0,.i .i64 0])).set s (.cells 0 true false [.i .u16 x.code,.i .u32 x.k,.i .i64 (x.th:Int),.i .i64 (x.el:Int)])).set 4 (.map (zr (Go.Kc.bsy r0) (liT gi l)))).get c=tr.get c:=fun c h1 h2=>by
  simp only[Tr.get_set];repeat rw[if_neg (by omega)]
 refine h1 1 n (s+1) bb 0 back pl _ far _ (h.keep (by omega) fun c hc=>old c (by rcases hc with rfl|rfl|rfl<;>omega) (by rcases hc with rfl|rfl|rfl<;>omega)) x hb hj fun s' tr' bb' far' q1 q2 q3 q4=>?_
 have g2':tr'.get 2=some (.cells 0 true false [.ptr 1 0]):=by rw[q2 2 (by omega) (by omega) (by omega),old 2 (by omega) (by omega)];exact g2
 have g4':tr'.get 4=some (.map (zr (Go.Kc.bsy r0) (liT gi l))):=by rw[q2 4 (by omega) (by omega) (by omega),Tr.get_set,if_pos rfl]
 obtain⟨B,hB⟩:∃B,B=back++(jp back.length pl x).reverse:=⟨_,rfl⟩;rw[← hB] at q4 hk;have hset:=qwL (l:=pl) (j:=i) (v:=B.length) (by rw[q4.len];exact hi);have hpl:i+1<=(rNt pl).length:=by rw[qjb,q4.len];omega
 have hbs':=q4.bs;simp +decide only[↓vS,vT,simprocAttr];refine zT ?_;simp +decide only[↓vS,vT,simprocAttr,g2',q4.k,q4.p,hi,hpl,hset,Nat.mul_one];refine⟨Go.Kc.bsy r0,liT gi l,by rw[Tr.get_set,if_neg (by decide)];exact g4',?_⟩
 rw[qhH,qid hr0 hp0];simp only[zW];simp +decide only[↓vS,vT,simprocAttr];have hb':bb'≠4:=by omega
 refine hk s' _ bb' far' (by omega) ⟨?_,?_,?_,?_,by omega,by omega,by omega,by omega,by omega,by omega⟩ ?_ ?_ (by omega) hb'
 ·rw[Tr.get_set,if_neg (by decide),Tr.get_set,if_neg (by decide)];exact q4.k
 ·rw[Tr.get_set,if_neg hb',Tr.get_set,if_neg (by omega)];exact q4.b
 ·rw[Tr.get_set,if_neg (by decide),Tr.get_set,if_pos rfl]
 ·rw[List.length_set];exact q4.len
 ·rw[Tr.get_set,if_neg (by decide),Tr.get_set,if_neg (by decide)];exact g2'
 ·rw[Tr.get_set,if_pos rfl]
theorem qqn{n0 g1 g2 g3 s:Nat}{tr:Tr Blk}{t:Tr AV}{k:AV->Hp->Prop}(ht:t.get 4=some (.ptr 2 0))(h2:tr.get 2=some (.cells 0 true false [.ptr 1 0]))(hk:k (.tup [.ptr 1 0,.b true]) ⟨s,0,tr⟩) :
  S P n0 (qbq g1 g2 g3) (qam [.tmp 2,.tmp 3] k) t ⟨s,0,tr⟩:=by
 refine S.has [(4,.ptr 2 0)] (by simp[qf,qh,ht]) (ql ?_);simp only[qbq,vI,simprocAttr];simp +decide only[↓vS,vT,simprocAttr,h2];exact hk
theorem qqo{gM gB g1 gi:Nat}(hc:qc P f (qc0 gM gB g1)=true)(l:List Sy)(hm:qd P gM [.fz l.length (rSy l)] (.b true))(hB:∀l:List Sy,qd P gB [.fz l.length (rSy l)] (.fn gi [] [.pf [.fz l.length (rSy l)] 0]))(hi:qc P gi qA=true)
  (h1:qva P g1) (hl:l.length<=200000) (hin:∀x ∈ l,∀j:Nat,(x.code=5∨qk x.code=4)∧j=x.th∨(qk x.code=4∧x.code≠5)∧j=x.el->j<l.length) {k:AV->Hp->Prop}
  (hk:∀s tr bb far,LI 1 l.length (zj l l.length).1 (zj l l.length).2 s tr bb 0 far->k (.tup [.ptr 1 0,.b true]) ⟨s,0,tr⟩):SC P f [.fz l.length (rSy l)] ⟨0,0,.leaf⟩ k:=by
 refine SC.mk hc (ql ?_);have r1:l.length<=qg:=by simp only[qg];omega
 have r2:8*l.length<=qg:=by simp only[qg];omega
 have hz:(List.replicate l.length [AV.i .i64 0]).flatten=rNt (List.replicate l.length 0):=by simp[rNt]
 simp only[qc0,vI,simprocAttr];simp +decide only[↓vS,vT,simprocAttr];refine hm.sc ?_;simp +decide only[↓vS,vT,simprocAttr,r1,r2,hz];refine (hB l).sc ?_;simp +decide only[↓vS,vT,simprocAttr];refine S.weak (Wk.mk (liT gi l) [.cells 0 true false (rNt (List.replicate l.length 0)),.cells 0 true false [.own 3 0,.sl 0 0 l.length l.length false,.i .i64 0],.cells 0 true false [.ptr 1 0],.cells 4 true true []] [0,1,2,99] ?_ ?_ ?_ rfl) ?_
 ·simp[vw,liT,zq qS,qi,qS]
 ·simp[vw,qi,qR]
 ·simp
 refine S.rangeF (by simp[qh6]) (by simp[liT]) ⟨rfl,rfl⟩ ?_;refine qkE.2 ⟨.fn gi [] [.pf [.fz l.length (rSy l)] 0],by simp[liT,mkT,Tr.get_set],?_⟩
 refine⟨qfe hi,fun r0 hr0 hp0 hlo=>?_⟩
 have hlo:LoopOk P r0 [17,18] liA (liB g1):=hlo;refine zZ (c:=cSy) hi qdf (by omega) (fun i h=>i<=l.length∧∃s tr bb far,h=⟨s,0,tr⟩∧5<=s∧LI 1 l.length (zj l (l.length-i)).1 (zj l (l.length-i)).2 s tr bb 0 far∧3<=bb∧bb≠4∧tr.get 2=some (.cells 0 true false [.ptr 1 0])∧tr.get 4=some (.map (zr r0 (liT gi l)))) ?_ ?_ ?_
 ·rintro i x h hx ⟨hil,s,tr,bb,far,rfl,q1,q2,q3,q4,q5,q6⟩ k' hk';have hi':i<l.length:=(zzS.1 hx).1;obtain⟨o1,o2,o3⟩:=qfX (l:=l) (l.length-(i+1));have e:l.length-i=(l.length-(i+1))+1:=by omega
  have e2:l.length-(l.length-(i+1)+1)=i:=by omega
  have e3:zj l (l.length-i)=((zj l (l.length-(i+1))).1++(jp (zj l (l.length-(i+1))).1.length (zj l (l.length-(i+1))).2 x).reverse,(zj l (l.length-(i+1))).2.set i ((zj l (l.length-(i+1))).1++(jp (zj l (l.length-(i+1))).1.length (zj l (l.length-(i+1))).2 x).reverse).length):=by
   rw[e,zj,e2,hx]
  refine qsW h1 hr0 hp0 hlo q2 q5 q6 q1 q3 q4 (by omega) i hi' x (fun j hj=>?_) fun s' tr' bb' far' p1 p2 p3 p4 p5 p6=>hk' _ ⟨by omega,s',tr',bb',far',rfl,p1,by rw[e3];exact p2,p5,p6,p3,p4⟩
  have hjl:=hin x (zzM hx) j hj;obtain⟨q,hq⟩:∃q,(zj l (l.length-(i+1))).2[j]?=some q:=⟨_,zzE (by omega)⟩;exact⟨q,hq,o2 q (zzM hq)⟩
 ·refine⟨Nat.le_refl _,5,_,3,0,rfl,Nat.le_refl _,⟨?_,?_,?_,?_,by decide,by decide,by decide,by decide,by decide,by decide⟩,by decide,by decide,?_,?_⟩<;>simp[Tr.get_set,qmQ,mkH,trL,zj,rP,Hp.push]
 ·rintro h ⟨_,s,tr,bb,far,rfl,q1,q2,q3,q4,q5,q6⟩;rw[Nat.sub_zero] at q2;refine⟨r0,liT gi l,q6,by rw[hr0];decide,?_⟩
  rw[hp0];simp only[zW];simp only[↓vS,vT,simprocAttr];refine qqn (by simp[liT,mkT,Tr.get_set]) ?_ (hk _ _ bb far ?_)
  ·show (tr.set 4 .dead).get 2=_;rw[Tr.get_set,if_neg (by decide)];exact q5
  ·refine q2.keep (Nat.le_refl _) fun c hc=>?_
   have:c≠4:=by rcases hc with rfl|rfl|rfl<;>omega
   rw[Tr.get_set,if_neg (by exact this)]
def qeB(a b:Nat):IFn:=⟨[.tmp 2,.tmp 3],.seq (.r [.m 2 .N,.m 3 (.k 0)]) (.seq (.r [.n 7 0,.l 8 a [.t 7],.n 6 8,.x 9 6 0,.x 10 6 1,.n 4 9,.n 5 10]) (.seq (.blk 0 (.seq (.r [.n 12 5,.q 13 (.un .not (.t 12)),.n 11 13]) (.cond (.t 11) (.seq (.r [.m 2 .N,.m 3 (.k 250)]) (.ret)) (.seq (.r [.n 15 4,.q 16 (.nilChk (.t 15)),.f 17 0 16,.d 18 17,.e 19 18,.w 20 .gtr 19 4096,.n 14 20]) (.cond (.t 14) (.seq (.r [.m 2 .N,.m 3 (.k 270)]) (.ret)) (.skip)))))) (.seq (.r [.n 21 4,.q 22 (.nilChk (.t 21)),.f 23 0 22,.d 24 23,.l 25 b [.t 24]]) (.seq (.r [.n 26 4,.q 27 (.nilChk (.t 26)),.f 28 0 27,.d 29 28,.n 2 29,.m 3 (.k 0)]) (.ret)))))⟩
def qg6(l:List Sy):AV:=if 4096<(xl l).length then .tup [.fz 0 [],.i .i64 270] else .tup [.fz (xl l).length (rP (xl l)),.i .i64 0]
theorem qql{g1 g2:Nat}(hc:qc P f (qeB g1 g2)=true)(l:List Sy)(hl:l.length<=200000)
  (h1:∀k:AV->Hp->Prop,(∀s tr bb far,LI 1 l.length (zj l l.length).1 (zj l l.length).2 s tr bb 0 far->k (.tup [.ptr 1 0,.b true]) ⟨s,0,tr⟩)->SC P g1 [.fz l.length (rSy l)] ⟨0,0,.leaf⟩ k)
  (h2:∀(s b:Nat) (tr:Tr Blk) (p:List Ins),p.length<=1000000->∀k:AV->Hp->Prop,tr.get b=some (.cells 4 true true (rP p))->(∀tr',(∀c,c≠b->tr'.get c=tr.get c)->tr'.get b=some (.cells 4 true true (rP p.reverse))->k (.tup []) ⟨s,0,tr'⟩)->SC P g2 [.own b p.length] ⟨s,0,tr⟩ k) :
  qd P f [.fz l.length (rSy l)] (qg6 l):=by
 have hlen:=(qfX (l:=l) l.length).2.2;refine qd.mk hc (by simp[qw,clo,qS]) ?_;simp only[qeB,vI,simprocAttr];simp +decide only[↓vS,vT,simprocAttr];refine h1 _ fun s tr bb far h=>?_
 have hll:(xl l).length=(zj l l.length).1.length:=by simp[xl]
 unfold qg6;rw[hll]
 by_cases hbig:4096<(zj l l.length).1.length
 ·have hbig':(4096:Int)<((zj l l.length).1.length:Int):=by omega
  rw[if_pos hbig];simp +decide only[↓vS,vT,simprocAttr,h.k,hbig'];simp[vZ]
 ·have hbig':¬(4096:Int)<((zj l l.length).1.length:Int):=by omega
  rw[if_neg hbig];simp +decide only[↓vS,vT,simprocAttr,h.k,hbig'];refine h2 s bb tr _ (by omega) _ h.b fun tr' q1 q2=>?_
  have hk':=(q1 1 h.kb').trans h.k;simp +decide only[↓vS,vT,simprocAttr,hk'];simp[vZ,vP,q2,xl];refine⟨fun h=>?_,Frzs.self (qv _)⟩
  rw[h];rfl
def qxu(P:Program)(g:Nat):Prop:=∀l:List GTest,l.length<=100000->qd P g [.fz l.length (rT l)] (.fz l.length (rT l))
theorem qyP{g:Nat}(h:qcT P g 4 32):qxu P g:=by
 intro l hl;refine (h l.length (rT l) qjS qbX qDo (by simp only[qg];omega) (by simp only[qg];omega)).pure (by simp[qw,clo,qbX]) ?_;refine .own 0 _ 4 true _ _ ?_ (fun h0=>?_) (Frzs.self qbX)
 ·simp[qaP,Hp.push,shb,H0,Tr.get_set,x4 qbX]
 ·rw[List.eq_nil_of_length_eq_zero h0];rfl
def qjB(a:Nat):IFn:=⟨[.cell 2 3 true],.seq (.r [.q 1 (.box (.t 0)),.q 2 (.alloc [.i .u32 0,.nils,.i .u32 0])]) (.seq (.r [.f 3 1 1,.d 4 3,.l 5 a [.t 4],.f 6 1 1,.u (.store 1 (.t 6) (.t 5))]) (.seq (.r [.v 7 3 1,.u (.store 3 (.t 2) (.t 7))]) (.ret)))⟩
theorem qBQ{g:Nat}(hc:qc P f (qjB g)=true)(hg:qxu P g)(r:GRule)(hl:r.tests.length<=100000):qd P f [.agg (zc r)] (.agg (zc r)):=by
 refine qd.mk hc (by simp[qw,clo,zc,qbX]) ?_;simp only[qjB,zc,vI,simprocAttr];simp +decide only[↓vS,vT,simprocAttr];refine (hg r.tests hl).sc ?_;simp +decide only[↓vS,vT,simprocAttr];simp[vZ,vP,Tr.get_set,zq qbX]
def qfq:IFn:=⟨[.tmp 2],.seq (.r [.q 1 (.box (.t 0)),.m 2 .F]) (.seq (.r [.f 3 1 1,.d 4 3,.q 5 (.bin .eql (.t 4) (.c (.i .u64 0))),.n 2 5]) (.ret))⟩
theorem qC7(hc:qc P f qfq=true)(t:GTest):qd P f [.agg (xT t)] (.b (decide (t.mask=0))):=by
 refine qd.mk hc rfl ?_;simp only[qfq,xT,vI,simprocAttr];simp +decide only[↓vS,vT,simprocAttr];simp[vZ]
def qe1(a:Int)(ts:List GTest):List GTest:=(ts.reverse.dropWhile fun t=>decide (t.act=a)).reverse
theorem qkc{a:Int}{ts:List GTest}{t:GTest}:qe1 a (ts++[t])=if t.act=a then qe1 a ts else ts++[t]:=by
 unfold qe1;rw[List.reverse_append,List.reverse_singleton,List.singleton_append,List.dropWhile_cons]
 by_cases h:t.act=a<;>simp[h]
def qeu:List GTest->Int->List GTest×Int
 | [],a=>([],a)
 | t::ts,a=>if t.mask=0 then ([],t.act) else (t::(qeu ts a).1,(qeu ts a).2)
def xm(r:GRule):GRule:=⟨r.nr,qe1 (qeu r.tests r.act).2 (qeu r.tests r.act).1,(qeu r.tests r.act).2⟩
theorem qrT:∀(ts:List GTest) (a:Int),(jm (fun t=>decide (t.mask=0)) ts 0 = -1∧qeu ts a=(ts,a))∨∃(i:Nat) (t:GTest),jm (fun t=>decide (t.mask=0)) ts 0=(i:Int)∧ts[i]?=some t∧qeu ts a=(ts.take i,t.act):=by
 have main:∀(ts:List GTest) (a:Int) (j:Nat),(jm (fun t=>decide (t.mask=0)) ts j = -1∧qeu ts a=(ts,a))∨∃(i:Nat) (t:GTest),jm (fun t=>decide (t.mask=0)) ts j=((j+i:Nat):Int)∧ts[i]?=some t∧qeu ts a=(ts.take i,t.act):=by
  intro ts
  induction ts with
  | nil=>intro a j;exact .inl ⟨rfl,rfl⟩
  | cons t ts ih =>
   intro a j
   by_cases h:t.mask=0
   ·exact .inr ⟨0,t,by simp[jm,h],rfl,by simp[qeu,h]⟩
   ·rcases ih a (j+1) with⟨e1,e2⟩|⟨i,x,e1,e2,e3⟩
    ·exact .inl ⟨by simp[jm,h,e1],by simp[qeu,h,e2]⟩
    ·exact .inr ⟨i+1,x,by simp[jm,h,e1];omega,by simpa using e2,by simp[qeu,h,e3]⟩
 intro ts a;rcases main ts a 0 with h|⟨i,t,h1,h2,h3⟩
 ·exact .inl h
 ·exact .inr ⟨i,t,by rw[h1];simp,h2,h3⟩
theorem qw4{h:Hp}{esz n c:Nat}{q:IntKind}{cs:List AV}{k:AV->Prop}(h2:c<=n)(h3:c*esz<=cs.length):slK esz none (some (.i q (c:Int))) none (.fz n cs) h k↔evA (.fz c (cs.take (c*esz))) k:=by
 simp only[slK,qot,qiR];show (ifK (c<=n) _)↔_;simp only[ifK,h2,true_and,Option.isSome_none,Bool.false_and,Bool.false_eq_true,if_false];show (0*esz<=cs.length∧(c-0)*esz<=(cs.drop (0*esz)).length∧_)↔_;simp only[Nat.zero_mul,Nat.zero_le,Nat.sub_zero,List.drop_zero,h3,true_and];exact Iff.rfl
theorem qpi{l:List GTest}{k:Nat}:(rT l).take (k*4)=rT (l.take k):=qfS qcD l k
def qcj(a b c:Nat):ICode:=.seq (.seq (.r [.f 25 1 1,.d 26 25,.e 27 26,.n 4 27]) (.blk 0 (.loop (.seq (.seq (.reg true [.n 28 4,.w 29 .gtr 28 0,.n 30 29,.h 31 1 1 30 true,.j 32 31 30 true,.y 33 4 30,.g 34 (.bin .sub (.t 33) (.k 1)) 30 true,.g 35 (.iAddrS 4 (.t 32) (.t 34)) 30 true,.h 36 3 35 30 true,.j 37 36 30 true,.h 38 2 1 30 true,.j 39 38 30 true,.g 40 (.bin .eql (.t 37) (.t 39)) 30 true,.p 41 30 40]) (.cond (.t 41) (.skip) (.exit 0))) (.seq (.blk 1 (.r [.f 44 1 1,.d 45 44,.n 46 4,.w 47 .sub 46 1,.q 48 (.slcS 4 (.t 45) none (some (.t 47)) none),.f 49 1 1,.u (.store 1 (.t 49) (.t 48))])) (.r [.n 42 4,.w 43 .sub 42 1,.n 4 43])))))) (.seq (.r [.v 50 3 1,.u (.store 3 (.t 2) (.t 50))]) (.ret))
def qht(a b c:Nat):IFn:=⟨[.cell 2 3 true],.seq (.r [.q 1 (.box (.t 0)),.q 2 (.alloc [.i .u32 0,.nils,.i .u32 0])]) (.seq (.r [.v 5 3 1,.l 6 a [.t 5],.u (.store 3 (.t 1) (.t 6))]) (.seq (.seq (.r [.f 7 1 1,.d 8 7,.l 9 b [.t 8,(.c (.fn c [] []))],.n 3 9]) (.seq (.r [.n 10 3,.w 11 .geq 10 0]) (.cond (.t 11) (.seq (.r [.f 12 1 1,.d 13 12,.n 14 3,.i 15 4 13 14,.f 16 3 15,.d 17 16,.f 18 2 1,.u (.store 1 (.t 18) (.t 17))]) (.r [.f 19 1 1,.d 20 19,.n 21 3,.n 22 3,.q 23 (.slcS 4 (.t 20) none (some (.t 21)) (some (.t 22))),.f 24 1 1,.u (.store 1 (.t 24) (.t 23))])) (.skip)))) (.cut (qcj a b c))))⟩
theorem qib{n0 g1 g2 g3 s:Nat}{tr:Tr Blk}{t:Tr AV}(nr a:Int)(ts:List GTest)(V:AV)(hV:V = .fz ts.length (rT ts)∨V = .e0∧ts=[])(hl:ts.length<=100000)(h0:tr.get 0=some (.cells 0 true false [.i .u32 nr,V,.i .u32 a]))(h1:∃x y z,tr.get 1=some (.cells 0 true false [x,y,z]))(ht:Has t [(1,.ptr 0 0),(2,.ptr 1 0)]) :
  S P n0 (qcj g1 g2 g3) (qam [.cell 2 3 true] fun v' h'=>Frz h' v' (.agg (zc ⟨nr,qe1 a ts,a⟩))) t ⟨s,0,tr⟩:=by
 refine S.has _ ht (ql ?_);simp only[qcj,vI,simprocAttr];have hlen:∀k:AV->Prop,k (.i .i64 (ts.length:Int))->True:=fun _ _=>trivial
 have loop:∀tt,Has tt [(1,.ptr 0 0),(2,.ptr 1 0),(4,.i .i64 (ts.length:Int))]->∀(x:ICode) (Q:X->Tr AV->Hp->Prop),True:=fun _ _ _ _=>trivial
 rcases hV with rfl|⟨rfl,rfl⟩
 ·simp +decide only[↓vS,vT,simprocAttr,h0]
  refine SL.loopP (α:=List GTest) (fun u=>[(1,.ptr 0 0),(2,.ptr 1 0),(4,.i .i64 (u.length:Int))])
   (fun u h=>u.length<=ts.length∧qe1 a u=qe1 a ts∧∃tr',h=⟨s,0,tr'⟩∧tr'.get 0=some (.cells 0 true false [.i .u32 nr,.fz u.length (rT u),.i .u32 a])∧∃x y z,tr'.get 1=some (.cells 0 true false [x,y,z])) (fun u=>u.length) ?_ ts ?_ ?_
  ·rintro u h1 ⟨hu,he,tr',rfl,g0,x,y,z,g1⟩ G ih;simp only[vI,simprocAttr];rcases List.eq_nil_or_concat u with rfl|⟨u0,t0,rfl⟩
   ·have hz:¬(0:Int)<(([]:List GTest).length:Int):=by simp
    simp +decide only[↓vS,vT,simprocAttr];refine zT ?_;simp +decide only[↓vS,vT,simprocAttr,hz,g0,g1];have e0:qe1 a ts=[]:=by rw[← he];rfl
    simp[vZ,vP,Tr.get_set,zc,e0,rT]
   ·rw[List.concat_eq_append] at hu he g0 ih ⊢;have hul:(u0++[t0]).length=u0.length+1:=by simp
    have hget:(u0++[t0])[u0.length]?=some t0:=by simp
    rw[hul] at hu g0 ⊢;have hz:(0:Int)<((u0.length+1:Nat):Int):=by omega
    have e1:IntKind.wrap .i64 (((u0.length+1:Nat):Int)-1)=(u0.length:Int):=by rw[qu (by omega) (by omega)];omega
    have hg3:(rT (u0++[t0]))[u0.length*4+3]?=some (.i .u32 t0.act):=qt1 hget (by omega);have hlt:u0.length<u0.length+1:=by omega
    rw[qkc] at he;simp +decide only[↓vS,vT,simprocAttr];refine zT ?_
    by_cases ha:t0.act=a
    ·rw[if_pos ha] at he;have k1:u0.length<=u0.length+1:=by omega
     have k2:u0.length*4<=(rT (u0++[t0])).length:=by rw[qjS,hul];omega
     have k3:(rT (u0++[t0])).take (u0.length*4)=rT u0:=by rw[qpi];simp
     simp +decide only[↓vS,vT,simprocAttr,hz,g0,e1,hlt,hg3,eq_true ha,↓qw4 k1 k2,k3];refine ih u0 _ _ (by simp) (by simp[qf,qh,Tr.get_set]) ⟨by omega,he,_,rfl,by rw[Tr.get_set,if_pos rfl],x,y,z,by rw[Tr.get_set,if_neg (by decide)];exact g1⟩
    ·rw[if_neg ha] at he;simp +decide only[↓vS,vT,simprocAttr,hz,g0,g1,e1,hlt,hg3,ha];simp[vZ,vP,Tr.get_set,zc,← he,zq qbX]
  ·simp[qf,qh,Tr.get_set]
  ·exact⟨Nat.le_refl _,rfl,tr,rfl,h0,h1⟩
 ·simp +decide only[↓vS,vT,simprocAttr,h0];refine SL.loopP (α:=Unit) (fun u=>[(1,.ptr 0 0),(2,.ptr 1 0),(4,.i .i64 0)]) (fun u h=>h=⟨s,0,tr⟩) (fun u=>0) ?_ () ?_ rfl
  ·rintro u h2 rfl G ih;obtain⟨x,y,z,g1⟩:=h1;simp only[vI,simprocAttr];simp +decide only[↓vS,vT,simprocAttr];refine zT ?_;simp +decide only[↓vS,vT,simprocAttr,h0,g1];simp[vZ,vP,Tr.get_set,zc,qe1,rT]
  ·simp[qf,qh,Tr.get_set]
theorem qxP{g1 g2 g3:Nat}(hc:qc P f (qht g1 g2 g3)=true)(h1:∀r:GRule,r.tests.length<=100000->qd P g1 [.agg (zc r)] (.agg (zc r)))(h2:qnO 4 P g2)(h3:∀t:GTest,qd P g3 [.agg (xT t)] (.b (decide (t.mask=0))))(r:GRule)(hl:r.tests.length<=100000) :
  qd P f [.agg (zc r)] (.agg (zc (xm r))):=by
 have e1:=h1 r hl;have e2:=h2 xT (fun t=>decide (t.mask=0)) g3 [] [] r.tests qcD rfl rfl (by simp only[qg];omega) fun t _=>by simpa using h3 t
 simp only[show r.tests.flatMap xT=rT r.tests from rfl] at e2
 refine qd.mk hc (by simp[qw,clo,zc,qbX]) ?_;simp only[qht,zc,vI,simprocAttr];simp only[zc] at e1;simp +decide only[↓vS,vT,simprocAttr];refine e1.sc ?_;simp +decide only[↓vS,vT,simprocAttr];refine e2.sc ?_;unfold xm;rcases qrT r.tests r.act with⟨q1,q2⟩|⟨i,t,q1,q2,q3⟩
 ·rw[q1,q2];simp +decide only[↓vS,vT,simprocAttr];refine qib r.nr r.act r.tests _ (.inl rfl) hl ?_ ?_ ?_
  ·simp[Tr.get_set]
  ·exact⟨_,_,_,by simp[Tr.get_set];exact⟨rfl,rfl,rfl⟩⟩
  ·simp[qf,qh,Tr.get_set]
 ·rw[q1,q3];have hi:i<r.tests.length:=(zzS.1 q2).1;have n0:(0:Int)<=(i:Int):=by omega
  have g3':(rT r.tests)[i*4+3]?=some (.i .u32 t.act):=qt1 q2 (by omega);have k2:i<=r.tests.length:=by omega
  have k3:i*4<=(rT r.tests).length:=by rw[qjS];omega
  have hlen:(r.tests.take i).length=i:=by simp;omega
  rcases Nat.eq_zero_or_pos i with hz|hz
  ·have es:∀(h:Hp) (k:AV->Prop),slK 4 none (some (.i .i64 (i:Int))) (some (.i .i64 (i:Int))) (.fz r.tests.length (rT r.tests)) h k↔evA .e0 k:=fun h k=>by
    rw[hz];simp only[slK,qiU,qiR];show (ifK (0<=r.tests.length) (ifK (0<=0) _))↔_;simp only[ifK,Nat.zero_le,true_and,Option.isSome_some];exact Iff.rfl
   have htk:r.tests.take i=[]:=by rw[hz];rfl
   rw[htk];simp +decide only[↓vS,vT,simprocAttr,n0,hi,g3',↓es];refine qib r.nr t.act [] .e0 (.inr ⟨rfl,rfl⟩) (by simp) ?_ ?_ ?_
   ·simp[Tr.get_set]
   ·exact⟨_,_,_,by simp[Tr.get_set];exact⟨rfl,rfl,rfl⟩⟩
   ·simp[qf,qh,Tr.get_set]
  ·simp +decide only[↓vS,vT,simprocAttr,n0,hi,g3',↓qpp hz k2 k3,qpi];refine qib r.nr t.act (r.tests.take i) _ (.inl (by rw[hlen])) (by omega) ?_ ?_ ?_
   ·simp[Tr.get_set]
   ·exact⟨_,_,_,by simp[Tr.get_set];exact⟨rfl,rfl,rfl⟩⟩
   ·simp[qf,qh,Tr.get_set]
def qbd(d:Int)(r:GRule):Bool:=decide (0<r.tests.length)||decide (r.act≠d)
def jq(x:GFil):GFil:=⟨x.arch,(x.rules.map xm).filter (qbd x.dflt),x.dflt⟩
noncomputable def qpE(x:GFil):AV:=if xB x=true then .tup [.agg (qN (jq x)),.i .i64 0] else .tup [.agg [.i .i64 0,.fz 0 [],.i .u32 0],.i .i64 210]
def qeA(a b:Nat):IFn:=⟨[.cell 2 3 true,.tmp 3],.seq (.r [.q 1 (.box (.t 0)),.q 2 (.alloc [.i .i64 0,.nils,.i .u32 0]),.m 3 (.k 0)]) (.seq (.seq (.r [.v 7 3 1,.l 8 a [.t 7],.q 9 (.un .not (.t 8))]) (.cond (.t 9) (.seq (.r [.q 10 (.build [.i .i64 0,.nils,.i .u32 0] []),.u (.store 3 (.t 2) (.t 10)),.m 3 (.k 210)]) (.ret)) (.skip))) (.seq (.r [.f 11 0 1,.d 12 11,.f 13 2 1,.d 14 13,.q 15 (.build [.i .i64 0,.nils,.i .u32 0] [(0,1,(.t 12)),(2,1,(.t 14))]),.q 4 (.alloc [.i .i64 0,.nils,.i .u32 0]),.u (.store 3 (.t 4) (.t 15))]) (.seq (.seq (.r [.f 16 1 1,.d 17 16,.e 18 17,.m 19 (.k 0)]) (.blk 0 (.loop (.seq (.r [.s 20 19 18]) (.seq (.cond (.t 20) (.skip) (.exit 0)) (.seq (.blk 1 (.seq (.r [.i 21 3 17 19,.v 22 3 21,.q 6 (.alloc [.i .u32 0,.nils,.i .u32 0]),.u (.store 3 (.t 6) (.t 22))]) (.seq (.r [.v 23 3 6,.l 24 b [.t 23],.u (.store 3 (.t 6) (.t 24))]) (.seq (.r [.f 25 1 6,.d 26 25,.e 27 26,.w 28 .gtr 27 0,.n 29 28,.h 30 2 6 29 false,.j 31 30 29 false,.h 32 2 1 29 false,.j 33 32 29 false,.g 34 (.bin .neq (.t 31) (.t 33)) 29 false,.o 35 29 34]) (.cond (.t 35) (.r [.f 36 1 4,.d 37 36,.v 38 3 6,.q 39 (.buildS 1 [.i .u32 0,.nils,.i .u32 0] [(0,3,(.t 38))]),.q 40 (.app 3 40 true (.t 37) (.t 39)),.f 41 1 4,.u (.store 1 (.t 41) (.t 40))]) (.skip)))))) (.r [.a 42 19 1,.n 19 42]))))))) (.seq (.r [.v 43 3 4,.u (.store 3 (.t 2) (.t 43)),.m 3 (.k 0)]) (.ret)))))⟩
theorem ql9{g1 g2:Nat}(hc:qc P f (qeA g1 g2)=true)(x:GFil)(h1:qd P g1 [.agg (qN x)] (.b (xB x)))(h2:∀r:GRule,r.tests.length<=100000->qd P g2 [.agg (zc r)] (.agg (zc (xm r))))(hl:x.rules.length<=100000)(ht:∀r ∈ x.rules,r.tests.length<=100000) :
  qd P f [.agg (qN x)] (qpE x):=by
 refine qd.mk hc (by simp[qw,clo,qN,xI]) ?_;simp only[qeA,qN,vI,simprocAttr];simp only[qN] at h1;simp +decide only[↓vS,vT,simprocAttr];refine h1.sc ?_;unfold qpE;cases hK:xB x with
 | false =>
  simp +decide only[↓vS,vT,simprocAttr];simp[vZ,vP,Tr.get_set]
 | true =>
  simp +decide only[↓vS,vT,simprocAttr]
  refine SL.loopP (α:=Nat×Nat) (fun i=>[(1,.ptr 0 0),(2,.ptr 1 0),(4,.ptr 2 0),(17,.fz x.rules.length (rR x.rules)),(18,.i .i64 (x.rules.length:Int)),(19,.i .i64 (i.1:Int))])
   (fun i h=>i.1<=x.rules.length∧∃s tr,h=⟨s,0,tr⟩∧3<=s∧tr.get 0=some (.cells 0 true false [.i .i64 x.arch,.fz x.rules.length (rR x.rules),.i .u32 x.dflt])∧(∃a b c,tr.get 1=some (.cells 0 true false [a,b,c])) ∧
    tr.get 2=some (.cells 0 true false [.i .i64 x.arch,qcn (((x.rules.take i.1).map xm).filter (qbd x.dflt)).length i.2,.i .u32 x.dflt])∧((((x.rules.take i.1).map xm).filter (qbd x.dflt)).length≠0->tr.get i.2=some (.cells 3 true true (rR (((x.rules.take i.1).map xm).filter (qbd x.dflt))))∧3<=i.2∧i.2<s)) (fun i=>x.rules.length-i.1) ?_ (0,0) ?_ ?_
  ·rintro⟨i,bo⟩ h ⟨hi,s,tr,rfl,hs,t0,⟨a,b,c,t1⟩,t2,to⟩ G ih;simp only at hi t2 to;simp only[vI,simprocAttr];obtain⟨A,hA⟩:∃A,A=((x.rules.take i).map xm).filter (qbd x.dflt):=⟨_,rfl⟩;rw[← hA] at t2 to
   have hAl:A.length<=i:=by
    rw[hA];exact Nat.le_trans (List.length_filter_le _ _) (by simp;omega)
   by_cases hlt:i<x.rules.length
   ·have hlt':(i:Int)<x.rules.length:=by omega
    obtain⟨r,hr⟩:∃r,x.rules[i]?=some r:=⟨_,zzE hlt⟩;have hel:=qlQ hr;have h3:i*3+3<=(rR x.rules).length:=by rw[qlR];omega
    have hw1:IntKind.wrap .i64 ((i:Int)+1)=((i+1:Nat):Int):=by rw[qu (by omega) (by omega)];simp
    have hn:=h2 r (ht r (zzM hr))
    have hA2:((x.rules.take (i+1)).map xm).filter (qbd x.dflt)=A++if qbd x.dflt (xm r)=true then [xm r] else []:=by
     rw[qaF hr,List.map_append,List.filter_append,← hA]
     by_cases hk:qbd x.dflt (xm r)=true<;>simp[hk]
    obtain⟨q,hq⟩:∃q,q=xm r:=⟨_,rfl⟩;rw[← hq] at hn hA2;simp only[zc] at hn;have n0:¬0=s:=by omega
    have n1:¬1=s:=by omega
    have n2:¬2=s:=by omega
    have n3:¬s=s+1:=by omega
    have n4:¬2=s+1:=by omega
    have n5:¬2=s+1+1:=by omega
    have n6:¬s=2:=by omega
    simp +decide only[↓vS,vT,simprocAttr,hlt',hlt,h3,hel,zc,n0,n1,n2,n3];refine hn.sc ?_
    have e0:∀(tf:Tr Blk),(∀c,c<s->c≠2->c≠bo->tf.get c=tr.get c)->bo≠0∧bo≠1∨A.length=0->(A.length=0->∀c,c<s->c≠2->tf.get c=tr.get c)->tf.get 0=some (.cells 0 true false [.i .i64 x.arch,.fz x.rules.length (rR x.rules),.i .u32 x.dflt])∧∃a b c,tf.get 1=some (.cells 0 true false [a,b,c]):=fun tf q1 q2 q3=>by
     by_cases hz:A.length=0
     ·exact⟨(q3 hz 0 (by omega) (by decide)).trans t0,a,b,c,(q3 hz 1 (by omega) (by decide)).trans t1⟩
     ·have:=q2.resolve_right hz;exact⟨(q1 0 (by omega) (by decide) (Ne.symm this.1)).trans t0,a,b,c,(q1 1 (by omega) (by decide) (Ne.symm this.2)).trans t1⟩
    by_cases hk:qbd x.dflt q=true
    ·rw[if_pos hk] at hA2;have app:∀k:Prop,(∀(u:IntKind),True)->k->k:=fun _ _ h=>h
     have hcond:(0:Int)<(q.tests.length:Int)∨¬(0:Int)<(q.tests.length:Int)∧¬q.act=x.dflt:=by
      simp only[qbd,Bool.or_eq_true,decide_eq_true_eq] at hk;rcases Nat.eq_zero_or_pos q.tests.length with h|h
      ·exact .inr ⟨by omega,by rcases hk with hk|hk;omega;exact hk⟩
      ·exact .inl (by omega)
     by_cases hz:A.length=0
     ·have hV:qcn A.length bo = .nils:=by simp[qcn,hz]
      have hAn:A=[]:=List.eq_nil_of_length_eq_zero hz;rw[hV] at t2
      have fin:∀tf tt,(∀c,c<s->c≠2->tf.get c=tr.get c)->tf.get 2=some (.cells 0 true false [.i .i64 x.arch,.own (s+1+1) 1,.i .u32 x.dflt])->tf.get (s+1+1)=some (.cells 3 true true [.i .u32 q.nr,.fz q.tests.length (rT q.tests),.i .u32 q.act])->Has tt [(1,.ptr 0 0),(2,.ptr 1 0),(4,.ptr 2 0),(17,.fz x.rules.length (rR x.rules)),(18,.i .i64 (x.rules.length:Int)),(19,.i .i64 ((i+1:Nat):Int))]->G tt ⟨s+1+1+1,0,tf⟩:=fun tf tt q1 q2 q3 q4=>by
       refine ih (i+1,s+1+1) _ _ (by simp only;omega) q4 ⟨by simp only;omega,_,tf,rfl,by omega,(q1 0 (by omega) (by decide)).trans t0,⟨a,b,c,(q1 1 (by omega) (by decide)).trans t1⟩,?_,fun _=>⟨?_,by simp only;omega,by simp only;omega⟩⟩
       ·simp only[hA2,hAn];rw[q2];rfl
       ·simp only[hA2,hAn];rw[q3];simp[rR,zc]
      rcases hcond with hc1|⟨hc1,hc2⟩
      ·simp +decide only[↓vS,vT,simprocAttr,hc1,t2,n0,n1,n2,n3,n4,n5,n6,hw1];refine fin _ _ (fun c c1 c2=>?_) (by rw[Tr.get_set,if_pos rfl]) ?_ (by simp[qf,qh,Tr.get_set])
       ·simp only[Tr.get_set];repeat rw[if_neg (by omega)]
       ·simp only[Tr.get_set];rw[if_neg (by omega)];simp
      ·simp +decide only[↓vS,vT,simprocAttr,hc1,hc2,t0,t2,n0,n1,n2,n3,n4,n5,n6,hw1];refine fin _ _ (fun c c1 c2=>?_) (by rw[Tr.get_set,if_pos rfl]) ?_ (by simp[qf,qh,Tr.get_set])
       ·simp only[Tr.get_set];repeat rw[if_neg (by omega)]
       ·simp only[Tr.get_set];rw[if_neg (by omega)];simp
     ·obtain⟨o1,o2,o3⟩:=to hz;have hV:qcn A.length bo = .own bo A.length:=by simp[qcn,hz]
      rw[hV] at t2;have m1:¬bo=s:=by omega
      have m2:¬bo=s+1:=by omega
      have m3:¬s+1=bo:=by omega
      have m4:¬2=bo:=by omega
      have rr1:A.length+1<=qg:=by simp only[qg];omega
      have rr2:(A.length+1)*40<=qg:=by simp only[qg];omega
      have hrl:(rR A).length=A.length*3:=qlR
      have fin:∀tf tt,(∀c,c<s->c≠2->c≠bo->tf.get c=tr.get c)->tf.get 2=some (.cells 0 true false [.i .i64 x.arch,.own (s+1+1) (A.length+1),.i .u32 x.dflt])->tf.get (s+1+1)=some (.cells 3 true true (rR A++[.i .u32 q.nr,.fz q.tests.length (rT q.tests),.i .u32 q.act]))->Has tt [(1,.ptr 0 0),(2,.ptr 1 0),(4,.ptr 2 0),(17,.fz x.rules.length (rR x.rules)),(18,.i .i64 (x.rules.length:Int)),(19,.i .i64 ((i+1:Nat):Int))]->G tt ⟨s+1+1+1,0,tf⟩:=fun tf tt q1 q2 q3 q4=>by
       refine ih (i+1,s+1+1) _ _ (by simp only;omega) q4 ⟨by simp only;omega,_,tf,rfl,by omega,(q1 0 (by omega) (by decide) (by omega)).trans t0,⟨a,b,c,(q1 1 (by omega) (by decide) (by omega)).trans t1⟩,?_,fun _=>⟨?_,by simp only;omega,by simp only;omega⟩⟩
       ·simp only[hA2];rw[q2];simp[qcn]
       ·simp only[hA2];rw[q3,← qAB];simp[rR,zc]
      rcases hcond with hc1|⟨hc1,hc2⟩
      ·simp +decide only[↓vS,vT,simprocAttr,hc1,t2,o1,m1,m2,m3,m4,rr1,rr2,hrl,n0,n1,n2,n3,n4,n5,n6,hw1];refine fin _ _ (fun c c1 c2 c3=>?_) (by rw[Tr.get_set,if_pos rfl]) ?_ (by simp[qf,qh,Tr.get_set])
       ·simp only[Tr.get_set];repeat rw[if_neg (by omega)]
       ·simp only[Tr.get_set];rw[if_neg (by omega)];simp
      ·simp +decide only[↓vS,vT,simprocAttr,hc1,hc2,t0,t2,o1,m1,m2,m3,m4,rr1,rr2,hrl,n0,n1,n2,n3,n4,n5,n6,hw1];refine fin _ _ (fun c c1 c2 c3=>?_) (by rw[Tr.get_set,if_pos rfl]) ?_ (by simp[qf,qh,Tr.get_set])
       ·simp only[Tr.get_set];repeat rw[if_neg (by omega)]
       ·simp only[Tr.get_set];rw[if_neg (by omega)];simp
    ·rw[if_neg hk,List.append_nil] at hA2;have hc1:¬(0:Int)<(q.tests.length:Int):=fun h=>hk (by simp only[qbd,Bool.or_eq_true,decide_eq_true_eq];left;omega)
     have hc2:q.act=x.dflt:=by
      rcases Classical.em (q.act=x.dflt) with h|h
      ·exact h
      ·exact absurd (by simp[qbd,h]) hk
     simp +decide only[↓vS,vT,simprocAttr,hc1,eq_true hc2,t0,n0,n1,n2,n3,hw1];refine ih (i+1,bo) _ _ (by simp only;omega) (by simp[qf,qh,Tr.get_set]) ⟨by simp only;omega,s+1,_,rfl,by omega,?_,⟨a,b,c,?_⟩,?_,fun hz=>?_⟩
     ·simp only[Tr.get_set];repeat rw[if_neg (by omega)]
      exact t0
     ·simp only[Tr.get_set];repeat rw[if_neg (by omega)]
      exact t1
     ·simp only[hA2,Tr.get_set];repeat rw[if_neg (by omega)]
      exact t2
     ·simp only[hA2] at hz ⊢;obtain⟨o1,o2,o3⟩:=to hz;refine⟨?_,o2,by omega⟩
      simp only[Tr.get_set];repeat rw[if_neg (by omega)]
      exact o1
   ·obtain rfl:i=x.rules.length:=by omega
    have hlt':¬((x.rules.length:Int)<x.rules.length):=by omega
    rw[List.take_length] at hA;have hnF:(jq x).rules=A:=hA.symm
    by_cases hz:A.length=0
    ·have hV:qcn A.length bo = .nils:=by simp[qcn,hz]
     have hAn:A=[]:=List.eq_nil_of_length_eq_zero hz;rw[hV] at t2;simp +decide only[↓vS,vT,simprocAttr,hlt',t2,t1];simp only[qN,hnF,hAn];simp[vZ,vP,Tr.get_set,rR,jq]
    ·obtain⟨o1,o2,o3⟩:=to hz;have hV:qcn A.length bo = .own bo A.length:=by simp[qcn,hz]
     have m1:¬bo=1:=by omega
     rw[hV] at t2;simp +decide only[↓vS,vT,simprocAttr,hlt',t2,t1];simp only[qN,hnF];have hA0:¬A=[]:=fun h=>hz (by rw[h];rfl)
     simp[vZ,vP,Tr.get_set,o1,m1,zq xI,hA0,jq]
  ·simp[qf,qh,Tr.get_set]
  ·refine⟨Nat.zero_le _,_,_,rfl,by omega,?_,⟨.i .i64 0,.nils,.i .u32 0,?_⟩,?_,fun h=>absurd rfl h⟩
   ·simp[Tr.get_set]
   ·simp[Tr.get_set]
   ·simp[Tr.get_set,qcn]
def WkB(fl:List AV)(ar row prg:AV):Blk:=.cells 0 true false (fl++[ar,row,prg])
section
variable {b s:Nat} {tr:Tr Blk} {k:AV->Hp->Prop} {x:GFil} {ar row prg:AV}
def zG(a:Nat):IFn:=⟨[.tmp 2],.seq (.r [.m 2 (.k 0)]) (.seq (.r [.n 4 0,.n 5 0,.q 6 (.nilChk (.t 5)),.f 7 0 6,.v 8 3 7,.l 9 a [.t 8],.n 3 9,.x 10 3 0,.x 11 3 1,.q 12 (.nilChk (.t 4)),.f 13 4 12,.u (.store 1 (.t 13) (.t 10)),.n 2 11]) (.seq (.r [.n 14 2,.n 2 14]) (.ret)))⟩
theorem qkj{g:Nat}(hc:qc P f (zG g)=true)(fl:List AV)(hfl:fl.length=3)(h:tr.get b=some (WkB fl ar row prg))(r:AV)(e:Int)(hr:zf r=true∧qcg r=true∧cellsOf r=[r])(hg:qd P g [.agg fl] (.tup [r,.i .i64 e]))
  (hk:∀tr',(∀c,c≠b->tr'.get c=tr.get c)->tr'.get b=some (WkB fl ar r prg)->k (.i .i64 e) ⟨s,0,tr'⟩):SC P f [.ptr b 0] ⟨s,0,tr⟩ k:=by
 obtain⟨a1,a2,a3,rfl⟩:∃a1 a2 a3,fl=[a1,a2,a3]:=by
  match fl,hfl with
  | [a1,a2,a3],_=>exact⟨a1,a2,a3,rfl⟩
 obtain⟨r1,r2,r3⟩:=hr;simp only[WkB,List.cons_append,List.nil_append] at h hk;refine SC.mk hc (ql ?_);simp only[zG,vI,simprocAttr];simp +decide only[↓vS,vT,simprocAttr,h];refine hg.sc ?_;simp +decide only[↓vS,vT,simprocAttr,h,r1,r2,r3];refine hk _ (fun c hc=>?_) ?_
 ·rw[Tr.get_set,if_neg hc]
 ·rw[Tr.get_set,if_pos rfl]
def zL(a:Nat):IFn:=⟨[.tmp 2],.seq (.r [.m 2 (.k 0)]) (.seq (.r [.n 4 0,.n 5 0,.q 6 (.nilChk (.t 5)),.f 7 0 6,.v 8 3 7,.l 9 a [.t 8],.n 3 9,.x 10 3 0,.x 11 3 1,.q 12 (.nilChk (.t 4)),.f 13 0 12,.u (.store 3 (.t 13) (.t 10)),.n 2 11]) (.seq (.r [.n 14 2,.n 2 14]) (.ret)))⟩
theorem qkk{g:Nat}(hc:qc P f (zL g)=true)(fl:List AV)(hfl:fl.length=3)(h:tr.get b=some (WkB fl ar row prg))(fl2:List AV)(hf2:fl2.length=3)(e:Int)(hr:qD fl2=true)(hg:qd P g [.agg fl] (.tup [.agg fl2,.i .i64 e]))
  (hk:∀tr',(∀c,c≠b->tr'.get c=tr.get c)->tr'.get b=some (WkB fl2 ar row prg)->k (.i .i64 e) ⟨s,0,tr'⟩):SC P f [.ptr b 0] ⟨s,0,tr⟩ k:=by
 obtain⟨a1,a2,a3,rfl⟩:∃a1 a2 a3,fl=[a1,a2,a3]:=by
  match fl,hfl with
  | [a1,a2,a3],_=>exact⟨a1,a2,a3,rfl⟩
 obtain⟨c1,c2,c3,rfl⟩:∃a1 a2 a3,fl2=[a1,a2,a3]:=by
  match fl2,hf2 with
  | [a1,a2,a3],_=>exact⟨a1,a2,a3,rfl⟩
 simp only[WkB,List.cons_append,List.nil_append] at h hk;refine SC.mk hc (ql ?_);simp only[zL,vI,simprocAttr];simp +decide only[↓vS,vT,simprocAttr,h];refine hg.sc ?_;simp +decide only[↓vS,vT,simprocAttr,h,hr];refine hk _ (fun c hc=>?_) ?_
 ·rw[Tr.get_set,if_neg hc]
 ·rw[Tr.get_set,if_pos rfl]
def zz(a:Nat):IFn:=⟨[.tmp 2],.seq (.r [.m 2 (.k 0)]) (.seq (.r [.n 4 0,.n 5 0,.q 6 (.nilChk (.t 5)),.f 7 3 6,.d 8 7,.l 9 a [.t 8],.n 3 9,.x 10 3 0,.x 11 3 1,.q 12 (.nilChk (.t 4)),.f 13 4 12,.u (.store 1 (.t 13) (.t 10)),.n 2 11]) (.seq (.r [.n 14 2,.n 2 14]) (.ret)))⟩
theorem qf5{g:Nat}(hc:qc P f (zz g)=true)(fl:List AV)(hfl:fl.length=3)(h:tr.get b=some (WkB fl ar row prg))(r:AV)(e:Int)(hr:zf r=true∧qcg r=true∧cellsOf r=[r])(hg:qd P g [ar] (.tup [r,.i .i64 e]))
  (hk:∀tr',(∀c,c≠b->tr'.get c=tr.get c)->tr'.get b=some (WkB fl ar r prg)->k (.i .i64 e) ⟨s,0,tr'⟩):SC P f [.ptr b 0] ⟨s,0,tr⟩ k:=by
 obtain⟨a1,a2,a3,rfl⟩:∃a1 a2 a3,fl=[a1,a2,a3]:=by
  match fl,hfl with
  | [a1,a2,a3],_=>exact⟨a1,a2,a3,rfl⟩
 obtain⟨r1,r2,r3⟩:=hr;simp only[WkB,List.cons_append,List.nil_append] at h hk;refine SC.mk hc (ql ?_);simp only[zz,vI,simprocAttr];simp +decide only[↓vS,vT,simprocAttr,h];refine hg.sc ?_;simp +decide only[↓vS,vT,simprocAttr,h,r1,r2,r3];refine hk _ (fun c hc=>?_) ?_
 ·rw[Tr.get_set,if_neg hc]
 ·rw[Tr.get_set,if_pos rfl]
def qU(a:Nat):IFn:=⟨[.tmp 2],.seq (.r [.m 2 (.k 0)]) (.seq (.r [.n 4 0,.n 5 0,.q 6 (.nilChk (.t 5)),.f 7 4 6,.d 8 7,.l 9 a [.t 8],.n 3 9,.x 10 3 0,.x 11 3 1,.q 12 (.nilChk (.t 4)),.f 13 4 12,.u (.store 1 (.t 13) (.t 10)),.n 2 11]) (.seq (.r [.n 14 2,.n 2 14]) (.ret)))⟩
theorem qki{g:Nat}(hc:qc P f (qU g)=true)(fl:List AV)(hfl:fl.length=3)(h:tr.get b=some (WkB fl ar row prg))(r:AV)(e:Int)(hr:zf r=true∧qcg r=true∧cellsOf r=[r])(hg:qd P g [row] (.tup [r,.i .i64 e]))
  (hk:∀tr',(∀c,c≠b->tr'.get c=tr.get c)->tr'.get b=some (WkB fl ar r prg)->k (.i .i64 e) ⟨s,0,tr'⟩):SC P f [.ptr b 0] ⟨s,0,tr⟩ k:=by
 obtain⟨a1,a2,a3,rfl⟩:∃a1 a2 a3,fl=[a1,a2,a3]:=by
  match fl,hfl with
  | [a1,a2,a3],_=>exact⟨a1,a2,a3,rfl⟩
 obtain⟨r1,r2,r3⟩:=hr;simp only[WkB,List.cons_append,List.nil_append] at h hk;refine SC.mk hc (ql ?_);simp only[qU,vI,simprocAttr];simp +decide only[↓vS,vT,simprocAttr,h];refine hg.sc ?_;simp +decide only[↓vS,vT,simprocAttr,h,r1,r2,r3];refine hk _ (fun c hc=>?_) ?_
 ·rw[Tr.get_set,if_neg hc]
 ·rw[Tr.get_set,if_pos rfl]
def qE(a:Nat):IFn:=⟨[.tmp 2],.seq (.r [.m 2 (.k 0)]) (.seq (.r [.n 4 0,.n 5 0,.q 6 (.nilChk (.t 5)),.f 7 4 6,.d 8 7,.l 9 a [.t 8],.n 3 9,.x 10 3 0,.x 11 3 1,.q 12 (.nilChk (.t 4)),.f 13 5 12,.u (.store 1 (.t 13) (.t 10)),.n 2 11]) (.seq (.r [.n 14 2,.n 2 14]) (.ret)))⟩
theorem qeL{g:Nat}(hc:qc P f (qE g)=true)(fl:List AV)(hfl:fl.length=3)(h:tr.get b=some (WkB fl ar row prg))(r:AV)(e:Int)(hr:zf r=true∧qcg r=true∧cellsOf r=[r])(hg:qd P g [row] (.tup [r,.i .i64 e]))
  (hk:∀tr',(∀c,c≠b->tr'.get c=tr.get c)->tr'.get b=some (WkB fl ar row r)->k (.i .i64 e) ⟨s,0,tr'⟩):SC P f [.ptr b 0] ⟨s,0,tr⟩ k:=by
 obtain⟨a1,a2,a3,rfl⟩:∃a1 a2 a3,fl=[a1,a2,a3]:=by
  match fl,hfl with
  | [a1,a2,a3],_=>exact⟨a1,a2,a3,rfl⟩
 obtain⟨r1,r2,r3⟩:=hr;simp only[WkB,List.cons_append,List.nil_append] at h hk;refine SC.mk hc (ql ?_);simp only[qE,vI,simprocAttr];simp +decide only[↓vS,vT,simprocAttr,h];refine hg.sc ?_;simp +decide only[↓vS,vT,simprocAttr,h,r1,r2,r3];refine hk _ (fun c hc=>?_) ?_
 ·rw[Tr.get_set,if_neg hc]
 ·rw[Tr.get_set,if_pos rfl]
def qF:IFn:=⟨[.tmp 4,.tmp 5],.seq (.r [.m 4 .N,.m 5 (.k 0)]) (.seq (.seq (.r [.n 9 1,.e 10 9,.m 11 (.k 0)]) (.blk 0 (.loop (.seq (.r [.s 12 11 10]) (.seq (.cond (.t 12) (.skip) (.exit 0)) (.seq (.blk 1 (.seq (.r [.i 13 1 9 11,.d 14 13,.n 7 14]) (.seq (.r [.n 15 7,⟨(some 16),.callV (.t 15) [],none⟩,.n 8 16]) (.seq (.r [.n 17 8,.w 18 .neq 17 0]) (.cond (.t 18) (.seq (.r [.n 19 8,.m 4 .N,.n 5 19]) (.ret)) (.skip)))))) (.r [.a 20 11 1,.n 11 20]))))))) (.seq (.r [.n 21 0,.q 22 (.nilChk (.t 21)),.f 23 5 22,.d 24 23,.n 4 24,.m 5 (.k 0)]) (.ret)))⟩
theorem quB(hc:qc P f qF=true){bx e:Nat}{wf a:Bool}(gs:List Nat)(hx:tr.get bx=some (.cells e wf a (gs.map fun g=>.fn g [.ptr b 0] [])))(hbx:bx≠b)(J:Nat->AV->Blk->Prop)(n:Nat)(hn:gs.length=n)(hn9:n<=9)
  (B0:Blk) (h0:tr.get b=some B0) (hJ0:J 0 (.i .i64 0) B0)
  (step:∀(i:Nat) g B (s':Nat) (tr':Tr Blk) (k':AV->Hp->Prop),gs[i]?=some g->J i (.i .i64 0) B->tr'.get b=some B->(∀(v:Int) B' tr2,(∀c,c≠b->tr2.get c=tr'.get c)->tr2.get b=some B'->J (i+1) (.i .i64 v) B'->k' (.i .i64 v) ⟨s',0,tr2⟩)->SC P g [.ptr b 0] ⟨s',0,tr'⟩ k')
  (hbad:∀(i:Nat) (v:Int) B tr2,(∀c,c≠b->tr2.get c=tr.get c)->v≠0->J i (.i .i64 v) B->k (.tup [.nils,.i .i64 v]) ⟨s,0,tr2⟩)
  (hok:∀B tr2,(∀c,c≠b->tr2.get c=tr.get c)->J n (.i .i64 0) B->tr2.get b=some B->∃fl ar row prg,fl.length=3∧B=WkB fl ar row prg∧k (.tup [prg,.i .i64 0]) ⟨s,0,tr2⟩) :
  SC P f [.ptr b 0,.sl bx 0 n n false] ⟨s,0,tr⟩ k:=by
 refine SC.mk hc (ql ?_);simp only[qF,vI,simprocAttr];simp +decide only[↓vS,vT,simprocAttr]
 refine SL.loopP (α:=Nat) (fun i=>[(0,.ptr b 0),(9,.sl bx 0 n n false),(10,.i .i64 (n:Int)),(11,.i .i64 (i:Int))])
  (fun i h=>i<=n∧∃tr' B,h=⟨s,0,tr'⟩∧(∀c,c≠b->tr'.get c=tr.get c)∧tr'.get bx=some (.cells e wf a (gs.map fun g=>.fn g [.ptr b 0] []))∧tr'.get b=some B∧J i (.i .i64 0) B) (fun i=>n-i) ?_ 0 ?_ ?_
 ·rintro i h ⟨hi,tr',B,rfl,gf,gx,gb,hj⟩ G ih;simp only[vI,simprocAttr]
  by_cases hlt:i<n
  ·have hlt':(i:Int)<n:=by omega
   obtain⟨g,hg⟩:∃g,gs[i]?=some g:=⟨_,zzE (by omega)⟩;have hgm:(gs.map fun g=>AV.fn g [.ptr b 0] [])[i]?=some (.fn g [.ptr b 0] []):=by simp[hg]
   have hw1:IntKind.wrap .i64 ((i:Int)+1)=((i+1:Nat):Int):=by rw[qu (by omega) (by omega)];simp
   simp +decide only[↓vS,vT,simprocAttr,hlt',hlt,gx,hgm,Nat.mul_one];refine step i g B s tr' _ hg hj gb fun v B' tr2 q1 q2 q3=>?_
   by_cases hv:v=0
   ·subst hv;simp +decide only[↓vS,vT,simprocAttr,hw1];exact ih (i+1) _ _ (by omega) (by simp[qf,qh,Tr.get_set]) ⟨by omega,tr2,B',rfl,fun c hc=>(q1 c hc).trans (gf c hc),(q1 bx hbx).trans gx,q2,q3⟩
   ·simp +decide only[↓vS,vT,simprocAttr,hv];exact hbad (i+1) v B' tr2 (fun c hc=>(q1 c hc).trans (gf c hc)) hv q3
  ·obtain rfl:i=n:=by omega
   have hlt':¬((i:Int)<i):=by omega
   obtain⟨fl,ar,row,prg,hfl,hB,hk⟩:=hok B tr' gf hj gb
   obtain⟨a1,a2,a3,rfl⟩:∃a1 a2 a3,fl=[a1,a2,a3]:=by
    match fl,hfl with
    | [a1,a2,a3],_=>exact⟨a1,a2,a3,rfl⟩
   rw[hB] at gb;simp only[WkB,List.cons_append,List.nil_append] at gb;simp +decide only[↓vS,vT,simprocAttr,hlt',gb];exact hk
 ·simp[qf,qh,Tr.get_set]
 ·exact⟨Nat.zero_le _,tr,B0,rfl,fun _ _=>rfl,hx,h0,hJ0⟩
theorem qfJ(hc:qc P f qF=true){bx e:Nat}{wf a:Bool}(gs:List Nat)(hx:tr.get bx=some (.cells e wf a (gs.map fun g=>.fn g [.ptr b 0] [])))(hbx:bx≠b)(Bs:Nat->Blk)(vs:Nat->Int)(n:Nat)(hn:gs.length=n)(hn9:n<=9)(h0:tr.get b=some (Bs 0))(hv0:vs 0=0)
  (step:∀(i:Nat) g (s':Nat) (tr':Tr Blk) (k':AV->Hp->Prop),gs[i]?=some g->(∀j,j<=i->vs j=0)->tr'.get b=some (Bs i)->(∀tr2,(∀c,c≠b->tr2.get c=tr'.get c)->tr2.get b=some (Bs (i+1))->k' (.i .i64 (vs (i+1))) ⟨s',0,tr2⟩)->SC P g [.ptr b 0] ⟨s',0,tr'⟩ k')
  (hbad:∀(i:Nat) tr2,(∀c,c≠b->tr2.get c=tr.get c)->vs i≠0->(∀j,j<i->vs j=0)->k (.tup [.nils,.i .i64 (vs i)]) ⟨s,0,tr2⟩)
  (hok:∀tr2,(∀c,c≠b->tr2.get c=tr.get c)->(∀j,j<=n->vs j=0)->tr2.get b=some (Bs n)->∃fl ar row prg,fl.length=3∧Bs n=WkB fl ar row prg∧k (.tup [prg,.i .i64 0]) ⟨s,0,tr2⟩) :
  SC P f [.ptr b 0,.sl bx 0 n n false] ⟨s,0,tr⟩ k:=by
 refine quB hc gs hx hbx (fun i v B=>v = .i .i64 (vs i)∧B=Bs i∧∀j,j<i->vs j=0) n hn hn9 (Bs 0) h0 ⟨by rw[hv0],rfl,fun j hj=>by omega⟩ ?_ ?_ ?_
 ·rintro i g B s' tr' k' hg ⟨h1,rfl,h2⟩ hB hk';have hvi:vs i=0:=(AV.i.inj h1).2.symm;refine step i g s' tr' k' hg (fun j hj=>?_) hB fun tr2 q1 q2=>hk' _ _ _ q1 q2 ⟨rfl,rfl,fun j hj=>?_⟩
  ·rcases Nat.lt_or_ge j i with h|h
   ·exact h2 j h
   ·rw[show j=i by omega];exact hvi
  ·rcases Nat.lt_or_ge j i with h|h
   ·exact h2 j h
   ·rw[show j=i by omega];exact hvi
 ·rintro i v B tr2 hfr hv ⟨h1,rfl,h2⟩;have:v=vs i:=(AV.i.inj h1).2;rw[this] at hv ⊢;exact hbad i tr2 hfr hv h2
 ·rintro B tr2 hfr ⟨h1,rfl,h2⟩ hB;refine hok tr2 hfr (fun j hj=>?_) hB
  have hvn:vs n=0:=(AV.i.inj h1).2.symm;rcases Nat.lt_or_ge j n with h|h
  ·exact h2 j h
  ·rw[show j=n by omega];exact hvn
def xt:IFn:=⟨[.tmp 8,.tmp 9],.seq (.r [.m 8 .N,.m 9 (.k 0)]) (.seq (.seq (.r [.n 10 3,.w 11 .neq 10 0,.n 12 11,.z 13 1 12,.g 14 (.bin .eql (.t 13) (.k 0)) 12 false,.z 15 14 12,.y 16 0 15,.g 17 (.len false (.t 16)) 15 true,.y 18 2 15,.g 19 (.len false (.t 18)) 15 true,.g 20 (.bin .lss (.t 17) (.t 19)) 15 true,.g 21 (.pick (.t 15) (.t 20) .F) 12 false,.o 22 12 21]) (.cond (.t 22) (.seq (.r [.n 23 0,.n 24 1,.n 8 23,.n 9 24]) (.ret)) (.skip))) (.seq (.r [.n 25 2,.n 26 3,.n 8 25,.n 9 26]) (.ret)))⟩
def qg3(v:AV)(p:List Ins):Prop:=v = .fz p.length (rP p)∨v = .nils∧p=[]
def qbw(u v:List Ins×Int):List Ins×Int:=if v.2≠0∨(u.2=0∧u.1.length<v.1.length) then u else v
theorem qg3.clo{v:AV}{p:List Ins}(h:qg3 v p):Go.Kc.clo v=true:=by
 rcases h with rfl|⟨rfl,_⟩
 ·simp[Go.Kc.clo,qv]
 ·rfl
theorem qhK(hc:qc P f xt=true)(u v:List Ins×Int)(x y:AV)(hx:qg3 x u.1)(hy:qg3 y v.1) :
  ∃z,qg3 z (qbw u v).1∧qd P f [x,.i .i64 u.2,y,.i .i64 v.2] (.tup [z,.i .i64 (qbw u v).2]):=by
 have key:∀(h:Bool),(decide (v.2≠0∨(u.2=0∧u.1.length<v.1.length)))=h->qd P f [x,.i .i64 u.2,y,.i .i64 v.2] (.tup [if h=true then x else y,.i .i64 (if h=true then u.2 else v.2)]):=by
  intro h hh;refine qd.mk hc (by simp[qw,Go.Kc.clo,hx.clo,hy.clo]) ?_;simp only[xt,vI,simprocAttr]
  by_cases h1:v.2=0
  ·by_cases h2:u.2=0
   ·have e:h=decide (u.1.length<v.1.length):=by rw[← hh];simp[h1,h2]
    rw[e];rcases hx with rfl|⟨rfl,hx⟩<;>rcases hy with rfl|⟨rfl,hy⟩
    ·by_cases h3:u.1.length<v.1.length
     ·simp +decide only[↓vS,vT,simprocAttr,h1,h2,Int.ofNat_lt,h3];simp[vZ,zq (qv _)]
     ·simp +decide only[↓vS,vT,simprocAttr,h1,h2,Int.ofNat_lt,h3];simp[vZ,zq (qv _)]
    ·have h3:¬u.1.length<v.1.length:=by rw[hy];simp
     have h3':¬(u.1.length:Int)<0:=by omega
     simp +decide only[↓vS,vT,simprocAttr,h1,h2,h3',h3];simp[vZ]
    ·rw[hx]
     by_cases h3:0<v.1.length
     ·have h3':(0:Int)<v.1.length:=by omega
      simp +decide only[↓vS,vT,simprocAttr,h1,h2,h3',h3];simp[vZ]
     ·have h3':¬(0:Int)<v.1.length:=by omega
      simp +decide only[↓vS,vT,simprocAttr,h1,h2,h3',h3];simp[vZ,zq (qv _)]
    ·rw[hx,hy];simp +decide only[↓vS,vT,simprocAttr,h1,h2];simp[vZ]
   ·have e:h=false:=by rw[← hh];simp[h1,h2]
    rw[e];simp +decide only[↓vS,vT,simprocAttr,h1,h2];simp[vZ,h1,Frz.self hy.clo]
  ·have e:h=true:=by rw[← hh];simp[h1]
   rw[e];simp +decide only[↓vS,vT,simprocAttr,h1];simp[vZ,Frz.self hx.clo]
 unfold qbw
 by_cases h:v.2≠0∨(u.2=0∧u.1.length<v.1.length)
 ·rw[if_pos h];exact⟨x,hx,by simpa using key true (by simpa using h)⟩
 ·rw[if_neg h];exact⟨y,hy,by simpa using key false (by simpa using h)⟩
end
def zB(l:List Sy):List Ins×Int:=if 4096<(xl l).length then ([],270) else (xl l,0)
theorem qiQ{l:List Sy}:qg6 l = .tup [.fz (zB l).1.length (rP (zB l).1),.i .i64 (zB l).2]:=by
 unfold qg6 zB;split<;>rfl
def qbC(l:List Sy):List Sy:=qfz (qlZ (qek l))
noncomputable def qeN(x:GFil):List Ins×Int:=if xB x=true then zB (zd x) else ([],210)
noncomputable def qfg(x:GFil):List Ins×Int:=if xB x=true then zB (qbC (zd (jq x))) else ([],210)
noncomputable def qaq(x:GFil)(o:Bool):List Ins×Int:=if o=true then qbw (qeN x) (qfg x) else qeN x
structure CmpFn (P:Program) (gE gN gO gL:Nat) (x:GFil):Prop where
 em:qd P gE [.agg (qN x)] (qmc x)
 nm:qd P gN [.agg (qN x)] (qpE x)
 lk:xB x=true->qd P gL [.fz (zd x).length (rSy (zd x))] (qg6 (zd x))
 em2:xB x=true->qd P gE [.agg (qN (jq x))] (qmc (jq x))
 ok2:xB x=true->xB (jq x)=true
 op:xB x=true->qd P gO [.fz (zd (jq x)).length (rSy (zd (jq x)))] (.tup [.fz (qbC (zd (jq x))).length (rSy (qbC (zd (jq x)))),.i .i64 0])
 lk2:xB x=true->qd P gL [.fz (qbC (zd (jq x))).length (rSy (qbC (zd (jq x))))] (qg6 (qbC (zd (jq x))))
section
variable {gE gN gO gL b s:Nat} {tr:Tr Blk} {k:AV->Hp->Prop} {x:GFil}
theorem qh2{n:Nat}{cs:List AV}:zf (.fz n cs)=true∧qcg (.fz n cs)=true∧cellsOf (.fz n cs)=[.fz n cs]:=⟨rfl,rfl,rfl⟩
theorem qxb{gd gwE gwL bx:Nat}{e:Nat}{wf a:Bool}(hc:qc P gd qF=true)(hE:qc P gwE (zG gE)=true)(hL:qc P gwL (qE gL)=true)(C:CmpFn P gE gN gO gL x)
  (hx:tr.get bx=some (.cells e wf a [.fn gwE [.ptr b 0] [],.fn gwL [.ptr b 0] []])) (hbx:bx≠b) (h0:tr.get b=some (WkB (qN x) .nils .nils .nils))
  (hk:∀v tr2,qg3 v (qeN x).1->(∀c,c≠b->tr2.get c=tr.get c)->k (.tup [v,.i .i64 (qeN x).2]) ⟨s,0,tr2⟩):SC P gd [.ptr b 0,.sl bx 0 2 2 false] ⟨s,0,tr⟩ k:=by
 have hE':=C.em;cases hK:xB x with
 | false =>
  have e1:qeN x=([],210):=by unfold qeN;simp[hK]
  rw[e1] at hk;unfold qmc at hE';rw[hK,if_neg (by simp)] at hE';refine qfJ hc [gwE,gwL] (by simpa using hx) hbx (fun i=>if i=0 then WkB (qN x) .nils .nils .nils else WkB (qN x) .nils (.fz 0 []) .nils) (fun i=>if i=0 then 0 else 210) 2 rfl (by omega) h0 rfl ?_ ?_ ?_
  ·intro i g s' tr' k' hg hj hB hk'
   have hi:i=0:=by
    by_cases hi:i=0
    ·exact hi
    ·have:=hj i (Nat.le_refl _);simp[hi] at this
   subst hi;simp at hg;subst hg;exact qkj hE (qN x) rfl hB _ _ qh2 hE' hk'
  ·intro i tr2 hf hv hj;have hi:i≠0:=fun h=>hv (by simp[h])
   simp only[if_neg hi];exact hk _ _ (.inr ⟨rfl,rfl⟩) hf
  ·intro tr2 _ hj _;have:=hj 1 (by omega);simp at this
 | true =>
  have hL':=C.lk hK;rw[qiQ] at hL';have e1:qeN x=zB (zd x):=by unfold qeN;simp[hK]
  rw[e1] at hk;unfold qmc at hE';rw[hK,if_pos rfl] at hE'
  refine qfJ hc [gwE,gwL] (by simpa using hx) hbx (fun i=>if i=0 then WkB (qN x) .nils .nils .nils else if i=1 then WkB (qN x) .nils (.fz (zd x).length (rSy (zd x))) .nils else WkB (qN x) .nils (.fz (zd x).length (rSy (zd x))) (.fz (zB (zd x)).1.length (rP (zB (zd x)).1)))
   (fun i=>if i=0 then 0 else if i=1 then 0 else (zB (zd x)).2) 2 rfl (by omega) h0 rfl ?_ ?_ ?_
  ·intro i g s' tr' k' hg hj hB hk';have hi:i<2:=by have:=(zzS.1 hg).1;simpa using this
   have hi2:i=0∨i=1:=by omega
   rcases hi2 with rfl|rfl
   ·simp at hg;subst hg;exact qkj hE (qN x) rfl hB _ _ qh2 hE' hk'
   ·simp at hg;subst hg;exact qeL hL (qN x) rfl hB _ _ qh2 hL' hk'
  ·intro i tr2 hf hv hj;have h0':i≠0:=fun h=>hv (by simp[h])
   have h1':i≠1:=fun h=>hv (by simp[h])
   simp only[if_neg h0',if_neg h1'] at hv ⊢
   have e2:(zB (zd x)).1=[]:=by
    unfold zB at hv ⊢;split at hv
    ·rename_i h;rw[if_pos h]
    ·exact absurd rfl hv
   exact hk _ _ (.inr ⟨rfl,e2⟩) hf
  ·intro tr2 hf hj hB;have hz:=hj 2 (by omega);simp at hz;refine⟨qN x,.nils,_,_,rfl,rfl,?_⟩;have:=hk (.fz (zB (zd x)).1.length (rP (zB (zd x)).1)) tr2 (.inl rfl) hf;rw[hz] at this;exact this
theorem qxa{gd gwN gwE gwO gwL bx:Nat}{e:Nat}{wf a:Bool}(hc:qc P gd qF=true)(hN:qc P gwN (zL gN)=true)(hE:qc P gwE (zG gE)=true)(hO:qc P gwO (qU gO)=true)(hL:qc P gwL (qE gL)=true)(C:CmpFn P gE gN gO gL x)
  (hx:tr.get bx=some (.cells e wf a [.fn gwN [.ptr b 0] [],.fn gwE [.ptr b 0] [],.fn gwO [.ptr b 0] [],.fn gwL [.ptr b 0] []])) (hbx:bx≠b) (h0:tr.get b=some (WkB (qN x) .nils .nils .nils))
  (hk:∀v tr2,qg3 v (qfg x).1->(∀c,c≠b->tr2.get c=tr.get c)->k (.tup [v,.i .i64 (qfg x).2]) ⟨s,0,tr2⟩):SC P gd [.ptr b 0,.sl bx 0 4 4 false] ⟨s,0,tr⟩ k:=by
 have hN':=C.nm;cases hK:xB x with
 | false =>
  have e1:qfg x=([],210):=by unfold qfg;simp[hK]
  rw[e1] at hk;unfold qpE at hN';rw[hK,if_neg (by simp)] at hN';refine qfJ hc [gwN,gwE,gwO,gwL] (by simpa using hx) hbx (fun i=>if i=0 then WkB (qN x) .nils .nils .nils else WkB [.i .i64 0,.fz 0 [],.i .u32 0] .nils .nils .nils) (fun i=>if i=0 then 0 else 210) 4 rfl (by omega) h0 rfl ?_ ?_ ?_
  ·intro i g s' tr' k' hg hj hB hk'
   have hi:i=0:=by
    by_cases hi:i=0
    ·exact hi
    ·have:=hj i (Nat.le_refl _);simp[hi] at this
   subst hi;simp at hg;subst hg;exact qkk hN (qN x) rfl hB [.i .i64 0,.fz 0 [],.i .u32 0] rfl _ rfl hN' hk'
  ·intro i tr2 hf hv hj;have hi:i≠0:=fun h=>hv (by simp[h])
   simp only[if_neg hi];exact hk _ _ (.inr ⟨rfl,rfl⟩) hf
  ·intro tr2 _ hj _;have:=hj 1 (by omega);simp at this
 | true =>
  obtain⟨y,hy⟩:∃y,y=jq x:=⟨_,rfl⟩;obtain⟨m,hm⟩:∃m,m=qbC (zd y):=⟨_,rfl⟩;have hL':=C.lk2 hK;have hE':=C.em2 hK;have hO':=C.op hK;have hK2:=C.ok2 hK;have e1:qfg x=zB (qbC (zd (jq x))):=by unfold qfg;simp[hK]
  rw[e1] at hk;unfold qpE at hN';rw[hK,if_pos rfl] at hN';rw[← hy] at hL' hE' hO' hK2 hN' hk;unfold qmc at hE';rw[hK2,if_pos rfl] at hE';rw[← hm] at hL' hO' hk;rw[qiQ] at hL'
  refine qfJ hc [gwN,gwE,gwO,gwL] (by simpa using hx) hbx (fun i=>if i=0 then WkB (qN x) .nils .nils .nils else if i=1 then WkB (qN y) .nils .nils .nils else if i=2 then WkB (qN y) .nils (.fz (zd y).length (rSy (zd y))) .nils else if i=3 then WkB (qN y) .nils (.fz m.length (rSy m)) .nils else WkB (qN y) .nils (.fz m.length (rSy m)) (.fz (zB m).1.length (rP (zB m).1)))
   (fun i=>if i=0 then 0 else if i=1 then 0 else if i=2 then 0 else if i=3 then 0 else (zB m).2) 4 rfl (by omega) h0 rfl ?_ ?_ ?_
  ·intro i g s' tr' k' hg hj hB hk';have hi:i<4:=by have:=(zzS.1 hg).1;simpa using this
   have hi2:i=0∨i=1∨i=2∨i=3:=by omega
   rcases hi2 with rfl|rfl|rfl|rfl
   ·simp at hg;subst hg;exact qkk hN (qN x) rfl hB (qN y) rfl _ rfl hN' hk'
   ·simp at hg;subst hg;exact qkj hE (qN y) rfl hB _ _ qh2 hE' hk'
   ·simp at hg;subst hg;exact qki hO (qN y) rfl hB _ _ qh2 hO' hk'
   ·simp at hg;subst hg;exact qeL hL (qN y) rfl hB _ _ qh2 hL' hk'
  ·intro i tr2 hf hv hj;have h0':i≠0:=fun h=>hv (by simp[h])
   have h1':i≠1:=fun h=>hv (by simp[h])
   have h2':i≠2:=fun h=>hv (by simp[h])
   have h3':i≠3:=fun h=>hv (by simp[h])
   simp only[if_neg h0',if_neg h1',if_neg h2',if_neg h3'] at hv ⊢
   have e2:(zB m).1=[]:=by
    unfold zB at hv ⊢;split at hv
    ·rename_i h;rw[if_pos h]
    ·exact absurd rfl hv
   exact hk _ _ (.inr ⟨rfl,e2⟩) hf
  ·intro tr2 hf hj hB;have hz:=hj 4 (by omega);simp at hz;refine⟨qN y,.nils,_,_,rfl,rfl,?_⟩;have:=hk (.fz (zB m).1.length (rP (zB m).1)) tr2 (.inl rfl) hf;rw[hz] at this;exact this
def qaY(a b c d e g:Nat):IFn:=⟨[.tmp 4,.tmp 5],.seq (.r [.q 2 (.box (.t 0)),.m 4 .N,.m 5 (.k 0)]) (.seq (.reg true [.v 12 3 2,.q 13 (.build [.i .i64 0,.nils,.i .u32 0,.nils,.nils,.nils] [(0,3,(.t 12))]),.q 14 (.box (.t 13)),.v 15 3 2,.q 16 (.build [.i .i64 0,.nils,.i .u32 0,.nils,.nils,.nils] [(0,3,(.t 15))]),.q 17 (.box (.t 16)),.n 6 14,.n 7 17]) (.seq (.r [.n 19 6,.n 20 6,.q 21 (.mkF a [.t 20] []),.n 22 6,.q 23 (.mkF b [.t 22] []),.q 24 (.buildS 2 [.nilf] [(0,1,(.t 21)),(1,1,(.t 23))]),.l 25 c [.t 19,.t 24],.n 18 25,.x 26 18 0,.x 27 18 1,.n 8 26,.n 9 27]) (.seq (.seq (.r [.n 28 1,.q 29 (.un .not (.t 28))]) (.cond (.t 29) (.seq (.r [.n 30 8,.n 31 9,.n 4 30,.n 5 31]) (.ret)) (.skip))) (.seq (.r [.n 33 7,.n 34 7,.q 35 (.mkF d [.t 34] []),.n 36 7,.q 37 (.mkF a [.t 36] []),.n 38 7,.q 39 (.mkF e [.t 38] []),.n 40 7,.q 41 (.mkF b [.t 40] []),.q 42 (.buildS 4 [.nilf] [(0,1,(.t 35)),(1,1,(.t 37)),(2,1,(.t 39)),(3,1,(.t 41))]),.l 43 c [.t 33,.t 42],.n 32 43,.x 44 32 0,.x 45 32 1,.n 10 44,.n 11 45]) (.seq (.r [.n 46 8,.n 47 9,.n 48 10,.n 49 11,.l 50 g [.t 46,.t 47,.t 48,.t 49],.x 51 50 0,.x 52 50 1,.n 4 51,.n 5 52]) (.ret))))))⟩
theorem qg3.frz{v:AV}{p:List Ins}{h:Hp}(hv:qg3 v p):Frz h v (.fz p.length (rP p)):=by
 rcases hv with rfl|⟨rfl,rfl⟩
 ·exact Frz.self (by simp[Go.Kc.clo,qv])
 ·exact .nilz
theorem qlr{gd gwN gwE gwO gwL gs:Nat}(hc:qc P f (qaY gwE gwL gd gwN gwO gs)=true)(hd:qc P gd qF=true)(hN:qc P gwN (zL gN)=true)(hE:qc P gwE (zG gE)=true)(hO:qc P gwO (qU gO)=true)(hL:qc P gwL (qE gL)=true)
  (hs:∀(u v:List Ins×Int) (x y:AV),qg3 x u.1->qg3 y v.1->∃z,qg3 z (qbw u v).1∧qd P gs [x,.i .i64 u.2,y,.i .i64 v.2] (.tup [z,.i .i64 (qbw u v).2])) (C:CmpFn P gE gN gO gL x) (o:Bool) :
  qd P f [.agg (qN x),.b o] (.tup [.fz (qaq x o).1.length (rP (qaq x o).1),.i .i64 (qaq x o).2]):=by
 refine qd.mk hc (by simp[qw,Go.Kc.clo,qN,xI]) ?_;simp only[qaY,qN,vI,simprocAttr];simp +decide only[↓vS,vT,simprocAttr];refine zT ?_;simp +decide only[↓vS,vT,simprocAttr];refine qxb hd hE hL C (b:=1) (bx:=3) (by simp[Tr.get_set];exact⟨rfl,rfl,rfl⟩) (by decide) (by simp[Tr.get_set,WkB,qN]) fun v tr2 hv hf=>?_
 cases o with
 | false =>
  simp +decide only[↓vS,vT,simprocAttr,qaq];simp[vZ];exact hv.frz
 | true =>
  simp +decide only[↓vS,vT,simprocAttr,qaq];refine qxa hd hN hE hO hL C (b:=2) (bx:=4) (by simp[Tr.get_set];exact⟨rfl,rfl,rfl⟩) (by decide) (by rw[Tr.get_set,if_neg (by decide),hf 2 (by decide)];simp[Tr.get_set,WkB,qN]) fun w tr3 hw _=>?_
  obtain⟨z,hz1,hz2⟩:=hs (qeN x) (qfg x) v w hv hw;simp +decide only[↓vS,vT,simprocAttr];refine hz2.sc ?_;simp +decide only[↓vS,vT,simprocAttr];simp[vZ];exact⟨hz1.frz,rfl⟩
end
end Go.Kc
end
section
namespace Go.Kc
def zV:List Sp->Int->Int->Prop
 | [],a,b=>a=b
 | s::l,a,b=>s.fr=a∧a<=s.to∧zV l (s.to+1) b
theorem zV.le:∀{l:List Sp} {a b:Int},zV l a b->a<=b
 | [],_,_,h=>by simp[zV] at h;omega
 | s::l,a,b,h=>by obtain⟨h1,h2,h3⟩:=h;have:=h3.le;omega
theorem zV.app:∀{l m:List Sp} {a b:Int},zV (l++m) a b↔∃c,zV l a c∧zV m c b
 | [],m,a,b=>by simp[zV]
 | s::l,m,a,b=>by
  simp only[List.cons_append,zV];constructor
  ·rintro⟨h1,h2,h3⟩;obtain⟨c,h4,h5⟩:=zV.app.1 h3;exact⟨c,⟨h1,h2,h4⟩,h5⟩
  ·rintro⟨c,⟨h1,h2,h4⟩,h5⟩;exact⟨h1,h2,zV.app.2 ⟨c,h4,h5⟩⟩
def Cov(l:List Sp)(n:Int)(w:Nat):Prop:=∃s ∈ l,s.fr<=n∧n<=s.to∧s.way=w
theorem qpW{l:List Sp}{s:Sp}{a:Int}(h:zV l a s.fr)(hs:s.fr<=s.to):zV (x8 l s) a (s.to+1)∧∀n w,Cov l n w∨(s.fr<=n∧n<=s.to∧s.way=w)->Cov (x8 l s) n w:=by
 rcases List.eq_nil_or_concat l with rfl|⟨l0,z,rfl⟩
 ·refine⟨?_,?_⟩
  ·simp only[zV] at h;simp only[x8,List.getElem?_nil,List.nil_append,zV];exact⟨h.symm,by omega,trivial⟩
  ·rintro n w (⟨x,hx,_⟩|h)
   ·cases hx
   ·exact⟨s,by simp[x8],h⟩
 ·rw[List.concat_eq_append] at h ⊢;have hz:(l0++[z])[(l0++[z]).length-1]?=some z:=by simp
  unfold x8;rw[hz];obtain⟨c,h1,h2⟩:=zV.app.1 h;simp only[zV] at h2;obtain⟨h2,h3,h4⟩:=h2;simp only
  by_cases hw:z.way=s.way
  ·rw[if_pos hw];have e:(l0++[z]).set ((l0++[z]).length-1) ⟨z.fr,s.to,z.way⟩=l0++[⟨z.fr,s.to,z.way⟩]:=by simp
   rw[e];refine⟨zV.app.2 ⟨c,h1,h2,by simp only;omega,rfl⟩,?_⟩
   rintro n w (⟨x,hx,q1,q2,q3⟩|⟨q1,q2,q3⟩)
   ·rcases List.mem_append.1 hx with hx|hx
    ·exact⟨x,List.mem_append_left _ hx,q1,q2,q3⟩
    ·rw[List.mem_singleton] at hx;subst hx;exact⟨_,List.mem_append_right _ (List.mem_singleton.2 rfl),q1,by simp only;omega,q3⟩
   ·exact⟨_,List.mem_append_right _ (List.mem_singleton.2 rfl),by simp only;omega,q2,by simp only;omega⟩
  ·rw[if_neg hw];refine⟨zV.app.2 ⟨s.fr,h,rfl,hs,rfl⟩,?_⟩;rintro n w (⟨x,hx,q⟩|q)
   ·exact⟨x,List.mem_append_left _ hx,q⟩
   ·exact⟨s,List.mem_append_right _ (List.mem_singleton.2 rfl),q⟩
theorem qjp:∀{m l:List Sp} {a b c:Int},zV l a b->zV m b c->zV (m.foldl x8 l) a c∧∀n w,Cov l n w∨Cov m n w->Cov (m.foldl x8 l) n w
 | [],l,a,b,c,h1,h2=>by
  simp only[zV] at h2;subst h2;refine⟨h1,?_⟩;rintro n w (h|⟨x,hx,_⟩)
  ·exact h
  ·cases hx
 | s::m,l,a,b,c,h1,h2=>by
  obtain⟨h3,h4,h5⟩:=h2;obtain⟨p1,p2⟩:=qpW (s:=s) (by rw[h3];exact h1) (by omega);obtain⟨q1,q2⟩:=qjp p1 h5;refine⟨q1,?_⟩;rintro n w (h|⟨x,hx,hq⟩)
  ·exact q2 n w (.inl (p2 n w (.inl h)))
  ·rcases List.mem_cons.1 hx with rfl|hx
   ·exact q2 n w (.inl (p2 n w (.inr hq)))
   ·exact q2 n w (.inr ⟨x,hx,hq⟩)
def Ups:List (Int×Nat)->Int->Prop
 | [],_=>True
 | x::l,a=>a<=x.1∧x.1<4294967296∧Ups l (x.1+1)
theorem qkY{o:Nat}:∀{l:List (Int×Nat)} {a:Int},Ups l a->0<=a->a<=4294967296->zV (pcs o l a) a 4294967296∧(∀x ∈ l,Cov (pcs o l a) x.1 x.2)∧∀n:Int,a<=n->n<4294967296->(∀x ∈ l,x.1≠n)->Cov (pcs o l a) n o
 | [],a,_,h0,h1=>by
  unfold pcs;refine⟨?_,fun x hx=>(by cases hx),fun n h2 h3 _=>?_⟩
  ·split
   ·exact⟨rfl,by simp only;omega,by simp only[zV];omega⟩
   ·simp only[zV];omega
  ·rw[if_pos (by omega)];exact⟨_,List.mem_singleton.2 rfl,h2,by simp only;omega,rfl⟩
 | x::l,a,hu,h0,h1=>by
  obtain⟨u1,u2,u3⟩:=hu;obtain⟨c1,c2,c3⟩:=qkY (o:=o) u3 (by omega) (by omega);unfold pcs
  have app:∀(b:Bool),(b=true↔a<x.1)->zV ((if a<x.1 then [⟨a,x.1-1,o⟩] else [])++⟨x.1,x.1,x.2⟩::pcs o l (x.1+1)) a 4294967296:=fun _ _=>by
   by_cases h:a<x.1
   ·rw[if_pos h];exact⟨rfl,by simp only;omega,by simp only;omega,by simp only;omega,c1⟩
   ·rw[if_neg h];exact⟨by simp only;omega,by simp only;omega,c1⟩
  refine⟨app (decide (a<x.1)) (by simp),fun y hy=>?_,fun n h2 h3 h4=>?_⟩
  ·rcases List.mem_cons.1 hy with rfl|hy
   ·exact⟨_,List.mem_append_right _ (List.mem_cons_self ..),Int.le_refl _,Int.le_refl _,rfl⟩
   ·obtain⟨s,hs,hq⟩:=c2 y hy;exact⟨s,List.mem_append_right _ (List.mem_cons_of_mem _ hs),hq⟩
  ·have hx:=h4 x (List.mem_cons_self ..);rcases Int.lt_or_gt_of_ne hx with h|h
   ·obtain⟨s,hs,hq⟩:=c3 n (by omega) h3 fun y hy=>h4 y (List.mem_cons_of_mem _ hy)
    exact⟨s,List.mem_append_right _ (List.mem_cons_of_mem _ hs),hq⟩
   ·rw[if_pos (by omega)];exact⟨_,List.mem_append_left _ (List.mem_singleton.2 rfl),h2,by simp only;omega,rfl⟩
theorem qnf{o:Nat}{m:Nat}(ho:o<m):∀{l:List (Int×Nat)} {a:Int},(∀x ∈ l,x.2<m)->∀s ∈ pcs o l a,s.way<m
 | [],a,_,s,hs=>by
  unfold pcs at hs;split at hs
  ·rw[List.mem_singleton] at hs;subst hs;exact ho
  ·cases hs
 | x::l,a,h,s,hs=>by
  unfold pcs at hs;rcases List.mem_append.1 hs with hs|hs
  ·split at hs
   ·rw[List.mem_singleton] at hs;subst hs;exact ho
   ·cases hs
  ·rcases List.mem_cons.1 hs with rfl|hs
   ·exact h x (List.mem_cons_self ..)
   ·exact qnf ho (fun y hy=>h y (List.mem_cons_of_mem _ hy)) s hs
theorem qo5{o:Nat}:∀{l:List (Int×Nat)} {a:Int},(pcs o l a).length<=2*l.length+1
 | [],a=>by unfold pcs;split<;>simp
 | x::l,a=>by
  have:=qo5 (o:=o) (l:=l) (a:=x.1+1);unfold pcs;split<;>simp<;>omega
theorem qtN{m:Nat}{l:List Sp}{s:Sp}(h:∀x ∈ l,x.way<m)(hs:s.way<m):∀x ∈ x8 l s,x.way<m:=by
 intro x hx;unfold x8 at hx;split at hx
 ·rename_i z hz;split at hx
  ·rcases List.mem_or_eq_of_mem_set hx with hx|rfl
   ·exact h x hx
   ·exact h z (zzM hz)
  ·rcases List.mem_append.1 hx with hx|hx
   ·exact h x hx
   ·rw[List.mem_singleton] at hx;subst hx;exact hs
 ·rcases List.mem_append.1 hx with hx|hx
  ·exact h x hx
  ·rw[List.mem_singleton] at hx;subst hx;exact hs
theorem qkH{m:Nat}:∀{k l:List Sp},(∀x ∈ l,x.way<m)->(∀x ∈ k,x.way<m)->(∀x ∈ k.foldl x8 l,x.way<m)∧(k.foldl x8 l).length<=l.length+k.length
 | [],l,h,_=>⟨h,by simp⟩
 | s::k,l,h,hk=>by
  obtain⟨q1,q2⟩:=qkH (k:=k) (qtN h (hk s (List.mem_cons_self ..))) fun x hx=>hk x (List.mem_cons_of_mem _ hx)
  have:=qj7 (l:=l) (s:=s);exact⟨q1,by simp only[List.foldl_cons,List.length_cons];omega⟩
theorem qkC:∀{l:List Sp} {a:Int},zV l a 4294967296->qiN l a=true
 | [],a,h=>by simp[zV] at h;simp[qiN,h]
 | s::l,a,h=>by
  obtain⟨h1,h2,h3⟩:=h;unfold qiN;rw[if_neg (by omega)];exact qkC h3
theorem qhW:∀{l:List Sp} {a b:Int},zV l a b->0<=a->b<=4294967296->SpR l
 | [],_,_,_,_,_=>fun s hs=>by cases hs
 | s::l,a,b,h,h0,hb=>by
  obtain⟨h1,h2,h3⟩:=h;have:=h3.le;intro x hx;rcases List.mem_cons.1 hx with rfl|hx
  ·exact⟨by omega,by omega,by omega,by omega⟩
  ·exact qhW h3 (by omega) hb x hx
theorem qxj{m:Nat}(n:Nat):∀(l:List Sp) (a:Nat),l.length<=n->0<l.length->(∀s ∈ l,s.way<m)->∀nd ∈ zt l a,(nd.leaf=true->nd.way<m)∧(nd.leaf=false->a<nd.less∧a<nd.more∧nd.less<a+(zt l a).length∧nd.more<a+(zt l a).length)∧nd.less<a+(zt l a).length∧nd.more<a+(zt l a).length:=by
 induction n with
 | zero=>intro l a h1 h2;omega
 | succ n ih =>
  intro l a h1 h2 hw nd hnd;have hlen:=qcM (n+1) l a h1 h2;rw[zt] at hnd
  by_cases hk:l.length / 2=0
  ·rw[dif_pos hk] at hnd;rw[List.mem_singleton] at hnd;subst hnd;cases l with
   | nil=>simp at h2
   | cons s l =>
    refine⟨fun _=>hw s (List.mem_cons_self ..),fun h=>(by simp at h),?_,?_⟩<;>simp only<;>omega
  ·rw[dif_neg hk] at hnd
   have e0:(zt l a).length=1+(zt (l.take (l.length / 2)) (a+1)).length+(zt (l.drop (l.length / 2)) (a+1+(zt (l.take (l.length / 2)) (a+1)).length)).length:=by
    conv=>lhs;rw[zt,dif_neg hk]
    simp;omega
   have hl1:=qcM n (l.take (l.length / 2)) (a+1) (by simp;omega) (by simp;omega);have hl2:=qcM n (l.drop (l.length / 2)) (a+1+(zt (l.take (l.length / 2)) (a+1)).length) (by simp;omega) (by simp;omega);simp at hl1 hl2;rcases List.mem_cons.1 hnd with rfl|hnd
   ·refine⟨fun h=>by simp at h,fun _=>?_,?_,?_⟩<;>simp only<;>(try refine⟨?_,?_,?_,?_⟩)<;>omega
   ·rcases List.mem_append.1 hnd with hnd|hnd
    ·obtain⟨q1,q2,q3,q4⟩:=ih (l.take (l.length / 2)) (a+1) (by simp;omega) (by simp;omega) (fun s hs=>hw s (List.mem_of_mem_take hs)) nd hnd
     exact⟨q1,fun h=>by obtain⟨p1,p2,p3,p4⟩:=q2 h;omega,by omega,by omega⟩
    ·obtain⟨q1,q2,q3,q4⟩:=ih (l.drop (l.length / 2)) _ (by simp;omega) (by simp;omega) (fun s hs=>hw s (List.mem_of_mem_drop hs)) nd hnd
     exact⟨q1,fun h=>by obtain⟨p1,p2,p3,p4⟩:=q2 h;omega,by omega,by omega⟩
def wdD(d:GData)(k:Int):Int:=(xO d).getD (k / 4).toNat 0
inductive Ev (R:List Sy) (d:GData):Nat->Int->Int->Prop where
 | ld (p:Nat) (a r:Int) (s:Sy) (h:R[p]?=some s) (hc:s.code=32) (hn:Ev R d (p+1) (wdD d s.k) r):Ev R d p a r
 | an (p:Nat) (a r:Int) (s:Sy) (h:R[p]?=some s) (hc:s.code=84) (hn:Ev R d (p+1) (xP .u32 a s.k) r):Ev R d p a r
 | rt (p:Nat) (a:Int) (s:Sy) (h:R[p]?=some s) (hc:s.code=6):Ev R d p a s.k
 | ja (p:Nat) (a r:Int) (s:Sy) (h:R[p]?=some s) (hc:s.code=5) (hn:Ev R d s.th a r):Ev R d p a r
 | jc (p:Nat) (a r:Int) (s:Sy) (h:R[p]?=some s) (hc:qde s.code) (hn:Ev R d (if qbg s.code a s.k=true then s.th else s.el) a r):Ev R d p a r
def AtL(R:List Sy)(p:Nat)(l:List Sy):Prop:=∀(j:Nat) s,l[j]?=some s->R[p+j]?=some s
theorem AtL.self{R:List Sy}:AtL R 0 R:=fun j s h=>by rw[Nat.zero_add];exact h
theorem AtL.app{R:List Sy}{p:Nat}{l m:List Sy}(h:AtL R p (l++m)):AtL R p l∧AtL R (p+l.length) m:=by
 refine⟨fun j s hj=>h j s (by rw[List.getElem?_append_left (zzS.1 hj).1];exact hj),fun j s hj=>?_⟩
 have:=h (l.length+j) s (by rw[List.getElem?_append_right (by omega),Nat.add_sub_cancel_left];exact hj)
 rw[Nat.add_assoc];exact this
theorem AtL.hd{R:List Sy}{p:Nat}{s:Sy}{l:List Sy}(h:AtL R p (s::l)):R[p]?=some s∧AtL R (p+1) l:=by
 refine⟨by simpa using h 0 s rfl,fun j x hj=>?_⟩
 have:=h (j+1) x (by simpa using hj);rw[show p+1+j=p+(j+1) by omega];exact this
def qbZ(l:List Sy)(p n:Nat):Prop:=∀(j:Nat) s,l[j]?=some s->qd9 s (p+j) n
theorem qbZ.app{l m:List Sy}{p n:Nat}(h1:qbZ l p n)(h2:qbZ m (p+l.length) n):qbZ (l++m) p n:=by
 intro j s hj;rw[List.getElem?_append] at hj;split at hj
 ·exact h1 j s hj
 ·rename_i hlt;have:=h2 _ s hj;rw[show p+l.length+(j-l.length)=p+j by omega] at this;exact this
theorem qbZ.nil{p n:Nat}:qbZ [] p n:=fun j s h=>by simp at h
theorem qbZ.cons{s:Sy}{l:List Sy}{p n:Nat}(h1:qd9 s p n)(h2:qbZ l (p+1) n):qbZ (s::l) p n:=by
 intro j x hj;cases j with
 | zero=>simp at hj;subst hj;exact h1
 | succ j=>have:=h2 j x (by simpa using hj);rw[show p+1+j=p+(j+1) by omega] at this;exact this
theorem qur(n:Nat):∀(l:List Sp) (a:Nat),l.length<=n->0<l.length->∀(i:Nat) nd,(zt l a)[i]?=some nd->nd.leaf=false->a+i<nd.less∧a+i<nd.more:=by
 induction n with
 | zero=>intro l a h1 h2;omega
 | succ n ih =>
  intro l a h1 h2 i nd hnd hl;rw[zt] at hnd
  by_cases hk:l.length / 2=0
  ·rw[dif_pos hk] at hnd;cases i with
   | zero=>simp at hnd;subst hnd;simp at hl
   | succ i=>simp at hnd
  ·rw[dif_neg hk] at hnd;have hl1:=qcM n (l.take (l.length / 2)) (a+1) (by simp;omega) (by simp;omega);cases i with
   | zero=>simp at hnd;subst hnd;simp only;omega
   | succ i =>
    rw[List.getElem?_cons_succ,List.getElem?_append] at hnd;split at hnd
    ·have:=ih (l.take (l.length / 2)) (a+1) (by simp;omega) (by simp;omega) i nd hnd hl;omega
    ·rename_i hge;have:=ih (l.drop (l.length / 2)) _ (by simp;omega) (by simp;omega) _ nd hnd hl;omega
theorem qxi{T:List Nd}{FW:Nat->Nat}{b:Nat}{n:Int}{Q:Nat->Prop}(hQ:∀(i:Nat) nd,T[i]?=some nd->nd.leaf=false->Q (if nd.at'<=n then plc FW T b nd.more else plc FW T b nd.less)->Q (plc FW T b i))(m:Nat) :
  ∀(l:List Sp) (a:Nat) (c e:Int),l.length<=m->0<l.length->zV l c e->(∀(j:Nat) nd,(zt l a)[j]?=some nd->T[a+j]?=some nd)->∀w,Cov l n w->Q (FW w)->Q (plc FW T b a):=by
 induction m with
 | zero=>intro l a c e h1 h2;omega
 | succ m ih =>
  intro l a c e h1 h2 hc hT w hw hq;rw[zt] at hT
  by_cases hk:l.length / 2=0
  ·rw[dif_pos hk] at hT;obtain⟨s,rfl⟩:∃s,l=[s]:=List.length_eq_one_iff.1 (by omega);have h0:=hT 0 _ rfl;rw[Nat.add_zero] at h0;obtain⟨x,hx,_,_,rfl⟩:=hw;rw[List.mem_singleton] at hx;subst hx;unfold plc;rw[h0];simpa using hq
  ·rw[dif_neg hk] at hT;have h0:=hT 0 _ rfl;rw[Nat.add_zero] at h0;obtain⟨z,hz⟩:∃z,l[l.length / 2]?=some z:=⟨_,zzE (by omega)⟩;have hzD:l.getD (l.length / 2) ⟨0,0,0⟩=z:=by rw[List.getD_eq_getElem?_getD,hz];rfl
   rw[hzD] at h0;have hsplit:l=l.take (l.length / 2)++l.drop (l.length / 2):=(List.take_append_drop _ _).symm;rw[hsplit] at hc;obtain⟨q,hc1,hc2⟩:=zV.app.1 hc;have hd:l.drop (l.length / 2)=z::l.drop (l.length / 2+1):=by rw[← (zzS.1 hz).2,List.getElem_cons_drop]
   have hq0:z.fr=q:=by rw[hd] at hc2;exact hc2.1
   -- what lies ahead ends below q;what lies behind begins at q
   have lo:∀{l:List Sp} {c e:Int},zV l c e->∀s ∈ l,c<=s.fr∧s.to<e:=by
    intro l
    induction l with
    | nil=>intro c e _ s hs;cases hs
    | cons y l ihl =>
     intro c e h s hs;obtain⟨p1,p2,p3⟩:=h;have:=p3.le;rcases List.mem_cons.1 hs with rfl|hs
     ·omega
     ·have:=ihl p3 s hs;omega
   refine hQ a _ h0 rfl ?_;simp only;obtain⟨s,hs,s1,s2,s3⟩:=hw;rw[hsplit] at hs;rcases List.mem_append.1 hs with hs|hs
   ·have:=lo hc1 s hs;rw[if_neg (by omega)];refine ih (l.take (l.length / 2)) (a+1) c q (by simp;omega) (by simp;omega) hc1 (fun j nd hj=>?_) w ⟨s,hs,s1,s2,s3⟩ hq
    have:=hT (j+1) nd (by rw[List.getElem?_cons_succ,List.getElem?_append_left (zzS.1 hj).1];exact hj)
    rw[show a+1+j=a+(j+1) by omega];exact this
   ·have:=lo hc2 s hs;rw[if_pos (by omega)];refine ih (l.drop (l.length / 2)) _ q e (by simp;omega) (by simp;omega) hc2 (fun j nd hj=>?_) w ⟨s,hs,s1,s2,s3⟩ hq
    have:=hT ((zt (l.take (l.length / 2)) (a+1)).length+j+1) nd (by rw[List.getElem?_cons_succ,List.getElem?_append_right (by omega),Nat.add_sub_cancel_left];exact hj)
    rw[show a+1+(zt (l.take (l.length / 2)) (a+1)).length+j=a+((zt (l.take (l.length / 2)) (a+1)).length+j+1) by omega];exact this
theorem qjh{T:List Nd}:∀{i:Nat} {nd:Nd},T[i]?=some nd->zY (T.take (i+1))=zY (T.take i)+if nd.leaf=true then 0 else 1:=by
 intro i nd h;unfold zY;rw[qaF h,List.countP_append];cases h2:nd.leaf<;>simp[h2]
theorem qjg{T:List Nd}{i j:Nat}(h:i<=j):zY (T.take i)<=zY (T.take j):=by
 have:T.take i=(T.take j).take i:=by rw[List.take_take,Nat.min_eq_left h]
 rw[this];unfold zY
 conv=>rhs;rw[← List.take_append_drop i (T.take j)]
 rw[List.countP_append];omega
theorem qu5{FW:Nat->Nat}{T:List Nd}{b i:Nat}{nd:Nd}(h:T[i]?=some nd)(hl:nd.leaf=false):(brE FW T b T)[zY (T.take i)]?=some ⟨53,nd.at',plc FW T b nd.more,plc FW T b nd.less⟩:=by
 have main:∀(u:List Nd) (i:Nat),u[i]?=some nd->(brE FW T b u)[zY (u.take i)]?=some ⟨53,nd.at',plc FW T b nd.more,plc FW T b nd.less⟩:=by
  intro u
  induction u with
  | nil=>intro i h;simp at h
  | cons y u ih =>
   intro i h;cases i with
   | zero=>simp at h;subst h;simp[brE,qia,hl,zY]
   | succ i =>
    have:=ih i (by simpa using h);simp only[brE,List.flatMap_cons,List.take_succ_cons,zY,List.countP_cons] at this ⊢;cases hy:y.leaf with
    | true=>simp[qia,hy];exact this
    | false=>simp[qia,hy];exact this
 exact main T i h
theorem qcR{a b:Nat}(ha:a<18446744073709551616)(hb:b<18446744073709551616):xP .u64 (a:Int) (b:Int)=((a &&& b:Nat):Int):=by
 have h:a &&& b<18446744073709551616:=Nat.and_lt_two_pow a (n:=64) hb;show IntKind.wrap .u64 (((BitVec.ofInt 64 (a:Int)) &&& (BitVec.ofInt 64 (b:Int))).toNat:Int)=_;rw[BitVec.ofInt_natCast,BitVec.ofInt_natCast,BitVec.toNat_and,BitVec.toNat_ofNat,BitVec.toNat_ofNat,Nat.mod_eq_of_lt ha,Nat.mod_eq_of_lt hb,qdx (by omega) (by omega)]
theorem qcQ{a b:Nat}(ha:a<4294967296)(hb:b<4294967296):xP .u32 (a:Int) (b:Int)=((a &&& b:Nat):Int):=by
 have h:a &&& b<4294967296:=Nat.and_lt_two_pow a (n:=32) hb;show IntKind.wrap .u32 (((BitVec.ofInt 32 (a:Int)) &&& (BitVec.ofInt 32 (b:Int))).toNat:Int)=_;rw[BitVec.ofInt_natCast,BitVec.ofInt_natCast,BitVec.toNat_and,BitVec.toNat_ofNat,BitVec.toNat_ofNat,Nat.mod_eq_of_lt ha,Nat.mod_eq_of_lt hb,qcC (by omega) (by omega)]
theorem qnF{a b c:Nat}:a &&& b=c↔(a % 4294967296) &&& (b % 4294967296)=c % 4294967296∧(a / 4294967296) &&& (b / 4294967296)=c / 4294967296:=by
 have e1:(a % 4294967296) &&& (b % 4294967296)=(a &&& b) % 4294967296:=(Nat.and_mod_two_pow (n:=32)).symm;have e2:(a / 4294967296) &&& (b / 4294967296)=(a &&& b) / 4294967296:=(Nat.and_div_two_pow (n:=32)).symm;rw[e1,e2];constructor
 ·intro h;rw[h];exact⟨rfl,rfl⟩
 ·rintro⟨h1,h2⟩;rw[← Nat.div_add_mod (a &&& b) 4294967296,h1,h2,Nat.div_add_mod]
theorem qil{x m v:Int}(hx:0<=x∧x<18446744073709551616)(hm:0<=m∧m<18446744073709551616)(hv:0<=v∧v<18446744073709551616):xP .u64 x m=v↔xP .u32 (loW x) (loW m)=loW v∧xP .u32 (hiW x) (hiW m)=hiW v:=by
 obtain⟨a,rfl⟩:=Int.eq_ofNat_of_zero_le hx.1;obtain⟨b,rfl⟩:=Int.eq_ofNat_of_zero_le hm.1;obtain⟨c,rfl⟩:=Int.eq_ofNat_of_zero_le hv.1;have ha:a<18446744073709551616:=by omega
 have hb:b<18446744073709551616:=by omega
 rw[qcR ha hb];have e1:loW (a:Int)=((a % 4294967296:Nat):Int):=by unfold loW;omega
 have e2:loW (b:Int)=((b % 4294967296:Nat):Int):=by unfold loW;omega
 have e3:loW (c:Int)=((c % 4294967296:Nat):Int):=by unfold loW;omega
 have e4:hiW (a:Int)=((a / 4294967296:Nat):Int):=by unfold hiW;omega
 have e5:hiW (b:Int)=((b / 4294967296:Nat):Int):=by unfold hiW;omega
 have e6:hiW (c:Int)=((c / 4294967296:Nat):Int):=by unfold hiW;omega
 rw[e1,e2,e3,e4,e5,e6,qcQ (by omega) (by omega),qcQ (by omega) (by omega)];have:=qnF (a:=a) (b:=b) (c:=c);constructor
 ·intro h;have h':a &&& b=c:=by omega
  obtain⟨p,q⟩:=this.1 h';exact⟨by rw[p],by rw[q]⟩
 ·rintro⟨p,q⟩;have h':a &&& b=c:=this.2 ⟨by omega,by omega⟩
  rw[h']
theorem qpD{x:Int}(hx:0<=x∧x<4294967296):xP .u32 x 4294967295=x:=by
 obtain⟨a,rfl⟩:=Int.eq_ofNat_of_zero_le hx.1;have:=qcQ (a:=a) (b:=4294967295) (by omega) (by decide);rw[show ((4294967295:Nat):Int)=4294967295 from rfl] at this
 have e:a &&& 4294967295=a:=by
  have:=Nat.and_two_pow_sub_one_eq_mod a 32;rw[show 2 ^ 32-1=4294967295 from rfl] at this
  rw[this];omega
 rw[this,e]
theorem qhU{x:Int}(hx:0<=x∧x<4294967296):xP .u32 x 0=0:=by
 obtain⟨a,rfl⟩:=Int.eq_ofNat_of_zero_le hx.1;have:=qcQ (a:=a) (b:=0) (by omega) (by decide);simpa using this
def EvA(R:List Sy)(d:GData)(p:Nat)(r:Int):Prop:=∀a,Ev R d p a r
section
variable {R:List Sy} {d:GData} {p F:Nat} {r:Int}
theorem qoN{k m v:Int}(h:AtL R p (qcZ k m v p F))(hw:0<=wdD d k∧wdD d k<4294967296)(hmv:m=0->v=0)(h1:xP .u32 (wdD d k) m=v->EvA R d (p+qbE m) r)(h2:xP .u32 (wdD d k) m≠v->EvA R d F r):EvA R d p r:=by
 intro a;unfold qcZ qbE at *
 by_cases m0:m=0
 ·rw[if_pos m0] at h1;have:=h1 (by rw[m0,hmv m0];exact qhU hw);simpa using this a
 rw[if_neg m0] at h h1
 by_cases m1:m=4294967295
 ·rw[if_pos m1] at h h1;obtain⟨g1,h⟩:=h.hd;obtain⟨g2,_⟩:=h.hd;refine .ld p a r _ g1 rfl (.jc _ _ r _ g2 (.inl rfl) ?_);rw[m1,qpD hw] at h1 h2;simp only[qbg]
  by_cases e:wdD d k=v
  ·rw[if_pos (by simp[e])];exact h1 e _
  ·rw[if_neg (by simp[e])];exact h2 e _
 ·rw[if_neg m1] at h h1;obtain⟨g1,h⟩:=h.hd;obtain⟨g2,h⟩:=h.hd;obtain⟨g3,_⟩:=h.hd;refine .ld p a r _ g1 rfl (.an _ _ r _ g2 rfl (.jc _ _ r _ g3 (.inl rfl) ?_));simp only[qbg]
  by_cases e:xP .u32 (wdD d k) m=v
  ·rw[if_pos (by simp[e])];exact h1 e _
  ·rw[if_neg (by simp[e])];exact h2 e _
theorem qkl{d:GData}(hd:DatOk d)(j:Nat):0<=(xO d).getD j 0∧(xO d).getD j 0<4294967296:=by
 have:=qhj (l:=xO d) (fun c hc=>qkm hd hc) j
 exact⟨this.1,by have:=this.2;omega⟩
theorem qBd{d:GData}{k:Int}(h0:0<=k)(h6:k<6):wdD d (16+8*k)=loW (qlg d k)∧wdD d (16+8*k+4)=hiW (qlg d k):=by
 have:k=0∨k=1∨k=2∨k=3∨k=4∨k=5:=by omega
 rcases this with rfl|rfl|rfl|rfl|rfl|rfl<;>exact⟨rfl,rfl⟩
theorem qlh{d:GData}(hd:DatOk d){k:Int}(h0:0<=k)(h6:k<6):0<=qlg d k∧qlg d k<18446744073709551616:=by
 have:k=0∨k=1∨k=2∨k=3∨k=4∨k=5:=by omega
 have hm:qlg d k ∈ qkv d:=by rcases this with rfl|rfl|rfl|rfl|rfl|rfl<;>simp[qlg,qkv]
 exact hd.wid _ hm
theorem qvk{v m:Int}(hv:0<=v∧v<18446744073709551616)(h:qe4 .u64 v m=0):xP .u64 v m=v:=by
 obtain⟨a,rfl⟩:=Int.eq_ofNat_of_zero_le hv.1;have h1:IntKind.wrap .u64 (((BitVec.ofInt 64 (a:Int)) &&& ~~~ (BitVec.ofInt 64 m)).toNat:Int)=0:=h;have hlt:=((BitVec.ofInt 64 (a:Int)) &&& ~~~ (BitVec.ofInt 64 m)).isLt;rw[qdx (by omega) (by omega)] at h1;have h2:(BitVec.ofInt 64 (a:Int)) &&& ~~~ (BitVec.ofInt 64 m)=0#64:=BitVec.eq_of_toNat_eq (by simpa using h1)
 have bv:∀X Y:BitVec 64,X &&& ~~~ Y=0#64->X &&& Y=X:=fun X Y h2=>by
  apply BitVec.eq_of_getLsbD_eq;intro i hi;have:=congrArg (fun b=>b.getLsbD i) h2
  simp only[BitVec.getLsbD_and,BitVec.getLsbD_not,hi,decide_true,Bool.true_and,BitVec.getLsbD_zero] at this;rw[BitVec.getLsbD_and];revert this;cases X.getLsbD i<;>cases Y.getLsbD i<;>simp
 have h3:=bv _ _ h2;show IntKind.wrap .u64 (((BitVec.ofInt 64 (a:Int)) &&& (BitVec.ofInt 64 m)).toNat:Int)=_;rw[h3,BitVec.ofInt_natCast,BitVec.toNat_ofNat,Nat.mod_eq_of_lt (by omega),qdx (by omega) (by omega)]
structure TstG (t:GTest):Prop where
 ok:TstOk t
 sub:xP .u64 t.val t.mask=t.val
theorem TstG.lo{t:GTest}(h:TstG t):(loW t.mask=0->loW t.val=0)∧(hiW t.mask=0->hiW t.val=0):=by
 obtain⟨h1,h2⟩:=(qil ⟨h.ok.v0,h.ok.v1⟩ ⟨h.ok.m0,h.ok.m1⟩ ⟨h.ok.v0,h.ok.v1⟩).1 h.sub;have e1:0<=loW t.val∧loW t.val<4294967296:=by unfold loW;omega
 have e2:0<=hiW t.val∧hiW t.val<4294967296:=by have:=h.ok.v0;have:=h.ok.v1;unfold hiW;omega
 exact⟨fun h0=>by rw[h0,qhU e1] at h1;exact h1.symm,fun h0=>by rw[h0,qhU e2] at h2;exact h2.symm⟩
theorem qxd{t:GTest}(ht:TstG t)(hd:DatOk d)(h:AtL R p (qgC t p))(h1:qbL t d=true->r=t.act)(h2:qbL t d=false->EvA R d (p+qbz t) r):EvA R d p r:=by
 obtain⟨g1,g2⟩:=h.app;obtain⟨g1,g3⟩:=g1.app;rw[qbK] at g3;rw[List.length_append,qbK,qbK] at g2;obtain⟨w1,w2⟩:=qBd (d:=d) ht.ok.a0 ht.ok.a1
 have hh:qbL t d=decide (xP .u64 (qlg d t.arg) t.mask=t.val):=by
  unfold qbL;simp[ht.ok.a0,ht.ok.a1]
 have hsp:=qil (qlh hd ht.ok.a0 ht.ok.a1) ⟨ht.ok.m0,ht.ok.m1⟩ ⟨ht.ok.v0,ht.ok.v1⟩;refine qoN g1 (qkl hd _) ht.lo.1 (fun c1=>?_) (fun c1=>h2 ?_)
 ·refine qoN g3 (qkl hd _) ht.lo.2 (fun c2=>?_) (fun c2=>h2 ?_)
  ·intro a;obtain⟨g4,_⟩:=g2.hd
   have hc:qbL t d=true:=by
    rw[hh,decide_eq_true_eq,hsp];rw[w1] at c1;rw[w2] at c2;exact⟨c1,c2⟩
   have:=Ev.rt (d:=d) (p+qbE (loW t.mask)+qbE (hiW t.mask)) a _ (by rw[Nat.add_assoc];exact g4) rfl;rw[h1 hc];exact this
  ·rw[hh,decide_eq_false_iff_not,hsp];rw[w2] at c2;exact fun q=>c2 q.2
 ·rw[hh,decide_eq_false_iff_not,hsp];rw[w1] at c1;exact fun q=>c1 q.1
theorem qnx(hd:DatOk d):∀{ts:List GTest} {a:Int} {p:Nat},(∀t ∈ ts,TstG t)->AtL R p (qbV ts a p)->EvA R d p (fnd (fun t=>qbL t d) a ts)
 | [],a,p,_,h=>fun b=>by
  rw[qi0];exact Ev.rt p b _ h.hd.1 rfl
 | t::ts,a,p,ht,h=>by
  rw[qcY];have h1:=ht t (List.mem_cons_self ..);unfold qbV at h;obtain⟨g1,g2⟩:=h.app;rw[qcL] at g2;refine qxd h1 hd g1 (fun hc=>by rw[if_pos hc]) fun hc=>?_
  by_cases hm:t.mask=0
  ·exfalso
   have hv:t.val=0:=by
    have:=h1.sub;rw[hm] at this;obtain⟨a,e⟩:=Int.eq_ofNat_of_zero_le h1.ok.v0;have:=qcR (a:=a) (b:=0) (by have:=h1.ok.v1;omega) (by decide)
    rw[← e] at this;simp at this;omega
   have hx:=qlh hd h1.ok.a0 h1.ok.a1;obtain⟨a,e⟩:=Int.eq_ofNat_of_zero_le hx.1;have:=qcR (a:=a) (b:=0) (by omega) (by decide);rw[← e] at this;unfold qbL at hc;simp[h1.ok.a0,h1.ok.a1,hm,hv] at hc this;exact hc this
  ·rw[if_neg hm] at g2;rw[if_neg (by simp[hc])];exact qnx hd (fun x hx=>ht x (List.mem_cons_of_mem _ hx)) g2
theorem qmO{k m v:Int}{n:Nat}(hk:k % 4=0∧0<=k∧k<64)(h1:p+qbE m<n)(h2:p+qbE m<=F)(h3:F<n):qbZ (qcZ k m v p F) p n:=by
 unfold qcZ qbE at *;split
 ·exact .nil
 ·rename_i m0;rw[if_neg m0] at h1 h2;split
  ·rename_i m1;rw[if_pos m1] at h1 h2;refine .cons (.inl ⟨rfl,rfl,rfl,hk⟩) (.cons (.inr (.inr (.inr ⟨.inl rfl,?_,?_,?_,?_⟩))) .nil)<;>simp only<;>omega
  ·rename_i m1;rw[if_neg m1] at h1 h2;refine .cons (.inl ⟨rfl,rfl,rfl,hk⟩) (.cons (.inr (.inl ⟨.inl rfl,rfl,rfl⟩)) (.cons (.inr (.inr (.inr ⟨.inl rfl,?_,?_,?_,?_⟩))) .nil))<;>simp only<;>omega
theorem qul{t:GTest}{n:Nat}(ht:TstOk t)(h:p+qbz t<n):qbZ (qgC t p) p n:=by
 have h0:=ht.a0;have h6:=ht.a1;unfold qgC;have e:qbz t=qbE (loW t.mask)+qbE (hiW t.mask)+1:=rfl;refine .app (.app (qmO ⟨by omega,by omega,by omega⟩ (by omega) (by omega) h) ?_) ?_
 ·rw[qbK];exact qmO ⟨by omega,by omega,by omega⟩ (by omega) (by omega) h
 ·exact .cons (.inr (.inl ⟨.inr rfl,rfl,rfl⟩)) .nil
theorem qk9:∀{ts:List GTest} {a:Int} {p n:Nat},(∀t ∈ ts,TstOk t)->p+qcp ts<n->qbZ (qbV ts a p) p n
 | [],_,_,_,_,_=>.cons (.inr (.inl ⟨.inr rfl,rfl,rfl⟩)) .nil
 | t::ts,a,p,n,ht,h=>by
  unfold qcp at h;unfold qbV;refine .app (qul (ht t (List.mem_cons_self ..)) (by omega)) ?_;rw[qcL]
  by_cases hm:t.mask=0
  ·rw[if_pos hm];exact .nil
  ·rw[if_neg hm] at h ⊢;exact qk9 (fun x hx=>ht x (List.mem_cons_of_mem _ hx)) (by omega)
theorem qk3:∀{rs:List GRule} {p n:Nat},(∀r ∈ rs,∀t ∈ r.tests,TstOk t)->p+zg rs<n->qbZ (zO rs p) p n
 | [],_,_,_,_=>.nil
 | r::rs,p,n,ht,h=>by
  have e:zg (r::rs)=qlT r+zg rs:=by simp[zg]
  unfold zO;refine .app (qk9 (ht r (List.mem_cons_self ..)) (by have:qcp r.tests=qlT r:=rfl;omega)) ?_;rw[qj2];exact qk3 (fun x hx=>ht x (List.mem_cons_of_mem _ hx)) (by omega)
end
structure FilG (x:GFil):Prop where
 a0:0<=x.arch
 a6:x.arch<6
 n:x.rules.length<=400
 t32:∀r ∈ x.rules,r.tests.length<=32
 ts:∀r ∈ x.rules,∀t ∈ r.tests,TstG t
 nr:∀r ∈ x.rules,0<=r.nr∧r.nr<4294967296
 up:∃o,o=(none:Option GRule)∧upR o x.rules=true
theorem qqY{t:GTest}(h:qbG t=true)(hm:0<=t.mask∧t.mask<18446744073709551616)(hv:0<=t.val∧t.val<18446744073709551616):TstG t:=by
 have ha:=qk8 h;simp only[qbG,Bool.and_eq_true,decide_eq_true_eq] at h;exact⟨⟨ha.1,ha.2,hm.1,hm.2,hv.1,hv.2⟩,qvk hv h.1.2⟩
theorem FilG.of{x:GFil}(hK:xB x=true)(hx:FilR x):FilG x:=by
 simp only[xB,Bool.and_eq_true,decide_eq_true_eq] at hK;obtain⟨⟨⟨⟨k1,k2⟩,k3⟩,k4⟩,k5⟩:=hK;have hr:=qhY k5;refine⟨k1,k2,k3,fun r h=>?_,fun r h t ht=>?_,hx.nr,none,rfl,k5⟩
 ·have:=hr r h;simp only[qbF,Bool.and_eq_true,decide_eq_true_eq] at this;exact this.1.1
 ·have:=hr r h;simp only[qbF,Bool.and_eq_true,List.all_eq_true] at this;have q:=hx.ts r h t ht;exact qqY (this.1.2 t ht) ⟨q.1,q.2.1⟩ ⟨q.2.2.1,q.2.2.2⟩
theorem qlc:∀{rs:List GRule} {o:Option GRule} {k:Nat} {a:Int},upR o rs=true->(∀r ∈ rs,0<=r.nr∧r.nr<4294967296)->(match o with|none=>a=0|some b=>a=b.nr+1)->Ups (rs.mapIdx fun i r=>(r.nr,i+k)) a
 | [],_,_,_,_,_,_=>by simp[Ups]
 | r::rs,o,k,a,h,hn,ha=>by
  simp only[upR,Bool.and_eq_true] at h;obtain⟨⟨_,h1⟩,h2⟩:=h;rw[List.mapIdx_cons];have hr:=hn r (List.mem_cons_self ..);refine⟨?_,hr.2,?_⟩
  ·cases o with
   | none=>simp only at ha;simp only;omega
   | some b=>simp only[Option.elim,decide_eq_true_eq] at h1;simp only at ha ⊢;omega
  ·have:=qlc (o:=some r) (k:=k+1) (a:=r.nr+1) h2 (fun x hx=>hn x (List.mem_cons_of_mem _ hx)) rfl
   simpa[Nat.add_assoc,Nat.add_comm 1 k] using this
theorem FilG.ups{x:GFil}(h:FilG x):Ups (qH x.rules) 0:=by
 obtain⟨o,rfl,hu⟩:=h.up;exact qlc hu h.nr rfl
theorem qlb:∀{l:List (Int×Nat)} {a:Int},Ups l a->qt5 l
 | [],_,_,i,x,y,h,_=>by simp at h
 | [x],_,_,i,y,z,h1,h2=>by simp at h2
 | x::y::l,a,⟨h1,h2,h3⟩,i,u,v,hu,hv=>by
  cases i with
  | zero=>simp at hu hv;subst hu hv;have:=h3.1;omega
  | succ i=>exact qlb h3 i u v (by simpa using hu) (by simpa using hv)
section
variable {x:GFil}
theorem FilG.spans(h:FilG x):zV (zC (pcs 0 (qH x.rules) 0)) 0 4294967296∧(∀(i:Nat) r,x.rules[i]?=some r->Cov (zC (pcs 0 (qH x.rules) 0)) r.nr (i+1))∧(∀n:Int,0<=n->n<4294967296->(∀r ∈ x.rules,r.nr≠n)->Cov (zC (pcs 0 (qH x.rules) 0)) n 0) ∧
  (∀s ∈ zC (pcs 0 (qH x.rules) 0),s.way<x.rules.length+1)∧(zC (pcs 0 (qH x.rules) 0)).length<=2*x.rules.length+1:=by
 obtain⟨c1,c2,c3⟩:=qkY (o:=0) h.ups (by omega) (by omega);obtain⟨f1,f2⟩:=qjp (l:=[]) (a:=0) rfl c1
 have hw:∀y ∈ qH x.rules,y.2<x.rules.length+1:=fun y hy=>by
  obtain⟨i,hi⟩:=List.getElem?_of_mem hy;rw[qcI] at hi;obtain⟨r,hr,rfl⟩:=Option.map_eq_some_iff.1 hi;have:=(zzS.1 hr).1;simp only;omega
 obtain⟨g1,g2⟩:=qkH (m:=x.rules.length+1) (k:=pcs 0 (qH x.rules) 0) (l:=[]) (fun y hy=>by cases hy) (qnf (by omega) hw)
 have hl:=qo5 (o:=0) (l:=qH x.rules) (a:=0);refine⟨f1,fun i r hr=>?_,fun n h0 h1 hn=>?_,g1,?_⟩
 ·have hm:(r.nr,i+1) ∈ qH x.rules:=zzM (i:=i) (by rw[qcI,hr];rfl);exact f2 _ _ (.inr (c2 _ hm))
 ·refine f2 _ _ (.inr (c3 n h0 h1 fun y hy=>?_))
  obtain⟨i,hi⟩:=List.getElem?_of_mem hy;rw[qcI] at hi;obtain⟨r,hr,rfl⟩:=Option.map_eq_some_iff.1 hi;exact hn r (zzM hr)
 ·rw[qaC] at hl;simp only[List.length_nil] at g2;show (List.foldl x8 [] (pcs 0 (qH x.rules) 0)).length<=_;omega
theorem FilG.pos(h:FilG x):0<(zC (pcs 0 (qH x.rules) 0)).length:=by
 obtain⟨c,_⟩:=h.spans;rcases Nat.eq_zero_or_pos (zC (pcs 0 (qH x.rules) 0)).length with h0|h0
 ·rw[List.eq_nil_of_length_eq_zero h0] at c;simp[zV] at c
 ·exact h0
theorem FilG.tlen(h:FilG x):(qM x).length+1=2*(zC (pcs 0 (qH x.rules) 0)).length:=qcM _ _ 0 (Nat.le_refl _) h.pos
theorem qky(n:Nat):∀(l:List Sp) (a:Nat),l.length<=n->0<l.length->zY (zt l a)+1=l.length:=by
 induction n with
 | zero=>intro l a h1 h2;omega
 | succ n ih =>
  intro l a h1 h2;rw[zt]
  by_cases hk:l.length / 2=0
  ·rw[dif_pos hk];simp[zY];omega
  ·rw[dif_neg hk];have e1:=ih (l.take (l.length / 2)) (a+1) (by simp;omega) (by simp;omega);have e2:=ih (l.drop (l.length / 2)) (a+1+(zt (l.take (l.length / 2)) (a+1)).length) (by simp;omega) (by simp;omega);simp only[zY,List.countP_cons,List.countP_append] at e1 e2 ⊢;simp at e1 e2 ⊢;omega
theorem FilG.dfl(h:FilG x):jg x<=4+max 1 (2*x.rules.length)∧(qM x).length<=4*x.rules.length+1:=by
 have ha:=qky _ (zC (pcs 0 (qH x.rules) 0)) 0 (Nat.le_refl _) h.pos;have ht:=h.tlen;have hl:=h.spans.2.2.2.2;have ho:=qo3 (a:=x.arch);have e:zY (qM x)+1=(zC (pcs 0 (qH x.rules) 0)).length:=ha
 have hj:jaN (qM x)+zY (qM x)<=max 1 (2*x.rules.length):=by
  have hj1:jaN (qM x)<=1:=by cases qM x with
   | nil=>simp[jaN]
   | cons n T=>simp only[jaN];split<;>omega
  have hj2:2<=(zC (pcs 0 (qH x.rules) 0)).length->jaN (qM x)=0:=fun h2=>by
   unfold qM;rw[zt,dif_neg (by omega)];rfl
  by_cases h2:2<=(zC (pcs 0 (qH x.rules) 0)).length
  ·rw[hj2 h2];omega
  ·omega
 unfold jg;omega
theorem FilG.tne(h:FilG x):qM x≠[]:=fun e=>by have:=h.tlen;rw[e] at this;simp at this;omega
theorem FilG.nodes(h:FilG x):∀nd ∈ qM x,NdOk (x.rules.length+1) (qM x).length nd:=fun nd hnd=>by
 obtain⟨q1,q2,q3,q4⟩:=qxj _ _ 0 (Nat.le_refl _) h.pos h.spans.2.2.2.1 nd hnd;rw[Nat.zero_add] at q3 q4;exact⟨q1,q3,q4⟩
end
section
variable {x:GFil}
theorem qkh{j:Nat}:jg x<=xz x j∧xz x j<=xw x:=by
 unfold xz xw;have:=qiE (rs:=x.rules) (i:=j-1);split<;>omega
theorem qAt{a:Int}{F n:Nat}(h1:4<n)(h2:4<=F)(h3:F<n):qbZ (qa2 a 0 F) 0 n:=by
 unfold qa2;refine .app (.cons (.inl ⟨rfl,rfl,rfl,by decide,by decide,by decide⟩) (.cons (.inr (.inr (.inr ⟨.inl rfl,?_,?_,?_,?_⟩))) (.cons (.inl ⟨rfl,rfl,rfl,by decide,by decide,by decide⟩) .nil))) ?_
 ·simp only;omega
 ·simp only;omega
 ·simp only;omega
 ·simp only;omega
 ·show qbZ _ (0+3) n;split
  ·refine .cons (.inr (.inr (.inr ⟨.inr (.inr (.inr rfl)),?_,?_,?_,?_⟩))) .nil<;>simp only<;>omega
  ·split
   ·refine .cons (.inr (.inr (.inr ⟨.inr (.inr (.inr rfl)),?_,?_,?_,?_⟩))) .nil<;>simp only<;>omega
   ·exact .nil
theorem qrs{FW:Nat->Nat}{T:List Nd}{b n:Nat}(hF:∀j,b+zY T<=FW j∧FW j<n)(hfw:∀(i:Nat) nd,T[i]?=some nd->nd.leaf=false->i<nd.less∧i<nd.more∧nd.less<T.length∧nd.more<T.length)(hbn:b+zY T<n) :
  ∀(u:List Nd) (k:Nat),T.drop k=u->qbZ (u.flatMap (qia FW T b)) (b+zY (T.take k)) n
 | [],_,_=>.nil
 | nd::u,k,h=>by
  have hk:T[k]?=some nd:=by rw[← List.head?_drop,h];rfl
  have hu:T.drop (k+1)=u:=by rw[← List.tail_drop,h];rfl
  have ih:=qrs hF hfw hbn u (k+1) hu;rw[qjh hk] at ih;rw[List.flatMap_cons];cases hl:nd.leaf with
  | true =>
   have e:qia FW T b nd=[]:=by simp[qia,hl]
   rw[hl] at ih;rw[e];simpa using ih
  | false =>
   have e:qia FW T b nd=[⟨53,nd.at',plc FW T b nd.more,plc FW T b nd.less⟩]:=by simp[qia,hl]
   rw[hl] at ih;simp only[Bool.false_eq_true,if_false] at ih ⊢;rw[e,List.singleton_append]
   have key:∀j,k<j->j<T.length->b+zY (T.take k)<plc FW T b j∧plc FW T b j<n:=fun j h1 h2=>by
    have h3:zY (T.take (k+1))<=zY (T.take j):=qjg h1
    have h4:zY (T.take j)<=zY T:=by
     have:=qjg (T:=T) (i:=j) (j:=T.length) (by omega);rwa [List.take_length] at this
    rw[qjh hk,hl] at h3;simp only[Bool.false_eq_true,if_false] at h3;unfold plc;rw[zzE h2];simp only;split
    ·have:=hF T[j].way;omega
    ·omega
   obtain⟨f1,f2,f3,f4⟩:=hfw k nd hk hl;obtain⟨m1,m2⟩:=key nd.more f2 f4;obtain⟨l1,l2⟩:=key nd.less f1 f3;exact .cons (.inr (.inr (.inr ⟨.inr (.inr (.inl rfl)),m1,m2,l1,l2⟩))) (by rw[Nat.add_assoc];exact ih)
theorem FilG.fwd(h:FilG x):∀(i:Nat) nd,(qM x)[i]?=some nd->nd.leaf=false->i<nd.less∧i<nd.more∧nd.less<(qM x).length∧nd.more<(qM x).length:=fun i nd hi hl=>by
 obtain⟨q1,q2⟩:=qur _ _ 0 (Nat.le_refl _) h.pos i nd hi hl;have:=h.nodes nd (zzM hi);exact⟨by omega,by omega,this.less,this.more⟩
theorem qrZ(h:FilG x):qbZ (zd x) 0 (xw x+1):=by
 have hd:jg x=jl x.arch+(jaN (qM x)+zY (qM x)):=rfl;have hN:xw x=jg x+1+zg x.rules:=rfl;have ho:3<=jl x.arch∧jl x.arch<=4:=by unfold jl;split;omega;split<;>omega
 have hpos:0<jaN (qM x)+zY (qM x):=by
  have ha:=qky _ (zC (pcs 0 (qH x.rules) 0)) 0 (Nat.le_refl _) h.pos;have e:zY (qM x)+1=(zC (pcs 0 (qH x.rules) 0)).length:=ha
  by_cases h2:2<=(zC (pcs 0 (qH x.rules) 0)).length
  ·omega
  ·have hj:jaN (qM x)=1:=by unfold qM;rw[zt,dif_pos (by have:=h.pos;omega)];rfl
   omega
 have ht:∀r ∈ x.rules,∀t ∈ r.tests,TstOk t:=fun r hr t ht=>(h.ts r hr t ht).ok
 unfold zd;refine .app (.app (.app (.app (qAt (by omega) (by omega) (by omega)) ?_) ?_) ?_) ?_
 ·rw[jr,Nat.zero_add];unfold z8;refine .app ?_ ?_
  ·cases hT:qM x with
   | nil=>exact .nil
   | cons nd T =>
    simp only[jaE];split
    ·rename_i hl;rw[hT] at hd;simp only[jaN,if_pos hl] at hd;have:=(qkh (x:=x) (j:=nd.way)).1;have:=(qkh (x:=x) (j:=nd.way)).2;exact .cons (.inr (.inr (.inl ⟨rfl,rfl,rfl,by simp only;omega,by simp only;omega⟩))) .nil
    ·exact .nil
  ·rw[qlA];have:=qrs (FW:=xz x) (T:=qM x) (b:=jl x.arch+jaN (qM x)) (n:=xw x+1) (fun j=>by have:=qkh (x:=x) (j:=j);omega) h.fwd (by omega) (qM x) 0 rfl
   unfold brE;simpa[zY] using this
 ·refine .cons (.inr (.inl ⟨.inr rfl,rfl,rfl⟩)) .nil
 ·have e:0+(qa2 x.arch 0 (xw x)++z8 (xz x) (qM x) (jl x.arch)++[(⟨6,x.dflt,0,0⟩:Sy)]).length=jg x+1:=by
   simp only[List.length_append,jr,x5,List.length_singleton];unfold jg;omega
  rw[e];exact qk3 ht (by omega)
 ·refine .cons (.inr (.inl ⟨.inr rfl,rfl,rfl⟩)) .nil
theorem FilG.rN(h:FilG x):zg x.rules<=x.rules.length*225:=qif h.t32
theorem qfh(h:FilG x):MayL (zd x):=by
 have hl:=qkD (x:=x);have hd:=h.dfl.1;have hr:=h.rN;have hn:=h.n;have hN:xw x=jg x+1+zg x.rules:=rfl;refine⟨by omega,by omega,⟨⟨6,2147418112,0,0⟩,?_,rfl⟩,fun j s hj=>?_⟩
 ·rw[hl]
  have e:xw x+1-1=(qa2 x.arch 0 (xw x)++z8 (xz x) (qM x) (jl x.arch)++[(⟨6,x.dflt,0,0⟩:Sy)]++zO x.rules (jg x+1)).length:=by
   simp only[List.length_append,jr,x5,List.length_singleton,qa4];unfold xw jg;omega
  rw[e];unfold zd;simp
 ·have:=qrZ h j s hj;rw[hl,Nat.zero_add] at *;exact this
end
end Go.Kc
end
