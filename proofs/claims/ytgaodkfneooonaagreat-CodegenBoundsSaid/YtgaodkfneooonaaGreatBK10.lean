/- Part 10 of the abstract machine and of the functions' walks. Conditions: with each theorem. -/
import Derived.Test.YtgaodkfneooonaaGreatBK9
set_option maxHeartbeats 4000000
set_option linter.unusedSectionVars false
set_option linter.unusedSimpArgs false
set_option linter.unusedVariables false
set_option linter.unnecessarySimpa false
section
namespace Go.Kc
variable {P:Program} {f:Nat}
def xF(a:Nat):IFn:=⟨[.tmp 2],.seq (.r [.q 1 (.box (.t 0)),.m 2 (.c (.nilf))]) (.seq (.r [.q 3 (.mkF a [] [.t 1]),.n 2 3]) (.ret))⟩
theorem qCp{g:Nat}(hc:qc P f (xF g)=true)(l:List Sy):qd P f [.fz l.length (rSy l)] (.fn g [] [.pf [.fz l.length (rSy l)] 0]):=by
 refine qd.mk hc (by simp[qu,clo,qU]) ?_;simp only[xF,vI,simprocAttr];simp +decide only[↓vS,vT,simprocAttr];simp[vZ,vP,Tr.get_set,zp qU]
def qB:IFn:=⟨[],.seq (.r [.d 4 1,.e 5 4,.w 6 .sub 5 1,.n 3 6]) (.blk 0 (.loop (.seq (.seq (.r [.n 7 3,.w 8 .geq 7 0]) (.cond (.t 8) (.skip) (.exit 0))) (.seq (.blk 1 (.seq (.r [.n 11 0,.n 12 3,.d 13 1,.n 14 3,.i 15 4 13 14,.v 16 4 15,⟨(some 17),.callV (.t 11) [.t 12,.t 16],none⟩,.q 18 (.un .not (.t 17))]) (.cond (.t 18) (.ret) (.skip)))) (.r [.n 9 3,.w 10 .sub 9 1,.n 3 10])))))⟩
theorem xa{α:Type}{c:α->List AV}{l:List α}{lb:Nat}(hc:qc P f qB=true)(hm:∀x,(c x).length=4)(hn:l.length<=1000000)(J:Nat->Hp->Prop)
  (hy:∀(i:Nat) x h,l[i]?=some x->J (i+1) h->∀k:AV->Hp->Prop,(∀h',J i h'->k (.b true) h')->SY P lb [.i .i64 (i:Int),.agg (c x)] h k)
  {s:Nat} {tr:Tr Blk} {k:AV->Hp->Prop} (h0:J l.length ⟨s,0,tr⟩) (hk:∀h,J 0 h->k (.tup []) h):SC P f [.yl lb,.pf [.fz l.length (l.flatMap c)] 0] ⟨s,0,tr⟩ k:=by
 refine SC.mk hc (qj ?_);simp only[qB,vI,simprocAttr];have e1:IntKind.wrap .i64 ((l.length:Int)-1)=(l.length:Int)-1:=qq (by omega) (by omega);simp +decide only[↓vS,vT,simprocAttr,e1];refine SL.loopP (α:=Nat) (fun i=>[(0,.yl lb),(1,.pf [.fz l.length (l.flatMap c)] 0),(3,.i .i64 ((i:Int)-1))]) (fun i h=>i<=l.length∧J i h) (fun i=>i) ?_ l.length ?_ ?_
 ·rintro i h1 ⟨hi,hj⟩ G ih;obtain⟨s',fl',tr'⟩:=h1;simp only[vI,simprocAttr];cases i with
  | zero =>
   have n0:¬(0:Int)<=((0:Nat):Int)-1:=by omega
   simp +decide only[↓vS,vT,simprocAttr,n0];exact hk _ hj
  | succ i =>
   have n0:(0:Int)<=((i+1:Nat):Int)-1:=by omega
   have e2:((i+1:Nat):Int)-1=(i:Int):=by omega
   obtain⟨x,hx⟩:∃x,l[i]?=some x:=⟨_,zzE (by omega)⟩;have hel:=zj (f:=c) (m:=4) hm hx;have hlt:i<l.length:=by omega
   have h4:i*4+4<=(l.flatMap c).length:=by rw[zl hm];omega
   have n1:(0:Int)<=(i:Int):=by omega
   have e3:IntKind.wrap .i64 ((i:Int)-1)=(i:Int)-1:=qq (by omega) (by omega);rw[e2];simp +decide only[↓vS,vT,simprocAttr,n1,hlt,h4,hel];refine hy i x _ hx hj _ fun h' hj'=>?_
   simp +decide only[↓vS,vT,simprocAttr,e3];exact ih i _ _ (by omega) (by simp[qf,qi,Tr.get_set]) ⟨by omega,hj'⟩
 ·simp[qf,qi,Tr.get_set]
 ·exact⟨Nat.le_refl _,h0⟩
def qH:IFn:=⟨[],.seq (.r [.d 4 1,.e 5 4,.w 6 .sub 5 1,.n 3 6]) (.blk 0 (.loop (.seq (.seq (.r [.n 7 3,.w 8 .geq 7 0]) (.cond (.t 8) (.skip) (.exit 0))) (.seq (.blk 1 (.seq (.r [.n 11 0,.n 12 3,.d 13 1,.n 14 3,.i 15 4 13 14,.v 16 4 15,⟨(some 17),.callV (.t 11) [.t 12,.t 16],none⟩,.q 18 (.un .not (.t 17))]) (.cond (.t 18) (.ret) (.skip)))) (.r [.n 9 3,.w 10 .sub 9 1,.n 3 10])))))⟩
theorem qaa{α:Type}{c:α->List AV}{l:List α}{lb:Nat}(hc:qc P f qH=true)(hm:∀x,(c x).length=4)(hn:l.length<=1000000)(J:Nat->Hp->Prop)
  (hy:∀(i:Nat) x h,l[i]?=some x->J (i+1) h->∀k:AV->Hp->Prop,(∀h',J i h'->k (.b true) h')->SY P lb [.i .i64 (i:Int),.agg (c x)] h k)
  {s:Nat} {tr:Tr Blk} {k:AV->Hp->Prop} (h0:J l.length ⟨s,0,tr⟩) (hk:∀h,J 0 h->k (.tup []) h):SC P f [.yl lb,.pf [.fz l.length (l.flatMap c)] 0] ⟨s,0,tr⟩ k:=by
 refine SC.mk hc (qj ?_);simp only[qH,vI,simprocAttr];have e1:IntKind.wrap .i64 ((l.length:Int)-1)=(l.length:Int)-1:=qq (by omega) (by omega);simp +decide only[↓vS,vT,simprocAttr,e1];refine SL.loopP (α:=Nat) (fun i=>[(0,.yl lb),(1,.pf [.fz l.length (l.flatMap c)] 0),(3,.i .i64 ((i:Int)-1))]) (fun i h=>i<=l.length∧J i h) (fun i=>i) ?_ l.length ?_ ?_
 ·rintro i h1 ⟨hi,hj⟩ G ih;obtain⟨s',fl',tr'⟩:=h1;simp only[vI,simprocAttr];cases i with
  | zero =>
   have n0:¬(0:Int)<=((0:Nat):Int)-1:=by omega
   simp +decide only[↓vS,vT,simprocAttr,n0];exact hk _ hj
  | succ i =>
   have n0:(0:Int)<=((i+1:Nat):Int)-1:=by omega
   have e2:((i+1:Nat):Int)-1=(i:Int):=by omega
   obtain⟨x,hx⟩:∃x,l[i]?=some x:=⟨_,zzE (by omega)⟩;have hel:=zj (f:=c) (m:=4) hm hx;have hlt:i<l.length:=by omega
   have h4:i*4+4<=(l.flatMap c).length:=by rw[zl hm];omega
   have n1:(0:Int)<=(i:Int):=by omega
   have e3:IntKind.wrap .i64 ((i:Int)-1)=(i:Int)-1:=qq (by omega) (by omega);rw[e2];simp +decide only[↓vS,vT,simprocAttr,n1,hlt,h4,hel];refine hy i x _ hx hj _ fun h' hj'=>?_
   simp +decide only[↓vS,vT,simprocAttr,e3];exact ih i _ _ (by omega) (by simp[qf,qi,Tr.get_set]) ⟨by omega,hj'⟩
 ·simp[qf,qi,Tr.get_set]
 ·exact⟨Nat.le_refl _,h0⟩
theorem qkP{α:Type}{f:α->List AV}{m:Nat}(h:∀x,(f x).length=m){xs:List α}{j:Nat}(x':α)(hj:j<xs.length):(xs.flatMap f).take (j*m)++(f x'++(xs.flatMap f).drop (j*m+m))=(xs.set j x').flatMap f:=by
 have e:xs=xs.take j++xs[j]::xs.drop (j+1):=by rw[List.getElem_cons_drop,List.take_append_drop]
 have e1:(xs.flatMap f).take (j*m)=(xs.take j).flatMap f:=qfW h xs j;have e2:(xs.flatMap f).drop (j*m+m)=(xs.drop (j+1)).flatMap f:=by rw[← qd9 h xs (j+1),Nat.add_mul];simp
 rw[e1,e2,List.set_eq_take_append_cons_drop,if_pos hj];simp
theorem qno{l:List Sy}{j:Nat}(y:Sy)(hj:j<l.length):(rSy l).take (j*4)++(cSy y++(rSy l).drop (j*4+4))=rSy (l.set j y):=qkP qdj y hj
def xL(out:List Sy)(j:Nat):Nat:=match out[j]? with|some x=>if x.code=5 then x.th else j|none=>j
def qa7(out:List Sy)(x:Sy):Sy:=if qcf (qa2 (xL out) x)∧(qa2 (xL out) x).th=(qa2 (xL out) x).el then ⟨5,0,(qa2 (xL out) x).th,0⟩ else qa2 (xL out) x
def qeo(l:List Sy):Nat->List Sy
 | 0=>l
 | m+1=>match l[l.length-(m+1)]? with|some x=>(qeo l m).set (l.length-(m+1)) (qa7 (qeo l m) x)|none=>qeo l m
theorem qep{l:List Sy}:∀{m:Nat},(qeo l m).length=l.length
 | 0=>rfl
 | m+1=>by
  unfold qeo;split
  ·rw[List.length_set,qep]
  ·exact qep
def ql6(l:List Sy):List Sy:=qeo l l.length
def qaj:IFn:=⟨[.tmp 3],.seq (.r [.m 3 (.k 0)]) (.seq (.seq (.r [.d 4 1,.n 5 0,.i 6 4 4 5,.f 7 0 6,.d 8 7,.q 9 (.bin .eql (.t 8) (.c (.i .u16 5)))]) (.cond (.t 9) (.r [.d 10 1,.n 11 0,.i 12 4 10 11,.f 13 2 12,.d 14 13,.n 0 14]) (.skip))) (.seq (.r [.n 15 0,.n 3 15]) (.ret)))⟩
theorem ql9(hc:qc P f qaj=true)(out:List Sy)(j:Nat)(hj:j<out.length):qd P f [.i .i64 (j:Int),.pf [.fz out.length (rSy out)] 0] (.i .i64 ((xL out j:Nat):Int)):=by
 refine qd.mk hc (by simp[qu,clo,qU]) ?_;obtain⟨y,hy⟩:∃y,out[j]?=some y:=⟨_,zzE hj⟩;have gc:(rSy out)[j*4]?=some (.i .u16 y.code):=qhN hy (i:=0) (by omega);have gt:(rSy out)[j*4+2]?=some (.i .i64 (y.th:Int)):=qhN hy (i:=2) (by omega);simp only[qaj,vI,simprocAttr]
 by_cases h5:y.code=5
 ·have e:xL out j=y.th:=by unfold xL;rw[hy];simp[h5]
  simp +decide only[↓vS,vT,simprocAttr,gc,gt,hj,h5];simp[vZ,e]
 ·have e:xL out j=j:=by unfold xL;rw[hy];simp[h5]
  simp +decide only[↓vS,vT,simprocAttr,gc,gt,hj,h5];simp[vZ,e]
def qa1(a b c d e:Nat):ICode:=.seq (.r [.d 42 3,.n 2 42]) (.ret)
def qcm(a b c d e:Nat):IFn:=⟨[.tmp 2],.seq (.r [.m 2 .N]) (.seq (.r [.n 7 0,.l 8 a [.t 7],.q 3 (.alloc [.nils]),.u (.store 1 (.t 3) (.t 8))]) (.seq (.r [.q 9 (.mkF b [] [.t 3]),.q 4 (.alloc [.nilf]),.u (.store 1 (.t 4) (.t 9))]) (.seq (.seq (.r [.n 10 0,.l 11 c [.t 10]]) (.blk 0 (.rangeF 0 (.t 11) [12,13] (.seq (.r [.n 5 12]) (.r [.q 6 (.alloc [.i .u16 0,.i .u32 0,.i .i64 0,.i .i64 0]),.u (.store 4 (.t 6) (.t 13))])) (.blk 1 (.seq (.reg true [.d 14 3,.n 15 5,.v 16 4 6,.q 17 (.buildS 1 [.i .u16 0,.i .u32 0,.i .i64 0,.i .i64 0] [(0,4,(.t 16))]),.d 18 4,.l 19 d [.t 17,.t 18],.q 20 (.iAddrS 4 (.t 19) (.k 0)),.v 21 4 20,.i 22 4 14 15,.u (.store 4 (.t 22) (.t 21))]) (.seq (.r [.d 23 3,.n 24 5,.i 25 4 23 24,.v 26 4 25,.u (.store 4 (.t 6) (.t 26))]) (.seq (.r [.v 27 4 6,.l 28 e [.t 27],.n 29 28,.h 30 2 6 29 true,.j 31 30 29 true,.h 32 3 6 29 true,.j 33 32 29 true,.g 34 (.bin .eql (.t 31) (.t 33)) 29 true,.p 35 29 34]) (.cond (.t 35) (.r [.d 36 3,.n 37 5,.f 38 2 6,.d 39 38,.q 40 (.build [.i .u16 0,.i .u32 0,.i .i64 0,.i .i64 0] [(0,1,(.c (.i .u16 5))),(2,1,(.t 39))]),.i 41 4 36 37,.u (.store 4 (.t 41) (.t 40))]) (.skip))))))))) (.cut (qa1 a b c d e)))))⟩
def thT(gB:Nat)(l:List Sy):List (Nat×AV):=[(3,.ptr 1 0),(4,.ptr 2 0),(11,.fn gB [] [.pf [.fz l.length (rSy l)] 0])]
def thA:ICode:=.seq (.reg false [⟨some 5,.op (.mov (.t 12)),none⟩]) (.reg false [⟨some 6,.op (.alloc [.i .u16 0,.i .u32 0,.i .i64 0,.i .i64 0]),none⟩,⟨none,.op (.store 4 (.t 6) (.t 13)),none⟩])
def thB(gM gA:Nat):ICode:=.blk 1 (.seq (.reg true [.d 14 3,.n 15 5,.v 16 4 6,.q 17 (.buildS 1 [.i .u16 0,.i .u32 0,.i .i64 0,.i .i64 0] [(0,4,(.t 16))]),.d 18 4,.l 19 gM [.t 17,.t 18],.q 20 (.iAddrS 4 (.t 19) (.k 0)),.v 21 4 20,.i 22 4 14 15,.u (.store 4 (.t 22) (.t 21))]) (.seq (.r [.d 23 3,.n 24 5,.i 25 4 23 24,.v 26 4 25,.u (.store 4 (.t 6) (.t 26))]) (.seq (.r [.v 27 4 6,.l 28 gA [.t 27],.n 29 28,.h 30 2 6 29 true,.j 31 30 29 true,.h 32 3 6 29 true,.j 33 32 29 true,.g 34 (.bin .eql (.t 31) (.t 33)) 29 true,.p 35 29 34]) (.cond (.t 35) (.r [.d 36 3,.n 37 5,.f 38 2 6,.d 39 38,.q 40 (.build [.i .u16 0,.i .u32 0,.i .i64 0,.i .i64 0] [(0,1,(.c (.i .u16 5))),(2,1,(.t 39))]),.i 41 4 36 37,.u (.store 4 (.t 41) (.t 40))]) (.skip)))))
def thI(g1:Nat)(r0:Loop)(ts:List (Nat×AV))(n:Nat)(out:List Sy)(s:Nat)(tr:Tr Blk):Prop :=
 out.length=n∧4<=s∧tr.get 0=some (.cells 4 true true (rSy out))∧tr.get 1=some (.cells 0 true false [.own 0 n])∧tr.get 2=some (.cells 0 true false [.fn g1 [] [.ptr 1 0]])∧tr.get 3=some (.map (zn r0 ts))
theorem qup{g1 gB gM gA s n:Nat}{r0:Loop}{l out:List Sy}{tr:Tr Blk}{k:AV->Hp->Prop}
  (hM:∀(x:Sy) (out:List Sy),out.length=n->(∀j:Nat,(qbj x∧j=x.th)∨(qcf x∧j=x.el)->j<n)->qg6 P gM [.fz 1 (cSy x),.fn g1 [] [.pf [.fz out.length (rSy out)] 0]] (.own 0 1) [.cells 4 true true (cSy (qa2 (xL out) x))])
  (hA:qfd P gA) (hr0:r0.state = .ready) (hp0:r0.pending=none) (hlo:LoopOk P r0 [12,13] thA (thB gM gA)) (hI:thI g1 r0 (thT gB l) n out s tr) (i:Nat) (hi:i<n) (x:Sy) (hx:∀j:Nat,(qbj x∧j=x.th)∨(qcf x∧j=x.el)->j<n)
  (hk:∀s' tr',thI g1 r0 (thT gB l) n (out.set i (qa7 out x)) s' tr'->k (.b true) ⟨s',0,tr'⟩):SY P 3 [.i .i64 (i:Int),.agg (cSy x)] ⟨s,0,tr⟩ k:=by
 obtain⟨hn,h4,h0,h1,h2,h3⟩:=hI;refine SY.mk (r:=r0) (ts:=thT gB l) (ps:=[12,13]) h3 hr0 hlo (Nat.zero_le _) (by show 3<s;omega) rfl ?_;rw[show mkT (thT gB l)=((Tr.leaf.set 11 (.fn gB [] [.pf [.fz l.length (rSy l)] 0])).set 4 (.ptr 2 0)).set 3 (.ptr 1 0) from rfl]
 refine qj ?_;simp only[qkz,thA,cSy,vI,simprocAttr];simp +decide only[↓vS,vT,simprocAttr];have n3:¬3=s:=by omega
 have n0:¬0=s:=by omega
 have n1:¬1=s:=by omega
 have n2:¬2=s:=by omega
 have m0:¬0=s+1:=by omega
 have m1:¬1=s+1:=by omega
 have m2:¬2=s+1:=by omega
 have m3:¬3=s+1:=by omega
 have q1:¬s=s+1:=by omega
 have q2:¬s=s+1+1:=by omega
 have q3:¬0=s+1+1:=by omega
 have q4:¬1=s+1+1:=by omega
 have q5:¬2=s+1+1:=by omega
 have q6:¬3=s+1+1:=by omega
 have ns3:¬s=3:=by omega
 have ns0:¬s=0:=by omega
 refine⟨thT gB l,by simp[Tr.get_set,n3,h3],?_⟩
 refine qj ?_;simp only[z7,thB,vI,simprocAttr];simp +decide only[↓vS,vT,simprocAttr];refine zD ?_;have e1:¬(0:Nat)=3:=by decide
 have e2:¬(1:Nat)=3:=by decide
 have e3:¬(2:Nat)=3:=by decide
 simp +decide only[↓vS,vT,simprocAttr,h1,h2,e1,e2,e3,n0,n1,n2,ns3,m0,m1,m2,q1]
 have fr0:∀(f2:Nat) (t2:Tr Blk),t2.get (s+1)=some (.cells 0 true false (cSy x))->t2.get 1=some (.cells 0 true false [.own 0 n])->t2.get 0=some (.cells 4 true true (rSy out))->
   Frzs ⟨s+1+1,f2,t2⟩ [.sl (s+1) 0 1 1 false,.fn g1 [] [.ptr 1 0]] [.fz 1 (cSy x),.fn g1 [] [.pf [.fz out.length (rSy out)] 0]]:=fun f2 t2 p1 p2 p3=>by
  refine qaP.2 ⟨Frz.cut 4 rfl (Nat.le_refl _) ?_,qaP.2 ⟨qst.2 ⟨rfl,qeA.2 trivial,qaP.2 ⟨qsr.2 ⟨rfl,?_⟩,qeA.2 trivial⟩⟩,qeA.2 trivial⟩⟩
  ·rw[p1];simp[vP,cSy,vZ]
  ·rw[p2];simp[vP,vZ,p3,hn];refine⟨fun h=>?_,Frzs.self qU⟩
   rw[List.eq_nil_of_length_eq_zero (hn.trans h)];rfl
 refine (hM x out hn hx).pc (fr0 _ _ ?_ ?_ ?_) ?_
 ·rw[Tr.get_set,if_pos rfl];rfl
 ·rw[Tr.get_set,if_neg m1,Tr.get_set,if_neg (by decide),Tr.get_set,if_neg n1,Tr.get_set,if_neg n1];exact h1
 ·rw[Tr.get_set,if_neg m0,Tr.get_set,if_neg (by decide),Tr.get_set,if_neg n0,Tr.get_set,if_neg n0];exact h0
 simp only[vJ,simprocAttr];obtain⟨y,hy⟩:∃y,y=qa2 (xL out) x:=⟨_,rfl⟩;have hset:=qno (l:=out) (j:=i) y (by omega);have h44:i*4+4<=(rSy out).length:=by rw[qal];omega
 have hget:(out.set i y)[i]?=some y:=List.getElem?_set_self (by omega);have hel:=qem hget;have h45:i*4+4<=(rSy (out.set i y)).length:=by rw[qal,List.length_set];omega
 have hset2:=qno (l:=out.set i y) (j:=i) ⟨5,0,y.th,0⟩ (by rw[List.length_set];omega);rw[List.set_set] at hset2;have hin:(i:Nat)<n:=hi;rw[← hy];simp +decide only[↓vS,vT,simprocAttr,jh qU,h0,e1,e2,e3,n0,n1,n2,ns3,m0,m1,m2,q1,q2,q3,q4,q5,cSy,hin];simp only[cSy,List.cons_append,List.nil_append] at hset hset2 hel;have ha:=hA y;simp only[cSy] at ha;have hi0:i<n:=hi;simp +decide only[↓vS,vT,simprocAttr,h44,hset,h1,e1,e2,e3,n0,n1,n2,ns3,ns0,m0,m1,m2,q1,q2,q3,q4,q5,hi0,h45,hel];refine ha.sc ?_
 have fin:∀(s2:Nat) (t2:Tr Blk) (z:Sy),4<=s2->qa7 out x=z->t2.get 0=some (.cells 4 true true (rSy (out.set i z)))->t2.get 1=tr.get 1->t2.get 2=tr.get 2->t2.get 3=some (.map (zn (Go.Kc.bsy r0) (thT gB l)))->∀tt,qy4 3 k .normal tt ⟨s2,0,t2⟩:=by
  intro s2 t2 z p1 p2 p3 p4 p5 p6 tt;refine⟨Go.Kc.bsy r0,thT gB l,p6,?_⟩;rw[qhQ,qil hr0 hp0];simp only[z7];simp +decide only[↓vS,vT,simprocAttr];refine hk _ _ ⟨by rw[List.length_set];exact hn,p1,?_,?_,?_,?_⟩
  ·rw[Tr.get_set,if_neg (by decide),p2];exact p3
  ·rw[Tr.get_set,if_neg (by decide),p4];exact h1
  ·rw[Tr.get_set,if_neg (by decide),p5];exact h2
  ·rw[Tr.get_set,if_pos rfl]
 have old:∀(b:Nat) (u1 u2 u3 u4 u5 u6:Blk),b<s->b≠0->b≠3->(((((((tr.set s u1).set s u2).set 3 u3).set (s+1) u4).set (s+1+1) u5).set 0 u6).set s u1).get b=tr.get b:=fun b u1 u2 u3 u4 u5 u6 p1 p2 p3=>by
  simp only[Tr.get_set];repeat rw[if_neg (by omega)]
 have s0:¬0=s:=n0
 by_cases h4':qcf y
 ·by_cases h5:y.th=y.el
  ·have h5':(y.th:Int)=y.el:=by omega
   have he:qa7 out x=⟨5,0,y.th,0⟩:=by unfold qa7;rw[← hy,if_pos ⟨h4',h5⟩]
   have h46:i*4+4<=(rSy (out.set i y)).length:=h45;simp +decide only[↓vS,vT,simprocAttr,h4',eq_true h5',h44,hset,h1,e1,e2,e3,n0,n1,n2,ns3,ns0,m0,m1,m2,q1,q2,q3,q4,q5,hi0,h45,hel,hset2];refine fin _ _ _ (by omega) he ?_ ?_ ?_ ?_ _
   ·rw[Tr.get_set,if_pos rfl,← hset2];rfl
   ·simp only[Tr.get_set];repeat rw[if_neg (by omega)]
   ·simp only[Tr.get_set];repeat rw[if_neg (by omega)]
   ·simp only[Tr.get_set];rw[if_neg (by omega),if_neg (by omega),if_neg (by omega),if_neg (by omega),if_neg (by omega)];simp
  ·have h5':¬(y.th:Int)=y.el:=by omega
   have he:qa7 out x=y:=by unfold qa7;rw[← hy,if_neg fun h=>h5 h.2]
   simp +decide only[↓vS,vT,simprocAttr,h4',h5',h44,hset,h1,e1,e2,e3,n0,n1,n2,ns3,ns0,m0,m1,m2,q1,q2,q3,q4,q5,hi0,h45,hel];refine fin _ _ _ (by omega) he ?_ ?_ ?_ ?_ _
   ·rw[Tr.get_set,if_neg n0,Tr.get_set,if_pos rfl]
   ·simp only[Tr.get_set];repeat rw[if_neg (by omega)]
   ·simp only[Tr.get_set];repeat rw[if_neg (by omega)]
   ·simp only[Tr.get_set];rw[if_neg (by omega),if_neg (by omega),if_neg (by omega),if_neg (by omega)];simp
 ·have he:qa7 out x=y:=by unfold qa7;rw[← hy,if_neg fun h=>h4' h.1]
  simp +decide only[↓vS,vT,simprocAttr,h4',h44,hset,h1,e1,e2,e3,n0,n1,n2,ns3,ns0,m0,m1,m2,q1,q2,q3,q4,q5,hi0,h45,hel];refine fin _ _ _ (by omega) he ?_ ?_ ?_ ?_ _
  ·rw[Tr.get_set,if_neg n0,Tr.get_set,if_pos rfl]
  ·simp only[Tr.get_set];repeat rw[if_neg (by omega)]
  ·simp only[Tr.get_set];repeat rw[if_neg (by omega)]
  ·simp only[Tr.get_set];rw[if_neg (by omega),if_neg (by omega),if_neg (by omega),if_neg (by omega)];simp
theorem qnE{n0 g1 g2 g3 g4 g5 s n:Nat}{tr:Tr Blk}{t:Tr AV}{out:List Sy}(ht:t.get 3=some (.ptr 1 0))(h1:tr.get 1=some (.cells 0 true false [.own 0 n]))(h0:tr.get 0=some (.cells 4 true true (rSy out)))(hn:out.length=n) :
  S P n0 (qa1 g1 g2 g3 g4 g5) (qac [.tmp 2] fun v' h'=>Frz h' v' (.fz n (rSy out))) t ⟨s,0,tr⟩:=by
 refine S.has [(3,.ptr 1 0)] (by simp[qf,qi,ht]) (qj ?_);simp only[qa1,vI,simprocAttr];simp only[↓vS,vT,simprocAttr,h1];simp[vZ,vP,Tr.get_set,h0];refine⟨fun h=>?_,Frzs.self qU⟩
 rw[List.eq_nil_of_length_eq_zero (hn.trans h)];rfl
theorem qkB{gC g1 gB gM gA gi h1 h2 h3:Nat}(hc:qc P f (qcm gC g1 gB gM gA)=true)(c0:qcU P gC 4 24)(hc1:qc P g1 qaj=true)(hB:∀l:List Sy,qd P gB [.fz l.length (rSy l)] (.fn gi [] [.pf [.fz l.length (rSy l)] 0]))
  (hi:qc P gi qB=true) (hM:qc P gM (xQ h1 h2 h3)=true) (c1:qcU P h1 4 24) (c2:cOf P h2) (c3:qfd P h3) (hA:qfd P gA) (l:List Sy) (hl:l.length<=200000) (hin:qkD l) :
  qd P f [.fz l.length (rSy l)] (.fz (ql6 l).length (rSy (ql6 l))):=by
 have hMo:∀(x:Sy) (out:List Sy),out.length=l.length->(∀j:Nat,(qbj x∧j=x.th)∨(qcf x∧j=x.el)->j<l.length)->qg6 P gM [.fz 1 (cSy x),.fn g1 [] [.pf [.fz out.length (rSy out)] 0]] (.own 0 1) [.cells 4 true true (cSy (qa2 (xL out) x))]:=by
  intro x out ho hx
  have:=qqv (gt:=g1) (caps:=[.pf [.fz out.length (rSy out)] 0]) hM c1 c2 c3 [x] (by simp) (xL out) fun y hy j hj=>by
   rw[List.mem_singleton] at hy;subst hy;exact ql9 hc1 out j (by rw[ho];exact hx j hj)
  simpa[rSy] using this
 refine qd.mk hc (by simp[qu,clo,qU]) ?_;simp only[qcm,vI,simprocAttr];simp +decide only[↓vS,vT,simprocAttr];refine (c0 l.length (rSy l) qal qU qt0 (by simp only[qg];omega) (by simp only[qg];omega)).sc ?_;simp only[vJ,simprocAttr];simp +decide only[↓vS,vT,simprocAttr,jh qU];refine (hB l).sc ?_;simp +decide only[↓vS,vT,simprocAttr];refine S.rangeFL (ts:=thT gi l) (Nat.zero_le _) (by intro p hp;simp only[thT,List.mem_cons,List.not_mem_nil,or_false] at hp;rcases hp with rfl|rfl|rfl<;>simp[Tr.get_set]) ⟨rfl,rfl⟩ ?_;refine qkN.2 ⟨.fn gi [] [.pf [.fz l.length (rSy l)] 0],by simp[Tr.get_set],?_⟩
 refine⟨qfg hi,fun r0 hr0 hp0 hlo=>⟨r0,.inl ⟨rfl,hlo.real⟩,?_⟩⟩
 have hlo:LoopOk P r0 [12,13] thA (thB gM gA):=hlo;refine xa (c:=cSy) hi qdj (by omega) (fun i h=>∃s tr,h=⟨s,0,tr⟩∧thI g1 r0 (thT gi l) l.length (qeo l (l.length-i)) s tr∧i<=l.length) ?_ ?_ ?_
 ·rintro i x h hx ⟨s,tr,rfl,hI,hil⟩ k hk;have hi':i<l.length:=(zzS.1 hx).1;refine qup hMo hA hr0 hp0 hlo hI i hi' x (hin x (zzM hx)) fun s' tr' hI'=>hk _ ⟨s',tr',rfl,?_,by omega⟩
  have e:l.length-i=(l.length-(i+1))+1:=by omega
  have e2:l.length-(l.length-(i+1)+1)=i:=by omega
  have e3:qeo l (l.length-i)=(qeo l (l.length-(i+1))).set i (qa7 (qeo l (l.length-(i+1))) x):=by
   rw[e,qeo,e2,hx]
  rw[e3];exact hI'
 ·refine⟨_,_,rfl,⟨qep,by simp,?_,?_,?_,?_⟩,Nat.le_refl _⟩<;>simp[Tr.get_set,qmY,Hp.push,qeo,jh qU]
 ·rintro h ⟨s,tr,rfl,⟨hn,h4,q0,q1,q2,q3⟩,_⟩;rw[Nat.sub_zero] at q0;refine⟨r0,thT gi l,q3,by rw[hr0];decide,?_⟩
  rw[hp0];simp only[z7];simp only[↓vS,vT,simprocAttr];have e:(ql6 l).length=l.length:=qep;rw[e];refine qnE (by simp[Tr.get_set]) ?_ ?_ qep
  ·rw[Tr.get_set,if_neg (by decide)];exact q1
  ·rw[Tr.get_set,if_neg (by decide)];exact q0
def rBo(l:List Bool):List AV:=l.map .b
theorem qjf{l:List Bool}:(rBo l).length=l.length:=by simp[rBo]
theorem qlU{l:List Bool}{j:Nat}:(rBo l)[j]?=(l[j]?).map .b:=by simp[rBo]
theorem qtU{l:List Bool}:qu (rBo l)=true:=qcX fun _=>rfl
theorem qjg{l:List Bool}{j:Nat}(hj:j<l.length):(rBo l).take j ++ .b true::(rBo l).drop (j+1)=rBo (l.set j true):=by
 rw[List.set_eq_take_append_cons_drop,if_pos hj];simp[rBo,List.map_take,List.map_drop]
def qd0(A:List Bool)(j:Nat)(x:Sy):List Bool :=
 if A[j]?≠some true∨x.code=6 then A else if ql x.code≠4 then A.set (j+1) true else if qcf x then (A.set x.th true).set x.el true else A.set x.th true
def jD(l:List Sy):Nat->List Bool
 | 0=>(List.replicate l.length false).set 0 true
 | m+1=>match l[m]? with|some x=>qd0 (jD l m) m x|none=>jD l m
theorem qra{A:List Bool}{j:Nat}{x:Sy}:(qd0 A j x).length=A.length:=by
 unfold qd0;split
 ·rfl
 ·split
  ·simp
  ·split<;>simp
theorem qbk{l:List Sy}:∀{m:Nat},(jD l m).length=l.length
 | 0=>by simp[jD]
 | m+1=>by
  unfold jD;split
  ·rw[qra,qbk]
  ·exact qbk
def zy(l:List Sy):List Bool:=jD l l.length
def qxo(l:List Sy):Prop:=∀(j:Nat) x,l[j]?=some x->x.code≠6->ql x.code≠4->j+1<l.length
def qeF(a b:Nat):IFn:=⟨[.tmp 2],.seq (.r [.m 2 .N]) (.seq (.r [.n 6 0,.e 7 6,.q 8 (.mkS 1 1 [.b false] (.t 7) (.t 7)),.n 3 8]) (.seq (.r [.n 9 3,.q 10 (.iAddrS 1 (.t 9) (.k 0)),.u (.store 1 (.t 10) .T)]) (.seq (.seq (.r [.n 11 0,.e 12 11,.m 13 (.k 0)]) (.blk 0 (.loop (.seq (.r [.s 14 13 12]) (.seq (.cond (.t 14) (.skip) (.exit 0)) (.seq (.blk 1 (.seq (.r [.n 15 13,.i 16 4 11 13,.v 17 4 16,.q 5 (.alloc [.i .u16 0,.i .u32 0,.i .i64 0,.i .i64 0]),.n 4 15,.u (.store 4 (.t 5) (.t 17))]) (.blk 2 (.seq (.r [.n 29 3,.n 30 4,.i 31 1 29 30,.d 32 31,.q 33 (.un .not (.t 32)),.n 34 33,.h 35 0 5 34 false,.j 36 35 34 false,.g 37 (.bin .eql (.t 36) (.c (.i .u16 6))) 34 false,.o 38 34 37,.n 28 38]) (.cond (.t 28) (.skip) (.seq (.r [.f 40 0 5,.d 41 40,.l 42 a [.t 41],.q 43 (.bin .neq (.t 42) (.c (.i .u8 4))),.n 39 43]) (.cond (.t 39) (.r [.n 44 3,.n 45 4,.a 46 45 1,.i 47 1 44 46,.u (.store 1 (.t 47) .T)]) (.seq (.r [.n 18 3,.f 19 2 5,.d 20 19,.i 21 1 18 20,.u (.store 1 (.t 21) .T)]) (.seq (.r [.v 22 4 5,.l 23 b [.t 22]]) (.cond (.t 23) (.r [.n 24 3,.f 25 3 5,.d 26 25,.i 27 1 24 26,.u (.store 1 (.t 27) .T)]) (.skip))))))))))) (.r [.a 48 13 1,.n 13 48]))))))) (.seq (.r [.n 49 3,.n 2 49]) (.ret)))))⟩
theorem qnK{g1 g2:Nat}(hc:qc P f (qeF g1 g2)=true)(h1:cOf P g1)(h2:qfd P g2)(l:List Sy)(hl:l.length<=200000)(h0:0<l.length)(hin:qkD l)(hon:qxo l):qd P f [.fz l.length (rSy l)] (.fz l.length (rBo (zy l))):=by
 refine qd.mk hc (by simp[qu,clo,qU]) ?_;have r1:l.length<=qg:=by simp only[qg];omega
 have r2:1*l.length<=qg:=by simp only[qg];omega
 have hz:(List.replicate l.length [AV.b false]).flatten=rBo (List.replicate l.length false):=by simp[rBo]
 have hz0:=qjg (l:=List.replicate l.length false) (j:=0) (by simp;omega);have hzl:0+1<=(rBo (List.replicate l.length false)).length:=by rw[qjf];simp;omega
 rw[List.take_zero,List.nil_append] at hz0;simp only[qeF,vI,simprocAttr];simp +decide only[↓vS,vT,simprocAttr,r1,r2,hz,h0,Nat.one_mul,Nat.zero_mul,hzl,hz0]
 refine SL.loopP (α:=Nat) (fun i=>[(3,.sl 0 0 l.length l.length false),(11,.fz l.length (rSy l)),(12,.i .i64 (l.length:Int)),(13,.i .i64 (i:Int))])
  (fun i h=>i<=l.length∧∃s tr,h=⟨s,0,tr⟩∧1<=s∧tr.get 0=some (.cells 0 true false (rBo (jD l i)))) (fun i=>l.length-i) ?_ 0 ?_ ?_
 ·rintro i h1' ⟨hi,s,tr,rfl,hs,t0⟩ G ih;simp only[vI,simprocAttr]
  by_cases hlt:i<l.length
  ·have hlt':(i:Int)<l.length:=by omega
   obtain⟨x,hx⟩:∃x,l[i]?=some x:=⟨_,zzE hlt⟩;have hel:=qem hx;have h4:i*4+4<=(rSy l).length:=by rw[qal];omega
   have hw1:IntKind.wrap .i64 ((i:Int)+1)=((i+1:Nat):Int):=by rw[qq (by omega) (by omega)];simp
   have n0:¬0=s:=by omega
   have n0s:¬s=0:=by omega
   have hAl:(jD l i).length=l.length:=qbk;obtain⟨b,hb⟩:∃b,(jD l i)[i]?=some b:=⟨_,zzE (by omega)⟩;have hgb:(rBo (jD l i))[i]?=some (.b b):=by rw[qlU,hb];rfl
   have hst:jD l (i+1)=qd0 (jD l i) i x:=by rw[jD,hx]
   have fin:∀(t2:Tr Blk) tt,t2.get 0=some (.cells 0 true false (rBo (jD l (i+1))))->Has tt [(3,.sl 0 0 l.length l.length false),(11,.fz l.length (rSy l)),(12,.i .i64 (l.length:Int)),(13,.i .i64 ((i+1:Nat):Int))]->G tt ⟨s+1,0,t2⟩:=fun t2 tt q1 q2 =>
    ih (i+1) _ _ (by omega) q2 ⟨by omega,s+1,t2,rfl,by omega,q1⟩
   have ha:=h2 x;simp only[cSy] at ha;have sl:∀(A:List Bool) (j:Nat),A.length=l.length->j<l.length->j+1<=(rBo A).length:=fun A j h1 h2=>by rw[qjf];omega
   cases b with
   | false =>
    have e:qd0 (jD l i) i x=jD l i:=by unfold qd0;rw[hb];simp
    rw[hst,e] at fin;simp +decide only[↓vS,vT,simprocAttr,hlt',hlt,h4,hel,cSy,n0,t0,hgb,Nat.mul_one,hw1];exact fin _ _ (by simp[Tr.get_set,n0,t0]) (by simp[qf,qi,Tr.get_set])
   | true =>
    by_cases h6:x.code=6
    ·have e:qd0 (jD l i) i x=jD l i:=by unfold qd0;simp[h6]
     rw[hst,e] at fin;simp +decide only[↓vS,vT,simprocAttr,hlt',hlt,h4,hel,cSy,n0,t0,hgb,Nat.mul_one,hw1,eq_true h6];exact fin _ _ (by simp[Tr.get_set,n0,t0]) (by simp[qf,qi,Tr.get_set])
    ·simp +decide only[↓vS,vT,simprocAttr,hlt',hlt,h4,hel,cSy,n0,t0,hgb,Nat.mul_one,hw1,h6];refine (h1 x.code).sc ?_
     by_cases hj:ql x.code=4
     ·have hth:=hin x (zzM hx) x.th (.inl ⟨hj,rfl⟩);have b1:=qjg (l:=jD l i) (j:=x.th) (by omega);have b2:=sl (jD l i) x.th hAl hth;simp +decide only[↓vS,vT,simprocAttr,hj,n0,n0s,t0,hth,b1,b2,Nat.mul_one];refine ha.sc ?_
      by_cases hk:qcf x
      ·have hel2:=hin x (zzM hx) x.el (.inr ⟨hk,rfl⟩);have b3:=qjg (l:=(jD l i).set x.th true) (j:=x.el) (by rw[List.length_set];omega);have b4:=sl ((jD l i).set x.th true) x.el (by rw[List.length_set];omega) hel2;have e:qd0 (jD l i) i x=((jD l i).set x.th true).set x.el true:=by unfold qd0;simp[hb,h6,hj,hk]
       rw[hst,e] at fin;simp +decide only[↓vS,vT,simprocAttr,hk,n0,n0s,hel2,b3,b4,Nat.mul_one,hw1];exact fin _ _ (by rw[Tr.get_set,if_pos rfl]) (by simp[qf,qi,Tr.get_set])
      ·have e:qd0 (jD l i) i x=(jD l i).set x.th true:=by unfold qd0;simp[hb,h6,hj,hk]
       rw[hst,e] at fin;simp +decide only[↓vS,vT,simprocAttr,hk,hw1];exact fin _ _ (by rw[Tr.get_set,if_pos rfl]) (by simp[qf,qi,Tr.get_set])
     ·have hnx:=hon i x hx h6 hj;have b1:=qjg (l:=jD l i) (j:=i+1) (by omega);have b2:=sl (jD l i) (i+1) hAl hnx;have e:qd0 (jD l i) i x=(jD l i).set (i+1) true:=by unfold qd0;simp[hb,h6,hj]
      rw[hst,e] at fin;simp +decide only[↓vS,vT,simprocAttr,hj,n0,t0,hnx,b1,b2,Nat.mul_one,hw1];exact fin _ _ (by rw[Tr.get_set,if_pos rfl]) (by simp[qf,qi,Tr.get_set])
  ·obtain rfl:i=l.length:=by omega
   have hlt':¬((l.length:Int)<l.length):=by omega
   simp +decide only[↓vS,vT,simprocAttr,hlt'];have hAl:(jD l l.length).length=l.length:=qbk;show Frz _ _ _;refine Frz.cut 1 rfl (Nat.le_refl _) ?_;rw[t0];simp[vP,qjf,hAl];rw[List.take_of_length_le (by rw[qjf,hAl];omega)];exact Frzs.self qtU
 ·simp[qf,qi,Tr.get_set]
 ·refine⟨Nat.zero_le _,_,_,rfl,by omega,?_⟩
  simp[Tr.get_set,jD]
def zV(A:List Bool)(j:Nat):Nat:=(A.take j).countP (· = true)
def rPl(A:List Bool)(n:Nat):List AV:=(List.range n).map fun j=>.i .i64 (zV A j:Int)
theorem qlY{A:List Bool}{n:Nat}:(rPl A n).length=n:=by simp[rPl]
theorem qpe{A:List Bool}{n j:Nat}(h:j<n):(rPl A n)[j]?=some (.i .i64 (zV A j:Int)):=by simp[rPl,h]
theorem qd6{A:List Bool}{j:Nat}{b:Bool}(h:A[j]?=some b):zV A (j+1)=zV A j+if b=true then 1 else 0:=by
 unfold zV;rw[qaG h,List.countP_append];cases b<;>simp
theorem qlx{A:List Bool}{j:Nat}:zV A j<=j:=by
 unfold zV;exact Nat.le_trans List.countP_le_length (by rw[List.length_take];omega)
def qca{α:Type}:List Bool->List α->List α
 | b::A,x::l=>if b=true then x::qca A l else qca A l
 | _,_=>[]
theorem qld{α:Type}:∀{A:List Bool} {l:List α} {j:Nat} {b:Bool} {x:α},A[j]?=some b->l[j]?=some x->qca (A.take (j+1)) (l.take (j+1))=qca (A.take j) (l.take j)++if b=true then [x] else []
 | [],_,_,_,_,h,_=>by simp at h
 | _::_,[],_,_,_,_,h=>by simp at h
 | c::A,y::l,0,b,x,h1,h2=>by
  simp at h1 h2;subst h1 h2;cases c<;>simp[qca]
 | c::A,y::l,j+1,b,x,h1,h2=>by
  have:=qld (A:=A) (l:=l) (j:=j) (b:=b) (x:=x) (by simpa using h1) (by simpa using h2);rw[List.take_succ_cons,List.take_succ_cons,List.take_succ_cons,List.take_succ_cons];simp only[qca,this];cases c<;>simp
theorem qnu{α:Type}:∀{A:List Bool} {l:List α},A.length=l.length->(qca A l).length=A.countP (· = true)
 | [],[],_=>rfl
 | b::A,x::l,h=>by
  have:=qnu (A:=A) (l:=l) (by simpa using h);cases b<;>simp[qca,this]
 | [],_::_,h=>by simp at h
 | _::_,[],h=>by simp at h
def qfE(l:List Sy):List Sy:=qca (zy l) (l.map (qa2 (zV (zy l))))
def qco(n b:Nat):AV:=if n=0 then .nils else .own b n
def qaT:IFn:=⟨[.tmp 3],.seq (.r [.m 3 (.k 0)]) (.seq (.r [.d 4 1,.n 5 0,.i 6 1 4 5,.d 7 6,.n 3 7]) (.ret))⟩
def qbN(a b c:Nat):ICode:=.seq (.r [.m 7 .N]) (.seq (.seq (.r [.n 31 0,.q 32 (.mkF b [] [.t 4]),.l 33 c [.t 31,.t 32],.e 34 33,.m 35 (.k 0)]) (.blk 2 (.loop (.seq (.r [.s 36 35 34]) (.seq (.cond (.t 36) (.skip) (.exit 2)) (.seq (.blk 3 (.seq (.r [.n 37 35,.i 38 4 33 35,.v 39 4 38,.q 9 (.alloc [.i .u16 0,.i .u32 0,.i .i64 0,.i .i64 0]),.n 8 37,.u (.store 4 (.t 9) (.t 39))]) (.seq (.r [.n 40 3,.n 41 8,.i 42 1 40 41,.d 43 42]) (.cond (.t 43) (.r [.n 44 7,.v 45 4 9,.q 46 (.buildS 1 [.i .u16 0,.i .u32 0,.i .i64 0,.i .i64 0] [(0,4,(.t 45))]),.q 47 (.app 4 24 true (.t 44) (.t 46)),.n 7 47]) (.skip))))) (.r [.a 48 35 1,.n 35 48]))))))) (.seq (.r [.n 49 7,.n 2 49]) (.ret)))
def qdG(a b c:Nat):IFn:=⟨[.tmp 2],.seq (.r [.m 2 .N]) (.seq (.r [.n 10 0,.l 11 a [.t 10],.n 3 11]) (.seq (.r [.n 12 0,.e 13 12,.q 14 (.mkS 1 8 [.i .i64 0] (.t 13) (.t 13)),.q 4 (.alloc [.nils]),.u (.store 1 (.t 4) (.t 14))]) (.seq (.r [.m 5 (.k 0)]) (.seq (.seq (.r [.n 15 0,.e 16 15,.m 17 (.k 0)]) (.blk 0 (.loop (.seq (.r [.s 18 17 16]) (.seq (.cond (.t 18) (.skip) (.exit 0)) (.seq (.blk 1 (.seq (.r [.n 19 17,.n 6 19]) (.seq (.r [.d 20 4,.n 21 6,.n 22 5,.i 23 1 20 21,.u (.store 1 (.t 23) (.t 22))]) (.seq (.r [.n 24 3,.n 25 6,.i 26 1 24 25,.d 27 26]) (.cond (.t 27) (.r [.n 28 5,.a 29 28 1,.n 5 29]) (.skip)))))) (.r [.a 30 17 1,.n 17 30]))))))) (.cut (qbN a b c))))))⟩
theorem qqr{n0 g1 g2 g3 h1 h2 h3 s:Nat}{tr:Tr Blk}{t:Tr AV}(hc1:qc P g2 qaT=true)(hc3:qc P g3 (xQ h1 h2 h3)=true)(c1:qcU P h1 4 24)(c2:cOf P h2)(c3:qfd P h3)(l:List Sy)(hl:l.length<=200000)(hin:qkD l)
  (hs:2<=s) (t0:tr.get 0=some (.cells 0 true false (rPl (zy l) l.length))) (t1:tr.get 1=some (.cells 0 true false [.sl 0 0 l.length l.length false]))
  (ht:Has t [(0,.fz l.length (rSy l)),(3,.fz l.length (rBo (zy l))),(4,.ptr 1 0)]) :
  S P n0 (qbN g1 g2 g3) (qac [.tmp 2] fun v' h'=>Frz h' v' (.fz (qfE l).length (rSy (qfE l)))) t ⟨s,0,tr⟩:=by
 have hAl:(zy l).length=l.length:=qbk;refine S.has _ ht (qj ?_);simp only[qbN,vI,simprocAttr];simp +decide only[↓vS,vT,simprocAttr];refine qjV hc3 c1 c2 c3 l hl (Nat.zero_le _) (zV (zy l)) (fun x hx j hj s' tr' k' hs' hold hk'=>?_) fun s' tr' bm hs' hold hb1 hb2 hg=>?_
 ·have hjl:=hin x hx j hj;have g0:=(hold 0 (by omega)).trans t0;have g1:=(hold 1 (by omega)).trans t1;have gp:=qpe (A:=zy l) hjl;refine SC.mk hc1 (qj ?_);simp only[qaT,vI,simprocAttr];simp +decide only[↓vS,vT,simprocAttr,g0,g1,gp,hjl,Nat.mul_one];exact hk'
 obtain⟨M,hM⟩:∃M,M=l.map (qa2 (zV (zy l))):=⟨_,rfl⟩;have hMl:M.length=l.length:=by rw[hM];simp
 have hliv:qfE l=qca (zy l) M:=by rw[hM];rfl
 rw[← hM] at hg;simp +decide only[↓vS,vT,simprocAttr]
 refine SL.loopP (α:=Nat×Nat) (fun i=>[(3,.fz l.length (rBo (zy l))),(7,qco (zV (zy l) i.1) i.2),(33,.own bm l.length),(34,.i .i64 (l.length:Int)),(35,.i .i64 (i.1:Int))])
  (fun i h=>i.1<=l.length∧∃s2 t2,h=⟨s2,0,t2⟩∧bm<s2∧t2.get bm=some (.cells 4 true true (rSy M))∧(zV (zy l) i.1≠0->t2.get i.2=some (.cells 4 true true (rSy (qca ((zy l).take i.1) (M.take i.1))))∧i.2<s2∧i.2≠bm)) (fun i=>l.length-i.1) ?_ (0,0) ?_ ?_
 ·rintro⟨i,bo⟩ h1 ⟨hi,s2,t2,rfl,hb,gm,go⟩ G ih;simp only at hi go;simp only[vI,simprocAttr];have hsel:(qca ((zy l).take i) (M.take i)).length=zV (zy l) i:=qnu (by simp;omega)
  by_cases hlt:i<l.length
  ·have hlt':(i:Int)<l.length:=by omega
   obtain⟨x,hx⟩:∃x,M[i]?=some x:=⟨_,zzE (by omega)⟩;obtain⟨b,hbb⟩:∃b,(zy l)[i]?=some b:=⟨_,zzE (by omega)⟩;have hgb:(rBo (zy l))[i]?=some (.b b):=by rw[qlU,hbb];rfl
   have hel:=qem hx;have h4:i*4+4<=(rSy M).length:=by rw[qal];omega
   have hw1:IntKind.wrap .i64 ((i:Int)+1)=((i+1:Nat):Int):=by rw[qq (by omega) (by omega)];simp
   have hsn:=qld hbb hx;have hcn:=qd6 hbb;have n1:¬bm=s2:=by omega
   have n2:¬s2=s2+1:=by omega
   have n3:¬s2+1=s2:=by omega
   have n4:¬bm=s2+1:=by omega
   have n5:¬bm=s2+1+1:=by omega
   have hci:=qlx (A:=zy l) (j:=i);cases b with
   | false =>
    simp at hcn hsn;simp +decide only[↓vS,vT,simprocAttr,hlt',hlt,h4,hel,cSy,gm,hgb,n1,Nat.mul_one,hw1];refine ih (i+1,bo) _ _ (by simp only;omega) ?_ ⟨by simp only;omega,s2+1,_,rfl,by omega,?_,fun h0=>?_⟩
    ·simp only[hcn];simp[qf,qi,Tr.get_set]
    ·simp only[Tr.get_set];rw[if_neg n1,if_neg n1];exact gm
    ·simp only at h0;rw[hcn] at h0;obtain⟨q1,q2,q3⟩:=go h0;refine⟨?_,by simp only;omega,q3⟩
     simp only[Tr.get_set];rw[if_neg (by omega),if_neg (by omega),hsn];exact q1
   | true =>
    simp at hcn hsn
    by_cases hz:zV (zy l) i=0
    ·have hV:qco (zV (zy l) i) bo = .nils:=by simp[qco,hz]
     have hnil:qca ((zy l).take i) (M.take i)=[]:=List.eq_nil_of_length_eq_zero (by omega);rw[hV];simp +decide only[↓vS,vT,simprocAttr,hlt',hlt,h4,hel,cSy,gm,hgb,n1,n2,n3,Nat.mul_one,hw1];refine ih (i+1,s2+1+1) _ _ (by simp only;omega) ?_ ⟨by simp only;omega,s2+1+1+1,_,rfl,by omega,?_,fun h0=>⟨?_,by simp only;omega,by simp only;omega⟩⟩
     ·have e:qco (zV (zy l) (i+1)) (s2+1+1) = .own (s2+1+1) 1:=by rw[hcn,hz];rfl
      simp only[e];simp[qf,qi,Tr.get_set]
     ·simp only[Tr.get_set];rw[if_neg n5,if_neg n4,if_neg n1,if_neg n1];exact gm
     ·simp only[Tr.get_set];rw[hsn,hnil];simp[rSy,cSy]
    ·obtain⟨q1,q2,q3⟩:=go hz;have hV:qco (zV (zy l) i) bo = .own bo (zV (zy l) i):=by simp[qco,hz]
     rw[hV];have n6:¬bo=s2:=by omega
     have n7:¬bo=s2+1:=by omega
     have n8:¬s2+1=bo:=by omega
     have hr1:zV (zy l) i+1<=qg:=by simp only[qg];omega
     have hr2:(zV (zy l) i+1)*24<=qg:=by simp only[qg];omega
     have hql:(rSy (qca ((zy l).take i) (M.take i))).length=zV (zy l) i*4:=by rw[qal,hsel]
     simp +decide only[↓vS,vT,simprocAttr,hlt',hlt,h4,hel,cSy,gm,hgb,n1,n2,n3,n6,n7,n8,q1,hr1,hr2,hql,Nat.mul_one,hw1];refine ih (i+1,s2+1+1) _ _ (by simp only;omega) ?_ ⟨by simp only;omega,s2+1+1+1,_,rfl,by omega,?_,fun h0=>⟨?_,by simp only;omega,by simp only;omega⟩⟩
     ·have e:qco (zV (zy l) (i+1)) (s2+1+1) = .own (s2+1+1) (zV (zy l) i+1):=by rw[hcn];simp[qco]
      simp only[e];simp[qf,qi,Tr.get_set]
     ·simp only[Tr.get_set];rw[if_neg n5,if_neg (Ne.symm q3),if_neg n4,if_neg n1,if_neg n1];exact gm
     ·simp only[Tr.get_set];rw[hsn,← qpg];simp[rSy,cSy]
  ·obtain rfl:i=l.length:=by omega
   have hlt':¬((l.length:Int)<l.length):=by omega
   have e1:(zy l).take l.length=zy l:=List.take_of_length_le (by omega);have e2:M.take l.length=M:=List.take_of_length_le (by omega);rw[e1,e2] at hsel go;simp +decide only[↓vS,vT,simprocAttr,hlt'];rw[hliv]
   by_cases hz:zV (zy l) l.length=0
   ·have hV:qco (zV (zy l) l.length) bo = .nils:=by simp[qco,hz]
    have hnil:qca (zy l) M=[]:=List.eq_nil_of_length_eq_zero (by omega);rw[hV,hnil];exact .nilz
   ·obtain⟨q1,q2,q3⟩:=go hz;have hV:qco (zV (zy l) l.length) bo = .own bo (zV (zy l) l.length):=by simp[qco,hz]
    rw[hV];show Frz _ _ _;refine qsq.2 ⟨hsel.symm,?_⟩;rw[q1];simp[vP,hz];exact Frzs.self qU
 ·have e:qco (zV (zy l) 0) 0 = .nils:=by simp[qco,zV]
  simp only[e,hMl];simp[qf,qi,Tr.get_set]
 ·exact⟨Nat.zero_le _,s',tr',rfl,hb2,hg,fun h=>absurd (by simp[zV]) h⟩
theorem qna{g1 g2 g3 h1 h2 h3:Nat}(hc:qc P f (qdG g1 g2 g3)=true)(hc1:qc P g2 qaT=true)(hc3:qc P g3 (xQ h1 h2 h3)=true)(c1:qcU P h1 4 24)(c2:cOf P h2)(c3:qfd P h3)(l:List Sy)(ha:qd P g1 [.fz l.length (rSy l)] (.fz l.length (rBo (zy l))))
  (hl:l.length<=200000) (hin:qkD l):qd P f [.fz l.length (rSy l)] (.fz (qfE l).length (rSy (qfE l))):=by
 have hAl:(zy l).length=l.length:=qbk;refine qd.mk hc (by simp[qu,clo,qU]) ?_;have r1:l.length<=qg:=by simp only[qg];omega
 have r2:8*l.length<=qg:=by simp only[qg];omega
 simp only[qdG,vI,simprocAttr];simp +decide only[↓vS,vT,simprocAttr];refine ha.sc ?_;simp +decide only[↓vS,vT,simprocAttr,r1,r2]
 refine SL.loopP (α:=Nat) (fun i=>[(0,.fz l.length (rSy l)),(3,.fz l.length (rBo (zy l))),(4,.ptr 1 0),(5,.i .i64 (zV (zy l) i:Int)),(16,.i .i64 (l.length:Int)),(17,.i .i64 (i:Int))])
  (fun i h=>i<=l.length∧∃s tr,h=⟨s,0,tr⟩∧2<=s∧tr.get 0=some (.cells 0 true false ((rPl (zy l) l.length).take i++List.replicate (l.length-i) (.i .i64 0)))∧tr.get 1=some (.cells 0 true false [.sl 0 0 l.length l.length false])) (fun i=>l.length-i) ?_ 0 ?_ ?_
 ·rintro i h1' ⟨hi,s,tr,rfl,hs,t0,t1⟩ G ih;simp only[vI,simprocAttr]
  by_cases hlt:i<l.length
  ·have hlt':(i:Int)<l.length:=by omega
   obtain⟨b,hbb⟩:∃b,(zy l)[i]?=some b:=⟨_,zzE (by omega)⟩;have hgb:(rBo (zy l))[i]?=some (.b b):=by rw[qlU,hbb];rfl
   have hcn:=qd6 hbb;have hci:=qlx (A:=zy l) (j:=i);have hw1:IntKind.wrap .i64 ((i:Int)+1)=((i+1:Nat):Int):=by rw[qq (by omega) (by omega)];simp
   have hw2:IntKind.wrap .i64 ((zV (zy l) i:Int)+1)=((zV (zy l) i+1:Nat):Int):=by rw[qq (by omega) (by omega)];simp
   have hfill:=qka (n:=l.length) (z:=.i .i64 0) qlY (qpe (A:=zy l) hlt);have hb4:i+1<=((rPl (zy l) l.length).take i++List.replicate (l.length-i) (AV.i .i64 0)).length:=by simp[qlY];omega
   cases b with
   | false =>
    simp at hcn;simp +decide only[↓vS,vT,simprocAttr,hlt',hlt,t0,t1,hgb,hb4,hfill,Nat.mul_one,hw1];refine ih (i+1) _ _ (by omega) ?_ ⟨by omega,s,_,rfl,hs,by rw[Tr.get_set,if_pos rfl],by rw[Tr.get_set,if_neg (by decide)];exact t1⟩
    rw[hcn];simp[qf,qi,Tr.get_set]
   | true =>
    simp at hcn;simp +decide only[↓vS,vT,simprocAttr,hlt',hlt,t0,t1,hgb,hb4,hfill,Nat.mul_one,hw1,hw2];refine ih (i+1) _ _ (by omega) ?_ ⟨by omega,s,_,rfl,hs,by rw[Tr.get_set,if_pos rfl],by rw[Tr.get_set,if_neg (by decide)];exact t1⟩
    rw[hcn];simp[qf,qi,Tr.get_set]
  ·obtain rfl:i=l.length:=by omega
   have hlt':¬((l.length:Int)<l.length):=by omega
   simp +decide only[↓vS,vT,simprocAttr,hlt'];refine qqr hc1 hc3 c1 c2 c3 l hl hin hs ?_ t1 ?_
   ·rw[t0,List.take_of_length_le (by rw[qlY];omega)];simp
   ·simp[qf,qi,Tr.get_set]
 ·simp[qf,qi,Tr.get_set,zV]
 ·refine⟨Nat.zero_le _,_,_,rfl,by omega,?_,?_⟩<;>simp[Tr.get_set]
def qyL(P:Program)(g:Nat)(l m:List Sy):Prop:=qd P g [.fz l.length (rSy l)] (.fz m.length (rSy m))
def qfw(a:Nat):IFn:=⟨[.tmp 4,.tmp 5],.seq (.r [.m 4 .N,.m 5 (.k 0)]) (.seq (.seq (.r [.n 8 0,.l 9 a [.t 8],.q 10 (.un .not (.t 9))]) (.cond (.t 10) (.seq (.r [.m 4 .N,.m 5 (.k 250)]) (.ret)) (.skip))) (.seq (.seq (.r [.n 11 1,.e 12 11,.m 13 (.k 0)]) (.blk 0 (.loop (.seq (.r [.s 14 13 12]) (.seq (.cond (.t 14) (.skip) (.exit 0)) (.seq (.blk 1 (.seq (.r [.i 15 1 11 13,.d 16 15,.n 7 16]) (.r [.n 17 7,.n 18 0,⟨(some 19),.callV (.t 17) [.t 18],none⟩,.n 0 19]))) (.r [.a 20 13 1,.n 13 20]))))))) (.seq (.r [.n 21 0,.n 4 21,.m 5 (.k 0)]) (.ret))))⟩
theorem qwC{gM a b c:Nat}(hc:qc P f (qfw gM)=true)(l0 l1 l2 l3:List Sy)(hm:qd P gM [.fz l0.length (rSy l0)] (.b true))(h1:qyL P a l0 l1)(h2:qyL P b l1 l2)(h3:qyL P c l2 l3) :
  qd P f [.fz l0.length (rSy l0),.fz 3 [.fn a [] [],.fn b [] [],.fn c [] []]] (.tup [.fz l3.length (rSy l3),.i .i64 0]):=by
 refine qd.mk hc (by simp[qu,clo,qU]) ?_;simp only[qfw,vI,simprocAttr];simp +decide only[↓vS,vT,simprocAttr];refine hm.sc ?_;simp +decide only[↓vS,vT,simprocAttr]
 refine SL.loopP (α:=Nat) (fun i=>[(0,match i with|0=>.fz l0.length (rSy l0)|1=>.fz l1.length (rSy l1)|2=>.fz l2.length (rSy l2)|_=>.fz l3.length (rSy l3)),(11,.fz 3 [.fn a [] [],.fn b [] [],.fn c [] []]),(12,.i .i64 3),(13,.i .i64 (i:Int))])
  (fun i h=>i<=3∧h.fl=0) (fun i=>3-i) ?_ 0 ?_ ?_
 ·rintro i ⟨s,fl,tr⟩ ⟨hi,rfl⟩ G ih;simp only[vI,simprocAttr];have hi4:i=0∨i=1∨i=2∨i=3:=by omega
  rcases hi4 with rfl|rfl|rfl|rfl
  ·simp +decide only[↓vS,vT,simprocAttr];refine h1.sc ?_;simp +decide only[↓vS,vT,simprocAttr];exact ih 1 _ _ (by omega) (by simp[qf,qi,Tr.get_set];decide) ⟨by omega,rfl⟩
  ·simp +decide only[↓vS,vT,simprocAttr];refine h2.sc ?_;simp +decide only[↓vS,vT,simprocAttr];exact ih 2 _ _ (by omega) (by simp[qf,qi,Tr.get_set];decide) ⟨by omega,rfl⟩
  ·simp +decide only[↓vS,vT,simprocAttr];refine h3.sc ?_;simp +decide only[↓vS,vT,simprocAttr];exact ih 3 _ _ (by omega) (by simp[qf,qi,Tr.get_set];decide) ⟨by omega,rfl⟩
  ·simp +decide only[↓vS,vT,simprocAttr];simp[vZ,zp qU]
 ·simp[qf,qi,Tr.get_set]
 ·exact⟨Nat.zero_le _,rfl⟩
def qdH(a b c:Nat):IFn:=⟨[.cell 0 3 true],.seq (.r [.q 0 (.alloc [.nilf,.nilf,.nilf])]) (.seq (.r [.q 1 (.build [.nilf,.nilf,.nilf] [(0,1,(.c (.fn a [] []))),(1,1,(.c (.fn b [] []))),(2,1,(.c (.fn c [] [])))]),.u (.store 3 (.t 0) (.t 1))]) (.ret))⟩
theorem qnj{a b c:Nat}(hc:qc P f (qdH a b c)=true):qd P f [] (.agg [.fn a [] [],.fn b [] [],.fn c [] []]):=by
 refine qd.mk hc rfl ?_;simp only[qdH,vI,simprocAttr];simp +decide only[↓vS,vT,simprocAttr];simp[vZ,vP,Tr.get_set]
def qgN(a b:Nat):IFn:=⟨[.tmp 2,.tmp 3],.seq (.r [.m 2 .N,.m 3 (.k 0)]) (.seq (.r [.l 5 a [],.q 4 (.alloc [.nilf,.nilf,.nilf]),.u (.store 3 (.t 4) (.t 5))]) (.seq (.r [.n 6 0,.q 7 (.slcA 3 1 (.t 4) none none none),.l 8 b [.t 6,.t 7],.x 9 8 0,.x 10 8 1,.n 2 9,.n 3 10]) (.ret)))⟩
theorem qtI{g1 g2 a b c:Nat}(hc:qc P f (qgN g1 g2)=true)(h1:qd P g1 [] (.agg [.fn a [] [],.fn b [] [],.fn c [] []]))(l m:List Sy)(h2:qd P g2 [.fz l.length (rSy l),.fz 3 [.fn a [] [],.fn b [] [],.fn c [] []]] (.tup [.fz m.length (rSy m),.i .i64 0])) :
  qd P f [.fz l.length (rSy l)] (.tup [.fz m.length (rSy m),.i .i64 0]):=by
 refine qd.mk hc (by simp[qu,clo,qU]) ?_;simp only[qgN,vI,simprocAttr];simp +decide only[↓vS,vT,simprocAttr];refine h1.sc ?_;simp +decide only[↓vS,vT,simprocAttr];refine h2.give [(0,.cells 0 true false [.fn a [] [],.fn b [] [],.fn c [] []])] ?_ (by simp[qu,clo,qU]) ?_ ?_
 ·intro p hp;rw[List.mem_singleton] at hp;subst hp;exact⟨by simp[Tr.get_set],Nat.zero_le _⟩
 ·refine qaP.2 ⟨Frz.self (by simp[clo,qU]),qaP.2 ⟨Frz.cut 1 rfl (Nat.le_refl _) ?_,qeA.2 trivial⟩⟩;simp[trP,Tr.get_set,vP,vZ]
 ·simp +decide only[↓vS,vT,simprocAttr,qkY,qm8,z7];simp[vZ,vP,zp qU]
def qe7(p:List Ins)(i:Nat):List Ins:=p.mapIdx fun t x=>if t<i∨p.length-i<=t then p.getD (p.length-1-t) x else x
theorem qay{p:List Ins}{i:Nat}:(qe7 p i).length=p.length:=by simp[qe7]
theorem qfK{p:List Ins}{i t:Nat}:(qe7 p i)[t]?=(p[t]?).map fun x=>if t<i∨p.length-i<=t then p.getD (p.length-1-t) x else x:=by simp[qe7]
theorem qAL{p:List Ins}:qe7 p 0=p:=by
 apply List.ext_getElem?;intro t;rw[qfK];cases h:p[t]? with
 | none=>rfl
 | some x =>
  have:=(zzS.1 h).1;simp;intro h2;omega
theorem qt5{p:List Ins}{i:Nat}(h:p.length<=2*i+1):qe7 p i=p.reverse:=by
 apply List.ext_getElem?;intro t;rw[qfK]
 by_cases ht:t<p.length
 ·rw[List.getElem?_reverse ht,zzE ht,zzE (by omega)];simp only[Option.map_some,Option.some.injEq]
  by_cases h1:t<i∨p.length-i<=t
  ·rw[if_pos h1,List.getD_eq_getElem?_getD,zzE (by omega)];rfl
  ·rw[if_neg h1];have:p.length-1-t=t:=by omega
   simp only[this]
 ·rw[List.getElem?_eq_none (by omega),List.getElem?_eq_none (by simp;omega)];rfl
theorem qqS{p:List Ins}{i:Nat}{x y:Ins}(h:2*i+1<p.length)(hx:(qe7 p i)[i]?=some x)(hy:(qe7 p i)[p.length-1-i]?=some y):((qe7 p i).set i y).set (p.length-1-i) x=qe7 p (i+1):=by
 rw[qfK,zzE (by omega)] at hx hy;simp only[Option.map_some,Option.some.injEq] at hx hy;rw[if_neg (by omega)] at hx hy;apply List.ext_getElem?;intro t
 by_cases ht:t<p.length
 ·rw[List.getElem?_set,List.length_set,qay,List.getElem?_set,qay,qfK,qfK,zzE ht];simp only[Option.map_some]
  by_cases e1:p.length-1-i=t
  ·subst e1;rw[if_pos rfl,if_pos ht,if_pos (by omega),List.getD_eq_getElem?_getD,← hx];have:p.length-1-(p.length-1-i)=i:=by omega
   rw[this,zzE (by omega)];rfl
  ·rw[if_neg e1]
   by_cases e2:i=t
   ·subst e2;rw[if_pos rfl,if_pos ht,if_pos (by omega),List.getD_eq_getElem?_getD,zzE (by omega),← hy];rfl
   ·rw[if_neg e2]
    congr 1
    by_cases h3:t<i∨p.length-i<=t
    ·rw[if_pos h3,if_pos (by omega)]
    ·rw[if_neg h3,if_neg (by omega)]
 ·rw[List.getElem?_eq_none (by simp[qay];omega),List.getElem?_eq_none (by rw[qay];omega)]
theorem qpc{T:List Ins}{j:Nat}{x:Ins}(h:T[j]?=some x):((rP T).drop (j*4)).take 4=qD x:=zj qaN h
theorem qpd{l:List Ins}{j:Nat}(y:Ins)(hj:j<l.length):(rP l).take (j*4)++(qD y++(rP l).drop (j*4+4))=rP (l.set j y):=qkP qaN y hj
def zC:IFn:=⟨[],.seq (.r [.n 4 0,.e 5 4,.w 6 .sub 5 1,.m 2 (.k 0),.n 3 6]) (.blk 0 (.loop (.seq (.seq (.r [.n 7 2,.n 8 3,.s 9 7 8]) (.cond (.t 9) (.skip) (.exit 0))) (.seq (.blk 1 (.reg true [.n 14 0,.n 15 2,.n 16 0,.n 17 3,.n 18 0,.n 19 3,.i 20 4 18 19,.v 21 4 20,.n 22 0,.n 23 2,.i 24 4 22 23,.v 25 4 24,.i 26 4 14 15,.u (.store 4 (.t 26) (.t 21)),.i 27 4 16 17,.u (.store 4 (.t 27) (.t 25))])) (.r [.n 10 2,.a 11 10 1,.n 12 3,.w 13 .sub 12 1,.n 2 11,.n 3 13])))))⟩
theorem qoh(hc:qc P f zC=true){s b:Nat}{tr:Tr Blk}(p:List Ins)(hp:p.length<=1000000){k:AV->Hp->Prop}(hb:tr.get b=some (.cells 4 true true (rP p)))(hk:∀tr',(∀c,c≠b->tr'.get c=tr.get c)->tr'.get b=some (.cells 4 true true (rP p.reverse))->k (.tup []) ⟨s,0,tr'⟩) :
  SC P f [.own b p.length] ⟨s,0,tr⟩ k:=by
 refine SC.mk hc (qj ?_);have e1:IntKind.wrap .i64 ((p.length:Int)-1)=(p.length:Int)-1:=qq (by omega) (by omega);simp only[zC,vI,simprocAttr];simp +decide only[↓vS,vT,simprocAttr,e1]
 refine SL.loopP (α:=Nat) (fun i=>[(0,.own b p.length),(2,.i .i64 (i:Int)),(3,.i .i64 ((p.length:Int)-1-i))])
  (fun i h=>2*i<=p.length∧∃tr',h=⟨s,0,tr'⟩∧(∀c,c≠b->tr'.get c=tr.get c)∧tr'.get b=some (.cells 4 true true (rP (qe7 p i)))) (fun i=>p.length-i) ?_ 0 ?_ ?_
 ·rintro i h1 ⟨hi,tr',rfl,hold,hrow⟩ G ih;simp only[vI,simprocAttr]
  by_cases hlt:2*i+1<p.length
  ·have hlt':(i:Int)<(p.length:Int)-1-i:=by omega
   have ej:(p.length:Int)-1-i=((p.length-1-i:Nat):Int):=by omega
   obtain⟨x,hx⟩:∃x,(qe7 p i)[i]?=some x:=⟨_,zzE (by rw[qay];omega)⟩;obtain⟨y,hy⟩:∃x,(qe7 p i)[p.length-1-i]?=some x:=⟨_,zzE (by rw[qay];omega)⟩;have hst:=qqS hlt hx hy;have elx:=qpc hx;have ely:=qpc hy;have lx:i*4+4<=(rP (qe7 p i)).length:=by rw[qdS,qay];omega
   have ly:(p.length-1-i)*4+4<=(rP (qe7 p i)).length:=by rw[qdS,qay];omega
   have lx2:i<p.length:=by omega
   have ly2:p.length-1-i<p.length:=by omega
   have s1:=qpd (l:=qe7 p i) (j:=i) y (by rw[qay];omega);have s2:=qpd (l:=(qe7 p i).set i y) (j:=p.length-1-i) x (by rw[List.length_set,qay];omega);rw[hst] at s2;have ly3:(p.length-1-i)*4+4<=(rP ((qe7 p i).set i y)).length:=by rw[qdS,List.length_set,qay];omega
   simp only[qD,List.cons_append,List.nil_append] at s1 s2 elx ely;have w1:IntKind.wrap .i64 ((i:Int)+1)=((i+1:Nat):Int):=by rw[qq (by omega) (by omega)];simp
   have w2:IntKind.wrap .i64 (((p.length-1-i:Nat):Int)-1)=(p.length:Int)-1-((i+1:Nat):Int):=by rw[qq (by omega) (by omega)];omega
   rw[ej] at hlt' ⊢;simp +decide only[↓vS,vT,simprocAttr,hlt'];refine zD ?_;simp +decide only[↓vS,vT,simprocAttr,lx2,ly2,hrow,elx,ely,lx,ly,s1,ly3,s2,w1,w2];refine ih (i+1) _ _ (by omega) (by simp[qf,qi,Tr.get_set]) ⟨by omega,_,rfl,fun c hc=>?_,by rw[Tr.get_set,if_pos rfl]⟩
   rw[Tr.get_set,if_neg hc,Tr.get_set,if_neg hc];exact hold c hc
  ·have hlt':¬(i:Int)<(p.length:Int)-1-i:=by omega
   simp +decide only[↓vS,vT,simprocAttr,hlt'];rw[qt5 (by omega)] at hrow;exact hk _ hold hrow
 ·simp[qf,qi,Tr.get_set]
 ·exact⟨by omega,tr,rfl,fun _ _=>rfl,by rw[qAL];exact hb⟩
structure LI (kb n:Nat) (back:List Ins) (pl:List Nat) (s:Nat) (tr:Tr Blk) (bb bp:Nat) (far:Int):Prop where
 k:tr.get kb=some (.cells 0 true false [.own bb back.length,.sl bp 0 n n false,.i .i64 far])
 b:tr.get bb=some (.cells 4 true true (rP back))
 p:tr.get bp=some (.cells 0 true false (rNt pl))
 len:pl.length=n
 kb':kb≠bb
 kp:kb≠bp
 bp':bb≠bp
 ks:kb<s
 bs:bb<s
 ps:bp<s
theorem LI.keep{kb n bb bp s s':Nat}{back:List Ins}{pl:List Nat}{tr tr':Tr Blk}{far:Int}(h:LI kb n back pl s tr bb bp far)(hs:s<=s')(e:∀c,c=kb∨c=bb∨c=bp->tr'.get c=tr.get c):LI kb n back pl s' tr' bb bp far :=
 ⟨(e kb (.inl rfl)).trans h.k,(e bb (.inr (.inl rfl))).trans h.b,(e bp (.inr (.inr rfl))).trans h.p,h.len,h.kb',h.kp,h.bp',Nat.lt_of_lt_of_le h.ks hs,Nat.lt_of_lt_of_le h.bs hs,Nat.lt_of_lt_of_le h.ps hs⟩
def xe:IFn:=⟨[.tmp 4],.seq (.r [.m 4 (.k 0)]) (.seq (.reg true [.n 5 0,.q 6 (.nilChk (.t 5)),.f 7 0 6,.d 8 7,.e 9 8,.n 10 0,.q 11 (.nilChk (.t 10)),.f 12 1 11,.d 13 12,.n 14 1,.i 15 1 13 14,.d 16 15,.b 17 .sub 9 16,.n 4 17]) (.ret))⟩
theorem qlA(hc:qc P f xe=true){kb n s fl bb bp:Nat}{back:List Ins}{pl:List Nat}{tr:Tr Blk}{far:Int}{k:AV->Hp->Prop}(h:LI kb n back pl s tr bb bp far){j q:Nat}(hj:pl[j]?=some q)(hq:q<=back.length)(hb:back.length<=1000000)
  (hk:k (.i .i64 ((back.length-q:Nat):Int)) ⟨s,fl,tr⟩):SC P f [.ptr kb 0,.i .i64 (j:Int)] ⟨s,fl,tr⟩ k:=by
 refine SC.mk hc (qj ?_);have hjl:j<n:=by rw[← h.len];exact (zzS.1 hj).1
 have hg:(rNt pl)[j]?=some (.i .i64 (q:Int)):=by rw[qpb,hj];rfl
 have e:IntKind.wrap .i64 ((back.length:Int)-q)=((back.length-q:Nat):Int):=by rw[qq (by omega) (by omega)];omega
 simp only[xe,vI,simprocAttr];simp +decide only[↓vS,vT,simprocAttr];refine zD ?_;simp +decide only[↓vS,vT,simprocAttr,h.k,h.p,hjl,hg,Nat.mul_one,e];exact hk
def xl(a:Nat):IFn:=⟨[.tmp 2],.seq (.r [.q 1 (.box (.t 0)),.m 2 (.c (.nilf))]) (.seq (.r [.q 3 (.mkF a [] [.t 1]),.n 2 3]) (.ret))⟩
theorem qCo{g:Nat}(hc:qc P f (xl g)=true)(l:List Ins):qd P f [.fz l.length (rP l)] (.fn g [] [.pf [.fz l.length (rP l)] 0]):=by
 refine qd.mk hc (by simp[qu,clo,qx]) ?_;simp only[xl,vI,simprocAttr];simp +decide only[↓vS,vT,simprocAttr];simp[vZ,vP,Tr.get_set,zp (qx l)]
def jp(a:Nat):IFn:=⟨[],.seq (.r [.q 2 (.box (.t 0))]) (.seq (.r [.n 6 1,.l 7 a [.t 6]]) (.blk 0 (.rangeF 0 (.t 7) [8,9] (.r [.q 5 (.alloc [.i .u16 0,.i .u8 0,.i .u8 0,.i .u32 0]),.u (.store 4 (.t 5) (.t 9))]) (.blk 1 (.reg true [.d 10 2,.d 11 2,.q 12 (.nilChk (.t 11)),.f 13 0 12,.d 14 13,.v 15 4 5,.q 16 (.buildS 1 [.i .u16 0,.i .u8 0,.i .u8 0,.i .u32 0] [(0,4,(.t 15))]),.q 17 (.appD 4 8 (.t 14) (.t 16) [2]),.q 18 (.nilChk (.t 10)),.f 19 0 18,.u (.store 1 (.t 19) (.t 17))])))))⟩
def puT(s gi:Nat)(l:List Ins):List (Nat×AV):=[(2,.ptr s 0),(7,.fn gi [] [.pf [.fz l.length (rP l)] 0])]
def puA:ICode:=.reg false [⟨some 5,.op (.alloc [.i .u16 0,.i .u8 0,.i .u8 0,.i .u32 0]),none⟩,⟨none,.op (.store 4 (.t 5) (.t 9)),none⟩]
def puB:ICode:=.blk 1 (.reg true [.d 10 2,.d 11 2,.q 12 (.nilChk (.t 11)),.f 13 0 12,.d 14 13,.v 15 4 5,.q 16 (.buildS 1 [.i .u16 0,.i .u8 0,.i .u8 0,.i .u32 0] [(0,4,(.t 15))]),.q 17 (.appD 4 8 (.t 14) (.t 16) [2]),.q 18 (.nilChk (.t 10)),.f 19 0 18,.u (.store 1 (.t 19) (.t 17))])
theorem qtN{kb n s0 s gi bb bp lb:Nat}{back l:List Ins}{pl:List Nat}{r0:Loop}{tr:Tr Blk}{far:Int}{k:AV->Hp->Prop}(hr0:r0.state = .ready)(hp0:r0.pending=none)(hlo:LoopOk P r0 [8,9] puA puB)
  (h:LI kb n back pl s tr bb bp far) (g0:tr.get s0=some (.cells 0 true false [.ptr kb 0])) (gl:tr.get lb=some (.map (zn r0 (puT s0 gi l)))) (hlb:lb<s) (hs0:s0<s) (hn:kb≠lb∧bb≠lb∧bp≠lb∧s0≠lb∧s0≠kb∧s0≠bb) (i:Int) (x:Ins) (hb:back.length<=1000000)
  (hk:∀s' tr' bb',s<=s'->(∀c,c<s->c≠kb->c≠bb->tr'.get c=tr.get c)->s<=bb'->LI kb n (back++[x]) pl s' tr' bb' bp far->k (.b true) ⟨s',0,tr'⟩):SY P lb [.i .i64 i,.agg (qD x)] ⟨s,0,tr⟩ k:=by
 obtain⟨e1,e2,e3,e4,e5,e6⟩:=hn;have hks:=h.ks;have hbs:=h.bs;have hps:=h.ps;have hkb:=h.kb';have hkp:=h.kp;have hbp:=h.bp';refine SY.mk (r:=r0) (ts:=puT s0 gi l) (ps:=[8,9]) gl hr0 hlo (Nat.zero_le _) hlb rfl ?_;rw[show mkT (puT s0 gi l)=(Tr.leaf.set 7 (.fn gi [] [.pf [.fz l.length (rP l)] 0])).set 2 (.ptr s0 0) from rfl]
 refine qj ?_;simp only[qkz,puA,qD,vI,simprocAttr];simp +decide only[↓vS,vT,simprocAttr];have n1:¬lb=s:=by omega
 have n2:¬s0=s:=by omega
 have n3:¬kb=s:=by omega
 have n4:¬bb=s:=by omega
 have n5:¬s=lb:=by omega
 have n6:¬s=s+1:=by omega
 have n7:¬s0=s+1:=by omega
 have n8:¬kb=s+1:=by omega
 have n9:¬bb=s+1:=by omega
 have n10:¬s+1=bb:=by omega
 have n11:¬kb=s+1+1:=by omega
 have n12:¬s0=bb:=e6;have n13:¬s=bb:=by omega
 have n14:¬s0=s+1+1:=by omega
 have r1:back.length+1<=qg:=by simp only[qg];omega
 have r2:(back.length+1)*8<=qg:=by simp only[qg];omega
 refine⟨puT s0 gi l,by simp[Tr.get_set,n1,gl],?_⟩
 refine qj ?_;simp only[z7,puB,vI,simprocAttr];simp +decide only[↓vS,vT,simprocAttr];refine zD ?_;simp +decide only[↓vS,vT,simprocAttr,g0,h.k,h.b,e1,e2,e4,n1,n2,n3,n4,n5,n6,n7,n8,n9,n10,n11,n12,n13,n14,hkb,r1,r2,qdS,hbs,e5,e6];refine⟨Go.Kc.bsy r0,puT s0 gi l,?_,?_⟩
 ·simp only[Tr.get_set];rw[if_neg (by omega),if_neg (by omega),if_neg (by omega),if_neg (by omega)];simp
 rw[qhQ,qil hr0 hp0];simp only[z7];simp +decide only[↓vS,vT,simprocAttr];refine hk _ _ (s+1+1) (by omega) (fun c q1 q2 q3=>?_) (by omega) ⟨?_,?_,?_,h.len,by omega,hkp,by omega,by omega,by omega,by omega⟩
 ·by_cases hcl:c=lb
  ·subst hcl;rw[Tr.get_set,if_pos rfl,gl]
  ·simp only[Tr.get_set];repeat rw[if_neg (by omega)]
 ·simp only[Tr.get_set];rw[if_neg e1];simp
 ·simp only[Tr.get_set];rw[if_neg (by omega),if_neg (by omega)];simp[rP,qD]
 ·simp only[Tr.get_set];repeat rw[if_neg (by omega)]
  exact h.p
theorem qoX{gB gi kb n s bb bp bx:Nat}{back l:List Ins}{pl:List Nat}{tr:Tr Blk}{far:Int}{k:AV->Hp->Prop}(hc:qc P f (jp gB)=true)(hB:∀l:List Ins,qd P gB [.fz l.length (rP l)] (.fn gi [] [.pf [.fz l.length (rP l)] 0]))(hi:qc P gi qH=true)
  (h:LI kb n back pl s tr bb bp far) (hx:tr.get bx=some (.cells 0 true false (rP l))) (hn:bx≠kb∧bx≠bb∧bx≠bp) (hxs:bx<s) (hl:l.length<=10) (hb:back.length<=900000)
  (hk:∀s' tr' bb',s<=s'->(∀c,c<s->c≠kb->c≠bb->c≠bx->tr'.get c=tr.get c)->(bb'=bb∨s<=bb')->LI kb n (back++l.reverse) pl s' tr' bb' bp far->k (.tup []) ⟨s',0,tr'⟩):SC P f [.ptr kb 0,.sl bx 0 l.length l.length false] ⟨s,0,tr⟩ k:=by
 obtain⟨x1,x2,x3⟩:=hn;have hks:=h.ks;have hbs:=h.bs;have hps:=h.ps;refine SC.mk hc (qj ?_);simp only[jp,vI,simprocAttr];simp +decide only[↓vS,vT,simprocAttr];refine (hB l).give [(bx,.cells 0 true false (rP l))] ?_ (by simp[clo,qu,qx]) ?_ ?_
 ·intro p hp;rw[List.mem_singleton] at hp;subst hp;refine⟨?_,Nat.zero_le _⟩;rw[Tr.get_set,if_neg (by show ¬bx=s;omega)];exact hx
 ·refine qaP.2 ⟨Frz.cut 4 rfl (Nat.le_refl _) ?_,qeA.2 trivial⟩;simp[trP,Tr.get_set,vP,qdS];rw[List.take_of_length_le (by rw[qdS];omega)];exact Frzs.self (qx l)
 simp only[qkY,qm8,z7];simp +decide only[↓vS,vT,simprocAttr];refine S.rangeFL (ts:=puT s gi l) (Nat.zero_le _) (by intro p hp;simp only[puT,List.mem_cons,List.not_mem_nil,or_false] at hp;rcases hp with rfl|rfl<;>simp[Tr.get_set]) ⟨rfl,rfl⟩ ?_;refine qkN.2 ⟨.fn gi [] [.pf [.fz l.length (rP l)] 0],by simp[Tr.get_set],?_⟩
 refine⟨qfg hi,fun r0 hr0 hp0 hlo=>⟨r0,.inl ⟨rfl,hlo.real⟩,?_⟩⟩
 have hlo:LoopOk P r0 [8,9] puA puB:=hlo
 have old:∀c,c<s->c≠bx->((((tr.set s (.cells 0 true false [.ptr kb 0])).set bx .dead).set (s+1) (.map (zn r0 (puT s gi l))))).get c=tr.get c:=fun c h1 h2=>by
  simp only[Tr.get_set];repeat rw[if_neg (by omega)]
 refine qaa (c:=qD) hi qaN (by omega) (fun i h=>i<=l.length∧∃s' tr' bb',h=⟨s',0,tr'⟩∧s+2<=s'∧(∀c,c<s->c≠kb->c≠bb->c≠bx->tr'.get c=tr.get c)∧(bb'=bb∨s+2<=bb')∧LI kb n (back++(l.drop i).reverse) pl s' tr' bb' bp far∧tr'.get s=some (.cells 0 true false [.ptr kb 0])∧tr'.get (s+1)=some (.map (zn r0 (puT s gi l)))) ?_ ?_ ?_
 ·rintro i x hh hx ⟨hil,s',tr',bb',rfl,q1,q2,q3,q4,q5,q6⟩ k hk;have hd:l.drop i=x::l.drop (i+1):=by rw[← (zzS.1 hx).2,List.getElem_cons_drop]
  refine qtN (s0:=s) (lb:=s+1) hr0 hp0 hlo q4 q5 q6 (by omega) (by omega) ⟨by omega,by omega,by omega,by omega,by omega,by omega⟩ _ x (by simp;omega) fun s2 t2 b2 p1 p2 p3 p4=>hk _ ⟨by omega,s2,t2,b2,rfl,by omega,fun c c1 c2 c3 c4=>?_,by omega,?_,?_,?_⟩
  ·rw[p2 c (by omega) c2 (by omega)];exact q2 c c1 c2 c3 c4
  ·rw[hd,List.reverse_cons,← List.append_assoc];exact p4
  ·rw[p2 s (by omega) (by omega) (by omega)];exact q5
  ·rw[p2 (s+1) (by omega) (by omega) (by omega)];exact q6
 ·refine⟨Nat.le_refl _,s+1+1,_,bb,rfl,by omega,fun c c1 c2 c3 c4=>old c c1 c4,.inl rfl,?_,?_,?_⟩
  ·rw[List.drop_length];simp only[List.reverse_nil,List.append_nil];refine h.keep (by omega) fun c hc=>old c ?_ ?_
   ·rcases hc with rfl|rfl|rfl<;>omega
   ·rcases hc with rfl|rfl|rfl<;>omega
  ·show ((((tr.set s (.cells 0 true false [.ptr kb 0])).set bx .dead).set (s+1) (.map (zn r0 (puT s gi l))))).get s=_;simp only[Tr.get_set];rw[if_neg (by omega),if_neg (by omega)];simp
  ·show ((((tr.set s (.cells 0 true false [.ptr kb 0])).set bx .dead).set (s+1) (.map (zn r0 (puT s gi l))))).get (s+1)=_;rw[Tr.get_set,if_pos rfl]
 ·rintro hh ⟨_,s',tr',bb',rfl,q1,q2,q3,q4,q5,q6⟩;refine⟨r0,puT s gi l,q6,by rw[hr0];decide,?_⟩
  rw[hp0];simp only[z7];simp only[↓vS,vT,simprocAttr];refine hk _ _ bb' (by omega) (fun c c1 c2 c3 c4=>?_) (by omega) ?_
  ·rw[Tr.get_set,if_neg (by show ¬c=s+1;omega)];exact q2 c c1 c2 c3 c4
  ·have hq:=q4;rw[List.drop_zero] at hq;refine hq.keep (Nat.le_refl _) fun c hc=>?_
   have:c≠s+1:=by rcases hc with rfl|rfl|rfl<;>omega
   rw[Tr.get_set,if_neg this]
def jy(n:Nat)(pl:List Nat)(x:Sy):List Ins :=
 if x.code=5 then [⟨5,0,0,(n-pl.getD x.th 0:Nat)⟩] else if ql x.code≠4 then [⟨x.code,0,0,x.k⟩] else
  if max (n-pl.getD x.th 0) (n-pl.getD x.el 0)<=255 then [⟨x.code,(n-pl.getD x.th 0:Nat),(n-pl.getD x.el 0:Nat),x.k⟩] else
   [⟨x.code,0,1,x.k⟩,⟨5,0,0,(n-pl.getD x.th 0+1:Nat)⟩,⟨5,0,0,(n-pl.getD x.el 0:Nat)⟩]
theorem qnb{n:Nat}{pl:List Nat}{x:Sy}:(jy n pl x).length<=3∧1<=(jy n pl x).length:=by
 unfold jy;repeat' split
 all_goals simp
def qa0(a b c:Nat):IFn:=⟨[],.seq (.r [.q 3 (.box (.t 1))]) (.blk 0 (.seq (.r [.f 53 0 3,.d 54 53,.q 55 (.bin .eql (.t 54) (.c (.i .u16 5))),.n 52 55]) (.cond (.t 52) (.r [.n 56 0,.n 57 0,.f 58 2 3,.d 59 58,.l 60 a [.t 57,.t 59],.q 61 (.cvInt .u32 (.t 60)),.q 62 (.build [.i .u16 0,.i .u8 0,.i .u8 0,.i .u32 0] [(0,1,(.c (.i .u16 5))),(3,1,(.t 61))]),.q 63 (.buildS 1 [.i .u16 0,.i .u8 0,.i .u8 0,.i .u32 0] [(0,4,(.t 62))]),.l 64 b [.t 56,.t 63]]) (.seq (.r [.f 66 0 3,.d 67 66,.l 68 c [.t 67],.q 69 (.bin .neq (.t 68) (.c (.i .u8 4))),.n 65 69]) (.cond (.t 65) (.r [.n 70 0,.f 71 0 3,.d 72 71,.f 73 1 3,.d 74 73,.q 75 (.build [.i .u16 0,.i .u8 0,.i .u8 0,.i .u32 0] [(0,1,(.t 72)),(3,1,(.t 74))]),.q 76 (.buildS 1 [.i .u16 0,.i .u8 0,.i .u8 0,.i .u32 0] [(0,4,(.t 75))]),.l 77 b [.t 70,.t 76]]) (.seq (.reg true [.n 6 0,.f 7 2 3,.d 8 7,.l 9 a [.t 6,.t 8],.n 10 0,.f 11 3 3,.d 12 11,.l 13 a [.t 10,.t 12],.n 4 9,.n 5 13]) (.seq (.seq (.r [.n 14 4,.n 15 5,.q 16 (.max (.t 14) (.t 15)),.w 17 .leq 16 255]) (.cond (.t 17) (.seq (.r [.n 18 0,.f 19 0 3,.d 20 19,.n 21 4,.q 22 (.cvInt .u8 (.t 21)),.n 23 5,.q 24 (.cvInt .u8 (.t 23)),.f 25 1 3,.d 26 25,.q 27 (.build [.i .u16 0,.i .u8 0,.i .u8 0,.i .u32 0] [(0,1,(.t 20)),(1,1,(.t 22)),(2,1,(.t 24)),(3,1,(.t 26))]),.q 28 (.buildS 1 [.i .u16 0,.i .u8 0,.i .u8 0,.i .u32 0] [(0,4,(.t 27))]),.l 29 b [.t 18,.t 28]]) (.ret)) (.skip))) (.seq (.r [.n 30 0,.q 31 (.nilChk (.t 30)),.f 32 2 31,.d 33 32,.a 34 33 1,.q 35 (.nilChk (.t 30)),.f 36 2 35,.u (.store 1 (.t 36) (.t 34))]) (.r [.n 37 0,.f 38 0 3,.d 39 38,.f 40 1 3,.d 41 40,.q 42 (.build [.i .u16 0,.i .u8 0,.i .u8 0,.i .u32 0] [(0,1,(.t 39)),(2,1,(.c (.i .u8 1))),(3,1,(.t 41))]),.n 43 4,.q 44 (.cvInt .u32 (.t 43)),.q 45 (.bin .add (.t 44) (.c (.i .u32 1))),.q 46 (.build [.i .u16 0,.i .u8 0,.i .u8 0,.i .u32 0] [(0,1,(.c (.i .u16 5))),(3,1,(.t 45))]),.n 47 5,.q 48 (.cvInt .u32 (.t 47)),.q 49 (.build [.i .u16 0,.i .u8 0,.i .u8 0,.i .u32 0] [(0,1,(.c (.i .u16 5))),(3,1,(.t 48))]),.q 50 (.buildS 3 [.i .u16 0,.i .u8 0,.i .u8 0,.i .u32 0] [(0,4,(.t 42)),(4,4,(.t 46)),(8,4,(.t 49))]),.l 51 b [.t 37,.t 50]])))))))))⟩
theorem qz9{gD gO gP gB gi kb n s bb bp:Nat}{back:List Ins}{pl:List Nat}{tr:Tr Blk}{far:Int}{k:AV->Hp->Prop}(hc:qc P f (qa0 gD gP gO)=true)(hD:qc P gD xe=true)(hO:cOf P gO)(hP:qc P gP (jp gB)=true)
  (hB:∀l:List Ins,qd P gB [.fz l.length (rP l)] (.fn gi [] [.pf [.fz l.length (rP l)] 0])) (hi:qc P gi qH=true)
  (h:LI kb n back pl s tr bb bp far) (x:Sy) (hb:back.length<=800000) (hj:∀j:Nat,(x.code=5∨ql x.code=4)∧j=x.th∨(ql x.code=4∧x.code≠5)∧j=x.el->∃q,pl[j]?=some q∧q<=back.length)
  (hk:∀s' tr' bb' far',s<=s'->(∀c,c<s->c≠kb->c≠bb->tr'.get c=tr.get c)->(bb'=bb∨s<=bb')->LI kb n (back++(jy back.length pl x).reverse) pl s' tr' bb' bp far'->k (.tup []) ⟨s',0,tr'⟩):SC P f [.ptr kb 0,.agg (cSy x)] ⟨s,0,tr⟩ k:=by
 have hks:=h.ks;have hbs:=h.bs;have hps:=h.ps;have hkb:=h.kb';have hkp:=h.kp;have hbp:=h.bp'
 have h1:∀(y:Blk),LI kb n back pl (s+1) (tr.set s y) bb bp far:=fun y=>h.keep (by omega) fun c hc=>by
  rw[Tr.get_set,if_neg (by rcases hc with rfl|rfl|rfl<;>omega)]
 have h2:∀(y z:Blk),LI kb n back pl (s+1+1) ((tr.set s y).set (s+1) z) bb bp far:=fun y z=>(h1 y).keep (by omega) fun c hc=>by
  rw[Tr.get_set,if_neg (by rcases hc with rfl|rfl|rfl<;>omega)]
 have n1:¬s=s+1:=by omega
 have put:∀(y z:Blk) (l:List Ins),z = .cells 0 true false (rP l)->l.length<=10->jy back.length pl x=l->∀k2:AV->Hp->Prop,(∀h,k (.tup []) h->k2 (.tup []) h)->SC P gP [.ptr kb 0,.sl (s+1) 0 l.length l.length false] ⟨s+1+1,0,(tr.set s y).set (s+1) z⟩ k2:=fun y z l hz hl he k2 hk2=>by
  refine qoX hP hB hi (h2 y z) (by rw[Tr.get_set,if_pos rfl,hz]) ⟨by omega,by omega,by omega⟩ (by omega) hl (by omega) fun s' tr' bb' q1 q2 q3 q4=>hk2 _ (hk s' tr' bb' far (by omega) (fun c c1 c2 c3=>?_) (by omega) (by rw[he];exact q4))
  rw[q2 c (by omega) c2 c3 (by omega)];simp only[Tr.get_set];rw[if_neg (by omega),if_neg (by omega)]
 refine SC.mk hc (qj ?_);simp only[qa0,cSy,vI,simprocAttr]
 by_cases h5:x.code=5
 ·obtain⟨q,hq,hql⟩:=hj x.th (.inl ⟨.inl h5,rfl⟩);have hqD:pl.getD x.th 0=q:=by rw[List.getD_eq_getElem?_getD,hq];rfl
  have he:jy back.length pl x=[⟨5,0,0,((back.length-q:Nat):Int)⟩]:=by unfold jy;rw[if_pos h5,hqD]
  have hw:IntKind.wrap .u32 ((back.length-q:Nat):Int)=((back.length-q:Nat):Int):=qcD (by omega) (by omega);simp +decide only[↓vS,vT,simprocAttr,eq_true h5];refine qlA hD (h1 _) hq hql (by omega) ?_;simp +decide only[↓vS,vT,simprocAttr,hw];exact put _ _ [⟨5,0,0,((back.length-q:Nat):Int)⟩] (by simp[rP,qD]) (by simp) he _ fun h hv=>by simp +decide only[↓vS,vT,simprocAttr];exact hv
 ·by_cases hc4:ql x.code=4
  ·obtain⟨q,hq,hql⟩:=hj x.th (.inl ⟨.inr hc4,rfl⟩);obtain⟨r,hr,hrl⟩:=hj x.el (.inr ⟨⟨hc4,h5⟩,rfl⟩);have hqD:pl.getD x.th 0=q:=by rw[List.getD_eq_getElem?_getD,hq];rfl
   have hrD:pl.getD x.el 0=r:=by rw[List.getD_eq_getElem?_getD,hr];rfl
   simp +decide only[↓vS,vT,simprocAttr,h5];refine (hO x.code).sc ?_;simp +decide only[↓vS,vT,simprocAttr,hc4];refine zD ?_;simp +decide only[↓vS,vT,simprocAttr];refine⟨_,_,fun k' hk'=>qlA hD (h1 _) hq hql (by omega) hk',?_⟩
   simp +decide only[↓vS,vT,simprocAttr];refine⟨_,_,fun k' hk'=>qlA hD (h1 _) hr hrl (by omega) hk',?_⟩
   have he:jy back.length pl x=if max (back.length-q) (back.length-r)<=255 then [⟨x.code,((back.length-q:Nat):Int),((back.length-r:Nat):Int),x.k⟩] else [⟨x.code,0,1,x.k⟩,⟨5,0,0,((back.length-q+1:Nat):Int)⟩,⟨5,0,0,((back.length-r:Nat):Int)⟩]:=by
    unfold jy;rw[if_neg h5,if_neg (by simp[hc4]),hqD,hrD]
   obtain⟨a,ha⟩:∃a,a=back.length-q:=⟨_,rfl⟩;obtain⟨b,hb'⟩:∃b,b=back.length-r:=⟨_,rfl⟩;rw[← ha,← hb'] at he ⊢;have hal:a<=800000:=by omega
   have hbl:b<=800000:=by omega
   simp +decide only[↓vS,vT,simprocAttr];have hmx:(if a<b then (b:Int) else a)=((max a b:Nat):Int):=by split<;>omega
   rw[hmx]
   by_cases hm:max a b<=255
   ·have hm':((max a b:Nat):Int)<=255:=by omega
    rw[if_pos hm] at he;have w1:IntKind.wrap .u8 (a:Int)=a:=quD (by omega) (by omega);have w2:IntKind.wrap .u8 (b:Int)=b:=quD (by omega) (by omega);simp +decide only[↓vS,vT,simprocAttr,hm'];rw[w1,w2];exact put _ _ [⟨x.code,(a:Int),(b:Int),x.k⟩] (by simp[rP,qD]) (by simp) he _ fun h hv=>by simp +decide only[↓vS,vT,simprocAttr];exact hv
   ·have hm':¬((max a b:Nat):Int)<=255:=by omega
    rw[if_neg hm] at he;have w1:IntKind.wrap .u32 (a:Int)=a:=qcD (by omega) (by omega);have w2:IntKind.wrap .u32 (b:Int)=b:=qcD (by omega) (by omega);have w3:IntKind.wrap .u32 ((a:Int)+1)=((a+1:Nat):Int):=by rw[qcD (by omega) (by omega)];simp
    have n2:¬kb=s:=by omega
    have n3:¬s=kb:=by omega
    simp +decide only[↓vS,vT,simprocAttr,hm',w1,w2,w3,h.k,n2,n3,n1];refine qoX hP hB hi (l:=[⟨x.code,0,1,x.k⟩,⟨5,0,0,((a+1:Nat):Int)⟩,⟨5,0,0,((b:Nat):Int)⟩]) (far:=IntKind.wrap .i64 (far+1)) (s:=s+1+1) (bb:=bb) (bp:=bp) (n:=n) (pl:=pl) (back:=back) ⟨?_,?_,?_,h.len,hkb,hkp,hbp,by omega,by omega,by omega⟩ ?_ ⟨by omega,by omega,by omega⟩ (by omega) (by simp) (by omega) fun s' tr' bb' q1 q2 q3 q4=>?_
    ·simp only[Tr.get_set];rw[if_neg (by omega)];simp
    ·simp only[Tr.get_set];rw[if_neg (by omega),if_neg (by omega),if_neg (by omega)];exact h.b
    ·simp only[Tr.get_set];rw[if_neg (by omega),if_neg (by omega),if_neg (by omega)];exact h.p
    ·rw[Tr.get_set,if_pos rfl];simp[rP,qD]
    ·simp +decide only[↓vS,vT,simprocAttr];refine hk s' tr' bb' _ (by omega) (fun c c1 c2 c3=>?_) (by omega) (by rw[he];exact q4)
     rw[q2 c (by omega) c2 c3 (by omega)];simp only[Tr.get_set];rw[if_neg (by omega),if_neg c2,if_neg (by omega)]
  ·have he:jy back.length pl x=[⟨x.code,0,0,x.k⟩]:=by unfold jy;rw[if_neg h5,if_pos hc4]
   simp +decide only[↓vS,vT,simprocAttr,h5];refine (hO x.code).sc ?_;simp +decide only[↓vS,vT,simprocAttr,hc4];exact put _ _ [⟨x.code,0,0,x.k⟩] (by simp[rP,qD]) (by simp) he _ fun h hv=>by simp +decide only[↓vS,vT,simprocAttr];exact hv
def zm(l:List Sy):Nat->List Ins×List Nat
 | 0=>([],List.replicate l.length 0)
 | m+1=>match l[l.length-(m+1)]? with
  | some x=>((zm l m).1++(jy (zm l m).1.length (zm l m).2 x).reverse,(zm l m).2.set (l.length-(m+1)) ((zm l m).1++(jy (zm l m).1.length (zm l m).2 x).reverse).length)
  | none=>zm l m
theorem qf1{l:List Sy}:∀m,(zm l m).2.length=l.length∧(∀q ∈ (zm l m).2,q<=(zm l m).1.length)∧(zm l m).1.length<=3*m
 | 0=>by
  refine⟨by simp[zm],fun q hq=>?_,by simp[zm]⟩
  simp only[zm,List.mem_replicate] at hq;omega
 | m+1=>by
  obtain⟨h1,h2,h3⟩:=qf1 (l:=l) m;unfold zm;split
  ·rename_i x hx;refine⟨by simp[h1],fun q hq=>?_,?_⟩
   ·rcases List.mem_or_eq_of_mem_set hq with hq|hq
    ·have:=h2 q hq;simp;omega
    ·rw[hq];exact Nat.le_refl _
   ·have:=(qnb (n:=(zm l m).1.length) (pl:=(zm l m).2) (x:=x)).1;simp;omega
  ·exact⟨h1,h2,by omega⟩
def xu(l:List Sy):List Ins:=(zm l l.length).1.reverse
theorem qwN{l:List Nat}{j v:Nat}(hj:j<l.length):(rNt l).take j ++ .i .i64 (v:Int)::(rNt l).drop (j+1)=rNt (l.set j v):=by
 rw[List.set_eq_take_append_cons_drop,if_pos hj];simp[rNt,List.map_take,List.map_drop]
def qbt(a b c:Nat):ICode:=.seq (.r [.d 33 4,.n 2 33,.m 3 .T]) (.ret)
def qc1(a b c:Nat):IFn:=⟨[.tmp 2,.tmp 3],.seq (.r [.m 2 (.c (.nilp)),.m 3 .F]) (.seq (.seq (.r [.n 7 0,.l 8 a [.t 7],.q 9 (.un .not (.t 8))]) (.cond (.t 9) (.seq (.r [.m 2 (.c (.nilp)),.m 3 .F]) (.ret)) (.skip))) (.seq (.r [.n 10 0,.e 11 10,.q 12 (.mkS 1 8 [.i .i64 0] (.t 11) (.t 11)),.q 13 (.build [.nils,.nils,.i .i64 0] [(1,1,(.t 12))]),.q 14 (.box (.t 13)),.q 4 (.alloc [.nilp]),.u (.store 1 (.t 4) (.t 14))]) (.seq (.seq (.r [.n 15 0,.l 16 b [.t 15]]) (.blk 0 (.rangeF 0 (.t 16) [17,18] (.seq (.r [.n 5 17]) (.r [.q 6 (.alloc [.i .u16 0,.i .u32 0,.i .i64 0,.i .i64 0]),.u (.store 4 (.t 6) (.t 18))])) (.blk 1 (.seq (.r [.d 19 4,.v 20 4 6,.l 21 c [.t 19,.t 20]]) (.reg true [.d 22 4,.q 23 (.nilChk (.t 22)),.f 24 1 23,.d 25 24,.n 26 5,.d 27 4,.q 28 (.nilChk (.t 27)),.f 29 0 28,.d 30 29,.e 31 30,.i 32 1 25 26,.u (.store 1 (.t 32) (.t 31))])))))) (.cut (qbt a b c)))))⟩
def liT(gi:Nat)(l:List Sy):List (Nat×AV):=[(4,.ptr 2 0),(16,.fn gi [] [.pf [.fz l.length (rSy l)] 0])]
def liA:ICode:=.seq (.reg false [⟨some 5,.op (.mov (.t 17)),none⟩]) (.reg false [⟨some 6,.op (.alloc [.i .u16 0,.i .u32 0,.i .i64 0,.i .i64 0]),none⟩,⟨none,.op (.store 4 (.t 6) (.t 18)),none⟩])
def liB(g1:Nat):ICode:=.blk 1 (.seq (.r [.d 19 4,.v 20 4 6,.l 21 g1 [.t 19,.t 20]]) (.reg true [.d 22 4,.q 23 (.nilChk (.t 22)),.f 24 1 23,.d 25 24,.n 26 5,.d 27 4,.q 28 (.nilChk (.t 27)),.f 29 0 28,.d 30 29,.e 31 30,.i 32 1 25 26,.u (.store 1 (.t 32) (.t 31))]))
def qva(P:Program)(g:Nat):Prop:=∀(kb n s bb bp:Nat) (back:List Ins) (pl:List Nat) (tr:Tr Blk) (far:Int) (k:AV->Hp->Prop),LI kb n back pl s tr bb bp far->∀x:Sy,back.length<=800000->(∀j:Nat,(x.code=5∨ql x.code=4)∧j=x.th∨(ql x.code=4∧x.code≠5)∧j=x.el->∃q,pl[j]?=some q∧q<=back.length)->
 (∀s' tr' bb' far',s<=s'->(∀c,c<s->c≠kb->c≠bb->tr'.get c=tr.get c)->(bb'=bb∨s<=bb')->LI kb n (back++(jy back.length pl x).reverse) pl s' tr' bb' bp far'->k (.tup []) ⟨s',0,tr'⟩)->SC P g [.ptr kb 0,.agg (cSy x)] ⟨s,0,tr⟩ k
theorem qsY{gi g1 s bb n:Nat}{back:List Ins}{pl:List Nat}{l:List Sy}{r0:Loop}{tr:Tr Blk}{far:Int}{k:AV->Hp->Prop}(h1:qva P g1)(hr0:r0.state = .ready)(hp0:r0.pending=none)(hlo:LoopOk P r0 [17,18] liA (liB g1))
  (h:LI 1 n back pl s tr bb 0 far) (g2:tr.get 2=some (.cells 0 true false [.ptr 1 0])) (g4:tr.get 4=some (.map (zn r0 (liT gi l)))) (hs:5<=s) (hb3:3<=bb) (hb4:bb≠4) (hb:back.length<=800000) (i:Nat) (hi:i<n) (x:Sy)
  (hj:∀j:Nat,(x.code=5∨ql x.code=4)∧j=x.th∨(ql x.code=4∧x.code≠5)∧j=x.el->∃q,pl[j]?=some q∧q<=back.length)
  (hk:∀s' tr' bb' far',5<=s'->LI 1 n (back++(jy back.length pl x).reverse) (pl.set i (back++(jy back.length pl x).reverse).length) s' tr' bb' 0 far'->tr'.get 2=some (.cells 0 true false [.ptr 1 0])->tr'.get 4=some (.map (zn r0 (liT gi l)))->3<=bb'->bb'≠4->k (.b true) ⟨s',0,tr'⟩) :
  SY P 4 [.i .i64 (i:Int),.agg (cSy x)] ⟨s,0,tr⟩ k:=by
 have hbs:=h.bs;refine SY.mk (r:=r0) (ts:=liT gi l) (ps:=[17,18]) g4 hr0 hlo (Nat.zero_le _) (by show 4<s;omega) rfl ?_;rw[show mkT (liT gi l)=(Tr.leaf.set 16 (.fn gi [] [.pf [.fz l.length (rSy l)] 0])).set 4 (.ptr 2 0) from rfl]
 refine qj ?_;simp only[qkz,liA,cSy,vI,simprocAttr];simp +decide only[↓vS,vT,simprocAttr];have n1:¬4=s:=by omega
 have n2:¬2=s:=by omega
 have n3:¬s=4:=by omega
 refine⟨liT gi l,by simp[Tr.get_set,n1,g4],?_⟩
 refine qj ?_;simp only[z7,liB,vI,simprocAttr];have e24:¬(2:Nat)=4:=by decide
 simp +decide only[↓vS,vT,simprocAttr,g2,e24,n2,n3]
 have old:∀c,c<s->c≠4->(((tr.set s (.cells 0 true false [.i .u16 0,.i .u32 0,.i .i64 0,.i .i64 0])).set s (.cells 0 true false [.i .u16 x.code,.i .u32 x.k,.i .i64 (x.th:Int),.i .i64 (x.el:Int)])).set 4 (.map (zn (Go.Kc.bsy r0) (liT gi l)))).get c=tr.get c:=fun c h1 h2=>by
  simp only[Tr.get_set];repeat rw[if_neg (by omega)]
 refine h1 1 n (s+1) bb 0 back pl _ far _ (h.keep (by omega) fun c hc=>old c (by rcases hc with rfl|rfl|rfl<;>omega) (by rcases hc with rfl|rfl|rfl<;>omega)) x hb hj fun s' tr' bb' far' q1 q2 q3 q4=>?_
 have g2':tr'.get 2=some (.cells 0 true false [.ptr 1 0]):=by rw[q2 2 (by omega) (by omega) (by omega),old 2 (by omega) (by omega)];exact g2
 have g4':tr'.get 4=some (.map (zn (Go.Kc.bsy r0) (liT gi l))):=by rw[q2 4 (by omega) (by omega) (by omega),Tr.get_set,if_pos rfl]
 obtain⟨B,hB⟩:∃B,B=back++(jy back.length pl x).reverse:=⟨_,rfl⟩;rw[← hB] at q4 hk;have hset:=qwN (l:=pl) (j:=i) (v:=B.length) (by rw[q4.len];exact hi);have hpl:i+1<=(rNt pl).length:=by rw[qji,q4.len];omega
 have hbs':=q4.bs;simp +decide only[↓vS,vT,simprocAttr];refine zD ?_;simp +decide only[↓vS,vT,simprocAttr,g2',q4.k,q4.p,hi,hpl,hset,Nat.mul_one];refine⟨Go.Kc.bsy r0,liT gi l,by rw[Tr.get_set,if_neg (by decide)];exact g4',?_⟩
 rw[qhQ,qil hr0 hp0];simp only[z7];simp +decide only[↓vS,vT,simprocAttr];have hb':bb'≠4:=by omega
 refine hk s' _ bb' far' (by omega) ⟨?_,?_,?_,?_,by omega,by omega,by omega,by omega,by omega,by omega⟩ ?_ ?_ (by omega) hb'
 ·rw[Tr.get_set,if_neg (by decide),Tr.get_set,if_neg (by decide)];exact q4.k
 ·rw[Tr.get_set,if_neg hb',Tr.get_set,if_neg (by omega)];exact q4.b
 ·rw[Tr.get_set,if_neg (by decide),Tr.get_set,if_pos rfl]
 ·rw[List.length_set];exact q4.len
 ·rw[Tr.get_set,if_neg (by decide),Tr.get_set,if_neg (by decide)];exact g2'
 ·rw[Tr.get_set,if_pos rfl]
theorem qqp{n0 g1 g2 g3 s:Nat}{tr:Tr Blk}{t:Tr AV}{k:AV->Hp->Prop}(ht:t.get 4=some (.ptr 2 0))(h2:tr.get 2=some (.cells 0 true false [.ptr 1 0]))(hk:k (.tup [.ptr 1 0,.b true]) ⟨s,0,tr⟩) :
  S P n0 (qbt g1 g2 g3) (qac [.tmp 2,.tmp 3] k) t ⟨s,0,tr⟩:=by
 refine S.has [(4,.ptr 2 0)] (by simp[qf,qi,ht]) (qj ?_);simp only[qbt,vI,simprocAttr];simp +decide only[↓vS,vT,simprocAttr,h2];exact hk
theorem qqq{gM gB g1 gi:Nat}(hc:qc P f (qc1 gM gB g1)=true)(l:List Sy)(hm:qd P gM [.fz l.length (rSy l)] (.b true))(hB:∀l:List Sy,qd P gB [.fz l.length (rSy l)] (.fn gi [] [.pf [.fz l.length (rSy l)] 0]))(hi:qc P gi qB=true)
  (h1:qva P g1) (hl:l.length<=200000) (hin:∀x ∈ l,∀j:Nat,(x.code=5∨ql x.code=4)∧j=x.th∨(ql x.code=4∧x.code≠5)∧j=x.el->j<l.length) {k:AV->Hp->Prop}
  (hk:∀s tr bb far,LI 1 l.length (zm l l.length).1 (zm l l.length).2 s tr bb 0 far->k (.tup [.ptr 1 0,.b true]) ⟨s,0,tr⟩):SC P f [.fz l.length (rSy l)] ⟨0,0,.leaf⟩ k:=by
 refine SC.mk hc (qj ?_);have r1:l.length<=qg:=by simp only[qg];omega
 have r2:8*l.length<=qg:=by simp only[qg];omega
 have hz:(List.replicate l.length [AV.i .i64 0]).flatten=rNt (List.replicate l.length 0):=by simp[rNt]
 simp only[qc1,vI,simprocAttr];simp +decide only[↓vS,vT,simprocAttr];refine hm.sc ?_;simp +decide only[↓vS,vT,simprocAttr,r1,r2,hz];refine (hB l).sc ?_;simp +decide only[↓vS,vT,simprocAttr];refine S.weak (Wk.mk (liT gi l) [.cells 0 true false (rNt (List.replicate l.length 0)),.cells 0 true false [.own 3 0,.sl 0 0 l.length l.length false,.i .i64 0],.cells 0 true false [.ptr 1 0],.cells 4 true true []] [0,1,2,99] ?_ ?_ ?_ rfl) ?_
 ·simp[vw,liT,zp qU,qh,qU]
 ·simp[vw,qh,qT]
 ·simp
 refine S.rangeF (by simp[qaL]) (by simp[liT]) ⟨rfl,rfl⟩ ?_;refine qkN.2 ⟨.fn gi [] [.pf [.fz l.length (rSy l)] 0],by simp[liT,mkT,Tr.get_set],?_⟩
 refine⟨qfg hi,fun r0 hr0 hp0 hlo=>?_⟩
 have hlo:LoopOk P r0 [17,18] liA (liB g1):=hlo;refine xa (c:=cSy) hi qdj (by omega) (fun i h=>i<=l.length∧∃s tr bb far,h=⟨s,0,tr⟩∧5<=s∧LI 1 l.length (zm l (l.length-i)).1 (zm l (l.length-i)).2 s tr bb 0 far∧3<=bb∧bb≠4∧tr.get 2=some (.cells 0 true false [.ptr 1 0])∧tr.get 4=some (.map (zn r0 (liT gi l)))) ?_ ?_ ?_
 ·rintro i x h hx ⟨hil,s,tr,bb,far,rfl,q1,q2,q3,q4,q5,q6⟩ k' hk';have hi':i<l.length:=(zzS.1 hx).1;obtain⟨o1,o2,o3⟩:=qf1 (l:=l) (l.length-(i+1));have e:l.length-i=(l.length-(i+1))+1:=by omega
  have e2:l.length-(l.length-(i+1)+1)=i:=by omega
  have e3:zm l (l.length-i)=((zm l (l.length-(i+1))).1++(jy (zm l (l.length-(i+1))).1.length (zm l (l.length-(i+1))).2 x).reverse,(zm l (l.length-(i+1))).2.set i ((zm l (l.length-(i+1))).1++(jy (zm l (l.length-(i+1))).1.length (zm l (l.length-(i+1))).2 x).reverse).length):=by
   rw[e,zm,e2,hx]
  refine qsY h1 hr0 hp0 hlo q2 q5 q6 q1 q3 q4 (by omega) i hi' x (fun j hj=>?_) fun s' tr' bb' far' p1 p2 p3 p4 p5 p6=>hk' _ ⟨by omega,s',tr',bb',far',rfl,p1,by rw[e3];exact p2,p5,p6,p3,p4⟩
  have hjl:=hin x (zzM hx) j hj;obtain⟨q,hq⟩:∃q,(zm l (l.length-(i+1))).2[j]?=some q:=⟨_,zzE (by omega)⟩;exact⟨q,hq,o2 q (zzM hq)⟩
 ·refine⟨Nat.le_refl _,5,_,3,0,rfl,Nat.le_refl _,⟨?_,?_,?_,?_,by decide,by decide,by decide,by decide,by decide,by decide⟩,by decide,by decide,?_,?_⟩<;>simp[Tr.get_set,qmY,mkH,trL,zm,rP,Hp.push]
 ·rintro h ⟨_,s,tr,bb,far,rfl,q1,q2,q3,q4,q5,q6⟩;rw[Nat.sub_zero] at q2;refine⟨r0,liT gi l,q6,by rw[hr0];decide,?_⟩
  rw[hp0];simp only[z7];simp only[↓vS,vT,simprocAttr];refine qqp (by simp[liT,mkT,Tr.get_set]) ?_ (hk _ _ bb far ?_)
  ·show (tr.set 4 .dead).get 2=_;rw[Tr.get_set,if_neg (by decide)];exact q5
  ·refine q2.keep (Nat.le_refl _) fun c hc=>?_
   have:c≠4:=by rcases hc with rfl|rfl|rfl<;>omega
   rw[Tr.get_set,if_neg (by exact this)]
def qeE(a b:Nat):IFn:=⟨[.tmp 2,.tmp 3],.seq (.r [.m 2 .N,.m 3 (.k 0)]) (.seq (.r [.n 7 0,.l 8 a [.t 7],.n 6 8,.x 9 6 0,.x 10 6 1,.n 4 9,.n 5 10]) (.seq (.blk 0 (.seq (.r [.n 12 5,.q 13 (.un .not (.t 12)),.n 11 13]) (.cond (.t 11) (.seq (.r [.m 2 .N,.m 3 (.k 250)]) (.ret)) (.seq (.r [.n 15 4,.q 16 (.nilChk (.t 15)),.f 17 0 16,.d 18 17,.e 19 18,.w 20 .gtr 19 4096,.n 14 20]) (.cond (.t 14) (.seq (.r [.m 2 .N,.m 3 (.k 270)]) (.ret)) (.skip)))))) (.seq (.r [.n 21 4,.q 22 (.nilChk (.t 21)),.f 23 0 22,.d 24 23,.l 25 b [.t 24]]) (.seq (.r [.n 26 4,.q 27 (.nilChk (.t 26)),.f 28 0 27,.d 29 28,.n 2 29,.m 3 (.k 0)]) (.ret)))))⟩
def qha(l:List Sy):AV:=if 4096<(xu l).length then .tup [.fz 0 [],.i .i64 270] else .tup [.fz (xu l).length (rP (xu l)),.i .i64 0]
theorem qqn{g1 g2:Nat}(hc:qc P f (qeE g1 g2)=true)(l:List Sy)(hl:l.length<=200000)
  (h1:∀k:AV->Hp->Prop,(∀s tr bb far,LI 1 l.length (zm l l.length).1 (zm l l.length).2 s tr bb 0 far->k (.tup [.ptr 1 0,.b true]) ⟨s,0,tr⟩)->SC P g1 [.fz l.length (rSy l)] ⟨0,0,.leaf⟩ k)
  (h2:∀(s b:Nat) (tr:Tr Blk) (p:List Ins),p.length<=1000000->∀k:AV->Hp->Prop,tr.get b=some (.cells 4 true true (rP p))->(∀tr',(∀c,c≠b->tr'.get c=tr.get c)->tr'.get b=some (.cells 4 true true (rP p.reverse))->k (.tup []) ⟨s,0,tr'⟩)->SC P g2 [.own b p.length] ⟨s,0,tr⟩ k) :
  qd P f [.fz l.length (rSy l)] (qha l):=by
 have hlen:=(qf1 (l:=l) l.length).2.2;refine qd.mk hc (by simp[qu,clo,qU]) ?_;simp only[qeE,vI,simprocAttr];simp +decide only[↓vS,vT,simprocAttr];refine h1 _ fun s tr bb far h=>?_
 have hll:(xu l).length=(zm l l.length).1.length:=by simp[xu]
 unfold qha;rw[hll]
 by_cases hbig:4096<(zm l l.length).1.length
 ·have hbig':(4096:Int)<((zm l l.length).1.length:Int):=by omega
  rw[if_pos hbig];simp +decide only[↓vS,vT,simprocAttr,h.k,hbig'];simp[vZ]
 ·have hbig':¬(4096:Int)<((zm l l.length).1.length:Int):=by omega
  rw[if_neg hbig];simp +decide only[↓vS,vT,simprocAttr,h.k,hbig'];refine h2 s bb tr _ (by omega) _ h.b fun tr' q1 q2=>?_
  have hk':=(q1 1 h.kb').trans h.k;simp +decide only[↓vS,vT,simprocAttr,hk'];simp[vZ,vP,q2,xu];refine⟨fun h=>?_,Frzs.self (qx _)⟩
  rw[h];rfl
def qxu(P:Program)(g:Nat):Prop:=∀l:List GTest,l.length<=100000->qd P g [.fz l.length (rT l)] (.fz l.length (rT l))
theorem qyS{g:Nat}(h:qcU P g 4 32):qxu P g:=by
 intro l hl;refine (h l.length (rT l) qik jv qDx (by simp only[qg];omega) (by simp only[qg];omega)).pure (by simp[qu,clo,jv]) ?_;refine .own 0 _ 4 true _ _ ?_ (fun h0=>?_) (Frzs.self jv)
 ·simp[qaR,Hp.push,shb,H0,Tr.get_set,jh jv]
 ·rw[List.eq_nil_of_length_eq_zero h0];rfl
def qjL(a:Nat):IFn:=⟨[.cell 2 3 true],.seq (.r [.q 1 (.box (.t 0)),.q 2 (.alloc [.i .u32 0,.nils,.i .u32 0])]) (.seq (.r [.f 3 1 1,.d 4 3,.l 5 a [.t 4],.f 6 1 1,.u (.store 1 (.t 6) (.t 5))]) (.seq (.r [.v 7 3 1,.u (.store 3 (.t 2) (.t 7))]) (.ret)))⟩
theorem qBV{g:Nat}(hc:qc P f (qjL g)=true)(hg:qxu P g)(r:GRule)(hl:r.tests.length<=100000):qd P f [.agg (qM r)] (.agg (qM r)):=by
 refine qd.mk hc (by simp[qu,clo,qM,jv]) ?_;simp only[qjL,qM,vI,simprocAttr];simp +decide only[↓vS,vT,simprocAttr];refine (hg r.tests hl).sc ?_;simp +decide only[↓vS,vT,simprocAttr];simp[vZ,vP,Tr.get_set,zp jv]
def qfv:IFn:=⟨[.tmp 2],.seq (.r [.q 1 (.box (.t 0)),.m 2 .F]) (.seq (.r [.f 3 1 1,.d 4 3,.q 5 (.bin .eql (.t 4) (.c (.i .u64 0))),.n 2 5]) (.ret))⟩
theorem qDg(hc:qc P f qfv=true)(t:GTest):qd P f [.agg (zQ t)] (.b (decide (t.mask=0))):=by
 refine qd.mk hc rfl ?_;simp only[qfv,zQ,vI,simprocAttr];simp +decide only[↓vS,vT,simprocAttr];simp[vZ]
def qe3(a:Int)(ts:List GTest):List GTest:=(ts.reverse.dropWhile fun t=>decide (t.act=a)).reverse
theorem qkl{a:Int}{ts:List GTest}{t:GTest}:qe3 a (ts++[t])=if t.act=a then qe3 a ts else ts++[t]:=by
 unfold qe3;rw[List.reverse_append,List.reverse_singleton,List.singleton_append,List.dropWhile_cons]
 by_cases h:t.act=a<;>simp[h]
def qex:List GTest->Int->List GTest×Int
 | [],a=>([],a)
 | t::ts,a=>if t.mask=0 then ([],t.act) else (t::(qex ts a).1,(qex ts a).2)
def xv(r:GRule):GRule:=⟨r.nr,qe3 (qex r.tests r.act).2 (qex r.tests r.act).1,(qex r.tests r.act).2⟩
theorem qrY:∀(ts:List GTest) (a:Int),(xy (fun t=>decide (t.mask=0)) ts 0 = -1∧qex ts a=(ts,a))∨∃(i:Nat) (t:GTest),xy (fun t=>decide (t.mask=0)) ts 0=(i:Int)∧ts[i]?=some t∧qex ts a=(ts.take i,t.act):=by
 have main:∀(ts:List GTest) (a:Int) (j:Nat),(xy (fun t=>decide (t.mask=0)) ts j = -1∧qex ts a=(ts,a))∨∃(i:Nat) (t:GTest),xy (fun t=>decide (t.mask=0)) ts j=((j+i:Nat):Int)∧ts[i]?=some t∧qex ts a=(ts.take i,t.act):=by
  intro ts
  induction ts with
  | nil=>intro a j;exact .inl ⟨rfl,rfl⟩
  | cons t ts ih =>
   intro a j
   by_cases h:t.mask=0
   ·exact .inr ⟨0,t,by simp[xy,h],rfl,by simp[qex,h]⟩
   ·rcases ih a (j+1) with⟨e1,e2⟩|⟨i,x,e1,e2,e3⟩
    ·exact .inl ⟨by simp[xy,h,e1],by simp[qex,h,e2]⟩
    ·exact .inr ⟨i+1,x,by simp[xy,h,e1];omega,by simpa using e2,by simp[qex,h,e3]⟩
 intro ts a;rcases main ts a 0 with h|⟨i,t,h1,h2,h3⟩
 ·exact .inl h
 ·exact .inr ⟨i,t,by rw[h1];simp,h2,h3⟩
theorem qw4{h:Hp}{esz n c:Nat}{q:IntKind}{cs:List AV}{k:AV->Prop}(h2:c<=n)(h3:c*esz<=cs.length):slK esz none (some (.i q (c:Int))) none (.fz n cs) h k↔evA (.fz c (cs.take (c*esz))) k:=by
 simp only[slK,qoy,qiZ];show (ifK (c<=n) _)↔_;simp only[ifK,h2,true_and,Option.isSome_none,Bool.false_and,Bool.false_eq_true,if_false];show (0*esz<=cs.length∧(c-0)*esz<=(cs.drop (0*esz)).length∧_)↔_;simp only[Nat.zero_mul,Nat.zero_le,Nat.sub_zero,List.drop_zero,h3,true_and];exact Iff.rfl
theorem qpi{l:List GTest}{k:Nat}:(rT l).take (k*4)=rT (l.take k):=qfW qcE l k
def qck(a b c:Nat):ICode:=.seq (.seq (.r [.f 25 1 1,.d 26 25,.e 27 26,.n 4 27]) (.blk 0 (.loop (.seq (.seq (.reg true [.n 28 4,.w 29 .gtr 28 0,.n 30 29,.h 31 1 1 30 true,.j 32 31 30 true,.y 33 4 30,.g 34 (.bin .sub (.t 33) (.k 1)) 30 true,.g 35 (.iAddrS 4 (.t 32) (.t 34)) 30 true,.h 36 3 35 30 true,.j 37 36 30 true,.h 38 2 1 30 true,.j 39 38 30 true,.g 40 (.bin .eql (.t 37) (.t 39)) 30 true,.p 41 30 40]) (.cond (.t 41) (.skip) (.exit 0))) (.seq (.blk 1 (.r [.f 44 1 1,.d 45 44,.n 46 4,.w 47 .sub 46 1,.q 48 (.slcS 4 (.t 45) none (some (.t 47)) none),.f 49 1 1,.u (.store 1 (.t 49) (.t 48))])) (.r [.n 42 4,.w 43 .sub 42 1,.n 4 43])))))) (.seq (.r [.v 50 3 1,.u (.store 3 (.t 2) (.t 50))]) (.ret))
def qhB(a b c:Nat):IFn:=⟨[.cell 2 3 true],.seq (.r [.q 1 (.box (.t 0)),.q 2 (.alloc [.i .u32 0,.nils,.i .u32 0])]) (.seq (.r [.v 5 3 1,.l 6 a [.t 5],.u (.store 3 (.t 1) (.t 6))]) (.seq (.seq (.r [.f 7 1 1,.d 8 7,.l 9 b [.t 8,(.c (.fn c [] []))],.n 3 9]) (.seq (.r [.n 10 3,.w 11 .geq 10 0]) (.cond (.t 11) (.seq (.r [.f 12 1 1,.d 13 12,.n 14 3,.i 15 4 13 14,.f 16 3 15,.d 17 16,.f 18 2 1,.u (.store 1 (.t 18) (.t 17))]) (.r [.f 19 1 1,.d 20 19,.n 21 3,.n 22 3,.q 23 (.slcS 4 (.t 20) none (some (.t 21)) (some (.t 22))),.f 24 1 1,.u (.store 1 (.t 24) (.t 23))])) (.skip)))) (.cut (qck a b c))))⟩
theorem qii{n0 g1 g2 g3 s:Nat}{tr:Tr Blk}{t:Tr AV}(nr a:Int)(ts:List GTest)(V:AV)(hV:V = .fz ts.length (rT ts)∨V = .e0∧ts=[])(hl:ts.length<=100000)(h0:tr.get 0=some (.cells 0 true false [.i .u32 nr,V,.i .u32 a]))(h1:∃x y z,tr.get 1=some (.cells 0 true false [x,y,z]))(ht:Has t [(1,.ptr 0 0),(2,.ptr 1 0)]) :
  S P n0 (qck g1 g2 g3) (qac [.cell 2 3 true] fun v' h'=>Frz h' v' (.agg (qM ⟨nr,qe3 a ts,a⟩))) t ⟨s,0,tr⟩:=by
 refine S.has _ ht (qj ?_);simp only[qck,vI,simprocAttr];have hlen:∀k:AV->Prop,k (.i .i64 (ts.length:Int))->True:=fun _ _=>trivial
 have loop:∀tt,Has tt [(1,.ptr 0 0),(2,.ptr 1 0),(4,.i .i64 (ts.length:Int))]->∀(x:ICode) (Q:X->Tr AV->Hp->Prop),True:=fun _ _ _ _=>trivial
 rcases hV with rfl|⟨rfl,rfl⟩
 ·simp +decide only[↓vS,vT,simprocAttr,h0]
  refine SL.loopP (α:=List GTest) (fun u=>[(1,.ptr 0 0),(2,.ptr 1 0),(4,.i .i64 (u.length:Int))])
   (fun u h=>u.length<=ts.length∧qe3 a u=qe3 a ts∧∃tr',h=⟨s,0,tr'⟩∧tr'.get 0=some (.cells 0 true false [.i .u32 nr,.fz u.length (rT u),.i .u32 a])∧∃x y z,tr'.get 1=some (.cells 0 true false [x,y,z])) (fun u=>u.length) ?_ ts ?_ ?_
  ·rintro u h1 ⟨hu,he,tr',rfl,g0,x,y,z,g1⟩ G ih;simp only[vI,simprocAttr];rcases List.eq_nil_or_concat u with rfl|⟨u0,t0,rfl⟩
   ·have hz:¬(0:Int)<(([]:List GTest).length:Int):=by simp
    simp +decide only[↓vS,vT,simprocAttr];refine zD ?_;simp +decide only[↓vS,vT,simprocAttr,hz,g0,g1];have e0:qe3 a ts=[]:=by rw[← he];rfl
    simp[vZ,vP,Tr.get_set,qM,e0,rT]
   ·rw[List.concat_eq_append] at hu he g0 ih ⊢;have hul:(u0++[t0]).length=u0.length+1:=by simp
    have hget:(u0++[t0])[u0.length]?=some t0:=by simp
    rw[hul] at hu g0 ⊢;have hz:(0:Int)<((u0.length+1:Nat):Int):=by omega
    have e1:IntKind.wrap .i64 (((u0.length+1:Nat):Int)-1)=(u0.length:Int):=by rw[qq (by omega) (by omega)];omega
    have hg3:(rT (u0++[t0]))[u0.length*4+3]?=some (.i .u32 t0.act):=qt2 hget (by omega);have hlt:u0.length<u0.length+1:=by omega
    rw[qkl] at he;simp +decide only[↓vS,vT,simprocAttr];refine zD ?_
    by_cases ha:t0.act=a
    ·rw[if_pos ha] at he;have k1:u0.length<=u0.length+1:=by omega
     have k2:u0.length*4<=(rT (u0++[t0])).length:=by rw[qik,hul];omega
     have k3:(rT (u0++[t0])).take (u0.length*4)=rT u0:=by rw[qpi];simp
     simp +decide only[↓vS,vT,simprocAttr,hz,g0,e1,hlt,hg3,eq_true ha,↓qw4 k1 k2,k3];refine ih u0 _ _ (by simp) (by simp[qf,qi,Tr.get_set]) ⟨by omega,he,_,rfl,by rw[Tr.get_set,if_pos rfl],x,y,z,by rw[Tr.get_set,if_neg (by decide)];exact g1⟩
    ·rw[if_neg ha] at he;simp +decide only[↓vS,vT,simprocAttr,hz,g0,g1,e1,hlt,hg3,ha];simp[vZ,vP,Tr.get_set,qM,← he,zp jv]
  ·simp[qf,qi,Tr.get_set]
  ·exact⟨Nat.le_refl _,rfl,tr,rfl,h0,h1⟩
 ·simp +decide only[↓vS,vT,simprocAttr,h0];refine SL.loopP (α:=Unit) (fun u=>[(1,.ptr 0 0),(2,.ptr 1 0),(4,.i .i64 0)]) (fun u h=>h=⟨s,0,tr⟩) (fun u=>0) ?_ () ?_ rfl
  ·rintro u h2 rfl G ih;obtain⟨x,y,z,g1⟩:=h1;simp only[vI,simprocAttr];simp +decide only[↓vS,vT,simprocAttr];refine zD ?_;simp +decide only[↓vS,vT,simprocAttr,h0,g1];simp[vZ,vP,Tr.get_set,qM,qe3,rT]
  ·simp[qf,qi,Tr.get_set]
theorem qxR{g1 g2 g3:Nat}(hc:qc P f (qhB g1 g2 g3)=true)(h1:∀r:GRule,r.tests.length<=100000->qd P g1 [.agg (qM r)] (.agg (qM r)))(h2:qgH 4 P g2)(h3:∀t:GTest,qd P g3 [.agg (zQ t)] (.b (decide (t.mask=0))))(r:GRule)(hl:r.tests.length<=100000) :
  qd P f [.agg (qM r)] (.agg (qM (xv r))):=by
 have e1:=h1 r hl;have e2:=h2 zQ (fun t=>decide (t.mask=0)) g3 [] [] r.tests qcE rfl rfl (by simp only[qg];omega) fun t _=>by simpa using h3 t
 simp only[show r.tests.flatMap zQ=rT r.tests from rfl] at e2
 refine qd.mk hc (by simp[qu,clo,qM,jv]) ?_;simp only[qhB,qM,vI,simprocAttr];simp only[qM] at e1;simp +decide only[↓vS,vT,simprocAttr];refine e1.sc ?_;simp +decide only[↓vS,vT,simprocAttr];refine e2.sc ?_;unfold xv;rcases qrY r.tests r.act with⟨q1,q2⟩|⟨i,t,q1,q2,q3⟩
 ·rw[q1,q2];simp +decide only[↓vS,vT,simprocAttr];refine qii r.nr r.act r.tests _ (.inl rfl) hl ?_ ?_ ?_
  ·simp[Tr.get_set]
  ·exact⟨_,_,_,by simp[Tr.get_set];exact⟨rfl,rfl,rfl⟩⟩
  ·simp[qf,qi,Tr.get_set]
 ·rw[q1,q3];have hi:i<r.tests.length:=(zzS.1 q2).1;have n0:(0:Int)<=(i:Int):=by omega
  have g3':(rT r.tests)[i*4+3]?=some (.i .u32 t.act):=qt2 q2 (by omega);have k2:i<=r.tests.length:=by omega
  have k3:i*4<=(rT r.tests).length:=by rw[qik];omega
  have hlen:(r.tests.take i).length=i:=by simp;omega
  rcases Nat.eq_zero_or_pos i with hz|hz
  ·have es:∀(h:Hp) (k:AV->Prop),slK 4 none (some (.i .i64 (i:Int))) (some (.i .i64 (i:Int))) (.fz r.tests.length (rT r.tests)) h k↔evA .e0 k:=fun h k=>by
    rw[hz];simp only[slK,qi2,qiZ];show (ifK (0<=r.tests.length) (ifK (0<=0) _))↔_;simp only[ifK,Nat.zero_le,true_and,Option.isSome_some];exact Iff.rfl
   have htk:r.tests.take i=[]:=by rw[hz];rfl
   rw[htk];simp +decide only[↓vS,vT,simprocAttr,n0,hi,g3',↓es];refine qii r.nr t.act [] .e0 (.inr ⟨rfl,rfl⟩) (by simp) ?_ ?_ ?_
   ·simp[Tr.get_set]
   ·exact⟨_,_,_,by simp[Tr.get_set];exact⟨rfl,rfl,rfl⟩⟩
   ·simp[qf,qi,Tr.get_set]
  ·simp +decide only[↓vS,vT,simprocAttr,n0,hi,g3',↓qpo hz k2 k3,qpi];refine qii r.nr t.act (r.tests.take i) _ (.inl (by rw[hlen])) (by omega) ?_ ?_ ?_
   ·simp[Tr.get_set]
   ·exact⟨_,_,_,by simp[Tr.get_set];exact⟨rfl,rfl,rfl⟩⟩
   ·simp[qf,qi,Tr.get_set]
def qbd(d:Int)(r:GRule):Bool:=decide (0<r.tests.length)||decide (r.act≠d)
def jz(x:GFil):GFil:=⟨x.arch,(x.rules.map xv).filter (qbd x.dflt),x.dflt⟩
noncomputable def qpD(x:GFil):AV:=if xC x=true then .tup [.agg (qS (jz x)),.i .i64 0] else .tup [.agg [.i .i64 0,.fz 0 [],.i .u32 0],.i .i64 210]
def qeD(a b:Nat):IFn:=⟨[.cell 2 3 true,.tmp 3],.seq (.r [.q 1 (.box (.t 0)),.q 2 (.alloc [.i .i64 0,.nils,.i .u32 0]),.m 3 (.k 0)]) (.seq (.seq (.r [.v 7 3 1,.l 8 a [.t 7],.q 9 (.un .not (.t 8))]) (.cond (.t 9) (.seq (.r [.q 10 (.build [.i .i64 0,.nils,.i .u32 0] []),.u (.store 3 (.t 2) (.t 10)),.m 3 (.k 210)]) (.ret)) (.skip))) (.seq (.r [.f 11 0 1,.d 12 11,.f 13 2 1,.d 14 13,.q 15 (.build [.i .i64 0,.nils,.i .u32 0] [(0,1,(.t 12)),(2,1,(.t 14))]),.q 4 (.alloc [.i .i64 0,.nils,.i .u32 0]),.u (.store 3 (.t 4) (.t 15))]) (.seq (.seq (.r [.f 16 1 1,.d 17 16,.e 18 17,.m 19 (.k 0)]) (.blk 0 (.loop (.seq (.r [.s 20 19 18]) (.seq (.cond (.t 20) (.skip) (.exit 0)) (.seq (.blk 1 (.seq (.r [.i 21 3 17 19,.v 22 3 21,.q 6 (.alloc [.i .u32 0,.nils,.i .u32 0]),.u (.store 3 (.t 6) (.t 22))]) (.seq (.r [.v 23 3 6,.l 24 b [.t 23],.u (.store 3 (.t 6) (.t 24))]) (.seq (.r [.f 25 1 6,.d 26 25,.e 27 26,.w 28 .gtr 27 0,.n 29 28,.h 30 2 6 29 false,.j 31 30 29 false,.h 32 2 1 29 false,.j 33 32 29 false,.g 34 (.bin .neq (.t 31) (.t 33)) 29 false,.o 35 29 34]) (.cond (.t 35) (.r [.f 36 1 4,.d 37 36,.v 38 3 6,.q 39 (.buildS 1 [.i .u32 0,.nils,.i .u32 0] [(0,3,(.t 38))]),.q 40 (.app 3 40 true (.t 37) (.t 39)),.f 41 1 4,.u (.store 1 (.t 41) (.t 40))]) (.skip)))))) (.r [.a 42 19 1,.n 19 42]))))))) (.seq (.r [.v 43 3 4,.u (.store 3 (.t 2) (.t 43)),.m 3 (.k 0)]) (.ret)))))⟩
theorem qmf{g1 g2:Nat}(hc:qc P f (qeD g1 g2)=true)(x:GFil)(h1:qd P g1 [.agg (qS x)] (.b (xC x)))(h2:∀r:GRule,r.tests.length<=100000->qd P g2 [.agg (qM r)] (.agg (qM (xv r))))(hl:x.rules.length<=100000)(ht:∀r ∈ x.rules,r.tests.length<=100000) :
  qd P f [.agg (qS x)] (qpD x):=by
 refine qd.mk hc (by simp[qu,clo,qS,zS]) ?_;simp only[qeD,qS,vI,simprocAttr];simp only[qS] at h1;simp +decide only[↓vS,vT,simprocAttr];refine h1.sc ?_;unfold qpD;cases hK:xC x with
 | false =>
  simp +decide only[↓vS,vT,simprocAttr];simp[vZ,vP,Tr.get_set]
 | true =>
  simp +decide only[↓vS,vT,simprocAttr]
  refine SL.loopP (α:=Nat×Nat) (fun i=>[(1,.ptr 0 0),(2,.ptr 1 0),(4,.ptr 2 0),(17,.fz x.rules.length (rR x.rules)),(18,.i .i64 (x.rules.length:Int)),(19,.i .i64 (i.1:Int))])
   (fun i h=>i.1<=x.rules.length∧∃s tr,h=⟨s,0,tr⟩∧3<=s∧tr.get 0=some (.cells 0 true false [.i .i64 x.arch,.fz x.rules.length (rR x.rules),.i .u32 x.dflt])∧(∃a b c,tr.get 1=some (.cells 0 true false [a,b,c])) ∧
    tr.get 2=some (.cells 0 true false [.i .i64 x.arch,qco (((x.rules.take i.1).map xv).filter (qbd x.dflt)).length i.2,.i .u32 x.dflt])∧((((x.rules.take i.1).map xv).filter (qbd x.dflt)).length≠0->tr.get i.2=some (.cells 3 true true (rR (((x.rules.take i.1).map xv).filter (qbd x.dflt))))∧3<=i.2∧i.2<s)) (fun i=>x.rules.length-i.1) ?_ (0,0) ?_ ?_
  ·rintro⟨i,bo⟩ h ⟨hi,s,tr,rfl,hs,t0,⟨a,b,c,t1⟩,t2,to⟩ G ih;simp only at hi t2 to;simp only[vI,simprocAttr];obtain⟨A,hA⟩:∃A,A=((x.rules.take i).map xv).filter (qbd x.dflt):=⟨_,rfl⟩;rw[← hA] at t2 to
   have hAl:A.length<=i:=by
    rw[hA];exact Nat.le_trans (List.length_filter_le _ _) (by simp;omega)
   by_cases hlt:i<x.rules.length
   ·have hlt':(i:Int)<x.rules.length:=by omega
    obtain⟨r,hr⟩:∃r,x.rules[i]?=some r:=⟨_,zzE hlt⟩;have hel:=qjj hr;have h3:i*3+3<=(rR x.rules).length:=by rw[qj1];omega
    have hw1:IntKind.wrap .i64 ((i:Int)+1)=((i+1:Nat):Int):=by rw[qq (by omega) (by omega)];simp
    have hn:=h2 r (ht r (zzM hr))
    have hA2:((x.rules.take (i+1)).map xv).filter (qbd x.dflt)=A++if qbd x.dflt (xv r)=true then [xv r] else []:=by
     rw[qaG hr,List.map_append,List.filter_append,← hA]
     by_cases hk:qbd x.dflt (xv r)=true<;>simp[hk]
    obtain⟨q,hq⟩:∃q,q=xv r:=⟨_,rfl⟩;rw[← hq] at hn hA2;simp only[qM] at hn;have n0:¬0=s:=by omega
    have n1:¬1=s:=by omega
    have n2:¬2=s:=by omega
    have n3:¬s=s+1:=by omega
    have n4:¬2=s+1:=by omega
    have n5:¬2=s+1+1:=by omega
    have n6:¬s=2:=by omega
    simp +decide only[↓vS,vT,simprocAttr,hlt',hlt,h3,hel,qM,n0,n1,n2,n3];refine hn.sc ?_
    have e0:∀(tf:Tr Blk),(∀c,c<s->c≠2->c≠bo->tf.get c=tr.get c)->bo≠0∧bo≠1∨A.length=0->(A.length=0->∀c,c<s->c≠2->tf.get c=tr.get c)->tf.get 0=some (.cells 0 true false [.i .i64 x.arch,.fz x.rules.length (rR x.rules),.i .u32 x.dflt])∧∃a b c,tf.get 1=some (.cells 0 true false [a,b,c]):=fun tf q1 q2 q3=>by
     by_cases hz:A.length=0
     ·exact⟨(q3 hz 0 (by omega) (by decide)).trans t0,a,b,c,(q3 hz 1 (by omega) (by decide)).trans t1⟩
     ·have:=q2.resolve_right hz;exact⟨(q1 0 (by omega) (by decide) (Ne.symm this.1)).trans t0,a,b,c,(q1 1 (by omega) (by decide) (Ne.symm this.2)).trans t1⟩
    by_cases hk:qbd x.dflt q=true
    ·rw[if_pos hk] at hA2;have app:∀k:Prop,(∀(u:IntKind),True)->k->k:=fun _ _ h=>h
     have hcond:(0:Int)<(q.tests.length:Int)∨¬(0:Int)<(q.tests.length:Int)∧¬q.act=x.dflt:=by
      simp only[qbd,Bool.or_eq_true,decide_eq_true_eq] at hk;rcases Nat.eq_zero_or_pos q.tests.length with h|h
      ·exact .inr ⟨by omega,by rcases hk with hk|hk;omega;exact hk⟩
      ·exact .inl (by omega)
     by_cases hz:A.length=0
     ·have hV:qco A.length bo = .nils:=by simp[qco,hz]
      have hAn:A=[]:=List.eq_nil_of_length_eq_zero hz;rw[hV] at t2
      have fin:∀tf tt,(∀c,c<s->c≠2->tf.get c=tr.get c)->tf.get 2=some (.cells 0 true false [.i .i64 x.arch,.own (s+1+1) 1,.i .u32 x.dflt])->tf.get (s+1+1)=some (.cells 3 true true [.i .u32 q.nr,.fz q.tests.length (rT q.tests),.i .u32 q.act])->Has tt [(1,.ptr 0 0),(2,.ptr 1 0),(4,.ptr 2 0),(17,.fz x.rules.length (rR x.rules)),(18,.i .i64 (x.rules.length:Int)),(19,.i .i64 ((i+1:Nat):Int))]->G tt ⟨s+1+1+1,0,tf⟩:=fun tf tt q1 q2 q3 q4=>by
       refine ih (i+1,s+1+1) _ _ (by simp only;omega) q4 ⟨by simp only;omega,_,tf,rfl,by omega,(q1 0 (by omega) (by decide)).trans t0,⟨a,b,c,(q1 1 (by omega) (by decide)).trans t1⟩,?_,fun _=>⟨?_,by simp only;omega,by simp only;omega⟩⟩
       ·simp only[hA2,hAn];rw[q2];rfl
       ·simp only[hA2,hAn];rw[q3];simp[rR,qM]
      rcases hcond with hc1|⟨hc1,hc2⟩
      ·simp +decide only[↓vS,vT,simprocAttr,hc1,t2,n0,n1,n2,n3,n4,n5,n6,hw1];refine fin _ _ (fun c c1 c2=>?_) (by rw[Tr.get_set,if_pos rfl]) ?_ (by simp[qf,qi,Tr.get_set])
       ·simp only[Tr.get_set];repeat rw[if_neg (by omega)]
       ·simp only[Tr.get_set];rw[if_neg (by omega)];simp
      ·simp +decide only[↓vS,vT,simprocAttr,hc1,hc2,t0,t2,n0,n1,n2,n3,n4,n5,n6,hw1];refine fin _ _ (fun c c1 c2=>?_) (by rw[Tr.get_set,if_pos rfl]) ?_ (by simp[qf,qi,Tr.get_set])
       ·simp only[Tr.get_set];repeat rw[if_neg (by omega)]
       ·simp only[Tr.get_set];rw[if_neg (by omega)];simp
     ·obtain⟨o1,o2,o3⟩:=to hz;have hV:qco A.length bo = .own bo A.length:=by simp[qco,hz]
      rw[hV] at t2;have m1:¬bo=s:=by omega
      have m2:¬bo=s+1:=by omega
      have m3:¬s+1=bo:=by omega
      have m4:¬2=bo:=by omega
      have rr1:A.length+1<=qg:=by simp only[qg];omega
      have rr2:(A.length+1)*40<=qg:=by simp only[qg];omega
      have hrl:(rR A).length=A.length*3:=qj1
      have fin:∀tf tt,(∀c,c<s->c≠2->c≠bo->tf.get c=tr.get c)->tf.get 2=some (.cells 0 true false [.i .i64 x.arch,.own (s+1+1) (A.length+1),.i .u32 x.dflt])->tf.get (s+1+1)=some (.cells 3 true true (rR A++[.i .u32 q.nr,.fz q.tests.length (rT q.tests),.i .u32 q.act]))->Has tt [(1,.ptr 0 0),(2,.ptr 1 0),(4,.ptr 2 0),(17,.fz x.rules.length (rR x.rules)),(18,.i .i64 (x.rules.length:Int)),(19,.i .i64 ((i+1:Nat):Int))]->G tt ⟨s+1+1+1,0,tf⟩:=fun tf tt q1 q2 q3 q4=>by
       refine ih (i+1,s+1+1) _ _ (by simp only;omega) q4 ⟨by simp only;omega,_,tf,rfl,by omega,(q1 0 (by omega) (by decide) (by omega)).trans t0,⟨a,b,c,(q1 1 (by omega) (by decide) (by omega)).trans t1⟩,?_,fun _=>⟨?_,by simp only;omega,by simp only;omega⟩⟩
       ·simp only[hA2];rw[q2];simp[qco]
       ·simp only[hA2];rw[q3,← qAF];simp[rR,qM]
      rcases hcond with hc1|⟨hc1,hc2⟩
      ·simp +decide only[↓vS,vT,simprocAttr,hc1,t2,o1,m1,m2,m3,m4,rr1,rr2,hrl,n0,n1,n2,n3,n4,n5,n6,hw1];refine fin _ _ (fun c c1 c2 c3=>?_) (by rw[Tr.get_set,if_pos rfl]) ?_ (by simp[qf,qi,Tr.get_set])
       ·simp only[Tr.get_set];repeat rw[if_neg (by omega)]
       ·simp only[Tr.get_set];rw[if_neg (by omega)];simp
      ·simp +decide only[↓vS,vT,simprocAttr,hc1,hc2,t0,t2,o1,m1,m2,m3,m4,rr1,rr2,hrl,n0,n1,n2,n3,n4,n5,n6,hw1];refine fin _ _ (fun c c1 c2 c3=>?_) (by rw[Tr.get_set,if_pos rfl]) ?_ (by simp[qf,qi,Tr.get_set])
       ·simp only[Tr.get_set];repeat rw[if_neg (by omega)]
       ·simp only[Tr.get_set];rw[if_neg (by omega)];simp
    ·rw[if_neg hk,List.append_nil] at hA2;have hc1:¬(0:Int)<(q.tests.length:Int):=fun h=>hk (by simp only[qbd,Bool.or_eq_true,decide_eq_true_eq];left;omega)
     have hc2:q.act=x.dflt:=by
      rcases Classical.em (q.act=x.dflt) with h|h
      ·exact h
      ·exact absurd (by simp[qbd,h]) hk
     simp +decide only[↓vS,vT,simprocAttr,hc1,eq_true hc2,t0,n0,n1,n2,n3,hw1];refine ih (i+1,bo) _ _ (by simp only;omega) (by simp[qf,qi,Tr.get_set]) ⟨by simp only;omega,s+1,_,rfl,by omega,?_,⟨a,b,c,?_⟩,?_,fun hz=>?_⟩
     ·simp only[Tr.get_set];repeat rw[if_neg (by omega)]
      exact t0
     ·simp only[Tr.get_set];repeat rw[if_neg (by omega)]
      exact t1
     ·simp only[hA2,Tr.get_set];repeat rw[if_neg (by omega)]
      exact t2
     ·simp only[hA2] at hz ⊢;obtain⟨o1,o2,o3⟩:=to hz;refine⟨?_,o2,by omega⟩
      simp only[Tr.get_set];repeat rw[if_neg (by omega)]
      exact o1
   ·obtain rfl:i=x.rules.length:=by omega
    have hlt':¬((x.rules.length:Int)<x.rules.length):=by omega
    rw[List.take_length] at hA;have hnF:(jz x).rules=A:=hA.symm
    by_cases hz:A.length=0
    ·have hV:qco A.length bo = .nils:=by simp[qco,hz]
     have hAn:A=[]:=List.eq_nil_of_length_eq_zero hz;rw[hV] at t2;simp +decide only[↓vS,vT,simprocAttr,hlt',t2,t1];simp only[qS,hnF,hAn];simp[vZ,vP,Tr.get_set,rR,jz]
    ·obtain⟨o1,o2,o3⟩:=to hz;have hV:qco A.length bo = .own bo A.length:=by simp[qco,hz]
     have m1:¬bo=1:=by omega
     rw[hV] at t2;simp +decide only[↓vS,vT,simprocAttr,hlt',t2,t1];simp only[qS,hnF];have hA0:¬A=[]:=fun h=>hz (by rw[h];rfl)
     simp[vZ,vP,Tr.get_set,o1,m1,zp zS,hA0,jz]
  ·simp[qf,qi,Tr.get_set]
  ·refine⟨Nat.zero_le _,_,_,rfl,by omega,?_,⟨.i .i64 0,.nils,.i .u32 0,?_⟩,?_,fun h=>absurd rfl h⟩
   ·simp[Tr.get_set]
   ·simp[Tr.get_set]
   ·simp[Tr.get_set,qco]
def WkB(fl:List AV)(ar row prg:AV):Blk:=.cells 0 true false (fl++[ar,row,prg])
section
variable {b s:Nat} {tr:Tr Blk} {k:AV->Hp->Prop} {x:GFil} {ar row prg:AV}
def zK(a:Nat):IFn:=⟨[.tmp 2],.seq (.r [.m 2 (.k 0)]) (.seq (.r [.n 4 0,.n 5 0,.q 6 (.nilChk (.t 5)),.f 7 0 6,.v 8 3 7,.l 9 a [.t 8],.n 3 9,.x 10 3 0,.x 11 3 1,.q 12 (.nilChk (.t 4)),.f 13 4 12,.u (.store 1 (.t 13) (.t 10)),.n 2 11]) (.seq (.r [.n 14 2,.n 2 14]) (.ret)))⟩
theorem qkr{g:Nat}(hc:qc P f (zK g)=true)(fl:List AV)(hfl:fl.length=3)(h:tr.get b=some (WkB fl ar row prg))(r:AV)(e:Int)(hr:zg r=true∧qcg r=true∧cellsOf r=[r])(hg:qd P g [.agg fl] (.tup [r,.i .i64 e]))
  (hk:∀tr',(∀c,c≠b->tr'.get c=tr.get c)->tr'.get b=some (WkB fl ar r prg)->k (.i .i64 e) ⟨s,0,tr'⟩):SC P f [.ptr b 0] ⟨s,0,tr⟩ k:=by
 obtain⟨a1,a2,a3,rfl⟩:∃a1 a2 a3,fl=[a1,a2,a3]:=by
  match fl,hfl with
  | [a1,a2,a3],_=>exact⟨a1,a2,a3,rfl⟩
 obtain⟨r1,r2,r3⟩:=hr;simp only[WkB,List.cons_append,List.nil_append] at h hk;refine SC.mk hc (qj ?_);simp only[zK,vI,simprocAttr];simp +decide only[↓vS,vT,simprocAttr,h];refine hg.sc ?_;simp +decide only[↓vS,vT,simprocAttr,h,r1,r2,r3];refine hk _ (fun c hc=>?_) ?_
 ·rw[Tr.get_set,if_neg hc]
 ·rw[Tr.get_set,if_pos rfl]
def zR(a:Nat):IFn:=⟨[.tmp 2],.seq (.r [.m 2 (.k 0)]) (.seq (.r [.n 4 0,.n 5 0,.q 6 (.nilChk (.t 5)),.f 7 0 6,.v 8 3 7,.l 9 a [.t 8],.n 3 9,.x 10 3 0,.x 11 3 1,.q 12 (.nilChk (.t 4)),.f 13 0 12,.u (.store 3 (.t 13) (.t 10)),.n 2 11]) (.seq (.r [.n 14 2,.n 2 14]) (.ret)))⟩
theorem qks{g:Nat}(hc:qc P f (zR g)=true)(fl:List AV)(hfl:fl.length=3)(h:tr.get b=some (WkB fl ar row prg))(fl2:List AV)(hf2:fl2.length=3)(e:Int)(hr:qE fl2=true)(hg:qd P g [.agg fl] (.tup [.agg fl2,.i .i64 e]))
  (hk:∀tr',(∀c,c≠b->tr'.get c=tr.get c)->tr'.get b=some (WkB fl2 ar row prg)->k (.i .i64 e) ⟨s,0,tr'⟩):SC P f [.ptr b 0] ⟨s,0,tr⟩ k:=by
 obtain⟨a1,a2,a3,rfl⟩:∃a1 a2 a3,fl=[a1,a2,a3]:=by
  match fl,hfl with
  | [a1,a2,a3],_=>exact⟨a1,a2,a3,rfl⟩
 obtain⟨c1,c2,c3,rfl⟩:∃a1 a2 a3,fl2=[a1,a2,a3]:=by
  match fl2,hf2 with
  | [a1,a2,a3],_=>exact⟨a1,a2,a3,rfl⟩
 simp only[WkB,List.cons_append,List.nil_append] at h hk;refine SC.mk hc (qj ?_);simp only[zR,vI,simprocAttr];simp +decide only[↓vS,vT,simprocAttr,h];refine hg.sc ?_;simp +decide only[↓vS,vT,simprocAttr,h,hr];refine hk _ (fun c hc=>?_) ?_
 ·rw[Tr.get_set,if_neg hc]
 ·rw[Tr.get_set,if_pos rfl]
def zB(a:Nat):IFn:=⟨[.tmp 2],.seq (.r [.m 2 (.k 0)]) (.seq (.r [.n 4 0,.n 5 0,.q 6 (.nilChk (.t 5)),.f 7 3 6,.d 8 7,.l 9 a [.t 8],.n 3 9,.x 10 3 0,.x 11 3 1,.q 12 (.nilChk (.t 4)),.f 13 4 12,.u (.store 1 (.t 13) (.t 10)),.n 2 11]) (.seq (.r [.n 14 2,.n 2 14]) (.ret)))⟩
theorem qf7{g:Nat}(hc:qc P f (zB g)=true)(fl:List AV)(hfl:fl.length=3)(h:tr.get b=some (WkB fl ar row prg))(r:AV)(e:Int)(hr:zg r=true∧qcg r=true∧cellsOf r=[r])(hg:qd P g [ar] (.tup [r,.i .i64 e]))
  (hk:∀tr',(∀c,c≠b->tr'.get c=tr.get c)->tr'.get b=some (WkB fl ar r prg)->k (.i .i64 e) ⟨s,0,tr'⟩):SC P f [.ptr b 0] ⟨s,0,tr⟩ k:=by
 obtain⟨a1,a2,a3,rfl⟩:∃a1 a2 a3,fl=[a1,a2,a3]:=by
  match fl,hfl with
  | [a1,a2,a3],_=>exact⟨a1,a2,a3,rfl⟩
 obtain⟨r1,r2,r3⟩:=hr;simp only[WkB,List.cons_append,List.nil_append] at h hk;refine SC.mk hc (qj ?_);simp only[zB,vI,simprocAttr];simp +decide only[↓vS,vT,simprocAttr,h];refine hg.sc ?_;simp +decide only[↓vS,vT,simprocAttr,h,r1,r2,r3];refine hk _ (fun c hc=>?_) ?_
 ·rw[Tr.get_set,if_neg hc]
 ·rw[Tr.get_set,if_pos rfl]
def qV(a:Nat):IFn:=⟨[.tmp 2],.seq (.r [.m 2 (.k 0)]) (.seq (.r [.n 4 0,.n 5 0,.q 6 (.nilChk (.t 5)),.f 7 4 6,.d 8 7,.l 9 a [.t 8],.n 3 9,.x 10 3 0,.x 11 3 1,.q 12 (.nilChk (.t 4)),.f 13 4 12,.u (.store 1 (.t 13) (.t 10)),.n 2 11]) (.seq (.r [.n 14 2,.n 2 14]) (.ret)))⟩
theorem qkq{g:Nat}(hc:qc P f (qV g)=true)(fl:List AV)(hfl:fl.length=3)(h:tr.get b=some (WkB fl ar row prg))(r:AV)(e:Int)(hr:zg r=true∧qcg r=true∧cellsOf r=[r])(hg:qd P g [row] (.tup [r,.i .i64 e]))
  (hk:∀tr',(∀c,c≠b->tr'.get c=tr.get c)->tr'.get b=some (WkB fl ar r prg)->k (.i .i64 e) ⟨s,0,tr'⟩):SC P f [.ptr b 0] ⟨s,0,tr⟩ k:=by
 obtain⟨a1,a2,a3,rfl⟩:∃a1 a2 a3,fl=[a1,a2,a3]:=by
  match fl,hfl with
  | [a1,a2,a3],_=>exact⟨a1,a2,a3,rfl⟩
 obtain⟨r1,r2,r3⟩:=hr;simp only[WkB,List.cons_append,List.nil_append] at h hk;refine SC.mk hc (qj ?_);simp only[qV,vI,simprocAttr];simp +decide only[↓vS,vT,simprocAttr,h];refine hg.sc ?_;simp +decide only[↓vS,vT,simprocAttr,h,r1,r2,r3];refine hk _ (fun c hc=>?_) ?_
 ·rw[Tr.get_set,if_neg hc]
 ·rw[Tr.get_set,if_pos rfl]
def qF(a:Nat):IFn:=⟨[.tmp 2],.seq (.r [.m 2 (.k 0)]) (.seq (.r [.n 4 0,.n 5 0,.q 6 (.nilChk (.t 5)),.f 7 4 6,.d 8 7,.l 9 a [.t 8],.n 3 9,.x 10 3 0,.x 11 3 1,.q 12 (.nilChk (.t 4)),.f 13 5 12,.u (.store 1 (.t 13) (.t 10)),.n 2 11]) (.seq (.r [.n 14 2,.n 2 14]) (.ret)))⟩
theorem qeN{g:Nat}(hc:qc P f (qF g)=true)(fl:List AV)(hfl:fl.length=3)(h:tr.get b=some (WkB fl ar row prg))(r:AV)(e:Int)(hr:zg r=true∧qcg r=true∧cellsOf r=[r])(hg:qd P g [row] (.tup [r,.i .i64 e]))
  (hk:∀tr',(∀c,c≠b->tr'.get c=tr.get c)->tr'.get b=some (WkB fl ar row r)->k (.i .i64 e) ⟨s,0,tr'⟩):SC P f [.ptr b 0] ⟨s,0,tr⟩ k:=by
 obtain⟨a1,a2,a3,rfl⟩:∃a1 a2 a3,fl=[a1,a2,a3]:=by
  match fl,hfl with
  | [a1,a2,a3],_=>exact⟨a1,a2,a3,rfl⟩
 obtain⟨r1,r2,r3⟩:=hr;simp only[WkB,List.cons_append,List.nil_append] at h hk;refine SC.mk hc (qj ?_);simp only[qF,vI,simprocAttr];simp +decide only[↓vS,vT,simprocAttr,h];refine hg.sc ?_;simp +decide only[↓vS,vT,simprocAttr,h,r1,r2,r3];refine hk _ (fun c hc=>?_) ?_
 ·rw[Tr.get_set,if_neg hc]
 ·rw[Tr.get_set,if_pos rfl]
def qG:IFn:=⟨[.tmp 4,.tmp 5],.seq (.r [.m 4 .N,.m 5 (.k 0)]) (.seq (.seq (.r [.n 9 1,.e 10 9,.m 11 (.k 0)]) (.blk 0 (.loop (.seq (.r [.s 12 11 10]) (.seq (.cond (.t 12) (.skip) (.exit 0)) (.seq (.blk 1 (.seq (.r [.i 13 1 9 11,.d 14 13,.n 7 14]) (.seq (.r [.n 15 7,⟨(some 16),.callV (.t 15) [],none⟩,.n 8 16]) (.seq (.r [.n 17 8,.w 18 .neq 17 0]) (.cond (.t 18) (.seq (.r [.n 19 8,.m 4 .N,.n 5 19]) (.ret)) (.skip)))))) (.r [.a 20 11 1,.n 11 20]))))))) (.seq (.r [.n 21 0,.q 22 (.nilChk (.t 21)),.f 23 5 22,.d 24 23,.n 4 24,.m 5 (.k 0)]) (.ret)))⟩
theorem quC(hc:qc P f qG=true){bx e:Nat}{wf a:Bool}(gs:List Nat)(hx:tr.get bx=some (.cells e wf a (gs.map fun g=>.fn g [.ptr b 0] [])))(hbx:bx≠b)(J:Nat->AV->Blk->Prop)(n:Nat)(hn:gs.length=n)(hn9:n<=9)
  (B0:Blk) (h0:tr.get b=some B0) (hJ0:J 0 (.i .i64 0) B0)
  (step:∀(i:Nat) g B (s':Nat) (tr':Tr Blk) (k':AV->Hp->Prop),gs[i]?=some g->J i (.i .i64 0) B->tr'.get b=some B->(∀(v:Int) B' tr2,(∀c,c≠b->tr2.get c=tr'.get c)->tr2.get b=some B'->J (i+1) (.i .i64 v) B'->k' (.i .i64 v) ⟨s',0,tr2⟩)->SC P g [.ptr b 0] ⟨s',0,tr'⟩ k')
  (hbad:∀(i:Nat) (v:Int) B tr2,(∀c,c≠b->tr2.get c=tr.get c)->v≠0->J i (.i .i64 v) B->k (.tup [.nils,.i .i64 v]) ⟨s,0,tr2⟩)
  (hok:∀B tr2,(∀c,c≠b->tr2.get c=tr.get c)->J n (.i .i64 0) B->tr2.get b=some B->∃fl ar row prg,fl.length=3∧B=WkB fl ar row prg∧k (.tup [prg,.i .i64 0]) ⟨s,0,tr2⟩) :
  SC P f [.ptr b 0,.sl bx 0 n n false] ⟨s,0,tr⟩ k:=by
 refine SC.mk hc (qj ?_);simp only[qG,vI,simprocAttr];simp +decide only[↓vS,vT,simprocAttr]
 refine SL.loopP (α:=Nat) (fun i=>[(0,.ptr b 0),(9,.sl bx 0 n n false),(10,.i .i64 (n:Int)),(11,.i .i64 (i:Int))])
  (fun i h=>i<=n∧∃tr' B,h=⟨s,0,tr'⟩∧(∀c,c≠b->tr'.get c=tr.get c)∧tr'.get bx=some (.cells e wf a (gs.map fun g=>.fn g [.ptr b 0] []))∧tr'.get b=some B∧J i (.i .i64 0) B) (fun i=>n-i) ?_ 0 ?_ ?_
 ·rintro i h ⟨hi,tr',B,rfl,gf,gx,gb,hj⟩ G ih;simp only[vI,simprocAttr]
  by_cases hlt:i<n
  ·have hlt':(i:Int)<n:=by omega
   obtain⟨g,hg⟩:∃g,gs[i]?=some g:=⟨_,zzE (by omega)⟩;have hgm:(gs.map fun g=>AV.fn g [.ptr b 0] [])[i]?=some (.fn g [.ptr b 0] []):=by simp[hg]
   have hw1:IntKind.wrap .i64 ((i:Int)+1)=((i+1:Nat):Int):=by rw[qq (by omega) (by omega)];simp
   simp +decide only[↓vS,vT,simprocAttr,hlt',hlt,gx,hgm,Nat.mul_one];refine step i g B s tr' _ hg hj gb fun v B' tr2 q1 q2 q3=>?_
   by_cases hv:v=0
   ·subst hv;simp +decide only[↓vS,vT,simprocAttr,hw1];exact ih (i+1) _ _ (by omega) (by simp[qf,qi,Tr.get_set]) ⟨by omega,tr2,B',rfl,fun c hc=>(q1 c hc).trans (gf c hc),(q1 bx hbx).trans gx,q2,q3⟩
   ·simp +decide only[↓vS,vT,simprocAttr,hv];exact hbad (i+1) v B' tr2 (fun c hc=>(q1 c hc).trans (gf c hc)) hv q3
  ·obtain rfl:i=n:=by omega
   have hlt':¬((i:Int)<i):=by omega
   obtain⟨fl,ar,row,prg,hfl,hB,hk⟩:=hok B tr' gf hj gb
   obtain⟨a1,a2,a3,rfl⟩:∃a1 a2 a3,fl=[a1,a2,a3]:=by
    match fl,hfl with
    | [a1,a2,a3],_=>exact⟨a1,a2,a3,rfl⟩
   rw[hB] at gb;simp only[WkB,List.cons_append,List.nil_append] at gb;simp +decide only[↓vS,vT,simprocAttr,hlt',gb];exact hk
 ·simp[qf,qi,Tr.get_set]
 ·exact⟨Nat.zero_le _,tr,B0,rfl,fun _ _=>rfl,hx,h0,hJ0⟩
theorem qfN(hc:qc P f qG=true){bx e:Nat}{wf a:Bool}(gs:List Nat)(hx:tr.get bx=some (.cells e wf a (gs.map fun g=>.fn g [.ptr b 0] [])))(hbx:bx≠b)(Bs:Nat->Blk)(vs:Nat->Int)(n:Nat)(hn:gs.length=n)(hn9:n<=9)(h0:tr.get b=some (Bs 0))(hv0:vs 0=0)
  (step:∀(i:Nat) g (s':Nat) (tr':Tr Blk) (k':AV->Hp->Prop),gs[i]?=some g->(∀j,j<=i->vs j=0)->tr'.get b=some (Bs i)->(∀tr2,(∀c,c≠b->tr2.get c=tr'.get c)->tr2.get b=some (Bs (i+1))->k' (.i .i64 (vs (i+1))) ⟨s',0,tr2⟩)->SC P g [.ptr b 0] ⟨s',0,tr'⟩ k')
  (hbad:∀(i:Nat) tr2,(∀c,c≠b->tr2.get c=tr.get c)->vs i≠0->(∀j,j<i->vs j=0)->k (.tup [.nils,.i .i64 (vs i)]) ⟨s,0,tr2⟩)
  (hok:∀tr2,(∀c,c≠b->tr2.get c=tr.get c)->(∀j,j<=n->vs j=0)->tr2.get b=some (Bs n)->∃fl ar row prg,fl.length=3∧Bs n=WkB fl ar row prg∧k (.tup [prg,.i .i64 0]) ⟨s,0,tr2⟩) :
  SC P f [.ptr b 0,.sl bx 0 n n false] ⟨s,0,tr⟩ k:=by
 refine quC hc gs hx hbx (fun i v B=>v = .i .i64 (vs i)∧B=Bs i∧∀j,j<i->vs j=0) n hn hn9 (Bs 0) h0 ⟨by rw[hv0],rfl,fun j hj=>by omega⟩ ?_ ?_ ?_
 ·rintro i g B s' tr' k' hg ⟨h1,rfl,h2⟩ hB hk';have hvi:vs i=0:=(AV.i.inj h1).2.symm;refine step i g s' tr' k' hg (fun j hj=>?_) hB fun tr2 q1 q2=>hk' _ _ _ q1 q2 ⟨rfl,rfl,fun j hj=>?_⟩
  ·rcases Nat.lt_or_ge j i with h|h
   ·exact h2 j h
   ·rw[show j=i by omega];exact hvi
  ·rcases Nat.lt_or_ge j i with h|h
   ·exact h2 j h
   ·rw[show j=i by omega];exact hvi
 ·rintro i v B tr2 hfr hv ⟨h1,rfl,h2⟩;have:v=vs i:=(AV.i.inj h1).2;rw[this] at hv ⊢;exact hbad i tr2 hfr hv h2
 ·rintro B tr2 hfr ⟨h1,rfl,h2⟩ hB;refine hok tr2 hfr (fun j hj=>?_) hB
  have hvn:vs n=0:=(AV.i.inj h1).2.symm;rcases Nat.lt_or_ge j n with h|h
  ·exact h2 j h
  ·rw[show j=n by omega];exact hvn
def xE:IFn:=⟨[.tmp 8,.tmp 9],.seq (.r [.m 8 .N,.m 9 (.k 0)]) (.seq (.seq (.r [.n 10 3,.w 11 .neq 10 0,.n 12 11,.z 13 1 12,.g 14 (.bin .eql (.t 13) (.k 0)) 12 false,.z 15 14 12,.y 16 0 15,.g 17 (.len false (.t 16)) 15 true,.y 18 2 15,.g 19 (.len false (.t 18)) 15 true,.g 20 (.bin .lss (.t 17) (.t 19)) 15 true,.g 21 (.pick (.t 15) (.t 20) .F) 12 false,.o 22 12 21]) (.cond (.t 22) (.seq (.r [.n 23 0,.n 24 1,.n 8 23,.n 9 24]) (.ret)) (.skip))) (.seq (.r [.n 25 2,.n 26 3,.n 8 25,.n 9 26]) (.ret)))⟩
def qg7(v:AV)(p:List Ins):Prop:=v = .fz p.length (rP p)∨v = .nils∧p=[]
def qdb(u v:List Ins×Int):List Ins×Int:=if v.2≠0∨(u.2=0∧u.1.length<v.1.length) then u else v
theorem qg7.clo{v:AV}{p:List Ins}(h:qg7 v p):Go.Kc.clo v=true:=by
 rcases h with rfl|⟨rfl,_⟩
 ·simp[Go.Kc.clo,qx]
 ·rfl
theorem qhT(hc:qc P f xE=true)(u v:List Ins×Int)(x y:AV)(hx:qg7 x u.1)(hy:qg7 y v.1) :
  ∃z,qg7 z (qdb u v).1∧qd P f [x,.i .i64 u.2,y,.i .i64 v.2] (.tup [z,.i .i64 (qdb u v).2]):=by
 have key:∀(h:Bool),(decide (v.2≠0∨(u.2=0∧u.1.length<v.1.length)))=h->qd P f [x,.i .i64 u.2,y,.i .i64 v.2] (.tup [if h=true then x else y,.i .i64 (if h=true then u.2 else v.2)]):=by
  intro h hh;refine qd.mk hc (by simp[qu,Go.Kc.clo,hx.clo,hy.clo]) ?_;simp only[xE,vI,simprocAttr]
  by_cases h1:v.2=0
  ·by_cases h2:u.2=0
   ·have e:h=decide (u.1.length<v.1.length):=by rw[← hh];simp[h1,h2]
    rw[e];rcases hx with rfl|⟨rfl,hx⟩<;>rcases hy with rfl|⟨rfl,hy⟩
    ·by_cases h3:u.1.length<v.1.length
     ·simp +decide only[↓vS,vT,simprocAttr,h1,h2,Int.ofNat_lt,h3];simp[vZ,zp (qx _)]
     ·simp +decide only[↓vS,vT,simprocAttr,h1,h2,Int.ofNat_lt,h3];simp[vZ,zp (qx _)]
    ·have h3:¬u.1.length<v.1.length:=by rw[hy];simp
     have h3':¬(u.1.length:Int)<0:=by omega
     simp +decide only[↓vS,vT,simprocAttr,h1,h2,h3',h3];simp[vZ]
    ·rw[hx]
     by_cases h3:0<v.1.length
     ·have h3':(0:Int)<v.1.length:=by omega
      simp +decide only[↓vS,vT,simprocAttr,h1,h2,h3',h3];simp[vZ]
     ·have h3':¬(0:Int)<v.1.length:=by omega
      simp +decide only[↓vS,vT,simprocAttr,h1,h2,h3',h3];simp[vZ,zp (qx _)]
    ·rw[hx,hy];simp +decide only[↓vS,vT,simprocAttr,h1,h2];simp[vZ]
   ·have e:h=false:=by rw[← hh];simp[h1,h2]
    rw[e];simp +decide only[↓vS,vT,simprocAttr,h1,h2];simp[vZ,h1,Frz.self hy.clo]
  ·have e:h=true:=by rw[← hh];simp[h1]
   rw[e];simp +decide only[↓vS,vT,simprocAttr,h1];simp[vZ,Frz.self hx.clo]
 unfold qdb
 by_cases h:v.2≠0∨(u.2=0∧u.1.length<v.1.length)
 ·rw[if_pos h];exact⟨x,hx,by simpa using key true (by simpa using h)⟩
 ·rw[if_neg h];exact⟨y,hy,by simpa using key false (by simpa using h)⟩
end
def zL(l:List Sy):List Ins×Int:=if 4096<(xu l).length then ([],270) else (xu l,0)
theorem qiY{l:List Sy}:qha l = .tup [.fz (zL l).1.length (rP (zL l).1),.i .i64 (zL l).2]:=by
 unfold qha zL;split<;>rfl
def qbR(l:List Sy):List Sy:=qfE (ql6 (qen l))
noncomputable def qeP(x:GFil):List Ins×Int:=if xC x=true then zL (ze x) else ([],210)
noncomputable def qfi(x:GFil):List Ins×Int:=if xC x=true then zL (qbR (ze (jz x))) else ([],210)
noncomputable def qbX(x:GFil)(o:Bool):List Ins×Int:=if o=true then qdb (qeP x) (qfi x) else qeP x
structure CmpFn (P:Program) (gE gN gO gL:Nat) (x:GFil):Prop where
 em:qd P gE [.agg (qS x)] (qmi x)
 nm:qd P gN [.agg (qS x)] (qpD x)
 lk:xC x=true->qd P gL [.fz (ze x).length (rSy (ze x))] (qha (ze x))
 em2:xC x=true->qd P gE [.agg (qS (jz x))] (qmi (jz x))
 ok2:xC x=true->xC (jz x)=true
 op:xC x=true->qd P gO [.fz (ze (jz x)).length (rSy (ze (jz x)))] (.tup [.fz (qbR (ze (jz x))).length (rSy (qbR (ze (jz x)))),.i .i64 0])
 lk2:xC x=true->qd P gL [.fz (qbR (ze (jz x))).length (rSy (qbR (ze (jz x))))] (qha (qbR (ze (jz x))))
section
variable {gE gN gO gL b s:Nat} {tr:Tr Blk} {k:AV->Hp->Prop} {x:GFil}
theorem qib{n:Nat}{cs:List AV}:zg (.fz n cs)=true∧qcg (.fz n cs)=true∧cellsOf (.fz n cs)=[.fz n cs]:=⟨rfl,rfl,rfl⟩
theorem qxb{gd gwE gwL bx:Nat}{e:Nat}{wf a:Bool}(hc:qc P gd qG=true)(hE:qc P gwE (zK gE)=true)(hL:qc P gwL (qF gL)=true)(C:CmpFn P gE gN gO gL x)
  (hx:tr.get bx=some (.cells e wf a [.fn gwE [.ptr b 0] [],.fn gwL [.ptr b 0] []])) (hbx:bx≠b) (h0:tr.get b=some (WkB (qS x) .nils .nils .nils))
  (hk:∀v tr2,qg7 v (qeP x).1->(∀c,c≠b->tr2.get c=tr.get c)->k (.tup [v,.i .i64 (qeP x).2]) ⟨s,0,tr2⟩):SC P gd [.ptr b 0,.sl bx 0 2 2 false] ⟨s,0,tr⟩ k:=by
 have hE':=C.em;cases hK:xC x with
 | false =>
  have e1:qeP x=([],210):=by unfold qeP;simp[hK]
  rw[e1] at hk;unfold qmi at hE';rw[hK,if_neg (by simp)] at hE';refine qfN hc [gwE,gwL] (by simpa using hx) hbx (fun i=>if i=0 then WkB (qS x) .nils .nils .nils else WkB (qS x) .nils (.fz 0 []) .nils) (fun i=>if i=0 then 0 else 210) 2 rfl (by omega) h0 rfl ?_ ?_ ?_
  ·intro i g s' tr' k' hg hj hB hk'
   have hi:i=0:=by
    by_cases hi:i=0
    ·exact hi
    ·have:=hj i (Nat.le_refl _);simp[hi] at this
   subst hi;simp at hg;subst hg;exact qkr hE (qS x) rfl hB _ _ qib hE' hk'
  ·intro i tr2 hf hv hj;have hi:i≠0:=fun h=>hv (by simp[h])
   simp only[if_neg hi];exact hk _ _ (.inr ⟨rfl,rfl⟩) hf
  ·intro tr2 _ hj _;have:=hj 1 (by omega);simp at this
 | true =>
  have hL':=C.lk hK;rw[qiY] at hL';have e1:qeP x=zL (ze x):=by unfold qeP;simp[hK]
  rw[e1] at hk;unfold qmi at hE';rw[hK,if_pos rfl] at hE'
  refine qfN hc [gwE,gwL] (by simpa using hx) hbx (fun i=>if i=0 then WkB (qS x) .nils .nils .nils else if i=1 then WkB (qS x) .nils (.fz (ze x).length (rSy (ze x))) .nils else WkB (qS x) .nils (.fz (ze x).length (rSy (ze x))) (.fz (zL (ze x)).1.length (rP (zL (ze x)).1)))
   (fun i=>if i=0 then 0 else if i=1 then 0 else (zL (ze x)).2) 2 rfl (by omega) h0 rfl ?_ ?_ ?_
  ·intro i g s' tr' k' hg hj hB hk';have hi:i<2:=by have:=(zzS.1 hg).1;simpa using this
   have hi2:i=0∨i=1:=by omega
   rcases hi2 with rfl|rfl
   ·simp at hg;subst hg;exact qkr hE (qS x) rfl hB _ _ qib hE' hk'
   ·simp at hg;subst hg;exact qeN hL (qS x) rfl hB _ _ qib hL' hk'
  ·intro i tr2 hf hv hj;have h0':i≠0:=fun h=>hv (by simp[h])
   have h1':i≠1:=fun h=>hv (by simp[h])
   simp only[if_neg h0',if_neg h1'] at hv ⊢
   have e2:(zL (ze x)).1=[]:=by
    unfold zL at hv ⊢;split at hv
    ·rename_i h;rw[if_pos h]
    ·exact absurd rfl hv
   exact hk _ _ (.inr ⟨rfl,e2⟩) hf
  ·intro tr2 hf hj hB;have hz:=hj 2 (by omega);simp at hz;refine⟨qS x,.nils,_,_,rfl,rfl,?_⟩;have:=hk (.fz (zL (ze x)).1.length (rP (zL (ze x)).1)) tr2 (.inl rfl) hf;rw[hz] at this;exact this
theorem qxa{gd gwN gwE gwO gwL bx:Nat}{e:Nat}{wf a:Bool}(hc:qc P gd qG=true)(hN:qc P gwN (zR gN)=true)(hE:qc P gwE (zK gE)=true)(hO:qc P gwO (qV gO)=true)(hL:qc P gwL (qF gL)=true)(C:CmpFn P gE gN gO gL x)
  (hx:tr.get bx=some (.cells e wf a [.fn gwN [.ptr b 0] [],.fn gwE [.ptr b 0] [],.fn gwO [.ptr b 0] [],.fn gwL [.ptr b 0] []])) (hbx:bx≠b) (h0:tr.get b=some (WkB (qS x) .nils .nils .nils))
  (hk:∀v tr2,qg7 v (qfi x).1->(∀c,c≠b->tr2.get c=tr.get c)->k (.tup [v,.i .i64 (qfi x).2]) ⟨s,0,tr2⟩):SC P gd [.ptr b 0,.sl bx 0 4 4 false] ⟨s,0,tr⟩ k:=by
 have hN':=C.nm;cases hK:xC x with
 | false =>
  have e1:qfi x=([],210):=by unfold qfi;simp[hK]
  rw[e1] at hk;unfold qpD at hN';rw[hK,if_neg (by simp)] at hN';refine qfN hc [gwN,gwE,gwO,gwL] (by simpa using hx) hbx (fun i=>if i=0 then WkB (qS x) .nils .nils .nils else WkB [.i .i64 0,.fz 0 [],.i .u32 0] .nils .nils .nils) (fun i=>if i=0 then 0 else 210) 4 rfl (by omega) h0 rfl ?_ ?_ ?_
  ·intro i g s' tr' k' hg hj hB hk'
   have hi:i=0:=by
    by_cases hi:i=0
    ·exact hi
    ·have:=hj i (Nat.le_refl _);simp[hi] at this
   subst hi;simp at hg;subst hg;exact qks hN (qS x) rfl hB [.i .i64 0,.fz 0 [],.i .u32 0] rfl _ rfl hN' hk'
  ·intro i tr2 hf hv hj;have hi:i≠0:=fun h=>hv (by simp[h])
   simp only[if_neg hi];exact hk _ _ (.inr ⟨rfl,rfl⟩) hf
  ·intro tr2 _ hj _;have:=hj 1 (by omega);simp at this
 | true =>
  obtain⟨y,hy⟩:∃y,y=jz x:=⟨_,rfl⟩;obtain⟨m,hm⟩:∃m,m=qbR (ze y):=⟨_,rfl⟩;have hL':=C.lk2 hK;have hE':=C.em2 hK;have hO':=C.op hK;have hK2:=C.ok2 hK;have e1:qfi x=zL (qbR (ze (jz x))):=by unfold qfi;simp[hK]
  rw[e1] at hk;unfold qpD at hN';rw[hK,if_pos rfl] at hN';rw[← hy] at hL' hE' hO' hK2 hN' hk;unfold qmi at hE';rw[hK2,if_pos rfl] at hE';rw[← hm] at hL' hO' hk;rw[qiY] at hL'
  refine qfN hc [gwN,gwE,gwO,gwL] (by simpa using hx) hbx (fun i=>if i=0 then WkB (qS x) .nils .nils .nils else if i=1 then WkB (qS y) .nils .nils .nils else if i=2 then WkB (qS y) .nils (.fz (ze y).length (rSy (ze y))) .nils else if i=3 then WkB (qS y) .nils (.fz m.length (rSy m)) .nils else WkB (qS y) .nils (.fz m.length (rSy m)) (.fz (zL m).1.length (rP (zL m).1)))
   (fun i=>if i=0 then 0 else if i=1 then 0 else if i=2 then 0 else if i=3 then 0 else (zL m).2) 4 rfl (by omega) h0 rfl ?_ ?_ ?_
  ·intro i g s' tr' k' hg hj hB hk';have hi:i<4:=by have:=(zzS.1 hg).1;simpa using this
   have hi2:i=0∨i=1∨i=2∨i=3:=by omega
   rcases hi2 with rfl|rfl|rfl|rfl
   ·simp at hg;subst hg;exact qks hN (qS x) rfl hB (qS y) rfl _ rfl hN' hk'
   ·simp at hg;subst hg;exact qkr hE (qS y) rfl hB _ _ qib hE' hk'
   ·simp at hg;subst hg;exact qkq hO (qS y) rfl hB _ _ qib hO' hk'
   ·simp at hg;subst hg;exact qeN hL (qS y) rfl hB _ _ qib hL' hk'
  ·intro i tr2 hf hv hj;have h0':i≠0:=fun h=>hv (by simp[h])
   have h1':i≠1:=fun h=>hv (by simp[h])
   have h2':i≠2:=fun h=>hv (by simp[h])
   have h3':i≠3:=fun h=>hv (by simp[h])
   simp only[if_neg h0',if_neg h1',if_neg h2',if_neg h3'] at hv ⊢
   have e2:(zL m).1=[]:=by
    unfold zL at hv ⊢;split at hv
    ·rename_i h;rw[if_pos h]
    ·exact absurd rfl hv
   exact hk _ _ (.inr ⟨rfl,e2⟩) hf
  ·intro tr2 hf hj hB;have hz:=hj 4 (by omega);simp at hz;refine⟨qS y,.nils,_,_,rfl,rfl,?_⟩;have:=hk (.fz (zL m).1.length (rP (zL m).1)) tr2 (.inl rfl) hf;rw[hz] at this;exact this
def qaZ(a b c d e g:Nat):IFn:=⟨[.tmp 4,.tmp 5],.seq (.r [.q 2 (.box (.t 0)),.m 4 .N,.m 5 (.k 0)]) (.seq (.reg true [.v 12 3 2,.q 13 (.build [.i .i64 0,.nils,.i .u32 0,.nils,.nils,.nils] [(0,3,(.t 12))]),.q 14 (.box (.t 13)),.v 15 3 2,.q 16 (.build [.i .i64 0,.nils,.i .u32 0,.nils,.nils,.nils] [(0,3,(.t 15))]),.q 17 (.box (.t 16)),.n 6 14,.n 7 17]) (.seq (.r [.n 19 6,.n 20 6,.q 21 (.mkF a [.t 20] []),.n 22 6,.q 23 (.mkF b [.t 22] []),.q 24 (.buildS 2 [.nilf] [(0,1,(.t 21)),(1,1,(.t 23))]),.l 25 c [.t 19,.t 24],.n 18 25,.x 26 18 0,.x 27 18 1,.n 8 26,.n 9 27]) (.seq (.seq (.r [.n 28 1,.q 29 (.un .not (.t 28))]) (.cond (.t 29) (.seq (.r [.n 30 8,.n 31 9,.n 4 30,.n 5 31]) (.ret)) (.skip))) (.seq (.r [.n 33 7,.n 34 7,.q 35 (.mkF d [.t 34] []),.n 36 7,.q 37 (.mkF a [.t 36] []),.n 38 7,.q 39 (.mkF e [.t 38] []),.n 40 7,.q 41 (.mkF b [.t 40] []),.q 42 (.buildS 4 [.nilf] [(0,1,(.t 35)),(1,1,(.t 37)),(2,1,(.t 39)),(3,1,(.t 41))]),.l 43 c [.t 33,.t 42],.n 32 43,.x 44 32 0,.x 45 32 1,.n 10 44,.n 11 45]) (.seq (.r [.n 46 8,.n 47 9,.n 48 10,.n 49 11,.l 50 g [.t 46,.t 47,.t 48,.t 49],.x 51 50 0,.x 52 50 1,.n 4 51,.n 5 52]) (.ret))))))⟩
theorem qg7.frz{v:AV}{p:List Ins}{h:Hp}(hv:qg7 v p):Frz h v (.fz p.length (rP p)):=by
 rcases hv with rfl|⟨rfl,rfl⟩
 ·exact Frz.self (by simp[Go.Kc.clo,qx])
 ·exact .nilz
theorem qly{gd gwN gwE gwO gwL gs:Nat}(hc:qc P f (qaZ gwE gwL gd gwN gwO gs)=true)(hd:qc P gd qG=true)(hN:qc P gwN (zR gN)=true)(hE:qc P gwE (zK gE)=true)(hO:qc P gwO (qV gO)=true)(hL:qc P gwL (qF gL)=true)
  (hs:∀(u v:List Ins×Int) (x y:AV),qg7 x u.1->qg7 y v.1->∃z,qg7 z (qdb u v).1∧qd P gs [x,.i .i64 u.2,y,.i .i64 v.2] (.tup [z,.i .i64 (qdb u v).2])) (C:CmpFn P gE gN gO gL x) (o:Bool) :
  qd P f [.agg (qS x),.b o] (.tup [.fz (qbX x o).1.length (rP (qbX x o).1),.i .i64 (qbX x o).2]):=by
 refine qd.mk hc (by simp[qu,Go.Kc.clo,qS,zS]) ?_;simp only[qaZ,qS,vI,simprocAttr];simp +decide only[↓vS,vT,simprocAttr];refine zD ?_;simp +decide only[↓vS,vT,simprocAttr];refine qxb hd hE hL C (b:=1) (bx:=3) (by simp[Tr.get_set];exact⟨rfl,rfl,rfl⟩) (by decide) (by simp[Tr.get_set,WkB,qS]) fun v tr2 hv hf=>?_
 cases o with
 | false =>
  simp +decide only[↓vS,vT,simprocAttr,qbX];simp[vZ];exact hv.frz
 | true =>
  simp +decide only[↓vS,vT,simprocAttr,qbX];refine qxa hd hN hE hO hL C (b:=2) (bx:=4) (by simp[Tr.get_set];exact⟨rfl,rfl,rfl⟩) (by decide) (by rw[Tr.get_set,if_neg (by decide),hf 2 (by decide)];simp[Tr.get_set,WkB,qS]) fun w tr3 hw _=>?_
  obtain⟨z,hz1,hz2⟩:=hs (qeP x) (qfi x) v w hv hw;simp +decide only[↓vS,vT,simprocAttr];refine hz2.sc ?_;simp +decide only[↓vS,vT,simprocAttr];simp[vZ];exact⟨hz1.frz,rfl⟩
end
end Go.Kc
end
section
namespace Go.Kc
def zY:List Sp->Int->Int->Prop
 | [],a,b=>a=b
 | s::l,a,b=>s.fr=a∧a<=s.to∧zY l (s.to+1) b
theorem zY.le:∀{l:List Sp} {a b:Int},zY l a b->a<=b
 | [],_,_,h=>by simp[zY] at h;omega
 | s::l,a,b,h=>by obtain⟨h1,h2,h3⟩:=h;have:=h3.le;omega
theorem zY.app:∀{l m:List Sp} {a b:Int},zY (l++m) a b↔∃c,zY l a c∧zY m c b
 | [],m,a,b=>by simp[zY]
 | s::l,m,a,b=>by
  simp only[List.cons_append,zY];constructor
  ·rintro⟨h1,h2,h3⟩;obtain⟨c,h4,h5⟩:=zY.app.1 h3;exact⟨c,⟨h1,h2,h4⟩,h5⟩
  ·rintro⟨c,⟨h1,h2,h4⟩,h5⟩;exact⟨h1,h2,zY.app.2 ⟨c,h4,h5⟩⟩
def Cov(l:List Sp)(n:Int)(w:Nat):Prop:=∃s ∈ l,s.fr<=n∧n<=s.to∧s.way=w
theorem qpX{l:List Sp}{s:Sp}{a:Int}(h:zY l a s.fr)(hs:s.fr<=s.to):zY (jj l s) a (s.to+1)∧∀n w,Cov l n w∨(s.fr<=n∧n<=s.to∧s.way=w)->Cov (jj l s) n w:=by
 rcases List.eq_nil_or_concat l with rfl|⟨l0,z,rfl⟩
 ·refine⟨?_,?_⟩
  ·simp only[zY] at h;simp only[jj,List.getElem?_nil,List.nil_append,zY];exact⟨h.symm,by omega,trivial⟩
  ·rintro n w (⟨x,hx,_⟩|h)
   ·cases hx
   ·exact⟨s,by simp[jj],h⟩
 ·rw[List.concat_eq_append] at h ⊢;have hz:(l0++[z])[(l0++[z]).length-1]?=some z:=by simp
  unfold jj;rw[hz];obtain⟨c,h1,h2⟩:=zY.app.1 h;simp only[zY] at h2;obtain⟨h2,h3,h4⟩:=h2;simp only
  by_cases hw:z.way=s.way
  ·rw[if_pos hw];have e:(l0++[z]).set ((l0++[z]).length-1) ⟨z.fr,s.to,z.way⟩=l0++[⟨z.fr,s.to,z.way⟩]:=by simp
   rw[e];refine⟨zY.app.2 ⟨c,h1,h2,by simp only;omega,rfl⟩,?_⟩
   rintro n w (⟨x,hx,q1,q2,q3⟩|⟨q1,q2,q3⟩)
   ·rcases List.mem_append.1 hx with hx|hx
    ·exact⟨x,List.mem_append_left _ hx,q1,q2,q3⟩
    ·rw[List.mem_singleton] at hx;subst hx;exact⟨_,List.mem_append_right _ (List.mem_singleton.2 rfl),q1,by simp only;omega,q3⟩
   ·exact⟨_,List.mem_append_right _ (List.mem_singleton.2 rfl),by simp only;omega,q2,by simp only;omega⟩
  ·rw[if_neg hw];refine⟨zY.app.2 ⟨s.fr,h,rfl,hs,rfl⟩,?_⟩;rintro n w (⟨x,hx,q⟩|q)
   ·exact⟨x,List.mem_append_left _ hx,q⟩
   ·exact⟨s,List.mem_append_right _ (List.mem_singleton.2 rfl),q⟩
theorem qjx:∀{m l:List Sp} {a b c:Int},zY l a b->zY m b c->zY (m.foldl jj l) a c∧∀n w,Cov l n w∨Cov m n w->Cov (m.foldl jj l) n w
 | [],l,a,b,c,h1,h2=>by
  simp only[zY] at h2;subst h2;refine⟨h1,?_⟩;rintro n w (h|⟨x,hx,_⟩)
  ·exact h
  ·cases hx
 | s::m,l,a,b,c,h1,h2=>by
  obtain⟨h3,h4,h5⟩:=h2;obtain⟨p1,p2⟩:=qpX (s:=s) (by rw[h3];exact h1) (by omega);obtain⟨q1,q2⟩:=qjx p1 h5;refine⟨q1,?_⟩;rintro n w (h|⟨x,hx,hq⟩)
  ·exact q2 n w (.inl (p2 n w (.inl h)))
  ·rcases List.mem_cons.1 hx with rfl|hx
   ·exact q2 n w (.inl (p2 n w (.inr hq)))
   ·exact q2 n w (.inr ⟨x,hx,hq⟩)
def Ups:List (Int×Nat)->Int->Prop
 | [],_=>True
 | x::l,a=>a<=x.1∧x.1<4294967296∧Ups l (x.1+1)
theorem qk5{o:Nat}:∀{l:List (Int×Nat)} {a:Int},Ups l a->0<=a->a<=4294967296->zY (pcs o l a) a 4294967296∧(∀x ∈ l,Cov (pcs o l a) x.1 x.2)∧∀n:Int,a<=n->n<4294967296->(∀x ∈ l,x.1≠n)->Cov (pcs o l a) n o
 | [],a,_,h0,h1=>by
  unfold pcs;refine⟨?_,fun x hx=>(by cases hx),fun n h2 h3 _=>?_⟩
  ·split
   ·exact⟨rfl,by simp only;omega,by simp only[zY];omega⟩
   ·simp only[zY];omega
  ·rw[if_pos (by omega)];exact⟨_,List.mem_singleton.2 rfl,h2,by simp only;omega,rfl⟩
 | x::l,a,hu,h0,h1=>by
  obtain⟨u1,u2,u3⟩:=hu;obtain⟨c1,c2,c3⟩:=qk5 (o:=o) u3 (by omega) (by omega);unfold pcs
  have app:∀(b:Bool),(b=true↔a<x.1)->zY ((if a<x.1 then [⟨a,x.1-1,o⟩] else [])++⟨x.1,x.1,x.2⟩::pcs o l (x.1+1)) a 4294967296:=fun _ _=>by
   by_cases h:a<x.1
   ·rw[if_pos h];exact⟨rfl,by simp only;omega,by simp only;omega,by simp only;omega,c1⟩
   ·rw[if_neg h];exact⟨by simp only;omega,by simp only;omega,c1⟩
  refine⟨app (decide (a<x.1)) (by simp),fun y hy=>?_,fun n h2 h3 h4=>?_⟩
  ·rcases List.mem_cons.1 hy with rfl|hy
   ·exact⟨_,List.mem_append_right _ (List.mem_cons_self ..),Int.le_refl _,Int.le_refl _,rfl⟩
   ·obtain⟨s,hs,hq⟩:=c2 y hy;exact⟨s,List.mem_append_right _ (List.mem_cons_of_mem _ hs),hq⟩
  ·have hx:=h4 x (List.mem_cons_self ..);rcases Int.lt_or_gt_of_ne hx with h|h
   ·obtain⟨s,hs,hq⟩:=c3 n (by omega) h3 fun y hy=>h4 y (List.mem_cons_of_mem _ hy)
    exact⟨s,List.mem_append_right _ (List.mem_cons_of_mem _ hs),hq⟩
   ·rw[if_pos (by omega)];exact⟨_,List.mem_append_left _ (List.mem_singleton.2 rfl),h2,by simp only;omega,rfl⟩
theorem qnk{o:Nat}{m:Nat}(ho:o<m):∀{l:List (Int×Nat)} {a:Int},(∀x ∈ l,x.2<m)->∀s ∈ pcs o l a,s.way<m
 | [],a,_,s,hs=>by
  unfold pcs at hs;split at hs
  ·rw[List.mem_singleton] at hs;subst hs;exact ho
  ·cases hs
 | x::l,a,h,s,hs=>by
  unfold pcs at hs;rcases List.mem_append.1 hs with hs|hs
  ·split at hs
   ·rw[List.mem_singleton] at hs;subst hs;exact ho
   ·cases hs
  ·rcases List.mem_cons.1 hs with rfl|hs
   ·exact h x (List.mem_cons_self ..)
   ·exact qnk ho (fun y hy=>h y (List.mem_cons_of_mem _ hy)) s hs
theorem qo5{o:Nat}:∀{l:List (Int×Nat)} {a:Int},(pcs o l a).length<=2*l.length+1
 | [],a=>by unfold pcs;split<;>simp
 | x::l,a=>by
  have:=qo5 (o:=o) (l:=l) (a:=x.1+1);unfold pcs;split<;>simp<;>omega
theorem qtP{m:Nat}{l:List Sp}{s:Sp}(h:∀x ∈ l,x.way<m)(hs:s.way<m):∀x ∈ jj l s,x.way<m:=by
 intro x hx;unfold jj at hx;split at hx
 ·rename_i z hz;split at hx
  ·rcases List.mem_or_eq_of_mem_set hx with hx|rfl
   ·exact h x hx
   ·exact h z (zzM hz)
  ·rcases List.mem_append.1 hx with hx|hx
   ·exact h x hx
   ·rw[List.mem_singleton] at hx;subst hx;exact hs
 ·rcases List.mem_append.1 hx with hx|hx
  ·exact h x hx
  ·rw[List.mem_singleton] at hx;subst hx;exact hs
theorem qkQ{m:Nat}:∀{k l:List Sp},(∀x ∈ l,x.way<m)->(∀x ∈ k,x.way<m)->(∀x ∈ k.foldl jj l,x.way<m)∧(k.foldl jj l).length<=l.length+k.length
 | [],l,h,_=>⟨h,by simp⟩
 | s::k,l,h,hk=>by
  obtain⟨q1,q2⟩:=qkQ (k:=k) (qtP h (hk s (List.mem_cons_self ..))) fun x hx=>hk x (List.mem_cons_of_mem _ hx)
  have:=qkg (l:=l) (s:=s);exact⟨q1,by simp only[List.foldl_cons,List.length_cons];omega⟩
theorem qkL:∀{l:List Sp} {a:Int},zY l a 4294967296->qiV l a=true
 | [],a,h=>by simp[zY] at h;simp[qiV,h]
 | s::l,a,h=>by
  obtain⟨h1,h2,h3⟩:=h;unfold qiV;rw[if_neg (by omega)];exact qkL h3
theorem qh5:∀{l:List Sp} {a b:Int},zY l a b->0<=a->b<=4294967296->SpR l
 | [],_,_,_,_,_=>fun s hs=>by cases hs
 | s::l,a,b,h,h0,hb=>by
  obtain⟨h1,h2,h3⟩:=h;have:=h3.le;intro x hx;rcases List.mem_cons.1 hx with rfl|hx
  ·exact⟨by omega,by omega,by omega,by omega⟩
  ·exact qh5 h3 (by omega) hb x hx
theorem qxj{m:Nat}(n:Nat):∀(l:List Sp) (a:Nat),l.length<=n->0<l.length->(∀s ∈ l,s.way<m)->∀nd ∈ zw l a,(nd.leaf=true->nd.way<m)∧(nd.leaf=false->a<nd.less∧a<nd.more∧nd.less<a+(zw l a).length∧nd.more<a+(zw l a).length)∧nd.less<a+(zw l a).length∧nd.more<a+(zw l a).length:=by
 induction n with
 | zero=>intro l a h1 h2;omega
 | succ n ih =>
  intro l a h1 h2 hw nd hnd;have hlen:=qcN (n+1) l a h1 h2;rw[zw] at hnd
  by_cases hk:l.length / 2=0
  ·rw[dif_pos hk] at hnd;rw[List.mem_singleton] at hnd;subst hnd;cases l with
   | nil=>simp at h2
   | cons s l =>
    refine⟨fun _=>hw s (List.mem_cons_self ..),fun h=>(by simp at h),?_,?_⟩<;>simp only<;>omega
  ·rw[dif_neg hk] at hnd
   have e0:(zw l a).length=1+(zw (l.take (l.length / 2)) (a+1)).length+(zw (l.drop (l.length / 2)) (a+1+(zw (l.take (l.length / 2)) (a+1)).length)).length:=by
    conv=>lhs;rw[zw,dif_neg hk]
    simp;omega
   have hl1:=qcN n (l.take (l.length / 2)) (a+1) (by simp;omega) (by simp;omega);have hl2:=qcN n (l.drop (l.length / 2)) (a+1+(zw (l.take (l.length / 2)) (a+1)).length) (by simp;omega) (by simp;omega);simp at hl1 hl2;rcases List.mem_cons.1 hnd with rfl|hnd
   ·refine⟨fun h=>by simp at h,fun _=>?_,?_,?_⟩<;>simp only<;>(try refine⟨?_,?_,?_,?_⟩)<;>omega
   ·rcases List.mem_append.1 hnd with hnd|hnd
    ·obtain⟨q1,q2,q3,q4⟩:=ih (l.take (l.length / 2)) (a+1) (by simp;omega) (by simp;omega) (fun s hs=>hw s (List.mem_of_mem_take hs)) nd hnd
     exact⟨q1,fun h=>by obtain⟨p1,p2,p3,p4⟩:=q2 h;omega,by omega,by omega⟩
    ·obtain⟨q1,q2,q3,q4⟩:=ih (l.drop (l.length / 2)) _ (by simp;omega) (by simp;omega) (fun s hs=>hw s (List.mem_of_mem_drop hs)) nd hnd
     exact⟨q1,fun h=>by obtain⟨p1,p2,p3,p4⟩:=q2 h;omega,by omega,by omega⟩
end Go.Kc
end
