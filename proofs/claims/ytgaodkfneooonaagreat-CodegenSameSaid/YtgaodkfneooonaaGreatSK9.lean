/- Part 9 of the abstract machine and of the functions' walks. Conditions: with each theorem. -/
import Derived.Test.YtgaodkfneooonaaGreatSK8
set_option maxHeartbeats 4000000
set_option linter.unusedSectionVars false
set_option linter.unusedSimpArgs false
set_option linter.unusedVariables false
set_option linter.unnecessarySimpa false
section
namespace Go.Kc
variable {P:Program} {f:Nat}
def qaD(l:List (Int×Nat)):List AV:=l.map fun x=>.i .u32 x.1
def qa3(l:List (Int×Nat)):List AV:=l.map fun x=>.i .i64 (x.2:Int)
theorem qfC{l:List (Int×Nat)}:(qaD l).length=l.length:=by simp[qaD]
theorem qfD{l:List (Int×Nat)}:(qa3 l).length=l.length:=by simp[qa3]
theorem qcJ{l:List (Int×Nat)}:qw (qaD l)=true:=qcW fun _=>rfl
theorem qcK{l:List (Int×Nat)}:qw (qa3 l)=true:=qcW fun _=>rfl
theorem qhF{l:List (Int×Nat)}{j:Nat}:(qaD l)[j]?=(l[j]?).map fun x=>.i .u32 x.1:=by simp[qaD]
theorem qnj{l:List (Int×Nat)}{j:Nat}:(qa3 l)[j]?=(l[j]?).map fun x=>.i .i64 (x.2:Int):=by simp[qa3]
def pcs(o:Nat):List (Int×Nat)->Int->List Sp
 | [],nx=>if nx<4294967296 then [⟨nx,4294967295,o⟩] else []
 | x::l,nx=>(if nx<x.1 then [⟨nx,x.1-1,o⟩] else [])++⟨x.1,x.1,x.2⟩::pcs o l (x.1+1)
def qc2(a:Nat):IFn:=⟨[.tmp 6],.seq (.r [.q 3 (.box (.t 0)),.q 4 (.box (.t 1)),.q 5 (.box (.t 2)),.m 6 (.c (.nilf))]) (.seq (.r [.q 7 (.mkF a [] [.t 3,.t 5,.t 4]),.n 6 7]) (.ret))⟩
theorem qqM{g:Nat}(hc:qc P f (qc2 g)=true)(l:List (Int×Nat))(o:Nat):qd P f [.fz l.length (qaD l),.fz l.length (qa3 l),.i .i64 (o:Int)] (.fn g [] [.pf [.fz l.length (qaD l)] 0,.pf [.i .i64 (o:Int)] 0,.pf [.fz l.length (qa3 l)] 0]):=by
 refine qd.mk hc (by simp[qw,clo,qcJ,qcK]) ?_;simp only[qc2,vI,simprocAttr];simp +decide only[↓vS,vT,simprocAttr];simp[vZ,vP,Tr.get_set,zq qcJ,zq qcK]
def spT(g3:Nat)(l:List (Int×Nat))(o:Nat):List (Nat×AV):=[(3,.ptr 0 0),(4,.ptr 1 0),(7,.fn g3 [] [.pf [.fz l.length (qaD l)] 0,.pf [.i .i64 (o:Int)] 0,.pf [.fz l.length (qa3 l)] 0])]
def spA:ICode:=.reg false [⟨some 5,.op (.alloc [.i .u32 0,.i .u32 0,.i .i64 0]),none⟩,⟨none,.op (.store 3 (.t 5) (.t 8)),none⟩]
def spB:ICode:=.blk 1 (.reg false [⟨some 9,.op (.load1 (.t 4)),none⟩,⟨some 10,.op (.loadN 3 (.t 5)),none⟩,⟨some 11,.callV (.t 9) [.t 10],none⟩])
def SpI(g1:Nat)(r0:Loop)(ts:List (Nat×AV))(out:List Sp)(s:Nat)(tr:Tr Blk):Prop :=
 ∃br,4<=s∧tr.get 0=some (.cells 0 true false [.own br out.length])∧tr.get br=some (.cells 3 true true (rSp out))∧(br=2∨4<=br)∧br<s∧tr.get 1=some (.cells 0 true false [.fn g1 [] [.ptr 0 0]])∧tr.get 3=some (.map (zr r0 ts))
theorem qj8{g1 g3 s:Nat}{r0:Loop}{l:List (Int×Nat)}{o:Nat}{out:List Sp}{tr:Tr Blk}{k:AV->Hp->Prop}(hc1:qc P g1 xY=true)(hr0:r0.state = .ready)(hp0:r0.pending=none)(hlo:LoopOk P r0 [8] spA spB)
  (hI:SpI g1 r0 (spT g3 l o) out s tr) (x:Sp) (hm:out.length<=1000000) (hk:∀s' tr',SpI g1 r0 (spT g3 l o) (x8 out x) s' tr'->k (.b true) ⟨s',0,tr'⟩):SY P 3 [.agg (cSp x)] ⟨s,0,tr⟩ k:=by
 obtain⟨br,h4,h0,hb,hbr,hbs,h1,h3⟩:=hI;refine SY.mk (r:=r0) (ts:=spT g3 l o) (ps:=[8]) h3 hr0 hlo (Nat.zero_le _) (by show 3<s;omega) rfl ?_;rw[show mkT (spT g3 l o)=((Tr.leaf.set 7 (.fn g3 [] [.pf [.fz l.length (qaD l)] 0,.pf [.i .i64 (o:Int)] 0,.pf [.fz l.length (qa3 l)] 0])).set 4 (.ptr 1 0)).set 3 (.ptr 0 0) from rfl]
 refine ql ?_;simp only[qks,spA,cSp,vI,simprocAttr];simp +decide only[↓vS,vT,simprocAttr];have n3:¬3=s:=by omega
 have n1:¬1=s:=by omega
 have n13:¬1=3:=by omega
 have n03:¬0=3:=by omega
 have ns3:¬s=3:=by omega
 refine⟨spT g3 l o,by simp[Tr.get_set,n3,h3],?_⟩
 refine ql ?_;simp only[zW,spB,vI,simprocAttr];simp +decide only[↓vS,vT,simprocAttr,h1,n1,n13,ns3]
 have gb:∀b,b<s->b≠3->(((tr.set s (.cells 0 true false [.i .u32 0,.i .u32 0,.i .i64 0])).set s (.cells 0 true false [.i .u32 x.fr,.i .u32 x.to,.i .i64 (x.way:Int)])).set 3 (.map (zr (Go.Kc.bsy r0) (spT g3 l o)))).get b=tr.get b:=fun b h1 h2=>by
  simp only[Tr.get_set];repeat rw[if_neg (by omega)]
 refine qtO hc1 x ((gb 0 (by omega) (by omega)).trans h0) ((gb br hbs (by omega)).trans hb) (by omega) (by omega) (by omega) hm fun s' tr' br' q1 q2 q3 q4 q5 q6=>?_
 simp +decide only[↓vS,vT,simprocAttr];have g3':tr'.get 3=some (.map (zr (Go.Kc.bsy r0) (spT g3 l o))):=by rw[q2 3 (by omega) (by omega) (by omega),Tr.get_set,if_pos rfl]
 refine⟨Go.Kc.bsy r0,spT g3 l o,g3',?_⟩;rw[qhH,qid hr0 hp0];simp only[zW];simp +decide only[↓vS,vT,simprocAttr];refine hk _ _ ⟨br',by omega,?_,?_,by omega,q6,?_,?_⟩
 ·rw[Tr.get_set,if_neg (by omega)];exact q3
 ·rw[Tr.get_set,if_neg (by omega)];exact q4
 ·rw[Tr.get_set,if_neg (by omega),q2 1 (by omega) (by omega) (by omega),gb 1 (by omega) (by omega)];exact h1
 ·rw[Tr.get_set,if_pos rfl]
def qbS:IFn:=⟨[],.seq (.r [.m 5 (.c (.i .u64 0))]) (.seq (.seq (.r [.d 8 1,.e 9 8,.m 10 (.k 0)]) (.blk 0 (.loop (.seq (.r [.s 11 10 9]) (.seq (.cond (.t 11) (.skip) (.exit 0)) (.seq (.blk 1 (.seq (.r [.n 12 10,.i 13 1 8 10,.d 14 13,.n 6 12,.n 7 14]) (.seq (.seq (.r [.n 15 5,.n 16 7,.q 17 (.cvInt .u64 (.t 16)),.s 18 15 17,.n 19 18,.y 20 0 19,.y 21 5 19,.g 22 (.cvInt .u32 (.t 21)) 19 true,.y 23 7 19,.g 24 (.bin .sub (.t 23) (.c (.i .u32 1))) 19 true,.j 25 2 19 true,.g 26 (.build [.i .u32 0,.i .u32 0,.i .i64 0] [(0,1,(.t 22)),(1,1,(.t 24)),(2,1,(.t 25))]) 19 true,⟨(some 27),.callV (.t 20) [.t 26],(some (19,true))⟩,.g 28 (.un .not (.t 27)) 19 true,.p 29 19 28]) (.cond (.t 29) (.ret) (.skip))) (.seq (.seq (.r [.n 30 0,.n 31 7,.n 32 7,.d 33 3,.n 34 6,.i 35 1 33 34,.d 36 35,.q 37 (.build [.i .u32 0,.i .u32 0,.i .i64 0] [(0,1,(.t 31)),(1,1,(.t 32)),(2,1,(.t 36))]),⟨(some 38),.callV (.t 30) [.t 37],none⟩,.q 39 (.un .not (.t 38))]) (.cond (.t 39) (.ret) (.skip))) (.r [.n 40 7,.q 41 (.cvInt .u64 (.t 40)),.q 42 (.bin .add (.t 41) (.c (.i .u64 1))),.n 5 42]))))) (.r [.a 43 10 1,.n 10 43]))))))) (.seq (.r [.n 44 5,.q 45 (.bin .lss (.t 44) (.c (.i .u64 4294967296)))]) (.cond (.t 45) (.r [.n 46 0,.n 47 5,.q 48 (.cvInt .u32 (.t 47)),.d 49 2,.q 50 (.build [.i .u32 0,.i .u32 0,.i .i64 0] [(0,1,(.t 48)),(1,1,(.c (.i .u32 4294967295))),(2,1,(.t 49))]),⟨(some 51),.callV (.t 46) [.t 50],none⟩]) (.skip))))⟩
def qbt(a:Nat):ICode:=.seq (.r [.d 12 3,.n 2 12]) (.ret)
def qc1(a:Nat):IFn:=⟨[.tmp 2],.seq (.r [.m 2 .N]) (.seq (.r [.q 3 (.alloc [.nils])]) (.seq (.r [.q 6 (.mkF a [] [.t 3]),.q 4 (.alloc [.nilf]),.u (.store 1 (.t 4) (.t 6))]) (.seq (.seq (.r [.n 7 0]) (.blk 0 (.rangeF 0 (.t 7) [8] (.r [.q 5 (.alloc [.i .u32 0,.i .u32 0,.i .i64 0]),.u (.store 3 (.t 5) (.t 8))]) (.blk 1 (.r [.d 9 4,.v 10 3 5,⟨(some 11),.callV (.t 9) [.t 10],none⟩]))))) (.cut (qbt a)))))⟩
theorem qkV{n0 g1 br n:Nat}{s:Nat}{tr:Tr Blk}{t:Tr AV}{out:List Sp}(ht:t.get 3=some (.ptr 0 0))(h0:tr.get 0=some (.cells 0 true false [.own br out.length]))(hb:tr.get br=some (.cells 3 true true (rSp out)))(hn:n=out.length) :
  S P n0 (qbt g1) (qam [.tmp 2] fun v' h'=>Frz h' v' (.fz n (rSp out))) t ⟨s,0,tr⟩:=by
 refine S.has [(3,.ptr 0 0)] (by simp[qf,qh,ht]) (ql ?_);simp only[qbt,vI,simprocAttr];simp only[↓vS,vT,simprocAttr,h0];simp[vZ,vP,Tr.get_set,hb,hn,zq qeh];intro h;rw[h];rfl
theorem qnb{g1 g3:Nat}(hc:qc P f (qc1 g1)=true)(hc1:qc P g1 xY=true)(hc3:qc P g3 qbS=true)(l:List (Int×Nat))(o:Nat)(hl:l.length<=100000)(hr:∀x ∈ l,0<=x.1∧x.1<4294967296) :
  qd P f [.fn g3 [] [.pf [.fz l.length (qaD l)] 0,.pf [.i .i64 (o:Int)] 0,.pf [.fz l.length (qa3 l)] 0]] (.fz (zC (pcs o l 0)).length (rSp (zC (pcs o l 0)))):=by
 refine qd.mk hc (by simp[qw,clo,qcJ,qcK]) ?_;simp only[qc1,vI,simprocAttr];simp +decide only[↓vS,vT,simprocAttr];refine S.weak (Wk.mk (spT g3 l o) [.cells 0 true false [.own 2 0],.cells 0 true false [.fn g1 [] [.ptr 0 0]],.cells 3 true true []] [0,1,99] ?_ ?_ ?_ rfl) ?_
 ·simp[vw,spT,qcJ,qcK,qi]
 ·simp[vw]
 ·simp
 refine S.rangeF (by simp[qh6]) (by simp[spT]) ⟨rfl,rfl⟩ ?_;refine qkE.2 ⟨.fn g3 [] [.pf [.fz l.length (qaD l)] 0,.pf [.i .i64 (o:Int)] 0,.pf [.fz l.length (qa3 l)] 0],by simp[spT,mkT,Tr.get_set],?_⟩
 refine⟨qfe hc3,fun r0 hr0 hp0 hlo=>SC.mk hc3 ?_⟩
 have hlo:LoopOk P r0 [8] spA spB:=hlo;show S P 4 _ _ (qcq [.yl 3,.pf [.fz l.length (qaD l)] 0,.pf [.i .i64 (o:Int)] 0,.pf [.fz l.length (qa3 l)] 0] 0 .leaf) ⟨4,0,(((Tr.leaf.set 0 (.cells 0 true false [.own 2 0])).set 1 (.cells 0 true false [.fn g1 [] [.ptr 0 0]])).set 2 (.cells 3 true true [])).set 3 (.map (zr r0 (spT g3 l o)))⟩;refine ql ?_;simp only[qbS,vI,simprocAttr];simp +decide only[↓vS,vT,simprocAttr]
 refine SL.loopP (α:=Nat×Int) (fun i=>[(0,.yl 3),(1,.pf [.fz l.length (qaD l)] 0),(2,.pf [.i .i64 (o:Int)] 0),(3,.pf [.fz l.length (qa3 l)] 0),(5,.i .u64 i.2),(8,.fz l.length (qaD l)),(9,.i .i64 (l.length:Int)),(10,.i .i64 (i.1:Int))])
  (fun i h=>i.1<=l.length∧0<=i.2∧i.2<=4294967296∧∃s tr out,h=⟨s,0,tr⟩∧SpI g1 r0 (spT g3 l o) out s tr∧(pcs o (l.drop i.1) i.2).foldl x8 out=zC (pcs o l 0)∧out.length<=2*i.1) (fun i=>l.length-i.1) ?_ (0,0) ?_ ?_
 ·rintro⟨i,nx⟩ h1 ⟨hi,hx0,hx1,s,tr,out,rfl,hI,hE,hol⟩ G ih;simp only at hi hx0 hx1 hI hE hol;simp only[vI,simprocAttr]
  by_cases hlt:i<l.length
  ·have hlt':(i:Int)<l.length:=by omega
   obtain⟨x,hx⟩:∃x,l[i]?=some x:=⟨_,zzE hlt⟩;have hd:l.drop i=x::l.drop (i+1):=by rw[← (zzS.1 hx).2,List.getElem_cons_drop]
   obtain⟨x0,x1⟩:=hr x (zzM hx);have g1':(qaD l)[i]?=some (.i .u32 x.1):=by rw[qhF,hx];rfl
   have g2':(qa3 l)[i]?=some (.i .i64 (x.2:Int)):=by rw[qnj,hx];rfl
   have hw1:IntKind.wrap .i64 ((i:Int)+1)=((i+1:Nat):Int):=by rw[qu (by omega) (by omega)];simp
   have hw2:IntKind.wrap .u64 x.1=x.1:=qdx (by omega) (by omega);have hw3:IntKind.wrap .u64 (x.1+1)=x.1+1:=qdx (by omega) (by omega);rw[hd,pcs,List.foldl_append,List.foldl_cons] at hE
   -- the second yield
   have two:∀(s:Nat) (tr:Tr Blk) (out:List Sp),SpI g1 r0 (spT g3 l o) out s tr->out.length<=2*i+1->(pcs o (l.drop (i+1)) (x.1+1)).foldl x8 (x8 out ⟨x.1,x.1,x.2⟩)=zC (pcs o l 0)->∀k:AV->Hp->Prop,
     (∀s' tr' out',SpI g1 r0 (spT g3 l o) out' s' tr'->out'.length<=2*(i+1)->(pcs o (l.drop (i+1)) (x.1+1)).foldl x8 out'=zC (pcs o l 0)->k (.b true) ⟨s',0,tr'⟩)->SY P 3 [.agg (cSp ⟨x.1,x.1,x.2⟩)] ⟨s,0,tr⟩ k:=fun s tr out h1 h2 h3 k hk =>
    qj8 hc1 hr0 hp0 hlo h1 _ (by omega) fun s' tr' h4=>hk s' tr' _ h4 (by have:=qj7 (l:=out) (s:=⟨x.1,x.1,x.2⟩);omega) h3
   by_cases hn:nx<x.1
   ·have hw4:IntKind.wrap .u32 nx=nx:=qcC (by omega) (by omega);have hw5:IntKind.wrap .u32 (x.1-1)=x.1-1:=qcC (by omega) (by omega);rw[if_pos hn,List.foldl_cons,List.foldl_nil] at hE;simp +decide only[↓vS,vT,simprocAttr,hlt',hlt,g1',hw2,hn,hw4,hw5,Nat.mul_one];refine qj8 (x:=⟨nx,x.1-1,o⟩) hc1 hr0 hp0 hlo hI (by omega) fun s2 tr2 h2=>?_
    simp +decide only[↓vS,vT,simprocAttr,g2',hlt,Nat.mul_one];refine two _ _ _ h2 (by have:=qj7 (l:=out) (s:=⟨nx,x.1-1,o⟩);omega) hE _ fun s3 tr3 out3 h3 h4 h5=>?_
    simp +decide only[↓vS,vT,simprocAttr,hw1,hw2,hw3];refine ih (i+1,x.1+1) _ _ (by simp only;omega) ?_ ⟨by simp only;omega,by simp only;omega,by simp only;omega,s3,tr3,out3,rfl,h3,h5,h4⟩
    simp[qf,qh,Tr.get_set]
   ·rw[if_neg hn,List.foldl_nil] at hE;simp +decide only[↓vS,vT,simprocAttr,hlt',hlt,g1',g2',hw2,hn,Nat.mul_one];refine two _ _ _ hI (by omega) hE _ fun s3 tr3 out3 h3 h4 h5=>?_
    simp +decide only[↓vS,vT,simprocAttr,hw1,hw2,hw3];refine ih (i+1,x.1+1) _ _ (by simp only;omega) ?_ ⟨by simp only;omega,by simp only;omega,by simp only;omega,s3,tr3,out3,rfl,h3,h5,h4⟩
    simp[qf,qh,Tr.get_set]
  ·obtain rfl:i=l.length:=by omega
   have hlt':¬((l.length:Int)<l.length):=by omega
   rw[List.drop_length,pcs] at hE
   by_cases hn:nx<4294967296
   ·have hw4:IntKind.wrap .u32 nx=nx:=qcC (by omega) (by omega);rw[if_pos hn,List.foldl_cons,List.foldl_nil] at hE;simp +decide only[↓vS,vT,simprocAttr,hlt',hn,hw4];refine qj8 (x:=⟨nx,4294967295,o⟩) hc1 hr0 hp0 hlo hI (by omega) fun s2 tr2 h2=>?_
    simp +decide only[↓vS,vT,simprocAttr];obtain⟨br,q4,q0,qb,qbr,qbs,q1,q3⟩:=h2;refine⟨r0,spT g3 l o,q3,by rw[hr0];decide,?_⟩
    rw[hp0];simp only[zW];simp only[↓vS,vT,simprocAttr];rw[← hE];refine qkV (br:=br) (by simp[spT,mkT,Tr.get_set]) ?_ ?_ rfl
    ·rw[Tr.get_set,if_neg (by decide)];exact q0
    ·rw[Tr.get_set,if_neg (by show ¬br=3;omega)];exact qb
   ·rw[if_neg hn,List.foldl_nil] at hE;simp +decide only[↓vS,vT,simprocAttr,hlt',hn];obtain⟨br,q4,q0,qb,qbr,qbs,q1,q3⟩:=hI;refine⟨r0,spT g3 l o,q3,by rw[hr0];decide,?_⟩
    rw[hp0];simp only[zW];simp only[↓vS,vT,simprocAttr];rw[← hE];refine qkV (br:=br) (by simp[spT,mkT,Tr.get_set]) ?_ ?_ rfl
    ·rw[Tr.get_set,if_neg (by decide)];exact q0
    ·rw[Tr.get_set,if_neg (by show ¬br=3;omega)];exact qb
 ·simp[qf,qh,Tr.get_set]
 ·refine⟨Nat.zero_le _,by simp,by simp,4,_,[],rfl,⟨2,by omega,?_,?_,.inl rfl,by omega,?_,?_⟩,rfl,by simp⟩<;>simp[Tr.get_set,rSp]
def qgL(a b:Nat):IFn:=⟨[.tmp 6,.tmp 7],.seq (.r [.m 6 .N,.m 7 (.k 0)]) (.seq (.seq (.r [.n 9 0,.e 10 9,.n 11 1,.e 12 11,.b 13 .neq 10 12]) (.cond (.t 13) (.seq (.r [.m 6 .N,.m 7 (.k 2)]) (.ret)) (.skip))) (.seq (.seq (.r [.n 14 0,.e 15 14,.m 16 (.k 0)]) (.blk 0 (.loop (.seq (.r [.s 17 16 15]) (.seq (.cond (.t 17) (.skip) (.exit 0)) (.seq (.blk 1 (.seq (.r [.n 18 16,.n 8 18]) (.seq (.reg true [.n 19 8,.w 20 .gtr 19 0,.n 21 20,.y 22 0 21,.y 23 8 21,.g 24 (.iAddrS 1 (.t 22) (.t 23)) 21 true,.j 25 24 21 true,.y 26 0 21,.y 27 8 21,.g 28 (.bin .sub (.t 27) (.k 1)) 21 true,.g 29 (.iAddrS 1 (.t 26) (.t 28)) 21 true,.j 30 29 21 true,.g 31 (.bin .leq (.t 25) (.t 30)) 21 true,.p 32 21 31]) (.cond (.t 32) (.seq (.r [.m 6 .N,.m 7 (.k 2)]) (.ret)) (.skip))))) (.r [.a 33 16 1,.n 16 33]))))))) (.seq (.r [.n 34 0,.n 35 1,.n 36 2,.l 37 a [.t 34,.t 35,.t 36],.l 38 b [.t 37],.n 6 38,.m 7 (.k 0)]) (.ret))))⟩
def qt5(l:List (Int×Nat)):Prop:=∀(i:Nat) a b,l[i]?=some a->l[i+1]?=some b->a.1<b.1
theorem qAU{g1 g2 g3:Nat}(hc:qc P f (qgL g1 g2)=true)(l:List (Int×Nat))(o:Nat)(h1:qd P g1 [.fz l.length (qaD l),.fz l.length (qa3 l),.i .i64 (o:Int)] (.fn g3 [] [.pf [.fz l.length (qaD l)] 0,.pf [.i .i64 (o:Int)] 0,.pf [.fz l.length (qa3 l)] 0]))
  (h2:qd P g2 [.fn g3 [] [.pf [.fz l.length (qaD l)] 0,.pf [.i .i64 (o:Int)] 0,.pf [.fz l.length (qa3 l)] 0]] (.fz (zC (pcs o l 0)).length (rSp (zC (pcs o l 0))))) (hl:l.length<=100000) (hr:qt5 l) :
  qd P f [.fz l.length (qaD l),.fz l.length (qa3 l),.i .i64 (o:Int)] (.tup [.fz (zC (pcs o l 0)).length (rSp (zC (pcs o l 0))),.i .i64 0]):=by
 refine qd.mk hc (by simp[qw,clo,qcJ,qcK]) ?_;simp only[qgL,vI,simprocAttr];have hne:¬¬(l.length:Int)=l.length:=fun h=>h rfl
 simp +decide only[↓vS,vT,simprocAttr];refine SL.loopP (α:=Nat) (fun i=>[(0,.fz l.length (qaD l)),(1,.fz l.length (qa3 l)),(2,.i .i64 (o:Int)),(15,.i .i64 (l.length:Int)),(16,.i .i64 (i:Int))]) (fun i h=>i<=l.length∧h.fl=0) (fun i=>l.length-i) ?_ 0 ?_ ?_
 ·rintro i ⟨s,fl,tr⟩ ⟨hi,rfl⟩ G ih;simp only[vI,simprocAttr]
  by_cases hlt:i<l.length
  ·have hlt':(i:Int)<l.length:=by omega
   have hw1:IntKind.wrap .i64 ((i:Int)+1)=((i+1:Nat):Int):=by rw[qu (by omega) (by omega)];simp
   simp +decide only[↓vS,vT,simprocAttr,hlt'];refine zT ?_;rcases Nat.eq_zero_or_pos i with h0|h0
   ·have h0':¬(0:Int)<(i:Int):=by omega
    simp +decide only[↓vS,vT,simprocAttr,h0',hw1];exact ih (i+1) _ _ (by omega) (by simp[qf,qh,Tr.get_set]) ⟨by omega,rfl⟩
   ·have h0':(0:Int)<(i:Int):=by omega
    obtain⟨a,ha⟩:∃x,l[i-1]?=some x:=⟨_,zzE (by omega)⟩;obtain⟨b,hb⟩:∃x,l[i]?=some x:=⟨_,zzE hlt⟩;have hab:=hr (i-1) a b ha (by rw[Nat.sub_add_cancel h0];exact hb);have e1:IntKind.wrap .i64 ((i:Int)-1)=((i-1:Nat):Int):=by rw[qu (by omega) (by omega)];omega
    have g1:(qaD l)[i-1]?=some (.i .u32 a.1):=by rw[qhF,ha];rfl
    have g2:(qaD l)[i]?=some (.i .u32 b.1):=by rw[qhF,hb];rfl
    have hlt2:i-1<l.length:=by omega
    have hle:¬b.1<=a.1:=by omega
    simp +decide only[↓vS,vT,simprocAttr,h0',hw1,e1,g1,g2,hlt,hlt2,hle,Nat.mul_one];exact ih (i+1) _ _ (by omega) (by simp[qf,qh,Tr.get_set]) ⟨by omega,rfl⟩
  ·obtain rfl:i=l.length:=by omega
   have hlt':¬((l.length:Int)<l.length):=by omega
   simp +decide only[↓vS,vT,simprocAttr,hlt'];refine h1.sc ?_;simp +decide only[↓vS,vT,simprocAttr];refine h2.sc ?_;simp +decide only[↓vS,vT,simprocAttr];simp[vZ,zq qeh]
 ·simp[qf,qh,Tr.get_set]
 ·exact⟨Nat.zero_le _,rfl⟩
def qiN:List Sp->Int->Bool
 | [],nx=>decide (nx=4294967296)
 | s::l,nx=>if s.fr≠nx∨s.to<s.fr then false else qiN l (s.to+1)
def SpR(l:List Sp):Prop:=∀s ∈ l,0<=s.fr∧s.fr<4294967296∧0<=s.to∧s.to<4294967296
def qdF:IFn:=⟨[.tmp 2],.seq (.r [.m 2 .F]) (.seq (.r [.m 3 (.c (.i .u64 0))]) (.seq (.seq (.r [.n 6 0,.e 7 6,.m 8 (.k 0)]) (.blk 0 (.loop (.seq (.r [.s 9 8 7]) (.seq (.cond (.t 9) (.skip) (.exit 0)) (.seq (.blk 1 (.seq (.r [.i 10 3 6 8,.v 11 3 10,.q 5 (.alloc [.i .u32 0,.i .u32 0,.i .i64 0]),.u (.store 3 (.t 5) (.t 11))]) (.seq (.seq (.r [.f 12 0 5,.d 13 12,.q 14 (.cvInt .u64 (.t 13)),.n 15 3,.b 16 .neq 14 15,.n 17 16,.h 18 1 5 17 false,.j 19 18 17 false,.h 20 0 5 17 false,.j 21 20 17 false,.g 22 (.bin .lss (.t 19) (.t 21)) 17 false,.o 23 17 22]) (.cond (.t 23) (.seq (.r [.m 2 .F]) (.ret)) (.skip))) (.r [.f 24 1 5,.d 25 24,.q 26 (.cvInt .u64 (.t 25)),.q 27 (.bin .add (.t 26) (.c (.i .u64 1))),.n 3 27])))) (.r [.a 28 8 1,.n 8 28]))))))) (.seq (.r [.n 29 3,.q 30 (.bin .eql (.t 29) (.c (.i .u64 4294967296))),.n 2 30]) (.ret))))⟩
theorem qok(hc:qc P f qdF=true)(l:List Sp)(hl:l.length<=1000000)(hr:SpR l):qd P f [.fz l.length (rSp l)] (.b (qiN l 0)):=by
 refine qd.mk hc (by simp[qw,clo,qeh]) ?_;simp only[qdF,vI,simprocAttr];simp +decide only[↓vS,vT,simprocAttr];refine SL.loopP (α:=Nat×Int) (fun i=>[(3,.i .u64 i.2),(6,.fz l.length (rSp l)),(7,.i .i64 (l.length:Int)),(8,.i .i64 (i.1:Int))]) (fun i h=>i.1<=l.length∧h.fl=0∧qiN (l.drop i.1) i.2=qiN l 0) (fun i=>l.length-i.1) ?_ (0,0) ?_ ?_
 ·rintro⟨i,nx⟩ ⟨s,fl,tr⟩ ⟨hi,rfl,hE⟩ G ih;simp only at hi hE;simp only[vI,simprocAttr]
  by_cases hlt:i<l.length
  ·have hlt':(i:Int)<l.length:=by omega
   obtain⟨x,hx⟩:∃x,l[i]?=some x:=⟨_,zzE hlt⟩;have hd:l.drop i=x::l.drop (i+1):=by rw[← (zzS.1 hx).2,List.getElem_cons_drop]
   obtain⟨x0,x1,x2,x3⟩:=hr x (zzM hx);have hel:=qtX hx;have h3:i*3+3<=(rSp l).length:=by rw[qeK];omega
   have hw1:IntKind.wrap .i64 ((i:Int)+1)=((i+1:Nat):Int):=by rw[qu (by omega) (by omega)];simp
   have hw2:IntKind.wrap .u64 x.fr=x.fr:=qdx (by omega) (by omega);have hw3:IntKind.wrap .u64 x.to=x.to:=qdx (by omega) (by omega);have hw4:IntKind.wrap .u64 (x.to+1)=x.to+1:=qdx (by omega) (by omega);rw[hd,qiN] at hE
   by_cases c1:x.fr=nx
   ·subst c1
    by_cases c2:x.to<x.fr
    ·rw[if_pos (.inr c2)] at hE;simp +decide only[↓vS,vT,simprocAttr,hlt',hlt,h3,hel,cSp,hw2,c2,← hE];simp[vZ]
    ·rw[if_neg (by simp[c2])] at hE;simp +decide only[↓vS,vT,simprocAttr,hlt',hlt,h3,hel,cSp,hw2,hw3,hw4,c2,hw1];exact ih (i+1,x.to+1) _ _ (by simp only;omega) (by simp[qf,qh,Tr.get_set]) ⟨by simp only;omega,rfl,hE⟩
   ·rw[if_pos (.inl c1)] at hE;simp +decide only[↓vS,vT,simprocAttr,hlt',hlt,h3,hel,cSp,hw2,c1,← hE];simp[vZ]
  ·obtain rfl:i=l.length:=by omega
   have hlt':¬((l.length:Int)<l.length):=by omega
   rw[List.drop_length,qiN] at hE;simp +decide only[↓vS,vT,simprocAttr,hlt',hE];simp[vZ]
 ·simp[qf,qh,Tr.get_set]
 ·exact⟨Nat.zero_le _,rfl,rfl⟩
def zt(l:List Sp)(at':Nat):List Nd :=
 if _h:l.length / 2=0 then [⟨true,(l.headD ⟨0,0,0⟩).way,0,0,0⟩] else
  ⟨false,0,(l.getD (l.length / 2) ⟨0,0,0⟩).fr,at'+1,at'+1+(zt (l.take (l.length / 2)) (at'+1)).length⟩::(zt (l.take (l.length / 2)) (at'+1)++zt (l.drop (l.length / 2)) (at'+1+(zt (l.take (l.length / 2)) (at'+1)).length))
termination_by l.length
decreasing_by all_goals (simp;omega)
theorem qcM(n:Nat):∀(l:List Sp) (a:Nat),l.length<=n->0<l.length->(zt l a).length+1=2*l.length:=by
 induction n with
 | zero=>intro l a h1 h2;omega
 | succ n ih =>
  intro l a h1 h2;rw[zt];split
  ·simp;omega
  ·simp only[List.length_cons,List.length_append];have e1:=ih (l.take (l.length / 2)) (a+1) (by simp;omega) (by simp;omega);have e2:=ih (l.drop (l.length / 2)) (a+1+(zt (l.take (l.length / 2)) (a+1)).length) (by simp;omega) (by simp;omega);simp at e1 e2;omega
theorem qtY{l:List Sp}{k:Nat}:(rSp l).take (k*3)=rSp (l.take k):=qfS qfN l k
theorem qtW{l:List Sp}{k:Nat}:(rSp l).drop (k*3)=rSp (l.drop k):=qd4 qfN l k
theorem qo9{l m:List Nd}:rNd l++rNd m=rNd (l++m):=by simp[rNd]
theorem qtT{l:List Nd}:qw (rNd l)=true:=xW fun _=>rfl
def jo:IFn:=⟨[],.seq (.r [.n 6 0,.e 7 6,.w 8 .quo 7 2,.n 4 8]) (.seq (.seq (.r [.n 9 4,.w 10 .eql 9 0]) (.cond (.t 10) (.seq (.reg true [.d 11 1,.n 12 0,.q 13 (.iAddrS 3 (.t 12) (.k 0)),.f 14 2 13,.d 15 14,.q 16 (.build [.b false,.i .i64 0,.i .u32 0,.i .i64 0,.i .i64 0] [(0,1,.T),(1,1,(.t 15))]),.q 17 (.buildS 1 [.b false,.i .i64 0,.i .u32 0,.i .i64 0,.i .i64 0] [(0,5,(.t 16))]),.q 18 (.app 5 40 true (.t 11) (.t 17)),.u (.store 1 (.t 1) (.t 18))]) (.ret)) (.skip))) (.seq (.r [.d 19 1,.e 20 19,.n 5 20]) (.seq (.reg true [.d 21 1,.n 22 0,.n 23 4,.i 24 3 22 23,.f 25 0 24,.d 26 25,.n 27 5,.a 28 27 1,.q 29 (.build [.b false,.i .i64 0,.i .u32 0,.i .i64 0,.i .i64 0] [(2,1,(.t 26)),(3,1,(.t 28))]),.q 30 (.buildS 1 [.b false,.i .i64 0,.i .u32 0,.i .i64 0,.i .i64 0] [(0,5,(.t 29))]),.q 31 (.app 5 40 true (.t 21) (.t 30)),.u (.store 1 (.t 1) (.t 31))]) (.seq (.reg true [.d 32 2,.n 33 0,.n 34 4,.n 35 4,.q 36 (.slcS 3 (.t 33) none (some (.t 34)) (some (.t 35))),⟨(some 37),.callVW (.t 32) [.t 36],none⟩]) (.seq (.r [.d 38 1,.n 39 5,.d 40 1,.e 41 40,.i 42 5 38 39,.f 43 4 42,.u (.store 1 (.t 43) (.t 41))]) (.reg true [.d 44 2,.n 45 0,.n 46 4,.n 47 0,.e 48 47,.n 49 0,.e 50 49,.q 51 (.slcS 3 (.t 45) (some (.t 46)) (some (.t 48)) (some (.t 50))),⟨(some 52),.callVW (.t 44) [.t 51],none⟩]))))))⟩
theorem qpp{h:Hp}{esz n c:Nat}{q2 q3:IntKind}{cs:List AV}{k:AV->Prop}(h1:0<c)(h2:c<=n)(h3:c*esz<=cs.length):slK esz none (some (.i q2 (c:Int))) (some (.i q3 (c:Int))) (.fz n cs) h k↔evA (.fz c (cs.take (c*esz))) k:=by
 have hne:Nat.beq c 0=false:=by
  cases hb:Nat.beq c 0 with
  | false=>rfl
  | true=>have:=Nat.eq_of_beq_eq_true hb;omega
 simp only[slK,qiU,qiR];show (ifK (c<=n) (ifK (c<=c) _))↔_;simp only[ifK,h2,Nat.le_refl,true_and,Option.isSome_some,hne,Bool.true_and,Bool.false_eq_true,if_false];show (0*esz<=cs.length∧(c-0)*esz<=(cs.drop (0*esz)).length∧_)↔_;simp only[Nat.zero_mul,Nat.zero_le,Nat.sub_zero,List.drop_zero,h3,true_and];exact Iff.rfl
theorem qwK{l:List Nd}{j:Nat}{x:Nd}(m:Nat)(h:l[j]?=some x):(rNd l).take (j*5+4) ++ .i .i64 (m:Int)::(rNd l).drop (j*5+4+1)=rNd (l.set j ⟨x.leaf,x.way,x.at',x.less,m⟩) :=
 qfj (f:=cNd) (x':=⟨x.leaf,x.way,x.at',x.less,m⟩) (v:=.i .i64 (m:Int)) (i:=4) qiV h (by omega) rfl
noncomputable def qhT(tr:Tr Blk)(s bt b1:Nat)(T:List Nd)(x:Nd):Tr Blk:=(((tr.set s (.cells 0 true false (cNd x))).set bt .dead).set (s+1) (.cells 5 true true (rNd T++cNd x))).set b1 (.cells 0 true false [.own (s+1) (T.length+1)])
theorem qzj{g:Nat}(hc:qc P g jo=true):∀(n:Nat) (l:List Sp),l.length<=n->0<l.length->∀(s:Nat) (tr:Tr Blk) (b1 b2 bt:Nat) (T:List Nd),tr.get b1=some (.cells 0 true false [.own bt T.length])->tr.get bt=some (.cells 5 true true (rNd T))->
  tr.get b2=some (.cells 0 true false [.fn g [] [.ptr b1 0,.ptr b2 0]])->b1≠bt->b2≠bt->b1≠b2->b1<s->b2<s->bt<s->T.length+2*l.length<=1000000->
  ∃s' tr' bt',s<=s'∧(∀b,b<s->b≠b1->b≠bt->tr'.get b=tr.get b)∧tr'.get b1=some (.cells 0 true false [.own bt' (T++zt l T.length).length])∧tr'.get bt'=some (.cells 5 true true (rNd (T++zt l T.length)))∧(bt'=bt∨s<=bt')∧bt'<s' ∧
   ∀k:AV->Hp->Prop,k (.tup []) ⟨s',0,tr'⟩->SC P g [.fz l.length (rSp l),.ptr b1 0,.ptr b2 0] ⟨s,0,tr⟩ k:=by
 intro n
 induction n with
 | zero=>intro l h1 h2;omega
 | succ n ih =>
  intro l hn h0 s tr b1 b2 bt T g1 gt g2 n1 n2 n3 l1 l2 l3 hm
  have e2:((l.length:Nat):Int).tdiv 2=((l.length / 2:Nat):Int):=by
   rw[Int.tdiv_eq_ediv_of_nonneg (by omega)];omega
  have ew:IntKind.wrap .i64 ((l.length / 2:Nat):Int)=((l.length / 2:Nat):Int):=qu (by omega) (by omega);have h20:(2:Int)≠0:=by decide
  have r1:T.length+1<=qg:=by simp only[qg];omega
  have r2:(T.length+1)*40<=qg:=by simp only[qg];omega
  have m1:¬b1=s:=by omega
  have m2:¬b2=s:=by omega
  have m3:¬bt=s:=by omega
  have m4:¬s=bt:=by omega
  have m5:¬b1=bt:=n1;have m6:¬b1=s+1:=by omega
  have hTl:(rNd T).length=T.length*5:=qja
  by_cases hk:l.length / 2=0
  ·have hl1:l.length=1:=by omega
   obtain⟨x,rfl⟩:∃x,l=[x]:=List.length_eq_one_iff.1 hl1;have hT:zt [x] T.length=[⟨true,x.way,0,0,0⟩]:=by rw[zt];simp
   rw[hT];refine⟨s+1+1,qhT tr s bt b1 T ⟨true,x.way,0,0,0⟩,s+1,by omega,?_,?_,?_,.inr (by omega),by omega,fun k hk=>?_⟩
   ·intro b q1 q2 q3;simp only[qhT,Tr.get_set];repeat rw[if_neg (by omega)]
   ·rw[qhT,Tr.get_set,if_pos rfl];simp
   ·rw[qhT,Tr.get_set,if_neg (by omega),Tr.get_set,if_pos rfl,← qo9];rfl
   ·refine SC.mk hc (ql ?_);simp only[jo,vI,simprocAttr];simp +decide only[↓vS,vT,simprocAttr,↓qiS h20,e2,ew];refine zT ?_;simp +decide only[↓vS,vT,simprocAttr,rSp,cSp,List.flatMap_cons,List.flatMap_nil,g1,gt,m1,m2,m3,m4,m5,m6,r1,r2,hTl];exact hk
  ·have hk0:¬(((l.length / 2:Nat)):Int)=0:=by omega
   obtain⟨x,hx⟩:∃x,l[l.length / 2]?=some x:=⟨_,zzE (by omega)⟩;have hxD:l.getD (l.length / 2) ⟨0,0,0⟩=x:=by rw[List.getD_eq_getElem?_getD,hx];rfl
   have gx:=qpf hx (i:=0) (by omega);have gx':(rSp l)[l.length / 2*3]?=some (.i .u32 x.fr):=gx;have hlk:l.length / 2<l.length:=by omega
   have hw1:IntKind.wrap .i64 ((T.length:Int)+1)=((T.length+1:Nat):Int):=by rw[qu (by omega) (by omega)];simp
   obtain⟨nd,hnd⟩:∃nd:Nd,nd=⟨false,0,x.fr,T.length+1,0⟩:=⟨_,rfl⟩;have a1:(qhT tr s bt b1 T nd).get b1=some (.cells 0 true false [.own (s+1) (T++[nd]).length]):=by rw[qhT,Tr.get_set,if_pos rfl];simp
   have at1:(qhT tr s bt b1 T nd).get (s+1)=some (.cells 5 true true (rNd (T++[nd]))):=by rw[qhT,Tr.get_set,if_neg (by omega),Tr.get_set,if_pos rfl,← qo9];simp[rNd]
   have ae:∀b,b<s->b≠b1->b≠bt->(qhT tr s bt b1 T nd).get b=tr.get b:=fun b q1 q2 q3=>by
    simp only[qhT,Tr.get_set];repeat rw[if_neg (by omega)]
   obtain⟨s2,tr2,bt2,q1,q2,q3,q4,q5,q6,q7⟩:=ih (l.take (l.length / 2)) (by simp;omega) (by simp;omega) (s+1+1) (qhT tr s bt b1 T nd) b1 b2 (s+1) (T++[nd]) a1 at1 ((ae b2 l2 (Ne.symm n3) n2).trans g2) (by omega) (by omega) n3 (by omega) (by omega) (by omega) (by simp;omega);have hlt:(l.take (l.length / 2)).length=l.length / 2:=by simp;omega
   rw[show (T++[nd]).length=T.length+1 by simp] at q3 q4
   have htl:=qcM l.length (l.take (l.length / 2)) (T.length+1) (by simp;omega) (by simp;omega);rw[hlt] at q7 htl;obtain⟨L,hL⟩:∃L,L=zt (l.take (l.length / 2)) (T.length+1):=⟨_,rfl⟩;rw[← hL] at q3 q4 htl;have hget:(T++[nd]++L)[T.length]?=some nd:=by simp
   have hT3:(T++[nd]++L).set T.length ⟨nd.leaf,nd.way,nd.at',nd.less,(T++[nd]++L).length⟩=T++[⟨false,0,x.fr,T.length+1,T.length+1+L.length⟩]++L:=by
    rw[hnd];simp[List.set_append];omega
   have hset:=qwK (T++[nd]++L).length hget;rw[hT3] at hset;have hl3:T.length*5+4+1<=(rNd (T++[nd]++L)).length:=by rw[qja];simp;omega
   have hn5:b1≠bt2:=by omega
   have hn6:b2≠bt2:=by omega
   obtain⟨T3,hT3e⟩:∃T3:List Nd,T3=T++[⟨false,0,x.fr,T.length+1,T.length+1+L.length⟩]++L:=⟨_,rfl⟩;have hT3l:T3.length=(T++[nd]++L).length:=by rw[hT3e];simp
   have b2g:=(q2 b2 (by omega) (Ne.symm n3) (by omega)).trans ((ae b2 l2 (Ne.symm n3) n2).trans g2)
   obtain⟨s4,tr4,bt4,p1,p2,p3,p4,p5,p6,p7⟩:=ih (l.drop (l.length / 2)) (by simp;omega) (by simp;omega) s2 (tr2.set bt2 (.cells 5 true true (rNd T3))) b1 b2 bt2 T3 (by rw[Tr.get_set,if_neg hn5,q3,hT3l]) (by rw[Tr.get_set,if_pos rfl])
    (by rw[Tr.get_set,if_neg hn6];exact b2g) hn5 hn6 n3 (by omega) (by omega) (by omega) (by rw[hT3l];simp;omega)
   have hld:(l.drop (l.length / 2)).length=l.length-l.length / 2:=by simp
   rw[hld] at p7
   have hfin:T++zt l T.length=T3++zt (l.drop (l.length / 2)) T3.length:=by
    have e3:T3.length=T.length+1+L.length:=by rw[hT3l];simp;omega
    conv=>lhs;rw[zt,dif_neg hk]
    rw[hxD,← hL,e3,hT3e];simp
   refine⟨s4,tr4,bt4,by omega,?_,?_,?_,by omega,p6,fun k hkk=>?_⟩
   ·intro b e1 e2 e3;rw[p2 b (by omega) e2 (by omega),Tr.get_set,if_neg (by omega),q2 b (by omega) e2 (by omega)];exact ae b e1 e2 e3
   ·rw[hfin];exact p3
   ·rw[hfin];exact p4
   ·have v1:(qhT tr s bt b1 T nd).get b2=some (.cells 0 true false [.fn g [] [.ptr b1 0,.ptr b2 0]]):=(ae b2 l2 (Ne.symm n3) n2).trans g2;have k1:0<l.length / 2:=by omega
    have k2:l.length / 2<=l.length:=by omega
    have k3:l.length / 2*3<=(rSp l).length:=by rw[qeK];omega
    have k4:l.length / 2<l.length:=hlk;have k5:l.length<=l.length:=Nat.le_refl _;have k6:l.length*3<=(rSp l).length:=by rw[qeK];omega
    have hsl1:(rSp l).take (l.length / 2*3)=rSp (l.take (l.length / 2)):=qtY
    have hsl2:((rSp l).drop (l.length / 2*3)).take ((l.length-l.length / 2)*3)=rSp (l.drop (l.length / 2)):=by
     rw[qtW,List.take_of_length_le (by rw[qeK,hld];omega)]
    refine SC.mk hc (ql ?_);simp only[jo,vI,simprocAttr];simp +decide only[↓vS,vT,simprocAttr,↓qiS h20,e2,ew,hk0,g1];refine zT ?_;simp +decide only[↓vS,vT,simprocAttr,g1,gt,gx',hlk,hw1,m1,m2,m3,m4,m5,m6,r1,r2,hTl];refine zT ?_;rw[hnd] at q7;simp only[qhT,cNd] at q7;have m7:¬b2=b1:=Ne.symm n3;have m8:¬b2=s+1:=by omega
    have m9:¬b2=bt:=n2;simp +decide only[↓vS,vT,simprocAttr,m7,m8,m9,m2,g2,↓qpp k1 k2 k3,hsl1];refine⟨.tup [],_,q7,?_⟩;obtain⟨A,hA⟩:∃A,A=T++[nd]++L:=⟨_,rfl⟩;have k7:T.length<A.length:=by rw[hA];simp
    rw[← hA] at q3 q4 hl3 hset;rw[← hT3e] at hset;have k8:¬b1=bt2:=hn5;have k9:¬b2=bt2:=hn6;simp +decide only[↓vS,vT,simprocAttr,q3,q4,k7,k8,hl3,hset];refine zT ?_;simp +decide only[↓vS,vT,simprocAttr,k9,b2g,↓qAQ k4 k5 k6,hsl2];exact⟨.tup [],_,p7,hkk⟩
def qd6(a b:Nat):ICode:=.seq (.r [.d 10 5,.n 11 0,⟨(some 12),.callV (.t 10) [.t 11],none⟩]) (.seq (.r [.d 13 4,.n 2 13,.m 3 (.k 0)]) (.ret))
def qdG(a b:Nat):IFn:=⟨[.tmp 2,.tmp 3],.seq (.r [.m 2 .N,.m 3 (.k 0)]) (.seq (.seq (.r [.n 6 0,.l 7 a [.t 6],.q 8 (.un .not (.t 7))]) (.cond (.t 8) (.seq (.r [.m 2 .N,.m 3 (.k 240)]) (.ret)) (.skip))) (.seq (.r [.q 4 (.alloc [.nils])]) (.seq (.r [.q 5 (.alloc [.nilf])]) (.seq (.r [.q 9 (.mkF b [] [.t 4,.t 5]),.u (.store 1 (.t 5) (.t 9))]) (.cut (qd6 a b))))))⟩
def qop(l:List Sp):AV:=if qiN l 0=true then .tup [.fz (zt l 0).length (rNd (zt l 0)),.i .i64 0] else .tup [.fz 0 [],.i .i64 240]
theorem qqZ{g1 g2:Nat}(hc:qc P f (qdG g1 g2)=true)(h2:qc P g2 jo=true)(l:List Sp)(h1:qd P g1 [.fz l.length (rSp l)] (.b (qiN l 0)))(hl:l.length<=400000)(h0:0<l.length):qd P f [.fz l.length (rSp l)] (qop l):=by
 refine qd.mk hc (by simp[qw,clo,qeh]) ?_;simp only[qdG,vI,simprocAttr];simp +decide only[↓vS,vT,simprocAttr];refine h1.sc ?_;unfold qop;cases hw:qiN l 0 with
 | false =>
  simp +decide only[↓vS,vT,simprocAttr];simp[vZ]
 | true =>
  simp +decide only[↓vS,vT,simprocAttr];refine S.weak (Wk.mk [(0,.fz l.length (rSp l)),(4,.ptr 0 0),(5,.ptr 1 0)] [.cells 0 true false [.own 2 0],.cells 0 true false [.fn g2 [] [.ptr 0 0,.ptr 1 0]],.cells 5 true true []] [0,1,99] ?_ ?_ ?_ rfl) (ql ?_)
  ·simp[vw,qeh]
  ·simp[vw]
  ·simp
  simp only[qd6,vI,simprocAttr];simp +decide only[↓vS,vT,simprocAttr]
  obtain⟨s',tr',bt',q1,q2,q3,q4,q5,q6,q7⟩:=qzj h2 l.length l (Nat.le_refl _) h0 3 (((Tr.leaf.set 0 (.cells 0 true false [.own 2 0])).set 1 (.cells 0 true false [.fn g2 [] [.ptr 0 0,.ptr 1 0]])).set 2 (.cells 5 true true [])) 0 1 2 []
   (by simp[Tr.get_set]) (by simp[Tr.get_set,rNd]) (by simp[Tr.get_set]) (by decide) (by decide) (by decide) (by decide) (by decide) (by decide) (by simp;omega)
  refine q7 _ ?_;simp +decide only[↓vS,vT,simprocAttr,q3];simp[vZ,vP,q4,zq qtT];intro h;rw[h];rfl
def qcp:List GTest->Nat
 | []=>1
 | t::ts=>qbz t+if t.mask=0 then 0 else qcp ts
theorem qj9:∀{ts:List GTest} {a:Int} {p:Nat},(qbV ts a p).length=qcp ts
 | [],_,_=>rfl
 | t::ts,a,p=>by
  unfold qbV qcp;rw[List.length_append,qcL];split
  ·rfl
  ·rw[qj9]
def qlT(r:GRule):Nat:=qcp r.tests
theorem qj2{r:GRule}{p:Nat}:(qqS r p).length=qlT r:=qj9
theorem qij:∀{ts:List GTest},qcp ts<=ts.length*7+1
 | []=>by simp[qcp]
 | t::ts=>by
  unfold qcp;have:=qnw (t:=t);have:=qij (ts:=ts)
  simp only[List.length_cons];split<;>omega
def zO:List GRule->Nat->List Sy
 | [],_=>[]
 | r::rs,p=>qqS r p++zO rs (p+qlT r)
def zg(rs:List GRule):Nat:=(rs.map qlT).sum
theorem qa4:∀{rs:List GRule} {p:Nat},(zO rs p).length=zg rs
 | [],_=>rfl
 | r::rs,p=>by unfold zO;rw[List.length_append,qj2,qa4];simp[zg]
theorem qiD:∀{rs:List GRule} {r:GRule} {p:Nat},zO (rs++[r]) p=zO rs p++qqS r (p+zg rs)
 | [],r,p=>by simp[zO,zg]
 | x::rs,r,p=>by rw[List.cons_append,zO,zO,qiD,List.append_assoc];simp[zg];congr 1;omega
theorem qif:∀{rs:List GRule},(∀r ∈ rs,r.tests.length<=32)->zg rs<=rs.length*225
 | [],_=>by simp[zg]
 | r::rs,h=>by
  have:=qij (ts:=r.tests);have:=h r (by simp);have:=qif (rs:=rs) fun x hx=>h x (by simp[hx])
  simp[zg,qlT] at this ⊢;omega
theorem qiE{rs:List GRule}{i:Nat}:zg (rs.take i)<=zg rs:=by
 have h:zg rs=zg (rs.take i)+zg (rs.drop i):=by
  conv=>lhs;rw[← List.take_append_drop i rs]
  simp only[zg,List.map_append,List.sum_append]
 omega
def qH(rs:List GRule):List (Int×Nat):=rs.mapIdx fun i r=>(r.nr,i+1)
theorem qaC{rs:List GRule}:(qH rs).length=rs.length:=by simp[qH]
theorem qcI{rs:List GRule}{j:Nat}:(qH rs)[j]?=(rs[j]?).map fun r=>(r.nr,j+1):=by simp[qH]
def qM(x:GFil):List Nd:=zt (zC (pcs 0 (qH x.rules) 0)) 0
def jaN:List Nd->Nat
 | n::_=>if n.leaf=true then 1 else 0
 | []=>0
theorem qlA{FW:Nat->Nat}{T:List Nd}:(jaE FW T).length=jaN T:=by
 cases T with
 | nil=>rfl
 | cons n T=>simp only[jaE,jaN];split<;>rfl
theorem x5{FW:Nat->Nat}{T:List Nd}{p:Nat}:(z8 FW T p).length=jaN T+zY T:=by
 unfold z8;rw[List.length_append,qlA,qou]
def jg(x:GFil):Nat:=jl x.arch+(jaN (qM x)+zY (qM x))
def xz(x:GFil)(j:Nat):Nat:=if j=0 then jg x else jg x+1+zg (x.rules.take (j-1))
def xw(x:GFil):Nat:=jg x+1+zg x.rules
def zd(x:GFil):List Sy:=qa2 x.arch 0 (xw x)++z8 (xz x) (qM x) (jl x.arch)++[⟨6,x.dflt,0,0⟩]++zO x.rules (jg x+1)++[⟨6,2147418112,0,0⟩]
theorem qkD{x:GFil}:(zd x).length=xw x+1:=by
 unfold zd xw jg;simp only[List.length_append,jr,x5,qa4,List.length_singleton]
structure FilR (x:GFil):Prop where
 nr:∀r ∈ x.rules,0<=r.nr∧r.nr<4294967296
 ts:∀r ∈ x.rules,∀t ∈ r.tests,0<=t.mask∧t.mask<18446744073709551616∧0<=t.val∧t.val<18446744073709551616
theorem Stp.kd'{L L':List Nat}{κ κ1:Nat->Kd}{s s1:Nat}{tr t1 t2:Tr Blk}(a:Stp L κ s tr κ1 s1 t1){b F':Nat}(hb:κ b = .no)(hf:∀c,κ1 c = .fr->t2.get c=t1.get c)(hx:∀c,κ1 c = .box->t2.get c=t1.get c)(hL:∀c ∈ L,c=b∨c ∈ L'):Stp L' κ s tr (kdS κ1 b (.lab F' true)) s1 t2:=by
 have ne:∀{c},κ c≠.no->c≠b:=fun h e=>h (e ▸ hb)
 refine⟨a.le,fun c hc=>?_,fun c hc=>?_,fun c F p hc=>?_,fun c F hc=>?_⟩
 ·rw[qe (ne (by rw[hc];simp))];exact⟨(a.fr c hc).1,(hf c (a.fr c hc).1).trans (a.fr c hc).2⟩
 ·rw[qe (ne (by rw[hc];simp))];exact⟨(a.box c hc).1,(hx c (a.box c hc).1).trans (a.box c hc).2⟩
 ·rw[qe (ne (by rw[hc];simp))];exact a.lab c F p hc
 ·by_cases e:c=b
  ·rw[e,qz] at hc;cases hc
  ·rw[qe e] at hc;rcases a.nw c F hc with h|h
   ·exact .inl h
   ·exact .inr ((hL c h).resolve_left e)
def qgO(n b:Nat):AV:=if n=0 then .sl b 0 1 1 false else .own b (n+1)
theorem qoR{n b:Nat}:qgO n b = .sl b 0 (n+1) (n+1) false∨qgO n b = .own b (n+1):=by
 unfold qgO;split
 ·rename_i h;subst h;exact .inl rfl
 ·exact .inr rfl
section
variable {g w s gl gp gj gh gr g1 g2 g3 g4 g5:Nat} {κ:Nat->Kd} {tr:Tr Blk} {RV:List Sy} {N:List Nat} {k:AV->Hp->Prop}
def qaA(a b c d e g h i j:Nat):ICode:=.seq (.seq (.r [.f 88 1 1,.d 89 88,.e 90 89,.m 91 (.k 0)]) (.blk 2 (.loop (.seq (.r [.s 92 91 90]) (.seq (.cond (.t 92) (.skip) (.exit 2)) (.seq (.blk 3 (.seq (.r [.n 93 91,.i 94 3 89 91,.v 95 3 94,.q 16 (.alloc [.i .u32 0,.nils,.i .u32 0]),.n 15 93,.u (.store 3 (.t 16) (.t 95))]) (.seq (.r [.n 96 4,.n 97 8,.n 98 15,.a 99 98 1,.i 100 1 97 99,.d 101 100,.l 102 g [.t 96,.t 101]]) (.r [.n 103 4,.v 104 3 16,.l 105 i [.t 103,.t 104]])))) (.r [.a 106 91 1,.n 91 106]))))))) (.seq (.r [.n 107 4,.n 108 5,.l 109 g [.t 107,.t 108]]) (.seq (.r [.n 110 4,.l 111 h [.t 110,(.c (.i .u32 2147418112))]]) (.seq (.r [.n 112 4,.l 113 j [.t 112],.n 2 113,.m 3 (.k 0)]) (.ret))))
def qci(a b c d e g h i j:Nat):ICode:=.seq (.r [.n 65 6,.n 66 7,.l 67 c [.t 65,.t 66,.k 0],.n 64 67,.x 68 64 0,.x 69 64 1,.n 11 68,.n 12 69]) (.seq (.r [.n 71 11,.l 72 d [.t 71],.n 70 72,.x 73 70 0,.x 74 70 1,.n 13 73,.n 14 74]) (.seq (.r [.n 75 4,.n 76 13,.n 77 8,.l 78 e [.t 75,.t 76,.t 77]]) (.seq (.r [.n 79 4,.n 80 8,.q 81 (.iAddrS 1 (.t 80) (.k 0)),.d 82 81,.l 83 g [.t 79,.t 82]]) (.seq (.r [.n 84 4,.f 85 2 1,.d 86 85,.l 87 h [.t 84,.t 86]]) (.cut (qaA a b c d e g h i j))))))
def qch(a b c d e g h i j:Nat):ICode:=.seq (.r [.n 24 4,.f 25 0 1,.d 26 25,.n 27 5,.l 28 b [.t 24,.t 26,.t 27]]) (.seq (.reg true [.f 29 1 1,.d 30 29,.e 31 30,.q 32 (.mkS 1 4 [.i .u32 0] (.t 31) (.t 31)),.f 33 1 1,.d 34 33,.e 35 34,.q 36 (.mkS 1 8 [.i .i64 0] (.t 35) (.t 35)),.n 6 32,.n 7 36]) (.seq (.r [.q 37 (.build [.i .i64 0] []),.q 38 (.box (.t 37)),.q 39 (.buildS 1 [.nilp] [(0,1,(.t 38))]),.n 8 39]) (.seq (.seq (.r [.f 40 1 1,.d 41 40,.e 42 41,.m 43 (.k 0)]) (.blk 0 (.loop (.seq (.r [.s 44 43 42]) (.seq (.cond (.t 44) (.skip) (.exit 0)) (.seq (.blk 1 (.seq (.r [.n 45 43,.i 46 3 41 43,.v 47 3 46,.q 10 (.alloc [.i .u32 0,.nils,.i .u32 0]),.n 9 45,.u (.store 3 (.t 10) (.t 47))]) (.seq (.r [.n 48 6,.n 49 9,.n 50 7,.n 51 9,.f 52 0 10,.d 53 52,.n 54 9,.a 55 54 1,.i 56 1 48 49,.u (.store 1 (.t 56) (.t 53)),.i 57 1 50 51,.u (.store 1 (.t 57) (.t 55))]) (.r [.n 58 8,.q 59 (.build [.i .i64 0] []),.q 60 (.box (.t 59)),.q 61 (.buildS 1 [.nilp] [(0,1,(.t 60))]),.q 62 (.app 1 8 true (.t 58) (.t 61)),.n 8 62])))) (.r [.a 63 43 1,.n 43 63]))))))) (.cut (qci a b c d e g h i j)))))
def qez(a b c d e g h i j:Nat):IFn:=⟨[.tmp 2,.tmp 3],.seq (.r [.q 1 (.box (.t 0)),.m 2 .N,.m 3 (.k 0)]) (.seq (.seq (.r [.v 17 3 1,.l 18 a [.t 17],.q 19 (.un .not (.t 18))]) (.cond (.t 19) (.seq (.r [.m 2 .N,.m 3 (.k 210)]) (.ret)) (.skip))) (.seq (.r [.q 20 (.build [.nils,.nils] []),.q 21 (.box (.t 20)),.q 22 (.build [.i .i64 0] []),.q 23 (.box (.t 22)),.n 4 21,.n 5 23]) (.cut (qch a b c d e g h i j))))⟩
structure EFn (P:Program) (g gl gp gj gh gr go gb gR gd gt gH gA gB gC gD:Nat):Prop where
 W:WFn P g gl gp gj gh gr
 own:qc P go (qaW gD gl gj gh)=true
 br:qc P gb (qac gj gh)=true
 rule:qc P gR (qaJ gt gr)=true
 test:qc P gt (xR gA gB gC gH gr gh)=true
 half:qc P gH (xc gl gp gj gh)=true
 done:qc P gd qZ=true
 dj:qc P g qJ=true
 lo:qpN P gA 0
 hi:qpN P gB 4
 hal:qu9 P gC
 tok:qnP P gD
theorem qk8{t:GTest}(h:qbG t=true):0<=t.arg∧t.arg<6:=by
 simp only[qbG,Bool.and_eq_true,decide_eq_true_eq] at h;exact h.1.1
theorem qhY:∀{rs:List GRule} {o:Option GRule},upR o rs=true->∀r ∈ rs,qbF r=true
 | [],_,_,_,hr=>by cases hr
 | x::rs,o,h,r,hr=>by
  simp only[upR,Bool.and_eq_true] at h;rcases List.mem_cons.1 hr with rfl|hr
  ·exact h.1.1
  ·exact qhY h.2 r hr
variable {go gb gR gd gt gH gA gB gC gD gM gS gT:Nat}
theorem qrY{n0 sb bf bN bL e:Nat}{wf a:Bool}{κb:Nat->Kd}{tb:Tr Blk}{L:List Nat}(E:EFn P g gl gp gj gh gr go gb gR gd gt gH gA gB gC gD)(x:GFil)(hx:FilR x)(hK:∀r ∈ x.rules,qbF r=true)(hn:x.rules.length<=400){pre:List Sy}(hpre:pre.length=jg x+1)(hd1:jg x<=10000)
  (h:WI g w κ s tr pre []) (st:Stp L κb sb tb κ s tr) (xs:List Nat) (hxl:xs.length=x.rules.length+1) (hxs:∀(j:Nat) c,xs[j]?=some c->∃p,κ c = .lab (xz x j) p) (hL0:κ bL = .fr) (gL:tr.get bL=some (.cells e wf a (rPt xs)))
  (hf0:κ bf = .fr) (gf:tr.get bf=some (.cells 0 true false (qN x))) {pN:Bool} (hN:κ bN = .lab (xw x) pN) (hbN:κb bN = .no) (hL:∀c ∈ L,c=bN∨∃j:Nat,1<=j∧xs[j]?=some c) (hnew:∀(j:Nat) c,xs[j]?=some c->κb c = .no) (hno:∀b F,κb b≠.lab F false)
  {t:Tr AV} (ht:Has t [(1,.ptr bf 0),(4,.ptr w 0),(5,.ptr bN 0),(8,qgO x.rules.length bL)]) :
  S P n0 (qaA gM go gS gT gb gh gr gR gd) (qam [.tmp 2,.tmp 3] fun v' h'=>Frz h' v' (.tup [.fz (pre++zO x.rules (jg x+1)++([⟨6,2147418112,0,0⟩]:List Sy)).length (rSy (pre++zO x.rules (jg x+1)++[⟨6,2147418112,0,0⟩])),.i .i64 0])) t ⟨s,0,tr⟩:=by
 refine S.has _ ht (ql ?_)
 have hts:∀r ∈ x.rules,r.tests.length<=32:=fun r hr=>by
  have:=hK r hr;simp only[qbF,Bool.and_eq_true,decide_eq_true_eq] at this;exact this.1.1
 have hrN:=qif hts;simp only[qaA,vI,simprocAttr];simp +decide only[↓vS,vT,simprocAttr,gf,qN]
 refine SL.loopP (α:=Nat) (fun i=>[(1,.ptr bf 0),(4,.ptr w 0),(5,.ptr bN 0),(8,qgO x.rules.length bL),(89,.fz x.rules.length (rR x.rules)),(90,.i .i64 (x.rules.length:Int)),(91,.i .i64 (i:Int))])
  (fun i h=>i<=x.rules.length∧∃L' κ' s' tr',h=⟨s',0,tr'⟩∧Stp L' κb sb tb κ' s' tr'∧WI g w κ' s' tr' (pre++zO (x.rules.take i) (jg x+1)) []∧(∀(j:Nat) c,xs[j]?=some c->∃p,κ' c = .lab (xz x j) p)∧κ' bL = .fr∧tr'.get bL=some (.cells e wf a (rPt xs)) ∧
   (∃p,κ' bN = .lab (xw x) p)∧(∀c ∈ L',c=bN∨∃j:Nat,i+1<=j∧xs[j]?=some c)) (fun i=>x.rules.length-i) ?_ 0 ?_ ?_
 ·rintro i h1 ⟨hi,L',κ',s',tr',rfl,st',w',hxs',hL0',gL',⟨pN',hN'⟩,hL'⟩ G ih;simp only[vI,simprocAttr]
  by_cases hlt:i<x.rules.length
  ·have hlt':(i:Int)<x.rules.length:=by omega
   obtain⟨r,hr⟩:∃r,x.rules[i]?=some r:=⟨_,zzE hlt⟩;obtain⟨c,hc⟩:∃c,xs[i+1]?=some c:=⟨_,zzE (by omega)⟩;have hrm:=zzM hr;have hel:((rR x.rules).drop (i*3)).take 3=zc r:=zp qaz hr;have h3:i*3+3<=(rR x.rules).length:=by rw[show (rR x.rules).length=x.rules.length*3 from zx qaz _];omega
   have hw1:IntKind.wrap .i64 ((i:Int)+1)=((i+1:Nat):Int):=by rw[qu (by omega) (by omega)];simp
   obtain⟨wv,sv⟩:=w'.var (.cells 0 true false [.i .u32 0,.nils,.i .u32 0]) (.cells 0 true false (zc r));have hbs:bL<s':=w'.dom bL (by rw[hL0'];simp);have hbs':¬bL=s':=by omega
   have hge:(rPt xs)[i+1]?=some (.ptr c 0):=by rw[qeI,hc];rfl
   have hlt1:i+1<x.rules.length+1:=by omega
   have hT:zg (x.rules.take i)<=zg x.rules:=qiE
   have hlen:(pre++zO (x.rules.take i) (jg x+1)).length=xz x (i+1):=by
    rw[List.length_append,qa4,hpre];simp[xz]
   obtain⟨pc,hpc⟩:=hxs' (i+1) c hc;rw[← hlen] at hpc;have hpc:=sv.lab _ _ _ hpc
   have hcN:c≠bN:=fun e=>by
    rw[e] at hpc;have:=(Kd.lab.inj (hpc.symm.trans (sv.lab _ _ _ hN'))).1;rw[hlen] at this;simp[xz,xw] at this
    have h2:zg x.rules=zg (x.rules.take i)+zg (x.rules.drop i):=by
     conv=>lhs;rw[← List.take_append_drop i x.rules]
     simp only[zg,List.map_append,List.sum_append]
    have h3:x.rules.drop i=r::x.rules.drop (i+1):=by rw[← (zzS.1 hr).2,List.getElem_cons_drop]
    have h4:0<qlT r:=by unfold qlT;cases r.tests with
     | nil=>simp[qcp]
     | cons t ts=>simp[qcp,qbz];omega
    rw[h3] at h2;simp[zg] at h2 this;omega
   -- behind the label
   have go:∀(k:AV->Hp->Prop),(∀κ3 s3 t3 L3,Stp L3 κb sb tb κ3 s3 t3->WI g w κ3 s3 t3 (pre++zO (x.rules.take (i+1)) (jg x+1)) []->(∀(j:Nat) c,xs[j]?=some c->∃p,κ3 c = .lab (xz x j) p)->κ3 bL = .fr->t3.get bL=some (.cells e wf a (rPt xs))->(∃p,κ3 bN = .lab (xw x) p)->
     (∀c ∈ L3,c=bN∨∃j:Nat,i+1+1<=j∧xs[j]?=some c)->k (.tup []) ⟨s3,0,t3⟩)->∀k2:AV->Hp->Prop,(∀t4,t4.get s'=some (.cells 0 true false (zc r))->(∀k',(∀v h,k v h->k' v h)->SC P gR [.ptr w 0,.agg (zc r)] ⟨s'+1,0,t4⟩ k')->k2 (.tup []) ⟨s'+1,0,t4⟩)->
     SC P gh [.ptr w 0,.ptr c 0] ⟨s'+1,0,(tr'.set s' (.cells 0 true false [.i .u32 0,.nils,.i .u32 0])).set s' (.cells 0 true false (zc r))⟩ k2:=by
    intro k hk k2 hk2;refine qaI E.W.here wv hpc fun t4 q1 q2 w4=>hk2 t4 ?_ fun k' hkk=>?_
    ·rw[q1 s' qz,Tr.get_set,if_pos rfl]
    have hkl4:∀(j:Nat) c',xs[j]?=some c'->∃p,kdS (kdS κ' s' .fr) c (.lab (pre++zO (x.rules.take i) (jg x+1)).length true) c' = .lab (xz x j) p:=fun j c' hj=>by
     obtain⟨p,hp⟩:=hxs' j c' hj;have hp:=sv.lab _ _ _ hp
     by_cases e:c'=c
     ·rw[e] at hp;have hF:=(Kd.lab.inj (hpc.symm.trans hp)).1;exact⟨true,by rw[e,qz,hF]⟩
     ·exact⟨p,by rw[qe e];exact hp⟩
    have st4:Stp (L'.filter fun y=>decide (y≠c)) κb sb tb (kdS (kdS κ' s' .fr) c (.lab (pre++zO (x.rules.take i) (jg x+1)).length true)) (s'+1) t4 :=
     (st'.trans sv).kd' (hnew _ _ hc) q1 q2 fun y hy=>by
      by_cases e:y=c
      ·exact .inl e
      ·exact .inr (by simp at hy;simp[hy,e])
    have hbLc:bL≠c:=fun e=>by rw[← e,(sv.fr bL hL0').1] at hpc;cases hpc
    refine qAJ E.rule E.W E.test E.lo E.hi E.hal E.half w4 r (fun t ht=>?_) (by rw[hlen];have:=hts r hrm;simp only[xz];simp;omega) fun κ5 s5 t5 st5 w5=>hkk _ _ (hk κ5 s5 t5 _ (st4.trans st5) ?_ ?_ ?_ ?_ ?_ ?_)
    ·have q:=hx.ts r hrm t ht;have q2:=qk8 (t:=t) (by have:=hK r hrm;simp only[qbF,Bool.and_eq_true,List.all_eq_true] at this;exact this.1.2 t ht)
     exact⟨q2.1,q2.2,q.1,q.2.1,q.2.2.1,q.2.2.2⟩
    ·rw[qaF hr,qiD,← List.append_assoc];rw[List.length_append,qa4,hpre] at w5;exact w5
    ·intro j c' hj;obtain⟨p,hp⟩:=hkl4 j c' hj;exact⟨p,st5.lab _ _ _ hp⟩
    ·exact (st5.fr bL (by rw[qe hbLc];exact (sv.fr bL hL0').1)).1
    ·rw[(st5.fr bL (by rw[qe hbLc];exact (sv.fr bL hL0').1)).2,q1 bL (sv.fr bL hL0').1,(sv.fr bL hL0').2];exact gL'
    ·exact⟨pN',st5.lab _ _ _ (by rw[qe (Ne.symm hcN)];exact sv.lab _ _ _ hN')⟩
    ·intro c' hc';rw[List.append_nil,List.mem_filter,decide_eq_true_eq] at hc';rcases hL' c' hc'.1 with q|⟨j,q1,q2⟩
     ·exact .inl q
     ·refine .inr ⟨j,?_,q2⟩;rcases Nat.lt_or_ge (i+1) j with q|q
      ·omega
      ·obtain rfl:i+1=j:=by omega
       rw[hc] at q2;cases q2;exact absurd rfl hc'.2
   let K0:AV->Hp->Prop:=fun v h=>∃κ3 s3 t3 L3,v = .tup []∧h=⟨s3,0,t3⟩∧Stp L3 κb sb tb κ3 s3 t3∧WI g w κ3 s3 t3 (pre++zO (x.rules.take (i+1)) (jg x+1)) []∧(∀(j:Nat) c,xs[j]?=some c->∃p,κ3 c = .lab (xz x j) p)∧κ3 bL = .fr∧t3.get bL=some (.cells e wf a (rPt xs))∧(∃p,κ3 bN = .lab (xw x) p) ∧
     (∀c ∈ L3,c=bN∨∃j:Nat,i+1+1<=j∧xs[j]?=some c)
   have fin:∀(v:AV) (h:Hp),K0 v h->∀tt,Has tt [(1,.ptr bf 0),(4,.ptr w 0),(5,.ptr bN 0),(8,qgO x.rules.length bL),(89,.fz x.rules.length (rR x.rules)),(90,.i .i64 (x.rules.length:Int)),(91,.i .i64 ((i+1:Nat):Int))]->G tt h:=by
    rintro v h ⟨κ3,s3,t3,L3,rfl,rfl,q1,q2,q3,q4,q5,q6,q7⟩ tt htt;exact ih (i+1) _ _ (by omega) htt ⟨by omega,L3,κ3,s3,t3,rfl,q1,q2,q3,q4,q5,q6,q7⟩
   rcases qoR (n:=x.rules.length) (b:=bL) with hV|hV
   ·rw[hV] at fin ⊢;simp +decide only[↓vS,vT,simprocAttr,hlt',hlt,h3,hel,zc,hw1,hbs',gL',hge,hlt1,Nat.mul_one];refine go K0 (fun κ3 s3 t3 L3 q1 q2 q3 q4 q5 q6 q7=>⟨κ3,s3,t3,L3,rfl,rfl,q1,q2,q3,q4,q5,q6,q7⟩) _ fun t4 h4 hcall=>?_
    simp +decide only[↓vS,vT,simprocAttr,h4,zc];refine hcall _ fun v h hv=>?_
    simp +decide only[↓vS,vT,simprocAttr,hw1];exact fin v h hv _ (by simp[qf,qh,Tr.get_set])
   ·rw[hV] at fin ⊢;simp +decide only[↓vS,vT,simprocAttr,hlt',hlt,h3,hel,zc,hw1,hbs',gL',hge,hlt1,Nat.mul_one];refine go K0 (fun κ3 s3 t3 L3 q1 q2 q3 q4 q5 q6 q7=>⟨κ3,s3,t3,L3,rfl,rfl,q1,q2,q3,q4,q5,q6,q7⟩) _ fun t4 h4 hcall=>?_
    simp +decide only[↓vS,vT,simprocAttr,h4,zc];refine hcall _ fun v h hv=>?_
    simp +decide only[↓vS,vT,simprocAttr,hw1];exact fin v h hv _ (by simp[qf,qh,Tr.get_set])
  ·obtain rfl:i=x.rules.length:=by omega
   have hlt':¬((x.rules.length:Int)<x.rules.length):=by omega
   rw[List.take_length] at w';have hlen:(pre++zO x.rules (jg x+1)).length=xw x:=by rw[List.length_append,qa4,hpre];rfl
   simp +decide only[↓vS,vT,simprocAttr,hlt'];refine qaI E.W.here w' (b:=bN) (p:=pN') (by rw[hlen];exact hN') fun t4 q1 q2 w4=>?_
   simp +decide only[↓vS,vT,simprocAttr]
   have st4:Stp [] κb sb tb _ _ t4:=st'.kd' (L':=[]) (F':=(pre++zO x.rules (jg x+1)).length) hbN q1 q2 fun c hc=>by
    rcases hL' c hc with q|⟨j,q1,q2⟩
    ·exact .inl q
    ·have:=(zzS.1 q2).1;omega
   refine qk0 E.W.ret E.W.put w4 2147418112 (by rw[hlen];unfold xw;omega) fun κ5 s5 t5 st5 w5=>?_
   simp +decide only[↓vS,vT,simprocAttr];have st6:=st4.trans st5;refine qrW E.done E.dj w5 (fun b F p hb=>?_) (by rw[List.length_append,hlen];unfold xw;simp;omega) fun t6 b6 q3 q4=>?_
   ·cases p with
    | true=>rfl
    | false =>
     rcases st6.nw b F hb with q|q
     ·exact absurd q (hno b F)
     ·cases q
   ·simp +decide only[↓vS,vT,simprocAttr];simp[vZ,vP,q3];exact Frzs.self (xW fun _=>rfl)
 ·simp[qf,qh,Tr.get_set]
 ·refine⟨Nat.zero_le _,L,κ,s,tr,rfl,st,?_,hxs,hL0,gL,⟨pN,hN⟩,?_⟩
  ·simpa[zO] using h
  ·intro c hc;rcases hL c hc with q|⟨j,q1,q2⟩
   ·exact .inl q
   ·exact .inr ⟨j,by omega,q2⟩
theorem Stp.mod'{L:List Nat}{κ1:Nat->Kd}{s1:Nat}{t1:Tr Blk}(h:Stp L κ s tr κ1 s1 t1){b:Nat}(hb:κ b = .no)(x:Blk):Stp L κ s tr (kdS κ1 b .fr) s1 (t1.set b x):=by
 have ne:∀{c},κ c≠.no->c≠b:=fun h e=>h (e ▸ hb)
 refine⟨h.le,fun c hc=>?_,fun c hc=>?_,fun c F p hc=>?_,fun c F hc=>?_⟩
 ·have e:=ne (c:=c) (by rw[hc];simp);rw[qe e,Tr.get_set,if_neg e];exact h.fr c hc
 ·have e:=ne (c:=c) (by rw[hc];simp);rw[qe e,Tr.get_set,if_neg e];exact h.box c hc
 ·rw[qe (ne (by rw[hc];simp))];exact h.lab c F p hc
 ·by_cases e:c=b
  ·rw[e,qz] at hc;cases hc
  ·rw[qe e] at hc;exact h.nw c F hc
theorem qCT{s fl b c:Nat}{t:Tr Blk}{x y:Blk}:qgN ⟨s,fl,t⟩ [(b,x),(c,y)]=⟨s,fl,(t.set b .dead).set c .dead⟩:=rfl
theorem qvu{n0 sb bf bN bL bn bw e:Nat}{wf a:Bool}{κb:Nat->Kd}{tb:Tr Blk}{L:List Nat}(E:EFn P g gl gp gj gh gr go gb gR gd gt gH gA gB gC gD)(x:GFil)(hx:FilR x)(hK:∀r ∈ x.rules,qbF r=true)(hn:x.rules.length<=400)(hd1:jg x<=10000)
  (hS:qd P gS [.fz (qH x.rules).length (qaD (qH x.rules)),.fz (qH x.rules).length (qa3 (qH x.rules)),.i .i64 0] (.tup [.fz (zC (pcs 0 (qH x.rules) 0)).length (rSp (zC (pcs 0 (qH x.rules) 0))),.i .i64 0]))
  (hB:qd P gT [.fz (zC (pcs 0 (qH x.rules) 0)).length (rSp (zC (pcs 0 (qH x.rules) 0)))] (.tup [.fz (qM x).length (rNd (qM x)),.i .i64 0])) (hT1:qM x≠[]) (hT2:∀nd ∈ qM x,NdOk (x.rules.length+1) (qM x).length nd) (hT3:(qM x).length<=10000)
  (h:WI g w κ s tr (qa2 x.arch 0 (xw x)) []) (st:Stp L κb sb tb κ s tr) (xs:List Nat) (hxl:xs.length=x.rules.length+1) (hxs:∀(j:Nat) c,xs[j]?=some c->∃p,κ c = .lab (xz x j) p) (hL0:κ bL = .fr) (gL:tr.get bL=some (.cells e wf a (rPt xs)))
  (hf0:κ bf = .fr) (gf:tr.get bf=some (.cells 0 true false (qN x))) {pN:Bool} (hN:κ bN = .lab (xw x) pN) (hbN:κb bN = .no) (hL:∀c ∈ L,c=bN∨∃j:Nat,xs[j]?=some c) (hnew:∀(j:Nat) c,xs[j]?=some c->κb c = .no) (hno:∀b F,κb b≠.lab F false)
  (hn0:κ bn = .fr) (gn:tr.get bn=some (.cells 0 true false (qaD (qH x.rules)))) (hbn:κb bn = .no) (hw0:κ bw = .fr) (gw:tr.get bw=some (.cells 0 true false (qa3 (qH x.rules)))) (hbw:κb bw = .no) (hne:bn≠bw∧bn≠bL∧bw≠bL∧bn≠bf∧bw≠bf)
  {t:Tr AV} (ht:Has t [(1,.ptr bf 0),(4,.ptr w 0),(5,.ptr bN 0),(6,.sl bn 0 x.rules.length x.rules.length false),(7,.sl bw 0 x.rules.length x.rules.length false),(8,qgO x.rules.length bL)]) :
  S P n0 (qci gM go gS gT gb gh gr gR gd) (qam [.tmp 2,.tmp 3] fun v' h'=>Frz h' v' (.tup [.fz (zd x).length (rSy (zd x)),.i .i64 0])) t ⟨s,0,tr⟩:=by
 obtain⟨e1,e2,e3,e4,e5⟩:=hne;refine S.has _ ht (ql ?_);simp only[qci,vI,simprocAttr];simp +decide only[↓vS,vT,simprocAttr];have hnl:(qH x.rules).length=x.rules.length:=qaC;rw[hnl] at hS;refine hS.give [(bn,.cells 0 true false (qaD (qH x.rules))),(bw,.cells 0 true false (qa3 (qH x.rules)))] ?_ (by simp[qw,clo,qeh]) ?_ ?_
 ·intro p hp;simp only[List.mem_cons,List.not_mem_nil,or_false] at hp;rcases hp with rfl|rfl
  ·exact⟨gn,Nat.zero_le _⟩
  ·exact⟨gw,Nat.zero_le _⟩
 ·refine qaN.2 ⟨Frz.cut 1 rfl (Nat.le_refl _) ?_,qaN.2 ⟨Frz.cut 1 rfl (Nat.le_refl _) ?_,qaN.2 ⟨qCI.2 ⟨rfl,rfl⟩,qex.2 trivial⟩⟩⟩
  ·simp[trP,Tr.get_set,vP,qfC,hnl];rw[List.take_of_length_le (by rw[qfC,hnl];omega)];exact Frzs.self qcJ
  ·simp[trP,Tr.get_set,vP,qfD,hnl,Ne.symm e1];rw[List.take_of_length_le (by rw[qfD,hnl];omega)];exact Frzs.self qcK
 rw[qCT];have w1:=(h.chg (b:=bn) .fr .dead (.inl hn0) (h.dom bn (by rw[hn0];simp)) (.inr (.inl rfl))).chg (b:=bw) .fr .dead (.inl (by rw[qe (Ne.symm e1)];exact hw0)) (h.dom bw (by rw[hw0];simp)) (.inr (.inl rfl))
 have s1:=(st.mod' hbn .dead).mod' hbw .dead
 have kk:∀b,κ b≠.fr->kdS (kdS κ bn .fr) bw .fr b=κ b:=fun b hb=>by
  rw[qe (c:=b) (fun e=>hb (by rw[e];exact hw0)),qe (c:=b) (fun e=>hb (by rw[e];exact hn0))]
 have kf:∀b,κ b = .fr->kdS (kdS κ bn .fr) bw .fr b = .fr:=fun b hb=>by
  simp only[kdS];split
  ·rfl
  ·split
   ·rfl
   ·exact hb
 have gg:∀b,b≠bn->b≠bw->((tr.set bn .dead).set bw .dead).get b=tr.get b:=fun b h1 h2=>by
  rw[Tr.get_set,if_neg h2,Tr.get_set,if_neg h1]
 simp +decide only[↓vS,vT,simprocAttr];refine hB.sc ?_;simp +decide only[↓vS,vT,simprocAttr];have hV:=qoR (n:=x.rules.length) (b:=bL);refine qrt E.br E.W (qM x) hT1 xs (by rw[hxl];exact hT2) (xz x) (qgO x.rules.length bL) (by rw[hxl];exact hV) w1 (kf bL hL0) ((gg bL (Ne.symm e2) (Ne.symm e3)).trans gL) (fun j c hj=>let ⟨p,hp⟩:=hxs j c hj;⟨p,by rw[kk c (by rw[hp];simp)];exact hp⟩) (by rw[jr];have:=qo3 (a:=x.arch);omega) fun κ2 s2 t2 st2 w2=>?_
 simp +decide only[↓vS,vT,simprocAttr];obtain⟨c0,hc0⟩:∃c,xs[0]?=some c:=⟨_,zzE (by omega)⟩;have hge:(rPt xs)[0]?=some (.ptr c0 0):=by rw[qeI,hc0];rfl
 have hL2:=st2.fr bL (kf bL hL0);have gL2:=hL2.2.trans ((gg bL (Ne.symm e2) (Ne.symm e3)).trans gL);have hf2:=st2.fr bf (kf bf hf0);have gf2:=hf2.2.trans ((gg bf (Ne.symm e4) (Ne.symm e5)).trans gf)
 have hlen:(qa2 x.arch 0 (xw x)++z8 (xz x) (qM x) (qa2 x.arch 0 (xw x)).length).length=xz x 0:=by
  rw[List.length_append,x5,jr];rfl
 have hk2:∀(j:Nat) c,xs[j]?=some c->∃p,κ2 c = .lab (xz x j) p:=fun j c hj=>let ⟨p,hp⟩:=hxs j c hj;⟨p,st2.lab _ _ _ (by rw[kk c (by rw[hp];simp)];exact hp)⟩
 obtain⟨p0,hp0⟩:=hk2 0 c0 hc0;have hN2:κ2 bN = .lab (xw x) pN:=st2.lab _ _ _ (by rw[kk bN (by rw[hN];simp)];exact hN)
 have hcN:c0≠bN:=fun e=>by
  rw[e] at hp0;have:=(Kd.lab.inj (hp0.symm.trans hN2)).1;simp[xz,xw] at this;omega
 have hV0:(0:Nat)<x.rules.length+1:=by omega
 -- the label of the others has its place
 have rest:∀k2:AV->Hp->Prop,(∀t3:Tr Blk,t3.get bf=some (.cells 0 true false (qN x))->(∀k':AV->Hp->Prop,(∀(κ4:Nat->Kd) (s4:Nat) (t4:Tr Blk) (L4:List Nat),Stp L4 κb sb tb κ4 s4 t4->WI g w κ4 s4 t4 (qa2 x.arch 0 (xw x)++z8 (xz x) (qM x) (jl x.arch)++[⟨6,x.dflt,0,0⟩]) []->
   (∀(j:Nat) c,xs[j]?=some c->∃p,κ4 c = .lab (xz x j) p)->κ4 bL = .fr->t4.get bL=some (.cells e wf a (rPt xs))->κ4 bf = .fr->t4.get bf=some (.cells 0 true false (qN x))->κ4 bN = .lab (xw x) pN->(∀c ∈ L4,c=bN∨∃j:Nat,1<=j∧xs[j]?=some c)->k' (.tup []) ⟨s4,0,t4⟩)->SC P gr [.ptr w 0,.i .u32 x.dflt] ⟨s2,0,t3⟩ k')->k2 (.tup []) ⟨s2,0,t3⟩)->SC P gh [.ptr w 0,.ptr c0 0] ⟨s2,0,t2⟩ k2:=by
  intro k2 hk2';refine qaI E.W.here w2 (b:=c0) (p:=p0) (by rw[hlen];exact hp0) fun t3 q1 q2 w3=>hk2' t3 ((q1 bf hf2.1).trans gf2) fun k' hk'=>?_
  have st3:Stp (L.filter fun y=>decide (y≠c0)) κb sb tb _ _ t3:=(s1.trans st2).kd' (F':=(qa2 x.arch 0 (xw x)++z8 (xz x) (qM x) (qa2 x.arch 0 (xw x)).length).length) (hnew 0 c0 hc0) q1 q2 fun y hy=>by
   by_cases e:y=c0
   ·exact .inl e
   ·exact .inr (by simp at hy;simp[hy,e])
  have nb:∀b,κ2 b = .fr->b≠c0:=fun b hb e=>by rw[e,hp0] at hb;cases hb
  refine qk0 E.W.ret E.W.put w3 x.dflt (by rw[hlen];simp[xz];omega) fun κ4 s4 t4 st4 w4=>hk' κ4 s4 t4 _ (st3.trans st4) ?_ ?_ ?_ ?_ ?_ ?_ ?_ ?_
  ·rw[jr] at w4;exact w4
  ·intro j c hj;obtain⟨p,hp⟩:=hk2 j c hj
   by_cases ec:c=c0
   ·rw[ec] at hp ⊢;have hF:=(Kd.lab.inj (hp0.symm.trans hp)).1;exact⟨true,st4.lab _ _ _ (by rw[qz,hlen,hF])⟩
   ·exact⟨p,st4.lab _ _ _ (by rw[qe ec];exact hp)⟩
  ·exact (st4.fr bL (by rw[qe (nb _ hL2.1)];exact hL2.1)).1
  ·rw[(st4.fr bL (by rw[qe (nb _ hL2.1)];exact hL2.1)).2,q1 bL hL2.1];exact gL2
  ·exact (st4.fr bf (by rw[qe (nb _ hf2.1)];exact hf2.1)).1
  ·rw[(st4.fr bf (by rw[qe (nb _ hf2.1)];exact hf2.1)).2,q1 bf hf2.1];exact gf2
  ·exact st4.lab _ _ _ (by rw[qe (Ne.symm hcN)];exact hN2)
  ·intro c hc;rw[List.append_nil,List.mem_filter,decide_eq_true_eq] at hc;rcases hL c hc.1 with q|⟨j,q⟩
   ·exact .inl q
   ·refine .inr ⟨j,?_,q⟩;rcases Nat.eq_zero_or_pos j with q0|q0
    ·subst q0;rw[hc0] at q;cases q;exact absurd rfl hc.2
    ·exact q0
 have fin:∀(κ4:Nat->Kd) (s4:Nat) (t4:Tr Blk) (L4:List Nat),Stp L4 κb sb tb κ4 s4 t4->WI g w κ4 s4 t4 (qa2 x.arch 0 (xw x)++z8 (xz x) (qM x) (jl x.arch)++[⟨6,x.dflt,0,0⟩]) []->
   (∀(j:Nat) c,xs[j]?=some c->∃p,κ4 c = .lab (xz x j) p)->κ4 bL = .fr->t4.get bL=some (.cells e wf a (rPt xs))->κ4 bf = .fr->t4.get bf=some (.cells 0 true false (qN x))->κ4 bN = .lab (xw x) pN->(∀c ∈ L4,c=bN∨∃j:Nat,1<=j∧xs[j]?=some c)->
   ∀(tt:Tr AV),Has tt [(1,.ptr bf 0),(4,.ptr w 0),(5,.ptr bN 0),(8,qgO x.rules.length bL)]->S P n0 (qaA gM go gS gT gb gh gr gR gd) (qam [.tmp 2,.tmp 3] fun v' h'=>Frz h' v' (.tup [.fz (zd x).length (rSy (zd x)),.i .i64 0])) tt ⟨s4,0,t4⟩:=fun κ4 s4 t4 L4 q1 q2 q3 q4 q5 q6 q7 q8 q9 tt htt =>
  qrY E x hx hK hn (by simp only[List.length_append,jr,x5,List.length_singleton];rfl) hd1 q2 q1 xs hxl q3 q4 q5 q6 q7 q8 hbN q9 hnew hno htt
 rcases hV with hV|hV
 ·rw[hV] at fin ⊢;simp +decide only[↓vS,vT,simprocAttr,gL2,hge,hV0];refine rest _ fun t3 g3 hcall=>?_
  simp +decide only[↓vS,vT,simprocAttr,g3,qN];refine hcall _ fun κ4 s4 t4 L4 q1 q2 q3 q4 q5 q6 q7 q8 q9=>?_
  simp +decide only[↓vS,vT,simprocAttr];exact fin κ4 s4 t4 L4 q1 q2 q3 q4 q5 q6 q7 q8 q9 _ (by simp[qf,qh,Tr.get_set])
 ·rw[hV] at fin ⊢;simp +decide only[↓vS,vT,simprocAttr,gL2,hge,hV0];refine rest _ fun t3 g3 hcall=>?_
  simp +decide only[↓vS,vT,simprocAttr,g3,qN];refine hcall _ fun κ4 s4 t4 L4 q1 q2 q3 q4 q5 q6 q7 q8 q9=>?_
  simp +decide only[↓vS,vT,simprocAttr];exact fin κ4 s4 t4 L4 q1 q2 q3 q4 q5 q6 q7 q8 q9 _ (by simp[qf,qh,Tr.get_set])
end
theorem qj1{A:List AV}{n i:Nat}{v z:AV}(hA:A.length=n)(hv:A[i]?=some v):(A.take i++List.replicate (n-i) z).take i++v::(A.take i++List.replicate (n-i) z).drop (i+1)=A.take (i+1)++List.replicate (n-(i+1)) z:=by
 have hi:i<n:=by rw[← hA];exact (zzS.1 hv).1
 have hl:(A.take i).length=i:=by rw[List.length_take];omega
 rw[List.take_left' hl]
 have:(A.take i++List.replicate (n-i) z).drop (i+1)=List.replicate (n-(i+1)) z:=by
  have e:i+1=(A.take i).length+1:=by rw[hl]
  rw[e,List.drop_length_add_append,List.drop_replicate,hl];congr 1
 rw[this,qaF hv];simp
section
variable {g w s gl gp gj gh gr g1 g2 g3 g4 g5:Nat} {κ:Nat->Kd} {tr:Tr Blk} {RV:List Sy} {N:List Nat} {k:AV->Hp->Prop} {go gb gR gd gt gH gA gB gC gD gM gS gT:Nat}
theorem qvt{n0 sb bf bN:Nat}{κb:Nat->Kd}{tb:Tr Blk}(E:EFn P g gl gp gj gh gr go gb gR gd gt gH gA gB gC gD)(x:GFil)(hx:FilR x)(ha0:0<=x.arch)(ha6:x.arch<6)(hK:∀r ∈ x.rules,qbF r=true)(hn:x.rules.length<=400)(hd1:jg x<=10000)
  (hS:qd P gS [.fz (qH x.rules).length (qaD (qH x.rules)),.fz (qH x.rules).length (qa3 (qH x.rules)),.i .i64 0] (.tup [.fz (zC (pcs 0 (qH x.rules) 0)).length (rSp (zC (pcs 0 (qH x.rules) 0))),.i .i64 0]))
  (hB:qd P gT [.fz (zC (pcs 0 (qH x.rules) 0)).length (rSp (zC (pcs 0 (qH x.rules) 0)))] (.tup [.fz (qM x).length (rNd (qM x)),.i .i64 0])) (hT1:qM x≠[]) (hT2:∀nd ∈ qM x,NdOk (x.rules.length+1) (qM x).length nd) (hT3:(qM x).length<=10000)
  (h:WI g w κ s tr [] []) (st:Stp [bN] κb sb tb κ s tr) (hd:∀b,κb b≠.no->b<sb) (hf0:κ bf = .fr) (gf:tr.get bf=some (.cells 0 true false (qN x))) {pN:Bool} (hN:κ bN = .lab (xw x) pN) (hbN:κb bN = .no) (hno:∀b F,κb b≠.lab F false)
  {t:Tr AV} (ht:Has t [(1,.ptr bf 0),(4,.ptr w 0),(5,.ptr bN 0)]) :
  S P n0 (qch gM go gS gT gb gh gr gR gd) (qam [.tmp 2,.tmp 3] fun v' h'=>Frz h' v' (.tup [.fz (zd x).length (rSy (zd x)),.i .i64 0])) t ⟨s,0,tr⟩:=by
 refine S.has _ ht (ql ?_);simp only[qch,vI,simprocAttr];simp +decide only[↓vS,vT,simprocAttr,gf,qN];refine qDk E.own E.W E.tok h x.arch ha0 ha6 hN (by simp) fun κ1 s1 t1 st1 w1=>?_
 rw[List.nil_append,List.length_nil] at w1;have sa:=st.trans st1;have hf1:=st1.fr bf hf0;have gf1:=hf1.2.trans gf;have hbs:bf<s1:=w1.dom bf (by rw[hf1.1];simp);have f1:¬bf=s1:=by omega
 have f2:¬bf=s1+1:=by omega
 have f3:¬bf=s1+1+1:=by omega
 have f4:¬bf=s1+1+1+1:=by omega
 have r1:x.rules.length<=qg:=by simp only[qg];omega
 have r2:4*x.rules.length<=qg:=by simp only[qg];omega
 have r3:8*x.rules.length<=qg:=by simp only[qg];omega
 simp +decide only[↓vS,vT,simprocAttr];refine zT ?_;simp +decide only[↓vS,vT,simprocAttr,gf1,qN,f1,f2,f3,f4,r1,r2,r3];have k1:κ1 s1 = .no:=w1.fresh
 have nb:∀c:Nat,κb (s1+c) = .no:=fun c=>by
  cases hk:κb (s1+c) with
  | no=>rfl
  | _ =>
   have:=hd (s1+c) (by rw[hk];simp);have:=sa.le;omega
 -- the four blocks
 have wa:=w1.new .fr (.cells 0 true false (List.replicate x.rules.length [AV.i .u32 0]).flatten) (.inr (.inl rfl));have wb:=wa.new .fr (.cells 0 true false (List.replicate x.rules.length [AV.i .i64 0]).flatten) (.inr (.inl rfl));have wc:=wb.new (.lab (xz x 0) false) _ (.inr (.inr (.inr ⟨_,rfl,rfl⟩)));have wd:=wc.new .fr (.cells 0 true false [.ptr (s1+1+1) 0]) (.inr (.inl rfl));have sd:=(((sa.trans (w1.stpNew .fr (.cells 0 true false (List.replicate x.rules.length [AV.i .u32 0]).flatten) (by simp))).trans (wa.stpNew .fr (.cells 0 true false (List.replicate x.rules.length [AV.i .i64 0]).flatten) (by simp))).trans (wb.stpLab (.lab (xz x 0) false) (.cells 0 true false [.i .i64 0]))).trans (wc.stpNew .fr (.cells 0 true false [.ptr (s1+1+1) 0]) (by simp))
 refine SL.loopP (α:=Nat×Nat) (fun i=>[(1,.ptr bf 0),(4,.ptr w 0),(5,.ptr bN 0),(6,.sl s1 0 x.rules.length x.rules.length false),(7,.sl (s1+1) 0 x.rules.length x.rules.length false),(8,qgO i.1 i.2),(41,.fz x.rules.length (rR x.rules)),(42,.i .i64 (x.rules.length:Int)),(43,.i .i64 (i.1:Int))])
  (fun i h=>i.1<=x.rules.length∧∃L' κ' s' tr' xs,h=⟨s',0,tr'⟩∧Stp L' κb sb tb κ' s' tr'∧WI g w κ' s' tr' (qa2 x.arch 0 (xw x)) []∧xs.length=i.1+1∧(∀(j:Nat) c,xs[j]?=some c->∃p,κ' c = .lab (xz x j) p)∧κ' i.2 = .fr∧tr'.get i.2=some (if i.1=0 then .cells 0 true false (rPt xs) else .cells 1 true true (rPt xs)) ∧
   κ' bf = .fr∧tr'.get bf=some (.cells 0 true false (qN x))∧κ' bN = .lab (xw x) pN∧(∀c ∈ L',c=bN∨∃j:Nat,xs[j]?=some c)∧(∀(j:Nat) c,xs[j]?=some c->s1<=c)∧κ' s1 = .fr∧κ' (s1+1) = .fr∧tr'.get s1=some (.cells 0 true false ((qaD (qH x.rules)).take i.1++List.replicate (x.rules.length-i.1) (.i .u32 0))) ∧
   tr'.get (s1+1)=some (.cells 0 true false ((qa3 (qH x.rules)).take i.1++List.replicate (x.rules.length-i.1) (.i .i64 0)))∧s1+1<i.2∧i.2<s') (fun i=>x.rules.length-i.1) ?_ (0,s1+1+1+1) ?_ ?_
 ·rintro⟨i,bL⟩ h1 ⟨hi,L',κ',s',tr',xs,rfl,st',w',hxl,hxs,hL0,gL,hbf,gbf,hbN',hL',hnew,hs1,hs2,gn,gw,hbl,hbl2⟩ G ih;simp only at hi hxl hL0 gL gn gw hbl hbl2;simp only[vI,simprocAttr]
  by_cases hlt:i<x.rules.length
  ·have hlt':(i:Int)<x.rules.length:=by omega
   obtain⟨r,hr⟩:∃r,x.rules[i]?=some r:=⟨_,zzE hlt⟩;have hel:((rR x.rules).drop (i*3)).take 3=zc r:=zp qaz hr;have h3:i*3+3<=(rR x.rules).length:=by rw[show (rR x.rules).length=x.rules.length*3 from zx qaz _];omega
   have hw1:IntKind.wrap .i64 ((i:Int)+1)=((i+1:Nat):Int):=by rw[qu (by omega) (by omega)];simp
   have gnm:(qaD (qH x.rules))[i]?=some (.i .u32 r.nr):=by rw[qhF,qcI,hr];rfl
   have gwm:(qa3 (qH x.rules))[i]?=some (.i .i64 ((i+1:Nat):Int)):=by rw[qnj,qcI,hr];rfl
   have fn:=qj1 (n:=x.rules.length) (z:=.i .u32 0) (by rw[qfC,qaC]) gnm;have fw:=qj1 (n:=x.rules.length) (z:=.i .i64 0) (by rw[qfD,qaC]) gwm;have ln:i+1<=((qaD (qH x.rules)).take i++List.replicate (x.rules.length-i) (AV.i .u32 0)).length:=by simp[qfC,qaC];omega
   have lw:i+1<=((qa3 (qH x.rules)).take i++List.replicate (x.rules.length-i) (AV.i .i64 0)).length:=by simp[qfD,qaC];omega
   have q1:¬s1=s':=by omega
   have q2:¬s1+1=s':=by omega
   have q3:¬s'=s1:=by omega
   have q4:¬s1+1=s1:=by omega
   have q5:¬bL=s':=by omega
   have q6:¬bL=s1:=by omega
   have q7:¬bL=s1+1:=by omega
   have q8:¬bL=s'+1:=by omega
   have q9:¬bL=s'+1+1:=by omega
   have q10:¬s'=s1+1:=by omega
   have q11:¬s'+1+1=bL:=by omega
   have hfw0:IntKind.wrap .i64 ((i:Int)+1)=((i+1:Nat):Int):=hw1;obtain⟨wv,sv⟩:=w'.var (.cells 0 true false [.i .u32 0,.nils,.i .u32 0]) (.cells 0 true false (zc r));have v1:kdS κ' s' .fr s1 = .fr:=(sv.fr s1 hs1).1;have w2:=wv.chg (b:=s1) .fr (.cells 0 true false ((qaD (qH x.rules)).take (i+1)++List.replicate (x.rules.length-(i+1)) (.i .u32 0))) (.inl v1) (by omega) (.inr (.inl rfl));have w3:=w2.chg (b:=s1+1) .fr (.cells 0 true false ((qa3 (qH x.rules)).take (i+1)++List.replicate (x.rules.length-(i+1)) (.i .i64 0))) (.inl (by rw[qe q4];exact (sv.fr _ hs2).1)) (by omega) (.inr (.inl rfl))
   have s3:=((st'.trans sv).mod' (nb 0) (.cells 0 true false ((qaD (qH x.rules)).take (i+1)++List.replicate (x.rules.length-(i+1)) (.i .u32 0)))).mod' (nb 1) (.cells 0 true false ((qa3 (qH x.rules)).take (i+1)++List.replicate (x.rules.length-(i+1)) (.i .i64 0)));have w4:=w3.new (.lab (xz x (i+1)) false) _ (.inr (.inr (.inr ⟨_,rfl,rfl⟩)));have s4:=s3.trans (w3.stpLab (.lab (xz x (i+1)) false) (.cells 0 true false [.i .i64 0]));have w5:=w4.new .no (.cells 0 true false [.ptr (s'+1) 0]) (.inl rfl);have s5:=s4.trans (w4.stpNew .no (.cells 0 true false [.ptr (s'+1) 0]) (by simp))
   have nbL:κb bL = .no:=by
    have e:bL=s1+(bL-s1):=by omega
    rw[e];exact nb _
   have kb:kdS (kdS (kdS (kdS (kdS κ' s' .fr) s1 .fr) (s1+1) .fr) (s'+1) (.lab (xz x (i+1)) false)) (s'+1+1) .no bL = .fr:=by
    rw[qe q9,qe q8,qe q7,qe q6,qe q5];exact hL0
   have w6:=w5.chg (b:=bL) .fr .dead (.inl kb) (by omega) (.inr (.inl rfl));have s6:=s5.mod' nbL .dead;have w7:=w6.new .fr (.cells 1 true true (rPt (xs++[s'+1]))) (.inr (.inl rfl));have s7:=s6.trans (w6.stpNew .fr (.cells 1 true true (rPt (xs++[s'+1]))) (by simp));have w7':=w5.new .fr (.cells 1 true true (rPt (xs++[s'+1]))) (.inr (.inl rfl));have s7':=s5.trans (w5.stpNew .fr (.cells 1 true true (rPt (xs++[s'+1]))) (by simp))
   have fin:∀(κf:Nat->Kd) (tf:Tr Blk) (Lf:List Nat),Stp Lf κb sb tb κf (s'+1+1+1+1) tf->WI g w κf (s'+1+1+1+1) tf (qa2 x.arch 0 (xw x)) []->Lf=L'++[s'+1]->(∀b,b<s'->b≠s1->b≠s1+1->b≠bL->κf b=κ' b∧tf.get b=tr'.get b)->κf s1 = .fr->κf (s1+1) = .fr->κf (s'+1) = .lab (xz x (i+1)) false->κf (s'+1+1+1) = .fr->
     tf.get s1=some (.cells 0 true false ((qaD (qH x.rules)).take (i+1)++List.replicate (x.rules.length-(i+1)) (.i .u32 0)))->tf.get (s1+1)=some (.cells 0 true false ((qa3 (qH x.rules)).take (i+1)++List.replicate (x.rules.length-(i+1)) (.i .i64 0)))->tf.get (s'+1+1+1)=some (.cells 1 true true (rPt (xs++[s'+1])))->
     ∀tt,Has tt [(1,.ptr bf 0),(4,.ptr w 0),(5,.ptr bN 0),(6,.sl s1 0 x.rules.length x.rules.length false),(7,.sl (s1+1) 0 x.rules.length x.rules.length false),(8,.own (s'+1+1+1) (i+1+1)),(41,.fz x.rules.length (rR x.rules)),(42,.i .i64 (x.rules.length:Int)),(43,.i .i64 ((i+1:Nat):Int))]->G tt ⟨s'+1+1+1+1,0,tf⟩:=by
    intro κf tf Lf p1 p2 p3 p4 p5 p6 p7 p8 p9 p10 p11 tt htt;have hbfs:bf<s':=by omega
    have hbNs:bN<s1:=by
     have hb:=st1.lab _ _ _ hN;exact w1.dom bN (by rw[hb];simp)
    have hbfL:bf≠bL:=by omega
    refine ih (i+1,s'+1+1+1) _ _ (by simp only;omega) htt ⟨by simp only;omega,Lf,κf,s'+1+1+1+1,tf,xs++[s'+1],rfl,p1,p2,by simp[hxl],fun j c hj=>?_,p8,?_,?_,?_,?_,fun c hc=>?_,fun j c hj=>?_,p5,p6,p9,p10,by simp only;omega,by simp only;omega⟩
    ·rw[List.getElem?_append] at hj;split at hj
     ·obtain⟨p,hp⟩:=hxs j c hj;have:c<s':=w'.dom c (by rw[hp];simp);have n1:c≠s1:=fun e=>by rw[e,hs1] at hp;cases hp
      have n2:c≠s1+1:=fun e=>by rw[e,hs2] at hp;cases hp
      have n3:c≠bL:=fun e=>by rw[e,hL0] at hp;cases hp
      exact⟨p,by rw[(p4 c this n1 n2 n3).1];exact hp⟩
     ·have hj0:j-xs.length=0:=by
       have:=(zzS.1 hj).1;simp at this;exact this
      rw[hj0] at hj;simp at hj;subst hj;obtain rfl:j=i+1:=by omega
      exact⟨false,p7⟩
    ·rw[p11,if_neg (by simp)]
    ·rw[(p4 bf hbfs (by omega) (by omega) hbfL).1];exact hbf
    ·rw[(p4 bf hbfs (by omega) (by omega) hbfL).2];exact gbf
    ·rw[(p4 bN (by omega) (by omega) (by omega) (by omega)).1];exact hbN'
    ·rw[p3,List.mem_append,List.mem_singleton] at hc;rcases hc with hc|hc
     ·rcases hL' c hc with q|⟨j,q⟩
      ·exact .inl q
      ·exact .inr ⟨j,by rw[List.getElem?_append_left (zzS.1 q).1];exact q⟩
     ·exact .inr ⟨xs.length,by rw[hc];simp⟩
    ·rw[List.getElem?_append] at hj;split at hj
     ·exact hnew j c hj
     ·have hj0:j-xs.length=0:=by
       have:=(zzS.1 hj).1;simp at this;exact this
      rw[hj0] at hj;simp at hj;omega
   have m1:¬s'+1+1+1=s'+1+1:=by omega
   have hap:rPt xs++[.ptr (s'+1) 0]=rPt (xs++[s'+1]):=by simp[rPt]
   have hlx:(rPt xs).length=i+1:=by rw[qeJ,hxl]
   have m2:¬s1=s'+1:=by omega
   have m3:¬s1+1=s'+1:=by omega
   have m4:¬s'=s'+1:=by omega
   have m5:¬s'+1+1=s'+1:=by omega
   have hs1':s1<s':=by omega
   rcases Nat.eq_zero_or_pos i with h0|h0
   ·rw[if_pos h0] at gL;have hV:qgO i bL = .sl bL 0 1 1 false:=by simp[qgO,h0]
    have htk:(rPt xs).take 1=rPt xs:=List.take_of_length_le (by rw[hlx];omega);have c2:1<=(rPt xs).length:=by omega
    rw[hV];have e2:(.own (s'+1+1+1) (i+1+1):AV) = .own (s'+1+1+1) 2:=by rw[h0]
    rw[e2] at fin;simp +decide only[↓vS,vT,simprocAttr,hlt',hlt,h3,hel,zc,hw1,gn,gw,gL,ln,lw,fn,fw,q1,q2,q3,q4,q5,q6,q7,q8,q9,q10,q11,m1,Nat.mul_one,htk,c2,hap];refine fin _ _ _ s7' w7' (by simp) ?_ ?_ ?_ ?_ ?_ ?_ ?_ ?_ _ ?_
    ·intro b hb n1 n2 n3;constructor
     ·rw[qe (by omega),qe (by omega),qe (by omega),qe n2,qe n1,qe (by omega)]
     ·simp only[Tr.get_set];rw[if_neg (by omega),if_neg (by omega),if_neg (by omega),if_neg n2,if_neg n1,if_neg (by omega),if_neg (by omega)]
    ·rw[qe (by omega),qe (by omega),qe (by omega),qe (by omega),qz]
    ·rw[qe (by omega),qe (by omega),qe (by omega),qz]
    ·rw[qe (by omega),qe (by omega),qz]
    ·rw[qz]
    ·simp only[Tr.get_set];rw[if_neg (by omega),if_neg (by omega),if_neg (by omega),if_neg (by omega)];simp
    ·simp only[Tr.get_set];rw[if_neg (by omega),if_neg (by omega),if_neg (by omega)];simp
    ·rw[Tr.get_set,if_pos rfl]
    ·simp[qf,qh,Tr.get_set]
   ·rw[if_neg (by omega)] at gL;have hV:qgO i bL = .own bL (i+1):=by unfold qgO;rw[if_neg (by omega)]
    rw[hV];have rr1:i+1+1<=qg:=by simp only[qg];omega
    have rr2:(i+1+1)*8<=qg:=by simp only[qg];omega
    simp +decide only[↓vS,vT,simprocAttr,hlt',hlt,h3,hel,zc,hw1,gn,gw,gL,ln,lw,fn,fw,q1,q2,q3,q4,q5,q6,q7,q8,q9,q10,q11,m1,rr1,rr2,Nat.mul_one,hlx,hap];refine fin _ _ _ s7 w7 (by simp) ?_ ?_ ?_ ?_ ?_ ?_ ?_ ?_ _ ?_
    ·intro b hb n1 n2 n3;constructor
     ·rw[qe (by omega),qe n3,qe (by omega),qe (by omega),qe n2,qe n1,qe (by omega)]
     ·simp only[Tr.get_set];rw[if_neg (by omega),if_neg n3,if_neg (by omega),if_neg (by omega),if_neg n2,if_neg n1,if_neg (by omega),if_neg (by omega)]
    ·rw[qe (by omega),qe (by omega),qe (by omega),qe (by omega),qe (by omega),qz]
    ·rw[qe (by omega),qe (by omega),qe (by omega),qe (by omega),qz]
    ·rw[qe (by omega),qe (by omega),qe (by omega),qz]
    ·rw[qz]
    ·simp only[Tr.get_set];rw[if_neg (by omega),if_neg (by omega),if_neg (by omega),if_neg (by omega),if_neg (by omega)];simp
    ·simp only[Tr.get_set];rw[if_neg (by omega),if_neg (by omega),if_neg (by omega),if_neg (by omega)];simp
    ·rw[Tr.get_set,if_pos rfl]
    ·simp[qf,qh,Tr.get_set]
  ·obtain rfl:i=x.rules.length:=by omega
   have hlt':¬((x.rules.length:Int)<x.rules.length):=by omega
   simp +decide only[↓vS,vT,simprocAttr,hlt']
   have e1:(if x.rules.length=0 then Blk.cells 0 true false (rPt xs) else .cells 1 true true (rPt xs)) = .cells (if x.rules.length=0 then 0 else 1) true (decide (x.rules.length≠0)) (rPt xs):=by
    by_cases h:x.rules.length=0<;>simp[h]
   rw[e1] at gL;have hfb:bf≠s1:=f1;refine qvu (bn:=s1) (bw:=s1+1) E x hx hK hn hd1 hS hB hT1 hT2 hT3 w' st' xs hxl hxs hL0 gL hbf gbf hbN' hbN hL' (fun j c hj=>?_) hno hs1 ?_ (nb 0) hs2 ?_ (nb 1) ⟨by omega,by omega,by omega,by omega,by omega⟩ ?_
   ·have:=hnew j c hj;have e:c=s1+(c-s1):=by omega
    rw[e];exact nb _
   ·rw[gn];simp[List.take_of_length_le,qfC,qaC]
   ·rw[gw];simp[List.take_of_length_le,qfD,qaC]
   ·simp[qf,qh,Tr.get_set]
 ·simp[qf,qh,Tr.get_set,qgO,qN]
 ·refine⟨Nat.zero_le _,_,_,_,_,[s1+1+1],rfl,sd,wd,rfl,fun j c hj=>?_,qz,?_,?_,?_,?_,fun c hc=>?_,fun j c hj=>?_,?_,?_,?_,?_,by simp only;omega,by simp only;omega⟩
  ·have:j=0:=by have:=(zzS.1 hj).1;simpa using this
   subst this;simp at hj;subst hj;exact⟨false,by rw[qe (by omega),qz]⟩
  ·simp[Tr.get_set,rPt]
  ·rw[qe f4,qe f3,qe f2,qe f1];exact hf1.1
  ·simp only[Tr.get_set];rw[if_neg f4,if_neg f3,if_neg f2,if_neg f1];exact gf1
  ·have hb:=st1.lab _ _ _ hN;have:bN<s1:=w1.dom bN (by rw[hb];simp);rw[qe (by omega),qe (by omega),qe (by omega),qe (by omega)];exact hb
  ·simp at hc;rcases hc with hc|hc
   ·exact .inl hc
   ·exact .inr ⟨0,by simp[hc]⟩
  ·have:j=0:=by have:=(zzS.1 hj).1;simpa using this
   subst this;simp at hj;omega
  ·rw[qe (by omega),qe (by omega),qe (by omega),qz]
  ·rw[qe (by omega),qe (by omega),qz]
  ·simp only[Tr.get_set];rw[if_neg (by omega),if_neg (by omega),if_neg (by omega)];simp
  ·simp only[Tr.get_set];rw[if_neg (by omega),if_neg (by omega)];simp
noncomputable def qmc(x:GFil):AV:=if xB x=true then .tup [.fz (zd x).length (rSy (zd x)),.i .i64 0] else .tup [.fz 0 [],.i .i64 210]
theorem qp2(hc:qc P f (qez gM go gS gT gb gh gr gR gd)=true)(E:EFn P g gl gp gj gh gr go gb gR gd gt gH gA gB gC gD)(x:GFil)(hx:FilR x)(hM:qd P gM [.agg (qN x)] (.b (xB x)))
  (hk:xB x=true->jg x<=10000∧(qM x).length<=10000∧qM x≠[]∧(∀nd ∈ qM x,NdOk (x.rules.length+1) (qM x).length nd) ∧
   qd P gS [.fz (qH x.rules).length (qaD (qH x.rules)),.fz (qH x.rules).length (qa3 (qH x.rules)),.i .i64 0] (.tup [.fz (zC (pcs 0 (qH x.rules) 0)).length (rSp (zC (pcs 0 (qH x.rules) 0))),.i .i64 0]) ∧
   qd P gT [.fz (zC (pcs 0 (qH x.rules) 0)).length (rSp (zC (pcs 0 (qH x.rules) 0)))] (.tup [.fz (qM x).length (rNd (qM x)),.i .i64 0])) :
  qd P f [.agg (qN x)] (qmc x):=by
 have hcl:qw (rR x.rules)=true:=xW fun r=>by simp[zc,qw,clo,qbX]
 refine qd.mk hc (by simp[qw,clo,qN,hcl]) ?_;simp only[qez,qN,vI,simprocAttr];simp +decide only[↓vS,vT,simprocAttr];simp only[qN] at hM;refine hM.sc ?_;unfold qmc;cases hK:xB x with
 | false =>
  simp +decide only[↓vS,vT,simprocAttr];simp[vZ]
 | true =>
  obtain⟨h1,h2,h3,h4,h5,h6⟩:=hk hK;simp only[xB,Bool.and_eq_true,decide_eq_true_eq] at hK;obtain⟨⟨⟨⟨k1,k2⟩,k3⟩,k4⟩,k5⟩:=hK;simp +decide only[↓vS,vT,simprocAttr];refine S.weak (Wk.mk [(1,.ptr 0 0),(4,.ptr 1 0),(5,.ptr 2 0)] [.cells 0 true false (qN x),.cells 0 true false [.own 3 0,.own 4 0],.cells 0 true false [.i .i64 0],.cells 4 true true [],.cells 1 true true []] [0,1,2,99,99] ?_ ?_ ?_ rfl) ?_
  ·simp[vw]
  ·simp[vw,qN,hcl]
  ·simp
  simp only[vI,simprocAttr]
  have hW:∀kd:Kd,(kd = .no∨kd = .lab (xw x) false)->WI g 1 (fun b=>if b=0 then .fr else if b=1 then .w else if b=2 then kd else if b=3 then .l else if b=4 then .t else .no) 5 (((((Tr.leaf.set 0 (.cells 0 true false (qN x))).set 1 (.cells 0 true false [.own 3 0,.own 4 0])).set 2 (.cells 0 true false [.i .i64 0])).set 3 (.cells 4 true true [])).set 4 (.cells 1 true true [])) [] []:=fun kd hkd=>by
   refine⟨fun b hb=>?_,⟨3,4,[],[],rfl,rfl,rfl,?_,?_,?_,trivial,by simp,fun j y hy=>by simp at hy⟩,fun b F p hb=>?_⟩
   ·by_cases e:b<5
    ·exact e
    ·rw[if_neg (by omega),if_neg (by omega),if_neg (by omega),if_neg (by omega),if_neg (by omega)] at hb;exact absurd rfl hb
   ·simp[Tr.get_set]
   ·simp[Tr.get_set,rSy]
   ·simp[Tr.get_set]
   ·split at hb
    ·cases hb
    split at hb
    ·cases hb
    split at hb
    ·rename_i e;subst e;rcases hkd with rfl|rfl
     ·cases hb
     ·cases hb;exact⟨0,by simp[Tr.get_set],by simp⟩
    split at hb
    ·cases hb
    split at hb<;>cases hb
  refine qvt (bf:=0) (bN:=2) (pN:=false) (κb:=fun b=>if b=0 then .fr else if b=1 then .w else if b=2 then .no else if b=3 then .l else if b=4 then .t else .no) (sb:=5) (tb:=((((Tr.leaf.set 0 (.cells 0 true false (qN x))).set 1 (.cells 0 true false [.own 3 0,.own 4 0])).set 2 (.cells 0 true false [.i .i64 0])).set 3 (.cells 4 true true [])).set 4 (.cells 1 true true []))
   E x hx k1 k2 (qhY k5) k3 h1 h5 h6 h3 h4 h2 (hW (.lab (xw x) false) (.inr rfl)) ⟨Nat.le_refl _,fun b hb=>⟨?_,rfl⟩,fun b hb=>⟨?_,rfl⟩,fun b F p hb=>?_,fun b F hb=>?_⟩ (hW .no (.inl rfl)).dom rfl ?_ rfl rfl ?_ ?_
  ·by_cases e:b=2
   ·subst e;simp at hb
   ·rw[if_neg e] at hb ⊢;exact hb
  ·by_cases e:b=2
   ·subst e;simp at hb
   ·rw[if_neg e] at hb ⊢;exact hb
  ·by_cases e:b=2
   ·subst e;simp at hb
   ·rw[if_neg e] at hb ⊢;exact hb
  ·by_cases e:b=2
   ·exact .inr (by simp[e])
   ·rw[if_neg e] at hb ⊢;exact .inl hb
  ·simp[Tr.get_set]
  ·intro b F hb
   repeat' split at hb
   all_goals cases hb
  ·simp[qf,qh,Tr.get_set]
end
def qde(c:Int):Prop:=c=21∨c=37∨c=53∨c=69
def qd9(s:Sy)(j n:Nat):Prop :=
 (s.code=32∧s.th=0∧s.el=0∧s.k % 4=0∧0<=s.k∧s.k<64)∨((s.code=84∨s.code=6)∧s.th=0∧s.el=0)∨(s.code=5∧s.k=0∧s.el=0∧j<s.th∧s.th<n)∨(qde s.code∧j<s.th∧s.th<n∧j<s.el∧s.el<n)
structure MayL (l:List Sy):Prop where
 pos:0<l.length
 big:l.length<=131072
 last:∃s,l[l.length-1]?=some s∧s.code=6
 all:∀(j:Nat) s,l[j]?=some s->qd9 s j l.length
theorem qS{l:List Sy}:qw (rSy l)=true:=xW fun _=>rfl
theorem qtZ{l:List Sy}:qD (rSy l)=true:=qjo fun _=>rfl
theorem qei{T:List Sy}{j:Nat}{x:Sy}(h:T[j]?=some x):((rSy T).drop (j*4)).take 4=cSy x:=zp qdf h
theorem qhE{T:List Sy}{j:Nat}{x:Sy}(h:T[j]?=some x){i:Nat}(hi:i<4):(rSy T)[j*4+i]?=(cSy x)[i]?:=qbm qdf h hi
def qd5:IFn:=⟨[.tmp 4],.seq (.r [.m 4 .F]) (.seq (.r [.n 5 0,.d 6 1,.b 7 .gtr 5 6,.n 8 7,.y 9 0 8,.j 10 2 8 true,.g 11 (.bin .lss (.t 9) (.t 10)) 8 true,.p 12 8 11,.n 4 12]) (.ret))⟩
theorem qA3(hc:qc P f qd5=true)(x j n:Nat)(h1:j<x)(h2:x<n):qd P f [.i .i64 (x:Int),.pf [.i .i64 (j:Int)] 0,.pf [.i .i64 (n:Int)] 0] (.b true):=by
 refine qd.mk hc rfl ?_;have h1':(j:Int)<x:=by omega
 have h2':(x:Int)<n:=by omega
 simp only[qd5,vI,simprocAttr];simp +decide only[↓vS,vT,simprocAttr,h1',h2'];simp[vZ]
def qhn:IFn:=⟨[.tmp 2],.seq (.r [.m 2 .F]) (.seq (.r [.n 3 0,.q 4 (.bin .eql (.t 3) (.c (.i .u16 21))),.n 5 4,.z 6 0 5,.g 7 (.bin .eql (.t 6) (.c (.i .u16 37))) 5 false,.o 8 5 7,.n 9 8,.z 10 0 9,.g 11 (.bin .eql (.t 10) (.c (.i .u16 53))) 9 false,.o 12 9 11,.n 13 12,.z 14 0 13,.g 15 (.bin .eql (.t 14) (.c (.i .u16 69))) 13 false,.o 16 13 15,.n 2 16]) (.ret))⟩
theorem qBh(hc:qc P f qhn=true)(c:Int)(h:qde c):qd P f [.i .u16 c] (.b true):=by
 refine qd.mk hc rfl ?_;simp only[qhn,vI,simprocAttr];rcases h with rfl|rfl|rfl|rfl
 all_goals
  simp +decide only[↓vS,vT,simprocAttr];simp[vZ]
def qfp(a b c:Nat):IFn:=⟨[.tmp 6],.seq (.r [.q 3 (.box (.t 0)),.q 4 (.box (.t 1)),.q 5 (.box (.t 2)),.m 6 .F]) (.seq (.r [.q 11 (.mkF a [] [.t 4,.t 5]),.n 7 11]) (.seq (.r [.f 12 2 3,.d 13 12,.w 14 .eql 13 0,.n 15 14,.h 16 3 3 15 true,.j 17 16 15 true,.g 18 (.bin .eql (.t 17) (.k 0)) 15 true,.p 19 15 18,.n 8 19]) (.seq (.blk 0 (.seq (.r [.f 21 0 3,.d 22 21,.q 23 (.bin .eql (.t 22) (.c (.i .u16 32))),.n 20 23]) (.cond (.t 20) (.seq (.r [.q 25 (.build [.i .u32 0,.i .u32 0,.i .u64 0,.i .u64 0,.i .u64 0,.i .u64 0,.i .u64 0,.i .u64 0,.i .u64 0] []),.f 26 1 3,.d 27 26,.l 28 b [.t 25,.t 27],.n 24 28,.x 29 24 0,.x 30 24 1,.n 9 29,.n 10 30]) (.seq (.r [.n 31 8,.n 32 31,.y 33 10 32,.g 34 (.bin .eql (.t 33) (.k 0)) 32 true,.p 35 32 34,.n 6 35]) (.ret))) (.seq (.r [.f 37 0 3,.d 38 37,.q 39 (.bin .eql (.t 38) (.c (.i .u16 84))),.n 40 39,.h 41 0 3 40 false,.j 42 41 40 false,.g 43 (.bin .eql (.t 42) (.c (.i .u16 6))) 40 false,.o 44 40 43,.n 36 44]) (.cond (.t 36) (.seq (.r [.n 45 8,.n 6 45]) (.ret)) (.seq (.r [.f 47 0 3,.d 48 47,.q 49 (.bin .eql (.t 48) (.c (.i .u16 5))),.n 46 49]) (.cond (.t 46) (.seq (.r [.f 50 1 3,.d 51 50,.q 52 (.bin .eql (.t 51) (.c (.i .u32 0))),.n 53 52,.h 54 3 3 53 true,.j 55 54 53 true,.g 56 (.bin .eql (.t 55) (.k 0)) 53 true,.p 57 53 56,.n 58 57,.y 59 7 58,.h 60 2 3 58 true,.j 61 60 58 true,⟨(some 62),.callV (.t 59) [.t 61],(some (58,true))⟩,.p 63 58 62,.n 6 63]) (.ret)) (.skip)))))))) (.seq (.r [.f 64 0 3,.d 65 64,.l 66 c [.t 65],.n 67 66,.y 68 7 67,.h 69 2 3 67 true,.j 70 69 67 true,⟨(some 71),.callV (.t 68) [.t 70],(some (67,true))⟩,.p 72 67 71,.n 73 72,.y 74 7 73,.h 75 3 3 73 true,.j 76 75 73 true,⟨(some 77),.callV (.t 74) [.t 76],(some (73,true))⟩,.p 78 73 77,.n 6 78]) (.ret)))))⟩
theorem qBH{g1 g2 g3:Nat}(hc:qc P f (qfp g1 g2 g3)=true)(h1:∀x j n:Nat,j<x->x<n->qd P g1 [.i .i64 (x:Int),.pf [.i .i64 (j:Int)] 0,.pf [.i .i64 (n:Int)] 0] (.b true))(h2:qrF P g2)(h3:∀c,qde c->qd P g3 [.i .u16 c] (.b true))(s:Sy)(j n:Nat)(hs:qd9 s j n)(hn:n<=1000000)(hj:j<n) :
  qd P f [.agg (cSy s),.i .i64 (j:Int),.i .i64 (n:Int)] (.b true):=by
 refine qd.mk hc rfl ?_;simp only[qfp,cSy,vI,simprocAttr];obtain⟨code,sk,th,el⟩:=s;simp only[qd9] at hs;rcases hs with⟨rfl,rfl,rfl,k4,k0,k64⟩|⟨hcd,rfl,rfl⟩|⟨rfl,rfl,rfl,j1,j2⟩|⟨hcd,j1,j2,j3,j4⟩
 ·have hw:=h2 ⟨0,0,0,0,0,0,0,0,0⟩ (by constructor<;>decide) sk k0 (by omega);have e:qld ⟨0,0,0,0,0,0,0,0,0⟩ sk = .tup [.i .u32 ((xO ⟨0,0,0,0,0,0,0,0,0⟩).getD (sk / 4).toNat 0),.i .i64 0]:=by unfold qld;rw[if_neg (by omega)]
  rw[e] at hw;simp only[qT] at hw;have z0:((0:Nat):Int)=0:=rfl;simp +decide only[↓vS,vT,simprocAttr,z0];refine hw.sc ?_;simp +decide only[↓vS,vT,simprocAttr];simp[vZ]
 ·have z0:((0:Nat):Int)=0:=rfl;rcases hcd with rfl|rfl
  ·simp +decide only[↓vS,vT,simprocAttr,z0];simp[vZ]
  ·simp +decide only[↓vS,vT,simprocAttr,z0];simp[vZ]
 ·have z0:((0:Nat):Int)=0:=rfl;have t0:¬(th:Int)=0:=by omega
  have t1:j<th:=j1;simp +decide only[↓vS,vT,simprocAttr,z0,t0];refine (h1 th j n j1 j2).lend (by simp[vZ,vP,Tr.get_set]) rfl ?_;simp +decide only[↓vS,vT,simprocAttr];simp[vZ]
 ·have t0:¬(th:Int)=0:=by omega
  have ha:=h3 code hcd;have n1:¬code=32:=by rcases hcd with h|h|h|h<;>omega
  have n2:¬code=84:=by rcases hcd with h|h|h|h<;>omega
  have n3:¬code=6:=by rcases hcd with h|h|h|h<;>omega
  have n4:¬code=5:=by rcases hcd with h|h|h|h<;>omega
  simp +decide only[↓vS,vT,simprocAttr,t0,n1,n2,n3,n4];refine ha.sc ?_;simp +decide only[↓vS,vT,simprocAttr];refine (h1 th j n j1 j2).lend (by simp[vZ,vP,Tr.get_set]) rfl ?_;simp +decide only[↓vS,vT,simprocAttr];refine (h1 el j n j3 j4).lend (by simp[vZ,vP,Tr.get_set]) rfl ?_;simp +decide only[↓vS,vT,simprocAttr];simp[vZ]
def qir(a:Nat):IFn:=⟨[.tmp 2],.seq (.r [.m 2 .F]) (.seq (.seq (.r [.n 5 0,.e 6 5,.w 7 .lss 6 1,.n 8 7,.z 9 0 8,.g 10 (.len false (.t 9)) 8 false,.g 11 (.bin .gtr (.t 10) (.k 131072)) 8 false,.o 12 8 11,.n 13 12,.z 14 0 13,.z 15 0 13,.g 16 (.len false (.t 15)) 13 false,.g 17 (.bin .sub (.t 16) (.k 1)) 13 false,.g 18 (.iAddrS 4 (.t 14) (.t 17)) 13 false,.h 19 0 18 13 false,.j 20 19 13 false,.g 21 (.bin .neq (.t 20) (.c (.i .u16 6))) 13 false,.o 22 13 21]) (.cond (.t 22) (.seq (.r [.m 2 .F]) (.ret)) (.skip))) (.seq (.seq (.r [.n 23 0,.e 24 23,.m 25 (.k 0)]) (.blk 0 (.loop (.seq (.r [.s 26 25 24]) (.seq (.cond (.t 26) (.skip) (.exit 0)) (.seq (.blk 1 (.seq (.r [.n 27 25,.i 28 4 23 25,.v 29 4 28,.q 4 (.alloc [.i .u16 0,.i .u32 0,.i .i64 0,.i .i64 0]),.n 3 27,.u (.store 4 (.t 4) (.t 29))]) (.seq (.r [.v 30 4 4,.n 31 3,.n 32 0,.e 33 32,.l 34 a [.t 30,.t 31,.t 33],.q 35 (.un .not (.t 34))]) (.cond (.t 35) (.seq (.r [.m 2 .F]) (.ret)) (.skip))))) (.r [.a 36 25 1,.n 25 36]))))))) (.seq (.r [.m 2 .T]) (.ret))))⟩
theorem qEh{g:Nat}(hc:qc P f (qir g)=true)(hg:∀(s:Sy) (j n:Nat),qd9 s j n->n<=1000000->j<n->qd P g [.agg (cSy s),.i .i64 (j:Int),.i .i64 (n:Int)] (.b true))(l:List Sy)(hl:MayL l):qd P f [.fz l.length (rSy l)] (.b true):=by
 refine qd.mk hc (by simp[qw,clo,qS]) ?_;obtain⟨z,hz,hz6⟩:=hl.last;have p1:=hl.pos;have p2:=hl.big;have n1:¬(l.length:Int)<1:=by omega
 have n2:¬131072<(l.length:Int):=by omega
 have e1:IntKind.wrap .i64 ((l.length:Int)-1)=((l.length-1:Nat):Int):=by rw[qu (by omega) (by omega)];omega
 have hlt:l.length-1<l.length:=by omega
 have gz:=qhE hz (i:=0) (by omega);have gz':(rSy l)[(l.length-1)*4]?=some (.i .u16 6):=by rw[← hz6];exact gz
 simp only[qir,vI,simprocAttr];simp +decide only[↓vS,vT,simprocAttr,n1,n2,e1,hlt,gz'];refine SL.loopP (α:=Nat) (fun i=>[(0,.fz l.length (rSy l)),(23,.fz l.length (rSy l)),(24,.i .i64 (l.length:Int)),(25,.i .i64 (i:Int))]) (fun i h=>i<=l.length∧h.fl=0) (fun i=>l.length-i) ?_ 0 ?_ ?_
 ·rintro i ⟨s,fl,tr⟩ ⟨hi,rfl⟩ G ih;simp only[vI,simprocAttr]
  by_cases hi':i<l.length
  ·have hlt':(i:Int)<l.length:=by omega
   obtain⟨x,hx⟩:∃x,l[i]?=some x:=⟨_,zzE hi'⟩;have hel:=qei hx;have h4:i*4+4<=(rSy l).length:=by rw[qak];omega
   have hw1:IntKind.wrap .i64 ((i:Int)+1)=((i+1:Nat):Int):=by rw[qu (by omega) (by omega)];simp
   have hp:=hg x i l.length (hl.all i x hx) (by omega) hi';simp only[cSy] at hp;simp +decide only[↓vS,vT,simprocAttr,hlt',hi',h4,hel,cSy];refine hp.sc ?_;simp +decide only[↓vS,vT,simprocAttr,hw1];exact ih (i+1) _ _ (by omega) (by simp[qf,qh,Tr.get_set]) ⟨by omega,rfl⟩
  ·obtain rfl:i=l.length:=by omega
   have hlt':¬((l.length:Int)<l.length):=by omega
   simp +decide only[↓vS,vT,simprocAttr,hlt'];simp[vZ]
 ·simp[qf,qh,Tr.get_set]
 ·exact⟨Nat.zero_le _,rfl⟩
def zl:IFn:=⟨[.tmp 2],.seq (.r [.m 2 .N]) (.seq (.seq (.r [.n 3 0,.q 4 (.eqN false .slice (.t 3))]) (.cond (.t 4) (.seq (.r [.m 2 .N]) (.ret)) (.skip))) (.seq (.r [.q 5 (.buildS 0 [.i .u16 0,.i .u32 0,.i .i64 0,.i .i64 0] []),.n 6 0,.q 7 (.app 4 24 true (.t 5) (.t 6)),.n 2 7]) (.ret)))⟩
theorem qBk(hc:qc P f zl=true):qcT P f 4 24:=by
 intro n rows hlen hcl hok hr1 hr2;refine Own.of_SC (by simp[qw,clo]) ?_;cases n with
 | zero =>
  obtain rfl:rows=[]:=by cases rows with|nil=>rfl|cons=>simp at hlen
  refine SC.nil0 (SC.mk hc (ql ?_)) (SC.mk hc (ql ?_))
  ·simp only[zl,vI,simprocAttr];simp only[↓vS,vT,simprocAttr];intro _;refine⟨[1],?_⟩;simp[vw]
  ·simp only[zl,vI,simprocAttr];simp only[↓vS,vT,simprocAttr,if_true];intro _;refine⟨[1],?_⟩;simp[vw]
 | succ n =>
  refine SC.mk hc (ql ?_);simp only[zl,vI,simprocAttr];have h1:1<=n+1:=by omega
  have h2:(n+1)*4<=rows.length:=by omega
  have h3:rows.take ((n+1)*4)=rows:=List.take_of_length_le (by omega);have h4:¬(n+1<=0):=by omega
  simp only[↓vS,vT,simprocAttr,h1,h2,h3,h4,hr1,hr2,hok,Nat.mul_one,Nat.zero_mul];intro _;refine⟨[1],?_⟩;simp[vw,qi,hcl]
def qbh(s:Sy):Prop:=qk s.code=4
def qcf(s:Sy):Prop:=qk s.code=4∧s.code≠5
instance (s:Sy):Decidable (qbh s):=by unfold qbh;infer_instance
instance (s:Sy):Decidable (qcf s):=by unfold qcf;infer_instance
def qit(a:Nat):IFn:=⟨[.tmp 2],.seq (.r [.q 1 (.box (.t 0)),.m 2 .F]) (.seq (.r [.f 3 0 1,.d 4 3,.l 5 a [.t 4],.q 6 (.bin .eql (.t 5) (.c (.i .u8 4))),.n 7 6,.h 8 0 1 7 true,.j 9 8 7 true,.g 10 (.bin .neq (.t 9) (.c (.i .u16 5))) 7 true,.p 11 7 10,.n 2 11]) (.ret))⟩
def qfc(P:Program)(f:Nat):Prop:=∀s:Sy,qd P f [.agg (cSy s)] (.b (decide (qcf s)))
theorem qDT{g:Nat}(hc:qc P f (qit g)=true)(hg:cOf P g):qfc P f:=by
 intro s;refine qd.mk hc rfl ?_;simp only[qit,cSy,vI,simprocAttr];simp +decide only[↓vS,vT,simprocAttr];refine (hg s.code).sc ?_
 by_cases h1:qk s.code=4
 ·by_cases h2:s.code=5
  ·simp +decide only[↓vS,vT,simprocAttr,h1,h2];simp[vZ,qcf,h2]
  ·simp +decide only[↓vS,vT,simprocAttr,h1,h2];simp[vZ,qcf,h1,h2]
 ·simp +decide only[↓vS,vT,simprocAttr,h1];simp[vZ,qcf,h1]
def qa1(to:Nat->Nat)(s:Sy):Sy:=⟨s.code,s.k,if qbh s then to s.th else s.th,if qcf s then to s.el else s.el⟩
theorem qw1{α:Type}{A B:List α}{x y:α}:(A++x::B).set A.length y=A++y::B:=by
 rw[List.set_append];simp
def xG(a b c:Nat):IFn:=⟨[.tmp 4],.seq (.r [.m 4 .N]) (.seq (.r [.n 8 0,.l 9 a [.t 8],.n 5 9]) (.seq (.seq (.r [.n 10 5,.e 11 10,.m 12 (.k 0)]) (.blk 0 (.loop (.seq (.r [.s 13 12 11]) (.seq (.cond (.t 13) (.skip) (.exit 0)) (.seq (.blk 1 (.seq (.r [.n 14 12,.i 15 4 10 12,.v 16 4 15,.q 7 (.alloc [.i .u16 0,.i .u32 0,.i .i64 0,.i .i64 0]),.n 6 14,.u (.store 4 (.t 7) (.t 16))]) (.seq (.seq (.r [.f 17 0 7,.d 18 17,.l 19 b [.t 18],.q 20 (.bin .eql (.t 19) (.c (.i .u8 4)))]) (.cond (.t 20) (.r [.n 21 5,.n 22 6,.n 23 1,.f 24 2 7,.d 25 24,⟨(some 26),.callV (.t 23) [.t 25],none⟩,.i 27 4 21 22,.f 28 2 27,.u (.store 1 (.t 28) (.t 26))]) (.skip))) (.seq (.r [.v 29 4 7,.l 30 c [.t 29]]) (.cond (.t 30) (.r [.n 31 5,.n 32 6,.n 33 1,.f 34 3 7,.d 35 34,⟨(some 36),.callV (.t 33) [.t 35],none⟩,.i 37 4 31 32,.f 38 3 37,.u (.store 1 (.t 38) (.t 36))]) (.skip)))))) (.r [.a 39 12 1,.n 12 39]))))))) (.seq (.r [.n 40 5,.n 4 40]) (.ret))))⟩
theorem qjL{g1 g2 g3 gt s fl:Nat}{tr:Tr Blk}{caps:List AV}{k:AV->Hp->Prop}(hc:qc P f (xG g1 g2 g3)=true)(h1:qcT P g1 4 24)(h2:cOf P g2)(h3:qfc P g3)(l:List Sy)(hl:l.length<=200000)(hfl:fl<=s)(to:Nat->Nat)
  (hto:∀x ∈ l,∀j:Nat,(qbh x∧j=x.th)∨(qcf x∧j=x.el)->∀(s':Nat) (tr':Tr Blk) (k':AV->Hp->Prop),s<=s'->(∀b,b<s->tr'.get b=tr.get b)->k' (.i .i64 ((to j:Nat):Int)) ⟨s',fl,tr'⟩->SC P gt (.i .i64 (j:Int)::caps) ⟨s',fl,tr'⟩ k')
  (hk:∀s' tr' b,s<=s'->(∀c,c<s->tr'.get c=tr.get c)->s<=b->b<s'->tr'.get b=some (.cells 4 true true (rSy (l.map (qa1 to))))->k (.own b l.length) ⟨s',fl,tr'⟩):SC P f [.fz l.length (rSy l),.fn gt [] caps] ⟨s,fl,tr⟩ k:=by
 refine SC.mk hc (ql ?_);simp only[xG,vI,simprocAttr];simp +decide only[↓vS,vT,simprocAttr];refine (h1 l.length (rSy l) qak qS qtZ (by simp only[qg];omega) (by simp only[qg];omega)).sc ?_;simp only[vJ,simprocAttr];simp +decide only[↓vS,vT,simprocAttr,x4 qS]
 refine SL.loopP (α:=Nat) (fun i=>[(1,.fn gt [] caps),(5,.own s l.length),(10,.own s l.length),(11,.i .i64 (l.length:Int)),(12,.i .i64 (i:Int))])
  (fun i h=>i<=l.length∧∃s' tr',h=⟨s',fl,tr'⟩∧s<s'∧(∀b,b<s->tr'.get b=tr.get b)∧tr'.get s=some (.cells 4 true true (rSy ((l.take i).map (qa1 to)++l.drop i)))) (fun i=>l.length-i) ?_ 0 ?_ ?_
 ·rintro i h1 ⟨hi,s',tr',rfl,hs,hold,hrow⟩ G ih;simp only[vI,simprocAttr]
  by_cases hlt:i<l.length
  ·have hlt':(i:Int)<l.length:=by omega
   obtain⟨x,hx⟩:∃x,l[i]?=some x:=⟨_,zzE hlt⟩;have hxm:=zzM hx;have hd:l.drop i=x::l.drop (i+1):=by rw[← (zzS.1 hx).2,List.getElem_cons_drop]
   have hAl:((l.take i).map (qa1 to)).length=i:=by simp;omega
   rw[hd] at hrow;obtain⟨A,hA⟩:∃A,A=(l.take i).map (qa1 to):=⟨_,rfl⟩;obtain⟨B,hB⟩:∃B,B=l.drop (i+1):=⟨_,rfl⟩;rw[← hA,← hB] at hrow;rw[← hA] at hAl;have hrl:(A++x::B).length=l.length:=by rw[List.length_append,hAl,hB];simp;omega
   have hget:(A++x::B)[i]?=some x:=by rw[← hAl];simp
   have hel:=qei hget;have h4:i*4+4<=(rSy (A++x::B)).length:=by rw[qak,hrl];omega
   have hw1:IntKind.wrap .i64 ((i:Int)+1)=((i+1:Nat):Int):=by rw[qu (by omega) (by omega)];simp
   have n1:¬s=s':=by omega
   have n2:¬s'=s:=by omega
   have hf2:fl<=s':=by omega
   have hset:∀(y y':Sy) (j:Nat) (v:AV),j<4->cSy y'=(cSy y).take j++([v]++(cSy y).drop (j+1))->(rSy (A++y::B)).take (i*4+j)++v::(rSy (A++y::B)).drop (i*4+j+1)=rSy (A++y'::B):=fun y y' j v hj he=>by
    have:=qfj (f:=cSy) (v:=v) (xs:=A++y::B) (j:=i) qdf (by rw[← hAl];simp) hj he;rw[show (A++y::B).set i y'=A++y'::B by rw[← hAl];exact qw1] at this
    exact this
   have hlen:∀y,(rSy (A++y::B)).length=l.length*4:=fun y=>by rw[qak];simp at hrl ⊢;omega
   have b3:∀y,i*4+2+1<=(rSy (A++y::B)).length:=fun y=>by rw[hlen];omega
   have b4:∀y,i*4+3+1<=(rSy (A++y::B)).length:=fun y=>by rw[hlen];omega
   have fin:∀(s2:Nat) (t2:Tr Blk),s<s2->(∀b,b<s->t2.get b=tr.get b)->t2.get s=some (.cells 4 true true (rSy (A++qa1 to x::B)))->∀tt,Has tt [(1,.fn gt [] caps),(5,.own s l.length),(10,.own s l.length),(11,.i .i64 (l.length:Int)),(12,.i .i64 ((i+1:Nat):Int))]->G tt ⟨s2,fl,t2⟩:=fun s2 t2 q1 q2 q3 tt htt=>by
    refine ih (i+1) _ _ (by omega) htt ⟨by omega,s2,t2,rfl,q1,q2,?_⟩
    rw[q3,qaF hx,List.map_append,← hA,← hB];simp
   have ho:=fun b (hb:b<s)=>hold b hb
   have old:∀(y:Blk) b,b<s->((tr'.set s' (.cells 0 true false [.i .u16 0,.i .u32 0,.i .i64 0,.i .i64 0])).set s' y).get b=tr.get b:=fun y b hb=>by
    rw[Tr.get_set,if_neg (by omega),Tr.get_set,if_neg (by omega)];exact hold b hb
   simp +decide only[↓vS,vT,simprocAttr,hlt',hlt,hrow,h4,hel,cSy,n1,n2,hf2];refine (h2 x.code).sc ?_;have ha:=h3 x;simp only[cSy] at ha
   by_cases hj:qk x.code=4
   ·simp +decide only[↓vS,vT,simprocAttr,hj,n1,n2];refine hto x hxm x.th (.inl ⟨hj,rfl⟩) _ _ _ (by omega) (fun b hb=>old _ b hb) ?_
    have e1:=hset x ⟨x.code,x.k,to x.th,x.el⟩ 2 (.i .i64 ((to x.th:Nat):Int)) (by omega) rfl;have hs2:s<=s:=Nat.le_refl _;simp +decide only[↓vS,vT,simprocAttr,hrow,n1,n2,hlt,b3,hfl,e1];refine ha.sc ?_
    by_cases hk5:x.code=5
    ·have hna:¬qcf x:=fun h=>h.2 hk5
     simp +decide only[↓vS,vT,simprocAttr,hna,hw1];refine fin _ _ (by omega) (fun b hb=>?_) ?_ _ (by simp[qf,qh,Tr.get_set])
     ·rw[Tr.get_set,if_neg (by omega)];exact old _ b hb
     ·have e:qa1 to x=⟨x.code,x.k,to x.th,x.el⟩:=by unfold qa1;rw[if_pos (show qbh x from hj),if_neg hna]
      rw[Tr.get_set,if_pos rfl,e]
    ·have hya:qcf x:=⟨hj,hk5⟩;simp +decide only[↓vS,vT,simprocAttr,hya,n1,n2];refine hto x hxm x.el (.inr ⟨hya,rfl⟩) _ _ _ (by omega) (fun b hb=>by rw[Tr.get_set,if_neg (by omega)];exact old _ b hb) ?_
     have e2:=hset ⟨x.code,x.k,to x.th,x.el⟩ ⟨x.code,x.k,to x.th,to x.el⟩ 3 (.i .i64 ((to x.el:Nat):Int)) (by omega) rfl;simp +decide only[↓vS,vT,simprocAttr,hrow,n1,n2,hlt,b4,hfl,e2,hw1];refine fin _ _ (by omega) (fun b hb=>?_) ?_ _ (by simp[qf,qh,Tr.get_set])
     ·rw[Tr.get_set,if_neg (by omega),Tr.get_set,if_neg (by omega)];exact old _ b hb
     ·rw[Tr.get_set,if_pos rfl];simp[qa1,qbh,qcf,hj,hk5]
   ·have hna:¬qcf x:=fun h=>hj h.1
    simp +decide only[↓vS,vT,simprocAttr,hj,n1,n2];refine ha.sc ?_;simp +decide only[↓vS,vT,simprocAttr,hna,hw1];refine fin _ _ (by omega) (fun b hb=>old _ b hb) ?_ _ (by simp[qf,qh,Tr.get_set])
    rw[Tr.get_set,if_neg n1,Tr.get_set,if_neg n1,hrow];simp[qa1,qbh,qcf,hj]
  ·obtain rfl:i=l.length:=by omega
   have hlt':¬((l.length:Int)<l.length):=by omega
   simp +decide only[↓vS,vT,simprocAttr,hlt'];rw[List.take_length,List.drop_length,List.append_nil] at hrow;exact hk _ _ s (by omega) hold (Nat.le_refl _) hs hrow
 ·simp[qf,qh,Tr.get_set]
 ·refine⟨Nat.zero_le _,_,_,rfl,by omega,fun b hb=>?_,?_⟩
  ·rw[Tr.get_set,if_neg (by omega)]
  ·rw[Tr.get_set,if_pos rfl];simp[x4 qS]
theorem qip{α:Type}{f:α->List AV}(h:∀x,jh (f x)=true):∀l:List α,jh (l.flatMap f)=true
 | []=>rfl
 | x::l=>by
  have app:∀(a b:List AV),jh a=true->jh b=true->jh (a++b)=true:=by
   intro a
   induction a with
   | nil=>intro b _ hb;exact hb
   | cons v a ih =>
    intro b ha hb;simp only[jh,Bool.and_eq_true,List.cons_append] at ha ⊢;exact⟨ha.1,ih b ha.2 hb⟩
  rw[List.flatMap_cons];exact app _ _ (h x) (qip h l)
theorem qqO{l:List Sy}:jh (rSy l)=true:=qip (fun _=>rfl) l
theorem qqt{g1 g2 g3 gt:Nat}{caps:List AV}(hc:qc P f (xG g1 g2 g3)=true)(h1:qcT P g1 4 24)(h2:cOf P g2)(h3:qfc P g3)(l:List Sy)(hl:l.length<=200000)(to:Nat->Nat)
  (hto:∀x ∈ l,∀j:Nat,(qbh x∧j=x.th)∨(qcf x∧j=x.el)->qd P gt (.i .i64 (j:Int)::caps) (.i .i64 ((to j:Nat):Int))) :
  qg2 P f [.fz l.length (rSy l),.fn gt [] caps] (.own 0 l.length) [.cells 4 true true (rSy (l.map (qa1 to)))]:=by
 refine qg2.of_SC rfl (by simp[qmD,qqO]) ?_;refine qjL hc h1 h2 h3 l hl (Nat.le_refl 0) to (fun x hx j hj s' tr' k' _ _ hk=>(hto x hx j hj).sc hk) fun s' tr' b _ _ _ hb hg=>?_
 intro _;refine⟨[b],?_⟩;simp[vw,hg,hb,qi,qS]
def qoj:List (Int×Nat)->Int->Nat->List (Int×Nat)
 | [],x,v=>[(x,v)]
 | (a,u)::L,x,v=>if x=a then (x,v)::L else (a,u)::qoj L x v
def qgA:List (Int×Nat)->Int->Option Nat
 | [],_=>none
 | (a,u)::L,x=>if x=a then some u else qgA L x
def mkE(L:List (Int×Nat)):List (AV×AV):=L.map fun p=>(.i .u32 p.1,.i .i64 (p.2:Int))
theorem qoQ{L:List (Int×Nat)}{p:Prop}:qdH (mkE L) p↔p:=by cases L<;>exact Iff.rfl
theorem qx0{x:Int}{v:Nat}:∀{L:List (Int×Nat)} {k:List (AV×AV)->Prop},qfI qx (.i .u32 x) (.i .i64 (v:Int)) (mkE L) k↔k (mkE (qoj L x v))
 | [],k=>qpw
 | (a,u)::L,k=>by
  refine qx1.trans ?_;unfold qoj
  by_cases h:x=a
  ·rw[if_pos h,if_pos h];exact Iff.rfl
  ·rw[if_neg h,if_neg h];exact qx0
theorem qsf{x:Int}:∀{L:List (Int×Nat)} {k:Option AV->Prop},qb3 qx (.i .u32 x) (mkE L) k↔k ((qgA L x).map fun v=>.i .i64 (v:Int))
 | [],k=>qmB
 | (a,u)::L,k=>by
  refine qsg.trans ?_;unfold qgA
  by_cases h:x=a
  ·rw[if_pos h,if_pos h];exact Iff.rfl
  ·rw[if_neg h,if_neg h];exact qsf
theorem quJ{z:AV}{o:Option Nat}{v:Nat}{k:AV->Prop}(h:o=some v):qf7 false z (o.map fun v=>.i .i64 (v:Int)) k↔k (.i .i64 (v:Int)):=by subst h;exact qmd
def qhu(l:List Sy):List (Int×Nat):=(l.zipIdx).foldl (fun L p=>if p.1.code=6 then qoj L p.1.k p.2 else L) []
theorem qjF{l:List Sy}{x:Sy}:qhu (l++[x])=if x.code=6 then qoj (qhu l) x.k l.length else qhu l:=by
 simp[qhu,List.zipIdx_append]
theorem qm4{L:List (Int×Nat)}{x y:Int}{v:Nat}:qgA (qoj L x v) y=if y=x then some v else qgA L y:=by
 induction L with
 | nil=>rfl
 | cons p L ih =>
  obtain⟨a,u⟩:=p;unfold qoj
  by_cases h:x=a
  ·rw[if_pos h];subst h;unfold qgA
   by_cases h2:y=x
   ·rw[if_pos h2,if_pos h2]
   ·simp only[if_neg h2]
  ·rw[if_neg h];unfold qgA;rw[ih]
   by_cases h2:y=a
   ·subst h2;rw[if_pos rfl,if_neg (Ne.symm h),if_pos rfl]
   ·rw[if_neg h2,if_neg h2]
theorem qh4{l:List Sy}{j:Nat}{x:Sy}(h:l[j]?=some x)(h6:x.code=6):∃i y,qgA (qhu l) x.k=some i∧j<=i∧l[i]?=some y∧y.code=6∧y.k=x.k:=by
 have main:∀(n:Nat) (l:List Sy),l.length=n->∀{j:Nat} {x:Sy},l[j]?=some x->x.code=6->∃i y,qgA (qhu l) x.k=some i∧j<=i∧l[i]?=some y∧y.code=6∧y.k=x.k:=by
  intro n
  induction n with
  | zero=>intro l hl j x h;rw[List.eq_nil_of_length_eq_zero hl] at h;simp at h
  | succ n ih =>
   intro l hl j x h h6;have e:l=l.dropLast++[l.getLast (by intro h;rw[h] at hl;simp at hl)]:=(List.dropLast_concat_getLast _).symm;generalize l.getLast _=z at e;generalize l.dropLast=l0 at e;subst e;have hl0:l0.length=n:=by simp at hl;exact hl
   rw[qjF];rcases Nat.lt_or_ge j l0.length with hj|hj
   ·rw[List.getElem?_append_left hj] at h;obtain⟨i,y,q1,q2,q3,q4,q5⟩:=ih l0 hl0 h h6;have hi:=(zzS.1 q3).1
    by_cases hz:z.code=6
    ·rw[if_pos hz,qm4]
     by_cases hk:x.k=z.k
     ·exact⟨l0.length,z,by rw[if_pos hk],by omega,by simp,hz,hk.symm⟩
     ·exact⟨i,y,by rw[if_neg hk];exact q1,q2,by rw[List.getElem?_append_left hi];exact q3,q4,q5⟩
    ·rw[if_neg hz];exact⟨i,y,q1,q2,by rw[List.getElem?_append_left hi];exact q3,q4,q5⟩
   ·have hj2:j=l0.length:=by have:=(zzS.1 h).1;simp at this;omega
    subst hj2;simp at h;subst h;rw[if_pos h6,qm4,if_pos rfl];exact⟨l0.length,z,rfl,Nat.le_refl _,by simp,h6,rfl⟩
 exact main _ l rfl h h6
def qc9(l:List Sy)(j:Nat):Nat:=match l[j]? with|some x=>if x.code=6 then (qgA (qhu l) x.k).getD 0 else j|none=>j
def qek(l:List Sy):List Sy:=l.map (qa1 (qc9 l))
def qkw(l:List Sy):Prop:=∀x ∈ l,∀j:Nat,(qbh x∧j=x.th)∨(qcf x∧j=x.el)->j<l.length
def qck:IFn:=⟨[.tmp 4],.seq (.r [.m 4 (.k 0)]) (.seq (.seq (.r [.d 5 1,.n 6 0,.i 7 4 5 6,.f 8 0 7,.d 9 8,.q 10 (.bin .eql (.t 9) (.c (.i .u16 6)))]) (.cond (.t 10) (.reg true [.d 11 2,.d 12 1,.n 13 0,.i 14 4 12 13,.f 15 1 14,.d 16 15,.q 17 (.lookM (some .u32) false (.i .i64 0) (.t 11) (.t 16)),.n 0 17]) (.skip))) (.seq (.r [.n 18 0,.n 4 18]) (.ret)))⟩
def qdE(a b:Nat):IFn:=⟨[.tmp 2],.seq (.r [.q 1 (.box (.t 0)),.m 2 .N]) (.seq (.r [.q 6 (.mkM),.q 3 (.alloc [.nilm]),.u (.store 1 (.t 3) (.t 6))]) (.seq (.seq (.r [.d 7 1,.e 8 7,.m 9 (.k 0)]) (.blk 0 (.loop (.seq (.r [.s 10 9 8]) (.seq (.cond (.t 10) (.skip) (.exit 0)) (.seq (.blk 1 (.seq (.r [.n 11 9,.i 12 4 7 9,.v 13 4 12,.q 5 (.alloc [.i .u16 0,.i .u32 0,.i .i64 0,.i .i64 0]),.n 4 11,.u (.store 4 (.t 5) (.t 13))]) (.seq (.r [.f 14 0 5,.d 15 14,.q 16 (.bin .eql (.t 15) (.c (.i .u16 6)))]) (.cond (.t 16) (.r [.d 17 3,.f 18 1 5,.d 19 18,.n 20 4,.u (.updM (some .u32) (.t 17) (.t 19) (.t 20))]) (.skip))))) (.r [.a 21 9 1,.n 9 21]))))))) (.seq (.r [.d 22 1,.q 23 (.mkF a [] [.t 1,.t 3]),.l 24 b [.t 22,.t 23],.n 2 24]) (.ret))))⟩
theorem qnq{g1 g2 h1 h2 h3:Nat}(hc:qc P f (qdE g1 g2)=true)(hc1:qc P g1 qck=true)(hc2:qc P g2 (xG h1 h2 h3)=true)(c1:qcT P h1 4 24)(c2:cOf P h2)(c3:qfc P h3)(l:List Sy)(hl:l.length<=200000)(hin:qkw l) :
  qd P f [.fz l.length (rSy l)] (.fz (qek l).length (rSy (qek l))):=by
 refine qd.mk hc (by simp[qw,clo,qS]) ?_;simp only[qdE,vI,simprocAttr];simp +decide only[↓vS,vT,simprocAttr]
 refine SL.loopP (α:=Nat) (fun i=>[(1,.ptr 0 0),(3,.ptr 2 0),(7,.fz l.length (rSy l)),(8,.i .i64 (l.length:Int)),(9,.i .i64 (i:Int))])
  (fun i h=>i<=l.length∧∃s tr,h=⟨s,0,tr⟩∧3<=s∧tr.get 0=some (.cells 0 true false [.fz l.length (rSy l)])∧tr.get 1=some (.map (mkE (qhu (l.take i))))∧tr.get 2=some (.cells 0 true false [.map 1])) (fun i=>l.length-i) ?_ 0 ?_ ?_
 ·rintro i h1 ⟨hi,s,tr,rfl,hs,t0,t1,t2⟩ G ih;simp only[vI,simprocAttr]
  by_cases hlt:i<l.length
  ·have hlt':(i:Int)<l.length:=by omega
   obtain⟨x,hx⟩:∃x,l[i]?=some x:=⟨_,zzE hlt⟩;have hel:=qei hx;have h4:i*4+4<=(rSy l).length:=by rw[qak];omega
   have hw1:IntKind.wrap .i64 ((i:Int)+1)=((i+1:Nat):Int):=by rw[qu (by omega) (by omega)];simp
   have n0:¬0=s:=by omega
   have n1:¬1=s:=by omega
   have n2:¬2=s:=by omega
   have hsn:=qjF (l:=l.take i) (x:=x);rw[← qaF hx,List.length_take,Nat.min_eq_left hi] at hsn
   by_cases h6:x.code=6
   ·rw[if_pos h6] at hsn;simp +decide only[↓vS,vT,simprocAttr,hlt',hlt,h4,hel,cSy,h6,n0,n1,n2,t2,t1,qoQ,qx0,hw1];refine ih (i+1) _ _ (by omega) (by simp[qf,qh,Tr.get_set]) ⟨by omega,s+1,_,rfl,by omega,?_,?_,?_⟩
    ·simp only[Tr.get_set];rw[if_neg (by omega),if_neg n0,if_neg n0];exact t0
    ·rw[Tr.get_set,if_pos rfl,hsn]
    ·simp only[Tr.get_set];rw[if_neg (by omega),if_neg n2,if_neg n2];exact t2
   ·rw[if_neg h6] at hsn;simp +decide only[↓vS,vT,simprocAttr,hlt',hlt,h4,hel,cSy,h6,hw1];refine ih (i+1) _ _ (by omega) (by simp[qf,qh,Tr.get_set]) ⟨by omega,s+1,_,rfl,by omega,?_,?_,?_⟩
    ·simp only[Tr.get_set];rw[if_neg n0,if_neg n0];exact t0
    ·simp only[Tr.get_set];rw[if_neg n1,if_neg n1,hsn];exact t1
    ·simp only[Tr.get_set];rw[if_neg n2,if_neg n2];exact t2
  ·obtain rfl:i=l.length:=by omega
   have hlt':¬((l.length:Int)<l.length):=by omega
   rw[List.take_length] at t1;simp +decide only[↓vS,vT,simprocAttr,hlt',t0];refine qjL hc2 c1 c2 c3 l hl (Nat.zero_le _) (qc9 l) (fun x hx j hj s' tr' k' hs' hold hk'=>?_) fun s' tr' b hs' hold hb1 hb2 hg=>?_
   ·have hjl:=hin x hx j hj;obtain⟨y,hy⟩:∃y,l[j]?=some y:=⟨_,zzE hjl⟩;have g0:=(hold 0 (by omega)).trans t0;have g1:=(hold 1 (by omega)).trans t1;have g2:=(hold 2 (by omega)).trans t2;have gc:=qhE hy (i:=0) (by omega);have gc':(rSy l)[j*4]?=some (.i .u16 y.code):=gc;have gk:=qhE hy (i:=1) (by omega);have gk':(rSy l)[j*4+1]?=some (.i .u32 y.k):=gk;refine SC.mk hc1 (ql ?_);simp only[qck,vI,simprocAttr]
    by_cases h6:y.code=6
    ·obtain⟨i,z,q1,q2,q3,q4,q5⟩:=qh4 hy h6;have e:qc9 l j=i:=by unfold qc9;rw[hy];simp[h6,q1]
     rw[e] at hk';simp +decide only[↓vS,vT,simprocAttr,g0,gc',hjl,h6];refine zT ?_;simp +decide only[↓vS,vT,simprocAttr,g0,g1,g2,gk',hjl,qoQ,qsf,quJ q1];exact hk'
    ·have e:qc9 l j=j:=by unfold qc9;rw[hy];simp[h6]
     rw[e] at hk';simp +decide only[↓vS,vT,simprocAttr,g0,gc',hjl,h6];exact hk'
   ·simp +decide only[↓vS,vT,simprocAttr];have e:(qek l).length=l.length:=by simp[qek]
    simp[vZ,vP,hg,e,zq qS];refine⟨fun h=>?_,?_⟩
    ·rw[h];rfl
    ·exact Frzs.self qS
 ·simp[qf,qh,Tr.get_set]
 ·refine⟨Nat.zero_le _,_,_,rfl,by omega,?_,?_,?_⟩<;>simp[Tr.get_set,mkE,qhu]
def xu(a:Nat):IFn:=⟨[.tmp 2],.seq (.r [.q 1 (.box (.t 0)),.m 2 (.c (.nilf))]) (.seq (.r [.q 3 (.mkF a [] [.t 1]),.n 2 3]) (.ret))⟩
theorem qCk{g:Nat}(hc:qc P f (xu g)=true)(l:List Sy):qd P f [.fz l.length (rSy l)] (.fn g [] [.pf [.fz l.length (rSy l)] 0]):=by
 refine qd.mk hc (by simp[qw,clo,qS]) ?_;simp only[xu,vI,simprocAttr];simp +decide only[↓vS,vT,simprocAttr];simp[vZ,vP,Tr.get_set,zq qS]
def qA:IFn:=⟨[],.seq (.r [.d 4 1,.e 5 4,.w 6 .sub 5 1,.n 3 6]) (.blk 0 (.loop (.seq (.seq (.r [.n 7 3,.w 8 .geq 7 0]) (.cond (.t 8) (.skip) (.exit 0))) (.seq (.blk 1 (.seq (.r [.n 11 0,.n 12 3,.d 13 1,.n 14 3,.i 15 4 13 14,.v 16 4 15,⟨(some 17),.callV (.t 11) [.t 12,.t 16],none⟩,.q 18 (.un .not (.t 17))]) (.cond (.t 18) (.ret) (.skip)))) (.r [.n 9 3,.w 10 .sub 9 1,.n 3 10])))))⟩
theorem zZ{α:Type}{c:α->List AV}{l:List α}{lb:Nat}(hc:qc P f qA=true)(hm:∀x,(c x).length=4)(hn:l.length<=1000000)(J:Nat->Hp->Prop)
  (hy:∀(i:Nat) x h,l[i]?=some x->J (i+1) h->∀k:AV->Hp->Prop,(∀h',J i h'->k (.b true) h')->SY P lb [.i .i64 (i:Int),.agg (c x)] h k)
  {s:Nat} {tr:Tr Blk} {k:AV->Hp->Prop} (h0:J l.length ⟨s,0,tr⟩) (hk:∀h,J 0 h->k (.tup []) h):SC P f [.yl lb,.pf [.fz l.length (l.flatMap c)] 0] ⟨s,0,tr⟩ k:=by
 refine SC.mk hc (ql ?_);simp only[qA,vI,simprocAttr];have e1:IntKind.wrap .i64 ((l.length:Int)-1)=(l.length:Int)-1:=qu (by omega) (by omega);simp +decide only[↓vS,vT,simprocAttr,e1];refine SL.loopP (α:=Nat) (fun i=>[(0,.yl lb),(1,.pf [.fz l.length (l.flatMap c)] 0),(3,.i .i64 ((i:Int)-1))]) (fun i h=>i<=l.length∧J i h) (fun i=>i) ?_ l.length ?_ ?_
 ·rintro i h1 ⟨hi,hj⟩ G ih;obtain⟨s',fl',tr'⟩:=h1;simp only[vI,simprocAttr];cases i with
  | zero =>
   have n0:¬(0:Int)<=((0:Nat):Int)-1:=by omega
   simp +decide only[↓vS,vT,simprocAttr,n0];exact hk _ hj
  | succ i =>
   have n0:(0:Int)<=((i+1:Nat):Int)-1:=by omega
   have e2:((i+1:Nat):Int)-1=(i:Int):=by omega
   obtain⟨x,hx⟩:∃x,l[i]?=some x:=⟨_,zzE (by omega)⟩;have hel:=zp (f:=c) (m:=4) hm hx;have hlt:i<l.length:=by omega
   have h4:i*4+4<=(l.flatMap c).length:=by rw[zx hm];omega
   have n1:(0:Int)<=(i:Int):=by omega
   have e3:IntKind.wrap .i64 ((i:Int)-1)=(i:Int)-1:=qu (by omega) (by omega);rw[e2];simp +decide only[↓vS,vT,simprocAttr,n1,hlt,h4,hel];refine hy i x _ hx hj _ fun h' hj'=>?_
   simp +decide only[↓vS,vT,simprocAttr,e3];exact ih i _ _ (by omega) (by simp[qf,qh,Tr.get_set]) ⟨by omega,hj'⟩
 ·simp[qf,qh,Tr.get_set]
 ·exact⟨Nat.le_refl _,h0⟩
def qG:IFn:=⟨[],.seq (.r [.d 4 1,.e 5 4,.w 6 .sub 5 1,.n 3 6]) (.blk 0 (.loop (.seq (.seq (.r [.n 7 3,.w 8 .geq 7 0]) (.cond (.t 8) (.skip) (.exit 0))) (.seq (.blk 1 (.seq (.r [.n 11 0,.n 12 3,.d 13 1,.n 14 3,.i 15 4 13 14,.v 16 4 15,⟨(some 17),.callV (.t 11) [.t 12,.t 16],none⟩,.q 18 (.un .not (.t 17))]) (.cond (.t 18) (.ret) (.skip)))) (.r [.n 9 3,.w 10 .sub 9 1,.n 3 10])))))⟩
theorem qaa{α:Type}{c:α->List AV}{l:List α}{lb:Nat}(hc:qc P f qG=true)(hm:∀x,(c x).length=4)(hn:l.length<=1000000)(J:Nat->Hp->Prop)
  (hy:∀(i:Nat) x h,l[i]?=some x->J (i+1) h->∀k:AV->Hp->Prop,(∀h',J i h'->k (.b true) h')->SY P lb [.i .i64 (i:Int),.agg (c x)] h k)
  {s:Nat} {tr:Tr Blk} {k:AV->Hp->Prop} (h0:J l.length ⟨s,0,tr⟩) (hk:∀h,J 0 h->k (.tup []) h):SC P f [.yl lb,.pf [.fz l.length (l.flatMap c)] 0] ⟨s,0,tr⟩ k:=by
 refine SC.mk hc (ql ?_);simp only[qG,vI,simprocAttr];have e1:IntKind.wrap .i64 ((l.length:Int)-1)=(l.length:Int)-1:=qu (by omega) (by omega);simp +decide only[↓vS,vT,simprocAttr,e1];refine SL.loopP (α:=Nat) (fun i=>[(0,.yl lb),(1,.pf [.fz l.length (l.flatMap c)] 0),(3,.i .i64 ((i:Int)-1))]) (fun i h=>i<=l.length∧J i h) (fun i=>i) ?_ l.length ?_ ?_
 ·rintro i h1 ⟨hi,hj⟩ G ih;obtain⟨s',fl',tr'⟩:=h1;simp only[vI,simprocAttr];cases i with
  | zero =>
   have n0:¬(0:Int)<=((0:Nat):Int)-1:=by omega
   simp +decide only[↓vS,vT,simprocAttr,n0];exact hk _ hj
  | succ i =>
   have n0:(0:Int)<=((i+1:Nat):Int)-1:=by omega
   have e2:((i+1:Nat):Int)-1=(i:Int):=by omega
   obtain⟨x,hx⟩:∃x,l[i]?=some x:=⟨_,zzE (by omega)⟩;have hel:=zp (f:=c) (m:=4) hm hx;have hlt:i<l.length:=by omega
   have h4:i*4+4<=(l.flatMap c).length:=by rw[zx hm];omega
   have n1:(0:Int)<=(i:Int):=by omega
   have e3:IntKind.wrap .i64 ((i:Int)-1)=(i:Int)-1:=qu (by omega) (by omega);rw[e2];simp +decide only[↓vS,vT,simprocAttr,n1,hlt,h4,hel];refine hy i x _ hx hj _ fun h' hj'=>?_
   simp +decide only[↓vS,vT,simprocAttr,e3];exact ih i _ _ (by omega) (by simp[qf,qh,Tr.get_set]) ⟨by omega,hj'⟩
 ·simp[qf,qh,Tr.get_set]
 ·exact⟨Nat.le_refl _,h0⟩
theorem qkG{α:Type}{f:α->List AV}{m:Nat}(h:∀x,(f x).length=m){xs:List α}{j:Nat}(x':α)(hj:j<xs.length):(xs.flatMap f).take (j*m)++(f x'++(xs.flatMap f).drop (j*m+m))=(xs.set j x').flatMap f:=by
 have e:xs=xs.take j++xs[j]::xs.drop (j+1):=by rw[List.getElem_cons_drop,List.take_append_drop]
 have e1:(xs.flatMap f).take (j*m)=(xs.take j).flatMap f:=qfS h xs j;have e2:(xs.flatMap f).drop (j*m+m)=(xs.drop (j+1)).flatMap f:=by rw[← qd4 h xs (j+1),Nat.add_mul];simp
 rw[e1,e2,List.set_eq_take_append_cons_drop,if_pos hj];simp
theorem qni{l:List Sy}{j:Nat}(y:Sy)(hj:j<l.length):(rSy l).take (j*4)++(cSy y++(rSy l).drop (j*4+4))=rSy (l.set j y):=qkG qdf y hj
def xA(out:List Sy)(j:Nat):Nat:=match out[j]? with|some x=>if x.code=5 then x.th else j|none=>j
def qa6(out:List Sy)(x:Sy):Sy:=if qcf (qa1 (xA out) x)∧(qa1 (xA out) x).th=(qa1 (xA out) x).el then ⟨5,0,(qa1 (xA out) x).th,0⟩ else qa1 (xA out) x
def qel(l:List Sy):Nat->List Sy
 | 0=>l
 | m+1=>match l[l.length-(m+1)]? with|some x=>(qel l m).set (l.length-(m+1)) (qa6 (qel l m) x)|none=>qel l m
theorem qem{l:List Sy}:∀{m:Nat},(qel l m).length=l.length
 | 0=>rfl
 | m+1=>by
  unfold qel;split
  ·rw[List.length_set,qem]
  ·exact qem
def qlZ(l:List Sy):List Sy:=qel l l.length
def qai:IFn:=⟨[.tmp 3],.seq (.r [.m 3 (.k 0)]) (.seq (.seq (.r [.d 4 1,.n 5 0,.i 6 4 4 5,.f 7 0 6,.d 8 7,.q 9 (.bin .eql (.t 8) (.c (.i .u16 5)))]) (.cond (.t 9) (.r [.d 10 1,.n 11 0,.i 12 4 10 11,.f 13 2 12,.d 14 13,.n 0 14]) (.skip))) (.seq (.r [.n 15 0,.n 3 15]) (.ret)))⟩
theorem ql2(hc:qc P f qai=true)(out:List Sy)(j:Nat)(hj:j<out.length):qd P f [.i .i64 (j:Int),.pf [.fz out.length (rSy out)] 0] (.i .i64 ((xA out j:Nat):Int)):=by
 refine qd.mk hc (by simp[qw,clo,qS]) ?_;obtain⟨y,hy⟩:∃y,out[j]?=some y:=⟨_,zzE hj⟩;have gc:(rSy out)[j*4]?=some (.i .u16 y.code):=qhE hy (i:=0) (by omega);have gt:(rSy out)[j*4+2]?=some (.i .i64 (y.th:Int)):=qhE hy (i:=2) (by omega);simp only[qai,vI,simprocAttr]
 by_cases h5:y.code=5
 ·have e:xA out j=y.th:=by unfold xA;rw[hy];simp[h5]
  simp +decide only[↓vS,vT,simprocAttr,gc,gt,hj,h5];simp[vZ,e]
 ·have e:xA out j=j:=by unfold xA;rw[hy];simp[h5]
  simp +decide only[↓vS,vT,simprocAttr,gc,gt,hj,h5];simp[vZ,e]
def qa0(a b c d e:Nat):ICode:=.seq (.r [.d 42 3,.n 2 42]) (.ret)
def qcl(a b c d e:Nat):IFn:=⟨[.tmp 2],.seq (.r [.m 2 .N]) (.seq (.r [.n 7 0,.l 8 a [.t 7],.q 3 (.alloc [.nils]),.u (.store 1 (.t 3) (.t 8))]) (.seq (.r [.q 9 (.mkF b [] [.t 3]),.q 4 (.alloc [.nilf]),.u (.store 1 (.t 4) (.t 9))]) (.seq (.seq (.r [.n 10 0,.l 11 c [.t 10]]) (.blk 0 (.rangeF 0 (.t 11) [12,13] (.seq (.r [.n 5 12]) (.r [.q 6 (.alloc [.i .u16 0,.i .u32 0,.i .i64 0,.i .i64 0]),.u (.store 4 (.t 6) (.t 13))])) (.blk 1 (.seq (.reg true [.d 14 3,.n 15 5,.v 16 4 6,.q 17 (.buildS 1 [.i .u16 0,.i .u32 0,.i .i64 0,.i .i64 0] [(0,4,(.t 16))]),.d 18 4,.l 19 d [.t 17,.t 18],.q 20 (.iAddrS 4 (.t 19) (.k 0)),.v 21 4 20,.i 22 4 14 15,.u (.store 4 (.t 22) (.t 21))]) (.seq (.r [.d 23 3,.n 24 5,.i 25 4 23 24,.v 26 4 25,.u (.store 4 (.t 6) (.t 26))]) (.seq (.r [.v 27 4 6,.l 28 e [.t 27],.n 29 28,.h 30 2 6 29 true,.j 31 30 29 true,.h 32 3 6 29 true,.j 33 32 29 true,.g 34 (.bin .eql (.t 31) (.t 33)) 29 true,.p 35 29 34]) (.cond (.t 35) (.r [.d 36 3,.n 37 5,.f 38 2 6,.d 39 38,.q 40 (.build [.i .u16 0,.i .u32 0,.i .i64 0,.i .i64 0] [(0,1,(.c (.i .u16 5))),(2,1,(.t 39))]),.i 41 4 36 37,.u (.store 4 (.t 41) (.t 40))]) (.skip))))))))) (.cut (qa0 a b c d e)))))⟩
def thT(gB:Nat)(l:List Sy):List (Nat×AV):=[(3,.ptr 1 0),(4,.ptr 2 0),(11,.fn gB [] [.pf [.fz l.length (rSy l)] 0])]
def thA:ICode:=.seq (.reg false [⟨some 5,.op (.mov (.t 12)),none⟩]) (.reg false [⟨some 6,.op (.alloc [.i .u16 0,.i .u32 0,.i .i64 0,.i .i64 0]),none⟩,⟨none,.op (.store 4 (.t 6) (.t 13)),none⟩])
def thB(gM gA:Nat):ICode:=.blk 1 (.seq (.reg true [.d 14 3,.n 15 5,.v 16 4 6,.q 17 (.buildS 1 [.i .u16 0,.i .u32 0,.i .i64 0,.i .i64 0] [(0,4,(.t 16))]),.d 18 4,.l 19 gM [.t 17,.t 18],.q 20 (.iAddrS 4 (.t 19) (.k 0)),.v 21 4 20,.i 22 4 14 15,.u (.store 4 (.t 22) (.t 21))]) (.seq (.r [.d 23 3,.n 24 5,.i 25 4 23 24,.v 26 4 25,.u (.store 4 (.t 6) (.t 26))]) (.seq (.r [.v 27 4 6,.l 28 gA [.t 27],.n 29 28,.h 30 2 6 29 true,.j 31 30 29 true,.h 32 3 6 29 true,.j 33 32 29 true,.g 34 (.bin .eql (.t 31) (.t 33)) 29 true,.p 35 29 34]) (.cond (.t 35) (.r [.d 36 3,.n 37 5,.f 38 2 6,.d 39 38,.q 40 (.build [.i .u16 0,.i .u32 0,.i .i64 0,.i .i64 0] [(0,1,(.c (.i .u16 5))),(2,1,(.t 39))]),.i 41 4 36 37,.u (.store 4 (.t 41) (.t 40))]) (.skip)))))
def thI(g1:Nat)(r0:Loop)(ts:List (Nat×AV))(n:Nat)(out:List Sy)(s:Nat)(tr:Tr Blk):Prop :=
 out.length=n∧4<=s∧tr.get 0=some (.cells 4 true true (rSy out))∧tr.get 1=some (.cells 0 true false [.own 0 n])∧tr.get 2=some (.cells 0 true false [.fn g1 [] [.ptr 1 0]])∧tr.get 3=some (.map (zr r0 ts))
theorem qun{g1 gB gM gA s n:Nat}{r0:Loop}{l out:List Sy}{tr:Tr Blk}{k:AV->Hp->Prop}
  (hM:∀(x:Sy) (out:List Sy),out.length=n->(∀j:Nat,(qbh x∧j=x.th)∨(qcf x∧j=x.el)->j<n)->qg2 P gM [.fz 1 (cSy x),.fn g1 [] [.pf [.fz out.length (rSy out)] 0]] (.own 0 1) [.cells 4 true true (cSy (qa1 (xA out) x))])
  (hA:qfc P gA) (hr0:r0.state = .ready) (hp0:r0.pending=none) (hlo:LoopOk P r0 [12,13] thA (thB gM gA)) (hI:thI g1 r0 (thT gB l) n out s tr) (i:Nat) (hi:i<n) (x:Sy) (hx:∀j:Nat,(qbh x∧j=x.th)∨(qcf x∧j=x.el)->j<n)
  (hk:∀s' tr',thI g1 r0 (thT gB l) n (out.set i (qa6 out x)) s' tr'->k (.b true) ⟨s',0,tr'⟩):SY P 3 [.i .i64 (i:Int),.agg (cSy x)] ⟨s,0,tr⟩ k:=by
 obtain⟨hn,h4,h0,h1,h2,h3⟩:=hI;refine SY.mk (r:=r0) (ts:=thT gB l) (ps:=[12,13]) h3 hr0 hlo (Nat.zero_le _) (by show 3<s;omega) rfl ?_;rw[show mkT (thT gB l)=((Tr.leaf.set 11 (.fn gB [] [.pf [.fz l.length (rSy l)] 0])).set 4 (.ptr 2 0)).set 3 (.ptr 1 0) from rfl]
 refine ql ?_;simp only[qks,thA,cSy,vI,simprocAttr];simp +decide only[↓vS,vT,simprocAttr];have n3:¬3=s:=by omega
 have n0:¬0=s:=by omega
 have n1:¬1=s:=by omega
 have n2:¬2=s:=by omega
 have m0:¬0=s+1:=by omega
 have m1:¬1=s+1:=by omega
 have m2:¬2=s+1:=by omega
 have m3:¬3=s+1:=by omega
 have q1:¬s=s+1:=by omega
 have q2:¬s=s+1+1:=by omega
 have q3:¬0=s+1+1:=by omega
 have q4:¬1=s+1+1:=by omega
 have q5:¬2=s+1+1:=by omega
 have q6:¬3=s+1+1:=by omega
 have ns3:¬s=3:=by omega
 have ns0:¬s=0:=by omega
 refine⟨thT gB l,by simp[Tr.get_set,n3,h3],?_⟩
 refine ql ?_;simp only[zW,thB,vI,simprocAttr];simp +decide only[↓vS,vT,simprocAttr];refine zT ?_;have e1:¬(0:Nat)=3:=by decide
 have e2:¬(1:Nat)=3:=by decide
 have e3:¬(2:Nat)=3:=by decide
 simp +decide only[↓vS,vT,simprocAttr,h1,h2,e1,e2,e3,n0,n1,n2,ns3,m0,m1,m2,q1]
 have fr0:∀(f2:Nat) (t2:Tr Blk),t2.get (s+1)=some (.cells 0 true false (cSy x))->t2.get 1=some (.cells 0 true false [.own 0 n])->t2.get 0=some (.cells 4 true true (rSy out))->
   Frzs ⟨s+1+1,f2,t2⟩ [.sl (s+1) 0 1 1 false,.fn g1 [] [.ptr 1 0]] [.fz 1 (cSy x),.fn g1 [] [.pf [.fz out.length (rSy out)] 0]]:=fun f2 t2 p1 p2 p3=>by
  refine qaN.2 ⟨Frz.cut 4 rfl (Nat.le_refl _) ?_,qaN.2 ⟨qsp.2 ⟨rfl,qex.2 trivial,qaN.2 ⟨qsn.2 ⟨rfl,?_⟩,qex.2 trivial⟩⟩,qex.2 trivial⟩⟩
  ·rw[p1];simp[vP,cSy,vZ]
  ·rw[p2];simp[vP,vZ,p3,hn];refine⟨fun h=>?_,Frzs.self qS⟩
   rw[List.eq_nil_of_length_eq_zero (hn.trans h)];rfl
 refine (hM x out hn hx).pc (fr0 _ _ ?_ ?_ ?_) ?_
 ·rw[Tr.get_set,if_pos rfl];rfl
 ·rw[Tr.get_set,if_neg m1,Tr.get_set,if_neg (by decide),Tr.get_set,if_neg n1,Tr.get_set,if_neg n1];exact h1
 ·rw[Tr.get_set,if_neg m0,Tr.get_set,if_neg (by decide),Tr.get_set,if_neg n0,Tr.get_set,if_neg n0];exact h0
 simp only[vJ,simprocAttr];obtain⟨y,hy⟩:∃y,y=qa1 (xA out) x:=⟨_,rfl⟩;have hset:=qni (l:=out) (j:=i) y (by omega);have h44:i*4+4<=(rSy out).length:=by rw[qak];omega
 have hget:(out.set i y)[i]?=some y:=List.getElem?_set_self (by omega);have hel:=qei hget;have h45:i*4+4<=(rSy (out.set i y)).length:=by rw[qak,List.length_set];omega
 have hset2:=qni (l:=out.set i y) (j:=i) ⟨5,0,y.th,0⟩ (by rw[List.length_set];omega);rw[List.set_set] at hset2;have hin:(i:Nat)<n:=hi;rw[← hy];simp +decide only[↓vS,vT,simprocAttr,x4 qS,h0,e1,e2,e3,n0,n1,n2,ns3,m0,m1,m2,q1,q2,q3,q4,q5,cSy,hin];simp only[cSy,List.cons_append,List.nil_append] at hset hset2 hel;have ha:=hA y;simp only[cSy] at ha;have hi0:i<n:=hi;simp +decide only[↓vS,vT,simprocAttr,h44,hset,h1,e1,e2,e3,n0,n1,n2,ns3,ns0,m0,m1,m2,q1,q2,q3,q4,q5,hi0,h45,hel];refine ha.sc ?_
 have fin:∀(s2:Nat) (t2:Tr Blk) (z:Sy),4<=s2->qa6 out x=z->t2.get 0=some (.cells 4 true true (rSy (out.set i z)))->t2.get 1=tr.get 1->t2.get 2=tr.get 2->t2.get 3=some (.map (zr (Go.Kc.bsy r0) (thT gB l)))->∀tt,qy1 3 k .normal tt ⟨s2,0,t2⟩:=by
  intro s2 t2 z p1 p2 p3 p4 p5 p6 tt;refine⟨Go.Kc.bsy r0,thT gB l,p6,?_⟩;rw[qhH,qid hr0 hp0];simp only[zW];simp +decide only[↓vS,vT,simprocAttr];refine hk _ _ ⟨by rw[List.length_set];exact hn,p1,?_,?_,?_,?_⟩
  ·rw[Tr.get_set,if_neg (by decide),p2];exact p3
  ·rw[Tr.get_set,if_neg (by decide),p4];exact h1
  ·rw[Tr.get_set,if_neg (by decide),p5];exact h2
  ·rw[Tr.get_set,if_pos rfl]
 have old:∀(b:Nat) (u1 u2 u3 u4 u5 u6:Blk),b<s->b≠0->b≠3->(((((((tr.set s u1).set s u2).set 3 u3).set (s+1) u4).set (s+1+1) u5).set 0 u6).set s u1).get b=tr.get b:=fun b u1 u2 u3 u4 u5 u6 p1 p2 p3=>by
  simp only[Tr.get_set];repeat rw[if_neg (by omega)]
 have s0:¬0=s:=n0
 by_cases h4':qcf y
 ·by_cases h5:y.th=y.el
  ·have h5':(y.th:Int)=y.el:=by omega
   have he:qa6 out x=⟨5,0,y.th,0⟩:=by unfold qa6;rw[← hy,if_pos ⟨h4',h5⟩]
   have h46:i*4+4<=(rSy (out.set i y)).length:=h45;simp +decide only[↓vS,vT,simprocAttr,h4',eq_true h5',h44,hset,h1,e1,e2,e3,n0,n1,n2,ns3,ns0,m0,m1,m2,q1,q2,q3,q4,q5,hi0,h45,hel,hset2];refine fin _ _ _ (by omega) he ?_ ?_ ?_ ?_ _
   ·rw[Tr.get_set,if_pos rfl,← hset2];rfl
   ·simp only[Tr.get_set];repeat rw[if_neg (by omega)]
   ·simp only[Tr.get_set];repeat rw[if_neg (by omega)]
   ·simp only[Tr.get_set];rw[if_neg (by omega),if_neg (by omega),if_neg (by omega),if_neg (by omega),if_neg (by omega)];simp
  ·have h5':¬(y.th:Int)=y.el:=by omega
   have he:qa6 out x=y:=by unfold qa6;rw[← hy,if_neg fun h=>h5 h.2]
   simp +decide only[↓vS,vT,simprocAttr,h4',h5',h44,hset,h1,e1,e2,e3,n0,n1,n2,ns3,ns0,m0,m1,m2,q1,q2,q3,q4,q5,hi0,h45,hel];refine fin _ _ _ (by omega) he ?_ ?_ ?_ ?_ _
   ·rw[Tr.get_set,if_neg n0,Tr.get_set,if_pos rfl]
   ·simp only[Tr.get_set];repeat rw[if_neg (by omega)]
   ·simp only[Tr.get_set];repeat rw[if_neg (by omega)]
   ·simp only[Tr.get_set];rw[if_neg (by omega),if_neg (by omega),if_neg (by omega),if_neg (by omega)];simp
 ·have he:qa6 out x=y:=by unfold qa6;rw[← hy,if_neg fun h=>h4' h.1]
  simp +decide only[↓vS,vT,simprocAttr,h4',h44,hset,h1,e1,e2,e3,n0,n1,n2,ns3,ns0,m0,m1,m2,q1,q2,q3,q4,q5,hi0,h45,hel];refine fin _ _ _ (by omega) he ?_ ?_ ?_ ?_ _
  ·rw[Tr.get_set,if_neg n0,Tr.get_set,if_pos rfl]
  ·simp only[Tr.get_set];repeat rw[if_neg (by omega)]
  ·simp only[Tr.get_set];repeat rw[if_neg (by omega)]
  ·simp only[Tr.get_set];rw[if_neg (by omega),if_neg (by omega),if_neg (by omega),if_neg (by omega)];simp
theorem qnz{n0 g1 g2 g3 g4 g5 s n:Nat}{tr:Tr Blk}{t:Tr AV}{out:List Sy}(ht:t.get 3=some (.ptr 1 0))(h1:tr.get 1=some (.cells 0 true false [.own 0 n]))(h0:tr.get 0=some (.cells 4 true true (rSy out)))(hn:out.length=n) :
  S P n0 (qa0 g1 g2 g3 g4 g5) (qam [.tmp 2] fun v' h'=>Frz h' v' (.fz n (rSy out))) t ⟨s,0,tr⟩:=by
 refine S.has [(3,.ptr 1 0)] (by simp[qf,qh,ht]) (ql ?_);simp only[qa0,vI,simprocAttr];simp only[↓vS,vT,simprocAttr,h1];simp[vZ,vP,Tr.get_set,h0];refine⟨fun h=>?_,Frzs.self qS⟩
 rw[List.eq_nil_of_length_eq_zero (hn.trans h)];rfl
theorem qku{gC g1 gB gM gA gi h1 h2 h3:Nat}(hc:qc P f (qcl gC g1 gB gM gA)=true)(c0:qcT P gC 4 24)(hc1:qc P g1 qai=true)(hB:∀l:List Sy,qd P gB [.fz l.length (rSy l)] (.fn gi [] [.pf [.fz l.length (rSy l)] 0]))
  (hi:qc P gi qA=true) (hM:qc P gM (xG h1 h2 h3)=true) (c1:qcT P h1 4 24) (c2:cOf P h2) (c3:qfc P h3) (hA:qfc P gA) (l:List Sy) (hl:l.length<=200000) (hin:qkw l) :
  qd P f [.fz l.length (rSy l)] (.fz (qlZ l).length (rSy (qlZ l))):=by
 have hMo:∀(x:Sy) (out:List Sy),out.length=l.length->(∀j:Nat,(qbh x∧j=x.th)∨(qcf x∧j=x.el)->j<l.length)->qg2 P gM [.fz 1 (cSy x),.fn g1 [] [.pf [.fz out.length (rSy out)] 0]] (.own 0 1) [.cells 4 true true (cSy (qa1 (xA out) x))]:=by
  intro x out ho hx
  have:=qqt (gt:=g1) (caps:=[.pf [.fz out.length (rSy out)] 0]) hM c1 c2 c3 [x] (by simp) (xA out) fun y hy j hj=>by
   rw[List.mem_singleton] at hy;subst hy;exact ql2 hc1 out j (by rw[ho];exact hx j hj)
  simpa[rSy] using this
 refine qd.mk hc (by simp[qw,clo,qS]) ?_;simp only[qcl,vI,simprocAttr];simp +decide only[↓vS,vT,simprocAttr];refine (c0 l.length (rSy l) qak qS qtZ (by simp only[qg];omega) (by simp only[qg];omega)).sc ?_;simp only[vJ,simprocAttr];simp +decide only[↓vS,vT,simprocAttr,x4 qS];refine (hB l).sc ?_;simp +decide only[↓vS,vT,simprocAttr];refine S.rangeFL (ts:=thT gi l) (Nat.zero_le _) (by intro p hp;simp only[thT,List.mem_cons,List.not_mem_nil,or_false] at hp;rcases hp with rfl|rfl|rfl<;>simp[Tr.get_set]) ⟨rfl,rfl⟩ ?_;refine qkE.2 ⟨.fn gi [] [.pf [.fz l.length (rSy l)] 0],by simp[Tr.get_set],?_⟩
 refine⟨qfe hi,fun r0 hr0 hp0 hlo=>⟨r0,.inl ⟨rfl,hlo.real⟩,?_⟩⟩
 have hlo:LoopOk P r0 [12,13] thA (thB gM gA):=hlo;refine zZ (c:=cSy) hi qdf (by omega) (fun i h=>∃s tr,h=⟨s,0,tr⟩∧thI g1 r0 (thT gi l) l.length (qel l (l.length-i)) s tr∧i<=l.length) ?_ ?_ ?_
 ·rintro i x h hx ⟨s,tr,rfl,hI,hil⟩ k hk;have hi':i<l.length:=(zzS.1 hx).1;refine qun hMo hA hr0 hp0 hlo hI i hi' x (hin x (zzM hx)) fun s' tr' hI'=>hk _ ⟨s',tr',rfl,?_,by omega⟩
  have e:l.length-i=(l.length-(i+1))+1:=by omega
  have e2:l.length-(l.length-(i+1)+1)=i:=by omega
  have e3:qel l (l.length-i)=(qel l (l.length-(i+1))).set i (qa6 (qel l (l.length-(i+1))) x):=by
   rw[e,qel,e2,hx]
  rw[e3];exact hI'
 ·refine⟨_,_,rfl,⟨qem,by simp,?_,?_,?_,?_⟩,Nat.le_refl _⟩<;>simp[Tr.get_set,qmQ,Hp.push,qel,x4 qS]
 ·rintro h ⟨s,tr,rfl,⟨hn,h4,q0,q1,q2,q3⟩,_⟩;rw[Nat.sub_zero] at q0;refine⟨r0,thT gi l,q3,by rw[hr0];decide,?_⟩
  rw[hp0];simp only[zW];simp only[↓vS,vT,simprocAttr];have e:(qlZ l).length=l.length:=qem;rw[e];refine qnz (by simp[Tr.get_set]) ?_ ?_ qem
  ·rw[Tr.get_set,if_neg (by decide)];exact q1
  ·rw[Tr.get_set,if_neg (by decide)];exact q0
def rBo(l:List Bool):List AV:=l.map .b
theorem qi8{l:List Bool}:(rBo l).length=l.length:=by simp[rBo]
theorem qlL{l:List Bool}{j:Nat}:(rBo l)[j]?=(l[j]?).map .b:=by simp[rBo]
theorem qtS{l:List Bool}:qw (rBo l)=true:=qcW fun _=>rfl
theorem qi9{l:List Bool}{j:Nat}(hj:j<l.length):(rBo l).take j ++ .b true::(rBo l).drop (j+1)=rBo (l.set j true):=by
 rw[List.set_eq_take_append_cons_drop,if_pos hj];simp[rBo,List.map_take,List.map_drop]
def qdV(A:List Bool)(j:Nat)(x:Sy):List Bool :=
 if A[j]?≠some true∨x.code=6 then A else if qk x.code≠4 then A.set (j+1) true else if qcf x then (A.set x.th true).set x.el true else A.set x.th true
def jw(l:List Sy):Nat->List Bool
 | 0=>(List.replicate l.length false).set 0 true
 | m+1=>match l[m]? with|some x=>qdV (jw l m) m x|none=>jw l m
theorem qq9{A:List Bool}{j:Nat}{x:Sy}:(qdV A j x).length=A.length:=by
 unfold qdV;split
 ·rfl
 ·split
  ·simp
  ·split<;>simp
theorem qbi{l:List Sy}:∀{m:Nat},(jw l m).length=l.length
 | 0=>by simp[jw]
 | m+1=>by
  unfold jw;split
  ·rw[qq9,qbi]
  ·exact qbi
def zw(l:List Sy):List Bool:=jw l l.length
def qxo(l:List Sy):Prop:=∀(j:Nat) x,l[j]?=some x->x.code≠6->qk x.code≠4->j+1<l.length
def qeC(a b:Nat):IFn:=⟨[.tmp 2],.seq (.r [.m 2 .N]) (.seq (.r [.n 6 0,.e 7 6,.q 8 (.mkS 1 1 [.b false] (.t 7) (.t 7)),.n 3 8]) (.seq (.r [.n 9 3,.q 10 (.iAddrS 1 (.t 9) (.k 0)),.u (.store 1 (.t 10) .T)]) (.seq (.seq (.r [.n 11 0,.e 12 11,.m 13 (.k 0)]) (.blk 0 (.loop (.seq (.r [.s 14 13 12]) (.seq (.cond (.t 14) (.skip) (.exit 0)) (.seq (.blk 1 (.seq (.r [.n 15 13,.i 16 4 11 13,.v 17 4 16,.q 5 (.alloc [.i .u16 0,.i .u32 0,.i .i64 0,.i .i64 0]),.n 4 15,.u (.store 4 (.t 5) (.t 17))]) (.blk 2 (.seq (.r [.n 29 3,.n 30 4,.i 31 1 29 30,.d 32 31,.q 33 (.un .not (.t 32)),.n 34 33,.h 35 0 5 34 false,.j 36 35 34 false,.g 37 (.bin .eql (.t 36) (.c (.i .u16 6))) 34 false,.o 38 34 37,.n 28 38]) (.cond (.t 28) (.skip) (.seq (.r [.f 40 0 5,.d 41 40,.l 42 a [.t 41],.q 43 (.bin .neq (.t 42) (.c (.i .u8 4))),.n 39 43]) (.cond (.t 39) (.r [.n 44 3,.n 45 4,.a 46 45 1,.i 47 1 44 46,.u (.store 1 (.t 47) .T)]) (.seq (.r [.n 18 3,.f 19 2 5,.d 20 19,.i 21 1 18 20,.u (.store 1 (.t 21) .T)]) (.seq (.r [.v 22 4 5,.l 23 b [.t 22]]) (.cond (.t 23) (.r [.n 24 3,.f 25 3 5,.d 26 25,.i 27 1 24 26,.u (.store 1 (.t 27) .T)]) (.skip))))))))))) (.r [.a 48 13 1,.n 13 48]))))))) (.seq (.r [.n 49 3,.n 2 49]) (.ret)))))⟩
theorem qnE{g1 g2:Nat}(hc:qc P f (qeC g1 g2)=true)(h1:cOf P g1)(h2:qfc P g2)(l:List Sy)(hl:l.length<=200000)(h0:0<l.length)(hin:qkw l)(hon:qxo l):qd P f [.fz l.length (rSy l)] (.fz l.length (rBo (zw l))):=by
 refine qd.mk hc (by simp[qw,clo,qS]) ?_;have r1:l.length<=qg:=by simp only[qg];omega
 have r2:1*l.length<=qg:=by simp only[qg];omega
 have hz:(List.replicate l.length [AV.b false]).flatten=rBo (List.replicate l.length false):=by simp[rBo]
 have hz0:=qi9 (l:=List.replicate l.length false) (j:=0) (by simp;omega);have hzl:0+1<=(rBo (List.replicate l.length false)).length:=by rw[qi8];simp;omega
 rw[List.take_zero,List.nil_append] at hz0;simp only[qeC,vI,simprocAttr];simp +decide only[↓vS,vT,simprocAttr,r1,r2,hz,h0,Nat.one_mul,Nat.zero_mul,hzl,hz0]
 refine SL.loopP (α:=Nat) (fun i=>[(3,.sl 0 0 l.length l.length false),(11,.fz l.length (rSy l)),(12,.i .i64 (l.length:Int)),(13,.i .i64 (i:Int))])
  (fun i h=>i<=l.length∧∃s tr,h=⟨s,0,tr⟩∧1<=s∧tr.get 0=some (.cells 0 true false (rBo (jw l i)))) (fun i=>l.length-i) ?_ 0 ?_ ?_
 ·rintro i h1' ⟨hi,s,tr,rfl,hs,t0⟩ G ih;simp only[vI,simprocAttr]
  by_cases hlt:i<l.length
  ·have hlt':(i:Int)<l.length:=by omega
   obtain⟨x,hx⟩:∃x,l[i]?=some x:=⟨_,zzE hlt⟩;have hel:=qei hx;have h4:i*4+4<=(rSy l).length:=by rw[qak];omega
   have hw1:IntKind.wrap .i64 ((i:Int)+1)=((i+1:Nat):Int):=by rw[qu (by omega) (by omega)];simp
   have n0:¬0=s:=by omega
   have n0s:¬s=0:=by omega
   have hAl:(jw l i).length=l.length:=qbi;obtain⟨b,hb⟩:∃b,(jw l i)[i]?=some b:=⟨_,zzE (by omega)⟩;have hgb:(rBo (jw l i))[i]?=some (.b b):=by rw[qlL,hb];rfl
   have hst:jw l (i+1)=qdV (jw l i) i x:=by rw[jw,hx]
   have fin:∀(t2:Tr Blk) tt,t2.get 0=some (.cells 0 true false (rBo (jw l (i+1))))->Has tt [(3,.sl 0 0 l.length l.length false),(11,.fz l.length (rSy l)),(12,.i .i64 (l.length:Int)),(13,.i .i64 ((i+1:Nat):Int))]->G tt ⟨s+1,0,t2⟩:=fun t2 tt q1 q2 =>
    ih (i+1) _ _ (by omega) q2 ⟨by omega,s+1,t2,rfl,by omega,q1⟩
   have ha:=h2 x;simp only[cSy] at ha;have sl:∀(A:List Bool) (j:Nat),A.length=l.length->j<l.length->j+1<=(rBo A).length:=fun A j h1 h2=>by rw[qi8];omega
   cases b with
   | false =>
    have e:qdV (jw l i) i x=jw l i:=by unfold qdV;rw[hb];simp
    rw[hst,e] at fin;simp +decide only[↓vS,vT,simprocAttr,hlt',hlt,h4,hel,cSy,n0,t0,hgb,Nat.mul_one,hw1];exact fin _ _ (by simp[Tr.get_set,n0,t0]) (by simp[qf,qh,Tr.get_set])
   | true =>
    by_cases h6:x.code=6
    ·have e:qdV (jw l i) i x=jw l i:=by unfold qdV;simp[h6]
     rw[hst,e] at fin;simp +decide only[↓vS,vT,simprocAttr,hlt',hlt,h4,hel,cSy,n0,t0,hgb,Nat.mul_one,hw1,eq_true h6];exact fin _ _ (by simp[Tr.get_set,n0,t0]) (by simp[qf,qh,Tr.get_set])
    ·simp +decide only[↓vS,vT,simprocAttr,hlt',hlt,h4,hel,cSy,n0,t0,hgb,Nat.mul_one,hw1,h6];refine (h1 x.code).sc ?_
     by_cases hj:qk x.code=4
     ·have hth:=hin x (zzM hx) x.th (.inl ⟨hj,rfl⟩);have b1:=qi9 (l:=jw l i) (j:=x.th) (by omega);have b2:=sl (jw l i) x.th hAl hth;simp +decide only[↓vS,vT,simprocAttr,hj,n0,n0s,t0,hth,b1,b2,Nat.mul_one];refine ha.sc ?_
      by_cases hk:qcf x
      ·have hel2:=hin x (zzM hx) x.el (.inr ⟨hk,rfl⟩);have b3:=qi9 (l:=(jw l i).set x.th true) (j:=x.el) (by rw[List.length_set];omega);have b4:=sl ((jw l i).set x.th true) x.el (by rw[List.length_set];omega) hel2;have e:qdV (jw l i) i x=((jw l i).set x.th true).set x.el true:=by unfold qdV;simp[hb,h6,hj,hk]
       rw[hst,e] at fin;simp +decide only[↓vS,vT,simprocAttr,hk,n0,n0s,hel2,b3,b4,Nat.mul_one,hw1];exact fin _ _ (by rw[Tr.get_set,if_pos rfl]) (by simp[qf,qh,Tr.get_set])
      ·have e:qdV (jw l i) i x=(jw l i).set x.th true:=by unfold qdV;simp[hb,h6,hj,hk]
       rw[hst,e] at fin;simp +decide only[↓vS,vT,simprocAttr,hk,hw1];exact fin _ _ (by rw[Tr.get_set,if_pos rfl]) (by simp[qf,qh,Tr.get_set])
     ·have hnx:=hon i x hx h6 hj;have b1:=qi9 (l:=jw l i) (j:=i+1) (by omega);have b2:=sl (jw l i) (i+1) hAl hnx;have e:qdV (jw l i) i x=(jw l i).set (i+1) true:=by unfold qdV;simp[hb,h6,hj]
      rw[hst,e] at fin;simp +decide only[↓vS,vT,simprocAttr,hj,n0,t0,hnx,b1,b2,Nat.mul_one,hw1];exact fin _ _ (by rw[Tr.get_set,if_pos rfl]) (by simp[qf,qh,Tr.get_set])
  ·obtain rfl:i=l.length:=by omega
   have hlt':¬((l.length:Int)<l.length):=by omega
   simp +decide only[↓vS,vT,simprocAttr,hlt'];have hAl:(jw l l.length).length=l.length:=qbi;show Frz _ _ _;refine Frz.cut 1 rfl (Nat.le_refl _) ?_;rw[t0];simp[vP,qi8,hAl];rw[List.take_of_length_le (by rw[qi8,hAl];omega)];exact Frzs.self qtS
 ·simp[qf,qh,Tr.get_set]
 ·refine⟨Nat.zero_le _,_,_,rfl,by omega,?_⟩
  simp[Tr.get_set,jw]
end Go.Kc
end
