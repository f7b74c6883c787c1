/- Part 12 of the abstract machine and of the functions' walks. Conditions: with each theorem. -/
import Derived.Test.YtgaodkfneooonaaGreatBK11
import Derived.KernelRfl
set_option maxHeartbeats 4000000
set_option linter.unusedSectionVars false
set_option linter.unusedSimpArgs false
set_option linter.unusedVariables false
set_option linter.unnecessarySimpa false
section
namespace Go.Kc
variable {P:Program} {f:Nat}
def qhW(b:Bool)(i:Nat):Bool:=decide (i≠0∧i≠2)||(b&&decide (i=0))
def gdE(m:Nat->Bool)(b:Bool)(A:Nat):Nat->List Sy
 | 0=>[⟨32,4,0,0⟩]
 | i+1=>gdE m b A i++if (m i&&qhW b i)=true then [⟨21,qcB (i:Int),A,(gdE m b A i).length+1⟩] else []
def gdL(m:Nat->Bool)(b:Bool):Nat->Int
 | 0=>-1
 | i+1=>if (m i && !qhW b i && !b)=true then (i:Int) else gdL m b i
def gdZ(a:Int)(p K A:Nat):List Sy:=[⟨21,qcB a,p+1,K⟩,⟨32,0,0,0⟩,if a=2 then ⟨69,1073741824,A,K⟩ else ⟨69,1073741824,K,A⟩]
def gdK(m:Nat->Bool)(b:Bool):Nat:=(gdE m b 0 6).length+if 0<=gdL m b 6 then 3 else 0
def gdY(m:Nat->Bool)(b:Bool):List Sy:=gdE m b (gdK m b+1) 6++if 0<=gdL m b 6 then gdZ (gdL m b 6) (gdE m b 0 6).length (gdK m b) (gdK m b+1) else []
def gdF(l:List Sy):List Sy:=l++[⟨6,2147483648,0,0⟩]++[⟨6,2147418112,0,0⟩]
def gdR(m:Nat->Bool):List Sy:=gdF (gdY m (m 0&&m 2))
section
variable {m:Nat->Bool} {b:Bool}
theorem qlF{A:Nat}:∀{i:Nat},(gdE m b A i).length=(gdE m b 0 i).length
 | 0=>rfl
 | i+1=>by simp only[gdE,List.length_append,qlF (i:=i)];split<;>rfl
theorem qn3{A:Nat}:∀{i:Nat},(gdE m b A i).length<=1+i
 | 0=>Nat.le_refl _
 | i+1=>by
  have:=qn3 (A:=A) (i:=i);simp only[gdE,List.length_append];split<;>simp<;>omega
theorem qoM:∀{i:Nat},-1<=gdL m b i∧gdL m b i<i
 | 0=>⟨Int.le_refl _,by simp only[gdL];decide⟩
 | i+1=>by
  have:=qoM (i:=i);unfold gdL;split<;>omega
theorem qvM{a:Int}{p K A:Nat}:(gdZ a p K A).length=3:=by simp[gdZ]
theorem qvL:(gdY m b).length=gdK m b:=by
 unfold gdY gdK;rw[List.length_append,qlF];split
 ·rw[qvM]
 ·rfl
end
section
variable {g w s gl gp gj gh gr gd g1 g2 g4 g5 g6:Nat} {κ:Nat->Kd} {tr:Tr Blk} {RV:List Sy} {N:List Nat} {k:AV->Hp->Prop}
def qaC(a b c d e g h i j k:Nat):ICode:=.seq (.r [.n 109 4,.n 110 5,.l 111 i [.t 109,.t 110]]) (.seq (.r [.n 112 4,.l 113 j [.t 112,(.c (.i .u32 2147483648))]]) (.seq (.r [.n 114 4,.n 115 6,.l 116 i [.t 114,.t 115]]) (.seq (.r [.n 117 4,.l 118 j [.t 117,(.c (.i .u32 2147418112))]]) (.seq (.r [.n 119 4,.l 120 k [.t 119],.n 2 120,.m 3 (.k 0)]) (.ret)))))
def qbL(a b c d e g h i j k:Nat):ICode:=.seq (.seq (.r [.n 80 8,.w 81 .geq 80 0]) (.cond (.t 81) (.seq (.r [.q 82 (.build [.i .i64 0] []),.q 83 (.box (.t 82)),.n 14 83]) (.seq (.r [.n 85 8,.l 86 g [.t 85],.n 84 86,.x 87 84 0,.x 88 84 1,.n 15 87,.n 16 88]) (.seq (.r [.n 89 4,.n 90 15,.n 91 14,.n 92 5,.l 93 h [.t 89,(.c (.i .u16 21)),.t 90,.t 91,.t 92]]) (.seq (.r [.n 94 4,.n 95 14,.l 96 i [.t 94,.t 95]]) (.seq (.r [.n 97 4,.l 98 c [.t 97,(.c (.i .u32 0))]]) (.seq (.r [.n 99 8,.w 100 .eql 99 2]) (.cond (.t 100) (.r [.n 101 4,.n 102 6,.n 103 5,.l 104 h [.t 101,(.c (.i .u16 69)),(.c (.i .u32 1073741824)),.t 102,.t 103]]) (.r [.n 105 4,.n 106 5,.n 107 6,.l 108 h [.t 105,(.c (.i .u16 69)),(.c (.i .u32 1073741824)),.t 106,.t 107]])))))))) (.skip))) (.cut (qaC a b c d e g h i j k))
def qbK(a b c d e g h i j k:Nat):ICode:=.seq (.seq (.r [.l 38 e [],.e 39 38,.m 40 (.k 0)]) (.blk 0 (.loop (.seq (.r [.s 41 40 39]) (.seq (.cond (.t 41) (.skip) (.exit 0)) (.seq (.blk 1 (.seq (.r [.i 42 1 38 40,.d 43 42,.n 10 43]) (.seq (.seq (.r [.n 44 0,.n 45 10,.l 46 d [.t 44,.t 45],.q 47 (.un .not (.t 46))]) (.cond (.t 47) (.exit 1) (.skip))) (.seq (.r [.n 49 10,.l 50 g [.t 49],.n 48 50,.x 51 48 0,.x 52 48 1,.n 11 51,.n 12 52]) (.seq (.r [.q 53 (.build [.i .i64 0] []),.q 54 (.box (.t 53)),.n 13 54]) (.seq (.seq (.r [.n 55 10,.w 56 .neq 55 0,.n 57 56,.y 58 10 57,.g 59 (.bin .neq (.t 58) (.k 2)) 57 true,.p 60 57 59,.n 61 60,.z 62 7 61,.z 63 62 61,.y 64 10 63,.g 65 (.bin .eql (.t 64) (.k 0)) 63 true,.g 66 (.pick (.t 63) (.t 65) .F) 61 false,.o 67 61 66]) (.cond (.t 67) (.r [.n 68 4,.n 69 11,.n 70 6,.n 71 13,.l 72 h [.t 68,(.c (.i .u16 21)),.t 69,.t 70,.t 71]]) (.seq (.r [.n 73 7,.q 74 (.un .not (.t 73))]) (.cond (.t 74) (.seq (.r [.n 75 10,.n 8 75]) (.exit 1)) (.exit 1))))) (.r [.n 76 4,.n 77 13,.l 78 i [.t 76,.t 77]]))))))) (.r [.a 79 40 1,.n 40 79]))))))) (.cut (qbL a b c d e g h i j k))
def qbJ(a b c d e g h i j k:Nat):ICode:=.seq (.r [.n 30 4,.l 31 c [.t 30,(.c (.i .u32 4))]]) (.seq (.r [.n 32 0,.l 33 d [.t 32,.k 0],.n 34 33,.y 35 0 34,⟨(some 36),.callF d [.t 35,.k 2],(some (34,true))⟩,.p 37 34 36,.n 7 37]) (.seq (.r [.q 8 (.mov (.c (.i .i64 (-1))))]) (.cut (qbK a b c d e g h i j k))))
def qbI(a b c d e g h i j k:Nat):ICode:=.seq (.r [.q 24 (.build [.nils,.nils] []),.q 25 (.box (.t 24)),.q 26 (.build [.i .i64 0] []),.q 27 (.box (.t 26)),.q 28 (.build [.i .i64 0] []),.q 29 (.box (.t 28)),.n 4 25,.n 5 27,.n 6 29]) (.cut (qbJ a b c d e g h i j k))
def qgk(a b c d e g h i j k:Nat):IFn:=⟨[.tmp 2,.tmp 3],.seq (.r [.m 2 .N,.m 3 (.k 0)]) (.seq (.seq (.r [.n 17 0,.e 18 17,.w 19 .eql 18 0,.n 20 19,.z 21 0 20,⟨(some 22),.callF a [.t 21,(.c (.fn b [] []))],(some (20,false))⟩,.o 23 20 22]) (.cond (.t 23) (.seq (.r [.m 2 .N,.m 3 (.k 2)]) (.ret)) (.skip))) (.cut (qbI a b c d e g h i j k)))⟩
def gdT(l:List Int)(i:Nat):Bool:=decide ((i:Int) ∈ l)
theorem qmU{n0 sb bK bA K:Nat}{κb:Nat->Kd}{tb:Tr Blk}(W:WFn P g gl gp gj gh gr)(hd:qc P gd zb=true)(hj:qc P g qK=true)(h:WI g w κ s tr RV [])(hK:RV.length=K)(hb:RV.length<=1000)(st:Stp [bK,bA] κb sb tb κ s tr)(hdm:∀b,κb b≠.no->b<sb)(hno:∀b F,κb b≠.lab F false)
  (kK:κ bK = .lab K false) (kA:κ bA = .lab (K+1) false) (nK:κb bK = .no) (nA:κb bA = .no) {t:Tr AV} (ht:Has t [(4,.ptr w 0),(5,.ptr bK 0),(6,.ptr bA 0)]) :
  S P n0 (qaC g1 g2 gl g4 g5 g6 gj gh gr gd) (qac [.tmp 2,.tmp 3] fun v' h'=>Frz h' v' (.tup [.fz (gdF RV).length (rSy (gdF RV)),.i .i64 0])) t ⟨s,0,tr⟩:=by
 refine S.has _ ht (qj ?_);subst hK;unfold gdF;have hne:bA≠bK:=fun e=>by rw[e,kK] at kA;have:=(Kd.lab.inj kA).1;omega
 simp only[qaC,vI,simprocAttr];simp +decide only[↓vS,vT,simprocAttr];refine qaJ W.here h kK fun t1 q1 q2 w1=>?_
 simp +decide only[↓vS,vT,simprocAttr];have st1:Stp [bA] κb sb tb (kdS κ bK (.lab RV.length true)) s t1:=st.kd' nK q1 q2 fun c hc=>by simpa using hc
 refine qk7 W.ret W.put w1 2147483648 (by omega) fun κ2 s2 t2 st2 w2=>?_
 simp +decide only[↓vS,vT,simprocAttr];have st12:=st1.trans st2
 have kA2:κ2 bA = .lab (RV++[(⟨6,2147483648,0,0⟩:Sy)]).length false:=by
  rw[List.length_append];exact st2.lab _ _ _ (by rw[qe hne];exact kA)
 refine qaJ W.here w2 kA2 fun t3 q3 q4 w3=>?_
 simp +decide only[↓vS,vT,simprocAttr];have st3:Stp [] κb sb tb (kdS κ2 bA (.lab (RV++[(⟨6,2147483648,0,0⟩:Sy)]).length true)) s2 t3:=st12.kd' nA q3 q4 fun c hc=>by simpa using hc
 refine qk7 W.ret W.put w3 2147418112 (by simp;omega) fun κ4 s4 t4 st4 w4=>?_
 simp +decide only[↓vS,vT,simprocAttr];have st34:=st3.trans st4;refine qr1 hd hj w4 (fun b F p hb=>?_) (by simp;omega) fun t5 b hb hbs=>?_
 ·cases p with
  | true=>rfl
  | false => rcases st34.nw b F hb with q|q
             ·exact absurd q (hno b F)
             ·cases q
 simp +decide only[↓vS,vT,simprocAttr];simp[vZ,vP,hb];exact Frzs.self (x9 fun _=>rfl)
theorem qsD{n0 sb bK bA:Nat}{κb:Nat->Kd}{tb:Tr Blk}{m:Nat->Bool}{b:Bool}(W:WFn P g gl gp gj gh gr)(hd:qc P gd zb=true)(hj:qc P g qK=true)(c6:qnW P g6)(h:WI g w κ s tr (gdE m b (gdK m b+1) 6) [])(st:Stp [bK,bA] κb sb tb κ s tr)(hdm:∀b,κb b≠.no->b<sb)(hno:∀b F,κb b≠.lab F false)
  (kK:κ bK = .lab (gdK m b) false) (kA:κ bA = .lab (gdK m b+1) false) (nK:κb bK = .no) (nA:κb bA = .no) {t:Tr AV} (ht:Has t [(4,.ptr w 0),(5,.ptr bK 0),(6,.ptr bA 0),(8,.i .i64 (gdL m b 6))]) :
  S P n0 (qbL g1 g2 gl g4 g5 g6 gj gh gr gd) (qac [.tmp 2,.tmp 3] fun v' h'=>Frz h' v' (.tup [.fz (gdF (gdY m b)).length (rSy (gdF (gdY m b))),.i .i64 0])) t ⟨s,0,tr⟩:=by
 have hlen:=qn3 (m:=m) (b:=b) (A:=gdK m b+1) (i:=6);have hl0:=qlF (m:=m) (b:=b) (A:=gdK m b+1) (i:=6);have hr:=qoM (m:=m) (b:=b) (i:=6);have hY:=qvL (m:=m) (b:=b);refine S.has _ ht (qj ?_);simp only[qbL,vI,simprocAttr]
 by_cases hn:0<=gdL m b 6
 ·have eY:gdY m b=gdE m b (gdK m b+1) 6++gdZ (gdL m b 6) (gdE m b (gdK m b+1) 6).length (gdK m b) (gdK m b+1):=by unfold gdY;rw[if_pos hn,hl0]
  generalize gdL m b 6=la at *;generalize gdE m b (gdK m b+1) 6=RV at *;simp +decide only[↓vS,vT,simprocAttr,hn];have w1:=h.new (.lab (RV.length+1) false) _ (.inr (.inr (.inr ⟨_,rfl,rfl⟩)));have st1:=h.stpLab (.lab (RV.length+1) false) (.cells 0 true false [.i .i64 0]);have hon:=qA (κ:=κ) (b:=s) (x:=.lab (RV.length+1) false);refine (c6 la hn (by omega)).sc ?_;simp +decide only[↓vS,vT,simprocAttr];have hK1:=st1.lab _ _ _ kK;have hA1:=st1.lab _ _ _ kA;refine qdN W.jmp W.put w1 ⟨21,qcB la,RV.length+1,gdK m b⟩ hon (.inr ⟨(by decide:(21:Int)≠5),bK,false,rfl,hK1⟩) (by omega) fun κ2 s2 t2 st2 w2=>?_
  simp +decide only[↓vS,vT,simprocAttr];have hon2:=st2.lab _ _ _ hon;have le1:=st.le;have st12:=(st.trans st1).trans st2
  have ns:κb s = .no:=by
   cases hk:κb s with
   | no=>rfl
   | _=>have:=hdm s (by rw[hk];simp);omega
  refine qaJ W.here w2 (p:=false) (b:=s) (by rw[hon2];simp) fun t3 q1 q2 w3=>?_
  simp +decide only[↓vS,vT,simprocAttr];have st3:Stp [bK,bA] κb sb tb (kdS κ2 s (.lab (RV++[(⟨21,qcB la,RV.length+1,gdK m b⟩:Sy)]).length true)) s2 t3:=st12.kd' ns q1 q2 fun c hc=>by simp at hc;rcases hc with hc|hc|hc<;>simp[hc]
  have hsK:bK≠s:=fun e=>by rw[e] at kK;rw[h.fresh] at kK;cases kK
  have hsA:bA≠s:=fun e=>by rw[e] at kA;rw[h.fresh] at kA;cases kA
  refine qjT W.ld W.put w3 0 (by simp;omega) fun κ4 s4 t4 st4 w4=>?_
  simp +decide only[↓vS,vT,simprocAttr];have hK4:=st4.lab _ _ _ ((qe (κ:=κ2) (x:=.lab (RV++[(⟨21,qcB la,RV.length+1,gdK m b⟩:Sy)]).length true) hsK).trans (st2.lab _ _ _ hK1));have hA4:=st4.lab _ _ _ ((qe (κ:=κ2) (x:=.lab (RV++[(⟨21,qcB la,RV.length+1,gdK m b⟩:Sy)]).length true) hsA).trans (st2.lab _ _ _ hA1));have st34:=st3.trans st4
  have fin:∀κ5 s5 t5 y,Stp [] κ4 s4 t4 κ5 s5 t5->WI g w κ5 s5 t5 (RV++[⟨21,qcB la,RV.length+1,gdK m b⟩]++[⟨32,0,0,0⟩]++[y]) []->y=(if la=2 then ⟨69,1073741824,gdK m b+1,gdK m b⟩ else ⟨69,1073741824,gdK m b,gdK m b+1⟩)->∀t,Has t [(4,.ptr w 0),(5,.ptr bK 0),(6,.ptr bA 0)]->
    S P n0 (qaC g1 g2 gl g4 g5 g6 gj gh gr gd) (qac [.tmp 2,.tmp 3] fun v' h'=>Frz h' v' (.tup [.fz (gdF (gdY m b)).length (rSy (gdF (gdY m b))),.i .i64 0])) t ⟨s5,0,t5⟩:=fun κ5 s5 t5 y st5 w5 hy t ht=>by
   have e:RV++[⟨21,qcB la,RV.length+1,gdK m b⟩]++[⟨32,0,0,0⟩]++[y]=gdY m b:=by rw[eY,hy];simp[gdZ]
   rw[e] at w5;exact qmU W hd hj w5 hY (by rw[← e];simp;omega) (st34.trans st5) hdm hno (st5.lab _ _ _ hK4) (st5.lab _ _ _ hA4) nK nA ht
  by_cases h2:la=2
  ·simp +decide only[↓vS,vT,simprocAttr,h2];subst h2;refine qdN W.jmp W.put w4 ⟨69,1073741824,gdK m b+1,gdK m b⟩ hA4 (.inr ⟨(by decide:(69:Int)≠5),bK,false,rfl,hK4⟩) (by simp;omega) fun κ5 s5 t5 st5 w5=>?_
   simp +decide only[↓vS,vT,simprocAttr];exact fin _ _ _ _ st5 w5 (by simp) _ (by simp[qf,qi,Tr.get_set])
  ·simp +decide only[↓vS,vT,simprocAttr,h2];refine qdN W.jmp W.put w4 ⟨69,1073741824,gdK m b,gdK m b+1⟩ hK4 (.inr ⟨(by decide:(69:Int)≠5),bA,false,rfl,hA4⟩) (by simp;omega) fun κ5 s5 t5 st5 w5=>?_
   simp +decide only[↓vS,vT,simprocAttr];exact fin _ _ _ _ st5 w5 (by simp[h2]) _ (by simp[qf,qi,Tr.get_set])
 ·have eY:gdY m b=gdE m b (gdK m b+1) 6:=by unfold gdY;rw[if_neg hn,List.append_nil]
  simp +decide only[↓vS,vT,simprocAttr,hn];rw[← eY] at h hlen;exact qmU W hd hj h hY (by omega) st hdm hno kK kA nK nA (by simp[qf,qi,Tr.get_set])
theorem qsC{n0 sb bK bA:Nat}{κb:Nat->Kd}{tb:Tr Blk}(l:List Int)(bb:Bool)(W:WFn P g gl gp gj gh gr)(hd:qc P gd zb=true)(hj:qc P g qK=true)(c6:qnW P g6)(c4:∀x,qd P g4 [.fz l.length (rI .i64 l),.i .i64 x] (.b (decide (x ∈ l))))(c5:qd P g5 [] (.fz 6 (rI .i64 [0,1,2,3,4,5])))
  (h:WI g w κ s tr [⟨32,4,0,0⟩] []) (st:Stp [bK,bA] κb sb tb κ s tr) (hdm:∀b,κb b≠.no->b<sb) (hno:∀b F,κb b≠.lab F false)
  (kK:κ bK = .lab (gdK (gdT l) bb) false) (kA:κ bA = .lab (gdK (gdT l) bb+1) false) (nK:κb bK = .no) (nA:κb bA = .no) {t:Tr AV} (ht:Has t [(0,.fz l.length (rI .i64 l)),(4,.ptr w 0),(5,.ptr bK 0),(6,.ptr bA 0),(7,.b bb),(8,.i .i64 (-1))]) :
  S P n0 (qbK g1 g2 gl g4 g5 g6 gj gh gr gd) (qac [.tmp 2,.tmp 3] fun v' h'=>Frz h' v' (.tup [.fz (gdF (gdY (gdT l) bb)).length (rSy (gdF (gdY (gdT l) bb))),.i .i64 0])) t ⟨s,0,tr⟩:=by
 refine S.has _ ht (qj ?_);simp only[qbK,vI,simprocAttr];simp +decide only[↓vS,vT,simprocAttr];refine c5.sc ?_;simp +decide only[↓vS,vT,simprocAttr]
 refine SL.loopP (α:=Nat) (fun i=>[(0,.fz l.length (rI .i64 l)),(4,.ptr w 0),(5,.ptr bK 0),(6,.ptr bA 0),(7,.b bb),(8,.i .i64 (gdL (gdT l) bb i)),(38,.fz 6 (rI .i64 [0,1,2,3,4,5])),(39,.i .i64 6),(40,.i .i64 (i:Int))])
  (fun i h=>i<=6∧∃κ' s' tr',h=⟨s',0,tr'⟩∧Stp [bK,bA] κb sb tb κ' s' tr'∧WI g w κ' s' tr' (gdE (gdT l) bb (gdK (gdT l) bb+1) i) []∧κ' bK = .lab (gdK (gdT l) bb) false∧κ' bA = .lab (gdK (gdT l) bb+1) false) (fun i=>6-i) ?_ 0 ?_ ?_
 ·rintro i h1 ⟨hi,κ',s',tr',rfl,st',w',kK',kA'⟩ G ih;simp only[vI,simprocAttr]
  by_cases hlt:i<6
  ·have hlt':(i:Int)<6:=by omega
   have hx:(rI .i64 [0,1,2,3,4,5])[i]?=some (.i .i64 (i:Int)):=by
    match i,hlt with
    | 0,_=>rfl
    | 1,_=>rfl
    | 2,_=>rfl
    | 3,_=>rfl
    | 4,_=>rfl
    | 5,_=>rfl
   have hw1:IntKind.wrap .i64 ((i:Int)+1)=((i+1:Nat):Int):=by rw[qq (by omega) (by omega)];simp
   have hle:=qn3 (m:=gdT l) (b:=bb) (A:=gdK (gdT l) bb+1) (i:=i);have ci:qd P g4 [.fz l.length (rI .i64 l),.i .i64 (i:Int)] (.b (gdT l i)):=c4 i;have le1:=st'.le;simp +decide only[↓vS,vT,simprocAttr,hlt',hlt,hx,Nat.mul_one];refine ci.sc ?_;cases hm:gdT l i with
   | false =>
    simp +decide only[↓vS,vT,simprocAttr,hw1];refine ih (i+1) _ _ (by omega) ?_ ⟨by omega,κ',s',tr',rfl,st',?_,kK',kA'⟩
    ·simp[qf,qi,Tr.get_set,gdL,hm]
    ·simpa[gdE,hm] using w'
   | true =>
    simp +decide only[↓vS,vT,simprocAttr];refine (c6 i (by omega) hlt').sc ?_;simp +decide only[↓vS,vT,simprocAttr]
    have skip:qhW bb i=false->∀t',Has t' [(0,.fz l.length (rI .i64 l)),(4,.ptr w 0),(5,.ptr bK 0),(6,.ptr bA 0),(7,.b bb),(8,.i .i64 (gdL (gdT l) bb (i+1))),(38,.fz 6 (rI .i64 [0,1,2,3,4,5])),(39,.i .i64 6),(40,.i .i64 ((i+1:Nat):Int))]->G t' ⟨s'+1,0,tr'.set s' (.cells 0 true false [.i .i64 0])⟩:=fun hs t' ht'=>by
     have w1:=w'.new .no (.cells 0 true false [.i .i64 0]) (.inl rfl);have st1:=st'.trans (w'.stpNew .no (.cells 0 true false [.i .i64 0]) (by simp));refine ih (i+1) _ _ (by omega) ht' ⟨by omega,_,_,_,rfl,st1,?_,(w'.stpNew .no (.cells 0 true false [.i .i64 0]) (by simp)).lab _ _ _ kK',(w'.stpNew .no (.cells 0 true false [.i .i64 0]) (by simp)).lab _ _ _ kA'⟩
     simpa[gdE,hs] using w1
    have go:qhW bb i=true->∀Q:AV->Hp->Prop,(∀κ2 s2 t2,Stp [] (kdS κ' s' (.lab ((gdE (gdT l) bb (gdK (gdT l) bb+1) i).length+1) false)) (s'+1) (tr'.set s' (.cells 0 true false [.i .i64 0])) κ2 s2 t2->WI g w κ2 s2 t2 (gdE (gdT l) bb (gdK (gdT l) bb+1) (i+1)) []->Q (.tup []) ⟨s2,0,t2⟩)->SC P gj [.ptr w 0,.i .u16 21,.i .u32 (qcB (i:Int)),.ptr bA 0,.ptr s' 0] ⟨s'+1,0,tr'.set s' (.cells 0 true false [.i .i64 0])⟩ Q:=fun hs Q hQ=>by
     have w1:=w'.new (.lab ((gdE (gdT l) bb (gdK (gdT l) bb+1) i).length+1) false) _ (.inr (.inr (.inr ⟨_,rfl,rfl⟩)));have st1:=w'.stpLab (.lab ((gdE (gdT l) bb (gdK (gdT l) bb+1) i).length+1) false) (.cells 0 true false [.i .i64 0]);refine qdN W.jmp W.put w1 ⟨21,qcB (i:Int),gdK (gdT l) bb+1,(gdE (gdT l) bb (gdK (gdT l) bb+1) i).length+1⟩ (st1.lab _ _ _ kA') (.inr ⟨(by decide:(21:Int)≠5),s',false,rfl,qA⟩) (by omega) fun κ2 s2 t2 st2 w2=>hQ κ2 s2 t2 st2 ?_
     simpa[gdE,hs,hm] using w2
    have ns:κb s' = .no:=by
     cases hk:κb s' with
     | no=>rfl
     | _=>have:=hdm s' (by rw[hk];simp);omega
    have nK':bK≠s':=fun e=>by rw[e] at kK';rw[w'.fresh] at kK';cases kK'
    have nA':bA≠s':=fun e=>by rw[e] at kA';rw[w'.fresh] at kA';cases kA'
    by_cases i0:i=0
    ·have j0:((i:Int)=0)=True:=eq_true (by omega);cases bb with
     | false =>
      simp +decide only[↓vS,vT,simprocAttr,j0,hw1];have hs:qhW false i=false:=by simp[qhW,i0]
      refine skip hs _ ?_;simp[qf,qi,Tr.get_set,gdL,hm,hs]
     | true =>
      have hs:qhW true i=true:=by simp[qhW,i0]
      simp +decide only[↓vS,vT,simprocAttr,j0];refine go hs _ fun κ2 s2 t2 st2 w2=>?_
      simp +decide only[↓vS,vT,simprocAttr];refine qaJ W.here w2 (p:=false) (b:=s') (by rw[st2.lab _ _ _ qA];simp[gdE,hs,hm]) fun t3 q1 q2 w3=>?_
      simp +decide only[↓vS,vT,simprocAttr,hw1];refine ih (i+1) _ _ (by omega) ?_ ⟨by omega,_,_,_,rfl,((st'.trans (w'.stpLab (.lab ((gdE (gdT l) true (gdK (gdT l) true+1) i).length+1) false) (.cells 0 true false [.i .i64 0]))).trans st2).kd' ns q1 q2 (fun c hc=>by simp at hc;rcases hc with hc|hc|hc<;>simp[hc]),w3,?_,?_⟩
      ·simp[qf,qi,Tr.get_set,gdL,hm,hs]
      ·rw[qe nK'];exact st2.lab _ _ _ (((qe nK').trans kK'))
      ·rw[qe nA'];exact st2.lab _ _ _ (((qe nA').trans kA'))
    ·have j0:((i:Int)=0)=False:=eq_false (by omega)
     by_cases i2:i=2
     ·have j2:((i:Int)=2)=True:=eq_true (by omega);cases bb with
      | false =>
       simp +decide only[↓vS,vT,simprocAttr,j0,j2,hw1];have hs:qhW false i=false:=by simp[qhW,i2]
       refine skip hs _ ?_;simp[qf,qi,Tr.get_set,gdL,hm,hs]
      | true =>
       simp +decide only[↓vS,vT,simprocAttr,j0,j2,hw1];have hs:qhW true i=false:=by simp[qhW,i2]
       refine skip hs _ ?_;simp[qf,qi,Tr.get_set,gdL,hm,hs]
     ·have j2:((i:Int)=2)=False:=eq_false (by omega);have hs:qhW bb i=true:=by simp[qhW,i0,i2]
      simp +decide only[↓vS,vT,simprocAttr,j0,j2];refine go hs _ fun κ2 s2 t2 st2 w2=>?_
      simp +decide only[↓vS,vT,simprocAttr];refine qaJ W.here w2 (p:=false) (b:=s') (by rw[st2.lab _ _ _ qA];simp[gdE,hs,hm]) fun t3 q1 q2 w3=>?_
      simp +decide only[↓vS,vT,simprocAttr,hw1];refine ih (i+1) _ _ (by omega) ?_ ⟨by omega,_,_,_,rfl,((st'.trans (w'.stpLab (.lab ((gdE (gdT l) bb (gdK (gdT l) bb+1) i).length+1) false) (.cells 0 true false [.i .i64 0]))).trans st2).kd' ns q1 q2 (fun c hc=>by simp at hc;rcases hc with hc|hc|hc<;>simp[hc]),w3,?_,?_⟩
      ·simp[qf,qi,Tr.get_set,gdL,hm,hs]
      ·rw[qe nK'];exact st2.lab _ _ _ (((qe nK').trans kK'))
      ·rw[qe nA'];exact st2.lab _ _ _ (((qe nA').trans kA'))
  ·obtain rfl:i=6:=by omega
   simp +decide only[↓vS,vT,simprocAttr];exact qsD W hd hj c6 w' st' hdm hno kK' kA' nK nA (by simp[qf,qi,Tr.get_set])
 ·simp[qf,qi,Tr.get_set,gdL]
 ·exact⟨Nat.zero_le _,κ,s,tr,rfl,st,h,kK,kA⟩
theorem qsB{n0 sb bK bA:Nat}{κb:Nat->Kd}{tb:Tr Blk}(l:List Int)(W:WFn P g gl gp gj gh gr)(hd:qc P gd zb=true)(hj:qc P g qK=true)(c6:qnW P g6)(c4:∀x,qd P g4 [.fz l.length (rI .i64 l),.i .i64 x] (.b (decide (x ∈ l))))(c5:qd P g5 [] (.fz 6 (rI .i64 [0,1,2,3,4,5])))
  (h:WI g w κ s tr [] []) (st:Stp [bK,bA] κb sb tb κ s tr) (hdm:∀b,κb b≠.no->b<sb) (hno:∀b F,κb b≠.lab F false)
  (kK:κ bK = .lab (gdK (gdT l) (gdT l 0&&gdT l 2)) false) (kA:κ bA = .lab (gdK (gdT l) (gdT l 0&&gdT l 2)+1) false) (nK:κb bK = .no) (nA:κb bA = .no) {t:Tr AV} (ht:Has t [(0,.fz l.length (rI .i64 l)),(4,.ptr w 0),(5,.ptr bK 0),(6,.ptr bA 0)]) :
  S P n0 (qbJ g1 g2 gl g4 g5 g6 gj gh gr gd) (qac [.tmp 2,.tmp 3] fun v' h'=>Frz h' v' (.tup [.fz (gdR (gdT l)).length (rSy (gdR (gdT l))),.i .i64 0])) t ⟨s,0,tr⟩:=by
 refine S.has _ ht (qj ?_);have b0:qd P g4 [.fz l.length (rI .i64 l),.i .i64 0] (.b (gdT l 0)):=c4 0;have b2:qd P g4 [.fz l.length (rI .i64 l),.i .i64 2] (.b (gdT l 2)):=c4 2;simp only[qbJ,vI,simprocAttr];simp +decide only[↓vS,vT,simprocAttr];refine qjT W.ld W.put h 4 (by simp) fun κ1 s1 t1 st1 w1=>?_
 rw[List.nil_append] at w1;have kK1:=st1.lab _ _ _ kK;have kA1:=st1.lab _ _ _ kA;have fin:=fun bb (e:(gdT l 0&&gdT l 2)=bb) t ht=>qsC (n0:=n0) (g1:=g1) (g2:=g2) (t:=t) l bb W hd hj c6 c4 c5 w1 (st.trans st1) hdm hno (by rw[← e];exact kK1) (by rw[← e];exact kA1) nK nA ht
 unfold gdR;simp +decide only[↓vS,vT,simprocAttr];refine b0.sc ?_;cases e0:gdT l 0 with
 | false =>
  simp +decide only[↓vS,vT,simprocAttr];rw[e0] at fin;refine fin _ rfl _ ?_;simp[qf,qi,Tr.get_set]
 | true =>
  simp +decide only[↓vS,vT,simprocAttr];refine b2.sc ?_;cases e2:gdT l 2 with
  | false =>
   simp +decide only[↓vS,vT,simprocAttr];rw[e0,e2] at fin;refine fin _ rfl _ ?_;simp[qf,qi,Tr.get_set]
  | true =>
   simp +decide only[↓vS,vT,simprocAttr];rw[e0,e2] at fin;refine fin _ rfl _ ?_;simp[qf,qi,Tr.get_set]
def qnS(l:List Int):Bool:=decide (l=[])||l.any fun a=>decide (a<0)||decide (6<=a)
def gdA(l:List Int):List Sy×Int:=if qnS l=true then ([],2) else (gdR (gdT l),0)
theorem qsA{n0:Nat}(l:List Int)(W:WFn P g gl gp gj gh gr)(hd:qc P gd zb=true)(hj:qc P g qK=true)(c6:qnW P g6)(c4:∀x,qd P g4 [.fz l.length (rI .i64 l),.i .i64 x] (.b (decide (x ∈ l))))(c5:qd P g5 [] (.fz 6 (rI .i64 [0,1,2,3,4,5])))(hn:n0=0)
  {t':Tr AV} {h':Hp} (hw:Wk 0 t' h' (mkT [(0,.fz l.length (rI .i64 l))]) (mkH 0 [])) :
  S P n0 (qbI g1 g2 gl g4 g5 g6 gj gh gr gd) (qac [.tmp 2,.tmp 3] fun v' h'=>Frz h' v' (.tup [.fz (gdR (gdT l)).length (rSy (gdR (gdT l))),.i .i64 0])) t' h':=by
 subst hn;refine S.weak hw (qj ?_);simp only[qbI,vI,simprocAttr];simp +decide only[↓vS,vT,simprocAttr];refine S.weak (Wk.mk [(0,.fz l.length (rI .i64 l)),(4,.ptr 0 0),(5,.ptr 1 0),(6,.ptr 2 0)] [.cells 0 true false [.own 3 0,.own 4 0],.cells 0 true false [.i .i64 0],.cells 0 true false [.i .i64 0],.cells 4 true true [],.cells 1 true true []] [0,1,2,99,99] ?_ ?_ ?_ rfl) ?_
 ·simp[vw,x5]
 ·simp[vw]
 ·simp
 simp only[vI,simprocAttr];generalize hKp:gdK (gdT l) (gdT l 0&&gdT l 2)=Kp
 have hW:∀k1 k2:Kd,(k1 = .no∨k1 = .lab Kp false)->(k2 = .no∨k2 = .lab (Kp+1) false)->WI g 0 (fun b=>if b=0 then .w else if b=1 then k1 else if b=2 then k2 else if b=3 then .l else if b=4 then .t else .no) 5 (((((Tr.leaf.set 0 (.cells 0 true false [.own 3 0,.own 4 0])).set 1 (.cells 0 true false [.i .i64 0])).set 2 (.cells 0 true false [.i .i64 0])).set 3 (.cells 4 true true [])).set 4 (.cells 1 true true [])) [] []:=fun k1 k2 h1 h2=>by
  refine⟨fun b hb=>?_,⟨3,4,[],[],rfl,rfl,rfl,?_,?_,?_,trivial,by simp,fun j y hy=>by simp at hy⟩,fun b F p hb=>?_⟩
  ·by_cases e:b<5
   ·exact e
   ·rw[if_neg (by omega),if_neg (by omega),if_neg (by omega),if_neg (by omega),if_neg (by omega)] at hb;exact absurd rfl hb
  ·simp[Tr.get_set]
  ·simp[Tr.get_set,rSy]
  ·simp[Tr.get_set]
  ·split at hb
   ·cases hb
   split at hb
   ·rename_i e;subst e;rcases h1 with rfl|rfl
    ·cases hb
    ·cases hb;exact⟨0,by simp[Tr.get_set],by simp⟩
   split at hb
   ·rename_i e;subst e;rcases h2 with rfl|rfl
    ·cases hb
    ·cases hb;exact⟨0,by simp[Tr.get_set],by simp⟩
   split at hb
   ·cases hb
   split at hb<;>cases hb
 refine qsB (bK:=1) (bA:=2) (κb:=fun b=>if b=0 then .w else if b=1 then .no else if b=2 then .no else if b=3 then .l else if b=4 then .t else .no) (sb:=5) (tb:=(((((Tr.leaf.set 0 (.cells 0 true false [.own 3 0,.own 4 0])).set 1 (.cells 0 true false [.i .i64 0])).set 2 (.cells 0 true false [.i .i64 0])).set 3 (.cells 4 true true [])).set 4 (.cells 1 true true [])))
  l W hd hj c6 c4 c5 (hW (.lab Kp false) (.lab (Kp+1) false) (.inr rfl) (.inr rfl)) ⟨Nat.le_refl _,fun b hb=>⟨?_,rfl⟩,fun b hb=>⟨?_,rfl⟩,fun b F p hb=>?_,fun b F hb=>?_⟩ (hW .no .no (.inl rfl) (.inl rfl)).dom ?_ (by rw[hKp];rfl) (by rw[hKp];rfl) rfl rfl ?_
 all_goals first|(simp[qf,qi,Tr.get_set];done)|skip
 ·by_cases e:b=1
  ·subst e;simp at hb
  by_cases e2:b=2
  ·subst e2;simp at hb
  ·rw[if_neg e,if_neg e2] at hb ⊢;exact hb
 ·by_cases e:b=1
  ·subst e;simp at hb
  by_cases e2:b=2
  ·subst e2;simp at hb
  ·rw[if_neg e,if_neg e2] at hb ⊢;exact hb
 ·by_cases e:b=1
  ·subst e;simp at hb
  by_cases e2:b=2
  ·subst e2;simp at hb
  ·rw[if_neg e,if_neg e2] at hb ⊢;exact hb
 ·by_cases e:b=1
  ·exact .inr (by simp[e])
  by_cases e2:b=2
  ·exact .inr (by simp[e2])
  ·rw[if_neg e,if_neg e2] at hb ⊢;exact .inl hb
 ·intro b F hb
  repeat' split at hb
  all_goals cases hb
end
section
variable {g gl gp gj gh gr gd g1 g2 g4 g5 g6:Nat}
def qeW:IFn:=⟨[.tmp 2],.seq (.r [.m 2 .F]) (.seq (.r [.n 3 0,.w 4 .lss 3 0,.n 5 4,.z 6 0 5,.g 7 (.bin .geq (.t 6) (.k 6)) 5 false,.o 8 5 7,.n 2 8]) (.ret))⟩
theorem qDW(hc:qc P f qeW=true)(a:Int):qd P f [.i .i64 a] (.b (decide (a<0)||decide (6<=a))):=by
 refine qd.mk hc rfl ?_;simp only[qeW,vI,simprocAttr]
 by_cases h:a<0
 ·simp +decide only[↓vS,vT,simprocAttr,h];simp[vZ]
 ·simp +decide only[↓vS,vT,simprocAttr,h];simp[vZ]
def jd(a:Nat):IFn:=⟨[.tmp 4],.seq (.r [.m 4 .F]) (.seq (.r [.n 5 0,.n 6 1,.l 7 a [.t 5,.t 6],.w 8 .geq 7 0,.n 4 8]) (.ret))⟩
theorem quF{g:Nat}(hc:qc P f (jd g)=true)(h:qrD P g)(l:List Int)(k:Nat)(p:Int->Bool)(hk:∀c,qd P k [.i .i64 c] (.b (p c)))(hl:l.length<=qg):qd P f [.fz l.length (rI .i64 l),.fn k [] []] (.b (l.any p)):=by
 refine qd.mk hc (by simp[qu,clo,x5]) ?_;simp only[jd,vI,simprocAttr];simp only[↓vS,vT,simprocAttr];refine (h (fun x:Int=>.i .i64 x) p k [] [] l rfl rfl hl fun x _=>hk x).sc ?_
 simp only[↓vS,vT,simprocAttr];simp[vZ,← qm0 p l 0]
theorem qBq(hc:qc P f (qgk g1 g2 gl g4 g5 g6 gj gh gr gd)=true)(W:WFn P g gl gp gj gh gr)(hd:qc P gd zb=true)(hj:qc P g qK=true)(c6:qnW P g6)(c1:∀l:List Int,l.length<=qg->qd P g1 [.fz l.length (rI .i64 l),.fn g2 [] []] (.b (l.any fun a=>decide (a<0)||decide (6<=a))))
  (c4:∀(l:List Int) (x:Int),l.length<=qg->qd P g4 [.fz l.length (rI .i64 l),.i .i64 x] (.b (decide (x ∈ l)))) (c5:qd P g5 [] (.fz 6 (rI .i64 [0,1,2,3,4,5]))) (l:List Int) (hl:l.length<=qg) :
  qd P f [.fz l.length (rI .i64 l)] (.tup [.fz (gdA l).1.length (rSy (gdA l).1),.i .i64 (gdA l).2]):=by
 refine qd.mk hc (by simp[qu,clo,x5]) ?_;have e1:=c1 l hl;simp only[qgk,vI,simprocAttr];unfold gdA qnS
 by_cases h:l.length=0
 ·have h':((l.length:Int)=0)=True:=eq_true (by omega);have hn:l=[]:=List.eq_nil_of_length_eq_zero h;rw[hn];simp +decide only[↓vS,vT,simprocAttr];simp[vZ,rSy]
 ·have h':((l.length:Int)=0)=False:=eq_false (by omega);have hn:decide (l=[])=false:=decide_eq_false fun hh=>h (by rw[hh];rfl)
  rw[hn,Bool.false_or];simp +decide only[↓vS,vT,simprocAttr,h'];refine e1.sc ?_;cases hb:l.any fun a=>decide (a<0)||decide (6<=a) with
  | true =>
   simp +decide only[↓vS,vT,simprocAttr];simp[vZ,rSy]
  | false =>
   simp +decide only[↓vS,vT,simprocAttr];refine qsA l W hd hj c6 (fun x=>c4 l x hl) c5 rfl (Wk.mk _ _ [] ?_ ?_ ?_ rfl)
   ·simp[vw,x5]
   ·trivial
   ·simp
end
end Go.Kc
end
section
namespace Go.Kc
def qhY:List Int:=[3221225534,1073741827,1073741864,3221225655,3221225715]
def evG(R:List Sy)(c:Int)(z:Bool):Nat->Nat->Nat->Option Int
 | 0,_,_=>none
 | n+1,p,w=>match R[p]? with
  | none=>none
  | some s=>if s.code=32 then (if s.k=4 then evG R c z n (p+1) 1 else if s.k=0 then evG R c z n (p+1) 2 else none)
   else if s.code=6 then some s.k
   else if s.code=21 then (if w=1∧qhY.contains s.k=true then evG R c z n (if c=s.k then s.th else s.el) w else none)
   else if s.code=69 then (if w=2∧s.k=1073741824 then evG R c z n (if z=true then s.th else s.el) w else none)
   else none
theorem qh6{R:List Sy}{d:GData}{c:Int}{z:Bool}(hc:∀K ∈ qhY,(d.arch=K↔c=K))(hz:z=decide (0<xT .u32 d.nr 1073741824)):∀(n p w:Nat) (a r:Int),(w=1->a=d.arch)->(w=2->a=d.nr)->evG R c z n p w=some r->Ev R d p a r
 | 0,p,w,a,r,_,_,h=>by simp[evG] at h
 | n+1,p,w,a,r,h1,h2,h=>by
  unfold evG at h;cases hs:R[p]? with
  | none=>rw[hs] at h;cases h
  | some s =>
   rw[hs] at h;simp only at h;split at h
   ·rename_i e;split at h
    ·rename_i e4;exact .ld p a r s hs e (qh6 hc hz n _ 1 _ r (fun _=>by rw[e4];rfl) (fun q=>by cases q) h)
    split at h
    ·rename_i e0;exact .ld p a r s hs e (qh6 hc hz n _ 2 _ r (fun q=>by cases q) (fun _=>by rw[e0];rfl) h)
    ·cases h
   split at h
   ·rename_i e;cases h;exact .rt p a s hs e
   split at h
   ·rename_i e;split at h
    ·rename_i hw
     have ek:qbi s.code a s.k=decide (c=s.k):=by
      rw[e,h1 hw.1];unfold qbi;rw[if_pos rfl];exact decide_eq_decide.2 (hc s.k (by simpa using hw.2))
     refine .jc p a r s hs (.inl e) ?_;rw[ek];simp only[decide_eq_true_eq];exact qh6 hc hz n _ w a r h1 h2 h
    ·cases h
   split at h
   ·rename_i e;split at h
    ·rename_i hw
     have ek:qbi s.code a s.k=z:=by
      rw[e,h2 hw.1,hw.2,hz];rfl
     refine .jc p a r s hs (.inr (.inr (.inr e))) ?_;rw[ek];exact qh6 hc hz n _ w a r h1 h2 h
    ·cases h
   ·cases h
instance {s:Sy} {j n:Nat}:Decidable (qee s j n):=by unfold qee qdh;infer_instance
def qzI(R:List Sy):Bool:=decide (0<R.length)&&decide (R.length<=10)&&decide ((R.getD (R.length-1) ⟨0,0,0,0⟩).code=6)&&(List.range R.length).all (fun j=>decide (qee (R.getD j ⟨0,0,0,0⟩) j R.length))&&R.all fun x=>decide (0<=x.k∧x.k<=4294967295)
def qoc(c:Int)(z:Bool):Option Nat:=if c=3221225534 then some (if z=true then 2 else 0) else if c=1073741827 then some 1 else if c=1073741864 then some 3 else if c=3221225655 then some 4 else if c=3221225715 then some 5 else none
def qhS(m:Nat->Bool)(o:Option Nat):Int:=match o with
 | some a=>if m a=true then 2147418112 else 2147483648
 | none=>2147483648
def okG(m:Nat->Bool):Bool:=qzI (gdR m)&&((-1)::qhY).all fun c=>[false,true].all fun z=>decide (evG (gdR m) c z 16 0 0=some (qhS m (qoc c z)))
def mkG(m0 m1 m2 m3 m4 m5:Bool)(i:Nat):Bool:=match i with|0=>m0|1=>m1|2=>m2|3=>m3|4=>m4|_=>m5
def qCm:Bool:=[false,true].all fun m0=>[false,true].all fun m1=>[false,true].all fun m2=>[false,true].all fun m3=>[false,true].all fun m4=>[false,true].all fun m5=>!(m0||m1||m2||m3||m4||m5)||okG (mkG m0 m1 m2 m3 m4 m5)
theorem quJ:qCm=true:=by kernel_rfl
section
variable {m m':Nat->Bool}
theorem qkS{b:Bool}{A:Nat}:∀{i:Nat},(∀j,j<i->m j=m' j)->gdE m b A i=gdE m' b A i∧gdL m b i=gdL m' b i
 | 0,_=>⟨rfl,rfl⟩
 | i+1,h=>by
  have h1:=qkS (b:=b) (A:=A) (i:=i) fun j hj=>h j (by omega)
  have h2:=h i (by omega);unfold gdE gdL;rw[h1.1,h1.2,h2];exact⟨rfl,rfl⟩
theorem qp9(h:∀j,j<6->m j=m' j):gdR m=gdR m':=by
 have hb:(m 0&&m 2)=(m' 0&&m' 2):=by rw[h 0 (by omega),h 2 (by omega)]
 have e:∀b A,gdE m b A 6=gdE m' b A 6∧gdL m b 6=gdL m' b 6:=fun b A=>qkS h
 unfold gdR gdY gdK;rw[hb];simp only[(e _ _).1,(e _ 0).2]
theorem qz8(h:(m 0||m 1||m 2||m 3||m 4||m 5)=true):qzI (gdR m)=true∧∀c ∈ (-1)::qhY,∀z:Bool,evG (gdR m) c z 16 0 0=some (qhS m (qoc c z)):=by
 have hb:∀b:Bool,b ∈ [false,true]:=by decide
 have h0:=quJ;unfold qCm at h0;have h1:=List.all_eq_true.1 (List.all_eq_true.1 (List.all_eq_true.1 (List.all_eq_true.1 (List.all_eq_true.1 (List.all_eq_true.1 h0 (m 0) (hb _)) (m 1) (hb _)) (m 2) (hb _)) (m 3) (hb _)) (m 4) (hb _)) (m 5) (hb _);rw[h] at h1;have h2:okG (mkG (m 0) (m 1) (m 2) (m 3) (m 4) (m 5))=true:=by simpa using h1
 have em:∀j,j<6->mkG (m 0) (m 1) (m 2) (m 3) (m 4) (m 5) j=m j:=fun j hj=>by
  match j,hj with
  | 0,_=>rfl
  | 1,_=>rfl
  | 2,_=>rfl
  | 3,_=>rfl
  | 4,_=>rfl
  | 5,_=>rfl
 unfold okG at h2;rw[qp9 em,Bool.and_eq_true] at h2;refine⟨h2.1,fun c hc z=>?_⟩
 have h3:=List.all_eq_true.1 (List.all_eq_true.1 h2.2 c hc) z (hb z);rw[decide_eq_true_eq] at h3;rw[h3]
 have es:∀o:Option Nat,(∀a,o=some a->a<6)->qhS (mkG (m 0) (m 1) (m 2) (m 3) (m 4) (m 5)) o=qhS m o:=fun o ho=>by
  cases o with
  | none=>rfl
  | some a=>unfold qhS;simp only;rw[em a (ho a rfl)]
 rw[es];intro a ha;unfold qoc at ha
 repeat' split at ha
 all_goals first|(cases ha;omega)|(cases ha;done)|(cases ha;split<;>omega)
end
theorem qwn(t n:Int):ofM t n=if t=3221225534 then (if xT .u32 n 1073741824≠0 then (2,true) else (0,true)) else if t=1073741827 then (1,true) else if t=1073741864 then (3,true) else if t=3221225655 then (4,true) else if t=3221225715 then (5,true) else (0,false):=by
 unfold ofM
 by_cases h1:t=3221225534
 ·simp[h1,qZ,xy]
 by_cases h2:t=1073741827
 ·simp[h2,qZ,xy]
 by_cases h3:t=1073741864
 ·simp[h3,qZ,xy]
 by_cases h4:t=3221225655
 ·simp[h4,qZ,xy]
 by_cases h5:t=3221225715
 ·simp[h5,qZ,xy]
 simp only[h1,h2,h3,h4,h5,qZ,xy,eq_comm (b:=t),if_false];simp
def gdM(l:List Int)(d:GData):Int:=if (ofM d.arch d.nr).2=true∧(ofM d.arch d.nr).1 ∈ l then 2147418112 else 2147483648
theorem qoN(l:List Int)(d:GData){c:Int}(hc:(d.arch=c∧c ∈ qhY)∨(c = -1∧d.arch ∉ qhY)):qhS (gdT l) (qoc c (decide (0<xT .u32 d.nr 1073741824)))=gdM l d:=by
 unfold gdM;rw[qwn];have hz:0<=xT .u32 d.nr 1073741824:=qot _ _;generalize xT .u32 d.nr 1073741824=z at hz;rcases hc with⟨e,hm⟩|⟨rfl,hm⟩
 ·subst e;simp only[qhY,List.mem_cons,List.not_mem_nil,or_false] at hm
  by_cases h0:z=0
  ·rcases hm with e|e|e|e|e<;>simp[e,h0,qoc,qhS,gdT]
  ·have h1:0<z:=by omega
   rcases hm with e|e|e|e|e<;>simp[e,h0,h1,qoc,qhS,gdT]
 ·simp only[qhY,List.mem_cons,List.not_mem_nil,or_false,not_or] at hm;obtain⟨h1,h2,h3,h4,h5⟩:=hm;simp[h1,h2,h3,h4,h5,qoc,qhS]
theorem qyo{l:List Int}(h:qnS l=false):(gdT l 0||gdT l 1||gdT l 2||gdT l 3||gdT l 4||gdT l 5)=true:=by
 cases l with
 | nil=>cases h
 | cons a l =>
  have h1:¬a<0∧¬6<=a:=by
   simp only[qnS,List.any_cons,Bool.or_eq_false_iff,decide_eq_false_iff_not] at h;exact h.2.1
  have e:∀i:Nat,(i:Int)=a->gdT (a::l) i=true:=fun i hi=>by unfold gdT;rw[hi];simp
  have ha:a=0∨a=1∨a=2∨a=3∨a=4∨a=5:=by omega
  rcases ha with q|q|q|q|q|q
  ·rw[e 0 q.symm];rfl
  ·rw[e 1 q.symm];simp
  ·rw[e 2 q.symm];simp
  ·rw[e 3 q.symm];simp
  ·rw[e 4 q.symm];simp
  ·rw[e 5 q.symm];simp
theorem qzl{l:List Int}(h:qnS l=false):MayL (gdR (gdT l))∧qaU (gdR (gdT l))∧(gdR (gdT l)).length<=10∧∀d,DatOk d->Ev (gdR (gdT l)) d 0 0 (gdM l d):=by
 obtain⟨h1,h2⟩:=qz8 (qyo h);generalize hR:gdR (gdT l)=R at h1 h2;unfold qzI at h1;simp only[Bool.and_eq_true,decide_eq_true_eq,List.all_eq_true] at h1;obtain⟨⟨⟨⟨p1,p2⟩,p3⟩,p4⟩,p5⟩:=h1;have gd:∀(j:Nat) s,R[j]?=some s->R.getD j ⟨0,0,0,0⟩=s:=fun j s hj=>by rw[List.getD_eq_getElem?_getD,hj];rfl
 refine⟨⟨p1,by omega,⟨_,zzE (by omega),?_⟩,fun j s hj=>?_⟩,fun x hx=>p5 x hx,p2,fun d hd=>?_⟩
 ·rw[gd _ _ (zzE (by omega:R.length-1<R.length))] at p3;exact p3
 ·have:=p4 j (List.mem_range.2 (zzS.1 hj).1);rw[gd _ _ hj] at this;exact this
 ·by_cases hm:d.arch ∈ qhY
  ·rw[← qoN l d (.inl ⟨rfl,hm⟩)];exact qh6 (fun K _=>Iff.rfl) rfl 16 0 0 0 _ (fun q=>by cases q) (fun q=>by cases q) (h2 d.arch (List.mem_cons_of_mem _ hm) _)
  ·rw[← qoN l d (.inr ⟨rfl,hm⟩)];refine qh6 (c:=-1) (fun K hK=>⟨fun e=>absurd (e ▸ hK) hm,fun e=>?_⟩) rfl 16 0 0 0 _ (fun q=>by cases q) (fun q=>by cases q) (h2 (-1) (List.mem_cons_self ..) _)
   subst e;exact absurd hK (by decide)
end Go.Kc
end
section
namespace Go.Kc
variable {P:Program} {f:Nat}
noncomputable def gdC(l:List Int)(o:Bool):List Ins×Int:=qn5 (gdA l).1 (gdA l).2 o
section
variable {l:List Int}
theorem qzk(h:qnS l=true)(o:Bool):gdC l o=([],2):=by
 unfold gdC gdA qn5 qkx qlG qdb;rw[if_pos h];simp
end
def qyH(P:Program)(g:Nat):Prop:=∀l:List Int,l.length<=qg->∀o:Bool,qd P g [.fz l.length (rI .i64 l),.b o] (.tup [.fz (gdC l o).1.length (rP (gdC l o).1),.i .i64 (gdC l o).2])
theorem qFd{gd gwG gwO gwL gs gG gO gL:Nat}(hc:qc P f (qbM gwG gwL gd gwO gs)=true)(hd:qc P gd qG=true)(hG:qc P gwG (zB gG)=true)(hO:qc P gwO (qV gO)=true)(hL:qc P gwL (qF gL)=true)
  (hs:qc P gs xE=true) (c1:∀l:List Int,l.length<=qg->qd P gG [.fz l.length (rI .i64 l)] (.tup [.fz (gdA l).1.length (rSy (gdA l).1),.i .i64 (gdA l).2])) (c3:qvb P gO) (c4:qoB P gL):qyH P f:=fun l hl o=>by
 have ok:(gdA l).2=0->MayL (gdA l).1:=fun h=>by
  unfold gdA at h ⊢;cases hb:qnS l with
  | true=>rw[hb] at h;simp at h
  | false=>simpa using (qzl hb).1
 exact qn6 hc hd hG hO hL hs ⟨by simp[clo,x5],rfl,rfl,rfl⟩ ⟨c1 l hl,fun h=>c4 _ (ok h),fun h=>c3 _ (ok h),fun h=>c4 _ (qlS (ok h))⟩ o
theorem qqe{b:Bool}{ρ:Ren}{as:List Value}(h:VRs σ0 ρ [.nils,.b b] as):VRs σ0 ρ [.fz 0 [],.b b] as:=by
 cases h with
 | cons _ _ _ _ h1 hs=>cases h1 with
  | nils=>exact .cons _ _ _ _ (.fz0 none) hs
theorem qyH.nil{g:Nat}(h:qyH P g)(o:Bool):qd P g [.nils,.b o] (.tup [.fz 0 [],.i .i64 2]):=fun hp k hk=>by
 have:=h [] (Nat.zero_le _) o;rw[qzk rfl o] at this;exact SC.args (this hp k hk) fun _ _=>qqe
def bT(t:Nat):GTest:=⟨((t % 6:Nat):Int),1099511628031,(t:Int),((196608+t:Nat):Int)⟩
def bTs(m:Nat):List GTest:=(List.range m).map bT
def bR(step:Int)(m k:Nat):GRule:=⟨(k:Int)*step,bTs m,((327680+k:Nat):Int)⟩
def bRs(step:Int)(m n:Nat):List GRule:=(List.range n).map (bR step m)
def bF(a step:Int)(m n:Nat):GFil:=⟨a,bRs step m n,2147418112⟩
theorem qhb{m:Nat}:(bTs m).length=m:=by simp[bTs]
theorem qdi{step:Int}{m n:Nat}:(bRs step m n).length=n:=by simp[bRs]
theorem qrj{m:Nat}:bTs (m+1)=bTs m++[bT m]:=by simp[bTs,List.range_succ]
theorem qrh{step:Int}{m n:Nat}:bRs step m (n+1)=bRs step m n++[bR step m n]:=by simp[bRs,List.range_succ]
theorem qCs:((List.range 400).all fun k=>decide (orI .u32 327680 (k:Int)=((327680+k:Nat):Int))&&knA ((327680+k:Nat):Int))=true:=by kernel_rfl
theorem qCt:((List.range 32).all fun k=>decide (orI .u32 196608 (k:Int)=((196608+k:Nat):Int))&&qbh (bT k))=true:=by kernel_rfl
theorem qru{k:Nat}(h:k<400):orI .u32 327680 (k:Int)=((327680+k:Nat):Int)∧knA ((327680+k:Nat):Int)=true:=by
 have:=List.all_eq_true.1 qCs k (List.mem_range.2 h);simpa using this
theorem qrv{k:Nat}(h:k<32):orI .u32 196608 (k:Int)=((196608+k:Nat):Int)∧qbh (bT k)=true:=by
 have:=List.all_eq_true.1 qCt k (List.mem_range.2 h);simpa using this
theorem qri{m:Nat}{t:GTest}(h:t ∈ bTs m):∃k,k<m∧t=bT k:=by
 obtain⟨k,h1,rfl⟩:=List.mem_map.1 h;exact⟨k,List.mem_range.1 h1,rfl⟩
theorem qkG{step:Int}{m n:Nat}{r:GRule}(h:r ∈ bRs step m n):∃k,k<n∧r=bR step m k:=by
 obtain⟨k,h1,rfl⟩:=List.mem_map.1 h;exact⟨k,List.mem_range.1 h1,rfl⟩
section
variable {a step:Int} {m n:Nat}
theorem qD8(h0:0<=a)(h5:a<=5)(hn:n<=400)(hs:1<=step)(hm:m<=32):xC (bF a step m n)=true:=by
 have k1:knA 2147418112=true:=by decide
 have hr:∀r ∈ bRs step m n,qbf r=true:=fun r hr=>by
  obtain⟨k,hk,rfl⟩:=qkG hr;simp only[qbf,bR,qhb,Bool.and_eq_true,decide_eq_true_eq,List.all_eq_true];refine⟨⟨hm,fun t ht=>?_⟩,(qru (by omega)).2⟩
  obtain⟨j,hj,rfl⟩:=qri ht;exact (qrv (by omega)).2
 unfold xC bF;simp only[qdi,k1,decide_eq_true h0,decide_eq_true (by omega:a<6),decide_eq_true hn,Bool.and_self,Bool.true_and,Bool.and_true];refine (qkn.2 ⟨hr,fun b hb=>(by cases hb),?_⟩)
 unfold bRs;rw[List.pairwise_map];refine List.Pairwise.imp ?_ List.pairwise_lt_range;intro x y hxy;simp only[bR];have:(x:Int)<y:=by omega
 exact Int.mul_lt_mul_of_pos_right this (by omega)
theorem qEa(hn:n<=400)(hs:1<=step∧step<=1000)(hm:m<=32):FilR (bF a step m n):=by
 refine⟨fun r hr=>?_,fun r hr t ht=>?_⟩
 ·obtain⟨k,hk,rfl⟩:=qkG hr;simp only[bR];have h1:(k:Int)*step<=400*1000:=Int.mul_le_mul (by omega) (by omega) (by omega) (by omega);have h2:0<=(k:Int)*step:=Int.mul_nonneg (by omega) (by omega);exact⟨h2,by omega⟩
 ·obtain⟨k,hk,rfl⟩:=qkG hr;obtain⟨j,hj,rfl⟩:=qri ht;simp only[bT];refine⟨by decide,by decide,by omega,by omega⟩
theorem qEb(hn:n<=400)(hm:m<=32):FilU (bF a step m n):=by
 refine⟨by simp only[bF];decide,fun r hr=>?_,fun r hr t ht=>?_⟩
 ·obtain⟨k,hk,rfl⟩:=qkG hr;simp only[bR];omega
 ·obtain⟨k,hk,rfl⟩:=qkG hr;obtain⟨j,hj,rfl⟩:=qri ht;simp only[bT];omega
theorem qD9(hn:n<=400)(hm:m<=32):qgE (bF a step m n):=by
 refine⟨by simp only[bF,qdi];omega,fun r hr=>?_⟩
 obtain⟨k,hk,rfl⟩:=qkG hr;simp only[bR,qhb];omega
theorem qCn:szF (bF a step m n)=10+n*(3+7*m):=by
 unfold szF bF bRs;simp only
 congr 1
 induction n with
 | zero=>simp
 | succ n ih=>rw[List.range_succ,List.map_append,List.map_append,List.sum_append,ih];simp[bR,qhb,Nat.add_mul]
end
def xt(a b c d e:Nat):ICode:=.r [.n 71 16,.a 72 71 1,.n 16 72]
def zz(a b c d e:Nat):ICode:=.r [.f 100 1 15,.d 101 100,.v 102 3 17,.q 103 (.buildS 1 [.i .u32 0,.nils,.i .u32 0] [(0,3,(.t 102))]),.q 104 (.app 3 40 true (.t 101) (.t 103)),.f 105 1 15,.u (.store 1 (.t 105) (.t 104))]
def zI(a b c d e:Nat):ICode:=.seq (.reg true [.f 106 1 15,.d 107 106,.n 108 5,.n 109 1,.b 110 .rem 108 109,.i 111 3 107 110,.f 112 0 111,.d 113 112,.f 114 0 11,.u (.store 1 (.t 114) (.t 113))]) (.seq (.r [.v 116 3 15,.n 117 6,.l 118 b [.t 116,.t 117],.n 115 118,.x 119 115 0,.x 120 115 1,.n 19 119,.n 20 120]) (.seq (.reg true [.n 121 20,.w 122 .eql 121 0,.n 123 122,.y 124 19 123,.g 125 (.len false (.t 124)) 123 true,.g 126 (.bin .leq (.t 125) (.k 4096)) 123 true,.p 127 123 126,.n 128 127,.y 129 19 128,⟨(some 130),.callF c [.t 129],(some (128,true))⟩,.g 131 (.bin .eql (.t 130) (.k 0)) 128 true,.p 132 128 131,.n 133 132,.y 134 19 133,.g 135 (.loadN 9 (.t 11)) 133 true,.g 136 (.loadN 3 (.t 15)) 133 true,.g 137 (.loadN 9 (.t 11)) 133 true,⟨(some 138),.callF d [.t 136,.t 137],(some (133,true))⟩,⟨(some 139),.callF e [.t 134,.t 135,.t 138],(some (133,true))⟩,.p 140 133 139,.n 14 140]) (.ret)))
def zH(a b c d e:Nat):ICode:=.seq (.r [.n 66 0,.q 67 (.build [.i .i64 0,.nils,.i .u32 0] [(0,1,(.t 66)),(2,1,(.c (.i .u32 2147418112)))]),.q 15 (.alloc [.i .i64 0,.nils,.i .u32 0]),.u (.store 3 (.t 15) (.t 67))]) (.seq (.seq (.r [.m 16 (.k 0)]) (.blk 0 (.loop (.seq (.seq (.r [.n 68 16,.n 69 1,.s 70 68 69]) (.cond (.t 70) (.skip) (.exit 0))) (.seq (.blk 1 (.seq (.r [.n 73 16,.n 74 2,.b 75 .mul 73 74,.q 76 (.cvInt .u32 (.t 75)),.n 77 16,.w 78 .rem 77 4000,.q 79 (.cvInt .u32 (.t 78)),.q 80 (.bin .or (.c (.i .u32 327680)) (.t 79)),.q 81 (.build [.i .u32 0,.nils,.i .u32 0] [(0,1,(.t 76)),(2,1,(.t 80))]),.q 17 (.alloc [.i .u32 0,.nils,.i .u32 0]),.u (.store 3 (.t 17) (.t 81))]) (.seq (.seq (.r [.m 18 (.k 0)]) (.blk 2 (.loop (.seq (.seq (.r [.n 82 18,.n 83 3,.s 84 82 83]) (.cond (.t 84) (.skip) (.exit 2))) (.seq (.blk 3 (.r [.f 87 1 17,.d 88 87,.n 89 18,.w 90 .rem 89 6,.n 91 18,.q 92 (.cvInt .u64 (.t 91)),.n 93 18,.q 94 (.cvInt .u32 (.t 93)),.q 95 (.bin .or (.c (.i .u32 196608)) (.t 94)),.q 96 (.build [.i .i64 0,.i .u64 0,.i .u64 0,.i .u32 0] [(0,1,(.t 90)),(1,1,(.c (.i .u64 1099511628031))),(2,1,(.t 92)),(3,1,(.t 95))]),.q 97 (.buildS 1 [.i .i64 0,.i .u64 0,.i .u64 0,.i .u32 0] [(0,4,(.t 96))]),.q 98 (.app 4 32 true (.t 88) (.t 97)),.f 99 1 17,.u (.store 1 (.t 99) (.t 98))])) (.r [.n 85 18,.a 86 85 1,.n 18 86])))))) (.cut (zz a b c d e))))) (.cut (xt a b c d e))))))) (.cut (zI a b c d e)))
def xY(a b c d e:Nat):IFn:=⟨[.tmp 14],.seq (.r [.q 11 (.box (.t 4)),.m 14 .F]) (.seq (.seq (.r [.l 21 a [],.q 22 (.un .not (.t 21))]) (.cond (.t 22) (.seq (.r [.m 14 .F]) (.ret)) (.skip))) (.seq (.seq (.r [.n 23 0,.w 24 .lss 23 0,.n 25 24,.z 26 0 25,.g 27 (.bin .gtr (.t 26) (.k 5)) 25 false,.o 28 25 27,.n 29 28,.z 30 1 29,.g 31 (.bin .lss (.t 30) (.k 1)) 29 false,.o 32 29 31,.n 33 32,.z 34 1 33,.g 35 (.bin .gtr (.t 34) (.k 400)) 33 false,.o 36 33 35,.n 37 36,.z 38 2 37,.g 39 (.bin .lss (.t 38) (.k 1)) 37 false,.o 40 37 39,.n 41 40,.z 42 2 41,.g 43 (.bin .gtr (.t 42) (.k 1000)) 41 false,.o 44 41 43,.n 45 44,.z 46 3 45,.g 47 (.bin .lss (.t 46) (.k 0)) 45 false,.o 48 45 47,.n 49 48,.z 50 3 49,.g 51 (.bin .gtr (.t 50) (.k 32)) 49 false,.o 52 49 51,.n 53 52,.z 54 1 53,.z 55 3 53,.g 56 (.bin .mul (.k 7) (.t 55)) 53 false,.g 57 (.bin .add (.k 3) (.t 56)) 53 false,.g 58 (.bin .mul (.t 54) (.t 57)) 53 false,.g 59 (.bin .add (.k 10) (.t 58)) 53 false,.g 60 (.bin .gtr (.t 59) (.k 1365)) 53 false,.o 61 53 60,.n 62 61,.z 63 5 62,.g 64 (.bin .lss (.t 63) (.k 0)) 62 false,.o 65 62 64]) (.cond (.t 65) (.seq (.r [.m 14 .T]) (.ret)) (.skip))) (.cut (zH a b c d e))))⟩
section
variable {g1 g2 g3 g4 g5:Nat}
theorem qms(a n step m i k:Int)(o:Bool)(d:GData)(A:List GRule)(r:GRule)(hA:A.length<=400)(hk:(A.length:Int)=k)(Q:X->Tr AV->Hp->Prop)
  (hQ:∀t' h',Wk 0 t' h' (mkT [(1,.i .i64 n),(2,.i .i64 step),(3,.i .i64 m),(5,.i .i64 i),(6,.b o),(11,.ptr 0 0),(15,.ptr 1 0),(16,.i .i64 k)]) (mkH 0 [.cells 0 true false (qw d),.cells 0 true false [.i .i64 a,.own 2 (A.length+1),.i .u32 2147418112],.cells 3 true true (rR (A++[r]))])->Q .normal t' h')
  {t':Tr AV} {h':Hp} (hw:Wk 0 t' h' (mkT [(1,.i .i64 n),(2,.i .i64 step),(3,.i .i64 m),(5,.i .i64 i),(6,.b o),(11,.ptr 0 0),(15,.ptr 1 0),(16,.i .i64 k),(17,.ptr 3 0)]) (mkH 0 [.cells 0 true false (qw d),.cells 0 true false [.i .i64 a,.own 2 A.length,.i .u32 2147418112],.cells 3 true true (rR A),.cells 0 true false (qM r)])) :
  S P 0 (zz g1 g2 g3 g4 g5) Q t' h':=by
 refine S.weak hw (qj ?_);have r1:A.length+1<=qg:=by simp only[qg];omega
 have r2:(A.length+1)*40<=qg:=by simp only[qg];omega
 have hl:(rR A).length=A.length*3:=qj1;have hap:rR A++qM r=rR (A++[r]):=by simp[rR]
 simp only[qM] at hap;simp only[zz,qw,qM,vI,simprocAttr];simp +decide only[↓vS,vT,simprocAttr,r1,r2,hl,hap];refine hQ _ _ (Wk.mk _ _ [0,1,5] ?_ ?_ ?_ rfl)
 ·simp[vw]
 ·simp[vw,qw,qh,zS]
 ·simp
theorem qpL(h2:qmu P g2)(h3:∀p:List Ins,(∀i ∈ p,InsOk i)->qd P g3 [.fz p.length (rP p)] (.i .i64 (atU p (qer p)).2))(h4:∀x d,qgE x->qd P g4 [.agg (qS x),.agg (qw d)] (.i .u32 (qfj x d)))
  (h5:∀p,PrgGood p->∀d,DatOk d->∀w:Int,(qe8 p d).1=w->qd P g5 [.fz p.length (rP p),.agg (qw d),.i .u32 w] (.b true)) (x:GFil) (hK:xC x=true) (hR:FilR x) (hU:FilU x) (hL:qgE x) (hz:szF x<=1365) (n:Nat) (hn:x.rules.length=n) (hn0:1<=n) (hn4:n<=400) (i:Int) (hi:0<=i) (hi2:i<=9223372036854775807) (o:Bool) (d:GData) (hd:DatOk d)
  {t':Tr AV} {h':Hp} (hw:Wk 0 t' h' (mkT [(1,.i .i64 (n:Int)),(5,.i .i64 i),(6,.b o),(11,.ptr 0 0),(15,.ptr 1 0)]) (mkH 0 [.cells 0 true false (qw d),.cells 0 true false (qS x)])) :
  S P 0 (zI g1 g2 g3 g4 g5) (qac [.tmp 14] fun v' h'=>Frz h' v' (.b true)) t' h':=by
 refine S.weak hw (qj ?_);have hnz:(n:Int)≠0:=by omega
 obtain⟨j,hj⟩:∃j:Nat,i.tmod (n:Int)=(j:Int):=⟨(i.tmod n).toNat,by have:=Int.tmod_nonneg (n:Int) hi;omega⟩
 have hjn:j<n:=by have:=Int.tmod_lt_of_pos i (by omega:(0:Int)<n);omega
 obtain⟨r,hr⟩:∃r,x.rules[j]?=some r:=⟨_,zzE (by omega)⟩;have hjl:j<x.rules.length:=by omega
 have g0:(rR x.rules)[j*3]?=some (.i .u32 r.nr):=by
  have:=qb2 (f:=qM) (m:=3) qaA hr (i:=0) (by omega);simpa[qM,rR] using this
 have hrn:=hR.nr r (zzM hr);obtain⟨d2,hd2⟩:∃d2:GData,d2=⟨r.nr,d.arch,d.ip,d.a0,d.a1,d.a2,d.a3,d.a4,d.a5⟩:=⟨_,rfl⟩;have hdk:DatOk d2:=by rw[hd2];exact⟨hrn.1,by simp only;omega,hd.ar0,hd.ar1,hd.wid⟩
 have c1:=h2 x hR hL o;have a1:=(qrV hK hR hU o).resolve_left fun q=>by have:=q.2.2;omega
 generalize qbX x o=q1 at c1 a1;obtain⟨p1,e1⟩:=q1;obtain⟨z1,b1⟩:=a1;simp only at z1 b1;subst z1;have c3:=h3 p1 b1.good.ins;rw[b1.um,qvN b1.good] at c3;have c4:=h4 x d2 hL;have c5:=h5 p1 b1.good d2 hdk _ (b1.tells d2 hdk).1;have hlen:=b1.good.len;have hlen':(p1.length:Int)<=4096:=by omega
 have hdd:qw d2=[.i .u32 r.nr,.i .u32 d.arch,.i .u64 d.ip,.i .u64 d.a0,.i .u64 d.a1,.i .u64 d.a2,.i .u64 d.a3,.i .u64 d.a4,.i .u64 d.a5]:=by rw[hd2];rfl
 rw[hdd] at c4 c5;generalize qfj x d2=w at c4 c5;have hww:IntKind.wrap .i64 (j:Int)=(j:Int):=qq (by omega) (by omega);simp only[qS,hn] at c1 c4;simp only[zI,qS,qw,hn,vI,simprocAttr];simp +decide only[↓vS,vT,simprocAttr];refine zD ?_;simp +decide only[↓vS,vT,simprocAttr,↓qbT hnz,hj,hww,hjn,g0];refine c1.sc ?_;simp +decide only[↓vS,vT,simprocAttr];refine zD ?_;simp +decide only[↓vS,vT,simprocAttr,hlen'];refine c3.pc ?_;simp +decide only[↓vS,vT,simprocAttr];refine c4.pc ?_;simp +decide only[↓vS,vT,simprocAttr];refine c5.pc ?_;simp +decide only[↓vS,vT,simprocAttr];simp[vZ]
theorem qpK(h2:qmu P g2)(h3:∀p:List Ins,(∀i ∈ p,InsOk i)->qd P g3 [.fz p.length (rP p)] (.i .i64 (atU p (qer p)).2))(h4:∀x d,qgE x->qd P g4 [.agg (qS x),.agg (qw d)] (.i .u32 (qfj x d)))
  (h5:∀p,PrgGood p->∀d,DatOk d->∀w:Int,(qe8 p d).1=w->qd P g5 [.fz p.length (rP p),.agg (qw d),.i .u32 w] (.b true)) (a step:Int) (n m:Nat) (ha0:0<=a) (ha5:a<=5) (hn0:1<=n) (hn4:n<=400) (hs1:1<=step) (hs2:step<=1000) (hm:m<=32) (hz:10+n*(3+7*m)<=1365)
  (i:Int) (hi:0<=i) (hi2:i<=9223372036854775807) (o:Bool) (d:GData) (hd:DatOk d)
  {t':Tr AV} {h':Hp} (hw:Wk 0 t' h' (mkT [(0,.i .i64 a),(1,.i .i64 (n:Int)),(2,.i .i64 step),(3,.i .i64 (m:Int)),(5,.i .i64 i),(6,.b o),(11,.ptr 0 0)]) (mkH 0 [.cells 0 true false (qw d)])) :
  S P 0 (zH g1 g2 g3 g4 g5) (qac [.tmp 14] fun v' h'=>Frz h' v' (.b true)) t' h':=by
 refine S.weak hw (qj ?_);simp only[zH,qw,vI,simprocAttr];simp +decide only[↓vS,vT,simprocAttr]
 refine SL.loop (α:=Nat) (fun k=>[(1,.i .i64 (n:Int)),(2,.i .i64 step),(3,.i .i64 (m:Int)),(5,.i .i64 i),(6,.b o),(11,.ptr 0 0),(15,.ptr 1 0),(16,.i .i64 (k:Int))])
  (fun k=>[.cells 0 true false (qw d),.cells 0 true false [.i .i64 a,.own 2 k,.i .u32 2147418112],.cells 3 true true (rR (bRs step m k))]) (fun k=>k<=n) (fun k=>n-k) 0 [0,1,99] ?_ ?_ ?_ rfl ?_ ?_
 ·simp[vw]
 ·simp[vw,qw,bRs,rR]
 ·simp
 ·exact Nat.zero_le _
 rintro k hk G ih;simp only[vI,simprocAttr]
 by_cases hlt:k<n
 ·have hlt':(k:Int)<n:=by omega
  have q1:(k:Int)*step<=400*1000:=Int.mul_le_mul (by omega) hs2 (by omega) (by omega);have q2:0<=(k:Int)*step:=Int.mul_nonneg (by omega) (by omega);have w1:IntKind.wrap .i64 ((k:Int)*step)=(k:Int)*step:=qq (by omega) (by omega)
  have w2:IntKind.wrap .u32 ((k:Int)*step)=(k:Int)*step:=by
   have:IntKind.wrap .u32 ((k:Int)*step)=((k:Int)*step) % 4294967296:=rfl;omega
  have w3:(k:Int).tmod 4000=(k:Int):=by rw[Int.tmod_eq_emod_of_nonneg (by omega)];omega
  have w4:IntKind.wrap .u32 (k:Int)=(k:Int):=by
   have:IntKind.wrap .u32 (k:Int)=(k:Int) % 4294967296:=rfl;omega
  have w5:=(qru (k:=k) (by omega)).1;have w6:IntKind.wrap .i64 ((k:Int)+1)=((k+1:Nat):Int):=by rw[qq (by omega) (by omega)];simp
  have z4:(4000:Int)≠0:=by decide
  have z6:(6:Int)≠0:=by decide
  simp +decide only[↓vS,vT,simprocAttr,hlt',↓qbT z4,w1,w2,w3,w4,w5]
  refine SL.loop (α:=Nat) (fun t=>[(1,.i .i64 (n:Int)),(2,.i .i64 step),(3,.i .i64 (m:Int)),(5,.i .i64 i),(6,.b o),(11,.ptr 0 0),(15,.ptr 1 0),(16,.i .i64 (k:Int)),(17,.ptr 3 0),(18,.i .i64 (t:Int))])
   (fun t=>[.cells 0 true false (qw d),.cells 0 true false [.i .i64 a,.own 2 k,.i .u32 2147418112],.cells 3 true true (rR (bRs step m k)),.cells 0 true false [.i .u32 ((k:Int)*step),.own 4 t,.i .u32 ((327680+k:Nat):Int)],.cells 4 true true (rT (bTs t))]) (fun t=>t<=m) (fun t=>m-t) 0 [0,1,2,3,99] ?_ ?_ ?_ rfl ?_ ?_
  ·simp[vw]
  ·simp[vw,qw,bTs,rT,qh,zS]
  ·simp
  ·exact Nat.zero_le _
  rintro t ht G2 ih2;simp only[vI,simprocAttr]
  by_cases hlt2:t<m
  ·have hlt2':(t:Int)<m:=by omega
   have y1:(t:Int).tmod 6=((t % 6:Nat):Int):=by rw[Int.tmod_eq_emod_of_nonneg (by omega)];omega
   have y2:IntKind.wrap .u64 (t:Int)=(t:Int):=by
    have:IntKind.wrap .u64 (t:Int)=(t:Int) % 18446744073709551616:=rfl;omega
   have y3:IntKind.wrap .u32 (t:Int)=(t:Int):=by
    have:IntKind.wrap .u32 (t:Int)=(t:Int) % 4294967296:=rfl;omega
   have y4:=(qrv (k:=t) (by omega)).1;have y5:IntKind.wrap .i64 ((t:Int)+1)=((t+1:Nat):Int):=by rw[qq (by omega) (by omega)];simp
   have r1:t+1<=qg:=by simp only[qg];omega
   have r2:(t+1)*32<=qg:=by simp only[qg];omega
   have hl:(rT (bTs t)).length=t*4:=by rw[qik,qhb]
   have hap:rT (bTs t)++[.i .i64 ((t % 6:Nat):Int),.i .u64 1099511628031,.i .u64 (t:Int),.i .u32 ((196608+t:Nat):Int)]=rT (bTs (t+1)):=by rw[qrj];simp[rT,zQ,bT]
   simp +decide only[↓vS,vT,simprocAttr,hlt2',↓qbT z6,y1,y2,y3,y4,y5,r1,r2,hl,hap];refine ih2 (t+1) (by omega) (by omega) _ _ (Wk.mk _ _ [0,1,2,3,6] ?_ ?_ ?_ rfl)
   ·simp[vw]
   ·simp[vw,qw,qh,zS,jv]
   ·simp
  ·obtain rfl:t=m:=by omega
   have hlt2':¬((t:Int)<t):=by omega
   simp +decide only[↓vS,vT,simprocAttr,hlt2']
   refine S.weak (Wk.mk [(1,.i .i64 (n:Int)),(2,.i .i64 step),(3,.i .i64 (t:Int)),(5,.i .i64 i),(6,.b o),(11,.ptr 0 0),(15,.ptr 1 0),(16,.i .i64 (k:Int)),(17,.ptr 3 0)]
    [.cells 0 true false (qw d),.cells 0 true false [.i .i64 a,.own 2 k,.i .u32 2147418112],.cells 3 true true (rR (bRs step t k)),.cells 0 true false [.i .u32 ((k:Int)*step),.own 4 t,.i .u32 ((327680+k:Nat):Int)],.cells 4 true true (rT (bTs t))] [0,1,2,3,4] ?_ ?_ ?_ rfl) ?_
   ·simp[vw]
   ·simp[vw,qw,qh,zS,jv]
   ·simp
   refine S.weak (Wk.freeze 4 4 4 rfl jv (Nat.zero_le _) (by simp)) ?_;refine qms a n step t i k o d (bRs step t k) (bR step t k) (by rw[qdi];omega) (by rw[qdi]) _ ?_ (Wk.mk _ _ [0,1,2,3] ?_ ?_ ?_ rfl)
   ·intro t' h' hw;simp only[↓vS,vT,simprocAttr];refine S.weak hw (qj ?_);simp only[xt,vI,simprocAttr];simp +decide only[↓vS,vT,simprocAttr,w6];refine ih (k+1) (by omega) (by omega) _ _ (Wk.mk _ _ [0,1,2] ?_ ?_ ?_ rfl)
    ·simp[vw]
    ·simp[vw,qw,qh,zS,qdi,qrh]
    ·simp
   ·simp[vw,mkT,fzv,qcw]
   ·simp[vw,mkH,trL,fzB,qcw,fzv,qw,qM,bR,qh,zS,jv,qhb,qdi,qmQ zS];intro h;subst h;rfl
   ·simp[mkH]
 ·obtain rfl:k=n:=by omega
  have hlt':¬((k:Int)<k):=by omega
  simp +decide only[↓vS,vT,simprocAttr,hlt']
  refine S.weak (Wk.mk [(1,.i .i64 (k:Int)),(5,.i .i64 i),(6,.b o),(11,.ptr 0 0),(15,.ptr 1 0)]
   [.cells 0 true false (qw d),.cells 0 true false [.i .i64 a,.own 2 k,.i .u32 2147418112],.cells 3 true true (rR (bRs step m k))] [0,1,2] ?_ ?_ ?_ rfl) ?_
  ·simp[vw]
  ·simp[vw,qw,qh,zS]
  ·simp
  refine S.weak (Wk.freeze 2 3 3 rfl zS (Nat.zero_le _) (by simp)) ?_;refine qpL h2 h3 h4 h5 (bF a step m k) (qD8 ha0 ha5 hn4 hs1 hm) (qEa hn4 ⟨hs1,hs2⟩ hm) (qEb hn4 hm) (qD9 hn4 hm) (by rw[qCn];exact hz) k (by simp only[bF,qdi]) hn0 hn4 i hi hi2 o d hd (Wk.mk _ _ [0,1] ?_ ?_ ?_ rfl)
  ·simp[vw,mkT,fzv,qcw]
  ·simp[vw,mkH,trL,fzB,qcw,fzv,qw,qS,bF,qdi,qh,zS];intro h;subst h;rfl
  ·simp[mkH]
set_option maxRecDepth 8000 in
theorem qoV(hc:qc P f (xY g1 g2 g3 g4 g5)=true)(h1:qd P g1 [] (.b true))(h2:qmu P g2)(h3:∀p:List Ins,(∀i ∈ p,InsOk i)->qd P g3 [.fz p.length (rP p)] (.i .i64 (atU p (qer p)).2))(h4:∀x d,qgE x->qd P g4 [.agg (qS x),.agg (qw d)] (.i .u32 (qfj x d)))
  (h5:∀p,PrgGood p->∀d,DatOk d->∀w:Int,(qe8 p d).1=w->qd P g5 [.fz p.length (rP p),.agg (qw d),.i .u32 w] (.b true)) (a n step m i:Int) (hi:i<=9223372036854775807) (o:Bool) (d:GData) (hd:DatOk d) :
  qd P f [.i .i64 a,.i .i64 n,.i .i64 step,.i .i64 m,.agg (qw d),.i .i64 i,.b o] (.b true):=by
 refine qd.mk hc (by simp[qu,clo,qw]) ?_;simp only[xY,qw,vI,simprocAttr];simp +decide only[↓vS,vT,simprocAttr];refine h1.sc ?_
 by_cases k1:a<0
 ·simp +decide only[↓vS,vT,simprocAttr,k1];simp[vZ]
 by_cases k2:5<a
 ·simp +decide only[↓vS,vT,simprocAttr,k1,k2];simp[vZ]
 by_cases k3:n<1
 ·simp +decide only[↓vS,vT,simprocAttr,k1,k2,k3];simp[vZ]
 by_cases k4:400<n
 ·simp +decide only[↓vS,vT,simprocAttr,k1,k2,k3,k4];simp[vZ]
 by_cases k5:step<1
 ·simp +decide only[↓vS,vT,simprocAttr,k1,k2,k3,k4,k5];simp[vZ]
 by_cases k6:1000<step
 ·simp +decide only[↓vS,vT,simprocAttr,k1,k2,k3,k4,k5,k6];simp[vZ]
 by_cases k7:m<0
 ·simp +decide only[↓vS,vT,simprocAttr,k1,k2,k3,k4,k5,k6,k7];simp[vZ]
 by_cases k8:32<m
 ·simp +decide only[↓vS,vT,simprocAttr,k1,k2,k3,k4,k5,k6,k7,k8];simp[vZ]
 have w1:IntKind.wrap .i64 (7*m)=7*m:=qq (by omega) (by omega);have w2:IntKind.wrap .i64 (3+7*m)=3+7*m:=qq (by omega) (by omega);have y1:n*(3+7*m)<=400*227:=Int.mul_le_mul (by omega) (by omega) (by omega) (by omega);have y2:0<=n*(3+7*m):=Int.mul_nonneg (by omega) (by omega);have w3:IntKind.wrap .i64 (n*(3+7*m))=n*(3+7*m):=qq (by omega) (by omega);have w4:IntKind.wrap .i64 (10+n*(3+7*m))=10+n*(3+7*m):=qq (by omega) (by omega)
 by_cases k9:1365<10+n*(3+7*m)
 ·simp +decide only[↓vS,vT,simprocAttr,k1,k2,k3,k4,k5,k6,k7,k8,w1,w2,w3,w4,k9];simp[vZ]
 by_cases k0:i<0
 ·simp +decide only[↓vS,vT,simprocAttr,k1,k2,k3,k4,k5,k6,k7,k8,w1,w2,w3,w4,k9,k0];simp[vZ]
 simp +decide only[↓vS,vT,simprocAttr,k1,k2,k3,k4,k5,k6,k7,k8,w1,w2,w3,w4,k9,k0];obtain⟨n',rfl⟩:∃n':Nat,n=(n':Int):=⟨n.toNat,by omega⟩
 obtain⟨m',rfl⟩:∃m':Nat,m=(m':Int):=⟨m.toNat,by omega⟩
 have hz:10+n'*(3+7*m')<=1365:=by
  have:((10+n'*(3+7*m'):Nat):Int)<=1365:=by push_cast;omega
  omega
 refine qpK h2 h3 h4 h5 a step n' m' (by omega) (by omega) (by omega) (by omega) (by omega) (by omega) (by omega) hz i (by omega) hi o d hd (Wk.mk _ _ [0] ?_ ?_ ?_ rfl)
 ·simp[vw]
 ·simp[vw,qw]
 ·simp
end
section
variable {g1 g2 g3 g4 g5 g6 g7 g8:Nat}
def qFs(P:Program)(g:Nat):Prop:=∀p:List Ins,(∀i ∈ p,InsOk i)->qd P g [.fz p.length (rP p)] (.i .i64 (atU p (qer p)).2)
end
end Go.Kc
end
