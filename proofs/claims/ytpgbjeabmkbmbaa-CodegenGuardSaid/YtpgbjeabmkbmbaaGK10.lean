/- Part 10 of the abstract machine and of the functions' walks. Conditions: with each theorem. -/
import Derived.Test.YtpgbjeabmkbmbaaGK9
import Derived.KernelRfl
set_option maxHeartbeats 4000000
set_option linter.unusedSectionVars false
set_option linter.unusedSimpArgs false
set_option linter.unusedVariables false
set_option linter.unnecessarySimpa false
section
namespace Go.Kc
variable {P:Program} {f:Nat}
def qfS(b:Bool)(i:Nat):Bool:=decide (i≠0∧i≠2)||(b&&decide (i=0))
def gdE(m:Nat->Bool)(b:Bool)(A:Nat):Nat->List Sy
 | 0=>[⟨32,4,0,0⟩]
 | i+1=>gdE m b A i++if (m i&&qfS b i)=true then [⟨21,qgf (i:Int),A,(gdE m b A i).length+1⟩] else []
def gdL(m:Nat->Bool)(b:Bool):Nat->Int
 | 0=>-1
 | i+1=>if (m i && !qfS b i && !b)=true then (i:Int) else gdL m b i
def gdZ(a:Int)(p K A:Nat):List Sy:=[⟨21,qgf a,p+1,K⟩,⟨32,0,0,0⟩,if a=2 then ⟨69,1073741824,A,K⟩ else ⟨69,1073741824,K,A⟩]
def gdK(m:Nat->Bool)(b:Bool):Nat:=(gdE m b 0 6).length+if 0<=gdL m b 6 then 3 else 0
def gdY(m:Nat->Bool)(b:Bool):List Sy:=gdE m b (gdK m b+1) 6++if 0<=gdL m b 6 then gdZ (gdL m b 6) (gdE m b 0 6).length (gdK m b) (gdK m b+1) else []
def gdF(l:List Sy):List Sy:=l++[⟨6,2147483648,0,0⟩]++[⟨6,2147418112,0,0⟩]
def gdR(m:Nat->Bool):List Sy:=gdF (gdY m (m 0&&m 2))
section
variable {m:Nat->Bool} {b:Bool}
theorem qiN{A:Nat}:∀{i:Nat},(gdE m b A i).length=(gdE m b 0 i).length
 | 0=>rfl
 | i+1=>by simp only[gdE,List.length_append,qiN (i:=i)];split<;>rfl
theorem qkW{A:Nat}:∀{i:Nat},(gdE m b A i).length<=1+i
 | 0=>Nat.le_refl _
 | i+1=>by
  have:=qkW (A:=A) (i:=i);simp only[gdE,List.length_append];split<;>simp<;>omega
theorem qlE:∀{i:Nat},-1<=gdL m b i∧gdL m b i<i
 | 0=>⟨Int.le_refl _,by simp only[gdL];decide⟩
 | i+1=>by
  have:=qlE (i:=i);unfold gdL;split<;>omega
theorem qrr{a:Int}{p K A:Nat}:(gdZ a p K A).length=3:=by simp[gdZ]
theorem qrq:(gdY m b).length=gdK m b:=by
 unfold gdY gdK;rw[List.length_append,qiN];split
 ·rw[qrr]
 ·rfl
end
section
variable {g w s gl gp gj gh gr gd g1 g2 g4 g5 g6:Nat} {κ:Nat->Kd} {tr:Tr Blk} {RV:List Sy} {N:List Nat} {k:AV->Hp->Prop}
def qas(a b c d e g h i j k:Nat):ICode:=.seq (.r [.n 109 4,.n 110 5,.l 111 i [.t 109,.t 110]]) (.seq (.r [.n 112 4,.l 113 j [.t 112,(.c (.i .u32 2147483648))]]) (.seq (.r [.n 114 4,.n 115 6,.l 116 i [.t 114,.t 115]]) (.seq (.r [.n 117 4,.l 118 j [.t 117,(.c (.i .u32 2147418112))]]) (.seq (.r [.n 119 4,.l 120 k [.t 119],.n 2 120,.m 3 (.k 0)]) (.ret)))))
def qbz(a b c d e g h i j k:Nat):ICode:=.seq (.seq (.r [.n 80 8,.w 81 .geq 80 0]) (.cond (.t 81) (.seq (.r [.q 82 (.build [.i .i64 0] []),.q 83 (.box (.t 82)),.n 14 83]) (.seq (.r [.n 85 8,.l 86 g [.t 85],.n 84 86,.x 87 84 0,.x 88 84 1,.n 15 87,.n 16 88]) (.seq (.r [.n 89 4,.n 90 15,.n 91 14,.n 92 5,.l 93 h [.t 89,(.c (.i .u16 21)),.t 90,.t 91,.t 92]]) (.seq (.r [.n 94 4,.n 95 14,.l 96 i [.t 94,.t 95]]) (.seq (.r [.n 97 4,.l 98 c [.t 97,(.c (.i .u32 0))]]) (.seq (.r [.n 99 8,.w 100 .eql 99 2]) (.cond (.t 100) (.r [.n 101 4,.n 102 6,.n 103 5,.l 104 h [.t 101,(.c (.i .u16 69)),(.c (.i .u32 1073741824)),.t 102,.t 103]]) (.r [.n 105 4,.n 106 5,.n 107 6,.l 108 h [.t 105,(.c (.i .u16 69)),(.c (.i .u32 1073741824)),.t 106,.t 107]])))))))) (.skip))) (.cut (qas a b c d e g h i j k))
def qby(a b c d e g h i j k:Nat):ICode:=.seq (.seq (.r [.l 38 e [],.e 39 38,.m 40 (.k 0)]) (.blk 0 (.loop (.seq (.r [.s 41 40 39]) (.seq (.cond (.t 41) (.skip) (.exit 0)) (.seq (.blk 1 (.seq (.r [.i 42 1 38 40,.d 43 42,.n 10 43]) (.seq (.seq (.r [.n 44 0,.n 45 10,.l 46 d [.t 44,.t 45],.q 47 (.un .not (.t 46))]) (.cond (.t 47) (.exit 1) (.skip))) (.seq (.r [.n 49 10,.l 50 g [.t 49],.n 48 50,.x 51 48 0,.x 52 48 1,.n 11 51,.n 12 52]) (.seq (.r [.q 53 (.build [.i .i64 0] []),.q 54 (.box (.t 53)),.n 13 54]) (.seq (.seq (.r [.n 55 10,.w 56 .neq 55 0,.n 57 56,.y 58 10 57,.g 59 (.bin .neq (.t 58) (.k 2)) 57 true,.p 60 57 59,.n 61 60,.z 62 7 61,.z 63 62 61,.y 64 10 63,.g 65 (.bin .eql (.t 64) (.k 0)) 63 true,.g 66 (.pick (.t 63) (.t 65) .F) 61 false,.o 67 61 66]) (.cond (.t 67) (.r [.n 68 4,.n 69 11,.n 70 6,.n 71 13,.l 72 h [.t 68,(.c (.i .u16 21)),.t 69,.t 70,.t 71]]) (.seq (.r [.n 73 7,.q 74 (.un .not (.t 73))]) (.cond (.t 74) (.seq (.r [.n 75 10,.n 8 75]) (.exit 1)) (.exit 1))))) (.r [.n 76 4,.n 77 13,.l 78 i [.t 76,.t 77]]))))))) (.r [.a 79 40 1,.n 40 79]))))))) (.cut (qbz a b c d e g h i j k))
def qbx(a b c d e g h i j k:Nat):ICode:=.seq (.r [.n 30 4,.l 31 c [.t 30,(.c (.i .u32 4))]]) (.seq (.r [.n 32 0,.l 33 d [.t 32,.k 0],.n 34 33,.y 35 0 34,⟨(some 36),.callF d [.t 35,.k 2],(some (34,true))⟩,.p 37 34 36,.n 7 37]) (.seq (.r [.q 8 (.mov (.c (.i .i64 (-1))))]) (.cut (qby a b c d e g h i j k))))
def qbw(a b c d e g h i j k:Nat):ICode:=.seq (.r [.q 24 (.build [.nils,.nils] []),.q 25 (.box (.t 24)),.q 26 (.build [.i .i64 0] []),.q 27 (.box (.t 26)),.q 28 (.build [.i .i64 0] []),.q 29 (.box (.t 28)),.n 4 25,.n 5 27,.n 6 29]) (.cut (qbx a b c d e g h i j k))
def qeP(a b c d e g h i j k:Nat):IFn:=⟨[.tmp 2,.tmp 3],.seq (.r [.m 2 .N,.m 3 (.k 0)]) (.seq (.seq (.r [.n 17 0,.e 18 17,.w 19 .eql 18 0,.n 20 19,.z 21 0 20,⟨(some 22),.callF a [.t 21,(.c (.fn b [] []))],(some (20,false))⟩,.o 23 20 22]) (.cond (.t 23) (.seq (.r [.m 2 .N,.m 3 (.k 2)]) (.ret)) (.skip))) (.cut (qbw a b c d e g h i j k)))⟩
def gdT(l:List Int)(i:Nat):Bool:=decide ((i:Int) ∈ l)
theorem qjX{n0 sb bK bA K:Nat}{κb:Nat->Kd}{tb:Tr Blk}(W:WFn P g gl gp gj gh gr)(hd:qd P gd qS=true)(hj:qd P g qI=true)(h:WI g w κ s tr RV [])(hK:RV.length=K)(hb:RV.length<=1000)(st:Stp [bK,bA] κb sb tb κ s tr)(hdm:∀b,κb b≠.no->b<sb)(hno:∀b F,κb b≠.lab F false)
  (kK:κ bK = .lab K false) (kA:κ bA = .lab (K+1) false) (nK:κb bK = .no) (nA:κb bA = .no) {t:Tr AV} (ht:Has t [(4,.ptr w 0),(5,.ptr bK 0),(6,.ptr bA 0)]) :
  S P n0 (qas g1 g2 gl g4 g5 g6 gj gh gr gd) (qcm [.tmp 2,.tmp 3] fun v' h'=>Frz h' v' (.tup [.fz (gdF RV).length (rSy (gdF RV)),.i .i64 0])) t ⟨s,0,tr⟩:=by
 refine S.has _ ht (qp ?_);subst hK;unfold gdF;have hne:bA≠bK:=fun e=>by rw[e,kK] at kA;have:=(Kd.lab.inj kA).1;omega
 simp only[qas,vI,simprocAttr];simp +decide only[↓vS,vT,simprocAttr];refine qho W.here h kK fun t1 q1 q2 w1=>?_
 simp +decide only[↓vS,vT,simprocAttr];have st1:Stp [bA] κb sb tb (kdS κ bK (.lab RV.length true)) s t1:=st.kd' nK q1 q2 fun c hc=>by simpa using hc
 refine qto W.ret W.put w1 2147483648 (by omega) fun κ2 s2 t2 st2 w2=>?_
 simp +decide only[↓vS,vT,simprocAttr];have st12:=st1.trans st2
 have kA2:κ2 bA = .lab (RV++[(⟨6,2147483648,0,0⟩:Sy)]).length false:=by
  rw[List.length_append];exact st2.lab _ _ _ (by rw[qw hne];exact kA)
 refine qho W.here w2 kA2 fun t3 q3 q4 w3=>?_
 simp +decide only[↓vS,vT,simprocAttr];have st3:Stp [] κb sb tb (kdS κ2 bA (.lab (RV++[(⟨6,2147483648,0,0⟩:Sy)]).length true)) s2 t3:=st12.kd' nA q3 q4 fun c hc=>by simpa using hc
 refine qto W.ret W.put w3 2147418112 (by simp;omega) fun κ4 s4 t4 st4 w4=>?_
 simp +decide only[↓vS,vT,simprocAttr];have st34:=st3.trans st4;refine quj hd hj w4 (fun b F p hb=>?_) (by simp;omega) fun t5 b hb hbs=>?_
 ·cases p with
  | true=>rfl
  | false => rcases st34.nw b F hb with q|q
             ·exact absurd q (hno b F)
             ·cases q
 simp +decide only[↓vS,vT,simprocAttr];simp[vZ,vP,hb];exact Frzs.self (qfY fun _=>rfl)
theorem qoV{n0 sb bK bA:Nat}{κb:Nat->Kd}{tb:Tr Blk}{m:Nat->Bool}{b:Bool}(W:WFn P g gl gp gj gh gr)(hd:qd P gd qS=true)(hj:qd P g qI=true)(c6:qn8 P g6)(h:WI g w κ s tr (gdE m b (gdK m b+1) 6) [])(st:Stp [bK,bA] κb sb tb κ s tr)(hdm:∀b,κb b≠.no->b<sb)(hno:∀b F,κb b≠.lab F false)
  (kK:κ bK = .lab (gdK m b) false) (kA:κ bA = .lab (gdK m b+1) false) (nK:κb bK = .no) (nA:κb bA = .no) {t:Tr AV} (ht:Has t [(4,.ptr w 0),(5,.ptr bK 0),(6,.ptr bA 0),(8,.i .i64 (gdL m b 6))]) :
  S P n0 (qbz g1 g2 gl g4 g5 g6 gj gh gr gd) (qcm [.tmp 2,.tmp 3] fun v' h'=>Frz h' v' (.tup [.fz (gdF (gdY m b)).length (rSy (gdF (gdY m b))),.i .i64 0])) t ⟨s,0,tr⟩:=by
 have hlen:=qkW (m:=m) (b:=b) (A:=gdK m b+1) (i:=6);have hl0:=qiN (m:=m) (b:=b) (A:=gdK m b+1) (i:=6);have hr:=qlE (m:=m) (b:=b) (i:=6);have hY:=qrq (m:=m) (b:=b);refine S.has _ ht (qp ?_);simp only[qbz,vI,simprocAttr]
 by_cases hn:0<=gdL m b 6
 ·have eY:gdY m b=gdE m b (gdK m b+1) 6++gdZ (gdL m b 6) (gdE m b (gdK m b+1) 6).length (gdK m b) (gdK m b+1):=by unfold gdY;rw[if_pos hn,hl0]
  generalize gdL m b 6=la at *;generalize gdE m b (gdK m b+1) 6=RV at *;simp +decide only[↓vS,vT,simprocAttr,hn];have w1:=h.new (.lab (RV.length+1) false) _ (.inr (.inr (.inr ⟨_,rfl,rfl⟩)));have st1:=h.stpLab (.lab (RV.length+1) false) (.cells 0 true false [.i .i64 0]);have hon:=xa (κ:=κ) (b:=s) (x:=.lab (RV.length+1) false);refine (c6 la hn (by omega)).sc ?_;simp +decide only[↓vS,vT,simprocAttr];have hK1:=st1.lab _ _ _ kK;have hA1:=st1.lab _ _ _ kA;refine qiQ W.jmp W.put w1 ⟨21,qgf la,RV.length+1,gdK m b⟩ hon (.inr ⟨(by decide:(21:Int)≠5),bK,false,rfl,hK1⟩) (by omega) fun κ2 s2 t2 st2 w2=>?_
  simp +decide only[↓vS,vT,simprocAttr];have hon2:=st2.lab _ _ _ hon;have le1:=st.le;have st12:=(st.trans st1).trans st2
  have ns:κb s = .no:=by
   cases hk:κb s with
   | no=>rfl
   | _=>have:=hdm s (by rw[hk];simp);omega
  refine qho W.here w2 (p:=false) (b:=s) (by rw[hon2];simp) fun t3 q1 q2 w3=>?_
  simp +decide only[↓vS,vT,simprocAttr];have st3:Stp [bK,bA] κb sb tb (kdS κ2 s (.lab (RV++[(⟨21,qgf la,RV.length+1,gdK m b⟩:Sy)]).length true)) s2 t3:=st12.kd' ns q1 q2 fun c hc=>by simp at hc;rcases hc with hc|hc|hc<;>simp[hc]
  have hsK:bK≠s:=fun e=>by rw[e] at kK;rw[h.fresh] at kK;cases kK
  have hsA:bA≠s:=fun e=>by rw[e] at kA;rw[h.fresh] at kA;cases kA
  refine qpl W.ld W.put w3 0 (by simp;omega) fun κ4 s4 t4 st4 w4=>?_
  simp +decide only[↓vS,vT,simprocAttr];have hK4:=st4.lab _ _ _ ((qw (κ:=κ2) (x:=.lab (RV++[(⟨21,qgf la,RV.length+1,gdK m b⟩:Sy)]).length true) hsK).trans (st2.lab _ _ _ hK1));have hA4:=st4.lab _ _ _ ((qw (κ:=κ2) (x:=.lab (RV++[(⟨21,qgf la,RV.length+1,gdK m b⟩:Sy)]).length true) hsA).trans (st2.lab _ _ _ hA1));have st34:=st3.trans st4
  have fin:∀κ5 s5 t5 y,Stp [] κ4 s4 t4 κ5 s5 t5->WI g w κ5 s5 t5 (RV++[⟨21,qgf la,RV.length+1,gdK m b⟩]++[⟨32,0,0,0⟩]++[y]) []->y=(if la=2 then ⟨69,1073741824,gdK m b+1,gdK m b⟩ else ⟨69,1073741824,gdK m b,gdK m b+1⟩)->∀t,Has t [(4,.ptr w 0),(5,.ptr bK 0),(6,.ptr bA 0)]->
    S P n0 (qas g1 g2 gl g4 g5 g6 gj gh gr gd) (qcm [.tmp 2,.tmp 3] fun v' h'=>Frz h' v' (.tup [.fz (gdF (gdY m b)).length (rSy (gdF (gdY m b))),.i .i64 0])) t ⟨s5,0,t5⟩:=fun κ5 s5 t5 y st5 w5 hy t ht=>by
   have e:RV++[⟨21,qgf la,RV.length+1,gdK m b⟩]++[⟨32,0,0,0⟩]++[y]=gdY m b:=by rw[eY,hy];simp[gdZ]
   rw[e] at w5;exact qjX W hd hj w5 hY (by rw[← e];simp;omega) (st34.trans st5) hdm hno (st5.lab _ _ _ hK4) (st5.lab _ _ _ hA4) nK nA ht
  by_cases h2:la=2
  ·simp +decide only[↓vS,vT,simprocAttr,h2];subst h2;refine qiQ W.jmp W.put w4 ⟨69,1073741824,gdK m b+1,gdK m b⟩ hA4 (.inr ⟨(by decide:(69:Int)≠5),bK,false,rfl,hK4⟩) (by simp;omega) fun κ5 s5 t5 st5 w5=>?_
   simp +decide only[↓vS,vT,simprocAttr];exact fin _ _ _ _ st5 w5 (by simp) _ (by simp[ql,qr,Tr.get_set])
  ·simp +decide only[↓vS,vT,simprocAttr,h2];refine qiQ W.jmp W.put w4 ⟨69,1073741824,gdK m b,gdK m b+1⟩ hK4 (.inr ⟨(by decide:(69:Int)≠5),bA,false,rfl,hA4⟩) (by simp;omega) fun κ5 s5 t5 st5 w5=>?_
   simp +decide only[↓vS,vT,simprocAttr];exact fin _ _ _ _ st5 w5 (by simp[h2]) _ (by simp[ql,qr,Tr.get_set])
 ·have eY:gdY m b=gdE m b (gdK m b+1) 6:=by unfold gdY;rw[if_neg hn,List.append_nil]
  simp +decide only[↓vS,vT,simprocAttr,hn];rw[← eY] at h hlen;exact qjX W hd hj h hY (by omega) st hdm hno kK kA nK nA (by simp[ql,qr,Tr.get_set])
theorem qoU{n0 sb bK bA:Nat}{κb:Nat->Kd}{tb:Tr Blk}(l:List Int)(bb:Bool)(W:WFn P g gl gp gj gh gr)(hd:qd P gd qS=true)(hj:qd P g qI=true)(c6:qn8 P g6)(c4:∀x,qg P g4 [.fz l.length (rI .i64 l),.i .i64 x] (.b (decide (x ∈ l))))(c5:qg P g5 [] (.fz 6 (rI .i64 [0,1,2,3,4,5])))
  (h:WI g w κ s tr [⟨32,4,0,0⟩] []) (st:Stp [bK,bA] κb sb tb κ s tr) (hdm:∀b,κb b≠.no->b<sb) (hno:∀b F,κb b≠.lab F false)
  (kK:κ bK = .lab (gdK (gdT l) bb) false) (kA:κ bA = .lab (gdK (gdT l) bb+1) false) (nK:κb bK = .no) (nA:κb bA = .no) {t:Tr AV} (ht:Has t [(0,.fz l.length (rI .i64 l)),(4,.ptr w 0),(5,.ptr bK 0),(6,.ptr bA 0),(7,.b bb),(8,.i .i64 (-1))]) :
  S P n0 (qby g1 g2 gl g4 g5 g6 gj gh gr gd) (qcm [.tmp 2,.tmp 3] fun v' h'=>Frz h' v' (.tup [.fz (gdF (gdY (gdT l) bb)).length (rSy (gdF (gdY (gdT l) bb))),.i .i64 0])) t ⟨s,0,tr⟩:=by
 refine S.has _ ht (qp ?_);simp only[qby,vI,simprocAttr];simp +decide only[↓vS,vT,simprocAttr];refine c5.sc ?_;simp +decide only[↓vS,vT,simprocAttr]
 refine SL.loopP (α:=Nat) (fun i=>[(0,.fz l.length (rI .i64 l)),(4,.ptr w 0),(5,.ptr bK 0),(6,.ptr bA 0),(7,.b bb),(8,.i .i64 (gdL (gdT l) bb i)),(38,.fz 6 (rI .i64 [0,1,2,3,4,5])),(39,.i .i64 6),(40,.i .i64 (i:Int))])
  (fun i h=>i<=6∧∃κ' s' tr',h=⟨s',0,tr'⟩∧Stp [bK,bA] κb sb tb κ' s' tr'∧WI g w κ' s' tr' (gdE (gdT l) bb (gdK (gdT l) bb+1) i) []∧κ' bK = .lab (gdK (gdT l) bb) false∧κ' bA = .lab (gdK (gdT l) bb+1) false) (fun i=>6-i) ?_ 0 ?_ ?_
 ·rintro i h1 ⟨hi,κ',s',tr',rfl,st',w',kK',kA'⟩ G ih;simp only[vI,simprocAttr]
  by_cases hlt:i<6
  ·have hlt':(i:Int)<6:=by omega
   have hx:(rI .i64 [0,1,2,3,4,5])[i]?=some (.i .i64 (i:Int)):=by
    match i,hlt with
    | 0,_=>rfl
    | 1,_=>rfl
    | 2,_=>rfl
    | 3,_=>rfl
    | 4,_=>rfl
    | 5,_=>rfl
   have hw1:IntKind.wrap .i64 ((i:Int)+1)=((i+1:Nat):Int):=by rw[qv (by omega) (by omega)];simp
   have hle:=qkW (m:=gdT l) (b:=bb) (A:=gdK (gdT l) bb+1) (i:=i);have ci:qg P g4 [.fz l.length (rI .i64 l),.i .i64 (i:Int)] (.b (gdT l i)):=c4 i;have le1:=st'.le;simp +decide only[↓vS,vT,simprocAttr,hlt',hlt,hx,Nat.mul_one];refine ci.sc ?_;cases hm:gdT l i with
   | false =>
    simp +decide only[↓vS,vT,simprocAttr,hw1];refine ih (i+1) _ _ (by omega) ?_ ⟨by omega,κ',s',tr',rfl,st',?_,kK',kA'⟩
    ·simp[ql,qr,Tr.get_set,gdL,hm]
    ·simpa[gdE,hm] using w'
   | true =>
    simp +decide only[↓vS,vT,simprocAttr];refine (c6 i (by omega) hlt').sc ?_;simp +decide only[↓vS,vT,simprocAttr]
    have skip:qfS bb i=false->∀t',Has t' [(0,.fz l.length (rI .i64 l)),(4,.ptr w 0),(5,.ptr bK 0),(6,.ptr bA 0),(7,.b bb),(8,.i .i64 (gdL (gdT l) bb (i+1))),(38,.fz 6 (rI .i64 [0,1,2,3,4,5])),(39,.i .i64 6),(40,.i .i64 ((i+1:Nat):Int))]->G t' ⟨s'+1,0,tr'.set s' (.cells 0 true false [.i .i64 0])⟩:=fun hs t' ht'=>by
     have w1:=w'.new .no (.cells 0 true false [.i .i64 0]) (.inl rfl);have st1:=st'.trans (w'.stpNew .no (.cells 0 true false [.i .i64 0]) (by simp));refine ih (i+1) _ _ (by omega) ht' ⟨by omega,_,_,_,rfl,st1,?_,(w'.stpNew .no (.cells 0 true false [.i .i64 0]) (by simp)).lab _ _ _ kK',(w'.stpNew .no (.cells 0 true false [.i .i64 0]) (by simp)).lab _ _ _ kA'⟩
     simpa[gdE,hs] using w1
    have go:qfS bb i=true->∀Q:AV->Hp->Prop,(∀κ2 s2 t2,Stp [] (kdS κ' s' (.lab ((gdE (gdT l) bb (gdK (gdT l) bb+1) i).length+1) false)) (s'+1) (tr'.set s' (.cells 0 true false [.i .i64 0])) κ2 s2 t2->WI g w κ2 s2 t2 (gdE (gdT l) bb (gdK (gdT l) bb+1) (i+1)) []->Q (.tup []) ⟨s2,0,t2⟩)->SC P gj [.ptr w 0,.i .u16 21,.i .u32 (qgf (i:Int)),.ptr bA 0,.ptr s' 0] ⟨s'+1,0,tr'.set s' (.cells 0 true false [.i .i64 0])⟩ Q:=fun hs Q hQ=>by
     have w1:=w'.new (.lab ((gdE (gdT l) bb (gdK (gdT l) bb+1) i).length+1) false) _ (.inr (.inr (.inr ⟨_,rfl,rfl⟩)));have st1:=w'.stpLab (.lab ((gdE (gdT l) bb (gdK (gdT l) bb+1) i).length+1) false) (.cells 0 true false [.i .i64 0]);refine qiQ W.jmp W.put w1 ⟨21,qgf (i:Int),gdK (gdT l) bb+1,(gdE (gdT l) bb (gdK (gdT l) bb+1) i).length+1⟩ (st1.lab _ _ _ kA') (.inr ⟨(by decide:(21:Int)≠5),s',false,rfl,xa⟩) (by omega) fun κ2 s2 t2 st2 w2=>hQ κ2 s2 t2 st2 ?_
     simpa[gdE,hs,hm] using w2
    have ns:κb s' = .no:=by
     cases hk:κb s' with
     | no=>rfl
     | _=>have:=hdm s' (by rw[hk];simp);omega
    have nK':bK≠s':=fun e=>by rw[e] at kK';rw[w'.fresh] at kK';cases kK'
    have nA':bA≠s':=fun e=>by rw[e] at kA';rw[w'.fresh] at kA';cases kA'
    by_cases i0:i=0
    ·have j0:((i:Int)=0)=True:=eq_true (by omega);cases bb with
     | false =>
      simp +decide only[↓vS,vT,simprocAttr,j0,hw1];have hs:qfS false i=false:=by simp[qfS,i0]
      refine skip hs _ ?_;simp[ql,qr,Tr.get_set,gdL,hm,hs]
     | true =>
      have hs:qfS true i=true:=by simp[qfS,i0]
      simp +decide only[↓vS,vT,simprocAttr,j0];refine go hs _ fun κ2 s2 t2 st2 w2=>?_
      simp +decide only[↓vS,vT,simprocAttr];refine qho W.here w2 (p:=false) (b:=s') (by rw[st2.lab _ _ _ xa];simp[gdE,hs,hm]) fun t3 q1 q2 w3=>?_
      simp +decide only[↓vS,vT,simprocAttr,hw1];refine ih (i+1) _ _ (by omega) ?_ ⟨by omega,_,_,_,rfl,((st'.trans (w'.stpLab (.lab ((gdE (gdT l) true (gdK (gdT l) true+1) i).length+1) false) (.cells 0 true false [.i .i64 0]))).trans st2).kd' ns q1 q2 (fun c hc=>by simp at hc;rcases hc with hc|hc|hc<;>simp[hc]),w3,?_,?_⟩
      ·simp[ql,qr,Tr.get_set,gdL,hm,hs]
      ·rw[qw nK'];exact st2.lab _ _ _ (((qw nK').trans kK'))
      ·rw[qw nA'];exact st2.lab _ _ _ (((qw nA').trans kA'))
    ·have j0:((i:Int)=0)=False:=eq_false (by omega)
     by_cases i2:i=2
     ·have j2:((i:Int)=2)=True:=eq_true (by omega);cases bb with
      | false =>
       simp +decide only[↓vS,vT,simprocAttr,j0,j2,hw1];have hs:qfS false i=false:=by simp[qfS,i2]
       refine skip hs _ ?_;simp[ql,qr,Tr.get_set,gdL,hm,hs]
      | true =>
       simp +decide only[↓vS,vT,simprocAttr,j0,j2,hw1];have hs:qfS true i=false:=by simp[qfS,i2]
       refine skip hs _ ?_;simp[ql,qr,Tr.get_set,gdL,hm,hs]
     ·have j2:((i:Int)=2)=False:=eq_false (by omega);have hs:qfS bb i=true:=by simp[qfS,i0,i2]
      simp +decide only[↓vS,vT,simprocAttr,j0,j2];refine go hs _ fun κ2 s2 t2 st2 w2=>?_
      simp +decide only[↓vS,vT,simprocAttr];refine qho W.here w2 (p:=false) (b:=s') (by rw[st2.lab _ _ _ xa];simp[gdE,hs,hm]) fun t3 q1 q2 w3=>?_
      simp +decide only[↓vS,vT,simprocAttr,hw1];refine ih (i+1) _ _ (by omega) ?_ ⟨by omega,_,_,_,rfl,((st'.trans (w'.stpLab (.lab ((gdE (gdT l) bb (gdK (gdT l) bb+1) i).length+1) false) (.cells 0 true false [.i .i64 0]))).trans st2).kd' ns q1 q2 (fun c hc=>by simp at hc;rcases hc with hc|hc|hc<;>simp[hc]),w3,?_,?_⟩
      ·simp[ql,qr,Tr.get_set,gdL,hm,hs]
      ·rw[qw nK'];exact st2.lab _ _ _ (((qw nK').trans kK'))
      ·rw[qw nA'];exact st2.lab _ _ _ (((qw nA').trans kA'))
  ·obtain rfl:i=6:=by omega
   simp +decide only[↓vS,vT,simprocAttr];exact qoV W hd hj c6 w' st' hdm hno kK' kA' nK nA (by simp[ql,qr,Tr.get_set])
 ·simp[ql,qr,Tr.get_set,gdL]
 ·exact⟨Nat.zero_le _,κ,s,tr,rfl,st,h,kK,kA⟩
theorem qoT{n0 sb bK bA:Nat}{κb:Nat->Kd}{tb:Tr Blk}(l:List Int)(W:WFn P g gl gp gj gh gr)(hd:qd P gd qS=true)(hj:qd P g qI=true)(c6:qn8 P g6)(c4:∀x,qg P g4 [.fz l.length (rI .i64 l),.i .i64 x] (.b (decide (x ∈ l))))(c5:qg P g5 [] (.fz 6 (rI .i64 [0,1,2,3,4,5])))
  (h:WI g w κ s tr [] []) (st:Stp [bK,bA] κb sb tb κ s tr) (hdm:∀b,κb b≠.no->b<sb) (hno:∀b F,κb b≠.lab F false)
  (kK:κ bK = .lab (gdK (gdT l) (gdT l 0&&gdT l 2)) false) (kA:κ bA = .lab (gdK (gdT l) (gdT l 0&&gdT l 2)+1) false) (nK:κb bK = .no) (nA:κb bA = .no) {t:Tr AV} (ht:Has t [(0,.fz l.length (rI .i64 l)),(4,.ptr w 0),(5,.ptr bK 0),(6,.ptr bA 0)]) :
  S P n0 (qbx g1 g2 gl g4 g5 g6 gj gh gr gd) (qcm [.tmp 2,.tmp 3] fun v' h'=>Frz h' v' (.tup [.fz (gdR (gdT l)).length (rSy (gdR (gdT l))),.i .i64 0])) t ⟨s,0,tr⟩:=by
 refine S.has _ ht (qp ?_);have b0:qg P g4 [.fz l.length (rI .i64 l),.i .i64 0] (.b (gdT l 0)):=c4 0;have b2:qg P g4 [.fz l.length (rI .i64 l),.i .i64 2] (.b (gdT l 2)):=c4 2;simp only[qbx,vI,simprocAttr];simp +decide only[↓vS,vT,simprocAttr];refine qpl W.ld W.put h 4 (by simp) fun κ1 s1 t1 st1 w1=>?_
 rw[List.nil_append] at w1;have kK1:=st1.lab _ _ _ kK;have kA1:=st1.lab _ _ _ kA;have fin:=fun bb (e:(gdT l 0&&gdT l 2)=bb) t ht=>qoU (n0:=n0) (g1:=g1) (g2:=g2) (t:=t) l bb W hd hj c6 c4 c5 w1 (st.trans st1) hdm hno (by rw[← e];exact kK1) (by rw[← e];exact kA1) nK nA ht
 unfold gdR;simp +decide only[↓vS,vT,simprocAttr];refine b0.sc ?_;cases e0:gdT l 0 with
 | false =>
  simp +decide only[↓vS,vT,simprocAttr];rw[e0] at fin;refine fin _ rfl _ ?_;simp[ql,qr,Tr.get_set]
 | true =>
  simp +decide only[↓vS,vT,simprocAttr];refine b2.sc ?_;cases e2:gdT l 2 with
  | false =>
   simp +decide only[↓vS,vT,simprocAttr];rw[e0,e2] at fin;refine fin _ rfl _ ?_;simp[ql,qr,Tr.get_set]
  | true =>
   simp +decide only[↓vS,vT,simprocAttr];rw[e0,e2] at fin;refine fin _ rfl _ ?_;simp[ql,qr,Tr.get_set]
def qgE(l:List Int):Bool:=decide (l=[])||l.any fun a=>decide (a<0)||decide (6<=a)
def gdA(l:List Int):List Sy×Int:=if qgE l=true then ([],2) else (gdR (gdT l),0)
theorem qoS{n0:Nat}(l:List Int)(W:WFn P g gl gp gj gh gr)(hd:qd P gd qS=true)(hj:qd P g qI=true)(c6:qn8 P g6)(c4:∀x,qg P g4 [.fz l.length (rI .i64 l),.i .i64 x] (.b (decide (x ∈ l))))(c5:qg P g5 [] (.fz 6 (rI .i64 [0,1,2,3,4,5])))(hn:n0=0)
  {t':Tr AV} {h':Hp} (hw:Wk 0 t' h' (mkT [(0,.fz l.length (rI .i64 l))]) (mkH 0 [])) :
  S P n0 (qbw g1 g2 gl g4 g5 g6 gj gh gr gd) (qcm [.tmp 2,.tmp 3] fun v' h'=>Frz h' v' (.tup [.fz (gdR (gdT l)).length (rSy (gdR (gdT l))),.i .i64 0])) t' h':=by
 subst hn;refine S.weak hw (qp ?_);simp only[qbw,vI,simprocAttr];simp +decide only[↓vS,vT,simprocAttr];refine S.weak (Wk.mk [(0,.fz l.length (rI .i64 l)),(4,.ptr 0 0),(5,.ptr 1 0),(6,.ptr 2 0)] [.cells 0 true false [.own 3 0,.own 4 0],.cells 0 true false [.i .i64 0],.cells 0 true false [.i .i64 0],.cells 4 true true [],.cells 1 true true []] [0,1,2,99,99] ?_ ?_ ?_ rfl) ?_
 ·simp[vw,zf]
 ·simp[vw]
 ·simp
 simp only[vI,simprocAttr];generalize hKp:gdK (gdT l) (gdT l 0&&gdT l 2)=Kp
 have hW:∀k1 k2:Kd,(k1 = .no∨k1 = .lab Kp false)->(k2 = .no∨k2 = .lab (Kp+1) false)->WI g 0 (fun b=>if b=0 then .w else if b=1 then k1 else if b=2 then k2 else if b=3 then .l else if b=4 then .t else .no) 5 (((((Tr.leaf.set 0 (.cells 0 true false [.own 3 0,.own 4 0])).set 1 (.cells 0 true false [.i .i64 0])).set 2 (.cells 0 true false [.i .i64 0])).set 3 (.cells 4 true true [])).set 4 (.cells 1 true true [])) [] []:=fun k1 k2 h1 h2=>by
  refine⟨fun b hb=>?_,⟨3,4,[],[],rfl,rfl,rfl,?_,?_,?_,trivial,by simp,fun j y hy=>by simp at hy⟩,fun b F p hb=>?_⟩
  ·by_cases e:b<5
   ·exact e
   ·rw[if_neg (by omega),if_neg (by omega),if_neg (by omega),if_neg (by omega),if_neg (by omega)] at hb;exact absurd rfl hb
  ·simp[Tr.get_set]
  ·simp[Tr.get_set,rSy]
  ·simp[Tr.get_set]
  ·split at hb
   ·cases hb
   split at hb
   ·rename_i e;subst e;rcases h1 with rfl|rfl
    ·cases hb
    ·cases hb;exact⟨0,by simp[Tr.get_set],by simp⟩
   split at hb
   ·rename_i e;subst e;rcases h2 with rfl|rfl
    ·cases hb
    ·cases hb;exact⟨0,by simp[Tr.get_set],by simp⟩
   split at hb
   ·cases hb
   split at hb<;>cases hb
 refine qoT (bK:=1) (bA:=2) (κb:=fun b=>if b=0 then .w else if b=1 then .no else if b=2 then .no else if b=3 then .l else if b=4 then .t else .no) (sb:=5) (tb:=(((((Tr.leaf.set 0 (.cells 0 true false [.own 3 0,.own 4 0])).set 1 (.cells 0 true false [.i .i64 0])).set 2 (.cells 0 true false [.i .i64 0])).set 3 (.cells 4 true true [])).set 4 (.cells 1 true true [])))
  l W hd hj c6 c4 c5 (hW (.lab Kp false) (.lab (Kp+1) false) (.inr rfl) (.inr rfl)) ⟨Nat.le_refl _,fun b hb=>⟨?_,rfl⟩,fun b hb=>⟨?_,rfl⟩,fun b F p hb=>?_,fun b F hb=>?_⟩ (hW .no .no (.inl rfl) (.inl rfl)).dom ?_ (by rw[hKp];rfl) (by rw[hKp];rfl) rfl rfl ?_
 all_goals first|(simp[ql,qr,Tr.get_set];done)|skip
 ·by_cases e:b=1
  ·subst e;simp at hb
  by_cases e2:b=2
  ·subst e2;simp at hb
  ·rw[if_neg e,if_neg e2] at hb ⊢;exact hb
 ·by_cases e:b=1
  ·subst e;simp at hb
  by_cases e2:b=2
  ·subst e2;simp at hb
  ·rw[if_neg e,if_neg e2] at hb ⊢;exact hb
 ·by_cases e:b=1
  ·subst e;simp at hb
  by_cases e2:b=2
  ·subst e2;simp at hb
  ·rw[if_neg e,if_neg e2] at hb ⊢;exact hb
 ·by_cases e:b=1
  ·exact .inr (by simp[e])
  by_cases e2:b=2
  ·exact .inr (by simp[e2])
  ·rw[if_neg e,if_neg e2] at hb ⊢;exact .inl hb
 ·intro b F hb
  repeat' split at hb
  all_goals cases hb
end
section
variable {g gl gp gj gh gr gd g1 g2 g4 g5 g6:Nat}
def qdL:IFn:=⟨[.tmp 2],.seq (.r [.m 2 .F]) (.seq (.r [.n 3 0,.w 4 .lss 3 0,.n 5 4,.z 6 0 5,.g 7 (.bin .geq (.t 6) (.k 6)) 5 false,.o 8 5 7,.n 2 8]) (.ret))⟩
theorem qyG(hc:qd P f qdL=true)(a:Int):qg P f [.i .i64 a] (.b (decide (a<0)||decide (6<=a))):=by
 refine qg.mk hc rfl ?_;simp only[qdL,vI,simprocAttr]
 by_cases h:a<0
 ·simp +decide only[↓vS,vT,simprocAttr,h];simp[vZ]
 ·simp +decide only[↓vS,vT,simprocAttr,h];simp[vZ]
def xB(a:Nat):IFn:=⟨[.tmp 4],.seq (.r [.m 4 .F]) (.seq (.r [.n 5 0,.n 6 1,.l 7 a [.t 5,.t 6],.w 8 .geq 7 0,.n 4 8]) (.ret))⟩
theorem qqn{g:Nat}(hc:qd P f (xB g)=true)(h:qn7 P g)(l:List Int)(k:Nat)(p:Int->Bool)(hk:∀c,qg P k [.i .i64 c] (.b (p c)))(hl:l.length<=qe):qg P f [.fz l.length (rI .i64 l),.fn k [] []] (.b (l.any p)):=by
 refine qg.mk hc (by simp[qF,clo,zf]) ?_;simp only[xB,vI,simprocAttr];simp only[↓vS,vT,simprocAttr];refine (h (fun x:Int=>.i .i64 x) p k [] [] l rfl rfl hl fun x _=>hk x).sc ?_
 simp only[↓vS,vT,simprocAttr];simp[vZ,← qj1 p l 0]
theorem qww(hc:qd P f (qeP g1 g2 gl g4 g5 g6 gj gh gr gd)=true)(W:WFn P g gl gp gj gh gr)(hd:qd P gd qS=true)(hj:qd P g qI=true)(c6:qn8 P g6)(c1:∀l:List Int,l.length<=qe->qg P g1 [.fz l.length (rI .i64 l),.fn g2 [] []] (.b (l.any fun a=>decide (a<0)||decide (6<=a))))
  (c4:∀(l:List Int) (x:Int),l.length<=qe->qg P g4 [.fz l.length (rI .i64 l),.i .i64 x] (.b (decide (x ∈ l)))) (c5:qg P g5 [] (.fz 6 (rI .i64 [0,1,2,3,4,5]))) (l:List Int) (hl:l.length<=qe) :
  qg P f [.fz l.length (rI .i64 l)] (.tup [.fz (gdA l).1.length (rSy (gdA l).1),.i .i64 (gdA l).2]):=by
 refine qg.mk hc (by simp[qF,clo,zf]) ?_;have e1:=c1 l hl;simp only[qeP,vI,simprocAttr];unfold gdA qgE
 by_cases h:l.length=0
 ·have h':((l.length:Int)=0)=True:=eq_true (by omega);have hn:l=[]:=List.eq_nil_of_length_eq_zero h;rw[hn];simp +decide only[↓vS,vT,simprocAttr];simp[vZ,rSy]
 ·have h':((l.length:Int)=0)=False:=eq_false (by omega);have hn:decide (l=[])=false:=decide_eq_false fun hh=>h (by rw[hh];rfl)
  rw[hn,Bool.false_or];simp +decide only[↓vS,vT,simprocAttr,h'];refine e1.sc ?_;cases hb:l.any fun a=>decide (a<0)||decide (6<=a) with
  | true =>
   simp +decide only[↓vS,vT,simprocAttr];simp[vZ,rSy]
  | false =>
   simp +decide only[↓vS,vT,simprocAttr];refine qoS l W hd hj c6 (fun x=>c4 l x hl) c5 rfl (Wk.mk _ _ [] ?_ ?_ ?_ rfl)
   ·simp[vw,zf]
   ·trivial
   ·simp
end
end Go.Kc
end
section
namespace Go.Kc
def qfU:List Int:=[3221225534,1073741827,1073741864,3221225655,3221225715]
def evG(R:List Sy)(c:Int)(z:Bool):Nat->Nat->Nat->Option Int
 | 0,_,_=>none
 | n+1,p,w=>match R[p]? with
  | none=>none
  | some s=>if s.code=32 then (if s.k=4 then evG R c z n (p+1) 1 else if s.k=0 then evG R c z n (p+1) 2 else none)
   else if s.code=6 then some s.k
   else if s.code=21 then (if w=1∧qfU.contains s.k=true then evG R c z n (if c=s.k then s.th else s.el) w else none)
   else if s.code=69 then (if w=2∧s.k=1073741824 then evG R c z n (if z=true then s.th else s.el) w else none)
   else none
theorem qfZ{R:List Sy}{d:GData}{c:Int}{z:Bool}(hc:∀K ∈ qfU,(d.arch=K↔c=K))(hz:z=decide (0<qdp .u32 d.nr 1073741824)):∀(n p w:Nat) (a r:Int),(w=1->a=d.arch)->(w=2->a=d.nr)->evG R c z n p w=some r->Ev R d p a r
 | 0,p,w,a,r,_,_,h=>by simp[evG] at h
 | n+1,p,w,a,r,h1,h2,h=>by
  unfold evG at h;cases hs:R[p]? with
  | none=>rw[hs] at h;cases h
  | some s =>
   rw[hs] at h;simp only at h;split at h
   ·rename_i e;split at h
    ·rename_i e4;exact .ld p a r s hs e (qfZ hc hz n _ 1 _ r (fun _=>by rw[e4];rfl) (fun q=>by cases q) h)
    split at h
    ·rename_i e0;exact .ld p a r s hs e (qfZ hc hz n _ 2 _ r (fun q=>by cases q) (fun _=>by rw[e0];rfl) h)
    ·cases h
   split at h
   ·rename_i e;cases h;exact .rt p a s hs e
   split at h
   ·rename_i e;split at h
    ·rename_i hw
     have ek:qbN s.code a s.k=decide (c=s.k):=by
      rw[e,h1 hw.1];unfold qbN;rw[if_pos rfl];exact decide_eq_decide.2 (hc s.k (by simpa using hw.2))
     refine .jc p a r s hs (.inl e) ?_;rw[ek];simp only[decide_eq_true_eq];exact qfZ hc hz n _ w a r h1 h2 h
    ·cases h
   split at h
   ·rename_i e;split at h
    ·rename_i hw
     have ek:qbN s.code a s.k=z:=by
      rw[e,h2 hw.1,hw.2,hz];rfl
     refine .jc p a r s hs (.inr (.inr (.inr e))) ?_;rw[ek];exact qfZ hc hz n _ w a r h1 h2 h
    ·cases h
   ·cases h
instance {s:Sy} {j n:Nat}:Decidable (qde s j n):=by unfold qde qcz;infer_instance
def quV(R:List Sy):Bool:=decide (0<R.length)&&decide (R.length<=10)&&decide ((R.getD (R.length-1) ⟨0,0,0,0⟩).code=6)&&(List.range R.length).all (fun j=>decide (qde (R.getD j ⟨0,0,0,0⟩) j R.length))&&R.all fun x=>decide (0<=x.k∧x.k<=4294967295)
def qk6(c:Int)(z:Bool):Option Nat:=if c=3221225534 then some (if z=true then 2 else 0) else if c=1073741827 then some 1 else if c=1073741864 then some 3 else if c=3221225655 then some 4 else if c=3221225715 then some 5 else none
def qfP(m:Nat->Bool)(o:Option Nat):Int:=match o with
 | some a=>if m a=true then 2147418112 else 2147483648
 | none=>2147483648
def okG(m:Nat->Bool):Bool:=quV (gdR m)&&((-1)::qfU).all fun c=>[false,true].all fun z=>decide (evG (gdR m) c z 16 0 0=some (qfP m (qk6 c z)))
def mkG(m0 m1 m2 m3 m4 m5:Bool)(i:Nat):Bool:=match i with|0=>m0|1=>m1|2=>m2|3=>m3|4=>m4|_=>m5
def qxq:Bool:=[false,true].all fun m0=>[false,true].all fun m1=>[false,true].all fun m2=>[false,true].all fun m3=>[false,true].all fun m4=>[false,true].all fun m5=>!(m0||m1||m2||m3||m4||m5)||okG (mkG m0 m1 m2 m3 m4 m5)
theorem qqr:qxq=true:=by kernel_rfl
section
variable {m m':Nat->Bool}
theorem qid{b:Bool}{A:Nat}:∀{i:Nat},(∀j,j<i->m j=m' j)->gdE m b A i=gdE m' b A i∧gdL m b i=gdL m' b i
 | 0,_=>⟨rfl,rfl⟩
 | i+1,h=>by
  have h1:=qid (b:=b) (A:=A) (i:=i) fun j hj=>h j (by omega)
  have h2:=h i (by omega);unfold gdE gdL;rw[h1.1,h1.2,h2];exact⟨rfl,rfl⟩
theorem qmO(h:∀j,j<6->m j=m' j):gdR m=gdR m':=by
 have hb:(m 0&&m 2)=(m' 0&&m' 2):=by rw[h 0 (by omega),h 2 (by omega)]
 have e:∀b A,gdE m b A 6=gdE m' b A 6∧gdL m b 6=gdL m' b 6:=fun b A=>qid h
 unfold gdR gdY gdK;rw[hb];simp only[(e _ _).1,(e _ 0).2]
theorem qvl(h:(m 0||m 1||m 2||m 3||m 4||m 5)=true):quV (gdR m)=true∧∀c ∈ (-1)::qfU,∀z:Bool,evG (gdR m) c z 16 0 0=some (qfP m (qk6 c z)):=by
 have hb:∀b:Bool,b ∈ [false,true]:=by decide
 have h0:=qqr;unfold qxq at h0;have h1:=List.all_eq_true.1 (List.all_eq_true.1 (List.all_eq_true.1 (List.all_eq_true.1 (List.all_eq_true.1 (List.all_eq_true.1 h0 (m 0) (hb _)) (m 1) (hb _)) (m 2) (hb _)) (m 3) (hb _)) (m 4) (hb _)) (m 5) (hb _);rw[h] at h1;have h2:okG (mkG (m 0) (m 1) (m 2) (m 3) (m 4) (m 5))=true:=by simpa using h1
 have em:∀j,j<6->mkG (m 0) (m 1) (m 2) (m 3) (m 4) (m 5) j=m j:=fun j hj=>by
  match j,hj with
  | 0,_=>rfl
  | 1,_=>rfl
  | 2,_=>rfl
  | 3,_=>rfl
  | 4,_=>rfl
  | 5,_=>rfl
 unfold okG at h2;rw[qmO em,Bool.and_eq_true] at h2;refine⟨h2.1,fun c hc z=>?_⟩
 have h3:=List.all_eq_true.1 (List.all_eq_true.1 h2.2 c hc) z (hb z);rw[decide_eq_true_eq] at h3;rw[h3]
 have es:∀o:Option Nat,(∀a,o=some a->a<6)->qfP (mkG (m 0) (m 1) (m 2) (m 3) (m 4) (m 5)) o=qfP m o:=fun o ho=>by
  cases o with
  | none=>rfl
  | some a=>unfold qfP;simp only;rw[em a (ho a rfl)]
 rw[es];intro a ha;unfold qk6 at ha
 repeat' split at ha
 all_goals first|(cases ha;omega)|(cases ha;done)|(cases ha;split<;>omega)
end
theorem qr5(t n:Int):ofM t n=if t=3221225534 then (if qdp .u32 n 1073741824≠0 then (2,true) else (0,true)) else if t=1073741827 then (1,true) else if t=1073741864 then (3,true) else if t=3221225655 then (4,true) else if t=3221225715 then (5,true) else (0,false):=by
 unfold ofM
 by_cases h1:t=3221225534
 ·simp[h1,zJ,qbO]
 by_cases h2:t=1073741827
 ·simp[h2,zJ,qbO]
 by_cases h3:t=1073741864
 ·simp[h3,zJ,qbO]
 by_cases h4:t=3221225655
 ·simp[h4,zJ,qbO]
 by_cases h5:t=3221225715
 ·simp[h5,zJ,qbO]
 simp only[h1,h2,h3,h4,h5,zJ,qbO,eq_comm (b:=t),if_false];simp
def gdM(l:List Int)(d:GData):Int:=if (ofM d.arch d.nr).2=true∧(ofM d.arch d.nr).1 ∈ l then 2147418112 else 2147483648
theorem qlF(l:List Int)(d:GData){c:Int}(hc:(d.arch=c∧c ∈ qfU)∨(c = -1∧d.arch ∉ qfU)):qfP (gdT l) (qk6 c (decide (0<qdp .u32 d.nr 1073741824)))=gdM l d:=by
 unfold gdM;rw[qr5];have hz:0<=qdp .u32 d.nr 1073741824:=qqs _ _;generalize qdp .u32 d.nr 1073741824=z at hz;rcases hc with⟨e,hm⟩|⟨rfl,hm⟩
 ·subst e;simp only[qfU,List.mem_cons,List.not_mem_nil,or_false] at hm
  by_cases h0:z=0
  ·rcases hm with e|e|e|e|e<;>simp[e,h0,qk6,qfP,gdT]
  ·have h1:0<z:=by omega
   rcases hm with e|e|e|e|e<;>simp[e,h0,h1,qk6,qfP,gdT]
 ·simp only[qfU,List.mem_cons,List.not_mem_nil,or_false,not_or] at hm;obtain⟨h1,h2,h3,h4,h5⟩:=hm;simp[h1,h2,h3,h4,h5,qk6,qfP]
theorem qtJ{l:List Int}(h:qgE l=false):(gdT l 0||gdT l 1||gdT l 2||gdT l 3||gdT l 4||gdT l 5)=true:=by
 cases l with
 | nil=>cases h
 | cons a l =>
  have h1:¬a<0∧¬6<=a:=by
   simp only[qgE,List.any_cons,Bool.or_eq_false_iff,decide_eq_false_iff_not] at h;exact h.2.1
  have e:∀i:Nat,(i:Int)=a->gdT (a::l) i=true:=fun i hi=>by unfold gdT;rw[hi];simp
  have ha:a=0∨a=1∨a=2∨a=3∨a=4∨a=5:=by omega
  rcases ha with q|q|q|q|q|q
  ·rw[e 0 q.symm];rfl
  ·rw[e 1 q.symm];simp
  ·rw[e 2 q.symm];simp
  ·rw[e 3 q.symm];simp
  ·rw[e 4 q.symm];simp
  ·rw[e 5 q.symm];simp
theorem qoN{l:List Int}(h:qgE l=false):MayL (gdR (gdT l))∧qc0 (gdR (gdT l))∧(gdR (gdT l)).length<=10∧∀d,DatOk d->Ev (gdR (gdT l)) d 0 0 (gdM l d):=by
 obtain⟨h1,h2⟩:=qvl (qtJ h);generalize hR:gdR (gdT l)=R at h1 h2;unfold quV at h1;simp only[Bool.and_eq_true,decide_eq_true_eq,List.all_eq_true] at h1;obtain⟨⟨⟨⟨p1,p2⟩,p3⟩,p4⟩,p5⟩:=h1;have gd:∀(j:Nat) s,R[j]?=some s->R.getD j ⟨0,0,0,0⟩=s:=fun j s hj=>by rw[List.getD_eq_getElem?_getD,hj];rfl
 refine⟨⟨p1,by omega,⟨_,zzE (by omega),?_⟩,fun j s hj=>?_⟩,fun x hx=>p5 x hx,p2,fun d hd=>?_⟩
 ·rw[gd _ _ (zzE (by omega:R.length-1<R.length))] at p3;exact p3
 ·have:=p4 j (List.mem_range.2 (zzS.1 hj).1);rw[gd _ _ hj] at this;exact this
 ·by_cases hm:d.arch ∈ qfU
  ·rw[← qlF l d (.inl ⟨rfl,hm⟩)];exact qfZ (fun K _=>Iff.rfl) rfl 16 0 0 0 _ (fun q=>by cases q) (fun q=>by cases q) (h2 d.arch (List.mem_cons_of_mem _ hm) _)
  ·rw[← qlF l d (.inr ⟨rfl,hm⟩)];refine qfZ (c:=-1) (fun K hK=>⟨fun e=>absurd (e ▸ hK) hm,fun e=>?_⟩) rfl 16 0 0 0 _ (fun q=>by cases q) (fun q=>by cases q) (h2 (-1) (List.mem_cons_self ..) _)
   subst e;exact absurd hK (by decide)
end Go.Kc
end
section
namespace Go.Kc
variable {P:Program} {f:Nat}
noncomputable def gdC(l:List Int)(o:Bool):List Ins×Int:=qjU (gdA l).1 (gdA l).2 o
section
variable {l:List Int}
theorem qoM(h:qgE l=true)(o:Bool):gdC l o=([],2):=by
 unfold gdC gdA qjU qf3 qgG qfd;rw[if_pos h];simp
theorem qxQ(h:qgE l=false)(o:Bool):(gdC l o).2=0∧PrgT (gdC l o).1 10 (gdM l):=by
 obtain⟨h1,h2,h3,h4⟩:=qoN h;have e:gdA l=(gdR (gdT l),0):=by unfold gdA;rw[if_neg (by rw[h];simp)]
 have eu:qf3 (gdA l).1 (gdA l).2=xP (gdR (gdT l)):=by rw[e];simp only[qf3,if_true]
 have eo:qgG (gdA l).1 (gdA l).2=xP (qdf (gdR (gdT l))):=by rw[e];simp only[qgG,if_true]
 have tu:qkD (qf3 (gdA l).1 (gdA l).2) 10 (gdM l):=by rw[eu];exact qpa h1 h2 h3 h4
 have to:qkD (qgG (gdA l).1 (gdA l).2) 10 (gdM l):=by rw[eo];exact qpa (qlR h1) (qsn h2) (Nat.le_trans qsm h3) fun d hd=>qvI h1 (h4 d hd)
 have:qkD (gdC l o) 10 (gdM l):=by
  unfold gdC qjU;split
  ·exact qsF tu to
  ·exact tu
 exact this.resolve_left fun q=>by have:=q.2.2;omega
end
def qqU(P:Program)(g:Nat):Prop:=∀l:List Int,l.length<=qe->∀o:Bool,qg P g [.fz l.length (rI .i64 l),.b o] (.tup [.fz (gdC l o).1.length (rP (gdC l o).1),.i .i64 (gdC l o).2])
theorem qzE{gd gwG gwO gwL gs gG gO gL:Nat}(hc:qd P f (qbA gwG gwL gd gwO gs)=true)(hd:qd P gd za=true)(hG:qd P gwG (zi gG)=true)(hO:qd P gwO (zu gO)=true)(hL:qd P gwL (ze gL)=true)
  (hs:qd P gs xK=true) (c1:∀l:List Int,l.length<=qe->qg P gG [.fz l.length (rI .i64 l)] (.tup [.fz (gdA l).1.length (rSy (gdA l).1),.i .i64 (gdA l).2])) (c3:qxz P gO) (c4:qsX P gL):qqU P f:=fun l hl o=>by
 have ok:(gdA l).2=0->MayL (gdA l).1:=fun h=>by
  unfold gdA at h ⊢;cases hb:qgE l with
  | true=>rw[hb] at h;simp at h
  | false=>simpa using (qoN hb).1
 exact qkX hc hd hG hO hL hs ⟨by simp[clo,zf],rfl,rfl,rfl⟩ ⟨c1 l hl,fun h=>c4 _ (ok h),fun h=>c3 _ (ok h),fun h=>c4 _ (qlR (ok h))⟩ o
theorem qmU{b:Bool}{ρ:Ren}{as:List Value}(h:VRs σ0 ρ [.nils,.b b] as):VRs σ0 ρ [.fz 0 [],.b b] as:=by
 cases h with
 | cons _ _ _ _ h1 hs=>cases h1 with
  | nils=>exact .cons _ _ _ _ (.fz0 none) hs
theorem qqU.nil{g:Nat}(h:qqU P g)(o:Bool):qg P g [.nils,.b o] (.tup [.fz 0 [],.i .i64 2]):=fun hp k hk=>by
 have:=h [] (Nat.zero_le _) o;rw[qoM rfl o] at this;exact SC.args (this hp k hk) fun _ _=>qmU
def qax(a:Nat):IFn:=⟨[.tmp 4],.seq (.r [.q 3 (.box (.t 1)),.m 4 (.c (.i .u32 0))]) (.seq (.r [.f 9 1 3,.d 10 9,.f 11 0 3,.d 12 11,.l 13 a [.t 10,.t 12],.n 8 13,.x 14 8 0,.x 15 8 1,.n 5 14,.n 6 15]) (.seq (.seq (.r [.m 7 (.k 0)]) (.blk 0 (.loop (.seq (.seq (.r [.n 16 7,.n 17 0,.e 18 17,.s 19 16 18,.n 20 19,.y 21 6 20,.p 22 20 21]) (.cond (.t 22) (.skip) (.exit 0))) (.seq (.blk 1 (.seq (.r [.n 25 0,.n 26 7,.i 27 1 25 26,.d 28 27,.n 29 5,.b 30 .eql 28 29]) (.cond (.t 30) (.seq (.r [.m 4 (.c (.i .u32 2147418112))]) (.ret)) (.skip)))) (.r [.n 23 7,.a 24 23 1,.n 7 24])))))) (.seq (.r [.m 4 (.c (.i .u32 2147483648))]) (.ret))))⟩
theorem qwJ{g:Nat}(hc:qd P f (qax g)=true)(hg:∀t n:Int,0<=n->n<=4294967295->qg P g [.i .u32 t,.i .u32 n] (.tup [.i .i64 (ofM t n).1,.b (ofM t n).2]))(l:List Int)(hl:l.length<=1000)(d:GData)(hd:DatOk d):qg P f [.fz l.length (rI .i64 l),.agg (qL d)] (.i .u32 (gdM l d)):=by
 have h1:=hg d.arch d.nr hd.nr0 hd.nr1;refine qg.mk hc (by simp[qF,clo,qL,zf]) ?_;simp only[qax,qL,vI,simprocAttr];simp +decide only[↓vS,vT,simprocAttr];refine h1.sc ?_;unfold gdM;generalize ofM d.arch d.nr=q;obtain⟨a,ok⟩:=q;simp +decide only[↓vS,vT,simprocAttr];refine SL.loop (α:=Nat) (fun j=>[(0,.fz l.length (rI .i64 l)),(5,.i .i64 a),(6,.b ok),(7,.i .i64 (j:Int))]) (fun _=>[]) (fun j=>j<=l.length∧a ∉ l.take j) (fun j=>l.length-j) 0 [] ?_ ?_ ?_ rfl ?_ ?_
 ·simp[vw,zf]
 ·trivial
 ·simp
 ·simp
 rintro j ⟨hj,hI⟩ G ih;simp only[vI,simprocAttr]
 by_cases hlt:j<l.length
 ·have hlt':(j:Int)<l.length:=by omega
  have hx:l[j]?=some l[j]:=zzE hlt;have hw:IntKind.wrap .i64 ((j:Int)+1)=((j+1:Nat):Int):=by rw[qv (by omega) (by omega)];simp
  cases ok with
  | false =>
   simp +decide only[↓vS,vT,simprocAttr,hlt'];simp[vZ]
  | true =>
   by_cases he:l[j]=a
   ·have hm:a ∈ l:=by rw[← he];exact List.getElem_mem hlt
    simp +decide only[↓vS,vT,simprocAttr,hlt',hlt,Nat.mul_one,qct,hx,Option.map_some,he];simp[vZ,hm]
   ·simp +decide only[↓vS,vT,simprocAttr,hlt',hlt,Nat.mul_one,qct,hx,Option.map_some,he,hw];refine ih (j+1) ⟨by omega,?_⟩ (by omega) _ _ (Wk.mk _ _ [] ?_ ?_ ?_ rfl)
    ·rw[qce hx,List.mem_append,List.mem_singleton];rintro (h|h)
     ·exact hI h
     ·exact he h.symm
    ·simp[vw,zf]
    ·trivial
    ·simp
 ·obtain rfl:j=l.length:=by omega
  have hlt':¬((l.length:Int)<l.length):=by omega
  rw[List.take_length] at hI;simp +decide only[↓vS,vT,simprocAttr,hlt'];simp[vZ,hI]
def zp(a b c d:Nat):ICode:=.seq (.seq (.r [.n 44 9]) (.cond (.t 44) (.seq (.r [.n 45 8,.w 46 .eql 45 2,.n 47 46,.y 48 7 47,.g 49 (.len false (.t 48)) 47 true,.g 50 (.bin .eql (.t 49) (.k 0)) 47 true,.p 51 47 50,.n 6 51]) (.ret)) (.skip))) (.seq (.reg true [.n 52 8,.w 53 .eql 52 0,.n 54 53,.y 55 7 54,.g 56 (.len false (.t 55)) 54 true,.g 57 (.bin .leq (.t 56) (.k 90)) 54 true,.p 58 54 57,.n 59 58,.y 60 7 59,⟨(some 61),.callF b [.t 60],(some (59,true))⟩,.p 62 59 61,.n 63 62,.y 64 7 63,.g 65 (.loadN 9 (.t 5)) 63 true,.y 66 0 63,.g 67 (.loadN 9 (.t 5)) 63 true,⟨(some 68),.callF c [.t 66,.t 67],(some (63,true))⟩,⟨(some 69),.callF d [.t 64,.t 65,.t 68],(some (63,true))⟩,.p 70 63 69,.n 6 70]) (.ret))
def xC(a b c d:Nat):IFn:=⟨[.tmp 6],.seq (.r [.q 5 (.box (.t 2)),.m 6 .F]) (.seq (.seq (.r [.n 11 0,.e 12 11,.w 13 .gtr 12 50]) (.cond (.t 13) (.seq (.r [.m 6 .T]) (.ret)) (.skip))) (.seq (.r [.n 15 0,.n 16 1,.l 17 a [.t 15,.t 16],.n 14 17,.x 18 14 0,.x 19 14 1,.n 7 18,.n 8 19]) (.seq (.r [.n 20 0,.e 21 20,.w 22 .eql 21 0,.n 9 22]) (.seq (.seq (.r [.m 10 (.k 0)]) (.blk 0 (.loop (.seq (.seq (.r [.n 23 10,.n 24 0,.e 25 24,.s 26 23 25]) (.cond (.t 26) (.skip) (.exit 0))) (.seq (.blk 1 (.r [.n 29 9,.n 30 29,.z 31 0 30,.z 32 10 30,.g 33 (.iAddrS 1 (.t 31) (.t 32)) 30 false,.j 34 33 30 false,.g 35 (.bin .lss (.t 34) (.k 0)) 30 false,.o 36 30 35,.n 37 36,.z 38 0 37,.z 39 10 37,.g 40 (.iAddrS 1 (.t 38) (.t 39)) 37 false,.j 41 40 37 false,.g 42 (.bin .gtr (.t 41) (.k 5)) 37 false,.o 43 37 42,.n 9 43])) (.r [.n 27 10,.a 28 27 1,.n 10 28])))))) (.cut (zp a b c d))))))⟩
section
variable {g1 g2 g3 g4:Nat}
theorem qmP(h2:∀p,PrgGood p->qgg p=[]->qg P g2 [.fz p.length (rP p)] (.b true))(h3:∀l:List Int,l.length<=1000->∀d,DatOk d->qg P g3 [.fz l.length (rI .i64 l),.agg (qL d)] (.i .u32 (gdM l d)))
  (h4:∀p,PrgGood p->∀d,DatOk d->∀w:Int,(qhM p d).1=w->(qhM p d).2.2.2=0->qg P g4 [.fz p.length (rP p),.agg (qL d),.i .u32 w] (.b true)) (l:List Int) (hl:l.length<=50) (o:Bool) (d:GData) (hd:DatOk d)
  {t':Tr AV} {h':Hp} (hw:Wk 0 t' h' (mkT [(0,.fz l.length (rI .i64 l)),(5,.ptr 0 0),(7,.fz (gdC l o).1.length (rP (gdC l o).1)),(8,.i .i64 (gdC l o).2),(9,.b (qgE l))]) (mkH 0 [.cells 0 true false (qL d)])) :
  S P 0 (zp g1 g2 g3 g4) (qcm [.tmp 6] fun v' h'=>Frz h' v' (.b true)) t' h':=by
 refine S.weak hw (qp ?_);have c3:=h3 l (by omega) d hd;simp only[zp,qL,vI,simprocAttr] at c3 ⊢;cases hb:qgE l with
 | true =>
  rw[qoM hb];simp +decide only[↓vS,vT,simprocAttr];simp[vZ]
 | false =>
  have a1:=qxQ hb o;generalize gdC l o=q1 at a1;obtain⟨p,e⟩:=q1;obtain⟨z1,b1⟩:=a1;simp only at z1 b1;subst z1;have c2:=h2 p b1.good b1.ud;have c4:=h4 p b1.good d hd _ (b1.tells d hd).1 (b1.tells d hd).2;generalize gdM l d=w at c3 c4;simp only[qL] at c4;have hlen:=b1.len;have hlen':(p.length:Int)<=90:=by omega
  simp +decide only[↓vS,vT,simprocAttr];refine qaB ?_;simp +decide only[↓vS,vT,simprocAttr,hlen'];refine c2.pc ?_;simp +decide only[↓vS,vT,simprocAttr];refine c3.pc ?_;simp +decide only[↓vS,vT,simprocAttr];refine c4.pc ?_;simp +decide only[↓vS,vT,simprocAttr];simp[vZ]
def bdG(l:List Int)(j:Nat):Bool:=decide (l=[])||(l.take j).any fun a=>decide (a<0)||decide (6<=a)
theorem qmY(hc:qd P f (xC g1 g2 g3 g4)=true)(h1:qqU P g1)(h2:∀p,PrgGood p->qgg p=[]->qg P g2 [.fz p.length (rP p)] (.b true))(h3:∀l:List Int,l.length<=1000->∀d,DatOk d->qg P g3 [.fz l.length (rI .i64 l),.agg (qL d)] (.i .u32 (gdM l d)))
  (h4:∀p,PrgGood p->∀d,DatOk d->∀w:Int,(qhM p d).1=w->(qhM p d).2.2.2=0->qg P g4 [.fz p.length (rP p),.agg (qL d),.i .u32 w] (.b true)) (l:List Int) (o:Bool) (d:GData) (hd:DatOk d):qg P f [.fz l.length (rI .i64 l),.b o,.agg (qL d)] (.b true):=by
 refine qg.mk hc (by simp[qF,clo,qL,zf]) ?_;simp only[xC,qL,vI,simprocAttr]
 by_cases hn:(50:Int)<(l.length:Int)
 ·simp +decide only[↓vS,vT,simprocAttr,hn];simp[vZ]
 have r0:l.length<=qe:=by simp only[qe];omega
 have c1:=h1 l r0 o;simp +decide only[↓vS,vT,simprocAttr,hn];refine c1.sc ?_;simp +decide only[↓vS,vT,simprocAttr];refine SL.loop (α:=Nat) (fun j=>[(0,.fz l.length (rI .i64 l)),(5,.ptr 0 0),(7,.fz (gdC l o).1.length (rP (gdC l o).1)),(8,.i .i64 (gdC l o).2),(9,.b (bdG l j)),(10,.i .i64 (j:Int))]) (fun _=>[.cells 0 true false (qL d)]) (fun j=>j<=l.length) (fun j=>l.length-j) 0 [0] ?_ ?_ ?_ rfl ?_ ?_
 ·simp[vw,zf,qm,bdG]
 ·simp[vw,qL]
 ·simp
 ·exact Nat.zero_le _
 rintro j hj G ih;simp only[vI,simprocAttr]
 by_cases hlt:j<l.length
 ·have hlt':(j:Int)<l.length:=by omega
  have hx:l[j]?=some l[j]:=zzE hlt;have hw:IntKind.wrap .i64 ((j:Int)+1)=((j+1:Nat):Int):=by rw[qv (by omega) (by omega)];simp
  have hs:bdG l (j+1)=(bdG l j||(decide (l[j]<0)||decide (6<=l[j]))):=by
   unfold bdG;rw[qce hx,List.any_append];simp[Bool.or_assoc]
  generalize l[j]=y at hx hs
  have fin:∀b:Bool,b=bdG l (j+1)->∀t' h',Wk 0 t' h' (mkT [(0,.fz l.length (rI .i64 l)),(5,.ptr 0 0),(7,.fz (gdC l o).1.length (rP (gdC l o).1)),(8,.i .i64 (gdC l o).2),(9,.b b),(10,.i .i64 ((j+1:Nat):Int))]) (mkH 0 [.cells 0 true false (qL d)])->G t' h':=fun b hb t' h' hw=>by
   subst hb;exact ih (j+1) (by omega) (by omega) _ _ hw
  rw[hs] at fin;cases hb:bdG l j with
  | true =>
   rw[hb] at fin;simp +decide only[↓vS,vT,simprocAttr,hlt',hw];refine fin true (by simp) _ _ (Wk.mk _ _ [0] ?_ ?_ ?_ rfl)
   ·simp[vw,zf,qm]
   ·simp[vw,qL]
   ·simp
  | false =>
   rw[hb] at fin
   by_cases h0:y<0
   ·simp +decide only[↓vS,vT,simprocAttr,hlt',hlt,Nat.mul_one,qct,hx,Option.map_some,h0,hw];refine fin true (by simp[h0]) _ _ (Wk.mk _ _ [0] ?_ ?_ ?_ rfl)
    ·simp[vw,zf,qm]
    ·simp[vw,qL]
    ·simp
   ·by_cases h6:5<y
    ·have h6':6<=y:=by omega
     simp +decide only[↓vS,vT,simprocAttr,hlt',hlt,Nat.mul_one,qct,hx,Option.map_some,h0,h6,hw];refine fin true (by simp[h6']) _ _ (Wk.mk _ _ [0] ?_ ?_ ?_ rfl)
     ·simp[vw,zf,qm]
     ·simp[vw,qL]
     ·simp
    ·have h6':¬6<=y:=by omega
     simp +decide only[↓vS,vT,simprocAttr,hlt',hlt,Nat.mul_one,qct,hx,Option.map_some,h0,h6,hw];refine fin false (by simp[h0,h6']) _ _ (Wk.mk _ _ [0] ?_ ?_ ?_ rfl)
     ·simp[vw,zf,qm]
     ·simp[vw,qL]
     ·simp
 ·obtain rfl:j=l.length:=by omega
  have hlt':¬((l.length:Int)<l.length):=by omega
  have eb:bdG l l.length=qgE l:=by unfold bdG qgE;rw[List.take_length]
  simp +decide only[↓vS,vT,simprocAttr,hlt'];rw[eb];refine qmP h2 h3 h4 l (by omega) o d hd (Wk.mk _ _ [0] ?_ ?_ ?_ rfl)
  ·simp[vw,zf,qm]
  ·simp[vw,qL]
  ·simp
end
end Go.Kc
end
