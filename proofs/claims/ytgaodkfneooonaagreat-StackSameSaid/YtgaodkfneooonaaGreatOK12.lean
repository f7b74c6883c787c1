/- Part 12 of the abstract machine and of the functions' walks. Conditions: with each theorem. -/
import Derived.Test.YtgaodkfneooonaaGreatOK11
import Derived.KernelRfl
set_option maxHeartbeats 4000000
set_option linter.defProp false
set_option linter.unusedSectionVars false
set_option linter.unusedSimpArgs false
set_option linter.unusedVariables false
set_option linter.unnecessarySimpa false
section
namespace Go.Kc
variable {P:Program} {f:Nat}
def qjx(b:Bool)(i:Nat):Bool:=decide (i≠0/\i≠2)||(b&&decide (i=0))
def gdE(m:Nat->Bool)(b:Bool)(A:Nat):Nat->List Sy
 | 0=>[⟨32,4,0,0⟩]
 | i+1=>gdE m b A i++if(m i&&qjx b i)=true then [⟨21,qdj (i:Int),A,(gdE m b A i).length+1⟩]else []
def gdL(m:Nat->Bool)(b:Bool):Nat->Int
 | 0=>-1
 | i+1=>if(m i && !qjx b i && !b)=true then(i:Int)else gdL m b i
def gdZ(a:Int)(p K A:Nat):List Sy:=[⟨21,qdj a,p+1,K⟩,⟨32,0,0,0⟩,if a=2 then⟨69,1073741824,A,K⟩else⟨69,1073741824,K,A⟩]
def gdK(m:Nat->Bool)(b:Bool):Nat:=(gdE m b 0 6).length+if 0<=gdL m b 6 then 3 else 0
def gdY(m:Nat->Bool)(b:Bool):List Sy:=gdE m b (gdK m b+1) 6++if 0<=gdL m b 6 then gdZ (gdL m b 6) (gdE m b 0 6).length (gdK m b) (gdK m b+1)else []
def gdF(l:List Sy):List Sy:=l++[⟨6,2147483648,0,0⟩]++[⟨6,2147418112,0,0⟩]
def gdR(m:Nat->Bool):List Sy:=gdF (gdY m (m 0&&m 2))
section
variable {m:Nat->Bool} {b:Bool}
def qnW{A:Nat}:∀{i:Nat},(gdE m b A i).length=(gdE m b 0 i).length
 | 0=>rfl
 | i+1=>by simp only[gdE,zzP,qnW (i:=i)];split<;>rfl
def qqv{A:Nat}:∀{i:Nat},(gdE m b A i).length<=1+i
 | 0=>zzL _
 | i+1=>by
  have:=qqv (A:=A) (i:=i);simp only[gdE,zzP];split<;>simp<;>omega
def qro:∀{i:Nat},-1<=gdL m b i/\gdL m b i<i
 | 0=>⟨Int.le_refl _,by simp only[gdL];decide⟩
 | i+1=>by
  have:=qro (i:=i);unfold gdL;split<;>omega
theorem qzf{a:Int}{p K A:Nat}:(gdZ a p K A).length=3:=by simp[gdZ]
def qze:(gdY m b).length=gdK m b:=by
 unfold gdY gdK;rw[zzP,qnW]
 grind[qzf]
end
section
variable {g w s gl gp gj gh gr gd g1 g2 g4 g5 g6:Nat} {κ:Nat->Kd} {tr:Tr Blk} {RV:List Sy} {N:List Nat} {k:AV->Hp->Prop}
def qaJ(a b c d e g h i j k:Nat):ICode:=sq [.r [.n 109 4,.n 110 5,.l 111 i [.t 109,.t 110]],.r [.n 112 4,.l 113 j [.t 112,(.c (.w 2147483648))]],.r [.n 114 4,.n 115 6,.l 116 i [.t 114,.t 115]],.r [.n 117 4,.l 118 j [.t 117,(.c (.w 2147418112))]],.r [.n 119 4,.l 120 k [.t 119],.n 2 120,.m 3 (.k 0)],.ret]
def qcc(a b c d e g h i j k:Nat):ICode:=sq [sq [.r [.n 80 8,.w 81 .geq 80 0],.cond (.t 81) (sq [.r [.q 82 (.build [.j 0] []),.q 83 (.box (.t 82)),.n 14 83],.r [.n 85 8,.l 86 g [.t 85],.n 84 86,.x 87 84 0,.x 88 84 1,.n 15 87,.n 16 88],.r [.n 89 4,.n 90 15,.n 91 14,.n 92 5,.l 93 h [.t 89,(.c (.h 21)),.t 90,.t 91,.t 92]],.r [.n 94 4,.n 95 14,.l 96 i [.t 94,.t 95]],.r [.n 97 4,.l 98 c [.t 97,(.c (.w 0))]],.r [.n 99 8,.w 100 .eql 99 2],.cond (.t 100) (.r [.n 101 4,.n 102 6,.n 103 5,.l 104 h [.t 101,(.c (.h 69)),(.c (.w 1073741824)),.t 102,.t 103]]) (.r [.n 105 4,.n 106 5,.n 107 6,.l 108 h [.t 105,(.c (.h 69)),(.c (.w 1073741824)),.t 106,.t 107]])]) (.skip)],.cut (qaJ a b c d e g h i j k)]
def qcb(a b c d e g h i j k:Nat):ICode:=sq [sq [.r [.l 38 e [],.e 39 38,.m 40 (.k 0)],.blk 0 (.loop (sq [.r [.s 41 40 39],.cond (.t 41) (.skip) (.exit 0),.blk 1 (sq [.r [.i 42 1 38 40,.d 43 42,.n 10 43],sq [.r [.n 44 0,.n 45 10,.l 46 d [.t 44,.t 45],.q 47 (.un .not (.t 46))],.cond (.t 47) (.exit 1) (.skip)],.r [.n 49 10,.l 50 g [.t 49],.n 48 50,.x 51 48 0,.x 52 48 1,.n 11 51,.n 12 52],.r [.q 53 (.build [.j 0] []),.q 54 (.box (.t 53)),.n 13 54],sq [.r [.n 55 10,.w 56 .neq 55 0,.n 57 56,.y 58 10 57,.g 59 (.bin .neq (.t 58) (.k 2)) 57 true,.p 60 57 59,.n 61 60,.z 62 7 61,.z 63 62 61,.y 64 10 63,.g 65 (.bin .eql (.t 64) (.k 0)) 63 true,.g 66 (.pick (.t 63) (.t 65) .F) 61 false,.o 67 61 66],.cond (.t 67) (.r [.n 68 4,.n 69 11,.n 70 6,.n 71 13,.l 72 h [.t 68,(.c (.h 21)),.t 69,.t 70,.t 71]]) (sq [.r [.n 73 7,.q 74 (.un .not (.t 73))],.cond (.t 74) (sq [.r [.n 75 10,.n 8 75],.exit 1]) (.exit 1)])],.r [.n 76 4,.n 77 13,.l 78 i [.t 76,.t 77]]]),.r [.a 79 40 1,.n 40 79]]))],.cut (qcc a b c d e g h i j k)]
def qca(a b c d e g h i j k:Nat):ICode:=sq [.r [.n 30 4,.l 31 c [.t 30,(.c (.w 4))]],.r [.n 32 0,.l 33 d [.t 32,.k 0],.n 34 33,.y 35 0 34,⟨(some 36),.callF d [.t 35,.k 2],(some (34,true))⟩,.p 37 34 36,.n 7 37],.r [.q 8 (.mov (.c (.j (-1))))],.cut (qcb a b c d e g h i j k)]
def qb9(a b c d e g h i j k:Nat):ICode:=sq [.r [.q 24 (.build [.nils,.nils] []),.q 25 (.box (.t 24)),.q 26 (.build [.j 0] []),.q 27 (.box (.t 26)),.q 28 (.build [.j 0] []),.q 29 (.box (.t 28)),.n 4 25,.n 5 27,.n 6 29],.cut (qca a b c d e g h i j k)]
def qhU(a b c d e g h i j k:Nat):IFn:=⟨[.tmp 2,.tmp 3],sq [.r [.m 2 .N,.m 3 (.k 0)],sq [.r [.n 17 0,.e 18 17,.w 19 .eql 18 0,.n 20 19,.z 21 0 20,⟨(some 22),.callF a [.t 21,(.c (.fn b [] []))],(some (20,false))⟩,.o 23 20 22],.cond (.t 23) (sq [.r [.m 2 .N,.m 3 (.k 2)],.ret]) (.skip)],.cut (qb9 a b c d e g h i j k)]⟩
def gdT(l:List Int)(i:Nat):Bool:=decide ((i:Int) ∈ l)
def qpd{n0 sb bK bA K:Nat}{κb:Nat->Kd}{tb:Tr Blk}(W:WFn P g gl gp gj gh gr)(hd:qc P gd zg=true)(hj:qc P g qP=true)(h:WI g w κ s tr RV [])(hK:RV.length=K)(hb:RV.length<=1000)(st:Stp [bK,bA] κb sb tb κ s tr)(hdm:∀b,κb b≠.no->b<sb)(hno:∀b F,κb b≠.lab F false)
  (kK:κ bK = .lab K false) (kA:κ bA = .lab (K+1) false) (nK:κb bK = .no) (nA:κb bA = .no) {t:Tr AV} (ht:Has t [(4,.ptr w 0),(5,.ptr bK 0),(6,.ptr bA 0)]) :
  S P n0 (qaJ g1 g2 gl g4 g5 g6 gj gh gr gd) (xu [.tmp 2,.tmp 3] λv' h'=>Frz h' v' (.tup [.fz (gdF RV).length (rSy (gdF RV)),.j 0])) t ⟨s,0,tr⟩:=by
 refine S.has _ ht (qk ?_);subst hK;unfold gdF;have hne:bA≠bK:=by grind
 simp only[qaJ,vI,simprocAttr];simp +decide only[↓vS,vT,simprocAttr];refine qaT W.here h kK λt1 q1 q2 w1=>?_
 simp +decide only[↓vS,vT,simprocAttr];have st1:Stp [bA] κb sb tb (kdS κ bK (.lab RV.length true)) s t1:=st.kd' nK q1 q2 λc hc=>by simp_all
 refine qnf W.ret W.put w1 2147483648 (by omega) λκ2 s2 t2 st2 w2=>?_
 simp +decide only[↓vS,vT,simprocAttr];have st12:=st1.trans st2
 have kA2:κ2 bA = .lab (RV++[(⟨6,2147483648,0,0⟩:Sy)]).length false:=by
  rw[zzP];exact st2.lab _ _ _ (by rw[qj hne];exact kA)
 refine qaT W.here w2 kA2 λt3 q3 q4 w3=>?_
 simp +decide only[↓vS,vT,simprocAttr];have st3:Stp [] κb sb tb (kdS κ2 bA (.lab (RV++[(⟨6,2147483648,0,0⟩:Sy)]).length true)) s2 t3:=st12.kd' nA q3 q4 λc hc=>by simp_all
 refine qnf W.ret W.put w3 2147418112 (by grind) λκ4 s4 t4 st4 w4=>?_
 simp +decide only[↓vS,vT,simprocAttr];have st34:=st3.trans st4;refine qvb hd hj w4 (λb F p hb=>?_) (by grind) λt5 b hb hbs=>?_
 .cases p with
  | true=>rfl
  | false => rcases st34.nw b F hb with q|q
             all_goals simp_all
 simp +decide only[↓vS,vT,simprocAttr];simp[vZ,vP,hb];exact Frzs.self (xP λ_=>rfl)
def qvO{n0 sb bK bA:Nat}{κb:Nat->Kd}{tb:Tr Blk}{m:Nat->Bool}{b:Bool}(W:WFn P g gl gp gj gh gr)(hd:qc P gd zg=true)(hj:qc P g qP=true)(c6:qqk P g6)(h:WI g w κ s tr (gdE m b (gdK m b+1) 6) [])(st:Stp [bK,bA] κb sb tb κ s tr)(hdm:∀b,κb b≠.no->b<sb)(hno:∀b F,κb b≠.lab F false)
  (kK:κ bK = .lab (gdK m b) false) (kA:κ bA = .lab (gdK m b+1) false) (nK:κb bK = .no) (nA:κb bA = .no) {t:Tr AV} (ht:Has t [(4,.ptr w 0),(5,.ptr bK 0),(6,.ptr bA 0),(8,.j (gdL m b 6))]) :
  S P n0 (qcc g1 g2 gl g4 g5 g6 gj gh gr gd) (xu [.tmp 2,.tmp 3] λv' h'=>Frz h' v' (.tup [.fz (gdF (gdY m b)).length (rSy (gdF (gdY m b))),.j 0])) t ⟨s,0,tr⟩:=by
 have hlen:=qqv (m:=m) (b:=b) (A:=gdK m b+1) (i:=6);have hl0:=qnW (m:=m) (b:=b) (A:=gdK m b+1) (i:=6);have hr:=qro (m:=m) (b:=b) (i:=6);have hY:=qze (m:=m) (b:=b);refine S.has _ ht (qk ?_);simp only[qcc,vI,simprocAttr]
 by_cases hn:0<=gdL m b 6
 .have eY:gdY m b=gdE m b (gdK m b+1) 6++gdZ (gdL m b 6) (gdE m b (gdK m b+1) 6).length (gdK m b) (gdK m b+1):=by unfold gdY;rw[if_pos hn,hl0]
  generalize gdL m b 6=la at *;generalize gdE m b (gdK m b+1) 6=RV at *;simp +decide only[↓vS,vT,simprocAttr,hn];have w1:=h.new (.lab (RV.length+1) false) _ (.inr (.inr (.inr ⟨_,rfl,rfl⟩)));have st1:=h.stpLab (.lab (RV.length+1) false) (.v [.j 0]);have hon:=qF (κ:=κ) (b:=s) (x:=.lab (RV.length+1) false);refine(c6 la hn (by omega)).sc ?_;simp +decide only[↓vS,vT,simprocAttr];have hK1:=st1.lab _ _ _ kK;have hA1:=st1.lab _ _ _ kA;refine qeS W.jmp W.put w1 ⟨21,qdj la,RV.length+1,gdK m b⟩ hon (by simp_all) (by omega) λκ2 s2 t2 st2 w2=>?_
  simp +decide only[↓vS,vT,simprocAttr];have hon2:=st2.lab _ _ _ hon;have le1:=st.le;have st12:=(st.trans st1).trans st2
  have ns:κb s = .no:=by
   grind
  refine qaT W.here w2 (p:=false) (b:=s) (by rw[hon2];simp) λt3 q1 q2 w3=>?_
  simp +decide only[↓vS,vT,simprocAttr];have st3:Stp [bK,bA] κb sb tb (kdS κ2 s (.lab (RV++[(⟨21,qdj la,RV.length+1,gdK m b⟩:Sy)]).length true)) s2 t3:=st12.kd' ns q1 q2 λc hc=>by grind
  have hsK:bK≠s:=λe=>by rw[e]at kK;rw[h.fresh]at kK;cases kK
  have hsA:bA≠s:=λe=>by rw[e]at kA;rw[h.fresh]at kA;cases kA
  refine qlO W.ld W.put w3 0 (by grind) λκ4 s4 t4 st4 w4=>?_
  simp +decide only[↓vS,vT,simprocAttr];have hK4:=st4.lab _ _ _ ((qj (κ:=κ2) (x:=.lab (RV++[(⟨21,qdj la,RV.length+1,gdK m b⟩:Sy)]).length true) hsK).trans (st2.lab _ _ _ hK1));have hA4:=st4.lab _ _ _ ((qj (κ:=κ2) (x:=.lab (RV++[(⟨21,qdj la,RV.length+1,gdK m b⟩:Sy)]).length true) hsA).trans (st2.lab _ _ _ hA1));have st34:=st3.trans st4
  have fin:∀κ5 s5 t5 y,Stp [] κ4 s4 t4 κ5 s5 t5->WI g w κ5 s5 t5 (RV++[⟨21,qdj la,RV.length+1,gdK m b⟩]++[⟨32,0,0,0⟩]++[y]) []->y=(if la=2 then⟨69,1073741824,gdK m b+1,gdK m b⟩else⟨69,1073741824,gdK m b,gdK m b+1⟩)->∀t,Has t [(4,.ptr w 0),(5,.ptr bK 0),(6,.ptr bA 0)]->
    S P n0 (qaJ g1 g2 gl g4 g5 g6 gj gh gr gd) (xu [.tmp 2,.tmp 3] λv' h'=>Frz h' v' (.tup [.fz (gdF (gdY m b)).length (rSy (gdF (gdY m b))),.j 0])) t ⟨s5,0,t5⟩:=λκ5 s5 t5 y st5 w5 hy t ht=>by
   have e:RV++[⟨21,qdj la,RV.length+1,gdK m b⟩]++[⟨32,0,0,0⟩]++[y]=gdY m b:=by rw[eY,hy];simp[gdZ]
   rw[e]at w5;exact qpd W hd hj w5 hY (by rw[<- e];grind) (st34.trans st5) hdm hno (st5.lab _ _ _ hK4) (st5.lab _ _ _ hA4) nK nA ht
  by_cases h2:la=2
  .simp +decide only[↓vS,vT,simprocAttr,h2];subst h2;refine qeS W.jmp W.put w4 ⟨69,1073741824,gdK m b+1,gdK m b⟩ hA4 (by simp_all) (by grind) λκ5 s5 t5 st5 w5=>?_
   simp +decide only[↓vS,vT,simprocAttr];exact fin _ _ _ _ st5 w5 (by simp) _ (by simp[qg,ql,Tr.get_set])
  .simp +decide only[↓vS,vT,simprocAttr,h2];refine qeS W.jmp W.put w4 ⟨69,1073741824,gdK m b,gdK m b+1⟩ hK4 (by simp_all) (by grind) λκ5 s5 t5 st5 w5=>?_
   simp +decide only[↓vS,vT,simprocAttr];exact fin _ _ _ _ st5 w5 (by grind) _ (by simp[qg,ql,Tr.get_set])
 .have eY:gdY m b=gdE m b (gdK m b+1) 6:=by unfold gdY;rw[if_neg hn,List.append_nil]
  simp +decide only[↓vS,vT,simprocAttr,hn];rw[<- eY]at h hlen;exact qpd W hd hj h hY (by omega) st hdm hno kK kA nK nA (by simp[qg,ql,Tr.get_set])
def qvN{n0 sb bK bA:Nat}{κb:Nat->Kd}{tb:Tr Blk}(l:List Int)(bb:Bool)(W:WFn P g gl gp gj gh gr)(hd:qc P gd zg=true)(hj:qc P g qP=true)(c6:qqk P g6)(c4:∀x,qa P g4 [.fz l.length (rI .i64 l),.j x] (.b (decide (x ∈ l))))(c5:qa P g5 [] (.fz 6 (rI .i64 [0,1,2,3,4,5])))
  (h:WI g w κ s tr [⟨32,4,0,0⟩] []) (st:Stp [bK,bA] κb sb tb κ s tr) (hdm:∀b,κb b≠.no->b<sb) (hno:∀b F,κb b≠.lab F false)
  (kK:κ bK = .lab (gdK (gdT l) bb) false) (kA:κ bA = .lab (gdK (gdT l) bb+1) false) (nK:κb bK = .no) (nA:κb bA = .no) {t:Tr AV} (ht:Has t [(0,.fz l.length (rI .i64 l)),(4,.ptr w 0),(5,.ptr bK 0),(6,.ptr bA 0),(7,.b bb),(8,.j (-1))]) :
  S P n0 (qcb g1 g2 gl g4 g5 g6 gj gh gr gd) (xu [.tmp 2,.tmp 3] λv' h'=>Frz h' v' (.tup [.fz (gdF (gdY (gdT l) bb)).length (rSy (gdF (gdY (gdT l) bb))),.j 0])) t ⟨s,0,tr⟩:=by
 refine S.has _ ht (qk ?_);simp only[qcb,vI,simprocAttr];simp +decide only[↓vS,vT,simprocAttr];refine c5.sc ?_;simp +decide only[↓vS,vT,simprocAttr]
 refine SL.loopP (α:=Nat) (λi=>[(0,.fz l.length (rI .i64 l)),(4,.ptr w 0),(5,.ptr bK 0),(6,.ptr bA 0),(7,.b bb),(8,.j (gdL (gdT l) bb i)),(38,.fz 6 (rI .i64 [0,1,2,3,4,5])),(39,.j 6),(40,.j (i:Int))])
  (λi h=>i<=6/\∃κ' s' tr',h=⟨s',0,tr'⟩/\Stp [bK,bA] κb sb tb κ' s' tr'/\WI g w κ' s' tr' (gdE (gdT l) bb (gdK (gdT l) bb+1) i) []/\κ' bK = .lab (gdK (gdT l) bb) false/\κ' bA = .lab (gdK (gdT l) bb+1) false) (λi=>6-i) ?_ 0 ?_ ?_
 .rintro i h1 ⟨hi,κ',s',tr',rfl,st',w',kK',kA'⟩ G ih;simp only[vI,simprocAttr]
  by_cases hlt:i<6
  .have hlt':(i:Int)<6:=by omega
   have hx:(rI .i64 [0,1,2,3,4,5])[i]?=some (.j (i:Int)):=by
    match i,hlt with
    | 0,_=>rfl
    | 1,_=>rfl
    | 2,_=>rfl
    | 3,_=>rfl
    | 4,_=>rfl
    | 5,_=>rfl
   have hw1:IntKind.wrap .i64 ((i:Int)+1)=((i+1:Nat):Int):=by rw[qp (by omega) (by omega)];simp
   have hle:=qqv (m:=gdT l) (b:=bb) (A:=gdK (gdT l) bb+1) (i:=i);have ci:qa P g4 [.fz l.length (rI .i64 l),.j (i:Int)] (.b (gdT l i)):=c4 i;have le1:=st'.le;simp +decide only[↓vS,vT,simprocAttr,hlt',hlt,hx,zzU];refine ci.sc ?_;cases hm:gdT l i with
   | false =>
    simp +decide only[↓vS,vT,simprocAttr,hw1];refine ih (i+1) _ _ (by omega) ?_ ⟨by omega,κ',s',tr',rfl,st',?_,kK',kA'⟩
    .simp[qg,ql,Tr.get_set,gdL,hm]
    .simpa[gdE,hm]using w'
   | true =>
    simp +decide only[↓vS,vT,simprocAttr];refine(c6 i (by omega) hlt').sc ?_;simp +decide only[↓vS,vT,simprocAttr]
    have skip:qjx bb i=false->∀t',Has t' [(0,.fz l.length (rI .i64 l)),(4,.ptr w 0),(5,.ptr bK 0),(6,.ptr bA 0),(7,.b bb),(8,.j (gdL (gdT l) bb (i+1))),(38,.fz 6 (rI .i64 [0,1,2,3,4,5])),(39,.j 6),(40,.j ((i+1:Nat):Int))]->G t' ⟨s'+1,0,tr'.set s' (.v [.j 0])⟩:=λhs t' ht'=>by
     have w1:=w'.new .no (.v [.j 0]) (.inl rfl);have st1:=st'.trans (w'.stpNew .no (.v [.j 0]) (by simp));refine ih (i+1) _ _ (by omega) ht' ⟨by omega,_,_,_,rfl,st1,?_,(w'.stpNew .no (.v [.j 0]) (by simp)).lab _ _ _ kK',(w'.stpNew .no (.v [.j 0]) (by simp)).lab _ _ _ kA'⟩
     simpa[gdE,hs]using w1
    have go:qjx bb i=true->∀Q:AV->Hp->Prop,(∀κ2 s2 t2,Stp [] (kdS κ' s' (.lab ((gdE (gdT l) bb (gdK (gdT l) bb+1) i).length+1) false)) (s'+1) (tr'.set s' (.v [.j 0])) κ2 s2 t2->WI g w κ2 s2 t2 (gdE (gdT l) bb (gdK (gdT l) bb+1) (i+1)) []->Q (.tup []) ⟨s2,0,t2⟩)->SC P gj [.ptr w 0,.h 21,.w (qdj (i:Int)),.ptr bA 0,.ptr s' 0] ⟨s'+1,0,tr'.set s' (.v [.j 0])⟩ Q:=λhs Q hQ=>by
     have w1:=w'.new (.lab ((gdE (gdT l) bb (gdK (gdT l) bb+1) i).length+1) false) _ (.inr (.inr (.inr ⟨_,rfl,rfl⟩)));have st1:=w'.stpLab (.lab ((gdE (gdT l) bb (gdK (gdT l) bb+1) i).length+1) false) (.v [.j 0]);refine qeS W.jmp W.put w1 ⟨21,qdj (i:Int),gdK (gdT l) bb+1,(gdE (gdT l) bb (gdK (gdT l) bb+1) i).length+1⟩ (st1.lab _ _ _ kA') (.inr ⟨(by decide:(21:Int)≠5),s',false,rfl,qF⟩) (by omega) λκ2 s2 t2 st2 w2=>hQ κ2 s2 t2 st2 ?_
     simpa[gdE,hs,hm]using w2
    have ns:κb s' = .no:=by
     grind
    have nK':bK≠s':=λe=>by rw[e]at kK';rw[w'.fresh]at kK';grind
    have nA':bA≠s':=λe=>by rw[e]at kA';rw[w'.fresh]at kA';grind
    by_cases i0:i=0
    .have j0:((i:Int)=0)=True:=eq_true (by omega);cases bb with
     | false =>
      simp +decide only[↓vS,vT,simprocAttr,j0,hw1];have hs:qjx false i=false:=by simp[qjx,i0]
      refine skip hs _ ?_;simp[qg,ql,Tr.get_set,gdL,hm,hs]
     | true =>
      have hs:qjx true i=true:=by simp[qjx,i0]
      simp +decide only[↓vS,vT,simprocAttr,j0];refine go hs _ λκ2 s2 t2 st2 w2=>?_
      simp +decide only[↓vS,vT,simprocAttr];refine qaT W.here w2 (p:=false) (b:=s') (by rw[st2.lab _ _ _ qF];simp[gdE,hs,hm]) λt3 q1 q2 w3=>?_
      simp +decide only[↓vS,vT,simprocAttr,hw1];refine ih (i+1) _ _ (by omega) ?_ ⟨by omega,_,_,_,rfl,((st'.trans (w'.stpLab (.lab ((gdE (gdT l) true (gdK (gdT l) true+1) i).length+1) false) (.v [.j 0]))).trans st2).kd' ns q1 q2 (λc hc=>by grind),w3,?_,?_⟩
      .simp[qg,ql,Tr.get_set,gdL,hm,hs]
      .rw[qj nK'];exact st2.lab _ _ _ (((qj nK').trans kK'))
      .rw[qj nA'];exact st2.lab _ _ _ (((qj nA').trans kA'))
    .have j0:((i:Int)=0)=False:=eq_false (by omega)
     by_cases i2:i=2
     .have j2:((i:Int)=2)=True:=eq_true (by omega);cases bb with
      | false =>
       simp +decide only[↓vS,vT,simprocAttr,j0,j2,hw1];have hs:qjx false i=false:=by simp[qjx,i2]
       refine skip hs _ ?_;simp[qg,ql,Tr.get_set,gdL,hm,hs]
      | true =>
       simp +decide only[↓vS,vT,simprocAttr,j0,j2,hw1];have hs:qjx true i=false:=by simp[qjx,i2]
       refine skip hs _ ?_;simp[qg,ql,Tr.get_set,gdL,hm,hs]
     .have j2:((i:Int)=2)=False:=eq_false (by omega);have hs:qjx bb i=true:=by simp[qjx,i0,i2]
      simp +decide only[↓vS,vT,simprocAttr,j0,j2];refine go hs _ λκ2 s2 t2 st2 w2=>?_
      simp +decide only[↓vS,vT,simprocAttr];refine qaT W.here w2 (p:=false) (b:=s') (by rw[st2.lab _ _ _ qF];simp[gdE,hs,hm]) λt3 q1 q2 w3=>?_
      simp +decide only[↓vS,vT,simprocAttr,hw1];refine ih (i+1) _ _ (by omega) ?_ ⟨by omega,_,_,_,rfl,((st'.trans (w'.stpLab (.lab ((gdE (gdT l) bb (gdK (gdT l) bb+1) i).length+1) false) (.v [.j 0]))).trans st2).kd' ns q1 q2 (λc hc=>by grind),w3,?_,?_⟩
      .simp[qg,ql,Tr.get_set,gdL,hm,hs]
      .rw[qj nK'];exact st2.lab _ _ _ (((qj nK').trans kK'))
      .rw[qj nA'];exact st2.lab _ _ _ (((qj nA').trans kA'))
  .obtain rfl:i=6:=by omega
   simp +decide only[↓vS,vT,simprocAttr];exact qvO W hd hj c6 w' st' hdm hno kK' kA' nK nA (by simp[qg,ql,Tr.get_set])
 .simp[qg,ql,Tr.get_set,gdL]
 .exact⟨Nat.zero_le _,κ,s,tr,rfl,st,h,kK,kA⟩
def qvM{n0 sb bK bA:Nat}{κb:Nat->Kd}{tb:Tr Blk}(l:List Int)(W:WFn P g gl gp gj gh gr)(hd:qc P gd zg=true)(hj:qc P g qP=true)(c6:qqk P g6)(c4:∀x,qa P g4 [.fz l.length (rI .i64 l),.j x] (.b (decide (x ∈ l))))(c5:qa P g5 [] (.fz 6 (rI .i64 [0,1,2,3,4,5])))
  (h:WI g w κ s tr [] []) (st:Stp [bK,bA] κb sb tb κ s tr) (hdm:∀b,κb b≠.no->b<sb) (hno:∀b F,κb b≠.lab F false)
  (kK:κ bK = .lab (gdK (gdT l) (gdT l 0&&gdT l 2)) false) (kA:κ bA = .lab (gdK (gdT l) (gdT l 0&&gdT l 2)+1) false) (nK:κb bK = .no) (nA:κb bA = .no) {t:Tr AV} (ht:Has t [(0,.fz l.length (rI .i64 l)),(4,.ptr w 0),(5,.ptr bK 0),(6,.ptr bA 0)]) :
  S P n0 (qca g1 g2 gl g4 g5 g6 gj gh gr gd) (xu [.tmp 2,.tmp 3] λv' h'=>Frz h' v' (.tup [.fz (gdR (gdT l)).length (rSy (gdR (gdT l))),.j 0])) t ⟨s,0,tr⟩:=by
 refine S.has _ ht (qk ?_);have b0:qa P g4 [.fz l.length (rI .i64 l),.j 0] (.b (gdT l 0)):=c4 0;have b2:qa P g4 [.fz l.length (rI .i64 l),.j 2] (.b (gdT l 2)):=c4 2;simp only[qca,vI,simprocAttr];simp +decide only[↓vS,vT,simprocAttr];refine qlO W.ld W.put h 4 (by simp) λκ1 s1 t1 st1 w1=>?_
 rw[zzN]at w1;have kK1:=st1.lab _ _ _ kK;have kA1:=st1.lab _ _ _ kA;have fin:=λbb (e:(gdT l 0&&gdT l 2)=bb) t ht=>qvN (n0:=n0) (g1:=g1) (g2:=g2) (t:=t) l bb W hd hj c6 c4 c5 w1 (st.trans st1) hdm hno (by rw[<- e];omega) (by rw[<- e];omega) nK nA ht
 unfold gdR;simp +decide only[↓vS,vT,simprocAttr];refine b0.sc ?_;cases e0:gdT l 0 with
 | false =>
  simp +decide only[↓vS,vT,simprocAttr];rw[e0]at fin;refine fin _ rfl _ ?_;simp[qg,ql,Tr.get_set]
 | true =>
  simp +decide only[↓vS,vT,simprocAttr];refine b2.sc ?_;cases e2:gdT l 2 with
  | false =>
   simp +decide only[↓vS,vT,simprocAttr];rw[e0,e2]at fin;refine fin _ rfl _ ?_;simp[qg,ql,Tr.get_set]
  | true =>
   simp +decide only[↓vS,vT,simprocAttr];rw[e0,e2]at fin;refine fin _ rfl _ ?_;simp[qg,ql,Tr.get_set]
def qmv(l:List Int):Bool:=decide (l=[])||l.any λa=>decide (a<0)||decide (6<=a)
def gdA(l:List Int):List Sy×Int:=if qmv l=true then([],2)else(gdR (gdT l),0)
def qvL{n0:Nat}(l:List Int)(W:WFn P g gl gp gj gh gr)(hd:qc P gd zg=true)(hj:qc P g qP=true)(c6:qqk P g6)(c4:∀x,qa P g4 [.fz l.length (rI .i64 l),.j x] (.b (decide (x ∈ l))))(c5:qa P g5 [] (.fz 6 (rI .i64 [0,1,2,3,4,5])))(hn:n0=0)
  {t':Tr AV} {h':Hp} (hw:Wk 0 t' h' (mkT [(0,.fz l.length (rI .i64 l))]) (mkH 0 [])) :
  S P n0 (qb9 g1 g2 gl g4 g5 g6 gj gh gr gd) (xu [.tmp 2,.tmp 3] λv' h'=>Frz h' v' (.tup [.fz (gdR (gdT l)).length (rSy (gdR (gdT l))),.j 0])) t' h':=by
 subst hn;refine S.weak hw (qk ?_);simp only[qb9,vI,simprocAttr];simp +decide only[↓vS,vT,simprocAttr];refine S.weak (Wk.mk [(0,.fz l.length (rI .i64 l)),(4,.ptr 0 0),(5,.ptr 1 0),(6,.ptr 2 0)] [.v [.own 3 0,.own 4 0],.v [.j 0],.v [.j 0],.cells 4 true true [],.cells 1 true true []] [0,1,2,99,99] ?_ ?_ ?_ rfl) ?_
 .simp[vw,qh]
 .simp[vw]
 .simp
 simp only[vI,simprocAttr];generalize hKp:gdK (gdT l) (gdT l 0&&gdT l 2)=Kp
 have hW:∀k1 k2:Kd,(k1 = .no\/k1 = .lab Kp false)->(k2 = .no\/k2 = .lab (Kp+1) false)->WI g 0 (λb=>if b=0 then .w else if b=1 then k1 else if b=2 then k2 else if b=3 then .l else if b=4 then .t else .no) 5 (((((Tr.leaf.set 0 (.v [.own 3 0,.own 4 0])).set 1 (.v [.j 0])).set 2 (.v [.j 0])).set 3 (.cells 4 true true [])).set 4 (.cells 1 true true [])) [] []:=λk1 k2 h1 h2=>by
  refine⟨λb hb=>?_,⟨3,4,[],[],rfl,rfl,rfl,?_,?_,?_,trivial,by simp,λj y hy=>by simp at hy⟩,λb F p hb=>?_⟩
  .by_cases e:b<5
   .exact e
   .rw[if_neg (by omega),if_neg (by omega),if_neg (by omega),if_neg (by omega),if_neg (by omega)]at hb;exact absurd rfl hb
  .simp[Tr.get_set]
  .simp[Tr.get_set,rSy]
  .simp[Tr.get_set]
  .split at hb
   .cases hb
   split at hb
   .rename_i e;subst e;rcases h1 with rfl|rfl
    .cases hb
    .cases hb;exact⟨0,by simp[Tr.get_set],by simp⟩
   split at hb
   .rename_i e;subst e;rcases h2 with rfl|rfl
    .cases hb
    .cases hb;exact⟨0,by simp[Tr.get_set],by simp⟩
   split at hb
   .cases hb
   split at hb<;>cases hb
 refine qvM (bK:=1) (bA:=2) (κb:=λb=>if b=0 then .w else if b=1 then .no else if b=2 then .no else if b=3 then .l else if b=4 then .t else .no) (sb:=5) (tb:=(((((Tr.leaf.set 0 (.v [.own 3 0,.own 4 0])).set 1 (.v [.j 0])).set 2 (.v [.j 0])).set 3 (.cells 4 true true [])).set 4 (.cells 1 true true [])))
  l W hd hj c6 c4 c5 (hW (.lab Kp false) (.lab (Kp+1) false) (.inr rfl) (.inr rfl)) ⟨zzL _,λb hb=>⟨?_,rfl⟩,λb hb=>⟨?_,rfl⟩,λb F p hb=>?_,λb F hb=>?_⟩ (by grind) ?_ (by rw[hKp];rfl) (by rw[hKp];rfl) rfl rfl ?_
 all_goals first|(simp[qg,ql,Tr.get_set];done)|skip
 all_goals grind
end
section
variable {g gl gp gj gh gr gd g1 g2 g4 g5 g6:Nat}
def qf9:IFn:=⟨[.tmp 2],sq [.r [.m 2 .F],.r [.n 3 0,.w 4 .lss 3 0,.n 5 4,.z 6 0 5,.g 7 (.bin .geq (.t 6) (.k 6)) 5 false,.o 8 5 7,.n 2 8],.ret]⟩
def qH9(hc:qc P f qf9=true)(a:Int):qa P f [.j a] (.b (decide (a<0)||decide (6<=a))):=by
 refine qa.mk hc rfl ?_;simp only[qf9,vI,simprocAttr]
 by_cases h:a<0
 .simp +decide only[↓vS,vT,simprocAttr,h];simp[vZ]
 .simp +decide only[↓vS,vT,simprocAttr,h];simp[vZ]
def jA(a:Nat):IFn:=⟨[.tmp 4],sq [.r [.m 4 .F],.r [.n 5 0,.n 6 1,.l 7 a [.t 5,.t 6],.w 8 .geq 7 0,.n 4 8],.ret]⟩
def qxX{g:Nat}(hc:qc P f (jA g)=true)(h:quL P g)(l:List Int)(k:Nat)(p:Int->Bool)(hk:∀c,qa P k [.j c] (.b (p c)))(hl:l.length<=qi):qa P f [.fz l.length (rI .i64 l),.fn k [] []] (.b (l.any p)):=by
 refine qa.mk hc (by simp[qt,clo,qh]) ?_;simp only[jA,vI,simprocAttr];simp only[↓vS,vT,simprocAttr];refine(h (λx:Int=>.j x) p k [] [] l rfl rfl hl λx _=>hk x).sc ?_
 simp only[↓vS,vT,simprocAttr];simp[vZ,<- qlC p l 0]
def qFh(hc:qc P f (qhU g1 g2 gl g4 g5 g6 gj gh gr gd)=true)(W:WFn P g gl gp gj gh gr)(hd:qc P gd zg=true)(hj:qc P g qP=true)(c6:qqk P g6)(c1:∀l:List Int,l.length<=qi->qa P g1 [.fz l.length (rI .i64 l),.fn g2 [] []] (.b (l.any λa=>decide (a<0)||decide (6<=a))))
  (c4:∀(l:List Int) (x:Int),l.length<=qi->qa P g4 [.fz l.length (rI .i64 l),.j x] (.b (decide (x ∈ l)))) (c5:qa P g5 [] (.fz 6 (rI .i64 [0,1,2,3,4,5]))) (l:List Int) (hl:l.length<=qi) :
  qa P f [.fz l.length (rI .i64 l)] (.tup [.fz (gdA l).1.length (rSy (gdA l).1),.j (gdA l).2]):=by
 refine qa.mk hc (by simp[qt,clo,qh]) ?_;have e1:=c1 l hl;simp only[qhU,vI,simprocAttr];unfold gdA qmv
 by_cases h:l.length=0
 .have h':((l.length:Int)=0)=True:=eq_true (by omega);have hn:l=[]:=by simp_all
  rw[hn];simp +decide only[↓vS,vT,simprocAttr];simp[vZ,rSy]
 .have h':((l.length:Int)=0)=False:=eq_false (by omega);have hn:decide (l=[])=false:=by simp_all
  rw[hn,Bool.false_or];simp +decide only[↓vS,vT,simprocAttr,h'];refine e1.sc ?_;cases hb:l.any λa=>decide (a<0)||decide (6<=a)with
  | true =>
   simp +decide only[↓vS,vT,simprocAttr];simp[vZ,rSy]
  | false =>
   simp +decide only[↓vS,vT,simprocAttr];refine qvL l W hd hj c6 (λx=>c4 l x hl) c5 rfl (Wk.mk _ _ [] ?_ ?_ ?_ rfl)
   .simp[vw,qh]
   .trivial
   .simp
end
end Go.Kc
end
section
namespace Go.Kc
def qjB:List Int:=[3221225534,1073741827,1073741864,3221225655,3221225715]
def evG(R:List Sy)(c:Int)(z:Bool):Nat->Nat->Nat->Option Int
 | 0,_,_=>none
 | n+1,p,w=>match R[p]? with
  | none=>none
  | some s=>if s.code=32 then(if s.k=4 then evG R c z n (p+1) 1 else if s.k=0 then evG R c z n (p+1) 2 else none)
   else if s.code=6 then some s.k
   else if s.code=21 then(if w=1/\qjB.contains s.k=true then evG R c z n (if c=s.k then s.th else s.el) w else none)
   else if s.code=69 then(if w=2/\s.k=1073741824 then evG R c z n (if z=true then s.th else s.el) w else none)
   else none
def qjM{R:List Sy}{d:GData}{c:Int}{z:Bool}(hc:∀K ∈ qjB,(d.arch=K↔c=K))(hz:z=decide (0<xS .u32 d.nr 1073741824)):∀(n p w:Nat) (a r:Int),(w=1->a=d.arch)->(w=2->a=d.nr)->evG R c z n p w=some r->Ev R d p a r
 | 0,p,w,a,r,_,_,h=>by simp[evG]at h
 | n+1,p,w,a,r,h1,h2,h=>by
  unfold evG at h;cases hs:R[p]? with
  | none=>rw[hs]at h;cases h
  | some s =>
   rw[hs]at h;simp only at h;split at h
   .rename_i e;split at h
    .rename_i e4;exact .ld p a r s hs e (qjM hc hz n _ 1 _ r (λ_=>by rw[e4];rfl) (by omega) h)
    split at h
    .rename_i e0;exact .ld p a r s hs e (qjM hc hz n _ 2 _ r (by omega) (λ_=>by rw[e0];rfl) h)
    .cases h
   split at h
   .rename_i e;cases h;exact .rt p a s hs e
   split at h
   .rename_i e;split at h
    .rename_i hw
     have ek:qbD s.code a s.k=decide (c=s.k):=by
      rw[e,h1 hw.1];unfold qbD;rw[if_pos rfl];exact by simp_all
     refine .jc p a r s hs (.inl e) ?_;rw[ek];simp only[decide_eq_true_eq];exact qjM hc hz n _ w a r h1 h2 h
    .cases h
   split at h
   .rename_i e;split at h
    .rename_i hw
     have ek:qbD s.code a s.k=z:=by
      rw[e,h2 hw.1,hw.2,hz];rfl
     refine .jc p a r s hs (.inr (.inr (.inr e))) ?_;rw[ek];exact qjM hc hz n _ w a r h1 h2 h
    .cases h
   grind
instance {s:Sy} {j n:Nat}:Decidable (qfq s j n):=by unfold qfq qd7;infer_instance
def qDp(R:List Sy):Bool:=decide (0<R.length)&&decide (R.length<=10)&&decide ((R.getD (R.length-1) ⟨0,0,0,0⟩).code=6)&&(List.range R.length).all (λj=>decide (qfq (R.getD j ⟨0,0,0,0⟩) j R.length))&&R.all λx=>decide (0<=x.k/\x.k<=4294967295)
def qqG(c:Int)(z:Bool):Option Nat:=if c=3221225534 then some (if z=true then 2 else 0)else if c=1073741827 then some 1 else if c=1073741864 then some 3 else if c=3221225655 then some 4 else if c=3221225715 then some 5 else none
def qju(m:Nat->Bool)(o:Option Nat):Int:=match o with
 | some a=>if m a=true then 2147418112 else 2147483648
 | none=>2147483648
def okG(m:Nat->Bool):Bool:=qDp (gdR m)&&((-1)::qjB).all λc=>[false,true].all λz=>decide (evG (gdR m) c z 16 0 0=some (qju m (qqG c z)))
def mkG(m0 m1 m2 m3 m4 m5:Bool)(i:Nat):Bool:=match i with|0=>m0|1=>m1|2=>m2|3=>m3|4=>m4|_=>m5
def qGm:Bool:=[false,true].all λm0=>[false,true].all λm1=>[false,true].all λm2=>[false,true].all λm3=>[false,true].all λm4=>[false,true].all λm5=>!(m0||m1||m2||m3||m4||m5)||okG (mkG m0 m1 m2 m3 m4 m5)
def qx7:qGm=true:=by kernel_rfl
section
variable {m m':Nat->Bool}
def qmW{b:Bool}{A:Nat}:∀{i:Nat},(∀j,j<i->m j=m' j)->gdE m b A i=gdE m' b A i/\gdL m b i=gdL m' b i
 | 0,_=>⟨rfl,rfl⟩
 | i+1,h=>by
  have h1:=qmW (b:=b) (A:=A) (i:=i) (by grind);have h2:=h i (by omega);unfold gdE gdL;rw[h1.1,h1.2,h2];simp_all
def qs4(h:∀j,j<6->m j=m' j):gdR m=gdR m':=by
 have hb:(m 0&&m 2)=(m' 0&&m' 2):=by rw[h 0 (by omega),h 2 (by omega)]
 have e:∀b A,gdE m b A 6=gdE m' b A 6/\gdL m b 6=gdL m' b 6:=λb A=>qmW h
 unfold gdR gdY gdK;rw[hb];simp only[(e _ _).1,(e _ 0).2]
def qDS(h:(m 0||m 1||m 2||m 3||m 4||m 5)=true):qDp (gdR m)=true/\∀c ∈ (-1)::qjB,∀z:Bool,evG (gdR m) c z 16 0 0=some (qju m (qqG c z)):=by
 have hb:∀b:Bool,b ∈ [false,true]:=by decide
 have h0:=qx7;unfold qGm at h0;have h1:=List.all_eq_true.1 (List.all_eq_true.1 (List.all_eq_true.1 (List.all_eq_true.1 (List.all_eq_true.1 (List.all_eq_true.1 h0 (m 0) (hb _)) (m 1) (hb _)) (m 2) (hb _)) (m 3) (hb _)) (m 4) (hb _)) (m 5) (hb _);rw[h]at h1;have h2:okG (mkG (m 0) (m 1) (m 2) (m 3) (m 4) (m 5))=true:=by simpa using h1
 have em:∀j,j<6->mkG (m 0) (m 1) (m 2) (m 3) (m 4) (m 5) j=m j:=λj hj=>by
  match j,hj with
  | 0,_=>rfl
  | 1,_=>rfl
  | 2,_=>rfl
  | 3,_=>rfl
  | 4,_=>rfl
  | 5,_=>rfl
 unfold okG at h2;rw[qs4 em,zzB]at h2;refine⟨h2.1,λc hc z=>?_⟩
 have h3:=List.all_eq_true.1 (List.all_eq_true.1 h2.2 c hc) z (hb z);rw[decide_eq_true_eq]at h3;rw[h3]
 have es:∀o:Option Nat,(∀a,o=some a->a<6)->qju (mkG (m 0) (m 1) (m 2) (m 3) (m 4) (m 5)) o=qju m o:=λo ho=>by
  cases o with
  | none=>rfl
  | some a=>unfold qju;simp only;rw[em a (ho a rfl)]
 rw[es];intro a ha;unfold qqG at ha
 repeat' split at ha
 all_goals grind
end
def qzW(t n:Int):ofM t n=if t=3221225534 then(if xS .u32 n 1073741824≠0 then(2,true)else(0,true))else if t=1073741827 then(1,true)else if t=1073741864 then(3,true)else if t=3221225655 then(4,true)else if t=3221225715 then(5,true)else(0,false):=by
 unfold ofM
 by_cases h1:t=3221225534
 .simp[h1,zH,xq]
 by_cases h2:t=1073741827
 .simp[h2,zH,xq]
 by_cases h3:t=1073741864
 .simp[h3,zH,xq]
 by_cases h4:t=3221225655
 .simp[h4,zH,xq]
 by_cases h5:t=3221225715
 .simp[h5,zH,xq]
 simp only[h1,h2,h3,h4,h5,zH,xq,eq_comm (b:=t),if_false];simp
def gdM(l:List Int)(d:GData):Int:=if(ofM d.arch d.nr).2=true/\(ofM d.arch d.nr).1 ∈ l then 2147418112 else 2147483648
def qrp(l:List Int)(d:GData){c:Int}(hc:(d.arch=c/\c ∈ qjB)\/(c = -1/\d.arch ∉ qjB)):qju (gdT l) (qqG c (decide (0<xS .u32 d.nr 1073741824)))=gdM l d:=by
 unfold gdM;rw[qzW];have hz:0<=xS .u32 d.nr 1073741824:=qq2 _ _;generalize xS .u32 d.nr 1073741824=z at hz;rcases hc with⟨e,hm⟩|⟨rfl,hm⟩
 .subst e;simp only[qjB,List.mem_cons,List.not_mem_nil,or_false]at hm
  by_cases h0:z=0
  .rcases hm with e|e|e|e|e<;>simp[e,h0,qqG,qju,gdT]
  .have h1:0<z:=by omega
   rcases hm with e|e|e|e|e<;>simp[e,h0,h1,qqG,qju,gdT]
 .simp only[qjB,List.mem_cons,List.not_mem_nil,or_false,not_or]at hm;obtain⟨h1,h2,h3,h4,h5⟩:=hm;simp[h1,h2,h3,h4,h5,qqG,qju]
def qBW{l:List Int}(h:qmv l=false):(gdT l 0||gdT l 1||gdT l 2||gdT l 3||gdT l 4||gdT l 5)=true:=by
 cases l with
 | nil=>cases h
 | cons a l =>
  have h1:¬a<0/\¬6<=a:=by
   simp only[qmv,List.any_cons,Bool.or_eq_false_iff,decide_eq_false_iff_not]at h;exact h.2.1
  have e:∀i:Nat,(i:Int)=a->gdT (a::l) i=true:=λi hi=>by unfold gdT;rw[hi];simp
  have ha:a=0\/a=1\/a=2\/a=3\/a=4\/a=5:=by omega
  grind
theorem qqw{l:List Int}(h:qmv l=false):MayL (gdR (gdT l))/\jN (gdR (gdT l))/\(gdR (gdT l)).length<=10/\∀d,DatOk d->Ev (gdR (gdT l)) d 0 0 (gdM l d):=by
 obtain⟨h1,h2⟩:=qDS (qBW h);generalize hR:gdR (gdT l)=R at h1 h2;unfold qDp at h1;simp only[zzB,decide_eq_true_eq,List.all_eq_true]at h1;obtain⟨⟨⟨⟨p1,p2⟩,p3⟩,p4⟩,p5⟩:=h1;have gd:∀(j:Nat) s,R[j]?=some s->R.getD j ⟨0,0,0,0⟩=s:=λj s hj=>by rw[List.getD_eq_getElem?_getD,hj];rfl
 refine⟨⟨p1,by omega,⟨_,zzE (by omega),?_⟩,λj s hj=>?_⟩,λx hx=>p5 x hx,p2,λd hd=>?_⟩
 .rw[gd _ _ (zzE (by omega:R.length-1<R.length))]at p3;exact p3
 .have:=p4 j (List.mem_range.2 (zzS.1 hj).1);rw[gd _ _ hj]at this;exact this
 .by_cases hm:d.arch ∈ qjB
  .rw[<- qrp l d (.inl ⟨rfl,hm⟩)];exact qjM (λK _=>Iff.rfl) rfl 16 0 0 0 _ (λq=>by cases q) (λq=>by cases q) (h2 d.arch (List.mem_cons_of_mem _ hm) _)
  .rw[<- qrp l d (.inr ⟨rfl,hm⟩)];refine qjM (c:=-1) (λK hK=>⟨λe=>absurd (e ▸ hK) hm,λe=>?_⟩) rfl 16 0 0 0 _ (λq=>by cases q) (λq=>by cases q) (h2 (-1) (List.mem_cons_self ..) _)
   subst e;exact absurd hK (by decide)
end Go.Kc
end
section
namespace Go.Kc
variable {P:Program} {f:Nat}
noncomputable def gdC(l:List Int)(o:Bool):List Ins×Int:=qnX (gdA l).1 (gdA l).2 o
section
variable {l:List Int}
def qqu(h:qmv l=true)(o:Bool):gdC l o=([],2):=by
 unfold gdC gdA qnX qhI qip qcl;rw[if_pos h];simp
def qGV(h:qmv l=false)(o:Bool):(gdC l o).2=0/\PrgT (gdC l o).1 10 (gdM l):=by
 obtain⟨h1,h2,h3,h4⟩:=qqw h;have e:gdA l=(gdR (gdT l),0):=by unfold gdA;rw[if_neg (by rw[h];simp)]
 have eu:qhI (gdA l).1 (gdA l).2=zD (gdR (gdT l)):=by rw[e];simp only[qhI,if_true]
 have eo:qip (gdA l).1 (gdA l).2=zD (qbQ (gdR (gdT l))):=by rw[e];simp only[qip,if_true]
 have tu:qmt (qhI (gdA l).1 (gdA l).2) 10 (gdM l):=by rw[eu];simp_all[qn4]
 have to:qmt (qip (gdA l).1 (gdA l).2) 10 (gdM l):=by rw[eo];grind[qn4,qhy,qkX,qrM,qwR]
 have:qmt (gdC l o) 10 (gdM l):=by
  unfold gdC qnX;grind[qsb]
 exact this.resolve_left (by omega)
end
def qoP(P:Program)(g:Nat):Prop:=∀l:List Int,l.length<=qi->∀o:Bool,qa P g [.fz l.length (rI .i64 l),.b o] (.tup [.fz (gdC l o).1.length (rP (gdC l o).1),.j (gdC l o).2])
def qJv{gd gwG gwO gwL gs gG gO gL:Nat}(hc:qc P f (qcd gwG gwL gd gwO gs)=true)(hd:qc P gd qM=true)(hG:qc P gwG (zQ gG)=true)(hO:qc P gwO (za gO)=true)(hL:qc P gwL (qL gL)=true)
  (hs:qc P gs xV=true) (c1:∀l:List Int,l.length<=qi->qa P gG [.fz l.length (rI .i64 l)] (.tup [.fz (gdA l).1.length (rSy (gdA l).1),.j (gdA l).2])) (c3:qyE P gO) (c4:qrb P gL):qoP P f:=λl hl o=>by
 have ok:(gdA l).2=0->MayL (gdA l).1:=λh=>by
  unfold gdA at h ⊢
  grind[qqw]
 exact qqA hc hd hG hO hL hs ⟨by simp[clo,qh],rfl,rfl,rfl⟩ ⟨c1 l hl,λh=>c4 _ (ok h),λh=>c3 _ (ok h),λh=>c4 _ (qhy (ok h))⟩ o
def qtc{b:Bool}{ρ:Ren}{zy:List Value}(h:VRs σ0 ρ [.nils,.b b] zy):VRs σ0 ρ [.fz 0 [],.b b] zy:=by
 cases h with
 | cons _ _ _ _ h1 hs=>cases h1 with
  | nils=>exact .cons _ _ _ _ (.fz0 none) hs
theorem qoP.nil{g:Nat}(h:qoP P g)(o:Bool):qa P g [.nils,.b o] (.tup [.fz 0 [],.j 2]):=λhp k hk=>by
 have:=h [] (Nat.zero_le _) o;rw[qqu rfl o]at this;exact SC.args (this hp k hk) λ_ _=>qtc
section
variable {g1 g2 g3 g4 g5 g6 g7 g8:Nat}
end
def d29(t n x:Int):GData:=⟨n,t,0,x,0,0,0,0,0⟩
def qu9{t n x:Int}(h:decide (0<=t/\t<=4294967295/\0<=n/\n<=4294967295/\0<=x/\x<18446744073709551616)=true):DatOk (d29 t n x):=by
 obtain⟨h1,h2,h3,h4,h5,h6⟩:=of_decide_eq_true h;refine⟨h3,h4,h1,h2,λy hy=>?_⟩
 simp only[qmB,d29,List.mem_cons,List.not_mem_nil,or_false]at hy;rcases hy with rfl|rfl|rfl|rfl|rfl|rfl|rfl<;>first|exact⟨h5,h6⟩|exact⟨by decide,by decide⟩
abbrev Pt:=Int×Int×GFil
def qmq:GFil:=⟨0,[],0⟩
noncomputable def qdW(p:Pol)(d a:Nat):List Pt:=match qfp p (d:Int) (a:Int)with|some x=>[((d:Int),(a:Int),x)]|none=>[]
noncomputable def qeW(p:Pol):List Pt:=if 0<p.arches.length then [(0,6,qmq)]else []
noncomputable def qc1(p:Pol)(d a:Nat):List Pt:=qeW p++((List.range d).flatMap λd=>(List.range 6).flatMap λa=>qdW p d a)++(List.range a).flatMap λa=>qdW p d a
noncomputable def qG(p:Pol):List Pt:=qc1 p 8 0
def qn8(p:Pol)(d a:Nat):qc1 p d (a+1)=qc1 p d a++qdW p d a:=by
 unfold qc1;rw[List.range_succ (n:=a),List.flatMap_append,<- List.append_assoc];simp
def qlX(p:Pol)(d:Nat):qc1 p (d+1) 0=qc1 p d 6:=by
 unfold qc1;rw[List.range_succ (n:=d),List.flatMap_append];simp
def qnd(p:Pol)(d a:Nat):(qdW p d a).length<=1:=by unfold qdW;split<;>simp
def qlY(p:Pol):∀d a,(qc1 p d a).length<=1+6*d+a
 | d,a+1=>by
  have h1:=qlY p d a;have h2:=qnd p d a;rw[qn8,zzP];omega
 | d+1,0=>by
  have h1:=qlY p d 6;rw[qlX];omega
 | 0,0=>by
  unfold qc1 qeW;split<;>simp
def qAc{p:Pol}{d a:Nat}(hd:d<8)(ha:a<6){q:Pt}(h:q ∈ qdW p d a):q ∈ qG p:=by
 unfold qG qc1
 grind
def qzh{p:Pol}{q:Pt}(h:q ∈ qeW p):q ∈ qG p:=List.mem_append_left _ (by simp_all)
noncomputable def qas(p:Pol)(o:Bool)(q:Pt):List Ins×Int:=if q.1=0 then gdC p.arches o else qbZ q.2.2 o
noncomputable def toP(p:Pol)(o:Bool)(q:Pt):Prg:=⟨q.1,q.2.1,(qas p o q).1⟩
noncomputable def qbw(p:Pol)(o:Bool):List Prg×Int :=
 if qhK p=true then(if ∀q ∈ qG p,(qas p o q).2=0 then((qG p).map (toP p o),0)else([],270))else([],2)
def qgW(a:Nat):IFn:=⟨[.tmp 2],sq [.r [.q 1 (.box (.t 0)),.m 2 (.c (.nilf))],.r [.q 3 (.mkF a [] [.t 1]),.n 2 3],.ret]⟩
def qHz{g:Nat}(hc:qc P f (qgW g)=true)(p:Pol):qa P f [.agg (qx p)] (.fn g [] [.pf (qx p) 0]):=by
 refine qa.mk hc (by simp[qt,clo,qjJ]) ?_;simp only[qgW,qx,vI,simprocAttr];simp +decide only[↓vS,vT,simprocAttr];simp[vZ,vP,Tr.get_set,zj,qh,qn]
 done
def qaV(a b:Nat):ICode:=sq [.r [.m 19 (.k 0)],.blk 0 (.loop (sq [.r [.w 20 .lss 19 8],.cond (.t 20) (.skip) (.exit 0),.blk 1 (sq [.r [.n 21 19,.n 3 21],.r [.l 22 a [],.e 23 22,.m 24 (.k 0)],.blk 2 (.loop (sq [.r [.s 25 24 23],.cond (.t 25) (.skip) (.exit 2),.blk 3 (sq [.r [.i 26 1 22 24,.d 27 26,.n 5 27],.r [.v 29 13 1,.n 30 3,.n 31 5,.l 32 b [.t 29,.t 30,.t 31],.n 28 32,.x 33 28 0,.x 34 28 1,.q 6 (.alloc [.j 0,.nils,.w 0]),.u (.store 3 (.t 6) (.t 33)),.n 7 34],.r [.n 35 7,.n 36 35,.y 37 0 36,.y 38 3 36,.y 39 5 36,.g 40 (.loadN 3 (.t 6)) 36 true,.g 41 (.build [.j 0,.j 0,.j 0,.nils,.w 0] [(0,1,(.t 38)),(1,1,(.t 39)),(2,3,(.t 40))]) 36 true,⟨(some 42),.callV (.t 37) [.t 41],(some (36,true))⟩,.g 43 (.un .not (.t 42)) 36 true,.p 44 36 43],.cond (.t 44) (.ret) (.skip)]),.r [.a 45 24 1,.n 24 45]]))]),.r [.a 46 19 1,.n 19 46]]))]
def qci(a b:Nat):IFn:=⟨[],sq [sq [.r [.f 8 0 1,.d 9 8,.e 10 9,.w 11 .gtr 10 0,.n 12 11,.y 13 0 12,.g 14 (.build [.j 0,.nils,.w 0] []) 12 true,.g 15 (.build [.j 0,.j 0,.j 0,.nils,.w 0] [(0,1,(.k 0)),(1,1,(.k 6)),(2,3,(.t 14))]) 12 true,⟨(some 16),.callV (.t 13) [.t 15],(some (12,true))⟩,.g 17 (.un .not (.t 16)) 12 true,.p 18 12 17],.cond (.t 18) (.ret) (.skip)],.cut (qaV a b)]⟩
def qeo(a b c d:Nat):ICode:=sq [.r [.d 44 6,.u (.store 1 (.t 4) (.t 44)),.u (.store 1 (.t 5) (.k 0))],.ret]
def qgT(a b c d:Nat):IFn:=⟨[.cell 4 1 false,.cell 5 1 false],sq [.r [.q 2 (.box (.t 0)),.q 3 (.box (.t 1)),.q 4 (.alloc [.nils]),.q 5 (.alloc [.j 0])],sq [.r [.v 10 13 2,.l 11 a [.t 10],.q 12 (.un .not (.t 11))],.cond (.t 12) (sq [.r [.u (.store 1 (.t 4) .N),.u (.store 1 (.t 5) (.k 2))],.ret]) (.skip)],.r [.q 6 (.alloc [.nils])],sq [.r [.v 13 13 2,.l 14 b [.t 13]],.blk 0 (.rangeF 0 (.t 14) [15] (.r [.q 7 (.alloc [.j 0,.j 0,.j 0,.nils,.w 0]),.u (.store 5 (.t 7) (.t 15))]) (.blk 1 (.seq (.r [.m 8 .N]) (.seq (.r [.m 9 (.k 0)]) (.seq (.seq (.r [.f 16 0 7,.d 17 16,.w 18 .eql 17 0]) (.cond (.t 18) (.r [.f 20 0 2,.d 21 20,.d 22 3,.l 23 c [.t 21,.t 22],.n 19 23,.x 24 19 0,.x 25 19 1,.n 8 24,.n 9 25]) (.r [.f 27 2 7,.v 28 3 27,.d 29 3,.l 30 d [.t 28,.t 29],.n 26 30,.x 31 26 0,.x 32 26 1,.n 8 31,.n 9 32]))) (.seq (.seq (.r [.n 33 9,.w 34 .neq 33 0]) (.cond (.t 34) (.seq (.r [.u (.store 1 (.t 4) .N),.u (.store 1 (.t 5) (.k 270))]) (.ret)) (.skip))) (.r [.d 35 6,.f 36 0 7,.d 37 36,.f 38 1 7,.d 39 38,.n 40 8,.q 41 (.build [.j 0,.j 0,.nils] [(0,1,(.t 37)),(1,1,(.t 39)),(2,1,(.t 40))]),.q 42 (.buildS 1 [.j 0,.j 0,.nils] [(0,3,(.t 41))]),.q 43 (.app 3 40 true (.t 35) (.t 42)),.u (.store 1 (.t 6) (.t 43))])))))))],.cut (qeo a b c d)]⟩
def buT(g:Nat)(p:Pol):List (Nat×AV):=[(2,.ptr 0 0),(3,.ptr 1 0),(4,.ptr 2 0),(5,.ptr 3 0),(6,.ptr 4 0),(14,.fn g [] [.pf (qx p) 0])]
def buA:ICode:=.r [.q 7 (.alloc [.j 0,.j 0,.j 0,.nils,.w 0]),.u (.store 5 (.t 7) (.t 15))]
def buB(a b:Nat):ICode:=.blk 1 (sq [.r [.m 8 .N],.r [.m 9 (.k 0)],sq [.r [.f 16 0 7,.d 17 16,.w 18 .eql 17 0],.cond (.t 18) (.r [.f 20 0 2,.d 21 20,.d 22 3,.l 23 a [.t 21,.t 22],.n 19 23,.x 24 19 0,.x 25 19 1,.n 8 24,.n 9 25]) (.r [.f 27 2 7,.v 28 3 27,.d 29 3,.l 30 b [.t 28,.t 29],.n 26 30,.x 31 26 0,.x 32 26 1,.n 8 31,.n 9 32])],sq [.r [.n 33 9,.w 34 .neq 33 0],.cond (.t 34) (sq [.r [.u (.store 1 (.t 4) .N),.u (.store 1 (.t 5) (.k 270))],.ret]) (.skip)],.r [.d 35 6,.f 36 0 7,.d 37 36,.f 38 1 7,.d 39 38,.n 40 8,.q 41 (.build [.j 0,.j 0,.nils] [(0,1,(.t 37)),(1,1,(.t 39)),(2,1,(.t 40))]),.q 42 (.buildS 1 [.j 0,.j 0,.nils] [(0,3,(.t 41))]),.q 43 (.app 3 40 true (.t 35) (.t 42)),.u (.store 1 (.t 6) (.t 43))]])
def BuI(p:Pol)(o:Bool)(g:Nat)(r0:Loop)(out:List Prg)(s:Nat)(tr:Tr Blk):Prop :=
 ∃bb,7<=s/\tr.get 0=some (.v (qx p))/\tr.get 1=some (.v [.b o])/\tr.get 2=some (.v [.nils])/\tr.get 3=some (.v [.j 0])/\tr.get 4=some (.v [.own bb out.length])/\tr.get bb=some (.cells 3 true true (rPr out))/\(bb=5\/7<=bb)/\bb<s/\tr.get 6=some (.map (zJ r0 (buT g p)))
theorem BuI.keep{p:Pol}{o:Bool}{g:Nat}{r0:Loop}{out:List Prg}{s s':Nat}{tr tr':Tr Blk}(h:BuI p o g r0 out s tr)(hs:s<=s')(ht:∀c,c<s->tr'.get c=tr.get c):BuI p o g r0 out s' tr':=by
 obtain⟨bb,h7,h0,h1,h2,h3,h4,hb,hb5,hbs,h6⟩:=h;exact⟨bb,by omega,(ht _ (by omega)).trans h0,(ht _ (by omega)).trans h1,(ht _ (by omega)).trans h2,(ht _ (by omega)).trans h3,(ht _ (by omega)).trans h4,(ht _ hbs).trans hb,hb5,by omega,(ht _ (by omega)).trans h6⟩
def BuE(p:Pol)(g:Nat)(r0:Loop)(s:Nat)(tr:Tr Blk):Prop :=
 7<=s/\tr.get 2=some (.v [.nils])/\tr.get 3=some (.v [.j 270])/\tr.get 6=some (.map (zJ (dne r0 .ret) (buT g p)))
def qoM{gG gC g s:Nat}{p:Pol}{o:Bool}{out:List Prg}{r0:Loop}{tr:Tr Blk}{k:AV->Hp->Prop}(hG:qoP P gG)(hC:qmI P gC)(hr0:r0.state = .ready)(hp0:r0.pending=none)(hlo:LoopOk P r0 [15] buA (buB gG gC))(hp:PolOk p)
  (hI:BuI p o g r0 out s tr) (d a:Int) (x:GFil) {c:List AV} (hcc:c=zq x\/d=0/\c=[.j 0,.nils,.w 0]) (hR:FilR x) (hl:qjG x) (hm:out.length<=1000)
  (hk:(qas p o (d,a,x)).2=0->∀s' tr',BuI p o g r0 (out++[toP p o (d,a,x)]) s' tr'->k (.b true) ⟨s',0,tr'⟩)
  (hx:(qas p o (d,a,x)).2≠0->∀s' tr',BuE p g r0 s' tr'->k (.b false) ⟨s',0,tr'⟩):SY P 6 [.agg (.j d :: .j a::c)] ⟨s,0,tr⟩ k:=by
 rcases hcc with rfl|⟨hd,rfl⟩
 all_goals
  obtain⟨bb,hs,h0,h1,h2,h3,h4,hb,hb5,hbs,h6⟩:=hI;have hpa:=hp.a;refine SY.mk (r:=r0) (ts:=buT g p) (ps:=[15]) h6 hr0 hlo (Nat.zero_le _) (by show 6<s;omega) rfl ?_;rw[show mkT (buT g p)=(((((Tr.leaf.set 14 (.fn g [] [.pf (qx p) 0])).set 6 (.ptr 4 0)).set 5 (.ptr 3 0)).set 4 (.ptr 2 0)).set 3 (.ptr 1 0)).set 2 (.ptr 0 0)from rfl]
  refine qk ?_;simp only[qkB,buA,zq,vI,simprocAttr];simp +decide only[↓vS,vT,simprocAttr];have n6:¬6=s:=by omega
  have n0:¬0=s:=by omega
  have n1:¬1=s:=by omega
  have n2:¬2=s:=by omega
  have n3:¬3=s:=by omega
  have n4:¬4=s:=by omega
  have nb:¬bb=s:=by omega
  have ns6:¬s=6:=by omega
  have nb6:¬bb=6:=by omega
  have n4b:¬4=bb:=by omega
  refine⟨buT g p,by simp[Tr.get_set,n6,h6],?_⟩
  refine qk ?_;simp only[qB,buB,vI,simprocAttr];simp +decide only[↓vS,vT,simprocAttr,ns6];obtain⟨L,e,hLe⟩:∃L e,qas p o (d,a,x)=(L,e):=⟨_,_,rfl⟩;have eT:toP p o (d,a,x)=⟨d,a,L⟩:=by simp only[toP,hLe]
  rw[eT]at hk;simp only[hLe]at hk hx;have hlp:=qr0 out;have hap:rPr out++[.j d,.j a,.fz L.length (rP L)]=rPr (out++[⟨d,a,L⟩]):=by rw[qAi];rfl
  have hr1:out.length+1<=qi:=by simp only[qi];omega
  have hr2:(out.length+1)*40<=qi:=by simp only[qi];omega
  have nb1:¬bb=s+1:=by omega
  have n41:¬4=s+1:=by omega
  have n61:¬6=s+1:=by omega
  have ns2:¬s=2:=by omega
  have ns4:¬s=4:=by omega
  by_cases k1:d=0
  .have h:=hG p.arches (by simp only[qi];omega) o;rw[show gdC p.arches o=(L,e)by rw[<- hLe];exact(if_pos k1).symm]at h
   subst k1;simp +decide only[↓vS,vT,simprocAttr,h0,h1,n0,n1,qx];refine h.sc ?_
   by_cases he:e=0
   .subst he;simp +decide only[↓vS,vT,simprocAttr,h4,hb,n4,nb,n4b,nb6,ns6,nb1,n41,ns2,hr1,hr2,hlp,hap,zzU];refine⟨Go.Kc.bsy r0,buT g p,by simp[Tr.get_set,n6,h6,nb6,Ne.symm nb6,n61,ns4],?_⟩
    rw[qey,qfX hr0 hp0];simp only[qB];simp +decide only[↓vS,vT,simprocAttr];refine hk rfl _ _ ⟨s+1+1,by omega,?_,?_,?_,?_,?_,?_,.inr (by omega),by omega,?_⟩<;>simp (decide:=true) [Tr.get_set,zzP]
    all_goals (repeat rw[if_neg (by omega)])
    all_goals assumption
   .simp +decide only[↓vS,vT,simprocAttr,he,h2,h3,n2,n3,ns6];refine⟨Go.Kc.bsy r0,buT g p,by simp[Tr.get_set,n6],?_⟩
    simp only[qB];simp +decide only[↓vS,vT,simprocAttr];refine hx he _ _ ⟨by omega,?_,?_,?_⟩<;>simp[Tr.get_set,Go.Kc.bsy,dne]
  .try exact absurd hd k1
   all_goals
    have h:=hC x hR hl o;rw[show qbZ x o=(L,e)by rw[<- hLe];exact(if_neg k1).symm]at h
    simp only[zq]at h;simp +decide only[↓vS,vT,simprocAttr,h1,n1,k1];refine h.sc ?_
    by_cases he:e=0
    .subst he;simp +decide only[↓vS,vT,simprocAttr,h4,hb,n4,nb,n4b,nb6,ns6,nb1,n41,ns2,hr1,hr2,hlp,hap,zzU];refine⟨Go.Kc.bsy r0,buT g p,by simp[Tr.get_set,n6,h6,nb6,Ne.symm nb6,n61,ns4],?_⟩
     rw[qey,qfX hr0 hp0];simp only[qB];simp +decide only[↓vS,vT,simprocAttr];refine hk rfl _ _ ⟨s+1+1,by omega,?_,?_,?_,?_,?_,?_,.inr (by omega),by omega,?_⟩<;>simp (decide:=true) [Tr.get_set,zzP]
     all_goals grind
    .simp +decide only[↓vS,vT,simprocAttr,he,h2,h3,n2,n3,ns6];refine⟨Go.Kc.bsy r0,buT g p,by grind[Tr.get_set],?_⟩
     simp only[qB];simp +decide only[↓vS,vT,simprocAttr];refine hx he _ _ ⟨by omega,?_,?_,?_⟩<;>simp[Tr.get_set,Go.Kc.bsy,dne]
def qHC(a:Nat):ICode:=sq [.r [.s 25 24 23],.cond (.t 25) (.skip) (.exit 2),.blk 3 (sq [.r [.i 26 1 22 24,.d 27 26,.n 5 27],.r [.v 29 13 1,.n 30 3,.n 31 5,.l 32 a [.t 29,.t 30,.t 31],.n 28 32,.x 33 28 0,.x 34 28 1,.q 6 (.alloc [.j 0,.nils,.w 0]),.u (.store 3 (.t 6) (.t 33)),.n 7 34],.r [.n 35 7,.n 36 35,.y 37 0 36,.y 38 3 36,.y 39 5 36,.g 40 (.loadN 3 (.t 6)) 36 true,.g 41 (.build [.j 0,.j 0,.j 0,.nils,.w 0] [(0,1,(.t 38)),(1,1,(.t 39)),(2,3,(.t 40))]) 36 true,⟨(some 42),.callV (.t 37) [.t 41],(some (36,true))⟩,.g 43 (.un .not (.t 42)) 36 true,.p 44 36 43],.cond (.t 44) (.ret) (.skip)]),.r [.a 45 24 1,.n 24 45]]
def qHD{gG gC gL g s n0:Nat}{p:Pol}{o:Bool}{r0:Loop}{tr:Tr Blk}{t:Tr AV}{Q:X->Tr AV->Hp->Prop}(hL:qyC P gL)(hG:qoP P gG)(hC:qmI P gC)(hr0:r0.state = .ready)(hp0:r0.pending=none)(hlo:LoopOk P r0 [15] buA (buB gG gC))
  (hp:PolOk p) (hR:PolR p) (hF:∀d a x,qfp p d a=some x->FilR x/\qjG x) {d:Nat} (hlt:d<8) (ht:Has t [(0,.yl 6),(1,.pf (qx p) 0),(3,.j (d:Int)),(19,.j (d:Int)),(22,.fz 6 (rI .i64 [0,1,2,3,4,5])),(23,.j 6),(24,.j 0)])
  (hh:∀q ∈ qc1 p d 0,(qas p o q).2=0) (hI:BuI p o g r0 ((qc1 p d 0).map (toP p o)) s tr)
  (hk:∀t' s' tr',Has t' [(0,.yl 6),(1,.pf (qx p) 0),(19,.j (d:Int))]->(∀q ∈ qc1 p (d+1) 0,(qas p o q).2=0)->BuI p o g r0 ((qc1 p (d+1) 0).map (toP p o)) s' tr'->Q (.exit 2) t' ⟨s',0,tr'⟩)
  (hx:(¬∀q ∈ qG p,(qas p o q).2=0)->∀t' s' tr',BuE p g r0 s' tr'->Q .ret t' ⟨s',0,tr'⟩):SL P n0 (qHC gL) Q t ⟨s,0,tr⟩:=by
 refine SL.loopP (α:=Nat) (λa=>[(0,.yl 6),(1,.pf (qx p) 0),(3,.j (d:Int)),(19,.j (d:Int)),(22,.fz 6 (rI .i64 [0,1,2,3,4,5])),(23,.j 6),(24,.j (a:Int))]) (λa h=>a<=6/\∃s tr,h=⟨s,0,tr⟩/\(∀q ∈ qc1 p d a,(qas p o q).2=0)/\BuI p o g r0 ((qc1 p d a).map (toP p o)) s tr) (λa=>6-a) ?_ 0 ht (by grind)
 rintro a h ⟨ha,s,tr,rfl,hq,hI⟩ G2 ih2;simp only[qHC,vI,simprocAttr]
 by_cases hla:a<6
 .have hla':(a:Int)<6:=by omega
  have hwa:IntKind.wrap .i64 ((a:Int)+1)=((a+1:Nat):Int):=by rw[qp (by omega) (by omega)];omega
  have hax:([0,1,2,3,4,5]:List Int)[a]?=some (a:Int):=by
   have:a=0\/a=1\/a=2\/a=3\/a=4\/a=5:=by omega
   rcases this with rfl|rfl|rfl|rfl|rfl|rfl<;>rfl
  have h2:=hL p hp hR d a;simp only[qx]at h2;simp +decide only[↓vS,vT,simprocAttr,qx,hla,hla',zzU,qaW,hax,Option.map_some];refine h2.sc ?_;have e2:=qn8 p d a;have hln:=qlY p d a;have hin:=λq (h:q ∈ qdW p d a)=>qAc hlt hla h
  have hF':=hF d a;cases hlow:qfp p d a with
  | none =>
   have e3:qdW p d a=[]:=by unfold qdW;rw[hlow]
   rw[e3,List.append_nil]at e2;simp +decide only[qnB,↓vS,vT,simprocAttr,hwa];refine ih2 (a+1) _ _ (by omega) (by simp[qg,ql,Tr.get_set]) ⟨by omega,_,_,rfl,by rw[e2];exact hq,by rw[e2];grind[BuI.keep,Tr.get_set]⟩
  | some x =>
   have e3:qdW p d a=[((d:Int),(a:Int),x)]:=by unfold qdW;rw[hlow]
   rw[e3]at e2 hin;obtain⟨f1,f2⟩:=hF' x hlow;simp +decide only[qnB,zq,↓vS,vT,simprocAttr];refine qoM hG hC hr0 hp0 hlo hp (hI.keep (by omega) λc hc=>?_) d a x (.inl rfl) f1 f2 (by rw[List.length_map];omega) (λhe s' tr' hI'=>?_) (λhe s' tr' hE=>?_)
   .grind[Tr.get_set]
   .simp +decide only[↓vS,vT,simprocAttr,hwa];refine ih2 (a+1) _ _ (by omega) (by simp[qg,ql,Tr.get_set]) ⟨by omega,s',tr',rfl,by rw[e2];grind,by rw[e2,List.map_append];grind⟩
   .simp +decide only[↓vS,vT,simprocAttr];exact hx (by grind) _ s' tr' hE
 .obtain rfl:a=6:=by omega
  have hla':¬(((6:Nat):Int)<6):=by decide
  simp +decide only[↓vS,vT,simprocAttr,hla'];exact hk _ s tr (by simp[qg,ql,Tr.get_set]) (by rw[qlX];exact hq) (by rw[qlX];exact hI)
def qpH{gG gC gA gL g s n0:Nat}{p:Pol}{o:Bool}{r0:Loop}{tr:Tr Blk}{t:Tr AV}{k:AV->Hp->Prop}(hA:qa P gA [] (.fz 6 (rI .i64 [0,1,2,3,4,5])))(hL:qyC P gL)(hG:qoP P gG)(hC:qmI P gC)(hr0:r0.state = .ready)(hp0:r0.pending=none)(hlo:LoopOk P r0 [15] buA (buB gG gC))
  (hp:PolOk p) (hR:PolR p) (hF:∀d a x,qfp p d a=some x->FilR x/\qjG x) (t0:t.get 0=some (.yl 6)) (t1:t.get 1=some (.pf (qx p) 0)) (hh:∀q ∈ qeW p,(qas p o q).2=0) (hI:BuI p o g r0 ((qeW p).map (toP p o)) s tr)
  (hk:(∀q ∈ qG p,(qas p o q).2=0)->∀s' tr',BuI p o g r0 ((qG p).map (toP p o)) s' tr'->k (.tup []) ⟨s',0,tr'⟩)
  (hx:(¬∀q ∈ qG p,(qas p o q).2=0)->∀s' tr',BuE p g r0 s' tr'->k (.tup []) ⟨s',0,tr'⟩):S P n0 (qaV gA gL) (xu [] k) t ⟨s,0,tr⟩:=by
 refine S.has [(0,.yl 6),(1,.pf (qx p) 0)] (by simp_all[qg,ql]) (qk ?_);simp only[qaV,vI,simprocAttr];simp +decide only[↓vS,vT,simprocAttr];refine SL.loopP (α:=Nat) (λd=>[(0,.yl 6),(1,.pf (qx p) 0),(19,.j (d:Int))]) (λd h=>d<=8/\∃s tr,h=⟨s,0,tr⟩/\(∀q ∈ qc1 p d 0,(qas p o q).2=0)/\BuI p o g r0 ((qc1 p d 0).map (toP p o)) s tr) (λd=>8-d) ?_ 0 ?_ ?_
 .rintro d h ⟨hd,s,tr,rfl,hq,hI⟩ G ih;simp only[vI,simprocAttr]
  by_cases hlt:d<8
  .have hlt':(d:Int)<8:=by omega
   have hwd:IntKind.wrap .i64 ((d:Int)+1)=((d+1:Nat):Int):=by rw[qp (by omega) (by omega)];omega
   simp +decide only[↓vS,vT,simprocAttr,hlt'];refine hA.sc ?_;simp +decide only[↓vS,vT,simprocAttr];refine qHD hL hG hC hr0 hp0 hlo hp hR hF hlt (by simp[qg,ql,Tr.get_set]) hq hI (λt' s' tr' ht' hq' hI'=>?_) (λhb t' s' tr' hE=>?_)
   .obtain⟨q0,q1,q19⟩:t'.get 0=some (.yl 6)/\t'.get 1=some (.pf (qx p) 0)/\t'.get 19=some (.j (d:Int)):=by grind[qg]
    simp +decide only[↓vS,vT,simprocAttr,q19,hwd];exact ih (d+1) _ _ (by omega) (by grind[qg,ql,Tr.get_set]) (by grind)
   .simp +decide only[↓vS,vT,simprocAttr]
    grind
  .obtain rfl:d=8:=by omega
   have hlt':¬(((8:Nat):Int)<8):=by decide
   simp +decide only[↓vS,vT,simprocAttr,hlt'];exact hk hq s tr hI
 .simp[qg,ql,Tr.get_set]
 .exact⟨Nat.zero_le _,s,tr,rfl,by simpa[qc1]using hh,by simpa[qc1]using hI⟩
def qtN{gG gC gA gL g s:Nat}{p:Pol}{o:Bool}{r0:Loop}{tr:Tr Blk}{k:AV->Hp->Prop}(hg:qc P g (qci gA gL)=true)(hA:qa P gA [] (.fz 6 (rI .i64 [0,1,2,3,4,5])))(hL:qyC P gL)(hG:qoP P gG)(hC:qmI P gC)(hr0:r0.state = .ready)(hp0:r0.pending=none)(hlo:LoopOk P r0 [15] buA (buB gG gC))
  (hp:PolOk p) (hR:PolR p) (hF:∀d a x,qfp p d a=some x->FilR x/\qjG x) (hI:BuI p o g r0 [] s tr)
  (hk:(∀q ∈ qG p,(qas p o q).2=0)->∀s' tr',BuI p o g r0 ((qG p).map (toP p o)) s' tr'->k (.tup []) ⟨s',0,tr'⟩)
  (hx:(¬∀q ∈ qG p,(qas p o q).2=0)->∀s' tr',BuE p g r0 s' tr'->k (.tup []) ⟨s',0,tr'⟩):SC P g [.yl 6,.pf (qx p) 0] ⟨s,0,tr⟩ k:=by
 refine SC.mk hg (qk ?_);simp only[qci,vI,simprocAttr]
 by_cases h0:0<p.arches.length
 .have h0':(0:Int)<p.arches.length:=by omega
  have eh:qeW p=[(0,6,qmq)]:=if_pos h0;simp +decide only[↓vS,vT,simprocAttr,qx,h0'];refine qoM hG hC hr0 hp0 hlo hp hI 0 6 qmq (by simp_all) ⟨by simp[qmq],by simp[qmq]⟩ ⟨by simp[qmq],by simp[qmq]⟩ (by simp) (λhe s' tr' hI'=>?_) (λhe s' tr' hE=>?_)
  .simp +decide only[↓vS,vT,simprocAttr];exact qpH hA hL hG hC hr0 hp0 hlo hp hR hF (by simp[Tr.get_set]) (by simp[Tr.get_set]) (by rw[eh];simp_all) (by rw[eh];grind) hk hx
  .simp +decide only[↓vS,vT,simprocAttr];exact hx (λhall=>he (hall _ (qzh (by rw[eh];simp)))) s' tr' hE
 .have h0':¬(0:Int)<p.arches.length:=by omega
  have eh:qeW p=[]:=if_neg h0;simp +decide only[↓vS,vT,simprocAttr,qx,h0'];exact qpH hA hL hG hC hr0 hp0 hlo hp hR hF (by simp[Tr.get_set]) (by simp[Tr.get_set]) (by rw[eh];simp) (by rw[eh];exact hI) hk hx
def quH(P:Program)(f:Nat):Prop:=∀p,PolOk p->PolR p->(∀d a x,qfp p d a=some x->FilR x/\qjG x)->∀o:Bool,qa P f [.agg (qx p),.b o] (.tup [.fz (qbw p o).1.length (rPr (qbw p o).1),.j (qbw p o).2])
def qCe{gM gP gG gC gA gL g:Nat}(hc:qc P f (qgT gM gP gG gC)=true)(hM:∀p,PolOk p->qa P gM [.agg (qx p)] (.b (qhK p)))(hP:∀p,qa P gP [.agg (qx p)] (.fn g [] [.pf (qx p) 0]))(hg:qc P g (qci gA gL)=true)
  (hA:qa P gA [] (.fz 6 (rI .i64 [0,1,2,3,4,5]))) (hL:qyC P gL) (hG:qoP P gG) (hC:qmI P gC):quH P f:=by
 intro p hp hR hF o;refine qa.mk hc rfl ?_;simp only[qgT,vI,simprocAttr];have hM':=hM p hp;have hP':=hP p;simp only[qx]at hM' hP';simp +decide only[↓vS,vT,simprocAttr,qx];refine hM'.sc ?_;cases hmp:qhK p with
 | false =>
  have e:qbw p o=([],2):=by unfold qbw;rw[hmp];simp
  rw[e];simp +decide only[↓vS,vT,simprocAttr];simp[vZ,vP,Tr.get_set];rfl
 | true =>
  simp +decide only[↓vS,vT,simprocAttr];refine hP'.sc ?_;simp +decide only[↓vS,vT,simprocAttr];refine S.weak (Wk.mk (buT g p) [.v (qx p),.v [.b o],.v [.nils],.v [.j 0],.v [.own 5 0],.cells 3 true true []] [0,1,2,3,4,99] ?_ ?_ ?_ rfl) ?_
  .simp[vw,buT,qx,qh,qn]
  .simp[vw,qx,qe,qn,qh]
  .simp
  refine S.rangeF (by simp[jD]) (by simp[buT]) ⟨rfl,rfl⟩ ?_;refine qkc.2 ⟨.fn g [] [.pf (qx p) 0],by simp[buT,mkT,Tr.get_set],?_⟩
  refine⟨qdD hg,λr0 hr0 hp0 hlo=>?_⟩
  have hlo:LoopOk P r0 [15] buA (buB gG gC):=hlo;refine qtN (o:=o) (s:=7) (g:=g) hg hA hL hG hC hr0 hp0 hlo hp hR hF ⟨5,zzL _,?_,?_,?_,?_,?_,?_,.inl rfl,by decide,?_⟩ (λhall s' tr' hI=>?_) (λhn s' tr' hE=>?_)
  iterate 7 (simp[Tr.get_set,qlA,mkH,trL,rPr,Hp.push])
  .obtain⟨bb,h7,h0,h1,h2,h3,h4,hb,hb5,hbs,h6⟩:=hI;refine⟨r0,buT g p,h6,by rw[hr0];decide,?_⟩
   rw[hp0];simp only[qB];simp only[↓vS,vT,simprocAttr];rw[show qbw p o=((qG p).map (toP p o),0)by unfold qbw;rw[if_pos hmp,if_pos hall]]
   have nb:¬bb=6:=by omega
   have nb2:¬bb=2:=by omega
   have nb3:¬bb=3:=by omega
   generalize(qG p).map (toP p o)=out at h4 hb ⊢;refine S.has [(4,.ptr 2 0),(5,.ptr 3 0),(6,.ptr 4 0)] (by simp[qg,ql,buT,mkT,Tr.get_set]) (qk ?_);simp only[qeo,vI,simprocAttr];simp +decide only[↓vS,vT,simprocAttr,h2,h3,h4];simp[vZ,vP,Tr.get_set,nb,nb2,nb3,hb,zj (qdX _)];intro h;rw[h];rfl
  .obtain⟨h7,h2,h3,h6⟩:=hE;refine⟨dne r0 .ret,buT g p,h6,by simp[dne],?_⟩
   have e6:∀a b c d e f:Blk,(mkH 0 [a,b,c,d,e,f]).sz=6:=λ_ _ _ _ _ _=>rfl
   simp only[dne,qB,e6];simp only[↓vS,vT,simprocAttr];rw[show qbw p o=([],270)by unfold qbw;rw[if_pos hmp,if_neg hn]]
   have m4:(mkT (buT g p)).get 4=some (.ptr 2 0):=by simp[buT,mkT,Tr.get_set]
   have m5:(mkT (buT g p)).get 5=some (.ptr 3 0):=by simp[buT,mkT,Tr.get_set]
   simp +decide only[↓vS,vT,simprocAttr,m4,m5,h2,h3];simp[vZ,vP,Tr.get_set];rfl
end Go.Kc
end
section
namespace Go.Kc
def TeG(ts:List GTest):Prop:=ts.length<=100000/\∀t ∈ ts,(0<=t.mask/\t.mask<18446744073709551616/\0<=t.val/\t.val<18446744073709551616)/\0<=t.act/\t.act<=4294967295
def RuG(r:GRule):Prop:=(0<=r.nr/\r.nr<4294967296)/\(0<=r.act/\r.act<=4294967295)/\TeG r.tests
def qzO{a n:Int}{s:List UInt8}(h:qgq a s=some n):0<=n/\n<4294967296:=by
 have w:∀z:Int,0<=IntKind.wrap .u32 z/\IntKind.wrap .u32 z<4294967296:=λz=>by show 0<=z % 4294967296/\z % 4294967296<4294967296;omega
 unfold qgq at h;obtain⟨x,_,h⟩:=Option.bind_eq_some_iff.1 h;unfold qfT at h;split at h
 .cases h
 .cases h;split
  .exact w _
  simp_all
section
variable {a act:Int} {ts us:List GTest} {ns:List (List UInt8)} {l:List Int}
def qbS(ha:0<=act/\act<=4294967295)(ht:TeG ts):∀r ∈ zd a act ts ns,RuG r:=λr hr=>by
 obtain⟨s,_,h⟩:=List.mem_filterMap.1 hr;obtain⟨n,h1,h2⟩:=Option.map_eq_some_iff.1 h;cases h2;exact⟨qzO h1,ha,ht⟩
theorem TeG.nil:TeG []:=⟨Nat.zero_le _,by simp_all⟩
def TeG.app(h1:TeG ts)(h2:TeG us)(h:ts.length+us.length<=100000):TeG (ts++us):=⟨by rw[zzP];exact h,λt ht=>by
 rcases List.mem_append.1 ht with ht|ht
 .exact h1.2 t ht
 .exact h2.2 t ht⟩
def qk8{arg mask:Int}(hm:0<=mask/\mask<18446744073709551616)(ha:0<=act/\act<=4294967295)(hl:l.length<=100000)(hv:∀v ∈ l,0<=v/\v<18446744073709551616):TeG (zr arg mask act l):=⟨by simp[zr,hl],λt ht=>by
 obtain⟨v,h1,rfl⟩:=List.mem_map.1 ht
 simp_all⟩
def qnE{arg:Int}(ha:0<=act/\act<=4294967295)(hl:l.length<=100000)(hv:∀v ∈ l,0<=v/\v<18446744073709551616):TeG (zU arg act l):=⟨by simp[zU,hl],λt ht=>by
 obtain⟨v,h1,rfl⟩:=List.mem_map.1 ht
 simp_all⟩
end
def qs3{s x:Int}(h:x ∈ qaR s):0<=x/\x<18446744073709551616:=by
 have h1:=(List.mem_filter.1 h).1;have all:∀y ∈ qR.map (·.2),0<=y/\y<18446744073709551616:=by decide
 grind
def qDr{p:Pol}{a d:Int}{F:Pol->Int->Bool×List GRule×Int}(h:qdV d=some F)(hp:PolOk p)(hR:PolR p):(∀r ∈ (F p a).2.1,RuG r)/\0<=(F p a).2.2/\(F p a).2.2<=4294967295:=by
 have hA:(0:Int)<=2147418112/\(2147418112:Int)<=4294967295:=by decide
 have hN:(0:Int)<=327681/\(327681:Int)<=4294967295:=by decide
 have hf:∀c ∈ p.fams,0<=c/\c<18446744073709551616:=λc hc=>by have:=hR.fams c hc;omega
 have hfl:(qaR p.spaces).length<=8:=Nat.le_trans (List.length_filter_le _ _) (by decide);have hpf:=hp.f;have hd:=hR.deny;unfold qdV at h
 repeat' split at h
 all_goals first|(cases h;done)|skip
 all_goals cases h
 .refine⟨λr hr=>?_,by simp only[qlu];split<;>omega⟩
  obtain⟨c,hc,hr⟩:=List.mem_flatMap.1 hr;refine qbS ?_ .nil r hr;have:=hR.filter c hc;omega
 .refine⟨λr hr=>?_,by simp only[qlP];split<;>omega⟩
  obtain⟨c,hc,hr⟩:=List.mem_flatMap.1 hr;refine qbS ?_ .nil r hr;split<;>omega
 .exact⟨qbS (by split<;>omega) (qk8 (by decide) (by split<;>omega) (by omega) hf),by simp[fmM]⟩
 .refine⟨λr hr=>?_,by simp[nsM]⟩
  have hb:∀arg:Int,TeG (zU arg 327681 (qaR p.spaces)):=λarg=>qnE hN (by omega) λv hv=>qs3 hv
  rcases List.mem_append.1 hr with hr|hr
  .rcases List.mem_append.1 hr with hr|hr
   .exact qbS hA (hb 0) r hr
   .exact qbS hA ((hb 1).app (qk8 (by decide) hN (by decide) (by decide)) (by simp only[zU,zr,List.length_map,List.length_singleton];omega)) r hr
  .exact qbS (by decide) .nil r hr
 .refine⟨λr hr=>?_,by simp[weM]⟩
  rcases List.mem_append.1 hr with hr|hr
  .rcases List.mem_append.1 hr with hr|hr
   .exact qbS hA (qnE hN (by decide) (by decide)) r hr
   .exact qbS hA (qnE hN (by decide) (by decide)) r hr
  .exact qbS hA (qnE hN (by decide) (by decide)) r hr
 .exact⟨qbS hN (qk8 (by decide) hA (by decide) (by decide)),by simp[peM]⟩
 .exact⟨qbS hN (qk8 (by decide) hA (by decide) (by decide)),by simp[rtM]⟩
def qeu{p:Pol}(hp:PolOk p)(hR:PolR p){d a:Int}{x:GFil}(h:qfp p d a=some x):FilR x/\qjG x/\FilU x/\d≠0/\0<=d/\d<8/\0<=a/\a<6:=by
 unfold qfp at h;split at h
 .rename_i hok;obtain⟨F,h1,h2⟩:=Option.bind_eq_some_iff.1 h;split at h2
  .cases h2;obtain⟨g1,g2⟩:=qDr (a:=a) h1 hp hR;unfold qg8 at hok;simp only[zzB,decide_eq_true_eq]at hok;obtain⟨⟨⟨⟨d0,d8⟩,a0,a6⟩,hm⟩,_⟩:=hok;have hl:=(qzF d F h1 p a hp hm a0 a6).1;have ms:∀r ∈ jd (F p a).2.1,RuG r:=λr hr=>g1 r (List.mem_mergeSort.1 hr)
   refine⟨⟨λr hr=>(ms r hr).1,λr hr t ht=>((ms r hr).2.2.2 t ht).1⟩,⟨by simpa[jd]using hl,λr hr=>(ms r hr).2.2.1⟩,⟨g2,λr hr=>(ms r hr).2.1,λr hr t ht=>((ms r hr).2.2.2 t ht).2⟩,λe=>?_,d0,d8,a0,a6⟩
   rw[e]at h1;cases h1
  .cases h2
 grind
section
variable {p:Pol} {o:Bool}
def qjl{q:Pt}(h:q ∈ qG p):(q=(0,6,qmq)/\0<p.arches.length)\/∃d a x,qfp p d a=some x/\q=(d,a,x):=by
 unfold qG qc1 at h;simp only[List.range_zero,List.flatMap_nil,List.append_nil]at h;rcases List.mem_append.1 h with h|h
 .unfold qeW at h
  simp_all
 .obtain⟨d,_,h⟩:=List.mem_flatMap.1 h;obtain⟨a,_,h⟩:=List.mem_flatMap.1 h;unfold qdW at h
  grind
noncomputable def qsS(p:Pol)(d:GData)(q:Pt):Int:=if q.1=0 then gdM p.arches d else qmx q.2.2 d
def qEi(hp:PolOk p)(hR:PolR p){q:Pt}(hq:q ∈ qG p)(he:(qas p o q).2=0):∃n,PrgT (qas p o q).1 n (λd=>qsS p d q):=by
 rcases qjl hq with⟨rfl,_⟩|⟨d,a,x,hx,rfl⟩
 .have e:qas p o (0,6,qmq)=gdC p.arches o:=if_pos rfl;rw[e]at he ⊢;cases hb:qmv p.arches with
  | true=>rw[qqu hb]at he;cases he
  | false =>
   refine⟨10,?_⟩;rw[show(λd=>qsS p d (0,6,qmq))=gdM p.arches from funext λd=>if_pos rfl]
   simp_all[qGV]
 .obtain⟨f1,f2,f3,d0,_⟩:=qeu hp hR hx;have e:qas p o (d,a,x)=qbZ x o:=if_neg d0;rw[e]at he ⊢;rw[show(λy=>qsS p y (d,a,x))=qmx x from funext λy=>if_neg d0]
  cases hK:jq x with
  | false=>rw[qre hK]at he;cases he
  | true=>exact⟨szF x,((qCx hK f1 f3 o).resolve_left (by omega)).2⟩
theorem qEj(hp:PolOk p)(hR:PolR p){q:Pt}(hq:q ∈ qG p)(he:(qas p o q).2=0):qdU (toP p o q)=true:=by
 obtain⟨n,hT⟩:=qEi hp hR hq he;have h1:(atU (qas p o q).1 (qd5 (qas p o q).1)).2=0:=by rw[hT.um,qrr hT.good]
 unfold qdU toP;simp only[zzB,decide_eq_true_eq];refine⟨h1,?_⟩;rcases qjl hq with⟨rfl,_⟩|⟨d,a,x,hx,rfl⟩
 .rfl
 .obtain⟨_,_,_,d0,g0,g8,a0,a6⟩:=qeu hp hR hx
  simp_all
def qnc:∀a,(qc1 p 0 a).length<=1
 | 0=>by unfold qc1 qeW;split<;>simp
 | a+1=>by
  have h:=qnc a
  have e:qdW p 0 a=[]:=by
   unfold qdW
   have:qfp p ((0:Nat):Int) (a:Int)=none:=by
    unfold qfp;split
    .rfl
    .rfl
   rw[this]
  rw[qn8,e,List.append_nil];exact h
def qj3:∀d a,(qc1 p (d+1) a).length<=1+6*d+a
 | d,a+1=>by
  have h1:=qj3 d a;have h2:=qnd p (d+1) a;rw[qn8,zzP];omega
 | d+1,0=>by
  have h1:=qj3 d 6;rw[qlX];omega
 | 0,0=>by
  have:=qnc (p:=p) 6;rw[qlX];omega
def qjk:(qG p).length<=43:=qj3 7 0
variable (hp:PolOk p) (hR:PolR p) (hall:∀q ∈ qG p,(qas p o q).2=0)
include hp hR hall
def qyv:qcZ ((qG p).map (toP p o))=true:=by
 have:=qjk (p:=p);unfold qcZ
 grind[qEj]
def qCc:∀x ∈ (qG p).map (toP p o),PrgIn x:=λx hx=>by
 obtain⟨q,hq,rfl⟩:=List.mem_map.1 hx;obtain⟨n,hT⟩:=qEi hp hR hq (hall q hq);have:=hT.good.len;exact⟨by unfold toP;grind,hT.good.ins⟩
def qCb{d:GData}(hd:DatOk d):evS ((qG p).map (toP p o)) d=qbz ((qG p).map (qsS p d)):=by
 unfold evS qig;rw[List.map_map]
 congr 1
 refine List.map_congr_left λq hq=>?_
 obtain⟨n,hT⟩:=qEi hp hR hq (hall q hq);exact(hT.tells d hd).1
end
end Go.Kc
end
section
namespace Go.Kc
variable {P:Program} {f:Nat}
def qpb(p:Pol):Bool:=decide (50<p.arches.length)||decide (300<p.filter.calls.length)||decide (300<p.log.calls.length)||decide (100<p.fams.length)
def qbo:IFn:=⟨[.tmp 2],sq [.r [.q 1 (.box (.t 0)),.m 2 .F],.r [.f 3 0 1,.d 4 3,.e 5 4,.w 6 .gtr 5 50,.n 7 6,.h 8 1 1 7 false,.h 9 1 8 7 false,.j 10 9 7 false,.g 11 (.len false (.t 10)) 7 false,.g 12 (.bin .gtr (.t 11) (.k 300)) 7 false,.o 13 7 12,.n 14 13,.h 15 4 1 14 false,.h 16 1 15 14 false,.j 17 16 14 false,.g 18 (.len false (.t 17)) 14 false,.g 19 (.bin .gtr (.t 18) (.k 300)) 14 false,.o 20 14 19,.n 21 20,.h 22 6 1 21 false,.j 23 22 21 false,.g 24 (.len false (.t 23)) 21 false,.g 25 (.bin .gtr (.t 24) (.k 100)) 21 false,.o 26 21 25,.n 2 26],.ret]⟩
def qH8(hc:qc P f qbo=true)(p:Pol):qa P f [.agg (qx p)] (.b (qpb p)):=by
 refine qa.mk hc rfl ?_;simp only[qbo,qx,vI,simprocAttr];unfold qpb
 by_cases h1:50<p.arches.length
 .have h1':(50:Int)<p.arches.length:=by omega
  simp +decide only[↓vS,vT,simprocAttr,h1'];simp[vZ,h1]
 have h1':¬(50:Int)<p.arches.length:=by omega
 by_cases h2:300<p.filter.calls.length
 .have h2':(300:Int)<p.filter.calls.length:=by omega
  simp +decide only[↓vS,vT,simprocAttr,h1',h2'];simp[vZ,h1,h2]
 have h2':¬(300:Int)<p.filter.calls.length:=by omega
 by_cases h3:300<p.log.calls.length
 .have h3':(300:Int)<p.log.calls.length:=by omega
  simp +decide only[↓vS,vT,simprocAttr,h1',h2',h3'];simp[vZ,h1,h2,h3]
 have h3':¬(300:Int)<p.log.calls.length:=by omega
 by_cases h4:100<p.fams.length
 .have h4':(100:Int)<p.fams.length:=by omega
  simp +decide only[↓vS,vT,simprocAttr,h1',h2',h3',h4'];simp[vZ,h1,h2,h3,h4]
 have h4':¬(100:Int)<p.fams.length:=by omega
 simp +decide only[↓vS,vT,simprocAttr,h1',h2',h3',h4'];simp[vZ,h1,h2,h3,h4]
def qvG{p:Pol}(h:qpb p=false):PolOk p:=by
 unfold qpb at h;simp only[Bool.or_eq_false_iff,decide_eq_false_iff_not]at h;exact⟨by omega,by omega,by omega,by omega⟩
def qhm(p:Pol)(o:Bool):(∃e:Int,e≠0/\qbw p o=([],e))\/((∀q ∈ qG p,(qas p o q).2=0)/\qbw p o=((qG p).map (toP p o),0)):=by
 unfold qbw
 grind
def qsF(P:Program)(g:Nat):Prop:=∀l:List Prg,l.length<=100->(∀x ∈ l,PrgIn x)->∀d,DatOk d->qa P g [.fz l.length (rPr l),.agg (zt d)] (if qcZ l=true then .tup [.w (evS l d),.j 0]else .tup [.w 0,.j 290])
def qnU{g:Nat}(hE:qsF P g){p:Pol}{o:Bool}(hp:PolOk p)(hR:PolR p)(hall:∀q ∈ qG p,(qas p o q).2=0){d:GData}(hd:DatOk d) :
  qa P g [.fz (qG p).length (rPr ((qG p).map (toP p o))),.agg (zt d)] (.tup [.w (qbz ((qG p).map (qsS p d))),.j 0]):=by
 have h:=hE ((qG p).map (toP p o)) (by have:=qjk (p:=p);rw[List.length_map];omega) (qCc hp hR hall) d hd
 rw[if_pos (qyv hp hR hall),qCb hp hR hall hd,List.length_map]at h;exact h
def qal(a b c d:Nat):IFn:=⟨[.tmp 4],sq [.r [.q 2 (.box (.t 0)),.q 3 (.box (.t 1)),.m 4 .F],sq [.r [.l 13 a [],.q 14 (.un .not (.t 13))],.cond (.t 14) (sq [.r [.m 4 .F],.ret]) (.skip)],sq [.r [.v 15 13 2,.l 16 b [.t 15]],.cond (.t 16) (sq [.r [.m 4 .T],.ret]) (.skip)],.r [.v 18 13 2,.l 19 c [.t 18,.F],.n 17 19,.x 20 17 0,.x 21 17 1,.n 5 20,.n 6 21],.r [.v 23 13 2,.l 24 c [.t 23,.T],.n 22 24,.x 25 22 0,.x 26 22 1,.n 7 25,.n 8 26],sq [.r [.n 27 6,.w 28 .neq 27 0,.n 29 28,.z 30 8 29,.g 31 (.bin .neq (.t 30) (.k 0)) 29 false,.o 32 29 31],.cond (.t 32) (sq [.r [.m 4 .T],.ret]) (.skip)],.r [.n 34 5,.v 35 9 3,.l 36 d [.t 34,.t 35],.n 33 36,.x 37 33 0,.x 38 33 1,.n 9 37,.n 10 38],.r [.n 40 7,.v 41 9 3,.l 42 d [.t 40,.t 41],.n 39 42,.x 43 39 0,.x 44 39 1,.n 11 43,.n 12 44],.r [.n 45 10,.w 46 .eql 45 0,.n 47 46,.y 48 12 47,.g 49 (.bin .eql (.t 48) (.k 0)) 47 true,.p 50 47 49,.n 51 50,.y 52 9 51,.y 53 11 51,.g 54 (.bin .eql (.t 52) (.t 53)) 51 true,.p 55 51 54,.n 56 55,.y 57 5 56,.g 58 (.len false (.t 57)) 56 true,.y 59 7 56,.g 60 (.len false (.t 59)) 56 true,.g 61 (.bin .eql (.t 58) (.t 60)) 56 true,.p 62 56 61,.n 4 62],.ret]⟩
def qx0{g1 g2 g3 g4:Nat}(hc:qc P f (qal g1 g2 g3 g4)=true)(h1:qa P g1 [] (.b true))(h2:∀p,qa P g2 [.agg (qx p)] (.b (qpb p)))(h3:quH P g3)(h4:qsF P g4)
  (p:Pol) (hR:PolR p) (d:GData) (hd:DatOk d):qa P f [.agg (qx p),.agg (zt d)] (.b true):=by
 refine qa.mk hc (by simp[qt,clo,qea,qjJ]) ?_;have p2:=h2 p;simp only[qal,vI,simprocAttr];simp only[qx,zt]at p2 ⊢;simp +decide only[↓vS,vT,simprocAttr];refine h1.sc ?_;simp +decide only[↓vS,vT,simprocAttr];refine p2.sc ?_;cases hg:qpb p with
 | true =>
  simp +decide only[↓vS,vT,simprocAttr];simp[vZ]
 | false =>
  have hp:=qvG hg;have p3:=λo=>h3 p hp hR (λd a x h=>⟨(qeu hp hR h).1,(qeu hp hR h).2.1⟩) o
  simp only[qx]at p3;simp +decide only[↓vS,vT,simprocAttr];refine(p3 false).sc ?_;simp +decide only[↓vS,vT,simprocAttr];refine(p3 true).sc ?_;rcases qhm p false with⟨e,he,e1⟩|⟨ha,e1⟩
  .rw[e1];simp +decide only[↓vS,vT,simprocAttr,he];simp[vZ]
  rcases qhm p true with⟨e,he,e2⟩|⟨hb,e2⟩
  .rw[e1,e2];simp +decide only[↓vS,vT,simprocAttr,he];simp[vZ]
  have q1:=qnU h4 hp hR ha hd;have q2:=qnU h4 hp hR hb hd;rw[e1,e2];simp only[zt]at q1 q2;simp +decide only[↓vS,vT,simprocAttr,List.length_map];refine q1.sc ?_;simp +decide only[↓vS,vT,simprocAttr];refine q2.sc ?_;simp +decide only[↓vS,vT,simprocAttr];simp[vZ]
def qu3:∀(l:List Int),qhL (qbz l)<=qhL 2147418112/\∀x ∈ l,qhL (qbz l)<=qhL x
 | []=>⟨Int.le_refl _,by simp_all⟩
 | y::l=>by
  obtain⟨h1,h2⟩:=qu3 l;rw[qhr]
  by_cases hl:qes y (qbz l)=true
  .rw[if_pos hl];have hl':qhL y<qhL (qbz l):=of_decide_eq_true hl
   grind
  .rw[if_neg hl];have hl':¬qhL y<qhL (qbz l):=λh=>hl (decide_eq_true h)
   simp_all
theorem qrd:∀(l:List Int),qbz l=2147418112\/qbz l ∈ l
 | []=>.inl rfl
 | y::l=>by
  rw[qhr];split
  .simp_all
  .exact (qrd l).imp id (by simp_all)
def qzw{l m:List Int}(h:∀x ∈ l,x ∈ m):qes (qbz l) (qbz m)=false:=by
 obtain⟨h1,h2⟩:=qu3 m;refine decide_eq_false ?_
 grind[qrd]
def qeG(p:Pol)(w:Int):Pol:=if w=0 then { p with we:=true } else if w=1 then { p with pe:=true } else { p with rt:=true }
section
variable {p:Pol} {w:Int}
def qnA(h:PolOk p):PolOk (qeG p w):=by
 unfold qeG;split
 .exact⟨h.a,h.f,h.c,h.l⟩
 split
 .exact⟨h.a,h.f,h.c,h.l⟩
 .exact⟨h.a,h.f,h.c,h.l⟩
def qq1(h:PolR p):PolR (qeG p w):=by
 unfold qeG;split
 .exact⟨h.fams,h.deny,h.spaces,h.filter,h.log⟩
 split
 .exact⟨h.fams,h.deny,h.spaces,h.filter,h.log⟩
 .exact⟨h.fams,h.deny,h.spaces,h.filter,h.log⟩
def qkH:qhK (qeG p w)=qhK p/\(qeG p w).arches=p.arches:=by
 unfold qeG;split
 .exact⟨rfl,rfl⟩
 split
 .exact⟨rfl,rfl⟩
 .exact⟨rfl,rfl⟩
def quf{d a:Int}{F:Pol->Int->Bool×List GRule×Int}(h:qdV d=some F)(h1:(F p a).1=true):F (qeG p w) a=F p a:=by
 unfold qdV at h
 repeat' split at h
 all_goals first|(cases h;done)|skip
 all_goals cases h
 all_goals (unfold qeG;split)
 all_goals first|rfl|skip
 all_goals first|(simp only[weM,peM,rtM]at h1 ⊢;simp[h1];done)|(split<;>first|rfl|(simp only[weM,peM,rtM]at h1 ⊢;simp[h1]))
theorem qx8{d a:Int}{x:GFil}(h:qfp p d a=some x):qfp (qeG p w) d a=some x:=by
 unfold qfp qg8 at h ⊢;rw[qkH.1,qkH.2];split at h
 .rename_i hok;rw[if_pos hok];obtain⟨F,h1,h2⟩:=Option.bind_eq_some_iff.1 h;split at h2
  .rename_i h3;rw[h1];show(if(F (qeG p w) a).1=true then _ else _)=_
   rw[quf h1 h3,if_pos h3];exact h2
  .cases h2
 grind
def qss{q:Pt}(h:q ∈ qG p):q ∈ qG (qeG p w):=by
 unfold qG qc1 at h ⊢;simp only[List.range_zero,List.flatMap_nil,List.append_nil]at h ⊢;rcases List.mem_append.1 h with h|h
 .refine List.mem_append_left _ ?_;unfold qeW at h ⊢;rw[qkH.2];exact h
 .refine List.mem_append_right _ ?_;obtain⟨d,hd,h⟩:=List.mem_flatMap.1 h;obtain⟨a,ha,h⟩:=List.mem_flatMap.1 h;refine List.mem_flatMap.2 ⟨d,hd,List.mem_flatMap.2 ⟨a,ha,?_⟩⟩;unfold qdW at h ⊢
  grind[qx8]
end
def jT(a b c d e:Nat):IFn:=⟨[.tmp 6],sq [.r [.q 3 (.box (.t 0)),.q 5 (.box (.t 2)),.m 6 .F],sq [.r [.l 16 a [],.q 17 (.un .not (.t 16))],.cond (.t 17) (sq [.r [.m 6 .F],.ret]) (.skip)],sq [.r [.v 18 13 3,.l 19 b [.t 18]],.cond (.t 19) (sq [.r [.m 6 .T],.ret]) (.skip)],.r [.v 20 13 3,.q 7 (.alloc [.nils,.y 0,.nils,.w 0,.y 0,.nils,.nils,.y 0,.x 0,.b false,.b false,.b false,.b false]),.u (.store 13 (.t 7) (.t 20))],sq [.r [.n 21 1],.blk 0 (sq [.r [.w 24 .eql 21 0,.n 23 24],.cond (.t 23) (.r [.f 25 9 7,.u (.store 1 (.t 25) .T)]) (sq [.r [.w 27 .eql 21 1,.n 26 27],.cond (.t 26) (.r [.f 28 10 7,.u (.store 1 (.t 28) .T)]) (.r [.f 22 11 7,.u (.store 1 (.t 22) .T)])])])],.r [.v 30 13 3,.l 31 c [.t 30,.T],.n 29 31,.x 32 29 0,.x 33 29 1,.n 8 32,.n 9 33],.r [.v 35 13 7,.l 36 c [.t 35,.T],.n 34 36,.x 37 34 0,.x 38 34 1,.n 10 37,.n 11 38],sq [.r [.n 39 9,.w 40 .neq 39 0,.n 41 40,.z 42 11 41,.g 43 (.bin .neq (.t 42) (.k 0)) 41 false,.o 44 41 43],.cond (.t 44) (sq [.r [.m 6 .T],.ret]) (.skip)],.r [.n 46 8,.v 47 9 5,.l 48 d [.t 46,.t 47],.n 45 48,.x 49 45 0,.x 50 45 1,.n 12 49,.n 13 50],.r [.n 52 10,.v 53 9 5,.l 54 d [.t 52,.t 53],.n 51 54,.x 55 51 0,.x 56 51 1,.n 14 55,.n 15 56],.r [.n 57 13,.w 58 .eql 57 0,.n 59 58,.y 60 15 59,.g 61 (.bin .eql (.t 60) (.k 0)) 59 true,.p 62 59 61,.n 63 62,.y 64 12 63,.y 65 14 63,⟨(some 66),.callF e [.t 64,.t 65],(some (63,true))⟩,.g 67 (.un .not (.t 66)) 63 true,.p 68 63 67,.n 6 68],.ret]⟩
def p29(l:List Int)(pe:Bool):Pol:=⟨l,⟨0,[]⟩,2147483648,⟨0,[]⟩,[],0,0,false,pe,false,false⟩
def qwU{l:List Int}{pe:Bool}(h:l.length<=1000):PolOk (p29 l pe):=⟨h,Nat.zero_le _,Nat.zero_le _,Nat.zero_le _⟩
def qku{l:List Int}{pe:Bool}:PolR (p29 l pe):=⟨λx h=>(by cases h),⟨(by decide:(0:Int)<=2147483648),(by decide:(2147483648:Int)<=4294967295)⟩,⟨Int.le_refl 0,(by decide:(0:Int)<18446744073709551616)⟩,λx h=>(by cases h),λx h=>(by cases h)⟩
def nz:AV->AV
 | .nils=>.fz 0 []
 | v=>v
def qwF{ρ:Ren}:∀{l:List AV} {a:List Value},VRs σ0 ρ l a->VRs σ0 ρ (l.map nz) a
 | [],_,h=>by simp_all
 | v::l,_,h=>by
  cases h with
  | cons _ _ _ _ h1 h2 =>
   refine .cons _ _ _ _ ?_ (qwF h2);unfold nz;split
   .cases h1;exact .fz0 none
   omega
theorem qpG{l:List Int}{pe:Bool}{ar:AV}{vs:List AV}{v:AV}(har:ar = .fz l.length (rI .i64 l)\/ar = .nils/\l=[])(h:qa P f (.agg (qx (p29 l pe))::vs) v):qa P f (.agg (xI ar pe)::vs) v:=λhp k hk =>
 SC.args (h hp k hk) λρ zy hv=>by
  have e:qx (p29 l pe)=(xI ar pe).map nz:=by rcases har with rfl|⟨rfl,rfl⟩<;>rfl
  rw[e];cases hv with
  | cons _ _ _ _ h1 h2 =>
   refine .cons _ _ _ _ ?_ h2;cases h1 with
   | agg _ arr h1=>exact .agg _ _ (qwF h1)
noncomputable def qlb(p:Pol)(o:Bool):Bool:=qhK p&&(qG p).all λq=>decide ((qas p o q).2=0)
def qkG{p:Pol}{o:Bool}(h:qlb p o=true):(∀q ∈ qG p,(qas p o q).2=0)/\qbw p o=((qG p).map (toP p o),0):=by
 unfold qlb at h;simp only[zzB,List.all_eq_true,decide_eq_true_eq]at h;exact⟨h.2,by unfold qbw;rw[if_pos h.1,if_pos h.2]⟩
def ok0:∀o,qlb (p29 [] false) o=true|true=>by kernel_rfl|false=>by kernel_rfl
def ok1:∀o,qlb (p29 [0] false) o=true|true=>by kernel_rfl|false=>by kernel_rfl
def ok2:∀o,qlb (p29 [] true) o=true|true=>by kernel_rfl|false=>by kernel_rfl
section
variable {gT gB gE:Nat} (hc:qc P gT (xB gB gE)=true) (hB:quH P gB) (hE:qsF P gE)
include hc hB hE
def qjz(l:List Int)(pe:Bool)(ar:AV)(har:ar = .fz l.length (rI .i64 l)\/ar = .nils/\l=[])(hcl:clo ar=true)(hok:ze ar=true)(ho:∀o,qlb (p29 l pe) o=true)(n:Nat)(t m x w:Int)
  (h:(decide (l.length<=1000)&&decide ((qG (p29 l pe)).length=n)&&decide (n<=100)&&decide (0<=t/\t<=4294967295/\0<=m/\m<=4294967295/\0<=x/\x<18446744073709551616)&&decide (qbz ((qG (p29 l pe)).map (qsS (p29 l pe) (d29 t m x)))=w))=true) :
  qa P gT [.agg (xI ar pe),.j (n:Int),qbA t m x,.w w] (.b true):=by
 simp only[zzB,decide_eq_true_eq]at h;obtain⟨⟨⟨⟨h1,h2⟩,h3⟩,h4⟩,h5⟩:=h;have hp:=qwU (pe:=pe) h1;have hb:=λb=>hB (p29 l pe) hp qku (λd a x h=>⟨(qeu hp qku h).1,(qeu hp qku h).2.1⟩) b
 refine qsg hc ar hcl hok pe t m x n w (λb=>rPr ((qG (p29 l pe)).map (toP (p29 l pe) b))) h3 (λb=>?_) (λb=>?_)
 .have:=hb b;rw[(qkG (ho b)).2,List.length_map,h2]at this
  grind[qpG]
 .have:=qnU hE hp qku (qkG (ho b)).1 (d:=d29 t m x) (qu9 (decide_eq_true h4));rw[h5,h2]at this;exact this
def qFR:qnJ P gT :=
 ⟨qjz hc hB hE [] false .nils (by simp_all) rfl rfl ok0 0 3221225534 1 1 2147418112 (by kernel_rfl),
  qjz hc hB hE [0] false (.fz 1 [.j 0]) (.inl rfl) rfl rfl ok1 1 1073741827 1 1 2147483648 (by kernel_rfl),
  qjz hc hB hE [0] false (.fz 1 [.j 0]) (.inl rfl) rfl rfl ok1 1 3221225534 1 1 2147418112 (by kernel_rfl),
  qjz hc hB hE [] true .nils (by simp_all) rfl rfl ok2 6 3221225534 135 1 327681 (by kernel_rfl),
  qjz hc hB hE [] true .nils (by simp_all) rfl rfl ok2 6 3221225534 135 0 2147418112 (by kernel_rfl)⟩
end
structure PrgS (p:List Ins):Prop where
 good:PrgGood p
 um:qd5 p=[]
def qms(a:List Ins×Int):Prop:=a.2=0->PrgS a.1
def qn3{l:List Sy}(h:MayL l)(hr:jN l):qms (zD l):=by
 unfold zD
 by_cases hb:4096<(xO l).length
 .rw[if_pos hb];intro h;cases h
 .rw[if_neg hb];exact λ_=>⟨qm3 h hr (by omega),(qpq h hr).1⟩
theorem qsa{u v:List Ins×Int}(hu:qms u)(hv:qms v):qms (qcl u v):=by
 unfold qcl;grind
def qCw{x:GFil}(hK:jq x=true)(hR:FilR x)(hU:FilU x)(o:Bool):qms (qbZ x o):=by
 have hG:=FilG.of hK hR;have hG2:=FilG.of (qfr hK) (qlV hR);have h1:qms (qeb x):=by unfold qeb;rw[if_pos hK];exact qn3 (qdE hG) (qiR hG hU)
 have h2:qms (qfe x):=by unfold qfe;rw[if_pos hK];exact qn3 (qhy (qdE hG2)) (qkX (qiR hG2 (qwz hU)))
 unfold qbZ;grind[qsa]
def qGU{l:List Int}(h:qmv l=false)(o:Bool):qms (gdC l o):=by
 obtain⟨h1,h2,_,_⟩:=qqw h;have e:gdA l=(gdR (gdT l),0):=by unfold gdA;rw[if_neg (by rw[h];simp)]
 have eu:qhI (gdA l).1 (gdA l).2=zD (gdR (gdT l)):=by rw[e];simp only[qhI,if_true]
 have eo:qip (gdA l).1 (gdA l).2=zD (qbQ (gdR (gdT l))):=by rw[e];simp only[qip,if_true]
 have tu:qms (qhI (gdA l).1 (gdA l).2):=by rw[eu];exact qn3 h1 h2
 have to:qms (qip (gdA l).1 (gdA l).2):=by rw[eo];exact qn3 (qhy h1) (qkX h2)
 unfold gdC qnX;grind[qsa]
section
variable {p:Pol} {o:Bool}
def qEh(hp:PolOk p)(hR:PolR p){q:Pt}(hq:q ∈ qG p)(he:(qas p o q).2=0):PrgS (qas p o q).1:=by
 rcases qjl hq with⟨rfl,_⟩|⟨d,a,x,hx,rfl⟩
 .have e:qas p o (0,6,qmq)=gdC p.arches o:=if_pos rfl;rw[e]at he ⊢;cases hb:qmv p.arches with
  | true=>rw[qqu hb]at he;cases he
  | false=>exact qGU hb o he
 .obtain⟨f1,f2,f3,d0,_⟩:=qeu hp hR hx;have e:qas p o (d,a,x)=qbZ x o:=if_neg d0;rw[e]at he ⊢;cases hK:jq x with
  | false=>rw[qre hK]at he;cases he
  | true=>exact qCw hK f1 f3 o he
theorem qAd(hp:PolOk p)(hR:PolR p){q:Pt}(hq:q ∈ qG p)(he:(qas p o q).2=0):qdU (toP p o q)=true:=by
 have hT:=qEh hp hR hq he;have h1:(atU (qas p o q).1 (qd5 (qas p o q).1)).2=0:=by rw[hT.um,qrr hT.good]
 unfold qdU toP;simp only[zzB,decide_eq_true_eq];refine⟨h1,?_⟩;rcases qjl hq with⟨rfl,_⟩|⟨d,a,x,hx,rfl⟩
 .rfl
 .obtain⟨_,_,_,d0,g0,g8,a0,a6⟩:=qeu hp hR hx
  simp_all
variable (hp:PolOk p) (hR:PolR p) (hall:∀q ∈ qG p,(qas p o q).2=0)
include hp hR hall
def quA:qcZ ((qG p).map (toP p o))=true:=by
 have:=qjk (p:=p);unfold qcZ
 grind[qAd]
def qyu:∀x ∈ (qG p).map (toP p o),PrgIn x:=λx hx=>by
 obtain⟨q,hq,rfl⟩:=List.mem_map.1 hx;have hT:=qEh hp hR hq (hall q hq);have:=hT.good.len;exact⟨by unfold toP;grind,hT.good.ins⟩
def quB{d:GData}(hd:DatOk d):u32 (evS ((qG p).map (toP p o)) d):=qlo λx hx=>by
 obtain⟨y,hy,rfl⟩:=List.mem_map.1 hx;obtain⟨q,hq,rfl⟩:=List.mem_map.1 hy;exact qnk (qEh hp hR hq (hall q hq)).good.ins hd
def qlr{g:Nat}(hE:qsF P g){d:GData}(hd:DatOk d) :
  qa P g [.fz (qG p).length (rPr ((qG p).map (toP p o))),.agg (zt d)] (.tup [.w (evS ((qG p).map (toP p o)) d),.j 0]):=by
 have h:=hE ((qG p).map (toP p o)) (by have:=qjk (p:=p);rw[List.length_map];omega) (qyu hp hR hall) d hd
 rw[if_pos (quA hp hR hall),List.length_map]at h;exact h
end
def qx9{p:Pol}{w:Int}{o:Bool}{q:Pt}:toP (qeG p w) o q=toP p o q:=by unfold toP qas;rw[qkH.2]
def qt4{g1 g2 g3 g4 g5:Nat}(hc:qc P f (jT g1 g2 g3 g4 g5)=true)(h1:qa P g1 [] (.b true))(h2:∀p,qa P g2 [.agg (qx p)] (.b (qpb p)))(h3:quH P g3)(h4:qsF P g4)
  (h5:∀a b:Int,u32 a->u32 b->qa P g5 [.w a,.w b] (.b (qes a b))) (p:Pol) (hR:PolR p) (w:Int) (d:GData) (hd:DatOk d):qa P f [.agg (qx p),.j w,.agg (zt d)] (.b true):=by
 refine qa.mk hc (by simp[qt,clo,qea,qjJ]) ?_;have p2:=h2 p;simp only[jT,vI,simprocAttr];simp only[qx,zt]at p2 ⊢;simp +decide only[↓vS,vT,simprocAttr];refine h1.sc ?_;simp +decide only[↓vS,vT,simprocAttr];refine p2.sc ?_;cases hg:qpb p with
 | true =>
  simp +decide only[↓vS,vT,simprocAttr];simp[vZ]
 | false =>
  have hp:=qvG hg;have p3:=h3 p hp hR (λd a x h=>⟨(qeu hp hR h).1,(qeu hp hR h).2.1⟩) true
  have p4:=h3 (qeG p w) (qnA hp) (qq1 hR) (λd a x h=>⟨(qeu (qnA hp) (qq1 hR) h).1,(qeu (qnA hp) (qq1 hR) h).2.1⟩) true
  simp only[qx]at p3;have hp':=qnA (w:=w) hp;have hR':=qq1 (w:=w) hR;have e4:qeG p w=if w=0 then { p with we:=true } else if w=1 then { p with pe:=true } else { p with rt:=true }:=rfl
  have k:w=0\/(¬w=0/\w=1)\/(¬w=0/\¬w=1):=by omega
  simp +decide only[↓vS,vT,simprocAttr];rcases k with k0|⟨k0,k1⟩|⟨k0,k1⟩
  all_goals
   first
    | (rw[if_pos k0]at e4;simp +decide only[↓vS,vT,simprocAttr,k0])
    | (rw[if_neg k0,if_pos k1]at e4;simp +decide only[↓vS,vT,simprocAttr,k1])
    | (rw[if_neg k0,if_neg k1]at e4;simp +decide only[↓vS,vT,simprocAttr,k0,k1])
   have c4:=congrArg qx e4;simp only[qx]at c4;rw[show qx (qeG p w)=_ from c4]at p4
   refine p3.sc ?_;simp +decide only[↓vS,vT,simprocAttr];refine p4.sc ?_;rcases qhm p true with⟨e,he,e1⟩|⟨ha,e1⟩
   .rw[e1];simp +decide only[↓vS,vT,simprocAttr,he];simp[vZ]
   rcases qhm (qeG p w) true with⟨e,he,e2⟩|⟨hb,e2⟩
   .rw[e1,e2];simp +decide only[↓vS,vT,simprocAttr,he];simp[vZ]
   have q1:=qlr hp hR ha h4 hd;have q2:=qlr hp' hR' hb h4 hd;have u1:=quB hp hR ha hd;have u2:=quB hp' hR' hb hd
   have hno:qes (evS ((qG p).map (toP p true)) d) (evS ((qG (qeG p w)).map (toP (qeG p w) true)) d)=false:=qzw λx hx=>by
    obtain⟨y,hy,rfl⟩:=List.mem_map.1 hx;obtain⟨q,hq,rfl⟩:=List.mem_map.1 hy;exact List.mem_map.2 ⟨_,List.mem_map.2 ⟨q,qss hq,rfl⟩,by rw[qx9]⟩
   have q3:=h5 _ _ u1 u2;rw[hno]at q3;rw[e1,e2];generalize evS ((qG p).map (toP p true)) d=x1 at q1 q3;generalize evS ((qG (qeG p w)).map (toP (qeG p w) true)) d=x2 at q2 q3;simp only[zt]at q1 q2;simp +decide only[↓vS,vT,simprocAttr,List.length_map];refine q1.sc ?_;simp +decide only[↓vS,vT,simprocAttr];refine q2.sc ?_;simp +decide only[↓vS,vT,simprocAttr];refine q3.sc ?_;simp +decide only[↓vS,vT,simprocAttr];simp[vZ]
section
variable {gT gB gE:Nat} (hc:qc P gT (xB gB gE)=true) (hB:quH P gB) (hE:qsF P gE)
include hc hB hE
def qhi(l:List Int)(pe:Bool)(ar:AV)(har:ar = .fz l.length (rI .i64 l)\/ar = .nils/\l=[])(hcl:clo ar=true)(hok:ze ar=true)(ho:∀o,qlb (p29 l pe) o=true)(n:Nat)(t m x w:Int)
  (h:(decide (l.length<=1000)&&decide ((qG (p29 l pe)).length=n)&&decide (n<=100)&&decide (0<=t/\t<=4294967295/\0<=m/\m<=4294967295/\0<=x/\x<18446744073709551616)&&decide (∀o:Bool,evS ((qG (p29 l pe)).map (toP (p29 l pe) o)) (d29 t m x)=w))=true) :
  qa P gT [.agg (xI ar pe),.j (n:Int),qbA t m x,.w w] (.b true):=by
 simp only[zzB,decide_eq_true_eq]at h;obtain⟨⟨⟨⟨h1,h2⟩,h3⟩,h4⟩,h5⟩:=h;have hp:=qwU (pe:=pe) h1;have hb:=λb=>hB (p29 l pe) hp qku (λd a x h=>⟨(qeu hp qku h).1,(qeu hp qku h).2.1⟩) b
 refine qsg hc ar hcl hok pe t m x n w (λb=>rPr ((qG (p29 l pe)).map (toP (p29 l pe) b))) h3 (λb=>?_) (λb=>?_)
 .have:=hb b;rw[(qkG (ho b)).2,List.length_map,h2]at this
  grind[qpG]
 .have:=qlr hp qku (qkG (ho b)).1 hE (d:=d29 t m x) (qu9 (decide_eq_true h4));rw[h5 b,h2]at this;exact this
def qEW:qnJ P gT :=
 ⟨qhi hc hB hE [] false .nils (by simp_all) rfl rfl ok0 0 3221225534 1 1 2147418112 (by kernel_rfl),
  qhi hc hB hE [0] false (.fz 1 [.j 0]) (.inl rfl) rfl rfl ok1 1 1073741827 1 1 2147483648 (by kernel_rfl),
  qhi hc hB hE [0] false (.fz 1 [.j 0]) (.inl rfl) rfl rfl ok1 1 3221225534 1 1 2147418112 (by kernel_rfl),
  qhi hc hB hE [] true .nils (by simp_all) rfl rfl ok2 6 3221225534 135 1 327681 (by kernel_rfl),
  qhi hc hB hE [] true .nils (by simp_all) rfl rfl ok2 6 3221225534 135 0 2147418112 (by kernel_rfl)⟩
end
def qFK{g1 g2 g3:Nat}(hc:qc P f (qgV g1 g2 g3)=true)(h1:qCi P g1):qa P f [.fz 1 [.y 1]] qvj:=by
 have h:=h1 [1] (λx hx=>by rw[List.mem_singleton]at hx;subst hx;exact⟨by decide,by decide⟩) (by decide) 2 (by decide)
 rw[show qqy [1] 2 = .tup [.h 0,.b false]from rfl]at h
 refine qa.mk hc rfl ?_;simp only[qgV,vI,simprocAttr];simp +decide only[↓vS,vT,simprocAttr];refine SL.loop (α:=Unit) (λ_=>[(0,.fz 1 [.y 1])]) (λ_=>[]) (λ_=>True) (λ_=>0) () [] ?_ ?_ ?_ rfl trivial ?_
 .simp[vw]
 .trivial
 .simp
 rintro⟨⟩-G ih;simp only[vI,simprocAttr];simp +decide only[↓vS,vT,simprocAttr];refine h.sc ?_;simp +decide only[↓vS,vT,simprocAttr];simp[vZ,qvj]
end Go.Kc
end
