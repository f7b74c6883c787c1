/- Walks, part 12. Conditions: with each theorem. -/
import Derived.Test.YtgaodkfneooonaaGreatCK11
import Derived.KernelRfl
set_option maxHeartbeats 4000000
set_option linter.defProp false
set_option linter.unusedSectionVars false
set_option linter.unusedSimpArgs false
set_option linter.unusedVariables false
set_option linter.unnecessarySimpa false
section
namespace Go.Kc
variable {P:Program} {f:Nat}
noncomputable def qj5(l:List Sy)(e:Int):List Ins×Int:=if e=0 then zP l else([],e)
noncomputable def qkL(l:List Sy)(e:Int):List Ins×Int:=if e=0 then zP (qdm l)else([],e)
noncomputable def qpj(l:List Sy)(e:Int)(o:Bool):List Ins×Int:=if o=true then qd2 (qj5 l e) (qkL l e)else qj5 l e
structure GrdFn (P:Program) (gG gO gL:Nat) (ar:AV) (l:List Sy) (e:Int):Prop where
 gu:qa P gG [ar] (.tup [.fz l.length (rSy l),.j e])
 lk:e=0->qa P gL [.fz l.length (rSy l)] (qiS l)
 op:e=0->qa P gO [.fz l.length (rSy l)] (.tup [.fz (qdm l).length (rSy (qdm l)),.j 0])
 lk2:e=0->qa P gL [.fz (qdm l).length (rSy (qdm l))] (qiS (qdm l))
section
variable {gG gO gL b s:Nat} {tr:Tr Blk} {k:AV->Hp->Prop} {ar:AV} {l:List Sy} {er:Int}
def zF:List AV:=[.j 0,.nils,.w 0]
def qpz{m:List Sy}(h:(zP m).2≠0):(zP m).1=[]:=by
 unfold zP at h ⊢
 grind
def qvK{gd gwG gwL bx:Nat}{e:Nat}{wf a:Bool}(hc:qc P gd qO=true)(hG:qc P gwG (zM gG)=true)(hL:qc P gwL (qN gL)=true)(C:GrdFn P gG gO gL ar l er)
  (hx:tr.get bx=some (.cells e wf a [.fn gwG [.ptr b 0] [],.fn gwL [.ptr b 0] []])) (hbx:bx≠b) (h0:tr.get b=some (WkB zF ar .nils .nils))
  (hk:∀v tr2,qiO v (qj5 l er).1->(∀c,c≠b->tr2.get c=tr.get c)->k (.tup [v,.j (qj5 l er).2]) ⟨s,0,tr2⟩):SC P gd [.ptr b 0,.sl bx 0 2 2 false] ⟨s,0,tr⟩ k:=by
 have hG':=C.gu
 by_cases hz:er=0
 .have hL':=C.lk hz;rw[qkR]at hL';have e1:qj5 l er=zP l:=by unfold qj5;rw[if_pos hz]
  rw[e1]at hk
  refine qho hc [gwG,gwL] (by simpa using hx) hbx (λi=>if i=0 then WkB zF ar .nils .nils else if i=1 then WkB zF ar (.fz l.length (rSy l)) .nils else WkB zF ar (.fz l.length (rSy l)) (.fz (zP l).1.length (rP (zP l).1)))
   (λi=>if i=0 then 0 else if i=1 then er else(zP l).2) 2 rfl (by omega) h0 rfl ?_ ?_ ?_
  .intro i g s' tr' k' hg hj hB hk';have hi:i<2:=by have:=(zzS.1 hg).1;omega
   have hi2:i=0\/i=1:=by omega
   rcases hi2 with rfl|rfl
   .simp at hg;subst hg;exact qhJ hG zF rfl hB _ _ qj4 hG' hk'
   .simp at hg;subst hg;exact qfV hL zF rfl hB _ _ qj4 hL' hk'
  .intro i tr2 hf hv hj;have h0':i≠0:=by omega
   have h1':i≠1:=λh=>hv (by omega)
   simp only[if_neg h0',if_neg h1']at hv ⊢;exact hk _ _ (.inr ⟨rfl,qpz hv⟩) hf
  .intro tr2 hf hj hB;have hz2:=hj 2 (by omega);simp at hz2;refine⟨zF,ar,_,_,rfl,rfl,?_⟩;have:=hk (.fz (zP l).1.length (rP (zP l).1)) tr2 (.inl rfl) hf;rw[hz2]at this;omega
 .have e1:qj5 l er=([],er):=by unfold qj5;rw[if_neg hz]
  rw[e1]at hk;refine qho hc [gwG,gwL] (by simpa using hx) hbx (λi=>if i=0 then WkB zF ar .nils .nils else WkB zF ar (.fz l.length (rSy l)) .nils) (λi=>if i=0 then 0 else er) 2 rfl (by omega) h0 rfl ?_ ?_ ?_
  .intro i g s' tr' k' hg hj hB hk'
   have hi:i=0:=by
    simp_all
   subst hi;simp at hg;subst hg;exact qhJ hG zF rfl hB _ _ qj4 hG' hk'
  .intro i tr2 hf hv hj;have hi:i≠0:=by omega
   simp only[if_neg hi];exact hk _ _ (.inr ⟨rfl,rfl⟩) hf
  .intro tr2 _ hj _;have:=hj 1 (by omega);omega
def qvJ{gd gwG gwO gwL bx:Nat}{e:Nat}{wf a:Bool}(hc:qc P gd qO=true)(hG:qc P gwG (zM gG)=true)(hO:qc P gwO (zc gO)=true)(hL:qc P gwL (qN gL)=true)(C:GrdFn P gG gO gL ar l er)
  (hx:tr.get bx=some (.cells e wf a [.fn gwG [.ptr b 0] [],.fn gwO [.ptr b 0] [],.fn gwL [.ptr b 0] []])) (hbx:bx≠b) (h0:tr.get b=some (WkB zF ar .nils .nils))
  (hk:∀v tr2,qiO v (qkL l er).1->(∀c,c≠b->tr2.get c=tr.get c)->k (.tup [v,.j (qkL l er).2]) ⟨s,0,tr2⟩):SC P gd [.ptr b 0,.sl bx 0 3 3 false] ⟨s,0,tr⟩ k:=by
 have hG':=C.gu
 by_cases hz:er=0
 .have hL':=C.lk2 hz;have hO':=C.op hz;have e1:qkL l er=zP (qdm l):=by unfold qkL;rw[if_pos hz]
  rw[e1]at hk;obtain⟨m,hm⟩:∃m,m=qdm l:=⟨_,rfl⟩;rw[<- hm]at hL' hO' hk;rw[qkR]at hL'
  refine qho hc [gwG,gwO,gwL] (by simpa using hx) hbx (λi=>if i=0 then WkB zF ar .nils .nils else if i=1 then WkB zF ar (.fz l.length (rSy l)) .nils else if i=2 then WkB zF ar (.fz m.length (rSy m)) .nils else WkB zF ar (.fz m.length (rSy m)) (.fz (zP m).1.length (rP (zP m).1)))
   (λi=>if i=0 then 0 else if i=1 then er else if i=2 then 0 else(zP m).2) 3 rfl (by omega) h0 rfl ?_ ?_ ?_
  .intro i g s' tr' k' hg hj hB hk';have hi:i<3:=by have:=(zzS.1 hg).1;omega
   have hi2:i=0\/i=1\/i=2:=by omega
   rcases hi2 with rfl|rfl|rfl
   .simp at hg;subst hg;exact qhJ hG zF rfl hB _ _ qj4 hG' hk'
   .simp at hg;subst hg;exact qmu hO zF rfl hB _ _ qj4 hO' hk'
   .simp at hg;subst hg;exact qfV hL zF rfl hB _ _ qj4 hL' hk'
  .intro i tr2 hf hv hj;have h0':i≠0:=by omega
   have h1':i≠1:=λh=>hv (by omega)
   have h2':i≠2:=by omega
   simp only[if_neg h0',if_neg h1',if_neg h2']at hv ⊢;exact hk _ _ (.inr ⟨rfl,qpz hv⟩) hf
  .intro tr2 hf hj hB;have hz2:=hj 3 (by omega);simp at hz2;refine⟨zF,ar,_,_,rfl,rfl,?_⟩;have:=hk (.fz (zP m).1.length (rP (zP m).1)) tr2 (.inl rfl) hf;rw[hz2]at this;omega
 .have e1:qkL l er=([],er):=by unfold qkL;rw[if_neg hz]
  rw[e1]at hk;refine qho hc [gwG,gwO,gwL] (by simpa using hx) hbx (λi=>if i=0 then WkB zF ar .nils .nils else WkB zF ar (.fz l.length (rSy l)) .nils) (λi=>if i=0 then 0 else er) 3 rfl (by omega) h0 rfl ?_ ?_ ?_
  .intro i g s' tr' k' hg hj hB hk'
   have hi:i=0:=by
    simp_all
   subst hi;simp at hg;subst hg;exact qhJ hG zF rfl hB _ _ qj4 hG' hk'
  .intro i tr2 hf hv hj;have hi:i≠0:=by omega
   simp only[if_neg hi];exact hk _ _ (.inr ⟨rfl,rfl⟩) hf
  .intro tr2 _ hj _;have:=hj 1 (by omega);omega
def qcd(a b c d e:Nat):IFn:=⟨[.tmp 4,.tmp 5],sq [.r [.m 4 .N,.m 5 (.k 0)],.r [.n 12 0,.q 13 (.build [.j 0,.nils,.w 0,.nils,.nils,.nils] [(3,1,(.t 12))]),.q 14 (.box (.t 13)),.n 15 0,.q 16 (.build [.j 0,.nils,.w 0,.nils,.nils,.nils] [(3,1,(.t 15))]),.q 17 (.box (.t 16)),.n 6 14,.n 7 17],.r [.n 19 6,.n 20 6,.q 21 (.mkF a [.t 20] []),.n 22 6,.q 23 (.mkF b [.t 22] []),.q 24 (.buildS 2 [.nilf] [(0,1,(.t 21)),(1,1,(.t 23))]),.l 25 c [.t 19,.t 24],.n 18 25,.x 26 18 0,.x 27 18 1,.n 8 26,.n 9 27],sq [.r [.n 28 1,.q 29 (.un .not (.t 28))],.cond (.t 29) (sq [.r [.n 30 8,.n 31 9,.n 4 30,.n 5 31],.ret]) (.skip)],.r [.n 33 7,.n 34 7,.q 35 (.mkF a [.t 34] []),.n 36 7,.q 37 (.mkF d [.t 36] []),.n 38 7,.q 39 (.mkF b [.t 38] []),.q 40 (.buildS 3 [.nilf] [(0,1,(.t 35)),(1,1,(.t 37)),(2,1,(.t 39))]),.l 41 c [.t 33,.t 40],.n 32 41,.x 42 32 0,.x 43 32 1,.n 10 42,.n 11 43],.r [.n 44 8,.n 45 9,.n 46 10,.n 47 11,.l 48 e [.t 44,.t 45,.t 46,.t 47],.x 49 48 0,.x 50 48 1,.n 4 49,.n 5 50],.ret]⟩
def qqL{gd gwG gwO gwL gs:Nat}(hc:qc P f (qcd gwG gwL gd gwO gs)=true)(hd:qc P gd qO=true)(hG:qc P gwG (zM gG)=true)(hO:qc P gwO (zc gO)=true)(hL:qc P gwL (qN gL)=true)
  (hs:qc P gs xZ=true) (har:clo ar=true/\zj ar=true/\qcR ar=true/\cellsOf ar=[ar]) (C:GrdFn P gG gO gL ar l er) (o:Bool) :
  qa P f [ar,.b o] (.tup [.fz (qpj l er o).1.length (rP (qpj l er o).1),.j (qpj l er o).2]):=by
 obtain⟨a1,a2,a3,a4⟩:=har;refine qa.mk hc (by simp[qt,Go.Kc.clo,a1]) ?_;simp only[qcd,vI,simprocAttr];simp +decide only[↓vS,vT,simprocAttr,a2,a3,a4];refine qvK hd hG hL C (b:=0) (bx:=2) (by simp[Tr.get_set];exact⟨rfl,rfl,rfl⟩) (by decide) (by simp[Tr.get_set,WkB,zF]) λv tr2 hv hf=>?_
 cases o with
 | false =>
  simp +decide only[↓vS,vT,simprocAttr,qpj];simp[vZ];exact hv.frz
 | true =>
  simp +decide only[↓vS,vT,simprocAttr,qpj];refine qvJ hd hG hO hL C (b:=1) (bx:=3) (by simp[Tr.get_set];exact⟨rfl,rfl,rfl⟩) (by decide) (by rw[Tr.get_set,if_neg (by decide),hf 1 (by decide)];simp[Tr.get_set,WkB,zF]) λw tr3 hw _=>?_
  obtain⟨z,hz1,hz2⟩:=qjH hs (qj5 l er) (qkL l er) v w hv hw;simp +decide only[↓vS,vT,simprocAttr];refine hz2.sc ?_;simp +decide only[↓vS,vT,simprocAttr];simp[vZ];exact⟨hz1.frz,rfl⟩
end
end Go.Kc
end
section
namespace Go.Kc
section
variable {x:GFil} {n:Int}
end
end Go.Kc
end
section
namespace Go.Kc
variable {P:Program} {f:Nat}
def qjI(b:Bool)(i:Nat):Bool:=decide (i≠0/\i≠2)||(b&&decide (i=0))
def gdE(m:Nat->Bool)(b:Bool)(A:Nat):Nat->List Sy
 | 0=>[⟨32,4,0,0⟩]
 | i+1=>gdE m b A i++if(m i&&qjI b i)=true then [⟨21,qe2 (i:Int),A,(gdE m b A i).length+1⟩]else []
def gdL(m:Nat->Bool)(b:Bool):Nat->Int
 | 0=>-1
 | i+1=>if(m i && !qjI b i && !b)=true then(i:Int)else gdL m b i
def gdZ(a:Int)(p K A:Nat):List Sy:=[⟨21,qe2 a,p+1,K⟩,⟨32,0,0,0⟩,if a=2 then⟨69,1073741824,A,K⟩else⟨69,1073741824,K,A⟩]
def gdK(m:Nat->Bool)(b:Bool):Nat:=(gdE m b 0 6).length+if 0<=gdL m b 6 then 3 else 0
def gdY(m:Nat->Bool)(b:Bool):List Sy:=gdE m b (gdK m b+1) 6++if 0<=gdL m b 6 then gdZ (gdL m b 6) (gdE m b 0 6).length (gdK m b) (gdK m b+1)else []
def gdF(l:List Sy):List Sy:=l++[⟨6,2147483648,0,0⟩]++[⟨6,2147418112,0,0⟩]
def gdR(m:Nat->Bool):List Sy:=gdF (gdY m (m 0&&m 2))
section
variable {m:Nat->Bool} {b:Bool}
def qnY{A:Nat}:∀{i:Nat},(gdE m b A i).length=(gdE m b 0 i).length
 | 0=>rfl
 | i+1=>by simp only[gdE,zzP,qnY (i:=i)];split<;>rfl
def qqH{A:Nat}:∀{i:Nat},(gdE m b A i).length<=1+i
 | 0=>zzL _
 | i+1=>by
  have:=qqH (A:=A) (i:=i);simp only[gdE,zzP];split<;>simp<;>omega
def qry:∀{i:Nat},-1<=gdL m b i/\gdL m b i<i
 | 0=>⟨Int.le_refl _,by simp only[gdL];decide⟩
 | i+1=>by
  have:=qry (i:=i);unfold gdL;split<;>omega
theorem qzg{a:Int}{p K A:Nat}:(gdZ a p K A).length=3:=by simp[gdZ]
def qzf:(gdY m b).length=gdK m b:=by
 unfold gdY gdK;rw[zzP,qnY]
 grind[qzg]
end
section
variable {g w s gl gp gj gh gr gd g1 g2 g4 g5 g6:Nat} {U:Nat->Kd} {tr:Tr Blk} {RV:List Sy} {N:List Nat} {k:AV->Hp->Prop}
def qaJ(a b c d e g h i j k:Nat):ICode:=sq [.r [.n 109 4,.n 110 5,.l 111 i [.t 109,.t 110]],.r [.n 112 4,.l 113 j [.t 112,(.c (.w 2147483648))]],.r [.n 114 4,.n 115 6,.l 116 i [.t 114,.t 115]],.r [.n 117 4,.l 118 j [.t 117,(.c (.w 2147418112))]],.r [.n 119 4,.l 120 k [.t 119],.n 2 120,.m 3 (.k 0)],.ret]
def qcc(a b c d e g h i j k:Nat):ICode:=sq [sq [.r [.n 80 8,.w 81 .geq 80 0],.cond (.t 81) (sq [.r [.q 82 (.build [.j 0] []),.q 83 (.box (.t 82)),.n 14 83],.r [.n 85 8,.l 86 g [.t 85],.n 84 86,.x 87 84 0,.x 88 84 1,.n 15 87,.n 16 88],.r [.n 89 4,.n 90 15,.n 91 14,.n 92 5,.l 93 h [.t 89,(.c (.h 21)),.t 90,.t 91,.t 92]],.r [.n 94 4,.n 95 14,.l 96 i [.t 94,.t 95]],.r [.n 97 4,.l 98 c [.t 97,(.c (.w 0))]],.r [.n 99 8,.w 100 .eql 99 2],.cond (.t 100) (.r [.n 101 4,.n 102 6,.n 103 5,.l 104 h [.t 101,(.c (.h 69)),(.c (.w 1073741824)),.t 102,.t 103]]) (.r [.n 105 4,.n 106 5,.n 107 6,.l 108 h [.t 105,(.c (.h 69)),(.c (.w 1073741824)),.t 106,.t 107]])]) (.skip)],.cut (qaJ a b c d e g h i j k)]
def qcb(a b c d e g h i j k:Nat):ICode:=sq [sq [.r [.l 38 e [],.e 39 38,.m 40 (.k 0)],.blk 0 (.loop (sq [.r [.s 41 40 39],.cond (.t 41) (.skip) (.exit 0),.blk 1 (sq [.r [.i 42 1 38 40,.d 43 42,.n 10 43],sq [.r [.n 44 0,.n 45 10,.l 46 d [.t 44,.t 45],.q 47 (.un .not (.t 46))],.cond (.t 47) (.exit 1) (.skip)],.r [.n 49 10,.l 50 g [.t 49],.n 48 50,.x 51 48 0,.x 52 48 1,.n 11 51,.n 12 52],.r [.q 53 (.build [.j 0] []),.q 54 (.box (.t 53)),.n 13 54],sq [.r [.n 55 10,.w 56 .neq 55 0,.n 57 56,.y 58 10 57,.g 59 (.bin .neq (.t 58) (.k 2)) 57 true,.p 60 57 59,.n 61 60,.z 62 7 61,.z 63 62 61,.y 64 10 63,.g 65 (.bin .eql (.t 64) (.k 0)) 63 true,.g 66 (.pick (.t 63) (.t 65) .F) 61 false,.o 67 61 66],.cond (.t 67) (.r [.n 68 4,.n 69 11,.n 70 6,.n 71 13,.l 72 h [.t 68,(.c (.h 21)),.t 69,.t 70,.t 71]]) (sq [.r [.n 73 7,.q 74 (.un .not (.t 73))],.cond (.t 74) (sq [.r [.n 75 10,.n 8 75],.exit 1]) (.exit 1)])],.r [.n 76 4,.n 77 13,.l 78 i [.t 76,.t 77]]]),.r [.a 79 40 1,.n 40 79]]))],.cut (qcc a b c d e g h i j k)]
def qca(a b c d e g h i j k:Nat):ICode:=sq [.r [.n 30 4,.l 31 c [.t 30,(.c (.w 4))]],.r [.n 32 0,.l 33 d [.t 32,.k 0],.n 34 33,.y 35 0 34,⟨(some 36),.callF d [.t 35,.k 2],(some (34,true))⟩,.p 37 34 36,.n 7 37],.r [.q 8 (.mov (.c (.j (-1))))],.cut (qcb a b c d e g h i j k)]
def qb9(a b c d e g h i j k:Nat):ICode:=sq [.r [.q 24 (.build [.nils,.nils] []),.q 25 (.box (.t 24)),.q 26 (.build [.j 0] []),.q 27 (.box (.t 26)),.q 28 (.build [.j 0] []),.q 29 (.box (.t 28)),.n 4 25,.n 5 27,.n 6 29],.cut (qca a b c d e g h i j k)]
def qhZ(a b c d e g h i j k:Nat):IFn:=⟨[.tmp 2,.tmp 3],sq [.r [.m 2 .N,.m 3 (.k 0)],sq [.r [.n 17 0,.e 18 17,.w 19 .eql 18 0,.n 20 19,.z 21 0 20,⟨(some 22),.callF a [.t 21,(.c (.fn b [] []))],(some (20,false))⟩,.o 23 20 22],.cond (.t 23) (sq [.r [.m 2 .N,.m 3 (.k 2)],.ret]) (.skip)],.cut (qb9 a b c d e g h i j k)]⟩
def gdT(l:List Int)(i:Nat):Bool:=decide ((i:Int) ∈ l)
def qpl{n0 sb bK bA K:Nat}{Ub:Nat->Kd}{tb:Tr Blk}(W:WFn P g gl gp gj gh gr)(hd:qc P gd zi=true)(hj:qc P g qQ=true)(h:WI g w U s tr RV [])(hK:RV.length=K)(hb:RV.length<=1000)(st:Stp [bK,bA] Ub sb tb U s tr)(hdm:∀b,Ub b≠.no->b<sb)(hno:∀b F,Ub b≠.lab F false)
  (kK:U bK = .lab K false) (kA:U bA = .lab (K+1) false) (nK:Ub bK = .no) (nA:Ub bA = .no) {t:Tr AV} (ht:Has t [(4,.ptr w 0),(5,.ptr bK 0),(6,.ptr bA 0)]) :
  S P n0 (qaJ g1 g2 gl g4 g5 g6 gj gh gr gd) (xk [.tmp 2,.tmp 3] λv' h'=>Frz h' v' (.tup [.fz (gdF RV).length (rSy (gdF RV)),.j 0])) t ⟨s,0,tr⟩:=by
 refine S.has _ ht (qk ?_);subst hK;unfold gdF;have hne:bA≠bK:=by grind
 simp only[qaJ,vI,simprocAttr];simp +decide only[↓vS,vT,simprocAttr];refine qaW W.here h kK λt1 q1 q2 w1=>?_
 simp +decide only[↓vS,vT,simprocAttr];have st1:Stp [bA] Ub sb tb (kdS U bK (.lab RV.length true)) s t1:=st.kd' nK q1 q2 λc hc=>by simp_all
 refine qnk W.ret W.put w1 2147483648 (by omega) λU2 s2 t2 st2 w2=>?_
 simp +decide only[↓vS,vT,simprocAttr];have st12:=st1.trans st2
 have kA2:U2 bA = .lab (RV++[(⟨6,2147483648,0,0⟩:Sy)]).length false:=by
  rw[zzP];exact st2.lab _ _ _ (by rw[qj hne];exact kA)
 refine qaW W.here w2 kA2 λt3 q3 q4 w3=>?_
 simp +decide only[↓vS,vT,simprocAttr];have st3:Stp [] Ub sb tb (kdS U2 bA (.lab (RV++[(⟨6,2147483648,0,0⟩:Sy)]).length true)) s2 t3:=st12.kd' nA q3 q4 λc hc=>by simp_all
 refine qnk W.ret W.put w3 2147418112 (by grind) λU4 s4 t4 st4 w4=>?_
 simp +decide only[↓vS,vT,simprocAttr];have st34:=st3.trans st4;refine qvc hd hj w4 (λb F p hb=>?_) (by grind) λt5 b hb hbs=>?_
 .cases p with
  | true=>rfl
  | false => rcases st34.nw b F hb with q|q
             all_goals simp_all
 simp +decide only[↓vS,vT,simprocAttr];simp[vZ,vP,hb];exact Frzs.self (xT λ_=>rfl)
def qvQ{n0 sb bK bA:Nat}{Ub:Nat->Kd}{tb:Tr Blk}{m:Nat->Bool}{b:Bool}(W:WFn P g gl gp gj gh gr)(hd:qc P gd zi=true)(hj:qc P g qQ=true)(c6:qqz P g6)(h:WI g w U s tr (gdE m b (gdK m b+1) 6) [])(st:Stp [bK,bA] Ub sb tb U s tr)(hdm:∀b,Ub b≠.no->b<sb)(hno:∀b F,Ub b≠.lab F false)
  (kK:U bK = .lab (gdK m b) false) (kA:U bA = .lab (gdK m b+1) false) (nK:Ub bK = .no) (nA:Ub bA = .no) {t:Tr AV} (ht:Has t [(4,.ptr w 0),(5,.ptr bK 0),(6,.ptr bA 0),(8,.j (gdL m b 6))]) :
  S P n0 (qcc g1 g2 gl g4 g5 g6 gj gh gr gd) (xk [.tmp 2,.tmp 3] λv' h'=>Frz h' v' (.tup [.fz (gdF (gdY m b)).length (rSy (gdF (gdY m b))),.j 0])) t ⟨s,0,tr⟩:=by
 have hlen:=qqH (m:=m) (b:=b) (A:=gdK m b+1) (i:=6);have hl0:=qnY (m:=m) (b:=b) (A:=gdK m b+1) (i:=6);have hr:=qry (m:=m) (b:=b) (i:=6);have hY:=qzf (m:=m) (b:=b);refine S.has _ ht (qk ?_);simp only[qcc,vI,simprocAttr]
 by_cases hn:0<=gdL m b 6
 .have eY:gdY m b=gdE m b (gdK m b+1) 6++gdZ (gdL m b 6) (gdE m b (gdK m b+1) 6).length (gdK m b) (gdK m b+1):=by unfold gdY;rw[if_pos hn,hl0]
  generalize gdL m b 6=la at *;generalize gdE m b (gdK m b+1) 6=RV at *;simp +decide only[↓vS,vT,simprocAttr,hn];have w1:=h.new (.lab (RV.length+1) false) _ (.inr (.inr (.inr ⟨_,rfl,rfl⟩)));have st1:=h.stpLab (.lab (RV.length+1) false) (.v [.j 0]);have hon:=qI (U:=U) (b:=s) (x:=.lab (RV.length+1) false);refine(c6 la hn (by omega)).sc ?_;simp +decide only[↓vS,vT,simprocAttr];have hK1:=st1.lab _ _ _ kK;have hA1:=st1.lab _ _ _ kA;refine qeS W.jmp W.put w1 ⟨21,qe2 la,RV.length+1,gdK m b⟩ hon (by simp_all) (by omega) λU2 s2 t2 st2 w2=>?_
  simp +decide only[↓vS,vT,simprocAttr];have hon2:=st2.lab _ _ _ hon;have le1:=st.le;have st12:=(st.trans st1).trans st2
  have ns:Ub s = .no:=by
   grind
  refine qaW W.here w2 (p:=false) (b:=s) (by rw[hon2];simp) λt3 q1 q2 w3=>?_
  simp +decide only[↓vS,vT,simprocAttr];have st3:Stp [bK,bA] Ub sb tb (kdS U2 s (.lab (RV++[(⟨21,qe2 la,RV.length+1,gdK m b⟩:Sy)]).length true)) s2 t3:=st12.kd' ns q1 q2 λc hc=>by grind
  have hsK:bK≠s:=λe=>by rw[e]at kK;rw[h.fresh]at kK;cases kK
  have hsA:bA≠s:=λe=>by rw[e]at kA;rw[h.fresh]at kA;cases kA
  refine qlW W.ld W.put w3 0 (by grind) λU4 s4 t4 st4 w4=>?_
  simp +decide only[↓vS,vT,simprocAttr];have hK4:=st4.lab _ _ _ ((qj (U:=U2) (x:=.lab (RV++[(⟨21,qe2 la,RV.length+1,gdK m b⟩:Sy)]).length true) hsK).trans (st2.lab _ _ _ hK1));have hA4:=st4.lab _ _ _ ((qj (U:=U2) (x:=.lab (RV++[(⟨21,qe2 la,RV.length+1,gdK m b⟩:Sy)]).length true) hsA).trans (st2.lab _ _ _ hA1));have st34:=st3.trans st4
  have fin:∀U5 s5 t5 y,Stp [] U4 s4 t4 U5 s5 t5->WI g w U5 s5 t5 (RV++[⟨21,qe2 la,RV.length+1,gdK m b⟩]++[⟨32,0,0,0⟩]++[y]) []->y=(if la=2 then⟨69,1073741824,gdK m b+1,gdK m b⟩else⟨69,1073741824,gdK m b,gdK m b+1⟩)->∀t,Has t [(4,.ptr w 0),(5,.ptr bK 0),(6,.ptr bA 0)]->
    S P n0 (qaJ g1 g2 gl g4 g5 g6 gj gh gr gd) (xk [.tmp 2,.tmp 3] λv' h'=>Frz h' v' (.tup [.fz (gdF (gdY m b)).length (rSy (gdF (gdY m b))),.j 0])) t ⟨s5,0,t5⟩:=λU5 s5 t5 y st5 w5 hy t ht=>by
   have e:RV++[⟨21,qe2 la,RV.length+1,gdK m b⟩]++[⟨32,0,0,0⟩]++[y]=gdY m b:=by rw[eY,hy];simp[gdZ]
   rw[e]at w5;exact qpl W hd hj w5 hY (by rw[<- e];grind) (st34.trans st5) hdm hno (st5.lab _ _ _ hK4) (st5.lab _ _ _ hA4) nK nA ht
  by_cases h2:la=2
  .simp +decide only[↓vS,vT,simprocAttr,h2];subst h2;refine qeS W.jmp W.put w4 ⟨69,1073741824,gdK m b+1,gdK m b⟩ hA4 (by simp_all) (by grind) λU5 s5 t5 st5 w5=>?_
   simp +decide only[↓vS,vT,simprocAttr];exact fin _ _ _ _ st5 w5 (by simp) _ (by simp[qh,ql,Tr.get_set])
  .simp +decide only[↓vS,vT,simprocAttr,h2];refine qeS W.jmp W.put w4 ⟨69,1073741824,gdK m b,gdK m b+1⟩ hK4 (by simp_all) (by grind) λU5 s5 t5 st5 w5=>?_
   simp +decide only[↓vS,vT,simprocAttr];exact fin _ _ _ _ st5 w5 (by grind) _ (by simp[qh,ql,Tr.get_set])
 .have eY:gdY m b=gdE m b (gdK m b+1) 6:=by unfold gdY;rw[if_neg hn,List.append_nil]
  simp +decide only[↓vS,vT,simprocAttr,hn];rw[<- eY]at h hlen;exact qpl W hd hj h hY (by omega) st hdm hno kK kA nK nA (by simp[qh,ql,Tr.get_set])
def qvP{n0 sb bK bA:Nat}{Ub:Nat->Kd}{tb:Tr Blk}(l:List Int)(bb:Bool)(W:WFn P g gl gp gj gh gr)(hd:qc P gd zi=true)(hj:qc P g qQ=true)(c6:qqz P g6)(c4:∀x,qa P g4 [.fz l.length (rI .i64 l),.j x] (.b (decide (x ∈ l))))(c5:qa P g5 [] (.fz 6 (rI .i64 [0,1,2,3,4,5])))
  (h:WI g w U s tr [⟨32,4,0,0⟩] []) (st:Stp [bK,bA] Ub sb tb U s tr) (hdm:∀b,Ub b≠.no->b<sb) (hno:∀b F,Ub b≠.lab F false)
  (kK:U bK = .lab (gdK (gdT l) bb) false) (kA:U bA = .lab (gdK (gdT l) bb+1) false) (nK:Ub bK = .no) (nA:Ub bA = .no) {t:Tr AV} (ht:Has t [(0,.fz l.length (rI .i64 l)),(4,.ptr w 0),(5,.ptr bK 0),(6,.ptr bA 0),(7,.b bb),(8,.j (-1))]) :
  S P n0 (qcb g1 g2 gl g4 g5 g6 gj gh gr gd) (xk [.tmp 2,.tmp 3] λv' h'=>Frz h' v' (.tup [.fz (gdF (gdY (gdT l) bb)).length (rSy (gdF (gdY (gdT l) bb))),.j 0])) t ⟨s,0,tr⟩:=by
 refine S.has _ ht (qk ?_);simp only[qcb,vI,simprocAttr];simp +decide only[↓vS,vT,simprocAttr];refine c5.sc ?_;simp +decide only[↓vS,vT,simprocAttr]
 refine SL.loopP (α:=Nat) (λi=>[(0,.fz l.length (rI .i64 l)),(4,.ptr w 0),(5,.ptr bK 0),(6,.ptr bA 0),(7,.b bb),(8,.j (gdL (gdT l) bb i)),(38,.fz 6 (rI .i64 [0,1,2,3,4,5])),(39,.j 6),(40,.j (i:Int))])
  (λi h=>i<=6/\∃U' s' tr',h=⟨s',0,tr'⟩/\Stp [bK,bA] Ub sb tb U' s' tr'/\WI g w U' s' tr' (gdE (gdT l) bb (gdK (gdT l) bb+1) i) []/\U' bK = .lab (gdK (gdT l) bb) false/\U' bA = .lab (gdK (gdT l) bb+1) false) (λi=>6-i) ?_ 0 ?_ ?_
 .rintro i h1 ⟨hi,U',s',tr',rfl,st',w',kK',kA'⟩ G ih;simp only[vI,simprocAttr]
  by_cases hlt:i<6
  .have hlt':(i:Int)<6:=by omega
   have hx:(rI .i64 [0,1,2,3,4,5])[i]?=some (.j (i:Int)):=by
    match i,hlt with
    | 0,_=>rfl
    | 1,_=>rfl
    | 2,_=>rfl
    | 3,_=>rfl
    | 4,_=>rfl
    | 5,_=>rfl
   have hw1:IntKind.wrap .i64 ((i:Int)+1)=((i+1:Nat):Int):=by rw[qm (by omega) (by omega)];simp
   have hle:=qqH (m:=gdT l) (b:=bb) (A:=gdK (gdT l) bb+1) (i:=i);have ci:qa P g4 [.fz l.length (rI .i64 l),.j (i:Int)] (.b (gdT l i)):=c4 i;have le1:=st'.le;simp +decide only[↓vS,vT,simprocAttr,hlt',hlt,hx,zzU];refine ci.sc ?_;cases hm:gdT l i with
   | false =>
    simp +decide only[↓vS,vT,simprocAttr,hw1];refine ih (i+1) _ _ (by omega) ?_ ⟨by omega,U',s',tr',rfl,st',?_,kK',kA'⟩
    .simp[qh,ql,Tr.get_set,gdL,hm]
    .simpa[gdE,hm]using w'
   | true =>
    simp +decide only[↓vS,vT,simprocAttr];refine(c6 i (by omega) hlt').sc ?_;simp +decide only[↓vS,vT,simprocAttr]
    have skip:qjI bb i=false->∀t',Has t' [(0,.fz l.length (rI .i64 l)),(4,.ptr w 0),(5,.ptr bK 0),(6,.ptr bA 0),(7,.b bb),(8,.j (gdL (gdT l) bb (i+1))),(38,.fz 6 (rI .i64 [0,1,2,3,4,5])),(39,.j 6),(40,.j ((i+1:Nat):Int))]->G t' ⟨s'+1,0,tr'.set s' (.v [.j 0])⟩:=λhs t' ht'=>by
     have w1:=w'.new .no (.v [.j 0]) (.inl rfl);have st1:=st'.trans (w'.stpNew .no (.v [.j 0]) (by simp));refine ih (i+1) _ _ (by omega) ht' ⟨by omega,_,_,_,rfl,st1,?_,(w'.stpNew .no (.v [.j 0]) (by simp)).lab _ _ _ kK',(w'.stpNew .no (.v [.j 0]) (by simp)).lab _ _ _ kA'⟩
     simpa[gdE,hs]using w1
    have go:qjI bb i=true->∀Q:AV->Hp->Prop,(∀U2 s2 t2,Stp [] (kdS U' s' (.lab ((gdE (gdT l) bb (gdK (gdT l) bb+1) i).length+1) false)) (s'+1) (tr'.set s' (.v [.j 0])) U2 s2 t2->WI g w U2 s2 t2 (gdE (gdT l) bb (gdK (gdT l) bb+1) (i+1)) []->Q (.tup []) ⟨s2,0,t2⟩)->SC P gj [.ptr w 0,.h 21,.w (qe2 (i:Int)),.ptr bA 0,.ptr s' 0] ⟨s'+1,0,tr'.set s' (.v [.j 0])⟩ Q:=λhs Q hQ=>by
     have w1:=w'.new (.lab ((gdE (gdT l) bb (gdK (gdT l) bb+1) i).length+1) false) _ (.inr (.inr (.inr ⟨_,rfl,rfl⟩)));have st1:=w'.stpLab (.lab ((gdE (gdT l) bb (gdK (gdT l) bb+1) i).length+1) false) (.v [.j 0]);refine qeS W.jmp W.put w1 ⟨21,qe2 (i:Int),gdK (gdT l) bb+1,(gdE (gdT l) bb (gdK (gdT l) bb+1) i).length+1⟩ (st1.lab _ _ _ kA') (.inr ⟨(by decide:(21:Int)≠5),s',false,rfl,qI⟩) (by omega) λU2 s2 t2 st2 w2=>hQ U2 s2 t2 st2 ?_
     simpa[gdE,hs,hm]using w2
    have ns:Ub s' = .no:=by
     grind
    have nK':bK≠s':=λe=>by rw[e]at kK';rw[w'.fresh]at kK';grind
    have nA':bA≠s':=λe=>by rw[e]at kA';rw[w'.fresh]at kA';grind
    by_cases i0:i=0
    .have j0:((i:Int)=0)=True:=eq_true (by omega);cases bb with
     | false =>
      simp +decide only[↓vS,vT,simprocAttr,j0,hw1];have hs:qjI false i=false:=by simp[qjI,i0]
      refine skip hs _ ?_;simp[qh,ql,Tr.get_set,gdL,hm,hs]
     | true =>
      have hs:qjI true i=true:=by simp[qjI,i0]
      simp +decide only[↓vS,vT,simprocAttr,j0];refine go hs _ λU2 s2 t2 st2 w2=>?_
      simp +decide only[↓vS,vT,simprocAttr];refine qaW W.here w2 (p:=false) (b:=s') (by rw[st2.lab _ _ _ qI];simp[gdE,hs,hm]) λt3 q1 q2 w3=>?_
      simp +decide only[↓vS,vT,simprocAttr,hw1];refine ih (i+1) _ _ (by omega) ?_ ⟨by omega,_,_,_,rfl,((st'.trans (w'.stpLab (.lab ((gdE (gdT l) true (gdK (gdT l) true+1) i).length+1) false) (.v [.j 0]))).trans st2).kd' ns q1 q2 (λc hc=>by grind),w3,?_,?_⟩
      .simp[qh,ql,Tr.get_set,gdL,hm,hs]
      .rw[qj nK'];exact st2.lab _ _ _ (((qj nK').trans kK'))
      .rw[qj nA'];exact st2.lab _ _ _ (((qj nA').trans kA'))
    .have j0:((i:Int)=0)=False:=eq_false (by omega)
     by_cases i2:i=2
     .have j2:((i:Int)=2)=True:=eq_true (by omega);cases bb with
      | false =>
       simp +decide only[↓vS,vT,simprocAttr,j0,j2,hw1];have hs:qjI false i=false:=by simp[qjI,i2]
       refine skip hs _ ?_;simp[qh,ql,Tr.get_set,gdL,hm,hs]
      | true =>
       simp +decide only[↓vS,vT,simprocAttr,j0,j2,hw1];have hs:qjI true i=false:=by simp[qjI,i2]
       refine skip hs _ ?_;simp[qh,ql,Tr.get_set,gdL,hm,hs]
     .have j2:((i:Int)=2)=False:=eq_false (by omega);have hs:qjI bb i=true:=by simp[qjI,i0,i2]
      simp +decide only[↓vS,vT,simprocAttr,j0,j2];refine go hs _ λU2 s2 t2 st2 w2=>?_
      simp +decide only[↓vS,vT,simprocAttr];refine qaW W.here w2 (p:=false) (b:=s') (by rw[st2.lab _ _ _ qI];simp[gdE,hs,hm]) λt3 q1 q2 w3=>?_
      simp +decide only[↓vS,vT,simprocAttr,hw1];refine ih (i+1) _ _ (by omega) ?_ ⟨by omega,_,_,_,rfl,((st'.trans (w'.stpLab (.lab ((gdE (gdT l) bb (gdK (gdT l) bb+1) i).length+1) false) (.v [.j 0]))).trans st2).kd' ns q1 q2 (λc hc=>by grind),w3,?_,?_⟩
      .simp[qh,ql,Tr.get_set,gdL,hm,hs]
      .rw[qj nK'];exact st2.lab _ _ _ (((qj nK').trans kK'))
      .rw[qj nA'];exact st2.lab _ _ _ (((qj nA').trans kA'))
  .obtain rfl:i=6:=by omega
   simp +decide only[↓vS,vT,simprocAttr];exact qvQ W hd hj c6 w' st' hdm hno kK' kA' nK nA (by simp[qh,ql,Tr.get_set])
 .simp[qh,ql,Tr.get_set,gdL]
 .exact⟨Nat.zero_le _,U,s,tr,rfl,st,h,kK,kA⟩
def qvO{n0 sb bK bA:Nat}{Ub:Nat->Kd}{tb:Tr Blk}(l:List Int)(W:WFn P g gl gp gj gh gr)(hd:qc P gd zi=true)(hj:qc P g qQ=true)(c6:qqz P g6)(c4:∀x,qa P g4 [.fz l.length (rI .i64 l),.j x] (.b (decide (x ∈ l))))(c5:qa P g5 [] (.fz 6 (rI .i64 [0,1,2,3,4,5])))
  (h:WI g w U s tr [] []) (st:Stp [bK,bA] Ub sb tb U s tr) (hdm:∀b,Ub b≠.no->b<sb) (hno:∀b F,Ub b≠.lab F false)
  (kK:U bK = .lab (gdK (gdT l) (gdT l 0&&gdT l 2)) false) (kA:U bA = .lab (gdK (gdT l) (gdT l 0&&gdT l 2)+1) false) (nK:Ub bK = .no) (nA:Ub bA = .no) {t:Tr AV} (ht:Has t [(0,.fz l.length (rI .i64 l)),(4,.ptr w 0),(5,.ptr bK 0),(6,.ptr bA 0)]) :
  S P n0 (qca g1 g2 gl g4 g5 g6 gj gh gr gd) (xk [.tmp 2,.tmp 3] λv' h'=>Frz h' v' (.tup [.fz (gdR (gdT l)).length (rSy (gdR (gdT l))),.j 0])) t ⟨s,0,tr⟩:=by
 refine S.has _ ht (qk ?_);have b0:qa P g4 [.fz l.length (rI .i64 l),.j 0] (.b (gdT l 0)):=c4 0;have b2:qa P g4 [.fz l.length (rI .i64 l),.j 2] (.b (gdT l 2)):=c4 2;simp only[qca,vI,simprocAttr];simp +decide only[↓vS,vT,simprocAttr];refine qlW W.ld W.put h 4 (by simp) λU1 s1 t1 st1 w1=>?_
 rw[zzN]at w1;have kK1:=st1.lab _ _ _ kK;have kA1:=st1.lab _ _ _ kA;have fin:=λbb (e:(gdT l 0&&gdT l 2)=bb) t ht=>qvP (n0:=n0) (g1:=g1) (g2:=g2) (t:=t) l bb W hd hj c6 c4 c5 w1 (st.trans st1) hdm hno (by rw[<- e];omega) (by rw[<- e];omega) nK nA ht
 unfold gdR;simp +decide only[↓vS,vT,simprocAttr];refine b0.sc ?_;cases e0:gdT l 0 with
 | false =>
  simp +decide only[↓vS,vT,simprocAttr];rw[e0]at fin;refine fin _ rfl _ ?_;simp[qh,ql,Tr.get_set]
 | true =>
  simp +decide only[↓vS,vT,simprocAttr];refine b2.sc ?_;cases e2:gdT l 2 with
  | false =>
   simp +decide only[↓vS,vT,simprocAttr];rw[e0,e2]at fin;refine fin _ rfl _ ?_;simp[qh,ql,Tr.get_set]
  | true =>
   simp +decide only[↓vS,vT,simprocAttr];rw[e0,e2]at fin;refine fin _ rfl _ ?_;simp[qh,ql,Tr.get_set]
def qoN(l:List Int):Bool:=decide (l=[])||l.any λa=>decide (a<0)||decide (6<=a)
def gdA(l:List Int):List Sy×Int:=if qoN l=true then([],2)else(gdR (gdT l),0)
def qvN{n0:Nat}(l:List Int)(W:WFn P g gl gp gj gh gr)(hd:qc P gd zi=true)(hj:qc P g qQ=true)(c6:qqz P g6)(c4:∀x,qa P g4 [.fz l.length (rI .i64 l),.j x] (.b (decide (x ∈ l))))(c5:qa P g5 [] (.fz 6 (rI .i64 [0,1,2,3,4,5])))(hn:n0=0)
  {t':Tr AV} {h':Hp} (hw:Wk 0 t' h' (mkT [(0,.fz l.length (rI .i64 l))]) (mkH 0 [])) :
  S P n0 (qb9 g1 g2 gl g4 g5 g6 gj gh gr gd) (xk [.tmp 2,.tmp 3] λv' h'=>Frz h' v' (.tup [.fz (gdR (gdT l)).length (rSy (gdR (gdT l))),.j 0])) t' h':=by
 subst hn;refine S.weak hw (qk ?_);simp only[qb9,vI,simprocAttr];simp +decide only[↓vS,vT,simprocAttr];refine S.weak (Wk.mk [(0,.fz l.length (rI .i64 l)),(4,.ptr 0 0),(5,.ptr 1 0),(6,.ptr 2 0)] [.v [.own 3 0,.own 4 0],.v [.j 0],.v [.j 0],.cells 4 true true [],.cells 1 true true []] [0,1,2,99,99] ?_ ?_ ?_ rfl) ?_
 .simp[vw,qi]
 .simp[vw]
 .simp
 simp only[vI,simprocAttr];generalize hKp:gdK (gdT l) (gdT l 0&&gdT l 2)=Kp
 have hW:∀k1 k2:Kd,(k1 = .no\/k1 = .lab Kp false)->(k2 = .no\/k2 = .lab (Kp+1) false)->WI g 0 (λb=>if b=0 then .w else if b=1 then k1 else if b=2 then k2 else if b=3 then .l else if b=4 then .t else .no) 5 (((((Tr.leaf.set 0 (.v [.own 3 0,.own 4 0])).set 1 (.v [.j 0])).set 2 (.v [.j 0])).set 3 (.cells 4 true true [])).set 4 (.cells 1 true true [])) [] []:=λk1 k2 h1 h2=>by
  refine⟨λb hb=>?_,⟨3,4,[],[],rfl,rfl,rfl,?_,?_,?_,trivial,by simp,λj y hy=>by simp at hy⟩,λb F p hb=>?_⟩
  .by_cases e:b<5
   .exact e
   .rw[if_neg (by omega),if_neg (by omega),if_neg (by omega),if_neg (by omega),if_neg (by omega)]at hb;exact absurd rfl hb
  .simp[Tr.get_set]
  .simp[Tr.get_set,rSy]
  .simp[Tr.get_set]
  .split at hb
   .cases hb
   split at hb
   .rename_i e;subst e;rcases h1 with rfl|rfl
    .cases hb
    .cases hb;exact⟨0,by simp[Tr.get_set],by simp⟩
   split at hb
   .rename_i e;subst e;rcases h2 with rfl|rfl
    .cases hb
    .cases hb;exact⟨0,by simp[Tr.get_set],by simp⟩
   split at hb
   .cases hb
   split at hb<;>cases hb
 refine qvO (bK:=1) (bA:=2) (Ub:=λb=>if b=0 then .w else if b=1 then .no else if b=2 then .no else if b=3 then .l else if b=4 then .t else .no) (sb:=5) (tb:=(((((Tr.leaf.set 0 (.v [.own 3 0,.own 4 0])).set 1 (.v [.j 0])).set 2 (.v [.j 0])).set 3 (.cells 4 true true [])).set 4 (.cells 1 true true [])))
  l W hd hj c6 c4 c5 (hW (.lab Kp false) (.lab (Kp+1) false) (.inr rfl) (.inr rfl)) ⟨zzL _,λb hb=>⟨?_,rfl⟩,λb hb=>⟨?_,rfl⟩,λb F p hb=>?_,λb F hb=>?_⟩ (by grind) ?_ (by rw[hKp];rfl) (by rw[hKp];rfl) rfl rfl ?_
 all_goals first|(simp[qh,ql,Tr.get_set];done)|skip
 all_goals grind
end
section
variable {g gl gp gj gh gr gd g1 g2 g4 g5 g6:Nat}
def qf8:IFn:=⟨[.tmp 2],sq [.r [.m 2 .F],.r [.n 3 0,.w 4 .lss 3 0,.n 5 4,.z 6 0 5,.g 7 (.bin .geq (.t 6) (.k 6)) 5 false,.o 8 5 7,.n 2 8],.ret]⟩
def qIj(hc:qc P f qf8=true)(a:Int):qa P f [.j a] (.b (decide (a<0)||decide (6<=a))):=by
 refine qa.mk hc rfl ?_;simp only[qf8,vI,simprocAttr]
 by_cases h:a<0
 .simp +decide only[↓vS,vT,simprocAttr,h];simp[vZ]
 .simp +decide only[↓vS,vT,simprocAttr,h];simp[vZ]
def jF(a:Nat):IFn:=⟨[.tmp 4],sq [.r [.m 4 .F],.r [.n 5 0,.n 6 1,.l 7 a [.t 5,.t 6],.w 8 .geq 7 0,.n 4 8],.ret]⟩
def qx2{g:Nat}(hc:qc P f (jF g)=true)(h:quM P g)(l:List Int)(k:Nat)(p:Int->Bool)(hk:∀c,qa P k [.j c] (.b (p c)))(hl:l.length<=qf):qa P f [.fz l.length (rI .i64 l),.fn k [] []] (.b (l.any p)):=by
 refine qa.mk hc (by simp[qt,clo,qi]) ?_;simp only[jF,vI,simprocAttr];simp only[↓vS,vT,simprocAttr];refine(h (λx:Int=>.j x) p k [] [] l rfl rfl hl λx _=>hk x).sc ?_
 simp only[↓vS,vT,simprocAttr];simp[vZ,<- qlK p l 0]
def qFr(hc:qc P f (qhZ g1 g2 gl g4 g5 g6 gj gh gr gd)=true)(W:WFn P g gl gp gj gh gr)(hd:qc P gd zi=true)(hj:qc P g qQ=true)(c6:qqz P g6)(c1:∀l:List Int,l.length<=qf->qa P g1 [.fz l.length (rI .i64 l),.fn g2 [] []] (.b (l.any λa=>decide (a<0)||decide (6<=a))))
  (c4:∀(l:List Int) (x:Int),l.length<=qf->qa P g4 [.fz l.length (rI .i64 l),.j x] (.b (decide (x ∈ l)))) (c5:qa P g5 [] (.fz 6 (rI .i64 [0,1,2,3,4,5]))) (l:List Int) (hl:l.length<=qf) :
  qa P f [.fz l.length (rI .i64 l)] (.tup [.fz (gdA l).1.length (rSy (gdA l).1),.j (gdA l).2]):=by
 refine qa.mk hc (by simp[qt,clo,qi]) ?_;have e1:=c1 l hl;simp only[qhZ,vI,simprocAttr];unfold gdA qoN
 by_cases h:l.length=0
 .have h':((l.length:Int)=0)=True:=eq_true (by omega);have hn:l=[]:=by simp_all
  rw[hn];simp +decide only[↓vS,vT,simprocAttr];simp[vZ,rSy]
 .have h':((l.length:Int)=0)=False:=eq_false (by omega);have hn:decide (l=[])=false:=by simp_all
  rw[hn,Bool.false_or];simp +decide only[↓vS,vT,simprocAttr,h'];refine e1.sc ?_;cases hb:l.any λa=>decide (a<0)||decide (6<=a)with
  | true =>
   simp +decide only[↓vS,vT,simprocAttr];simp[vZ,rSy]
  | false =>
   simp +decide only[↓vS,vT,simprocAttr];refine qvN l W hd hj c6 (λx=>c4 l x hl) c5 rfl (Wk.mk _ _ [] ?_ ?_ ?_ rfl)
   .simp[vw,qi]
   .trivial
   .simp
end
end Go.Kc
end
section
namespace Go.Kc
def qjO:List Int:=[3221225534,1073741827,1073741864,3221225655,3221225715]
def evG(R:List Sy)(c:Int)(z:Bool):Nat->Nat->Nat->Option Int
 | 0,_,_=>none
 | n+1,p,w=>match R[p]? with
  | none=>none
  | some s=>if s.code=32 then(if s.k=4 then evG R c z n (p+1) 1 else if s.k=0 then evG R c z n (p+1) 2 else none)
   else if s.code=6 then some s.k
   else if s.code=21 then(if w=1/\qjO.contains s.k=true then evG R c z n (if c=s.k then s.th else s.el) w else none)
   else if s.code=69 then(if w=2/\s.k=1073741824 then evG R c z n (if z=true then s.th else s.el) w else none)
   else none
def qj0{R:List Sy}{d:GData}{c:Int}{z:Bool}(hc:∀K ∈ qjO,(d.arch=K↔c=K))(hz:z=decide (0<qcO .u32 d.nr 1073741824)):∀(n p w:Nat) (a r:Int),(w=1->a=d.arch)->(w=2->a=d.nr)->evG R c z n p w=some r->Ev R d p a r
 | 0,p,w,a,r,_,_,h=>by simp[evG]at h
 | n+1,p,w,a,r,h1,h2,h=>by
  unfold evG at h;cases hs:R[p]? with
  | none=>rw[hs]at h;cases h
  | some s =>
   rw[hs]at h;simp only at h;split at h
   .rename_i e;split at h
    .rename_i e4;exact .ld p a r s hs e (qj0 hc hz n _ 1 _ r (λ_=>by rw[e4];rfl) (by omega) h)
    split at h
    .rename_i e0;exact .ld p a r s hs e (qj0 hc hz n _ 2 _ r (by omega) (λ_=>by rw[e0];rfl) h)
    .cases h
   split at h
   .rename_i e;cases h;exact .rt p a s hs e
   split at h
   .rename_i e;split at h
    .rename_i hw
     have ek:qfg s.code a s.k=decide (c=s.k):=by
      rw[e,h1 hw.1];unfold qfg;rw[if_pos rfl];exact by simp_all
     refine .jc p a r s hs (.inl e) ?_;rw[ek];simp only[decide_eq_true_eq];exact qj0 hc hz n _ w a r h1 h2 h
    .cases h
   split at h
   .rename_i e;split at h
    .rename_i hw
     have ek:qfg s.code a s.k=z:=by
      rw[e,h2 hw.1,hw.2,hz];rfl
     refine .jc p a r s hs (.inr (.inr (.inr e))) ?_;rw[ek];exact qj0 hc hz n _ w a r h1 h2 h
    .cases h
   grind
instance {s:Sy} {j n:Nat}:Decidable (qfo s j n):=by unfold qfo qfX;infer_instance
def qDv(R:List Sy):Bool:=decide (0<R.length)&&decide (R.length<=10)&&decide ((R.getD (R.length-1) ⟨0,0,0,0⟩).code=6)&&(List.range R.length).all (λj=>decide (qfo (R.getD j ⟨0,0,0,0⟩) j R.length))&&R.all λx=>decide (0<=x.k/\x.k<=4294967295)
def qqS(c:Int)(z:Bool):Option Nat:=if c=3221225534 then some (if z=true then 2 else 0)else if c=1073741827 then some 1 else if c=1073741864 then some 3 else if c=3221225655 then some 4 else if c=3221225715 then some 5 else none
def qjG(m:Nat->Bool)(o:Option Nat):Int:=match o with
 | some a=>if m a=true then 2147418112 else 2147483648
 | none=>2147483648
def okG(m:Nat->Bool):Bool:=qDv (gdR m)&&((-1)::qjO).all λc=>[false,true].all λz=>decide (evG (gdR m) c z 16 0 0=some (qjG m (qqS c z)))
def mkG(m0 m1 m2 m3 m4 m5:Bool)(i:Nat):Bool:=match i with|0=>m0|1=>m1|2=>m2|3=>m3|4=>m4|_=>m5
def qGx:Bool:=[false,true].all λm0=>[false,true].all λm1=>[false,true].all λm2=>[false,true].all λm3=>[false,true].all λm4=>[false,true].all λm5=>!(m0||m1||m2||m3||m4||m5)||okG (mkG m0 m1 m2 m3 m4 m5)
def qyb:qGx=true:=by kernel_rfl
section
variable {m m':Nat->Bool}
def qm0{b:Bool}{A:Nat}:∀{i:Nat},(∀j,j<i->m j=m' j)->gdE m b A i=gdE m' b A i/\gdL m b i=gdL m' b i
 | 0,_=>⟨rfl,rfl⟩
 | i+1,h=>by
  have h1:=qm0 (b:=b) (A:=A) (i:=i) (by grind);have h2:=h i (by omega);unfold gdE gdL;rw[h1.1,h1.2,h2];simp_all
def qtb(h:∀j,j<6->m j=m' j):gdR m=gdR m':=by
 have hb:(m 0&&m 2)=(m' 0&&m' 2):=by rw[h 0 (by omega),h 2 (by omega)]
 have e:∀b A,gdE m b A 6=gdE m' b A 6/\gdL m b 6=gdL m' b 6:=λb A=>qm0 h
 unfold gdR gdY gdK;rw[hb];simp only[(e _ _).1,(e _ 0).2]
def qDZ(h:(m 0||m 1||m 2||m 3||m 4||m 5)=true):qDv (gdR m)=true/\∀c ∈ (-1)::qjO,∀z:Bool,evG (gdR m) c z 16 0 0=some (qjG m (qqS c z)):=by
 have hb:∀b:Bool,b ∈ [false,true]:=by decide
 have h0:=qyb;unfold qGx at h0;have h1:=List.all_eq_true.1 (List.all_eq_true.1 (List.all_eq_true.1 (List.all_eq_true.1 (List.all_eq_true.1 (List.all_eq_true.1 h0 (m 0) (hb _)) (m 1) (hb _)) (m 2) (hb _)) (m 3) (hb _)) (m 4) (hb _)) (m 5) (hb _);rw[h]at h1;have h2:okG (mkG (m 0) (m 1) (m 2) (m 3) (m 4) (m 5))=true:=by simpa using h1
 have em:∀j,j<6->mkG (m 0) (m 1) (m 2) (m 3) (m 4) (m 5) j=m j:=λj hj=>by
  match j,hj with
  | 0,_=>rfl
  | 1,_=>rfl
  | 2,_=>rfl
  | 3,_=>rfl
  | 4,_=>rfl
  | 5,_=>rfl
 unfold okG at h2;rw[qtb em,zzB]at h2;refine⟨h2.1,λc hc z=>?_⟩
 have h3:=List.all_eq_true.1 (List.all_eq_true.1 h2.2 c hc) z (hb z);rw[decide_eq_true_eq]at h3;rw[h3]
 have es:∀o:Option Nat,(∀a,o=some a->a<6)->qjG (mkG (m 0) (m 1) (m 2) (m 3) (m 4) (m 5)) o=qjG m o:=λo ho=>by
  cases o with
  | none=>rfl
  | some a=>unfold qjG;simp only;rw[em a (ho a rfl)]
 rw[es];intro a ha;unfold qqS at ha
 repeat' split at ha
 all_goals grind
end
def qzV(t n:Int):ofM t n=if t=3221225534 then(if qcO .u32 n 1073741824≠0 then(2,true)else(0,true))else if t=1073741827 then(1,true)else if t=1073741864 then(3,true)else if t=3221225655 then(4,true)else if t=3221225715 then(5,true)else(0,false):=by
 unfold ofM
 by_cases h1:t=3221225534
 .simp[h1,xc,xI]
 by_cases h2:t=1073741827
 .simp[h2,xc,xI]
 by_cases h3:t=1073741864
 .simp[h3,xc,xI]
 by_cases h4:t=3221225655
 .simp[h4,xc,xI]
 by_cases h5:t=3221225715
 .simp[h5,xc,xI]
 simp only[h1,h2,h3,h4,h5,xc,xI,eq_comm (b:=t),if_false];simp
def gdM(l:List Int)(d:GData):Int:=if(ofM d.arch d.nr).2=true/\(ofM d.arch d.nr).1 ∈ l then 2147418112 else 2147483648
def qrz(l:List Int)(d:GData){c:Int}(hc:(d.arch=c/\c ∈ qjO)\/(c = -1/\d.arch ∉ qjO)):qjG (gdT l) (qqS c (decide (0<qcO .u32 d.nr 1073741824)))=gdM l d:=by
 unfold gdM;rw[qzV];have hz:0<=qcO .u32 d.nr 1073741824:=qrf _ _;generalize qcO .u32 d.nr 1073741824=z at hz;rcases hc with⟨e,hm⟩|⟨rfl,hm⟩
 .subst e;simp only[qjO,List.mem_cons,List.not_mem_nil,or_false]at hm
  by_cases h0:z=0
  .rcases hm with e|e|e|e|e<;>simp[e,h0,qqS,qjG,gdT]
  .have h1:0<z:=by omega
   rcases hm with e|e|e|e|e<;>simp[e,h0,h1,qqS,qjG,gdT]
 .simp only[qjO,List.mem_cons,List.not_mem_nil,or_false,not_or]at hm;obtain⟨h1,h2,h3,h4,h5⟩:=hm;simp[h1,h2,h3,h4,h5,qqS,qjG]
def qBZ{l:List Int}(h:qoN l=false):(gdT l 0||gdT l 1||gdT l 2||gdT l 3||gdT l 4||gdT l 5)=true:=by
 cases l with
 | nil=>cases h
 | cons a l =>
  have h1:¬a<0/\¬6<=a:=by
   simp only[qoN,List.any_cons,Bool.or_eq_false_iff,decide_eq_false_iff_not]at h;exact h.2.1
  have e:∀i:Nat,(i:Int)=a->gdT (a::l) i=true:=λi hi=>by unfold gdT;rw[hi];simp
  have ha:a=0\/a=1\/a=2\/a=3\/a=4\/a=5:=by omega
  grind
theorem qvF{l:List Int}(h:qoN l=false):MayL (gdR (gdT l))/\wn (gdR (gdT l))/\(gdR (gdT l)).length<=10/\∀d,DatOk d->Ev (gdR (gdT l)) d 0 0 (gdM l d):=by
 obtain⟨h1,h2⟩:=qDZ (qBZ h);generalize hR:gdR (gdT l)=R at h1 h2;unfold qDv at h1;simp only[zzB,decide_eq_true_eq,List.all_eq_true]at h1;obtain⟨⟨⟨⟨p1,p2⟩,p3⟩,p4⟩,p5⟩:=h1;have gd:∀(j:Nat) s,R[j]?=some s->R.getD j ⟨0,0,0,0⟩=s:=λj s hj=>by rw[List.getD_eq_getElem?_getD,hj];rfl
 refine⟨⟨p1,by omega,⟨_,zzE (by omega),?_⟩,λj s hj=>?_⟩,λx hx=>p5 x hx,p2,λd hd=>?_⟩
 .rw[gd _ _ (zzE (by omega:R.length-1<R.length))]at p3;exact p3
 .have:=p4 j (List.mem_range.2 (zzS.1 hj).1);rw[gd _ _ hj]at this;exact this
 .by_cases hm:d.arch ∈ qjO
  .rw[<- qrz l d (.inl ⟨rfl,hm⟩)];exact qj0 (λK _=>Iff.rfl) rfl 16 0 0 0 _ (λq=>by cases q) (λq=>by cases q) (h2 d.arch (List.mem_cons_of_mem _ hm) _)
  .rw[<- qrz l d (.inr ⟨rfl,hm⟩)];refine qj0 (c:=-1) (λK hK=>⟨λe=>absurd (e ▸ hK) hm,λe=>?_⟩) rfl 16 0 0 0 _ (λq=>by cases q) (λq=>by cases q) (h2 (-1) (List.mem_cons_self ..) _)
   subst e;exact absurd hK (by decide)
end Go.Kc
end
section
namespace Go.Kc
variable {P:Program} {f:Nat}
noncomputable def gdC(l:List Int)(o:Bool):List Ins×Int:=qpj (gdA l).1 (gdA l).2 o
section
variable {l:List Int}
def qC1(h:qoN l=true)(o:Bool):gdC l o=([],2):=by
 unfold gdC gdA qpj qj5 qkL qd2;rw[if_pos h];simp
end
def qsM(P:Program)(g:Nat):Prop:=∀l:List Int,l.length<=qf->∀o:Bool,qa P g [.fz l.length (rI .i64 l),.b o] (.tup [.fz (gdC l o).1.length (rP (gdC l o).1),.j (gdC l o).2])
def qJP{gd gwG gwO gwL gs gG gO gL:Nat}(hc:qc P f (qcd gwG gwL gd gwO gs)=true)(hd:qc P gd qO=true)(hG:qc P gwG (zM gG)=true)(hO:qc P gwO (zc gO)=true)(hL:qc P gwL (qN gL)=true)
  (hs:qc P gs xZ=true) (c1:∀l:List Int,l.length<=qf->qa P gG [.fz l.length (rI .i64 l)] (.tup [.fz (gdA l).1.length (rSy (gdA l).1),.j (gdA l).2])) (c3:qyE P gO) (c4:qrp P gL):qsM P f:=λl hl o=>by
 have ok:(gdA l).2=0->MayL (gdA l).1:=λh=>by
  unfold gdA at h ⊢
  grind[qvF]
 exact qqL hc hd hG hO hL hs ⟨by simp[clo,qi],rfl,rfl,rfl⟩ ⟨c1 l hl,λh=>c4 _ (ok h),λh=>c3 _ (ok h),λh=>c4 _ (qk5 (ok h))⟩ o
section
variable {g1 g2 g3 g4 g5 g6 g7 g8:Nat}
def qJ7(P:Program)(g:Nat):Prop:=∀p:List Ins,(∀i ∈ p,InsOk i)->qa P g [.fz p.length (rP p)] (.j (atU p (qeb p)).2)
end
def d29(t n x:Int):GData:=⟨n,t,0,x,0,0,0,0,0⟩
def qCG{t n x:Int}(h:decide (0<=t/\t<=4294967295/\0<=n/\n<=4294967295/\0<=x/\x<18446744073709551616)=true):DatOk (d29 t n x):=by
 obtain⟨h1,h2,h3,h4,h5,h6⟩:=of_decide_eq_true h;refine⟨h3,h4,h1,h2,λy hy=>?_⟩
 simp only[qqj,d29,List.mem_cons,List.not_mem_nil,or_false]at hy;rcases hy with rfl|rfl|rfl|rfl|rfl|rfl|rfl<;>first|exact⟨h5,h6⟩|exact⟨by decide,by decide⟩
abbrev Pt:=Int×Int×GFil
def qox:GFil:=⟨0,[],0⟩
noncomputable def qez(p:Pol)(d a:Nat):List Pt:=match qhb p (d:Int) (a:Int)with|some x=>[((d:Int),(a:Int),x)]|none=>[]
noncomputable def qfQ(p:Pol):List Pt:=if 0<p.arches.length then [(0,6,qox)]else []
noncomputable def qdn(p:Pol)(d a:Nat):List Pt:=qfQ p++((List.range d).flatMap λd=>(List.range 6).flatMap λa=>qez p d a)++(List.range a).flatMap λa=>qez p d a
noncomputable def zx(p:Pol):List Pt:=qdn p 8 0
def qob(p:Pol)(d a:Nat):qdn p d (a+1)=qdn p d a++qez p d a:=by
 unfold qdn;rw[List.range_succ (n:=a),List.flatMap_append,<- List.append_assoc];simp
def ql4(p:Pol)(d:Nat):qdn p (d+1) 0=qdn p d 6:=by
 unfold qdn;rw[List.range_succ (n:=d),List.flatMap_append];simp
def qnh(p:Pol)(d a:Nat):(qez p d a).length<=1:=by unfold qez;split<;>simp
def ql5(p:Pol):∀d a,(qdn p d a).length<=1+6*d+a
 | d,a+1=>by
  have h1:=ql5 p d a;have h2:=qnh p d a;rw[qob,zzP];omega
 | d+1,0=>by
  have h1:=ql5 p d 6;rw[ql4];omega
 | 0,0=>by
  unfold qdn qfQ;split<;>simp
def qAb{p:Pol}{d a:Nat}(hd:d<8)(ha:a<6){q:Pt}(h:q ∈ qez p d a):q ∈ zx p:=by
 unfold zx qdn
 grind
def qzi{p:Pol}{q:Pt}(h:q ∈ qfQ p):q ∈ zx p:=List.mem_append_left _ (by simp_all)
noncomputable def qcm(p:Pol)(o:Bool)(q:Pt):List Ins×Int:=if q.1=0 then gdC p.arches o else qdG q.2.2 o
noncomputable def toP(p:Pol)(o:Bool)(q:Pt):Prg:=⟨q.1,q.2.1,(qcm p o q).1⟩
noncomputable def qby(p:Pol)(o:Bool):List Prg×Int :=
 if qjt p=true then(if ∀q ∈ zx p,(qcm p o q).2=0 then((zx p).map (toP p o),0)else([],270))else([],2)
def qgX(a:Nat):IFn:=⟨[.tmp 2],sq [.r [.q 1 (.box (.t 0)),.m 2 (.c (.nilf))],.r [.q 3 (.mkF a [] [.t 1]),.n 2 3],.ret]⟩
def qHI{g:Nat}(hc:qc P f (qgX g)=true)(p:Pol):qa P f [.agg (qB p)] (.fn g [] [.pf (qB p) 0]):=by
 refine qa.mk hc (by simp[qt,clo,qmM]) ?_;simp only[qgX,qB,vI,simprocAttr];simp +decide only[↓vS,vT,simprocAttr];simp[vZ,vP,Tr.get_set,qJ,qi,qp]
 done
def qaY(a b:Nat):ICode:=sq [.r [.m 19 (.k 0)],.blk 0 (.loop (sq [.r [.w 20 .lss 19 8],.cond (.t 20) (.skip) (.exit 0),.blk 1 (sq [.r [.n 21 19,.n 3 21],.r [.l 22 a [],.e 23 22,.m 24 (.k 0)],.blk 2 (.loop (sq [.r [.s 25 24 23],.cond (.t 25) (.skip) (.exit 2),.blk 3 (sq [.r [.i 26 1 22 24,.d 27 26,.n 5 27],.r [.v 29 13 1,.n 30 3,.n 31 5,.l 32 b [.t 29,.t 30,.t 31],.n 28 32,.x 33 28 0,.x 34 28 1,.q 6 (.alloc [.j 0,.nils,.w 0]),.u (.store 3 (.t 6) (.t 33)),.n 7 34],.r [.n 35 7,.n 36 35,.y 37 0 36,.y 38 3 36,.y 39 5 36,.g 40 (.loadN 3 (.t 6)) 36 true,.g 41 (.build [.j 0,.j 0,.j 0,.nils,.w 0] [(0,1,(.t 38)),(1,1,(.t 39)),(2,3,(.t 40))]) 36 true,⟨(some 42),.callV (.t 37) [.t 41],(some (36,true))⟩,.g 43 (.un .not (.t 42)) 36 true,.p 44 36 43],.cond (.t 44) (.ret) (.skip)]),.r [.a 45 24 1,.n 24 45]]))]),.r [.a 46 19 1,.n 19 46]]))]
def qck(a b:Nat):IFn:=⟨[],sq [sq [.r [.f 8 0 1,.d 9 8,.e 10 9,.w 11 .gtr 10 0,.n 12 11,.y 13 0 12,.g 14 (.build [.j 0,.nils,.w 0] []) 12 true,.g 15 (.build [.j 0,.j 0,.j 0,.nils,.w 0] [(0,1,(.k 0)),(1,1,(.k 6)),(2,3,(.t 14))]) 12 true,⟨(some 16),.callV (.t 13) [.t 15],(some (12,true))⟩,.g 17 (.un .not (.t 16)) 12 true,.p 18 12 17],.cond (.t 18) (.ret) (.skip)],.cut (qaY a b)]⟩
def qer(a b c d:Nat):ICode:=sq [.r [.d 44 6,.u (.store 1 (.t 4) (.t 44)),.u (.store 1 (.t 5) (.k 0))],.ret]
def qgV(a b c d:Nat):IFn:=⟨[.cell 4 1 false,.cell 5 1 false],sq [.r [.q 2 (.box (.t 0)),.q 3 (.box (.t 1)),.q 4 (.alloc [.nils]),.q 5 (.alloc [.j 0])],sq [.r [.v 10 13 2,.l 11 a [.t 10],.q 12 (.un .not (.t 11))],.cond (.t 12) (sq [.r [.u (.store 1 (.t 4) .N),.u (.store 1 (.t 5) (.k 2))],.ret]) (.skip)],.r [.q 6 (.alloc [.nils])],sq [.r [.v 13 13 2,.l 14 b [.t 13]],.blk 0 (.rangeF 0 (.t 14) [15] (.r [.q 7 (.alloc [.j 0,.j 0,.j 0,.nils,.w 0]),.u (.store 5 (.t 7) (.t 15))]) (.blk 1 (.seq (.r [.m 8 .N]) (.seq (.r [.m 9 (.k 0)]) (.seq (.seq (.r [.f 16 0 7,.d 17 16,.w 18 .eql 17 0]) (.cond (.t 18) (.r [.f 20 0 2,.d 21 20,.d 22 3,.l 23 c [.t 21,.t 22],.n 19 23,.x 24 19 0,.x 25 19 1,.n 8 24,.n 9 25]) (.r [.f 27 2 7,.v 28 3 27,.d 29 3,.l 30 d [.t 28,.t 29],.n 26 30,.x 31 26 0,.x 32 26 1,.n 8 31,.n 9 32]))) (.seq (.seq (.r [.n 33 9,.w 34 .neq 33 0]) (.cond (.t 34) (.seq (.r [.u (.store 1 (.t 4) .N),.u (.store 1 (.t 5) (.k 270))]) (.ret)) (.skip))) (.r [.d 35 6,.f 36 0 7,.d 37 36,.f 38 1 7,.d 39 38,.n 40 8,.q 41 (.build [.j 0,.j 0,.nils] [(0,1,(.t 37)),(1,1,(.t 39)),(2,1,(.t 40))]),.q 42 (.buildS 1 [.j 0,.j 0,.nils] [(0,3,(.t 41))]),.q 43 (.app 3 40 true (.t 35) (.t 42)),.u (.store 1 (.t 6) (.t 43))])))))))],.cut (qer a b c d)]⟩
def buT(g:Nat)(p:Pol):List (Nat×AV):=[(2,.ptr 0 0),(3,.ptr 1 0),(4,.ptr 2 0),(5,.ptr 3 0),(6,.ptr 4 0),(14,.fn g [] [.pf (qB p) 0])]
def buA:ICode:=.r [.q 7 (.alloc [.j 0,.j 0,.j 0,.nils,.w 0]),.u (.store 5 (.t 7) (.t 15))]
def buB(a b:Nat):ICode:=.blk 1 (sq [.r [.m 8 .N],.r [.m 9 (.k 0)],sq [.r [.f 16 0 7,.d 17 16,.w 18 .eql 17 0],.cond (.t 18) (.r [.f 20 0 2,.d 21 20,.d 22 3,.l 23 a [.t 21,.t 22],.n 19 23,.x 24 19 0,.x 25 19 1,.n 8 24,.n 9 25]) (.r [.f 27 2 7,.v 28 3 27,.d 29 3,.l 30 b [.t 28,.t 29],.n 26 30,.x 31 26 0,.x 32 26 1,.n 8 31,.n 9 32])],sq [.r [.n 33 9,.w 34 .neq 33 0],.cond (.t 34) (sq [.r [.u (.store 1 (.t 4) .N),.u (.store 1 (.t 5) (.k 270))],.ret]) (.skip)],.r [.d 35 6,.f 36 0 7,.d 37 36,.f 38 1 7,.d 39 38,.n 40 8,.q 41 (.build [.j 0,.j 0,.nils] [(0,1,(.t 37)),(1,1,(.t 39)),(2,1,(.t 40))]),.q 42 (.buildS 1 [.j 0,.j 0,.nils] [(0,3,(.t 41))]),.q 43 (.app 3 40 true (.t 35) (.t 42)),.u (.store 1 (.t 6) (.t 43))]])
def BuI(p:Pol)(o:Bool)(g:Nat)(r0:Loop)(out:List Prg)(s:Nat)(tr:Tr Blk):Prop :=
 ∃bb,7<=s/\tr.get 0=some (.v (qB p))/\tr.get 1=some (.v [.b o])/\tr.get 2=some (.v [.nils])/\tr.get 3=some (.v [.j 0])/\tr.get 4=some (.v [.own bb out.length])/\tr.get bb=some (.cells 3 true true (rPr out))/\(bb=5\/7<=bb)/\bb<s/\tr.get 6=some (.map (zz r0 (buT g p)))
theorem BuI.keep{p:Pol}{o:Bool}{g:Nat}{r0:Loop}{out:List Prg}{s s':Nat}{tr tr':Tr Blk}(h:BuI p o g r0 out s tr)(hs:s<=s')(ht:∀c,c<s->tr'.get c=tr.get c):BuI p o g r0 out s' tr':=by
 obtain⟨bb,h7,h0,h1,h2,h3,h4,hb,hb5,hbs,h6⟩:=h;exact⟨bb,by omega,(ht _ (by omega)).trans h0,(ht _ (by omega)).trans h1,(ht _ (by omega)).trans h2,(ht _ (by omega)).trans h3,(ht _ (by omega)).trans h4,(ht _ hbs).trans hb,hb5,by omega,(ht _ (by omega)).trans h6⟩
def BuE(p:Pol)(g:Nat)(r0:Loop)(s:Nat)(tr:Tr Blk):Prop :=
 7<=s/\tr.get 2=some (.v [.nils])/\tr.get 3=some (.v [.j 270])/\tr.get 6=some (.map (zz (dne r0 .ret) (buT g p)))
def qoS{gG gC g s:Nat}{p:Pol}{o:Bool}{out:List Prg}{r0:Loop}{tr:Tr Blk}{k:AV->Hp->Prop}(hG:qsM P gG)(hC:qmL P gC)(hr0:r0.state = .ready)(hp0:r0.pending=none)(hlo:LoopOk P r0 [15] buA (buB gG gC))(hp:PolOk p)
  (hI:BuI p o g r0 out s tr) (d a:Int) (x:GFil) {c:List AV} (hcc:c=zr x\/d=0/\c=[.j 0,.nils,.w 0]) (hR:FilR x) (hl:qjT x) (hm:out.length<=1000)
  (hk:(qcm p o (d,a,x)).2=0->∀s' tr',BuI p o g r0 (out++[toP p o (d,a,x)]) s' tr'->k (.b true) ⟨s',0,tr'⟩)
  (hx:(qcm p o (d,a,x)).2≠0->∀s' tr',BuE p g r0 s' tr'->k (.b false) ⟨s',0,tr'⟩):SY P 6 [.agg (.j d :: .j a::c)] ⟨s,0,tr⟩ k:=by
 rcases hcc with rfl|⟨hd,rfl⟩
 all_goals
  obtain⟨bb,hs,h0,h1,h2,h3,h4,hb,hb5,hbs,h6⟩:=hI;have hpa:=hp.a;refine SY.mk (r:=r0) (ts:=buT g p) (ps:=[15]) h6 hr0 hlo (Nat.zero_le _) (by show 6<s;omega) rfl ?_;rw[show mkT (buT g p)=(((((Tr.leaf.set 14 (.fn g [] [.pf (qB p) 0])).set 6 (.ptr 4 0)).set 5 (.ptr 3 0)).set 4 (.ptr 2 0)).set 3 (.ptr 1 0)).set 2 (.ptr 0 0)from rfl]
  refine qk ?_;simp only[qjw,buA,zr,vI,simprocAttr];simp +decide only[↓vS,vT,simprocAttr];have n6:¬6=s:=by omega
  have n0:¬0=s:=by omega
  have n1:¬1=s:=by omega
  have n2:¬2=s:=by omega
  have n3:¬3=s:=by omega
  have n4:¬4=s:=by omega
  have nb:¬bb=s:=by omega
  have ns6:¬s=6:=by omega
  have nb6:¬bb=6:=by omega
  have n4b:¬4=bb:=by omega
  refine⟨buT g p,by simp[Tr.get_set,n6,h6],?_⟩
  refine qk ?_;simp only[qx,buB,vI,simprocAttr];simp +decide only[↓vS,vT,simprocAttr,ns6];obtain⟨L,e,hLe⟩:∃L e,qcm p o (d,a,x)=(L,e):=⟨_,_,rfl⟩;have eT:toP p o (d,a,x)=⟨d,a,L⟩:=by simp only[toP,hLe]
  rw[eT]at hk;simp only[hLe]at hk hx;have hlp:=qhF out;have hap:rPr out++[.j d,.j a,.fz L.length (rP L)]=rPr (out++[⟨d,a,L⟩]):=by rw[qsa];rfl
  have hr1:out.length+1<=qf:=by simp only[qf];omega
  have hr2:(out.length+1)*40<=qf:=by simp only[qf];omega
  have nb1:¬bb=s+1:=by omega
  have n41:¬4=s+1:=by omega
  have n61:¬6=s+1:=by omega
  have ns2:¬s=2:=by omega
  have ns4:¬s=4:=by omega
  by_cases k1:d=0
  .have h:=hG p.arches (by simp only[qf];omega) o;rw[show gdC p.arches o=(L,e)by rw[<- hLe];exact(if_pos k1).symm]at h
   subst k1;simp +decide only[↓vS,vT,simprocAttr,h0,h1,n0,n1,qB];refine h.sc ?_
   by_cases he:e=0
   .subst he;simp +decide only[↓vS,vT,simprocAttr,h4,hb,n4,nb,n4b,nb6,ns6,nb1,n41,ns2,hr1,hr2,hlp,hap,zzU];refine⟨Go.Kc.bsy r0,buT g p,by simp[Tr.get_set,n6,h6,nb6,Ne.symm nb6,n61,ns4],?_⟩
    rw[qct,qd0 hr0 hp0];simp only[qx];simp +decide only[↓vS,vT,simprocAttr];refine hk rfl _ _ ⟨s+1+1,by omega,?_,?_,?_,?_,?_,?_,.inr (by omega),by omega,?_⟩<;>simp (decide:=true) [Tr.get_set,zzP]
    all_goals (repeat rw[if_neg (by omega)])
    all_goals assumption
   .simp +decide only[↓vS,vT,simprocAttr,he,h2,h3,n2,n3,ns6];refine⟨Go.Kc.bsy r0,buT g p,by simp[Tr.get_set,n6],?_⟩
    simp only[qx];simp +decide only[↓vS,vT,simprocAttr];refine hx he _ _ ⟨by omega,?_,?_,?_⟩<;>simp[Tr.get_set,Go.Kc.bsy,dne]
  .try exact absurd hd k1
   all_goals
    have h:=hC x hR hl o;rw[show qdG x o=(L,e)by rw[<- hLe];exact(if_neg k1).symm]at h
    simp only[zr]at h;simp +decide only[↓vS,vT,simprocAttr,h1,n1,k1];refine h.sc ?_
    by_cases he:e=0
    .subst he;simp +decide only[↓vS,vT,simprocAttr,h4,hb,n4,nb,n4b,nb6,ns6,nb1,n41,ns2,hr1,hr2,hlp,hap,zzU];refine⟨Go.Kc.bsy r0,buT g p,by simp[Tr.get_set,n6,h6,nb6,Ne.symm nb6,n61,ns4],?_⟩
     rw[qct,qd0 hr0 hp0];simp only[qx];simp +decide only[↓vS,vT,simprocAttr];refine hk rfl _ _ ⟨s+1+1,by omega,?_,?_,?_,?_,?_,?_,.inr (by omega),by omega,?_⟩<;>simp (decide:=true) [Tr.get_set,zzP]
     all_goals grind
    .simp +decide only[↓vS,vT,simprocAttr,he,h2,h3,n2,n3,ns6];refine⟨Go.Kc.bsy r0,buT g p,by grind[Tr.get_set],?_⟩
     simp only[qx];simp +decide only[↓vS,vT,simprocAttr];refine hx he _ _ ⟨by omega,?_,?_,?_⟩<;>simp[Tr.get_set,Go.Kc.bsy,dne]
def qHM(a:Nat):ICode:=sq [.r [.s 25 24 23],.cond (.t 25) (.skip) (.exit 2),.blk 3 (sq [.r [.i 26 1 22 24,.d 27 26,.n 5 27],.r [.v 29 13 1,.n 30 3,.n 31 5,.l 32 a [.t 29,.t 30,.t 31],.n 28 32,.x 33 28 0,.x 34 28 1,.q 6 (.alloc [.j 0,.nils,.w 0]),.u (.store 3 (.t 6) (.t 33)),.n 7 34],.r [.n 35 7,.n 36 35,.y 37 0 36,.y 38 3 36,.y 39 5 36,.g 40 (.loadN 3 (.t 6)) 36 true,.g 41 (.build [.j 0,.j 0,.j 0,.nils,.w 0] [(0,1,(.t 38)),(1,1,(.t 39)),(2,3,(.t 40))]) 36 true,⟨(some 42),.callV (.t 37) [.t 41],(some (36,true))⟩,.g 43 (.un .not (.t 42)) 36 true,.p 44 36 43],.cond (.t 44) (.ret) (.skip)]),.r [.a 45 24 1,.n 24 45]]
def qHN{gG gC gL g s n0:Nat}{p:Pol}{o:Bool}{r0:Loop}{tr:Tr Blk}{t:Tr AV}{Q:X->Tr AV->Hp->Prop}(hL:qyC P gL)(hG:qsM P gG)(hC:qmL P gC)(hr0:r0.state = .ready)(hp0:r0.pending=none)(hlo:LoopOk P r0 [15] buA (buB gG gC))
  (hp:PolOk p) (hR:PolR p) (hF:∀d a x,qhb p d a=some x->FilR x/\qjT x) {d:Nat} (hlt:d<8) (ht:Has t [(0,.yl 6),(1,.pf (qB p) 0),(3,.j (d:Int)),(19,.j (d:Int)),(22,.fz 6 (rI .i64 [0,1,2,3,4,5])),(23,.j 6),(24,.j 0)])
  (hh:∀q ∈ qdn p d 0,(qcm p o q).2=0) (hI:BuI p o g r0 ((qdn p d 0).map (toP p o)) s tr)
  (hk:∀t' s' tr',Has t' [(0,.yl 6),(1,.pf (qB p) 0),(19,.j (d:Int))]->(∀q ∈ qdn p (d+1) 0,(qcm p o q).2=0)->BuI p o g r0 ((qdn p (d+1) 0).map (toP p o)) s' tr'->Q (.exit 2) t' ⟨s',0,tr'⟩)
  (hx:(¬∀q ∈ zx p,(qcm p o q).2=0)->∀t' s' tr',BuE p g r0 s' tr'->Q .ret t' ⟨s',0,tr'⟩):SL P n0 (qHM gL) Q t ⟨s,0,tr⟩:=by
 refine SL.loopP (α:=Nat) (λa=>[(0,.yl 6),(1,.pf (qB p) 0),(3,.j (d:Int)),(19,.j (d:Int)),(22,.fz 6 (rI .i64 [0,1,2,3,4,5])),(23,.j 6),(24,.j (a:Int))]) (λa h=>a<=6/\∃s tr,h=⟨s,0,tr⟩/\(∀q ∈ qdn p d a,(qcm p o q).2=0)/\BuI p o g r0 ((qdn p d a).map (toP p o)) s tr) (λa=>6-a) ?_ 0 ht (by grind)
 rintro a h ⟨ha,s,tr,rfl,hq,hI⟩ G2 ih2;simp only[qHM,vI,simprocAttr]
 by_cases hla:a<6
 .have hla':(a:Int)<6:=by omega
  have hwa:IntKind.wrap .i64 ((a:Int)+1)=((a+1:Nat):Int):=by rw[qm (by omega) (by omega)];omega
  have hax:([0,1,2,3,4,5]:List Int)[a]?=some (a:Int):=by
   have:a=0\/a=1\/a=2\/a=3\/a=4\/a=5:=by omega
   rcases this with rfl|rfl|rfl|rfl|rfl|rfl<;>rfl
  have h2:=hL p hp hR d a;simp only[qB]at h2;simp +decide only[↓vS,vT,simprocAttr,qB,hla,hla',zzU,qaZ,hax,Option.map_some];refine h2.sc ?_;have e2:=qob p d a;have hln:=ql5 p d a;have hin:=λq (h:q ∈ qez p d a)=>qAb hlt hla h
  have hF':=hF d a;cases hlow:qhb p d a with
  | none =>
   have e3:qez p d a=[]:=by unfold qez;rw[hlow]
   rw[e3,List.append_nil]at e2;simp +decide only[qnG,↓vS,vT,simprocAttr,hwa];refine ih2 (a+1) _ _ (by omega) (by simp[qh,ql,Tr.get_set]) ⟨by omega,_,_,rfl,by rw[e2];exact hq,by rw[e2];grind[BuI.keep,Tr.get_set]⟩
  | some x =>
   have e3:qez p d a=[((d:Int),(a:Int),x)]:=by unfold qez;rw[hlow]
   rw[e3]at e2 hin;obtain⟨f1,f2⟩:=hF' x hlow;simp +decide only[qnG,zr,↓vS,vT,simprocAttr];refine qoS hG hC hr0 hp0 hlo hp (hI.keep (by omega) λc hc=>?_) d a x (.inl rfl) f1 f2 (by rw[List.length_map];omega) (λhe s' tr' hI'=>?_) (λhe s' tr' hE=>?_)
   .grind[Tr.get_set]
   .simp +decide only[↓vS,vT,simprocAttr,hwa];refine ih2 (a+1) _ _ (by omega) (by simp[qh,ql,Tr.get_set]) ⟨by omega,s',tr',rfl,by rw[e2];grind,by rw[e2,List.map_append];grind⟩
   .simp +decide only[↓vS,vT,simprocAttr];exact hx (by grind) _ s' tr' hE
 .obtain rfl:a=6:=by omega
  have hla':¬(((6:Nat):Int)<6):=by decide
  simp +decide only[↓vS,vT,simprocAttr,hla'];exact hk _ s tr (by simp[qh,ql,Tr.get_set]) (by rw[ql4];exact hq) (by rw[ql4];exact hI)
def qpP{gG gC gA gL g s n0:Nat}{p:Pol}{o:Bool}{r0:Loop}{tr:Tr Blk}{t:Tr AV}{k:AV->Hp->Prop}(hA:qa P gA [] (.fz 6 (rI .i64 [0,1,2,3,4,5])))(hL:qyC P gL)(hG:qsM P gG)(hC:qmL P gC)(hr0:r0.state = .ready)(hp0:r0.pending=none)(hlo:LoopOk P r0 [15] buA (buB gG gC))
  (hp:PolOk p) (hR:PolR p) (hF:∀d a x,qhb p d a=some x->FilR x/\qjT x) (t0:t.get 0=some (.yl 6)) (t1:t.get 1=some (.pf (qB p) 0)) (hh:∀q ∈ qfQ p,(qcm p o q).2=0) (hI:BuI p o g r0 ((qfQ p).map (toP p o)) s tr)
  (hk:(∀q ∈ zx p,(qcm p o q).2=0)->∀s' tr',BuI p o g r0 ((zx p).map (toP p o)) s' tr'->k (.tup []) ⟨s',0,tr'⟩)
  (hx:(¬∀q ∈ zx p,(qcm p o q).2=0)->∀s' tr',BuE p g r0 s' tr'->k (.tup []) ⟨s',0,tr'⟩):S P n0 (qaY gA gL) (xk [] k) t ⟨s,0,tr⟩:=by
 refine S.has [(0,.yl 6),(1,.pf (qB p) 0)] (by simp_all[qh,ql]) (qk ?_);simp only[qaY,vI,simprocAttr];simp +decide only[↓vS,vT,simprocAttr];refine SL.loopP (α:=Nat) (λd=>[(0,.yl 6),(1,.pf (qB p) 0),(19,.j (d:Int))]) (λd h=>d<=8/\∃s tr,h=⟨s,0,tr⟩/\(∀q ∈ qdn p d 0,(qcm p o q).2=0)/\BuI p o g r0 ((qdn p d 0).map (toP p o)) s tr) (λd=>8-d) ?_ 0 ?_ ?_
 .rintro d h ⟨hd,s,tr,rfl,hq,hI⟩ G ih;simp only[vI,simprocAttr]
  by_cases hlt:d<8
  .have hlt':(d:Int)<8:=by omega
   have hwd:IntKind.wrap .i64 ((d:Int)+1)=((d+1:Nat):Int):=by rw[qm (by omega) (by omega)];omega
   simp +decide only[↓vS,vT,simprocAttr,hlt'];refine hA.sc ?_;simp +decide only[↓vS,vT,simprocAttr];refine qHN hL hG hC hr0 hp0 hlo hp hR hF hlt (by simp[qh,ql,Tr.get_set]) hq hI (λt' s' tr' ht' hq' hI'=>?_) (λhb t' s' tr' hE=>?_)
   .obtain⟨q0,q1,q19⟩:t'.get 0=some (.yl 6)/\t'.get 1=some (.pf (qB p) 0)/\t'.get 19=some (.j (d:Int)):=by grind[qh]
    simp +decide only[↓vS,vT,simprocAttr,q19,hwd];exact ih (d+1) _ _ (by omega) (by grind[qh,ql,Tr.get_set]) (by grind)
   .simp +decide only[↓vS,vT,simprocAttr]
    grind
  .obtain rfl:d=8:=by omega
   have hlt':¬(((8:Nat):Int)<8):=by decide
   simp +decide only[↓vS,vT,simprocAttr,hlt'];exact hk hq s tr hI
 .simp[qh,ql,Tr.get_set]
 .exact⟨Nat.zero_le _,s,tr,rfl,by simpa[qdn]using hh,by simpa[qdn]using hI⟩
def qtV{gG gC gA gL g s:Nat}{p:Pol}{o:Bool}{r0:Loop}{tr:Tr Blk}{k:AV->Hp->Prop}(hg:qc P g (qck gA gL)=true)(hA:qa P gA [] (.fz 6 (rI .i64 [0,1,2,3,4,5])))(hL:qyC P gL)(hG:qsM P gG)(hC:qmL P gC)(hr0:r0.state = .ready)(hp0:r0.pending=none)(hlo:LoopOk P r0 [15] buA (buB gG gC))
  (hp:PolOk p) (hR:PolR p) (hF:∀d a x,qhb p d a=some x->FilR x/\qjT x) (hI:BuI p o g r0 [] s tr)
  (hk:(∀q ∈ zx p,(qcm p o q).2=0)->∀s' tr',BuI p o g r0 ((zx p).map (toP p o)) s' tr'->k (.tup []) ⟨s',0,tr'⟩)
  (hx:(¬∀q ∈ zx p,(qcm p o q).2=0)->∀s' tr',BuE p g r0 s' tr'->k (.tup []) ⟨s',0,tr'⟩):SC P g [.yl 6,.pf (qB p) 0] ⟨s,0,tr⟩ k:=by
 refine SC.mk hg (qk ?_);simp only[qck,vI,simprocAttr]
 by_cases h0:0<p.arches.length
 .have h0':(0:Int)<p.arches.length:=by omega
  have eh:qfQ p=[(0,6,qox)]:=if_pos h0;simp +decide only[↓vS,vT,simprocAttr,qB,h0'];refine qoS hG hC hr0 hp0 hlo hp hI 0 6 qox (by simp_all) ⟨by simp[qox],by simp[qox]⟩ ⟨by simp[qox],by simp[qox]⟩ (by simp) (λhe s' tr' hI'=>?_) (λhe s' tr' hE=>?_)
  .simp +decide only[↓vS,vT,simprocAttr];exact qpP hA hL hG hC hr0 hp0 hlo hp hR hF (by simp[Tr.get_set]) (by simp[Tr.get_set]) (by rw[eh];simp_all) (by rw[eh];grind) hk hx
  .simp +decide only[↓vS,vT,simprocAttr];exact hx (λhall=>he (hall _ (qzi (by rw[eh];simp)))) s' tr' hE
 .have h0':¬(0:Int)<p.arches.length:=by omega
  have eh:qfQ p=[]:=if_neg h0;simp +decide only[↓vS,vT,simprocAttr,qB,h0'];exact qpP hA hL hG hC hr0 hp0 hlo hp hR hF (by simp[Tr.get_set]) (by simp[Tr.get_set]) (by rw[eh];simp) (by rw[eh];exact hI) hk hx
def qyA(P:Program)(f:Nat):Prop:=∀p,PolOk p->PolR p->(∀d a x,qhb p d a=some x->FilR x/\qjT x)->∀o:Bool,qa P f [.agg (qB p),.b o] (.tup [.fz (qby p o).1.length (rPr (qby p o).1),.j (qby p o).2])
def qCf{gM gP gG gC gA gL g:Nat}(hc:qc P f (qgV gM gP gG gC)=true)(hM:∀p,PolOk p->qa P gM [.agg (qB p)] (.b (qjt p)))(hP:∀p,qa P gP [.agg (qB p)] (.fn g [] [.pf (qB p) 0]))(hg:qc P g (qck gA gL)=true)
  (hA:qa P gA [] (.fz 6 (rI .i64 [0,1,2,3,4,5]))) (hL:qyC P gL) (hG:qsM P gG) (hC:qmL P gC):qyA P f:=by
 intro p hp hR hF o;refine qa.mk hc rfl ?_;simp only[qgV,vI,simprocAttr];have hM':=hM p hp;have hP':=hP p;simp only[qB]at hM' hP';simp +decide only[↓vS,vT,simprocAttr,qB];refine hM'.sc ?_;cases hmp:qjt p with
 | false =>
  have e:qby p o=([],2):=by unfold qby;rw[hmp];simp
  rw[e];simp +decide only[↓vS,vT,simprocAttr];simp[vZ,vP,Tr.get_set];rfl
 | true =>
  simp +decide only[↓vS,vT,simprocAttr];refine hP'.sc ?_;simp +decide only[↓vS,vT,simprocAttr];refine S.weak (Wk.mk (buT g p) [.v (qB p),.v [.b o],.v [.nils],.v [.j 0],.v [.own 5 0],.cells 3 true true []] [0,1,2,3,4,99] ?_ ?_ ?_ rfl) ?_
  .simp[vw,buT,qB,qi,qp]
  .simp[vw,qB,qe,qp,qi]
  .simp
  refine S.rangeF (by simp[jy]) (by simp[buT]) ⟨rfl,rfl⟩ ?_;refine qhT.2 ⟨.fn g [] [.pf (qB p) 0],by simp[buT,mkT,Tr.get_set],?_⟩
  refine⟨qbC hg,λr0 hr0 hp0 hlo=>?_⟩
  have hlo:LoopOk P r0 [15] buA (buB gG gC):=hlo;refine qtV (o:=o) (s:=7) (g:=g) hg hA hL hG hC hr0 hp0 hlo hp hR hF ⟨5,zzL _,?_,?_,?_,?_,?_,?_,.inl rfl,by decide,?_⟩ (λhall s' tr' hI=>?_) (λhn s' tr' hE=>?_)
  iterate 7 (simp[Tr.get_set,qlI,mkH,trL,rPr,Hp.push])
  .obtain⟨bb,h7,h0,h1,h2,h3,h4,hb,hb5,hbs,h6⟩:=hI;refine⟨r0,buT g p,h6,by rw[hr0];decide,?_⟩
   rw[hp0];simp only[qx];simp only[↓vS,vT,simprocAttr];rw[show qby p o=((zx p).map (toP p o),0)by unfold qby;rw[if_pos hmp,if_pos hall]]
   have nb:¬bb=6:=by omega
   have nb2:¬bb=2:=by omega
   have nb3:¬bb=3:=by omega
   generalize(zx p).map (toP p o)=out at h4 hb ⊢;refine S.has [(4,.ptr 2 0),(5,.ptr 3 0),(6,.ptr 4 0)] (by simp[qh,ql,buT,mkT,Tr.get_set]) (qk ?_);simp only[qer,vI,simprocAttr];simp +decide only[↓vS,vT,simprocAttr,h2,h3,h4];simp[vZ,vP,Tr.get_set,nb,nb2,nb3,hb,qJ (xi _)];intro h;rw[h];rfl
  .obtain⟨h7,h2,h3,h6⟩:=hE;refine⟨dne r0 .ret,buT g p,h6,by simp[dne],?_⟩
   have e6:∀a b c d e f:Blk,(mkH 0 [a,b,c,d,e,f]).sz=6:=λ_ _ _ _ _ _=>rfl
   simp only[dne,qx,e6];simp only[↓vS,vT,simprocAttr];rw[show qby p o=([],270)by unfold qby;rw[if_pos hmp,if_neg hn]]
   have m4:(mkT (buT g p)).get 4=some (.ptr 2 0):=by simp[buT,mkT,Tr.get_set]
   have m5:(mkT (buT g p)).get 5=some (.ptr 3 0):=by simp[buT,mkT,Tr.get_set]
   simp +decide only[↓vS,vT,simprocAttr,m4,m5,h2,h3];simp[vZ,vP,Tr.get_set];rfl
end Go.Kc
end
section
namespace Go.Kc
def TeG(ts:List GTest):Prop:=ts.length<=100000/\∀t ∈ ts,(0<=t.mask/\t.mask<18446744073709551616/\0<=t.val/\t.val<18446744073709551616)/\0<=t.act/\t.act<=4294967295
def RuG(r:GRule):Prop:=(0<=r.nr/\r.nr<4294967296)/\(0<=r.act/\r.act<=4294967295)/\TeG r.tests
def qzN{a n:Int}{s:List UInt8}(h:qgm a s=some n):0<=n/\n<4294967296:=by
 have w:∀z:Int,0<=IntKind.wrap .u32 z/\IntKind.wrap .u32 z<4294967296:=λz=>by show 0<=z % 4294967296/\z % 4294967296<4294967296;omega
 unfold qgm at h;obtain⟨x,_,h⟩:=Option.bind_eq_some_iff.1 h;unfold qfP at h;split at h
 .cases h
 .cases h;split
  .exact w _
  simp_all
section
variable {a act:Int} {ts us:List GTest} {ns:List (List UInt8)} {l:List Int}
def qbT(ha:0<=act/\act<=4294967295)(ht:TeG ts):∀r ∈ zh a act ts ns,RuG r:=λr hr=>by
 obtain⟨s,_,h⟩:=List.mem_filterMap.1 hr;obtain⟨n,h1,h2⟩:=Option.map_eq_some_iff.1 h;cases h2;exact⟨qzN h1,ha,ht⟩
theorem TeG.nil:TeG []:=⟨Nat.zero_le _,by simp_all⟩
def TeG.app(h1:TeG ts)(h2:TeG us)(h:ts.length+us.length<=100000):TeG (ts++us):=⟨by rw[zzP];exact h,λt ht=>by
 rcases List.mem_append.1 ht with ht|ht
 .exact h1.2 t ht
 .exact h2.2 t ht⟩
def qlg{arg mask:Int}(hm:0<=mask/\mask<18446744073709551616)(ha:0<=act/\act<=4294967295)(hl:l.length<=100000)(hv:∀v ∈ l,0<=v/\v<18446744073709551616):TeG (zt arg mask act l):=⟨by simp[zt,hl],λt ht=>by
 obtain⟨v,h1,rfl⟩:=List.mem_map.1 ht
 simp_all⟩
def qnH{arg:Int}(ha:0<=act/\act<=4294967295)(hl:l.length<=100000)(hv:∀v ∈ l,0<=v/\v<18446744073709551616):TeG (zU arg act l):=⟨by simp[zU,hl],λt ht=>by
 obtain⟨v,h1,rfl⟩:=List.mem_map.1 ht
 simp_all⟩
end
def qta{s x:Int}(h:x ∈ qaU s):0<=x/\x<18446744073709551616:=by
 have h1:=(List.mem_filter.1 h).1;have all:∀y ∈ qS.map (·.2),0<=y/\y<18446744073709551616:=by decide
 grind
def qDx{p:Pol}{a d:Int}{F:Pol->Int->Bool×List GRule×Int}(h:qfp d=some F)(hp:PolOk p)(hR:PolR p):(∀r ∈ (F p a).2.1,RuG r)/\0<=(F p a).2.2/\(F p a).2.2<=4294967295:=by
 have hA:(0:Int)<=2147418112/\(2147418112:Int)<=4294967295:=by decide
 have hN:(0:Int)<=327681/\(327681:Int)<=4294967295:=by decide
 have hf:∀c ∈ p.fams,0<=c/\c<18446744073709551616:=λc hc=>by have:=hR.fams c hc;omega
 have hfl:(qaU p.spaces).length<=8:=Nat.le_trans (List.length_filter_le _ _) (by decide);have hpf:=hp.f;have hd:=hR.deny;unfold qfp at h
 repeat' split at h
 all_goals first|(cases h;done)|skip
 all_goals cases h
 .refine⟨λr hr=>?_,by simp only[qlB];split<;>omega⟩
  obtain⟨c,hc,hr⟩:=List.mem_flatMap.1 hr;refine qbT ?_ .nil r hr;have:=hR.filter c hc;omega
 .refine⟨λr hr=>?_,by simp only[qlX];split<;>omega⟩
  obtain⟨c,hc,hr⟩:=List.mem_flatMap.1 hr;refine qbT ?_ .nil r hr;split<;>omega
 .exact⟨qbT (by split<;>omega) (qlg (by decide) (by split<;>omega) (by omega) hf),by simp[fmM]⟩
 .refine⟨λr hr=>?_,by simp[nsM]⟩
  have hb:∀arg:Int,TeG (zU arg 327681 (qaU p.spaces)):=λarg=>qnH hN (by omega) λv hv=>qta hv
  rcases List.mem_append.1 hr with hr|hr
  .rcases List.mem_append.1 hr with hr|hr
   .exact qbT hA (hb 0) r hr
   .exact qbT hA ((hb 1).app (qlg (by decide) hN (by decide) (by decide)) (by simp only[zU,zt,List.length_map,List.length_singleton];omega)) r hr
  .exact qbT (by decide) .nil r hr
 .refine⟨λr hr=>?_,by simp[weM]⟩
  rcases List.mem_append.1 hr with hr|hr
  .rcases List.mem_append.1 hr with hr|hr
   .exact qbT hA (qnH hN (by decide) (by decide)) r hr
   .exact qbT hA (qnH hN (by decide) (by decide)) r hr
  .exact qbT hA (qnH hN (by decide) (by decide)) r hr
 .exact⟨qbT hN (qlg (by decide) hA (by decide) (by decide)),by simp[peM]⟩
 .exact⟨qbT hN (qlg (by decide) hA (by decide) (by decide)),by simp[rtM]⟩
def qm8{p:Pol}(hp:PolOk p)(hR:PolR p){d a:Int}{x:GFil}(h:qhb p d a=some x):FilR x/\qjT x/\FilU x/\d≠0/\0<=d/\d<8/\0<=a/\a<6:=by
 unfold qhb at h;split at h
 .rename_i hok;obtain⟨F,h1,h2⟩:=Option.bind_eq_some_iff.1 h;split at h2
  .cases h2;obtain⟨g1,g2⟩:=qDx (a:=a) h1 hp hR;unfold qin at hok;simp only[zzB,decide_eq_true_eq]at hok;obtain⟨⟨⟨⟨d0,d8⟩,a0,a6⟩,hm⟩,_⟩:=hok;have hl:=(qzF d F h1 p a hp hm a0 a6).1;have ms:∀r ∈ je (F p a).2.1,RuG r:=λr hr=>g1 r (List.mem_mergeSort.1 hr)
   refine⟨⟨λr hr=>(ms r hr).1,λr hr t ht=>((ms r hr).2.2.2 t ht).1⟩,⟨by simpa[je]using hl,λr hr=>(ms r hr).2.2.1⟩,⟨g2,λr hr=>(ms r hr).2.1,λr hr t ht=>((ms r hr).2.2.2 t ht).2⟩,λe=>?_,d0,d8,a0,a6⟩
   rw[e]at h1;cases h1
  .cases h2
 grind
section
variable {p:Pol} {o:Bool}
def qpQ{q:Pt}(h:q ∈ zx p):(q=(0,6,qox)/\0<p.arches.length)\/∃d a x,qhb p d a=some x/\q=(d,a,x):=by
 unfold zx qdn at h;simp only[List.range_zero,List.flatMap_nil,List.append_nil]at h;rcases List.mem_append.1 h with h|h
 .unfold qfQ at h
  simp_all
 .obtain⟨d,_,h⟩:=List.mem_flatMap.1 h;obtain⟨a,_,h⟩:=List.mem_flatMap.1 h;unfold qez at h
  grind
def qng:∀a,(qdn p 0 a).length<=1
 | 0=>by unfold qdn qfQ;split<;>simp
 | a+1=>by
  have h:=qng a
  have e:qez p 0 a=[]:=by
   unfold qez
   have:qhb p ((0:Nat):Int) (a:Int)=none:=by
    unfold qhb;split
    .rfl
    .rfl
   rw[this]
  rw[qob,e,List.append_nil];exact h
def qkh:∀d a,(qdn p (d+1) a).length<=1+6*d+a
 | d,a+1=>by
  have h1:=qkh d a;have h2:=qnh p (d+1) a;rw[qob,zzP];omega
 | d+1,0=>by
  have h1:=qkh d 6;rw[ql4];omega
 | 0,0=>by
  have:=qng (p:=p) 6;rw[ql4];omega
def ql2:(zx p).length<=43:=qkh 7 0
variable (hp:PolOk p) (hR:PolR p) (hall:∀q ∈ zx p,(qcm p o q).2=0)
include hp hR hall
end
end Go.Kc
end
section
namespace Go.Kc
variable {P:Program} {f:Nat}
def qtc(p:Pol):Bool:=decide (50<p.arches.length)||decide (300<p.filter.calls.length)||decide (300<p.log.calls.length)||decide (100<p.fams.length)
def qbp:IFn:=⟨[.tmp 2],sq [.r [.q 1 (.box (.t 0)),.m 2 .F],.r [.f 3 0 1,.d 4 3,.e 5 4,.w 6 .gtr 5 50,.n 7 6,.h 8 1 1 7 false,.h 9 1 8 7 false,.j 10 9 7 false,.g 11 (.len false (.t 10)) 7 false,.g 12 (.bin .gtr (.t 11) (.k 300)) 7 false,.o 13 7 12,.n 14 13,.h 15 4 1 14 false,.h 16 1 15 14 false,.j 17 16 14 false,.g 18 (.len false (.t 17)) 14 false,.g 19 (.bin .gtr (.t 18) (.k 300)) 14 false,.o 20 14 19,.n 21 20,.h 22 6 1 21 false,.j 23 22 21 false,.g 24 (.len false (.t 23)) 21 false,.g 25 (.bin .gtr (.t 24) (.k 100)) 21 false,.o 26 21 25,.n 2 26],.ret]⟩
def qIi(hc:qc P f qbp=true)(p:Pol):qa P f [.agg (qB p)] (.b (qtc p)):=by
 refine qa.mk hc rfl ?_;simp only[qbp,qB,vI,simprocAttr];unfold qtc
 by_cases h1:50<p.arches.length
 .have h1':(50:Int)<p.arches.length:=by omega
  simp +decide only[↓vS,vT,simprocAttr,h1'];simp[vZ,h1]
 have h1':¬(50:Int)<p.arches.length:=by omega
 by_cases h2:300<p.filter.calls.length
 .have h2':(300:Int)<p.filter.calls.length:=by omega
  simp +decide only[↓vS,vT,simprocAttr,h1',h2'];simp[vZ,h1,h2]
 have h2':¬(300:Int)<p.filter.calls.length:=by omega
 by_cases h3:300<p.log.calls.length
 .have h3':(300:Int)<p.log.calls.length:=by omega
  simp +decide only[↓vS,vT,simprocAttr,h1',h2',h3'];simp[vZ,h1,h2,h3]
 have h3':¬(300:Int)<p.log.calls.length:=by omega
 by_cases h4:100<p.fams.length
 .have h4':(100:Int)<p.fams.length:=by omega
  simp +decide only[↓vS,vT,simprocAttr,h1',h2',h3',h4'];simp[vZ,h1,h2,h3,h4]
 have h4':¬(100:Int)<p.fams.length:=by omega
 simp +decide only[↓vS,vT,simprocAttr,h1',h2',h3',h4'];simp[vZ,h1,h2,h3,h4]
def qC4{p:Pol}(h:qtc p=false):PolOk p:=by
 unfold qtc at h;simp only[Bool.or_eq_false_iff,decide_eq_false_iff_not]at h;exact⟨by omega,by omega,by omega,by omega⟩
def qsJ(p:Pol)(o:Bool):(∃e:Int,e≠0/\qby p o=([],e))\/((∀q ∈ zx p,(qcm p o q).2=0)/\qby p o=((zx p).map (toP p o),0)):=by
 unfold qby
 grind
def qCk(P:Program)(g:Nat):Prop:=∀l:List Prg,l.length<=100->(∀x ∈ l,PrgIn x)->∀d,DatOk d->qa P g [.fz l.length (rPr l),.agg (zJ d)] (if qaz l=true then .tup [.w (evS l d),.j 0]else .tup [.w 0,.j 290])
section
variable {p:Pol} {w:Int}
end
def p29(l:List Int)(pe:Bool):Pol:=⟨l,⟨0,[]⟩,2147483648,⟨0,[]⟩,[],0,0,false,pe,false,false⟩
def qEl{l:List Int}{pe:Bool}(h:l.length<=1000):PolOk (p29 l pe):=⟨h,Nat.zero_le _,Nat.zero_le _,Nat.zero_le _⟩
def qrX{l:List Int}{pe:Bool}:PolR (p29 l pe):=⟨λx h=>(by cases h),⟨(by decide:(0:Int)<=2147483648),(by decide:(2147483648:Int)<=4294967295)⟩,⟨Int.le_refl 0,(by decide:(0:Int)<18446744073709551616)⟩,λx h=>(by cases h),λx h=>(by cases h)⟩
def nz:AV->AV
 | .nils=>.fz 0 []
 | v=>v
def qwI{Z:Ren}:∀{l:List AV} {a:List Value},VRs σ0 Z l a->VRs σ0 Z (l.map nz) a
 | [],_,h=>by simp_all
 | v::l,_,h=>by
  cases h with
  | cons _ _ _ _ h1 h2 =>
   refine .cons _ _ _ _ ?_ (qwI h2);unfold nz;split
   .cases h1;exact .fz0 none
   omega
theorem qwV{l:List Int}{pe:Bool}{ar:AV}{vs:List AV}{v:AV}(har:ar = .fz l.length (rI .i64 l)\/ar = .nils/\l=[])(h:qa P f (.agg (qB (p29 l pe))::vs) v):qa P f (.agg (xS ar pe)::vs) v:=λhp k hk =>
 SC.args (h hp k hk) λZ zy hv=>by
  have e:qB (p29 l pe)=(xS ar pe).map nz:=by rcases har with rfl|⟨rfl,rfl⟩<;>rfl
  rw[e];cases hv with
  | cons _ _ _ _ h1 h2 =>
   refine .cons _ _ _ _ ?_ h2;cases h1 with
   | agg _ arr h1=>exact .agg _ _ (qwI h1)
noncomputable def qmG(p:Pol)(o:Bool):Bool:=qjt p&&(zx p).all λq=>decide ((qcm p o q).2=0)
def qre{p:Pol}{o:Bool}(h:qmG p o=true):(∀q ∈ zx p,(qcm p o q).2=0)/\qby p o=((zx p).map (toP p o),0):=by
 unfold qmG at h;simp only[zzB,List.all_eq_true,decide_eq_true_eq]at h;exact⟨h.2,by unfold qby;rw[if_pos h.1,if_pos h.2]⟩
def ok0:∀o,qmG (p29 [] false) o=true|true=>by kernel_rfl|false=>by kernel_rfl
def ok1:∀o,qmG (p29 [0] false) o=true|true=>by kernel_rfl|false=>by kernel_rfl
def ok2:∀o,qmG (p29 [] true) o=true|true=>by kernel_rfl|false=>by kernel_rfl
section
variable {gT gB gE:Nat} (hc:qc P gT (xC gB gE)=true) (hB:qyA P gB) (hE:qCk P gE)
include hc hB hE
end
structure PrgS (p:List Ins):Prop where
 good:PrgGood p
 um:qeb p=[]
def qmy(a:List Ins×Int):Prop:=a.2=0->PrgS a.1
def qn4{l:List Sy}(h:MayL l)(hr:wn l):qmy (zP l):=by
 unfold zP
 by_cases hb:4096<(jJ l).length
 .rw[if_pos hb];intro h;cases h
 .rw[if_neg hb];exact λ_=>⟨qtt h hr (by omega),(qwi h hr).1⟩
theorem qsj{u v:List Ins×Int}(hu:qmy u)(hv:qmy v):qmy (qd2 u v):=by
 unfold qd2;grind
def qCA{x:GFil}(hK:jY x=true)(hR:FilR x)(hU:FilU x)(o:Bool):qmy (qdG x o):=by
 have hG:=FilG.of hK hR;have hG2:=FilG.of (qhA hK) (qn9 hR);have h1:qmy (qfZ x):=by unfold qfZ;rw[if_pos hK];exact qn4 (qgy hG) (qo7 hG hU)
 have h2:qmy (qgx x):=by unfold qgx;rw[if_pos hK];exact qn4 (qk5 (qgy hG2)) (qrU (qo7 hG2 (qDO hU)))
 unfold qdG;grind[qsj]
def qG5{l:List Int}(h:qoN l=false)(o:Bool):qmy (gdC l o):=by
 obtain⟨h1,h2,_,_⟩:=qvF h;have e:gdA l=(gdR (gdT l),0):=by unfold gdA;rw[if_neg (by rw[h];simp)]
 have eu:qj5 (gdA l).1 (gdA l).2=zP (gdR (gdT l)):=by rw[e];simp only[qj5,if_true]
 have eo:qkL (gdA l).1 (gdA l).2=zP (qdm (gdR (gdT l))):=by rw[e];simp only[qkL,if_true]
 have tu:qmy (qj5 (gdA l).1 (gdA l).2):=by rw[eu];exact qn4 h1 h2
 have to:qmy (qkL (gdA l).1 (gdA l).2):=by rw[eo];exact qn4 (qk5 h1) (qrU h2)
 unfold gdC qpj;grind[qsj]
section
variable {p:Pol} {o:Bool}
def qEq(hp:PolOk p)(hR:PolR p){q:Pt}(hq:q ∈ zx p)(he:(qcm p o q).2=0):PrgS (qcm p o q).1:=by
 rcases qpQ hq with⟨rfl,_⟩|⟨d,a,x,hx,rfl⟩
 .have e:qcm p o (0,6,qox)=gdC p.arches o:=if_pos rfl;rw[e]at he ⊢;cases hb:qoN p.arches with
  | true=>rw[qC1 hb]at he;cases he
  | false=>exact qG5 hb o he
 .obtain⟨f1,f2,f3,d0,_⟩:=qm8 hp hR hx;have e:qcm p o (d,a,x)=qdG x o:=if_neg d0;rw[e]at he ⊢;cases hK:jY x with
  | false=>rw[qyP hK]at he;cases he
  | true=>exact qCA hK f1 f3 o he
theorem qAc(hp:PolOk p)(hR:PolR p){q:Pt}(hq:q ∈ zx p)(he:(qcm p o q).2=0):qdX (toP p o q)=true:=by
 have hT:=qEq hp hR hq he;have h1:(atU (qcm p o q).1 (qeb (qcm p o q).1)).2=0:=by rw[hT.um,qrB hT.good]
 unfold qdX toP;simp only[zzB,decide_eq_true_eq];refine⟨h1,?_⟩;rcases qpQ hq with⟨rfl,_⟩|⟨d,a,x,hx,rfl⟩
 .rfl
 .obtain⟨_,_,_,d0,g0,g8,a0,a6⟩:=qm8 hp hR hx
  simp_all
variable (hp:PolOk p) (hR:PolR p) (hall:∀q ∈ zx p,(qcm p o q).2=0)
include hp hR hall
def qoP:qaz ((zx p).map (toP p o))=true:=by
 have:=ql2 (p:=p);unfold qaz
 grind[qAc]
def qrl:∀x ∈ (zx p).map (toP p o),PrgIn x:=λx hx=>by
 obtain⟨q,hq,rfl⟩:=List.mem_map.1 hx;have hT:=qEq hp hR hq (hall q hq);have:=hT.good.len;exact⟨by unfold toP;grind,hT.good.ins⟩
def qvr{g:Nat}(hE:qCk P g){d:GData}(hd:DatOk d) :
  qa P g [.fz (zx p).length (rPr ((zx p).map (toP p o))),.agg (zJ d)] (.tup [.w (evS ((zx p).map (toP p o)) d),.j 0]):=by
 have h:=hE ((zx p).map (toP p o)) (by have:=ql2 (p:=p);rw[List.length_map];omega) (qrl hp hR hall) d hd
 rw[if_pos (qoP hp hR hall),List.length_map]at h;exact h
end
section
variable {gT gB gE:Nat} (hc:qc P gT (xC gB gE)=true) (hB:qyA P gB) (hE:qCk P gE)
include hc hB hE
def qhk(l:List Int)(pe:Bool)(ar:AV)(har:ar = .fz l.length (rI .i64 l)\/ar = .nils/\l=[])(hcl:clo ar=true)(hok:zj ar=true)(ho:∀o,qmG (p29 l pe) o=true)(n:Nat)(t m x w:Int)
  (h:(decide (l.length<=1000)&&decide ((zx (p29 l pe)).length=n)&&decide (n<=100)&&decide (0<=t/\t<=4294967295/\0<=m/\m<=4294967295/\0<=x/\x<18446744073709551616)&&decide (∀o:Bool,evS ((zx (p29 l pe)).map (toP (p29 l pe) o)) (d29 t m x)=w))=true) :
  qa P gT [.agg (xS ar pe),.j (n:Int),qbZ t m x,.w w] (.b true):=by
 simp only[zzB,decide_eq_true_eq]at h;obtain⟨⟨⟨⟨h1,h2⟩,h3⟩,h4⟩,h5⟩:=h;have hp:=qEl (pe:=pe) h1;have hb:=λb=>hB (p29 l pe) hp qrX (λd a x h=>⟨(qm8 hp qrX h).1,(qm8 hp qrX h).2.1⟩) b
 refine qAK hc ar hcl hok pe t m x n w (λb=>rPr ((zx (p29 l pe)).map (toP (p29 l pe) b))) h3 (λb=>?_) (λb=>?_)
 .have:=hb b;rw[(qre (ho b)).2,List.length_map,h2]at this
  grind[qwV]
 .have:=qvr hp qrX (qre (ho b)).1 hE (d:=d29 t m x) (qCG (decide_eq_true h4));rw[h5 b,h2]at this;exact this
def qE8:qqy P gT :=
 ⟨qhk hc hB hE [] false .nils (by simp_all) rfl rfl ok0 0 3221225534 1 1 2147418112 (by kernel_rfl),
  qhk hc hB hE [0] false (.fz 1 [.j 0]) (.inl rfl) rfl rfl ok1 1 1073741827 1 1 2147483648 (by kernel_rfl),
  qhk hc hB hE [0] false (.fz 1 [.j 0]) (.inl rfl) rfl rfl ok1 1 3221225534 1 1 2147418112 (by kernel_rfl),
  qhk hc hB hE [] true .nils (by simp_all) rfl rfl ok2 6 3221225534 135 1 327681 (by kernel_rfl),
  qhk hc hB hE [] true .nils (by simp_all) rfl rfl ok2 6 3221225534 135 0 2147418112 (by kernel_rfl)⟩
end
def qFU{g1 g2 g3:Nat}(hc:qc P f (qbO g1 g2 g3)=true)(h1:qqx P g1):qa P f [.fz 1 [.y 1]] qvl:=by
 have h:=h1 [1] (λx hx=>by rw[List.mem_singleton]at hx;subst hx;exact⟨by decide,by decide⟩) (by decide) 2 (by decide)
 rw[show qnZ [1] 2 = .tup [.h 0,.b false]from rfl]at h
 refine qa.mk hc rfl ?_;simp only[qbO,vI,simprocAttr];simp +decide only[↓vS,vT,simprocAttr];refine SL.loop (α:=Unit) (λ_=>[(0,.fz 1 [.y 1])]) (λ_=>[]) (λ_=>True) (λ_=>0) () [] ?_ ?_ ?_ rfl trivial ?_
 .simp[vw]
 .trivial
 .simp
 rintro⟨⟩-G ih;simp only[vI,simprocAttr];simp +decide only[↓vS,vT,simprocAttr];refine h.sc ?_;simp +decide only[↓vS,vT,simprocAttr];simp[vZ,qvl]
def qlx{l r:List Int}{n:Nat}(h:l.length=n)(k:Nat):(l++r).drop (n+k)=r.drop k:=by
 subst h;rw[<- List.drop_drop,List.drop_left]
def qmp{l r:List Int}{n:Nat}(h:l.length=n):(l++r).take n=l:=by
 simp_all
theorem qva{i:Ins}(h:InsOk i):qmA (qdH i)=i:=by
 obtain⟨c,jt,jf,k⟩:=i;have h0:=h.c0;have h1:=h.c1;have h4:=qwc h.k0 h.k1
 have e:leM (xw 2 c)=c:=by simp only[xw,leM];grind
 show(⟨leM (xw 2 c),jt,jf,leM (xw 4 k)⟩:Ins)=_;rw[e,h4]
def qps{r:List Int}:∀{p:List Ins},(∀i ∈ p,InsOk i)->qkM (qb7 p++r) p.length=p
 | [],_=>rfl
 | i::p,h=>by
  have ih:=qps (r:=r) (p:=p) (by simp_all);have e:qb7 (i::p)++r=qdH i++(qb7 p++r):=by unfold qb7;rw[List.flatMap_cons,List.append_assoc]
  rw[e];unfold qkM at ih ⊢;rw[List.length_cons,List.range_succ_eq_map,List.map_cons,List.map_map];refine List.cons_eq_cons.2 ⟨?_,?_⟩
  .show qmA (((qdH i++(qb7 p++r)).drop (0+0)).take 8)=i;rw[Nat.zero_add,List.drop_zero,qmp (qdI i)]
   grind[qva]
  .refine Eq.trans (List.map_congr_left λj _=>?_) ih
   show qmA (((qdH i++(qb7 p++r)).drop (8*(j+1))).take 8)=qmA (((qb7 p++r).drop (8*j)).take 8);rw[show 8*(j+1)=8+8*j from by omega,qlx (qdI i)]
structure PrgB (x:Prg):Prop where
 ok:PrgOk x
 d0:0<=x.dir
 d1:x.dir<=255
 a0:0<=x.arch
 a1:x.arch<=255
def qxn{x:Prg}{r:List Int}:(qjJ x++r).drop (4+8*x.ins.length)=r:=by
 rw[show 4+8*x.ins.length=(4+8*x.ins.length)+0 from rfl,qlx (by rw[qjK];omega),List.drop_zero]
section
variable {x:Prg} {r:List Int} (h:PrgB x)
include h
def qlf:qjJ x++r=x.dir::x.arch::(xw 2 x.ins.length++(qb7 x.ins++r)):=by
 unfold qjJ;rw[show IntKind.wrap .u8 x.dir=x.dir from by have:=h.d0;have:=h.d1;show x.dir % 256=x.dir;omega,show IntKind.wrap .u8 x.arch=x.arch from by have:=h.a0;have:=h.a1;show x.arch % 256=x.arch;omega]
 simp
def qwd:leM (qa0 (qjJ x++r) 2 2)=(x.ins.length:Int):=by
 rw[qlf h];have hl:=h.ok.len;show leM ((xw 2 (x.ins.length:Int)++(qb7 x.ins++r)).take 2)=_;rw[qmp (qaB 2 _)];simp only[xw,leM];omega
def qzp:qa0 (qjJ x++r) 4 (8*x.ins.length)=qb7 x.ins:=by
 rw[qlf h];show((xw 2 (x.ins.length:Int)++(qb7 x.ins++r)).drop (2+0)).take (8*x.ins.length)=_;rw[qlx (qaB 2 _),List.drop_zero,qmp (by rw[qdJ];omega)]
def qAH:xX (qjJ x):=by
 have e:=qlf (r:=[]) h;rw[List.append_nil,List.append_nil]at e;rw[e];intro c hc;simp only[List.mem_cons,List.mem_append]at hc;rcases hc with rfl|rfl|hc|hc
 .exact⟨h.d0,h.d1⟩
 .exact⟨h.a0,h.a1⟩
 .exact qk7 _ _ _ hc
 .obtain⟨i,hi,hc⟩:=List.mem_flatMap.1 hc;have ho:=h.ok.ins i hi;unfold qdH at hc;simp only[List.mem_cons,List.mem_append,List.not_mem_nil,or_false]at hc;rcases hc with hc|(rfl|rfl)|hc
  .exact qk7 _ _ _ hc
  .exact⟨ho.t0,ho.t1⟩
  .exact⟨ho.f0,ho.f1⟩
  .exact qk7 _ _ _ hc
end
def qAI{l:List Prg}(h:∀x ∈ l,PrgB x):xX (jU l):=λc hc=>by
 obtain⟨x,hx,hc⟩:=List.mem_flatMap.1 hc;exact qAH (h x hx) c hc
def qFV{g1 g2 g3:Nat}(hc:qc P f (qbO g1 g2 g3)=true)(h1:qqx P g1)(h2:qA0 P g2)(h3:qoV P g3){l:List Prg}(hl:l.length<48)(hm:qaz l=true)(hx:∀x ∈ l,PrgB x):qa P f [.fz (jU l).length (rB (jU l))] (.tup [.fz l.length (rPr l),.j 0]):=by
 refine qa.mk hc (by simp[qt,clo,qZ]) ?_;have hmay:=h3 l (by omega) λx h=>⟨by have:=(hx x h).ok.len;omega,(hx x h).ok.ins⟩
 rw[hm]at hmay
 have hle:∀j,(jU (l.drop j)).length<=1920000:=λj=>by
  have h1:=qop (l:=l.drop j) (by grind[PrgOk.len,PrgB.ok]);have h2:(l.drop j).length<=48:=by rw[List.length_drop];omega
  omega
 simp only[qbO,vI,simprocAttr];simp +decide only[↓vS,vT,simprocAttr];refine SL.loop (α:=Nat) (λj=>[(0,.fz (jU (l.drop j)).length (rB (jU (l.drop j)))),(4,.own 0 j)]) (λj=>[.cells 3 true true (rPr (l.take j))]) (λj=>j<=l.length) (λj=>l.length-j) 0 [99] ?_ ?_ ?_ rfl ?_ ?_
 .simp[vw,qZ]
 .simp[vw,rPr]
 .simp
 .omega
 rintro j hj G ih;simp only[vI,simprocAttr]
 by_cases hlt:j<l.length
 .obtain⟨x,hxj⟩:∃x,l[j]?=some x:=⟨_,zzE hlt⟩;have hB:=hx x (by grind)
  have hr:jU (l.drop j)=qjJ x++jU (l.drop (j+1)):=by
   rw[List.drop_eq_getElem_cons hlt,(zzS.1 hxj).2];rfl
  have hrb:=qAI (l:=l.drop j) (by grind);have hl0:=hle j;have hg:=h1 (jU (l.drop j)) hrb (by omega) 2 (by omega);have ih2:=ih (j+1);have hlen:(jU (l.drop j)).length=4+x.ins.length*8+(jU (l.drop (j+1))).length:=by rw[hr,zzP,qjK]
  have k1:=qwd (r:=jU (l.drop (j+1))) hB;have k2:=qzp (r:=jU (l.drop (j+1))) hB;have k3:=qxn (x:=x) (r:=jU (l.drop (j+1)));have k4:=qlf (r:=jU (l.drop (j+1))) hB;rw[<- hr]at k1 k2 k3 k4;have k5:=qps (r:=[]) hB.ok.ins;rw[List.append_nil]at k5;have hpar:=h2 (qb7 x.ins) (λc hc=>hrb c (by rw[k4];grind)) x.ins.length (by rw[qdJ];omega) (by rw[qdJ];have:=hB.ok.len;omega)
  rw[k5,qdJ]at hpar
  have hnx:rPr (l.take j)++[.j x.dir,.j x.arch,.fz x.ins.length (rP x.ins)]=rPr (l.take (j+1)):=by
   rw[List.take_add_one,hxj,qsa];rfl
  have q0:0<(jU (l.drop j)).length:=by omega
  have q1:1<(jU (l.drop j)).length:=by omega
  have b0:(rB (jU (l.drop j)))[0]?=some (.y x.dir):=by rw[ql8,k4];rfl
  have b1:(rB (jU (l.drop j)))[1]?=some (.y x.arch):=by rw[ql8,k4];rfl
  generalize jU (l.drop j)=r at *;generalize jU (l.drop (j+1))=r' at *;obtain⟨n,hn⟩:∃n,n=x.ins.length:=⟨_,rfl⟩;have hn4:=hB.ok.len;rw[<- hn]at k1 k2 k3 hpar hlen hnx hn4;unfold qnZ at hg;rw[if_pos (by omega),k1]at hg;have hz':(0:Int)<(r.length:Int):=by omega
  have w1:IntKind.wrap .i64 (n:Int)=(n:Int):=by grind[qm]
  have w2:IntKind.wrap .i64 (8*(n:Int))=8*(n:Int):=by grind[qm]
  have w3:IntKind.wrap .i64 (4+8*(n:Int))=((4+8*n:Nat):Int):=by rw[qm (by omega) (by omega)];omega
  have h5:¬r.length<4+8*n:=by omega
  have h5':¬(r.length:Int)<((4+8*n:Nat):Int):=by omega
  have h6':¬(48:Int)<=(j:Int):=by omega
  have e1:4<=4+8*n:=by omega
  have e2:4+8*n<=r.length:=by omega
  have e3:4+8*n<=(rB r).length:=by rw[qc4];omega
  have e4:4+8*n-4=8*n:=by omega
  have e6:n*8=8*n:=by omega
  unfold qa0 at k2;rw[e6]at hpar;have wc0:IntKind.wrap .i64 x.dir=x.dir:=qm (by have:=hB.d0;omega) (by have:=hB.d1;omega)
  have wc1:IntKind.wrap .i64 x.arch=x.arch:=qm (by have:=hB.a0;omega) (by have:=hB.a1;omega)
  have hlr:(rPr (l.take j)).length=j*3:=by rw[qhF,List.length_take];omega
  have hr1:j+1<=qf:=by simp only[qf];omega
  have hr2:(j+1)*40<=qf:=by simp only[qf];omega
  have e7:r.length-(4+8*n)=r'.length:=by omega
  have ht:List.take r'.length r'=r':=by simp_all
  have e5:4+8*n+r'.length<=(rB r).length:=by rw[qc4];omega
  simp +decide only[↓vS,vT,simprocAttr,hz'];refine hg.sc ?_;simp +decide only[↓vS,vT,simprocAttr,w1,w2,w3,h5',h5,h6',e1,e2,e3,e4,zzU,ql9,k2];refine hpar.sc ?_;simp +decide only[↓vS,vT,simprocAttr];refine zg ?_;simp +decide only[↓vS,vT,simprocAttr,q0,q1,zzU,b0,b1,wc0,wc1,hlr,hr1,hr2,hnx,e2,e3,e5,e7,ql9,k3,ht];refine ih2 (by omega) (by omega) _ _ (Wk.mk _ _ [2] ?_ ?_ ?_ rfl)
  .simp[vw,qZ]
  .simp[vw,qe,xi]
  .simp
 .obtain rfl:j=l.length:=by omega
  clear ih hle;have hz':¬(0:Int)<(0:Int):=by decide
  simp +decide only[↓vS,vT,simprocAttr,List.drop_length,List.take_length,jU,List.flatMap_nil,List.length_nil];refine(hmay.lend (vs':=[.fz l.length (rPr l)]) ?_ ?_ ?_)
  .simp[vZ,vP,Tr.get_set,qJ (xi _)];intro h0;rw[h0];rfl
  .rfl
  simp +decide only[↓vS,vT,simprocAttr];simp[vZ,vP,Tr.get_set,qJ (xi _)];intro h0;rw[h0];rfl
theorem qHJ{x:Prg}(h:qdX x=true)(hg:PrgGood x.ins):PrgB x:=by
 unfold qdX at h;simp only[zzB]at h;have h2:=h.2;split at h2
 .rename_i h0;have:=of_decide_eq_true h2;exact⟨⟨hg.len,hg.ins⟩,by omega,by omega,by omega,by omega⟩
 .simp only[zzB,decide_eq_true_eq]at h2;exact⟨⟨hg.len,hg.ins⟩,by omega,by omega,by omega,by omega⟩
def jH(a b c d e g h i:Nat):IFn:=⟨[.tmp 4],sq [.r [.q 2 (.box (.t 0)),.m 4 .F],sq [.r [.l 12 a [],.q 13 (.un .not (.t 12))],.cond (.t 13) (sq [.r [.m 4 .F],.ret]) (.skip)],sq [.r [.v 14 13 2,.l 15 b [.t 14]],.cond (.t 15) (sq [.r [.m 4 .T],.ret]) (.skip)],.r [.v 17 13 2,.n 18 1,.l 19 c [.t 17,.t 18],.n 16 19,.x 20 16 0,.x 21 16 1,.n 5 20,.n 6 21],sq [.r [.n 22 6,.w 23 .neq 22 0],.cond (.t 23) (sq [.r [.n 24 5,.e 25 24,.w 26 .eql 25 0,.n 4 26],.ret]) (.skip)],.r [.n 28 5,.l 29 d [.t 28],.n 27 29,.x 30 27 0,.x 31 27 1,.n 7 30,.n 8 31],.r [.n 33 7,.l 34 e [.t 33],.n 32 34,.x 35 32 0,.x 36 32 1,.n 9 35,.n 10 36],sq [.r [.n 37 8,.w 38 .neq 37 0,.n 39 38,.z 40 10 39,.g 41 (.bin .neq (.t 40) (.k 0)) 39 false,.o 42 39 41,.n 43 42,.z 44 5 43,⟨(some 45),.callF g [.t 44],(some (43,false))⟩,.g 46 (.un .not (.t 45)) 43 false,.o 47 43 46,.n 48 47,.z 49 5 48,.z 50 9 48,⟨(some 51),.callF h [.t 49,.t 50],(some (48,false))⟩,.g 52 (.un .not (.t 51)) 48 false,.o 53 48 52],.cond (.t 53) (sq [.r [.m 4 .F],.ret]) (.skip)],sq [.r [.m 11 (.k 0)],.blk 0 (.loop (sq [sq [.r [.n 54 11,.n 55 5,.e 56 55,.s 57 54 56],.cond (.t 57) (.skip) (.exit 0)],.blk 1 (sq [.r [.n 60 5,.n 61 11,.i 62 3 60 61,.f 63 2 62,.d 64 63,.e 65 64,.w 66 .lss 65 1,.n 67 66,.z 68 5 67,.z 69 11 67,.g 70 (.iAddrS 3 (.t 68) (.t 69)) 67 false,.h 71 2 70 67 false,.j 72 71 67 false,.g 73 (.len false (.t 72)) 67 false,.g 74 (.bin .gtr (.t 73) (.k 4096)) 67 false,.o 75 67 74,.n 76 75,.z 77 5 76,.z 78 11 76,.g 79 (.iAddrS 3 (.t 77) (.t 78)) 76 false,.h 80 2 79 76 false,.j 81 80 76 false,⟨(some 82),.callF i [.t 81],(some (76,false))⟩,.g 83 (.bin .neq (.t 82) (.k 0)) 76 false,.o 84 76 83],.cond (.t 84) (sq [.r [.m 4 .F],.ret]) (.skip)]),.r [.n 58 11,.a 59 58 1,.n 11 59]]))],.r [.m 4 .T],.ret]⟩
def qtp{g1 g2 g3 g4 g5 g6 g7 g8:Nat}(hc:qc P f (jH g1 g2 g3 g4 g5 g6 g7 g8)=true)(h1:qa P g1 [] (.b true))(h2:∀p,qa P g2 [.agg (qB p)] (.b (qtc p)))(h3:qyA P g3)
  (h4:∀l:List Prg,l.length<=100->(∀x ∈ l,PrgIn x)->qa P g4 [.fz l.length (rPr l)] (if qaz l=true then .tup [.fz (jU l).length (rB (jU l)),.j 0]else .tup [.fz 0 [],.j 290]))
  (h5:∀l:List Prg,l.length<48->qaz l=true->(∀x ∈ l,PrgB x)->qa P g5 [.fz (jU l).length (rB (jU l))] (.tup [.fz l.length (rPr l),.j 0]))
  (h6:qoV P g6) (h7:qA3 P g7) (h8:∀p:List Ins,(∀i ∈ p,InsOk i)->qa P g8 [.fz p.length (rP p)] (.j (atU p (qeb p)).2))
  (p:Pol) (hR:PolR p) (o:Bool):qa P f [.agg (qB p),.b o] (.b true):=by
 refine qa.mk hc (by simp[qt,clo,qmM]) ?_;have p2:=h2 p;simp only[jH,vI,simprocAttr];simp only[qB]at p2 ⊢;simp +decide only[↓vS,vT,simprocAttr];refine h1.sc ?_;simp +decide only[↓vS,vT,simprocAttr];refine p2.sc ?_;cases hg:qtc p with
 | true =>
  simp +decide only[↓vS,vT,simprocAttr];simp[vZ]
 | false =>
  have hp:=qC4 hg;have p3:=h3 p hp hR (λd a x h=>⟨(qm8 hp hR h).1,(qm8 hp hR h).2.1⟩) o
  simp only[qB]at p3;simp +decide only[↓vS,vT,simprocAttr];refine p3.sc ?_;rcases qsJ p o with⟨e,he,e1⟩|⟨ha,e1⟩
  .rw[e1];simp +decide only[↓vS,vT,simprocAttr,he];simp[vZ]
  have hmay:=qoP hp hR ha;have hin:=qrl hp hR ha
  have hS:∀x ∈ (zx p).map (toP p o),PrgS x.ins:=λx hx=>by
   obtain⟨q,hq,rfl⟩:=List.mem_map.1 hx;exact qEq hp hR hq (ha q hq)
  have hl:((zx p).map (toP p o)).length<=43:=by rw[List.length_map];exact ql2
  rw[e1];generalize(zx p).map (toP p o)=l at *
  have hB:∀x ∈ l,PrgB x:=λx hx=>by
   unfold qaz at hmay
   grind[qHJ,PrgS.good]
  have p4:=h4 l (by omega) hin;rw[if_pos hmay]at p4;have p5:=h5 l (by omega) hmay hB;have p6:=h6 l (by omega) hin;rw[hmay]at p6;have p7:=h7 l l (by omega) hin;rw[decide_eq_true rfl]at p7;simp +decide only[↓vS,vT,simprocAttr];refine p4.sc ?_;simp +decide only[↓vS,vT,simprocAttr];refine p5.sc ?_;simp +decide only[↓vS,vT,simprocAttr];refine p6.sc ?_;simp +decide only[↓vS,vT,simprocAttr];refine p7.sc ?_;simp +decide only[↓vS,vT,simprocAttr];refine SL.loop (α:=Nat) (λj=>[(5,.fz l.length (rPr l)),(11,.j (j:Int))]) (λ_=>[]) (λj=>j<=l.length) (λj=>l.length-j) 0 [] ?_ ?_ ?_ rfl ?_ ?_
  .simp[vw,xi]
  .trivial
  .simp
  .omega
  rintro j hj G ih;simp only[vI,simprocAttr]
  by_cases hlt:j<l.length
  .obtain⟨x,hpx⟩:∃x,l[j]?=some x:=⟨_,zzE hlt⟩;have g2:=qbE (f:=cPr) (m:=3) qfD hpx (i:=2) (by omega);rw[show l.flatMap cPr=rPr l from rfl]at g2
   simp only[cPr,Nat.add_zero,List.getElem?_cons_zero,List.getElem?_cons_succ]at g2;have hw1:IntKind.wrap .i64 ((j:Int)+1)=((j+1:Nat):Int):=by rw[qm (by omega) (by omega)];omega
   have hT:=hS x (by grind);have k1:¬(x.ins.length:Int)<1:=by have:=hT.good.ne;omega
   have k2:¬(4096:Int)<(x.ins.length:Int):=by have:=hT.good.len;omega
   have p8:=h8 x.ins hT.good.ins;rw[hT.um,qrB hT.good]at p8;simp +decide only[↓vS,vT,simprocAttr,hlt,g2,k1,k2];refine p8.sc ?_;simp +decide only[↓vS,vT,simprocAttr,hw1];refine ih (j+1) hlt (by omega) _ _ (Wk.mk _ _ [] ?_ ?_ ?_ rfl)
   .simp[vw,xi]
   .trivial
   .simp
  .simp +decide only[↓vS,vT,simprocAttr,hlt];simp[vZ]
end Go.Kc
end
