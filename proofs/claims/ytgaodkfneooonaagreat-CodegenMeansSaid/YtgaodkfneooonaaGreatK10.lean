/- Part 10 of the abstract machine and of the functions' walks. Conditions: with each theorem. -/
import Derived.Test.YtgaodkfneooonaaGreatK9
set_option maxHeartbeats 4000000
set_option linter.unusedSectionVars false
set_option linter.unusedSimpArgs false
set_option linter.unusedVariables false
set_option linter.unnecessarySimpa false
section
namespace Go.Kc
variable {P:Program} {f:Nat}
theorem qj6{A:List AV}{n i:Nat}{v z:AV}(hA:A.length=n)(hv:A[i]?=some v):(A.take i++List.replicate (n-i) z).take i++v::(A.take i++List.replicate (n-i) z).drop (i+1)=A.take (i+1)++List.replicate (n-(i+1)) z:=by
 have hi:i<n:=by rw[← hA];exact (zzS.1 hv).1
 have hl:(A.take i).length=i:=by rw[List.length_take];omega
 rw[List.take_left' hl]
 have:(A.take i++List.replicate (n-i) z).drop (i+1)=List.replicate (n-(i+1)) z:=by
  have e:i+1=(A.take i).length+1:=by rw[hl]
  rw[e,List.drop_length_add_append,List.drop_replicate,hl];congr 1
 rw[this,jp hv];simp
section
variable {g w s gl gp gj gh gr g1 g2 g3 g4 g5:Nat} {κ:Nat->Kd} {tr:Tr Blk} {RV:List Sy} {N:List Nat} {k:AV->Hp->Prop} {go gb gR gd gt gH gA gB gC gD gM gS gT:Nat}
theorem qvx{n0 sb bf bN:Nat}{κb:Nat->Kd}{tb:Tr Blk}(E:EFn P g gl gp gj gh gr go gb gR gd gt gH gA gB gC gD)(x:GFil)(hx:FilR x)(ha0:0<=x.arch)(ha6:x.arch<6)(hK:∀r ∈ x.rules,qak r=true)(hn:x.rules.length<=400)(hd1:jz x<=10000)
  (hS:qf P gS [.fz (qG x.rules).length (qaA (qG x.rules)),.fz (qG x.rules).length (qba (qG x.rules)),.i .i64 0] (.tup [.fz (zx (pcs 0 (qG x.rules) 0)).length (rSp (zx (pcs 0 (qG x.rules) 0))),.i .i64 0]))
  (hB:qf P gT [.fz (zx (pcs 0 (qG x.rules) 0)).length (rSp (zx (pcs 0 (qG x.rules) 0)))] (.tup [.fz (qL x).length (rNd (qL x)),.i .i64 0])) (hT1:qL x≠[]) (hT2:∀nd ∈ qL x,NdOk (x.rules.length+1) (qL x).length nd) (hT3:(qL x).length<=10000)
  (h:WI g w κ s tr [] []) (st:Stp [bN] κb sb tb κ s tr) (hd:∀b,κb b≠.no->b<sb) (hf0:κ bf = .fr) (gf:tr.get bf=some (.cells 0 true false (qz x))) {pN:Bool} (hN:κ bN = .lab (xG x) pN) (hbN:κb bN = .no) (hno:∀b F,κb b≠.lab F false)
  {t:Tr AV} (ht:Has t [(1,.ptr bf 0),(4,.ptr w 0),(5,.ptr bN 0)]) :
  S P n0 (qcI gM go gS gT gb gh gr gR gd) (qb9 [.tmp 2,.tmp 3] fun v' h'=>Frz h' v' (.tup [.fz (qW x).length (rSy (qW x)),.i .i64 0])) t ⟨s,0,tr⟩:=by
 refine S.has _ ht (ql ?_);simp only[qcI,vI,simprocAttr];simp +decide only[↓vS,vT,simprocAttr,gf,qz];refine qDU E.own E.W E.tok h x.arch ha0 ha6 hN (by simp) fun κ1 s1 t1 st1 w1=>?_
 rw[List.nil_append,List.length_nil] at w1;have sa:=st.trans st1;have hf1:=st1.fr bf hf0;have gf1:=hf1.2.trans gf;have hbs:bf<s1:=w1.dom bf (by rw[hf1.1];simp);have f1:¬bf=s1:=by omega
 have f2:¬bf=s1+1:=by omega
 have f3:¬bf=s1+1+1:=by omega
 have f4:¬bf=s1+1+1+1:=by omega
 have r1:x.rules.length<=qh:=by simp only[qh];omega
 have r2:4*x.rules.length<=qh:=by simp only[qh];omega
 have r3:8*x.rules.length<=qh:=by simp only[qh];omega
 simp +decide only[↓vS,vT,simprocAttr];refine zg ?_;simp +decide only[↓vS,vT,simprocAttr,gf1,qz,f1,f2,f3,f4,r1,r2,r3];have k1:κ1 s1 = .no:=w1.fresh
 have nb:∀c:Nat,κb (s1+c) = .no:=fun c=>by
  cases hk:κb (s1+c) with
  | no=>rfl
  | _ =>
   have:=hd (s1+c) (by rw[hk];simp);have:=sa.le;omega
 -- the four blocks
 have wa:=w1.new .fr (.cells 0 true false (List.replicate x.rules.length [AV.i .u32 0]).flatten) (.inr (.inl rfl));have wb:=wa.new .fr (.cells 0 true false (List.replicate x.rules.length [AV.i .i64 0]).flatten) (.inr (.inl rfl));have wc:=wb.new (.lab (xJ x 0) false) _ (.inr (.inr (.inr ⟨_,rfl,rfl⟩)));have wd:=wc.new .fr (.cells 0 true false [.ptr (s1+1+1) 0]) (.inr (.inl rfl));have sd:=(((sa.trans (w1.stpNew .fr (.cells 0 true false (List.replicate x.rules.length [AV.i .u32 0]).flatten) (by simp))).trans (wa.stpNew .fr (.cells 0 true false (List.replicate x.rules.length [AV.i .i64 0]).flatten) (by simp))).trans (wb.stpLab (.lab (xJ x 0) false) (.cells 0 true false [.i .i64 0]))).trans (wc.stpNew .fr (.cells 0 true false [.ptr (s1+1+1) 0]) (by simp))
 refine SL.loopP (α:=Nat×Nat) (fun i=>[(1,.ptr bf 0),(4,.ptr w 0),(5,.ptr bN 0),(6,.sl s1 0 x.rules.length x.rules.length false),(7,.sl (s1+1) 0 x.rules.length x.rules.length false),(8,qgM i.1 i.2),(41,.fz x.rules.length (rR x.rules)),(42,.i .i64 (x.rules.length:Int)),(43,.i .i64 (i.1:Int))])
  (fun i h=>i.1<=x.rules.length∧∃L' κ' s' tr' xs,h=⟨s',0,tr'⟩∧Stp L' κb sb tb κ' s' tr'∧WI g w κ' s' tr' (qa9 x.arch 0 (xG x)) []∧xs.length=i.1+1∧(∀(j:Nat) c,xs[j]?=some c->∃p,κ' c = .lab (xJ x j) p)∧κ' i.2 = .fr∧tr'.get i.2=some (if i.1=0 then .cells 0 true false (rPt xs) else .cells 1 true true (rPt xs)) ∧
   κ' bf = .fr∧tr'.get bf=some (.cells 0 true false (qz x))∧κ' bN = .lab (xG x) pN∧(∀c ∈ L',c=bN∨∃j:Nat,xs[j]?=some c)∧(∀(j:Nat) c,xs[j]?=some c->s1<=c)∧κ' s1 = .fr∧κ' (s1+1) = .fr∧tr'.get s1=some (.cells 0 true false ((qaA (qG x.rules)).take i.1++List.replicate (x.rules.length-i.1) (.i .u32 0))) ∧
   tr'.get (s1+1)=some (.cells 0 true false ((qba (qG x.rules)).take i.1++List.replicate (x.rules.length-i.1) (.i .i64 0)))∧s1+1<i.2∧i.2<s') (fun i=>x.rules.length-i.1) ?_ (0,s1+1+1+1) ?_ ?_
 ·rintro⟨i,bL⟩ h1 ⟨hi,L',κ',s',tr',xs,rfl,st',w',hxl,hxs,hL0,gL,hbf,gbf,hbN',hL',hnew,hs1,hs2,gn,gw,hbl,hbl2⟩ G ih;simp only at hi hxl hL0 gL gn gw hbl hbl2;simp only[vI,simprocAttr]
  by_cases hlt:i<x.rules.length
  ·have hlt':(i:Int)<x.rules.length:=by omega
   obtain⟨r,hr⟩:∃r,x.rules[i]?=some r:=⟨_,zzE hlt⟩;have hel:((rR x.rules).drop (i*3)).take 3=qB r:=zL qbf hr;have h3:i*3+3<=(rR x.rules).length:=by rw[show (rR x.rules).length=x.rules.length*3 from zt qbf _];omega
   have hw1:IntKind.wrap .i64 ((i:Int)+1)=((i+1:Nat):Int):=by rw[qm (by omega) (by omega)];simp
   have gnm:(qaA (qG x.rules))[i]?=some (.i .u32 r.nr):=by rw[qhC,qc0,hr];rfl
   have gwm:(qba (qG x.rules))[i]?=some (.i .i64 ((i+1:Nat):Int)):=by rw[qnz,qc0,hr];rfl
   have fn:=qj6 (n:=x.rules.length) (z:=.i .u32 0) (by rw[qfI,qay]) gnm;have fw:=qj6 (n:=x.rules.length) (z:=.i .i64 0) (by rw[qfJ,qay]) gwm;have ln:i+1<=((qaA (qG x.rules)).take i++List.replicate (x.rules.length-i) (AV.i .u32 0)).length:=by simp[qfI,qay];omega
   have lw:i+1<=((qba (qG x.rules)).take i++List.replicate (x.rules.length-i) (AV.i .i64 0)).length:=by simp[qfJ,qay];omega
   have q1:¬s1=s':=by omega
   have q2:¬s1+1=s':=by omega
   have q3:¬s'=s1:=by omega
   have q4:¬s1+1=s1:=by omega
   have q5:¬bL=s':=by omega
   have q6:¬bL=s1:=by omega
   have q7:¬bL=s1+1:=by omega
   have q8:¬bL=s'+1:=by omega
   have q9:¬bL=s'+1+1:=by omega
   have q10:¬s'=s1+1:=by omega
   have q11:¬s'+1+1=bL:=by omega
   have hfw0:IntKind.wrap .i64 ((i:Int)+1)=((i+1:Nat):Int):=hw1;obtain⟨wv,sv⟩:=w'.var (.cells 0 true false [.i .u32 0,.nils,.i .u32 0]) (.cells 0 true false (qB r));have v1:kdS κ' s' .fr s1 = .fr:=(sv.fr s1 hs1).1;have w2:=wv.chg (b:=s1) .fr (.cells 0 true false ((qaA (qG x.rules)).take (i+1)++List.replicate (x.rules.length-(i+1)) (.i .u32 0))) (.inl v1) (by omega) (.inr (.inl rfl));have w3:=w2.chg (b:=s1+1) .fr (.cells 0 true false ((qba (qG x.rules)).take (i+1)++List.replicate (x.rules.length-(i+1)) (.i .i64 0))) (.inl (by rw[qg q4];exact (sv.fr _ hs2).1)) (by omega) (.inr (.inl rfl))
   have s3:=((st'.trans sv).mod' (nb 0) (.cells 0 true false ((qaA (qG x.rules)).take (i+1)++List.replicate (x.rules.length-(i+1)) (.i .u32 0)))).mod' (nb 1) (.cells 0 true false ((qba (qG x.rules)).take (i+1)++List.replicate (x.rules.length-(i+1)) (.i .i64 0)));have w4:=w3.new (.lab (xJ x (i+1)) false) _ (.inr (.inr (.inr ⟨_,rfl,rfl⟩)));have s4:=s3.trans (w3.stpLab (.lab (xJ x (i+1)) false) (.cells 0 true false [.i .i64 0]));have w5:=w4.new .no (.cells 0 true false [.ptr (s'+1) 0]) (.inl rfl);have s5:=s4.trans (w4.stpNew .no (.cells 0 true false [.ptr (s'+1) 0]) (by simp))
   have nbL:κb bL = .no:=by
    have e:bL=s1+(bL-s1):=by omega
    rw[e];exact nb _
   have kb:kdS (kdS (kdS (kdS (kdS κ' s' .fr) s1 .fr) (s1+1) .fr) (s'+1) (.lab (xJ x (i+1)) false)) (s'+1+1) .no bL = .fr:=by
    rw[qg q9,qg q8,qg q7,qg q6,qg q5];exact hL0
   have w6:=w5.chg (b:=bL) .fr .dead (.inl kb) (by omega) (.inr (.inl rfl));have s6:=s5.mod' nbL .dead;have w7:=w6.new .fr (.cells 1 true true (rPt (xs++[s'+1]))) (.inr (.inl rfl));have s7:=s6.trans (w6.stpNew .fr (.cells 1 true true (rPt (xs++[s'+1]))) (by simp));have w7':=w5.new .fr (.cells 1 true true (rPt (xs++[s'+1]))) (.inr (.inl rfl));have s7':=s5.trans (w5.stpNew .fr (.cells 1 true true (rPt (xs++[s'+1]))) (by simp))
   have fin:∀(κf:Nat->Kd) (tf:Tr Blk) (Lf:List Nat),Stp Lf κb sb tb κf (s'+1+1+1+1) tf->WI g w κf (s'+1+1+1+1) tf (qa9 x.arch 0 (xG x)) []->Lf=L'++[s'+1]->(∀b,b<s'->b≠s1->b≠s1+1->b≠bL->κf b=κ' b∧tf.get b=tr'.get b)->κf s1 = .fr->κf (s1+1) = .fr->κf (s'+1) = .lab (xJ x (i+1)) false->κf (s'+1+1+1) = .fr->
     tf.get s1=some (.cells 0 true false ((qaA (qG x.rules)).take (i+1)++List.replicate (x.rules.length-(i+1)) (.i .u32 0)))->tf.get (s1+1)=some (.cells 0 true false ((qba (qG x.rules)).take (i+1)++List.replicate (x.rules.length-(i+1)) (.i .i64 0)))->tf.get (s'+1+1+1)=some (.cells 1 true true (rPt (xs++[s'+1])))->
     ∀tt,Has tt [(1,.ptr bf 0),(4,.ptr w 0),(5,.ptr bN 0),(6,.sl s1 0 x.rules.length x.rules.length false),(7,.sl (s1+1) 0 x.rules.length x.rules.length false),(8,.own (s'+1+1+1) (i+1+1)),(41,.fz x.rules.length (rR x.rules)),(42,.i .i64 (x.rules.length:Int)),(43,.i .i64 ((i+1:Nat):Int))]->G tt ⟨s'+1+1+1+1,0,tf⟩:=by
    intro κf tf Lf p1 p2 p3 p4 p5 p6 p7 p8 p9 p10 p11 tt htt;have hbfs:bf<s':=by omega
    have hbNs:bN<s1:=by
     have hb:=st1.lab _ _ _ hN;exact w1.dom bN (by rw[hb];simp)
    have hbfL:bf≠bL:=by omega
    refine ih (i+1,s'+1+1+1) _ _ (by simp only;omega) htt ⟨by simp only;omega,Lf,κf,s'+1+1+1+1,tf,xs++[s'+1],rfl,p1,p2,by simp[hxl],fun j c hj=>?_,p8,?_,?_,?_,?_,fun c hc=>?_,fun j c hj=>?_,p5,p6,p9,p10,by simp only;omega,by simp only;omega⟩
    ·rw[List.getElem?_append] at hj;split at hj
     ·obtain⟨p,hp⟩:=hxs j c hj;have:c<s':=w'.dom c (by rw[hp];simp);have n1:c≠s1:=fun e=>by rw[e,hs1] at hp;cases hp
      have n2:c≠s1+1:=fun e=>by rw[e,hs2] at hp;cases hp
      have n3:c≠bL:=fun e=>by rw[e,hL0] at hp;cases hp
      exact⟨p,by rw[(p4 c this n1 n2 n3).1];exact hp⟩
     ·have hj0:j-xs.length=0:=by
       have:=(zzS.1 hj).1;simp at this;exact this
      rw[hj0] at hj;simp at hj;subst hj;obtain rfl:j=i+1:=by omega
      exact⟨false,p7⟩
    ·rw[p11,if_neg (by simp)]
    ·rw[(p4 bf hbfs (by omega) (by omega) hbfL).1];exact hbf
    ·rw[(p4 bf hbfs (by omega) (by omega) hbfL).2];exact gbf
    ·rw[(p4 bN (by omega) (by omega) (by omega) (by omega)).1];exact hbN'
    ·rw[p3,List.mem_append,List.mem_singleton] at hc;rcases hc with hc|hc
     ·rcases hL' c hc with q|⟨j,q⟩
      ·exact .inl q
      ·exact .inr ⟨j,by rw[List.getElem?_append_left (zzS.1 q).1];exact q⟩
     ·exact .inr ⟨xs.length,by rw[hc];simp⟩
    ·rw[List.getElem?_append] at hj;split at hj
     ·exact hnew j c hj
     ·have hj0:j-xs.length=0:=by
       have:=(zzS.1 hj).1;simp at this;exact this
      rw[hj0] at hj;simp at hj;omega
   have m1:¬s'+1+1+1=s'+1+1:=by omega
   have hap:rPt xs++[.ptr (s'+1) 0]=rPt (xs++[s'+1]):=by simp[rPt]
   have hlx:(rPt xs).length=i+1:=by rw[qeS,hxl]
   have m2:¬s1=s'+1:=by omega
   have m3:¬s1+1=s'+1:=by omega
   have m4:¬s'=s'+1:=by omega
   have m5:¬s'+1+1=s'+1:=by omega
   have hs1':s1<s':=by omega
   rcases Nat.eq_zero_or_pos i with h0|h0
   ·rw[if_pos h0] at gL;have hV:qgM i bL = .sl bL 0 1 1 false:=by simp[qgM,h0]
    have htk:(rPt xs).take 1=rPt xs:=List.take_of_length_le (by rw[hlx];omega);have c2:1<=(rPt xs).length:=by omega
    rw[hV];have e2:(.own (s'+1+1+1) (i+1+1):AV) = .own (s'+1+1+1) 2:=by rw[h0]
    rw[e2] at fin;simp +decide only[↓vS,vT,simprocAttr,hlt',hlt,h3,hel,qB,hw1,gn,gw,gL,ln,lw,fn,fw,q1,q2,q3,q4,q5,q6,q7,q8,q9,q10,q11,m1,Nat.mul_one,htk,c2,hap];refine fin _ _ _ s7' w7' (by simp) ?_ ?_ ?_ ?_ ?_ ?_ ?_ ?_ _ ?_
    ·intro b hb n1 n2 n3;constructor
     ·rw[qg (by omega),qg (by omega),qg (by omega),qg n2,qg n1,qg (by omega)]
     ·simp only[Tr.get_set];rw[if_neg (by omega),if_neg (by omega),if_neg (by omega),if_neg n2,if_neg n1,if_neg (by omega),if_neg (by omega)]
    ·rw[qg (by omega),qg (by omega),qg (by omega),qg (by omega),qE]
    ·rw[qg (by omega),qg (by omega),qg (by omega),qE]
    ·rw[qg (by omega),qg (by omega),qE]
    ·rw[qE]
    ·simp only[Tr.get_set];rw[if_neg (by omega),if_neg (by omega),if_neg (by omega),if_neg (by omega)];simp
    ·simp only[Tr.get_set];rw[if_neg (by omega),if_neg (by omega),if_neg (by omega)];simp
    ·rw[Tr.get_set,if_pos rfl]
    ·simp[qe,qi,Tr.get_set]
   ·rw[if_neg (by omega)] at gL;have hV:qgM i bL = .own bL (i+1):=by unfold qgM;rw[if_neg (by omega)]
    rw[hV];have rr1:i+1+1<=qh:=by simp only[qh];omega
    have rr2:(i+1+1)*8<=qh:=by simp only[qh];omega
    simp +decide only[↓vS,vT,simprocAttr,hlt',hlt,h3,hel,qB,hw1,gn,gw,gL,ln,lw,fn,fw,q1,q2,q3,q4,q5,q6,q7,q8,q9,q10,q11,m1,rr1,rr2,Nat.mul_one,hlx,hap];refine fin _ _ _ s7 w7 (by simp) ?_ ?_ ?_ ?_ ?_ ?_ ?_ ?_ _ ?_
    ·intro b hb n1 n2 n3;constructor
     ·rw[qg (by omega),qg n3,qg (by omega),qg (by omega),qg n2,qg n1,qg (by omega)]
     ·simp only[Tr.get_set];rw[if_neg (by omega),if_neg n3,if_neg (by omega),if_neg (by omega),if_neg n2,if_neg n1,if_neg (by omega),if_neg (by omega)]
    ·rw[qg (by omega),qg (by omega),qg (by omega),qg (by omega),qg (by omega),qE]
    ·rw[qg (by omega),qg (by omega),qg (by omega),qg (by omega),qE]
    ·rw[qg (by omega),qg (by omega),qg (by omega),qE]
    ·rw[qE]
    ·simp only[Tr.get_set];rw[if_neg (by omega),if_neg (by omega),if_neg (by omega),if_neg (by omega),if_neg (by omega)];simp
    ·simp only[Tr.get_set];rw[if_neg (by omega),if_neg (by omega),if_neg (by omega),if_neg (by omega)];simp
    ·rw[Tr.get_set,if_pos rfl]
    ·simp[qe,qi,Tr.get_set]
  ·obtain rfl:i=x.rules.length:=by omega
   have hlt':¬((x.rules.length:Int)<x.rules.length):=by omega
   simp +decide only[↓vS,vT,simprocAttr,hlt']
   have e1:(if x.rules.length=0 then Blk.cells 0 true false (rPt xs) else .cells 1 true true (rPt xs)) = .cells (if x.rules.length=0 then 0 else 1) true (decide (x.rules.length≠0)) (rPt xs):=by
    by_cases h:x.rules.length=0<;>simp[h]
   rw[e1] at gL;have hfb:bf≠s1:=f1;refine qvy (bn:=s1) (bw:=s1+1) E x hx hK hn hd1 hS hB hT1 hT2 hT3 w' st' xs hxl hxs hL0 gL hbf gbf hbN' hbN hL' (fun j c hj=>?_) hno hs1 ?_ (nb 0) hs2 ?_ (nb 1) ⟨by omega,by omega,by omega,by omega,by omega⟩ ?_
   ·have:=hnew j c hj;have e:c=s1+(c-s1):=by omega
    rw[e];exact nb _
   ·rw[gn];simp[List.take_of_length_le,qfI,qay]
   ·rw[gw];simp[List.take_of_length_le,qfJ,qay]
   ·simp[qe,qi,Tr.get_set]
 ·simp[qe,qi,Tr.get_set,qgM,qz]
 ·refine⟨Nat.zero_le _,_,_,_,_,[s1+1+1],rfl,sd,wd,rfl,fun j c hj=>?_,qE,?_,?_,?_,?_,fun c hc=>?_,fun j c hj=>?_,?_,?_,?_,?_,by simp only;omega,by simp only;omega⟩
  ·have:j=0:=by have:=(zzS.1 hj).1;simpa using this
   subst this;simp at hj;subst hj;exact⟨false,by rw[qg (by omega),qE]⟩
  ·simp[Tr.get_set,rPt]
  ·rw[qg f4,qg f3,qg f2,qg f1];exact hf1.1
  ·simp only[Tr.get_set];rw[if_neg f4,if_neg f3,if_neg f2,if_neg f1];exact gf1
  ·have hb:=st1.lab _ _ _ hN;have:bN<s1:=w1.dom bN (by rw[hb];simp);rw[qg (by omega),qg (by omega),qg (by omega),qg (by omega)];exact hb
  ·simp at hc;rcases hc with hc|hc
   ·exact .inl hc
   ·exact .inr ⟨0,by simp[hc]⟩
  ·have:j=0:=by have:=(zzS.1 hj).1;simpa using this
   subst this;simp at hj;omega
  ·rw[qg (by omega),qg (by omega),qg (by omega),qE]
  ·rw[qg (by omega),qg (by omega),qE]
  ·simp only[Tr.get_set];rw[if_neg (by omega),if_neg (by omega),if_neg (by omega)];simp
  ·simp only[Tr.get_set];rw[if_neg (by omega),if_neg (by omega)];simp
noncomputable def qmr(x:GFil):AV:=if xp x=true then .tup [.fz (qW x).length (rSy (qW x)),.i .i64 0] else .tup [.fz 0 [],.i .i64 210]
theorem qqt(hc:qd P f (qeH gM go gS gT gb gh gr gR gd)=true)(E:EFn P g gl gp gj gh gr go gb gR gd gt gH gA gB gC gD)(x:GFil)(hx:FilR x)(hM:qf P gM [.agg (qz x)] (.b (xp x)))
  (hk:xp x=true->jz x<=10000∧(qL x).length<=10000∧qL x≠[]∧(∀nd ∈ qL x,NdOk (x.rules.length+1) (qL x).length nd) ∧
   qf P gS [.fz (qG x.rules).length (qaA (qG x.rules)),.fz (qG x.rules).length (qba (qG x.rules)),.i .i64 0] (.tup [.fz (zx (pcs 0 (qG x.rules) 0)).length (rSp (zx (pcs 0 (qG x.rules) 0))),.i .i64 0]) ∧
   qf P gT [.fz (zx (pcs 0 (qG x.rules) 0)).length (rSp (zx (pcs 0 (qG x.rules) 0)))] (.tup [.fz (qL x).length (rNd (qL x)),.i .i64 0])) :
  qf P f [.agg (qz x)] (qmr x):=by
 have hcl:qw (rR x.rules)=true:=qbg fun r=>by simp[qB,qw,clo,xW]
 refine qf.mk hc (by simp[qw,clo,qz,hcl]) ?_;simp only[qeH,qz,vI,simprocAttr];simp +decide only[↓vS,vT,simprocAttr];simp only[qz] at hM;refine hM.sc ?_;unfold qmr;cases hK:xp x with
 | false =>
  simp +decide only[↓vS,vT,simprocAttr];simp[vZ]
 | true =>
  obtain⟨h1,h2,h3,h4,h5,h6⟩:=hk hK;simp only[xp,Bool.and_eq_true,decide_eq_true_eq] at hK;obtain⟨⟨⟨⟨k1,k2⟩,k3⟩,k4⟩,k5⟩:=hK;simp +decide only[↓vS,vT,simprocAttr];refine S.weak (Wk.mk [(1,.ptr 0 0),(4,.ptr 1 0),(5,.ptr 2 0)] [.cells 0 true false (qz x),.cells 0 true false [.own 3 0,.own 4 0],.cells 0 true false [.i .i64 0],.cells 4 true true [],.cells 1 true true []] [0,1,2,99,99] ?_ ?_ ?_ rfl) ?_
  ·simp[vw]
  ·simp[vw,qz,hcl]
  ·simp
  simp only[vI,simprocAttr]
  have hW:∀kd:Kd,(kd = .no∨kd = .lab (xG x) false)->WI g 1 (fun b=>if b=0 then .fr else if b=1 then .w else if b=2 then kd else if b=3 then .l else if b=4 then .t else .no) 5 (((((Tr.leaf.set 0 (.cells 0 true false (qz x))).set 1 (.cells 0 true false [.own 3 0,.own 4 0])).set 2 (.cells 0 true false [.i .i64 0])).set 3 (.cells 4 true true [])).set 4 (.cells 1 true true [])) [] []:=fun kd hkd=>by
   refine⟨fun b hb=>?_,⟨3,4,[],[],rfl,rfl,rfl,?_,?_,?_,trivial,by simp,fun j y hy=>by simp at hy⟩,fun b F p hb=>?_⟩
   ·by_cases e:b<5
    ·exact e
    ·rw[if_neg (by omega),if_neg (by omega),if_neg (by omega),if_neg (by omega),if_neg (by omega)] at hb;exact absurd rfl hb
   ·simp[Tr.get_set]
   ·simp[Tr.get_set,rSy]
   ·simp[Tr.get_set]
   ·split at hb
    ·cases hb
    split at hb
    ·cases hb
    split at hb
    ·rename_i e;subst e;rcases hkd with rfl|rfl
     ·cases hb
     ·cases hb;exact⟨0,by simp[Tr.get_set],by simp⟩
    split at hb
    ·cases hb
    split at hb<;>cases hb
  refine qvx (bf:=0) (bN:=2) (pN:=false) (κb:=fun b=>if b=0 then .fr else if b=1 then .w else if b=2 then .no else if b=3 then .l else if b=4 then .t else .no) (sb:=5) (tb:=((((Tr.leaf.set 0 (.cells 0 true false (qz x))).set 1 (.cells 0 true false [.own 3 0,.own 4 0])).set 2 (.cells 0 true false [.i .i64 0])).set 3 (.cells 4 true true [])).set 4 (.cells 1 true true []))
   E x hx k1 k2 (qhT k5) k3 h1 h5 h6 h3 h4 h2 (hW (.lab (xG x) false) (.inr rfl)) ⟨Nat.le_refl _,fun b hb=>⟨?_,rfl⟩,fun b hb=>⟨?_,rfl⟩,fun b F p hb=>?_,fun b F hb=>?_⟩ (hW .no (.inl rfl)).dom rfl ?_ rfl rfl ?_ ?_
  ·by_cases e:b=2
   ·subst e;simp at hb
   ·rw[if_neg e] at hb ⊢;exact hb
  ·by_cases e:b=2
   ·subst e;simp at hb
   ·rw[if_neg e] at hb ⊢;exact hb
  ·by_cases e:b=2
   ·subst e;simp at hb
   ·rw[if_neg e] at hb ⊢;exact hb
  ·by_cases e:b=2
   ·exact .inr (by simp[e])
   ·rw[if_neg e] at hb ⊢;exact .inl hb
  ·simp[Tr.get_set]
  ·intro b F hb
   repeat' split at hb
   all_goals cases hb
  ·simp[qe,qi,Tr.get_set]
end
def qd3(c:Int):Prop:=c=21∨c=37∨c=53∨c=69
def qfD(s:Sy)(j n:Nat):Prop :=
 (s.code=32∧s.th=0∧s.el=0∧s.k % 4=0∧0<=s.k∧s.k<64)∨((s.code=84∨s.code=6)∧s.th=0∧s.el=0)∨(s.code=5∧s.k=0∧s.el=0∧j<s.th∧s.th<n)∨(qd3 s.code∧j<s.th∧s.th<n∧j<s.el∧s.el<n)
structure MayL (l:List Sy):Prop where
 pos:0<l.length
 big:l.length<=131072
 last:∃s,l[l.length-1]?=some s∧s.code=6
 all:∀(j:Nat) s,l[j]?=some s->qfD s j l.length
theorem qP{l:List Sy}:qw (rSy l)=true:=qbg fun _=>rfl
theorem que{l:List Sy}:qD (rSy l)=true:=qjq fun _=>rfl
theorem qep{T:List Sy}{j:Nat}{x:Sy}(h:T[j]?=some x):((rSy T).drop (j*4)).take 4=cSy x:=zL qdw h
theorem qhB{T:List Sy}{j:Nat}{x:Sy}(h:T[j]?=some x){i:Nat}(hi:i<4):(rSy T)[j*4+i]?=(cSy x)[i]?:=zZ qdw h hi
def qeg:IFn:=⟨[.tmp 4],.seq (.r [.m 4 .F]) (.seq (.r [.n 5 0,.d 6 1,.b 7 .gtr 5 6,.n 8 7,.y 9 0 8,.j 10 2 8 true,.g 11 (.bin .lss (.t 9) (.t 10)) 8 true,.p 12 8 11,.n 4 12]) (.ret))⟩
theorem qBx(hc:qd P f qeg=true)(x j n:Nat)(h1:j<x)(h2:x<n):qf P f [.i .i64 (x:Int),.pf [.i .i64 (j:Int)] 0,.pf [.i .i64 (n:Int)] 0] (.b true):=by
 refine qf.mk hc rfl ?_;have h1':(j:Int)<x:=by omega
 have h2':(x:Int)<n:=by omega
 simp only[qeg,vI,simprocAttr];simp +decide only[↓vS,vT,simprocAttr,h1',h2'];simp[vZ]
def qhj:IFn:=⟨[.tmp 2],.seq (.r [.m 2 .F]) (.seq (.r [.n 3 0,.q 4 (.bin .eql (.t 3) (.c (.i .u16 21))),.n 5 4,.z 6 0 5,.g 7 (.bin .eql (.t 6) (.c (.i .u16 37))) 5 false,.o 8 5 7,.n 9 8,.z 10 0 9,.g 11 (.bin .eql (.t 10) (.c (.i .u16 53))) 9 false,.o 12 9 11,.n 13 12,.z 14 0 13,.g 15 (.bin .eql (.t 14) (.c (.i .u16 69))) 13 false,.o 16 13 15,.n 2 16]) (.ret))⟩
theorem qBO(hc:qd P f qhj=true)(c:Int)(h:qd3 c):qf P f [.i .u16 c] (.b true):=by
 refine qf.mk hc rfl ?_;simp only[qhj,vI,simprocAttr];rcases h with rfl|rfl|rfl|rfl
 all_goals
  simp +decide only[↓vS,vT,simprocAttr];simp[vZ]
def qfw(a b c:Nat):IFn:=⟨[.tmp 6],.seq (.r [.q 3 (.box (.t 0)),.q 4 (.box (.t 1)),.q 5 (.box (.t 2)),.m 6 .F]) (.seq (.r [.q 11 (.mkF a [] [.t 4,.t 5]),.n 7 11]) (.seq (.r [.f 12 2 3,.d 13 12,.w 14 .eql 13 0,.n 15 14,.h 16 3 3 15 true,.j 17 16 15 true,.g 18 (.bin .eql (.t 17) (.k 0)) 15 true,.p 19 15 18,.n 8 19]) (.seq (.blk 0 (.seq (.r [.f 21 0 3,.d 22 21,.q 23 (.bin .eql (.t 22) (.c (.i .u16 32))),.n 20 23]) (.cond (.t 20) (.seq (.r [.q 25 (.build [.i .u32 0,.i .u32 0,.i .u64 0,.i .u64 0,.i .u64 0,.i .u64 0,.i .u64 0,.i .u64 0,.i .u64 0] []),.f 26 1 3,.d 27 26,.l 28 b [.t 25,.t 27],.n 24 28,.x 29 24 0,.x 30 24 1,.n 9 29,.n 10 30]) (.seq (.r [.n 31 8,.n 32 31,.y 33 10 32,.g 34 (.bin .eql (.t 33) (.k 0)) 32 true,.p 35 32 34,.n 6 35]) (.ret))) (.seq (.r [.f 37 0 3,.d 38 37,.q 39 (.bin .eql (.t 38) (.c (.i .u16 84))),.n 40 39,.h 41 0 3 40 false,.j 42 41 40 false,.g 43 (.bin .eql (.t 42) (.c (.i .u16 6))) 40 false,.o 44 40 43,.n 36 44]) (.cond (.t 36) (.seq (.r [.n 45 8,.n 6 45]) (.ret)) (.seq (.r [.f 47 0 3,.d 48 47,.q 49 (.bin .eql (.t 48) (.c (.i .u16 5))),.n 46 49]) (.cond (.t 46) (.seq (.r [.f 50 1 3,.d 51 50,.q 52 (.bin .eql (.t 51) (.c (.i .u32 0))),.n 53 52,.h 54 3 3 53 true,.j 55 54 53 true,.g 56 (.bin .eql (.t 55) (.k 0)) 53 true,.p 57 53 56,.n 58 57,.y 59 7 58,.h 60 2 3 58 true,.j 61 60 58 true,⟨(some 62),.callV (.t 59) [.t 61],(some (58,true))⟩,.p 63 58 62,.n 6 63]) (.ret)) (.skip)))))))) (.seq (.r [.f 64 0 3,.d 65 64,.l 66 c [.t 65],.n 67 66,.y 68 7 67,.h 69 2 3 67 true,.j 70 69 67 true,⟨(some 71),.callV (.t 68) [.t 70],(some (67,true))⟩,.p 72 67 71,.n 73 72,.y 74 7 73,.h 75 3 3 73 true,.j 76 75 73 true,⟨(some 77),.callV (.t 74) [.t 76],(some (73,true))⟩,.p 78 73 77,.n 6 78]) (.ret)))))⟩
theorem qCb{g1 g2 g3:Nat}(hc:qd P f (qfw g1 g2 g3)=true)(h1:∀x j n:Nat,j<x->x<n->qf P g1 [.i .i64 (x:Int),.pf [.i .i64 (j:Int)] 0,.pf [.i .i64 (n:Int)] 0] (.b true))(h2:qr9 P g2)(h3:∀c,qd3 c->qf P g3 [.i .u16 c] (.b true))(s:Sy)(j n:Nat)(hs:qfD s j n)(hn:n<=1000000)(hj:j<n) :
  qf P f [.agg (cSy s),.i .i64 (j:Int),.i .i64 (n:Int)] (.b true):=by
 refine qf.mk hc rfl ?_;simp only[qfw,cSy,vI,simprocAttr];obtain⟨code,sk,th,el⟩:=s;simp only[qfD] at hs;rcases hs with⟨rfl,rfl,rfl,k4,k0,k64⟩|⟨hcd,rfl,rfl⟩|⟨rfl,rfl,rfl,j1,j2⟩|⟨hcd,j1,j2,j3,j4⟩
 ·have hw:=h2 ⟨0,0,0,0,0,0,0,0,0⟩ (by constructor<;>decide) sk k0 (by omega);have e:qiJ ⟨0,0,0,0,0,0,0,0,0⟩ sk = .tup [.i .u32 ((xe ⟨0,0,0,0,0,0,0,0,0⟩).getD (sk / 4).toNat 0),.i .i64 0]:=by unfold qiJ;rw[if_neg (by omega)]
  rw[e] at hw;simp only[qX] at hw;have z0:((0:Nat):Int)=0:=rfl;simp +decide only[↓vS,vT,simprocAttr,z0];refine hw.sc ?_;simp +decide only[↓vS,vT,simprocAttr];simp[vZ]
 ·have z0:((0:Nat):Int)=0:=rfl;rcases hcd with rfl|rfl
  ·simp +decide only[↓vS,vT,simprocAttr,z0];simp[vZ]
  ·simp +decide only[↓vS,vT,simprocAttr,z0];simp[vZ]
 ·have z0:((0:Nat):Int)=0:=rfl;have t0:¬(th:Int)=0:=by omega
  have t1:j<th:=j1;simp +decide only[↓vS,vT,simprocAttr,z0,t0];refine (h1 th j n j1 j2).lend (by simp[vZ,vP,Tr.get_set]) rfl ?_;simp +decide only[↓vS,vT,simprocAttr];simp[vZ]
 ·have t0:¬(th:Int)=0:=by omega
  have ha:=h3 code hcd;have n1:¬code=32:=by rcases hcd with h|h|h|h<;>omega
  have n2:¬code=84:=by rcases hcd with h|h|h|h<;>omega
  have n3:¬code=6:=by rcases hcd with h|h|h|h<;>omega
  have n4:¬code=5:=by rcases hcd with h|h|h|h<;>omega
  simp +decide only[↓vS,vT,simprocAttr,t0,n1,n2,n3,n4];refine ha.sc ?_;simp +decide only[↓vS,vT,simprocAttr];refine (h1 th j n j1 j2).lend (by simp[vZ,vP,Tr.get_set]) rfl ?_;simp +decide only[↓vS,vT,simprocAttr];refine (h1 el j n j3 j4).lend (by simp[vZ,vP,Tr.get_set]) rfl ?_;simp +decide only[↓vS,vT,simprocAttr];simp[vZ]
def qit(a:Nat):IFn:=⟨[.tmp 2],.seq (.r [.m 2 .F]) (.seq (.seq (.r [.n 5 0,.e 6 5,.w 7 .lss 6 1,.n 8 7,.z 9 0 8,.g 10 (.len false (.t 9)) 8 false,.g 11 (.bin .gtr (.t 10) (.k 131072)) 8 false,.o 12 8 11,.n 13 12,.z 14 0 13,.z 15 0 13,.g 16 (.len false (.t 15)) 13 false,.g 17 (.bin .sub (.t 16) (.k 1)) 13 false,.g 18 (.iAddrS 4 (.t 14) (.t 17)) 13 false,.h 19 0 18 13 false,.j 20 19 13 false,.g 21 (.bin .neq (.t 20) (.c (.i .u16 6))) 13 false,.o 22 13 21]) (.cond (.t 22) (.seq (.r [.m 2 .F]) (.ret)) (.skip))) (.seq (.seq (.r [.n 23 0,.e 24 23,.m 25 (.k 0)]) (.blk 0 (.loop (.seq (.r [.s 26 25 24]) (.seq (.cond (.t 26) (.skip) (.exit 0)) (.seq (.blk 1 (.seq (.r [.n 27 25,.i 28 4 23 25,.v 29 4 28,.q 4 (.alloc [.i .u16 0,.i .u32 0,.i .i64 0,.i .i64 0]),.n 3 27,.u (.store 4 (.t 4) (.t 29))]) (.seq (.r [.v 30 4 4,.n 31 3,.n 32 0,.e 33 32,.l 34 a [.t 30,.t 31,.t 33],.q 35 (.un .not (.t 34))]) (.cond (.t 35) (.seq (.r [.m 2 .F]) (.ret)) (.skip))))) (.r [.a 36 25 1,.n 25 36]))))))) (.seq (.r [.m 2 .T]) (.ret))))⟩
theorem qE1{g:Nat}(hc:qd P f (qit g)=true)(hg:∀(s:Sy) (j n:Nat),qfD s j n->n<=1000000->j<n->qf P g [.agg (cSy s),.i .i64 (j:Int),.i .i64 (n:Int)] (.b true))(l:List Sy)(hl:MayL l):qf P f [.fz l.length (rSy l)] (.b true):=by
 refine qf.mk hc (by simp[qw,clo,qP]) ?_;obtain⟨z,hz,hz6⟩:=hl.last;have p1:=hl.pos;have p2:=hl.big;have n1:¬(l.length:Int)<1:=by omega
 have n2:¬131072<(l.length:Int):=by omega
 have e1:IntKind.wrap .i64 ((l.length:Int)-1)=((l.length-1:Nat):Int):=by rw[qm (by omega) (by omega)];omega
 have hlt:l.length-1<l.length:=by omega
 have gz:=qhB hz (i:=0) (by omega);have gz':(rSy l)[(l.length-1)*4]?=some (.i .u16 6):=by rw[← hz6];exact gz
 simp only[qit,vI,simprocAttr];simp +decide only[↓vS,vT,simprocAttr,n1,n2,e1,hlt,gz'];refine SL.loopP (α:=Nat) (fun i=>[(0,.fz l.length (rSy l)),(23,.fz l.length (rSy l)),(24,.i .i64 (l.length:Int)),(25,.i .i64 (i:Int))]) (fun i h=>i<=l.length∧h.fl=0) (fun i=>l.length-i) ?_ 0 ?_ ?_
 ·rintro i ⟨s,fl,tr⟩ ⟨hi,rfl⟩ G ih;simp only[vI,simprocAttr]
  by_cases hi':i<l.length
  ·have hlt':(i:Int)<l.length:=by omega
   obtain⟨x,hx⟩:∃x,l[i]?=some x:=⟨_,zzE hi'⟩;have hel:=qep hx;have h4:i*4+4<=(rSy l).length:=by rw[qaj];omega
   have hw1:IntKind.wrap .i64 ((i:Int)+1)=((i+1:Nat):Int):=by rw[qm (by omega) (by omega)];simp
   have hp:=hg x i l.length (hl.all i x hx) (by omega) hi';simp only[cSy] at hp;simp +decide only[↓vS,vT,simprocAttr,hlt',hi',h4,hel,cSy];refine hp.sc ?_;simp +decide only[↓vS,vT,simprocAttr,hw1];exact ih (i+1) _ _ (by omega) (by simp[qe,qi,Tr.get_set]) ⟨by omega,rfl⟩
  ·obtain rfl:i=l.length:=by omega
   have hlt':¬((l.length:Int)<l.length):=by omega
   simp +decide only[↓vS,vT,simprocAttr,hlt'];simp[vZ]
 ·simp[qe,qi,Tr.get_set]
 ·exact⟨Nat.zero_le _,rfl⟩
def ze:IFn:=⟨[.tmp 2],.seq (.r [.m 2 .N]) (.seq (.seq (.r [.n 3 0,.q 4 (.eqN false .slice (.t 3))]) (.cond (.t 4) (.seq (.r [.m 2 .N]) (.ret)) (.skip))) (.seq (.r [.q 5 (.buildS 0 [.i .u16 0,.i .u32 0,.i .i64 0,.i .i64 0] []),.n 6 0,.q 7 (.app 4 24 true (.t 5) (.t 6)),.n 2 7]) (.ret)))⟩
theorem qBQ(hc:qd P f ze=true):qb8 P f 4 24:=by
 intro n rows hlen hcl hok hr1 hr2;refine Own.of_SC (by simp[qw,clo]) ?_;cases n with
 | zero =>
  obtain rfl:rows=[]:=by cases rows with|nil=>rfl|cons=>simp at hlen
  refine SC.nil0 (SC.mk hc (ql ?_)) (SC.mk hc (ql ?_))
  ·simp only[ze,vI,simprocAttr];simp only[↓vS,vT,simprocAttr];intro _;refine⟨[1],?_⟩;simp[vw]
  ·simp only[ze,vI,simprocAttr];simp only[↓vS,vT,simprocAttr,if_true];intro _;refine⟨[1],?_⟩;simp[vw]
 | succ n =>
  refine SC.mk hc (ql ?_);simp only[ze,vI,simprocAttr];have h1:1<=n+1:=by omega
  have h2:(n+1)*4<=rows.length:=by omega
  have h3:rows.take ((n+1)*4)=rows:=List.take_of_length_le (by omega);have h4:¬(n+1<=0):=by omega
  simp only[↓vS,vT,simprocAttr,h1,h2,h3,h4,hr1,hr2,hok,Nat.mul_one,Nat.zero_mul];intro _;refine⟨[1],?_⟩;simp[vw,qc,hcl]
def qbw(s:Sy):Prop:=qn s.code=4
def qcG(s:Sy):Prop:=qn s.code=4∧s.code≠5
instance (s:Sy):Decidable (qbw s):=by unfold qbw;infer_instance
instance (s:Sy):Decidable (qcG s):=by unfold qcG;infer_instance
def qiv(a:Nat):IFn:=⟨[.tmp 2],.seq (.r [.q 1 (.box (.t 0)),.m 2 .F]) (.seq (.r [.f 3 0 1,.d 4 3,.l 5 a [.t 4],.q 6 (.bin .eql (.t 5) (.c (.i .u8 4))),.n 7 6,.h 8 0 1 7 true,.j 9 8 7 true,.g 10 (.bin .neq (.t 9) (.c (.i .u16 5))) 7 true,.p 11 7 10,.n 2 11]) (.ret))⟩
def qfk(P:Program)(f:Nat):Prop:=∀s:Sy,qf P f [.agg (cSy s)] (.b (decide (qcG s)))
theorem qEt{g:Nat}(hc:qd P f (qiv g)=true)(hg:cOf P g):qfk P f:=by
 intro s;refine qf.mk hc rfl ?_;simp only[qiv,cSy,vI,simprocAttr];simp +decide only[↓vS,vT,simprocAttr];refine (hg s.code).sc ?_
 by_cases h1:qn s.code=4
 ·by_cases h2:s.code=5
  ·simp +decide only[↓vS,vT,simprocAttr,h1,h2];simp[vZ,qcG,h2]
  ·simp +decide only[↓vS,vT,simprocAttr,h1,h2];simp[vZ,qcG,h1,h2]
 ·simp +decide only[↓vS,vT,simprocAttr,h1];simp[vZ,qcG,h1]
def qa8(to:Nat->Nat)(s:Sy):Sy:=⟨s.code,s.k,if qbw s then to s.th else s.th,if qcG s then to s.el else s.el⟩
theorem qxn{α:Type}{A B:List α}{x y:α}:(A++x::B).set A.length y=A++y::B:=by
 rw[List.set_append];simp
def xU(a b c:Nat):IFn:=⟨[.tmp 4],.seq (.r [.m 4 .N]) (.seq (.r [.n 8 0,.l 9 a [.t 8],.n 5 9]) (.seq (.seq (.r [.n 10 5,.e 11 10,.m 12 (.k 0)]) (.blk 0 (.loop (.seq (.r [.s 13 12 11]) (.seq (.cond (.t 13) (.skip) (.exit 0)) (.seq (.blk 1 (.seq (.r [.n 14 12,.i 15 4 10 12,.v 16 4 15,.q 7 (.alloc [.i .u16 0,.i .u32 0,.i .i64 0,.i .i64 0]),.n 6 14,.u (.store 4 (.t 7) (.t 16))]) (.seq (.seq (.r [.f 17 0 7,.d 18 17,.l 19 b [.t 18],.q 20 (.bin .eql (.t 19) (.c (.i .u8 4)))]) (.cond (.t 20) (.r [.n 21 5,.n 22 6,.n 23 1,.f 24 2 7,.d 25 24,⟨(some 26),.callV (.t 23) [.t 25],none⟩,.i 27 4 21 22,.f 28 2 27,.u (.store 1 (.t 28) (.t 26))]) (.skip))) (.seq (.r [.v 29 4 7,.l 30 c [.t 29]]) (.cond (.t 30) (.r [.n 31 5,.n 32 6,.n 33 1,.f 34 3 7,.d 35 34,⟨(some 36),.callV (.t 33) [.t 35],none⟩,.i 37 4 31 32,.f 38 3 37,.u (.store 1 (.t 38) (.t 36))]) (.skip)))))) (.r [.a 39 12 1,.n 12 39]))))))) (.seq (.r [.n 40 5,.n 4 40]) (.ret))))⟩
theorem qjQ{g1 g2 g3 gt s fl:Nat}{tr:Tr Blk}{caps:List AV}{k:AV->Hp->Prop}(hc:qd P f (xU g1 g2 g3)=true)(h1:qb8 P g1 4 24)(h2:cOf P g2)(h3:qfk P g3)(l:List Sy)(hl:l.length<=200000)(hfl:fl<=s)(to:Nat->Nat)
  (hto:∀x ∈ l,∀j:Nat,(qbw x∧j=x.th)∨(qcG x∧j=x.el)->∀(s':Nat) (tr':Tr Blk) (k':AV->Hp->Prop),s<=s'->(∀b,b<s->tr'.get b=tr.get b)->k' (.i .i64 ((to j:Nat):Int)) ⟨s',fl,tr'⟩->SC P gt (.i .i64 (j:Int)::caps) ⟨s',fl,tr'⟩ k')
  (hk:∀s' tr' b,s<=s'->(∀c,c<s->tr'.get c=tr.get c)->s<=b->b<s'->tr'.get b=some (.cells 4 true true (rSy (l.map (qa8 to))))->k (.own b l.length) ⟨s',fl,tr'⟩):SC P f [.fz l.length (rSy l),.fn gt [] caps] ⟨s,fl,tr⟩ k:=by
 refine SC.mk hc (ql ?_);simp only[xU,vI,simprocAttr];simp +decide only[↓vS,vT,simprocAttr];refine (h1 l.length (rSy l) qaj qP que (by simp only[qh];omega) (by simp only[qh];omega)).sc ?_;simp only[vJ,simprocAttr];simp +decide only[↓vS,vT,simprocAttr,zK qP]
 refine SL.loopP (α:=Nat) (fun i=>[(1,.fn gt [] caps),(5,.own s l.length),(10,.own s l.length),(11,.i .i64 (l.length:Int)),(12,.i .i64 (i:Int))])
  (fun i h=>i<=l.length∧∃s' tr',h=⟨s',fl,tr'⟩∧s<s'∧(∀b,b<s->tr'.get b=tr.get b)∧tr'.get s=some (.cells 4 true true (rSy ((l.take i).map (qa8 to)++l.drop i)))) (fun i=>l.length-i) ?_ 0 ?_ ?_
 ·rintro i h1 ⟨hi,s',tr',rfl,hs,hold,hrow⟩ G ih;simp only[vI,simprocAttr]
  by_cases hlt:i<l.length
  ·have hlt':(i:Int)<l.length:=by omega
   obtain⟨x,hx⟩:∃x,l[i]?=some x:=⟨_,zzE hlt⟩;have hxm:=zzM hx;have hd:l.drop i=x::l.drop (i+1):=by rw[← (zzS.1 hx).2,List.getElem_cons_drop]
   have hAl:((l.take i).map (qa8 to)).length=i:=by simp;omega
   rw[hd] at hrow;obtain⟨A,hA⟩:∃A,A=(l.take i).map (qa8 to):=⟨_,rfl⟩;obtain⟨B,hB⟩:∃B,B=l.drop (i+1):=⟨_,rfl⟩;rw[← hA,← hB] at hrow;rw[← hA] at hAl;have hrl:(A++x::B).length=l.length:=by rw[List.length_append,hAl,hB];simp;omega
   have hget:(A++x::B)[i]?=some x:=by rw[← hAl];simp
   have hel:=qep hget;have h4:i*4+4<=(rSy (A++x::B)).length:=by rw[qaj,hrl];omega
   have hw1:IntKind.wrap .i64 ((i:Int)+1)=((i+1:Nat):Int):=by rw[qm (by omega) (by omega)];simp
   have n1:¬s=s':=by omega
   have n2:¬s'=s:=by omega
   have hf2:fl<=s':=by omega
   have hset:∀(y y':Sy) (j:Nat) (v:AV),j<4->cSy y'=(cSy y).take j++([v]++(cSy y).drop (j+1))->(rSy (A++y::B)).take (i*4+j)++v::(rSy (A++y::B)).drop (i*4+j+1)=rSy (A++y'::B):=fun y y' j v hj he=>by
    have:=qfq (f:=cSy) (v:=v) (xs:=A++y::B) (j:=i) qdw (by rw[← hAl];simp) hj he;rw[show (A++y::B).set i y'=A++y'::B by rw[← hAl];exact qxn] at this
    exact this
   have hlen:∀y,(rSy (A++y::B)).length=l.length*4:=fun y=>by rw[qaj];simp at hrl ⊢;omega
   have b3:∀y,i*4+2+1<=(rSy (A++y::B)).length:=fun y=>by rw[hlen];omega
   have b4:∀y,i*4+3+1<=(rSy (A++y::B)).length:=fun y=>by rw[hlen];omega
   have fin:∀(s2:Nat) (t2:Tr Blk),s<s2->(∀b,b<s->t2.get b=tr.get b)->t2.get s=some (.cells 4 true true (rSy (A++qa8 to x::B)))->∀tt,Has tt [(1,.fn gt [] caps),(5,.own s l.length),(10,.own s l.length),(11,.i .i64 (l.length:Int)),(12,.i .i64 ((i+1:Nat):Int))]->G tt ⟨s2,fl,t2⟩:=fun s2 t2 q1 q2 q3 tt htt=>by
    refine ih (i+1) _ _ (by omega) htt ⟨by omega,s2,t2,rfl,q1,q2,?_⟩
    rw[q3,jp hx,List.map_append,← hA,← hB];simp
   have ho:=fun b (hb:b<s)=>hold b hb
   have old:∀(y:Blk) b,b<s->((tr'.set s' (.cells 0 true false [.i .u16 0,.i .u32 0,.i .i64 0,.i .i64 0])).set s' y).get b=tr.get b:=fun y b hb=>by
    rw[Tr.get_set,if_neg (by omega),Tr.get_set,if_neg (by omega)];exact hold b hb
   simp +decide only[↓vS,vT,simprocAttr,hlt',hlt,hrow,h4,hel,cSy,n1,n2,hf2];refine (h2 x.code).sc ?_;have ha:=h3 x;simp only[cSy] at ha
   by_cases hj:qn x.code=4
   ·simp +decide only[↓vS,vT,simprocAttr,hj,n1,n2];refine hto x hxm x.th (.inl ⟨hj,rfl⟩) _ _ _ (by omega) (fun b hb=>old _ b hb) ?_
    have e1:=hset x ⟨x.code,x.k,to x.th,x.el⟩ 2 (.i .i64 ((to x.th:Nat):Int)) (by omega) rfl;have hs2:s<=s:=Nat.le_refl _;simp +decide only[↓vS,vT,simprocAttr,hrow,n1,n2,hlt,b3,hfl,e1];refine ha.sc ?_
    by_cases hk5:x.code=5
    ·have hna:¬qcG x:=fun h=>h.2 hk5
     simp +decide only[↓vS,vT,simprocAttr,hna,hw1];refine fin _ _ (by omega) (fun b hb=>?_) ?_ _ (by simp[qe,qi,Tr.get_set])
     ·rw[Tr.get_set,if_neg (by omega)];exact old _ b hb
     ·have e:qa8 to x=⟨x.code,x.k,to x.th,x.el⟩:=by unfold qa8;rw[if_pos (show qbw x from hj),if_neg hna]
      rw[Tr.get_set,if_pos rfl,e]
    ·have hya:qcG x:=⟨hj,hk5⟩;simp +decide only[↓vS,vT,simprocAttr,hya,n1,n2];refine hto x hxm x.el (.inr ⟨hya,rfl⟩) _ _ _ (by omega) (fun b hb=>by rw[Tr.get_set,if_neg (by omega)];exact old _ b hb) ?_
     have e2:=hset ⟨x.code,x.k,to x.th,x.el⟩ ⟨x.code,x.k,to x.th,to x.el⟩ 3 (.i .i64 ((to x.el:Nat):Int)) (by omega) rfl;simp +decide only[↓vS,vT,simprocAttr,hrow,n1,n2,hlt,b4,hfl,e2,hw1];refine fin _ _ (by omega) (fun b hb=>?_) ?_ _ (by simp[qe,qi,Tr.get_set])
     ·rw[Tr.get_set,if_neg (by omega),Tr.get_set,if_neg (by omega)];exact old _ b hb
     ·rw[Tr.get_set,if_pos rfl];simp[qa8,qbw,qcG,hj,hk5]
   ·have hna:¬qcG x:=fun h=>hj h.1
    simp +decide only[↓vS,vT,simprocAttr,hj,n1,n2];refine ha.sc ?_;simp +decide only[↓vS,vT,simprocAttr,hna,hw1];refine fin _ _ (by omega) (fun b hb=>old _ b hb) ?_ _ (by simp[qe,qi,Tr.get_set])
    rw[Tr.get_set,if_neg n1,Tr.get_set,if_neg n1,hrow];simp[qa8,qbw,qcG,hj]
  ·obtain rfl:i=l.length:=by omega
   have hlt':¬((l.length:Int)<l.length):=by omega
   simp +decide only[↓vS,vT,simprocAttr,hlt'];rw[List.take_length,List.drop_length,List.append_nil] at hrow;exact hk _ _ s (by omega) hold (Nat.le_refl _) hs hrow
 ·simp[qe,qi,Tr.get_set]
 ·refine⟨Nat.zero_le _,_,_,rfl,by omega,fun b hb=>?_,?_⟩
  ·rw[Tr.get_set,if_neg (by omega)]
  ·rw[Tr.get_set,if_pos rfl];simp[zK qP]
theorem qir{α:Type}{f:α->List AV}(h:∀x,jA (f x)=true):∀l:List α,jA (l.flatMap f)=true
 | []=>rfl
 | x::l=>by
  have app:∀(a b:List AV),jA a=true->jA b=true->jA (a++b)=true:=by
   intro a
   induction a with
   | nil=>intro b _ hb;exact hb
   | cons v a ih =>
    intro b ha hb;simp only[jA,Bool.and_eq_true,List.cons_append] at ha ⊢;exact⟨ha.1,ih b ha.2 hb⟩
  rw[List.flatMap_cons];exact app _ _ (h x) (qir h l)
theorem qrh{l:List Sy}:jA (rSy l)=true:=qir (fun _=>rfl) l
theorem qqX{g1 g2 g3 gt:Nat}{caps:List AV}(hc:qd P f (xU g1 g2 g3)=true)(h1:qb8 P g1 4 24)(h2:cOf P g2)(h3:qfk P g3)(l:List Sy)(hl:l.length<=200000)(to:Nat->Nat)
  (hto:∀x ∈ l,∀j:Nat,(qbw x∧j=x.th)∨(qcG x∧j=x.el)->qf P gt (.i .i64 (j:Int)::caps) (.i .i64 ((to j:Nat):Int))) :
  qev P f [.fz l.length (rSy l),.fn gt [] caps] (.own 0 l.length) [.cells 4 true true (rSy (l.map (qa8 to)))]:=by
 refine qev.of_SC rfl (by simp[qmR,qrh]) ?_;refine qjQ hc h1 h2 h3 l hl (Nat.le_refl 0) to (fun x hx j hj s' tr' k' _ _ hk=>(hto x hx j hj).sc hk) fun s' tr' b _ _ _ hb hg=>?_
 intro _;refine⟨[b],?_⟩;simp[vw,hg,hb,qc,qP]
def qoz:List (Int×Nat)->Int->Nat->List (Int×Nat)
 | [],x,v=>[(x,v)]
 | (a,u)::L,x,v=>if x=a then (x,v)::L else (a,u)::qoz L x v
def qgw:List (Int×Nat)->Int->Option Nat
 | [],_=>none
 | (a,u)::L,x=>if x=a then some u else qgw L x
def mkE(L:List (Int×Nat)):List (AV×AV):=L.map fun p=>(.i .u32 p.1,.i .i64 (p.2:Int))
theorem qo9{L:List (Int×Nat)}{p:Prop}:qdR (mkE L) p↔p:=by cases L<;>exact Iff.rfl
theorem qyq{x:Int}{v:Nat}:∀{L:List (Int×Nat)} {k:List (AV×AV)->Prop},qfQ qx (.i .u32 x) (.i .i64 (v:Int)) (mkE L) k↔k (mkE (qoz L x v))
 | [],k=>qpS
 | (a,u)::L,k=>by
  refine qyr.trans ?_;unfold qoz
  by_cases h:x=a
  ·rw[if_pos h,if_pos h];exact Iff.rfl
  ·rw[if_neg h,if_neg h];exact qyq
theorem qsL{x:Int}:∀{L:List (Int×Nat)} {k:Option AV->Prop},qcu qx (.i .u32 x) (mkE L) k↔k ((qgw L x).map fun v=>.i .i64 (v:Int))
 | [],k=>qmP
 | (a,u)::L,k=>by
  refine qsM.trans ?_;unfold qgw
  by_cases h:x=a
  ·rw[if_pos h,if_pos h];exact Iff.rfl
  ·rw[if_neg h,if_neg h];exact qsL
theorem quR{z:AV}{o:Option Nat}{v:Nat}{k:AV->Prop}(h:o=some v):qgd false z (o.map fun v=>.i .i64 (v:Int)) k↔k (.i .i64 (v:Int)):=by subst h;exact qms
def qhs(l:List Sy):List (Int×Nat):=(l.zipIdx).foldl (fun L p=>if p.1.code=6 then qoz L p.1.k p.2 else L) []
theorem qjI{l:List Sy}{x:Sy}:qhs (l++[x])=if x.code=6 then qoz (qhs l) x.k l.length else qhs l:=by
 simp[qhs,List.zipIdx_append]
theorem qnj{L:List (Int×Nat)}{x y:Int}{v:Nat}:qgw (qoz L x v) y=if y=x then some v else qgw L y:=by
 induction L with
 | nil=>rfl
 | cons p L ih =>
  obtain⟨a,u⟩:=p;unfold qoz
  by_cases h:x=a
  ·rw[if_pos h];subst h;unfold qgw
   by_cases h2:y=x
   ·rw[if_pos h2,if_pos h2]
   ·simp only[if_neg h2]
  ·rw[if_neg h];unfold qgw;rw[ih]
   by_cases h2:y=a
   ·subst h2;rw[if_pos rfl,if_neg (Ne.symm h),if_pos rfl]
   ·rw[if_neg h2,if_neg h2]
theorem qhZ{l:List Sy}{j:Nat}{x:Sy}(h:l[j]?=some x)(h6:x.code=6):∃i y,qgw (qhs l) x.k=some i∧j<=i∧l[i]?=some y∧y.code=6∧y.k=x.k:=by
 have main:∀(n:Nat) (l:List Sy),l.length=n->∀{j:Nat} {x:Sy},l[j]?=some x->x.code=6->∃i y,qgw (qhs l) x.k=some i∧j<=i∧l[i]?=some y∧y.code=6∧y.k=x.k:=by
  intro n
  induction n with
  | zero=>intro l hl j x h;rw[List.eq_nil_of_length_eq_zero hl] at h;simp at h
  | succ n ih =>
   intro l hl j x h h6;have e:l=l.dropLast++[l.getLast (by intro h;rw[h] at hl;simp at hl)]:=(List.dropLast_concat_getLast _).symm;generalize l.getLast _=z at e;generalize l.dropLast=l0 at e;subst e;have hl0:l0.length=n:=by simp at hl;exact hl
   rw[qjI];rcases Nat.lt_or_ge j l0.length with hj|hj
   ·rw[List.getElem?_append_left hj] at h;obtain⟨i,y,q1,q2,q3,q4,q5⟩:=ih l0 hl0 h h6;have hi:=(zzS.1 q3).1
    by_cases hz:z.code=6
    ·rw[if_pos hz,qnj]
     by_cases hk:x.k=z.k
     ·exact⟨l0.length,z,by rw[if_pos hk],by omega,by simp,hz,hk.symm⟩
     ·exact⟨i,y,by rw[if_neg hk];exact q1,q2,by rw[List.getElem?_append_left hi];exact q3,q4,q5⟩
    ·rw[if_neg hz];exact⟨i,y,q1,q2,by rw[List.getElem?_append_left hi];exact q3,q4,q5⟩
   ·have hj2:j=l0.length:=by have:=(zzS.1 h).1;simp at this;omega
    subst hj2;simp at h;subst h;rw[if_pos h6,qnj,if_pos rfl];exact⟨l0.length,z,rfl,Nat.le_refl _,by simp,h6,rfl⟩
 exact main _ l rfl h h6
def qdr(l:List Sy)(j:Nat):Nat:=match l[j]? with|some x=>if x.code=6 then (qgw (qhs l) x.k).getD 0 else j|none=>j
def qeq(l:List Sy):List Sy:=l.map (qa8 (qdr l))
def qkB(l:List Sy):Prop:=∀x ∈ l,∀j:Nat,(qbw x∧j=x.th)∨(qcG x∧j=x.el)->j<l.length
def qcL:IFn:=⟨[.tmp 4],.seq (.r [.m 4 (.k 0)]) (.seq (.seq (.r [.d 5 1,.n 6 0,.i 7 4 5 6,.f 8 0 7,.d 9 8,.q 10 (.bin .eql (.t 9) (.c (.i .u16 6)))]) (.cond (.t 10) (.reg true [.d 11 2,.d 12 1,.n 13 0,.i 14 4 12 13,.f 15 1 14,.d 16 15,.q 17 (.lookM (some .u32) false (.i .i64 0) (.t 11) (.t 16)),.n 0 17]) (.skip))) (.seq (.r [.n 18 0,.n 4 18]) (.ret)))⟩
def qdO(a b:Nat):IFn:=⟨[.tmp 2],.seq (.r [.q 1 (.box (.t 0)),.m 2 .N]) (.seq (.r [.q 6 (.mkM),.q 3 (.alloc [.nilm]),.u (.store 1 (.t 3) (.t 6))]) (.seq (.seq (.r [.d 7 1,.e 8 7,.m 9 (.k 0)]) (.blk 0 (.loop (.seq (.r [.s 10 9 8]) (.seq (.cond (.t 10) (.skip) (.exit 0)) (.seq (.blk 1 (.seq (.r [.n 11 9,.i 12 4 7 9,.v 13 4 12,.q 5 (.alloc [.i .u16 0,.i .u32 0,.i .i64 0,.i .i64 0]),.n 4 11,.u (.store 4 (.t 5) (.t 13))]) (.seq (.r [.f 14 0 5,.d 15 14,.q 16 (.bin .eql (.t 15) (.c (.i .u16 6)))]) (.cond (.t 16) (.r [.d 17 3,.f 18 1 5,.d 19 18,.n 20 4,.u (.updM (some .u32) (.t 17) (.t 19) (.t 20))]) (.skip))))) (.r [.a 21 9 1,.n 9 21]))))))) (.seq (.r [.d 22 1,.q 23 (.mkF a [] [.t 1,.t 3]),.l 24 b [.t 22,.t 23],.n 2 24]) (.ret))))⟩
theorem qnD{g1 g2 h1 h2 h3:Nat}(hc:qd P f (qdO g1 g2)=true)(hc1:qd P g1 qcL=true)(hc2:qd P g2 (xU h1 h2 h3)=true)(c1:qb8 P h1 4 24)(c2:cOf P h2)(c3:qfk P h3)(l:List Sy)(hl:l.length<=200000)(hin:qkB l) :
  qf P f [.fz l.length (rSy l)] (.fz (qeq l).length (rSy (qeq l))):=by
 refine qf.mk hc (by simp[qw,clo,qP]) ?_;simp only[qdO,vI,simprocAttr];simp +decide only[↓vS,vT,simprocAttr]
 refine SL.loopP (α:=Nat) (fun i=>[(1,.ptr 0 0),(3,.ptr 2 0),(7,.fz l.length (rSy l)),(8,.i .i64 (l.length:Int)),(9,.i .i64 (i:Int))])
  (fun i h=>i<=l.length∧∃s tr,h=⟨s,0,tr⟩∧3<=s∧tr.get 0=some (.cells 0 true false [.fz l.length (rSy l)])∧tr.get 1=some (.map (mkE (qhs (l.take i))))∧tr.get 2=some (.cells 0 true false [.map 1])) (fun i=>l.length-i) ?_ 0 ?_ ?_
 ·rintro i h1 ⟨hi,s,tr,rfl,hs,t0,t1,t2⟩ G ih;simp only[vI,simprocAttr]
  by_cases hlt:i<l.length
  ·have hlt':(i:Int)<l.length:=by omega
   obtain⟨x,hx⟩:∃x,l[i]?=some x:=⟨_,zzE hlt⟩;have hel:=qep hx;have h4:i*4+4<=(rSy l).length:=by rw[qaj];omega
   have hw1:IntKind.wrap .i64 ((i:Int)+1)=((i+1:Nat):Int):=by rw[qm (by omega) (by omega)];simp
   have n0:¬0=s:=by omega
   have n1:¬1=s:=by omega
   have n2:¬2=s:=by omega
   have hsn:=qjI (l:=l.take i) (x:=x);rw[← jp hx,List.length_take,Nat.min_eq_left hi] at hsn
   by_cases h6:x.code=6
   ·rw[if_pos h6] at hsn;simp +decide only[↓vS,vT,simprocAttr,hlt',hlt,h4,hel,cSy,h6,n0,n1,n2,t2,t1,qo9,qyq,hw1];refine ih (i+1) _ _ (by omega) (by simp[qe,qi,Tr.get_set]) ⟨by omega,s+1,_,rfl,by omega,?_,?_,?_⟩
    ·simp only[Tr.get_set];rw[if_neg (by omega),if_neg n0,if_neg n0];exact t0
    ·rw[Tr.get_set,if_pos rfl,hsn]
    ·simp only[Tr.get_set];rw[if_neg (by omega),if_neg n2,if_neg n2];exact t2
   ·rw[if_neg h6] at hsn;simp +decide only[↓vS,vT,simprocAttr,hlt',hlt,h4,hel,cSy,h6,hw1];refine ih (i+1) _ _ (by omega) (by simp[qe,qi,Tr.get_set]) ⟨by omega,s+1,_,rfl,by omega,?_,?_,?_⟩
    ·simp only[Tr.get_set];rw[if_neg n0,if_neg n0];exact t0
    ·simp only[Tr.get_set];rw[if_neg n1,if_neg n1,hsn];exact t1
    ·simp only[Tr.get_set];rw[if_neg n2,if_neg n2];exact t2
  ·obtain rfl:i=l.length:=by omega
   have hlt':¬((l.length:Int)<l.length):=by omega
   rw[List.take_length] at t1;simp +decide only[↓vS,vT,simprocAttr,hlt',t0];refine qjQ hc2 c1 c2 c3 l hl (Nat.zero_le _) (qdr l) (fun x hx j hj s' tr' k' hs' hold hk'=>?_) fun s' tr' b hs' hold hb1 hb2 hg=>?_
   ·have hjl:=hin x hx j hj;obtain⟨y,hy⟩:∃y,l[j]?=some y:=⟨_,zzE hjl⟩;have g0:=(hold 0 (by omega)).trans t0;have g1:=(hold 1 (by omega)).trans t1;have g2:=(hold 2 (by omega)).trans t2;have gc:=qhB hy (i:=0) (by omega);have gc':(rSy l)[j*4]?=some (.i .u16 y.code):=gc;have gk:=qhB hy (i:=1) (by omega);have gk':(rSy l)[j*4+1]?=some (.i .u32 y.k):=gk;refine SC.mk hc1 (ql ?_);simp only[qcL,vI,simprocAttr]
    by_cases h6:y.code=6
    ·obtain⟨i,z,q1,q2,q3,q4,q5⟩:=qhZ hy h6;have e:qdr l j=i:=by unfold qdr;rw[hy];simp[h6,q1]
     rw[e] at hk';simp +decide only[↓vS,vT,simprocAttr,g0,gc',hjl,h6];refine zg ?_;simp +decide only[↓vS,vT,simprocAttr,g0,g1,g2,gk',hjl,qo9,qsL,quR q1];exact hk'
    ·have e:qdr l j=j:=by unfold qdr;rw[hy];simp[h6]
     rw[e] at hk';simp +decide only[↓vS,vT,simprocAttr,g0,gc',hjl,h6];exact hk'
   ·simp +decide only[↓vS,vT,simprocAttr];have e:(qeq l).length=l.length:=by simp[qeq]
    simp[vZ,vP,hg,e,qQ qP];refine⟨fun h=>?_,?_⟩
    ·rw[h];rfl
    ·exact Frzs.self qP
 ·simp[qe,qi,Tr.get_set]
 ·refine⟨Nat.zero_le _,_,_,rfl,by omega,?_,?_,?_⟩<;>simp[Tr.get_set,mkE,qhs]
def xB(a:Nat):IFn:=⟨[.tmp 2],.seq (.r [.q 1 (.box (.t 0)),.m 2 (.c (.nilf))]) (.seq (.r [.q 3 (.mkF a [] [.t 1]),.n 2 3]) (.ret))⟩
theorem qCQ{g:Nat}(hc:qd P f (xB g)=true)(l:List Sy):qf P f [.fz l.length (rSy l)] (.fn g [] [.pf [.fz l.length (rSy l)] 0]):=by
 refine qf.mk hc (by simp[qw,clo,qP]) ?_;simp only[xB,vI,simprocAttr];simp +decide only[↓vS,vT,simprocAttr];simp[vZ,vP,Tr.get_set,qQ qP]
def qA:IFn:=⟨[],.seq (.r [.d 4 1,.e 5 4,.w 6 .sub 5 1,.n 3 6]) (.blk 0 (.loop (.seq (.seq (.r [.n 7 3,.w 8 .geq 7 0]) (.cond (.t 8) (.skip) (.exit 0))) (.seq (.blk 1 (.seq (.r [.n 11 0,.n 12 3,.d 13 1,.n 14 3,.i 15 4 13 14,.v 16 4 15,⟨(some 17),.callV (.t 11) [.t 12,.t 16],none⟩,.q 18 (.un .not (.t 17))]) (.cond (.t 18) (.ret) (.skip)))) (.r [.n 9 3,.w 10 .sub 9 1,.n 3 10])))))⟩
theorem zX{α:Type}{c:α->List AV}{l:List α}{lb:Nat}(hc:qd P f qA=true)(hm:∀x,(c x).length=4)(hn:l.length<=1000000)(J:Nat->Hp->Prop)
  (hy:∀(i:Nat) x h,l[i]?=some x->J (i+1) h->∀k:AV->Hp->Prop,(∀h',J i h'->k (.b true) h')->SY P lb [.i .i64 (i:Int),.agg (c x)] h k)
  {s:Nat} {tr:Tr Blk} {k:AV->Hp->Prop} (h0:J l.length ⟨s,0,tr⟩) (hk:∀h,J 0 h->k (.tup []) h):SC P f [.yl lb,.pf [.fz l.length (l.flatMap c)] 0] ⟨s,0,tr⟩ k:=by
 refine SC.mk hc (ql ?_);simp only[qA,vI,simprocAttr];have e1:IntKind.wrap .i64 ((l.length:Int)-1)=(l.length:Int)-1:=qm (by omega) (by omega);simp +decide only[↓vS,vT,simprocAttr,e1];refine SL.loopP (α:=Nat) (fun i=>[(0,.yl lb),(1,.pf [.fz l.length (l.flatMap c)] 0),(3,.i .i64 ((i:Int)-1))]) (fun i h=>i<=l.length∧J i h) (fun i=>i) ?_ l.length ?_ ?_
 ·rintro i h1 ⟨hi,hj⟩ G ih;obtain⟨s',fl',tr'⟩:=h1;simp only[vI,simprocAttr];cases i with
  | zero =>
   have n0:¬(0:Int)<=((0:Nat):Int)-1:=by omega
   simp +decide only[↓vS,vT,simprocAttr,n0];exact hk _ hj
  | succ i =>
   have n0:(0:Int)<=((i+1:Nat):Int)-1:=by omega
   have e2:((i+1:Nat):Int)-1=(i:Int):=by omega
   obtain⟨x,hx⟩:∃x,l[i]?=some x:=⟨_,zzE (by omega)⟩;have hel:=zL (f:=c) (m:=4) hm hx;have hlt:i<l.length:=by omega
   have h4:i*4+4<=(l.flatMap c).length:=by rw[zt hm];omega
   have n1:(0:Int)<=(i:Int):=by omega
   have e3:IntKind.wrap .i64 ((i:Int)-1)=(i:Int)-1:=qm (by omega) (by omega);rw[e2];simp +decide only[↓vS,vT,simprocAttr,n1,hlt,h4,hel];refine hy i x _ hx hj _ fun h' hj'=>?_
   simp +decide only[↓vS,vT,simprocAttr,e3];exact ih i _ _ (by omega) (by simp[qe,qi,Tr.get_set]) ⟨by omega,hj'⟩
 ·simp[qe,qi,Tr.get_set]
 ·exact⟨Nat.le_refl _,h0⟩
def qF:IFn:=⟨[],.seq (.r [.d 4 1,.e 5 4,.w 6 .sub 5 1,.n 3 6]) (.blk 0 (.loop (.seq (.seq (.r [.n 7 3,.w 8 .geq 7 0]) (.cond (.t 8) (.skip) (.exit 0))) (.seq (.blk 1 (.seq (.r [.n 11 0,.n 12 3,.d 13 1,.n 14 3,.i 15 4 13 14,.v 16 4 15,⟨(some 17),.callV (.t 11) [.t 12,.t 16],none⟩,.q 18 (.un .not (.t 17))]) (.cond (.t 18) (.ret) (.skip)))) (.r [.n 9 3,.w 10 .sub 9 1,.n 3 10])))))⟩
theorem qaa{α:Type}{c:α->List AV}{l:List α}{lb:Nat}(hc:qd P f qF=true)(hm:∀x,(c x).length=4)(hn:l.length<=1000000)(J:Nat->Hp->Prop)
  (hy:∀(i:Nat) x h,l[i]?=some x->J (i+1) h->∀k:AV->Hp->Prop,(∀h',J i h'->k (.b true) h')->SY P lb [.i .i64 (i:Int),.agg (c x)] h k)
  {s:Nat} {tr:Tr Blk} {k:AV->Hp->Prop} (h0:J l.length ⟨s,0,tr⟩) (hk:∀h,J 0 h->k (.tup []) h):SC P f [.yl lb,.pf [.fz l.length (l.flatMap c)] 0] ⟨s,0,tr⟩ k:=by
 refine SC.mk hc (ql ?_);simp only[qF,vI,simprocAttr];have e1:IntKind.wrap .i64 ((l.length:Int)-1)=(l.length:Int)-1:=qm (by omega) (by omega);simp +decide only[↓vS,vT,simprocAttr,e1];refine SL.loopP (α:=Nat) (fun i=>[(0,.yl lb),(1,.pf [.fz l.length (l.flatMap c)] 0),(3,.i .i64 ((i:Int)-1))]) (fun i h=>i<=l.length∧J i h) (fun i=>i) ?_ l.length ?_ ?_
 ·rintro i h1 ⟨hi,hj⟩ G ih;obtain⟨s',fl',tr'⟩:=h1;simp only[vI,simprocAttr];cases i with
  | zero =>
   have n0:¬(0:Int)<=((0:Nat):Int)-1:=by omega
   simp +decide only[↓vS,vT,simprocAttr,n0];exact hk _ hj
  | succ i =>
   have n0:(0:Int)<=((i+1:Nat):Int)-1:=by omega
   have e2:((i+1:Nat):Int)-1=(i:Int):=by omega
   obtain⟨x,hx⟩:∃x,l[i]?=some x:=⟨_,zzE (by omega)⟩;have hel:=zL (f:=c) (m:=4) hm hx;have hlt:i<l.length:=by omega
   have h4:i*4+4<=(l.flatMap c).length:=by rw[zt hm];omega
   have n1:(0:Int)<=(i:Int):=by omega
   have e3:IntKind.wrap .i64 ((i:Int)-1)=(i:Int)-1:=qm (by omega) (by omega);rw[e2];simp +decide only[↓vS,vT,simprocAttr,n1,hlt,h4,hel];refine hy i x _ hx hj _ fun h' hj'=>?_
   simp +decide only[↓vS,vT,simprocAttr,e3];exact ih i _ _ (by omega) (by simp[qe,qi,Tr.get_set]) ⟨by omega,hj'⟩
 ·simp[qe,qi,Tr.get_set]
 ·exact⟨Nat.le_refl _,h0⟩
theorem qkP{α:Type}{f:α->List AV}{m:Nat}(h:∀x,(f x).length=m){xs:List α}{j:Nat}(x':α)(hj:j<xs.length):(xs.flatMap f).take (j*m)++(f x'++(xs.flatMap f).drop (j*m+m))=(xs.set j x').flatMap f:=by
 have e:xs=xs.take j++xs[j]::xs.drop (j+1):=by rw[List.getElem_cons_drop,List.take_append_drop]
 have e1:(xs.flatMap f).take (j*m)=(xs.take j).flatMap f:=qfX h xs j;have e2:(xs.flatMap f).drop (j*m+m)=(xs.drop (j+1)).flatMap f:=by rw[← qef h xs (j+1),Nat.add_mul];simp
 rw[e1,e2,List.set_eq_take_append_cons_drop,if_pos hj];simp
theorem qny{l:List Sy}{j:Nat}(y:Sy)(hj:j<l.length):(rSy l).take (j*4)++(cSy y++(rSy l).drop (j*4+4))=rSy (l.set j y):=qkP qdw y hj
def xL(out:List Sy)(j:Nat):Nat:=match out[j]? with|some x=>if x.code=5 then x.th else j|none=>j
def qbd(out:List Sy)(x:Sy):Sy:=if qcG (qa8 (xL out) x)∧(qa8 (xL out) x).th=(qa8 (xL out) x).el then ⟨5,0,(qa8 (xL out) x).th,0⟩ else qa8 (xL out) x
def qer(l:List Sy):Nat->List Sy
 | 0=>l
 | m+1=>match l[l.length-(m+1)]? with|some x=>(qer l m).set (l.length-(m+1)) (qbd (qer l m) x)|none=>qer l m
theorem qes{l:List Sy}:∀{m:Nat},(qer l m).length=l.length
 | 0=>rfl
 | m+1=>by
  unfold qer;split
  ·rw[List.length_set,qes]
  ·exact qes
def qmf(l:List Sy):List Sy:=qer l l.length
def qah:IFn:=⟨[.tmp 3],.seq (.r [.m 3 (.k 0)]) (.seq (.seq (.r [.d 4 1,.n 5 0,.i 6 4 4 5,.f 7 0 6,.d 8 7,.q 9 (.bin .eql (.t 8) (.c (.i .u16 5)))]) (.cond (.t 9) (.r [.d 10 1,.n 11 0,.i 12 4 10 11,.f 13 2 12,.d 14 13,.n 0 14]) (.skip))) (.seq (.r [.n 15 0,.n 3 15]) (.ret)))⟩
theorem qmi(hc:qd P f qah=true)(out:List Sy)(j:Nat)(hj:j<out.length):qf P f [.i .i64 (j:Int),.pf [.fz out.length (rSy out)] 0] (.i .i64 ((xL out j:Nat):Int)):=by
 refine qf.mk hc (by simp[qw,clo,qP]) ?_;obtain⟨y,hy⟩:∃y,out[j]?=some y:=⟨_,zzE hj⟩;have gc:(rSy out)[j*4]?=some (.i .u16 y.code):=qhB hy (i:=0) (by omega);have gt:(rSy out)[j*4+2]?=some (.i .i64 (y.th:Int)):=qhB hy (i:=2) (by omega);simp only[qah,vI,simprocAttr]
 by_cases h5:y.code=5
 ·have e:xL out j=y.th:=by unfold xL;rw[hy];simp[h5]
  simp +decide only[↓vS,vT,simprocAttr,gc,gt,hj,h5];simp[vZ,e]
 ·have e:xL out j=j:=by unfold xL;rw[hy];simp[h5]
  simp +decide only[↓vS,vT,simprocAttr,gc,gt,hj,h5];simp[vZ,e]
def qa7(a b c d e:Nat):ICode:=.seq (.r [.d 42 3,.n 2 42]) (.ret)
def qcM(a b c d e:Nat):IFn:=⟨[.tmp 2],.seq (.r [.m 2 .N]) (.seq (.r [.n 7 0,.l 8 a [.t 7],.q 3 (.alloc [.nils]),.u (.store 1 (.t 3) (.t 8))]) (.seq (.r [.q 9 (.mkF b [] [.t 3]),.q 4 (.alloc [.nilf]),.u (.store 1 (.t 4) (.t 9))]) (.seq (.seq (.r [.n 10 0,.l 11 c [.t 10]]) (.blk 0 (.rangeF 0 (.t 11) [12,13] (.seq (.r [.n 5 12]) (.r [.q 6 (.alloc [.i .u16 0,.i .u32 0,.i .i64 0,.i .i64 0]),.u (.store 4 (.t 6) (.t 13))])) (.blk 1 (.seq (.reg true [.d 14 3,.n 15 5,.v 16 4 6,.q 17 (.buildS 1 [.i .u16 0,.i .u32 0,.i .i64 0,.i .i64 0] [(0,4,(.t 16))]),.d 18 4,.l 19 d [.t 17,.t 18],.q 20 (.iAddrS 4 (.t 19) (.k 0)),.v 21 4 20,.i 22 4 14 15,.u (.store 4 (.t 22) (.t 21))]) (.seq (.r [.d 23 3,.n 24 5,.i 25 4 23 24,.v 26 4 25,.u (.store 4 (.t 6) (.t 26))]) (.seq (.r [.v 27 4 6,.l 28 e [.t 27],.n 29 28,.h 30 2 6 29 true,.j 31 30 29 true,.h 32 3 6 29 true,.j 33 32 29 true,.g 34 (.bin .eql (.t 31) (.t 33)) 29 true,.p 35 29 34]) (.cond (.t 35) (.r [.d 36 3,.n 37 5,.f 38 2 6,.d 39 38,.q 40 (.build [.i .u16 0,.i .u32 0,.i .i64 0,.i .i64 0] [(0,1,(.c (.i .u16 5))),(2,1,(.t 39))]),.i 41 4 36 37,.u (.store 4 (.t 41) (.t 40))]) (.skip))))))))) (.cut (qa7 a b c d e)))))⟩
def thT(gB:Nat)(l:List Sy):List (Nat×AV):=[(3,.ptr 1 0),(4,.ptr 2 0),(11,.fn gB [] [.pf [.fz l.length (rSy l)] 0])]
def thA:ICode:=.seq (.reg false [⟨some 5,.op (.mov (.t 12)),none⟩]) (.reg false [⟨some 6,.op (.alloc [.i .u16 0,.i .u32 0,.i .i64 0,.i .i64 0]),none⟩,⟨none,.op (.store 4 (.t 6) (.t 13)),none⟩])
def thB(gM gA:Nat):ICode:=.blk 1 (.seq (.reg true [.d 14 3,.n 15 5,.v 16 4 6,.q 17 (.buildS 1 [.i .u16 0,.i .u32 0,.i .i64 0,.i .i64 0] [(0,4,(.t 16))]),.d 18 4,.l 19 gM [.t 17,.t 18],.q 20 (.iAddrS 4 (.t 19) (.k 0)),.v 21 4 20,.i 22 4 14 15,.u (.store 4 (.t 22) (.t 21))]) (.seq (.r [.d 23 3,.n 24 5,.i 25 4 23 24,.v 26 4 25,.u (.store 4 (.t 6) (.t 26))]) (.seq (.r [.v 27 4 6,.l 28 gA [.t 27],.n 29 28,.h 30 2 6 29 true,.j 31 30 29 true,.h 32 3 6 29 true,.j 33 32 29 true,.g 34 (.bin .eql (.t 31) (.t 33)) 29 true,.p 35 29 34]) (.cond (.t 35) (.r [.d 36 3,.n 37 5,.f 38 2 6,.d 39 38,.q 40 (.build [.i .u16 0,.i .u32 0,.i .i64 0,.i .i64 0] [(0,1,(.c (.i .u16 5))),(2,1,(.t 39))]),.i 41 4 36 37,.u (.store 4 (.t 41) (.t 40))]) (.skip)))))
def thI(g1:Nat)(r0:Loop)(ts:List (Nat×AV))(n:Nat)(out:List Sy)(s:Nat)(tr:Tr Blk):Prop :=
 out.length=n∧4<=s∧tr.get 0=some (.cells 4 true true (rSy out))∧tr.get 1=some (.cells 0 true false [.own 0 n])∧tr.get 2=some (.cells 0 true false [.fn g1 [] [.ptr 1 0]])∧tr.get 3=some (.map (zz r0 ts))
theorem quy{g1 gB gM gA s n:Nat}{r0:Loop}{l out:List Sy}{tr:Tr Blk}{k:AV->Hp->Prop}
  (hM:∀(x:Sy) (out:List Sy),out.length=n->(∀j:Nat,(qbw x∧j=x.th)∨(qcG x∧j=x.el)->j<n)->qev P gM [.fz 1 (cSy x),.fn g1 [] [.pf [.fz out.length (rSy out)] 0]] (.own 0 1) [.cells 4 true true (cSy (qa8 (xL out) x))])
  (hA:qfk P gA) (hr0:r0.state = .ready) (hp0:r0.pending=none) (hlo:LoopOk P r0 [12,13] thA (thB gM gA)) (hI:thI g1 r0 (thT gB l) n out s tr) (i:Nat) (hi:i<n) (x:Sy) (hx:∀j:Nat,(qbw x∧j=x.th)∨(qcG x∧j=x.el)->j<n)
  (hk:∀s' tr',thI g1 r0 (thT gB l) n (out.set i (qbd out x)) s' tr'->k (.b true) ⟨s',0,tr'⟩):SY P 3 [.i .i64 (i:Int),.agg (cSy x)] ⟨s,0,tr⟩ k:=by
 obtain⟨hn,h4,h0,h1,h2,h3⟩:=hI;refine SY.mk (r:=r0) (ts:=thT gB l) (ps:=[12,13]) h3 hr0 hlo (Nat.zero_le _) (by show 3<s;omega) rfl ?_;rw[show mkT (thT gB l)=((Tr.leaf.set 11 (.fn gB [] [.pf [.fz l.length (rSy l)] 0])).set 4 (.ptr 2 0)).set 3 (.ptr 1 0) from rfl]
 refine ql ?_;simp only[qlS,thA,cSy,vI,simprocAttr];simp +decide only[↓vS,vT,simprocAttr];have n3:¬3=s:=by omega
 have n0:¬0=s:=by omega
 have n1:¬1=s:=by omega
 have n2:¬2=s:=by omega
 have m0:¬0=s+1:=by omega
 have m1:¬1=s+1:=by omega
 have m2:¬2=s+1:=by omega
 have m3:¬3=s+1:=by omega
 have q1:¬s=s+1:=by omega
 have q2:¬s=s+1+1:=by omega
 have q3:¬0=s+1+1:=by omega
 have q4:¬1=s+1+1:=by omega
 have q5:¬2=s+1+1:=by omega
 have q6:¬3=s+1+1:=by omega
 have ns3:¬s=3:=by omega
 have ns0:¬s=0:=by omega
 refine⟨thT gB l,by simp[Tr.get_set,n3,h3],?_⟩
 refine ql ?_;simp only[xT,thB,vI,simprocAttr];simp +decide only[↓vS,vT,simprocAttr];refine zg ?_;have e1:¬(0:Nat)=3:=by decide
 have e2:¬(1:Nat)=3:=by decide
 have e3:¬(2:Nat)=3:=by decide
 simp +decide only[↓vS,vT,simprocAttr,h1,h2,e1,e2,e3,n0,n1,n2,ns3,m0,m1,m2,q1]
 have fr0:∀(f2:Nat) (t2:Tr Blk),t2.get (s+1)=some (.cells 0 true false (cSy x))->t2.get 1=some (.cells 0 true false [.own 0 n])->t2.get 0=some (.cells 4 true true (rSy out))->
   Frzs ⟨s+1+1,f2,t2⟩ [.sl (s+1) 0 1 1 false,.fn g1 [] [.ptr 1 0]] [.fz 1 (cSy x),.fn g1 [] [.pf [.fz out.length (rSy out)] 0]]:=fun f2 t2 p1 p2 p3=>by
  refine qaN.2 ⟨Frz.cut 4 rfl (Nat.le_refl _) ?_,qaN.2 ⟨qsV.2 ⟨rfl,qeF.2 trivial,qaN.2 ⟨qsT.2 ⟨rfl,?_⟩,qeF.2 trivial⟩⟩,qeF.2 trivial⟩⟩
  ·rw[p1];simp[vP,cSy,vZ]
  ·rw[p2];simp[vP,vZ,p3,hn];refine⟨fun h=>?_,Frzs.self qP⟩
   rw[List.eq_nil_of_length_eq_zero (hn.trans h)];rfl
 refine (hM x out hn hx).pc (fr0 _ _ ?_ ?_ ?_) ?_
 ·rw[Tr.get_set,if_pos rfl];rfl
 ·rw[Tr.get_set,if_neg m1,Tr.get_set,if_neg (by decide),Tr.get_set,if_neg n1,Tr.get_set,if_neg n1];exact h1
 ·rw[Tr.get_set,if_neg m0,Tr.get_set,if_neg (by decide),Tr.get_set,if_neg n0,Tr.get_set,if_neg n0];exact h0
 simp only[vJ,simprocAttr];obtain⟨y,hy⟩:∃y,y=qa8 (xL out) x:=⟨_,rfl⟩;have hset:=qny (l:=out) (j:=i) y (by omega);have h44:i*4+4<=(rSy out).length:=by rw[qaj];omega
 have hget:(out.set i y)[i]?=some y:=List.getElem?_set_self (by omega);have hel:=qep hget;have h45:i*4+4<=(rSy (out.set i y)).length:=by rw[qaj,List.length_set];omega
 have hset2:=qny (l:=out.set i y) (j:=i) ⟨5,0,y.th,0⟩ (by rw[List.length_set];omega);rw[List.set_set] at hset2;have hin:(i:Nat)<n:=hi;rw[← hy];simp +decide only[↓vS,vT,simprocAttr,zK qP,h0,e1,e2,e3,n0,n1,n2,ns3,m0,m1,m2,q1,q2,q3,q4,q5,cSy,hin];simp only[cSy,List.cons_append,List.nil_append] at hset hset2 hel;have ha:=hA y;simp only[cSy] at ha;have hi0:i<n:=hi;simp +decide only[↓vS,vT,simprocAttr,h44,hset,h1,e1,e2,e3,n0,n1,n2,ns3,ns0,m0,m1,m2,q1,q2,q3,q4,q5,hi0,h45,hel];refine ha.sc ?_
 have fin:∀(s2:Nat) (t2:Tr Blk) (z:Sy),4<=s2->qbd out x=z->t2.get 0=some (.cells 4 true true (rSy (out.set i z)))->t2.get 1=tr.get 1->t2.get 2=tr.get 2->t2.get 3=some (.map (zz (Go.Kc.bsy r0) (thT gB l)))->∀tt,qzr 3 k .normal tt ⟨s2,0,t2⟩:=by
  intro s2 t2 z p1 p2 p3 p4 p5 p6 tt;refine⟨Go.Kc.bsy r0,thT gB l,p6,?_⟩;rw[qja,qlZ hr0 hp0];simp only[xT];simp +decide only[↓vS,vT,simprocAttr];refine hk _ _ ⟨by rw[List.length_set];exact hn,p1,?_,?_,?_,?_⟩
  ·rw[Tr.get_set,if_neg (by decide),p2];exact p3
  ·rw[Tr.get_set,if_neg (by decide),p4];exact h1
  ·rw[Tr.get_set,if_neg (by decide),p5];exact h2
  ·rw[Tr.get_set,if_pos rfl]
 have old:∀(b:Nat) (u1 u2 u3 u4 u5 u6:Blk),b<s->b≠0->b≠3->(((((((tr.set s u1).set s u2).set 3 u3).set (s+1) u4).set (s+1+1) u5).set 0 u6).set s u1).get b=tr.get b:=fun b u1 u2 u3 u4 u5 u6 p1 p2 p3=>by
  simp only[Tr.get_set];repeat rw[if_neg (by omega)]
 have s0:¬0=s:=n0
 by_cases h4':qcG y
 ·by_cases h5:y.th=y.el
  ·have h5':(y.th:Int)=y.el:=by omega
   have he:qbd out x=⟨5,0,y.th,0⟩:=by unfold qbd;rw[← hy,if_pos ⟨h4',h5⟩]
   have h46:i*4+4<=(rSy (out.set i y)).length:=h45;simp +decide only[↓vS,vT,simprocAttr,h4',eq_true h5',h44,hset,h1,e1,e2,e3,n0,n1,n2,ns3,ns0,m0,m1,m2,q1,q2,q3,q4,q5,hi0,h45,hel,hset2];refine fin _ _ _ (by omega) he ?_ ?_ ?_ ?_ _
   ·rw[Tr.get_set,if_pos rfl,← hset2];rfl
   ·simp only[Tr.get_set];repeat rw[if_neg (by omega)]
   ·simp only[Tr.get_set];repeat rw[if_neg (by omega)]
   ·simp only[Tr.get_set];rw[if_neg (by omega),if_neg (by omega),if_neg (by omega),if_neg (by omega),if_neg (by omega)];simp
  ·have h5':¬(y.th:Int)=y.el:=by omega
   have he:qbd out x=y:=by unfold qbd;rw[← hy,if_neg fun h=>h5 h.2]
   simp +decide only[↓vS,vT,simprocAttr,h4',h5',h44,hset,h1,e1,e2,e3,n0,n1,n2,ns3,ns0,m0,m1,m2,q1,q2,q3,q4,q5,hi0,h45,hel];refine fin _ _ _ (by omega) he ?_ ?_ ?_ ?_ _
   ·rw[Tr.get_set,if_neg n0,Tr.get_set,if_pos rfl]
   ·simp only[Tr.get_set];repeat rw[if_neg (by omega)]
   ·simp only[Tr.get_set];repeat rw[if_neg (by omega)]
   ·simp only[Tr.get_set];rw[if_neg (by omega),if_neg (by omega),if_neg (by omega),if_neg (by omega)];simp
 ·have he:qbd out x=y:=by unfold qbd;rw[← hy,if_neg fun h=>h4' h.1]
  simp +decide only[↓vS,vT,simprocAttr,h4',h44,hset,h1,e1,e2,e3,n0,n1,n2,ns3,ns0,m0,m1,m2,q1,q2,q3,q4,q5,hi0,h45,hel];refine fin _ _ _ (by omega) he ?_ ?_ ?_ ?_ _
  ·rw[Tr.get_set,if_neg n0,Tr.get_set,if_pos rfl]
  ·simp only[Tr.get_set];repeat rw[if_neg (by omega)]
  ·simp only[Tr.get_set];repeat rw[if_neg (by omega)]
  ·simp only[Tr.get_set];rw[if_neg (by omega),if_neg (by omega),if_neg (by omega),if_neg (by omega)];simp
theorem qnN{n0 g1 g2 g3 g4 g5 s n:Nat}{tr:Tr Blk}{t:Tr AV}{out:List Sy}(ht:t.get 3=some (.ptr 1 0))(h1:tr.get 1=some (.cells 0 true false [.own 0 n]))(h0:tr.get 0=some (.cells 4 true true (rSy out)))(hn:out.length=n) :
  S P n0 (qa7 g1 g2 g3 g4 g5) (qb9 [.tmp 2] fun v' h'=>Frz h' v' (.fz n (rSy out))) t ⟨s,0,tr⟩:=by
 refine S.has [(3,.ptr 1 0)] (by simp[qe,qi,ht]) (ql ?_);simp only[qa7,vI,simprocAttr];simp only[↓vS,vT,simprocAttr,h1];simp[vZ,vP,Tr.get_set,h0];refine⟨fun h=>?_,Frzs.self qP⟩
 rw[List.eq_nil_of_length_eq_zero (hn.trans h)];rfl
theorem qkA{gC g1 gB gM gA gi h1 h2 h3:Nat}(hc:qd P f (qcM gC g1 gB gM gA)=true)(c0:qb8 P gC 4 24)(hc1:qd P g1 qah=true)(hB:∀l:List Sy,qf P gB [.fz l.length (rSy l)] (.fn gi [] [.pf [.fz l.length (rSy l)] 0]))
  (hi:qd P gi qA=true) (hM:qd P gM (xU h1 h2 h3)=true) (c1:qb8 P h1 4 24) (c2:cOf P h2) (c3:qfk P h3) (hA:qfk P gA) (l:List Sy) (hl:l.length<=200000) (hin:qkB l) :
  qf P f [.fz l.length (rSy l)] (.fz (qmf l).length (rSy (qmf l))):=by
 have hMo:∀(x:Sy) (out:List Sy),out.length=l.length->(∀j:Nat,(qbw x∧j=x.th)∨(qcG x∧j=x.el)->j<l.length)->qev P gM [.fz 1 (cSy x),.fn g1 [] [.pf [.fz out.length (rSy out)] 0]] (.own 0 1) [.cells 4 true true (cSy (qa8 (xL out) x))]:=by
  intro x out ho hx
  have:=qqX (gt:=g1) (caps:=[.pf [.fz out.length (rSy out)] 0]) hM c1 c2 c3 [x] (by simp) (xL out) fun y hy j hj=>by
   rw[List.mem_singleton] at hy;subst hy;exact qmi hc1 out j (by rw[ho];exact hx j hj)
  simpa[rSy] using this
 refine qf.mk hc (by simp[qw,clo,qP]) ?_;simp only[qcM,vI,simprocAttr];simp +decide only[↓vS,vT,simprocAttr];refine (c0 l.length (rSy l) qaj qP que (by simp only[qh];omega) (by simp only[qh];omega)).sc ?_;simp only[vJ,simprocAttr];simp +decide only[↓vS,vT,simprocAttr,zK qP];refine (hB l).sc ?_;simp +decide only[↓vS,vT,simprocAttr];refine S.rangeFL (ts:=thT gi l) (Nat.zero_le _) (by intro p hp;simp only[thT,List.mem_cons,List.not_mem_nil,or_false] at hp;rcases hp with rfl|rfl|rfl<;>simp[Tr.get_set]) ⟨rfl,rfl⟩ ?_;refine qmN.2 ⟨.fn gi [] [.pf [.fz l.length (rSy l)] 0],by simp[Tr.get_set],?_⟩
 refine⟨qg9 hi,fun r0 hr0 hp0 hlo=>⟨r0,.inl ⟨rfl,hlo.real⟩,?_⟩⟩
 have hlo:LoopOk P r0 [12,13] thA (thB gM gA):=hlo;refine zX (c:=cSy) hi qdw (by omega) (fun i h=>∃s tr,h=⟨s,0,tr⟩∧thI g1 r0 (thT gi l) l.length (qer l (l.length-i)) s tr∧i<=l.length) ?_ ?_ ?_
 ·rintro i x h hx ⟨s,tr,rfl,hI,hil⟩ k hk;have hi':i<l.length:=(zzS.1 hx).1;refine quy hMo hA hr0 hp0 hlo hI i hi' x (hin x (zzM hx)) fun s' tr' hI'=>hk _ ⟨s',tr',rfl,?_,by omega⟩
  have e:l.length-i=(l.length-(i+1))+1:=by omega
  have e2:l.length-(l.length-(i+1)+1)=i:=by omega
  have e3:qer l (l.length-i)=(qer l (l.length-(i+1))).set i (qbd (qer l (l.length-(i+1))) x):=by
   rw[e,qer,e2,hx]
  rw[e3];exact hI'
 ·refine⟨_,_,rfl,⟨qes,by simp,?_,?_,?_,?_⟩,Nat.le_refl _⟩<;>simp[Tr.get_set,qm6,Hp.push,qer,zK qP]
 ·rintro h ⟨s,tr,rfl,⟨hn,h4,q0,q1,q2,q3⟩,_⟩;rw[Nat.sub_zero] at q0;refine⟨r0,thT gi l,q3,by rw[hr0];decide,?_⟩
  rw[hp0];simp only[xT];simp only[↓vS,vT,simprocAttr];have e:(qmf l).length=l.length:=qes;rw[e];refine qnN (by simp[Tr.get_set]) ?_ ?_ qes
  ·rw[Tr.get_set,if_neg (by decide)];exact q1
  ·rw[Tr.get_set,if_neg (by decide)];exact q0
def rBo(l:List Bool):List AV:=l.map .b
theorem qi6{l:List Bool}:(rBo l).length=l.length:=by simp[rBo]
theorem qlT{l:List Bool}{j:Nat}:(rBo l)[j]?=(l[j]?).map .b:=by simp[rBo]
theorem qt8{l:List Bool}:qw (rBo l)=true:=qdd fun _=>rfl
theorem qi7{l:List Bool}{j:Nat}(hj:j<l.length):(rBo l).take j ++ .b true::(rBo l).drop (j+1)=rBo (l.set j true):=by
 rw[List.set_eq_take_append_cons_drop,if_pos hj];simp[rBo,List.map_take,List.map_drop]
def qd2(A:List Bool)(j:Nat)(x:Sy):List Bool :=
 if A[j]?≠some true∨x.code=6 then A else if qn x.code≠4 then A.set (j+1) true else if qcG x then (A.set x.th true).set x.el true else A.set x.th true
def jN(l:List Sy):Nat->List Bool
 | 0=>(List.replicate l.length false).set 0 true
 | m+1=>match l[m]? with|some x=>qd2 (jN l m) m x|none=>jN l m
theorem qrH{A:List Bool}{j:Nat}{x:Sy}:(qd2 A j x).length=A.length:=by
 unfold qd2;split
 ·rfl
 ·split
  ·simp
  ·split<;>simp
theorem qbx{l:List Sy}:∀{m:Nat},(jN l m).length=l.length
 | 0=>by simp[jN]
 | m+1=>by
  unfold jN;split
  ·rw[qrH,qbx]
  ·exact qbx
def zr(l:List Sy):List Bool:=jN l l.length
def qxO(l:List Sy):Prop:=∀(j:Nat) x,l[j]?=some x->x.code≠6->qn x.code≠4->j+1<l.length
def qeK(a b:Nat):IFn:=⟨[.tmp 2],.seq (.r [.m 2 .N]) (.seq (.r [.n 6 0,.e 7 6,.q 8 (.mkS 1 1 [.b false] (.t 7) (.t 7)),.n 3 8]) (.seq (.r [.n 9 3,.q 10 (.iAddrS 1 (.t 9) (.k 0)),.u (.store 1 (.t 10) .T)]) (.seq (.seq (.r [.n 11 0,.e 12 11,.m 13 (.k 0)]) (.blk 0 (.loop (.seq (.r [.s 14 13 12]) (.seq (.cond (.t 14) (.skip) (.exit 0)) (.seq (.blk 1 (.seq (.r [.n 15 13,.i 16 4 11 13,.v 17 4 16,.q 5 (.alloc [.i .u16 0,.i .u32 0,.i .i64 0,.i .i64 0]),.n 4 15,.u (.store 4 (.t 5) (.t 17))]) (.blk 2 (.seq (.r [.n 29 3,.n 30 4,.i 31 1 29 30,.d 32 31,.q 33 (.un .not (.t 32)),.n 34 33,.h 35 0 5 34 false,.j 36 35 34 false,.g 37 (.bin .eql (.t 36) (.c (.i .u16 6))) 34 false,.o 38 34 37,.n 28 38]) (.cond (.t 28) (.skip) (.seq (.r [.f 40 0 5,.d 41 40,.l 42 a [.t 41],.q 43 (.bin .neq (.t 42) (.c (.i .u8 4))),.n 39 43]) (.cond (.t 39) (.r [.n 44 3,.n 45 4,.a 46 45 1,.i 47 1 44 46,.u (.store 1 (.t 47) .T)]) (.seq (.r [.n 18 3,.f 19 2 5,.d 20 19,.i 21 1 18 20,.u (.store 1 (.t 21) .T)]) (.seq (.r [.v 22 4 5,.l 23 b [.t 22]]) (.cond (.t 23) (.r [.n 24 3,.f 25 3 5,.d 26 25,.i 27 1 24 26,.u (.store 1 (.t 27) .T)]) (.skip))))))))))) (.r [.a 48 13 1,.n 13 48]))))))) (.seq (.r [.n 49 3,.n 2 49]) (.ret)))))⟩
theorem qnT{g1 g2:Nat}(hc:qd P f (qeK g1 g2)=true)(h1:cOf P g1)(h2:qfk P g2)(l:List Sy)(hl:l.length<=200000)(h0:0<l.length)(hin:qkB l)(hon:qxO l):qf P f [.fz l.length (rSy l)] (.fz l.length (rBo (zr l))):=by
 refine qf.mk hc (by simp[qw,clo,qP]) ?_;have r1:l.length<=qh:=by simp only[qh];omega
 have r2:1*l.length<=qh:=by simp only[qh];omega
 have hz:(List.replicate l.length [AV.b false]).flatten=rBo (List.replicate l.length false):=by simp[rBo]
 have hz0:=qi7 (l:=List.replicate l.length false) (j:=0) (by simp;omega);have hzl:0+1<=(rBo (List.replicate l.length false)).length:=by rw[qi6];simp;omega
 rw[List.take_zero,List.nil_append] at hz0;simp only[qeK,vI,simprocAttr];simp +decide only[↓vS,vT,simprocAttr,r1,r2,hz,h0,Nat.one_mul,Nat.zero_mul,hzl,hz0]
 refine SL.loopP (α:=Nat) (fun i=>[(3,.sl 0 0 l.length l.length false),(11,.fz l.length (rSy l)),(12,.i .i64 (l.length:Int)),(13,.i .i64 (i:Int))])
  (fun i h=>i<=l.length∧∃s tr,h=⟨s,0,tr⟩∧1<=s∧tr.get 0=some (.cells 0 true false (rBo (jN l i)))) (fun i=>l.length-i) ?_ 0 ?_ ?_
 ·rintro i h1' ⟨hi,s,tr,rfl,hs,t0⟩ G ih;simp only[vI,simprocAttr]
  by_cases hlt:i<l.length
  ·have hlt':(i:Int)<l.length:=by omega
   obtain⟨x,hx⟩:∃x,l[i]?=some x:=⟨_,zzE hlt⟩;have hel:=qep hx;have h4:i*4+4<=(rSy l).length:=by rw[qaj];omega
   have hw1:IntKind.wrap .i64 ((i:Int)+1)=((i+1:Nat):Int):=by rw[qm (by omega) (by omega)];simp
   have n0:¬0=s:=by omega
   have n0s:¬s=0:=by omega
   have hAl:(jN l i).length=l.length:=qbx;obtain⟨b,hb⟩:∃b,(jN l i)[i]?=some b:=⟨_,zzE (by omega)⟩;have hgb:(rBo (jN l i))[i]?=some (.b b):=by rw[qlT,hb];rfl
   have hst:jN l (i+1)=qd2 (jN l i) i x:=by rw[jN,hx]
   have fin:∀(t2:Tr Blk) tt,t2.get 0=some (.cells 0 true false (rBo (jN l (i+1))))->Has tt [(3,.sl 0 0 l.length l.length false),(11,.fz l.length (rSy l)),(12,.i .i64 (l.length:Int)),(13,.i .i64 ((i+1:Nat):Int))]->G tt ⟨s+1,0,t2⟩:=fun t2 tt q1 q2 =>
    ih (i+1) _ _ (by omega) q2 ⟨by omega,s+1,t2,rfl,by omega,q1⟩
   have ha:=h2 x;simp only[cSy] at ha;have sl:∀(A:List Bool) (j:Nat),A.length=l.length->j<l.length->j+1<=(rBo A).length:=fun A j h1 h2=>by rw[qi6];omega
   cases b with
   | false =>
    have e:qd2 (jN l i) i x=jN l i:=by unfold qd2;rw[hb];simp
    rw[hst,e] at fin;simp +decide only[↓vS,vT,simprocAttr,hlt',hlt,h4,hel,cSy,n0,t0,hgb,Nat.mul_one,hw1];exact fin _ _ (by simp[Tr.get_set,n0,t0]) (by simp[qe,qi,Tr.get_set])
   | true =>
    by_cases h6:x.code=6
    ·have e:qd2 (jN l i) i x=jN l i:=by unfold qd2;simp[h6]
     rw[hst,e] at fin;simp +decide only[↓vS,vT,simprocAttr,hlt',hlt,h4,hel,cSy,n0,t0,hgb,Nat.mul_one,hw1,eq_true h6];exact fin _ _ (by simp[Tr.get_set,n0,t0]) (by simp[qe,qi,Tr.get_set])
    ·simp +decide only[↓vS,vT,simprocAttr,hlt',hlt,h4,hel,cSy,n0,t0,hgb,Nat.mul_one,hw1,h6];refine (h1 x.code).sc ?_
     by_cases hj:qn x.code=4
     ·have hth:=hin x (zzM hx) x.th (.inl ⟨hj,rfl⟩);have b1:=qi7 (l:=jN l i) (j:=x.th) (by omega);have b2:=sl (jN l i) x.th hAl hth;simp +decide only[↓vS,vT,simprocAttr,hj,n0,n0s,t0,hth,b1,b2,Nat.mul_one];refine ha.sc ?_
      by_cases hk:qcG x
      ·have hel2:=hin x (zzM hx) x.el (.inr ⟨hk,rfl⟩);have b3:=qi7 (l:=(jN l i).set x.th true) (j:=x.el) (by rw[List.length_set];omega);have b4:=sl ((jN l i).set x.th true) x.el (by rw[List.length_set];omega) hel2;have e:qd2 (jN l i) i x=((jN l i).set x.th true).set x.el true:=by unfold qd2;simp[hb,h6,hj,hk]
       rw[hst,e] at fin;simp +decide only[↓vS,vT,simprocAttr,hk,n0,n0s,hel2,b3,b4,Nat.mul_one,hw1];exact fin _ _ (by rw[Tr.get_set,if_pos rfl]) (by simp[qe,qi,Tr.get_set])
      ·have e:qd2 (jN l i) i x=(jN l i).set x.th true:=by unfold qd2;simp[hb,h6,hj,hk]
       rw[hst,e] at fin;simp +decide only[↓vS,vT,simprocAttr,hk,hw1];exact fin _ _ (by rw[Tr.get_set,if_pos rfl]) (by simp[qe,qi,Tr.get_set])
     ·have hnx:=hon i x hx h6 hj;have b1:=qi7 (l:=jN l i) (j:=i+1) (by omega);have b2:=sl (jN l i) (i+1) hAl hnx;have e:qd2 (jN l i) i x=(jN l i).set (i+1) true:=by unfold qd2;simp[hb,h6,hj]
      rw[hst,e] at fin;simp +decide only[↓vS,vT,simprocAttr,hj,n0,t0,hnx,b1,b2,Nat.mul_one,hw1];exact fin _ _ (by rw[Tr.get_set,if_pos rfl]) (by simp[qe,qi,Tr.get_set])
  ·obtain rfl:i=l.length:=by omega
   have hlt':¬((l.length:Int)<l.length):=by omega
   simp +decide only[↓vS,vT,simprocAttr,hlt'];have hAl:(jN l l.length).length=l.length:=qbx;show Frz _ _ _;refine Frz.cut 1 rfl (Nat.le_refl _) ?_;rw[t0];simp[vP,qi6,hAl];rw[List.take_of_length_le (by rw[qi6,hAl];omega)];exact Frzs.self qt8
 ·simp[qe,qi,Tr.get_set]
 ·refine⟨Nat.zero_le _,_,_,rfl,by omega,?_⟩
  simp[Tr.get_set,jN]
def zN(A:List Bool)(j:Nat):Nat:=(A.take j).countP (· = true)
def rPl(A:List Bool)(n:Nat):List AV:=(List.range n).map fun j=>.i .i64 (zN A j:Int)
theorem qlX{A:List Bool}{n:Nat}:(rPl A n).length=n:=by simp[rPl]
theorem qpA{A:List Bool}{n j:Nat}(h:j<n):(rPl A n)[j]?=some (.i .i64 (zN A j:Int)):=by simp[rPl,h]
theorem qeb{A:List Bool}{j:Nat}{b:Bool}(h:A[j]?=some b):zN A (j+1)=zN A j+if b=true then 1 else 0:=by
 unfold zN;rw[jp h,List.countP_append];cases b<;>simp
theorem qlA{A:List Bool}{j:Nat}:zN A j<=j:=by
 unfold zN;exact Nat.le_trans List.countP_le_length (by rw[List.length_take];omega)
def qcD{α:Type}:List Bool->List α->List α
 | b::A,x::l=>if b=true then x::qcD A l else qcD A l
 | _,_=>[]
theorem qlf{α:Type}:∀{A:List Bool} {l:List α} {j:Nat} {b:Bool} {x:α},A[j]?=some b->l[j]?=some x->qcD (A.take (j+1)) (l.take (j+1))=qcD (A.take j) (l.take j)++if b=true then [x] else []
 | [],_,_,_,_,h,_=>by simp at h
 | _::_,[],_,_,_,_,h=>by simp at h
 | c::A,y::l,0,b,x,h1,h2=>by
  simp at h1 h2;subst h1 h2;cases c<;>simp[qcD]
 | c::A,y::l,j+1,b,x,h1,h2=>by
  have:=qlf (A:=A) (l:=l) (j:=j) (b:=b) (x:=x) (by simpa using h1) (by simpa using h2);rw[List.take_succ_cons,List.take_succ_cons,List.take_succ_cons,List.take_succ_cons];simp only[qcD,this];cases c<;>simp
theorem qnB{α:Type}:∀{A:List Bool} {l:List α},A.length=l.length->(qcD A l).length=A.countP (· = true)
 | [],[],_=>rfl
 | b::A,x::l,h=>by
  have:=qnB (A:=A) (l:=l) (by simpa using h);cases b<;>simp[qcD,this]
 | [],_::_,h=>by simp at h
 | _::_,[],h=>by simp at h
def qfC(l:List Sy):List Sy:=qcD (zr l) (l.map (qa8 (zN (zr l))))
def qam(n b:Nat):AV:=if n=0 then .nils else .own b n
def qaW:IFn:=⟨[.tmp 3],.seq (.r [.m 3 (.k 0)]) (.seq (.r [.d 4 1,.n 5 0,.i 6 1 4 5,.d 7 6,.n 3 7]) (.ret))⟩
def qcc(a b c:Nat):ICode:=.seq (.r [.m 7 .N]) (.seq (.seq (.r [.n 31 0,.q 32 (.mkF b [] [.t 4]),.l 33 c [.t 31,.t 32],.e 34 33,.m 35 (.k 0)]) (.blk 2 (.loop (.seq (.r [.s 36 35 34]) (.seq (.cond (.t 36) (.skip) (.exit 2)) (.seq (.blk 3 (.seq (.r [.n 37 35,.i 38 4 33 35,.v 39 4 38,.q 9 (.alloc [.i .u16 0,.i .u32 0,.i .i64 0,.i .i64 0]),.n 8 37,.u (.store 4 (.t 9) (.t 39))]) (.seq (.r [.n 40 3,.n 41 8,.i 42 1 40 41,.d 43 42]) (.cond (.t 43) (.r [.n 44 7,.v 45 4 9,.q 46 (.buildS 1 [.i .u16 0,.i .u32 0,.i .i64 0,.i .i64 0] [(0,4,(.t 45))]),.q 47 (.app 4 24 true (.t 44) (.t 46)),.n 7 47]) (.skip))))) (.r [.a 48 35 1,.n 35 48]))))))) (.seq (.r [.n 49 7,.n 2 49]) (.ret)))
def qdM(a b c:Nat):IFn:=⟨[.tmp 2],.seq (.r [.m 2 .N]) (.seq (.r [.n 10 0,.l 11 a [.t 10],.n 3 11]) (.seq (.r [.n 12 0,.e 13 12,.q 14 (.mkS 1 8 [.i .i64 0] (.t 13) (.t 13)),.q 4 (.alloc [.nils]),.u (.store 1 (.t 4) (.t 14))]) (.seq (.r [.m 5 (.k 0)]) (.seq (.seq (.r [.n 15 0,.e 16 15,.m 17 (.k 0)]) (.blk 0 (.loop (.seq (.r [.s 18 17 16]) (.seq (.cond (.t 18) (.skip) (.exit 0)) (.seq (.blk 1 (.seq (.r [.n 19 17,.n 6 19]) (.seq (.r [.d 20 4,.n 21 6,.n 22 5,.i 23 1 20 21,.u (.store 1 (.t 23) (.t 22))]) (.seq (.r [.n 24 3,.n 25 6,.i 26 1 24 25,.d 27 26]) (.cond (.t 27) (.r [.n 28 5,.a 29 28 1,.n 5 29]) (.skip)))))) (.r [.a 30 17 1,.n 17 30]))))))) (.cut (qcc a b c))))))⟩
theorem qqT{n0 g1 g2 g3 h1 h2 h3 s:Nat}{tr:Tr Blk}{t:Tr AV}(hc1:qd P g2 qaW=true)(hc3:qd P g3 (xU h1 h2 h3)=true)(c1:qb8 P h1 4 24)(c2:cOf P h2)(c3:qfk P h3)(l:List Sy)(hl:l.length<=200000)(hin:qkB l)
  (hs:2<=s) (t0:tr.get 0=some (.cells 0 true false (rPl (zr l) l.length))) (t1:tr.get 1=some (.cells 0 true false [.sl 0 0 l.length l.length false]))
  (ht:Has t [(0,.fz l.length (rSy l)),(3,.fz l.length (rBo (zr l))),(4,.ptr 1 0)]) :
  S P n0 (qcc g1 g2 g3) (qb9 [.tmp 2] fun v' h'=>Frz h' v' (.fz (qfC l).length (rSy (qfC l)))) t ⟨s,0,tr⟩:=by
 have hAl:(zr l).length=l.length:=qbx;refine S.has _ ht (ql ?_);simp only[qcc,vI,simprocAttr];simp +decide only[↓vS,vT,simprocAttr];refine qjQ hc3 c1 c2 c3 l hl (Nat.zero_le _) (zN (zr l)) (fun x hx j hj s' tr' k' hs' hold hk'=>?_) fun s' tr' bm hs' hold hb1 hb2 hg=>?_
 ·have hjl:=hin x hx j hj;have g0:=(hold 0 (by omega)).trans t0;have g1:=(hold 1 (by omega)).trans t1;have gp:=qpA (A:=zr l) hjl;refine SC.mk hc1 (ql ?_);simp only[qaW,vI,simprocAttr];simp +decide only[↓vS,vT,simprocAttr,g0,g1,gp,hjl,Nat.mul_one];exact hk'
 obtain⟨M,hM⟩:∃M,M=l.map (qa8 (zN (zr l))):=⟨_,rfl⟩;have hMl:M.length=l.length:=by rw[hM];simp
 have hliv:qfC l=qcD (zr l) M:=by rw[hM];rfl
 rw[← hM] at hg;simp +decide only[↓vS,vT,simprocAttr]
 refine SL.loopP (α:=Nat×Nat) (fun i=>[(3,.fz l.length (rBo (zr l))),(7,qam (zN (zr l) i.1) i.2),(33,.own bm l.length),(34,.i .i64 (l.length:Int)),(35,.i .i64 (i.1:Int))])
  (fun i h=>i.1<=l.length∧∃s2 t2,h=⟨s2,0,t2⟩∧bm<s2∧t2.get bm=some (.cells 4 true true (rSy M))∧(zN (zr l) i.1≠0->t2.get i.2=some (.cells 4 true true (rSy (qcD ((zr l).take i.1) (M.take i.1))))∧i.2<s2∧i.2≠bm)) (fun i=>l.length-i.1) ?_ (0,0) ?_ ?_
 ·rintro⟨i,bo⟩ h1 ⟨hi,s2,t2,rfl,hb,gm,go⟩ G ih;simp only at hi go;simp only[vI,simprocAttr];have hsel:(qcD ((zr l).take i) (M.take i)).length=zN (zr l) i:=qnB (by simp;omega)
  by_cases hlt:i<l.length
  ·have hlt':(i:Int)<l.length:=by omega
   obtain⟨x,hx⟩:∃x,M[i]?=some x:=⟨_,zzE (by omega)⟩;obtain⟨b,hbb⟩:∃b,(zr l)[i]?=some b:=⟨_,zzE (by omega)⟩;have hgb:(rBo (zr l))[i]?=some (.b b):=by rw[qlT,hbb];rfl
   have hel:=qep hx;have h4:i*4+4<=(rSy M).length:=by rw[qaj];omega
   have hw1:IntKind.wrap .i64 ((i:Int)+1)=((i+1:Nat):Int):=by rw[qm (by omega) (by omega)];simp
   have hsn:=qlf hbb hx;have hcn:=qeb hbb;have n1:¬bm=s2:=by omega
   have n2:¬s2=s2+1:=by omega
   have n3:¬s2+1=s2:=by omega
   have n4:¬bm=s2+1:=by omega
   have n5:¬bm=s2+1+1:=by omega
   have hci:=qlA (A:=zr l) (j:=i);cases b with
   | false =>
    simp at hcn hsn;simp +decide only[↓vS,vT,simprocAttr,hlt',hlt,h4,hel,cSy,gm,hgb,n1,Nat.mul_one,hw1];refine ih (i+1,bo) _ _ (by simp only;omega) ?_ ⟨by simp only;omega,s2+1,_,rfl,by omega,?_,fun h0=>?_⟩
    ·simp only[hcn];simp[qe,qi,Tr.get_set]
    ·simp only[Tr.get_set];rw[if_neg n1,if_neg n1];exact gm
    ·simp only at h0;rw[hcn] at h0;obtain⟨q1,q2,q3⟩:=go h0;refine⟨?_,by simp only;omega,q3⟩
     simp only[Tr.get_set];rw[if_neg (by omega),if_neg (by omega),hsn];exact q1
   | true =>
    simp at hcn hsn
    by_cases hz:zN (zr l) i=0
    ·have hV:qam (zN (zr l) i) bo = .nils:=by simp[qam,hz]
     have hnil:qcD ((zr l).take i) (M.take i)=[]:=List.eq_nil_of_length_eq_zero (by omega);rw[hV];simp +decide only[↓vS,vT,simprocAttr,hlt',hlt,h4,hel,cSy,gm,hgb,n1,n2,n3,Nat.mul_one,hw1];refine ih (i+1,s2+1+1) _ _ (by simp only;omega) ?_ ⟨by simp only;omega,s2+1+1+1,_,rfl,by omega,?_,fun h0=>⟨?_,by simp only;omega,by simp only;omega⟩⟩
     ·have e:qam (zN (zr l) (i+1)) (s2+1+1) = .own (s2+1+1) 1:=by rw[hcn,hz];rfl
      simp only[e];simp[qe,qi,Tr.get_set]
     ·simp only[Tr.get_set];rw[if_neg n5,if_neg n4,if_neg n1,if_neg n1];exact gm
     ·simp only[Tr.get_set];rw[hsn,hnil];simp[rSy,cSy]
    ·obtain⟨q1,q2,q3⟩:=go hz;have hV:qam (zN (zr l) i) bo = .own bo (zN (zr l) i):=by simp[qam,hz]
     rw[hV];have n6:¬bo=s2:=by omega
     have n7:¬bo=s2+1:=by omega
     have n8:¬s2+1=bo:=by omega
     have hr1:zN (zr l) i+1<=qh:=by simp only[qh];omega
     have hr2:(zN (zr l) i+1)*24<=qh:=by simp only[qh];omega
     have hql:(rSy (qcD ((zr l).take i) (M.take i))).length=zN (zr l) i*4:=by rw[qaj,hsel]
     simp +decide only[↓vS,vT,simprocAttr,hlt',hlt,h4,hel,cSy,gm,hgb,n1,n2,n3,n6,n7,n8,q1,hr1,hr2,hql,Nat.mul_one,hw1];refine ih (i+1,s2+1+1) _ _ (by simp only;omega) ?_ ⟨by simp only;omega,s2+1+1+1,_,rfl,by omega,?_,fun h0=>⟨?_,by simp only;omega,by simp only;omega⟩⟩
     ·have e:qam (zN (zr l) (i+1)) (s2+1+1) = .own (s2+1+1) (zN (zr l) i+1):=by rw[hcn];simp[qam]
      simp only[e];simp[qe,qi,Tr.get_set]
     ·simp only[Tr.get_set];rw[if_neg n5,if_neg (Ne.symm q3),if_neg n4,if_neg n1,if_neg n1];exact gm
     ·simp only[Tr.get_set];rw[hsn,← qpC];simp[rSy,cSy]
  ·obtain rfl:i=l.length:=by omega
   have hlt':¬((l.length:Int)<l.length):=by omega
   have e1:(zr l).take l.length=zr l:=List.take_of_length_le (by omega);have e2:M.take l.length=M:=List.take_of_length_le (by omega);rw[e1,e2] at hsel go;simp +decide only[↓vS,vT,simprocAttr,hlt'];rw[hliv]
   by_cases hz:zN (zr l) l.length=0
   ·have hV:qam (zN (zr l) l.length) bo = .nils:=by simp[qam,hz]
    have hnil:qcD (zr l) M=[]:=List.eq_nil_of_length_eq_zero (by omega);rw[hV,hnil];exact .nilz
   ·obtain⟨q1,q2,q3⟩:=go hz;have hV:qam (zN (zr l) l.length) bo = .own bo (zN (zr l) l.length):=by simp[qam,hz]
    rw[hV];show Frz _ _ _;refine qsS.2 ⟨hsel.symm,?_⟩;rw[q1];simp[vP,hz];exact Frzs.self qP
 ·have e:qam (zN (zr l) 0) 0 = .nils:=by simp[qam,zN]
  simp only[e,hMl];simp[qe,qi,Tr.get_set]
 ·exact⟨Nat.zero_le _,s',tr',rfl,hb2,hg,fun h=>absurd (by simp[zN]) h⟩
theorem qnh{g1 g2 g3 h1 h2 h3:Nat}(hc:qd P f (qdM g1 g2 g3)=true)(hc1:qd P g2 qaW=true)(hc3:qd P g3 (xU h1 h2 h3)=true)(c1:qb8 P h1 4 24)(c2:cOf P h2)(c3:qfk P h3)(l:List Sy)(ha:qf P g1 [.fz l.length (rSy l)] (.fz l.length (rBo (zr l))))
  (hl:l.length<=200000) (hin:qkB l):qf P f [.fz l.length (rSy l)] (.fz (qfC l).length (rSy (qfC l))):=by
 have hAl:(zr l).length=l.length:=qbx;refine qf.mk hc (by simp[qw,clo,qP]) ?_;have r1:l.length<=qh:=by simp only[qh];omega
 have r2:8*l.length<=qh:=by simp only[qh];omega
 simp only[qdM,vI,simprocAttr];simp +decide only[↓vS,vT,simprocAttr];refine ha.sc ?_;simp +decide only[↓vS,vT,simprocAttr,r1,r2]
 refine SL.loopP (α:=Nat) (fun i=>[(0,.fz l.length (rSy l)),(3,.fz l.length (rBo (zr l))),(4,.ptr 1 0),(5,.i .i64 (zN (zr l) i:Int)),(16,.i .i64 (l.length:Int)),(17,.i .i64 (i:Int))])
  (fun i h=>i<=l.length∧∃s tr,h=⟨s,0,tr⟩∧2<=s∧tr.get 0=some (.cells 0 true false ((rPl (zr l) l.length).take i++List.replicate (l.length-i) (.i .i64 0)))∧tr.get 1=some (.cells 0 true false [.sl 0 0 l.length l.length false])) (fun i=>l.length-i) ?_ 0 ?_ ?_
 ·rintro i h1' ⟨hi,s,tr,rfl,hs,t0,t1⟩ G ih;simp only[vI,simprocAttr]
  by_cases hlt:i<l.length
  ·have hlt':(i:Int)<l.length:=by omega
   obtain⟨b,hbb⟩:∃b,(zr l)[i]?=some b:=⟨_,zzE (by omega)⟩;have hgb:(rBo (zr l))[i]?=some (.b b):=by rw[qlT,hbb];rfl
   have hcn:=qeb hbb;have hci:=qlA (A:=zr l) (j:=i);have hw1:IntKind.wrap .i64 ((i:Int)+1)=((i+1:Nat):Int):=by rw[qm (by omega) (by omega)];simp
   have hw2:IntKind.wrap .i64 ((zN (zr l) i:Int)+1)=((zN (zr l) i+1:Nat):Int):=by rw[qm (by omega) (by omega)];simp
   have hfill:=qj6 (n:=l.length) (z:=.i .i64 0) qlX (qpA (A:=zr l) hlt);have hb4:i+1<=((rPl (zr l) l.length).take i++List.replicate (l.length-i) (AV.i .i64 0)).length:=by simp[qlX];omega
   cases b with
   | false =>
    simp at hcn;simp +decide only[↓vS,vT,simprocAttr,hlt',hlt,t0,t1,hgb,hb4,hfill,Nat.mul_one,hw1];refine ih (i+1) _ _ (by omega) ?_ ⟨by omega,s,_,rfl,hs,by rw[Tr.get_set,if_pos rfl],by rw[Tr.get_set,if_neg (by decide)];exact t1⟩
    rw[hcn];simp[qe,qi,Tr.get_set]
   | true =>
    simp at hcn;simp +decide only[↓vS,vT,simprocAttr,hlt',hlt,t0,t1,hgb,hb4,hfill,Nat.mul_one,hw1,hw2];refine ih (i+1) _ _ (by omega) ?_ ⟨by omega,s,_,rfl,hs,by rw[Tr.get_set,if_pos rfl],by rw[Tr.get_set,if_neg (by decide)];exact t1⟩
    rw[hcn];simp[qe,qi,Tr.get_set]
  ·obtain rfl:i=l.length:=by omega
   have hlt':¬((l.length:Int)<l.length):=by omega
   simp +decide only[↓vS,vT,simprocAttr,hlt'];refine qqT hc1 hc3 c1 c2 c3 l hl hin hs ?_ t1 ?_
   ·rw[t0,List.take_of_length_le (by rw[qlX];omega)];simp
   ·simp[qe,qi,Tr.get_set]
 ·simp[qe,qi,Tr.get_set,zN]
 ·refine⟨Nat.zero_le _,_,_,rfl,by omega,?_,?_⟩<;>simp[Tr.get_set]
def qy4(P:Program)(g:Nat)(l m:List Sy):Prop:=qf P g [.fz l.length (rSy l)] (.fz m.length (rSy m))
def qfy(a:Nat):IFn:=⟨[.tmp 4,.tmp 5],.seq (.r [.m 4 .N,.m 5 (.k 0)]) (.seq (.seq (.r [.n 8 0,.l 9 a [.t 8],.q 10 (.un .not (.t 9))]) (.cond (.t 10) (.seq (.r [.m 4 .N,.m 5 (.k 250)]) (.ret)) (.skip))) (.seq (.seq (.r [.n 11 1,.e 12 11,.m 13 (.k 0)]) (.blk 0 (.loop (.seq (.r [.s 14 13 12]) (.seq (.cond (.t 14) (.skip) (.exit 0)) (.seq (.blk 1 (.seq (.r [.i 15 1 11 13,.d 16 15,.n 7 16]) (.r [.n 17 7,.n 18 0,⟨(some 19),.callV (.t 17) [.t 18],none⟩,.n 0 19]))) (.r [.a 20 13 1,.n 13 20]))))))) (.seq (.r [.n 21 0,.n 4 21,.m 5 (.k 0)]) (.ret))))⟩
theorem qwT{gM a b c:Nat}(hc:qd P f (qfy gM)=true)(l0 l1 l2 l3:List Sy)(hm:qf P gM [.fz l0.length (rSy l0)] (.b true))(h1:qy4 P a l0 l1)(h2:qy4 P b l1 l2)(h3:qy4 P c l2 l3) :
  qf P f [.fz l0.length (rSy l0),.fz 3 [.fn a [] [],.fn b [] [],.fn c [] []]] (.tup [.fz l3.length (rSy l3),.i .i64 0]):=by
 refine qf.mk hc (by simp[qw,clo,qP]) ?_;simp only[qfy,vI,simprocAttr];simp +decide only[↓vS,vT,simprocAttr];refine hm.sc ?_;simp +decide only[↓vS,vT,simprocAttr]
 refine SL.loopP (α:=Nat) (fun i=>[(0,match i with|0=>.fz l0.length (rSy l0)|1=>.fz l1.length (rSy l1)|2=>.fz l2.length (rSy l2)|_=>.fz l3.length (rSy l3)),(11,.fz 3 [.fn a [] [],.fn b [] [],.fn c [] []]),(12,.i .i64 3),(13,.i .i64 (i:Int))])
  (fun i h=>i<=3∧h.fl=0) (fun i=>3-i) ?_ 0 ?_ ?_
 ·rintro i ⟨s,fl,tr⟩ ⟨hi,rfl⟩ G ih;simp only[vI,simprocAttr];have hi4:i=0∨i=1∨i=2∨i=3:=by omega
  rcases hi4 with rfl|rfl|rfl|rfl
  ·simp +decide only[↓vS,vT,simprocAttr];refine h1.sc ?_;simp +decide only[↓vS,vT,simprocAttr];exact ih 1 _ _ (by omega) (by simp[qe,qi,Tr.get_set];decide) ⟨by omega,rfl⟩
  ·simp +decide only[↓vS,vT,simprocAttr];refine h2.sc ?_;simp +decide only[↓vS,vT,simprocAttr];exact ih 2 _ _ (by omega) (by simp[qe,qi,Tr.get_set];decide) ⟨by omega,rfl⟩
  ·simp +decide only[↓vS,vT,simprocAttr];refine h3.sc ?_;simp +decide only[↓vS,vT,simprocAttr];exact ih 3 _ _ (by omega) (by simp[qe,qi,Tr.get_set];decide) ⟨by omega,rfl⟩
  ·simp +decide only[↓vS,vT,simprocAttr];simp[vZ,qQ qP]
 ·simp[qe,qi,Tr.get_set]
 ·exact⟨Nat.zero_le _,rfl⟩
def qdN(a b c:Nat):IFn:=⟨[.cell 0 3 true],.seq (.r [.q 0 (.alloc [.nilf,.nilf,.nilf])]) (.seq (.r [.q 1 (.build [.nilf,.nilf,.nilf] [(0,1,(.c (.fn a [] []))),(1,1,(.c (.fn b [] []))),(2,1,(.c (.fn c [] [])))]),.u (.store 3 (.t 0) (.t 1))]) (.ret))⟩
theorem qnt{a b c:Nat}(hc:qd P f (qdN a b c)=true):qf P f [] (.agg [.fn a [] [],.fn b [] [],.fn c [] []]):=by
 refine qf.mk hc rfl ?_;simp only[qdN,vI,simprocAttr];simp +decide only[↓vS,vT,simprocAttr];simp[vZ,vP,Tr.get_set]
def qgJ(a b:Nat):IFn:=⟨[.tmp 2,.tmp 3],.seq (.r [.m 2 .N,.m 3 (.k 0)]) (.seq (.r [.l 5 a [],.q 4 (.alloc [.nilf,.nilf,.nilf]),.u (.store 3 (.t 4) (.t 5))]) (.seq (.r [.n 6 0,.q 7 (.slcA 3 1 (.t 4) none none none),.l 8 b [.t 6,.t 7],.x 9 8 0,.x 10 8 1,.n 2 9,.n 3 10]) (.ret)))⟩
theorem qtZ{g1 g2 a b c:Nat}(hc:qd P f (qgJ g1 g2)=true)(h1:qf P g1 [] (.agg [.fn a [] [],.fn b [] [],.fn c [] []]))(l m:List Sy)(h2:qf P g2 [.fz l.length (rSy l),.fz 3 [.fn a [] [],.fn b [] [],.fn c [] []]] (.tup [.fz m.length (rSy m),.i .i64 0])) :
  qf P f [.fz l.length (rSy l)] (.tup [.fz m.length (rSy m),.i .i64 0]):=by
 refine qf.mk hc (by simp[qw,clo,qP]) ?_;simp only[qgJ,vI,simprocAttr];simp +decide only[↓vS,vT,simprocAttr];refine h1.sc ?_;simp +decide only[↓vS,vT,simprocAttr];refine h2.give [(0,.cells 0 true false [.fn a [] [],.fn b [] [],.fn c [] []])] ?_ (by simp[qw,clo,qP]) ?_ ?_
 ·intro p hp;rw[List.mem_singleton] at hp;subst hp;exact⟨by simp[Tr.get_set],Nat.zero_le _⟩
 ·refine qaN.2 ⟨Frz.self (by simp[clo,qP]),qaN.2 ⟨Frz.cut 1 rfl (Nat.le_refl _) ?_,qeF.2 trivial⟩⟩;simp[trP,Tr.get_set,vP,vZ]
 ·simp +decide only[↓vS,vT,simprocAttr,qkW,qng,xT];simp[vZ,vP,qQ qP]
def qfe(p:List Ins)(i:Nat):List Ins:=p.mapIdx fun t x=>if t<i∨p.length-i<=t then p.getD (p.length-1-t) x else x
theorem qav{p:List Ins}{i:Nat}:(qfe p i).length=p.length:=by simp[qfe]
theorem qfL{p:List Ins}{i t:Nat}:(qfe p i)[t]?=(p[t]?).map fun x=>if t<i∨p.length-i<=t then p.getD (p.length-1-t) x else x:=by simp[qfe]
theorem qA5{p:List Ins}:qfe p 0=p:=by
 apply List.ext_getElem?;intro t;rw[qfL];cases h:p[t]? with
 | none=>rfl
 | some x =>
  have:=(zzS.1 h).1;simp;intro h2;omega
theorem qui{p:List Ins}{i:Nat}(h:p.length<=2*i+1):qfe p i=p.reverse:=by
 apply List.ext_getElem?;intro t;rw[qfL]
 by_cases ht:t<p.length
 ·rw[List.getElem?_reverse ht,zzE ht,zzE (by omega)];simp only[Option.map_some,Option.some.injEq]
  by_cases h1:t<i∨p.length-i<=t
  ·rw[if_pos h1,List.getD_eq_getElem?_getD,zzE (by omega)];rfl
  ·rw[if_neg h1];have:p.length-1-t=t:=by omega
   simp only[this]
 ·rw[List.getElem?_eq_none (by omega),List.getElem?_eq_none (by simp;omega)];rfl
theorem qrj{p:List Ins}{i:Nat}{x y:Ins}(h:2*i+1<p.length)(hx:(qfe p i)[i]?=some x)(hy:(qfe p i)[p.length-1-i]?=some y):((qfe p i).set i y).set (p.length-1-i) x=qfe p (i+1):=by
 rw[qfL,zzE (by omega)] at hx hy;simp only[Option.map_some,Option.some.injEq] at hx hy;rw[if_neg (by omega)] at hx hy;apply List.ext_getElem?;intro t
 by_cases ht:t<p.length
 ·rw[List.getElem?_set,List.length_set,qav,List.getElem?_set,qav,qfL,qfL,zzE ht];simp only[Option.map_some]
  by_cases e1:p.length-1-i=t
  ·subst e1;rw[if_pos rfl,if_pos ht,if_pos (by omega),List.getD_eq_getElem?_getD,← hx];have:p.length-1-(p.length-1-i)=i:=by omega
   rw[this,zzE (by omega)];rfl
  ·rw[if_neg e1]
   by_cases e2:i=t
   ·subst e2;rw[if_pos rfl,if_pos ht,if_pos (by omega),List.getD_eq_getElem?_getD,zzE (by omega),← hy];rfl
   ·rw[if_neg e2]
    congr 1
    by_cases h3:t<i∨p.length-i<=t
    ·rw[if_pos h3,if_pos (by omega)]
    ·rw[if_neg h3,if_neg (by omega)]
 ·rw[List.getElem?_eq_none (by simp[qav];omega),List.getElem?_eq_none (by rw[qav];omega)]
theorem qpy{T:List Ins}{j:Nat}{x:Ins}(h:T[j]?=some x):((rP T).drop (j*4)).take 4=zy x:=zL xf h
theorem qpz{l:List Ins}{j:Nat}(y:Ins)(hj:j<l.length):(rP l).take (j*4)++(zy y++(rP l).drop (j*4+4))=rP (l.set j y):=qkP xf y hj
def zu:IFn:=⟨[],.seq (.r [.n 4 0,.e 5 4,.w 6 .sub 5 1,.m 2 (.k 0),.n 3 6]) (.blk 0 (.loop (.seq (.seq (.r [.n 7 2,.n 8 3,.s 9 7 8]) (.cond (.t 9) (.skip) (.exit 0))) (.seq (.blk 1 (.reg true [.n 14 0,.n 15 2,.n 16 0,.n 17 3,.n 18 0,.n 19 3,.i 20 4 18 19,.v 21 4 20,.n 22 0,.n 23 2,.i 24 4 22 23,.v 25 4 24,.i 26 4 14 15,.u (.store 4 (.t 26) (.t 21)),.i 27 4 16 17,.u (.store 4 (.t 27) (.t 25))])) (.r [.n 10 2,.a 11 10 1,.n 12 3,.w 13 .sub 12 1,.n 2 11,.n 3 13])))))⟩
theorem qot(hc:qd P f zu=true){s b:Nat}{tr:Tr Blk}(p:List Ins)(hp:p.length<=1000000){k:AV->Hp->Prop}(hb:tr.get b=some (.cells 4 true true (rP p)))(hk:∀tr',(∀c,c≠b->tr'.get c=tr.get c)->tr'.get b=some (.cells 4 true true (rP p.reverse))->k (.tup []) ⟨s,0,tr'⟩) :
  SC P f [.own b p.length] ⟨s,0,tr⟩ k:=by
 refine SC.mk hc (ql ?_);have e1:IntKind.wrap .i64 ((p.length:Int)-1)=(p.length:Int)-1:=qm (by omega) (by omega);simp only[zu,vI,simprocAttr];simp +decide only[↓vS,vT,simprocAttr,e1]
 refine SL.loopP (α:=Nat) (fun i=>[(0,.own b p.length),(2,.i .i64 (i:Int)),(3,.i .i64 ((p.length:Int)-1-i))])
  (fun i h=>2*i<=p.length∧∃tr',h=⟨s,0,tr'⟩∧(∀c,c≠b->tr'.get c=tr.get c)∧tr'.get b=some (.cells 4 true true (rP (qfe p i)))) (fun i=>p.length-i) ?_ 0 ?_ ?_
 ·rintro i h1 ⟨hi,tr',rfl,hold,hrow⟩ G ih;simp only[vI,simprocAttr]
  by_cases hlt:2*i+1<p.length
  ·have hlt':(i:Int)<(p.length:Int)-1-i:=by omega
   have ej:(p.length:Int)-1-i=((p.length-1-i:Nat):Int):=by omega
   obtain⟨x,hx⟩:∃x,(qfe p i)[i]?=some x:=⟨_,zzE (by rw[qav];omega)⟩;obtain⟨y,hy⟩:∃x,(qfe p i)[p.length-1-i]?=some x:=⟨_,zzE (by rw[qav];omega)⟩;have hst:=qrj hlt hx hy;have elx:=qpy hx;have ely:=qpy hy;have lx:i*4+4<=(rP (qfe p i)).length:=by rw[qfG,qav];omega
   have ly:(p.length-1-i)*4+4<=(rP (qfe p i)).length:=by rw[qfG,qav];omega
   have lx2:i<p.length:=by omega
   have ly2:p.length-1-i<p.length:=by omega
   have s1:=qpz (l:=qfe p i) (j:=i) y (by rw[qav];omega);have s2:=qpz (l:=(qfe p i).set i y) (j:=p.length-1-i) x (by rw[List.length_set,qav];omega);rw[hst] at s2;have ly3:(p.length-1-i)*4+4<=(rP ((qfe p i).set i y)).length:=by rw[qfG,List.length_set,qav];omega
   simp only[zy,List.cons_append,List.nil_append] at s1 s2 elx ely;have w1:IntKind.wrap .i64 ((i:Int)+1)=((i+1:Nat):Int):=by rw[qm (by omega) (by omega)];simp
   have w2:IntKind.wrap .i64 (((p.length-1-i:Nat):Int)-1)=(p.length:Int)-1-((i+1:Nat):Int):=by rw[qm (by omega) (by omega)];omega
   rw[ej] at hlt' ⊢;simp +decide only[↓vS,vT,simprocAttr,hlt'];refine zg ?_;simp +decide only[↓vS,vT,simprocAttr,lx2,ly2,hrow,elx,ely,lx,ly,s1,ly3,s2,w1,w2];refine ih (i+1) _ _ (by omega) (by simp[qe,qi,Tr.get_set]) ⟨by omega,_,rfl,fun c hc=>?_,by rw[Tr.get_set,if_pos rfl]⟩
   rw[Tr.get_set,if_neg hc,Tr.get_set,if_neg hc];exact hold c hc
  ·have hlt':¬(i:Int)<(p.length:Int)-1-i:=by omega
   simp +decide only[↓vS,vT,simprocAttr,hlt'];rw[qui (by omega)] at hrow;exact hk _ hold hrow
 ·simp[qe,qi,Tr.get_set]
 ·exact⟨by omega,tr,rfl,fun _ _=>rfl,by rw[qA5];exact hb⟩
structure LI (kb n:Nat) (back:List Ins) (pl:List Nat) (s:Nat) (tr:Tr Blk) (bb bp:Nat) (far:Int):Prop where
 k:tr.get kb=some (.cells 0 true false [.own bb back.length,.sl bp 0 n n false,.i .i64 far])
 b:tr.get bb=some (.cells 4 true true (rP back))
 p:tr.get bp=some (.cells 0 true false (rNt pl))
 len:pl.length=n
 kb':kb≠bb
 kp:kb≠bp
 bp':bb≠bp
 ks:kb<s
 bs:bb<s
 ps:bp<s
theorem LI.keep{kb n bb bp s s':Nat}{back:List Ins}{pl:List Nat}{tr tr':Tr Blk}{far:Int}(h:LI kb n back pl s tr bb bp far)(hs:s<=s')(e:∀c,c=kb∨c=bb∨c=bp->tr'.get c=tr.get c):LI kb n back pl s' tr' bb bp far :=
 ⟨(e kb (.inl rfl)).trans h.k,(e bb (.inr (.inl rfl))).trans h.b,(e bp (.inr (.inr rfl))).trans h.p,h.len,h.kb',h.kp,h.bp',Nat.lt_of_lt_of_le h.ks hs,Nat.lt_of_lt_of_le h.bs hs,Nat.lt_of_lt_of_le h.ps hs⟩
def z8:IFn:=⟨[.tmp 4],.seq (.r [.m 4 (.k 0)]) (.seq (.reg true [.n 5 0,.q 6 (.nilChk (.t 5)),.f 7 0 6,.d 8 7,.e 9 8,.n 10 0,.q 11 (.nilChk (.t 10)),.f 12 1 11,.d 13 12,.n 14 1,.i 15 1 13 14,.d 16 15,.b 17 .sub 9 16,.n 4 17]) (.ret))⟩
theorem qlE(hc:qd P f z8=true){kb n s fl bb bp:Nat}{back:List Ins}{pl:List Nat}{tr:Tr Blk}{far:Int}{k:AV->Hp->Prop}(h:LI kb n back pl s tr bb bp far){j q:Nat}(hj:pl[j]?=some q)(hq:q<=back.length)(hb:back.length<=1000000)
  (hk:k (.i .i64 ((back.length-q:Nat):Int)) ⟨s,fl,tr⟩):SC P f [.ptr kb 0,.i .i64 (j:Int)] ⟨s,fl,tr⟩ k:=by
 refine SC.mk hc (ql ?_);have hjl:j<n:=by rw[← h.len];exact (zzS.1 hj).1
 have hg:(rNt pl)[j]?=some (.i .i64 (q:Int)):=by rw[qlV,hj];rfl
 have e:IntKind.wrap .i64 ((back.length:Int)-q)=((back.length-q:Nat):Int):=by rw[qm (by omega) (by omega)];omega
 simp only[z8,vI,simprocAttr];simp +decide only[↓vS,vT,simprocAttr];refine zg ?_;simp +decide only[↓vS,vT,simprocAttr,h.k,h.p,hjl,hg,Nat.mul_one,e];exact hk
def xj(a:Nat):IFn:=⟨[.tmp 2],.seq (.r [.q 1 (.box (.t 0)),.m 2 (.c (.nilf))]) (.seq (.r [.q 3 (.mkF a [] [.t 1]),.n 2 3]) (.ret))⟩
theorem qCP{g:Nat}(hc:qd P f (xj g)=true)(l:List Ins):qf P f [.fz l.length (rP l)] (.fn g [] [.pf [.fz l.length (rP l)] 0]):=by
 refine qf.mk hc (by simp[qw,clo,qu]) ?_;simp only[xj,vI,simprocAttr];simp +decide only[↓vS,vT,simprocAttr];simp[vZ,vP,Tr.get_set,qQ (qu l)]
def jB(a:Nat):IFn:=⟨[],.seq (.r [.q 2 (.box (.t 0))]) (.seq (.r [.n 6 1,.l 7 a [.t 6]]) (.blk 0 (.rangeF 0 (.t 7) [8,9] (.r [.q 5 (.alloc [.i .u16 0,.i .u8 0,.i .u8 0,.i .u32 0]),.u (.store 4 (.t 5) (.t 9))]) (.blk 1 (.reg true [.d 10 2,.d 11 2,.q 12 (.nilChk (.t 11)),.f 13 0 12,.d 14 13,.v 15 4 5,.q 16 (.buildS 1 [.i .u16 0,.i .u8 0,.i .u8 0,.i .u32 0] [(0,4,(.t 15))]),.q 17 (.appD 4 8 (.t 14) (.t 16) [2]),.q 18 (.nilChk (.t 10)),.f 19 0 18,.u (.store 1 (.t 19) (.t 17))])))))⟩
def puT(s gi:Nat)(l:List Ins):List (Nat×AV):=[(2,.ptr s 0),(7,.fn gi [] [.pf [.fz l.length (rP l)] 0])]
def puA:ICode:=.reg false [⟨some 5,.op (.alloc [.i .u16 0,.i .u8 0,.i .u8 0,.i .u32 0]),none⟩,⟨none,.op (.store 4 (.t 5) (.t 9)),none⟩]
def puB:ICode:=.blk 1 (.reg true [.d 10 2,.d 11 2,.q 12 (.nilChk (.t 11)),.f 13 0 12,.d 14 13,.v 15 4 5,.q 16 (.buildS 1 [.i .u16 0,.i .u8 0,.i .u8 0,.i .u32 0] [(0,4,(.t 15))]),.q 17 (.appD 4 8 (.t 14) (.t 16) [2]),.q 18 (.nilChk (.t 10)),.f 19 0 18,.u (.store 1 (.t 19) (.t 17))])
theorem qt4{kb n s0 s gi bb bp lb:Nat}{back l:List Ins}{pl:List Nat}{r0:Loop}{tr:Tr Blk}{far:Int}{k:AV->Hp->Prop}(hr0:r0.state = .ready)(hp0:r0.pending=none)(hlo:LoopOk P r0 [8,9] puA puB)
  (h:LI kb n back pl s tr bb bp far) (g0:tr.get s0=some (.cells 0 true false [.ptr kb 0])) (gl:tr.get lb=some (.map (zz r0 (puT s0 gi l)))) (hlb:lb<s) (hs0:s0<s) (hn:kb≠lb∧bb≠lb∧bp≠lb∧s0≠lb∧s0≠kb∧s0≠bb) (i:Int) (x:Ins) (hb:back.length<=1000000)
  (hk:∀s' tr' bb',s<=s'->(∀c,c<s->c≠kb->c≠bb->tr'.get c=tr.get c)->s<=bb'->LI kb n (back++[x]) pl s' tr' bb' bp far->k (.b true) ⟨s',0,tr'⟩):SY P lb [.i .i64 i,.agg (zy x)] ⟨s,0,tr⟩ k:=by
 obtain⟨e1,e2,e3,e4,e5,e6⟩:=hn;have hks:=h.ks;have hbs:=h.bs;have hps:=h.ps;have hkb:=h.kb';have hkp:=h.kp;have hbp:=h.bp';refine SY.mk (r:=r0) (ts:=puT s0 gi l) (ps:=[8,9]) gl hr0 hlo (Nat.zero_le _) hlb rfl ?_;rw[show mkT (puT s0 gi l)=(Tr.leaf.set 7 (.fn gi [] [.pf [.fz l.length (rP l)] 0])).set 2 (.ptr s0 0) from rfl]
 refine ql ?_;simp only[qlS,puA,zy,vI,simprocAttr];simp +decide only[↓vS,vT,simprocAttr];have n1:¬lb=s:=by omega
 have n2:¬s0=s:=by omega
 have n3:¬kb=s:=by omega
 have n4:¬bb=s:=by omega
 have n5:¬s=lb:=by omega
 have n6:¬s=s+1:=by omega
 have n7:¬s0=s+1:=by omega
 have n8:¬kb=s+1:=by omega
 have n9:¬bb=s+1:=by omega
 have n10:¬s+1=bb:=by omega
 have n11:¬kb=s+1+1:=by omega
 have n12:¬s0=bb:=e6;have n13:¬s=bb:=by omega
 have n14:¬s0=s+1+1:=by omega
 have r1:back.length+1<=qh:=by simp only[qh];omega
 have r2:(back.length+1)*8<=qh:=by simp only[qh];omega
 refine⟨puT s0 gi l,by simp[Tr.get_set,n1,gl],?_⟩
 refine ql ?_;simp only[xT,puB,vI,simprocAttr];simp +decide only[↓vS,vT,simprocAttr];refine zg ?_;simp +decide only[↓vS,vT,simprocAttr,g0,h.k,h.b,e1,e2,e4,n1,n2,n3,n4,n5,n6,n7,n8,n9,n10,n11,n12,n13,n14,hkb,r1,r2,qfG,hbs,e5,e6];refine⟨Go.Kc.bsy r0,puT s0 gi l,?_,?_⟩
 ·simp only[Tr.get_set];rw[if_neg (by omega),if_neg (by omega),if_neg (by omega),if_neg (by omega)];simp
 rw[qja,qlZ hr0 hp0];simp only[xT];simp +decide only[↓vS,vT,simprocAttr];refine hk _ _ (s+1+1) (by omega) (fun c q1 q2 q3=>?_) (by omega) ⟨?_,?_,?_,h.len,by omega,hkp,by omega,by omega,by omega,by omega⟩
 ·by_cases hcl:c=lb
  ·subst hcl;rw[Tr.get_set,if_pos rfl,gl]
  ·simp only[Tr.get_set];repeat rw[if_neg (by omega)]
 ·simp only[Tr.get_set];rw[if_neg e1];simp
 ·simp only[Tr.get_set];rw[if_neg (by omega),if_neg (by omega)];simp[rP,zy]
 ·simp only[Tr.get_set];repeat rw[if_neg (by omega)]
  exact h.p
theorem qpd{gB gi kb n s bb bp bx:Nat}{back l:List Ins}{pl:List Nat}{tr:Tr Blk}{far:Int}{k:AV->Hp->Prop}(hc:qd P f (jB gB)=true)(hB:∀l:List Ins,qf P gB [.fz l.length (rP l)] (.fn gi [] [.pf [.fz l.length (rP l)] 0]))(hi:qd P gi qF=true)
  (h:LI kb n back pl s tr bb bp far) (hx:tr.get bx=some (.cells 0 true false (rP l))) (hn:bx≠kb∧bx≠bb∧bx≠bp) (hxs:bx<s) (hl:l.length<=10) (hb:back.length<=900000)
  (hk:∀s' tr' bb',s<=s'->(∀c,c<s->c≠kb->c≠bb->c≠bx->tr'.get c=tr.get c)->(bb'=bb∨s<=bb')->LI kb n (back++l.reverse) pl s' tr' bb' bp far->k (.tup []) ⟨s',0,tr'⟩):SC P f [.ptr kb 0,.sl bx 0 l.length l.length false] ⟨s,0,tr⟩ k:=by
 obtain⟨x1,x2,x3⟩:=hn;have hks:=h.ks;have hbs:=h.bs;have hps:=h.ps;refine SC.mk hc (ql ?_);simp only[jB,vI,simprocAttr];simp +decide only[↓vS,vT,simprocAttr];refine (hB l).give [(bx,.cells 0 true false (rP l))] ?_ (by simp[clo,qw,qu]) ?_ ?_
 ·intro p hp;rw[List.mem_singleton] at hp;subst hp;refine⟨?_,Nat.zero_le _⟩;rw[Tr.get_set,if_neg (by show ¬bx=s;omega)];exact hx
 ·refine qaN.2 ⟨Frz.cut 4 rfl (Nat.le_refl _) ?_,qeF.2 trivial⟩;simp[trP,Tr.get_set,vP,qfG];rw[List.take_of_length_le (by rw[qfG];omega)];exact Frzs.self (qu l)
 simp only[qkW,qng,xT];simp +decide only[↓vS,vT,simprocAttr];refine S.rangeFL (ts:=puT s gi l) (Nat.zero_le _) (by intro p hp;simp only[puT,List.mem_cons,List.not_mem_nil,or_false] at hp;rcases hp with rfl|rfl<;>simp[Tr.get_set]) ⟨rfl,rfl⟩ ?_;refine qmN.2 ⟨.fn gi [] [.pf [.fz l.length (rP l)] 0],by simp[Tr.get_set],?_⟩
 refine⟨qg9 hi,fun r0 hr0 hp0 hlo=>⟨r0,.inl ⟨rfl,hlo.real⟩,?_⟩⟩
 have hlo:LoopOk P r0 [8,9] puA puB:=hlo
 have old:∀c,c<s->c≠bx->((((tr.set s (.cells 0 true false [.ptr kb 0])).set bx .dead).set (s+1) (.map (zz r0 (puT s gi l))))).get c=tr.get c:=fun c h1 h2=>by
  simp only[Tr.get_set];repeat rw[if_neg (by omega)]
 refine qaa (c:=zy) hi xf (by omega) (fun i h=>i<=l.length∧∃s' tr' bb',h=⟨s',0,tr'⟩∧s+2<=s'∧(∀c,c<s->c≠kb->c≠bb->c≠bx->tr'.get c=tr.get c)∧(bb'=bb∨s+2<=bb')∧LI kb n (back++(l.drop i).reverse) pl s' tr' bb' bp far∧tr'.get s=some (.cells 0 true false [.ptr kb 0])∧tr'.get (s+1)=some (.map (zz r0 (puT s gi l)))) ?_ ?_ ?_
 ·rintro i x hh hx ⟨hil,s',tr',bb',rfl,q1,q2,q3,q4,q5,q6⟩ k hk;have hd:l.drop i=x::l.drop (i+1):=by rw[← (zzS.1 hx).2,List.getElem_cons_drop]
  refine qt4 (s0:=s) (lb:=s+1) hr0 hp0 hlo q4 q5 q6 (by omega) (by omega) ⟨by omega,by omega,by omega,by omega,by omega,by omega⟩ _ x (by simp;omega) fun s2 t2 b2 p1 p2 p3 p4=>hk _ ⟨by omega,s2,t2,b2,rfl,by omega,fun c c1 c2 c3 c4=>?_,by omega,?_,?_,?_⟩
  ·rw[p2 c (by omega) c2 (by omega)];exact q2 c c1 c2 c3 c4
  ·rw[hd,List.reverse_cons,← List.append_assoc];exact p4
  ·rw[p2 s (by omega) (by omega) (by omega)];exact q5
  ·rw[p2 (s+1) (by omega) (by omega) (by omega)];exact q6
 ·refine⟨Nat.le_refl _,s+1+1,_,bb,rfl,by omega,fun c c1 c2 c3 c4=>old c c1 c4,.inl rfl,?_,?_,?_⟩
  ·rw[List.drop_length];simp only[List.reverse_nil,List.append_nil];refine h.keep (by omega) fun c hc=>old c ?_ ?_
   ·rcases hc with rfl|rfl|rfl<;>omega
   ·rcases hc with rfl|rfl|rfl<;>omega
  ·show ((((tr.set s (.cells 0 true false [.ptr kb 0])).set bx .dead).set (s+1) (.map (zz r0 (puT s gi l))))).get s=_;simp only[Tr.get_set];rw[if_neg (by omega),if_neg (by omega)];simp
  ·show ((((tr.set s (.cells 0 true false [.ptr kb 0])).set bx .dead).set (s+1) (.map (zz r0 (puT s gi l))))).get (s+1)=_;rw[Tr.get_set,if_pos rfl]
 ·rintro hh ⟨_,s',tr',bb',rfl,q1,q2,q3,q4,q5,q6⟩;refine⟨r0,puT s gi l,q6,by rw[hr0];decide,?_⟩
  rw[hp0];simp only[xT];simp only[↓vS,vT,simprocAttr];refine hk _ _ bb' (by omega) (fun c c1 c2 c3 c4=>?_) (by omega) ?_
  ·rw[Tr.get_set,if_neg (by show ¬c=s+1;omega)];exact q2 c c1 c2 c3 c4
  ·have hq:=q4;rw[List.drop_zero] at hq;refine hq.keep (Nat.le_refl _) fun c hc=>?_
   have:c≠s+1:=by rcases hc with rfl|rfl|rfl<;>omega
   rw[Tr.get_set,if_neg this]
def jG(n:Nat)(pl:List Nat)(x:Sy):List Ins :=
 if x.code=5 then [⟨5,0,0,(n-pl.getD x.th 0:Nat)⟩] else if qn x.code≠4 then [⟨x.code,0,0,x.k⟩] else
  if max (n-pl.getD x.th 0) (n-pl.getD x.el 0)<=255 then [⟨x.code,(n-pl.getD x.th 0:Nat),(n-pl.getD x.el 0:Nat),x.k⟩] else
   [⟨x.code,0,1,x.k⟩,⟨5,0,0,(n-pl.getD x.th 0+1:Nat)⟩,⟨5,0,0,(n-pl.getD x.el 0:Nat)⟩]
theorem qni{n:Nat}{pl:List Nat}{x:Sy}:(jG n pl x).length<=3∧1<=(jG n pl x).length:=by
 unfold jG;repeat' split
 all_goals simp
def qa6(a b c:Nat):IFn:=⟨[],.seq (.r [.q 3 (.box (.t 1))]) (.blk 0 (.seq (.r [.f 53 0 3,.d 54 53,.q 55 (.bin .eql (.t 54) (.c (.i .u16 5))),.n 52 55]) (.cond (.t 52) (.r [.n 56 0,.n 57 0,.f 58 2 3,.d 59 58,.l 60 a [.t 57,.t 59],.q 61 (.cvInt .u32 (.t 60)),.q 62 (.build [.i .u16 0,.i .u8 0,.i .u8 0,.i .u32 0] [(0,1,(.c (.i .u16 5))),(3,1,(.t 61))]),.q 63 (.buildS 1 [.i .u16 0,.i .u8 0,.i .u8 0,.i .u32 0] [(0,4,(.t 62))]),.l 64 b [.t 56,.t 63]]) (.seq (.r [.f 66 0 3,.d 67 66,.l 68 c [.t 67],.q 69 (.bin .neq (.t 68) (.c (.i .u8 4))),.n 65 69]) (.cond (.t 65) (.r [.n 70 0,.f 71 0 3,.d 72 71,.f 73 1 3,.d 74 73,.q 75 (.build [.i .u16 0,.i .u8 0,.i .u8 0,.i .u32 0] [(0,1,(.t 72)),(3,1,(.t 74))]),.q 76 (.buildS 1 [.i .u16 0,.i .u8 0,.i .u8 0,.i .u32 0] [(0,4,(.t 75))]),.l 77 b [.t 70,.t 76]]) (.seq (.reg true [.n 6 0,.f 7 2 3,.d 8 7,.l 9 a [.t 6,.t 8],.n 10 0,.f 11 3 3,.d 12 11,.l 13 a [.t 10,.t 12],.n 4 9,.n 5 13]) (.seq (.seq (.r [.n 14 4,.n 15 5,.q 16 (.max (.t 14) (.t 15)),.w 17 .leq 16 255]) (.cond (.t 17) (.seq (.r [.n 18 0,.f 19 0 3,.d 20 19,.n 21 4,.q 22 (.cvInt .u8 (.t 21)),.n 23 5,.q 24 (.cvInt .u8 (.t 23)),.f 25 1 3,.d 26 25,.q 27 (.build [.i .u16 0,.i .u8 0,.i .u8 0,.i .u32 0] [(0,1,(.t 20)),(1,1,(.t 22)),(2,1,(.t 24)),(3,1,(.t 26))]),.q 28 (.buildS 1 [.i .u16 0,.i .u8 0,.i .u8 0,.i .u32 0] [(0,4,(.t 27))]),.l 29 b [.t 18,.t 28]]) (.ret)) (.skip))) (.seq (.r [.n 30 0,.q 31 (.nilChk (.t 30)),.f 32 2 31,.d 33 32,.a 34 33 1,.q 35 (.nilChk (.t 30)),.f 36 2 35,.u (.store 1 (.t 36) (.t 34))]) (.r [.n 37 0,.f 38 0 3,.d 39 38,.f 40 1 3,.d 41 40,.q 42 (.build [.i .u16 0,.i .u8 0,.i .u8 0,.i .u32 0] [(0,1,(.t 39)),(2,1,(.c (.i .u8 1))),(3,1,(.t 41))]),.n 43 4,.q 44 (.cvInt .u32 (.t 43)),.q 45 (.bin .add (.t 44) (.c (.i .u32 1))),.q 46 (.build [.i .u16 0,.i .u8 0,.i .u8 0,.i .u32 0] [(0,1,(.c (.i .u16 5))),(3,1,(.t 45))]),.n 47 5,.q 48 (.cvInt .u32 (.t 47)),.q 49 (.build [.i .u16 0,.i .u8 0,.i .u8 0,.i .u32 0] [(0,1,(.c (.i .u16 5))),(3,1,(.t 48))]),.q 50 (.buildS 3 [.i .u16 0,.i .u8 0,.i .u8 0,.i .u32 0] [(0,4,(.t 42)),(4,4,(.t 46)),(8,4,(.t 49))]),.l 51 b [.t 37,.t 50]])))))))))⟩
theorem qAu{gD gO gP gB gi kb n s bb bp:Nat}{back:List Ins}{pl:List Nat}{tr:Tr Blk}{far:Int}{k:AV->Hp->Prop}(hc:qd P f (qa6 gD gP gO)=true)(hD:qd P gD z8=true)(hO:cOf P gO)(hP:qd P gP (jB gB)=true)
  (hB:∀l:List Ins,qf P gB [.fz l.length (rP l)] (.fn gi [] [.pf [.fz l.length (rP l)] 0])) (hi:qd P gi qF=true)
  (h:LI kb n back pl s tr bb bp far) (x:Sy) (hb:back.length<=800000) (hj:∀j:Nat,(x.code=5∨qn x.code=4)∧j=x.th∨(qn x.code=4∧x.code≠5)∧j=x.el->∃q,pl[j]?=some q∧q<=back.length)
  (hk:∀s' tr' bb' far',s<=s'->(∀c,c<s->c≠kb->c≠bb->tr'.get c=tr.get c)->(bb'=bb∨s<=bb')->LI kb n (back++(jG back.length pl x).reverse) pl s' tr' bb' bp far'->k (.tup []) ⟨s',0,tr'⟩):SC P f [.ptr kb 0,.agg (cSy x)] ⟨s,0,tr⟩ k:=by
 have hks:=h.ks;have hbs:=h.bs;have hps:=h.ps;have hkb:=h.kb';have hkp:=h.kp;have hbp:=h.bp'
 have h1:∀(y:Blk),LI kb n back pl (s+1) (tr.set s y) bb bp far:=fun y=>h.keep (by omega) fun c hc=>by
  rw[Tr.get_set,if_neg (by rcases hc with rfl|rfl|rfl<;>omega)]
 have h2:∀(y z:Blk),LI kb n back pl (s+1+1) ((tr.set s y).set (s+1) z) bb bp far:=fun y z=>(h1 y).keep (by omega) fun c hc=>by
  rw[Tr.get_set,if_neg (by rcases hc with rfl|rfl|rfl<;>omega)]
 have n1:¬s=s+1:=by omega
 have put:∀(y z:Blk) (l:List Ins),z = .cells 0 true false (rP l)->l.length<=10->jG back.length pl x=l->∀k2:AV->Hp->Prop,(∀h,k (.tup []) h->k2 (.tup []) h)->SC P gP [.ptr kb 0,.sl (s+1) 0 l.length l.length false] ⟨s+1+1,0,(tr.set s y).set (s+1) z⟩ k2:=fun y z l hz hl he k2 hk2=>by
  refine qpd hP hB hi (h2 y z) (by rw[Tr.get_set,if_pos rfl,hz]) ⟨by omega,by omega,by omega⟩ (by omega) hl (by omega) fun s' tr' bb' q1 q2 q3 q4=>hk2 _ (hk s' tr' bb' far (by omega) (fun c c1 c2 c3=>?_) (by omega) (by rw[he];exact q4))
  rw[q2 c (by omega) c2 c3 (by omega)];simp only[Tr.get_set];rw[if_neg (by omega),if_neg (by omega)]
 refine SC.mk hc (ql ?_);simp only[qa6,cSy,vI,simprocAttr]
 by_cases h5:x.code=5
 ·obtain⟨q,hq,hql⟩:=hj x.th (.inl ⟨.inl h5,rfl⟩);have hqD:pl.getD x.th 0=q:=by rw[List.getD_eq_getElem?_getD,hq];rfl
  have he:jG back.length pl x=[⟨5,0,0,((back.length-q:Nat):Int)⟩]:=by unfold jG;rw[if_pos h5,hqD]
  have hw:IntKind.wrap .u32 ((back.length-q:Nat):Int)=((back.length-q:Nat):Int):=qaC (by omega) (by omega);simp +decide only[↓vS,vT,simprocAttr,eq_true h5];refine qlE hD (h1 _) hq hql (by omega) ?_;simp +decide only[↓vS,vT,simprocAttr,hw];exact put _ _ [⟨5,0,0,((back.length-q:Nat):Int)⟩] (by simp[rP,zy]) (by simp) he _ fun h hv=>by simp +decide only[↓vS,vT,simprocAttr];exact hv
 ·by_cases hc4:qn x.code=4
  ·obtain⟨q,hq,hql⟩:=hj x.th (.inl ⟨.inr hc4,rfl⟩);obtain⟨r,hr,hrl⟩:=hj x.el (.inr ⟨⟨hc4,h5⟩,rfl⟩);have hqD:pl.getD x.th 0=q:=by rw[List.getD_eq_getElem?_getD,hq];rfl
   have hrD:pl.getD x.el 0=r:=by rw[List.getD_eq_getElem?_getD,hr];rfl
   simp +decide only[↓vS,vT,simprocAttr,h5];refine (hO x.code).sc ?_;simp +decide only[↓vS,vT,simprocAttr,hc4];refine zg ?_;simp +decide only[↓vS,vT,simprocAttr];refine⟨_,_,fun k' hk'=>qlE hD (h1 _) hq hql (by omega) hk',?_⟩
   simp +decide only[↓vS,vT,simprocAttr];refine⟨_,_,fun k' hk'=>qlE hD (h1 _) hr hrl (by omega) hk',?_⟩
   have he:jG back.length pl x=if max (back.length-q) (back.length-r)<=255 then [⟨x.code,((back.length-q:Nat):Int),((back.length-r:Nat):Int),x.k⟩] else [⟨x.code,0,1,x.k⟩,⟨5,0,0,((back.length-q+1:Nat):Int)⟩,⟨5,0,0,((back.length-r:Nat):Int)⟩]:=by
    unfold jG;rw[if_neg h5,if_neg (by simp[hc4]),hqD,hrD]
   obtain⟨a,ha⟩:∃a,a=back.length-q:=⟨_,rfl⟩;obtain⟨b,hb'⟩:∃b,b=back.length-r:=⟨_,rfl⟩;rw[← ha,← hb'] at he ⊢;have hal:a<=800000:=by omega
   have hbl:b<=800000:=by omega
   simp +decide only[↓vS,vT,simprocAttr];have hmx:(if a<b then (b:Int) else a)=((max a b:Nat):Int):=by split<;>omega
   rw[hmx]
   by_cases hm:max a b<=255
   ·have hm':((max a b:Nat):Int)<=255:=by omega
    rw[if_pos hm] at he;have w1:IntKind.wrap .u8 (a:Int)=a:=quL (by omega) (by omega);have w2:IntKind.wrap .u8 (b:Int)=b:=quL (by omega) (by omega);simp +decide only[↓vS,vT,simprocAttr,hm'];rw[w1,w2];exact put _ _ [⟨x.code,(a:Int),(b:Int),x.k⟩] (by simp[rP,zy]) (by simp) he _ fun h hv=>by simp +decide only[↓vS,vT,simprocAttr];exact hv
   ·have hm':¬((max a b:Nat):Int)<=255:=by omega
    rw[if_neg hm] at he;have w1:IntKind.wrap .u32 (a:Int)=a:=qaC (by omega) (by omega);have w2:IntKind.wrap .u32 (b:Int)=b:=qaC (by omega) (by omega);have w3:IntKind.wrap .u32 ((a:Int)+1)=((a+1:Nat):Int):=by rw[qaC (by omega) (by omega)];simp
    have n2:¬kb=s:=by omega
    have n3:¬s=kb:=by omega
    simp +decide only[↓vS,vT,simprocAttr,hm',w1,w2,w3,h.k,n2,n3,n1];refine qpd hP hB hi (l:=[⟨x.code,0,1,x.k⟩,⟨5,0,0,((a+1:Nat):Int)⟩,⟨5,0,0,((b:Nat):Int)⟩]) (far:=IntKind.wrap .i64 (far+1)) (s:=s+1+1) (bb:=bb) (bp:=bp) (n:=n) (pl:=pl) (back:=back) ⟨?_,?_,?_,h.len,hkb,hkp,hbp,by omega,by omega,by omega⟩ ?_ ⟨by omega,by omega,by omega⟩ (by omega) (by simp) (by omega) fun s' tr' bb' q1 q2 q3 q4=>?_
    ·simp only[Tr.get_set];rw[if_neg (by omega)];simp
    ·simp only[Tr.get_set];rw[if_neg (by omega),if_neg (by omega),if_neg (by omega)];exact h.b
    ·simp only[Tr.get_set];rw[if_neg (by omega),if_neg (by omega),if_neg (by omega)];exact h.p
    ·rw[Tr.get_set,if_pos rfl];simp[rP,zy]
    ·simp +decide only[↓vS,vT,simprocAttr];refine hk s' tr' bb' _ (by omega) (fun c c1 c2 c3=>?_) (by omega) (by rw[he];exact q4)
     rw[q2 c (by omega) c2 c3 (by omega)];simp only[Tr.get_set];rw[if_neg (by omega),if_neg c2,if_neg (by omega)]
  ·have he:jG back.length pl x=[⟨x.code,0,0,x.k⟩]:=by unfold jG;rw[if_neg h5,if_pos hc4]
   simp +decide only[↓vS,vT,simprocAttr,h5];refine (hO x.code).sc ?_;simp +decide only[↓vS,vT,simprocAttr,hc4];exact put _ _ [⟨x.code,0,0,x.k⟩] (by simp[rP,zy]) (by simp) he _ fun h hv=>by simp +decide only[↓vS,vT,simprocAttr];exact hv
def zb(l:List Sy):Nat->List Ins×List Nat
 | 0=>([],List.replicate l.length 0)
 | m+1=>match l[l.length-(m+1)]? with
  | some x=>((zb l m).1++(jG (zb l m).1.length (zb l m).2 x).reverse,(zb l m).2.set (l.length-(m+1)) ((zb l m).1++(jG (zb l m).1.length (zb l m).2 x).reverse).length)
  | none=>zb l m
theorem qf1{l:List Sy}:∀m,(zb l m).2.length=l.length∧(∀q ∈ (zb l m).2,q<=(zb l m).1.length)∧(zb l m).1.length<=3*m
 | 0=>by
  refine⟨by simp[zb],fun q hq=>?_,by simp[zb]⟩
  simp only[zb,List.mem_replicate] at hq;omega
 | m+1=>by
  obtain⟨h1,h2,h3⟩:=qf1 (l:=l) m;unfold zb;split
  ·rename_i x hx;refine⟨by simp[h1],fun q hq=>?_,?_⟩
   ·rcases List.mem_or_eq_of_mem_set hq with hq|hq
    ·have:=h2 q hq;simp;omega
    ·rw[hq];exact Nat.le_refl _
   ·have:=(qni (n:=(zb l m).1.length) (pl:=(zb l m).2) (x:=x)).1;simp;omega
  ·exact⟨h1,h2,by omega⟩
def xu(l:List Sy):List Ins:=(zb l l.length).1.reverse
theorem qw7{l:List Nat}{j v:Nat}(hj:j<l.length):(rNt l).take j ++ .i .i64 (v:Int)::(rNt l).drop (j+1)=rNt (l.set j v):=by
 rw[List.set_eq_take_append_cons_drop,if_pos hj];simp[rNt,List.map_take,List.map_drop]
def qbC(a b c:Nat):ICode:=.seq (.r [.d 33 4,.n 2 33,.m 3 .T]) (.ret)
def qdj(a b c:Nat):IFn:=⟨[.tmp 2,.tmp 3],.seq (.r [.m 2 (.c (.nilp)),.m 3 .F]) (.seq (.seq (.r [.n 7 0,.l 8 a [.t 7],.q 9 (.un .not (.t 8))]) (.cond (.t 9) (.seq (.r [.m 2 (.c (.nilp)),.m 3 .F]) (.ret)) (.skip))) (.seq (.r [.n 10 0,.e 11 10,.q 12 (.mkS 1 8 [.i .i64 0] (.t 11) (.t 11)),.q 13 (.build [.nils,.nils,.i .i64 0] [(1,1,(.t 12))]),.q 14 (.box (.t 13)),.q 4 (.alloc [.nilp]),.u (.store 1 (.t 4) (.t 14))]) (.seq (.seq (.r [.n 15 0,.l 16 b [.t 15]]) (.blk 0 (.rangeF 0 (.t 16) [17,18] (.seq (.r [.n 5 17]) (.r [.q 6 (.alloc [.i .u16 0,.i .u32 0,.i .i64 0,.i .i64 0]),.u (.store 4 (.t 6) (.t 18))])) (.blk 1 (.seq (.r [.d 19 4,.v 20 4 6,.l 21 c [.t 19,.t 20]]) (.reg true [.d 22 4,.q 23 (.nilChk (.t 22)),.f 24 1 23,.d 25 24,.n 26 5,.d 27 4,.q 28 (.nilChk (.t 27)),.f 29 0 28,.d 30 29,.e 31 30,.i 32 1 25 26,.u (.store 1 (.t 32) (.t 31))])))))) (.cut (qbC a b c)))))⟩
def liT(gi:Nat)(l:List Sy):List (Nat×AV):=[(4,.ptr 2 0),(16,.fn gi [] [.pf [.fz l.length (rSy l)] 0])]
def liA:ICode:=.seq (.reg false [⟨some 5,.op (.mov (.t 17)),none⟩]) (.reg false [⟨some 6,.op (.alloc [.i .u16 0,.i .u32 0,.i .i64 0,.i .i64 0]),none⟩,⟨none,.op (.store 4 (.t 6) (.t 18)),none⟩])
def liB(g1:Nat):ICode:=.blk 1 (.seq (.r [.d 19 4,.v 20 4 6,.l 21 g1 [.t 19,.t 20]]) (.reg true [.d 22 4,.q 23 (.nilChk (.t 22)),.f 24 1 23,.d 25 24,.n 26 5,.d 27 4,.q 28 (.nilChk (.t 27)),.f 29 0 28,.d 30 29,.e 31 30,.i 32 1 25 26,.u (.store 1 (.t 32) (.t 31))]))
def qvh(P:Program)(g:Nat):Prop:=∀(kb n s bb bp:Nat) (back:List Ins) (pl:List Nat) (tr:Tr Blk) (far:Int) (k:AV->Hp->Prop),LI kb n back pl s tr bb bp far->∀x:Sy,back.length<=800000->(∀j:Nat,(x.code=5∨qn x.code=4)∧j=x.th∨(qn x.code=4∧x.code≠5)∧j=x.el->∃q,pl[j]?=some q∧q<=back.length)->
 (∀s' tr' bb' far',s<=s'->(∀c,c<s->c≠kb->c≠bb->tr'.get c=tr.get c)->(bb'=bb∨s<=bb')->LI kb n (back++(jG back.length pl x).reverse) pl s' tr' bb' bp far'->k (.tup []) ⟨s',0,tr'⟩)->SC P g [.ptr kb 0,.agg (cSy x)] ⟨s,0,tr⟩ k
theorem qtd{gi g1 s bb n:Nat}{back:List Ins}{pl:List Nat}{l:List Sy}{r0:Loop}{tr:Tr Blk}{far:Int}{k:AV->Hp->Prop}(h1:qvh P g1)(hr0:r0.state = .ready)(hp0:r0.pending=none)(hlo:LoopOk P r0 [17,18] liA (liB g1))
  (h:LI 1 n back pl s tr bb 0 far) (g2:tr.get 2=some (.cells 0 true false [.ptr 1 0])) (g4:tr.get 4=some (.map (zz r0 (liT gi l)))) (hs:5<=s) (hb3:3<=bb) (hb4:bb≠4) (hb:back.length<=800000) (i:Nat) (hi:i<n) (x:Sy)
  (hj:∀j:Nat,(x.code=5∨qn x.code=4)∧j=x.th∨(qn x.code=4∧x.code≠5)∧j=x.el->∃q,pl[j]?=some q∧q<=back.length)
  (hk:∀s' tr' bb' far',5<=s'->LI 1 n (back++(jG back.length pl x).reverse) (pl.set i (back++(jG back.length pl x).reverse).length) s' tr' bb' 0 far'->tr'.get 2=some (.cells 0 true false [.ptr 1 0])->tr'.get 4=some (.map (zz r0 (liT gi l)))->3<=bb'->bb'≠4->k (.b true) ⟨s',0,tr'⟩) :
  SY P 4 [.i .i64 (i:Int),.agg (cSy x)] ⟨s,0,tr⟩ k:=by
 have hbs:=h.bs;refine SY.mk (r:=r0) (ts:=liT gi l) (ps:=[17,18]) g4 hr0 hlo (Nat.zero_le _) (by show 4<s;omega) rfl ?_;rw[show mkT (liT gi l)=(Tr.leaf.set 16 (.fn gi [] [.pf [.fz l.length (rSy l)] 0])).set 4 (.ptr 2 0) from rfl]
 refine ql ?_;simp only[qlS,liA,cSy,vI,simprocAttr];simp +decide only[↓vS,vT,simprocAttr];have n1:¬4=s:=by omega
 have n2:¬2=s:=by omega
 have n3:¬s=4:=by omega
 refine⟨liT gi l,by simp[Tr.get_set,n1,g4],?_⟩
 refine ql ?_;simp only[xT,liB,vI,simprocAttr];have e24:¬(2:Nat)=4:=by decide
 simp +decide only[↓vS,vT,simprocAttr,g2,e24,n2,n3]
 have old:∀c,c<s->c≠4->(((tr.set s (.cells 0 true false [.i .u16 0,.i .u32 0,.i .i64 0,.i .i64 0])).set s (.cells 0 true false [.i .u16 x.code,.i .u32 x.k,.i .i64 (x.th:Int),.i .i64 (x.el:Int)])).set 4 (.map (zz (Go.Kc.bsy r0) (liT gi l)))).get c=tr.get c:=fun c h1 h2=>by
  simp only[Tr.get_set];repeat rw[if_neg (by omega)]
 refine h1 1 n (s+1) bb 0 back pl _ far _ (h.keep (by omega) fun c hc=>old c (by rcases hc with rfl|rfl|rfl<;>omega) (by rcases hc with rfl|rfl|rfl<;>omega)) x hb hj fun s' tr' bb' far' q1 q2 q3 q4=>?_
 have g2':tr'.get 2=some (.cells 0 true false [.ptr 1 0]):=by rw[q2 2 (by omega) (by omega) (by omega),old 2 (by omega) (by omega)];exact g2
 have g4':tr'.get 4=some (.map (zz (Go.Kc.bsy r0) (liT gi l))):=by rw[q2 4 (by omega) (by omega) (by omega),Tr.get_set,if_pos rfl]
 obtain⟨B,hB⟩:∃B,B=back++(jG back.length pl x).reverse:=⟨_,rfl⟩;rw[← hB] at q4 hk;have hset:=qw7 (l:=pl) (j:=i) (v:=B.length) (by rw[q4.len];exact hi);have hpl:i+1<=(rNt pl).length:=by rw[qlW,q4.len];omega
 have hbs':=q4.bs;simp +decide only[↓vS,vT,simprocAttr];refine zg ?_;simp +decide only[↓vS,vT,simprocAttr,g2',q4.k,q4.p,hi,hpl,hset,Nat.mul_one];refine⟨Go.Kc.bsy r0,liT gi l,by rw[Tr.get_set,if_neg (by decide)];exact g4',?_⟩
 rw[qja,qlZ hr0 hp0];simp only[xT];simp +decide only[↓vS,vT,simprocAttr];have hb':bb'≠4:=by omega
 refine hk s' _ bb' far' (by omega) ⟨?_,?_,?_,?_,by omega,by omega,by omega,by omega,by omega,by omega⟩ ?_ ?_ (by omega) hb'
 ·rw[Tr.get_set,if_neg (by decide),Tr.get_set,if_neg (by decide)];exact q4.k
 ·rw[Tr.get_set,if_neg hb',Tr.get_set,if_neg (by omega)];exact q4.b
 ·rw[Tr.get_set,if_neg (by decide),Tr.get_set,if_pos rfl]
 ·rw[List.length_set];exact q4.len
 ·rw[Tr.get_set,if_neg (by decide),Tr.get_set,if_neg (by decide)];exact g2'
 ·rw[Tr.get_set,if_pos rfl]
theorem qqR{n0 g1 g2 g3 s:Nat}{tr:Tr Blk}{t:Tr AV}{k:AV->Hp->Prop}(ht:t.get 4=some (.ptr 2 0))(h2:tr.get 2=some (.cells 0 true false [.ptr 1 0]))(hk:k (.tup [.ptr 1 0,.b true]) ⟨s,0,tr⟩) :
  S P n0 (qbC g1 g2 g3) (qb9 [.tmp 2,.tmp 3] k) t ⟨s,0,tr⟩:=by
 refine S.has [(4,.ptr 2 0)] (by simp[qe,qi,ht]) (ql ?_);simp only[qbC,vI,simprocAttr];simp +decide only[↓vS,vT,simprocAttr,h2];exact hk
theorem qqS{gM gB g1 gi:Nat}(hc:qd P f (qdj gM gB g1)=true)(l:List Sy)(hm:qf P gM [.fz l.length (rSy l)] (.b true))(hB:∀l:List Sy,qf P gB [.fz l.length (rSy l)] (.fn gi [] [.pf [.fz l.length (rSy l)] 0]))(hi:qd P gi qA=true)
  (h1:qvh P g1) (hl:l.length<=200000) (hin:∀x ∈ l,∀j:Nat,(x.code=5∨qn x.code=4)∧j=x.th∨(qn x.code=4∧x.code≠5)∧j=x.el->j<l.length) {k:AV->Hp->Prop}
  (hk:∀s tr bb far,LI 1 l.length (zb l l.length).1 (zb l l.length).2 s tr bb 0 far->k (.tup [.ptr 1 0,.b true]) ⟨s,0,tr⟩):SC P f [.fz l.length (rSy l)] ⟨0,0,.leaf⟩ k:=by
 refine SC.mk hc (ql ?_);have r1:l.length<=qh:=by simp only[qh];omega
 have r2:8*l.length<=qh:=by simp only[qh];omega
 have hz:(List.replicate l.length [AV.i .i64 0]).flatten=rNt (List.replicate l.length 0):=by simp[rNt]
 simp only[qdj,vI,simprocAttr];simp +decide only[↓vS,vT,simprocAttr];refine hm.sc ?_;simp +decide only[↓vS,vT,simprocAttr,r1,r2,hz];refine (hB l).sc ?_;simp +decide only[↓vS,vT,simprocAttr];refine S.weak (Wk.mk (liT gi l) [.cells 0 true false (rNt (List.replicate l.length 0)),.cells 0 true false [.own 3 0,.sl 0 0 l.length l.length false,.i .i64 0],.cells 0 true false [.ptr 1 0],.cells 4 true true []] [0,1,2,99] ?_ ?_ ?_ rfl) ?_
 ·simp[vw,liT,qQ qP,qc,qP]
 ·simp[vw,qc,zk]
 ·simp
 refine S.rangeF (by simp[qaL]) (by simp[liT]) ⟨rfl,rfl⟩ ?_;refine qmN.2 ⟨.fn gi [] [.pf [.fz l.length (rSy l)] 0],by simp[liT,mkT,Tr.get_set],?_⟩
 refine⟨qg9 hi,fun r0 hr0 hp0 hlo=>?_⟩
 have hlo:LoopOk P r0 [17,18] liA (liB g1):=hlo;refine zX (c:=cSy) hi qdw (by omega) (fun i h=>i<=l.length∧∃s tr bb far,h=⟨s,0,tr⟩∧5<=s∧LI 1 l.length (zb l (l.length-i)).1 (zb l (l.length-i)).2 s tr bb 0 far∧3<=bb∧bb≠4∧tr.get 2=some (.cells 0 true false [.ptr 1 0])∧tr.get 4=some (.map (zz r0 (liT gi l)))) ?_ ?_ ?_
 ·rintro i x h hx ⟨hil,s,tr,bb,far,rfl,q1,q2,q3,q4,q5,q6⟩ k' hk';have hi':i<l.length:=(zzS.1 hx).1;obtain⟨o1,o2,o3⟩:=qf1 (l:=l) (l.length-(i+1));have e:l.length-i=(l.length-(i+1))+1:=by omega
  have e2:l.length-(l.length-(i+1)+1)=i:=by omega
  have e3:zb l (l.length-i)=((zb l (l.length-(i+1))).1++(jG (zb l (l.length-(i+1))).1.length (zb l (l.length-(i+1))).2 x).reverse,(zb l (l.length-(i+1))).2.set i ((zb l (l.length-(i+1))).1++(jG (zb l (l.length-(i+1))).1.length (zb l (l.length-(i+1))).2 x).reverse).length):=by
   rw[e,zb,e2,hx]
  refine qtd h1 hr0 hp0 hlo q2 q5 q6 q1 q3 q4 (by omega) i hi' x (fun j hj=>?_) fun s' tr' bb' far' p1 p2 p3 p4 p5 p6=>hk' _ ⟨by omega,s',tr',bb',far',rfl,p1,by rw[e3];exact p2,p5,p6,p3,p4⟩
  have hjl:=hin x (zzM hx) j hj;obtain⟨q,hq⟩:∃q,(zb l (l.length-(i+1))).2[j]?=some q:=⟨_,zzE (by omega)⟩;exact⟨q,hq,o2 q (zzM hq)⟩
 ·refine⟨Nat.le_refl _,5,_,3,0,rfl,Nat.le_refl _,⟨?_,?_,?_,?_,by decide,by decide,by decide,by decide,by decide,by decide⟩,by decide,by decide,?_,?_⟩<;>simp[Tr.get_set,qm6,mkH,trL,zb,rP,Hp.push]
 ·rintro h ⟨_,s,tr,bb,far,rfl,q1,q2,q3,q4,q5,q6⟩;rw[Nat.sub_zero] at q2;refine⟨r0,liT gi l,q6,by rw[hr0];decide,?_⟩
  rw[hp0];simp only[xT];simp only[↓vS,vT,simprocAttr];refine qqR (by simp[liT,mkT,Tr.get_set]) ?_ (hk _ _ bb far ?_)
  ·show (tr.set 4 .dead).get 2=_;rw[Tr.get_set,if_neg (by decide)];exact q5
  ·refine q2.keep (Nat.le_refl _) fun c hc=>?_
   have:c≠4:=by rcases hc with rfl|rfl|rfl<;>omega
   rw[Tr.get_set,if_neg (by exact this)]
def qeJ(a b:Nat):IFn:=⟨[.tmp 2,.tmp 3],.seq (.r [.m 2 .N,.m 3 (.k 0)]) (.seq (.r [.n 7 0,.l 8 a [.t 7],.n 6 8,.x 9 6 0,.x 10 6 1,.n 4 9,.n 5 10]) (.seq (.blk 0 (.seq (.r [.n 12 5,.q 13 (.un .not (.t 12)),.n 11 13]) (.cond (.t 11) (.seq (.r [.m 2 .N,.m 3 (.k 250)]) (.ret)) (.seq (.r [.n 15 4,.q 16 (.nilChk (.t 15)),.f 17 0 16,.d 18 17,.e 19 18,.w 20 .gtr 19 4096,.n 14 20]) (.cond (.t 14) (.seq (.r [.m 2 .N,.m 3 (.k 270)]) (.ret)) (.skip)))))) (.seq (.r [.n 21 4,.q 22 (.nilChk (.t 21)),.f 23 0 22,.d 24 23,.l 25 b [.t 24]]) (.seq (.r [.n 26 4,.q 27 (.nilChk (.t 26)),.f 28 0 27,.d 29 28,.n 2 29,.m 3 (.k 0)]) (.ret)))))⟩
def qjg(l:List Sy):AV:=if 4096<(xu l).length then .tup [.fz 0 [],.i .i64 270] else .tup [.fz (xu l).length (rP (xu l)),.i .i64 0]
theorem qqP{g1 g2:Nat}(hc:qd P f (qeJ g1 g2)=true)(l:List Sy)(hl:l.length<=200000)
  (h1:∀k:AV->Hp->Prop,(∀s tr bb far,LI 1 l.length (zb l l.length).1 (zb l l.length).2 s tr bb 0 far->k (.tup [.ptr 1 0,.b true]) ⟨s,0,tr⟩)->SC P g1 [.fz l.length (rSy l)] ⟨0,0,.leaf⟩ k)
  (h2:∀(s b:Nat) (tr:Tr Blk) (p:List Ins),p.length<=1000000->∀k:AV->Hp->Prop,tr.get b=some (.cells 4 true true (rP p))->(∀tr',(∀c,c≠b->tr'.get c=tr.get c)->tr'.get b=some (.cells 4 true true (rP p.reverse))->k (.tup []) ⟨s,0,tr'⟩)->SC P g2 [.own b p.length] ⟨s,0,tr⟩ k) :
  qf P f [.fz l.length (rSy l)] (qjg l):=by
 have hlen:=(qf1 (l:=l) l.length).2.2;refine qf.mk hc (by simp[qw,clo,qP]) ?_;simp only[qeJ,vI,simprocAttr];simp +decide only[↓vS,vT,simprocAttr];refine h1 _ fun s tr bb far h=>?_
 have hll:(xu l).length=(zb l l.length).1.length:=by simp[xu]
 unfold qjg;rw[hll]
 by_cases hbig:4096<(zb l l.length).1.length
 ·have hbig':(4096:Int)<((zb l l.length).1.length:Int):=by omega
  rw[if_pos hbig];simp +decide only[↓vS,vT,simprocAttr,h.k,hbig'];simp[vZ]
 ·have hbig':¬(4096:Int)<((zb l l.length).1.length:Int):=by omega
  rw[if_neg hbig];simp +decide only[↓vS,vT,simprocAttr,h.k,hbig'];refine h2 s bb tr _ (by omega) _ h.b fun tr' q1 q2=>?_
  have hk':=(q1 1 h.kb').trans h.k;simp +decide only[↓vS,vT,simprocAttr,hk'];simp[vZ,vP,q2,xu];refine⟨fun h=>?_,Frzs.self (qu _)⟩
  rw[h];rfl
end Go.Kc
end
