/- Part 9 of the abstract machine and of the functions' walks. Conditions: with each theorem. -/
import Derived.Test.YtgaodkfneooonaaGreatOK8
set_option maxHeartbeats 4000000
set_option linter.defProp false
set_option linter.unusedSectionVars false
set_option linter.unusedSimpArgs false
set_option linter.unusedVariables false
set_option linter.unnecessarySimpa false
section
namespace Go.Kc
variable {P:Program} {f:Nat}
def qgB{α:Type}{f:α->List AV}{m:Nat}(h:∀x,(f x).length=m){xs:List α}{j:Nat}{x x':α}{i:Nat}{v:AV}(hx:xs[j]?=some x)(hi:i<m)(hf:f x'=(f x).take i++([v]++(f x).drop (i+1))) :
  (xs.flatMap f).take (j*m+i)++([v]++(xs.flatMap f).drop (j*m+i+1))=(xs.set j x').flatMap f:=by
 obtain⟨hj,hx⟩:=zzS.1 hx;have e:xs=xs.take j++x::xs.drop (j+1):=by rw[<- hx,List.getElem_cons_drop,List.take_append_drop]
 have hl:(xs.take j).length=j:=by rw[List.length_take];omega
 have hA:((xs.take j).flatMap f).length=j*m:=by rw[qW h,hl]
 have e1:xs.flatMap f=(xs.take j).flatMap f++(f x++(xs.drop (j+1)).flatMap f):=by
  grind
 have e2:(xs.set j x').flatMap f=(xs.take j).flatMap f++(f x'++(xs.drop (j+1)).flatMap f):=by
  rw[List.set_eq_take_append_cons_drop,if_pos hj];simp
 rw[e1,e2,hf,<- hA,List.take_length_add_append,show((xs.take j).flatMap f).length+i+1=((xs.take j).flatMap f).length+(i+1)from rfl,List.drop_length_add_append]
 rw[List.take_append_of_le_length (by rw[h];omega),List.drop_append_of_le_length (by rw[h];omega)];simp
def qd8(s:Sy):(cSy s).length=4:=rfl
def qP:IFn:=⟨[],sq [.reg true [.d 5 1,.q 6 (.nilChk (.t 5)),.f 7 0 6,.d 8 7,.d 9 2,.d 10 0,.q 11 (.nilChk (.t 10)),.f 12 0 11,.d 13 12,.i 14 4 8 9,.f 15 2 14,.u (.store 1 (.t 15) (.t 13))],.r [.d 16 3,.q 17 (.bin .neq (.t 16) (.c (.h 5)))],.cond (.t 17) (.reg true [.d 18 1,.q 19 (.nilChk (.t 18)),.f 20 0 19,.d 21 20,.d 22 2,.d 23 4,.q 24 (.nilChk (.t 23)),.f 25 0 24,.d 26 25,.i 27 4 21 22,.f 28 3 27,.u (.store 1 (.t 28) (.t 26))]) (.skip)]⟩
def qv1(hc:qc P f qP=true){s w bl j b5 b6 b8 b9 b10 X F:Nat}{L:List Sy}{z:Sy}{x o:AV}{c:Int}{e:Nat}{tr:Tr Blk}{k:AV->Hp->Prop}
  (hw:tr.get w=some (.v [.own bl L.length,x])) (hl:tr.get bl=some (.cells 4 true true (rSy L))) (hz:L[j]?=some z)
  (g5:tr.get b5=some (.v [.ptr w 0])) (g6:tr.get b6=some (.v [.h c])) (g8:tr.get b8=some (.v [.ptr X 0])) (g9:tr.get b9=some (.v [o])) (g10:tr.get b10=some (.v [.j (j:Int)]))
  (gX:tr.get X=some (.v [.j (F:Int)])) (hn:w≠bl/\b5≠bl/\b6≠bl/\b8≠bl/\b9≠bl/\b10≠bl/\X≠bl) (hd:bl<s)
  (ho:(c=5/\e=z.el)\/(c≠5/\∃Y,o = .ptr Y 0/\Y≠bl/\tr.get Y=some (.v [.j (e:Int)])))
  (hk:∀tr',(∀b,tr'.get b=if b=bl then some (.cells 4 true true (rSy (L.set j ⟨z.code,z.k,F,e⟩)))else tr.get b)->k (.tup []) ⟨s,0,tr'⟩) :
  SC P f [.ptr b8 0,.ptr b5 0,.ptr b10 0,.ptr b6 0,.ptr b9 0] ⟨s,0,tr⟩ k:=by
 obtain⟨n1,n2,n3,n4,n5,n6,n7⟩:=hn;have hj:j<L.length:=by grind
 have hj4:j*4+2+1<=(rSy L).length:=by rw[qao];omega
 have h1:(rSy L).take (j*4+2) ++ .j (F:Int)::(rSy L).drop (j*4+2+1)=rSy (L.set j ⟨z.code,z.k,F,z.el⟩):=qgB qd8 hz (by omega) rfl;have hz2:(L.set j ⟨z.code,z.k,F,z.el⟩)[j]?=some ⟨z.code,z.k,F,z.el⟩:=by grind
 have h2:(rSy (L.set j ⟨z.code,z.k,F,z.el⟩)).take (j*4+3) ++ .j (e:Int)::(rSy (L.set j ⟨z.code,z.k,F,z.el⟩)).drop (j*4+3+1)=rSy (L.set j ⟨z.code,z.k,F,e⟩):=by
  have:=qgB (x':=⟨z.code,z.k,F,e⟩) (v:=.j (e:Int)) (i:=3) qd8 hz2 (by omega) rfl;rw[List.set_set]at this;exact this
 have hj5:j*4+3+1<=(rSy (L.set j ⟨z.code,z.k,F,z.el⟩)).length:=by rw[qao,List.length_set];omega
 refine SC.mk hc (qk ?_);simp only[qP,vI,simprocAttr];refine zB ?_;simp +decide only[↓vS,vT,simprocAttr,g5,hw,g10,g8,gX,hl,n1,n2,n3,n4,n5,n6,n7,hj,hd,hj4,h1];rcases ho with⟨rfl,rfl⟩|⟨hc5,Y,rfl,nY,gY⟩
 .simp +decide only[↓vS,vT,simprocAttr,g6]
  simp_all[Tr.get_set]
 .simp +decide only[↓vS,vT,simprocAttr,g6,hc5];refine zB ?_;have n1':¬w=bl:=n1;simp +decide only[↓vS,vT,simprocAttr,g5,hw,g10,g9,gY,hl,n1,n2,n3,n4,n5,n6,n7,nY,hj,hd,hj5,List.length_set,h2]
  simp_all[Tr.get_set]
def zg:IFn:=⟨[.tmp 2],sq [.r [.m 2 .N],sq [.r [.n 5 0,.q 6 (.nilChk (.t 5)),.f 7 1 6,.d 8 7,.e 9 8,.m 10 (.k 0)],.blk 0 (.loop (sq [.r [.s 11 10 9],.cond (.t 11) (.skip) (.exit 0),.blk 1 (sq [.r [.i 12 1 8 10,.d 13 12,.n 4 13],.r [.n 14 4,⟨(some 15),.callV (.t 14) [],none⟩]]),.r [.a 16 10 1,.n 10 16]]))],.r [.n 17 0,.q 18 (.nilChk (.t 17)),.f 19 0 18,.d 20 19,.n 2 20],.ret]⟩
def qfv(js:List Nat)(RV:List Sy):List Sy:=RV.mapIdx λj y=>if j ∈ js then y else y.raw
theorem qtM{RV:List Sy}:qfv [] RV=RV.map Sy.raw:=by
 apply List.ext_getElem?;intro i;simp[qfv]
theorem qna{js:List Nat}{RV:List Sy}:(qfv js RV).length=RV.length:=by simp[qfv]
theorem qj2{js:List Nat}{RV:List Sy}{j:Nat}:(qfv js RV)[j]?=(RV[j]?).map λy=>if j ∈ js then y else y.raw:=by simp[qfv]
def qqH{js:List Nat}{RV:List Sy}{j:Nat}{y:Sy}(hy:RV[j]?=some y):(qfv js RV).set j y=qfv (js++[j]) RV:=by
 have hj:j<RV.length:=by grind
 apply List.ext_getElem?
 grind[qna,qj2]
def qtL{js:List Nat}{RV:List Sy}(h:∀(j:Nat) y,RV[j]?=some y->j ∉ js->y.raw=y):qfv js RV=RV:=by
 apply List.ext_getElem?
 grind[qj2]
theorem qgu.get{g w:Nat}{κ:Nat->Kd}{tr:Tr Blk}{RV:List Sy}:∀{js:List Nat} {cs:List AV},qgu g w κ tr RV js cs->∀{i:Nat} {c:AV},cs[i]?=some c->∃j,js[i]?=some j/\JOk g w κ tr RV j c
 | [],[],_,_,_,h=>by grind
 | j::js,c::cs,h,0,_,hi=>by simp at hi;subst hi;exact⟨j,rfl,h.1⟩
 | j::js,c::cs,h,i+1,_,hi=>by simpa using qgu.get h.2 (by simp_all)
 | [],_::_,h,_,_,_=>h.elim
 | _::_,[],h,_,_,_=>h.elim
theorem qgu.len{g w:Nat}{κ:Nat->Kd}{tr:Tr Blk}{RV:List Sy}:∀{js:List Nat} {cs:List AV},qgu g w κ tr RV js cs->js.length=cs.length
 | [],[],_=>rfl
 | _::_,_::_,h=>by simp[qgu.len h.2]
 | [],_::_,h=>h.elim
 | _::_,[],h=>h.elim
def qvb{g w s:Nat}{κ:Nat->Kd}{tr:Tr Blk}{RV:List Sy}{k:AV->Hp->Prop}(hc:qc P f zg=true)(hg:qc P g qP=true)(h:WI g w κ s tr RV [])(hp:∀b F p,κ b = .lab F p->p=true)(hm:RV.length<=1000000)
  (hk:∀tr' b,tr'.get b=some (.cells 4 true true (rSy RV))->b<s->k (.own b RV.length) ⟨s,0,tr'⟩):SC P f [.ptr w 0] ⟨s,0,tr⟩ k:=by
 obtain⟨bl,bt,cs,js,r1,r2,r3,r4,r5,r6,r7,r8,r9⟩:=h.rows;have ne:∀{b c},κ b≠κ c->b≠c:=by grind
 have hjl:=r7.len;refine SC.mk hc (qk ?_);simp only[zg,vI,simprocAttr];simp +decide only[↓vS,vT,simprocAttr,r4];have wl:w≠bl:=by simp_all
 have tl:bt≠bl:=by simp_all
 refine SL.loopP (α:=Nat) (λi=>[(0,.ptr w 0),(2,.nils),(8,.own bt cs.length),(9,.j (cs.length:Int)),(10,.j (i:Int))])
  (λi h=>i<=cs.length/\∃tr',h=⟨s,0,tr'⟩/\∀b,tr'.get b=if b=bl then some (.cells 4 true true (rSy (qfv (js.take i) RV)))else tr.get b) (λi=>cs.length-i) ?_ 0 ?_ ?_
 .rintro i h1 ⟨hi,tr',rfl,hget⟩ G ih;simp only[vI,simprocAttr];have g4:tr'.get w=some (.v [.own bl RV.length,.own bt cs.length]):=by rw[hget,if_neg wl];exact r4
  have g5:tr'.get bl=some (.cells 4 true true (rSy (qfv (js.take i) RV))):=by rw[hget,if_pos rfl]
  have g6:tr'.get bt=some (.cells 1 true true cs):=by rw[hget,if_neg tl];exact r6
  by_cases hlt:i<cs.length
  .obtain⟨j,hj,b5,b6,b8,b9,b10,X,p,o,y,h0,h1,h2,h3,h4,h5,h6,h7,h8⟩:=r7.get (zzE hlt);have hci:cs[i]?=some (.fn g [] [.ptr b8 0,.ptr b5 0,.ptr b10 0,.ptr b6 0,.ptr b9 0]):=by rw[zzE hlt,h0]
   have nb:∀{b v},Bx κ tr b v->b≠bl/\tr'.get b=some (.v [v]):=λ{b v} q=>by
    have e:b≠bl:=ne (by rw[q.1,r2];simp);exact⟨e,by rw[hget,if_neg e];exact q.2⟩
   have nl:∀{b F p},κ b = .lab F p->b≠bl/\tr'.get b=some (.v [.j (F:Int)]):=λ{b F p} q=>by
    have e:b≠bl:=by grind
    obtain⟨x,q1,q2⟩:=h.lab b F p q;exact by grind
   have hlt':(i:Int)<cs.length:=by omega
   have hw1:IntKind.wrap .i64 ((i:Int)+1)=((i+1:Nat):Int):=by rw[qp (by omega) (by omega)];simp
   simp +decide only[↓vS,vT,simprocAttr,hlt',hlt,g6,hci,zzU];have hz:(qfv (js.take i) RV)[j]?=some (if j ∈ js.take i then y else y.raw):=by rw[qj2,h1];rfl
   refine qv1 (F:=y.th) (e:=y.el) (c:=y.code) (L:=qfv (js.take i) RV) hg (by rw[qna];exact g4) g5 hz (nb h2).2 (nb h3).2 (nb h4).2 (nb h5).2 (nb h6).2 (nl h7).2 (by grind) (by grind[WI.dom]) ?_ ?_
   .rcases h8 with⟨h8,rfl,h9⟩|⟨h8,Y,p',rfl,h9⟩
    .exact .inl ⟨h8,by split<;>simp[h9,Sy.raw]⟩
    .exact by grind
   .intro tr2 hget2;have ec:∀b:Bool,(⟨(if j ∈ js.take i then y else y.raw).code,(if j ∈ js.take i then y else y.raw).k,y.th,y.el⟩:Sy)=y:=λ_=>by split<;>rfl
    rw[ec true,qqH h1]at hget2;simp +decide only[↓vS,vT,simprocAttr,hw1];refine ih (i+1) _ _ (by omega) ?_ ⟨by omega,tr2,rfl,λb=>?_⟩
    .simp[qg,ql,Tr.get_set]
    .rw[hget2,hget];have:js.take (i+1)=js.take i++[j]:=by rw[List.take_add_one,hj];rfl
     rw[this];split<;>rfl
  .obtain rfl:i=cs.length:=by omega
   have hlt':¬((cs.length:Int)<cs.length):=by omega
   simp +decide only[↓vS,vT,simprocAttr,hlt',g4];rw[show js.take cs.length=js from by rw[<- hjl,List.take_length]]at g5
   rw[qtL (by grind)]at g5;exact by grind[WI.dom]
 .simp[qg,ql,Tr.get_set]
 grind[qtM]
theorem Stp.kd{L L':List Nat}{κ κ1:Nat->Kd}{s s1:Nat}{tr t1 t2:Tr Blk}(a:Stp L κ s tr κ1 s1 t1)(hd:∀b,κ b≠.no->b<s){b F':Nat}(hb:s<=b)(hf:∀c,κ1 c = .fr->t2.get c=t1.get c)(hx:∀c,κ1 c = .box->t2.get c=t1.get c)(hL:∀c ∈ L,c=b\/c ∈ L'):Stp L' κ s tr (kdS κ1 b (.lab F' true)) s1 t2:=by
 have ne:∀{c},κ c≠.no->c≠b:=by grind
 refine⟨a.le,λc hc=>?_,λc hc=>?_,λc F p hc=>?_,λc F hc=>?_⟩
 .rw[qj (by simp_all)];exact by grind[Stp.fr]
 .rw[qj (by simp_all)];exact by grind[Stp.box]
 .rw[qj (by simp_all)];exact a.lab c F p hc
 grind[qF,qj,Stp.nw]
def qdJ(a mask v:Int)(p F:Nat):List Sy :=
 if mask=0 then []else if mask=4294967295 then [⟨32,a,0,0⟩,⟨21,v,p+2,F⟩]else [⟨32,a,0,0⟩,⟨84,mask,0,0⟩,⟨21,v,p+3,F⟩]
def qb0(mask:Int):Nat:=if mask=0 then 0 else if mask=4294967295 then 2 else 3
theorem qb7{a m v:Int}{p F:Nat}:(qdJ a m v p F).length=qb0 m:=by
 unfold qdJ qb0;grind
section
variable {g w s gl gp gj gh:Nat} {κ:Nat->Kd} {tr:Tr Blk} {RV:List Sy} {N:List Nat} {k:AV->Hp->Prop}
def xE(a b c d:Nat):IFn:=⟨[],sq [sq [.r [.n 11 2,.q 12 (.bin .eql (.t 11) (.c (.w 0)))],.cond (.t 12) (.ret) (.skip)],.r [.n 13 0,.n 14 1,.l 15 a [.t 13,.t 14]],sq [.r [.n 16 2,.q 17 (.bin .neq (.t 16) (.c (.w 4294967295)))],.cond (.t 17) (.r [.n 18 0,.n 19 2,.q 20 (.build [.h 0,.w 0,.j 0,.j 0] [(0,1,(.c (.h 84))),(1,1,(.t 19))]),.q 21 (.buildS 1 [.h 0,.w 0,.j 0,.j 0] [(0,4,(.t 20))]),.l 22 b [.t 18,.t 21]]) (.skip)],.r [.q 23 (.build [.j 0] []),.q 24 (.box (.t 23)),.n 10 24],.r [.n 25 0,.n 26 3,.n 27 10,.n 28 4,.l 29 c [.t 25,(.c (.h 21)),.t 26,.t 27,.t 28]],.r [.n 30 0,.n 31 10,.l 32 d [.t 30,.t 31]]]⟩
def qvP(hc:qc P f (xE gl gp gj gh)=true)(h1:qc P gl (jx gp)=true)(h2:qc P gp zb=true)(h3:qc P gj (xG gp g)=true)(h4:qc P gh xF=true)
  (h:WI g w κ s tr RV N) (a m v:Int) {X F:Nat} {p:Bool} (hX:κ X = .lab F p) (hm:RV.length+3<=1000000)
  (hk:∀κ' s' tr',Stp [] κ s tr κ' s' tr'->WI g w κ' s' tr' (RV++qdJ a m v RV.length F) N->k (.tup []) ⟨s',0,tr'⟩):SC P f [.ptr w 0,.w a,.w m,.w v,.ptr X 0] ⟨s,0,tr⟩ k:=by
 refine SC.mk hc (qk ?_);simp only[xE,vI,simprocAttr];unfold qdJ at hk
 by_cases m0:m=0
 .rw[if_pos m0]at hk;simp +decide only[↓vS,vT,simprocAttr,m0]
  grind[Stp.refl]
 rw[if_neg m0]at hk;simp +decide only[↓vS,vT,simprocAttr,m0];refine qlO h1 h2 h a (by omega) λκ1 s1 t1 st1 w1=>?_
 by_cases m1:m=4294967295
 .rw[if_pos m1]at hk;simp +decide only[↓vS,vT,simprocAttr,m1];have w2:=w1.new (.lab (RV.length+2) false) _ (.inr (.inr (.inr ⟨_,rfl,rfl⟩)));have st2:=st1.trans (w1.stpLab (.lab (RV.length+2) false) (.v [.j 0]));refine qeS h3 h2 w2 ⟨21,v,RV.length+2,F⟩ qF (.inr ⟨(by decide:(21:Int)≠5),X,p,rfl,st2.lab X F p hX⟩) (by grind) λκ3 s3 t3 st3 w3=>?_
  simp +decide only[↓vS,vT,simprocAttr]
  have hb:κ3 s1 = .lab (RV++[(⟨32,a,0,0⟩:Sy)]++[(⟨21,v,RV.length+2,F⟩:Sy)]).length false:=by
   rw[st3.lab s1 _ _ qF];simp
  refine qaT h4 w3 hb λt4 q1 q2 w4=>?_
  simp +decide only[↓vS,vT,simprocAttr];rw[List.append_assoc]at w4;exact hk _ _ _ (((st2.trans st3)).kd h.dom st1.le q1 q2 (by simp)) w4
 .rw[if_neg m1]at hk;simp +decide only[↓vS,vT,simprocAttr,m1];refine qwZ h2 (w1.new .no _ (.inl rfl)) ⟨84,m,0,0⟩ (by rw[Tr.get_set,if_pos rfl];rfl) (by grind) λκ2 s2 t2 st2 w2=>?_
  have w2:=w2.dropS rfl;have st2:=st1.trans ((w1.stpNew _ _ (by simp)).trans st2);simp +decide only[↓vS,vT,simprocAttr];have w3:=w2.new (.lab (RV.length+3) false) _ (.inr (.inr (.inr ⟨_,rfl,rfl⟩)));have st3:=st2.trans (w2.stpLab (.lab (RV.length+3) false) (.v [.j 0]));refine qeS h3 h2 w3 ⟨21,v,RV.length+3,F⟩ qF (.inr ⟨(by decide:(21:Int)≠5),X,p,rfl,st3.lab X F p hX⟩) (by grind) λκ4 s4 t4 st4 w4=>?_
  simp +decide only[↓vS,vT,simprocAttr]
  have hb:κ4 s2 = .lab (RV++[(⟨32,a,0,0⟩:Sy)]++[(⟨84,m,0,0⟩:Sy)]++[(⟨21,v,RV.length+3,F⟩:Sy)]).length false:=by
   rw[st4.lab s2 _ _ qF];simp
  refine qaT h4 w4 hb λt5 q1 q2 w5=>?_
  simp +decide only[↓vS,vT,simprocAttr];rw[List.append_assoc,List.append_assoc]at w5;exact hk _ _ _ ((st3.trans st4).kd h.dom st2.le q1 q2 (by simp)) w5
end
def qhV:IFn:=⟨[.tmp 4,.tmp 5],sq [.r [.m 4 (.c (.w 0)),.m 5 .F],sq [.r [.n 6 0,.w 7 .lss 6 0,.n 8 7,.z 9 0 8,.g 10 (.bin .gtr (.t 9) (.k 5)) 8 false,.o 11 8 10],.cond (.t 11) (sq [.r [.m 4 (.c (.w 0)),.m 5 .F],.ret]) (.skip)],.r [.n 12 0,.q 13 (.bin .mul (.k 8) (.t 12)),.q 14 (.bin .add (.k 16) (.t 13)),.n 15 1,.b 16 .add 14 15,.q 17 (.cvInt .u32 (.t 16)),.n 4 17,.m 5 .T],.ret]⟩
def qEf(hc:qc P f qhV=true)(a b:Int)(h0:0<=a)(h6:a<6)(hb0:0<=b)(hb:b<=4):qa P f [.j a,.j b] (.tup [.w (16+8*a+b),.b true]):=by
 refine qa.mk hc rfl ?_;have n1:¬a<0:=by omega
 have n2:¬5<a:=by omega
 have e1:IntKind.wrap .i64 (8*a)=8*a:=by grind[qp]
 have e2:IntKind.wrap .i64 (16+8*a)=16+8*a:=by grind[qp]
 have e3:IntKind.wrap .i64 (16+8*a+b)=16+8*a+b:=by grind[qp]
 have e4:IntKind.wrap .u32 (16+8*a+b)=16+8*a+b:=by grind[qdk]
 simp only[qhV,vI,simprocAttr];simp +decide only[↓vS,vT,simprocAttr,n1,n2,e1,e2,e3,e4];simp[vZ]
def qkg(a:Nat):IFn:=⟨[.tmp 2,.tmp 3],sq [.r [.m 2 (.c (.w 0)),.m 3 .F],.r [.n 4 0,.l 5 a [.t 4,.k 0],.x 6 5 0,.x 7 5 1,.n 2 6,.n 3 7],.ret]⟩
def qFC{g:Nat}(hc:qc P f (qkg g)=true)(hg:∀a b:Int,0<=a->a<6->0<=b->b<=4->qa P g [.j a,.j b] (.tup [.w (16+8*a+b),.b true]))(a:Int)(h0:0<=a)(h6:a<6):qa P f [.j a] (.tup [.w (16+8*a),.b true]):=by
 refine qa.mk hc rfl ?_;simp only[qkg,vI,simprocAttr];simp +decide only[↓vS,vT,simprocAttr];refine(hg a 0 h0 h6 (by omega) (by omega)).sc ?_;simp +decide only[↓vS,vT,simprocAttr];simp[vZ]
def qi3(a:Nat):IFn:=⟨[.tmp 2,.tmp 3],sq [.r [.m 2 (.c (.w 0)),.m 3 .F],.r [.n 4 0,.l 5 a [.t 4,.k 4],.x 6 5 0,.x 7 5 1,.n 2 6,.n 3 7],.ret]⟩
def qC1{g:Nat}(hc:qc P f (qi3 g)=true)(hg:∀a b:Int,0<=a->a<6->0<=b->b<=4->qa P g [.j a,.j b] (.tup [.w (16+8*a+b),.b true]))(a:Int)(h0:0<=a)(h6:a<6):qa P f [.j a] (.tup [.w (16+8*a+4),.b true]):=by
 refine qa.mk hc rfl ?_;simp only[qi3,vI,simprocAttr];simp +decide only[↓vS,vT,simprocAttr];refine(hg a 4 h0 h6 (by omega) (by omega)).sc ?_;simp +decide only[↓vS,vT,simprocAttr];simp[vZ]
def qbV(t:GTest):Nat:=qb0 (loW t.mask)+qb0 (hiW t.mask)+1
def qif(t:GTest)(p:Nat):List Sy :=
 qdJ (16+8*t.arg) (loW t.mask) (loW t.val) p (p+qbV t)++qdJ (16+8*t.arg+4) (hiW t.mask) (hiW t.val) (p+qb0 (loW t.mask)) (p+qbV t)++[⟨6,t.act,0,0⟩]
theorem qfA{t:GTest}{p:Nat}:(qif t p).length=qbV t:=by simp[qif,qbV,qb7];omega
def qiZ{m:Int}:qb0 m<=3:=by unfold qb0;grind
theorem qp1{t:GTest}:qbV t<=7:=by have:=qiZ (m:=loW t.mask);have:=qiZ (m:=hiW t.mask);unfold qbV;omega
structure TstOk (t:GTest):Prop where
 a0:0<=t.arg
 a1:t.arg<6
 m0:0<=t.mask
 m1:t.mask<18446744073709551616
 v0:0<=t.val
 v1:t.val<18446744073709551616
def qsG(P:Program)(f:Nat)(b:Int):Prop:=∀a:Int,0<=a->a<6->qa P f [.j a] (.tup [.w (16+8*a+b),.b true])
structure WFn (P:Program) (g gl gp gj gh gr:Nat):Prop where
 ld:qc P gl (jx gp)=true
 put:qc P gp zb=true
 jmp:qc P gj (xG gp g)=true
 here:qc P gh xF=true
 ret:qc P gr (qa8 gp)=true
section
variable {g w s gl gp gj gh gr g1 g2 g3 g4 g5:Nat} {κ:Nat->Kd} {tr:Tr Blk} {RV:List Sy} {N:List Nat} {k:AV->Hp->Prop}
def jy(a b c d e g:Nat):IFn:=⟨[],sq [.r [.q 3 (.box (.t 1))],.r [.q 13 (.build [.j 0] []),.q 14 (.box (.t 13)),.n 4 14],.r [.f 16 0 3,.d 17 16,.l 18 a [.t 17],.n 15 18,.x 19 15 0,.x 20 15 1,.n 5 19,.n 6 20],.r [.f 22 0 3,.d 23 22,.l 24 b [.t 23],.n 21 24,.x 25 21 0,.x 26 21 1,.n 7 25,.n 8 26],.r [.f 28 1 3,.d 29 28,.l 30 c [.t 29],.n 27 30,.x 31 27 0,.x 32 27 1,.n 9 31,.n 10 32],.r [.f 34 2 3,.d 35 34,.l 36 c [.t 35],.n 33 36,.x 37 33 0,.x 38 33 1,.n 11 37,.n 12 38],.r [.n 39 0,.n 40 5,.n 41 9,.n 42 11,.n 43 4,.l 44 d [.t 39,.t 40,.t 41,.t 42,.t 43]],.r [.n 45 0,.n 46 7,.n 47 10,.n 48 12,.n 49 4,.l 50 d [.t 45,.t 46,.t 47,.t 48,.t 49]],.r [.n 51 0,.f 52 3 3,.d 53 52,.l 54 e [.t 51,.t 53]],.r [.n 55 0,.n 56 4,.l 57 g [.t 55,.t 56]]]⟩
def qEX(hc:qc P f (jy g1 g2 g3 g4 gr gh)=true)(W:WFn P g gl gp gj gh gr)(c1:qsG P g1 0)(c2:qsG P g2 4)(c3:qyB P g3)(c4:qc P g4 (xE gl gp gj gh)=true)
  (h:WI g w κ s tr RV N) (t:GTest) (ht:TstOk t) (hm:RV.length+7<=1000000)
  (hk:∀κ' s' tr',Stp [] κ s tr κ' s' tr'->WI g w κ' s' tr' (RV++qif t RV.length) N->k (.tup []) ⟨s',0,tr'⟩):SC P f [.ptr w 0,.agg (jz t)] ⟨s,0,tr⟩ k:=by
 refine SC.mk hc (qk ?_);simp only[jy,jz,vI,simprocAttr];simp +decide only[↓vS,vT,simprocAttr];have s1:¬s=s+1:=by omega
 have w1:=h.new .fr (.v [.j t.arg,.x t.mask,.x t.val,.w t.act]) (.inr (.inl rfl));have w2:=w1.new (.lab (RV.length+qbV t) false) _ (.inr (.inr (.inr ⟨_,rfl,rfl⟩)));have st2:=(h.stpNew .fr (.v [.j t.arg,.x t.mask,.x t.val,.w t.act]) (by simp)).trans (w1.stpLab (.lab (RV.length+qbV t) false) (.v [.j 0]));have hX:=qF (κ:=kdS κ s .fr) (b:=s+1) (x:=.lab (RV.length+qbV t) false);have hf:kdS (kdS κ s .fr) (s+1) (.lab (RV.length+qbV t) false) s = .fr:=by rw[qj (by omega),qF]
 simp only[s1,↓vS,vT,simprocAttr];refine(c1 t.arg ht.a0 ht.a1).sc ?_;simp only[↓vS,vT,simprocAttr,s1];refine(c2 t.arg ht.a0 ht.a1).sc ?_;simp only[↓vS,vT,simprocAttr,s1];refine(c3 t.mask ht.m0 ht.m1).sc ?_;simp only[↓vS,vT,simprocAttr,s1];refine(c3 t.val ht.v0 ht.v1).sc ?_;simp only[↓vS,vT,simprocAttr,s1];refine qvP c4 W.ld W.put W.jmp W.here w2 _ _ _ hX (by omega) λκ3 s3 t3 st3 w3=>?_
 simp only[↓vS,vT,simprocAttr];have l3:(RV++qdJ (16+8*t.arg+0) (loW t.mask) (loW t.val) RV.length (RV.length+qbV t)).length=RV.length+qb0 (loW t.mask):=by rw[zzP,qb7]
 have n1:=qiZ (m:=loW t.mask);have n2:=qiZ (m:=hiW t.mask);refine qvP c4 W.ld W.put W.jmp W.here w3 _ _ _ (st3.lab _ _ _ hX) (by rw[l3];omega) λκ4 s4 t4 st4 w4=>?_
 rw[l3]at w4
 have g4:t4.get s=some (.v [.j t.arg,.x t.mask,.x t.val,.w t.act]):=by
  rw[((st3.trans st4).fr s hf).2,Tr.get_set,if_neg (by omega),Tr.get_set,if_pos rfl]
 simp only[↓vS,vT,simprocAttr,g4];refine qnf W.ret W.put w4 t.act (by grind[qb7]) λκ5 s5 t5 st5 w5=>?_
 simp only[↓vS,vT,simprocAttr]
 have e5:RV++qdJ (16+8*t.arg+0) (loW t.mask) (loW t.val) RV.length (RV.length+qbV t)++qdJ (16+8*t.arg+4) (hiW t.mask) (hiW t.val) (RV.length+qb0 (loW t.mask)) (RV.length+qbV t)++[⟨6,t.act,0,0⟩]=RV++qif t RV.length:=by
  simp[qif]
 rw[e5]at w5;refine qaT W.here w5 (p:=false) (by rw[zzP,qfA];exact((st3.trans st4).trans st5).lab _ _ _ hX) λt6 q1 q2 w6=>?_
 simp only[↓vS,vT,simprocAttr];exact hk _ _ _ ((((st2.trans st3).trans st4).trans st5).kd h.dom (by omega) q1 q2 (by simp)) w6
end
def qcn:List GTest->Int->Nat->List Sy
 | [],a,_=>[⟨6,a,0,0⟩]
 | t::ts,a,p=>qif t p++if t.mask=0 then []else qcn ts a (p+qbV t)
def qtT(r:GRule)(p:Nat):List Sy:=qcn r.tests r.act p
section
variable {g w s gl gp gj gh gr g1 g2 g3 g4 g5:Nat} {κ:Nat->Kd} {tr:Tr Blk} {RV:List Sy} {N:List Nat} {k:AV->Hp->Prop}
def qaU(a b:Nat):IFn:=⟨[],sq [.r [.q 3 (.box (.t 1))],sq [.r [.f 6 1 3,.d 7 6,.e 8 7,.m 9 (.k 0)],.blk 0 (.loop (sq [.r [.s 10 9 8],.cond (.t 10) (.skip) (.exit 0),.blk 1 (sq [.r [.i 11 4 7 9,.v 12 4 11,.q 5 (.alloc [.j 0,.x 0,.x 0,.w 0]),.u (.store 4 (.t 5) (.t 12))],.r [.n 13 0,.v 14 4 5,.l 15 a [.t 13,.t 14]],.r [.f 16 1 5,.d 17 16,.q 18 (.bin .eql (.t 17) (.c (.x 0)))],.cond (.t 18) (.ret) (.skip)]),.r [.a 19 9 1,.n 9 19]]))],.r [.n 20 0,.f 21 2 3,.d 22 21,.l 23 b [.t 20,.t 22]]]⟩
def qEA(hc:qc P f (qaU g5 gr)=true)(W:WFn P g gl gp gj gh gr)(h5:qc P g5 (jy g1 g2 g3 g4 gr gh)=true)(c1:qsG P g1 0)(c2:qsG P g2 4)(c3:qyB P g3)(c4:qc P g4 (xE gl gp gj gh)=true)
  (h:WI g w κ s tr RV N) (r:GRule) (ht:∀t ∈ r.tests,TstOk t) (hm:RV.length+r.tests.length*7+1<=1000000)
  (hk:∀κ' s' tr',Stp [] κ s tr κ' s' tr'->WI g w κ' s' tr' (RV++qtT r RV.length) N->k (.tup []) ⟨s',0,tr'⟩):SC P f [.ptr w 0,.agg (zu r)] ⟨s,0,tr⟩ k:=by
 refine SC.mk hc (qk ?_);simp only[qaU,zu,vI,simprocAttr];simp +decide only[↓vS,vT,simprocAttr];have w1:=h.new .fr (.v [.w r.nr,.fz r.tests.length (rT r.tests),.w r.act]) (.inr (.inl rfl));have st1:=h.stpNew .fr (.v [.w r.nr,.fz r.tests.length (rT r.tests),.w r.act]) (by simp)
 refine SL.loopP (α:=Nat) (λi=>[(0,.ptr w 0),(3,.ptr s 0),(7,.fz r.tests.length (rT r.tests)),(8,.j (r.tests.length:Int)),(9,.j (i:Int))])
  (λi h=>i<=r.tests.length/\∃κ' s' tr' RV',h=⟨s',0,tr'⟩/\Stp [] (kdS κ s .fr) (s+1) (tr.set s (.v [.w r.nr,.fz r.tests.length (rT r.tests),.w r.act])) κ' s' tr'/\WI g w κ' s' tr' RV' N /\
   RV'++qcn (r.tests.drop i) r.act RV'.length=RV++qtT r RV.length/\RV'.length<=RV.length+i*7) (λi=>r.tests.length-i) ?_ 0 ?_ ?_
 .rintro i h1 ⟨hi,κ',s',tr',RV',rfl,st,w',he,hl⟩ G ih;simp only[vI,simprocAttr]
  have gs:tr'.get s=some (.v [.w r.nr,.fz r.tests.length (rT r.tests),.w r.act]):=by
   rw[(st.fr s qF).2,Tr.get_set,if_pos rfl]
  by_cases hlt:i<r.tests.length
  .have hlt':(i:Int)<r.tests.length:=by omega
   obtain⟨t,hti⟩:∃t,r.tests[i]?=some t:=⟨_,zzE hlt⟩;have hel:=qr4 hti;have h4:i*4+4<=(rT r.tests).length:=by rw[qeZ];omega
   have hd:r.tests.drop i=t::r.tests.drop (i+1):=by rw[<- (zzS.1 hti).2,List.getElem_cons_drop]
   rw[hd]at he;have hw1:IntKind.wrap .i64 ((i:Int)+1)=((i+1:Nat):Int):=by rw[qp (by omega) (by omega)];simp
   simp +decide only[↓vS,vT,simprocAttr,hlt',hlt,h4,hel,jz];have wa:=w'.new .fr (.v [.j 0,.x 0,.x 0,.w 0]) (.inr (.inl rfl));have wb:=wa.chg (b:=s') .fr (.v (jz t)) (.inl qF) (by omega) (.inr (.inl rfl));refine qEX h5 W c1 c2 c3 c4 wb t (by grind) (by omega) λκ2 s2 t2 st2 w2=>?_
   have fb:=st2.fr s' qF
   have gb:t2.get s'=some (.v [.j t.arg,.x t.mask,.x t.val,.w t.act]):=by
    rw[fb.2,Tr.get_set,if_pos rfl];rfl
   have ss:s<s':=by have:=st.le;omega
   have st3:Stp [] κ' s' tr' κ2 s2 t2:=by
    refine Stp.trans (L:=[]) ?_ st2;refine⟨by omega,λb hb=>?_,λb hb=>?_,λb F p hb=>?_,λb F hb=>.inl ?_⟩
    rotate_left 3
    .simp only[kdS]at hb
     repeat' split at hb
     all_goals first|(cases hb;done)|exact hb
    all_goals have hbs:b<s':=w'.dom b (by rw[hb];simp)
    all_goals grind[qj,Tr.get_set]
   simp +decide only[↓vS,vT,simprocAttr,gb];unfold qcn at he
   by_cases hm0:t.mask=0
   .rw[if_pos hm0,List.append_nil]at he;simp +decide only[↓vS,vT,simprocAttr,hm0];rw[he]at w2;exact hk _ _ _ (st1.trans (st.trans st3)) w2
   .rw[if_neg hm0]at he;simp +decide only[↓vS,vT,simprocAttr,hm0,hw1];refine ih (i+1) _ _ (by omega) ?_ ⟨by omega,κ2,s2,t2,_,rfl,st.trans st3,w2,?_,?_⟩
    .simp[qg,ql,Tr.get_set]
    all_goals grind[qfA,qp1]
  .obtain rfl:i=r.tests.length:=by omega
   have hlt':¬((r.tests.length:Int)<r.tests.length):=by omega
   rw[List.drop_length]at he;simp +decide only[↓vS,vT,simprocAttr,hlt',gs];refine qnf W.ret W.put w' r.act (by omega) λκ2 s2 t2 st2 w2=>?_
   simp +decide only[↓vS,vT,simprocAttr];unfold qcn at he;rw[he]at w2;exact hk _ _ _ (st1.trans (st.trans st2)) w2
 .simp[qg,ql,Tr.get_set]
 .exact⟨Nat.zero_le _,_,_,_,RV,rfl,.refl,w1,rfl,by simp⟩
end
def jL(a:Int):Nat:=if a=0 then 4 else if a=2 then 4 else 3
def qbe(a:Int)(p F:Nat):List Sy :=
 [⟨32,4,0,0⟩,⟨21,qdj a,p+2,F⟩,⟨32,0,0,0⟩]++if a=0 then [⟨69,1073741824,F,p+4⟩]else if a=2 then [⟨69,1073741824,p+4,F⟩]else []
theorem qaB{a:Int}{p F:Nat}:(qbe a p F).length=jL a:=by unfold qbe jL;grind
def qrN{a:Int}:jL a<=4:=by unfold jL;grind
def qqk(P:Program)(f:Nat):Prop:=∀a:Int,0<=a->a<6->qa P f [.j a] (.tup [.w (qdj a),.j 0])
section
variable {g w s gl gp gj gh gr g1 g2 g3 g4 g5:Nat} {κ:Nat->Kd} {tr:Tr Blk} {RV:List Sy} {N:List Nat} {k:AV->Hp->Prop}
def qa7(a b c d:Nat):IFn:=⟨[],sq [.r [.q 10 (.build [.j 0] []),.q 11 (.box (.t 10)),.q 12 (.build [.j 0] []),.q 13 (.box (.t 12)),.n 6 11,.n 7 13],.r [.n 15 1,.l 16 a [.t 15],.n 14 16,.x 17 14 0,.x 18 14 1,.n 8 17,.n 9 18],.r [.n 19 0,.l 20 b [.t 19,(.c (.w 4))]],.r [.n 21 0,.n 22 8,.n 23 6,.n 24 2,.l 25 c [.t 21,(.c (.h 21)),.t 22,.t 23,.t 24]],.r [.n 26 0,.n 27 6,.l 28 d [.t 26,.t 27]],.r [.n 29 0,.l 30 b [.t 29,(.c (.w 0))]],sq [.r [.n 31 1],.blk 0 (sq [.r [.w 33 .eql 31 0,.n 32 33],.cond (.t 32) (.r [.n 34 0,.n 35 2,.n 36 7,.l 37 c [.t 34,(.c (.h 69)),(.c (.w 1073741824)),.t 35,.t 36]]) (sq [.r [.w 39 .eql 31 2,.n 38 39],.cond (.t 38) (.r [.n 40 0,.n 41 7,.n 42 2,.l 43 c [.t 40,(.c (.h 69)),(.c (.w 1073741824)),.t 41,.t 42]]) (.skip)])])],.r [.n 44 0,.n 45 7,.l 46 d [.t 44,.t 45]]]⟩
def qHy(hc:qc P f (qa7 g1 gl gj gh)=true)(W:WFn P g gl gp gj gh gr)(c1:qqk P g1)
  (h:WI g w κ s tr RV N) (a:Int) (h0:0<=a) (h6:a<6) {X F:Nat} {p:Bool} (hX:κ X = .lab F p) (hm:RV.length+4<=1000000)
  (hk:∀κ' s' tr',Stp [] κ s tr κ' s' tr'->WI g w κ' s' tr' (RV++qbe a RV.length F) N->k (.tup []) ⟨s',0,tr'⟩):SC P f [.ptr w 0,.j a,.ptr X 0] ⟨s,0,tr⟩ k:=by
 refine SC.mk hc (qk ?_);simp only[qa7,vI,simprocAttr];simp +decide only[↓vS,vT,simprocAttr];have w1:=h.new (.lab (RV.length+2) false) _ (.inr (.inr (.inr ⟨_,rfl,rfl⟩)));have w2:=w1.new (.lab (RV.length+jL a) false) _ (.inr (.inr (.inr ⟨_,rfl,rfl⟩)));have st2:=(h.stpLab (.lab (RV.length+2) false) (.v [.j 0])).trans (w1.stpLab (.lab (RV.length+jL a) false) (.v [.j 0]));have hon:kdS (kdS κ s (.lab (RV.length+2) false)) (s+1) (.lab (RV.length+jL a) false) s = .lab (RV.length+2) false:=by rw[qj (by omega),qF]
 have hbit:=qF (κ:=kdS κ s (.lab (RV.length+2) false)) (b:=s+1) (x:=.lab (RV.length+jL a) false);have hX2:=st2.lab X F p hX;have hXs:X<s:=h.dom X (by rw[hX];simp);refine(c1 a h0 h6).sc ?_;simp only[↓vS,vT,simprocAttr];refine qlO W.ld W.put w2 4 (by omega) λκ3 s3 t3 st3 w3=>?_
 simp only[↓vS,vT,simprocAttr];refine qeS W.jmp W.put w3 ⟨21,qdj a,RV.length+2,F⟩ (st3.lab _ _ _ hon) (.inr ⟨(by decide:(21:Int)≠5),X,p,rfl,st3.lab _ _ _ hX2⟩) (by grind) λκ4 s4 t4 st4 w4=>?_
 simp only[↓vS,vT,simprocAttr];have st34:=st3.trans st4;refine qaT W.here w4 (p:=false) (b:=s) (by rw[st34.lab _ _ _ hon];simp) λt5 q1 q2 w5=>?_
 simp only[↓vS,vT,simprocAttr];have st5:=(st2.trans st34).kd h.dom (zzL s) (F':=(RV++[(⟨32,4,0,0⟩:Sy)]++[(⟨21,qdj a,RV.length+2,F⟩:Sy)]).length) (L':=[s+1]) q1 q2 (by simp);refine qlO W.ld W.put w5 0 (by grind) λκ6 s6 t6 st6 w6=>?_
 simp only[↓vS,vT,simprocAttr];have hX6:κ6 X = .lab F p:=(st5.trans st6).lab _ _ _ hX;have hb6:κ6 (s+1) = .lab (RV.length+jL a) false:=st6.lab _ _ _ (by rw[qj (by omega)];exact st34.lab _ _ _ hbit)
 have st56:=st5.trans st6
 by_cases a0:a=0
 .subst a0;simp +decide only[↓vS,vT,simprocAttr];refine qeS W.jmp W.put w6 ⟨69,1073741824,F,RV.length+4⟩ hX6 (.inr ⟨(by decide:(69:Int)≠5),s+1,false,rfl,hb6⟩) (by grind) λκ7 s7 t7 st7 w7=>?_
  simp only[↓vS,vT,simprocAttr];refine qaT W.here w7 (p:=false) (by rw[st7.lab _ _ _ hb6];simp[jL]) λt8 q1 q2 w8=>?_
  simp only[↓vS,vT,simprocAttr];have e:RV++[⟨32,4,0,0⟩]++[⟨21,qdj 0,RV.length+2,F⟩]++[⟨32,0,0,0⟩]++[⟨69,1073741824,F,RV.length+4⟩]=RV++qbe 0 RV.length F:=by simp[qbe]
  rw[e]at w8;exact hk _ _ _ ((st56.trans st7).kd h.dom (by omega) q1 q2 (by simp)) w8
 .by_cases a2:a=2
  .subst a2;simp +decide only[↓vS,vT,simprocAttr];refine qeS W.jmp W.put w6 ⟨69,1073741824,RV.length+4,F⟩ hb6 (by simp_all) (by grind) λκ7 s7 t7 st7 w7=>?_
   simp only[↓vS,vT,simprocAttr];refine qaT W.here w7 (p:=false) (by rw[st7.lab _ _ _ hb6];simp[jL]) λt8 q1 q2 w8=>?_
   simp only[↓vS,vT,simprocAttr];have e:RV++[⟨32,4,0,0⟩]++[⟨21,qdj 2,RV.length+2,F⟩]++[⟨32,0,0,0⟩]++[⟨69,1073741824,RV.length+4,F⟩]=RV++qbe 2 RV.length F:=by simp[qbe]
   rw[e]at w8;exact hk _ _ _ ((st56.trans st7).kd h.dom (by omega) q1 q2 (by simp)) w8
  .simp +decide only[↓vS,vT,simprocAttr,a0,a2];refine qaT W.here w6 (p:=false) (by rw[hb6];simp[jL,a0,a2]) λt8 q1 q2 w8=>?_
   simp only[↓vS,vT,simprocAttr];have e:RV++[⟨32,4,0,0⟩]++[⟨21,qdj a,RV.length+2,F⟩]++[⟨32,0,0,0⟩]=RV++qbe a RV.length F:=by simp[qbe,a0,a2]
   rw[e]at w8
   grind[Stp.kd,WI.dom]
end
structure Nd where
 leaf:Bool
 way:Nat
 at':Int
 less:Nat
 more:Nat
def cNd(n:Nd):List AV:=[.b n.leaf,.j (n.way:Int),.w n.at',.j (n.less:Int),.j (n.more:Int)]
def qkN(n:Nd):(cNd n).length=5:=rfl
def rNd(l:List Nd):List AV:=l.flatMap cNd
def qk3{l:List Nd}:(rNd l).length=l.length*5:=qW qkN l
def xm(T:List Nd):Nat:=T.countP λn=>!n.leaf
def plc(FW:Nat->Nat)(T:List Nd)(b i:Nat):Nat:=match T[i]? with|some n=>if n.leaf=true then FW n.way else b+xm (T.take i)|none=>0
def qjZ(FW:Nat->Nat)(T:List Nd)(b:Nat)(n:Nd):List Sy:=if n.leaf=true then []else [⟨53,n.at',plc FW T b n.more,plc FW T b n.less⟩]
def brE(FW:Nat->Nat)(T:List Nd)(b:Nat)(l:List Nd):List Sy:=l.flatMap (qjZ FW T b)
def qq9{FW:Nat->Nat}{T:List Nd}{b:Nat}{l:List Nd}:(brE FW T b l).length=xm l:=by
 induction l with
 | nil=>rfl
 | cons n l ih =>
  simp only[brE,List.flatMap_cons,zzP,xm,List.countP_cons]at ih ⊢;rw[ih];unfold qjZ;cases n.leaf<;>simp;omega
def jaE(FW:Nat->Nat):List Nd->List Sy
 | n::_=>if n.leaf=true then [⟨5,0,FW n.way,0⟩]else []
 | []=>[]
def xv(FW:Nat->Nat)(T:List Nd)(p:Nat):List Sy:=jaE FW T++brE FW T (p+(jaE FW T).length) T
structure NdOk (m n:Nat) (x:Nd):Prop where
 way:x.leaf=true->x.way<m
 less:x.less<n
 more:x.more<n
def rPt(l:List Nat):List AV:=l.map λb=>.ptr b 0
def qfV{l:List Nat}{j:Nat}:(rPt l)[j]?=(l[j]?).map λb=>.ptr b 0:=by simp[rPt]
theorem qhB{l:List Nat}:(rPt l).length=l.length:=by simp[rPt]
section
variable {g w s gl gp gj gh gr g1 g2 g3 g4 g5:Nat} {κ:Nat->Kd} {tr:Tr Blk} {RV:List Sy} {N:List Nat} {k:AV->Hp->Prop}
def WI.congr{t2:Tr Blk}(h:WI g w κ s tr RV N)(e:∀b,t2.get b=tr.get b):WI g w κ s t2 RV N:=by
 obtain⟨bl,bt,cs,js,r1,r2,r3,r4,r5,r6,r7,r8,r9⟩:=h.rows;exact⟨h.dom,⟨bl,bt,cs,js,r1,r2,r3,(e w).trans r4,(e bl).trans r5,(e bt).trans r6,r7.mono (by simp_all) (by simp_all) (λ_ _ q=>q),r8,r9⟩,λb F p hb=>by rw[e b];exact h.lab b F p hb⟩
def Stp.congr{L:List Nat}{κ1:Nat->Kd}{s1:Nat}{t1 t2:Tr Blk}(h:Stp L κ s tr κ1 s1 t1)(e:∀b,t2.get b=t1.get b):Stp L κ s tr κ1 s1 t2 :=
 ⟨h.le,by grind[Stp.fr],by grind[Stp.box],h.lab,h.nw⟩
def qpa{t:Tr Blk}{b:Nat}{x y:Blk}(c:Nat):((t.set b x).set b y).get c=(t.set b y).get c:=by
 simp_all[Tr.get_set]
def WI.var(h:WI g w κ s tr RV N)(x y:Blk):WI g w (kdS κ s .fr) (s+1) ((tr.set s x).set s y) RV N/\Stp [] κ s tr (kdS κ s .fr) (s+1) ((tr.set s x).set s y) :=
 ⟨(h.new .fr y (.inr (.inl rfl))).congr qpa,(h.stpNew .fr y (by simp)).congr qpa⟩
theorem Stp.nil{L:List Nat}{κ1:Nat->Kd}{s1:Nat}{t1:Tr Blk}(h:Stp L κ s tr κ1 s1 t1)(hL:∀c,c ∉ L):Stp [] κ s tr κ1 s1 t1 :=
 { h with nw:=λb F hb=>(h.nw b F hb).imp id (by simp_all) }
def qbt{α:Type}{l:List α}{j:Nat}{x:α}(h:l[j]?=some x):l.take (j+1)=l.take j++[x]:=by rw[List.take_add_one,h];rfl
def qpL{T:List Nd}{j:Nat}{x:Nd}(h:T[j]?=some x):((rNd T).drop (j*5)).take 5=cNd x:=qS qkN h
def qAf{T:List Nd}{j:Nat}{x:Nd}(h:T[j]?=some x){i:Nat}(hi:i<5):(rNd T)[j*5+i]?=(cNd x)[i]?:=qcz qkN h hi
def ju(a b:Nat):ICode:=sq [.r [.n 46 1,.e 47 46,.m 48 (.k 0)],.blk 2 (.loop (sq [.r [.s 49 48 47],.cond (.t 49) (.skip) (.exit 2),.blk 3 (sq [.r [.n 50 48,.i 51 5 46 48,.v 52 5 51,.q 10 (.alloc [.b false,.j 0,.w 0,.j 0,.j 0]),.n 9 50,.u (.store 5 (.t 10) (.t 52))],.r [.f 53 0 10,.d 54 53,.q 55 (.un .not (.t 54))],.cond (.t 55) (sq [.r [.n 56 0,.n 57 6,.n 58 9,.i 59 1 57 58,.d 60 59,.l 61 b [.t 56,.t 60]],.reg true [.n 62 0,.f 63 2 10,.d 64 63,.n 65 6,.f 66 4 10,.d 67 66,.i 68 1 65 67,.d 69 68,.n 70 6,.f 71 3 10,.d 72 71,.i 73 1 70 72,.d 74 73,⟨(some 75),.callW a [.t 62,(.c (.h 53)),.t 64,.t 69,.t 74],none⟩]]) (.skip)]),.r [.a 76 48 1,.n 48 76]]))]
def jr(a b:Nat):ICode:=sq [sq [.r [.n 37 1,.q 38 (.iAddrS 5 (.t 37) (.k 0)),.f 39 0 38,.d 40 39],.cond (.t 40) (.r [.n 41 0,.n 42 6,.q 43 (.iAddrS 1 (.t 42) (.k 0)),.d 44 43,⟨(some 45),.callW a [.t 41,(.c (.h 5)),(.c (.w 0)),.t 44,(.c (.nilp))],none⟩]) (.skip)],.cut (ju a b)]
def qab(a b:Nat):IFn:=⟨[],sq [.r [.n 11 1,.e 12 11,.q 13 (.mkS 1 8 [.nilp] (.t 12) (.t 12)),.n 6 13],sq [.r [.n 14 1,.e 15 14,.m 16 (.k 0)],.blk 0 (.loop (sq [.r [.s 17 16 15],.cond (.t 17) (.skip) (.exit 0),.blk 1 (sq [.r [.n 18 16,.i 19 5 14 16,.v 20 5 19,.q 8 (.alloc [.b false,.j 0,.w 0,.j 0,.j 0]),.n 7 18,.u (.store 5 (.t 8) (.t 20))],.r [.n 21 6,.n 22 7,.q 23 (.build [.j 0] []),.q 24 (.box (.t 23)),.i 25 1 21 22,.u (.store 1 (.t 25) (.t 24))],.r [.f 26 0 8,.d 27 26],.cond (.t 27) (.r [.n 28 6,.n 29 7,.n 30 2,.f 31 1 8,.d 32 31,.i 33 1 30 32,.d 34 33,.i 35 1 28 29,.u (.store 1 (.t 35) (.t 34))]) (.skip)]),.r [.a 36 16 1,.n 16 36]]))],.cut (jr a b)]⟩
def qmH{n0 m s1 bp:Nat}{t1:Tr Blk}{κ1:Nat->Kd}{L:List Nat}(W:WFn P g gl gp gj gh gr)(T:List Nd)(hok:∀x ∈ T,NdOk m T.length x)(FW:Nat->Nat)(pl:List Nat)(hpl:pl.length=T.length)
  (h:WI g w κ1 s1 t1 RV N) (st:Stp L κ s tr κ1 s1 t1) (hd:∀b,κ b≠.no->b<s) (hkl:∀(j:Nat) c,pl[j]?=some c->∃p,κ1 c = .lab (plc FW T RV.length j) p)
  (hL:∀c ∈ L,∃(j:Nat) (nd:Nd),T[j]?=some nd/\nd.leaf=false/\pl[j]?=some c) (hnew:∀(j:Nat) c nd,T[j]?=some nd->nd.leaf=false->pl[j]?=some c->s<=c) (hbp:κ1 bp = .fr) (gbp:t1.get bp=some (.v (rPt pl)))
  (hm:RV.length+T.length<=1000000) {t:Tr AV} (ht:Has t [(0,.ptr w 0),(1,.fz T.length (rNd T)),(6,.sl bp 0 T.length T.length false)])
  (hk:∀κ' s' tr',Stp [] κ s tr κ' s' tr'->WI g w κ' s' tr' (RV++brE FW T RV.length T) N->k (.tup []) ⟨s',0,tr'⟩):S P n0 (ju gj gh) (xu [] k) t ⟨s1,0,t1⟩:=by
 refine S.has _ ht (qk ?_);simp only[ju,vI,simprocAttr];simp +decide only[↓vS,vT,simprocAttr]
 refine SL.loopP (α:=Nat) (λi=>[(0,.ptr w 0),(6,.sl bp 0 T.length T.length false),(46,.fz T.length (rNd T)),(47,.j (T.length:Int)),(48,.j (i:Int))])
  (λi h=>i<=T.length/\∃L' κ' s' tr',h=⟨s',0,tr'⟩/\Stp L' κ s tr κ' s' tr'/\WI g w κ' s' tr' (RV++brE FW T RV.length (T.take i)) N/\(∀(j:Nat) c,pl[j]?=some c->∃p,κ' c = .lab (plc FW T RV.length j) p) /\
   (∀c ∈ L',∃(j:Nat) (nd:Nd),i<=j/\T[j]?=some nd/\nd.leaf=false/\pl[j]?=some c)/\κ' bp = .fr/\tr'.get bp=some (.v (rPt pl))) (λi=>T.length-i) ?_ 0 ?_ ?_
 .rintro i h1 ⟨hi,L',κ',s',tr',rfl,st',w',hkl',hL',hbp',gbp'⟩ G ih;simp only[vI,simprocAttr]
  by_cases hlt:i<T.length
  .have hlt':(i:Int)<T.length:=by omega
   obtain⟨nd,hnd⟩:∃t,T[i]?=some t:=⟨_,zzE hlt⟩;obtain⟨c,hc⟩:∃t,pl[i]?=some t:=⟨_,zzE (by omega)⟩;have hel:=qpL hnd;have h5:i*5+5<=(rNd T).length:=by rw[qk3];omega
   have hw1:IntKind.wrap .i64 ((i:Int)+1)=((i+1:Nat):Int):=by rw[qp (by omega) (by omega)];simp
   have hbs:bp<s':=w'.dom bp (by rw[hbp'];simp);have hbs':¬bp=s':=by omega
   obtain⟨wv,sv⟩:=w'.var (.v [.b false,.j 0,.w 0,.j 0,.j 0]) (.v (cNd nd));have hbpv:=sv.fr bp hbp';have hklv:∀(j:Nat) c,pl[j]?=some c->∃p,kdS κ' s' .fr c = .lab (plc FW T RV.length j) p:=λj c hj=>let ⟨p,q⟩:=hkl' j c hj;⟨p,sv.lab c _ p q⟩
   have hok':=hok nd (by grind);have hge:(rPt pl)[i]?=some (.ptr c 0):=by rw[qfV,hc];rfl
   have hts:=qbt hnd;cases hl:nd.leaf with
   | true =>
    simp +decide only[↓vS,vT,simprocAttr,hlt',hlt,h5,hel,cNd,hl,hw1];refine ih (i+1) _ _ (by omega) ?_ ⟨by omega,L',kdS κ' s' .fr,s'+1,_,rfl,?_,?_,hklv,?_,hbpv.1,?_⟩
    .simp[qg,ql,Tr.get_set]
    .have:=st'.trans sv;simp only[cNd,hl,List.append_nil]at this;omega
    .rw[hts];have:brE FW T RV.length (T.take i++[nd])=brE FW T RV.length (T.take i):=by simp[brE,qjZ,hl]
     rw[this];simp only[cNd,hl]at wv;exact wv
    .grind
    .have:=hbpv.2.trans gbp';simp only[cNd,hl]at this;omega
   | false =>
    simp only[cNd,hl]at wv sv
    have hpi:plc FW T RV.length i=(RV++brE FW T RV.length (T.take i)).length:=by
     rw[zzP,qq9];simp[plc,hnd,hl]
    obtain⟨pc,hpc⟩:=hklv i c hc;rw[hpi]at hpc;simp +decide only[↓vS,vT,simprocAttr,hlt',hlt,h5,hel,cNd,hl,hw1,hbs',gbp',hge,zzU];refine qaT W.here wv hpc λt4 q1 q2 w4=>?_
    have hsv:kdS κ' s' .fr s' = .fr:=qF;have g4:=q1 s' hsv;rw[Tr.get_set,if_pos rfl]at g4;have g5:=(q1 bp hbpv.1).trans (sv.fr bp hbp').2;rw[gbp']at g5;obtain⟨cm,hcm⟩:∃t,pl[nd.more]?=some t:=⟨_,zzE (by rw[hpl];exact hok'.more)⟩;obtain⟨cl,hcl⟩:∃t,pl[nd.less]?=some t:=⟨_,zzE (by rw[hpl];exact hok'.less)⟩;have gm:(rPt pl)[nd.more]?=some (.ptr cm 0):=by rw[qfV,hcm];rfl
    have gl':(rPt pl)[nd.less]?=some (.ptr cl 0):=by rw[qfV,hcl];rfl
    have hcs:s<=c:=by grind
    -- the labels are zy before,but this one has its place
    have hkl4:∀(j:Nat) c',pl[j]?=some c'->∃p,kdS (kdS κ' s' .fr) c (.lab (RV++brE FW T RV.length (T.take i)).length true) c' = .lab (plc FW T RV.length j) p:=λj c' hj=>by
     obtain⟨p,hp⟩:=hklv j c' hj
     by_cases e:c'=c
     .rw[e]at hp;have hF:=(Kd.lab.inj (hpc.symm.trans hp)).1;exact⟨true,by rw[e,qF,hF]⟩
     grind[qj]
    have hbpc:bp≠c:=λe=>by rw[<- e,hbpv.1]at hpc;grind
    have st4:Stp (L'.filter λx=>decide (x≠c)) κ s tr (kdS (kdS κ' s' .fr) c (.lab (RV++brE FW T RV.length (T.take i)).length true)) (s'+1) t4 :=
     (st'.trans sv).kd hd hcs q1 q2 λx hx=>by
      grind
    obtain⟨pm,hpm⟩:=hkl4 _ _ hcm;obtain⟨pq,hpq⟩:=hkl4 _ _ hcl
    obtain⟨κ5,s5,t5,st5,w5,hj5⟩:=qv3 W.jmp W.put w4 ⟨53,nd.at',plc FW T RV.length nd.more,plc FW T RV.length nd.less⟩ hpm (.inr ⟨(by decide:(53:Int)≠5),cl,pq,rfl,hpq⟩) (by
     rw[<- hpi];have:xm (T.take i)<=T.length:=Nat.le_trans List.countP_le_length (by rw[List.length_take];omega);simp only[plc,hnd,hl];grind)
    have hmT:nd.more<T.length:=hok'.more;have hlT:nd.less<T.length:=hok'.less;have hb4:=st5.fr bp (by rw[qj hbpc];grind);simp +decide only[↓vS,vT,simprocAttr];refine zB ?_;simp +decide only[↓vS,vT,simprocAttr,g4,g5,gm,gl',hmT,hlT,zzU];refine⟨.tup [],_,hj5,?_⟩;simp +decide only[↓vS,vT,simprocAttr,hw1];refine ih (i+1) _ _ (by omega) ?_ ⟨by omega,_,κ5,s5,t5,rfl,st4.trans st5,?_,λj c' hj=>?_,?_,hb4.1,hb4.2.trans g5⟩
    .simp[qg,ql,Tr.get_set]
    .rw[hts];have:brE FW T RV.length (T.take i++[nd])=brE FW T RV.length (T.take i)++[⟨53,nd.at',plc FW T RV.length nd.more,plc FW T RV.length nd.less⟩]:=by simp[brE,qjZ,hl]
     rw[this,<- List.append_assoc];exact w5
    .obtain⟨p,hp⟩:=hkl4 j c' hj;exact⟨p,st5.lab _ _ _ hp⟩
    .intro c' hc';rw[List.append_nil,List.mem_filter,decide_eq_true_eq]at hc';obtain⟨j,nd',q1,q2,q3,q4⟩:=hL' c' hc'.1
     grind
  .obtain rfl:i=T.length:=by omega
   have hlt':¬((T.length:Int)<T.length):=by omega
   simp +decide only[↓vS,vT,simprocAttr,hlt'];rw[List.take_length]at w'
   grind[Stp.nil]
 .simp[qg,ql,Tr.get_set]
 .refine⟨Nat.zero_le _,L,κ1,s1,t1,rfl,st,?_,hkl,λc hc=>?_,hbp,gbp⟩
  .simpa[brE]using h
  simp_all
def Stp.mod{L:List Nat}{κ1:Nat->Kd}{s1:Nat}{t1:Tr Blk}(h:Stp L κ s tr κ1 s1 t1)(hd:∀b,κ b≠.no->b<s){b:Nat}(hb:s<=b)(x:Blk):Stp L κ s tr (kdS κ1 b .fr) s1 (t1.set b x):=by
 have ne:∀{c},κ c≠.no->c≠b:=by grind
 refine⟨h.le,λc hc=>?_,λc hc=>?_,λc F p hc=>?_,λc F hc=>?_⟩
 .have e:=ne (c:=c) (by rw[hc];simp);rw[qj e,Tr.get_set,if_neg e];exact h.fr c hc
 .have e:=ne (c:=c) (by rw[hc];simp);rw[qj e,Tr.get_set,if_neg e];exact h.box c hc
 .rw[qj (by simp_all)];exact h.lab c F p hc
 grind[qF,qj,Stp.nw]
def qsD{n0 m s1 bp:Nat}{t1:Tr Blk}{κ1:Nat->Kd}{L:List Nat}(W:WFn P g gl gp gj gh gr)(T:List Nd)(hT:T≠[])(hok:∀x ∈ T,NdOk m T.length x)(FW:Nat->Nat)(pl:List Nat)(hpl:pl.length=T.length)
  (h:WI g w κ1 s1 t1 RV N) (st:Stp L κ s tr κ1 s1 t1) (hd:∀b,κ b≠.no->b<s) (hkl:∀(j:Nat) c,pl[j]?=some c->∃p,κ1 c = .lab (plc FW T (RV.length+(jaE FW T).length) j) p)
  (hL:∀c ∈ L,∃(j:Nat) (nd:Nd),T[j]?=some nd/\nd.leaf=false/\pl[j]?=some c) (hnew:∀(j:Nat) c nd,T[j]?=some nd->nd.leaf=false->pl[j]?=some c->s<=c) (hbp:κ1 bp = .fr) (gbp:t1.get bp=some (.v (rPt pl)))
  (hm:RV.length+T.length+1<=1000000) {t:Tr AV} (ht:Has t [(0,.ptr w 0),(1,.fz T.length (rNd T)),(6,.sl bp 0 T.length T.length false)])
  (hk:∀κ' s' tr',Stp [] κ s tr κ' s' tr'->WI g w κ' s' tr' (RV++xv FW T RV.length) N->k (.tup []) ⟨s',0,tr'⟩):S P n0 (jr gj gh) (xu [] k) t ⟨s1,0,t1⟩:=by
 refine S.has _ ht (qk ?_);have hn0:0<T.length:=by grind
 obtain⟨x0,hx0⟩:∃x,T[0]?=some x:=⟨_,zzE hn0⟩;obtain⟨c0,hc0⟩:∃c,pl[0]?=some c:=⟨_,zzE (by omega)⟩
 have g0:(rNd T)[0]?=some (.b x0.leaf):=by
  have:=qAf hx0 (i:=0) (by omega);rw[Nat.zero_mul]at this;exact this
 have ge0:(rPt pl)[0]?=some (.ptr c0 0):=by rw[qfV,hc0];rfl
 have hja:jaE FW T=if x0.leaf=true then [⟨5,0,FW x0.way,0⟩]else []:=by
  cases T with
  | nil=>simp_all
  | cons a l=>simp at hx0;subst hx0;rfl
 simp only[jr,vI,simprocAttr];simp +decide only[↓vS,vT,simprocAttr,g0,hn0];cases hl0:x0.leaf with
 | true =>
  rw[hl0,if_pos rfl]at hja;simp +decide only[↓vS,vT,simprocAttr,gbp,ge0,hn0,hl0];obtain⟨p,hp⟩:=hkl 0 c0 hc0;have hp':κ1 c0 = .lab (FW x0.way) p:=by rw[hp];simp[plc,hx0,hl0]
  refine qeS W.jmp W.put h ⟨5,0,FW x0.way,0⟩ hp' (by simp_all) (by omega) λκ2 s2 t2 st2 w2=>?_
  simp +decide only[↓vS,vT,simprocAttr];rw[<- hja]at w2;have hb2:=st2.fr bp hbp;refine qmH W T hok FW pl hpl w2 (st.trans st2) hd (λj c hj=>?_) (by rw[List.append_nil];exact hL) hnew hb2.1 (hb2.2.trans gbp) (by rw[zzP,hja];grind) ?_ λκ' s' tr' q1 q2=>hk κ' s' tr' q1 ?_
  .obtain⟨p,hp⟩:=hkl j c hj;rw[zzP];exact⟨p,st2.lab _ _ _ hp⟩
  .simp[qg,ql,Tr.get_set]
  .rw[zzP,List.append_assoc]at q2;exact q2
 | false =>
  rw[hl0,if_neg (by simp)]at hja;simp +decide only[↓vS,vT,simprocAttr,gbp,ge0,hn0,hl0];rw[hja]at hkl;refine qmH W T hok FW pl hpl h st hd hkl hL hnew hbp gbp (by omega) ?_ λκ' s' tr' q1 q2=>hk κ' s' tr' q1 ?_
  .simp[qg,ql,Tr.get_set]
  .unfold xv;rw[hja];exact q2
def qAj{pl:List Nat}{n c:Nat}(h:pl.length<n):(rPt pl++List.replicate (n-pl.length) AV.nilp).take pl.length ++ .ptr c 0::(rPt pl++List.replicate (n-pl.length) AV.nilp).drop (pl.length+1)=rPt (pl++[c])++List.replicate (n-(pl++[c]).length) AV.nilp:=by
 rw[List.take_left' qhB,show pl.length+1=(rPt pl).length+1 by rw[qhB],List.drop_length_add_append,List.drop_replicate]
 simp[rPt];omega
def qw7{pl:List Nat}{n a c:Nat}:(rPt (pl++[a])++List.replicate (n-(pl++[a]).length) AV.nilp).take pl.length ++ .ptr c 0::(rPt (pl++[a])++List.replicate (n-(pl++[a]).length) AV.nilp).drop (pl.length+1)=rPt (pl++[c])++List.replicate (n-(pl++[c]).length) AV.nilp:=by
 have e:rPt (pl++[a])++List.replicate (n-(pl++[a]).length) AV.nilp=rPt pl++(.ptr a 0::List.replicate (n-(pl++[a]).length) AV.nilp):=by simp[rPt]
 rw[e,List.take_left' qhB,show pl.length+1=(rPt pl).length+1 by rw[qhB],List.drop_length_add_append]
 simp[rPt]
def quD{e bw:Nat}{wf a:Bool}(hc:qc P f (qab gj gh)=true)(W:WFn P g gl gp gj gh gr)(T:List Nd)(hT:T≠[])(xs:List Nat)(hok:∀x ∈ T,NdOk xs.length T.length x)(FW:Nat->Nat)(V:AV)(hV:V = .sl bw 0 xs.length xs.length false\/V = .own bw xs.length)
  (h:WI g w κ s tr RV N) (hbw:κ bw = .fr) (gbw:tr.get bw=some (.cells e wf a (rPt xs))) (hx:∀(j:Nat) c,xs[j]?=some c->∃p,κ c = .lab (FW j) p) (hm:RV.length+T.length+1<=1000000)
  (hk:∀κ' s' tr',Stp [] κ s tr κ' s' tr'->WI g w κ' s' tr' (RV++xv FW T RV.length) N->k (.tup []) ⟨s',0,tr'⟩):SC P f [.ptr w 0,.fz T.length (rNd T),V] ⟨s,0,tr⟩ k:=by
 refine SC.mk hc (qk ?_);simp only[qab,vI,simprocAttr];have hr1:T.length<=qi:=by simp only[qi];omega
 have hr2:8*T.length<=qi:=by simp only[qi];omega
 simp +decide only[↓vS,vT,simprocAttr,hr1,hr2]
 refine SL.loopP (α:=Nat) (λi=>[(0,.ptr w 0),(1,.fz T.length (rNd T)),(2,V),(6,.sl s 0 T.length T.length false),(14,.fz T.length (rNd T)),(15,.j (T.length:Int)),(16,.j (i:Int))])
  (λi h=>i<=T.length/\∃pl L' κ' s' tr',pl.length=i/\h=⟨s',0,tr'⟩/\Stp L' κ s tr κ' s' tr'/\WI g w κ' s' tr' RV N/\s<s'/\(∀(j:Nat) c,pl[j]?=some c->∃p,κ' c = .lab (plc FW T (RV.length+(jaE FW T).length) j) p) /\
   (∀c ∈ L',∃(j:Nat) (nd:Nd),T[j]?=some nd/\nd.leaf=false/\pl[j]?=some c)/\(∀(j:Nat) c nd,T[j]?=some nd->nd.leaf=false->pl[j]?=some c->s<=c)/\κ' s = .fr/\tr'.get s=some (.v (rPt pl++List.replicate (T.length-pl.length) .nilp))) (λi=>T.length-i) ?_ 0 ?_ ?_
 .rintro i h1 ⟨hi,pl,L',κ',s',tr',hpl,rfl,st',w',hss,hkl',hL',hnew',hbp',gbp'⟩ G ih;simp only[vI,simprocAttr]
  by_cases hlt:i<T.length
  .have hlt':(i:Int)<T.length:=by omega
   obtain⟨nd,hnd⟩:∃t,T[i]?=some t:=⟨_,zzE hlt⟩;have hel:=qpL hnd;have h5:i*5+5<=(rNd T).length:=by rw[qk3];omega
   have hw1:IntKind.wrap .i64 ((i:Int)+1)=((i+1:Nat):Int):=by rw[qp (by omega) (by omega)];simp
   have hok':=hok nd (by grind);have n1:¬s=s':=by omega
   have n2:¬s=s'+1:=by omega
   have n3:¬s'=s'+1:=by omega
   have n4:¬s'=s:=by omega
   have n5:¬s'+1=s:=by omega
   have hll:i+1<=(rPt pl++List.replicate (T.length-pl.length) AV.nilp).length:=by grind[qhB]
   have hp1:=qAj (n:=T.length) (c:=s'+1) (pl:=pl) (by omega);rw[hpl]at hp1 hll gbp';obtain⟨wv,sv⟩:=w'.var (.v [.b false,.j 0,.w 0,.j 0,.j 0]) (.v (cNd nd));cases hl:nd.leaf with
   | false =>
    simp only[cNd,hl]at wv sv;simp +decide only[↓vS,vT,simprocAttr,hlt',hlt,h5,hel,cNd,hl,hw1,n1,n2,n3,n4,n5,gbp',zzU,hll,hp1];have wl:=wv.new (.lab (plc FW T (RV.length+(jaE FW T).length) i) false) _ (.inr (.inr (.inr ⟨_,rfl,rfl⟩)));have sl:=wv.stpLab (.lab (plc FW T (RV.length+(jaE FW T).length) i) false) (.v [.j 0]);have hfs:kdS (kdS κ' s' .fr) (s'+1) (.lab (plc FW T (RV.length+(jaE FW T).length) i) false) s = .fr:=by rw[qj (by omega),qj (by omega)];exact hbp'
    refine ih (i+1) _ _ (by omega) ?_ ⟨by omega,pl++[s'+1],_,_,s'+1+1,_,by simp[hpl],rfl,((st'.trans sv).trans sl).mod h.dom (zzL s) _,wl.chg .fr _ (.inl hfs) (by omega) (.inr (.inl rfl)),by omega,λj c hj=>?_,λc hc=>?_,λj c nd' h1 h2 h3=>?_,qF,by rw[Tr.get_set,if_pos rfl]⟩
    .simp[qg,ql,Tr.get_set]
    .rw[List.getElem?_append]at hj;split at hj
     .obtain⟨p,hp⟩:=hkl' j c hj;have:c<s':=w'.dom c (by rw[hp];simp);have hcs:c≠s:=λe=>by rw[e,hbp']at hp;cases hp
      exact⟨p,by rw[qj hcs,qj (by omega),qj (by omega)];exact hp⟩
     .have hj0:j-pl.length=0:=by
       have:=(zzS.1 hj).1;simp at this;exact this
      rw[hj0]at hj;simp at hj;subst hj;obtain rfl:j=i:=by omega
      exact⟨false,by rw[qj n5,qF]⟩
    .simp only[List.append_nil,List.mem_append,List.mem_singleton]at hc;rcases hc with hc|hc
     .obtain⟨j,nd',q1,q2,q3⟩:=hL' c hc;exact⟨j,nd',q1,q2,by rw[List.getElem?_append_left (zzS.1 q3).1];exact q3⟩
     .exact⟨i,nd,hnd,hl,by rw[hc,<- hpl];simp⟩
    grind
   | true =>
    have hwl:=hok'.way hl;obtain⟨c0,hc0⟩:∃t,xs[nd.way]?=some t:=⟨_,zzE hwl⟩;have gc0:(rPt xs)[nd.way]?=some (.ptr c0 0):=by rw[qfV,hc0];rfl
    obtain⟨p0,hp0⟩:=hx nd.way c0 hc0;have hbs:bw<s:=h.dom bw (by rw[hbw];simp);have gb':=(st'.fr bw hbw).2.trans gbw;have m1:¬bw=s:=by omega
    have m2:¬bw=s':=by omega
    have m3:¬bw=s'+1:=by omega
    have hp2:=qw7 (n:=T.length) (pl:=pl) (a:=s'+1) (c:=c0);have hll2:i+1<=(rPt (pl++[s'+1])++List.replicate (T.length-(pl++[s'+1]).length) AV.nilp).length:=by grind
    rw[hpl]at hp2;have wl:=wv.new .fr (.v [.j 0]) (.inr (.inl rfl));have sl:=wv.stpNew .fr (.v [.j 0]) (by simp);have hfs:kdS (kdS κ' s' .fr) (s'+1) .fr s = .fr:=by rw[qj (by omega),qj (by omega)];omega
    have wc:=wl.chg .fr (.v (rPt (pl++[s'+1])++List.replicate (T.length-(pl++[s'+1]).length) .nilp)) (.inl hfs) (by omega) (.inr (.inl rfl));have wd:=wc.chg (b:=s) .fr (.v (rPt (pl++[c0])++List.replicate (T.length-(pl++[c0]).length) .nilp)) (.inl qF) (by omega) (.inr (.inl rfl));have sd:=((((st'.trans sv).trans sl).mod h.dom (zzL s) (.v (rPt (pl++[s'+1])++List.replicate (T.length-(pl++[s'+1]).length) .nilp)))).mod h.dom (zzL s) (.v (rPt (pl++[c0])++List.replicate (T.length-(pl++[c0]).length) .nilp));simp only[cNd,hl]at wd sd
    have fin:∀tf,(∀b,tf.get b=((((((tr'.set s' (.v [.b false,.j 0,.w 0,.j 0,.j 0])).set s' (.v [.b true,.j (nd.way:Int),.w nd.at',.j (nd.less:Int),.j (nd.more:Int)])).set (s'+1) (.v [.j 0])).set s
      (.v (rPt (pl++[s'+1])++List.replicate (T.length-(pl++[s'+1]).length) .nilp))).set s (.v (rPt (pl++[c0])++List.replicate (T.length-(pl++[c0]).length) .nilp))).get b))->
      ∀tt,Has tt [(0,.ptr w 0),(1,.fz T.length (rNd T)),(2,V),(6,.sl s 0 T.length T.length false),(14,.fz T.length (rNd T)),(15,.j (T.length:Int)),(16,.j ((i+1:Nat):Int))]->G tt ⟨s'+1+1,0,tf⟩:=by
     intro tf hf tt ht;refine ih (i+1) _ _ (by omega) ht ⟨by omega,pl++[c0],_,_,s'+1+1,_,by grind,rfl,sd.congr hf,wd.congr hf,by omega,λj c hj=>?_,λc hc=>?_,λj c nd' h1 h2 h3=>?_,qF,by rw[hf,Tr.get_set,if_pos rfl]⟩
     .rw[List.getElem?_append]at hj;split at hj
      .obtain⟨p,hp⟩:=hkl' j c hj;have:c<s':=w'.dom c (by rw[hp];simp);have hcs:c≠s:=λe=>by rw[e,hbp']at hp;cases hp
       exact⟨p,by rw[qj hcs,qj hcs,qj (by omega),qj (by omega)];exact hp⟩
      .have hj0:j-pl.length=0:=by
        have:=(zzS.1 hj).1
        grind
       rw[hj0]at hj;simp at hj;subst hj;obtain rfl:j=i:=by omega
       have h1:=st'.lab _ _ _ hp0;have:c0<s:=h.dom c0 (by rw[hp0];simp);exact⟨p0,by rw[qj (by omega),qj (by omega),qj (by omega),qj (by omega),h1];simp[plc,hnd,hl]⟩
     .simp only[List.append_nil]at hc;obtain⟨j,nd',q1,q2,q3⟩:=hL' c hc
      grind
     .rw[List.getElem?_append]at h3;split at h3
      .grind
      .have hj0:j-pl.length=0:=by
        have:=(zzS.1 h3).1;simp at this;exact this
       grind
    rcases hV with rfl|rfl
    .simp +decide only[↓vS,vT,simprocAttr,hlt',hlt,h5,hel,cNd,hl,hw1,n1,n2,n3,n4,n5,m1,m2,m3,gbp',gb',gc0,hwl,zzU,hll,hp1,hll2,hp2];exact fin _ (λb=>rfl) _ (by simp[qg,ql,Tr.get_set])
    .simp +decide only[↓vS,vT,simprocAttr,hlt',hlt,h5,hel,cNd,hl,hw1,n1,n2,n3,n4,n5,m1,m2,m3,gbp',gb',gc0,hwl,zzU,hll,hp1,hll2,hp2];exact fin _ (λb=>rfl) _ (by simp[qg,ql,Tr.get_set])
  .obtain rfl:i=T.length:=by omega
   have hlt':¬((T.length:Int)<T.length):=by omega
   simp +decide only[↓vS,vT,simprocAttr,hlt'];rw[hpl,Nat.sub_self]at gbp';refine qsD W T hT hok FW pl hpl w' st' h.dom hkl' hL' hnew' hbp' (by rw[gbp'];simp) hm ?_ hk;simp[qg,ql,Tr.get_set]
 .simp[qg,ql,Tr.get_set]
 .refine⟨Nat.zero_le _,[],[],kdS κ s .fr,s+1,_,rfl,rfl,h.stpNew .fr _ (by simp),h.new .fr _ (.inr (.inl rfl)),by omega,λj c hj=>(by grind),λc hc=>(by cases hc),λj c nd h1 h2 h3=>(by grind),qF,?_⟩
  rw[Tr.get_set,if_pos rfl];simp[rPt]
end
structure Sp where
 fr:Int
 to:Int
 way:Nat
def cSp(s:Sp):List AV:=[.w s.fr,.w s.to,.j (s.way:Int)]
def qho(s:Sp):(cSp s).length=3:=rfl
def rSp(l:List Sp):List AV:=l.flatMap cSp
def qfW{l:List Sp}:(rSp l).length=l.length*3:=qW qho l
def qAk{l m:List Sp}:rSp l++rSp m=rSp (l++m):=by simp[rSp]
def qAl{s:Sp}:cSp s=rSp [s]:=by simp[rSp]
def qr2{T:List Sp}{j:Nat}{x:Sp}(h:T[j]?=some x){i:Nat}(hi:i<3):(rSp T)[j*3+i]?=(cSp x)[i]?:=qcz qho h hi
def qxb{T:List Sp}{j:Nat}{x:Sp}(h:T[j]?=some x):((rSp T).drop (j*3)).take 3=cSp x:=qS qho h
def qfx{l:List Sp}:qt (rSp l)=true:=xP λ_=>rfl
def jF(l:List Sp)(s:Sp):List Sp:=match l[l.length-1]? with|some z=>if z.way=s.way then l.set (l.length-1) ⟨z.fr,s.to,z.way⟩else l++[s]|none=>l++[s]
def zW(l:List Sp):List Sp:=l.foldl jF []
def qmc{l:List Sp}{s:Sp}:(jF l s).length<=l.length+1:=by
 unfold jF;grind
def jB:IFn:=⟨[],sq [.r [.q 2 (.box (.t 0))],sq [.r [.d 4 1,.e 5 4,.n 3 5],.reg true [.n 6 3,.w 7 .gtr 6 0,.n 8 7,.j 9 1 8 true,.y 10 3 8,.g 11 (.bin .sub (.t 10) (.k 1)) 8 true,.g 12 (.iAddrS 3 (.t 9) (.t 11)) 8 true,.h 13 2 12 8 true,.j 14 13 8 true,.h 15 2 2 8 true,.j 16 15 8 true,.g 17 (.bin .eql (.t 14) (.t 16)) 8 true,.p 18 8 17],.cond (.t 18) (sq [.r [.d 19 1,.n 20 3,.w 21 .sub 20 1,.f 22 1 2,.d 23 22,.i 24 3 19 21,.f 25 1 24,.u (.store 1 (.t 25) (.t 23))],.ret]) (.skip)],.r [.d 26 1,.v 27 3 2,.q 28 (.buildS 1 [.w 0,.w 0,.j 0] [(0,3,(.t 27))]),.q 29 (.app 3 16 true (.t 26) (.t 28)),.u (.store 1 (.t 1) (.t 29))]]⟩
def qw1(hc:qc P f jB=true){s bo br:Nat}{tr:Tr Blk}{l:List Sp}(x:Sp){k:AV->Hp->Prop}(ho:tr.get bo=some (.v [.own br l.length]))(hr:tr.get br=some (.cells 3 true true (rSp l)))(hbr:bo≠br)(hos:bo<s)(hrs:br<s)(hm:l.length<=1000000)
  (hk:∀s' tr' br',s<=s'->(∀b,b<s->b≠bo->b≠br->tr'.get b=tr.get b)->tr'.get bo=some (.v [.own br' (jF l x).length])->tr'.get br'=some (.cells 3 true true (rSp (jF l x)))->(br'=br\/s<=br')->br'<s'->k (.tup []) ⟨s',0,tr'⟩) :
  SC P f [.agg (cSp x),.ptr bo 0] ⟨s,0,tr⟩ k:=by
 refine SC.mk hc (qk ?_);have n1:¬bo=s:=by omega
 have n2:¬br=s:=by omega
 have n3:¬bo=br:=hbr;have n4:¬s=br:=by omega
 have n5:¬s+1=br:=by omega
 have n6:¬br=s+1:=by omega
 have n7:¬bo=s+1:=by omega
 have n8:¬bo=s+1+1:=by omega
 have n9:¬s=bo:=by omega
 have n10:¬s=s+1:=by omega
 have n11:¬s+1=s+1+1:=by omega
 have r1:l.length+1<=qi:=by simp only[qi];omega
 have r2:(l.length+1)*16<=qi:=by simp only[qi];omega
 have app:∀tf:Tr Blk,(∀b,b<s->b≠bo->b≠br->tf.get b=tr.get b)->tf.get bo=some (.v [.own (s+1+1) (l.length+1)])->tf.get (s+1+1)=some (.cells 3 true true (rSp l++cSp x))->jF l x=l++[x]->k (.tup []) ⟨s+1+1+1,0,tf⟩:=λtf h1 h2 h3 h4 =>
  hk _ _ (s+1+1) (by omega) h1 (by rw[h2,h4];simp) (by rw[h3,h4,qAl,qAk]) (.inr (by omega)) (by omega)
 simp only[jB,cSp,vI,simprocAttr];simp +decide only[↓vS,vT,simprocAttr,ho,hr,n1,n2,n3,n9];refine zB ?_;rcases Nat.eq_zero_or_pos l.length with h0|h0
 .have h0':¬(0:Int)<(l.length:Int):=by omega
  simp +decide only[↓vS,vT,simprocAttr,h0',ho,hr,n1,n2,n3,n4,n5,n6,n7,n8,n9,n10,n11,r1,r2,qfW];refine app _ ?_ ?_ ?_ ?_
  .grind[Tr.get_set]
  .simp[Tr.get_set]
  .simp only[Tr.get_set];rw[if_neg (by omega)];simp[cSp]
  .have:l=[]:=by grind
   subst this;rfl
 .have h0':(0:Int)<(l.length:Int):=by omega
  obtain⟨z,hz⟩:∃z,l[l.length-1]?=some z:=⟨_,zzE (by omega)⟩;have e1:IntKind.wrap .i64 ((l.length:Int)-1)=((l.length-1:Nat):Int):=by rw[qp (by omega) (by omega)];omega
  have hlt:l.length-1<l.length:=by omega
  have hw:=qr2 hz (i:=2) (by omega);have hw':(rSp l)[(l.length-1)*3+2]?=some (.j (z.way:Int)):=hw
  by_cases hwy:z.way=x.way
  .have hwy':(z.way:Int)=x.way:=by omega
   have hset:=qgB (f:=cSp) (x':=⟨z.fr,x.to,z.way⟩) (v:=.w x.to) (i:=1) qho hz (by omega) rfl;rw[show l.flatMap cSp=rSp l from rfl,List.singleton_append]at hset
   have h3:(l.length-1)*3+1+1<=(rSp l).length:=by rw[qfW];omega
   simp +decide only[↓vS,vT,simprocAttr,h0',ho,hr,n1,n2,n3,n4,n5,n6,n7,n8,n9,n10,n11,e1,hlt,hw',hwy',h3,hset];have hp:jF l x=l.set (l.length-1) ⟨z.fr,x.to,z.way⟩:=by unfold jF;rw[hz];grind
   refine hk _ _ br (by omega) ?_ ?_ ?_ (.inl rfl) (by omega)
   .grind[Tr.get_set]
   .rw[Tr.get_set,if_neg hbr,Tr.get_set,if_neg n1,ho,hp];simp
   .rw[Tr.get_set,if_pos rfl,hp];rfl
  .have hwy':¬(z.way:Int)=x.way:=by omega
   simp +decide only[↓vS,vT,simprocAttr,h0',ho,hr,n1,n2,n3,n4,n5,n6,n7,n8,n9,n10,n11,e1,hlt,hw',hwy',r1,r2,qfW];refine app _ ?_ ?_ ?_ ?_
   .grind[Tr.get_set]
   .simp[Tr.get_set]
   .simp only[Tr.get_set];rw[if_neg (by omega)];simp[cSp]
   .unfold jF;rw[hz];grind
def qaM(l:List (Int×Nat)):List AV:=l.map λx=>.w x.1
def qbf(l:List (Int×Nat)):List AV:=l.map λx=>.j (x.2:Int)
theorem qjq{l:List (Int×Nat)}:(qaM l).length=l.length:=by simp[qaM]
theorem qjr{l:List (Int×Nat)}:(qbf l).length=l.length:=by simp[qbf]
def qdr{l:List (Int×Nat)}:qt (qaM l)=true:=qcv λ_=>rfl
def qds{l:List (Int×Nat)}:qt (qbf l)=true:=qcv λ_=>rfl
def qjp{l:List (Int×Nat)}{j:Nat}:(qaM l)[j]?=(l[j]?).map λx=>.w x.1:=by simp[qaM]
def qpN{l:List (Int×Nat)}{j:Nat}:(qbf l)[j]?=(l[j]?).map λx=>.j (x.2:Int):=by simp[qbf]
def pcs(o:Nat):List (Int×Nat)->Int->List Sp
 | [],nx=>if nx<4294967296 then [⟨nx,4294967295,o⟩]else []
 | x::l,nx=>(if nx<x.1 then [⟨nx,x.1-1,o⟩]else [])++⟨x.1,x.1,x.2⟩::pcs o l (x.1+1)
def qdP(a:Nat):IFn:=⟨[.tmp 6],sq [.r [.q 3 (.box (.t 0)),.q 4 (.box (.t 1)),.q 5 (.box (.t 2)),.m 6 (.c (.nilf))],.r [.q 7 (.mkF a [] [.t 3,.t 5,.t 4]),.n 6 7],.ret]⟩
def qtO{g:Nat}(hc:qc P f (qdP g)=true)(l:List (Int×Nat))(o:Nat):qa P f [.fz l.length (qaM l),.fz l.length (qbf l),.j (o:Int)] (.fn g [] [.pf [.fz l.length (qaM l)] 0,.pf [.j (o:Int)] 0,.pf [.fz l.length (qbf l)] 0]):=by
 refine qa.mk hc (by simp[qt,clo,qdr,qds]) ?_;simp only[qdP,vI,simprocAttr];simp +decide only[↓vS,vT,simprocAttr];simp[vZ,vP,Tr.get_set,zj qdr,zj qds]
def spT(g3:Nat)(l:List (Int×Nat))(o:Nat):List (Nat×AV):=[(3,.ptr 0 0),(4,.ptr 1 0),(7,.fn g3 [] [.pf [.fz l.length (qaM l)] 0,.pf [.j (o:Int)] 0,.pf [.fz l.length (qbf l)] 0])]
def spA:ICode:=.reg false [⟨some 5,.op (.alloc [.w 0,.w 0,.j 0]),none⟩,⟨none,.op (.store 3 (.t 5) (.t 8)),none⟩]
def spB:ICode:=.blk 1 (.reg false [⟨some 9,.op (.load1 (.t 4)),none⟩,⟨some 10,.op (.loadN 3 (.t 5)),none⟩,⟨some 11,.callV (.t 9) [.t 10],none⟩])
def SpI(g1:Nat)(r0:Loop)(ts:List (Nat×AV))(out:List Sp)(s:Nat)(tr:Tr Blk):Prop :=
 ∃br,4<=s/\tr.get 0=some (.v [.own br out.length])/\tr.get br=some (.cells 3 true true (rSp out))/\(br=2\/4<=br)/\br<s/\tr.get 1=some (.v [.fn g1 [] [.ptr 0 0]])/\tr.get 3=some (.map (zJ r0 ts))
def qmd{g1 g3 s:Nat}{r0:Loop}{l:List (Int×Nat)}{o:Nat}{out:List Sp}{tr:Tr Blk}{k:AV->Hp->Prop}(hc1:qc P g1 jB=true)(hr0:r0.state = .ready)(hp0:r0.pending=none)(hlo:LoopOk P r0 [8] spA spB)
  (hI:SpI g1 r0 (spT g3 l o) out s tr) (x:Sp) (hm:out.length<=1000000) (hk:∀s' tr',SpI g1 r0 (spT g3 l o) (jF out x) s' tr'->k (.b true) ⟨s',0,tr'⟩):SY P 3 [.agg (cSp x)] ⟨s,0,tr⟩ k:=by
 obtain⟨br,h4,h0,hb,hbr,hbs,h1,h3⟩:=hI;refine SY.mk (r:=r0) (ts:=spT g3 l o) (ps:=[8]) h3 hr0 hlo (Nat.zero_le _) (by show 3<s;omega) rfl ?_;rw[show mkT (spT g3 l o)=((Tr.leaf.set 7 (.fn g3 [] [.pf [.fz l.length (qaM l)] 0,.pf [.j (o:Int)] 0,.pf [.fz l.length (qbf l)] 0])).set 4 (.ptr 1 0)).set 3 (.ptr 0 0)from rfl]
 refine qk ?_;simp only[qkB,spA,cSp,vI,simprocAttr];simp +decide only[↓vS,vT,simprocAttr];have n3:¬3=s:=by omega
 have n1:¬1=s:=by omega
 have n13:¬1=3:=by omega
 have n03:¬0=3:=by omega
 have ns3:¬s=3:=by omega
 refine⟨spT g3 l o,by simp[Tr.get_set,n3,h3],?_⟩
 refine qk ?_;simp only[qB,spB,vI,simprocAttr];simp +decide only[↓vS,vT,simprocAttr,h1,n1,n13,ns3]
 have gb:∀b,b<s->b≠3->(((tr.set s (.v [.w 0,.w 0,.j 0])).set s (.v [.w x.fr,.w x.to,.j (x.way:Int)])).set 3 (.map (zJ (Go.Kc.bsy r0) (spT g3 l o)))).get b=tr.get b:=λb h1 h2=>by
  simp only[Tr.get_set];repeat rw[if_neg (by omega)]
 refine qw1 hc1 x ((gb 0 (by omega) (by omega)).trans h0) (by grind) (by omega) (by omega) (by omega) hm λs' tr' br' q1 q2 q3 q4 q5 q6=>?_
 simp +decide only[↓vS,vT,simprocAttr];have g3':tr'.get 3=some (.map (zJ (Go.Kc.bsy r0) (spT g3 l o))):=by rw[q2 3 (by omega) (by omega) (by omega),Tr.get_set,if_pos rfl]
 refine⟨Go.Kc.bsy r0,spT g3 l o,g3',?_⟩;rw[qey,qfX hr0 hp0];simp only[qB];simp +decide only[↓vS,vT,simprocAttr];refine hk _ _ ⟨br',by omega,?_,?_,by omega,q6,?_,?_⟩
 all_goals grind[Tr.get_set]
def qcg:IFn:=⟨[],sq [.r [.m 5 (.c (.x 0))],sq [.r [.d 8 1,.e 9 8,.m 10 (.k 0)],.blk 0 (.loop (sq [.r [.s 11 10 9],.cond (.t 11) (.skip) (.exit 0),.blk 1 (sq [.r [.n 12 10,.i 13 1 8 10,.d 14 13,.n 6 12,.n 7 14],sq [.r [.n 15 5,.n 16 7,.q 17 (.cvInt .u64 (.t 16)),.s 18 15 17,.n 19 18,.y 20 0 19,.y 21 5 19,.g 22 (.cvInt .u32 (.t 21)) 19 true,.y 23 7 19,.g 24 (.bin .sub (.t 23) (.c (.w 1))) 19 true,.j 25 2 19 true,.g 26 (.build [.w 0,.w 0,.j 0] [(0,1,(.t 22)),(1,1,(.t 24)),(2,1,(.t 25))]) 19 true,⟨(some 27),.callV (.t 20) [.t 26],(some (19,true))⟩,.g 28 (.un .not (.t 27)) 19 true,.p 29 19 28],.cond (.t 29) (.ret) (.skip)],sq [.r [.n 30 0,.n 31 7,.n 32 7,.d 33 3,.n 34 6,.i 35 1 33 34,.d 36 35,.q 37 (.build [.w 0,.w 0,.j 0] [(0,1,(.t 31)),(1,1,(.t 32)),(2,1,(.t 36))]),⟨(some 38),.callV (.t 30) [.t 37],none⟩,.q 39 (.un .not (.t 38))],.cond (.t 39) (.ret) (.skip)],.r [.n 40 7,.q 41 (.cvInt .u64 (.t 40)),.q 42 (.bin .add (.t 41) (.c (.x 1))),.n 5 42]]),.r [.a 43 10 1,.n 10 43]]))],.r [.n 44 5,.q 45 (.bin .lss (.t 44) (.c (.x 4294967296)))],.cond (.t 45) (.r [.n 46 0,.n 47 5,.q 48 (.cvInt .u32 (.t 47)),.d 49 2,.q 50 (.build [.w 0,.w 0,.j 0] [(0,1,(.t 48)),(1,1,(.c (.w 4294967295))),(2,1,(.t 49))]),⟨(some 51),.callV (.t 46) [.t 50],none⟩]) (.skip)]⟩
def qbM(a:Nat):ICode:=sq [.r [.d 12 3,.n 2 12],.ret]
def qdO(a:Nat):IFn:=⟨[.tmp 2],sq [.r [.m 2 .N],.r [.q 3 (.alloc [.nils])],.r [.q 6 (.mkF a [] [.t 3]),.q 4 (.alloc [.nilf]),.u (.store 1 (.t 4) (.t 6))],sq [.r [.n 7 0],.blk 0 (.rangeF 0 (.t 7) [8] (.r [.q 5 (.alloc [.w 0,.w 0,.j 0]),.u (.store 3 (.t 5) (.t 8))]) (.blk 1 (.r [.d 9 4,.v 10 3 5,⟨(some 11),.callV (.t 9) [.t 10],none⟩])))],.cut (qbM a)]⟩
def qm8{n0 g1 br n:Nat}{s:Nat}{tr:Tr Blk}{t:Tr AV}{out:List Sp}(ht:t.get 3=some (.ptr 0 0))(h0:tr.get 0=some (.v [.own br out.length]))(hb:tr.get br=some (.cells 3 true true (rSp out)))(hn:n=out.length) :
  S P n0 (qbM g1) (xu [.tmp 2] λv' h'=>Frz h' v' (.fz n (rSp out))) t ⟨s,0,tr⟩:=by
 refine S.has [(3,.ptr 0 0)] (by grind[qg,ql]) (qk ?_);simp only[qbM,vI,simprocAttr];simp only[↓vS,vT,simprocAttr,h0];simp[vZ,vP,Tr.get_set,hb,hn,zj qfx];intro h;rw[h];rfl
def qpD{g1 g3:Nat}(hc:qc P f (qdO g1)=true)(hc1:qc P g1 jB=true)(hc3:qc P g3 qcg=true)(l:List (Int×Nat))(o:Nat)(hl:l.length<=100000)(hr:∀x ∈ l,0<=x.1/\x.1<4294967296) :
  qa P f [.fn g3 [] [.pf [.fz l.length (qaM l)] 0,.pf [.j (o:Int)] 0,.pf [.fz l.length (qbf l)] 0]] (.fz (zW (pcs o l 0)).length (rSp (zW (pcs o l 0)))):=by
 refine qa.mk hc (by simp[qt,clo,qdr,qds]) ?_;simp only[qdO,vI,simprocAttr];simp +decide only[↓vS,vT,simprocAttr];refine S.weak (Wk.mk (spT g3 l o) [.v [.own 2 0],.v [.fn g1 [] [.ptr 0 0]],.cells 3 true true []] [0,1,99] ?_ ?_ ?_ rfl) ?_
 .simp[vw,spT,qdr,qds,qe]
 .simp[vw]
 .simp
 refine S.rangeF (by simp[jD]) (by simp[spT]) ⟨rfl,rfl⟩ ?_;refine qkc.2 ⟨.fn g3 [] [.pf [.fz l.length (qaM l)] 0,.pf [.j (o:Int)] 0,.pf [.fz l.length (qbf l)] 0],by simp[spT,mkT,Tr.get_set],?_⟩
 refine⟨qdD hc3,λr0 hr0 hp0 hlo=>SC.mk hc3 ?_⟩
 have hlo:LoopOk P r0 [8] spA spB:=hlo;show S P 4 _ _ (qbY [.yl 3,.pf [.fz l.length (qaM l)] 0,.pf [.j (o:Int)] 0,.pf [.fz l.length (qbf l)] 0] 0 .leaf) ⟨4,0,(((Tr.leaf.set 0 (.v [.own 2 0])).set 1 (.v [.fn g1 [] [.ptr 0 0]])).set 2 (.cells 3 true true [])).set 3 (.map (zJ r0 (spT g3 l o)))⟩;refine qk ?_;simp only[qcg,vI,simprocAttr];simp +decide only[↓vS,vT,simprocAttr]
 refine SL.loopP (α:=Nat×Int) (λi=>[(0,.yl 3),(1,.pf [.fz l.length (qaM l)] 0),(2,.pf [.j (o:Int)] 0),(3,.pf [.fz l.length (qbf l)] 0),(5,.x i.2),(8,.fz l.length (qaM l)),(9,.j (l.length:Int)),(10,.j (i.1:Int))])
  (λi h=>i.1<=l.length/\0<=i.2/\i.2<=4294967296/\∃s tr out,h=⟨s,0,tr⟩/\SpI g1 r0 (spT g3 l o) out s tr/\(pcs o (l.drop i.1) i.2).foldl jF out=zW (pcs o l 0)/\out.length<=2*i.1) (λi=>l.length-i.1) ?_ (0,0) ?_ ?_
 .rintro⟨i,nx⟩ h1 ⟨hi,hx0,hx1,s,tr,out,rfl,hI,hE,hol⟩ G ih;simp only at hi hx0 hx1 hI hE hol;simp only[vI,simprocAttr]
  by_cases hlt:i<l.length
  .have hlt':(i:Int)<l.length:=by omega
   obtain⟨x,hx⟩:∃x,l[i]?=some x:=⟨_,zzE hlt⟩;have hd:l.drop i=x::l.drop (i+1):=by rw[<- (zzS.1 hx).2,List.getElem_cons_drop]
   obtain⟨x0,x1⟩:=hr x (by grind);have g1':(qaM l)[i]?=some (.w x.1):=by rw[qjp,hx];rfl
   have g2':(qbf l)[i]?=some (.j (x.2:Int)):=by rw[qpN,hx];rfl
   have hw1:IntKind.wrap .i64 ((i:Int)+1)=((i+1:Nat):Int):=by rw[qp (by omega) (by omega)];simp
   have hw2:IntKind.wrap .u64 x.1=x.1:=by grind[qdl]
   have hw3:IntKind.wrap .u64 (x.1+1)=x.1+1:=by grind[qdl]
   rw[hd,pcs,List.foldl_append,List.foldl_cons]at hE
   -- the second yield
   have two:∀(s:Nat) (tr:Tr Blk) (out:List Sp),SpI g1 r0 (spT g3 l o) out s tr->out.length<=2*i+1->(pcs o (l.drop (i+1)) (x.1+1)).foldl jF (jF out ⟨x.1,x.1,x.2⟩)=zW (pcs o l 0)->∀k:AV->Hp->Prop,
     (∀s' tr' out',SpI g1 r0 (spT g3 l o) out' s' tr'->out'.length<=2*(i+1)->(pcs o (l.drop (i+1)) (x.1+1)).foldl jF out'=zW (pcs o l 0)->k (.b true) ⟨s',0,tr'⟩)->SY P 3 [.agg (cSp ⟨x.1,x.1,x.2⟩)] ⟨s,0,tr⟩ k:=λs tr out h1 h2 h3 k hk =>
    qmd hc1 hr0 hp0 hlo h1 _ (by omega) λs' tr' h4=>hk s' tr' _ h4 (by have:=qmc (l:=out) (s:=⟨x.1,x.1,x.2⟩);omega) h3
   by_cases hn:nx<x.1
   .have hw4:IntKind.wrap .u32 nx=nx:=by grind[qdk]
    have hw5:IntKind.wrap .u32 (x.1-1)=x.1-1:=by grind[qdk]
    rw[if_pos hn,List.foldl_cons,List.foldl_nil]at hE;simp +decide only[↓vS,vT,simprocAttr,hlt',hlt,g1',hw2,hn,hw4,hw5,zzU];refine qmd (x:=⟨nx,x.1-1,o⟩) hc1 hr0 hp0 hlo hI (by omega) λs2 tr2 h2=>?_
    simp +decide only[↓vS,vT,simprocAttr,g2',hlt,zzU];refine two _ _ _ h2 (by have:=qmc (l:=out) (s:=⟨nx,x.1-1,o⟩);omega) hE _ λs3 tr3 out3 h3 h4 h5=>?_
    simp +decide only[↓vS,vT,simprocAttr,hw1,hw2,hw3];refine ih (i+1,x.1+1) _ _ (by omega) ?_ ⟨by omega,by omega,by omega,s3,tr3,out3,rfl,h3,h5,h4⟩
    simp[qg,ql,Tr.get_set]
   .rw[if_neg hn,List.foldl_nil]at hE;simp +decide only[↓vS,vT,simprocAttr,hlt',hlt,g1',g2',hw2,hn,zzU];refine two _ _ _ hI (by omega) hE _ λs3 tr3 out3 h3 h4 h5=>?_
    simp +decide only[↓vS,vT,simprocAttr,hw1,hw2,hw3];refine ih (i+1,x.1+1) _ _ (by omega) ?_ ⟨by omega,by omega,by omega,s3,tr3,out3,rfl,h3,h5,h4⟩
    simp[qg,ql,Tr.get_set]
  .obtain rfl:i=l.length:=by omega
   have hlt':¬((l.length:Int)<l.length):=by omega
   rw[List.drop_length,pcs]at hE
   by_cases hn:nx<4294967296
   .have hw4:IntKind.wrap .u32 nx=nx:=by grind[qdk]
    rw[if_pos hn,List.foldl_cons,List.foldl_nil]at hE;simp +decide only[↓vS,vT,simprocAttr,hlt',hn,hw4];refine qmd (x:=⟨nx,4294967295,o⟩) hc1 hr0 hp0 hlo hI (by omega) λs2 tr2 h2=>?_
    simp +decide only[↓vS,vT,simprocAttr];obtain⟨br,q4,q0,qb,qbr,qbs,q1,q3⟩:=h2;refine⟨r0,spT g3 l o,q3,by rw[hr0];decide,?_⟩
    rw[hp0];simp only[qB];simp only[↓vS,vT,simprocAttr];rw[<- hE];refine qm8 (br:=br) (by simp[spT,mkT,Tr.get_set]) ?_ ?_ rfl
    all_goals grind[Tr.get_set]
   .rw[if_neg hn,List.foldl_nil]at hE;simp +decide only[↓vS,vT,simprocAttr,hlt',hn];obtain⟨br,q4,q0,qb,qbr,qbs,q1,q3⟩:=hI;refine⟨r0,spT g3 l o,q3,by rw[hr0];decide,?_⟩
    rw[hp0];simp only[qB];simp only[↓vS,vT,simprocAttr];rw[<- hE];refine qm8 (br:=br) (by simp[spT,mkT,Tr.get_set]) ?_ ?_ rfl
    all_goals grind[Tr.get_set]
 .simp[qg,ql,Tr.get_set]
 .refine⟨Nat.zero_le _,by simp,by simp,4,_,[],rfl,⟨2,by omega,?_,?_,.inl rfl,by omega,?_,?_⟩,rfl,by simp⟩<;>simp[Tr.get_set,rSp]
def qir(a b:Nat):IFn:=⟨[.tmp 6,.tmp 7],sq [.r [.m 6 .N,.m 7 (.k 0)],sq [.r [.n 9 0,.e 10 9,.n 11 1,.e 12 11,.b 13 .neq 10 12],.cond (.t 13) (sq [.r [.m 6 .N,.m 7 (.k 2)],.ret]) (.skip)],sq [.r [.n 14 0,.e 15 14,.m 16 (.k 0)],.blk 0 (.loop (sq [.r [.s 17 16 15],.cond (.t 17) (.skip) (.exit 0),.blk 1 (sq [.r [.n 18 16,.n 8 18],.reg true [.n 19 8,.w 20 .gtr 19 0,.n 21 20,.y 22 0 21,.y 23 8 21,.g 24 (.iAddrS 1 (.t 22) (.t 23)) 21 true,.j 25 24 21 true,.y 26 0 21,.y 27 8 21,.g 28 (.bin .sub (.t 27) (.k 1)) 21 true,.g 29 (.iAddrS 1 (.t 26) (.t 28)) 21 true,.j 30 29 21 true,.g 31 (.bin .leq (.t 25) (.t 30)) 21 true,.p 32 21 31],.cond (.t 32) (sq [.r [.m 6 .N,.m 7 (.k 2)],.ret]) (.skip)]),.r [.a 33 16 1,.n 16 33]]))],.r [.n 34 0,.n 35 1,.n 36 2,.l 37 a [.t 34,.t 35,.t 36],.l 38 b [.t 37],.n 6 38,.m 7 (.k 0)],.ret]⟩
def qxk(l:List (Int×Nat)):Prop:=∀(i:Nat) a b,l[i]?=some a->l[i+1]?=some b->a.1<b.1
def qEM{g1 g2 g3:Nat}(hc:qc P f (qir g1 g2)=true)(l:List (Int×Nat))(o:Nat)(h1:qa P g1 [.fz l.length (qaM l),.fz l.length (qbf l),.j (o:Int)] (.fn g3 [] [.pf [.fz l.length (qaM l)] 0,.pf [.j (o:Int)] 0,.pf [.fz l.length (qbf l)] 0]))
  (h2:qa P g2 [.fn g3 [] [.pf [.fz l.length (qaM l)] 0,.pf [.j (o:Int)] 0,.pf [.fz l.length (qbf l)] 0]] (.fz (zW (pcs o l 0)).length (rSp (zW (pcs o l 0))))) (hl:l.length<=100000) (hr:qxk l) :
  qa P f [.fz l.length (qaM l),.fz l.length (qbf l),.j (o:Int)] (.tup [.fz (zW (pcs o l 0)).length (rSp (zW (pcs o l 0))),.j 0]):=by
 refine qa.mk hc (by simp[qt,clo,qdr,qds]) ?_;simp only[qir,vI,simprocAttr];have hne:¬¬(l.length:Int)=l.length:=λh=>h rfl
 simp +decide only[↓vS,vT,simprocAttr];refine SL.loopP (α:=Nat) (λi=>[(0,.fz l.length (qaM l)),(1,.fz l.length (qbf l)),(2,.j (o:Int)),(15,.j (l.length:Int)),(16,.j (i:Int))]) (λi h=>i<=l.length/\h.fl=0) (λi=>l.length-i) ?_ 0 ?_ ?_
 .rintro i ⟨s,fl,tr⟩ ⟨hi,rfl⟩ G ih;simp only[vI,simprocAttr]
  by_cases hlt:i<l.length
  .have hlt':(i:Int)<l.length:=by omega
   have hw1:IntKind.wrap .i64 ((i:Int)+1)=((i+1:Nat):Int):=by rw[qp (by omega) (by omega)];simp
   simp +decide only[↓vS,vT,simprocAttr,hlt'];refine zB ?_;rcases Nat.eq_zero_or_pos i with h0|h0
   .have h0':¬(0:Int)<(i:Int):=by omega
    simp +decide only[↓vS,vT,simprocAttr,h0',hw1];exact ih (i+1) _ _ (by omega) (by simp[qg,ql,Tr.get_set]) ⟨by omega,rfl⟩
   .have h0':(0:Int)<(i:Int):=by omega
    obtain⟨a,ha⟩:∃x,l[i-1]?=some x:=⟨_,zzE (by omega)⟩;obtain⟨b,hb⟩:∃x,l[i]?=some x:=⟨_,zzE hlt⟩;have hab:=hr (i-1) a b ha (by rw[Nat.sub_add_cancel h0];exact hb);have e1:IntKind.wrap .i64 ((i:Int)-1)=((i-1:Nat):Int):=by rw[qp (by omega) (by omega)];omega
    have g1:(qaM l)[i-1]?=some (.w a.1):=by rw[qjp,ha];rfl
    have g2:(qaM l)[i]?=some (.w b.1):=by rw[qjp,hb];rfl
    have hlt2:i-1<l.length:=by omega
    have hle:¬b.1<=a.1:=by omega
    simp +decide only[↓vS,vT,simprocAttr,h0',hw1,e1,g1,g2,hlt,hlt2,hle,zzU];exact ih (i+1) _ _ (by omega) (by simp[qg,ql,Tr.get_set]) ⟨by omega,rfl⟩
  .obtain rfl:i=l.length:=by omega
   have hlt':¬((l.length:Int)<l.length):=by omega
   simp +decide only[↓vS,vT,simprocAttr,hlt'];refine h1.sc ?_;simp +decide only[↓vS,vT,simprocAttr];refine h2.sc ?_;simp +decide only[↓vS,vT,simprocAttr];simp[vZ,zj qfx]
 all_goals simp_all[qg,ql,Tr.get_set]
def qkF:List Sp->Int->Bool
 | [],nx=>decide (nx=4294967296)
 | s::l,nx=>if s.fr≠nx\/s.to<s.fr then false else qkF l (s.to+1)
def SpR(l:List Sp):Prop:=∀s ∈ l,0<=s.fr/\s.fr<4294967296/\0<=s.to/\s.to<4294967296
def qeN:IFn:=⟨[.tmp 2],sq [.r [.m 2 .F],.r [.m 3 (.c (.x 0))],sq [.r [.n 6 0,.e 7 6,.m 8 (.k 0)],.blk 0 (.loop (sq [.r [.s 9 8 7],.cond (.t 9) (.skip) (.exit 0),.blk 1 (sq [.r [.i 10 3 6 8,.v 11 3 10,.q 5 (.alloc [.w 0,.w 0,.j 0]),.u (.store 3 (.t 5) (.t 11))],sq [.r [.f 12 0 5,.d 13 12,.q 14 (.cvInt .u64 (.t 13)),.n 15 3,.b 16 .neq 14 15,.n 17 16,.h 18 1 5 17 false,.j 19 18 17 false,.h 20 0 5 17 false,.j 21 20 17 false,.g 22 (.bin .lss (.t 19) (.t 21)) 17 false,.o 23 17 22],.cond (.t 23) (sq [.r [.m 2 .F],.ret]) (.skip)],.r [.f 24 1 5,.d 25 24,.q 26 (.cvInt .u64 (.t 25)),.q 27 (.bin .add (.t 26) (.c (.x 1))),.n 3 27]]),.r [.a 28 8 1,.n 8 28]]))],.r [.n 29 3,.q 30 (.bin .eql (.t 29) (.c (.x 4294967296))),.n 2 30],.ret]⟩
def qqY(hc:qc P f qeN=true)(l:List Sp)(hl:l.length<=1000000)(hr:SpR l):qa P f [.fz l.length (rSp l)] (.b (qkF l 0)):=by
 refine qa.mk hc (by simp[qt,clo,qfx]) ?_;simp only[qeN,vI,simprocAttr];simp +decide only[↓vS,vT,simprocAttr];refine SL.loopP (α:=Nat×Int) (λi=>[(3,.x i.2),(6,.fz l.length (rSp l)),(7,.j (l.length:Int)),(8,.j (i.1:Int))]) (λi h=>i.1<=l.length/\h.fl=0/\qkF (l.drop i.1) i.2=qkF l 0) (λi=>l.length-i.1) ?_ (0,0) ?_ ?_
 .rintro⟨i,nx⟩ ⟨s,fl,tr⟩ ⟨hi,rfl,hE⟩ G ih;simp only at hi hE;simp only[vI,simprocAttr]
  by_cases hlt:i<l.length
  .have hlt':(i:Int)<l.length:=by omega
   obtain⟨x,hx⟩:∃x,l[i]?=some x:=⟨_,zzE hlt⟩;have hd:l.drop i=x::l.drop (i+1):=by rw[<- (zzS.1 hx).2,List.getElem_cons_drop]
   obtain⟨x0,x1,x2,x3⟩:=hr x (by grind);have hel:=qxb hx;have h3:i*3+3<=(rSp l).length:=by rw[qfW];omega
   have hw1:IntKind.wrap .i64 ((i:Int)+1)=((i+1:Nat):Int):=by rw[qp (by omega) (by omega)];simp
   have hw2:IntKind.wrap .u64 x.fr=x.fr:=by grind[qdl]
   have hw3:IntKind.wrap .u64 x.to=x.to:=by grind[qdl]
   have hw4:IntKind.wrap .u64 (x.to+1)=x.to+1:=by grind[qdl]
   rw[hd,qkF]at hE
   by_cases c1:x.fr=nx
   .subst c1
    by_cases c2:x.to<x.fr
    .rw[if_pos (.inr c2)]at hE;simp +decide only[↓vS,vT,simprocAttr,hlt',hlt,h3,hel,cSp,hw2,c2,<- hE];simp[vZ]
    .rw[if_neg (by simp[c2])]at hE;simp +decide only[↓vS,vT,simprocAttr,hlt',hlt,h3,hel,cSp,hw2,hw3,hw4,c2,hw1];exact ih (i+1,x.to+1) _ _ (by simp only;omega) (by simp[qg,ql,Tr.get_set]) (by grind)
   .rw[if_pos (.inl c1)]at hE;simp +decide only[↓vS,vT,simprocAttr,hlt',hlt,h3,hel,cSp,hw2,c1,<- hE];simp[vZ]
  .obtain rfl:i=l.length:=by omega
   have hlt':¬((l.length:Int)<l.length):=by omega
   rw[List.drop_length,qkF]at hE;simp +decide only[↓vS,vT,simprocAttr,hlt',hE];simp[vZ]
 all_goals grind[qg,ql,Tr.get_set]
def zO(l:List Sp)(at':Nat):List Nd :=
 if _h:l.length / 2=0 then [⟨true,(l.headD ⟨0,0,0⟩).way,0,0,0⟩]else
  ⟨false,0,(l.getD (l.length / 2) ⟨0,0,0⟩).fr,at'+1,at'+1+(zO (l.take (l.length / 2)) (at'+1)).length⟩::(zO (l.take (l.length / 2)) (at'+1)++zO (l.drop (l.length / 2)) (at'+1+(zO (l.take (l.length / 2)) (at'+1)).length))
termination_by l.length
decreasing_by all_goals grind
def qdt(n:Nat):∀(l:List Sp) (a:Nat),l.length<=n->0<l.length->(zO l a).length+1=2*l.length:=by
 induction n<;>grind[zO.eq_1]
def qxc{l:List Sp}{k:Nat}:(rSp l).take (k*3)=rSp (l.take k):=qhs qho l k
def qxa{l:List Sp}{k:Nat}:(rSp l).drop (k*3)=rSp (l.drop k):=qfh qho l k
def qrU{l m:List Nd}:rNd l++rNd m=rNd (l++m):=by simp[rNd]
def qw6{l:List Nd}:qt (rNd l)=true:=xP λ_=>rfl
def jS:IFn:=⟨[],sq [.r [.n 6 0,.e 7 6,.w 8 .quo 7 2,.n 4 8],sq [.r [.n 9 4,.w 10 .eql 9 0],.cond (.t 10) (sq [.reg true [.d 11 1,.n 12 0,.q 13 (.iAddrS 3 (.t 12) (.k 0)),.f 14 2 13,.d 15 14,.q 16 (.build [.b false,.j 0,.w 0,.j 0,.j 0] [(0,1,.T),(1,1,(.t 15))]),.q 17 (.buildS 1 [.b false,.j 0,.w 0,.j 0,.j 0] [(0,5,(.t 16))]),.q 18 (.app 5 40 true (.t 11) (.t 17)),.u (.store 1 (.t 1) (.t 18))],.ret]) (.skip)],.r [.d 19 1,.e 20 19,.n 5 20],.reg true [.d 21 1,.n 22 0,.n 23 4,.i 24 3 22 23,.f 25 0 24,.d 26 25,.n 27 5,.a 28 27 1,.q 29 (.build [.b false,.j 0,.w 0,.j 0,.j 0] [(2,1,(.t 26)),(3,1,(.t 28))]),.q 30 (.buildS 1 [.b false,.j 0,.w 0,.j 0,.j 0] [(0,5,(.t 29))]),.q 31 (.app 5 40 true (.t 21) (.t 30)),.u (.store 1 (.t 1) (.t 31))],.reg true [.d 32 2,.n 33 0,.n 34 4,.n 35 4,.q 36 (.slcS 3 (.t 33) none (some (.t 34)) (some (.t 35))),⟨(some 37),.callVW (.t 32) [.t 36],none⟩],.r [.d 38 1,.n 39 5,.d 40 1,.e 41 40,.i 42 5 38 39,.f 43 4 42,.u (.store 1 (.t 43) (.t 41))],.reg true [.d 44 2,.n 45 0,.n 46 4,.n 47 0,.e 48 47,.n 49 0,.e 50 49,.q 51 (.slcS 3 (.t 45) (some (.t 46)) (some (.t 48)) (some (.t 50))),⟨(some 52),.callVW (.t 44) [.t 51],none⟩]]⟩
def qse{h:Hp}{esz n c:Nat}{q2 q3:IntKind}{cs:List AV}{k:AV->Prop}(h1:0<c)(h2:c<=n)(h3:c*esz<=cs.length):slK esz none (some (.i q2 (c:Int))) (some (.i q3 (c:Int))) (.fz n cs) h k↔evA (.fz c (cs.take (c*esz))) k:=by
 have hne:Nat.beq c 0=false:=by
  grind[Nat.eq_of_beq_eq_true]
 simp only[slK,qkM,qkJ];show(ifK (c<=n) (ifK (c<=c) _))↔_;simp only[ifK,h2,zzL,true_and,Option.isSome_some,hne,Bool.true_and,Bool.false_eq_true,if_false];show(0*esz<=cs.length/\(c-0)*esz<=(cs.drop (0*esz)).length/\_)↔_;simp only[Nat.zero_mul,Nat.zero_le,Nat.sub_zero,List.drop_zero,h3,true_and];exact Iff.rfl
def qAg{l:List Nd}{j:Nat}{x:Nd}(m:Nat)(h:l[j]?=some x):(rNd l).take (j*5+4) ++ .j (m:Int)::(rNd l).drop (j*5+4+1)=rNd (l.set j ⟨x.leaf,x.way,x.at',x.less,m⟩) :=
 qgB (f:=cNd) (x':=⟨x.leaf,x.way,x.at',x.less,m⟩) (v:=.j (m:Int)) (i:=4) qkN h (by omega) rfl
noncomputable def qjH(tr:Tr Blk)(s bt b1:Nat)(T:List Nd)(x:Nd):Tr Blk:=(((tr.set s (.v (cNd x))).set bt .dead).set (s+1) (.cells 5 true true (rNd T++cNd x))).set b1 (.v [.own (s+1) (T.length+1)])
def qC0{g:Nat}(hc:qc P g jS=true):∀(n:Nat) (l:List Sp),l.length<=n->0<l.length->∀(s:Nat) (tr:Tr Blk) (b1 b2 bt:Nat) (T:List Nd),tr.get b1=some (.v [.own bt T.length])->tr.get bt=some (.cells 5 true true (rNd T))->
  tr.get b2=some (.v [.fn g [] [.ptr b1 0,.ptr b2 0]])->b1≠bt->b2≠bt->b1≠b2->b1<s->b2<s->bt<s->T.length+2*l.length<=1000000->
  ∃s' tr' bt',s<=s'/\(∀b,b<s->b≠b1->b≠bt->tr'.get b=tr.get b)/\tr'.get b1=some (.v [.own bt' (T++zO l T.length).length])/\tr'.get bt'=some (.cells 5 true true (rNd (T++zO l T.length)))/\(bt'=bt\/s<=bt')/\bt'<s' /\
   ∀k:AV->Hp->Prop,k (.tup []) ⟨s',0,tr'⟩->SC P g [.fz l.length (rSp l),.ptr b1 0,.ptr b2 0] ⟨s,0,tr⟩ k:=by
 intro n
 induction n with
 | zero=>omega
 | succ n ih =>
  intro l hn h0 s tr b1 b2 bt T g1 gt g2 n1 n2 n3 l1 l2 l3 hm
  have e2:((l.length:Nat):Int).tdiv 2=((l.length / 2:Nat):Int):=by
   rw[Int.tdiv_eq_ediv_of_nonneg (by omega)];omega
  have ew:IntKind.wrap .i64 ((l.length / 2:Nat):Int)=((l.length / 2:Nat):Int):=by grind[qp]
  have h20:(2:Int)≠0:=by decide
  have r1:T.length+1<=qi:=by simp only[qi];omega
  have r2:(T.length+1)*40<=qi:=by simp only[qi];omega
  have m1:¬b1=s:=by omega
  have m2:¬b2=s:=by omega
  have m3:¬bt=s:=by omega
  have m4:¬s=bt:=by omega
  have m5:¬b1=bt:=n1;have m6:¬b1=s+1:=by omega
  have hTl:(rNd T).length=T.length*5:=qk3
  by_cases hk:l.length / 2=0
  .have hl1:l.length=1:=by omega
   obtain⟨x,rfl⟩:∃x,l=[x]:=List.length_eq_one_iff.1 hl1;have hT:zO [x] T.length=[⟨true,x.way,0,0,0⟩]:=by rw[zO];simp
   rw[hT];refine⟨s+1+1,qjH tr s bt b1 T ⟨true,x.way,0,0,0⟩,s+1,by omega,?_,?_,?_,.inr (by omega),by omega,λk hk=>?_⟩
   .intro b q1 q2 q3;simp only[qjH,Tr.get_set];repeat rw[if_neg (by omega)]
   .rw[qjH,Tr.get_set,if_pos rfl];simp
   .rw[qjH,Tr.get_set,if_neg (by omega),Tr.get_set,if_pos rfl,<- qrU];rfl
   .refine SC.mk hc (qk ?_);simp only[jS,vI,simprocAttr];simp +decide only[↓vS,vT,simprocAttr,↓qkK h20,e2,ew];refine zB ?_;simp +decide only[↓vS,vT,simprocAttr,rSp,cSp,List.flatMap_cons,List.flatMap_nil,g1,gt,m1,m2,m3,m4,m5,m6,r1,r2,hTl];exact hk
  .have hk0:¬(((l.length / 2:Nat)):Int)=0:=by omega
   obtain⟨x,hx⟩:∃x,l[l.length / 2]?=some x:=⟨_,zzE (by omega)⟩;have hxD:l.getD (l.length / 2) ⟨0,0,0⟩=x:=by rw[List.getD_eq_getElem?_getD,hx];rfl
   have gx:=qr2 hx (i:=0) (by omega);have gx':(rSp l)[l.length / 2*3]?=some (.w x.fr):=gx;have hlk:l.length / 2<l.length:=by omega
   have hw1:IntKind.wrap .i64 ((T.length:Int)+1)=((T.length+1:Nat):Int):=by rw[qp (by omega) (by omega)];simp
   obtain⟨nd,hnd⟩:∃nd:Nd,nd=⟨false,0,x.fr,T.length+1,0⟩:=⟨_,rfl⟩;have a1:(qjH tr s bt b1 T nd).get b1=some (.v [.own (s+1) (T++[nd]).length]):=by rw[qjH,Tr.get_set,if_pos rfl];simp
   have at1:(qjH tr s bt b1 T nd).get (s+1)=some (.cells 5 true true (rNd (T++[nd]))):=by rw[qjH,Tr.get_set,if_neg (by omega),Tr.get_set,if_pos rfl,<- qrU];simp[rNd]
   have ae:∀b,b<s->b≠b1->b≠bt->(qjH tr s bt b1 T nd).get b=tr.get b:=λb q1 q2 q3=>by
    simp only[qjH,Tr.get_set];repeat rw[if_neg (by omega)]
   obtain⟨s2,tr2,bt2,q1,q2,q3,q4,q5,q6,q7⟩:=ih (l.take (l.length / 2)) (by simp;omega) (by simp;omega) (s+1+1) (qjH tr s bt b1 T nd) b1 b2 (s+1) (T++[nd]) a1 at1 ((ae b2 l2 (Ne.symm n3) n2).trans g2) (by omega) (by omega) n3 (by omega) (by omega) (by omega) (by simp;omega);have hlt:(l.take (l.length / 2)).length=l.length / 2:=by simp;omega
   rw[show(T++[nd]).length=T.length+1 by simp]at q3 q4
   have htl:=qdt l.length (l.take (l.length / 2)) (T.length+1) (by omega) (by omega);rw[hlt]at q7 htl;obtain⟨L,hL⟩:∃L,L=zO (l.take (l.length / 2)) (T.length+1):=⟨_,rfl⟩;rw[<- hL]at q3 q4 htl;have hget:(T++[nd]++L)[T.length]?=some nd:=by simp
   have hT3:(T++[nd]++L).set T.length ⟨nd.leaf,nd.way,nd.at',nd.less,(T++[nd]++L).length⟩=T++[⟨false,0,x.fr,T.length+1,T.length+1+L.length⟩]++L:=by
    rw[hnd];simp[List.set_append];omega
   have hset:=qAg (T++[nd]++L).length hget;rw[hT3]at hset;have hl3:T.length*5+4+1<=(rNd (T++[nd]++L)).length:=by rw[qk3];simp;omega
   have hn5:b1≠bt2:=by omega
   have hn6:b2≠bt2:=by omega
   obtain⟨T3,hT3e⟩:∃T3:List Nd,T3=T++[⟨false,0,x.fr,T.length+1,T.length+1+L.length⟩]++L:=⟨_,rfl⟩;have hT3l:T3.length=(T++[nd]++L).length:=by rw[hT3e];simp
   have b2g:=(q2 b2 (by omega) (Ne.symm n3) (by omega)).trans ((ae b2 l2 (Ne.symm n3) n2).trans g2)
   obtain⟨s4,tr4,bt4,p1,p2,p3,p4,p5,p6,p7⟩:=ih (l.drop (l.length / 2)) (by simp;omega) (by simp;omega) s2 (tr2.set bt2 (.cells 5 true true (rNd T3))) b1 b2 bt2 T3 (by rw[Tr.get_set,if_neg hn5,q3,hT3l]) (by rw[Tr.get_set,if_pos rfl])
    (by rw[Tr.get_set,if_neg hn6];omega) hn5 hn6 n3 (by omega) (by omega) (by omega) (by rw[hT3l];simp;omega)
   have hld:(l.drop (l.length / 2)).length=l.length-l.length / 2:=by simp
   rw[hld]at p7
   have hfin:T++zO l T.length=T3++zO (l.drop (l.length / 2)) T3.length:=by
    have e3:T3.length=T.length+1+L.length:=by rw[hT3l];simp;omega
    conv=>lhs;rw[zO,dif_neg hk]
    rw[hxD,<- hL,e3,hT3e];simp
   refine⟨s4,tr4,bt4,by omega,?_,?_,?_,by omega,p6,λk hkk=>?_⟩
   .intro b e1 e2 e3;rw[p2 b (by omega) e2 (by omega),Tr.get_set,if_neg (by omega),q2 b (by omega) e2 (by omega)];exact ae b e1 e2 e3
   .rw[hfin];exact p3
   .rw[hfin];exact p4
   .have v1:(qjH tr s bt b1 T nd).get b2=some (.v [.fn g [] [.ptr b1 0,.ptr b2 0]]):=(ae b2 l2 (Ne.symm n3) n2).trans g2;have k1:0<l.length / 2:=by omega
    have k2:l.length / 2<=l.length:=by omega
    have k3:l.length / 2*3<=(rSp l).length:=by rw[qfW];omega
    have k4:l.length / 2<l.length:=hlk;have k5:l.length<=l.length:=zzL _;have k6:l.length*3<=(rSp l).length:=by rw[qfW];omega
    have hsl1:(rSp l).take (l.length / 2*3)=rSp (l.take (l.length / 2)):=qxc
    have hsl2:((rSp l).drop (l.length / 2*3)).take ((l.length-l.length / 2)*3)=rSp (l.drop (l.length / 2)):=by
     rw[qxa,List.take_of_length_le (by rw[qfW,hld];omega)]
    refine SC.mk hc (qk ?_);simp only[jS,vI,simprocAttr];simp +decide only[↓vS,vT,simprocAttr,↓qkK h20,e2,ew,hk0,g1];refine zB ?_;simp +decide only[↓vS,vT,simprocAttr,g1,gt,gx',hlk,hw1,m1,m2,m3,m4,m5,m6,r1,r2,hTl];refine zB ?_;rw[hnd]at q7;simp only[qjH,cNd]at q7;have m7:¬b2=b1:=Ne.symm n3;have m8:¬b2=s+1:=by omega
    have m9:¬b2=bt:=n2;simp +decide only[↓vS,vT,simprocAttr,m7,m8,m9,m2,g2,↓qse k1 k2 k3,hsl1];refine⟨.tup [],_,q7,?_⟩;obtain⟨A,hA⟩:∃A,A=T++[nd]++L:=⟨_,rfl⟩;have k7:T.length<A.length:=by rw[hA];simp
    rw[<- hA]at q3 q4 hl3 hset;rw[<- hT3e]at hset;have k8:¬b1=bt2:=hn5;have k9:¬b2=bt2:=hn6;simp +decide only[↓vS,vT,simprocAttr,q3,q4,k7,k8,hl3,hset];refine zB ?_;simp +decide only[↓vS,vT,simprocAttr,k9,b2g,↓qEH k4 k5 k6,hsl2];exact⟨.tup [],_,p7,hkk⟩
def qfl(a b:Nat):ICode:=sq [.r [.d 10 5,.n 11 0,⟨(some 12),.callV (.t 10) [.t 11],none⟩],.r [.d 13 4,.n 2 13,.m 3 (.k 0)],.ret]
def qeP(a b:Nat):IFn:=⟨[.tmp 2,.tmp 3],sq [.r [.m 2 .N,.m 3 (.k 0)],sq [.r [.n 6 0,.l 7 a [.t 6],.q 8 (.un .not (.t 7))],.cond (.t 8) (sq [.r [.m 2 .N,.m 3 (.k 240)],.ret]) (.skip)],.r [.q 4 (.alloc [.nils])],.r [.q 5 (.alloc [.nilf])],.r [.q 9 (.mkF b [] [.t 4,.t 5]),.u (.store 1 (.t 5) (.t 9))],.cut (qfl a b)]⟩
def qq3(l:List Sp):AV:=if qkF l 0=true then .tup [.fz (zO l 0).length (rNd (zO l 0)),.j 0]else .tup [.fz 0 [],.j 240]
def qt3{g1 g2:Nat}(hc:qc P f (qeP g1 g2)=true)(h2:qc P g2 jS=true)(l:List Sp)(h1:qa P g1 [.fz l.length (rSp l)] (.b (qkF l 0)))(hl:l.length<=400000)(h0:0<l.length):qa P f [.fz l.length (rSp l)] (qq3 l):=by
 refine qa.mk hc (by simp[qt,clo,qfx]) ?_;simp only[qeP,vI,simprocAttr];simp +decide only[↓vS,vT,simprocAttr];refine h1.sc ?_;unfold qq3;cases hw:qkF l 0 with
 | false =>
  simp +decide only[↓vS,vT,simprocAttr];simp[vZ]
 | true =>
  simp +decide only[↓vS,vT,simprocAttr];refine S.weak (Wk.mk [(0,.fz l.length (rSp l)),(4,.ptr 0 0),(5,.ptr 1 0)] [.v [.own 2 0],.v [.fn g2 [] [.ptr 0 0,.ptr 1 0]],.cells 5 true true []] [0,1,99] ?_ ?_ ?_ rfl) (qk ?_)
  .simp[vw,qfx]
  .simp[vw]
  .simp
  simp only[qfl,vI,simprocAttr];simp +decide only[↓vS,vT,simprocAttr]
  obtain⟨s',tr',bt',q1,q2,q3,q4,q5,q6,q7⟩:=qC0 h2 l.length l (zzL _) h0 3 (((Tr.leaf.set 0 (.v [.own 2 0])).set 1 (.v [.fn g2 [] [.ptr 0 0,.ptr 1 0]])).set 2 (.cells 5 true true [])) 0 1 2 []
   (by simp[Tr.get_set]) (by simp[Tr.get_set,rNd]) (by simp[Tr.get_set]) (by decide) (by decide) (by decide) (by decide) (by decide) (by decide) (by grind)
  refine q7 _ ?_;simp +decide only[↓vS,vT,simprocAttr,q3];simp[vZ,vP,q4,zj qw6];intro h;rw[h];rfl
def qc3:List GTest->Nat
 | []=>1
 | t::ts=>qbV t+if t.mask=0 then 0 else qc3 ts
def qme:∀{ts:List GTest} {a:Int} {p:Nat},(qcn ts a p).length=qc3 ts
 | [],_,_=>rfl
 | t::ts,a,p=>by
  unfold qcn qc3;rw[zzP,qfA];split
  .rfl
  .rw[qme]
def qoi(r:GRule):Nat:=qc3 r.tests
def qmb{r:GRule}{p:Nat}:(qtT r p).length=qoi r:=qme
def qj8:∀{ts:List GTest},qc3 ts<=ts.length*7+1
 | []=>by simp[qc3]
 | t::ts=>by
  unfold qc3;have:=qp1 (t:=t);have:=qj8 (ts:=ts)
  grind
def xa:List GRule->Nat->List Sy
 | [],_=>[]
 | r::rs,p=>qtT r p++xa rs (p+qoi r)
def zw(rs:List GRule):Nat:=(rs.map qoi).sum
theorem qbh:∀{rs:List GRule} {p:Nat},(xa rs p).length=zw rs
 | [],_=>rfl
 | r::rs,p=>by unfold xa;rw[zzP,qmb,qbh];simp[zw]
def qkv:∀{rs:List GRule} {r:GRule} {p:Nat},xa (rs++[r]) p=xa rs p++qtT r (p+zw rs)
 | [],r,p=>by simp[xa,zw]
 | x::rs,r,p=>by rw[zzC,xa,xa,qkv,List.append_assoc];simp[zw];grind
def qj5:∀{rs:List GRule},(∀r ∈ rs,r.tests.length<=32)->zw rs<=rs.length*225
 | [],_=>by simp[zw]
 | r::rs,h=>by
  have:=qj8 (ts:=r.tests);have:=h r (by simp);have:=qj5 (rs:=rs) λx hx=>h x (by grind)
  simp[zw,qoi]at this ⊢;omega
def qkw{rs:List GRule}{i:Nat}:zw (rs.take i)<=zw rs:=by
 have h:zw rs=zw (rs.take i)+zw (rs.drop i):=by
  conv=>lhs;rw[<- List.take_append_drop i rs]
  simp only[zw,List.map_append,List.sum_append]
 omega
def qO(rs:List GRule):List (Int×Nat):=rs.mapIdx λi r=>(r.nr,i+1)
theorem qck{rs:List GRule}:(qO rs).length=rs.length:=by simp[qO]
theorem qdq{rs:List GRule}{j:Nat}:(qO rs)[j]?=(rs[j]?).map λr=>(r.nr,j+1):=by simp[qO]
def qQ(x:GFil):List Nd:=zO (zW (pcs 0 (qO x.rules) 0)) 0
def jaN:List Nd->Nat
 | n::_=>if n.leaf=true then 1 else 0
 | []=>0
def qnY{FW:Nat->Nat}{T:List Nd}:(jaE FW T).length=jaN T:=by
 cases T with
 | nil=>rfl
 | cons n T=>simp only[jaE,jaN];split<;>rfl
theorem qat{FW:Nat->Nat}{T:List Nd}{p:Nat}:(xv FW T p).length=jaN T+xm T:=by
 unfold xv;rw[zzP,qnY,qq9]
def jP(x:GFil):Nat:=jL x.arch+(jaN (qQ x)+xm (qQ x))
def jg(x:GFil)(j:Nat):Nat:=if j=0 then jP x else jP x+1+zw (x.rules.take (j-1))
def x8(x:GFil):Nat:=jP x+1+zw x.rules
def zn(x:GFil):List Sy:=qbe x.arch 0 (x8 x)++xv (jg x) (qQ x) (jL x.arch)++[⟨6,x.dflt,0,0⟩]++xa x.rules (jP x+1)++[⟨6,2147418112,0,0⟩]
def qmP{x:GFil}:(zn x).length=x8 x+1:=by
 unfold zn x8 jP
 grind[qaB,qat,qbh]
structure FilR (x:GFil):Prop where
 nr:∀r ∈ x.rules,0<=r.nr/\r.nr<4294967296
 ts:∀r ∈ x.rules,∀t ∈ r.tests,0<=t.mask/\t.mask<18446744073709551616/\0<=t.val/\t.val<18446744073709551616
def Stp.kd'{L L':List Nat}{κ κ1:Nat->Kd}{s s1:Nat}{tr t1 t2:Tr Blk}(a:Stp L κ s tr κ1 s1 t1){b F':Nat}(hb:κ b = .no)(hf:∀c,κ1 c = .fr->t2.get c=t1.get c)(hx:∀c,κ1 c = .box->t2.get c=t1.get c)(hL:∀c ∈ L,c=b\/c ∈ L'):Stp L' κ s tr (kdS κ1 b (.lab F' true)) s1 t2:=by
 have ne:∀{c},κ c≠.no->c≠b:=by grind
 refine⟨a.le,λc hc=>?_,λc hc=>?_,λc F p hc=>?_,λc F hc=>?_⟩
 .rw[qj (by simp_all)];exact by grind[Stp.fr]
 .rw[qj (by simp_all)];exact by grind[Stp.box]
 .rw[qj (by simp_all)];exact a.lab c F p hc
 grind[qF,qj,Stp.nw]
def qis(n b:Nat):AV:=if n=0 then .sl b 0 1 1 false else .own b (n+1)
def qry{n b:Nat}:qis n b = .sl b 0 (n+1) (n+1) false\/qis n b = .own b (n+1):=by
 unfold qis;grind
section
variable {g w s gl gp gj gh gr g1 g2 g3 g4 g5:Nat} {κ:Nat->Kd} {tr:Tr Blk} {RV:List Sy} {N:List Nat} {k:AV->Hp->Prop}
def qaI(a b c d e g h i j:Nat):ICode:=sq [sq [.r [.f 88 1 1,.d 89 88,.e 90 89,.m 91 (.k 0)],.blk 2 (.loop (sq [.r [.s 92 91 90],.cond (.t 92) (.skip) (.exit 2),.blk 3 (sq [.r [.n 93 91,.i 94 3 89 91,.v 95 3 94,.q 16 (.alloc [.w 0,.nils,.w 0]),.n 15 93,.u (.store 3 (.t 16) (.t 95))],.r [.n 96 4,.n 97 8,.n 98 15,.a 99 98 1,.i 100 1 97 99,.d 101 100,.l 102 g [.t 96,.t 101]],.r [.n 103 4,.v 104 3 16,.l 105 i [.t 103,.t 104]]]),.r [.a 106 91 1,.n 91 106]]))],.r [.n 107 4,.n 108 5,.l 109 g [.t 107,.t 108]],.r [.n 110 4,.l 111 h [.t 110,(.c (.w 2147418112))]],.r [.n 112 4,.l 113 j [.t 112],.n 2 113,.m 3 (.k 0)],.ret]
def qcU(a b c d e g h i j:Nat):ICode:=sq [.r [.n 65 6,.n 66 7,.l 67 c [.t 65,.t 66,.k 0],.n 64 67,.x 68 64 0,.x 69 64 1,.n 11 68,.n 12 69],.r [.n 71 11,.l 72 d [.t 71],.n 70 72,.x 73 70 0,.x 74 70 1,.n 13 73,.n 14 74],.r [.n 75 4,.n 76 13,.n 77 8,.l 78 e [.t 75,.t 76,.t 77]],.r [.n 79 4,.n 80 8,.q 81 (.iAddrS 1 (.t 80) (.k 0)),.d 82 81,.l 83 g [.t 79,.t 82]],.r [.n 84 4,.f 85 2 1,.d 86 85,.l 87 h [.t 84,.t 86]],.cut (qaI a b c d e g h i j)]
def qcT(a b c d e g h i j:Nat):ICode:=sq [.r [.n 24 4,.f 25 0 1,.d 26 25,.n 27 5,.l 28 b [.t 24,.t 26,.t 27]],.reg true [.f 29 1 1,.d 30 29,.e 31 30,.q 32 (.mkS 1 4 [.w 0] (.t 31) (.t 31)),.f 33 1 1,.d 34 33,.e 35 34,.q 36 (.mkS 1 8 [.j 0] (.t 35) (.t 35)),.n 6 32,.n 7 36],.r [.q 37 (.build [.j 0] []),.q 38 (.box (.t 37)),.q 39 (.buildS 1 [.nilp] [(0,1,(.t 38))]),.n 8 39],sq [.r [.f 40 1 1,.d 41 40,.e 42 41,.m 43 (.k 0)],.blk 0 (.loop (sq [.r [.s 44 43 42],.cond (.t 44) (.skip) (.exit 0),.blk 1 (sq [.r [.n 45 43,.i 46 3 41 43,.v 47 3 46,.q 10 (.alloc [.w 0,.nils,.w 0]),.n 9 45,.u (.store 3 (.t 10) (.t 47))],.r [.n 48 6,.n 49 9,.n 50 7,.n 51 9,.f 52 0 10,.d 53 52,.n 54 9,.a 55 54 1,.i 56 1 48 49,.u (.store 1 (.t 56) (.t 53)),.i 57 1 50 51,.u (.store 1 (.t 57) (.t 55))],.r [.n 58 8,.q 59 (.build [.j 0] []),.q 60 (.box (.t 59)),.q 61 (.buildS 1 [.nilp] [(0,1,(.t 60))]),.q 62 (.app 1 8 true (.t 58) (.t 61)),.n 8 62]]),.r [.a 63 43 1,.n 43 63]]))],.cut (qcU a b c d e g h i j)]
def qfM(a b c d e g h i j:Nat):IFn:=⟨[.tmp 2,.tmp 3],sq [.r [.q 1 (.box (.t 0)),.m 2 .N,.m 3 (.k 0)],sq [.r [.v 17 3 1,.l 18 a [.t 17],.q 19 (.un .not (.t 18))],.cond (.t 19) (sq [.r [.m 2 .N,.m 3 (.k 210)],.ret]) (.skip)],.r [.q 20 (.build [.nils,.nils] []),.q 21 (.box (.t 20)),.q 22 (.build [.j 0] []),.q 23 (.box (.t 22)),.n 4 21,.n 5 23],.cut (qcT a b c d e g h i j)]⟩
structure EFn (P:Program) (g gl gp gj gh gr go gb gR gd gt gH gA gB gC gD:Nat):Prop where
 W:WFn P g gl gp gj gh gr
 own:qc P go (qa7 gD gl gj gh)=true
 br:qc P gb (qab gj gh)=true
 rule:qc P gR (qaU gt gr)=true
 test:qc P gt (jy gA gB gC gH gr gh)=true
 half:qc P gH (xE gl gp gj gh)=true
 done:qc P gd zg=true
 dj:qc P g qP=true
 lo:qsG P gA 0
 hi:qsG P gB 4
 hal:qyB P gC
 tok:qqk P gD
def qnq{t:GTest}(h:qb3 t=true):0<=t.arg/\t.arg<6:=by
 simp only[qb3,zzB,decide_eq_true_eq]at h;omega
def qjN:∀{rs:List GRule} {o:Option GRule},upR o rs=true->∀r ∈ rs,qb2 r=true
 | [],_,_,_,hr=>by cases hr
 | x::rs,o,h,r,hr=>by
  simp only[upR,zzB]at h;rcases List.mem_cons.1 hr with rfl|hr
  .simp_all
  .exact qjN h.2 r hr
variable {go gb gR gd gt gH gA gB gC gD gM gS gT:Nat}
def qvd{n0 sb bf bN bL e:Nat}{wf a:Bool}{κb:Nat->Kd}{tb:Tr Blk}{L:List Nat}(E:EFn P g gl gp gj gh gr go gb gR gd gt gH gA gB gC gD)(x:GFil)(hx:FilR x)(hK:∀r ∈ x.rules,qb2 r=true)(hn:x.rules.length<=400){pre:List Sy}(hpre:pre.length=jP x+1)(hd1:jP x<=10000)
  (h:WI g w κ s tr pre []) (st:Stp L κb sb tb κ s tr) (xs:List Nat) (hxl:xs.length=x.rules.length+1) (hxs:∀(j:Nat) c,xs[j]?=some c->∃p,κ c = .lab (jg x j) p) (hL0:κ bL = .fr) (gL:tr.get bL=some (.cells e wf a (rPt xs)))
  (hf0:κ bf = .fr) (gf:tr.get bf=some (.v (zq x))) {pN:Bool} (hN:κ bN = .lab (x8 x) pN) (hbN:κb bN = .no) (hL:∀c ∈ L,c=bN\/∃j:Nat,1<=j/\xs[j]?=some c) (hnew:∀(j:Nat) c,xs[j]?=some c->κb c = .no) (hno:∀b F,κb b≠.lab F false)
  {t:Tr AV} (ht:Has t [(1,.ptr bf 0),(4,.ptr w 0),(5,.ptr bN 0),(8,qis x.rules.length bL)]) :
  S P n0 (qaI gM go gS gT gb gh gr gR gd) (xu [.tmp 2,.tmp 3] λv' h'=>Frz h' v' (.tup [.fz (pre++xa x.rules (jP x+1)++([⟨6,2147418112,0,0⟩]:List Sy)).length (rSy (pre++xa x.rules (jP x+1)++[⟨6,2147418112,0,0⟩])),.j 0])) t ⟨s,0,tr⟩:=by
 refine S.has _ ht (qk ?_)
 have hts:∀r ∈ x.rules,r.tests.length<=32:=λr hr=>by
  have:=hK r hr;simp only[qb2,zzB,decide_eq_true_eq]at this;omega
 have hrN:=qj5 hts;simp only[qaI,vI,simprocAttr];simp +decide only[↓vS,vT,simprocAttr,gf,zq]
 refine SL.loopP (α:=Nat) (λi=>[(1,.ptr bf 0),(4,.ptr w 0),(5,.ptr bN 0),(8,qis x.rules.length bL),(89,.fz x.rules.length (rR x.rules)),(90,.j (x.rules.length:Int)),(91,.j (i:Int))])
  (λi h=>i<=x.rules.length/\∃L' κ' s' tr',h=⟨s',0,tr'⟩/\Stp L' κb sb tb κ' s' tr'/\WI g w κ' s' tr' (pre++xa (x.rules.take i) (jP x+1)) []/\(∀(j:Nat) c,xs[j]?=some c->∃p,κ' c = .lab (jg x j) p)/\κ' bL = .fr/\tr'.get bL=some (.cells e wf a (rPt xs)) /\
   (∃p,κ' bN = .lab (x8 x) p)/\(∀c ∈ L',c=bN\/∃j:Nat,i+1<=j/\xs[j]?=some c)) (λi=>x.rules.length-i) ?_ 0 ?_ ?_
 .rintro i h1 ⟨hi,L',κ',s',tr',rfl,st',w',hxs',hL0',gL',⟨pN',hN'⟩,hL'⟩ G ih;simp only[vI,simprocAttr]
  by_cases hlt:i<x.rules.length
  .have hlt':(i:Int)<x.rules.length:=by omega
   obtain⟨r,hr⟩:∃r,x.rules[i]?=some r:=⟨_,zzE hlt⟩;obtain⟨c,hc⟩:∃c,xs[i+1]?=some c:=⟨_,zzE (by omega)⟩;have hrm:=zzM hr;have hel:((rR x.rules).drop (i*3)).take 3=zu r:=qS qb5 hr;have h3:i*3+3<=(rR x.rules).length:=by rw[show(rR x.rules).length=x.rules.length*3 from qW qb5 _];omega
   have hw1:IntKind.wrap .i64 ((i:Int)+1)=((i+1:Nat):Int):=by rw[qp (by omega) (by omega)];simp
   obtain⟨wv,sv⟩:=w'.var (.v [.w 0,.nils,.w 0]) (.v (zu r));have hbs:bL<s':=w'.dom bL (by rw[hL0'];simp);have hbs':¬bL=s':=by omega
   have hge:(rPt xs)[i+1]?=some (.ptr c 0):=by rw[qfV,hc];rfl
   have hlt1:i+1<x.rules.length+1:=by omega
   have hT:zw (x.rules.take i)<=zw x.rules:=qkw
   have hlen:(pre++xa (x.rules.take i) (jP x+1)).length=jg x (i+1):=by
    rw[zzP,qbh,hpre];simp[jg]
   obtain⟨pc,hpc⟩:=hxs' (i+1) c hc;rw[<- hlen]at hpc;have hpc:=sv.lab _ _ _ hpc
   have hcN:c≠bN:=λe=>by
    rw[e]at hpc;have:=(Kd.lab.inj (hpc.symm.trans (sv.lab _ _ _ hN'))).1;rw[hlen]at this;simp[jg,x8]at this
    have h2:zw x.rules=zw (x.rules.take i)+zw (x.rules.drop i):=by
     conv=>lhs;rw[<- List.take_append_drop i x.rules]
     simp only[zw,List.map_append,List.sum_append]
    have h3:x.rules.drop i=r::x.rules.drop (i+1):=by rw[<- (zzS.1 hr).2,List.getElem_cons_drop]
    have h4:0<qoi r:=by unfold qoi;cases r.tests with
     | nil=>simp[qc3]
     | cons t ts=>simp[qc3,qbV];omega
    rw[h3]at h2;simp[zw]at h2 this;omega
   -- behind the label
   have go:∀(k:AV->Hp->Prop),(∀κ3 s3 t3 L3,Stp L3 κb sb tb κ3 s3 t3->WI g w κ3 s3 t3 (pre++xa (x.rules.take (i+1)) (jP x+1)) []->(∀(j:Nat) c,xs[j]?=some c->∃p,κ3 c = .lab (jg x j) p)->κ3 bL = .fr->t3.get bL=some (.cells e wf a (rPt xs))->(∃p,κ3 bN = .lab (x8 x) p)->
     (∀c ∈ L3,c=bN\/∃j:Nat,i+1+1<=j/\xs[j]?=some c)->k (.tup []) ⟨s3,0,t3⟩)->∀k2:AV->Hp->Prop,(∀t4,t4.get s'=some (.v (zu r))->(∀k',(∀v h,k v h->k' v h)->SC P gR [.ptr w 0,.agg (zu r)] ⟨s'+1,0,t4⟩ k')->k2 (.tup []) ⟨s'+1,0,t4⟩)->
     SC P gh [.ptr w 0,.ptr c 0] ⟨s'+1,0,(tr'.set s' (.v [.w 0,.nils,.w 0])).set s' (.v (zu r))⟩ k2:=by
    intro k hk k2 hk2;refine qaT E.W.here wv hpc λt4 q1 q2 w4=>hk2 t4 ?_ λk' hkk=>?_
    .rw[q1 s' qF,Tr.get_set,if_pos rfl]
    have hkl4:∀(j:Nat) c',xs[j]?=some c'->∃p,kdS (kdS κ' s' .fr) c (.lab (pre++xa (x.rules.take i) (jP x+1)).length true) c' = .lab (jg x j) p:=λj c' hj=>by
     obtain⟨p,hp⟩:=hxs' j c' hj;have hp:=sv.lab _ _ _ hp
     by_cases e:c'=c
     .rw[e]at hp;have hF:=(Kd.lab.inj (hpc.symm.trans hp)).1;exact⟨true,by rw[e,qF,hF]⟩
     .exact⟨p,by rw[qj e];exact hp⟩
    have st4:Stp (L'.filter λy=>decide (y≠c)) κb sb tb (kdS (kdS κ' s' .fr) c (.lab (pre++xa (x.rules.take i) (jP x+1)).length true)) (s'+1) t4 :=
     (st'.trans sv).kd' (hnew _ _ hc) q1 q2 (by grind)
    have hbLc:bL≠c:=by grind
    refine qEA E.rule E.W E.test E.lo E.hi E.hal E.half w4 r (λt ht=>?_) (by rw[hlen];have:=hts r hrm;simp only[jg];simp;omega) λκ5 s5 t5 st5 w5=>hkk _ _ (hk κ5 s5 t5 _ (st4.trans st5) ?_ ?_ ?_ ?_ ?_ ?_)
    .have q:=hx.ts r hrm t ht;have q2:=qnq (t:=t) (by have:=hK r hrm;simp only[qb2,zzB,List.all_eq_true]at this;exact this.1.2 t ht)
     exact⟨q2.1,q2.2,q.1,q.2.1,q.2.2.1,q.2.2.2⟩
    .rw[qbt hr,qkv,<- List.append_assoc];rw[zzP,qbh,hpre]at w5;exact w5
    .intro j c' hj;obtain⟨p,hp⟩:=hkl4 j c' hj;exact⟨p,st5.lab _ _ _ hp⟩
    .exact (st5.fr bL (by rw[qj hbLc];exact(sv.fr bL hL0').1)).1
    .rw[(st5.fr bL (by rw[qj hbLc];exact(sv.fr bL hL0').1)).2,q1 bL (sv.fr bL hL0').1,(sv.fr bL hL0').2];exact gL'
    .exact⟨pN',st5.lab _ _ _ (by rw[qj (Ne.symm hcN)];exact sv.lab _ _ _ hN')⟩
    grind
   let K0:AV->Hp->Prop:=λv h=>∃κ3 s3 t3 L3,v = .tup []/\h=⟨s3,0,t3⟩/\Stp L3 κb sb tb κ3 s3 t3/\WI g w κ3 s3 t3 (pre++xa (x.rules.take (i+1)) (jP x+1)) []/\(∀(j:Nat) c,xs[j]?=some c->∃p,κ3 c = .lab (jg x j) p)/\κ3 bL = .fr/\t3.get bL=some (.cells e wf a (rPt xs))/\(∃p,κ3 bN = .lab (x8 x) p) /\
     (∀c ∈ L3,c=bN\/∃j:Nat,i+1+1<=j/\xs[j]?=some c)
   have fin:∀(v:AV) (h:Hp),K0 v h->∀tt,Has tt [(1,.ptr bf 0),(4,.ptr w 0),(5,.ptr bN 0),(8,qis x.rules.length bL),(89,.fz x.rules.length (rR x.rules)),(90,.j (x.rules.length:Int)),(91,.j ((i+1:Nat):Int))]->G tt h:=by
    rintro v h ⟨κ3,s3,t3,L3,rfl,rfl,q1,q2,q3,q4,q5,q6,q7⟩ tt htt;exact ih (i+1) _ _ (by omega) htt (by grind)
   rcases qry (n:=x.rules.length) (b:=bL)with hV|hV
   .rw[hV]at fin ⊢;simp +decide only[↓vS,vT,simprocAttr,hlt',hlt,h3,hel,zu,hw1,hbs',gL',hge,hlt1,zzU];refine go K0 (by grind) _ λt4 h4 hcall=>?_
    simp +decide only[↓vS,vT,simprocAttr,h4,zu];refine hcall _ λv h hv=>?_
    simp +decide only[↓vS,vT,simprocAttr,hw1];exact fin v h hv _ (by simp[qg,ql,Tr.get_set])
   .rw[hV]at fin ⊢;simp +decide only[↓vS,vT,simprocAttr,hlt',hlt,h3,hel,zu,hw1,hbs',gL',hge,hlt1,zzU];refine go K0 (by grind) _ λt4 h4 hcall=>?_
    simp +decide only[↓vS,vT,simprocAttr,h4,zu];refine hcall _ λv h hv=>?_
    simp +decide only[↓vS,vT,simprocAttr,hw1];exact fin v h hv _ (by simp[qg,ql,Tr.get_set])
  .obtain rfl:i=x.rules.length:=by omega
   have hlt':¬((x.rules.length:Int)<x.rules.length):=by omega
   rw[List.take_length]at w';have hlen:(pre++xa x.rules (jP x+1)).length=x8 x:=by rw[zzP,qbh,hpre];rfl
   simp +decide only[↓vS,vT,simprocAttr,hlt'];refine qaT E.W.here w' (b:=bN) (p:=pN') (by rw[hlen];omega) λt4 q1 q2 w4=>?_
   simp +decide only[↓vS,vT,simprocAttr]
   have st4:Stp [] κb sb tb _ _ t4:=st'.kd' (L':=[]) (F':=(pre++xa x.rules (jP x+1)).length) hbN q1 q2 λc hc=>by
    grind
   refine qnf E.W.ret E.W.put w4 2147418112 (by rw[hlen];unfold x8;omega) λκ5 s5 t5 st5 w5=>?_
   simp +decide only[↓vS,vT,simprocAttr];have st6:=st4.trans st5;refine qvb E.done E.dj w5 (λb F p hb=>?_) (by rw[zzP,hlen];unfold x8;grind) λt6 b6 q3 q4=>?_
   .cases p with
    | true=>rfl
    | false =>
     rcases st6.nw b F hb with q|q
     all_goals grind
   .simp +decide only[↓vS,vT,simprocAttr];simp[vZ,vP,q3];exact Frzs.self (xP λ_=>rfl)
 .simp[qg,ql,Tr.get_set]
 .refine⟨Nat.zero_le _,L,κ,s,tr,rfl,st,?_,hxs,hL0,gL,⟨pN,hN⟩,?_⟩
  .simpa[xa]using h
  omega
def Stp.mod'{L:List Nat}{κ1:Nat->Kd}{s1:Nat}{t1:Tr Blk}(h:Stp L κ s tr κ1 s1 t1){b:Nat}(hb:κ b = .no)(x:Blk):Stp L κ s tr (kdS κ1 b .fr) s1 (t1.set b x):=by
 have ne:∀{c},κ c≠.no->c≠b:=by grind
 refine⟨h.le,λc hc=>?_,λc hc=>?_,λc F p hc=>?_,λc F hc=>?_⟩
 .have e:=ne (c:=c) (by rw[hc];simp);rw[qj e,Tr.get_set,if_neg e];exact h.fr c hc
 .have e:=ne (c:=c) (by rw[hc];simp);rw[qj e,Tr.get_set,if_neg e];exact h.box c hc
 .rw[qj (by simp_all)];exact h.lab c F p hc
 grind[qF,qj,Stp.nw]
def qG4{s fl b c:Nat}{t:Tr Blk}{x y:Blk}:qeU ⟨s,fl,t⟩ [(b,x),(c,y)]=⟨s,fl,(t.set b .dead).set c .dead⟩:=rfl
def qyV{n0 sb bf bN bL bn bw e:Nat}{wf a:Bool}{κb:Nat->Kd}{tb:Tr Blk}{L:List Nat}(E:EFn P g gl gp gj gh gr go gb gR gd gt gH gA gB gC gD)(x:GFil)(hx:FilR x)(hK:∀r ∈ x.rules,qb2 r=true)(hn:x.rules.length<=400)(hd1:jP x<=10000)
  (hS:qa P gS [.fz (qO x.rules).length (qaM (qO x.rules)),.fz (qO x.rules).length (qbf (qO x.rules)),.j 0] (.tup [.fz (zW (pcs 0 (qO x.rules) 0)).length (rSp (zW (pcs 0 (qO x.rules) 0))),.j 0]))
  (hB:qa P gT [.fz (zW (pcs 0 (qO x.rules) 0)).length (rSp (zW (pcs 0 (qO x.rules) 0)))] (.tup [.fz (qQ x).length (rNd (qQ x)),.j 0])) (hT1:qQ x≠[]) (hT2:∀nd ∈ qQ x,NdOk (x.rules.length+1) (qQ x).length nd) (hT3:(qQ x).length<=10000)
  (h:WI g w κ s tr (qbe x.arch 0 (x8 x)) []) (st:Stp L κb sb tb κ s tr) (xs:List Nat) (hxl:xs.length=x.rules.length+1) (hxs:∀(j:Nat) c,xs[j]?=some c->∃p,κ c = .lab (jg x j) p) (hL0:κ bL = .fr) (gL:tr.get bL=some (.cells e wf a (rPt xs)))
  (hf0:κ bf = .fr) (gf:tr.get bf=some (.v (zq x))) {pN:Bool} (hN:κ bN = .lab (x8 x) pN) (hbN:κb bN = .no) (hL:∀c ∈ L,c=bN\/∃j:Nat,xs[j]?=some c) (hnew:∀(j:Nat) c,xs[j]?=some c->κb c = .no) (hno:∀b F,κb b≠.lab F false)
  (hn0:κ bn = .fr) (gn:tr.get bn=some (.v (qaM (qO x.rules)))) (hbn:κb bn = .no) (hw0:κ bw = .fr) (gw:tr.get bw=some (.v (qbf (qO x.rules)))) (hbw:κb bw = .no) (hne:bn≠bw/\bn≠bL/\bw≠bL/\bn≠bf/\bw≠bf)
  {t:Tr AV} (ht:Has t [(1,.ptr bf 0),(4,.ptr w 0),(5,.ptr bN 0),(6,.sl bn 0 x.rules.length x.rules.length false),(7,.sl bw 0 x.rules.length x.rules.length false),(8,qis x.rules.length bL)]) :
  S P n0 (qcU gM go gS gT gb gh gr gR gd) (xu [.tmp 2,.tmp 3] λv' h'=>Frz h' v' (.tup [.fz (zn x).length (rSy (zn x)),.j 0])) t ⟨s,0,tr⟩:=by
 obtain⟨e1,e2,e3,e4,e5⟩:=hne;refine S.has _ ht (qk ?_);simp only[qcU,vI,simprocAttr];simp +decide only[↓vS,vT,simprocAttr];have hnl:(qO x.rules).length=x.rules.length:=qck;rw[hnl]at hS;refine hS.give [(bn,.v (qaM (qO x.rules))),(bw,.v (qbf (qO x.rules)))] ?_ (by simp[qt,clo,qfx]) ?_ ?_
 .simp_all
 .refine qaZ.2 ⟨Frz.cut 1 rfl (zzL _) ?_,qaZ.2 ⟨Frz.cut 1 rfl (zzL _) ?_,by grind[qaZ,qGQ,qfL]⟩⟩
  .simp[trP,Tr.get_set,vP,qjq,hnl];rw[List.take_of_length_le (by rw[qjq,hnl];omega)];exact Frzs.self qdr
  .simp[trP,Tr.get_set,vP,qjr,hnl,Ne.symm e1];rw[List.take_of_length_le (by rw[qjr,hnl];omega)];exact Frzs.self qds
 rw[qG4];have w1:=(h.chg (b:=bn) .fr .dead (.inl hn0) (h.dom bn (by rw[hn0];simp)) (.inr (.inl rfl))).chg (b:=bw) .fr .dead (.inl (by rw[qj (Ne.symm e1)];omega)) (h.dom bw (by rw[hw0];simp)) (.inr (.inl rfl))
 have s1:=(st.mod' hbn .dead).mod' hbw .dead
 have kk:∀b,κ b≠.fr->kdS (kdS κ bn .fr) bw .fr b=κ b:=λb hb=>by
  rw[qj (c:=b) (λe=>hb (by rw[e];omega)),qj (c:=b) (λe=>hb (by rw[e];omega))]
 have kf:∀b,κ b = .fr->kdS (kdS κ bn .fr) bw .fr b = .fr:=λb hb=>by
  simp only[kdS];simp_all
 have gg:∀b,b≠bn->b≠bw->((tr.set bn .dead).set bw .dead).get b=tr.get b:=λb h1 h2=>by
  rw[Tr.get_set,if_neg h2,Tr.get_set,if_neg h1]
 simp +decide only[↓vS,vT,simprocAttr];refine hB.sc ?_;simp +decide only[↓vS,vT,simprocAttr];have hV:=qry (n:=x.rules.length) (b:=bL);refine quD E.br E.W (qQ x) hT1 xs (by rw[hxl];omega) (jg x) (qis x.rules.length bL) (by rw[hxl];exact hV) w1 (kf bL hL0) ((gg bL (Ne.symm e2) (Ne.symm e3)).trans gL) (by grind) (by rw[qaB];have:=qrN (a:=x.arch);omega) λκ2 s2 t2 st2 w2=>?_
 simp +decide only[↓vS,vT,simprocAttr];obtain⟨c0,hc0⟩:∃c,xs[0]?=some c:=⟨_,zzE (by omega)⟩;have hge:(rPt xs)[0]?=some (.ptr c0 0):=by rw[qfV,hc0];rfl
 have hL2:=st2.fr bL (kf bL hL0);have gL2:=hL2.2.trans ((gg bL (Ne.symm e2) (Ne.symm e3)).trans gL);have hf2:=st2.fr bf (kf bf hf0);have gf2:=hf2.2.trans ((gg bf (Ne.symm e4) (Ne.symm e5)).trans gf)
 have hlen:(qbe x.arch 0 (x8 x)++xv (jg x) (qQ x) (qbe x.arch 0 (x8 x)).length).length=jg x 0:=by
  rw[zzP,qat,qaB];rfl
 have hk2:∀(j:Nat) c,xs[j]?=some c->∃p,κ2 c = .lab (jg x j) p:=λj c hj=>let ⟨p,hp⟩:=hxs j c hj;⟨p,st2.lab _ _ _ (by rw[kk c (by rw[hp];simp)];exact hp)⟩
 obtain⟨p0,hp0⟩:=hk2 0 c0 hc0;have hN2:κ2 bN = .lab (x8 x) pN:=st2.lab _ _ _ (by rw[kk bN (by rw[hN];simp)];exact hN)
 have hcN:c0≠bN:=λe=>by
  rw[e]at hp0;have:=(Kd.lab.inj (hp0.symm.trans hN2)).1;simp[jg,x8]at this;omega
 have hV0:(0:Nat)<x.rules.length+1:=by omega
 -- the label of the others has its place
 have rest:∀k2:AV->Hp->Prop,(∀t3:Tr Blk,t3.get bf=some (.v (zq x))->(∀k':AV->Hp->Prop,(∀(κ4:Nat->Kd) (s4:Nat) (t4:Tr Blk) (L4:List Nat),Stp L4 κb sb tb κ4 s4 t4->WI g w κ4 s4 t4 (qbe x.arch 0 (x8 x)++xv (jg x) (qQ x) (jL x.arch)++[⟨6,x.dflt,0,0⟩]) []->
   (∀(j:Nat) c,xs[j]?=some c->∃p,κ4 c = .lab (jg x j) p)->κ4 bL = .fr->t4.get bL=some (.cells e wf a (rPt xs))->κ4 bf = .fr->t4.get bf=some (.v (zq x))->κ4 bN = .lab (x8 x) pN->(∀c ∈ L4,c=bN\/∃j:Nat,1<=j/\xs[j]?=some c)->k' (.tup []) ⟨s4,0,t4⟩)->SC P gr [.ptr w 0,.w x.dflt] ⟨s2,0,t3⟩ k')->k2 (.tup []) ⟨s2,0,t3⟩)->SC P gh [.ptr w 0,.ptr c0 0] ⟨s2,0,t2⟩ k2:=by
  intro k2 hk2';refine qaT E.W.here w2 (b:=c0) (p:=p0) (by rw[hlen];omega) λt3 q1 q2 w3=>hk2' t3 (by grind) λk' hk'=>?_
  have st3:Stp (L.filter λy=>decide (y≠c0)) κb sb tb _ _ t3:=(s1.trans st2).kd' (F':=(qbe x.arch 0 (x8 x)++xv (jg x) (qQ x) (qbe x.arch 0 (x8 x)).length).length) (hnew 0 c0 hc0) q1 q2 λy hy=>by
   grind
  have nb:∀b,κ2 b = .fr->b≠c0:=by grind
  refine qnf E.W.ret E.W.put w3 x.dflt (by rw[hlen];simp[jg];omega) λκ4 s4 t4 st4 w4=>hk' κ4 s4 t4 _ (st3.trans st4) ?_ ?_ ?_ ?_ ?_ ?_ ?_ ?_
  .rw[qaB]at w4;exact w4
  .intro j c hj;obtain⟨p,hp⟩:=hk2 j c hj
   by_cases ec:c=c0
   .rw[ec]at hp ⊢;have hF:=(Kd.lab.inj (hp0.symm.trans hp)).1;exact⟨true,st4.lab _ _ _ (by rw[qF,hlen,hF])⟩
   .exact⟨p,st4.lab _ _ _ (by rw[qj ec];exact hp)⟩
  .exact (st4.fr bL (by rw[qj (nb _ hL2.1)];grind)).1
  .rw[(st4.fr bL (by rw[qj (nb _ hL2.1)];exact hL2.1)).2,q1 bL hL2.1];exact gL2
  .exact (st4.fr bf (by rw[qj (nb _ hf2.1)];grind)).1
  .rw[(st4.fr bf (by rw[qj (nb _ hf2.1)];exact hf2.1)).2,q1 bf hf2.1];exact gf2
  .exact st4.lab _ _ _ (by rw[qj (Ne.symm hcN)];omega)
  .intro c hc;rw[List.append_nil,List.mem_filter,decide_eq_true_eq]at hc
   grind
 have fin:∀(κ4:Nat->Kd) (s4:Nat) (t4:Tr Blk) (L4:List Nat),Stp L4 κb sb tb κ4 s4 t4->WI g w κ4 s4 t4 (qbe x.arch 0 (x8 x)++xv (jg x) (qQ x) (jL x.arch)++[⟨6,x.dflt,0,0⟩]) []->
   (∀(j:Nat) c,xs[j]?=some c->∃p,κ4 c = .lab (jg x j) p)->κ4 bL = .fr->t4.get bL=some (.cells e wf a (rPt xs))->κ4 bf = .fr->t4.get bf=some (.v (zq x))->κ4 bN = .lab (x8 x) pN->(∀c ∈ L4,c=bN\/∃j:Nat,1<=j/\xs[j]?=some c)->
   ∀(tt:Tr AV),Has tt [(1,.ptr bf 0),(4,.ptr w 0),(5,.ptr bN 0),(8,qis x.rules.length bL)]->S P n0 (qaI gM go gS gT gb gh gr gR gd) (xu [.tmp 2,.tmp 3] λv' h'=>Frz h' v' (.tup [.fz (zn x).length (rSy (zn x)),.j 0])) tt ⟨s4,0,t4⟩:=λκ4 s4 t4 L4 q1 q2 q3 q4 q5 q6 q7 q8 q9 tt htt =>
  qvd E x hx hK hn (by simp only[zzP,qaB,qat,List.length_singleton];rfl) hd1 q2 q1 xs hxl q3 q4 q5 q6 q7 q8 hbN q9 hnew hno htt
 rcases hV with hV|hV
 .rw[hV]at fin ⊢;simp +decide only[↓vS,vT,simprocAttr,gL2,hge,hV0];refine rest _ λt3 g3 hcall=>?_
  simp +decide only[↓vS,vT,simprocAttr,g3,zq];refine hcall _ λκ4 s4 t4 L4 q1 q2 q3 q4 q5 q6 q7 q8 q9=>?_
  simp +decide only[↓vS,vT,simprocAttr];exact fin κ4 s4 t4 L4 q1 q2 q3 q4 q5 q6 q7 q8 q9 _ (by simp[qg,ql,Tr.get_set])
 .rw[hV]at fin ⊢;simp +decide only[↓vS,vT,simprocAttr,gL2,hge,hV0];refine rest _ λt3 g3 hcall=>?_
  simp +decide only[↓vS,vT,simprocAttr,g3,zq];refine hcall _ λκ4 s4 t4 L4 q1 q2 q3 q4 q5 q6 q7 q8 q9=>?_
  simp +decide only[↓vS,vT,simprocAttr];exact fin κ4 s4 t4 L4 q1 q2 q3 q4 q5 q6 q7 q8 q9 _ (by simp[qg,ql,Tr.get_set])
end
def qma{A:List AV}{n i:Nat}{v z:AV}(hA:A.length=n)(hv:A[i]?=some v):(A.take i++List.replicate (n-i) z).take i++v::(A.take i++List.replicate (n-i) z).drop (i+1)=A.take (i+1)++List.replicate (n-(i+1)) z:=by
 have hi:i<n:=by rw[<- hA];grind
 have hl:(A.take i).length=i:=by rw[List.length_take];omega
 rw[List.take_left' hl]
 have:(A.take i++List.replicate (n-i) z).drop (i+1)=List.replicate (n-(i+1)) z:=by
  have e:i+1=(A.take i).length+1:=by rw[hl]
  rw[e,List.drop_length_add_append,List.drop_replicate,hl];congr 1
 rw[this,qbt hv];simp
section
variable {g w s gl gp gj gh gr g1 g2 g3 g4 g5:Nat} {κ:Nat->Kd} {tr:Tr Blk} {RV:List Sy} {N:List Nat} {k:AV->Hp->Prop} {go gb gR gd gt gH gA gB gC gD gM gS gT:Nat}
def qyU{n0 sb bf bN:Nat}{κb:Nat->Kd}{tb:Tr Blk}(E:EFn P g gl gp gj gh gr go gb gR gd gt gH gA gB gC gD)(x:GFil)(hx:FilR x)(ha0:0<=x.arch)(ha6:x.arch<6)(hK:∀r ∈ x.rules,qb2 r=true)(hn:x.rules.length<=400)(hd1:jP x<=10000)
  (hS:qa P gS [.fz (qO x.rules).length (qaM (qO x.rules)),.fz (qO x.rules).length (qbf (qO x.rules)),.j 0] (.tup [.fz (zW (pcs 0 (qO x.rules) 0)).length (rSp (zW (pcs 0 (qO x.rules) 0))),.j 0]))
  (hB:qa P gT [.fz (zW (pcs 0 (qO x.rules) 0)).length (rSp (zW (pcs 0 (qO x.rules) 0)))] (.tup [.fz (qQ x).length (rNd (qQ x)),.j 0])) (hT1:qQ x≠[]) (hT2:∀nd ∈ qQ x,NdOk (x.rules.length+1) (qQ x).length nd) (hT3:(qQ x).length<=10000)
  (h:WI g w κ s tr [] []) (st:Stp [bN] κb sb tb κ s tr) (hd:∀b,κb b≠.no->b<sb) (hf0:κ bf = .fr) (gf:tr.get bf=some (.v (zq x))) {pN:Bool} (hN:κ bN = .lab (x8 x) pN) (hbN:κb bN = .no) (hno:∀b F,κb b≠.lab F false)
  {t:Tr AV} (ht:Has t [(1,.ptr bf 0),(4,.ptr w 0),(5,.ptr bN 0)]) :
  S P n0 (qcT gM go gS gT gb gh gr gR gd) (xu [.tmp 2,.tmp 3] λv' h'=>Frz h' v' (.tup [.fz (zn x).length (rSy (zn x)),.j 0])) t ⟨s,0,tr⟩:=by
 refine S.has _ ht (qk ?_);simp only[qcT,vI,simprocAttr];simp +decide only[↓vS,vT,simprocAttr,gf,zq];refine qHy E.own E.W E.tok h x.arch ha0 ha6 hN (by simp) λκ1 s1 t1 st1 w1=>?_
 rw[zzN,List.length_nil]at w1;have sa:=st.trans st1;have hf1:=st1.fr bf hf0;have gf1:=hf1.2.trans gf;have hbs:bf<s1:=w1.dom bf (by rw[hf1.1];simp);have f1:¬bf=s1:=by omega
 have f2:¬bf=s1+1:=by omega
 have f3:¬bf=s1+1+1:=by omega
 have f4:¬bf=s1+1+1+1:=by omega
 have r1:x.rules.length<=qi:=by simp only[qi];omega
 have r2:4*x.rules.length<=qi:=by simp only[qi];omega
 have r3:8*x.rules.length<=qi:=by simp only[qi];omega
 simp +decide only[↓vS,vT,simprocAttr];refine zB ?_;simp +decide only[↓vS,vT,simprocAttr,gf1,zq,f1,f2,f3,f4,r1,r2,r3];have k1:κ1 s1 = .no:=w1.fresh
 have nb:∀c:Nat,κb (s1+c) = .no:=λc=>by
  cases hk:κb (s1+c)with
  | no=>rfl
  | _ =>
   have:=hd (s1+c) (by rw[hk];simp);have:=sa.le;omega
 -- the four blocks
 have wa:=w1.new .fr (.v (List.replicate x.rules.length [AV.w 0]).flatten) (.inr (.inl rfl));have wb:=wa.new .fr (.v (List.replicate x.rules.length [AV.j 0]).flatten) (.inr (.inl rfl));have wc:=wb.new (.lab (jg x 0) false) _ (.inr (.inr (.inr ⟨_,rfl,rfl⟩)));have wd:=wc.new .fr (.v [.ptr (s1+1+1) 0]) (.inr (.inl rfl));have sd:=(((sa.trans (w1.stpNew .fr (.v (List.replicate x.rules.length [AV.w 0]).flatten) (by simp))).trans (wa.stpNew .fr (.v (List.replicate x.rules.length [AV.j 0]).flatten) (by simp))).trans (wb.stpLab (.lab (jg x 0) false) (.v [.j 0]))).trans (wc.stpNew .fr (.v [.ptr (s1+1+1) 0]) (by simp))
 refine SL.loopP (α:=Nat×Nat) (λi=>[(1,.ptr bf 0),(4,.ptr w 0),(5,.ptr bN 0),(6,.sl s1 0 x.rules.length x.rules.length false),(7,.sl (s1+1) 0 x.rules.length x.rules.length false),(8,qis i.1 i.2),(41,.fz x.rules.length (rR x.rules)),(42,.j (x.rules.length:Int)),(43,.j (i.1:Int))])
  (λi h=>i.1<=x.rules.length/\∃L' κ' s' tr' xs,h=⟨s',0,tr'⟩/\Stp L' κb sb tb κ' s' tr'/\WI g w κ' s' tr' (qbe x.arch 0 (x8 x)) []/\xs.length=i.1+1/\(∀(j:Nat) c,xs[j]?=some c->∃p,κ' c = .lab (jg x j) p)/\κ' i.2 = .fr/\tr'.get i.2=some (if i.1=0 then .v (rPt xs)else .cells 1 true true (rPt xs)) /\
   κ' bf = .fr/\tr'.get bf=some (.v (zq x))/\κ' bN = .lab (x8 x) pN/\(∀c ∈ L',c=bN\/∃j:Nat,xs[j]?=some c)/\(∀(j:Nat) c,xs[j]?=some c->s1<=c)/\κ' s1 = .fr/\κ' (s1+1) = .fr/\tr'.get s1=some (.v ((qaM (qO x.rules)).take i.1++List.replicate (x.rules.length-i.1) (.w 0))) /\
   tr'.get (s1+1)=some (.v ((qbf (qO x.rules)).take i.1++List.replicate (x.rules.length-i.1) (.j 0)))/\s1+1<i.2/\i.2<s') (λi=>x.rules.length-i.1) ?_ (0,s1+1+1+1) ?_ ?_
 .rintro⟨i,bL⟩ h1 ⟨hi,L',κ',s',tr',xs,rfl,st',w',hxl,hxs,hL0,gL,hbf,gbf,hbN',hL',hnew,hs1,hs2,gn,gw,hbl,hbl2⟩ G ih;simp only at hi hxl hL0 gL gn gw hbl hbl2;simp only[vI,simprocAttr]
  by_cases hlt:i<x.rules.length
  .have hlt':(i:Int)<x.rules.length:=by omega
   obtain⟨r,hr⟩:∃r,x.rules[i]?=some r:=⟨_,zzE hlt⟩;have hel:((rR x.rules).drop (i*3)).take 3=zu r:=qS qb5 hr;have h3:i*3+3<=(rR x.rules).length:=by rw[show(rR x.rules).length=x.rules.length*3 from qW qb5 _];omega
   have hw1:IntKind.wrap .i64 ((i:Int)+1)=((i+1:Nat):Int):=by rw[qp (by omega) (by omega)];simp
   have gnm:(qaM (qO x.rules))[i]?=some (.w r.nr):=by rw[qjp,qdq,hr];rfl
   have gwm:(qbf (qO x.rules))[i]?=some (.j ((i+1:Nat):Int)):=by rw[qpN,qdq,hr];rfl
   have fn:=qma (n:=x.rules.length) (z:=.w 0) (by rw[qjq,qck]) gnm;have fw:=qma (n:=x.rules.length) (z:=.j 0) (by rw[qjr,qck]) gwm;have ln:i+1<=((qaM (qO x.rules)).take i++List.replicate (x.rules.length-i) (AV.w 0)).length:=by grind
   have lw:i+1<=((qbf (qO x.rules)).take i++List.replicate (x.rules.length-i) (AV.j 0)).length:=by grind
   have q1:¬s1=s':=by omega
   have q2:¬s1+1=s':=by omega
   have q3:¬s'=s1:=by omega
   have q4:¬s1+1=s1:=by omega
   have q5:¬bL=s':=by omega
   have q6:¬bL=s1:=by omega
   have q7:¬bL=s1+1:=by omega
   have q8:¬bL=s'+1:=by omega
   have q9:¬bL=s'+1+1:=by omega
   have q10:¬s'=s1+1:=by omega
   have q11:¬s'+1+1=bL:=by omega
   have hfw0:IntKind.wrap .i64 ((i:Int)+1)=((i+1:Nat):Int):=hw1;obtain⟨wv,sv⟩:=w'.var (.v [.w 0,.nils,.w 0]) (.v (zu r));have v1:kdS κ' s' .fr s1 = .fr:=(sv.fr s1 hs1).1;have w2:=wv.chg (b:=s1) .fr (.v ((qaM (qO x.rules)).take (i+1)++List.replicate (x.rules.length-(i+1)) (.w 0))) (.inl v1) (by omega) (.inr (.inl rfl));have w3:=w2.chg (b:=s1+1) .fr (.v ((qbf (qO x.rules)).take (i+1)++List.replicate (x.rules.length-(i+1)) (.j 0))) (.inl (by rw[qj q4];exact(sv.fr _ hs2).1)) (by omega) (.inr (.inl rfl))
   have s3:=((st'.trans sv).mod' (nb 0) (.v ((qaM (qO x.rules)).take (i+1)++List.replicate (x.rules.length-(i+1)) (.w 0)))).mod' (nb 1) (.v ((qbf (qO x.rules)).take (i+1)++List.replicate (x.rules.length-(i+1)) (.j 0)));have w4:=w3.new (.lab (jg x (i+1)) false) _ (.inr (.inr (.inr ⟨_,rfl,rfl⟩)));have s4:=s3.trans (w3.stpLab (.lab (jg x (i+1)) false) (.v [.j 0]));have w5:=w4.new .no (.v [.ptr (s'+1) 0]) (.inl rfl);have s5:=s4.trans (w4.stpNew .no (.v [.ptr (s'+1) 0]) (by simp))
   have nbL:κb bL = .no:=by
    have e:bL=s1+(bL-s1):=by omega
    rw[e];grind
   have kb:kdS (kdS (kdS (kdS (kdS κ' s' .fr) s1 .fr) (s1+1) .fr) (s'+1) (.lab (jg x (i+1)) false)) (s'+1+1) .no bL = .fr:=by
    rw[qj q9,qj q8,qj q7,qj q6,qj q5];omega
   have w6:=w5.chg (b:=bL) .fr .dead (.inl kb) (by omega) (.inr (.inl rfl));have s6:=s5.mod' nbL .dead;have w7:=w6.new .fr (.cells 1 true true (rPt (xs++[s'+1]))) (.inr (.inl rfl));have s7:=s6.trans (w6.stpNew .fr (.cells 1 true true (rPt (xs++[s'+1]))) (by simp));have w7':=w5.new .fr (.cells 1 true true (rPt (xs++[s'+1]))) (.inr (.inl rfl));have s7':=s5.trans (w5.stpNew .fr (.cells 1 true true (rPt (xs++[s'+1]))) (by simp))
   have fin:∀(κf:Nat->Kd) (tf:Tr Blk) (Lf:List Nat),Stp Lf κb sb tb κf (s'+1+1+1+1) tf->WI g w κf (s'+1+1+1+1) tf (qbe x.arch 0 (x8 x)) []->Lf=L'++[s'+1]->(∀b,b<s'->b≠s1->b≠s1+1->b≠bL->κf b=κ' b/\tf.get b=tr'.get b)->κf s1 = .fr->κf (s1+1) = .fr->κf (s'+1) = .lab (jg x (i+1)) false->κf (s'+1+1+1) = .fr->
     tf.get s1=some (.v ((qaM (qO x.rules)).take (i+1)++List.replicate (x.rules.length-(i+1)) (.w 0)))->tf.get (s1+1)=some (.v ((qbf (qO x.rules)).take (i+1)++List.replicate (x.rules.length-(i+1)) (.j 0)))->tf.get (s'+1+1+1)=some (.cells 1 true true (rPt (xs++[s'+1])))->
     ∀tt,Has tt [(1,.ptr bf 0),(4,.ptr w 0),(5,.ptr bN 0),(6,.sl s1 0 x.rules.length x.rules.length false),(7,.sl (s1+1) 0 x.rules.length x.rules.length false),(8,.own (s'+1+1+1) (i+1+1)),(41,.fz x.rules.length (rR x.rules)),(42,.j (x.rules.length:Int)),(43,.j ((i+1:Nat):Int))]->G tt ⟨s'+1+1+1+1,0,tf⟩:=by
    intro κf tf Lf p1 p2 p3 p4 p5 p6 p7 p8 p9 p10 p11 tt htt;have hbfs:bf<s':=by omega
    have hbNs:bN<s1:=by
     have hb:=st1.lab _ _ _ hN;exact w1.dom bN (by rw[hb];simp)
    have hbfL:bf≠bL:=by omega
    refine ih (i+1,s'+1+1+1) _ _ (by omega) htt ⟨by omega,Lf,κf,s'+1+1+1+1,tf,xs++[s'+1],rfl,p1,p2,by grind,λj c hj=>?_,p8,?_,?_,?_,?_,λc hc=>?_,λj c hj=>?_,p5,p6,p9,p10,by omega,by omega⟩
    .rw[List.getElem?_append]at hj;split at hj
     .obtain⟨p,hp⟩:=hxs j c hj;have:c<s':=by grind[WI.dom]
      have n1:c≠s1:=by grind
      have n2:c≠s1+1:=(by grind);have n3:c≠bL:=by grind
      grind
     .have hj0:j-xs.length=0:=by
       have:=(zzS.1 hj).1;simp at this;exact this
      rw[hj0]at hj;simp at hj;subst hj;obtain rfl:j=i+1:=by omega
      grind
    .rw[p11,if_neg (by simp)]
    .rw[(p4 bf hbfs (by omega) (by omega) hbfL).1];omega
    .rw[(p4 bf hbfs (by omega) (by omega) hbfL).2];omega
    .rw[(p4 bN (by omega) (by omega) (by omega) (by omega)).1];omega
    .rw[p3,List.mem_append,List.mem_singleton]at hc;rcases hc with hc|hc
     .rcases hL' c hc with q|⟨j,q⟩
      .omega
      .exact .inr ⟨j,by rw[List.getElem?_append_left (by grind)];exact q⟩
     .exact .inr ⟨xs.length,by rw[hc];simp⟩
    .rw[List.getElem?_append]at hj;split at hj
     .grind
     .have hj0:j-xs.length=0:=by
       have:=(zzS.1 hj).1;simp at this;exact this
      rw[hj0]at hj;grind
   have m1:¬s'+1+1+1=s'+1+1:=by omega
   have hap:rPt xs++[.ptr (s'+1) 0]=rPt (xs++[s'+1]):=by simp[rPt]
   have hlx:(rPt xs).length=i+1:=by rw[qhB,hxl]
   have m2:¬s1=s'+1:=by omega
   have m3:¬s1+1=s'+1:=by omega
   have m4:¬s'=s'+1:=by omega
   have m5:¬s'+1+1=s'+1:=by omega
   have hs1':s1<s':=by omega
   rcases Nat.eq_zero_or_pos i with h0|h0
   .rw[if_pos h0]at gL;have hV:qis i bL = .sl bL 0 1 1 false:=by simp[qis,h0]
    have htk:(rPt xs).take 1=rPt xs:=by grind
    have c2:1<=(rPt xs).length:=by omega
    rw[hV];have e2:(.own (s'+1+1+1) (i+1+1):AV) = .own (s'+1+1+1) 2:=by rw[h0]
    rw[e2]at fin;simp +decide only[↓vS,vT,simprocAttr,hlt',hlt,h3,hel,zu,hw1,gn,gw,gL,ln,lw,fn,fw,q1,q2,q3,q4,q5,q6,q7,q8,q9,q10,q11,m1,zzU,htk,c2,hap];refine fin _ _ _ s7' w7' (by simp) ?_ ?_ ?_ ?_ ?_ ?_ ?_ ?_ _ ?_
    .intro b hb n1 n2 n3;constructor
     .rw[qj (by omega),qj (by omega),qj (by omega),qj n2,qj n1,qj (by omega)]
     .simp only[Tr.get_set];rw[if_neg (by omega),if_neg (by omega),if_neg (by omega),if_neg n2,if_neg n1,if_neg (by omega),if_neg (by omega)]
    .rw[qj (by omega),qj (by omega),qj (by omega),qj (by omega),qF]
    .rw[qj (by omega),qj (by omega),qj (by omega),qF]
    .rw[qj (by omega),qj (by omega),qF]
    .rw[qF]
    .simp only[Tr.get_set];rw[if_neg (by omega),if_neg (by omega),if_neg (by omega),if_neg (by omega)];simp
    .simp only[Tr.get_set];rw[if_neg (by omega),if_neg (by omega),if_neg (by omega)];simp
    .rw[Tr.get_set,if_pos rfl]
    .simp[qg,ql,Tr.get_set]
   .rw[if_neg (by omega)]at gL;have hV:qis i bL = .own bL (i+1):=by unfold qis;rw[if_neg (by omega)]
    rw[hV];have rr1:i+1+1<=qi:=by omega
    have rr2:(i+1+1)*8<=qi:=by simp only[qi];omega
    simp +decide only[↓vS,vT,simprocAttr,hlt',hlt,h3,hel,zu,hw1,gn,gw,gL,ln,lw,fn,fw,q1,q2,q3,q4,q5,q6,q7,q8,q9,q10,q11,m1,rr1,rr2,zzU,hlx,hap];refine fin _ _ _ s7 w7 (by simp) ?_ ?_ ?_ ?_ ?_ ?_ ?_ ?_ _ ?_
    .intro b hb n1 n2 n3;constructor
     .rw[qj (by omega),qj n3,qj (by omega),qj (by omega),qj n2,qj n1,qj (by omega)]
     .simp only[Tr.get_set];rw[if_neg (by omega),if_neg n3,if_neg (by omega),if_neg (by omega),if_neg n2,if_neg n1,if_neg (by omega),if_neg (by omega)]
    .rw[qj (by omega),qj (by omega),qj (by omega),qj (by omega),qj (by omega),qF]
    .rw[qj (by omega),qj (by omega),qj (by omega),qj (by omega),qF]
    .rw[qj (by omega),qj (by omega),qj (by omega),qF]
    .rw[qF]
    .simp only[Tr.get_set];rw[if_neg (by omega),if_neg (by omega),if_neg (by omega),if_neg (by omega),if_neg (by omega)];simp
    .simp only[Tr.get_set];rw[if_neg (by omega),if_neg (by omega),if_neg (by omega),if_neg (by omega)];simp
    .rw[Tr.get_set,if_pos rfl]
    .simp[qg,ql,Tr.get_set]
  .obtain rfl:i=x.rules.length:=by omega
   have hlt':¬((x.rules.length:Int)<x.rules.length):=by omega
   simp +decide only[↓vS,vT,simprocAttr,hlt']
   have e1:(if x.rules.length=0 then Blk.v (rPt xs)else .cells 1 true true (rPt xs)) = .cells (if x.rules.length=0 then 0 else 1) true (decide (x.rules.length≠0)) (rPt xs):=by
    by_cases h:x.rules.length=0<;>simp[h]
   rw[e1]at gL;have hfb:bf≠s1:=f1;refine qyV (bn:=s1) (bw:=s1+1) E x hx hK hn hd1 hS hB hT1 hT2 hT3 w' st' xs hxl hxs hL0 gL hbf gbf hbN' hbN hL' (λj c hj=>?_) hno hs1 ?_ (nb 0) hs2 ?_ (nb 1) (by omega) ?_
   .have:=hnew j c hj;have e:c=s1+(c-s1):=by omega
    rw[e];grind
   .rw[gn];grind[qjq,qck]
   .rw[gw];grind[qjr,qck]
   .simp[qg,ql,Tr.get_set]
 .simp[qg,ql,Tr.get_set,qis,zq]
 .refine⟨Nat.zero_le _,_,_,_,_,[s1+1+1],rfl,sd,wd,rfl,λj c hj=>?_,qF,?_,?_,?_,?_,λc hc=>?_,λj c hj=>?_,?_,?_,?_,?_,by simp only;omega,by simp only;omega⟩
  .have:j=0:=by have:=(zzS.1 hj).1;simpa using this
   subst this;simp at hj;subst hj;exact⟨false,by rw[qj (by omega),qF]⟩
  .simp[Tr.get_set,rPt]
  .rw[qj f4,qj f3,qj f2,qj f1];exact hf1.1
  .simp only[Tr.get_set];rw[if_neg f4,if_neg f3,if_neg f2,if_neg f1];exact gf1
  .have hb:=st1.lab _ _ _ hN;have:bN<s1:=w1.dom bN (by rw[hb];simp);rw[qj (by omega),qj (by omega),qj (by omega),qj (by omega)];exact hb
  .simp at hc;rcases hc with hc|hc
   .exact .inl hc
   .exact .inr ⟨0,by simp[hc]⟩
  .have:j=0:=by have:=(zzS.1 hj).1;simpa using this
   subst this;simp at hj;omega
  .rw[qj (by omega),qj (by omega),qj (by omega),qF]
  .rw[qj (by omega),qj (by omega),qF]
  .simp only[Tr.get_set];rw[if_neg (by omega),if_neg (by omega),if_neg (by omega)];simp
  simp_all[Tr.get_set]
noncomputable def qoA(x:GFil):AV:=if jq x=true then .tup [.fz (zn x).length (rSy (zn x)),.j 0]else .tup [.fz 0 [],.j 210]
def qsW(hc:qc P f (qfM gM go gS gT gb gh gr gR gd)=true)(E:EFn P g gl gp gj gh gr go gb gR gd gt gH gA gB gC gD)(x:GFil)(hx:FilR x)(hM:qa P gM [.agg (zq x)] (.b (jq x)))
  (hk:jq x=true->jP x<=10000/\(qQ x).length<=10000/\qQ x≠[]/\(∀nd ∈ qQ x,NdOk (x.rules.length+1) (qQ x).length nd) /\
   qa P gS [.fz (qO x.rules).length (qaM (qO x.rules)),.fz (qO x.rules).length (qbf (qO x.rules)),.j 0] (.tup [.fz (zW (pcs 0 (qO x.rules) 0)).length (rSp (zW (pcs 0 (qO x.rules) 0))),.j 0]) /\
   qa P gT [.fz (zW (pcs 0 (qO x.rules) 0)).length (rSp (zW (pcs 0 (qO x.rules) 0)))] (.tup [.fz (qQ x).length (rNd (qQ x)),.j 0])) :
  qa P f [.agg (zq x)] (qoA x):=by
 have hcl:qt (rR x.rules)=true:=xP λr=>by simp[zu,qt,clo,zX]
 refine qa.mk hc (by simp[qt,clo,zq,hcl]) ?_;simp only[qfM,zq,vI,simprocAttr];simp +decide only[↓vS,vT,simprocAttr];simp only[zq]at hM;refine hM.sc ?_;unfold qoA;cases hK:jq x with
 | false =>
  simp +decide only[↓vS,vT,simprocAttr];simp[vZ]
 | true =>
  obtain⟨h1,h2,h3,h4,h5,h6⟩:=hk hK;simp only[jq,zzB,decide_eq_true_eq]at hK;obtain⟨⟨⟨⟨k1,k2⟩,k3⟩,k4⟩,k5⟩:=hK;simp +decide only[↓vS,vT,simprocAttr];refine S.weak (Wk.mk [(1,.ptr 0 0),(4,.ptr 1 0),(5,.ptr 2 0)] [.v (zq x),.v [.own 3 0,.own 4 0],.v [.j 0],.cells 4 true true [],.cells 1 true true []] [0,1,2,99,99] ?_ ?_ ?_ rfl) ?_
  .simp[vw]
  .simp[vw,zq,hcl]
  .simp
  simp only[vI,simprocAttr]
  have hW:∀kd:Kd,(kd = .no\/kd = .lab (x8 x) false)->WI g 1 (λb=>if b=0 then .fr else if b=1 then .w else if b=2 then kd else if b=3 then .l else if b=4 then .t else .no) 5 (((((Tr.leaf.set 0 (.v (zq x))).set 1 (.v [.own 3 0,.own 4 0])).set 2 (.v [.j 0])).set 3 (.cells 4 true true [])).set 4 (.cells 1 true true [])) [] []:=λkd hkd=>by
   refine⟨λb hb=>?_,⟨3,4,[],[],rfl,rfl,rfl,?_,?_,?_,trivial,by simp,λj y hy=>by simp at hy⟩,λb F p hb=>?_⟩
   .by_cases e:b<5
    .exact e
    .rw[if_neg (by omega),if_neg (by omega),if_neg (by omega),if_neg (by omega),if_neg (by omega)]at hb;exact absurd rfl hb
   .simp[Tr.get_set]
   .simp[Tr.get_set,rSy]
   .simp[Tr.get_set]
   .split at hb
    .cases hb
    split at hb
    .cases hb
    split at hb
    .rename_i e;subst e;rcases hkd with rfl|rfl
     .cases hb
     .cases hb;exact by grind[Tr.get_set]
    split at hb
    .cases hb
    split at hb<;>cases hb
  refine qyU (bf:=0) (bN:=2) (pN:=false) (κb:=λb=>if b=0 then .fr else if b=1 then .w else if b=2 then .no else if b=3 then .l else if b=4 then .t else .no) (sb:=5) (tb:=((((Tr.leaf.set 0 (.v (zq x))).set 1 (.v [.own 3 0,.own 4 0])).set 2 (.v [.j 0])).set 3 (.cells 4 true true [])).set 4 (.cells 1 true true []))
   E x hx k1 k2 (qjN k5) k3 h1 h5 h6 h3 h4 h2 (hW (.lab (x8 x) false) (.inr rfl)) ⟨zzL _,λb hb=>⟨?_,rfl⟩,λb hb=>⟨?_,rfl⟩,λb F p hb=>?_,λb F hb=>?_⟩ (by grind) rfl ?_ rfl rfl ?_ ?_
  .by_cases e:b=2
   .subst e;simp at hb
   .rw[if_neg e]at hb ⊢;exact hb
  .by_cases e:b=2
   .subst e;simp at hb
   .rw[if_neg e]at hb ⊢;exact hb
  all_goals grind[Tr.get_set,qg,ql]
end
end Go.Kc
end
