/- Part 9 of the abstract machine and of the functions' walks. Conditions: with each theorem. -/
import Derived.Test.YtgaodkfneooonaaGreatK8
set_option maxHeartbeats 4000000
set_option linter.unusedSectionVars false
set_option linter.unusedSimpArgs false
set_option linter.unusedVariables false
set_option linter.unnecessarySimpa false
section
namespace Go.Kc
variable {P:Program} {f:Nat}
theorem qfq{α:Type}{f:α->List AV}{m:Nat}(h:∀x,(f x).length=m){xs:List α}{j:Nat}{x x':α}{i:Nat}{v:AV}(hx:xs[j]?=some x)(hi:i<m)(hf:f x'=(f x).take i++([v]++(f x).drop (i+1))) :
  (xs.flatMap f).take (j*m+i)++([v]++(xs.flatMap f).drop (j*m+i+1))=(xs.set j x').flatMap f:=by
 obtain⟨hj,hx⟩:=zzS.1 hx;have e:xs=xs.take j++x::xs.drop (j+1):=by rw[← hx,List.getElem_cons_drop,List.take_append_drop]
 have hl:(xs.take j).length=j:=by rw[List.length_take];omega
 have hA:((xs.take j).flatMap f).length=j*m:=by rw[zt h,hl]
 have e1:xs.flatMap f=(xs.take j).flatMap f++(f x++(xs.drop (j+1)).flatMap f):=by
  conv=>lhs;rw[e]
  simp
 have e2:(xs.set j x').flatMap f=(xs.take j).flatMap f++(f x'++(xs.drop (j+1)).flatMap f):=by
  rw[List.set_eq_take_append_cons_drop,if_pos hj];simp
 rw[e1,e2,hf,← hA,List.take_length_add_append,show ((xs.take j).flatMap f).length+i+1=((xs.take j).flatMap f).length+(i+1) from rfl,List.drop_length_add_append]
 rw[List.take_append_of_le_length (by rw[h];omega),List.drop_append_of_le_length (by rw[h];omega)];simp
theorem qdw(s:Sy):(cSy s).length=4:=rfl
def xH:IFn:=⟨[],.seq (.reg true [.d 5 1,.q 6 (.nilChk (.t 5)),.f 7 0 6,.d 8 7,.d 9 2,.d 10 0,.q 11 (.nilChk (.t 10)),.f 12 0 11,.d 13 12,.i 14 4 8 9,.f 15 2 14,.u (.store 1 (.t 15) (.t 13))]) (.seq (.r [.d 16 3,.q 17 (.bin .neq (.t 16) (.c (.i .u16 5)))]) (.cond (.t 17) (.reg true [.d 18 1,.q 19 (.nilChk (.t 18)),.f 20 0 19,.d 21 20,.d 22 2,.d 23 4,.q 24 (.nilChk (.t 23)),.f 25 0 24,.d 26 25,.i 27 4 21 22,.f 28 3 27,.u (.store 1 (.t 28) (.t 26))]) (.skip)))⟩
theorem qs2(hc:qd P f xH=true){s w bl j b5 b6 b8 b9 b10 X F:Nat}{L:List Sy}{z:Sy}{x o:AV}{c:Int}{e:Nat}{tr:Tr Blk}{k:AV->Hp->Prop}
  (hw:tr.get w=some (.cells 0 true false [.own bl L.length,x])) (hl:tr.get bl=some (.cells 4 true true (rSy L))) (hz:L[j]?=some z)
  (g5:tr.get b5=some (.cells 0 true false [.ptr w 0])) (g6:tr.get b6=some (.cells 0 true false [.i .u16 c])) (g8:tr.get b8=some (.cells 0 true false [.ptr X 0])) (g9:tr.get b9=some (.cells 0 true false [o])) (g10:tr.get b10=some (.cells 0 true false [.i .i64 (j:Int)]))
  (gX:tr.get X=some (.cells 0 true false [.i .i64 (F:Int)])) (hn:w≠bl∧b5≠bl∧b6≠bl∧b8≠bl∧b9≠bl∧b10≠bl∧X≠bl) (hd:bl<s)
  (ho:(c=5∧e=z.el)∨(c≠5∧∃Y,o = .ptr Y 0∧Y≠bl∧tr.get Y=some (.cells 0 true false [.i .i64 (e:Int)])))
  (hk:∀tr',(∀b,tr'.get b=if b=bl then some (.cells 4 true true (rSy (L.set j ⟨z.code,z.k,F,e⟩))) else tr.get b)->k (.tup []) ⟨s,0,tr'⟩) :
  SC P f [.ptr b8 0,.ptr b5 0,.ptr b10 0,.ptr b6 0,.ptr b9 0] ⟨s,0,tr⟩ k:=by
 obtain⟨n1,n2,n3,n4,n5,n6,n7⟩:=hn;have hj:j<L.length:=(zzS.1 hz).1;have hj4:j*4+2+1<=(rSy L).length:=by rw[qaj];omega
 have h1:(rSy L).take (j*4+2) ++ .i .i64 (F:Int)::(rSy L).drop (j*4+2+1)=rSy (L.set j ⟨z.code,z.k,F,z.el⟩):=qfq qdw hz (by omega) rfl;have hz2:(L.set j ⟨z.code,z.k,F,z.el⟩)[j]?=some ⟨z.code,z.k,F,z.el⟩:=by simp[hj]
 have h2:(rSy (L.set j ⟨z.code,z.k,F,z.el⟩)).take (j*4+3) ++ .i .i64 (e:Int)::(rSy (L.set j ⟨z.code,z.k,F,z.el⟩)).drop (j*4+3+1)=rSy (L.set j ⟨z.code,z.k,F,e⟩):=by
  have:=qfq (x':=⟨z.code,z.k,F,e⟩) (v:=.i .i64 (e:Int)) (i:=3) qdw hz2 (by omega) rfl;rw[List.set_set] at this;exact this
 have hj5:j*4+3+1<=(rSy (L.set j ⟨z.code,z.k,F,z.el⟩)).length:=by rw[qaj,List.length_set];omega
 refine SC.mk hc (ql ?_);simp only[xH,vI,simprocAttr];refine zg ?_;simp +decide only[↓vS,vT,simprocAttr,g5,hw,g10,g8,gX,hl,n1,n2,n3,n4,n5,n6,n7,hj,hd,hj4,h1];rcases ho with⟨rfl,rfl⟩|⟨hc5,Y,rfl,nY,gY⟩
 ·simp +decide only[↓vS,vT,simprocAttr,g6];refine hk _ fun b=>?_
  rw[Tr.get_set]
 ·simp +decide only[↓vS,vT,simprocAttr,g6,hc5];refine zg ?_;have n1':¬w=bl:=n1;simp +decide only[↓vS,vT,simprocAttr,g5,hw,g10,g9,gY,hl,n1,n2,n3,n4,n5,n6,n7,nY,hj,hd,hj5,List.length_set,h2];refine hk _ fun b=>?_
  simp only[Tr.get_set];split<;>rfl
def qaJ:IFn:=⟨[.tmp 2],.seq (.r [.m 2 .N]) (.seq (.seq (.r [.n 5 0,.q 6 (.nilChk (.t 5)),.f 7 1 6,.d 8 7,.e 9 8,.m 10 (.k 0)]) (.blk 0 (.loop (.seq (.r [.s 11 10 9]) (.seq (.cond (.t 11) (.skip) (.exit 0)) (.seq (.blk 1 (.seq (.r [.i 12 1 8 10,.d 13 12,.n 4 13]) (.r [.n 14 4,⟨(some 15),.callV (.t 14) [],none⟩]))) (.r [.a 16 10 1,.n 10 16]))))))) (.seq (.r [.n 17 0,.q 18 (.nilChk (.t 17)),.f 19 0 18,.d 20 19,.n 2 20]) (.ret)))⟩
def qek(js:List Nat)(RV:List Sy):List Sy:=RV.mapIdx fun j y=>if j ∈ js then y else y.raw
theorem qre{RV:List Sy}:qek [] RV=RV.map Sy.raw:=by
 apply List.ext_getElem?;intro i;simp[qek]
theorem qk7{js:List Nat}{RV:List Sy}:(qek js RV).length=RV.length:=by simp[qek]
theorem qel{js:List Nat}{RV:List Sy}{j:Nat}:(qek js RV)[j]?=(RV[j]?).map fun y=>if j ∈ js then y else y.raw:=by simp[qek]
theorem qok{js:List Nat}{RV:List Sy}{j:Nat}{y:Sy}(hy:RV[j]?=some y):(qek js RV).set j y=qek (js++[j]) RV:=by
 have hj:j<RV.length:=(zzS.1 hy).1;apply List.ext_getElem?;intro i;rw[List.getElem?_set]
 by_cases e:j=i
 ·subst e;rw[if_pos rfl,if_pos (by rw[qk7];exact hj),qel,hy];simp
 ·rw[if_neg e,qel,qel]
  congr 1;funext y
  have:(i ∈ js++[j])↔i ∈ js:=by simp[Ne.symm e]
  simp[this]
theorem qrd{js:List Nat}{RV:List Sy}(h:∀(j:Nat) y,RV[j]?=some y->j ∉ js->y.raw=y):qek js RV=RV:=by
 apply List.ext_getElem?;intro i;rw[qel];cases hi:RV[i]? with
 | none=>rfl
 | some y =>
  by_cases e:i ∈ js
  ·simp[e]
  ·simp[e,h i y hi e]
theorem qfh.get{g w:Nat}{κ:Nat->Kd}{tr:Tr Blk}{RV:List Sy}:∀{js:List Nat} {cs:List AV},qfh g w κ tr RV js cs->∀{i:Nat} {c:AV},cs[i]?=some c->∃j,js[i]?=some j∧JOk g w κ tr RV j c
 | [],[],_,_,_,h=>by simp at h
 | j::js,c::cs,h,0,_,hi=>by simp at hi;subst hi;exact⟨j,rfl,h.1⟩
 | j::js,c::cs,h,i+1,_,hi=>by simpa using qfh.get h.2 (by simpa using hi)
 | [],_::_,h,_,_,_=>h.elim
 | _::_,[],h,_,_,_=>h.elim
theorem qfh.len{g w:Nat}{κ:Nat->Kd}{tr:Tr Blk}{RV:List Sy}:∀{js:List Nat} {cs:List AV},qfh g w κ tr RV js cs->js.length=cs.length
 | [],[],_=>rfl
 | _::_,_::_,h=>by simp[qfh.len h.2]
 | [],_::_,h=>h.elim
 | _::_,[],h=>h.elim
theorem qzo{g w s:Nat}{κ:Nat->Kd}{tr:Tr Blk}{RV:List Sy}{k:AV->Hp->Prop}(hc:qd P f qaJ=true)(hg:qd P g xH=true)(h:WI g w κ s tr RV [])(hp:∀b F p,κ b = .lab F p->p=true)(hm:RV.length<=1000000)
  (hk:∀tr' b,tr'.get b=some (.cells 4 true true (rSy RV))->b<s->k (.own b RV.length) ⟨s,0,tr'⟩):SC P f [.ptr w 0] ⟨s,0,tr⟩ k:=by
 obtain⟨bl,bt,cs,js,r1,r2,r3,r4,r5,r6,r7,r8,r9⟩:=h.rows;have ne:∀{b c},κ b≠κ c->b≠c:=fun q e=>q (e ▸ rfl)
 have hjl:=r7.len;refine SC.mk hc (ql ?_);simp only[qaJ,vI,simprocAttr];simp +decide only[↓vS,vT,simprocAttr,r4];have wl:w≠bl:=ne (by rw[r1,r2];simp);have tl:bt≠bl:=ne (by rw[r3,r2];simp)
 refine SL.loopP (α:=Nat) (fun i=>[(0,.ptr w 0),(2,.nils),(8,.own bt cs.length),(9,.i .i64 (cs.length:Int)),(10,.i .i64 (i:Int))])
  (fun i h=>i<=cs.length∧∃tr',h=⟨s,0,tr'⟩∧∀b,tr'.get b=if b=bl then some (.cells 4 true true (rSy (qek (js.take i) RV))) else tr.get b) (fun i=>cs.length-i) ?_ 0 ?_ ?_
 ·rintro i h1 ⟨hi,tr',rfl,hget⟩ G ih;simp only[vI,simprocAttr];have g4:tr'.get w=some (.cells 0 true false [.own bl RV.length,.own bt cs.length]):=by rw[hget,if_neg wl];exact r4
  have g5:tr'.get bl=some (.cells 4 true true (rSy (qek (js.take i) RV))):=by rw[hget,if_pos rfl]
  have g6:tr'.get bt=some (.cells 1 true true cs):=by rw[hget,if_neg tl];exact r6
  by_cases hlt:i<cs.length
  ·obtain⟨j,hj,b5,b6,b8,b9,b10,X,p,o,y,h0,h1,h2,h3,h4,h5,h6,h7,h8⟩:=r7.get (zzE hlt);have hci:cs[i]?=some (.fn g [] [.ptr b8 0,.ptr b5 0,.ptr b10 0,.ptr b6 0,.ptr b9 0]):=by rw[zzE hlt,h0]
   have nb:∀{b v},Bx κ tr b v->b≠bl∧tr'.get b=some (.cells 0 true false [v]):=fun {b v} q=>by
    have e:b≠bl:=ne (by rw[q.1,r2];simp);exact⟨e,by rw[hget,if_neg e];exact q.2⟩
   have nl:∀{b F p},κ b = .lab F p->b≠bl∧tr'.get b=some (.cells 0 true false [.i .i64 (F:Int)]):=fun {b F p} q=>by
    have e:b≠bl:=ne (by rw[q,r2];simp);obtain⟨x,q1,q2⟩:=h.lab b F p q;exact⟨e,by rw[hget,if_neg e,q1,q2 (hp _ _ _ q)]⟩
   have hlt':(i:Int)<cs.length:=by omega
   have hw1:IntKind.wrap .i64 ((i:Int)+1)=((i+1:Nat):Int):=by rw[qm (by omega) (by omega)];simp
   simp +decide only[↓vS,vT,simprocAttr,hlt',hlt,g6,hci,Nat.mul_one];have hz:(qek (js.take i) RV)[j]?=some (if j ∈ js.take i then y else y.raw):=by rw[qel,h1];rfl
   refine qs2 (F:=y.th) (e:=y.el) (c:=y.code) (L:=qek (js.take i) RV) hg (by rw[qk7];exact g4) g5 hz (nb h2).2 (nb h3).2 (nb h4).2 (nb h5).2 (nb h6).2 (nl h7).2 ⟨wl,(nb h2).1,(nb h3).1,(nb h4).1,(nb h5).1,(nb h6).1,(nl h7).1⟩ (h.dom bl (by rw[r2];simp)) ?_ ?_
   ·rcases h8 with⟨h8,rfl,h9⟩|⟨h8,Y,p',rfl,h9⟩
    ·exact .inl ⟨h8,by split<;>simp[h9,Sy.raw]⟩
    ·exact .inr ⟨h8,Y,rfl,(nl h9).1,(nl h9).2⟩
   ·intro tr2 hget2;have ec:∀b:Bool,(⟨(if j ∈ js.take i then y else y.raw).code,(if j ∈ js.take i then y else y.raw).k,y.th,y.el⟩:Sy)=y:=fun _=>by split<;>rfl
    rw[ec true,qok h1] at hget2;simp +decide only[↓vS,vT,simprocAttr,hw1];refine ih (i+1) _ _ (by omega) ?_ ⟨by omega,tr2,rfl,fun b=>?_⟩
    ·simp[qe,qi,Tr.get_set]
    ·rw[hget2,hget];have:js.take (i+1)=js.take i++[j]:=by rw[List.take_add_one,hj];rfl
     rw[this];split<;>rfl
  ·obtain rfl:i=cs.length:=by omega
   have hlt':¬((cs.length:Int)<cs.length):=by omega
   simp +decide only[↓vS,vT,simprocAttr,hlt',g4];rw[show js.take cs.length=js from by rw[← hjl,List.take_length]] at g5
   rw[qrd fun j y hy hj=>r9 j y hy hj (by simp)] at g5
   exact hk _ _ g5 (h.dom bl (by rw[r2];simp))
 ·simp[qe,qi,Tr.get_set]
 ·refine⟨Nat.zero_le _,tr,rfl,fun b=>?_⟩
  simp only[List.take_zero,qre];split
  ·rename_i e;rw[e];exact r5
  ·rfl
theorem Stp.kd{L L':List Nat}{κ κ1:Nat->Kd}{s s1:Nat}{tr t1 t2:Tr Blk}(a:Stp L κ s tr κ1 s1 t1)(hd:∀b,κ b≠.no->b<s){b F':Nat}(hb:s<=b)(hf:∀c,κ1 c = .fr->t2.get c=t1.get c)(hx:∀c,κ1 c = .box->t2.get c=t1.get c)(hL:∀c ∈ L,c=b∨c ∈ L'):Stp L' κ s tr (kdS κ1 b (.lab F' true)) s1 t2:=by
 have ne:∀{c},κ c≠.no->c≠b:=fun h e=>by have:=hd _ h;omega
 refine⟨a.le,fun c hc=>?_,fun c hc=>?_,fun c F p hc=>?_,fun c F hc=>?_⟩
 ·rw[qg (ne (by rw[hc];simp))];exact⟨(a.fr c hc).1,(hf c (a.fr c hc).1).trans (a.fr c hc).2⟩
 ·rw[qg (ne (by rw[hc];simp))];exact⟨(a.box c hc).1,(hx c (a.box c hc).1).trans (a.box c hc).2⟩
 ·rw[qg (ne (by rw[hc];simp))];exact a.lab c F p hc
 ·by_cases e:c=b
  ·rw[e,qE] at hc;cases hc
  ·rw[qg e] at hc;rcases a.nw c F hc with h|h
   ·exact .inl h
   ·exact .inr ((hL c h).resolve_left e)
def qdh(a mask v:Int)(p F:Nat):List Sy :=
 if mask=0 then [] else if mask=4294967295 then [⟨32,a,0,0⟩,⟨21,v,p+2,F⟩] else [⟨32,a,0,0⟩,⟨84,mask,0,0⟩,⟨21,v,p+3,F⟩]
def qbY(mask:Int):Nat:=if mask=0 then 0 else if mask=4294967295 then 2 else 3
theorem qcb{a m v:Int}{p F:Nat}:(qdh a m v p F).length=qbY m:=by
 unfold qdh qbY;split
 ·rfl
 ·split<;>rfl
section
variable {g w s gl gp gj gh:Nat} {κ:Nat->Kd} {tr:Tr Blk} {RV:List Sy} {N:List Nat} {k:AV->Hp->Prop}
def xg(a b c d:Nat):IFn:=⟨[],.seq (.seq (.r [.n 11 2,.q 12 (.bin .eql (.t 11) (.c (.i .u32 0)))]) (.cond (.t 12) (.ret) (.skip))) (.seq (.r [.n 13 0,.n 14 1,.l 15 a [.t 13,.t 14]]) (.seq (.seq (.r [.n 16 2,.q 17 (.bin .neq (.t 16) (.c (.i .u32 4294967295)))]) (.cond (.t 17) (.r [.n 18 0,.n 19 2,.q 20 (.build [.i .u16 0,.i .u32 0,.i .i64 0,.i .i64 0] [(0,1,(.c (.i .u16 84))),(1,1,(.t 19))]),.q 21 (.buildS 1 [.i .u16 0,.i .u32 0,.i .i64 0,.i .i64 0] [(0,4,(.t 20))]),.l 22 b [.t 18,.t 21]]) (.skip))) (.seq (.r [.q 23 (.build [.i .i64 0] []),.q 24 (.box (.t 23)),.n 10 24]) (.seq (.r [.n 25 0,.n 26 3,.n 27 10,.n 28 4,.l 29 c [.t 25,(.c (.i .u16 21)),.t 26,.t 27,.t 28]]) (.r [.n 30 0,.n 31 10,.l 32 d [.t 30,.t 31]])))))⟩
theorem qsY(hc:qd P f (xg gl gp gj gh)=true)(h1:qd P gl (x9 gp)=true)(h2:qd P gp qS=true)(h3:qd P gj (xi gp g)=true)(h4:qd P gh xh=true)
  (h:WI g w κ s tr RV N) (a m v:Int) {X F:Nat} {p:Bool} (hX:κ X = .lab F p) (hm:RV.length+3<=1000000)
  (hk:∀κ' s' tr',Stp [] κ s tr κ' s' tr'->WI g w κ' s' tr' (RV++qdh a m v RV.length F) N->k (.tup []) ⟨s',0,tr'⟩):SC P f [.ptr w 0,.i .u32 a,.i .u32 m,.i .u32 v,.ptr X 0] ⟨s,0,tr⟩ k:=by
 refine SC.mk hc (ql ?_);simp only[xg,vI,simprocAttr];unfold qdh at hk
 by_cases m0:m=0
 ·rw[if_pos m0] at hk;simp +decide only[↓vS,vT,simprocAttr,m0];exact hk κ s tr .refl (by rw[List.append_nil];exact h)
 rw[if_neg m0] at hk;simp +decide only[↓vS,vT,simprocAttr,m0];refine qoe h1 h2 h a (by omega) fun κ1 s1 t1 st1 w1=>?_
 by_cases m1:m=4294967295
 ·rw[if_pos m1] at hk;simp +decide only[↓vS,vT,simprocAttr,m1];have w2:=w1.new (.lab (RV.length+2) false) _ (.inr (.inr (.inr ⟨_,rfl,rfl⟩)));have st2:=st1.trans (w1.stpLab (.lab (RV.length+2) false) (.cells 0 true false [.i .i64 0]));refine qhY h3 h2 w2 ⟨21,v,RV.length+2,F⟩ qE (.inr ⟨(by decide:(21:Int)≠5),X,p,rfl,st2.lab X F p hX⟩) (by simp;omega) fun κ3 s3 t3 st3 w3=>?_
  simp +decide only[↓vS,vT,simprocAttr]
  have hb:κ3 s1 = .lab (RV++[(⟨32,a,0,0⟩:Sy)]++[(⟨21,v,RV.length+2,F⟩:Sy)]).length false:=by
   rw[st3.lab s1 _ _ qE];simp
  refine qdi h4 w3 hb fun t4 q1 q2 w4=>?_
  simp +decide only[↓vS,vT,simprocAttr];rw[List.append_assoc] at w4;exact hk _ _ _ (((st2.trans st3)).kd h.dom st1.le q1 q2 (by simp)) w4
 ·rw[if_neg m1] at hk;simp +decide only[↓vS,vT,simprocAttr,m1];refine qt5 h2 (w1.new .no _ (.inl rfl)) ⟨84,m,0,0⟩ (by rw[Tr.get_set,if_pos rfl];rfl) (by simp;omega) fun κ2 s2 t2 st2 w2=>?_
  have w2:=w2.dropS rfl;have st2:=st1.trans ((w1.stpNew _ _ (by simp)).trans st2);simp +decide only[↓vS,vT,simprocAttr];have w3:=w2.new (.lab (RV.length+3) false) _ (.inr (.inr (.inr ⟨_,rfl,rfl⟩)));have st3:=st2.trans (w2.stpLab (.lab (RV.length+3) false) (.cells 0 true false [.i .i64 0]));refine qhY h3 h2 w3 ⟨21,v,RV.length+3,F⟩ qE (.inr ⟨(by decide:(21:Int)≠5),X,p,rfl,st3.lab X F p hX⟩) (by simp;omega) fun κ4 s4 t4 st4 w4=>?_
  simp +decide only[↓vS,vT,simprocAttr]
  have hb:κ4 s2 = .lab (RV++[(⟨32,a,0,0⟩:Sy)]++[(⟨84,m,0,0⟩:Sy)]++[(⟨21,v,RV.length+3,F⟩:Sy)]).length false:=by
   rw[st4.lab s2 _ _ qE];simp
  refine qdi h4 w4 hb fun t5 q1 q2 w5=>?_
  simp +decide only[↓vS,vT,simprocAttr];rw[List.append_assoc,List.append_assoc] at w5;exact hk _ _ _ ((st3.trans st4).kd h.dom st2.le q1 q2 (by simp)) w5
end
def qgr:IFn:=⟨[.tmp 4,.tmp 5],.seq (.r [.m 4 (.c (.i .u32 0)),.m 5 .F]) (.seq (.seq (.r [.n 6 0,.w 7 .lss 6 0,.n 8 7,.z 9 0 8,.g 10 (.bin .gtr (.t 9) (.k 5)) 8 false,.o 11 8 10]) (.cond (.t 11) (.seq (.r [.m 4 (.c (.i .u32 0)),.m 5 .F]) (.ret)) (.skip))) (.seq (.r [.n 12 0,.q 13 (.bin .mul (.k 8) (.t 12)),.q 14 (.bin .add (.k 16) (.t 13)),.n 15 1,.b 16 .add 14 15,.q 17 (.cvInt .u32 (.t 16)),.n 4 17,.m 5 .T]) (.ret)))⟩
theorem qAU(hc:qd P f qgr=true)(a b:Int)(h0:0<=a)(h6:a<6)(hb0:0<=b)(hb:b<=4):qf P f [.i .i64 a,.i .i64 b] (.tup [.i .u32 (16+8*a+b),.b true]):=by
 refine qf.mk hc rfl ?_;have n1:¬a<0:=by omega
 have n2:¬5<a:=by omega
 have e1:IntKind.wrap .i64 (8*a)=8*a:=qm (by omega) (by omega);have e2:IntKind.wrap .i64 (16+8*a)=16+8*a:=qm (by omega) (by omega);have e3:IntKind.wrap .i64 (16+8*a+b)=16+8*a+b:=qm (by omega) (by omega);have e4:IntKind.wrap .u32 (16+8*a+b)=16+8*a+b:=qaC (by omega) (by omega);simp only[qgr,vI,simprocAttr];simp +decide only[↓vS,vT,simprocAttr,n1,n2,e1,e2,e3,e4];simp[vZ]
def qiu(a:Nat):IFn:=⟨[.tmp 2,.tmp 3],.seq (.r [.m 2 (.c (.i .u32 0)),.m 3 .F]) (.seq (.r [.n 4 0,.l 5 a [.t 4,.k 0],.x 6 5 0,.x 7 5 1,.n 2 6,.n 3 7]) (.ret))⟩
theorem qCa{g:Nat}(hc:qd P f (qiu g)=true)(hg:∀a b:Int,0<=a->a<6->0<=b->b<=4->qf P g [.i .i64 a,.i .i64 b] (.tup [.i .u32 (16+8*a+b),.b true]))(a:Int)(h0:0<=a)(h6:a<6):qf P f [.i .i64 a] (.tup [.i .u32 (16+8*a),.b true]):=by
 refine qf.mk hc rfl ?_;simp only[qiu,vI,simprocAttr];simp +decide only[↓vS,vT,simprocAttr];refine (hg a 0 h0 h6 (by omega) (by omega)).sc ?_;simp +decide only[↓vS,vT,simprocAttr];simp[vZ]
def qhk(a:Nat):IFn:=⟨[.tmp 2,.tmp 3],.seq (.r [.m 2 (.c (.i .u32 0)),.m 3 .F]) (.seq (.r [.n 4 0,.l 5 a [.t 4,.k 4],.x 6 5 0,.x 7 5 1,.n 2 6,.n 3 7]) (.ret))⟩
theorem qzK{g:Nat}(hc:qd P f (qhk g)=true)(hg:∀a b:Int,0<=a->a<6->0<=b->b<=4->qf P g [.i .i64 a,.i .i64 b] (.tup [.i .u32 (16+8*a+b),.b true]))(a:Int)(h0:0<=a)(h6:a<6):qf P f [.i .i64 a] (.tup [.i .u32 (16+8*a+4),.b true]):=by
 refine qf.mk hc rfl ?_;simp only[qhk,vI,simprocAttr];simp +decide only[↓vS,vT,simprocAttr];refine (hg a 4 h0 h6 (by omega) (by omega)).sc ?_;simp +decide only[↓vS,vT,simprocAttr];simp[vZ]
def qbU(t:GTest):Nat:=qbY (loW t.mask)+qbY (hiW t.mask)+1
def qgA(t:GTest)(p:Nat):List Sy :=
 qdh (16+8*t.arg) (loW t.mask) (loW t.val) p (p+qbU t)++qdh (16+8*t.arg+4) (hiW t.mask) (hiW t.val) (p+qbY (loW t.mask)) (p+qbU t)++[⟨6,t.act,0,0⟩]
theorem qc3{t:GTest}{p:Nat}:(qgA t p).length=qbU t:=by simp[qgA,qbU,qcb];omega
theorem qhi{m:Int}:qbY m<=3:=by unfold qbY;split;omega;split<;>omega
theorem qnK{t:GTest}:qbU t<=7:=by have:=qhi (m:=loW t.mask);have:=qhi (m:=hiW t.mask);unfold qbU;omega
structure TstOk (t:GTest):Prop where
 a0:0<=t.arg
 a1:t.arg<6
 m0:0<=t.mask
 m1:t.mask<18446744073709551616
 v0:0<=t.val
 v1:t.val<18446744073709551616
def qqe(P:Program)(f:Nat)(b:Int):Prop:=∀a:Int,0<=a->a<6->qf P f [.i .i64 a] (.tup [.i .u32 (16+8*a+b),.b true])
structure WFn (P:Program) (g gl gp gj gh gr:Nat):Prop where
 ld:qd P gl (x9 gp)=true
 put:qd P gp qS=true
 jmp:qd P gj (xi gp g)=true
 here:qd P gh xh=true
 ret:qd P gr (qa3 gp)=true
section
variable {g w s gl gp gj gh gr g1 g2 g3 g4 g5:Nat} {κ:Nat->Kd} {tr:Tr Blk} {RV:List Sy} {N:List Nat} {k:AV->Hp->Prop}
def jd(a b c d e g:Nat):IFn:=⟨[],.seq (.r [.q 3 (.box (.t 1))]) (.seq (.r [.q 13 (.build [.i .i64 0] []),.q 14 (.box (.t 13)),.n 4 14]) (.seq (.r [.f 16 0 3,.d 17 16,.l 18 a [.t 17],.n 15 18,.x 19 15 0,.x 20 15 1,.n 5 19,.n 6 20]) (.seq (.r [.f 22 0 3,.d 23 22,.l 24 b [.t 23],.n 21 24,.x 25 21 0,.x 26 21 1,.n 7 25,.n 8 26]) (.seq (.r [.f 28 1 3,.d 29 28,.l 30 c [.t 29],.n 27 30,.x 31 27 0,.x 32 27 1,.n 9 31,.n 10 32]) (.seq (.r [.f 34 2 3,.d 35 34,.l 36 c [.t 35],.n 33 36,.x 37 33 0,.x 38 33 1,.n 11 37,.n 12 38]) (.seq (.r [.n 39 0,.n 40 5,.n 41 9,.n 42 11,.n 43 4,.l 44 d [.t 39,.t 40,.t 41,.t 42,.t 43]]) (.seq (.r [.n 45 0,.n 46 7,.n 47 10,.n 48 12,.n 49 4,.l 50 d [.t 45,.t 46,.t 47,.t 48,.t 49]]) (.seq (.r [.n 51 0,.f 52 3 3,.d 53 52,.l 54 e [.t 51,.t 53]]) (.r [.n 55 0,.n 56 4,.l 57 g [.t 55,.t 56]])))))))))⟩
theorem qBw(hc:qd P f (jd g1 g2 g3 g4 gr gh)=true)(W:WFn P g gl gp gj gh gr)(c1:qqe P g1 0)(c2:qqe P g2 4)(c3:qvg P g3)(c4:qd P g4 (xg gl gp gj gh)=true)
  (h:WI g w κ s tr RV N) (t:GTest) (ht:TstOk t) (hm:RV.length+7<=1000000)
  (hk:∀κ' s' tr',Stp [] κ s tr κ' s' tr'->WI g w κ' s' tr' (RV++qgA t RV.length) N->k (.tup []) ⟨s',0,tr'⟩):SC P f [.ptr w 0,.agg (zA t)] ⟨s,0,tr⟩ k:=by
 refine SC.mk hc (ql ?_);simp only[jd,zA,vI,simprocAttr];simp +decide only[↓vS,vT,simprocAttr];have s1:¬s=s+1:=by omega
 have w1:=h.new .fr (.cells 0 true false [.i .i64 t.arg,.i .u64 t.mask,.i .u64 t.val,.i .u32 t.act]) (.inr (.inl rfl));have w2:=w1.new (.lab (RV.length+qbU t) false) _ (.inr (.inr (.inr ⟨_,rfl,rfl⟩)));have st2:=(h.stpNew .fr (.cells 0 true false [.i .i64 t.arg,.i .u64 t.mask,.i .u64 t.val,.i .u32 t.act]) (by simp)).trans (w1.stpLab (.lab (RV.length+qbU t) false) (.cells 0 true false [.i .i64 0]));have hX:=qE (κ:=kdS κ s .fr) (b:=s+1) (x:=.lab (RV.length+qbU t) false);have hf:kdS (kdS κ s .fr) (s+1) (.lab (RV.length+qbU t) false) s = .fr:=by rw[qg (by omega),qE]
 simp only[s1,↓vS,vT,simprocAttr];refine (c1 t.arg ht.a0 ht.a1).sc ?_;simp only[↓vS,vT,simprocAttr,s1];refine (c2 t.arg ht.a0 ht.a1).sc ?_;simp only[↓vS,vT,simprocAttr,s1];refine (c3 t.mask ht.m0 ht.m1).sc ?_;simp only[↓vS,vT,simprocAttr,s1];refine (c3 t.val ht.v0 ht.v1).sc ?_;simp only[↓vS,vT,simprocAttr,s1];refine qsY c4 W.ld W.put W.jmp W.here w2 _ _ _ hX (by omega) fun κ3 s3 t3 st3 w3=>?_
 simp only[↓vS,vT,simprocAttr];have l3:(RV++qdh (16+8*t.arg+0) (loW t.mask) (loW t.val) RV.length (RV.length+qbU t)).length=RV.length+qbY (loW t.mask):=by rw[List.length_append,qcb]
 have n1:=qhi (m:=loW t.mask);have n2:=qhi (m:=hiW t.mask);refine qsY c4 W.ld W.put W.jmp W.here w3 _ _ _ (st3.lab _ _ _ hX) (by rw[l3];omega) fun κ4 s4 t4 st4 w4=>?_
 rw[l3] at w4
 have g4:t4.get s=some (.cells 0 true false [.i .i64 t.arg,.i .u64 t.mask,.i .u64 t.val,.i .u32 t.act]):=by
  rw[((st3.trans st4).fr s hf).2,Tr.get_set,if_neg (by omega),Tr.get_set,if_pos rfl]
 simp only[↓vS,vT,simprocAttr,g4];refine qpF W.ret W.put w4 t.act (by simp[qcb];omega) fun κ5 s5 t5 st5 w5=>?_
 simp only[↓vS,vT,simprocAttr]
 have e5:RV++qdh (16+8*t.arg+0) (loW t.mask) (loW t.val) RV.length (RV.length+qbU t)++qdh (16+8*t.arg+4) (hiW t.mask) (hiW t.val) (RV.length+qbY (loW t.mask)) (RV.length+qbU t)++[⟨6,t.act,0,0⟩]=RV++qgA t RV.length:=by
  simp[qgA]
 rw[e5] at w5;refine qdi W.here w5 (p:=false) (by rw[List.length_append,qc3];exact ((st3.trans st4).trans st5).lab _ _ _ hX) fun t6 q1 q2 w6=>?_
 simp only[↓vS,vT,simprocAttr];exact hk _ _ _ ((((st2.trans st3).trans st4).trans st5).kd h.dom (by omega) q1 q2 (by simp)) w6
end
def qch:List GTest->Int->Nat->List Sy
 | [],a,_=>[⟨6,a,0,0⟩]
 | t::ts,a,p=>qgA t p++if t.mask=0 then [] else qch ts a (p+qbU t)
def qrm(r:GRule)(p:Nat):List Sy:=qch r.tests r.act p
section
variable {g w s gl gp gj gh gr g1 g2 g3 g4 g5:Nat} {κ:Nat->Kd} {tr:Tr Blk} {RV:List Sy} {N:List Nat} {k:AV->Hp->Prop}
def qaK(a b:Nat):IFn:=⟨[],.seq (.r [.q 3 (.box (.t 1))]) (.seq (.seq (.r [.f 6 1 3,.d 7 6,.e 8 7,.m 9 (.k 0)]) (.blk 0 (.loop (.seq (.r [.s 10 9 8]) (.seq (.cond (.t 10) (.skip) (.exit 0)) (.seq (.blk 1 (.seq (.r [.i 11 4 7 9,.v 12 4 11,.q 5 (.alloc [.i .i64 0,.i .u64 0,.i .u64 0,.i .u32 0]),.u (.store 4 (.t 5) (.t 12))]) (.seq (.r [.n 13 0,.v 14 4 5,.l 15 a [.t 13,.t 14]]) (.seq (.r [.f 16 1 5,.d 17 16,.q 18 (.bin .eql (.t 17) (.c (.i .u64 0)))]) (.cond (.t 18) (.ret) (.skip)))))) (.r [.a 19 9 1,.n 9 19]))))))) (.r [.n 20 0,.f 21 2 3,.d 22 21,.l 23 b [.t 20,.t 22]]))⟩
theorem qA8(hc:qd P f (qaK g5 gr)=true)(W:WFn P g gl gp gj gh gr)(h5:qd P g5 (jd g1 g2 g3 g4 gr gh)=true)(c1:qqe P g1 0)(c2:qqe P g2 4)(c3:qvg P g3)(c4:qd P g4 (xg gl gp gj gh)=true)
  (h:WI g w κ s tr RV N) (r:GRule) (ht:∀t ∈ r.tests,TstOk t) (hm:RV.length+r.tests.length*7+1<=1000000)
  (hk:∀κ' s' tr',Stp [] κ s tr κ' s' tr'->WI g w κ' s' tr' (RV++qrm r RV.length) N->k (.tup []) ⟨s',0,tr'⟩):SC P f [.ptr w 0,.agg (qB r)] ⟨s,0,tr⟩ k:=by
 refine SC.mk hc (ql ?_);simp only[qaK,qB,vI,simprocAttr];simp +decide only[↓vS,vT,simprocAttr];have w1:=h.new .fr (.cells 0 true false [.i .u32 r.nr,.fz r.tests.length (rT r.tests),.i .u32 r.act]) (.inr (.inl rfl));have st1:=h.stpNew .fr (.cells 0 true false [.i .u32 r.nr,.fz r.tests.length (rT r.tests),.i .u32 r.act]) (by simp)
 refine SL.loopP (α:=Nat) (fun i=>[(0,.ptr w 0),(3,.ptr s 0),(7,.fz r.tests.length (rT r.tests)),(8,.i .i64 (r.tests.length:Int)),(9,.i .i64 (i:Int))])
  (fun i h=>i<=r.tests.length∧∃κ' s' tr' RV',h=⟨s',0,tr'⟩∧Stp [] (kdS κ s .fr) (s+1) (tr.set s (.cells 0 true false [.i .u32 r.nr,.fz r.tests.length (rT r.tests),.i .u32 r.act])) κ' s' tr'∧WI g w κ' s' tr' RV' N ∧
   RV'++qch (r.tests.drop i) r.act RV'.length=RV++qrm r RV.length∧RV'.length<=RV.length+i*7) (fun i=>r.tests.length-i) ?_ 0 ?_ ?_
 ·rintro i h1 ⟨hi,κ',s',tr',RV',rfl,st,w',he,hl⟩ G ih;simp only[vI,simprocAttr]
  have gs:tr'.get s=some (.cells 0 true false [.i .u32 r.nr,.fz r.tests.length (rT r.tests),.i .u32 r.act]):=by
   rw[(st.fr s qE).2,Tr.get_set,if_pos rfl]
  by_cases hlt:i<r.tests.length
  ·have hlt':(i:Int)<r.tests.length:=by omega
   obtain⟨t,hti⟩:∃t,r.tests[i]?=some t:=⟨_,zzE hlt⟩;have hel:=qf8 hti;have h4:i*4+4<=(rT r.tests).length:=by rw[qgX];omega
   have hd:r.tests.drop i=t::r.tests.drop (i+1):=by rw[← (zzS.1 hti).2,List.getElem_cons_drop]
   rw[hd] at he;have hw1:IntKind.wrap .i64 ((i:Int)+1)=((i+1:Nat):Int):=by rw[qm (by omega) (by omega)];simp
   simp +decide only[↓vS,vT,simprocAttr,hlt',hlt,h4,hel,zA];have wa:=w'.new .fr (.cells 0 true false [.i .i64 0,.i .u64 0,.i .u64 0,.i .u32 0]) (.inr (.inl rfl));have wb:=wa.chg (b:=s') .fr (.cells 0 true false (zA t)) (.inl qE) (by omega) (.inr (.inl rfl));refine qBw h5 W c1 c2 c3 c4 wb t (ht t (zzM hti)) (by omega) fun κ2 s2 t2 st2 w2=>?_
   have fb:=st2.fr s' qE
   have gb:t2.get s'=some (.cells 0 true false [.i .i64 t.arg,.i .u64 t.mask,.i .u64 t.val,.i .u32 t.act]):=by
    rw[fb.2,Tr.get_set,if_pos rfl];rfl
   have ss:s<s':=by have:=st.le;omega
   have st3:Stp [] κ' s' tr' κ2 s2 t2:=by
    refine Stp.trans (L:=[]) ?_ st2;refine⟨by omega,fun b hb=>?_,fun b hb=>?_,fun b F p hb=>?_,fun b F hb=>.inl ?_⟩
    rotate_left 3
    ·simp only[kdS] at hb
     repeat' split at hb
     all_goals first|(cases hb;done)|exact hb
    all_goals have hbs:b<s':=w'.dom b (by rw[hb];simp)
    ·rw[qg (by omega),qg (by omega),Tr.get_set,if_neg (by omega),Tr.get_set,if_neg (by omega)];exact⟨hb,rfl⟩
    ·rw[qg (by omega),qg (by omega),Tr.get_set,if_neg (by omega),Tr.get_set,if_neg (by omega)];exact⟨hb,rfl⟩
    ·rw[qg (by omega),qg (by omega)];exact hb
   simp +decide only[↓vS,vT,simprocAttr,gb];unfold qch at he
   by_cases hm0:t.mask=0
   ·rw[if_pos hm0,List.append_nil] at he;simp +decide only[↓vS,vT,simprocAttr,hm0];rw[he] at w2;exact hk _ _ _ (st1.trans (st.trans st3)) w2
   ·rw[if_neg hm0] at he;simp +decide only[↓vS,vT,simprocAttr,hm0,hw1];refine ih (i+1) _ _ (by omega) ?_ ⟨by omega,κ2,s2,t2,_,rfl,st.trans st3,w2,?_,?_⟩
    ·simp[qe,qi,Tr.get_set]
    ·rw[← he,List.length_append,qc3,List.append_assoc]
    ·have:=qnK (t:=t);rw[List.length_append,qc3];omega
  ·obtain rfl:i=r.tests.length:=by omega
   have hlt':¬((r.tests.length:Int)<r.tests.length):=by omega
   rw[List.drop_length] at he;simp +decide only[↓vS,vT,simprocAttr,hlt',gs];refine qpF W.ret W.put w' r.act (by omega) fun κ2 s2 t2 st2 w2=>?_
   simp +decide only[↓vS,vT,simprocAttr];unfold qch at he;rw[he] at w2;exact hk _ _ _ (st1.trans (st.trans st2)) w2
 ·simp[qe,qi,Tr.get_set]
 ·exact⟨Nat.zero_le _,_,_,_,RV,rfl,.refl,w1,rfl,by simp⟩
end
def jD(a:Int):Nat:=if a=0 then 4 else if a=2 then 4 else 3
def qa9(a:Int)(p F:Nat):List Sy :=
 [⟨32,4,0,0⟩,⟨21,qhL a,p+2,F⟩,⟨32,0,0,0⟩]++if a=0 then [⟨69,1073741824,F,p+4⟩] else if a=2 then [⟨69,1073741824,p+4,F⟩] else []
theorem jI{a:Int}{p F:Nat}:(qa9 a p F).length=jD a:=by unfold qa9 jD;split;rfl;split<;>rfl
theorem qpp{a:Int}:jD a<=4:=by unfold jD;split;omega;split<;>omega
def qC0(P:Program)(f:Nat):Prop:=∀a:Int,0<=a->a<6->qf P f [.i .i64 a] (.tup [.i .u32 (qhL a),.i .i64 0])
section
variable {g w s gl gp gj gh gr g1 g2 g3 g4 g5:Nat} {κ:Nat->Kd} {tr:Tr Blk} {RV:List Sy} {N:List Nat} {k:AV->Hp->Prop}
def qa2(a b c d:Nat):IFn:=⟨[],.seq (.r [.q 10 (.build [.i .i64 0] []),.q 11 (.box (.t 10)),.q 12 (.build [.i .i64 0] []),.q 13 (.box (.t 12)),.n 6 11,.n 7 13]) (.seq (.r [.n 15 1,.l 16 a [.t 15],.n 14 16,.x 17 14 0,.x 18 14 1,.n 8 17,.n 9 18]) (.seq (.r [.n 19 0,.l 20 b [.t 19,(.c (.i .u32 4))]]) (.seq (.r [.n 21 0,.n 22 8,.n 23 6,.n 24 2,.l 25 c [.t 21,(.c (.i .u16 21)),.t 22,.t 23,.t 24]]) (.seq (.r [.n 26 0,.n 27 6,.l 28 d [.t 26,.t 27]]) (.seq (.r [.n 29 0,.l 30 b [.t 29,(.c (.i .u32 0))]]) (.seq (.seq (.r [.n 31 1]) (.blk 0 (.seq (.r [.w 33 .eql 31 0,.n 32 33]) (.cond (.t 32) (.r [.n 34 0,.n 35 2,.n 36 7,.l 37 c [.t 34,(.c (.i .u16 69)),(.c (.i .u32 1073741824)),.t 35,.t 36]]) (.seq (.r [.w 39 .eql 31 2,.n 38 39]) (.cond (.t 38) (.r [.n 40 0,.n 41 7,.n 42 2,.l 43 c [.t 40,(.c (.i .u16 69)),(.c (.i .u32 1073741824)),.t 41,.t 42]]) (.skip))))))) (.r [.n 44 0,.n 45 7,.l 46 d [.t 44,.t 45]])))))))⟩
theorem qDU(hc:qd P f (qa2 g1 gl gj gh)=true)(W:WFn P g gl gp gj gh gr)(c1:qC0 P g1)
  (h:WI g w κ s tr RV N) (a:Int) (h0:0<=a) (h6:a<6) {X F:Nat} {p:Bool} (hX:κ X = .lab F p) (hm:RV.length+4<=1000000)
  (hk:∀κ' s' tr',Stp [] κ s tr κ' s' tr'->WI g w κ' s' tr' (RV++qa9 a RV.length F) N->k (.tup []) ⟨s',0,tr'⟩):SC P f [.ptr w 0,.i .i64 a,.ptr X 0] ⟨s,0,tr⟩ k:=by
 refine SC.mk hc (ql ?_);simp only[qa2,vI,simprocAttr];simp +decide only[↓vS,vT,simprocAttr];have w1:=h.new (.lab (RV.length+2) false) _ (.inr (.inr (.inr ⟨_,rfl,rfl⟩)));have w2:=w1.new (.lab (RV.length+jD a) false) _ (.inr (.inr (.inr ⟨_,rfl,rfl⟩)));have st2:=(h.stpLab (.lab (RV.length+2) false) (.cells 0 true false [.i .i64 0])).trans (w1.stpLab (.lab (RV.length+jD a) false) (.cells 0 true false [.i .i64 0]));have hon:kdS (kdS κ s (.lab (RV.length+2) false)) (s+1) (.lab (RV.length+jD a) false) s = .lab (RV.length+2) false:=by rw[qg (by omega),qE]
 have hbit:=qE (κ:=kdS κ s (.lab (RV.length+2) false)) (b:=s+1) (x:=.lab (RV.length+jD a) false);have hX2:=st2.lab X F p hX;have hXs:X<s:=h.dom X (by rw[hX];simp);refine (c1 a h0 h6).sc ?_;simp only[↓vS,vT,simprocAttr];refine qoe W.ld W.put w2 4 (by omega) fun κ3 s3 t3 st3 w3=>?_
 simp only[↓vS,vT,simprocAttr];refine qhY W.jmp W.put w3 ⟨21,qhL a,RV.length+2,F⟩ (st3.lab _ _ _ hon) (.inr ⟨(by decide:(21:Int)≠5),X,p,rfl,st3.lab _ _ _ hX2⟩) (by simp;omega) fun κ4 s4 t4 st4 w4=>?_
 simp only[↓vS,vT,simprocAttr];have st34:=st3.trans st4;refine qdi W.here w4 (p:=false) (b:=s) (by rw[st34.lab _ _ _ hon];simp) fun t5 q1 q2 w5=>?_
 simp only[↓vS,vT,simprocAttr];have st5:=(st2.trans st34).kd h.dom (Nat.le_refl s) (F':=(RV++[(⟨32,4,0,0⟩:Sy)]++[(⟨21,qhL a,RV.length+2,F⟩:Sy)]).length) (L':=[s+1]) q1 q2 (by simp);refine qoe W.ld W.put w5 0 (by simp;omega) fun κ6 s6 t6 st6 w6=>?_
 simp only[↓vS,vT,simprocAttr];have hX6:κ6 X = .lab F p:=(st5.trans st6).lab _ _ _ hX;have hb6:κ6 (s+1) = .lab (RV.length+jD a) false:=st6.lab _ _ _ (by rw[qg (by omega)];exact st34.lab _ _ _ hbit)
 have st56:=st5.trans st6
 by_cases a0:a=0
 ·subst a0;simp +decide only[↓vS,vT,simprocAttr];refine qhY W.jmp W.put w6 ⟨69,1073741824,F,RV.length+4⟩ hX6 (.inr ⟨(by decide:(69:Int)≠5),s+1,false,rfl,hb6⟩) (by simp;omega) fun κ7 s7 t7 st7 w7=>?_
  simp only[↓vS,vT,simprocAttr];refine qdi W.here w7 (p:=false) (by rw[st7.lab _ _ _ hb6];simp[jD]) fun t8 q1 q2 w8=>?_
  simp only[↓vS,vT,simprocAttr];have e:RV++[⟨32,4,0,0⟩]++[⟨21,qhL 0,RV.length+2,F⟩]++[⟨32,0,0,0⟩]++[⟨69,1073741824,F,RV.length+4⟩]=RV++qa9 0 RV.length F:=by simp[qa9]
  rw[e] at w8;exact hk _ _ _ ((st56.trans st7).kd h.dom (by omega) q1 q2 (by simp)) w8
 ·by_cases a2:a=2
  ·subst a2;simp +decide only[↓vS,vT,simprocAttr];refine qhY W.jmp W.put w6 ⟨69,1073741824,RV.length+4,F⟩ hb6 (.inr ⟨(by decide:(69:Int)≠5),X,p,rfl,hX6⟩) (by simp;omega) fun κ7 s7 t7 st7 w7=>?_
   simp only[↓vS,vT,simprocAttr];refine qdi W.here w7 (p:=false) (by rw[st7.lab _ _ _ hb6];simp[jD]) fun t8 q1 q2 w8=>?_
   simp only[↓vS,vT,simprocAttr];have e:RV++[⟨32,4,0,0⟩]++[⟨21,qhL 2,RV.length+2,F⟩]++[⟨32,0,0,0⟩]++[⟨69,1073741824,RV.length+4,F⟩]=RV++qa9 2 RV.length F:=by simp[qa9]
   rw[e] at w8;exact hk _ _ _ ((st56.trans st7).kd h.dom (by omega) q1 q2 (by simp)) w8
  ·simp +decide only[↓vS,vT,simprocAttr,a0,a2];refine qdi W.here w6 (p:=false) (by rw[hb6];simp[jD,a0,a2]) fun t8 q1 q2 w8=>?_
   simp only[↓vS,vT,simprocAttr];have e:RV++[⟨32,4,0,0⟩]++[⟨21,qhL a,RV.length+2,F⟩]++[⟨32,0,0,0⟩]=RV++qa9 a RV.length F:=by simp[qa9,a0,a2]
   rw[e] at w8;exact hk _ _ _ (st56.kd h.dom (by omega) q1 q2 (by simp)) w8
end
structure Nd where
 leaf:Bool
 way:Nat
 at':Int
 less:Nat
 more:Nat
def cNd(n:Nd):List AV:=[.b n.leaf,.i .i64 (n.way:Int),.i .u32 n.at',.i .i64 (n.less:Int),.i .i64 (n.more:Int)]
theorem qiW(n:Nd):(cNd n).length=5:=rfl
def rNd(l:List Nd):List AV:=l.flatMap cNd
theorem qi8{l:List Nd}:(rNd l).length=l.length*5:=zt qiW l
def zW(T:List Nd):Nat:=T.countP fun n=>!n.leaf
def plc(FW:Nat->Nat)(T:List Nd)(b i:Nat):Nat:=match T[i]? with|some n=>if n.leaf=true then FW n.way else b+zW (T.take i)|none=>0
def qh5(FW:Nat->Nat)(T:List Nd)(b:Nat)(n:Nd):List Sy:=if n.leaf=true then [] else [⟨53,n.at',plc FW T b n.more,plc FW T b n.less⟩]
def brE(FW:Nat->Nat)(T:List Nd)(b:Nat)(l:List Nd):List Sy:=l.flatMap (qh5 FW T b)
theorem qoL{FW:Nat->Nat}{T:List Nd}{b:Nat}{l:List Nd}:(brE FW T b l).length=zW l:=by
 induction l with
 | nil=>rfl
 | cons n l ih =>
  simp only[brE,List.flatMap_cons,List.length_append,zW,List.countP_cons] at ih ⊢;rw[ih];unfold qh5;cases n.leaf<;>simp;omega
def jaE(FW:Nat->Nat):List Nd->List Sy
 | n::_=>if n.leaf=true then [⟨5,0,FW n.way,0⟩] else []
 | []=>[]
def z7(FW:Nat->Nat)(T:List Nd)(p:Nat):List Sy:=jaE FW T++brE FW T (p+(jaE FW T).length) T
structure NdOk (m n:Nat) (x:Nd):Prop where
 way:x.leaf=true->x.way<m
 less:x.less<n
 more:x.more<n
def rPt(l:List Nat):List AV:=l.map fun b=>.ptr b 0
theorem qeR{l:List Nat}{j:Nat}:(rPt l)[j]?=(l[j]?).map fun b=>.ptr b 0:=by simp[rPt]
theorem qeS{l:List Nat}:(rPt l).length=l.length:=by simp[rPt]
section
variable {g w s gl gp gj gh gr g1 g2 g3 g4 g5:Nat} {κ:Nat->Kd} {tr:Tr Blk} {RV:List Sy} {N:List Nat} {k:AV->Hp->Prop}
theorem WI.congr{t2:Tr Blk}(h:WI g w κ s tr RV N)(e:∀b,t2.get b=tr.get b):WI g w κ s t2 RV N:=by
 obtain⟨bl,bt,cs,js,r1,r2,r3,r4,r5,r6,r7,r8,r9⟩:=h.rows;exact⟨h.dom,⟨bl,bt,cs,js,r1,r2,r3,(e w).trans r4,(e bl).trans r5,(e bt).trans r6,r7.mono (fun b hb=>⟨hb,e b⟩) (fun b F p hb=>⟨p,hb⟩) (fun _ _ q=>q),r8,r9⟩,fun b F p hb=>by rw[e b];exact h.lab b F p hb⟩
theorem Stp.congr{L:List Nat}{κ1:Nat->Kd}{s1:Nat}{t1 t2:Tr Blk}(h:Stp L κ s tr κ1 s1 t1)(e:∀b,t2.get b=t1.get b):Stp L κ s tr κ1 s1 t2 :=
 ⟨h.le,fun b hb=>⟨(h.fr b hb).1,(e b).trans (h.fr b hb).2⟩,fun b hb=>⟨(h.box b hb).1,(e b).trans (h.box b hb).2⟩,h.lab,h.nw⟩
theorem qm0{t:Tr Blk}{b:Nat}{x y:Blk}(c:Nat):((t.set b x).set b y).get c=(t.set b y).get c:=by
 simp only[Tr.get_set];split<;>rfl
theorem WI.var(h:WI g w κ s tr RV N)(x y:Blk):WI g w (kdS κ s .fr) (s+1) ((tr.set s x).set s y) RV N∧Stp [] κ s tr (kdS κ s .fr) (s+1) ((tr.set s x).set s y) :=
 ⟨(h.new .fr y (.inr (.inl rfl))).congr qm0,(h.stpNew .fr y (by simp)).congr qm0⟩
theorem Stp.nil{L:List Nat}{κ1:Nat->Kd}{s1:Nat}{t1:Tr Blk}(h:Stp L κ s tr κ1 s1 t1)(hL:∀c,c ∉ L):Stp [] κ s tr κ1 s1 t1 :=
 { h with nw:=fun b F hb=>(h.nw b F hb).imp id fun q=>absurd q (hL b) }
theorem jp{α:Type}{l:List α}{j:Nat}{x:α}(h:l[j]?=some x):l.take (j+1)=l.take j++[x]:=by rw[List.take_add_one,h];rfl
theorem qnw{T:List Nd}{j:Nat}{x:Nd}(h:T[j]?=some x):((rNd T).drop (j*5)).take 5=cNd x:=zL qiW h
theorem qw5{T:List Nd}{j:Nat}{x:Nd}(h:T[j]?=some x){i:Nat}(hi:i<5):(rNd T)[j*5+i]?=(cNd x)[i]?:=zZ qiW h hi
def x5(a b:Nat):ICode:=.seq (.r [.n 46 1,.e 47 46,.m 48 (.k 0)]) (.blk 2 (.loop (.seq (.r [.s 49 48 47]) (.seq (.cond (.t 49) (.skip) (.exit 2)) (.seq (.blk 3 (.seq (.r [.n 50 48,.i 51 5 46 48,.v 52 5 51,.q 10 (.alloc [.b false,.i .i64 0,.i .u32 0,.i .i64 0,.i .i64 0]),.n 9 50,.u (.store 5 (.t 10) (.t 52))]) (.seq (.r [.f 53 0 10,.d 54 53,.q 55 (.un .not (.t 54))]) (.cond (.t 55) (.seq (.r [.n 56 0,.n 57 6,.n 58 9,.i 59 1 57 58,.d 60 59,.l 61 b [.t 56,.t 60]]) (.reg true [.n 62 0,.f 63 2 10,.d 64 63,.n 65 6,.f 66 4 10,.d 67 66,.i 68 1 65 67,.d 69 68,.n 70 6,.f 71 3 10,.d 72 71,.i 73 1 70 72,.d 74 73,⟨(some 75),.callW a [.t 62,(.c (.i .u16 53)),.t 64,.t 69,.t 74],none⟩])) (.skip))))) (.r [.a 76 48 1,.n 48 76]))))))
def x4(a b:Nat):ICode:=.seq (.seq (.r [.n 37 1,.q 38 (.iAddrS 5 (.t 37) (.k 0)),.f 39 0 38,.d 40 39]) (.cond (.t 40) (.r [.n 41 0,.n 42 6,.q 43 (.iAddrS 1 (.t 42) (.k 0)),.d 44 43,⟨(some 45),.callW a [.t 41,(.c (.i .u16 5)),(.c (.i .u32 0)),.t 44,(.c (.nilp))],none⟩]) (.skip))) (.cut (x5 a b))
def qac(a b:Nat):IFn:=⟨[],.seq (.r [.n 11 1,.e 12 11,.q 13 (.mkS 1 8 [.nilp] (.t 12) (.t 12)),.n 6 13]) (.seq (.seq (.r [.n 14 1,.e 15 14,.m 16 (.k 0)]) (.blk 0 (.loop (.seq (.r [.s 17 16 15]) (.seq (.cond (.t 17) (.skip) (.exit 0)) (.seq (.blk 1 (.seq (.r [.n 18 16,.i 19 5 14 16,.v 20 5 19,.q 8 (.alloc [.b false,.i .i64 0,.i .u32 0,.i .i64 0,.i .i64 0]),.n 7 18,.u (.store 5 (.t 8) (.t 20))]) (.seq (.r [.n 21 6,.n 22 7,.q 23 (.build [.i .i64 0] []),.q 24 (.box (.t 23)),.i 25 1 21 22,.u (.store 1 (.t 25) (.t 24))]) (.seq (.r [.f 26 0 8,.d 27 26]) (.cond (.t 27) (.r [.n 28 6,.n 29 7,.n 30 2,.f 31 1 8,.d 32 31,.i 33 1 30 32,.d 34 33,.i 35 1 28 29,.u (.store 1 (.t 35) (.t 34))]) (.skip)))))) (.r [.a 36 16 1,.n 16 36]))))))) (.cut (x4 a b)))⟩
theorem qkH{n0 m s1 bp:Nat}{t1:Tr Blk}{κ1:Nat->Kd}{L:List Nat}(W:WFn P g gl gp gj gh gr)(T:List Nd)(hok:∀x ∈ T,NdOk m T.length x)(FW:Nat->Nat)(pl:List Nat)(hpl:pl.length=T.length)
  (h:WI g w κ1 s1 t1 RV N) (st:Stp L κ s tr κ1 s1 t1) (hd:∀b,κ b≠.no->b<s) (hkl:∀(j:Nat) c,pl[j]?=some c->∃p,κ1 c = .lab (plc FW T RV.length j) p)
  (hL:∀c ∈ L,∃(j:Nat) (nd:Nd),T[j]?=some nd∧nd.leaf=false∧pl[j]?=some c) (hnew:∀(j:Nat) c nd,T[j]?=some nd->nd.leaf=false->pl[j]?=some c->s<=c) (hbp:κ1 bp = .fr) (gbp:t1.get bp=some (.cells 0 true false (rPt pl)))
  (hm:RV.length+T.length<=1000000) {t:Tr AV} (ht:Has t [(0,.ptr w 0),(1,.fz T.length (rNd T)),(6,.sl bp 0 T.length T.length false)])
  (hk:∀κ' s' tr',Stp [] κ s tr κ' s' tr'->WI g w κ' s' tr' (RV++brE FW T RV.length T) N->k (.tup []) ⟨s',0,tr'⟩):S P n0 (x5 gj gh) (qb9 [] k) t ⟨s1,0,t1⟩:=by
 refine S.has _ ht (ql ?_);simp only[x5,vI,simprocAttr];simp +decide only[↓vS,vT,simprocAttr]
 refine SL.loopP (α:=Nat) (fun i=>[(0,.ptr w 0),(6,.sl bp 0 T.length T.length false),(46,.fz T.length (rNd T)),(47,.i .i64 (T.length:Int)),(48,.i .i64 (i:Int))])
  (fun i h=>i<=T.length∧∃L' κ' s' tr',h=⟨s',0,tr'⟩∧Stp L' κ s tr κ' s' tr'∧WI g w κ' s' tr' (RV++brE FW T RV.length (T.take i)) N∧(∀(j:Nat) c,pl[j]?=some c->∃p,κ' c = .lab (plc FW T RV.length j) p) ∧
   (∀c ∈ L',∃(j:Nat) (nd:Nd),i<=j∧T[j]?=some nd∧nd.leaf=false∧pl[j]?=some c)∧κ' bp = .fr∧tr'.get bp=some (.cells 0 true false (rPt pl))) (fun i=>T.length-i) ?_ 0 ?_ ?_
 ·rintro i h1 ⟨hi,L',κ',s',tr',rfl,st',w',hkl',hL',hbp',gbp'⟩ G ih;simp only[vI,simprocAttr]
  by_cases hlt:i<T.length
  ·have hlt':(i:Int)<T.length:=by omega
   obtain⟨nd,hnd⟩:∃t,T[i]?=some t:=⟨_,zzE hlt⟩;obtain⟨c,hc⟩:∃t,pl[i]?=some t:=⟨_,zzE (by omega)⟩;have hel:=qnw hnd;have h5:i*5+5<=(rNd T).length:=by rw[qi8];omega
   have hw1:IntKind.wrap .i64 ((i:Int)+1)=((i+1:Nat):Int):=by rw[qm (by omega) (by omega)];simp
   have hbs:bp<s':=w'.dom bp (by rw[hbp'];simp);have hbs':¬bp=s':=by omega
   obtain⟨wv,sv⟩:=w'.var (.cells 0 true false [.b false,.i .i64 0,.i .u32 0,.i .i64 0,.i .i64 0]) (.cells 0 true false (cNd nd));have hbpv:=sv.fr bp hbp';have hklv:∀(j:Nat) c,pl[j]?=some c->∃p,kdS κ' s' .fr c = .lab (plc FW T RV.length j) p:=fun j c hj=>let ⟨p,q⟩:=hkl' j c hj;⟨p,sv.lab c _ p q⟩
   have hok':=hok nd (zzM hnd);have hge:(rPt pl)[i]?=some (.ptr c 0):=by rw[qeR,hc];rfl
   have hts:=jp hnd;cases hl:nd.leaf with
   | true =>
    simp +decide only[↓vS,vT,simprocAttr,hlt',hlt,h5,hel,cNd,hl,hw1];refine ih (i+1) _ _ (by omega) ?_ ⟨by omega,L',kdS κ' s' .fr,s'+1,_,rfl,?_,?_,hklv,?_,hbpv.1,?_⟩
    ·simp[qe,qi,Tr.get_set]
    ·have:=st'.trans sv;simp only[cNd,hl,List.append_nil] at this;exact this
    ·rw[hts];have:brE FW T RV.length (T.take i++[nd])=brE FW T RV.length (T.take i):=by simp[brE,qh5,hl]
     rw[this];simp only[cNd,hl] at wv;exact wv
    ·intro c' hc';obtain⟨j,nd',q1,q2,q3,q4⟩:=hL' c' hc';refine⟨j,nd',?_,q2,q3,q4⟩;rcases Nat.lt_or_ge i j with q|q
     ·omega
     ·obtain rfl:i=j:=by omega
      rw[hnd] at q2;cases q2;rw[hl] at q3;cases q3
    ·have:=hbpv.2.trans gbp';simp only[cNd,hl] at this;exact this
   | false =>
    simp only[cNd,hl] at wv sv
    have hpi:plc FW T RV.length i=(RV++brE FW T RV.length (T.take i)).length:=by
     rw[List.length_append,qoL];simp[plc,hnd,hl]
    obtain⟨pc,hpc⟩:=hklv i c hc;rw[hpi] at hpc;simp +decide only[↓vS,vT,simprocAttr,hlt',hlt,h5,hel,cNd,hl,hw1,hbs',gbp',hge,Nat.mul_one];refine qdi W.here wv hpc fun t4 q1 q2 w4=>?_
    have hsv:kdS κ' s' .fr s' = .fr:=qE;have g4:=q1 s' hsv;rw[Tr.get_set,if_pos rfl] at g4;have g5:=(q1 bp hbpv.1).trans (sv.fr bp hbp').2;rw[gbp'] at g5;obtain⟨cm,hcm⟩:∃t,pl[nd.more]?=some t:=⟨_,zzE (by rw[hpl];exact hok'.more)⟩;obtain⟨cl,hcl⟩:∃t,pl[nd.less]?=some t:=⟨_,zzE (by rw[hpl];exact hok'.less)⟩;have gm:(rPt pl)[nd.more]?=some (.ptr cm 0):=by rw[qeR,hcm];rfl
    have gl':(rPt pl)[nd.less]?=some (.ptr cl 0):=by rw[qeR,hcl];rfl
    have hcs:s<=c:=hnew i c nd hnd hl hc
    -- the labels are as before,but this one has its place
    have hkl4:∀(j:Nat) c',pl[j]?=some c'->∃p,kdS (kdS κ' s' .fr) c (.lab (RV++brE FW T RV.length (T.take i)).length true) c' = .lab (plc FW T RV.length j) p:=fun j c' hj=>by
     obtain⟨p,hp⟩:=hklv j c' hj
     by_cases e:c'=c
     ·rw[e] at hp;have hF:=(Kd.lab.inj (hpc.symm.trans hp)).1;exact⟨true,by rw[e,qE,hF]⟩
     ·exact⟨p,by rw[qg e];exact hp⟩
    have hbpc:bp≠c:=fun e=>by rw[← e,hbpv.1] at hpc;cases hpc
    have st4:Stp (L'.filter fun x=>decide (x≠c)) κ s tr (kdS (kdS κ' s' .fr) c (.lab (RV++brE FW T RV.length (T.take i)).length true)) (s'+1) t4 :=
     (st'.trans sv).kd hd hcs q1 q2 fun x hx=>by
      by_cases e:x=c
      ·exact .inl e
      ·exact .inr (by simp at hx;simp[hx,e])
    obtain⟨pm,hpm⟩:=hkl4 _ _ hcm;obtain⟨pq,hpq⟩:=hkl4 _ _ hcl
    obtain⟨κ5,s5,t5,st5,w5,hj5⟩:=qs4 W.jmp W.put w4 ⟨53,nd.at',plc FW T RV.length nd.more,plc FW T RV.length nd.less⟩ hpm (.inr ⟨(by decide:(53:Int)≠5),cl,pq,rfl,hpq⟩) (by
     rw[← hpi];have:zW (T.take i)<=T.length:=Nat.le_trans List.countP_le_length (by rw[List.length_take];omega);simp only[plc,hnd,hl];simp;omega)
    have hmT:nd.more<T.length:=hok'.more;have hlT:nd.less<T.length:=hok'.less;have hb4:=st5.fr bp (by rw[qg hbpc];exact hbpv.1);simp +decide only[↓vS,vT,simprocAttr];refine zg ?_;simp +decide only[↓vS,vT,simprocAttr,g4,g5,gm,gl',hmT,hlT,Nat.mul_one];refine⟨.tup [],_,hj5,?_⟩;simp +decide only[↓vS,vT,simprocAttr,hw1];refine ih (i+1) _ _ (by omega) ?_ ⟨by omega,_,κ5,s5,t5,rfl,st4.trans st5,?_,fun j c' hj=>?_,?_,hb4.1,hb4.2.trans g5⟩
    ·simp[qe,qi,Tr.get_set]
    ·rw[hts];have:brE FW T RV.length (T.take i++[nd])=brE FW T RV.length (T.take i)++[⟨53,nd.at',plc FW T RV.length nd.more,plc FW T RV.length nd.less⟩]:=by simp[brE,qh5,hl]
     rw[this,← List.append_assoc];exact w5
    ·obtain⟨p,hp⟩:=hkl4 j c' hj;exact⟨p,st5.lab _ _ _ hp⟩
    ·intro c' hc';rw[List.append_nil,List.mem_filter,decide_eq_true_eq] at hc';obtain⟨j,nd',q1,q2,q3,q4⟩:=hL' c' hc'.1;refine⟨j,nd',?_,q2,q3,q4⟩;rcases Nat.lt_or_ge i j with q|q
     ·omega
     ·obtain rfl:i=j:=by omega
      rw[hc] at q4;cases q4;exact absurd rfl hc'.2
  ·obtain rfl:i=T.length:=by omega
   have hlt':¬((T.length:Int)<T.length):=by omega
   simp +decide only[↓vS,vT,simprocAttr,hlt'];rw[List.take_length] at w';refine hk _ _ _ (st'.nil fun c hc=>?_) w'
   obtain⟨j,nd,q1,q2,_⟩:=hL' c hc;have:=(zzS.1 q2).1;omega
 ·simp[qe,qi,Tr.get_set]
 ·refine⟨Nat.zero_le _,L,κ1,s1,t1,rfl,st,?_,hkl,fun c hc=>?_,hbp,gbp⟩
  ·simpa[brE] using h
  ·obtain⟨j,nd,q⟩:=hL c hc;exact⟨j,nd,Nat.zero_le _,q⟩
theorem Stp.mod{L:List Nat}{κ1:Nat->Kd}{s1:Nat}{t1:Tr Blk}(h:Stp L κ s tr κ1 s1 t1)(hd:∀b,κ b≠.no->b<s){b:Nat}(hb:s<=b)(x:Blk):Stp L κ s tr (kdS κ1 b .fr) s1 (t1.set b x):=by
 have ne:∀{c},κ c≠.no->c≠b:=fun h e=>by have:=hd _ h;omega
 refine⟨h.le,fun c hc=>?_,fun c hc=>?_,fun c F p hc=>?_,fun c F hc=>?_⟩
 ·have e:=ne (c:=c) (by rw[hc];simp);rw[qg e,Tr.get_set,if_neg e];exact h.fr c hc
 ·have e:=ne (c:=c) (by rw[hc];simp);rw[qg e,Tr.get_set,if_neg e];exact h.box c hc
 ·rw[qg (ne (by rw[hc];simp))];exact h.lab c F p hc
 ·by_cases e:c=b
  ·rw[e,qE] at hc;cases hc
  ·rw[qg e] at hc;exact h.nw c F hc
theorem qp8{n0 m s1 bp:Nat}{t1:Tr Blk}{κ1:Nat->Kd}{L:List Nat}(W:WFn P g gl gp gj gh gr)(T:List Nd)(hT:T≠[])(hok:∀x ∈ T,NdOk m T.length x)(FW:Nat->Nat)(pl:List Nat)(hpl:pl.length=T.length)
  (h:WI g w κ1 s1 t1 RV N) (st:Stp L κ s tr κ1 s1 t1) (hd:∀b,κ b≠.no->b<s) (hkl:∀(j:Nat) c,pl[j]?=some c->∃p,κ1 c = .lab (plc FW T (RV.length+(jaE FW T).length) j) p)
  (hL:∀c ∈ L,∃(j:Nat) (nd:Nd),T[j]?=some nd∧nd.leaf=false∧pl[j]?=some c) (hnew:∀(j:Nat) c nd,T[j]?=some nd->nd.leaf=false->pl[j]?=some c->s<=c) (hbp:κ1 bp = .fr) (gbp:t1.get bp=some (.cells 0 true false (rPt pl)))
  (hm:RV.length+T.length+1<=1000000) {t:Tr AV} (ht:Has t [(0,.ptr w 0),(1,.fz T.length (rNd T)),(6,.sl bp 0 T.length T.length false)])
  (hk:∀κ' s' tr',Stp [] κ s tr κ' s' tr'->WI g w κ' s' tr' (RV++z7 FW T RV.length) N->k (.tup []) ⟨s',0,tr'⟩):S P n0 (x4 gj gh) (qb9 [] k) t ⟨s1,0,t1⟩:=by
 refine S.has _ ht (ql ?_);have hn0:0<T.length:=List.length_pos_iff.2 hT;obtain⟨x0,hx0⟩:∃x,T[0]?=some x:=⟨_,zzE hn0⟩;obtain⟨c0,hc0⟩:∃c,pl[0]?=some c:=⟨_,zzE (by omega)⟩
 have g0:(rNd T)[0]?=some (.b x0.leaf):=by
  have:=qw5 hx0 (i:=0) (by omega);rw[Nat.zero_mul] at this;exact this
 have ge0:(rPt pl)[0]?=some (.ptr c0 0):=by rw[qeR,hc0];rfl
 have hja:jaE FW T=if x0.leaf=true then [⟨5,0,FW x0.way,0⟩] else []:=by
  cases T with
  | nil=>exact absurd rfl hT
  | cons a l=>simp at hx0;subst hx0;rfl
 simp only[x4,vI,simprocAttr];simp +decide only[↓vS,vT,simprocAttr,g0,hn0];cases hl0:x0.leaf with
 | true =>
  rw[hl0,if_pos rfl] at hja;simp +decide only[↓vS,vT,simprocAttr,gbp,ge0,hn0,hl0];obtain⟨p,hp⟩:=hkl 0 c0 hc0;have hp':κ1 c0 = .lab (FW x0.way) p:=by rw[hp];simp[plc,hx0,hl0]
  refine qhY W.jmp W.put h ⟨5,0,FW x0.way,0⟩ hp' (.inl ⟨rfl,rfl,rfl⟩) (by omega) fun κ2 s2 t2 st2 w2=>?_
  simp +decide only[↓vS,vT,simprocAttr];rw[← hja] at w2;have hb2:=st2.fr bp hbp;refine qkH W T hok FW pl hpl w2 (st.trans st2) hd (fun j c hj=>?_) (by rw[List.append_nil];exact hL) hnew hb2.1 (hb2.2.trans gbp) (by rw[List.length_append,hja];simp;omega) ?_ fun κ' s' tr' q1 q2=>hk κ' s' tr' q1 ?_
  ·obtain⟨p,hp⟩:=hkl j c hj;rw[List.length_append];exact⟨p,st2.lab _ _ _ hp⟩
  ·simp[qe,qi,Tr.get_set]
  ·rw[List.length_append,List.append_assoc] at q2;exact q2
 | false =>
  rw[hl0,if_neg (by simp)] at hja;simp +decide only[↓vS,vT,simprocAttr,gbp,ge0,hn0,hl0];rw[hja] at hkl;refine qkH W T hok FW pl hpl h st hd hkl hL hnew hbp gbp (by omega) ?_ fun κ' s' tr' q1 q2=>hk κ' s' tr' q1 ?_
  ·simp[qe,qi,Tr.get_set]
  ·unfold z7;rw[hja];exact q2
theorem qw8{pl:List Nat}{n c:Nat}(h:pl.length<n):(rPt pl++List.replicate (n-pl.length) AV.nilp).take pl.length ++ .ptr c 0::(rPt pl++List.replicate (n-pl.length) AV.nilp).drop (pl.length+1)=rPt (pl++[c])++List.replicate (n-(pl++[c]).length) AV.nilp:=by
 rw[List.take_left' qeS,show pl.length+1=(rPt pl).length+1 by rw[qeS],List.drop_length_add_append,List.drop_replicate]
 simp[rPt];omega
theorem qua{pl:List Nat}{n a c:Nat}:(rPt (pl++[a])++List.replicate (n-(pl++[a]).length) AV.nilp).take pl.length ++ .ptr c 0::(rPt (pl++[a])++List.replicate (n-(pl++[a]).length) AV.nilp).drop (pl.length+1)=rPt (pl++[c])++List.replicate (n-(pl++[c]).length) AV.nilp:=by
 have e:rPt (pl++[a])++List.replicate (n-(pl++[a]).length) AV.nilp=rPt pl++(.ptr a 0::List.replicate (n-(pl++[a]).length) AV.nilp):=by simp[rPt]
 rw[e,List.take_left' qeS,show pl.length+1=(rPt pl).length+1 by rw[qeS],List.drop_length_add_append]
 simp[rPt]
theorem qr1{e bw:Nat}{wf a:Bool}(hc:qd P f (qac gj gh)=true)(W:WFn P g gl gp gj gh gr)(T:List Nd)(hT:T≠[])(xs:List Nat)(hok:∀x ∈ T,NdOk xs.length T.length x)(FW:Nat->Nat)(V:AV)(hV:V = .sl bw 0 xs.length xs.length false∨V = .own bw xs.length)
  (h:WI g w κ s tr RV N) (hbw:κ bw = .fr) (gbw:tr.get bw=some (.cells e wf a (rPt xs))) (hx:∀(j:Nat) c,xs[j]?=some c->∃p,κ c = .lab (FW j) p) (hm:RV.length+T.length+1<=1000000)
  (hk:∀κ' s' tr',Stp [] κ s tr κ' s' tr'->WI g w κ' s' tr' (RV++z7 FW T RV.length) N->k (.tup []) ⟨s',0,tr'⟩):SC P f [.ptr w 0,.fz T.length (rNd T),V] ⟨s,0,tr⟩ k:=by
 refine SC.mk hc (ql ?_);simp only[qac,vI,simprocAttr];have hr1:T.length<=qh:=by simp only[qh];omega
 have hr2:8*T.length<=qh:=by simp only[qh];omega
 simp +decide only[↓vS,vT,simprocAttr,hr1,hr2]
 refine SL.loopP (α:=Nat) (fun i=>[(0,.ptr w 0),(1,.fz T.length (rNd T)),(2,V),(6,.sl s 0 T.length T.length false),(14,.fz T.length (rNd T)),(15,.i .i64 (T.length:Int)),(16,.i .i64 (i:Int))])
  (fun i h=>i<=T.length∧∃pl L' κ' s' tr',pl.length=i∧h=⟨s',0,tr'⟩∧Stp L' κ s tr κ' s' tr'∧WI g w κ' s' tr' RV N∧s<s'∧(∀(j:Nat) c,pl[j]?=some c->∃p,κ' c = .lab (plc FW T (RV.length+(jaE FW T).length) j) p) ∧
   (∀c ∈ L',∃(j:Nat) (nd:Nd),T[j]?=some nd∧nd.leaf=false∧pl[j]?=some c)∧(∀(j:Nat) c nd,T[j]?=some nd->nd.leaf=false->pl[j]?=some c->s<=c)∧κ' s = .fr∧tr'.get s=some (.cells 0 true false (rPt pl++List.replicate (T.length-pl.length) .nilp))) (fun i=>T.length-i) ?_ 0 ?_ ?_
 ·rintro i h1 ⟨hi,pl,L',κ',s',tr',hpl,rfl,st',w',hss,hkl',hL',hnew',hbp',gbp'⟩ G ih;simp only[vI,simprocAttr]
  by_cases hlt:i<T.length
  ·have hlt':(i:Int)<T.length:=by omega
   obtain⟨nd,hnd⟩:∃t,T[i]?=some t:=⟨_,zzE hlt⟩;have hel:=qnw hnd;have h5:i*5+5<=(rNd T).length:=by rw[qi8];omega
   have hw1:IntKind.wrap .i64 ((i:Int)+1)=((i+1:Nat):Int):=by rw[qm (by omega) (by omega)];simp
   have hok':=hok nd (zzM hnd);have n1:¬s=s':=by omega
   have n2:¬s=s'+1:=by omega
   have n3:¬s'=s'+1:=by omega
   have n4:¬s'=s:=by omega
   have n5:¬s'+1=s:=by omega
   have hll:i+1<=(rPt pl++List.replicate (T.length-pl.length) AV.nilp).length:=by simp[qeS];omega
   have hp1:=qw8 (n:=T.length) (c:=s'+1) (pl:=pl) (by omega);rw[hpl] at hp1 hll gbp';obtain⟨wv,sv⟩:=w'.var (.cells 0 true false [.b false,.i .i64 0,.i .u32 0,.i .i64 0,.i .i64 0]) (.cells 0 true false (cNd nd));cases hl:nd.leaf with
   | false =>
    simp only[cNd,hl] at wv sv;simp +decide only[↓vS,vT,simprocAttr,hlt',hlt,h5,hel,cNd,hl,hw1,n1,n2,n3,n4,n5,gbp',Nat.mul_one,hll,hp1];have wl:=wv.new (.lab (plc FW T (RV.length+(jaE FW T).length) i) false) _ (.inr (.inr (.inr ⟨_,rfl,rfl⟩)));have sl:=wv.stpLab (.lab (plc FW T (RV.length+(jaE FW T).length) i) false) (.cells 0 true false [.i .i64 0]);have hfs:kdS (kdS κ' s' .fr) (s'+1) (.lab (plc FW T (RV.length+(jaE FW T).length) i) false) s = .fr:=by rw[qg (by omega),qg (by omega)];exact hbp'
    refine ih (i+1) _ _ (by omega) ?_ ⟨by omega,pl++[s'+1],_,_,s'+1+1,_,by simp[hpl],rfl,((st'.trans sv).trans sl).mod h.dom (Nat.le_refl s) _,wl.chg .fr _ (.inl hfs) (by omega) (.inr (.inl rfl)),by omega,fun j c hj=>?_,fun c hc=>?_,fun j c nd' h1 h2 h3=>?_,qE,by rw[Tr.get_set,if_pos rfl]⟩
    ·simp[qe,qi,Tr.get_set]
    ·rw[List.getElem?_append] at hj;split at hj
     ·obtain⟨p,hp⟩:=hkl' j c hj;have:c<s':=w'.dom c (by rw[hp];simp);have hcs:c≠s:=fun e=>by rw[e,hbp'] at hp;cases hp
      exact⟨p,by rw[qg hcs,qg (by omega),qg (by omega)];exact hp⟩
     ·have hj0:j-pl.length=0:=by
       have:=(zzS.1 hj).1;simp at this;exact this
      rw[hj0] at hj;simp at hj;subst hj;obtain rfl:j=i:=by omega
      exact⟨false,by rw[qg n5,qE]⟩
    ·simp only[List.append_nil,List.mem_append,List.mem_singleton] at hc;rcases hc with hc|hc
     ·obtain⟨j,nd',q1,q2,q3⟩:=hL' c hc;exact⟨j,nd',q1,q2,by rw[List.getElem?_append_left (zzS.1 q3).1];exact q3⟩
     ·exact⟨i,nd,hnd,hl,by rw[hc,← hpl];simp⟩
    ·rw[List.getElem?_append] at h3;split at h3
     ·exact hnew' j c nd' h1 h2 h3
     ·have hj0:j-pl.length=0:=by
       have:=(zzS.1 h3).1;simp at this;exact this
      rw[hj0] at h3;simp at h3;omega
   | true =>
    have hwl:=hok'.way hl;obtain⟨c0,hc0⟩:∃t,xs[nd.way]?=some t:=⟨_,zzE hwl⟩;have gc0:(rPt xs)[nd.way]?=some (.ptr c0 0):=by rw[qeR,hc0];rfl
    obtain⟨p0,hp0⟩:=hx nd.way c0 hc0;have hbs:bw<s:=h.dom bw (by rw[hbw];simp);have gb':=(st'.fr bw hbw).2.trans gbw;have m1:¬bw=s:=by omega
    have m2:¬bw=s':=by omega
    have m3:¬bw=s'+1:=by omega
    have hp2:=qua (n:=T.length) (pl:=pl) (a:=s'+1) (c:=c0);have hll2:i+1<=(rPt (pl++[s'+1])++List.replicate (T.length-(pl++[s'+1]).length) AV.nilp).length:=by simp[qeS];omega
    rw[hpl] at hp2;have wl:=wv.new .fr (.cells 0 true false [.i .i64 0]) (.inr (.inl rfl));have sl:=wv.stpNew .fr (.cells 0 true false [.i .i64 0]) (by simp);have hfs:kdS (kdS κ' s' .fr) (s'+1) .fr s = .fr:=by rw[qg (by omega),qg (by omega)];exact hbp'
    have wc:=wl.chg .fr (.cells 0 true false (rPt (pl++[s'+1])++List.replicate (T.length-(pl++[s'+1]).length) .nilp)) (.inl hfs) (by omega) (.inr (.inl rfl));have wd:=wc.chg (b:=s) .fr (.cells 0 true false (rPt (pl++[c0])++List.replicate (T.length-(pl++[c0]).length) .nilp)) (.inl qE) (by omega) (.inr (.inl rfl));have sd:=((((st'.trans sv).trans sl).mod h.dom (Nat.le_refl s) (.cells 0 true false (rPt (pl++[s'+1])++List.replicate (T.length-(pl++[s'+1]).length) .nilp)))).mod h.dom (Nat.le_refl s) (.cells 0 true false (rPt (pl++[c0])++List.replicate (T.length-(pl++[c0]).length) .nilp));simp only[cNd,hl] at wd sd
    have fin:∀tf,(∀b,tf.get b=((((((tr'.set s' (.cells 0 true false [.b false,.i .i64 0,.i .u32 0,.i .i64 0,.i .i64 0])).set s' (.cells 0 true false [.b true,.i .i64 (nd.way:Int),.i .u32 nd.at',.i .i64 (nd.less:Int),.i .i64 (nd.more:Int)])).set (s'+1) (.cells 0 true false [.i .i64 0])).set s
      (.cells 0 true false (rPt (pl++[s'+1])++List.replicate (T.length-(pl++[s'+1]).length) .nilp))).set s (.cells 0 true false (rPt (pl++[c0])++List.replicate (T.length-(pl++[c0]).length) .nilp))).get b))->
      ∀tt,Has tt [(0,.ptr w 0),(1,.fz T.length (rNd T)),(2,V),(6,.sl s 0 T.length T.length false),(14,.fz T.length (rNd T)),(15,.i .i64 (T.length:Int)),(16,.i .i64 ((i+1:Nat):Int))]->G tt ⟨s'+1+1,0,tf⟩:=by
     intro tf hf tt ht;refine ih (i+1) _ _ (by omega) ht ⟨by omega,pl++[c0],_,_,s'+1+1,_,by simp[hpl],rfl,sd.congr hf,wd.congr hf,by omega,fun j c hj=>?_,fun c hc=>?_,fun j c nd' h1 h2 h3=>?_,qE,by rw[hf,Tr.get_set,if_pos rfl]⟩
     ·rw[List.getElem?_append] at hj;split at hj
      ·obtain⟨p,hp⟩:=hkl' j c hj;have:c<s':=w'.dom c (by rw[hp];simp);have hcs:c≠s:=fun e=>by rw[e,hbp'] at hp;cases hp
       exact⟨p,by rw[qg hcs,qg hcs,qg (by omega),qg (by omega)];exact hp⟩
      ·have hj0:j-pl.length=0:=by
        have:=(zzS.1 hj).1;simp at this;exact this
       rw[hj0] at hj;simp at hj;subst hj;obtain rfl:j=i:=by omega
       have h1:=st'.lab _ _ _ hp0;have:c0<s:=h.dom c0 (by rw[hp0];simp);exact⟨p0,by rw[qg (by omega),qg (by omega),qg (by omega),qg (by omega),h1];simp[plc,hnd,hl]⟩
     ·simp only[List.append_nil] at hc;obtain⟨j,nd',q1,q2,q3⟩:=hL' c hc;exact⟨j,nd',q1,q2,by rw[List.getElem?_append_left (zzS.1 q3).1];exact q3⟩
     ·rw[List.getElem?_append] at h3;split at h3
      ·exact hnew' j c nd' h1 h2 h3
      ·have hj0:j-pl.length=0:=by
        have:=(zzS.1 h3).1;simp at this;exact this
       obtain rfl:j=i:=by omega
       rw[hnd] at h1;cases h1;rw[hl] at h2;cases h2
    rcases hV with rfl|rfl
    ·simp +decide only[↓vS,vT,simprocAttr,hlt',hlt,h5,hel,cNd,hl,hw1,n1,n2,n3,n4,n5,m1,m2,m3,gbp',gb',gc0,hwl,Nat.mul_one,hll,hp1,hll2,hp2];exact fin _ (fun b=>rfl) _ (by simp[qe,qi,Tr.get_set])
    ·simp +decide only[↓vS,vT,simprocAttr,hlt',hlt,h5,hel,cNd,hl,hw1,n1,n2,n3,n4,n5,m1,m2,m3,gbp',gb',gc0,hwl,Nat.mul_one,hll,hp1,hll2,hp2];exact fin _ (fun b=>rfl) _ (by simp[qe,qi,Tr.get_set])
  ·obtain rfl:i=T.length:=by omega
   have hlt':¬((T.length:Int)<T.length):=by omega
   simp +decide only[↓vS,vT,simprocAttr,hlt'];rw[hpl,Nat.sub_self] at gbp';refine qp8 W T hT hok FW pl hpl w' st' h.dom hkl' hL' hnew' hbp' (by rw[gbp'];simp) hm ?_ hk;simp[qe,qi,Tr.get_set]
 ·simp[qe,qi,Tr.get_set]
 ·refine⟨Nat.zero_le _,[],[],kdS κ s .fr,s+1,_,rfl,rfl,h.stpNew .fr _ (by simp),h.new .fr _ (.inr (.inl rfl)),by omega,fun j c hj=>(by simp at hj),fun c hc=>(by cases hc),fun j c nd h1 h2 h3=>(by simp at h3),qE,?_⟩
  rw[Tr.get_set,if_pos rfl];simp[rPt]
end
structure Sp where
 fr:Int
 to:Int
 way:Nat
def cSp(s:Sp):List AV:=[.i .u32 s.fr,.i .u32 s.to,.i .i64 (s.way:Int)]
theorem qfU(s:Sp):(cSp s).length=3:=rfl
def rSp(l:List Sp):List AV:=l.flatMap cSp
theorem qeU{l:List Sp}:(rSp l).length=l.length*3:=zt qfU l
theorem qw9{l m:List Sp}:rSp l++rSp m=rSp (l++m):=by simp[rSp]
theorem qxa{s:Sp}:cSp s=rSp [s]:=by simp[rSp]
theorem qpB{T:List Sp}{j:Nat}{x:Sp}(h:T[j]?=some x){i:Nat}(hi:i<3):(rSp T)[j*3+i]?=(cSp x)[i]?:=zZ qfU h hi
theorem quc{T:List Sp}{j:Nat}{x:Sp}(h:T[j]?=some x):((rSp T).drop (j*3)).take 3=cSp x:=zL qfU h
theorem qeo{l:List Sp}:qw (rSp l)=true:=qbg fun _=>rfl
def jv(l:List Sp)(s:Sp):List Sp:=match l[l.length-1]? with|some z=>if z.way=s.way then l.set (l.length-1) ⟨z.fr,s.to,z.way⟩ else l++[s]|none=>l++[s]
def zx(l:List Sp):List Sp:=l.foldl jv []
theorem qkb{l:List Sp}{s:Sp}:(jv l s).length<=l.length+1:=by
 unfold jv;split
 ·split<;>simp
 ·simp
def jj:IFn:=⟨[],.seq (.r [.q 2 (.box (.t 0))]) (.seq (.seq (.r [.d 4 1,.e 5 4,.n 3 5]) (.seq (.reg true [.n 6 3,.w 7 .gtr 6 0,.n 8 7,.j 9 1 8 true,.y 10 3 8,.g 11 (.bin .sub (.t 10) (.k 1)) 8 true,.g 12 (.iAddrS 3 (.t 9) (.t 11)) 8 true,.h 13 2 12 8 true,.j 14 13 8 true,.h 15 2 2 8 true,.j 16 15 8 true,.g 17 (.bin .eql (.t 14) (.t 16)) 8 true,.p 18 8 17]) (.cond (.t 18) (.seq (.r [.d 19 1,.n 20 3,.w 21 .sub 20 1,.f 22 1 2,.d 23 22,.i 24 3 19 21,.f 25 1 24,.u (.store 1 (.t 25) (.t 23))]) (.ret)) (.skip)))) (.r [.d 26 1,.v 27 3 2,.q 28 (.buildS 1 [.i .u32 0,.i .u32 0,.i .i64 0] [(0,3,(.t 27))]),.q 29 (.app 3 16 true (.t 26) (.t 28)),.u (.store 1 (.t 1) (.t 29))]))⟩
theorem qt7(hc:qd P f jj=true){s bo br:Nat}{tr:Tr Blk}{l:List Sp}(x:Sp){k:AV->Hp->Prop}(ho:tr.get bo=some (.cells 0 true false [.own br l.length]))(hr:tr.get br=some (.cells 3 true true (rSp l)))(hbr:bo≠br)(hos:bo<s)(hrs:br<s)(hm:l.length<=1000000)
  (hk:∀s' tr' br',s<=s'->(∀b,b<s->b≠bo->b≠br->tr'.get b=tr.get b)->tr'.get bo=some (.cells 0 true false [.own br' (jv l x).length])->tr'.get br'=some (.cells 3 true true (rSp (jv l x)))->(br'=br∨s<=br')->br'<s'->k (.tup []) ⟨s',0,tr'⟩) :
  SC P f [.agg (cSp x),.ptr bo 0] ⟨s,0,tr⟩ k:=by
 refine SC.mk hc (ql ?_);have n1:¬bo=s:=by omega
 have n2:¬br=s:=by omega
 have n3:¬bo=br:=hbr;have n4:¬s=br:=by omega
 have n5:¬s+1=br:=by omega
 have n6:¬br=s+1:=by omega
 have n7:¬bo=s+1:=by omega
 have n8:¬bo=s+1+1:=by omega
 have n9:¬s=bo:=by omega
 have n10:¬s=s+1:=by omega
 have n11:¬s+1=s+1+1:=by omega
 have r1:l.length+1<=qh:=by simp only[qh];omega
 have r2:(l.length+1)*16<=qh:=by simp only[qh];omega
 have app:∀tf:Tr Blk,(∀b,b<s->b≠bo->b≠br->tf.get b=tr.get b)->tf.get bo=some (.cells 0 true false [.own (s+1+1) (l.length+1)])->tf.get (s+1+1)=some (.cells 3 true true (rSp l++cSp x))->jv l x=l++[x]->k (.tup []) ⟨s+1+1+1,0,tf⟩:=fun tf h1 h2 h3 h4 =>
  hk _ _ (s+1+1) (by omega) h1 (by rw[h2,h4];simp) (by rw[h3,h4,qxa,qw9]) (.inr (by omega)) (by omega)
 simp only[jj,cSp,vI,simprocAttr];simp +decide only[↓vS,vT,simprocAttr,ho,hr,n1,n2,n3,n9];refine zg ?_;rcases Nat.eq_zero_or_pos l.length with h0|h0
 ·have h0':¬(0:Int)<(l.length:Int):=by omega
  simp +decide only[↓vS,vT,simprocAttr,h0',ho,hr,n1,n2,n3,n4,n5,n6,n7,n8,n9,n10,n11,r1,r2,qeU];refine app _ ?_ ?_ ?_ ?_
  ·intro b h1 h2 h3;simp only[Tr.get_set];repeat rw[if_neg (by omega)]
  ·simp[Tr.get_set]
  ·simp only[Tr.get_set];rw[if_neg (by omega)];simp[cSp]
  ·have:l=[]:=List.eq_nil_of_length_eq_zero h0;subst this;rfl
 ·have h0':(0:Int)<(l.length:Int):=by omega
  obtain⟨z,hz⟩:∃z,l[l.length-1]?=some z:=⟨_,zzE (by omega)⟩;have e1:IntKind.wrap .i64 ((l.length:Int)-1)=((l.length-1:Nat):Int):=by rw[qm (by omega) (by omega)];omega
  have hlt:l.length-1<l.length:=by omega
  have hw:=qpB hz (i:=2) (by omega);have hw':(rSp l)[(l.length-1)*3+2]?=some (.i .i64 (z.way:Int)):=hw
  by_cases hwy:z.way=x.way
  ·have hwy':(z.way:Int)=x.way:=by omega
   have hset:=qfq (f:=cSp) (x':=⟨z.fr,x.to,z.way⟩) (v:=.i .u32 x.to) (i:=1) qfU hz (by omega) rfl;rw[show l.flatMap cSp=rSp l from rfl,List.singleton_append] at hset
   have h3:(l.length-1)*3+1+1<=(rSp l).length:=by rw[qeU];omega
   simp +decide only[↓vS,vT,simprocAttr,h0',ho,hr,n1,n2,n3,n4,n5,n6,n7,n8,n9,n10,n11,e1,hlt,hw',hwy',h3,hset];have hp:jv l x=l.set (l.length-1) ⟨z.fr,x.to,z.way⟩:=by unfold jv;rw[hz];simp[hwy]
   refine hk _ _ br (by omega) ?_ ?_ ?_ (.inl rfl) (by omega)
   ·intro b h1 h2 h3;simp only[Tr.get_set];repeat rw[if_neg (by omega)]
   ·rw[Tr.get_set,if_neg hbr,Tr.get_set,if_neg n1,ho,hp];simp
   ·rw[Tr.get_set,if_pos rfl,hp];rfl
  ·have hwy':¬(z.way:Int)=x.way:=by omega
   simp +decide only[↓vS,vT,simprocAttr,h0',ho,hr,n1,n2,n3,n4,n5,n6,n7,n8,n9,n10,n11,e1,hlt,hw',hwy',r1,r2,qeU];refine app _ ?_ ?_ ?_ ?_
   ·intro b h1 h2 h3;simp only[Tr.get_set];repeat rw[if_neg (by omega)]
   ·simp[Tr.get_set]
   ·simp only[Tr.get_set];rw[if_neg (by omega)];simp[cSp]
   ·unfold jv;rw[hz];simp[hwy]
def qaA(l:List (Int×Nat)):List AV:=l.map fun x=>.i .u32 x.1
def qba(l:List (Int×Nat)):List AV:=l.map fun x=>.i .i64 (x.2:Int)
theorem qfI{l:List (Int×Nat)}:(qaA l).length=l.length:=by simp[qaA]
theorem qfJ{l:List (Int×Nat)}:(qba l).length=l.length:=by simp[qba]
theorem qc1{l:List (Int×Nat)}:qw (qaA l)=true:=qdd fun _=>rfl
theorem qc2{l:List (Int×Nat)}:qw (qba l)=true:=qdd fun _=>rfl
theorem qhC{l:List (Int×Nat)}{j:Nat}:(qaA l)[j]?=(l[j]?).map fun x=>.i .u32 x.1:=by simp[qaA]
theorem qnz{l:List (Int×Nat)}{j:Nat}:(qba l)[j]?=(l[j]?).map fun x=>.i .i64 (x.2:Int):=by simp[qba]
def pcs(o:Nat):List (Int×Nat)->Int->List Sp
 | [],nx=>if nx<4294967296 then [⟨nx,4294967295,o⟩] else []
 | x::l,nx=>(if nx<x.1 then [⟨nx,x.1-1,o⟩] else [])++⟨x.1,x.1,x.2⟩::pcs o l (x.1+1)
def qdl(a:Nat):IFn:=⟨[.tmp 6],.seq (.r [.q 3 (.box (.t 0)),.q 4 (.box (.t 1)),.q 5 (.box (.t 2)),.m 6 (.c (.nilf))]) (.seq (.r [.q 7 (.mkF a [] [.t 3,.t 5,.t 4]),.n 6 7]) (.ret))⟩
theorem qrf{g:Nat}(hc:qd P f (qdl g)=true)(l:List (Int×Nat))(o:Nat):qf P f [.fz l.length (qaA l),.fz l.length (qba l),.i .i64 (o:Int)] (.fn g [] [.pf [.fz l.length (qaA l)] 0,.pf [.i .i64 (o:Int)] 0,.pf [.fz l.length (qba l)] 0]):=by
 refine qf.mk hc (by simp[qw,clo,qc1,qc2]) ?_;simp only[qdl,vI,simprocAttr];simp +decide only[↓vS,vT,simprocAttr];simp[vZ,vP,Tr.get_set,qQ qc1,qQ qc2]
def spT(g3:Nat)(l:List (Int×Nat))(o:Nat):List (Nat×AV):=[(3,.ptr 0 0),(4,.ptr 1 0),(7,.fn g3 [] [.pf [.fz l.length (qaA l)] 0,.pf [.i .i64 (o:Int)] 0,.pf [.fz l.length (qba l)] 0])]
def spA:ICode:=.reg false [⟨some 5,.op (.alloc [.i .u32 0,.i .u32 0,.i .i64 0]),none⟩,⟨none,.op (.store 3 (.t 5) (.t 8)),none⟩]
def spB:ICode:=.blk 1 (.reg false [⟨some 9,.op (.load1 (.t 4)),none⟩,⟨some 10,.op (.loadN 3 (.t 5)),none⟩,⟨some 11,.callV (.t 9) [.t 10],none⟩])
def SpI(g1:Nat)(r0:Loop)(ts:List (Nat×AV))(out:List Sp)(s:Nat)(tr:Tr Blk):Prop :=
 ∃br,4<=s∧tr.get 0=some (.cells 0 true false [.own br out.length])∧tr.get br=some (.cells 3 true true (rSp out))∧(br=2∨4<=br)∧br<s∧tr.get 1=some (.cells 0 true false [.fn g1 [] [.ptr 0 0]])∧tr.get 3=some (.map (zz r0 ts))
theorem qkc{g1 g3 s:Nat}{r0:Loop}{l:List (Int×Nat)}{o:Nat}{out:List Sp}{tr:Tr Blk}{k:AV->Hp->Prop}(hc1:qd P g1 jj=true)(hr0:r0.state = .ready)(hp0:r0.pending=none)(hlo:LoopOk P r0 [8] spA spB)
  (hI:SpI g1 r0 (spT g3 l o) out s tr) (x:Sp) (hm:out.length<=1000000) (hk:∀s' tr',SpI g1 r0 (spT g3 l o) (jv out x) s' tr'->k (.b true) ⟨s',0,tr'⟩):SY P 3 [.agg (cSp x)] ⟨s,0,tr⟩ k:=by
 obtain⟨br,h4,h0,hb,hbr,hbs,h1,h3⟩:=hI;refine SY.mk (r:=r0) (ts:=spT g3 l o) (ps:=[8]) h3 hr0 hlo (Nat.zero_le _) (by show 3<s;omega) rfl ?_;rw[show mkT (spT g3 l o)=((Tr.leaf.set 7 (.fn g3 [] [.pf [.fz l.length (qaA l)] 0,.pf [.i .i64 (o:Int)] 0,.pf [.fz l.length (qba l)] 0])).set 4 (.ptr 1 0)).set 3 (.ptr 0 0) from rfl]
 refine ql ?_;simp only[qlS,spA,cSp,vI,simprocAttr];simp +decide only[↓vS,vT,simprocAttr];have n3:¬3=s:=by omega
 have n1:¬1=s:=by omega
 have n13:¬1=3:=by omega
 have n03:¬0=3:=by omega
 have ns3:¬s=3:=by omega
 refine⟨spT g3 l o,by simp[Tr.get_set,n3,h3],?_⟩
 refine ql ?_;simp only[xT,spB,vI,simprocAttr];simp +decide only[↓vS,vT,simprocAttr,h1,n1,n13,ns3]
 have gb:∀b,b<s->b≠3->(((tr.set s (.cells 0 true false [.i .u32 0,.i .u32 0,.i .i64 0])).set s (.cells 0 true false [.i .u32 x.fr,.i .u32 x.to,.i .i64 (x.way:Int)])).set 3 (.map (zz (Go.Kc.bsy r0) (spT g3 l o)))).get b=tr.get b:=fun b h1 h2=>by
  simp only[Tr.get_set];repeat rw[if_neg (by omega)]
 refine qt7 hc1 x ((gb 0 (by omega) (by omega)).trans h0) ((gb br hbs (by omega)).trans hb) (by omega) (by omega) (by omega) hm fun s' tr' br' q1 q2 q3 q4 q5 q6=>?_
 simp +decide only[↓vS,vT,simprocAttr];have g3':tr'.get 3=some (.map (zz (Go.Kc.bsy r0) (spT g3 l o))):=by rw[q2 3 (by omega) (by omega) (by omega),Tr.get_set,if_pos rfl]
 refine⟨Go.Kc.bsy r0,spT g3 l o,g3',?_⟩;rw[qja,qlZ hr0 hp0];simp only[xT];simp +decide only[↓vS,vT,simprocAttr];refine hk _ _ ⟨br',by omega,?_,?_,by omega,q6,?_,?_⟩
 ·rw[Tr.get_set,if_neg (by omega)];exact q3
 ·rw[Tr.get_set,if_neg (by omega)];exact q4
 ·rw[Tr.get_set,if_neg (by omega),q2 1 (by omega) (by omega) (by omega),gb 1 (by omega) (by omega)];exact h1
 ·rw[Tr.get_set,if_pos rfl]
def qcd:IFn:=⟨[],.seq (.r [.m 5 (.c (.i .u64 0))]) (.seq (.seq (.r [.d 8 1,.e 9 8,.m 10 (.k 0)]) (.blk 0 (.loop (.seq (.r [.s 11 10 9]) (.seq (.cond (.t 11) (.skip) (.exit 0)) (.seq (.blk 1 (.seq (.r [.n 12 10,.i 13 1 8 10,.d 14 13,.n 6 12,.n 7 14]) (.seq (.seq (.r [.n 15 5,.n 16 7,.q 17 (.cvInt .u64 (.t 16)),.s 18 15 17,.n 19 18,.y 20 0 19,.y 21 5 19,.g 22 (.cvInt .u32 (.t 21)) 19 true,.y 23 7 19,.g 24 (.bin .sub (.t 23) (.c (.i .u32 1))) 19 true,.j 25 2 19 true,.g 26 (.build [.i .u32 0,.i .u32 0,.i .i64 0] [(0,1,(.t 22)),(1,1,(.t 24)),(2,1,(.t 25))]) 19 true,⟨(some 27),.callV (.t 20) [.t 26],(some (19,true))⟩,.g 28 (.un .not (.t 27)) 19 true,.p 29 19 28]) (.cond (.t 29) (.ret) (.skip))) (.seq (.seq (.r [.n 30 0,.n 31 7,.n 32 7,.d 33 3,.n 34 6,.i 35 1 33 34,.d 36 35,.q 37 (.build [.i .u32 0,.i .u32 0,.i .i64 0] [(0,1,(.t 31)),(1,1,(.t 32)),(2,1,(.t 36))]),⟨(some 38),.callV (.t 30) [.t 37],none⟩,.q 39 (.un .not (.t 38))]) (.cond (.t 39) (.ret) (.skip))) (.r [.n 40 7,.q 41 (.cvInt .u64 (.t 40)),.q 42 (.bin .add (.t 41) (.c (.i .u64 1))),.n 5 42]))))) (.r [.a 43 10 1,.n 10 43]))))))) (.seq (.r [.n 44 5,.q 45 (.bin .lss (.t 44) (.c (.i .u64 4294967296)))]) (.cond (.t 45) (.r [.n 46 0,.n 47 5,.q 48 (.cvInt .u32 (.t 47)),.d 49 2,.q 50 (.build [.i .u32 0,.i .u32 0,.i .i64 0] [(0,1,(.t 48)),(1,1,(.c (.i .u32 4294967295))),(2,1,(.t 49))]),⟨(some 51),.callV (.t 46) [.t 50],none⟩]) (.skip))))⟩
def qbD(a:Nat):ICode:=.seq (.r [.d 12 3,.n 2 12]) (.ret)
def qdk(a:Nat):IFn:=⟨[.tmp 2],.seq (.r [.m 2 .N]) (.seq (.r [.q 3 (.alloc [.nils])]) (.seq (.r [.q 6 (.mkF a [] [.t 3]),.q 4 (.alloc [.nilf]),.u (.store 1 (.t 4) (.t 6))]) (.seq (.seq (.r [.n 7 0]) (.blk 0 (.rangeF 0 (.t 7) [8] (.r [.q 5 (.alloc [.i .u32 0,.i .u32 0,.i .i64 0]),.u (.store 3 (.t 5) (.t 8))]) (.blk 1 (.r [.d 9 4,.v 10 3 5,⟨(some 11),.callV (.t 9) [.t 10],none⟩]))))) (.cut (qbD a)))))⟩
theorem qk4{n0 g1 br n:Nat}{s:Nat}{tr:Tr Blk}{t:Tr AV}{out:List Sp}(ht:t.get 3=some (.ptr 0 0))(h0:tr.get 0=some (.cells 0 true false [.own br out.length]))(hb:tr.get br=some (.cells 3 true true (rSp out)))(hn:n=out.length) :
  S P n0 (qbD g1) (qb9 [.tmp 2] fun v' h'=>Frz h' v' (.fz n (rSp out))) t ⟨s,0,tr⟩:=by
 refine S.has [(3,.ptr 0 0)] (by simp[qe,qi,ht]) (ql ?_);simp only[qbD,vI,simprocAttr];simp only[↓vS,vT,simprocAttr,h0];simp[vZ,vP,Tr.get_set,hb,hn,qQ qeo];intro h;rw[h];rfl
theorem qnp{g1 g3:Nat}(hc:qd P f (qdk g1)=true)(hc1:qd P g1 jj=true)(hc3:qd P g3 qcd=true)(l:List (Int×Nat))(o:Nat)(hl:l.length<=100000)(hr:∀x ∈ l,0<=x.1∧x.1<4294967296) :
  qf P f [.fn g3 [] [.pf [.fz l.length (qaA l)] 0,.pf [.i .i64 (o:Int)] 0,.pf [.fz l.length (qba l)] 0]] (.fz (zx (pcs o l 0)).length (rSp (zx (pcs o l 0)))):=by
 refine qf.mk hc (by simp[qw,clo,qc1,qc2]) ?_;simp only[qdk,vI,simprocAttr];simp +decide only[↓vS,vT,simprocAttr];refine S.weak (Wk.mk (spT g3 l o) [.cells 0 true false [.own 2 0],.cells 0 true false [.fn g1 [] [.ptr 0 0]],.cells 3 true true []] [0,1,99] ?_ ?_ ?_ rfl) ?_
 ·simp[vw,spT,qc1,qc2,qc]
 ·simp[vw]
 ·simp
 refine S.rangeF (by simp[qaL]) (by simp[spT]) ⟨rfl,rfl⟩ ?_;refine qmN.2 ⟨.fn g3 [] [.pf [.fz l.length (qaA l)] 0,.pf [.i .i64 (o:Int)] 0,.pf [.fz l.length (qba l)] 0],by simp[spT,mkT,Tr.get_set],?_⟩
 refine⟨qg9 hc3,fun r0 hr0 hp0 hlo=>SC.mk hc3 ?_⟩
 have hlo:LoopOk P r0 [8] spA spB:=hlo;show S P 4 _ _ (qc8 [.yl 3,.pf [.fz l.length (qaA l)] 0,.pf [.i .i64 (o:Int)] 0,.pf [.fz l.length (qba l)] 0] 0 .leaf) ⟨4,0,(((Tr.leaf.set 0 (.cells 0 true false [.own 2 0])).set 1 (.cells 0 true false [.fn g1 [] [.ptr 0 0]])).set 2 (.cells 3 true true [])).set 3 (.map (zz r0 (spT g3 l o)))⟩;refine ql ?_;simp only[qcd,vI,simprocAttr];simp +decide only[↓vS,vT,simprocAttr]
 refine SL.loopP (α:=Nat×Int) (fun i=>[(0,.yl 3),(1,.pf [.fz l.length (qaA l)] 0),(2,.pf [.i .i64 (o:Int)] 0),(3,.pf [.fz l.length (qba l)] 0),(5,.i .u64 i.2),(8,.fz l.length (qaA l)),(9,.i .i64 (l.length:Int)),(10,.i .i64 (i.1:Int))])
  (fun i h=>i.1<=l.length∧0<=i.2∧i.2<=4294967296∧∃s tr out,h=⟨s,0,tr⟩∧SpI g1 r0 (spT g3 l o) out s tr∧(pcs o (l.drop i.1) i.2).foldl jv out=zx (pcs o l 0)∧out.length<=2*i.1) (fun i=>l.length-i.1) ?_ (0,0) ?_ ?_
 ·rintro⟨i,nx⟩ h1 ⟨hi,hx0,hx1,s,tr,out,rfl,hI,hE,hol⟩ G ih;simp only at hi hx0 hx1 hI hE hol;simp only[vI,simprocAttr]
  by_cases hlt:i<l.length
  ·have hlt':(i:Int)<l.length:=by omega
   obtain⟨x,hx⟩:∃x,l[i]?=some x:=⟨_,zzE hlt⟩;have hd:l.drop i=x::l.drop (i+1):=by rw[← (zzS.1 hx).2,List.getElem_cons_drop]
   obtain⟨x0,x1⟩:=hr x (zzM hx);have g1':(qaA l)[i]?=some (.i .u32 x.1):=by rw[qhC,hx];rfl
   have g2':(qba l)[i]?=some (.i .i64 (x.2:Int)):=by rw[qnz,hx];rfl
   have hw1:IntKind.wrap .i64 ((i:Int)+1)=((i+1:Nat):Int):=by rw[qm (by omega) (by omega)];simp
   have hw2:IntKind.wrap .u64 x.1=x.1:=qaX (by omega) (by omega);have hw3:IntKind.wrap .u64 (x.1+1)=x.1+1:=qaX (by omega) (by omega);rw[hd,pcs,List.foldl_append,List.foldl_cons] at hE
   -- the second yield
   have two:∀(s:Nat) (tr:Tr Blk) (out:List Sp),SpI g1 r0 (spT g3 l o) out s tr->out.length<=2*i+1->(pcs o (l.drop (i+1)) (x.1+1)).foldl jv (jv out ⟨x.1,x.1,x.2⟩)=zx (pcs o l 0)->∀k:AV->Hp->Prop,
     (∀s' tr' out',SpI g1 r0 (spT g3 l o) out' s' tr'->out'.length<=2*(i+1)->(pcs o (l.drop (i+1)) (x.1+1)).foldl jv out'=zx (pcs o l 0)->k (.b true) ⟨s',0,tr'⟩)->SY P 3 [.agg (cSp ⟨x.1,x.1,x.2⟩)] ⟨s,0,tr⟩ k:=fun s tr out h1 h2 h3 k hk =>
    qkc hc1 hr0 hp0 hlo h1 _ (by omega) fun s' tr' h4=>hk s' tr' _ h4 (by have:=qkb (l:=out) (s:=⟨x.1,x.1,x.2⟩);omega) h3
   by_cases hn:nx<x.1
   ·have hw4:IntKind.wrap .u32 nx=nx:=qaC (by omega) (by omega);have hw5:IntKind.wrap .u32 (x.1-1)=x.1-1:=qaC (by omega) (by omega);rw[if_pos hn,List.foldl_cons,List.foldl_nil] at hE;simp +decide only[↓vS,vT,simprocAttr,hlt',hlt,g1',hw2,hn,hw4,hw5,Nat.mul_one];refine qkc (x:=⟨nx,x.1-1,o⟩) hc1 hr0 hp0 hlo hI (by omega) fun s2 tr2 h2=>?_
    simp +decide only[↓vS,vT,simprocAttr,g2',hlt,Nat.mul_one];refine two _ _ _ h2 (by have:=qkb (l:=out) (s:=⟨nx,x.1-1,o⟩);omega) hE _ fun s3 tr3 out3 h3 h4 h5=>?_
    simp +decide only[↓vS,vT,simprocAttr,hw1,hw2,hw3];refine ih (i+1,x.1+1) _ _ (by simp only;omega) ?_ ⟨by simp only;omega,by simp only;omega,by simp only;omega,s3,tr3,out3,rfl,h3,h5,h4⟩
    simp[qe,qi,Tr.get_set]
   ·rw[if_neg hn,List.foldl_nil] at hE;simp +decide only[↓vS,vT,simprocAttr,hlt',hlt,g1',g2',hw2,hn,Nat.mul_one];refine two _ _ _ hI (by omega) hE _ fun s3 tr3 out3 h3 h4 h5=>?_
    simp +decide only[↓vS,vT,simprocAttr,hw1,hw2,hw3];refine ih (i+1,x.1+1) _ _ (by simp only;omega) ?_ ⟨by simp only;omega,by simp only;omega,by simp only;omega,s3,tr3,out3,rfl,h3,h5,h4⟩
    simp[qe,qi,Tr.get_set]
  ·obtain rfl:i=l.length:=by omega
   have hlt':¬((l.length:Int)<l.length):=by omega
   rw[List.drop_length,pcs] at hE
   by_cases hn:nx<4294967296
   ·have hw4:IntKind.wrap .u32 nx=nx:=qaC (by omega) (by omega);rw[if_pos hn,List.foldl_cons,List.foldl_nil] at hE;simp +decide only[↓vS,vT,simprocAttr,hlt',hn,hw4];refine qkc (x:=⟨nx,4294967295,o⟩) hc1 hr0 hp0 hlo hI (by omega) fun s2 tr2 h2=>?_
    simp +decide only[↓vS,vT,simprocAttr];obtain⟨br,q4,q0,qb,qbr,qbs,q1,q3⟩:=h2;refine⟨r0,spT g3 l o,q3,by rw[hr0];decide,?_⟩
    rw[hp0];simp only[xT];simp only[↓vS,vT,simprocAttr];rw[← hE];refine qk4 (br:=br) (by simp[spT,mkT,Tr.get_set]) ?_ ?_ rfl
    ·rw[Tr.get_set,if_neg (by decide)];exact q0
    ·rw[Tr.get_set,if_neg (by show ¬br=3;omega)];exact qb
   ·rw[if_neg hn,List.foldl_nil] at hE;simp +decide only[↓vS,vT,simprocAttr,hlt',hn];obtain⟨br,q4,q0,qb,qbr,qbs,q1,q3⟩:=hI;refine⟨r0,spT g3 l o,q3,by rw[hr0];decide,?_⟩
    rw[hp0];simp only[xT];simp only[↓vS,vT,simprocAttr];rw[← hE];refine qk4 (br:=br) (by simp[spT,mkT,Tr.get_set]) ?_ ?_ rfl
    ·rw[Tr.get_set,if_neg (by decide)];exact q0
    ·rw[Tr.get_set,if_neg (by show ¬br=3;omega)];exact qb
 ·simp[qe,qi,Tr.get_set]
 ·refine⟨Nat.zero_le _,by simp,by simp,4,_,[],rfl,⟨2,by omega,?_,?_,.inl rfl,by omega,?_,?_⟩,rfl,by simp⟩<;>simp[Tr.get_set,rSp]
def qgK(a b:Nat):IFn:=⟨[.tmp 6,.tmp 7],.seq (.r [.m 6 .N,.m 7 (.k 0)]) (.seq (.seq (.r [.n 9 0,.e 10 9,.n 11 1,.e 12 11,.b 13 .neq 10 12]) (.cond (.t 13) (.seq (.r [.m 6 .N,.m 7 (.k 2)]) (.ret)) (.skip))) (.seq (.seq (.r [.n 14 0,.e 15 14,.m 16 (.k 0)]) (.blk 0 (.loop (.seq (.r [.s 17 16 15]) (.seq (.cond (.t 17) (.skip) (.exit 0)) (.seq (.blk 1 (.seq (.r [.n 18 16,.n 8 18]) (.seq (.reg true [.n 19 8,.w 20 .gtr 19 0,.n 21 20,.y 22 0 21,.y 23 8 21,.g 24 (.iAddrS 1 (.t 22) (.t 23)) 21 true,.j 25 24 21 true,.y 26 0 21,.y 27 8 21,.g 28 (.bin .sub (.t 27) (.k 1)) 21 true,.g 29 (.iAddrS 1 (.t 26) (.t 28)) 21 true,.j 30 29 21 true,.g 31 (.bin .leq (.t 25) (.t 30)) 21 true,.p 32 21 31]) (.cond (.t 32) (.seq (.r [.m 6 .N,.m 7 (.k 2)]) (.ret)) (.skip))))) (.r [.a 33 16 1,.n 16 33]))))))) (.seq (.r [.n 34 0,.n 35 1,.n 36 2,.l 37 a [.t 34,.t 35,.t 36],.l 38 b [.t 37],.n 6 38,.m 7 (.k 0)]) (.ret))))⟩
def quj(l:List (Int×Nat)):Prop:=∀(i:Nat) a b,l[i]?=some a->l[i+1]?=some b->a.1<b.1
theorem qBl{g1 g2 g3:Nat}(hc:qd P f (qgK g1 g2)=true)(l:List (Int×Nat))(o:Nat)(h1:qf P g1 [.fz l.length (qaA l),.fz l.length (qba l),.i .i64 (o:Int)] (.fn g3 [] [.pf [.fz l.length (qaA l)] 0,.pf [.i .i64 (o:Int)] 0,.pf [.fz l.length (qba l)] 0]))
  (h2:qf P g2 [.fn g3 [] [.pf [.fz l.length (qaA l)] 0,.pf [.i .i64 (o:Int)] 0,.pf [.fz l.length (qba l)] 0]] (.fz (zx (pcs o l 0)).length (rSp (zx (pcs o l 0))))) (hl:l.length<=100000) (hr:quj l) :
  qf P f [.fz l.length (qaA l),.fz l.length (qba l),.i .i64 (o:Int)] (.tup [.fz (zx (pcs o l 0)).length (rSp (zx (pcs o l 0))),.i .i64 0]):=by
 refine qf.mk hc (by simp[qw,clo,qc1,qc2]) ?_;simp only[qgK,vI,simprocAttr];have hne:¬¬(l.length:Int)=l.length:=fun h=>h rfl
 simp +decide only[↓vS,vT,simprocAttr];refine SL.loopP (α:=Nat) (fun i=>[(0,.fz l.length (qaA l)),(1,.fz l.length (qba l)),(2,.i .i64 (o:Int)),(15,.i .i64 (l.length:Int)),(16,.i .i64 (i:Int))]) (fun i h=>i<=l.length∧h.fl=0) (fun i=>l.length-i) ?_ 0 ?_ ?_
 ·rintro i ⟨s,fl,tr⟩ ⟨hi,rfl⟩ G ih;simp only[vI,simprocAttr]
  by_cases hlt:i<l.length
  ·have hlt':(i:Int)<l.length:=by omega
   have hw1:IntKind.wrap .i64 ((i:Int)+1)=((i+1:Nat):Int):=by rw[qm (by omega) (by omega)];simp
   simp +decide only[↓vS,vT,simprocAttr,hlt'];refine zg ?_;rcases Nat.eq_zero_or_pos i with h0|h0
   ·have h0':¬(0:Int)<(i:Int):=by omega
    simp +decide only[↓vS,vT,simprocAttr,h0',hw1];exact ih (i+1) _ _ (by omega) (by simp[qe,qi,Tr.get_set]) ⟨by omega,rfl⟩
   ·have h0':(0:Int)<(i:Int):=by omega
    obtain⟨a,ha⟩:∃x,l[i-1]?=some x:=⟨_,zzE (by omega)⟩;obtain⟨b,hb⟩:∃x,l[i]?=some x:=⟨_,zzE hlt⟩;have hab:=hr (i-1) a b ha (by rw[Nat.sub_add_cancel h0];exact hb);have e1:IntKind.wrap .i64 ((i:Int)-1)=((i-1:Nat):Int):=by rw[qm (by omega) (by omega)];omega
    have g1:(qaA l)[i-1]?=some (.i .u32 a.1):=by rw[qhC,ha];rfl
    have g2:(qaA l)[i]?=some (.i .u32 b.1):=by rw[qhC,hb];rfl
    have hlt2:i-1<l.length:=by omega
    have hle:¬b.1<=a.1:=by omega
    simp +decide only[↓vS,vT,simprocAttr,h0',hw1,e1,g1,g2,hlt,hlt2,hle,Nat.mul_one];exact ih (i+1) _ _ (by omega) (by simp[qe,qi,Tr.get_set]) ⟨by omega,rfl⟩
  ·obtain rfl:i=l.length:=by omega
   have hlt':¬((l.length:Int)<l.length):=by omega
   simp +decide only[↓vS,vT,simprocAttr,hlt'];refine h1.sc ?_;simp +decide only[↓vS,vT,simprocAttr];refine h2.sc ?_;simp +decide only[↓vS,vT,simprocAttr];simp[vZ,qQ qeo]
 ·simp[qe,qi,Tr.get_set]
 ·exact⟨Nat.zero_le _,rfl⟩
def qiR:List Sp->Int->Bool
 | [],nx=>decide (nx=4294967296)
 | s::l,nx=>if s.fr≠nx∨s.to<s.fr then false else qiR l (s.to+1)
def SpR(l:List Sp):Prop:=∀s ∈ l,0<=s.fr∧s.fr<4294967296∧0<=s.to∧s.to<4294967296
def qdP:IFn:=⟨[.tmp 2],.seq (.r [.m 2 .F]) (.seq (.r [.m 3 (.c (.i .u64 0))]) (.seq (.seq (.r [.n 6 0,.e 7 6,.m 8 (.k 0)]) (.blk 0 (.loop (.seq (.r [.s 9 8 7]) (.seq (.cond (.t 9) (.skip) (.exit 0)) (.seq (.blk 1 (.seq (.r [.i 10 3 6 8,.v 11 3 10,.q 5 (.alloc [.i .u32 0,.i .u32 0,.i .i64 0]),.u (.store 3 (.t 5) (.t 11))]) (.seq (.seq (.r [.f 12 0 5,.d 13 12,.q 14 (.cvInt .u64 (.t 13)),.n 15 3,.b 16 .neq 14 15,.n 17 16,.h 18 1 5 17 false,.j 19 18 17 false,.h 20 0 5 17 false,.j 21 20 17 false,.g 22 (.bin .lss (.t 19) (.t 21)) 17 false,.o 23 17 22]) (.cond (.t 23) (.seq (.r [.m 2 .F]) (.ret)) (.skip))) (.r [.f 24 1 5,.d 25 24,.q 26 (.cvInt .u64 (.t 25)),.q 27 (.bin .add (.t 26) (.c (.i .u64 1))),.n 3 27])))) (.r [.a 28 8 1,.n 8 28]))))))) (.seq (.r [.n 29 3,.q 30 (.bin .eql (.t 29) (.c (.i .u64 4294967296))),.n 2 30]) (.ret))))⟩
theorem qoC(hc:qd P f qdP=true)(l:List Sp)(hl:l.length<=1000000)(hr:SpR l):qf P f [.fz l.length (rSp l)] (.b (qiR l 0)):=by
 refine qf.mk hc (by simp[qw,clo,qeo]) ?_;simp only[qdP,vI,simprocAttr];simp +decide only[↓vS,vT,simprocAttr];refine SL.loopP (α:=Nat×Int) (fun i=>[(3,.i .u64 i.2),(6,.fz l.length (rSp l)),(7,.i .i64 (l.length:Int)),(8,.i .i64 (i.1:Int))]) (fun i h=>i.1<=l.length∧h.fl=0∧qiR (l.drop i.1) i.2=qiR l 0) (fun i=>l.length-i.1) ?_ (0,0) ?_ ?_
 ·rintro⟨i,nx⟩ ⟨s,fl,tr⟩ ⟨hi,rfl,hE⟩ G ih;simp only at hi hE;simp only[vI,simprocAttr]
  by_cases hlt:i<l.length
  ·have hlt':(i:Int)<l.length:=by omega
   obtain⟨x,hx⟩:∃x,l[i]?=some x:=⟨_,zzE hlt⟩;have hd:l.drop i=x::l.drop (i+1):=by rw[← (zzS.1 hx).2,List.getElem_cons_drop]
   obtain⟨x0,x1,x2,x3⟩:=hr x (zzM hx);have hel:=quc hx;have h3:i*3+3<=(rSp l).length:=by rw[qeU];omega
   have hw1:IntKind.wrap .i64 ((i:Int)+1)=((i+1:Nat):Int):=by rw[qm (by omega) (by omega)];simp
   have hw2:IntKind.wrap .u64 x.fr=x.fr:=qaX (by omega) (by omega);have hw3:IntKind.wrap .u64 x.to=x.to:=qaX (by omega) (by omega);have hw4:IntKind.wrap .u64 (x.to+1)=x.to+1:=qaX (by omega) (by omega);rw[hd,qiR] at hE
   by_cases c1:x.fr=nx
   ·subst c1
    by_cases c2:x.to<x.fr
    ·rw[if_pos (.inr c2)] at hE;simp +decide only[↓vS,vT,simprocAttr,hlt',hlt,h3,hel,cSp,hw2,c2,← hE];simp[vZ]
    ·rw[if_neg (by simp[c2])] at hE;simp +decide only[↓vS,vT,simprocAttr,hlt',hlt,h3,hel,cSp,hw2,hw3,hw4,c2,hw1];exact ih (i+1,x.to+1) _ _ (by simp only;omega) (by simp[qe,qi,Tr.get_set]) ⟨by simp only;omega,rfl,hE⟩
   ·rw[if_pos (.inl c1)] at hE;simp +decide only[↓vS,vT,simprocAttr,hlt',hlt,h3,hel,cSp,hw2,c1,← hE];simp[vZ]
  ·obtain rfl:i=l.length:=by omega
   have hlt':¬((l.length:Int)<l.length):=by omega
   rw[List.drop_length,qiR] at hE;simp +decide only[↓vS,vT,simprocAttr,hlt',hE];simp[vZ]
 ·simp[qe,qi,Tr.get_set]
 ·exact⟨Nat.zero_le _,rfl,rfl⟩
def zq(l:List Sp)(at':Nat):List Nd :=
 if _h:l.length / 2=0 then [⟨true,(l.headD ⟨0,0,0⟩).way,0,0,0⟩] else
  ⟨false,0,(l.getD (l.length / 2) ⟨0,0,0⟩).fr,at'+1,at'+1+(zq (l.take (l.length / 2)) (at'+1)).length⟩::(zq (l.take (l.length / 2)) (at'+1)++zq (l.drop (l.length / 2)) (at'+1+(zq (l.take (l.length / 2)) (at'+1)).length))
termination_by l.length
decreasing_by all_goals (simp;omega)
theorem qc4(n:Nat):∀(l:List Sp) (a:Nat),l.length<=n->0<l.length->(zq l a).length+1=2*l.length:=by
 induction n with
 | zero=>intro l a h1 h2;omega
 | succ n ih =>
  intro l a h1 h2;rw[zq];split
  ·simp;omega
  ·simp only[List.length_cons,List.length_append];have e1:=ih (l.take (l.length / 2)) (a+1) (by simp;omega) (by simp;omega);have e2:=ih (l.drop (l.length / 2)) (a+1+(zq (l.take (l.length / 2)) (a+1)).length) (by simp;omega) (by simp;omega);simp at e1 e2;omega
theorem qud{l:List Sp}{k:Nat}:(rSp l).take (k*3)=rSp (l.take k):=qfX qfU l k
theorem qub{l:List Sp}{k:Nat}:(rSp l).drop (k*3)=rSp (l.drop k):=qef qfU l k
theorem qpw{l m:List Nd}:rNd l++rNd m=rNd (l++m):=by simp[rNd]
theorem qt9{l:List Nd}:qw (rNd l)=true:=qbg fun _=>rfl
def jE:IFn:=⟨[],.seq (.r [.n 6 0,.e 7 6,.w 8 .quo 7 2,.n 4 8]) (.seq (.seq (.r [.n 9 4,.w 10 .eql 9 0]) (.cond (.t 10) (.seq (.reg true [.d 11 1,.n 12 0,.q 13 (.iAddrS 3 (.t 12) (.k 0)),.f 14 2 13,.d 15 14,.q 16 (.build [.b false,.i .i64 0,.i .u32 0,.i .i64 0,.i .i64 0] [(0,1,.T),(1,1,(.t 15))]),.q 17 (.buildS 1 [.b false,.i .i64 0,.i .u32 0,.i .i64 0,.i .i64 0] [(0,5,(.t 16))]),.q 18 (.app 5 40 true (.t 11) (.t 17)),.u (.store 1 (.t 1) (.t 18))]) (.ret)) (.skip))) (.seq (.r [.d 19 1,.e 20 19,.n 5 20]) (.seq (.reg true [.d 21 1,.n 22 0,.n 23 4,.i 24 3 22 23,.f 25 0 24,.d 26 25,.n 27 5,.a 28 27 1,.q 29 (.build [.b false,.i .i64 0,.i .u32 0,.i .i64 0,.i .i64 0] [(2,1,(.t 26)),(3,1,(.t 28))]),.q 30 (.buildS 1 [.b false,.i .i64 0,.i .u32 0,.i .i64 0,.i .i64 0] [(0,5,(.t 29))]),.q 31 (.app 5 40 true (.t 21) (.t 30)),.u (.store 1 (.t 1) (.t 31))]) (.seq (.reg true [.d 32 2,.n 33 0,.n 34 4,.n 35 4,.q 36 (.slcS 3 (.t 33) none (some (.t 34)) (some (.t 35))),⟨(some 37),.callVW (.t 32) [.t 36],none⟩]) (.seq (.r [.d 38 1,.n 39 5,.d 40 1,.e 41 40,.i 42 5 38 39,.f 43 4 42,.u (.store 1 (.t 43) (.t 41))]) (.reg true [.d 44 2,.n 45 0,.n 46 4,.n 47 0,.e 48 47,.n 49 0,.e 50 49,.q 51 (.slcS 3 (.t 45) (some (.t 46)) (some (.t 48)) (some (.t 50))),⟨(some 52),.callVW (.t 44) [.t 51],none⟩]))))))⟩
theorem qpL{h:Hp}{esz n c:Nat}{q2 q3:IntKind}{cs:List AV}{k:AV->Prop}(h1:0<c)(h2:c<=n)(h3:c*esz<=cs.length):slK esz none (some (.i q2 (c:Int))) (some (.i q3 (c:Int))) (.fz n cs) h k↔evA (.fz c (cs.take (c*esz))) k:=by
 have hne:Nat.beq c 0=false:=by
  cases hb:Nat.beq c 0 with
  | false=>rfl
  | true=>have:=Nat.eq_of_beq_eq_true hb;omega
 simp only[slK,qiV,qiT];show (ifK (c<=n) (ifK (c<=c) _))↔_;simp only[ifK,h2,Nat.le_refl,true_and,Option.isSome_some,hne,Bool.true_and,Bool.false_eq_true,if_false];show (0*esz<=cs.length∧(c-0)*esz<=(cs.drop (0*esz)).length∧_)↔_;simp only[Nat.zero_mul,Nat.zero_le,Nat.sub_zero,List.drop_zero,h3,true_and];exact Iff.rfl
theorem qw6{l:List Nd}{j:Nat}{x:Nd}(m:Nat)(h:l[j]?=some x):(rNd l).take (j*5+4) ++ .i .i64 (m:Int)::(rNd l).drop (j*5+4+1)=rNd (l.set j ⟨x.leaf,x.way,x.at',x.less,m⟩) :=
 qfq (f:=cNd) (x':=⟨x.leaf,x.way,x.at',x.less,m⟩) (v:=.i .i64 (m:Int)) (i:=4) qiW h (by omega) rfl
noncomputable def qhQ(tr:Tr Blk)(s bt b1:Nat)(T:List Nd)(x:Nd):Tr Blk:=(((tr.set s (.cells 0 true false (cNd x))).set bt .dead).set (s+1) (.cells 5 true true (rNd T++cNd x))).set b1 (.cells 0 true false [.own (s+1) (T.length+1)])
theorem qzJ{g:Nat}(hc:qd P g jE=true):∀(n:Nat) (l:List Sp),l.length<=n->0<l.length->∀(s:Nat) (tr:Tr Blk) (b1 b2 bt:Nat) (T:List Nd),tr.get b1=some (.cells 0 true false [.own bt T.length])->tr.get bt=some (.cells 5 true true (rNd T))->
  tr.get b2=some (.cells 0 true false [.fn g [] [.ptr b1 0,.ptr b2 0]])->b1≠bt->b2≠bt->b1≠b2->b1<s->b2<s->bt<s->T.length+2*l.length<=1000000->
  ∃s' tr' bt',s<=s'∧(∀b,b<s->b≠b1->b≠bt->tr'.get b=tr.get b)∧tr'.get b1=some (.cells 0 true false [.own bt' (T++zq l T.length).length])∧tr'.get bt'=some (.cells 5 true true (rNd (T++zq l T.length)))∧(bt'=bt∨s<=bt')∧bt'<s' ∧
   ∀k:AV->Hp->Prop,k (.tup []) ⟨s',0,tr'⟩->SC P g [.fz l.length (rSp l),.ptr b1 0,.ptr b2 0] ⟨s,0,tr⟩ k:=by
 intro n
 induction n with
 | zero=>intro l h1 h2;omega
 | succ n ih =>
  intro l hn h0 s tr b1 b2 bt T g1 gt g2 n1 n2 n3 l1 l2 l3 hm
  have e2:((l.length:Nat):Int).tdiv 2=((l.length / 2:Nat):Int):=by
   rw[Int.tdiv_eq_ediv_of_nonneg (by omega)];omega
  have ew:IntKind.wrap .i64 ((l.length / 2:Nat):Int)=((l.length / 2:Nat):Int):=qm (by omega) (by omega);have h20:(2:Int)≠0:=by decide
  have r1:T.length+1<=qh:=by simp only[qh];omega
  have r2:(T.length+1)*40<=qh:=by simp only[qh];omega
  have m1:¬b1=s:=by omega
  have m2:¬b2=s:=by omega
  have m3:¬bt=s:=by omega
  have m4:¬s=bt:=by omega
  have m5:¬b1=bt:=n1;have m6:¬b1=s+1:=by omega
  have hTl:(rNd T).length=T.length*5:=qi8
  by_cases hk:l.length / 2=0
  ·have hl1:l.length=1:=by omega
   obtain⟨x,rfl⟩:∃x,l=[x]:=List.length_eq_one_iff.1 hl1;have hT:zq [x] T.length=[⟨true,x.way,0,0,0⟩]:=by rw[zq];simp
   rw[hT];refine⟨s+1+1,qhQ tr s bt b1 T ⟨true,x.way,0,0,0⟩,s+1,by omega,?_,?_,?_,.inr (by omega),by omega,fun k hk=>?_⟩
   ·intro b q1 q2 q3;simp only[qhQ,Tr.get_set];repeat rw[if_neg (by omega)]
   ·rw[qhQ,Tr.get_set,if_pos rfl];simp
   ·rw[qhQ,Tr.get_set,if_neg (by omega),Tr.get_set,if_pos rfl,← qpw];rfl
   ·refine SC.mk hc (ql ?_);simp only[jE,vI,simprocAttr];simp +decide only[↓vS,vT,simprocAttr,↓zn h20,e2,ew];refine zg ?_;simp +decide only[↓vS,vT,simprocAttr,rSp,cSp,List.flatMap_cons,List.flatMap_nil,g1,gt,m1,m2,m3,m4,m5,m6,r1,r2,hTl];exact hk
  ·have hk0:¬(((l.length / 2:Nat)):Int)=0:=by omega
   obtain⟨x,hx⟩:∃x,l[l.length / 2]?=some x:=⟨_,zzE (by omega)⟩;have hxD:l.getD (l.length / 2) ⟨0,0,0⟩=x:=by rw[List.getD_eq_getElem?_getD,hx];rfl
   have gx:=qpB hx (i:=0) (by omega);have gx':(rSp l)[l.length / 2*3]?=some (.i .u32 x.fr):=gx;have hlk:l.length / 2<l.length:=by omega
   have hw1:IntKind.wrap .i64 ((T.length:Int)+1)=((T.length+1:Nat):Int):=by rw[qm (by omega) (by omega)];simp
   obtain⟨nd,hnd⟩:∃nd:Nd,nd=⟨false,0,x.fr,T.length+1,0⟩:=⟨_,rfl⟩;have a1:(qhQ tr s bt b1 T nd).get b1=some (.cells 0 true false [.own (s+1) (T++[nd]).length]):=by rw[qhQ,Tr.get_set,if_pos rfl];simp
   have at1:(qhQ tr s bt b1 T nd).get (s+1)=some (.cells 5 true true (rNd (T++[nd]))):=by rw[qhQ,Tr.get_set,if_neg (by omega),Tr.get_set,if_pos rfl,← qpw];simp[rNd]
   have ae:∀b,b<s->b≠b1->b≠bt->(qhQ tr s bt b1 T nd).get b=tr.get b:=fun b q1 q2 q3=>by
    simp only[qhQ,Tr.get_set];repeat rw[if_neg (by omega)]
   obtain⟨s2,tr2,bt2,q1,q2,q3,q4,q5,q6,q7⟩:=ih (l.take (l.length / 2)) (by simp;omega) (by simp;omega) (s+1+1) (qhQ tr s bt b1 T nd) b1 b2 (s+1) (T++[nd]) a1 at1 ((ae b2 l2 (Ne.symm n3) n2).trans g2) (by omega) (by omega) n3 (by omega) (by omega) (by omega) (by simp;omega);have hlt:(l.take (l.length / 2)).length=l.length / 2:=by simp;omega
   rw[show (T++[nd]).length=T.length+1 by simp] at q3 q4
   have htl:=qc4 l.length (l.take (l.length / 2)) (T.length+1) (by simp;omega) (by simp;omega);rw[hlt] at q7 htl;obtain⟨L,hL⟩:∃L,L=zq (l.take (l.length / 2)) (T.length+1):=⟨_,rfl⟩;rw[← hL] at q3 q4 htl;have hget:(T++[nd]++L)[T.length]?=some nd:=by simp
   have hT3:(T++[nd]++L).set T.length ⟨nd.leaf,nd.way,nd.at',nd.less,(T++[nd]++L).length⟩=T++[⟨false,0,x.fr,T.length+1,T.length+1+L.length⟩]++L:=by
    rw[hnd];simp[List.set_append];omega
   have hset:=qw6 (T++[nd]++L).length hget;rw[hT3] at hset;have hl3:T.length*5+4+1<=(rNd (T++[nd]++L)).length:=by rw[qi8];simp;omega
   have hn5:b1≠bt2:=by omega
   have hn6:b2≠bt2:=by omega
   obtain⟨T3,hT3e⟩:∃T3:List Nd,T3=T++[⟨false,0,x.fr,T.length+1,T.length+1+L.length⟩]++L:=⟨_,rfl⟩;have hT3l:T3.length=(T++[nd]++L).length:=by rw[hT3e];simp
   have b2g:=(q2 b2 (by omega) (Ne.symm n3) (by omega)).trans ((ae b2 l2 (Ne.symm n3) n2).trans g2)
   obtain⟨s4,tr4,bt4,p1,p2,p3,p4,p5,p6,p7⟩:=ih (l.drop (l.length / 2)) (by simp;omega) (by simp;omega) s2 (tr2.set bt2 (.cells 5 true true (rNd T3))) b1 b2 bt2 T3 (by rw[Tr.get_set,if_neg hn5,q3,hT3l]) (by rw[Tr.get_set,if_pos rfl])
    (by rw[Tr.get_set,if_neg hn6];exact b2g) hn5 hn6 n3 (by omega) (by omega) (by omega) (by rw[hT3l];simp;omega)
   have hld:(l.drop (l.length / 2)).length=l.length-l.length / 2:=by simp
   rw[hld] at p7
   have hfin:T++zq l T.length=T3++zq (l.drop (l.length / 2)) T3.length:=by
    have e3:T3.length=T.length+1+L.length:=by rw[hT3l];simp;omega
    conv=>lhs;rw[zq,dif_neg hk]
    rw[hxD,← hL,e3,hT3e];simp
   refine⟨s4,tr4,bt4,by omega,?_,?_,?_,by omega,p6,fun k hkk=>?_⟩
   ·intro b e1 e2 e3;rw[p2 b (by omega) e2 (by omega),Tr.get_set,if_neg (by omega),q2 b (by omega) e2 (by omega)];exact ae b e1 e2 e3
   ·rw[hfin];exact p3
   ·rw[hfin];exact p4
   ·have v1:(qhQ tr s bt b1 T nd).get b2=some (.cells 0 true false [.fn g [] [.ptr b1 0,.ptr b2 0]]):=(ae b2 l2 (Ne.symm n3) n2).trans g2;have k1:0<l.length / 2:=by omega
    have k2:l.length / 2<=l.length:=by omega
    have k3:l.length / 2*3<=(rSp l).length:=by rw[qeU];omega
    have k4:l.length / 2<l.length:=hlk;have k5:l.length<=l.length:=Nat.le_refl _;have k6:l.length*3<=(rSp l).length:=by rw[qeU];omega
    have hsl1:(rSp l).take (l.length / 2*3)=rSp (l.take (l.length / 2)):=qud
    have hsl2:((rSp l).drop (l.length / 2*3)).take ((l.length-l.length / 2)*3)=rSp (l.drop (l.length / 2)):=by
     rw[qub,List.take_of_length_le (by rw[qeU,hld];omega)]
    refine SC.mk hc (ql ?_);simp only[jE,vI,simprocAttr];simp +decide only[↓vS,vT,simprocAttr,↓zn h20,e2,ew,hk0,g1];refine zg ?_;simp +decide only[↓vS,vT,simprocAttr,g1,gt,gx',hlk,hw1,m1,m2,m3,m4,m5,m6,r1,r2,hTl];refine zg ?_;rw[hnd] at q7;simp only[qhQ,cNd] at q7;have m7:¬b2=b1:=Ne.symm n3;have m8:¬b2=s+1:=by omega
    have m9:¬b2=bt:=n2;simp +decide only[↓vS,vT,simprocAttr,m7,m8,m9,m2,g2,↓qpL k1 k2 k3,hsl1];refine⟨.tup [],_,q7,?_⟩;obtain⟨A,hA⟩:∃A,A=T++[nd]++L:=⟨_,rfl⟩;have k7:T.length<A.length:=by rw[hA];simp
    rw[← hA] at q3 q4 hl3 hset;rw[← hT3e] at hset;have k8:¬b1=bt2:=hn5;have k9:¬b2=bt2:=hn6;simp +decide only[↓vS,vT,simprocAttr,q3,q4,k7,k8,hl3,hset];refine zg ?_;simp +decide only[↓vS,vT,simprocAttr,k9,b2g,↓qBh k4 k5 k6,hsl2];exact⟨.tup [],_,p7,hkk⟩
def qeh(a b:Nat):ICode:=.seq (.r [.d 10 5,.n 11 0,⟨(some 12),.callV (.t 10) [.t 11],none⟩]) (.seq (.r [.d 13 4,.n 2 13,.m 3 (.k 0)]) (.ret))
def qdQ(a b:Nat):IFn:=⟨[.tmp 2,.tmp 3],.seq (.r [.m 2 .N,.m 3 (.k 0)]) (.seq (.seq (.r [.n 6 0,.l 7 a [.t 6],.q 8 (.un .not (.t 7))]) (.cond (.t 8) (.seq (.r [.m 2 .N,.m 3 (.k 240)]) (.ret)) (.skip))) (.seq (.r [.q 4 (.alloc [.nils])]) (.seq (.r [.q 5 (.alloc [.nilf])]) (.seq (.r [.q 9 (.mkF b [] [.t 4,.t 5]),.u (.store 1 (.t 5) (.t 9))]) (.cut (qeh a b))))))⟩
def qoG(l:List Sp):AV:=if qiR l 0=true then .tup [.fz (zq l 0).length (rNd (zq l 0)),.i .i64 0] else .tup [.fz 0 [],.i .i64 240]
theorem qry{g1 g2:Nat}(hc:qd P f (qdQ g1 g2)=true)(h2:qd P g2 jE=true)(l:List Sp)(h1:qf P g1 [.fz l.length (rSp l)] (.b (qiR l 0)))(hl:l.length<=400000)(h0:0<l.length):qf P f [.fz l.length (rSp l)] (qoG l):=by
 refine qf.mk hc (by simp[qw,clo,qeo]) ?_;simp only[qdQ,vI,simprocAttr];simp +decide only[↓vS,vT,simprocAttr];refine h1.sc ?_;unfold qoG;cases hw:qiR l 0 with
 | false =>
  simp +decide only[↓vS,vT,simprocAttr];simp[vZ]
 | true =>
  simp +decide only[↓vS,vT,simprocAttr];refine S.weak (Wk.mk [(0,.fz l.length (rSp l)),(4,.ptr 0 0),(5,.ptr 1 0)] [.cells 0 true false [.own 2 0],.cells 0 true false [.fn g2 [] [.ptr 0 0,.ptr 1 0]],.cells 5 true true []] [0,1,99] ?_ ?_ ?_ rfl) (ql ?_)
  ·simp[vw,qeo]
  ·simp[vw]
  ·simp
  simp only[qeh,vI,simprocAttr];simp +decide only[↓vS,vT,simprocAttr]
  obtain⟨s',tr',bt',q1,q2,q3,q4,q5,q6,q7⟩:=qzJ h2 l.length l (Nat.le_refl _) h0 3 (((Tr.leaf.set 0 (.cells 0 true false [.own 2 0])).set 1 (.cells 0 true false [.fn g2 [] [.ptr 0 0,.ptr 1 0]])).set 2 (.cells 5 true true [])) 0 1 2 []
   (by simp[Tr.get_set]) (by simp[Tr.get_set,rNd]) (by simp[Tr.get_set]) (by decide) (by decide) (by decide) (by decide) (by decide) (by decide) (by simp;omega)
  refine q7 _ ?_;simp +decide only[↓vS,vT,simprocAttr,q3];simp[vZ,vP,q4,qQ qt9];intro h;rw[h];rfl
def qcO:List GTest->Nat
 | []=>1
 | t::ts=>qbU t+if t.mask=0 then 0 else qcO ts
theorem qkg:∀{ts:List GTest} {a:Int} {p:Nat},(qch ts a p).length=qcO ts
 | [],_,_=>rfl
 | t::ts,a,p=>by
  unfold qch qcO;rw[List.length_append,qc3];split
  ·rfl
  ·rw[qkg]
def ql2(r:GRule):Nat:=qcO r.tests
theorem qj7{r:GRule}{p:Nat}:(qrm r p).length=ql2 r:=qkg
theorem qif:∀{ts:List GTest},qcO ts<=ts.length*7+1
 | []=>by simp[qcO]
 | t::ts=>by
  unfold qcO;have:=qnK (t:=t);have:=qif (ts:=ts)
  simp only[List.length_cons];split<;>omega
def zJ:List GRule->Nat->List Sy
 | [],_=>[]
 | r::rs,p=>qrm r p++zJ rs (p+ql2 r)
def qY(rs:List GRule):Nat:=(rs.map ql2).sum
theorem qbb:∀{rs:List GRule} {p:Nat},(zJ rs p).length=qY rs
 | [],_=>rfl
 | r::rs,p=>by unfold zJ;rw[List.length_append,qj7,qbb];simp[qY]
theorem qiF:∀{rs:List GRule} {r:GRule} {p:Nat},zJ (rs++[r]) p=zJ rs p++qrm r (p+qY rs)
 | [],r,p=>by simp[zJ,qY]
 | x::rs,r,p=>by rw[List.cons_append,zJ,zJ,qiF,List.append_assoc];simp[qY];congr 1;omega
theorem qia:∀{rs:List GRule},(∀r ∈ rs,r.tests.length<=32)->qY rs<=rs.length*225
 | [],_=>by simp[qY]
 | r::rs,h=>by
  have:=qif (ts:=r.tests);have:=h r (by simp);have:=qia (rs:=rs) fun x hx=>h x (by simp[hx])
  simp[qY,ql2] at this ⊢;omega
theorem qiG{rs:List GRule}{i:Nat}:qY (rs.take i)<=qY rs:=by
 have h:qY rs=qY (rs.take i)+qY (rs.drop i):=by
  conv=>lhs;rw[← List.take_append_drop i rs]
  simp only[qY,List.map_append,List.sum_append]
 omega
def qG(rs:List GRule):List (Int×Nat):=rs.mapIdx fun i r=>(r.nr,i+1)
theorem qay{rs:List GRule}:(qG rs).length=rs.length:=by simp[qG]
theorem qc0{rs:List GRule}{j:Nat}:(qG rs)[j]?=(rs[j]?).map fun r=>(r.nr,j+1):=by simp[qG]
def qL(x:GFil):List Nd:=zq (zx (pcs 0 (qG x.rules) 0)) 0
def jaN:List Nd->Nat
 | n::_=>if n.leaf=true then 1 else 0
 | []=>0
theorem qlJ{FW:Nat->Nat}{T:List Nd}:(jaE FW T).length=jaN T:=by
 cases T with
 | nil=>rfl
 | cons n T=>simp only[jaE,jaN];split<;>rfl
theorem jr{FW:Nat->Nat}{T:List Nd}{p:Nat}:(z7 FW T p).length=jaN T+zW T:=by
 unfold z7;rw[List.length_append,qlJ,qoL]
def jz(x:GFil):Nat:=jD x.arch+(jaN (qL x)+zW (qL x))
def xJ(x:GFil)(j:Nat):Nat:=if j=0 then jz x else jz x+1+qY (x.rules.take (j-1))
def xG(x:GFil):Nat:=jz x+1+qY x.rules
def qW(x:GFil):List Sy:=qa9 x.arch 0 (xG x)++z7 (xJ x) (qL x) (jD x.arch)++[⟨6,x.dflt,0,0⟩]++zJ x.rules (jz x+1)++[⟨6,2147418112,0,0⟩]
theorem qkL{x:GFil}:(qW x).length=xG x+1:=by
 unfold qW xG jz;simp only[List.length_append,jI,jr,qbb,List.length_singleton]
structure FilR (x:GFil):Prop where
 nr:∀r ∈ x.rules,0<=r.nr∧r.nr<4294967296
 ts:∀r ∈ x.rules,∀t ∈ r.tests,0<=t.mask∧t.mask<18446744073709551616∧0<=t.val∧t.val<18446744073709551616
theorem Stp.kd'{L L':List Nat}{κ κ1:Nat->Kd}{s s1:Nat}{tr t1 t2:Tr Blk}(a:Stp L κ s tr κ1 s1 t1){b F':Nat}(hb:κ b = .no)(hf:∀c,κ1 c = .fr->t2.get c=t1.get c)(hx:∀c,κ1 c = .box->t2.get c=t1.get c)(hL:∀c ∈ L,c=b∨c ∈ L'):Stp L' κ s tr (kdS κ1 b (.lab F' true)) s1 t2:=by
 have ne:∀{c},κ c≠.no->c≠b:=fun h e=>h (e ▸ hb)
 refine⟨a.le,fun c hc=>?_,fun c hc=>?_,fun c F p hc=>?_,fun c F hc=>?_⟩
 ·rw[qg (ne (by rw[hc];simp))];exact⟨(a.fr c hc).1,(hf c (a.fr c hc).1).trans (a.fr c hc).2⟩
 ·rw[qg (ne (by rw[hc];simp))];exact⟨(a.box c hc).1,(hx c (a.box c hc).1).trans (a.box c hc).2⟩
 ·rw[qg (ne (by rw[hc];simp))];exact a.lab c F p hc
 ·by_cases e:c=b
  ·rw[e,qE] at hc;cases hc
  ·rw[qg e] at hc;rcases a.nw c F hc with h|h
   ·exact .inl h
   ·exact .inr ((hL c h).resolve_left e)
def qgM(n b:Nat):AV:=if n=0 then .sl b 0 1 1 false else .own b (n+1)
theorem qpa{n b:Nat}:qgM n b = .sl b 0 (n+1) (n+1) false∨qgM n b = .own b (n+1):=by
 unfold qgM;split
 ·rename_i h;subst h;exact .inl rfl
 ·exact .inr rfl
section
variable {g w s gl gp gj gh gr g1 g2 g3 g4 g5:Nat} {κ:Nat->Kd} {tr:Tr Blk} {RV:List Sy} {N:List Nat} {k:AV->Hp->Prop}
def qax(a b c d e g h i j:Nat):ICode:=.seq (.seq (.r [.f 88 1 1,.d 89 88,.e 90 89,.m 91 (.k 0)]) (.blk 2 (.loop (.seq (.r [.s 92 91 90]) (.seq (.cond (.t 92) (.skip) (.exit 2)) (.seq (.blk 3 (.seq (.r [.n 93 91,.i 94 3 89 91,.v 95 3 94,.q 16 (.alloc [.i .u32 0,.nils,.i .u32 0]),.n 15 93,.u (.store 3 (.t 16) (.t 95))]) (.seq (.r [.n 96 4,.n 97 8,.n 98 15,.a 99 98 1,.i 100 1 97 99,.d 101 100,.l 102 g [.t 96,.t 101]]) (.r [.n 103 4,.v 104 3 16,.l 105 i [.t 103,.t 104]])))) (.r [.a 106 91 1,.n 91 106]))))))) (.seq (.r [.n 107 4,.n 108 5,.l 109 g [.t 107,.t 108]]) (.seq (.r [.n 110 4,.l 111 h [.t 110,(.c (.i .u32 2147418112))]]) (.seq (.r [.n 112 4,.l 113 j [.t 112],.n 2 113,.m 3 (.k 0)]) (.ret))))
def qcJ(a b c d e g h i j:Nat):ICode:=.seq (.r [.n 65 6,.n 66 7,.l 67 c [.t 65,.t 66,.k 0],.n 64 67,.x 68 64 0,.x 69 64 1,.n 11 68,.n 12 69]) (.seq (.r [.n 71 11,.l 72 d [.t 71],.n 70 72,.x 73 70 0,.x 74 70 1,.n 13 73,.n 14 74]) (.seq (.r [.n 75 4,.n 76 13,.n 77 8,.l 78 e [.t 75,.t 76,.t 77]]) (.seq (.r [.n 79 4,.n 80 8,.q 81 (.iAddrS 1 (.t 80) (.k 0)),.d 82 81,.l 83 g [.t 79,.t 82]]) (.seq (.r [.n 84 4,.f 85 2 1,.d 86 85,.l 87 h [.t 84,.t 86]]) (.cut (qax a b c d e g h i j))))))
def qcI(a b c d e g h i j:Nat):ICode:=.seq (.r [.n 24 4,.f 25 0 1,.d 26 25,.n 27 5,.l 28 b [.t 24,.t 26,.t 27]]) (.seq (.reg true [.f 29 1 1,.d 30 29,.e 31 30,.q 32 (.mkS 1 4 [.i .u32 0] (.t 31) (.t 31)),.f 33 1 1,.d 34 33,.e 35 34,.q 36 (.mkS 1 8 [.i .i64 0] (.t 35) (.t 35)),.n 6 32,.n 7 36]) (.seq (.r [.q 37 (.build [.i .i64 0] []),.q 38 (.box (.t 37)),.q 39 (.buildS 1 [.nilp] [(0,1,(.t 38))]),.n 8 39]) (.seq (.seq (.r [.f 40 1 1,.d 41 40,.e 42 41,.m 43 (.k 0)]) (.blk 0 (.loop (.seq (.r [.s 44 43 42]) (.seq (.cond (.t 44) (.skip) (.exit 0)) (.seq (.blk 1 (.seq (.r [.n 45 43,.i 46 3 41 43,.v 47 3 46,.q 10 (.alloc [.i .u32 0,.nils,.i .u32 0]),.n 9 45,.u (.store 3 (.t 10) (.t 47))]) (.seq (.r [.n 48 6,.n 49 9,.n 50 7,.n 51 9,.f 52 0 10,.d 53 52,.n 54 9,.a 55 54 1,.i 56 1 48 49,.u (.store 1 (.t 56) (.t 53)),.i 57 1 50 51,.u (.store 1 (.t 57) (.t 55))]) (.r [.n 58 8,.q 59 (.build [.i .i64 0] []),.q 60 (.box (.t 59)),.q 61 (.buildS 1 [.nilp] [(0,1,(.t 60))]),.q 62 (.app 1 8 true (.t 58) (.t 61)),.n 8 62])))) (.r [.a 63 43 1,.n 43 63]))))))) (.cut (qcJ a b c d e g h i j)))))
def qeH(a b c d e g h i j:Nat):IFn:=⟨[.tmp 2,.tmp 3],.seq (.r [.q 1 (.box (.t 0)),.m 2 .N,.m 3 (.k 0)]) (.seq (.seq (.r [.v 17 3 1,.l 18 a [.t 17],.q 19 (.un .not (.t 18))]) (.cond (.t 19) (.seq (.r [.m 2 .N,.m 3 (.k 210)]) (.ret)) (.skip))) (.seq (.r [.q 20 (.build [.nils,.nils] []),.q 21 (.box (.t 20)),.q 22 (.build [.i .i64 0] []),.q 23 (.box (.t 22)),.n 4 21,.n 5 23]) (.cut (qcI a b c d e g h i j))))⟩
structure EFn (P:Program) (g gl gp gj gh gr go gb gR gd gt gH gA gB gC gD:Nat):Prop where
 W:WFn P g gl gp gj gh gr
 own:qd P go (qa2 gD gl gj gh)=true
 br:qd P gb (qac gj gh)=true
 rule:qd P gR (qaK gt gr)=true
 test:qd P gt (jd gA gB gC gH gr gh)=true
 half:qd P gH (xg gl gp gj gh)=true
 done:qd P gd qaJ=true
 dj:qd P g xH=true
 lo:qqe P gA 0
 hi:qqe P gB 4
 hal:qvg P gC
 tok:qC0 P gD
theorem qlj{t:GTest}(h:zS t=true):0<=t.arg∧t.arg<6:=by
 simp only[zS,Bool.and_eq_true,decide_eq_true_eq] at h;exact h.1.1
theorem qhT:∀{rs:List GRule} {o:Option GRule},upR o rs=true->∀r ∈ rs,qak r=true
 | [],_,_,_,hr=>by cases hr
 | x::rs,o,h,r,hr=>by
  simp only[upR,Bool.and_eq_true] at h;rcases List.mem_cons.1 hr with rfl|hr
  ·exact h.1.1
  ·exact qhT h.2 r hr
variable {go gb gR gd gt gH gA gB gC gD gM gS gT:Nat}
theorem qsu{n0 sb bf bN bL e:Nat}{wf a:Bool}{κb:Nat->Kd}{tb:Tr Blk}{L:List Nat}(E:EFn P g gl gp gj gh gr go gb gR gd gt gH gA gB gC gD)(x:GFil)(hx:FilR x)(hK:∀r ∈ x.rules,qak r=true)(hn:x.rules.length<=400){pre:List Sy}(hpre:pre.length=jz x+1)(hd1:jz x<=10000)
  (h:WI g w κ s tr pre []) (st:Stp L κb sb tb κ s tr) (xs:List Nat) (hxl:xs.length=x.rules.length+1) (hxs:∀(j:Nat) c,xs[j]?=some c->∃p,κ c = .lab (xJ x j) p) (hL0:κ bL = .fr) (gL:tr.get bL=some (.cells e wf a (rPt xs)))
  (hf0:κ bf = .fr) (gf:tr.get bf=some (.cells 0 true false (qz x))) {pN:Bool} (hN:κ bN = .lab (xG x) pN) (hbN:κb bN = .no) (hL:∀c ∈ L,c=bN∨∃j:Nat,1<=j∧xs[j]?=some c) (hnew:∀(j:Nat) c,xs[j]?=some c->κb c = .no) (hno:∀b F,κb b≠.lab F false)
  {t:Tr AV} (ht:Has t [(1,.ptr bf 0),(4,.ptr w 0),(5,.ptr bN 0),(8,qgM x.rules.length bL)]) :
  S P n0 (qax gM go gS gT gb gh gr gR gd) (qb9 [.tmp 2,.tmp 3] fun v' h'=>Frz h' v' (.tup [.fz (pre++zJ x.rules (jz x+1)++([⟨6,2147418112,0,0⟩]:List Sy)).length (rSy (pre++zJ x.rules (jz x+1)++[⟨6,2147418112,0,0⟩])),.i .i64 0])) t ⟨s,0,tr⟩:=by
 refine S.has _ ht (ql ?_)
 have hts:∀r ∈ x.rules,r.tests.length<=32:=fun r hr=>by
  have:=hK r hr;simp only[qak,Bool.and_eq_true,decide_eq_true_eq] at this;exact this.1.1
 have hrN:=qia hts;simp only[qax,vI,simprocAttr];simp +decide only[↓vS,vT,simprocAttr,gf,qz]
 refine SL.loopP (α:=Nat) (fun i=>[(1,.ptr bf 0),(4,.ptr w 0),(5,.ptr bN 0),(8,qgM x.rules.length bL),(89,.fz x.rules.length (rR x.rules)),(90,.i .i64 (x.rules.length:Int)),(91,.i .i64 (i:Int))])
  (fun i h=>i<=x.rules.length∧∃L' κ' s' tr',h=⟨s',0,tr'⟩∧Stp L' κb sb tb κ' s' tr'∧WI g w κ' s' tr' (pre++zJ (x.rules.take i) (jz x+1)) []∧(∀(j:Nat) c,xs[j]?=some c->∃p,κ' c = .lab (xJ x j) p)∧κ' bL = .fr∧tr'.get bL=some (.cells e wf a (rPt xs)) ∧
   (∃p,κ' bN = .lab (xG x) p)∧(∀c ∈ L',c=bN∨∃j:Nat,i+1<=j∧xs[j]?=some c)) (fun i=>x.rules.length-i) ?_ 0 ?_ ?_
 ·rintro i h1 ⟨hi,L',κ',s',tr',rfl,st',w',hxs',hL0',gL',⟨pN',hN'⟩,hL'⟩ G ih;simp only[vI,simprocAttr]
  by_cases hlt:i<x.rules.length
  ·have hlt':(i:Int)<x.rules.length:=by omega
   obtain⟨r,hr⟩:∃r,x.rules[i]?=some r:=⟨_,zzE hlt⟩;obtain⟨c,hc⟩:∃c,xs[i+1]?=some c:=⟨_,zzE (by omega)⟩;have hrm:=zzM hr;have hel:((rR x.rules).drop (i*3)).take 3=qB r:=zL qbf hr;have h3:i*3+3<=(rR x.rules).length:=by rw[show (rR x.rules).length=x.rules.length*3 from zt qbf _];omega
   have hw1:IntKind.wrap .i64 ((i:Int)+1)=((i+1:Nat):Int):=by rw[qm (by omega) (by omega)];simp
   obtain⟨wv,sv⟩:=w'.var (.cells 0 true false [.i .u32 0,.nils,.i .u32 0]) (.cells 0 true false (qB r));have hbs:bL<s':=w'.dom bL (by rw[hL0'];simp);have hbs':¬bL=s':=by omega
   have hge:(rPt xs)[i+1]?=some (.ptr c 0):=by rw[qeR,hc];rfl
   have hlt1:i+1<x.rules.length+1:=by omega
   have hT:qY (x.rules.take i)<=qY x.rules:=qiG
   have hlen:(pre++zJ (x.rules.take i) (jz x+1)).length=xJ x (i+1):=by
    rw[List.length_append,qbb,hpre];simp[xJ]
   obtain⟨pc,hpc⟩:=hxs' (i+1) c hc;rw[← hlen] at hpc;have hpc:=sv.lab _ _ _ hpc
   have hcN:c≠bN:=fun e=>by
    rw[e] at hpc;have:=(Kd.lab.inj (hpc.symm.trans (sv.lab _ _ _ hN'))).1;rw[hlen] at this;simp[xJ,xG] at this
    have h2:qY x.rules=qY (x.rules.take i)+qY (x.rules.drop i):=by
     conv=>lhs;rw[← List.take_append_drop i x.rules]
     simp only[qY,List.map_append,List.sum_append]
    have h3:x.rules.drop i=r::x.rules.drop (i+1):=by rw[← (zzS.1 hr).2,List.getElem_cons_drop]
    have h4:0<ql2 r:=by unfold ql2;cases r.tests with
     | nil=>simp[qcO]
     | cons t ts=>simp[qcO,qbU];omega
    rw[h3] at h2;simp[qY] at h2 this;omega
   -- behind the label
   have go:∀(k:AV->Hp->Prop),(∀κ3 s3 t3 L3,Stp L3 κb sb tb κ3 s3 t3->WI g w κ3 s3 t3 (pre++zJ (x.rules.take (i+1)) (jz x+1)) []->(∀(j:Nat) c,xs[j]?=some c->∃p,κ3 c = .lab (xJ x j) p)->κ3 bL = .fr->t3.get bL=some (.cells e wf a (rPt xs))->(∃p,κ3 bN = .lab (xG x) p)->
     (∀c ∈ L3,c=bN∨∃j:Nat,i+1+1<=j∧xs[j]?=some c)->k (.tup []) ⟨s3,0,t3⟩)->∀k2:AV->Hp->Prop,(∀t4,t4.get s'=some (.cells 0 true false (qB r))->(∀k',(∀v h,k v h->k' v h)->SC P gR [.ptr w 0,.agg (qB r)] ⟨s'+1,0,t4⟩ k')->k2 (.tup []) ⟨s'+1,0,t4⟩)->
     SC P gh [.ptr w 0,.ptr c 0] ⟨s'+1,0,(tr'.set s' (.cells 0 true false [.i .u32 0,.nils,.i .u32 0])).set s' (.cells 0 true false (qB r))⟩ k2:=by
    intro k hk k2 hk2;refine qdi E.W.here wv hpc fun t4 q1 q2 w4=>hk2 t4 ?_ fun k' hkk=>?_
    ·rw[q1 s' qE,Tr.get_set,if_pos rfl]
    have hkl4:∀(j:Nat) c',xs[j]?=some c'->∃p,kdS (kdS κ' s' .fr) c (.lab (pre++zJ (x.rules.take i) (jz x+1)).length true) c' = .lab (xJ x j) p:=fun j c' hj=>by
     obtain⟨p,hp⟩:=hxs' j c' hj;have hp:=sv.lab _ _ _ hp
     by_cases e:c'=c
     ·rw[e] at hp;have hF:=(Kd.lab.inj (hpc.symm.trans hp)).1;exact⟨true,by rw[e,qE,hF]⟩
     ·exact⟨p,by rw[qg e];exact hp⟩
    have st4:Stp (L'.filter fun y=>decide (y≠c)) κb sb tb (kdS (kdS κ' s' .fr) c (.lab (pre++zJ (x.rules.take i) (jz x+1)).length true)) (s'+1) t4 :=
     (st'.trans sv).kd' (hnew _ _ hc) q1 q2 fun y hy=>by
      by_cases e:y=c
      ·exact .inl e
      ·exact .inr (by simp at hy;simp[hy,e])
    have hbLc:bL≠c:=fun e=>by rw[← e,(sv.fr bL hL0').1] at hpc;cases hpc
    refine qA8 E.rule E.W E.test E.lo E.hi E.hal E.half w4 r (fun t ht=>?_) (by rw[hlen];have:=hts r hrm;simp only[xJ];simp;omega) fun κ5 s5 t5 st5 w5=>hkk _ _ (hk κ5 s5 t5 _ (st4.trans st5) ?_ ?_ ?_ ?_ ?_ ?_)
    ·have q:=hx.ts r hrm t ht;have q2:=qlj (t:=t) (by have:=hK r hrm;simp only[qak,Bool.and_eq_true,List.all_eq_true] at this;exact this.1.2 t ht)
     exact⟨q2.1,q2.2,q.1,q.2.1,q.2.2.1,q.2.2.2⟩
    ·rw[jp hr,qiF,← List.append_assoc];rw[List.length_append,qbb,hpre] at w5;exact w5
    ·intro j c' hj;obtain⟨p,hp⟩:=hkl4 j c' hj;exact⟨p,st5.lab _ _ _ hp⟩
    ·exact (st5.fr bL (by rw[qg hbLc];exact (sv.fr bL hL0').1)).1
    ·rw[(st5.fr bL (by rw[qg hbLc];exact (sv.fr bL hL0').1)).2,q1 bL (sv.fr bL hL0').1,(sv.fr bL hL0').2];exact gL'
    ·exact⟨pN',st5.lab _ _ _ (by rw[qg (Ne.symm hcN)];exact sv.lab _ _ _ hN')⟩
    ·intro c' hc';rw[List.append_nil,List.mem_filter,decide_eq_true_eq] at hc';rcases hL' c' hc'.1 with q|⟨j,q1,q2⟩
     ·exact .inl q
     ·refine .inr ⟨j,?_,q2⟩;rcases Nat.lt_or_ge (i+1) j with q|q
      ·omega
      ·obtain rfl:i+1=j:=by omega
       rw[hc] at q2;cases q2;exact absurd rfl hc'.2
   let K0:AV->Hp->Prop:=fun v h=>∃κ3 s3 t3 L3,v = .tup []∧h=⟨s3,0,t3⟩∧Stp L3 κb sb tb κ3 s3 t3∧WI g w κ3 s3 t3 (pre++zJ (x.rules.take (i+1)) (jz x+1)) []∧(∀(j:Nat) c,xs[j]?=some c->∃p,κ3 c = .lab (xJ x j) p)∧κ3 bL = .fr∧t3.get bL=some (.cells e wf a (rPt xs))∧(∃p,κ3 bN = .lab (xG x) p) ∧
     (∀c ∈ L3,c=bN∨∃j:Nat,i+1+1<=j∧xs[j]?=some c)
   have fin:∀(v:AV) (h:Hp),K0 v h->∀tt,Has tt [(1,.ptr bf 0),(4,.ptr w 0),(5,.ptr bN 0),(8,qgM x.rules.length bL),(89,.fz x.rules.length (rR x.rules)),(90,.i .i64 (x.rules.length:Int)),(91,.i .i64 ((i+1:Nat):Int))]->G tt h:=by
    rintro v h ⟨κ3,s3,t3,L3,rfl,rfl,q1,q2,q3,q4,q5,q6,q7⟩ tt htt;exact ih (i+1) _ _ (by omega) htt ⟨by omega,L3,κ3,s3,t3,rfl,q1,q2,q3,q4,q5,q6,q7⟩
   rcases qpa (n:=x.rules.length) (b:=bL) with hV|hV
   ·rw[hV] at fin ⊢;simp +decide only[↓vS,vT,simprocAttr,hlt',hlt,h3,hel,qB,hw1,hbs',gL',hge,hlt1,Nat.mul_one];refine go K0 (fun κ3 s3 t3 L3 q1 q2 q3 q4 q5 q6 q7=>⟨κ3,s3,t3,L3,rfl,rfl,q1,q2,q3,q4,q5,q6,q7⟩) _ fun t4 h4 hcall=>?_
    simp +decide only[↓vS,vT,simprocAttr,h4,qB];refine hcall _ fun v h hv=>?_
    simp +decide only[↓vS,vT,simprocAttr,hw1];exact fin v h hv _ (by simp[qe,qi,Tr.get_set])
   ·rw[hV] at fin ⊢;simp +decide only[↓vS,vT,simprocAttr,hlt',hlt,h3,hel,qB,hw1,hbs',gL',hge,hlt1,Nat.mul_one];refine go K0 (fun κ3 s3 t3 L3 q1 q2 q3 q4 q5 q6 q7=>⟨κ3,s3,t3,L3,rfl,rfl,q1,q2,q3,q4,q5,q6,q7⟩) _ fun t4 h4 hcall=>?_
    simp +decide only[↓vS,vT,simprocAttr,h4,qB];refine hcall _ fun v h hv=>?_
    simp +decide only[↓vS,vT,simprocAttr,hw1];exact fin v h hv _ (by simp[qe,qi,Tr.get_set])
  ·obtain rfl:i=x.rules.length:=by omega
   have hlt':¬((x.rules.length:Int)<x.rules.length):=by omega
   rw[List.take_length] at w';have hlen:(pre++zJ x.rules (jz x+1)).length=xG x:=by rw[List.length_append,qbb,hpre];rfl
   simp +decide only[↓vS,vT,simprocAttr,hlt'];refine qdi E.W.here w' (b:=bN) (p:=pN') (by rw[hlen];exact hN') fun t4 q1 q2 w4=>?_
   simp +decide only[↓vS,vT,simprocAttr]
   have st4:Stp [] κb sb tb _ _ t4:=st'.kd' (L':=[]) (F':=(pre++zJ x.rules (jz x+1)).length) hbN q1 q2 fun c hc=>by
    rcases hL' c hc with q|⟨j,q1,q2⟩
    ·exact .inl q
    ·have:=(zzS.1 q2).1;omega
   refine qpF E.W.ret E.W.put w4 2147418112 (by rw[hlen];unfold xG;omega) fun κ5 s5 t5 st5 w5=>?_
   simp +decide only[↓vS,vT,simprocAttr];have st6:=st4.trans st5;refine qzo E.done E.dj w5 (fun b F p hb=>?_) (by rw[List.length_append,hlen];unfold xG;simp;omega) fun t6 b6 q3 q4=>?_
   ·cases p with
    | true=>rfl
    | false =>
     rcases st6.nw b F hb with q|q
     ·exact absurd q (hno b F)
     ·cases q
   ·simp +decide only[↓vS,vT,simprocAttr];simp[vZ,vP,q3];exact Frzs.self (qbg fun _=>rfl)
 ·simp[qe,qi,Tr.get_set]
 ·refine⟨Nat.zero_le _,L,κ,s,tr,rfl,st,?_,hxs,hL0,gL,⟨pN,hN⟩,?_⟩
  ·simpa[zJ] using h
  ·intro c hc;rcases hL c hc with q|⟨j,q1,q2⟩
   ·exact .inl q
   ·exact .inr ⟨j,by omega,q2⟩
theorem Stp.mod'{L:List Nat}{κ1:Nat->Kd}{s1:Nat}{t1:Tr Blk}(h:Stp L κ s tr κ1 s1 t1){b:Nat}(hb:κ b = .no)(x:Blk):Stp L κ s tr (kdS κ1 b .fr) s1 (t1.set b x):=by
 have ne:∀{c},κ c≠.no->c≠b:=fun h e=>h (e ▸ hb)
 refine⟨h.le,fun c hc=>?_,fun c hc=>?_,fun c F p hc=>?_,fun c F hc=>?_⟩
 ·have e:=ne (c:=c) (by rw[hc];simp);rw[qg e,Tr.get_set,if_neg e];exact h.fr c hc
 ·have e:=ne (c:=c) (by rw[hc];simp);rw[qg e,Tr.get_set,if_neg e];exact h.box c hc
 ·rw[qg (ne (by rw[hc];simp))];exact h.lab c F p hc
 ·by_cases e:c=b
  ·rw[e,qE] at hc;cases hc
  ·rw[qg e] at hc;exact h.nw c F hc
theorem qDu{s fl b c:Nat}{t:Tr Blk}{x y:Blk}:qdT ⟨s,fl,t⟩ [(b,x),(c,y)]=⟨s,fl,(t.set b .dead).set c .dead⟩:=rfl
theorem qvy{n0 sb bf bN bL bn bw e:Nat}{wf a:Bool}{κb:Nat->Kd}{tb:Tr Blk}{L:List Nat}(E:EFn P g gl gp gj gh gr go gb gR gd gt gH gA gB gC gD)(x:GFil)(hx:FilR x)(hK:∀r ∈ x.rules,qak r=true)(hn:x.rules.length<=400)(hd1:jz x<=10000)
  (hS:qf P gS [.fz (qG x.rules).length (qaA (qG x.rules)),.fz (qG x.rules).length (qba (qG x.rules)),.i .i64 0] (.tup [.fz (zx (pcs 0 (qG x.rules) 0)).length (rSp (zx (pcs 0 (qG x.rules) 0))),.i .i64 0]))
  (hB:qf P gT [.fz (zx (pcs 0 (qG x.rules) 0)).length (rSp (zx (pcs 0 (qG x.rules) 0)))] (.tup [.fz (qL x).length (rNd (qL x)),.i .i64 0])) (hT1:qL x≠[]) (hT2:∀nd ∈ qL x,NdOk (x.rules.length+1) (qL x).length nd) (hT3:(qL x).length<=10000)
  (h:WI g w κ s tr (qa9 x.arch 0 (xG x)) []) (st:Stp L κb sb tb κ s tr) (xs:List Nat) (hxl:xs.length=x.rules.length+1) (hxs:∀(j:Nat) c,xs[j]?=some c->∃p,κ c = .lab (xJ x j) p) (hL0:κ bL = .fr) (gL:tr.get bL=some (.cells e wf a (rPt xs)))
  (hf0:κ bf = .fr) (gf:tr.get bf=some (.cells 0 true false (qz x))) {pN:Bool} (hN:κ bN = .lab (xG x) pN) (hbN:κb bN = .no) (hL:∀c ∈ L,c=bN∨∃j:Nat,xs[j]?=some c) (hnew:∀(j:Nat) c,xs[j]?=some c->κb c = .no) (hno:∀b F,κb b≠.lab F false)
  (hn0:κ bn = .fr) (gn:tr.get bn=some (.cells 0 true false (qaA (qG x.rules)))) (hbn:κb bn = .no) (hw0:κ bw = .fr) (gw:tr.get bw=some (.cells 0 true false (qba (qG x.rules)))) (hbw:κb bw = .no) (hne:bn≠bw∧bn≠bL∧bw≠bL∧bn≠bf∧bw≠bf)
  {t:Tr AV} (ht:Has t [(1,.ptr bf 0),(4,.ptr w 0),(5,.ptr bN 0),(6,.sl bn 0 x.rules.length x.rules.length false),(7,.sl bw 0 x.rules.length x.rules.length false),(8,qgM x.rules.length bL)]) :
  S P n0 (qcJ gM go gS gT gb gh gr gR gd) (qb9 [.tmp 2,.tmp 3] fun v' h'=>Frz h' v' (.tup [.fz (qW x).length (rSy (qW x)),.i .i64 0])) t ⟨s,0,tr⟩:=by
 obtain⟨e1,e2,e3,e4,e5⟩:=hne;refine S.has _ ht (ql ?_);simp only[qcJ,vI,simprocAttr];simp +decide only[↓vS,vT,simprocAttr];have hnl:(qG x.rules).length=x.rules.length:=qay;rw[hnl] at hS;refine hS.give [(bn,.cells 0 true false (qaA (qG x.rules))),(bw,.cells 0 true false (qba (qG x.rules)))] ?_ (by simp[qw,clo,qeo]) ?_ ?_
 ·intro p hp;simp only[List.mem_cons,List.not_mem_nil,or_false] at hp;rcases hp with rfl|rfl
  ·exact⟨gn,Nat.zero_le _⟩
  ·exact⟨gw,Nat.zero_le _⟩
 ·refine qaN.2 ⟨Frz.cut 1 rfl (Nat.le_refl _) ?_,qaN.2 ⟨Frz.cut 1 rfl (Nat.le_refl _) ?_,qaN.2 ⟨qDe.2 ⟨rfl,rfl⟩,qeF.2 trivial⟩⟩⟩
  ·simp[trP,Tr.get_set,vP,qfI,hnl];rw[List.take_of_length_le (by rw[qfI,hnl];omega)];exact Frzs.self qc1
  ·simp[trP,Tr.get_set,vP,qfJ,hnl,Ne.symm e1];rw[List.take_of_length_le (by rw[qfJ,hnl];omega)];exact Frzs.self qc2
 rw[qDu];have w1:=(h.chg (b:=bn) .fr .dead (.inl hn0) (h.dom bn (by rw[hn0];simp)) (.inr (.inl rfl))).chg (b:=bw) .fr .dead (.inl (by rw[qg (Ne.symm e1)];exact hw0)) (h.dom bw (by rw[hw0];simp)) (.inr (.inl rfl))
 have s1:=(st.mod' hbn .dead).mod' hbw .dead
 have kk:∀b,κ b≠.fr->kdS (kdS κ bn .fr) bw .fr b=κ b:=fun b hb=>by
  rw[qg (c:=b) (fun e=>hb (by rw[e];exact hw0)),qg (c:=b) (fun e=>hb (by rw[e];exact hn0))]
 have kf:∀b,κ b = .fr->kdS (kdS κ bn .fr) bw .fr b = .fr:=fun b hb=>by
  simp only[kdS];split
  ·rfl
  ·split
   ·rfl
   ·exact hb
 have gg:∀b,b≠bn->b≠bw->((tr.set bn .dead).set bw .dead).get b=tr.get b:=fun b h1 h2=>by
  rw[Tr.get_set,if_neg h2,Tr.get_set,if_neg h1]
 simp +decide only[↓vS,vT,simprocAttr];refine hB.sc ?_;simp +decide only[↓vS,vT,simprocAttr];have hV:=qpa (n:=x.rules.length) (b:=bL);refine qr1 E.br E.W (qL x) hT1 xs (by rw[hxl];exact hT2) (xJ x) (qgM x.rules.length bL) (by rw[hxl];exact hV) w1 (kf bL hL0) ((gg bL (Ne.symm e2) (Ne.symm e3)).trans gL) (fun j c hj=>let ⟨p,hp⟩:=hxs j c hj;⟨p,by rw[kk c (by rw[hp];simp)];exact hp⟩) (by rw[jI];have:=qpp (a:=x.arch);omega) fun κ2 s2 t2 st2 w2=>?_
 simp +decide only[↓vS,vT,simprocAttr];obtain⟨c0,hc0⟩:∃c,xs[0]?=some c:=⟨_,zzE (by omega)⟩;have hge:(rPt xs)[0]?=some (.ptr c0 0):=by rw[qeR,hc0];rfl
 have hL2:=st2.fr bL (kf bL hL0);have gL2:=hL2.2.trans ((gg bL (Ne.symm e2) (Ne.symm e3)).trans gL);have hf2:=st2.fr bf (kf bf hf0);have gf2:=hf2.2.trans ((gg bf (Ne.symm e4) (Ne.symm e5)).trans gf)
 have hlen:(qa9 x.arch 0 (xG x)++z7 (xJ x) (qL x) (qa9 x.arch 0 (xG x)).length).length=xJ x 0:=by
  rw[List.length_append,jr,jI];rfl
 have hk2:∀(j:Nat) c,xs[j]?=some c->∃p,κ2 c = .lab (xJ x j) p:=fun j c hj=>let ⟨p,hp⟩:=hxs j c hj;⟨p,st2.lab _ _ _ (by rw[kk c (by rw[hp];simp)];exact hp)⟩
 obtain⟨p0,hp0⟩:=hk2 0 c0 hc0;have hN2:κ2 bN = .lab (xG x) pN:=st2.lab _ _ _ (by rw[kk bN (by rw[hN];simp)];exact hN)
 have hcN:c0≠bN:=fun e=>by
  rw[e] at hp0;have:=(Kd.lab.inj (hp0.symm.trans hN2)).1;simp[xJ,xG] at this;omega
 have hV0:(0:Nat)<x.rules.length+1:=by omega
 -- the label of the others has its place
 have rest:∀k2:AV->Hp->Prop,(∀t3:Tr Blk,t3.get bf=some (.cells 0 true false (qz x))->(∀k':AV->Hp->Prop,(∀(κ4:Nat->Kd) (s4:Nat) (t4:Tr Blk) (L4:List Nat),Stp L4 κb sb tb κ4 s4 t4->WI g w κ4 s4 t4 (qa9 x.arch 0 (xG x)++z7 (xJ x) (qL x) (jD x.arch)++[⟨6,x.dflt,0,0⟩]) []->
   (∀(j:Nat) c,xs[j]?=some c->∃p,κ4 c = .lab (xJ x j) p)->κ4 bL = .fr->t4.get bL=some (.cells e wf a (rPt xs))->κ4 bf = .fr->t4.get bf=some (.cells 0 true false (qz x))->κ4 bN = .lab (xG x) pN->(∀c ∈ L4,c=bN∨∃j:Nat,1<=j∧xs[j]?=some c)->k' (.tup []) ⟨s4,0,t4⟩)->SC P gr [.ptr w 0,.i .u32 x.dflt] ⟨s2,0,t3⟩ k')->k2 (.tup []) ⟨s2,0,t3⟩)->SC P gh [.ptr w 0,.ptr c0 0] ⟨s2,0,t2⟩ k2:=by
  intro k2 hk2';refine qdi E.W.here w2 (b:=c0) (p:=p0) (by rw[hlen];exact hp0) fun t3 q1 q2 w3=>hk2' t3 ((q1 bf hf2.1).trans gf2) fun k' hk'=>?_
  have st3:Stp (L.filter fun y=>decide (y≠c0)) κb sb tb _ _ t3:=(s1.trans st2).kd' (F':=(qa9 x.arch 0 (xG x)++z7 (xJ x) (qL x) (qa9 x.arch 0 (xG x)).length).length) (hnew 0 c0 hc0) q1 q2 fun y hy=>by
   by_cases e:y=c0
   ·exact .inl e
   ·exact .inr (by simp at hy;simp[hy,e])
  have nb:∀b,κ2 b = .fr->b≠c0:=fun b hb e=>by rw[e,hp0] at hb;cases hb
  refine qpF E.W.ret E.W.put w3 x.dflt (by rw[hlen];simp[xJ];omega) fun κ4 s4 t4 st4 w4=>hk' κ4 s4 t4 _ (st3.trans st4) ?_ ?_ ?_ ?_ ?_ ?_ ?_ ?_
  ·rw[jI] at w4;exact w4
  ·intro j c hj;obtain⟨p,hp⟩:=hk2 j c hj
   by_cases ec:c=c0
   ·rw[ec] at hp ⊢;have hF:=(Kd.lab.inj (hp0.symm.trans hp)).1;exact⟨true,st4.lab _ _ _ (by rw[qE,hlen,hF])⟩
   ·exact⟨p,st4.lab _ _ _ (by rw[qg ec];exact hp)⟩
  ·exact (st4.fr bL (by rw[qg (nb _ hL2.1)];exact hL2.1)).1
  ·rw[(st4.fr bL (by rw[qg (nb _ hL2.1)];exact hL2.1)).2,q1 bL hL2.1];exact gL2
  ·exact (st4.fr bf (by rw[qg (nb _ hf2.1)];exact hf2.1)).1
  ·rw[(st4.fr bf (by rw[qg (nb _ hf2.1)];exact hf2.1)).2,q1 bf hf2.1];exact gf2
  ·exact st4.lab _ _ _ (by rw[qg (Ne.symm hcN)];exact hN2)
  ·intro c hc;rw[List.append_nil,List.mem_filter,decide_eq_true_eq] at hc;rcases hL c hc.1 with q|⟨j,q⟩
   ·exact .inl q
   ·refine .inr ⟨j,?_,q⟩;rcases Nat.eq_zero_or_pos j with q0|q0
    ·subst q0;rw[hc0] at q;cases q;exact absurd rfl hc.2
    ·exact q0
 have fin:∀(κ4:Nat->Kd) (s4:Nat) (t4:Tr Blk) (L4:List Nat),Stp L4 κb sb tb κ4 s4 t4->WI g w κ4 s4 t4 (qa9 x.arch 0 (xG x)++z7 (xJ x) (qL x) (jD x.arch)++[⟨6,x.dflt,0,0⟩]) []->
   (∀(j:Nat) c,xs[j]?=some c->∃p,κ4 c = .lab (xJ x j) p)->κ4 bL = .fr->t4.get bL=some (.cells e wf a (rPt xs))->κ4 bf = .fr->t4.get bf=some (.cells 0 true false (qz x))->κ4 bN = .lab (xG x) pN->(∀c ∈ L4,c=bN∨∃j:Nat,1<=j∧xs[j]?=some c)->
   ∀(tt:Tr AV),Has tt [(1,.ptr bf 0),(4,.ptr w 0),(5,.ptr bN 0),(8,qgM x.rules.length bL)]->S P n0 (qax gM go gS gT gb gh gr gR gd) (qb9 [.tmp 2,.tmp 3] fun v' h'=>Frz h' v' (.tup [.fz (qW x).length (rSy (qW x)),.i .i64 0])) tt ⟨s4,0,t4⟩:=fun κ4 s4 t4 L4 q1 q2 q3 q4 q5 q6 q7 q8 q9 tt htt =>
  qsu E x hx hK hn (by simp only[List.length_append,jI,jr,List.length_singleton];rfl) hd1 q2 q1 xs hxl q3 q4 q5 q6 q7 q8 hbN q9 hnew hno htt
 rcases hV with hV|hV
 ·rw[hV] at fin ⊢;simp +decide only[↓vS,vT,simprocAttr,gL2,hge,hV0];refine rest _ fun t3 g3 hcall=>?_
  simp +decide only[↓vS,vT,simprocAttr,g3,qz];refine hcall _ fun κ4 s4 t4 L4 q1 q2 q3 q4 q5 q6 q7 q8 q9=>?_
  simp +decide only[↓vS,vT,simprocAttr];exact fin κ4 s4 t4 L4 q1 q2 q3 q4 q5 q6 q7 q8 q9 _ (by simp[qe,qi,Tr.get_set])
 ·rw[hV] at fin ⊢;simp +decide only[↓vS,vT,simprocAttr,gL2,hge,hV0];refine rest _ fun t3 g3 hcall=>?_
  simp +decide only[↓vS,vT,simprocAttr,g3,qz];refine hcall _ fun κ4 s4 t4 L4 q1 q2 q3 q4 q5 q6 q7 q8 q9=>?_
  simp +decide only[↓vS,vT,simprocAttr];exact fin κ4 s4 t4 L4 q1 q2 q3 q4 q5 q6 q7 q8 q9 _ (by simp[qe,qi,Tr.get_set])
end
end Go.Kc
end
