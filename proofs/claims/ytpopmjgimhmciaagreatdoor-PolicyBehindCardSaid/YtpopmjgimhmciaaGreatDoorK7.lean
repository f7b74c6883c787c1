/- Part 7 of the abstract machine and of the functions' walks. Conditions: with each theorem. -/
import Derived.Test.YtpopmjgimhmciaaGreatDoorK6
set_option linter.unusedSimpArgs false
set_option linter.unusedVariables false
set_option linter.unnecessarySimpa false
section
/- What strings.FieldsFunc answers, of any string and any predicate. Condition: the string is not too great; the functions' texts are these. -/
namespace Go.Kc
variable {P:Program} {f:Nat}
def wX(b:Bool)(st:Option Nat)(i:Nat):Option Nat:=if b=true then none else (match st with|some s=>some s|none=>some i)
def kG(b:Bool)(st:Option Nat)(i:Nat)(acc:List (Nat×Nat)):List (Nat×Nat):=if b=true then (match st with|some s=>acc++[(s,i)]|none=>acc) else acc
def Ws(p:Int->Bool)(l:List UInt8)(i:Nat)(st:Option Nat)(acc:List (Nat×Nat)):List (Nat×Nat)×Option Nat :=
 if i<l.length then Ws p l (i+(jr l i).2) (wX (p (jr l i).1) st i) (kG (p (jr l i).1) st i acc) else (acc,st)
termination_by l.length-i
decreasing_by have:=qe2 l i;omega
def qnF(p:Int->Bool)(l:List UInt8):List (Nat×Nat):=match Ws p l 0 none [] with
 | (acc,some s)=>acc++[(s,l.length)]
 | (acc,none)=>acc
def wp(l:List UInt8)(q:Nat×Nat):List UInt8:=(l.take q.2).drop q.1
def Wd(p:Int->Bool)(l:List UInt8):List (List UInt8):=(qnF p l).map (wp l)
def qkg(l:List UInt8)(st:Option Nat)(z:Int)(i:Nat):Prop:=match st with|some s=>z=(s:Int)∧s<=i∧s<l.length|none=>z<0
def qec(q:Nat×Nat):List AV:=[.i .i64 (q.1:Int),.i .i64 (q.2:Int)]
theorem qcd(q:Nat×Nat):(qec q).length=2:=rfl
def yB(acc:List (Nat×Nat)):List AV:=acc.flatMap qec
theorem jQ(acc:List (Nat×Nat)):(yB acc).length=acc.length*2:=zY qcd acc
theorem ZE(acc:List (Nat×Nat))(x y:Nat):yB (acc++[(x,y)])=yB acc++[.i .i64 (x:Int),.i .i64 (y:Int)]:=by simp[yB,qec]
def Q2(n:Nat):List AV:=List.replicate n (.i .i64 0)
theorem qhu(n:Nat):(Q2 n).length=n:=by simp[Q2]
theorem vH(n:Nat):qt (Q2 n)=true:=qaD rfl
theorem qe8(n m:Nat):(Q2 n).drop m=Q2 (n-m):=by simp[Q2]
theorem xR(acc:List (Nat×Nat)):qt (yB acc)=true:=Zn (fun _=>rfl)
def yO(acc:List (Nat×Nat)):AV:=if acc.length<=32 then .sl 0 0 acc.length 32 false else .own 0 acc.length
def yN(acc:List (Nat×Nat)):Blk:=if acc.length<=32 then .cells 0 true false (yB acc++Q2 (64-acc.length*2)) else .cells 2 true true (yB acc)
structure St where
 i:Nat
 st:Option Nat
 acc:List (Nat×Nat)
 z:Int
def stT(l:List UInt8)(g:Nat)(a:St):List (Nat×AV):=[(0,.s l),(1,.fn g [] []),(5,yO a.acc),(6,.i .i64 a.z),(14,.ptr 1 0)]
def stB(l:List UInt8)(a:St):List Blk:=[yN a.acc,.map (xg l a.i)]
structure StI (p:Int->Bool) (l:List UInt8) (a:St):Prop where
 z:qkg l a.st a.z a.i
 lo:-1000001<=a.z
 n:a.acc.length<=a.i
 m:a.acc.length<=l.length
 sp:∀q ∈ a.acc,q.1<=q.2∧q.2<=l.length
 eq:Ws p l a.i a.st a.acc=Ws p l 0 none []
def qnd(P:Program)(g:Nat)(p:Int->Bool):Prop:=∀c:Int,qc P g [.i .i32 c] (.b (p c))
def jo:ICode:=.seq (.r [.n 44 5,.e 45 44,.q 46 (.mkS 1 16 [.s []] (.t 45) (.t 45)),.n 9 46]) (.seq (.seq (.r [.n 47 5,.e 48 47,.m 49 (.k 0)]) (.blk 2 (.loop (.seq (.r [.s 50 49 48]) (.seq (.cond (.t 50) (.skip) (.exit 2)) (.seq (.blk 3 (.seq (.r [.n 51 49,.i 52 2 47 49,.v 53 2 52,.q 11 (.alloc [.i .i64 0,.i .i64 0]),.n 10 51,.u (.store 2 (.t 11) (.t 53))]) (.r [.n 54 9,.n 55 10,.n 56 0,.f 57 0 11,.d 58 57,.f 59 1 11,.d 60 59,.q 61 (.slcStr (.t 56) (some (.t 58)) (some (.t 60))),.i 62 1 54 55,.u (.store 1 (.t 62) (.t 61))]))) (.r [.a 63 49 1,.n 49 63]))))))) (.seq (.r [.n 64 9,.n 4 64]) (.ret)))
def jn:ICode:=.seq (.seq (.r [.n 35 6,.w 36 .geq 35 0]) (.cond (.t 36) (.r [.n 37 5,.n 38 6,.n 39 0,.q 40 (.len true (.t 39)),.q 41 (.build [.i .i64 0,.i .i64 0] [(0,1,(.t 38)),(1,1,(.t 40))]),.q 42 (.buildS 1 [.i .i64 0,.i .i64 0] [(0,2,(.t 41))]),.q 43 (.app 2 16 true (.t 37) (.t 42)),.n 5 43]) (.skip))) (.cut (jo))
def kS:IFn:=⟨[.tmp 4],.seq (.r [.m 4 .N]) (.seq (.r [.q 12 (.mkS 2 16 [.i .i64 0,.i .i64 0] (.k 0) (.k 32)),.n 5 12]) (.seq (.r [.q 6 (.mov (.c (.i .i64 (-1))))]) (.seq (.seq (.r [.n 13 0,.q 14 (.rangeS (.t 13))]) (.blk 0 (.loop (.seq (.r [.q 15 (.nextS (.t 14)),.x 16 15 0]) (.seq (.cond (.t 16) (.skip) (.exit 0)) (.blk 1 (.seq (.r [.x 17 15 1,.x 18 15 2,.n 7 17,.n 8 18]) (.seq (.r [.n 19 1,.n 20 8,⟨(some 21),.callV (.t 19) [.t 20],none⟩]) (.cond (.t 21) (.seq (.r [.n 22 6,.w 23 .geq 22 0]) (.cond (.t 23) (.seq (.r [.n 24 5,.n 25 6,.n 26 7,.q 27 (.build [.i .i64 0,.i .i64 0] [(0,1,(.t 25)),(1,1,(.t 26))]),.q 28 (.buildS 1 [.i .i64 0,.i .i64 0] [(0,2,(.t 27))]),.q 29 (.app 2 16 true (.t 24) (.t 28)),.n 5 29]) (.r [.n 30 6,.q 31 (.un .xor (.t 30)),.n 6 31])) (.skip))) (.seq (.r [.n 32 6,.w 33 .lss 32 0]) (.cond (.t 33) (.r [.n 34 7,.n 6 34]) (.skip)))))))))))) (.cut (jn)))))⟩
theorem qce{sp:List (Nat×Nat)}{j:Nat}{q:Nat×Nat}(hq:sp[j]?=some q)(z:List AV):((yB sp++z).drop (j*2)).take 2=qec q:=by
 obtain⟨hj,_⟩:=List.getElem?_eq_some_iff.1 hq;rw[List.drop_append_of_le_length (by rw[jQ];omega),List.take_append_of_le_length (by rw[List.length_drop,jQ];omega)];exact xc qcd hq
def Vb(l:List UInt8)(sp:List (Nat×Nat))(j:Nat):List AV:=(sp.take j).map (fun q=>.s (wp l q))++List.replicate (sp.length-j) (.s [])
theorem qeg{l:List UInt8}{sp:List (Nat×Nat)}{j:Nat}(hj:j<=sp.length):(Vb l sp j).length=sp.length:=by
 simp[Vb];omega
theorem qhr{l:List UInt8}{sp:List (Nat×Nat)}{j:Nat}:qt (Vb l sp j)=true:=by
 rw[Vb,qH,XI (fun _=>rfl),qaD rfl];rfl
theorem qki{l:List UInt8}{sp:List (Nat×Nat)}{j:Nat}{q:Nat×Nat}(hq:sp[j]?=some q):(Vb l sp j).take j ++ .s (wp l q)::(Vb l sp j).drop (j+1)=Vb l sp (j+1):=by
 obtain⟨hj,_⟩:=List.getElem?_eq_some_iff.1 hq;have h1:((sp.take j).map fun q=>AV.s (wp l q)).length=j:=by simp;omega
 obtain⟨m,hm⟩:∃m,sp.length-j=m+1:=⟨sp.length-j-1,by omega⟩
 have h2:sp.length-(j+1)=m:=by omega
 unfold Vb;rw[List.take_left' h1,List.take_add_one,hq,List.drop_append,h1,List.drop_eq_nil_of_le (by omega),hm,h2];simp[List.replicate_succ]
theorem qkh{l:List UInt8}{sp:List (Nat×Nat)}:Vb l sp sp.length=(sp.map (wp l)).map .s:=by
 simp[Vb,List.map_map,Function.comp_def]
theorem qnG(l:List UInt8)(sp:List (Nat×Nat))(hn:sp.length<=1000001)(hsp:∀q ∈ sp,q.1<=q.2∧q.2<=l.length):S P 0 jo (wE [.tmp 4] (fun v' h'=>Frz h' v' (.fz sp.length ((sp.map (wp l)).map .s)))) (mkT [(0,.s l),(5,yO sp)]) (mkH 0 [yN sp]):=by
 refine qq ?_;simp only[jo,vI,simprocAttr];have e1:sp.length<=qf:=by unfold qf;omega
 have e2:16*sp.length<=qf:=by unfold qf;omega
 by_cases h32:sp.length<=32
 all_goals
  simp only[↓vS,vT,simprocAttr,yO,yN,h32,e1,e2,qcR];refine SL.loop (α:=Nat) (fun j=>[(0,.s l),(9,.sl 1 0 sp.length sp.length false),(47,yO sp),(48,.i .i64 sp.length),(49,.i .i64 j)]) (fun j=>[yN sp,.cells 0 true false (Vb l sp j)]) (fun j=>j<=sp.length) (fun j=>sp.length-j) 0 [0,1] ?_ ?_ ?_ rfl ?_ ?_
  ·simp[vw,yO,h32]
  ·simp[vw,yN,h32,qa,xR,vH,qH,qaD (v:=AV.s []) rfl,Vb]
  ·simp
  ·simp
  intro j hj G ih;simp only[vI,simprocAttr]
  by_cases hlt:j<sp.length
  ·obtain⟨q,hq⟩:∃q,sp[j]?=some q:=⟨_,List.getElem?_eq_getElem hlt⟩;obtain⟨hq1,hq2⟩:=hsp q (List.mem_of_getElem? hq);have he:=qce hq (Q2 (64-sp.length*2));have he':=qce hq [];rw[List.append_nil] at he';have hl1:j*2+2<=(yB sp++Q2 (64-sp.length*2)).length:=by rw[List.length_append,jQ];omega
   have hl2:j*2+2<=(yB sp).length:=by rw[jQ];omega
   have hl3:j+1<=(Vb l sp j).length:=by rw[qeg hj];omega
   have hw:IntKind.wrap .i64 ((j:Int)+1)=(j:Int)+1:=qB (by omega) (by omega);have hput:=qki (l:=l) hq;simp only[wp] at hput;simp only[↓vS,vT,simprocAttr,hlt,yO,yN,h32,hl1,hl2,hl3,he,he',qec,hq1,hq2,Nat.mul_one,hput,hw];refine ih (j+1) hlt (by omega) _ _ (Wk.mk _ _ [0,1] ?_ ?_ ?_ rfl)
   ·simp[vw,yO,h32]
   ·simp[vw,yN,h32,qa,xR,vH,qH,qhr]
   ·simp
  ·have hje:j=sp.length:=by omega
   subst hje;simp only[↓vS,vT,simprocAttr,hlt];refine Frz.cut 1 rfl (Nat.le_refl _) ?_;have h1:(Vb l sp sp.length).take sp.length=(sp.map (wp l)).map .s:=by rw[qkh,List.take_of_length_le (by simp)]
   simp[vw,qeg,h1,qE,XI,clo]
theorem qfO{acc:List (Nat×Nat)}(h31:acc.length+1<=32)(x y:Nat):(yB acc++Q2 (64-acc.length*2)).take (acc.length*2)++AV.i .i64 (x:Int)::AV.i .i64 (y:Int)::(yB acc++Q2 (64-acc.length*2)).drop (acc.length*2+2)=yB (acc++[(x,y)])++Q2 (64-(acc.length+1)*2):=by
 rw[List.take_left' (jQ acc),List.drop_append,jQ,List.drop_eq_nil_of_le (by rw[jQ];omega),qe8,ZE];rw[show 64-acc.length*2-(acc.length*2+2-acc.length*2)=64-(acc.length+1)*2 from by omega]
 simp
theorem qd3(acc:List (Nat×Nat))(z:List AV):(yB acc++z).take (acc.length*2)=yB acc:=List.take_left' (jQ acc)
theorem qap{acc:List (Nat×Nat)}(h32:acc.length<=32):(yB acc++Q2 (64-acc.length*2)).length=64:=by rw[List.length_append,jQ,qhu];omega
def qis(l:List UInt8)(st:Option Nat)(acc:List (Nat×Nat)):List (Nat×Nat):=match st with|some s=>acc++[(s,l.length)]|none=>acc
theorem qtS(l:List UInt8)(hl:l.length<=1000000)(st:Option Nat)(acc:List (Nat×Nat))(z:Int)(i:Nat)(hz:qkg l st z i)(hn:acc.length<=1000000)(hsp:∀q ∈ acc,q.1<=q.2∧q.2<=l.length) :
  S P 0 jn (wE [.tmp 4] (fun v' h'=>Frz h' v' (.fz (qis l st acc).length (((qis l st acc).map (wp l)).map .s)))) (mkT [(0,.s l),(5,yO acc),(6,.i .i64 z)]) (mkH 0 [yN acc]):=by
 refine qq ?_;simp only[jn,vI,simprocAttr];cases st with
 | none =>
  have hz1:¬0<=z:=by have:z<0:=hz;omega
  simp only[↓vS,vT,simprocAttr,hz1];refine S.weak (Wk.mk _ _ [0] ?_ ?_ ?_ rfl) (qnG l acc (by omega) hsp)
  ·simp[vw,yO];split<;>simp[vw]
  ·simp[vw,yN];split<;>simp[vw,qa,xR,vH,qH]
  ·simp
 | some s =>
  obtain⟨rfl,hs1,hs2⟩:=hz;have hz1:(0:Int)<=s:=by omega
  have hsp':∀q ∈ acc++[(s,l.length)],q.1<=q.2∧q.2<=l.length:=by
   intro q hq;rcases List.mem_append.1 hq with hq|hq
   ·exact hsp q hq
   ·simp at hq;subst hq;exact⟨by dsimp only;omega,Nat.le_refl _⟩
  have ht:=qnG (P:=P) l (acc++[(s,l.length)]) (by simp;omega) hsp';have r1:acc.length+1<=qf:=by unfold qf;omega
  have r2:(acc.length+1)*16<=qf:=by unfold qf;omega
  by_cases h32:acc.length<=32
  ·by_cases h31:acc.length+1<=32
   ·have hb:acc.length*2+2<=64:=by omega
    simp only[↓vS,vT,simprocAttr,hz1,yO,yN,h32,h31,qap h32,hb,qfO h31];refine S.weak (Wk.mk _ _ [0] ?_ ?_ ?_ rfl) ht
    ·simp[vw,yO,h31]
    ·simp[vw,yN,h31,qa,xR,vH,qH]
    ·simp
   ·have hb:acc.length*2<=64:=by omega
    simp only[↓vS,vT,simprocAttr,hz1,yO,yN,h32,h31,qap h32,hb,qd3,r1,r2];refine S.weak (Wk.mk _ _ [2] ?_ ?_ ?_ rfl) ht
    ·simp[vw,yO,h31]
    ·simp[vw,yN,h31,qa,xR,ZE,qH,qt,clo]
    ·simp
  ·have h31:¬acc.length+1<=32:=by omega
   simp only[↓vS,vT,simprocAttr,hz1,yO,yN,h32,jQ,r1,r2];refine S.weak (Wk.mk _ _ [2] ?_ ?_ ?_ rfl) ht
   ·simp[vw,yO,h31]
   ·simp[vw,yN,h31,qa,xR,ZE,qH,qt,clo]
   ·simp
theorem qnm(hc:qj P f kS=true){g:Nat}{p:Int->Bool}(hg:qnd P g p)(l:List UInt8)(hl:l.length<=1000000):qc P f [.s l,.fn g [] []] (.fz (Wd p l).length ((Wd p l).map .s)):=by
 refine qc.mk hc (by simp[qt,clo]) ?_;simp only[kS,vI,simprocAttr];simp only[↓vS,vT,simprocAttr,qf];refine SL.loop (α:=St) (stT l g) (stB l) (StI p l) (fun a=>l.length-a.i) ⟨0,none,[],-1⟩ [0,1] ?_ ?_ ?_ rfl ?_ ?_
 ·simp[vw,stT,stB,yO]
 ·simp[vw,stB,yN,yB,Q2]
 ·simp
 ·exact⟨by simp[qkg],by decide,by simp,by simp,by simp,rfl⟩
 rintro⟨i,st,acc,z⟩ ⟨hz,hlo,hn,hm,hsp,heq⟩ G ih;dsimp only at hz hlo hn hm hsp heq ih ⊢;simp only[stT,stB,vI,simprocAttr]
 by_cases hi:i<l.length
 ·simp only[↓vS,vT,simprocAttr,hi];refine (hg _).sc ?_;have hw:=qe2 l i;have hs:Ws p l i st acc=Ws p l (i+(jr l i).2) (wX (p (jr l i).1) st i) (kG (p (jr l i).1) st i acc):=by rw[Ws,if_pos hi]
  rw[hs] at heq;clear hs;generalize jr l i=rn at *;obtain⟨r,w⟩:=rn;dsimp only at heq hw ⊢
  have keep:∀(st':Option Nat) (z':Int) (t':Tr AV),qkg l st' z' (i+w)->-1000001<=z'->Ws p l (i+w) st' acc=Ws p l 0 none []->t'.get 0=some (.s l)->t'.get 1=some (.fn g [] [])->t'.get 5=some (yO acc)->t'.get 6=some (.i .i64 z')->t'.get 14=some (.ptr 1 0)->
    G t' ⟨2,0,((Tr.leaf.set 0 (yN acc)).set 1 (.map (xg l i))).set 1 (.map (xg l (i+w)))⟩:=by
   intro st' z' t' h1 h2 h3 g0 g1 g5 g6 g14;refine ih ⟨i+w,st',acc,z'⟩ ⟨h1,h2,by dsimp only;omega,hm,hsp,h3⟩ (by dsimp only;omega) _ _ (Wk.mk _ _ [0,1] ?_ ?_ ?_ rfl)
   ·simp[vw,stT,stB,g0,g1,g5,g6,g14,yO];split<;>simp[vw]
   ·simp[vw,stB,yN];split<;>simp[vw,qa,xR,vH,qH]
   ·simp
  cases hpc:p (r:Int) with
  | false =>
   rw[hpc] at heq;cases st with
   | some s =>
    obtain⟨rfl,hs1,hs2⟩:=hz;have hz1:¬((s:Int)<0):=by omega
    simp only[↓vS,vT,simprocAttr,hz1];exact keep (some s) s _ ⟨rfl,by omega,hs2⟩ hlo (by simpa[wX,kG] using heq) (by simp[Tr.get_set]) (by simp[Tr.get_set]) (by simp[Tr.get_set]) (by simp[Tr.get_set]) (by simp[Tr.get_set])
   | none =>
    have hz1:z<0:=hz;simp only[↓vS,vT,simprocAttr,hz1];exact keep (some i) i _ ⟨rfl,by omega,hi⟩ (by omega) (by simpa[wX,kG] using heq) (by simp[Tr.get_set]) (by simp[Tr.get_set]) (by simp[Tr.get_set]) (by simp[Tr.get_set]) (by simp[Tr.get_set])
  | true =>
   rw[hpc] at heq;cases st with
   | none =>
    have hz1:¬0<=z:=by have:z<0:=hz;omega
    simp only[↓vS,vT,simprocAttr,hz1];exact keep none z _ hz hlo (by simpa[wX,kG] using heq) (by simp[Tr.get_set]) (by simp[Tr.get_set]) (by simp[Tr.get_set]) (by simp[Tr.get_set]) (by simp[Tr.get_set])
   | some s =>
    obtain⟨rfl,hs1,hs2⟩:=hz;have hz1:(0:Int)<=s:=by omega
    have hx:∀k:AV->Prop,yY .xor (.i .i64 (s:Int)) k↔evA (.i .i64 (-1-(s:Int))) k:=fun k=>qqw (by omega)
    have hsp':∀q ∈ acc++[(s,i)],q.1<=q.2∧q.2<=l.length:=by
     intro q hq;rcases List.mem_append.1 hq with hq|hq
     ·exact hsp q hq
     ·simp at hq;subst hq;exact⟨hs1,Nat.le_of_lt hi⟩
    have hI:StI p l ⟨i+w,none,acc++[(s,i)],-1-(s:Int)⟩:=⟨by simp only[qkg];omega,by dsimp only;omega,by simp;omega,by simp;omega,hsp',by simpa[wX,kG] using heq⟩
    have r1:acc.length+1<=qf:=by unfold qf;omega
    have r2:(acc.length+1)*16<=qf:=by unfold qf;omega
    by_cases h32:acc.length<=32
    ·by_cases h31:acc.length+1<=32
     ·have hb:acc.length*2+2<=64:=by omega
      simp only[↓vS,vT,simprocAttr,hz1,yO,yN,h32,h31,qap h32,hb,qfO h31,hx];refine ih _ hI (by dsimp only;omega) _ _ (Wk.mk _ _ [0,1] ?_ ?_ ?_ rfl)
      ·simp[vw,stT,stB,yO,h31]
      ·simp[vw,stB,yN,h31,qa,xR,vH,qH]
      ·simp
     ·have hb:acc.length*2<=64:=by omega
      simp only[↓vS,vT,simprocAttr,hz1,yO,yN,h32,h31,qap h32,hb,qd3,r1,r2,hx];refine ih _ hI (by dsimp only;omega) _ _ (Wk.mk _ _ [3,1] ?_ ?_ ?_ rfl)
      ·simp[vw,stT,stB,yO,h31]
      ·simp[vw,stB,yN,h31,qa,xR,ZE,qH,qt,clo]
      ·simp
    ·have h31:¬acc.length+1<=32:=by omega
     simp only[↓vS,vT,simprocAttr,hz1,yO,yN,h32,jQ,r1,r2,hx];refine ih _ hI (by dsimp only;omega) _ _ (Wk.mk _ _ [3,1] ?_ ?_ ?_ rfl)
     ·simp[vw,stT,stB,yO,h31]
     ·simp[vw,stB,yN,h31,qa,xR,ZE,qH,qt,clo]
     ·simp
 ·simp only[↓vS,vT,simprocAttr,hi];have hs:Ws p l i st acc=(acc,st):=by rw[Ws,if_neg hi]
  have he:Wd p l=(qis l st acc).map (wp l):=by
   unfold Wd qnF;rw[← heq,hs];cases st<;>rfl
  rw[he,List.length_map];refine S.weak (Wk.mk _ _ [0] ?_ ?_ ?_ rfl) (qtS l hl st acc z i hz (by omega) hsp)
  ·simp[vw,yO];split<;>simp[vw]
  ·simp[vw,yN];split<;>simp[vw,qa,xR,vH,qH]
  ·simp
end Go.Kc
end
section
/- What values.Words answers. Condition: the functions' texts are these. -/
namespace Go.Kc
variable {P:Program} {f:Nat}
def spc(c:Int):Bool:=decide (c=32)||decide (c=9)||decide (c=13)
def QS:IFn:=⟨[.tmp 2],.seq (.r [.m 2 .F]) (.seq (.r [.n 3 0,.q 4 (.bin .eql (.t 3) (.c (.i .i32 32))),.n 5 4,.z 6 0 5,.g 7 (.bin .eql (.t 6) (.c (.i .i32 9))) 5 false,.o 8 5 7,.n 9 8,.z 10 0 9,.g 11 (.bin .eql (.t 10) (.c (.i .i32 13))) 9 false,.o 12 9 11,.n 2 12]) (.ret))⟩
theorem qqE(hc:qj P f QS=true):qnd P f spc:=by
 intro c;refine qc.mk hc (by simp[qt,clo]) ?_;simp only[QS,vI,simprocAttr]
 by_cases h1:c=32
 ·simp only[↓vS,vT,simprocAttr,h1,spc,vZ,Bool.true_or]
 ·by_cases h2:c=9
  ·simp only[↓vS,vT,simprocAttr,h2,spc,vZ,Bool.true_or,Bool.or_true,Int.reduceEq]
  ·by_cases h3:c=13
   ·simp only[↓vS,vT,simprocAttr,h3,spc,vZ,Bool.or_true,Int.reduceEq]
   ·simp only[↓vS,vT,simprocAttr,h1,h2,h3,spc,vZ,Bool.or_self]
def Xv(a b:Nat):IFn:=⟨[.tmp 2],.seq (.r [.m 2 .N]) (.seq (.r [.n 3 0,.l 4 a [.t 3,(.c (.fn b [] []))],.n 2 4]) (.ret))⟩
def ql(l:List UInt8):List (List UInt8):=Wd spc l
def XG(P:Program)(g:Nat):Prop:=∀l:List UInt8,l.length<=1000000->qc P g [.s l] (.fz (ql l).length ((ql l).map .s))
theorem qqF{g1 g2:Nat}(hc:qj P f (Xv g1 g2)=true)(h1:∀l:List UInt8,l.length<=1000000->qc P g1 [.s l,.fn g2 [] []] (.fz (Wd spc l).length ((Wd spc l).map .s))):XG P f:=by
 intro l hl;refine qc.mk hc (by simp[qt,clo]) ?_;simp only[Xv,vI,simprocAttr];simp only[↓vS,vT,simprocAttr];refine (h1 l hl).sc ?_;simp only[↓vS,vT,simprocAttr,vZ,ql,and_self]
end Go.Kc
end
section
/- Words, byte by byte. No condition. -/
namespace Go.Kc
def WS(c:UInt8):Bool:=decide (c=32)||decide (c=9)||decide (c=13)
theorem qdO(c:UInt8):WS c=spc (c.toNat:Int):=by
 have h1:(c=32)↔(c.toNat:Int)=32:=by rw[← UInt8.toNat_inj];simp;omega
 have h2:(c=9)↔(c.toNat:Int)=9:=by rw[← UInt8.toNat_inj];simp;omega
 have h3:(c=13)↔(c.toNat:Int)=13:=by rw[← UInt8.toNat_inj];simp;omega
 unfold WS spc;simp only[h1,h2,h3]
theorem qfU{n:Nat}(h:128<=n):spc (n:Int)=false:=by
 unfold spc;have h1:¬(n:Int)=32:=by omega
 have h2:¬(n:Int)=9:=by omega
 have h3:¬(n:Int)=13:=by omega
 simp[h1,h2,h3]
theorem qdN{c:UInt8}(h:128<=c.toNat):WS c=false:=by rw[qdO];exact qfU h
theorem qj6{l:List UInt8}{i:Nat}(hi:i<l.length)(hb:¬l[i].toNat<128):128<=(jr l i).1∧i+(jr l i).2<=l.length∧∀k,i<=k->k<i+(jr l i).2->∀c,l[k]?=some c->WS c=false:=by
 have hget:∀k (hk:k<l.length),((⟨l.toArray⟩:ByteArray).get! k)=l[k]:=by
  intro k hk;show l.toArray[k]! = l[k];simp[hk]
 have hs:(⟨l.toArray⟩:ByteArray).size=l.length:=by simp[ByteArray.size]
 have big:∀k,k<l.length->((⟨l.toArray⟩:ByteArray).get! k).toNat / 64=2->∀c,l[k]?=some c->WS c=false:=by
  intro k hk h c hc;rw[hget k hk] at h;obtain⟨_,rfl⟩:=List.getElem?_eq_some_iff.1 hc;exact qdN (by omega)
 have b0:∀c,l[i]?=some c->WS c=false:=by
  intro c hc;obtain⟨_,rfl⟩:=List.getElem?_eq_some_iff.1 hc;exact qdN (by omega)
 have one:∀k,i<=k->k<i+1->∀c,l[k]?=some c->WS c=false:=by
  intro k h1 h2 c hc;obtain rfl:k=i:=by omega
  exact b0 c hc
 unfold jr Utf8.decode;dsimp only;simp only[Nat.add_zero,hget i hi,hs,Bool.and_eq_true,decide_eq_true_eq,beq_iff_eq];rw[if_neg hb];split
 ·rename_i h;split
  ·rename_i hc;refine⟨hc,by omega,fun k h1 h2 c hcc=>?_⟩
   rcases Nat.lt_or_eq_of_le h1 with h3|h3
   ·obtain rfl:k=i+1:=by omega
    exact big _ h.2.1 h.2.2 c hcc
   ·subst h3;exact b0 c hcc
  ·exact⟨by simp[Utf8.runeError],by omega,one⟩
 ·split
  ·rename_i h;split
   ·rename_i hc;refine⟨by have:=hc.1;omega,by omega,fun k h1 h2 c hcc=>?_⟩
    have h3:k=i∨k=i+1∨k=i+2:=by omega
    rcases h3 with rfl|rfl|rfl
    ·exact b0 c hcc
    ·exact big _ h.1.2.1 h.1.2.2 c hcc
    ·exact big _ h.2.1 h.2.2 c hcc
   ·exact⟨by simp[Utf8.runeError],by omega,one⟩
  ·split
   ·rename_i h;split
    ·rename_i hc;refine⟨by have:=hc.1;omega,by omega,fun k h1 h2 c hcc=>?_⟩
     have h3:k=i∨k=i+1∨k=i+2∨k=i+3:=by omega
     rcases h3 with rfl|rfl|rfl|rfl
     ·exact b0 c hcc
     ·exact big _ h.1.1.2.1 h.1.1.2.2 c hcc
     ·exact big _ h.1.2.1 h.1.2.2 c hcc
     ·exact big _ h.2.1 h.2.2 c hcc
    ·exact⟨by simp[Utf8.runeError],by omega,one⟩
   ·exact⟨by simp[Utf8.runeError],by omega,one⟩
def wB:List UInt8->List UInt8->List (List UInt8)
 | [],cur=>if cur=[] then [] else [cur]
 | c::cs,cur=>if WS c=true then (if cur=[] then wB cs [] else cur::wB cs []) else wB cs (cur++[c])
theorem qar(cs:List UInt8):∀(ds cur:List UInt8),(∀c ∈ ds,WS c=false)->wB (ds++cs) cur=wB cs (cur++ds)
 | [],cur,_=>by simp
 | d::ds,cur,h=>by
  have h1:=h d (by simp);simp only[List.cons_append,wB,h1,Bool.false_eq_true,if_false];rw[qar cs ds _ (fun c hc=>h c (by simp[hc]))]
  simp
theorem qcX{l:List UInt8}{s i j:Nat}(h1:s<=i)(h2:i<=j)(h3:j<=l.length):(l.take j).drop s=(l.take i).drop s++(l.take j).drop i:=by
 have e:l.take j=l.take i++(l.take j).drop i:=by
  have:=List.take_append_drop i (l.take j);rw[List.take_take,Nat.min_eq_left h2] at this;exact this.symm
 conv=>lhs;rw[e]
 rw[List.drop_append_of_le_length (by simp;omega)]
def JR(l:List UInt8)(st:Option Nat)(i:Nat):List UInt8:=match st with|some s=>(l.take i).drop s|none=>[]
theorem qmT(l:List UInt8):∀(m i:Nat) (st:Option Nat) (acc:List (Nat×Nat)),l.length-i=m->i<=l.length->(∀s,st=some s->s<i)->
  (match Ws spc l i st acc with|(acc,some s)=>acc++[(s,l.length)]|(acc,none)=>acc).map (wp l)=acc.map (wp l)++wB (l.drop i) (JR l st i):=by
 intro m
 induction m using Nat.strongRecOn with
 | ind m ih =>
  intro i st acc hm hi hst
  by_cases hlt:i<l.length
  ·have hd:l.drop i=l[i]::l.drop (i+1):=List.drop_eq_getElem_cons hlt
   by_cases hb:l[i].toNat<128
   ·have hr:jr l i=(l[i].toNat,1):=ZS (List.getElem?_eq_getElem hlt) hb;have hsp:WS l[i]=spc (l[i].toNat:Int):=qdO _;rw[Ws,if_pos hlt,hr];dsimp only;rw[ih (l.length-(i+1)) (by omega) (i+1) _ _ rfl (by omega) ?_,hd,wB,hsp]
    ·cases hc:spc (l[i].toNat:Int) with
     | true =>
      cases st with
      | none=>simp[kG,wX,JR]
      | some s =>
       have h1:=hst s rfl
       have h2:(l.take i).drop s≠[]:=by
        intro hh;have:=congrArg List.length hh;simp at this;omega
       simp[kG,wX,JR,h2,wp]
     | false =>
      cases st with
      | none =>
       simp only[kG,wX,JR,Bool.false_eq_true,if_false,List.nil_append]
       congr 2
       rw[List.take_add_one,List.getElem?_eq_getElem hlt,List.drop_left' (by simp;omega)];rfl
      | some s =>
       have h1:=hst s rfl;simp only[kG,wX,JR,Bool.false_eq_true,if_false]
       congr 2
       rw[List.take_add_one,List.getElem?_eq_getElem hlt,List.drop_append_of_le_length (by simp;omega)];rfl
    ·intro s hs;cases hc:spc (l[i].toNat:Int) with
     | true=>rw[hc] at hs;simp[wX] at hs
     | false =>
      rw[hc] at hs;cases st with
      | none=>simp[wX] at hs;omega
      | some s'=>simp[wX] at hs;have:=hst s' rfl;omega
   ·obtain⟨h1,h2,h3⟩:=qj6 hlt hb;have hw:=qe2 l i;have hc:spc ((jr l i).1:Int)=false:=qfU h1;generalize hwd:(jr l i).2=w at h2 h3 hw;rw[Ws,if_pos hlt,hc,hwd,ih (l.length-(i+w)) (by omega) (i+w) _ _ rfl h2 ?_]
    ·simp only[kG,Bool.false_eq_true,if_false]
     congr 1
     have e:l.drop i=(l.take (i+w)).drop i++l.drop (i+w):=by
      have:=List.take_append_drop (i+w) l
      conv=>lhs;rw[← this]
      rw[List.drop_append_of_le_length (by simp;omega)]
     rw[e,qar]
     ·congr 1
      cases st with
      | none=>simp[wX,JR]
      | some s =>
       have h1:=hst s rfl;simp only[wX,JR,Bool.false_eq_true,if_false];exact qcX (by omega) (by omega) h2
     ·intro c hcc;obtain⟨k,hk,rfl⟩:=List.getElem_of_mem hcc;simp at hk;refine h3 (i+k) (by omega) (by omega) _ ?_;simp only[List.getElem_drop,List.getElem_take];exact List.getElem?_eq_getElem (by omega)
    ·intro s hs;cases st with
     | none=>simp[wX] at hs;omega
     | some s'=>simp[wX] at hs;have:=hst s' rfl;omega
  ·have hil:i=l.length:=by omega
   rw[Ws,if_neg hlt,List.drop_of_length_le (by omega)];cases st with
   | none=>simp[wB,JR]
   | some s =>
    have h1:=hst s rfl
    have h2:(l.take i).drop s≠[]:=by
     intro hh;have:=congrArg List.length hh;simp[List.length_drop,List.length_take] at this;omega
    simp only[wB,JR,if_neg h2];subst hil;simp[wp,h1]
theorem QI(l:List UInt8):ql l=wB l []:=by
 have:=qmT l l.length 0 none [] rfl (Nat.zero_le _) (by simp);simp only[List.map_nil,List.nil_append,List.drop_zero,JR] at this;exact this
theorem qe6:∀(l cur:List UInt8),(wB l cur).length<=l.length+(if cur=[] then 0 else 1)
 | [],cur=>by simp only[wB];split<;>simp
 | c::cs,cur=>by
  have h1:=qe6 cs [];have h2:=qe6 cs (cur++[c]);simp only[wB];simp at h1 h2;split
  ·split
   ·simp;omega
   ·simp;omega
  ·split<;>simp<;>omega
theorem vc(l:List UInt8):(ql l).length<=l.length:=by
 rw[QI];simpa using qe6 l []
end Go.Kc
end
section
/- Rows of numbers, of strings. No condition. -/
namespace Go.Kc
def rI(k:IntKind)(l:List Int):List AV:=l.map (.i k)
section
variable {k:IntKind} {l m:List Int} {j:Nat}
theorem wV:(rI k l).length=l.length:=by simp[rI]
theorem qh:qt (rI k l)=true:=XI fun _=>rfl
theorem J2:qJ (rI k l)=true:=qgn fun _=>rfl
theorem x9:(rI k l)[j]?=(l[j]?).map (.i k):=by simp[rI]
theorem QY:(rI k l).take j=rI k (l.take j):=by simp[rI]
theorem JF:(rI k l).drop j=rI k (l.drop j):=by simp[rI]
theorem Z7:rI k l++rI k m=rI k (l++m):=by simp[rI]
theorem qjW{x:Int}:rI k [x]=[.i k x]:=rfl
theorem qfL{x:Int}:rI k (x::l) = .i k x::rI k l:=rfl
theorem qjX{n:Nat}:List.replicate n (.i k 0)=rI k (List.replicate n 0):=by simp[rI]
end
def rS(l:List (List UInt8)):List AV:=l.map .s
section
variable {l m:List (List UInt8)} {j:Nat}
theorem Wq:(rS l).length=l.length:=by simp[rS]
theorem qi:qt (rS l)=true:=XI fun _=>rfl
theorem Z8:(rS l)[j]?=(l[j]?).map .s:=by simp[rS]
theorem qa9:rS l++rS m=rS (l++m):=by simp[rS]
theorem Z9:rS []=[]:=rfl
end
end Go.Kc
end
section
/- What searches by a function answer. Condition: the functions' texts are these. -/
namespace Go.Kc
variable {P:Program} {f:Nat}
def jf{α:Type}(p:α->Bool):List α->Nat->Int
 | [],_=>-1
 | x::xs,j=>if p x=true then (j:Int) else jf p xs (j+1)
theorem Qc{α:Type}(p:α->Bool):∀(l:List α) (j:Nat),(jf p l j = -1∧l.find? p=none)∨∃i x,jf p l j=((j+i:Nat):Int)∧l[i]?=some x∧p x=true∧l.find? p=some x∧∀k y,k<i->l[k]?=some y->p y=false
 | [],j=>.inl ⟨rfl,rfl⟩
 | x::xs,j=>by
  by_cases h:p x=true
  ·refine .inr ⟨0,x,by simp[jf,h],rfl,h,by simp[h],fun k y hk=>by omega⟩
  ·rcases Qc p xs (j+1) with⟨h1,h2⟩|⟨i,y,h1,h2,h3,h4,h5⟩
   ·exact .inl ⟨by simp[jf,h,h1],by simp[h,h2]⟩
   ·refine .inr ⟨i+1,y,?_,by simpa using h2,h3,by simp[h,h4],?_⟩
    ·rw[jf,if_neg h,h1];omega
    ·intro k z hk hz;cases k with
     | zero=>simp at hz;subst hz;simpa using h
     | succ k=>exact h5 k z (by omega) (by simpa using hz)
def qcl(P:Program)(f:Nat):Prop:=∀{α:Type} (enc:α->AV) (p:α->Bool) (g:Nat) (a c:List AV) (l:List α),qt a=true->qt c=true->l.length<=qf->
 (∀x ∈ l,qc P g (a++([enc x]++c)) (.b (p x)))->qc P f [.fz l.length (l.map enc),.fn g a c] (.i .i64 (jf p l 0))
def ZO(m:Nat)(P:Program)(f:Nat):Prop:=∀{α:Type} (enc:α->List AV) (p:α->Bool) (g:Nat) (a c:List AV) (l:List α),(∀x,(enc x).length=m)->qt a=true->qt c=true->l.length<=qf->
 (∀x ∈ l,qc P g (a++([.agg (enc x)]++c)) (.b (p x)))->qc P f [.fz l.length (l.flatMap enc),.fn g a c] (.i .i64 (jf p l 0))
def wy:IFn:=⟨[.tmp 4],.seq (.r [.m 4 (.k 0)]) (.seq (.seq (.r [.n 6 0,.e 7 6,.m 8 (.k 0)]) (.blk 0 (.loop (.seq (.r [.s 9 8 7]) (.seq (.cond (.t 9) (.skip) (.exit 0)) (.seq (.blk 1 (.seq (.r [.n 10 8,.n 5 10]) (.seq (.r [.n 11 1,.n 12 0,.n 13 5,.i 14 1 12 13,.d 15 14,⟨(some 16),.callV (.t 11) [.t 15],none⟩]) (.cond (.t 16) (.seq (.r [.n 17 5,.n 4 17]) (.ret)) (.skip))))) (.r [.a 18 8 1,.n 8 18]))))))) (.seq (.r [.q 4 (.mov (.c (.i .i64 (-1))))]) (.ret)))⟩
theorem qkw(hc:qj P f wy=true):qcl P f:=by
 intro α enc p g a c l ha hc' hl hp;refine qc.mk hc (by simp[qt,clo,ha,hc']) ?_;simp only[wy,vI,simprocAttr];simp only[↓vS,vT,simprocAttr];refine SL.loop (α:=Nat) (fun j=>[(0,.fz l.length (l.map enc)),(1,.fn g a c),(7,.i .i64 l.length),(8,.i .i64 j)]) (fun _=>[]) (fun j=>j<=l.length∧jf p l 0=jf p (l.drop j) j) (fun j=>l.length-j) 0 [] ?_ ?_ ?_ rfl ?_ ?_
 ·simp[vw,qa,ha,hc']
 ·trivial
 ·simp
 ·simp
 rintro j ⟨hj,hI⟩ G ih;simp only[vI,simprocAttr]
 by_cases hlt:j<l.length
 ·have hx:l[j]?=some l[j]:=List.getElem?_eq_getElem hlt;have hw:IntKind.wrap .i64 ((j:Int)+1)=(j:Int)+1:=qB (by omega) (by have:=hl;simp only[qf] at this;omega)
  rw[List.drop_eq_getElem_cons hlt,jf] at hI;simp only[↓vS,vT,simprocAttr,hlt,Nat.mul_one,List.getElem?_map,hx,Option.map_some,hw];refine (hp l[j] (List.getElem_mem hlt)).sc ?_
  by_cases hpx:p l[j]=true
  ·rw[if_pos hpx] at hI;simp only[↓vS,vT,simprocAttr,hpx,vZ,hI]
  ·rw[if_neg hpx] at hI;simp only[↓vS,vT,simprocAttr,hpx,hw];refine ih (j+1) ⟨by omega,hI⟩ (by omega) _ _ (Wk.mk _ _ [] ?_ ?_ ?_ rfl)
   ·simp[vw,qa,ha,hc']
   ·trivial
   ·simp
 ·simp only[↓vS,vT,simprocAttr,hlt];rw[List.drop_eq_nil_of_le (by omega)] at hI;simp[hI,jf,vZ]
def x4:IFn:=⟨[.tmp 4],.seq (.r [.m 4 (.k 0)]) (.seq (.seq (.r [.n 6 0,.e 7 6,.m 8 (.k 0)]) (.blk 0 (.loop (.seq (.r [.s 9 8 7]) (.seq (.cond (.t 9) (.skip) (.exit 0)) (.seq (.blk 1 (.seq (.r [.n 10 8,.n 5 10]) (.seq (.r [.n 11 1,.n 12 0,.n 13 5,.i 14 1 12 13,.d 15 14,⟨(some 16),.callV (.t 11) [.t 15],none⟩]) (.cond (.t 16) (.seq (.r [.n 17 5,.n 4 17]) (.ret)) (.skip))))) (.r [.a 18 8 1,.n 8 18]))))))) (.seq (.r [.q 4 (.mov (.c (.i .i64 (-1))))]) (.ret)))⟩
theorem qkx(hc:qj P f x4=true):qcl P f:=by
 intro α enc p g a c l ha hc' hl hp;refine qc.mk hc (by simp[qt,clo,ha,hc']) ?_;simp only[x4,vI,simprocAttr];simp only[↓vS,vT,simprocAttr];refine SL.loop (α:=Nat) (fun j=>[(0,.fz l.length (l.map enc)),(1,.fn g a c),(7,.i .i64 l.length),(8,.i .i64 j)]) (fun _=>[]) (fun j=>j<=l.length∧jf p l 0=jf p (l.drop j) j) (fun j=>l.length-j) 0 [] ?_ ?_ ?_ rfl ?_ ?_
 ·simp[vw,qa,ha,hc']
 ·trivial
 ·simp
 ·simp
 rintro j ⟨hj,hI⟩ G ih;simp only[vI,simprocAttr]
 by_cases hlt:j<l.length
 ·have hx:l[j]?=some l[j]:=List.getElem?_eq_getElem hlt;have hw:IntKind.wrap .i64 ((j:Int)+1)=(j:Int)+1:=qB (by omega) (by have:=hl;simp only[qf] at this;omega)
  rw[List.drop_eq_getElem_cons hlt,jf] at hI;simp only[↓vS,vT,simprocAttr,hlt,Nat.mul_one,List.getElem?_map,hx,Option.map_some,hw];refine (hp l[j] (List.getElem_mem hlt)).sc ?_
  by_cases hpx:p l[j]=true
  ·rw[if_pos hpx] at hI;simp only[↓vS,vT,simprocAttr,hpx,vZ,hI]
  ·rw[if_neg hpx] at hI;simp only[↓vS,vT,simprocAttr,hpx,hw];refine ih (j+1) ⟨by omega,hI⟩ (by omega) _ _ (Wk.mk _ _ [] ?_ ?_ ?_ rfl)
   ·simp[vw,qa,ha,hc']
   ·trivial
   ·simp
 ·simp only[↓vS,vT,simprocAttr,hlt];rw[List.drop_eq_nil_of_le (by omega)] at hI;simp[hI,jf,vZ]
def xf:IFn:=⟨[.tmp 4],.seq (.r [.m 4 (.k 0)]) (.seq (.seq (.r [.n 6 0,.e 7 6,.m 8 (.k 0)]) (.blk 0 (.loop (.seq (.r [.s 9 8 7]) (.seq (.cond (.t 9) (.skip) (.exit 0)) (.seq (.blk 1 (.seq (.r [.n 10 8,.n 5 10]) (.seq (.r [.n 11 1,.n 12 0,.n 13 5,.i 14 2 12 13,.v 15 2 14,⟨(some 16),.callV (.t 11) [.t 15],none⟩]) (.cond (.t 16) (.seq (.r [.n 17 5,.n 4 17]) (.ret)) (.skip))))) (.r [.a 18 8 1,.n 8 18]))))))) (.seq (.r [.q 4 (.mov (.c (.i .i64 (-1))))]) (.ret)))⟩
theorem qiU(hc:qj P f xf=true):ZO 2 P f:=by
 intro α enc p g a c l hlen ha hc' hl hp;refine qc.mk hc (by simp[qt,clo,ha,hc']) ?_;simp only[xf,vI,simprocAttr];simp only[↓vS,vT,simprocAttr];refine SL.loop (α:=Nat) (fun j=>[(0,.fz l.length (l.flatMap enc)),(1,.fn g a c),(7,.i .i64 l.length),(8,.i .i64 j)]) (fun _=>[]) (fun j=>j<=l.length∧jf p l 0=jf p (l.drop j) j) (fun j=>l.length-j) 0 [] ?_ ?_ ?_ rfl ?_ ?_
 ·simp[vw,qa,ha,hc']
 ·trivial
 ·simp
 ·simp
 rintro j ⟨hj,hI⟩ G ih;simp only[vI,simprocAttr]
 by_cases hlt:j<l.length
 ·have hx:l[j]?=some l[j]:=List.getElem?_eq_getElem hlt;have hw:IntKind.wrap .i64 ((j:Int)+1)=(j:Int)+1:=qB (by omega) (by have:=hl;simp only[qf] at this;omega)
  have he:=xc hlen hx;have hb:j*2+2<=(l.flatMap enc).length:=by rw[zY hlen];omega
  rw[List.drop_eq_getElem_cons hlt,jf] at hI;simp only[↓vS,vT,simprocAttr,hlt,hb,he,hw];refine (hp l[j] (List.getElem_mem hlt)).sc ?_
  by_cases hpx:p l[j]=true
  ·rw[if_pos hpx] at hI;simp only[↓vS,vT,simprocAttr,hpx,vZ,hI]
  ·rw[if_neg hpx] at hI;simp only[↓vS,vT,simprocAttr,hpx,hw];refine ih (j+1) ⟨by omega,hI⟩ (by omega) _ _ (Wk.mk _ _ [] ?_ ?_ ?_ rfl)
   ·simp[vw,qa,ha,hc']
   ·trivial
   ·simp
 ·simp only[↓vS,vT,simprocAttr,hlt];rw[List.drop_eq_nil_of_le (by omega)] at hI;simp[hI,jf,vZ]
def zZ:IFn:=⟨[.tmp 4],.seq (.r [.m 4 (.k 0)]) (.seq (.seq (.r [.n 6 0,.e 7 6,.m 8 (.k 0)]) (.blk 0 (.loop (.seq (.r [.s 9 8 7]) (.seq (.cond (.t 9) (.skip) (.exit 0)) (.seq (.blk 1 (.seq (.r [.n 10 8,.n 5 10]) (.seq (.r [.n 11 1,.n 12 0,.n 13 5,.i 14 7 12 13,.v 15 7 14,⟨(some 16),.callV (.t 11) [.t 15],none⟩]) (.cond (.t 16) (.seq (.r [.n 17 5,.n 4 17]) (.ret)) (.skip))))) (.r [.a 18 8 1,.n 8 18]))))))) (.seq (.r [.q 4 (.mov (.c (.i .i64 (-1))))]) (.ret)))⟩
theorem qiV(hc:qj P f zZ=true):ZO 7 P f:=by
 intro α enc p g a c l hlen ha hc' hl hp;refine qc.mk hc (by simp[qt,clo,ha,hc']) ?_;simp only[zZ,vI,simprocAttr];simp only[↓vS,vT,simprocAttr];refine SL.loop (α:=Nat) (fun j=>[(0,.fz l.length (l.flatMap enc)),(1,.fn g a c),(7,.i .i64 l.length),(8,.i .i64 j)]) (fun _=>[]) (fun j=>j<=l.length∧jf p l 0=jf p (l.drop j) j) (fun j=>l.length-j) 0 [] ?_ ?_ ?_ rfl ?_ ?_
 ·simp[vw,qa,ha,hc']
 ·trivial
 ·simp
 ·simp
 rintro j ⟨hj,hI⟩ G ih;simp only[vI,simprocAttr]
 by_cases hlt:j<l.length
 ·have hx:l[j]?=some l[j]:=List.getElem?_eq_getElem hlt;have hw:IntKind.wrap .i64 ((j:Int)+1)=(j:Int)+1:=qB (by omega) (by have:=hl;simp only[qf] at this;omega)
  have he:=xc hlen hx;have hb:j*7+7<=(l.flatMap enc).length:=by rw[zY hlen];omega
  rw[List.drop_eq_getElem_cons hlt,jf] at hI;simp only[↓vS,vT,simprocAttr,hlt,hb,he,hw];refine (hp l[j] (List.getElem_mem hlt)).sc ?_
  by_cases hpx:p l[j]=true
  ·rw[if_pos hpx] at hI;simp only[↓vS,vT,simprocAttr,hpx,vZ,hI]
  ·rw[if_neg hpx] at hI;simp only[↓vS,vT,simprocAttr,hpx,hw];refine ih (j+1) ⟨by omega,hI⟩ (by omega) _ _ (Wk.mk _ _ [] ?_ ?_ ?_ rfl)
   ·simp[vw,qa,ha,hc']
   ·trivial
   ·simp
 ·simp only[↓vS,vT,simprocAttr,hlt];rw[List.drop_eq_nil_of_le (by omega)] at hI;simp[hI,jf,vZ]
def xq:IFn:=⟨[.tmp 4],.seq (.r [.m 4 (.k 0)]) (.seq (.seq (.r [.n 6 0,.e 7 6,.m 8 (.k 0)]) (.blk 0 (.loop (.seq (.r [.s 9 8 7]) (.seq (.cond (.t 9) (.skip) (.exit 0)) (.seq (.blk 1 (.seq (.r [.n 10 8,.n 5 10]) (.seq (.r [.n 11 1,.n 12 0,.n 13 5,.i 14 2 12 13,.v 15 2 14,⟨(some 16),.callV (.t 11) [.t 15],none⟩]) (.cond (.t 16) (.seq (.r [.n 17 5,.n 4 17]) (.ret)) (.skip))))) (.r [.a 18 8 1,.n 8 18]))))))) (.seq (.r [.q 4 (.mov (.c (.i .i64 (-1))))]) (.ret)))⟩
theorem qfw(hc:qj P f xq=true):ZO 2 P f:=by
 intro α enc p g a c l hlen ha hc' hl hp;refine qc.mk hc (by simp[qt,clo,ha,hc']) ?_;simp only[xq,vI,simprocAttr];simp only[↓vS,vT,simprocAttr];refine SL.loop (α:=Nat) (fun j=>[(0,.fz l.length (l.flatMap enc)),(1,.fn g a c),(7,.i .i64 l.length),(8,.i .i64 j)]) (fun _=>[]) (fun j=>j<=l.length∧jf p l 0=jf p (l.drop j) j) (fun j=>l.length-j) 0 [] ?_ ?_ ?_ rfl ?_ ?_
 ·simp[vw,qa,ha,hc']
 ·trivial
 ·simp
 ·simp
 rintro j ⟨hj,hI⟩ G ih;simp only[vI,simprocAttr]
 by_cases hlt:j<l.length
 ·have hx:l[j]?=some l[j]:=List.getElem?_eq_getElem hlt;have hw:IntKind.wrap .i64 ((j:Int)+1)=(j:Int)+1:=qB (by omega) (by have:=hl;simp only[qf] at this;omega)
  have he:=xc hlen hx;have hb:j*2+2<=(l.flatMap enc).length:=by rw[zY hlen];omega
  rw[List.drop_eq_getElem_cons hlt,jf] at hI;simp only[↓vS,vT,simprocAttr,hlt,hb,he,hw];refine (hp l[j] (List.getElem_mem hlt)).sc ?_
  by_cases hpx:p l[j]=true
  ·rw[if_pos hpx] at hI;simp only[↓vS,vT,simprocAttr,hpx,vZ,hI]
  ·rw[if_neg hpx] at hI;simp only[↓vS,vT,simprocAttr,hpx,hw];refine ih (j+1) ⟨by omega,hI⟩ (by omega) _ _ (Wk.mk _ _ [] ?_ ?_ ?_ rfl)
   ·simp[vw,qa,ha,hc']
   ·trivial
   ·simp
 ·simp only[↓vS,vT,simprocAttr,hlt];rw[List.drop_eq_nil_of_le (by omega)] at hI;simp[hI,jf,vZ]
end Go.Kc
end
section
/- What slices.DeleteFunc makes of a row of one's own. Condition: the functions' texts are these. -/
namespace Go.Kc
variable {P:Program} {f:Nat}
theorem Vr{α:Type}{p:α->Bool}{l:List α}(h:jf p l 0 = -1):l.filter (fun x=>!p x)=l:=by
 rcases Qc p l 0 with⟨_,h2⟩|⟨i,x,h1,_⟩
 ·rw[List.filter_eq_self];intro x hx;have:=List.find?_eq_none.1 h2 x hx;simpa using this
 ·rw[h1] at h;omega
def wc(a:Nat):IFn:=⟨[.tmp 4],.seq (.r [.m 4 .N]) (.seq (.r [.n 8 0,.n 9 1,.l 10 a [.t 8,.t 9],.n 5 10]) (.seq (.seq (.r [.n 11 5,.q 12 (.bin .eql (.t 11) (.c (.i .i64 (-1))))]) (.cond (.t 12) (.seq (.r [.n 13 0,.n 4 13]) (.ret)) (.skip))) (.seq (.seq (.r [.n 14 5,.a 15 14 1,.n 6 15]) (.blk 0 (.loop (.seq (.seq (.r [.n 16 6,.n 17 0,.e 18 17,.s 19 16 18]) (.cond (.t 19) (.skip) (.exit 0))) (.seq (.blk 1 (.seq (.r [.n 22 0,.n 23 6,.i 24 1 22 23,.d 25 24,.n 7 25]) (.seq (.r [.n 26 1,.n 27 7,⟨(some 28),.callV (.t 26) [.t 27],none⟩,.q 29 (.un .not (.t 28))]) (.cond (.t 29) (.seq (.r [.n 30 0,.n 31 5,.n 32 7,.i 33 1 30 31,.u (.store 1 (.t 33) (.t 32))]) (.r [.n 34 5,.a 35 34 1,.n 5 35])) (.skip))))) (.r [.n 20 6,.a 21 20 1,.n 6 21])))))) (.seq (.r [.n 36 0,.n 37 5,.q 38 (.slcS 1 (.t 36) (some (.t 37)) none none),.u (.clear [.i .i64 0] (.t 38))]) (.seq (.r [.n 39 0,.n 40 5,.q 41 (.slcS 1 (.t 39) none (some (.t 40)) none),.n 4 41]) (.ret))))))⟩
def VO(P:Program)(f:Nat):Prop:=∀(p:Int->Bool) (g:Nat) (a c:List AV) (l:List Int),qt a=true->qt c=true->l.length<=qf->(∀x ∈ l,qc P g (a++([.i .i64 x]++c)) (.b (p x)))->
 Upd P f [.own 0 l.length,.fn g a c] [.cells 1 true true (rI .i64 l)] (.own 0 (l.filter fun x=>!p x).length) [.cells 1 true true (rI .i64 (l.filter fun x=>!p x))]
theorem qiq{g1:Nat}(hc:qj P f (wc g1)=true)(h1:qcl P g1):VO P f:=by
 intro p g a c l ha hcc hl hp;have hl2:=hl;simp only[qf] at hl2;refine Upd.mkS hc (by simp[z8,bnd,qr ha,qr hcc]) (Nat.le_refl _) (qq ?_);simp only[wc,vI,simprocAttr];simp only[↓vS,vT,simprocAttr];refine (h1 (.i .i64) p g a c l ha hcc hl hp).lend (vs':=[.fz l.length (rI .i64 l),.fn g a c]) ?_ rfl ?_
 ·simp[vZ,vP,Tr.get_set,qE ha,qE hcc,qE qh];intro h0;rw[h0];rfl
 rcases Qc p l 0 with⟨hi,_⟩|⟨i,x,hi,hx,hpx,_,hb⟩
 ·simp only[↓vS,vT,simprocAttr,hi,Int.reduceNeg];refine ZK.w (fun _=>⟨[0],?_⟩) (Nat.le_refl _)
  rw[Vr hi];simp[vw,qa,qh]
 ·have hne:¬((i:Nat):Int) = -1:=by omega
  have hil:i<l.length:=(List.getElem?_eq_some_iff.1 hx).1;have hw:IntKind.wrap .i64 ((i:Int)+1)=(i:Int)+1:=qB (by omega) (by omega);rw[Nat.zero_add] at hi;simp only[↓vS,vT,simprocAttr,hi,hne,hw]
  have htk:(l.take i).filter (fun x=>!p x)=l.take i:=by
   rw[List.filter_eq_self];intro y hy;obtain⟨k,hk,rfl⟩:=List.getElem_of_mem hy;simp at hk;rw[List.getElem_take];simp[hb k _ (by omega) (List.getElem?_eq_getElem (by omega))]
  have htk1:(l.take (i+1)).filter (fun x=>!p x)=l.take i:=by
   rw[List.take_add_one,hx,List.filter_append,htk];simp[hpx]
  refine SL.loopn (α:=Nat×List Int) (fun s=>[(0,.own 0 l.length),(1,.fn g a c),(5,.i .i64 (((l.take s.1).filter fun x=>!p x).length:Int)),(6,.i .i64 (s.1:Int))])
   (fun s=>[.cells 1 true true (rI .i64 (((l.take s.1).filter fun x=>!p x)++(s.2++l.drop s.1)))]) (fun s=>s.1<=l.length∧((l.take s.1).filter fun x=>!p x).length+s.2.length=s.1) (fun s=>l.length-s.1) (i+1,[x]) [0] ?_ ?_ ?_ rfl (Nat.le_refl _) ?_ ?_ ?_
  ·simp[vw,qa,ha,hcc,htk1];omega
  ·have:(l.take i++([x]++l.drop (i+1)))=l:=by
    have h2:=List.take_append_drop i l;rw[List.drop_eq_getElem_cons hil] at h2;obtain⟨_,rfl⟩:=List.getElem?_eq_some_iff.1 hx;simpa using h2
   dsimp only;rw[htk1,this];simp[vw,qa,qh]
  ·simp[vw]
  ·intro b hb;obtain rfl:b=0:=by simpa using hb
   simp[qbA]
  ·refine⟨by omega,?_⟩
   dsimp only;rw[htk1];simp;omega
  rintro⟨j,mid⟩ ⟨hj,hm⟩ G ih;dsimp only at hj hm ih ⊢;simp only[vI,simprocAttr];generalize hF:(l.take j).filter (fun x=>!p x)=F at hm ih ⊢
  by_cases hlt:j<l.length
  ·have hxj:l[j]?=some l[j]:=List.getElem?_eq_getElem hlt;have hwj:IntKind.wrap .i64 ((j:Int)+1)=(j:Int)+1:=qB (by omega) (by omega);have hwi:IntKind.wrap .i64 ((F.length:Int)+1)=(F.length:Int)+1:=qB (by omega) (by omega)
   have hget:(rI .i64 (F++(mid++l.drop j)))[j]?=some (.i .i64 l[j]):=by
    rw[x9,← List.append_assoc,List.getElem?_append_right (by simp;omega),List.getElem?_drop];simp[hm,hxj]
   have htj:(l.take (j+1)).filter (fun x=>!p x)=F++(if p l[j]=true then [] else [l[j]]):=by
    rw[List.take_add_one,hxj,List.filter_append,hF];cases hpj:p l[j]<;>simp[hpj]
   simp only[↓vS,vT,simprocAttr,hlt,hget,Nat.mul_one];refine (hp l[j] (List.getElem_mem hlt)).sc ?_
   by_cases hpj:p l[j]=true
   ·simp only[↓vS,vT,simprocAttr,hpj,hwj];rw[hpj] at htj;refine ih (j+1,mid++[l[j]]) ⟨by omega,by rw[htj];simp;omega⟩ (by dsimp only;omega) _ _ (Wk.mkn _ _ [0] ?_ ?_ ?_ rfl (Nat.le_refl _) ?_)
    ·simp[vw,qa,ha,hcc,htj]
    ·have e:(F++(mid++l.drop j))=(((l.take (j+1)).filter fun x=>!p x)++((mid++[l[j]])++l.drop (j+1))):=by
      rw[htj,List.drop_eq_getElem_cons hlt];simp
     dsimp only;rw[← e];simp[vw,qa,qh]
    ·simp[vw]
    ·intro b hb;obtain rfl:b=0:=by simpa using hb
     simp[qbA]
   ·have hFl:F.length<l.length:=by omega
    have hlen:F.length+1<=(rI .i64 (F++(mid++l.drop j))).length:=by rw[wV];simp;omega
    have hFn:(F.length:Int)<l.length:=by omega
    simp only[↓vS,vT,simprocAttr,hpj,hwj,hwi,hFl,hlen,Nat.mul_one];rw[if_neg hpj] at htj
    have hset:rI .i64 ((F++(mid++l.drop j)).take F.length)++(AV.i .i64 l[j]::rI .i64 ((F++(mid++l.drop j)).drop (F.length+1)))=rI .i64 (((l.take (j+1)).filter fun x=>!p x)++((mid++[l[j]]).tail++l.drop (j+1))):=by
     rw[htj,← qfL,Z7,List.take_left' rfl,← List.drop_drop,List.drop_left' rfl,List.drop_eq_getElem_cons hlt];cases mid<;>simp
    simp only[QY,JF,hset];refine ih (j+1,(mid++[l[j]]).tail) ⟨by omega,by rw[htj];simp;omega⟩ (by dsimp only;omega) _ _ (Wk.mkn _ _ [0] ?_ ?_ ?_ rfl (Nat.le_refl _) ?_)
    ·simp[vw,qa,ha,hcc,htj]
    ·simp[vw,qa,qh]
    ·simp[vw]
    ·intro b hb;obtain rfl:b=0:=by simpa using hb
     simp[qbA]
  ·obtain rfl:j=l.length:=by omega
   have hl0:¬l.length=0:=by omega
   have hFl:F.length<=l.length:=by omega
   have hrl:(rI .i64 (F++(mid++l.drop l.length))).length=l.length:=by rw[wV];simp;omega
   have hz:¬l.length-F.length=0:=by
    intro hz;have:F.length=l.length:=by omega
    rw[← hF,List.take_length] at this;have h2:=List.length_filter_eq_length_iff.1 this x (List.mem_of_getElem? hx);simp[hpx] at h2
   have hsum:F.length+(l.length-F.length)=l.length:=by omega
   simp only[↓vS,vT,simprocAttr,hlt,hl0,hFl,Nat.mul_one,hz,qcR,qjX,J2,wV,List.length_replicate,hrl,hsum,QY,JF,Z7,Int.ofNat_le];rw[List.take_length] at hF;subst hF;refine ZJ.closed (by simp[Tr.get_set];exact⟨rfl,rfl⟩) rfl ?_ hFl ?_ qh
   ·rw[wV];simp;omega
   ·rw[Nat.mul_one,QY,List.take_left' (by simp)]
def xL(a:Nat):IFn:=⟨[.tmp 4],.seq (.r [.m 4 .N]) (.seq (.r [.n 8 0,.n 9 1,.l 10 a [.t 8,.t 9],.n 5 10]) (.seq (.seq (.r [.n 11 5,.q 12 (.bin .eql (.t 11) (.c (.i .i64 (-1))))]) (.cond (.t 12) (.seq (.r [.n 13 0,.n 4 13]) (.ret)) (.skip))) (.seq (.seq (.r [.n 14 5,.a 15 14 1,.n 6 15]) (.blk 0 (.loop (.seq (.seq (.r [.n 16 6,.n 17 0,.e 18 17,.s 19 16 18]) (.cond (.t 19) (.skip) (.exit 0))) (.seq (.blk 1 (.seq (.r [.n 22 0,.n 23 6,.i 24 1 22 23,.d 25 24,.n 7 25]) (.seq (.r [.n 26 1,.n 27 7,⟨(some 28),.callV (.t 26) [.t 27],none⟩,.q 29 (.un .not (.t 28))]) (.cond (.t 29) (.seq (.r [.n 30 0,.n 31 5,.n 32 7,.i 33 1 30 31,.u (.store 1 (.t 33) (.t 32))]) (.r [.n 34 5,.a 35 34 1,.n 5 35])) (.skip))))) (.r [.n 20 6,.a 21 20 1,.n 6 21])))))) (.seq (.r [.n 36 0,.n 37 5,.q 38 (.slcS 1 (.t 36) (some (.t 37)) none none),.u (.clear [.i .u32 0] (.t 38))]) (.seq (.r [.n 39 0,.n 40 5,.q 41 (.slcS 1 (.t 39) none (some (.t 40)) none),.n 4 41]) (.ret))))))⟩
def VP(P:Program)(f:Nat):Prop:=∀(p:Int->Bool) (g:Nat) (a c:List AV) (l:List Int),qt a=true->qt c=true->l.length<=qf->(∀x ∈ l,qc P g (a++([.i .u32 x]++c)) (.b (p x)))->
 Upd P f [.own 0 l.length,.fn g a c] [.cells 1 true true (rI .u32 l)] (.own 0 (l.filter fun x=>!p x).length) [.cells 1 true true (rI .u32 (l.filter fun x=>!p x))]
theorem qir{g1:Nat}(hc:qj P f (xL g1)=true)(h1:qcl P g1):VP P f:=by
 intro p g a c l ha hcc hl hp;have hl2:=hl;simp only[qf] at hl2;refine Upd.mkS hc (by simp[z8,bnd,qr ha,qr hcc]) (Nat.le_refl _) (qq ?_);simp only[xL,vI,simprocAttr];simp only[↓vS,vT,simprocAttr];refine (h1 (.i .u32) p g a c l ha hcc hl hp).lend (vs':=[.fz l.length (rI .u32 l),.fn g a c]) ?_ rfl ?_
 ·simp[vZ,vP,Tr.get_set,qE ha,qE hcc,qE qh];intro h0;rw[h0];rfl
 rcases Qc p l 0 with⟨hi,_⟩|⟨i,x,hi,hx,hpx,_,hb⟩
 ·simp only[↓vS,vT,simprocAttr,hi,Int.reduceNeg];refine ZK.w (fun _=>⟨[0],?_⟩) (Nat.le_refl _)
  rw[Vr hi];simp[vw,qa,qh]
 ·have hne:¬((i:Nat):Int) = -1:=by omega
  have hil:i<l.length:=(List.getElem?_eq_some_iff.1 hx).1;have hw:IntKind.wrap .i64 ((i:Int)+1)=(i:Int)+1:=qB (by omega) (by omega);rw[Nat.zero_add] at hi;simp only[↓vS,vT,simprocAttr,hi,hne,hw]
  have htk:(l.take i).filter (fun x=>!p x)=l.take i:=by
   rw[List.filter_eq_self];intro y hy;obtain⟨k,hk,rfl⟩:=List.getElem_of_mem hy;simp at hk;rw[List.getElem_take];simp[hb k _ (by omega) (List.getElem?_eq_getElem (by omega))]
  have htk1:(l.take (i+1)).filter (fun x=>!p x)=l.take i:=by
   rw[List.take_add_one,hx,List.filter_append,htk];simp[hpx]
  refine SL.loopn (α:=Nat×List Int) (fun s=>[(0,.own 0 l.length),(1,.fn g a c),(5,.i .i64 (((l.take s.1).filter fun x=>!p x).length:Int)),(6,.i .i64 (s.1:Int))])
   (fun s=>[.cells 1 true true (rI .u32 (((l.take s.1).filter fun x=>!p x)++(s.2++l.drop s.1)))]) (fun s=>s.1<=l.length∧((l.take s.1).filter fun x=>!p x).length+s.2.length=s.1) (fun s=>l.length-s.1) (i+1,[x]) [0] ?_ ?_ ?_ rfl (Nat.le_refl _) ?_ ?_ ?_
  ·simp[vw,qa,ha,hcc,htk1];omega
  ·have:(l.take i++([x]++l.drop (i+1)))=l:=by
    have h2:=List.take_append_drop i l;rw[List.drop_eq_getElem_cons hil] at h2;obtain⟨_,rfl⟩:=List.getElem?_eq_some_iff.1 hx;simpa using h2
   dsimp only;rw[htk1,this];simp[vw,qa,qh]
  ·simp[vw]
  ·intro b hb;obtain rfl:b=0:=by simpa using hb
   simp[qbA]
  ·refine⟨by omega,?_⟩
   dsimp only;rw[htk1];simp;omega
  rintro⟨j,mid⟩ ⟨hj,hm⟩ G ih;dsimp only at hj hm ih ⊢;simp only[vI,simprocAttr];generalize hF:(l.take j).filter (fun x=>!p x)=F at hm ih ⊢
  by_cases hlt:j<l.length
  ·have hxj:l[j]?=some l[j]:=List.getElem?_eq_getElem hlt;have hwj:IntKind.wrap .i64 ((j:Int)+1)=(j:Int)+1:=qB (by omega) (by omega);have hwi:IntKind.wrap .i64 ((F.length:Int)+1)=(F.length:Int)+1:=qB (by omega) (by omega)
   have hget:(rI .u32 (F++(mid++l.drop j)))[j]?=some (.i .u32 l[j]):=by
    rw[x9,← List.append_assoc,List.getElem?_append_right (by simp;omega),List.getElem?_drop];simp[hm,hxj]
   have htj:(l.take (j+1)).filter (fun x=>!p x)=F++(if p l[j]=true then [] else [l[j]]):=by
    rw[List.take_add_one,hxj,List.filter_append,hF];cases hpj:p l[j]<;>simp[hpj]
   simp only[↓vS,vT,simprocAttr,hlt,hget,Nat.mul_one];refine (hp l[j] (List.getElem_mem hlt)).sc ?_
   by_cases hpj:p l[j]=true
   ·simp only[↓vS,vT,simprocAttr,hpj,hwj];rw[hpj] at htj;refine ih (j+1,mid++[l[j]]) ⟨by omega,by rw[htj];simp;omega⟩ (by dsimp only;omega) _ _ (Wk.mkn _ _ [0] ?_ ?_ ?_ rfl (Nat.le_refl _) ?_)
    ·simp[vw,qa,ha,hcc,htj]
    ·have e:(F++(mid++l.drop j))=(((l.take (j+1)).filter fun x=>!p x)++((mid++[l[j]])++l.drop (j+1))):=by
      rw[htj,List.drop_eq_getElem_cons hlt];simp
     dsimp only;rw[← e];simp[vw,qa,qh]
    ·simp[vw]
    ·intro b hb;obtain rfl:b=0:=by simpa using hb
     simp[qbA]
   ·have hFl:F.length<l.length:=by omega
    have hlen:F.length+1<=(rI .u32 (F++(mid++l.drop j))).length:=by rw[wV];simp;omega
    have hFn:(F.length:Int)<l.length:=by omega
    simp only[↓vS,vT,simprocAttr,hpj,hwj,hwi,hFl,hlen,Nat.mul_one];rw[if_neg hpj] at htj
    have hset:rI .u32 ((F++(mid++l.drop j)).take F.length)++(AV.i .u32 l[j]::rI .u32 ((F++(mid++l.drop j)).drop (F.length+1)))=rI .u32 (((l.take (j+1)).filter fun x=>!p x)++((mid++[l[j]]).tail++l.drop (j+1))):=by
     rw[htj,← qfL,Z7,List.take_left' rfl,← List.drop_drop,List.drop_left' rfl,List.drop_eq_getElem_cons hlt];cases mid<;>simp
    simp only[QY,JF,hset];refine ih (j+1,(mid++[l[j]]).tail) ⟨by omega,by rw[htj];simp;omega⟩ (by dsimp only;omega) _ _ (Wk.mkn _ _ [0] ?_ ?_ ?_ rfl (Nat.le_refl _) ?_)
    ·simp[vw,qa,ha,hcc,htj]
    ·simp[vw,qa,qh]
    ·simp[vw]
    ·intro b hb;obtain rfl:b=0:=by simpa using hb
     simp[qbA]
  ·obtain rfl:j=l.length:=by omega
   have hl0:¬l.length=0:=by omega
   have hFl:F.length<=l.length:=by omega
   have hrl:(rI .u32 (F++(mid++l.drop l.length))).length=l.length:=by rw[wV];simp;omega
   have hz:¬l.length-F.length=0:=by
    intro hz;have:F.length=l.length:=by omega
    rw[← hF,List.take_length] at this;have h2:=List.length_filter_eq_length_iff.1 this x (List.mem_of_getElem? hx);simp[hpx] at h2
   have hsum:F.length+(l.length-F.length)=l.length:=by omega
   simp only[↓vS,vT,simprocAttr,hlt,hl0,hFl,Nat.mul_one,hz,qcR,qjX,J2,wV,List.length_replicate,hrl,hsum,QY,JF,Z7,Int.ofNat_le];rw[List.take_length] at hF;subst hF;refine ZJ.closed (by simp[Tr.get_set];exact⟨rfl,rfl⟩) rfl ?_ hFl ?_ qh
   ·rw[wV];simp;omega
   ·rw[Nat.mul_one,QY,List.take_left' (by simp)]
end Go.Kc
end
section
/- What slices.Insert makes of a row of one's own. Condition: the functions' texts are these. -/
namespace Go.Kc
variable {P:Program} {f:Nat}
def Jq(m by':Nat)(P:Program)(f:Nat):Prop:=∀(n i:Nat) (R E:List AV),R.length=n*m->E.length=m->qt R=true->qt E=true->qJ R=true->qJ E=true->i<=n->n+1<=qf->(n+1)*by'<=qf->
 Upd P f [.own 0 n,.i .i64 i,.sl 1 0 1 1 false] [.cells m true true R,.cells 0 true false E] (.own 2 (n+1)) [.dead,.cells 0 true false E,.cells m true true (R.take (i*m)++(E++R.drop (i*m)))]
def jm(a b:Nat):IFn:=⟨[.tmp 6],.seq (.r [.m 6 .N]) (.seq (.r [.n 10 0,.n 11 1,.q 12 (.slcS 1 (.t 10) (some (.t 11)) none none)]) (.seq (.r [.n 13 2,.e 14 13,.n 7 14]) (.seq (.seq (.r [.n 15 7,.w 16 .eql 15 0]) (.cond (.t 16) (.seq (.r [.n 17 0,.n 6 17]) (.ret)) (.skip))) (.seq (.r [.n 18 0,.e 19 18,.n 8 19]) (.seq (.seq (.r [.n 20 1,.n 21 8,.b 22 .eql 20 21]) (.cond (.t 22) (.seq (.r [.n 23 0,.n 24 2,.q 25 (.app 1 8 true (.t 23) (.t 24)),.n 6 25]) (.ret)) (.skip))) (.seq (.seq (.r [.n 26 8,.n 27 7,.b 28 .add 26 27,.n 29 0,.q 30 (.cap (.t 29)),.b 31 .gtr 28 30]) (.cond (.t 31) (.seq (.r [.n 32 0,.n 33 1,.q 34 (.slcS 1 (.t 32) none (some (.t 33)) none),.n 35 8,.n 36 7,.b 37 .add 35 36,.n 38 1,.b 39 .sub 37 38,.q 40 (.appZ 1 8 [.i .i64 0] (.t 34) (.t 39)),.n 9 40]) (.seq (.r [.n 41 9,.n 42 1,.q 43 (.slcS 1 (.t 41) (some (.t 42)) none none),.n 44 2,.q 45 (.copy 1 (.t 43) (.t 44))]) (.seq (.reg true [.n 46 9,.n 47 1,.n 48 7,.b 49 .add 47 48,.q 50 (.slcS 1 (.t 46) (some (.t 49)) none none),.n 51 0,.n 52 1,.q 53 (.slcS 1 (.t 51) (some (.t 52)) none none),.q 54 (.copy 1 (.t 50) (.t 53))]) (.seq (.r [.n 55 9,.n 6 55]) (.ret))))) (.skip))) (.seq (.r [.n 56 0,.n 57 8,.n 58 7,.b 59 .add 57 58,.q 60 (.slcS 1 (.t 56) none (some (.t 59)) none),.n 0 60]) (.seq (.seq (.r [.n 61 2,.n 62 0,.n 63 1,.n 64 7,.b 65 .add 63 64,.q 66 (.slcS 1 (.t 62) (some (.t 65)) none none),.l 67 a [.t 61,.t 66],.q 68 (.un .not (.t 67))]) (.cond (.t 68) (.seq (.reg true [.n 69 0,.n 70 1,.n 71 7,.b 72 .add 70 71,.q 73 (.slcS 1 (.t 69) (some (.t 72)) none none),.n 74 0,.n 75 1,.q 76 (.slcS 1 (.t 74) (some (.t 75)) none none),.q 77 (.copy 1 (.t 73) (.t 76))]) (.seq (.r [.n 78 0,.n 79 1,.q 80 (.slcS 1 (.t 78) (some (.t 79)) none none),.n 81 2,.q 82 (.copy 1 (.t 80) (.t 81))]) (.seq (.r [.n 83 0,.n 6 83]) (.ret)))) (.skip))) (.seq (.r [.n 84 0,.n 85 8,.q 86 (.slcS 1 (.t 84) (some (.t 85)) none none),.n 87 2,.q 88 (.copy 1 (.t 86) (.t 87))]) (.seq (.r [.n 89 0,.n 90 1,.q 91 (.slcS 1 (.t 89) (some (.t 90)) none none),.n 92 7,.l 93 b [.t 91,.t 92]]) (.seq (.r [.n 94 0,.n 6 94]) (.ret))))))))))))⟩
theorem qoY{g1 g2:Nat}(hc:qj P f (jm g1 g2)=true)(h1:qlX P g1):Jq 1 8 P f:=by
 intro n i R E hR hE hcR hcE hoR hoE hi hr hr2;have hl2:=hr;simp only[qf] at hl2;refine Upd.mkS hc (by simp[z8,bnd]) (by simp) ?_;refine S.open (a:=true) 0 0 n 1 (cs:=R) (by simp[yP,Tr.get_set]) (by rw[xt];rfl) hR (Nat.le_refl _) (by simp[Vy]) ?_ ?_
 ·intro h0;subst h0;obtain rfl:R=[]:=List.eq_nil_of_length_eq_zero (by omega);obtain rfl:i=0:=by omega
  refine qq ?_;simp only[jm,vI,simprocAttr];have hr2':1*8<=qf:=by simpa using hr2
  have hr':1<=qf:=by simpa using hr
  have ht:E.take 1=E:=List.take_of_length_le (by omega);simp only[↓vS,vT,Nat.reduceEqDiff,↓reduceIte,Nat.reduceAdd,Nat.reduceMul,Nat.reduceSub,Nat.reduceLeDiff,Nat.reduceLT,Int.reduceLE,Int.reduceLT,Int.reduceEq,Int.reduceToNat,hr',hr2',hE,ht];refine ZK.w (fun _=>⟨[0,1,2],?_⟩) (by simp)
  simp[vw,qa,hcE];decide
 ·intro c hcl;refine qq ?_;simp only[jm,vI,simprocAttr];obtain⟨U,hU⟩:∃U,U=List.replicate ((c-n)*1) AV.undef:=⟨_,rfl⟩;have hUl:U.length=(c-n)*1:=by rw[hU];simp
  rw[← hU];have hci:(i:Int)<=c:=by omega
  have hw1:IntKind.wrap .i64 ((n:Int)+1)=(n:Int)+1:=qB (by omega) (by omega);have hcells:(R++U).length=c*1:=by simp[hR,hUl];omega
  have htE:E.take 1=E:=List.take_of_length_le (by omega)
  by_cases hil:i=n
  ·subst hil
   by_cases hcap:i+1<=c
   ·have g1:i*1+1<=c*1:=by omega
    have e1:(R++U).take (i*1)=R:=List.take_left' hR;simp only[↓vS,vT,Nat.reduceEqDiff,↓reduceIte,Nat.reduceAdd,Nat.reduceMul,Nat.reduceSub,Nat.reduceLeDiff,Nat.reduceLT,Int.reduceLE,Int.reduceLT,Int.reduceEq,Int.reduceToNat,hcl,hw1,hcap,hcells,hE,htE,hoE,g1,e1];refine ZJ.closedI (a:=false) (cs:=R++(E++(R++U).drop (i*1+1))) (by simp[Tr.get_set]) (by simp[Tr.get_set]) (by simp) ?_ hcap ?_ ?_ hcE
    ·simp[hR,hE,hUl];try omega
    ·rw[← List.append_assoc,List.take_left' (by simp[hR,hE];try omega),List.take_of_length_le (Nat.le_of_eq hR),List.drop_of_length_le (Nat.le_of_eq hR)];simp
    ·rw[List.take_of_length_le (Nat.le_of_eq hR),List.drop_of_length_le (Nat.le_of_eq hR)];simp[qH,hcR,hcE]
   ·have g1:i*1<=c*1:=by omega
    have e1:(R++U).take (i*1)=R:=List.take_left' hR;simp only[↓vS,vT,Nat.reduceEqDiff,↓reduceIte,Nat.reduceAdd,Nat.reduceMul,Nat.reduceSub,Nat.reduceLeDiff,Nat.reduceLT,Int.reduceLE,Int.reduceLT,Int.reduceEq,Int.reduceToNat,hcl,hw1,hcap,hcells,hr,hr2,hE,htE,g1,e1];refine ZK.w (fun _=>⟨[0,1,2],?_⟩) (by simp)
    rw[List.take_of_length_le (Nat.le_of_eq hR),List.drop_of_length_le (Nat.le_of_eq hR),List.append_nil];have:qt (R++E)=true:=by simp[qH,hcR,hcE]
    simp[vw,qa,hcE,this];decide
  ·have hilt:i<n:=by omega
   have hi':¬(i:Int)=n:=by omega
   have hci2:¬c=i:=by omega
   simp only[↓vS,vT,Nat.reduceEqDiff,↓reduceIte,Nat.reduceAdd,Nat.reduceMul,Nat.reduceSub,Nat.reduceLeDiff,Nat.reduceLT,Int.reduceLE,Int.reduceLT,Int.reduceEq,Int.reduceToNat,hci,hcl,hi,hw1,hi',hci2];have ha:IntKind.wrap .i64 ((i:Int)+1)=(i:Int)+1:=qB (by omega) (by omega);have t1:((n:Int)+1).toNat=n+1:=by omega
   have t2:((i:Int)+1).toNat=i+1:=by omega
   have p1:(0:Int)<=(n:Int)+1:=by omega
   have p2:(0:Int)<=(i:Int)+1:=by omega
   have c0:¬c=0:=by omega
   have i1:i+1<=n+1:=by omega
   have c1:¬c=i+1∨c=i+1:=by omega
   by_cases hcap:n+1<=c
   ·have hcap':¬(c:Int)<(n:Int)+1:=by omega
    have c2:¬c=i+1:=by omega
    simp only[↓vS,vT,Nat.reduceEqDiff,↓reduceIte,Nat.reduceAdd,Nat.reduceMul,Nat.reduceSub,Nat.reduceLeDiff,Nat.reduceLT,Int.reduceLE,Int.reduceLT,Int.reduceEq,Int.reduceToNat,hcap,hcap',hcells,t1,p1,c0,ha,t2,p2,i1,c2];refine Jg h1 (a1:=false) (a2:=false) (cs1:=E) (cs2:=R++U) (e2:=1) (by simp[Tr.get_set]) (by simp[Tr.get_set]) (by decide) (by omega) (by omega) (Nat.zero_le _) (by intro hh;rw[hh] at hcells;simp at hcells;omega) ?_;simp only[↓vS,vT,Nat.reduceEqDiff,↓reduceIte,Nat.reduceAdd,Nat.reduceMul,Nat.reduceSub,Nat.reduceLeDiff,Nat.reduceLT,Int.reduceLE,Int.reduceLT,Int.reduceEq,Int.reduceToNat];refine zQ ?_;have i2:i<=n+1:=by omega
    have m1:min (n+1-i) (n+1-(i+1))=n-i:=by omega
    have m2:min 1 (n+1-i)=1:=by omega
    have b1:i*1+(n+1-i)*1<=c*1:=by omega
    have b2:(n-i)*1<=(n+1-i)*1:=by omega
    have b3:(i+1)*1+(n-i)*1<=c*1:=by omega
    have l1:(((R++U).drop (i*1)).take ((n+1-i)*1)).length=(n+1-i)*1:=by simp only[List.length_take,List.length_drop,hcells];omega
    have e2:((((R++U).drop (i*1)).take ((n+1-i)*1)).take ((n-i)*1))=R.drop (i*1):=by
     rw[List.take_take,Nat.min_eq_left b2,List.drop_append_of_le_length (by omega),List.take_left' (by simp;omega)]
    have l2:(R.drop (i*1)).length=(n-i)*1:=by simp;omega
    have o2:qJ (R.drop (i*1))=true:=by
     have h:=hoR;rw[← List.take_append_drop (i*1) R,jX,Bool.and_eq_true] at h;exact h.2
    obtain⟨L1,hL1⟩:∃L1,L1=(R++U).take ((i+1)*1)++(R.drop (i*1)++(R++U).drop ((i+1)*1+(n-i)*1)):=⟨_,rfl⟩;have l3:L1.length=c*1:=by rw[hL1];simp only[List.length_append,List.length_take,List.length_drop,hcells,l2];simp only[List.length_append] at hcells;omega
    have b4:i*1+1<=c*1:=by omega
    simp only[↓vS,vT,Nat.reduceEqDiff,↓reduceIte,Nat.reduceAdd,Nat.reduceMul,Nat.reduceSub,Nat.reduceLeDiff,Nat.reduceLT,Int.reduceLE,Int.reduceLT,Int.reduceEq,Int.reduceToNat,ha,t2,p2,i1,c2,c0,hci2,hi,hcap,i2,m1,m2,hcells,b1,l1,b2,e2,l2,b3,o2,← hL1,l3,b4,hE,htE,hoE]
    have k1:L1.take (i*1)=R.take (i*1):=by
     rw[hL1,List.take_append_of_le_length (by simp only[List.length_take,hcells];omega),List.take_take,Nat.min_eq_left (by omega),List.take_append_of_le_length (by omega)]
    have k2:L1.drop (i*1+1)=R.drop (i*1)++(R++U).drop ((i+1)*1+(n-i)*1):=by
     rw[hL1,List.drop_left' (by simp only[List.length_take,hcells];omega)]
    refine ZJ.closedI (a:=false) (cs:=L1.take (i*1)++(E++L1.drop (i*1+1))) (by simp[Tr.get_set]) (by simp[Tr.get_set]) (by simp) ?_ hcap ?_ ?_ hcE
    ·simp only[List.length_append,List.length_take,List.length_drop,l3,hE];omega
    ·rw[k1,k2,← List.append_assoc,← List.append_assoc,List.take_left' (by simp only[List.length_append,List.length_take,hE,l2];omega),List.append_assoc]
    ·have h:=hcR;rw[← List.take_append_drop (i*1) R,qH,Bool.and_eq_true] at h;simp only[qH,h.1,h.2,hcE,Bool.and_self]
   ·have hcap':(c:Int)<(n:Int)+1:=by omega
    have s1:IntKind.wrap .i64 ((n:Int)+1-i)=(n:Int)+1-i:=qB (by omega) (by omega);have s2:((n:Int)+1-i).toNat=n+1-i:=by omega
    have s3:(0:Int)<=(n:Int)+1-i:=by omega
    have s4:i+(n+1-i)=n+1:=by omega
    have s5:c<n+1:=by omega
    have s6:i*1<=c*1:=by omega
    have e1:(R++U).take (i*1)=R.take (i*1):=by rw[List.take_append_of_le_length (by omega)]
    have n1:¬n+1=0:=by omega
    have i2:i<=n+1:=by omega
    have hic:i<=c:=by omega
    have m2:min 1 (n+1-i)=1:=by omega
    have m1:min (n-i) (n+1-(i+1))=n-i:=by omega
    have zl:((List.replicate (n+1-i) ([.i .i64 0]:List AV)).flatten).length=(n+1-i)*1:=by simp[List.length_flatten]
    obtain⟨L1,hL1⟩:∃L1,L1=R.take (i*1)++(List.replicate (n+1-i) ([.i .i64 0]:List AV)).flatten:=⟨_,rfl⟩;have l1:L1.length=(n+1)*1:=by rw[hL1];simp only[List.length_append,List.length_take,zl];omega
    have b4:i*1+1<=(n+1)*1:=by omega
    have e2:((R++U).drop (i*1)).take ((n-i)*1)=R.drop (i*1):=by
     rw[List.drop_append_of_le_length (by omega),List.take_left' (by simp;omega)]
    have b5:i*1+(n-i)*1<=c*1:=by omega
    have l2:(R.drop (i*1)).length=(n-i)*1:=by simp;omega
    have e3:(R.drop (i*1)).take ((n-i)*1)=R.drop (i*1):=List.take_of_length_le (Nat.le_of_eq l2);have b6:(i+1)*1+(n-i)*1<=(n+1)*1:=by omega
    have o2:qJ (R.drop (i*1))=true:=by
     have h:=hoR;rw[← List.take_append_drop (i*1) R,jX,Bool.and_eq_true] at h;exact h.2
    obtain⟨L2,hL2⟩:∃L2,L2=L1.take (i*1)++(E++L1.drop (i*1+1)):=⟨_,rfl⟩;have l4:L2.length=(n+1)*1:=by rw[hL2];simp only[List.length_append,List.length_take,List.length_drop,l1,hE];omega
    simp only[↓vS,vT,Nat.reduceEqDiff,↓reduceIte,Nat.reduceAdd,Nat.reduceMul,Nat.reduceSub,Nat.reduceLeDiff,Nat.reduceLT,Int.reduceLE,Int.reduceLT,Int.reduceEq,Int.reduceToNat,hw1,hcap',hcells,c0,hci,hci2,hic,s1,s2,s3,s4,s5,hr,hr2,s6,e1,n1,i2,m2,hE,htE,hoE,← hL1,l1,b4,← hL2];refine zQ ?_;simp only[↓vS,vT,Nat.reduceEqDiff,↓reduceIte,Nat.reduceAdd,Nat.reduceMul,Nat.reduceSub,Nat.reduceLeDiff,Nat.reduceLT,Int.reduceLE,Int.reduceLT,Int.reduceEq,Int.reduceToNat,ha,t2,p2,i1,c0,hci2,hi,hcl,i2,m1,n1,hcells,e2,b5,l2,e3,b6,l4,o2]
    have k1:L1.take (i*1)=R.take (i*1):=by
     rw[hL1,List.take_left' (by simp;omega)]
    have k3:L2.take ((i+1)*1)++(R.drop (i*1)++L2.drop ((i+1)*1+(n-i)*1))=R.take (i*1)++(E++R.drop (i*1)):=by
     rw[show L2.drop ((i+1)*1+(n-i)*1)=[] from List.drop_of_length_le (by rw[l4];omega),List.append_nil,hL2,k1,← List.append_assoc,List.take_left' (by simp only[List.length_append,List.length_take,hE];omega),List.append_assoc]
    have hcl2:qt (R.take (i*1)++(E++R.drop (i*1)))=true:=by
     have h:=hcR;rw[← List.take_append_drop (i*1) R,qH,Bool.and_eq_true] at h;simp only[qH,h.1,h.2,hcE,Bool.and_self]
    simp only[k3];generalize R.take (i*1)++(E++R.drop (i*1))=RR at hcl2 ⊢;refine ZK.w (fun _=>⟨[0,1,2],?_⟩) (by simp)
    simp[vw,qa,hcE,hcl2];decide
def xd(a b:Nat):IFn:=⟨[.tmp 6],.seq (.r [.m 6 .N]) (.seq (.r [.n 10 0,.n 11 1,.q 12 (.slcS 1 (.t 10) (some (.t 11)) none none)]) (.seq (.r [.n 13 2,.e 14 13,.n 7 14]) (.seq (.seq (.r [.n 15 7,.w 16 .eql 15 0]) (.cond (.t 16) (.seq (.r [.n 17 0,.n 6 17]) (.ret)) (.skip))) (.seq (.r [.n 18 0,.e 19 18,.n 8 19]) (.seq (.seq (.r [.n 20 1,.n 21 8,.b 22 .eql 20 21]) (.cond (.t 22) (.seq (.r [.n 23 0,.n 24 2,.q 25 (.app 1 4 true (.t 23) (.t 24)),.n 6 25]) (.ret)) (.skip))) (.seq (.seq (.r [.n 26 8,.n 27 7,.b 28 .add 26 27,.n 29 0,.q 30 (.cap (.t 29)),.b 31 .gtr 28 30]) (.cond (.t 31) (.seq (.r [.n 32 0,.n 33 1,.q 34 (.slcS 1 (.t 32) none (some (.t 33)) none),.n 35 8,.n 36 7,.b 37 .add 35 36,.n 38 1,.b 39 .sub 37 38,.q 40 (.appZ 1 4 [.i .u32 0] (.t 34) (.t 39)),.n 9 40]) (.seq (.r [.n 41 9,.n 42 1,.q 43 (.slcS 1 (.t 41) (some (.t 42)) none none),.n 44 2,.q 45 (.copy 1 (.t 43) (.t 44))]) (.seq (.reg true [.n 46 9,.n 47 1,.n 48 7,.b 49 .add 47 48,.q 50 (.slcS 1 (.t 46) (some (.t 49)) none none),.n 51 0,.n 52 1,.q 53 (.slcS 1 (.t 51) (some (.t 52)) none none),.q 54 (.copy 1 (.t 50) (.t 53))]) (.seq (.r [.n 55 9,.n 6 55]) (.ret))))) (.skip))) (.seq (.r [.n 56 0,.n 57 8,.n 58 7,.b 59 .add 57 58,.q 60 (.slcS 1 (.t 56) none (some (.t 59)) none),.n 0 60]) (.seq (.seq (.r [.n 61 2,.n 62 0,.n 63 1,.n 64 7,.b 65 .add 63 64,.q 66 (.slcS 1 (.t 62) (some (.t 65)) none none),.l 67 a [.t 61,.t 66],.q 68 (.un .not (.t 67))]) (.cond (.t 68) (.seq (.reg true [.n 69 0,.n 70 1,.n 71 7,.b 72 .add 70 71,.q 73 (.slcS 1 (.t 69) (some (.t 72)) none none),.n 74 0,.n 75 1,.q 76 (.slcS 1 (.t 74) (some (.t 75)) none none),.q 77 (.copy 1 (.t 73) (.t 76))]) (.seq (.r [.n 78 0,.n 79 1,.q 80 (.slcS 1 (.t 78) (some (.t 79)) none none),.n 81 2,.q 82 (.copy 1 (.t 80) (.t 81))]) (.seq (.r [.n 83 0,.n 6 83]) (.ret)))) (.skip))) (.seq (.r [.n 84 0,.n 85 8,.q 86 (.slcS 1 (.t 84) (some (.t 85)) none none),.n 87 2,.q 88 (.copy 1 (.t 86) (.t 87))]) (.seq (.r [.n 89 0,.n 90 1,.q 91 (.slcS 1 (.t 89) (some (.t 90)) none none),.n 92 7,.l 93 b [.t 91,.t 92]]) (.seq (.r [.n 94 0,.n 6 94]) (.ret))))))))))))⟩
theorem qoZ{g1 g2:Nat}(hc:qj P f (xd g1 g2)=true)(h1:qlX P g1):Jq 1 4 P f:=by
 intro n i R E hR hE hcR hcE hoR hoE hi hr hr2;have hl2:=hr;simp only[qf] at hl2;refine Upd.mkS hc (by simp[z8,bnd]) (by simp) ?_;refine S.open (a:=true) 0 0 n 1 (cs:=R) (by simp[yP,Tr.get_set]) (by rw[xt];rfl) hR (Nat.le_refl _) (by simp[Vy]) ?_ ?_
 ·intro h0;subst h0;obtain rfl:R=[]:=List.eq_nil_of_length_eq_zero (by omega);obtain rfl:i=0:=by omega
  refine qq ?_;simp only[xd,vI,simprocAttr];have hr2':1*4<=qf:=by simpa using hr2
  have hr':1<=qf:=by simpa using hr
  have ht:E.take 1=E:=List.take_of_length_le (by omega);simp only[↓vS,vT,Nat.reduceEqDiff,↓reduceIte,Nat.reduceAdd,Nat.reduceMul,Nat.reduceSub,Nat.reduceLeDiff,Nat.reduceLT,Int.reduceLE,Int.reduceLT,Int.reduceEq,Int.reduceToNat,hr',hr2',hE,ht];refine ZK.w (fun _=>⟨[0,1,2],?_⟩) (by simp)
  simp[vw,qa,hcE];decide
 ·intro c hcl;refine qq ?_;simp only[xd,vI,simprocAttr];obtain⟨U,hU⟩:∃U,U=List.replicate ((c-n)*1) AV.undef:=⟨_,rfl⟩;have hUl:U.length=(c-n)*1:=by rw[hU];simp
  rw[← hU];have hci:(i:Int)<=c:=by omega
  have hw1:IntKind.wrap .i64 ((n:Int)+1)=(n:Int)+1:=qB (by omega) (by omega);have hcells:(R++U).length=c*1:=by simp[hR,hUl];omega
  have htE:E.take 1=E:=List.take_of_length_le (by omega)
  by_cases hil:i=n
  ·subst hil
   by_cases hcap:i+1<=c
   ·have g1:i*1+1<=c*1:=by omega
    have e1:(R++U).take (i*1)=R:=List.take_left' hR;simp only[↓vS,vT,Nat.reduceEqDiff,↓reduceIte,Nat.reduceAdd,Nat.reduceMul,Nat.reduceSub,Nat.reduceLeDiff,Nat.reduceLT,Int.reduceLE,Int.reduceLT,Int.reduceEq,Int.reduceToNat,hcl,hw1,hcap,hcells,hE,htE,hoE,g1,e1];refine ZJ.closedI (a:=false) (cs:=R++(E++(R++U).drop (i*1+1))) (by simp[Tr.get_set]) (by simp[Tr.get_set]) (by simp) ?_ hcap ?_ ?_ hcE
    ·simp[hR,hE,hUl];try omega
    ·rw[← List.append_assoc,List.take_left' (by simp[hR,hE];try omega),List.take_of_length_le (Nat.le_of_eq hR),List.drop_of_length_le (Nat.le_of_eq hR)];simp
    ·rw[List.take_of_length_le (Nat.le_of_eq hR),List.drop_of_length_le (Nat.le_of_eq hR)];simp[qH,hcR,hcE]
   ·have g1:i*1<=c*1:=by omega
    have e1:(R++U).take (i*1)=R:=List.take_left' hR;simp only[↓vS,vT,Nat.reduceEqDiff,↓reduceIte,Nat.reduceAdd,Nat.reduceMul,Nat.reduceSub,Nat.reduceLeDiff,Nat.reduceLT,Int.reduceLE,Int.reduceLT,Int.reduceEq,Int.reduceToNat,hcl,hw1,hcap,hcells,hr,hr2,hE,htE,g1,e1];refine ZK.w (fun _=>⟨[0,1,2],?_⟩) (by simp)
    rw[List.take_of_length_le (Nat.le_of_eq hR),List.drop_of_length_le (Nat.le_of_eq hR),List.append_nil];have:qt (R++E)=true:=by simp[qH,hcR,hcE]
    simp[vw,qa,hcE,this];decide
  ·have hilt:i<n:=by omega
   have hi':¬(i:Int)=n:=by omega
   have hci2:¬c=i:=by omega
   simp only[↓vS,vT,Nat.reduceEqDiff,↓reduceIte,Nat.reduceAdd,Nat.reduceMul,Nat.reduceSub,Nat.reduceLeDiff,Nat.reduceLT,Int.reduceLE,Int.reduceLT,Int.reduceEq,Int.reduceToNat,hci,hcl,hi,hw1,hi',hci2];have ha:IntKind.wrap .i64 ((i:Int)+1)=(i:Int)+1:=qB (by omega) (by omega);have t1:((n:Int)+1).toNat=n+1:=by omega
   have t2:((i:Int)+1).toNat=i+1:=by omega
   have p1:(0:Int)<=(n:Int)+1:=by omega
   have p2:(0:Int)<=(i:Int)+1:=by omega
   have c0:¬c=0:=by omega
   have i1:i+1<=n+1:=by omega
   have c1:¬c=i+1∨c=i+1:=by omega
   by_cases hcap:n+1<=c
   ·have hcap':¬(c:Int)<(n:Int)+1:=by omega
    have c2:¬c=i+1:=by omega
    simp only[↓vS,vT,Nat.reduceEqDiff,↓reduceIte,Nat.reduceAdd,Nat.reduceMul,Nat.reduceSub,Nat.reduceLeDiff,Nat.reduceLT,Int.reduceLE,Int.reduceLT,Int.reduceEq,Int.reduceToNat,hcap,hcap',hcells,t1,p1,c0,ha,t2,p2,i1,c2];refine Jg h1 (a1:=false) (a2:=false) (cs1:=E) (cs2:=R++U) (e2:=1) (by simp[Tr.get_set]) (by simp[Tr.get_set]) (by decide) (by omega) (by omega) (Nat.zero_le _) (by intro hh;rw[hh] at hcells;simp at hcells;omega) ?_;simp only[↓vS,vT,Nat.reduceEqDiff,↓reduceIte,Nat.reduceAdd,Nat.reduceMul,Nat.reduceSub,Nat.reduceLeDiff,Nat.reduceLT,Int.reduceLE,Int.reduceLT,Int.reduceEq,Int.reduceToNat];refine zQ ?_;have i2:i<=n+1:=by omega
    have m1:min (n+1-i) (n+1-(i+1))=n-i:=by omega
    have m2:min 1 (n+1-i)=1:=by omega
    have b1:i*1+(n+1-i)*1<=c*1:=by omega
    have b2:(n-i)*1<=(n+1-i)*1:=by omega
    have b3:(i+1)*1+(n-i)*1<=c*1:=by omega
    have l1:(((R++U).drop (i*1)).take ((n+1-i)*1)).length=(n+1-i)*1:=by simp only[List.length_take,List.length_drop,hcells];omega
    have e2:((((R++U).drop (i*1)).take ((n+1-i)*1)).take ((n-i)*1))=R.drop (i*1):=by
     rw[List.take_take,Nat.min_eq_left b2,List.drop_append_of_le_length (by omega),List.take_left' (by simp;omega)]
    have l2:(R.drop (i*1)).length=(n-i)*1:=by simp;omega
    have o2:qJ (R.drop (i*1))=true:=by
     have h:=hoR;rw[← List.take_append_drop (i*1) R,jX,Bool.and_eq_true] at h;exact h.2
    obtain⟨L1,hL1⟩:∃L1,L1=(R++U).take ((i+1)*1)++(R.drop (i*1)++(R++U).drop ((i+1)*1+(n-i)*1)):=⟨_,rfl⟩;have l3:L1.length=c*1:=by rw[hL1];simp only[List.length_append,List.length_take,List.length_drop,hcells,l2];simp only[List.length_append] at hcells;omega
    have b4:i*1+1<=c*1:=by omega
    simp only[↓vS,vT,Nat.reduceEqDiff,↓reduceIte,Nat.reduceAdd,Nat.reduceMul,Nat.reduceSub,Nat.reduceLeDiff,Nat.reduceLT,Int.reduceLE,Int.reduceLT,Int.reduceEq,Int.reduceToNat,ha,t2,p2,i1,c2,c0,hci2,hi,hcap,i2,m1,m2,hcells,b1,l1,b2,e2,l2,b3,o2,← hL1,l3,b4,hE,htE,hoE]
    have k1:L1.take (i*1)=R.take (i*1):=by
     rw[hL1,List.take_append_of_le_length (by simp only[List.length_take,hcells];omega),List.take_take,Nat.min_eq_left (by omega),List.take_append_of_le_length (by omega)]
    have k2:L1.drop (i*1+1)=R.drop (i*1)++(R++U).drop ((i+1)*1+(n-i)*1):=by
     rw[hL1,List.drop_left' (by simp only[List.length_take,hcells];omega)]
    refine ZJ.closedI (a:=false) (cs:=L1.take (i*1)++(E++L1.drop (i*1+1))) (by simp[Tr.get_set]) (by simp[Tr.get_set]) (by simp) ?_ hcap ?_ ?_ hcE
    ·simp only[List.length_append,List.length_take,List.length_drop,l3,hE];omega
    ·rw[k1,k2,← List.append_assoc,← List.append_assoc,List.take_left' (by simp only[List.length_append,List.length_take,hE,l2];omega),List.append_assoc]
    ·have h:=hcR;rw[← List.take_append_drop (i*1) R,qH,Bool.and_eq_true] at h;simp only[qH,h.1,h.2,hcE,Bool.and_self]
   ·have hcap':(c:Int)<(n:Int)+1:=by omega
    have s1:IntKind.wrap .i64 ((n:Int)+1-i)=(n:Int)+1-i:=qB (by omega) (by omega);have s2:((n:Int)+1-i).toNat=n+1-i:=by omega
    have s3:(0:Int)<=(n:Int)+1-i:=by omega
    have s4:i+(n+1-i)=n+1:=by omega
    have s5:c<n+1:=by omega
    have s6:i*1<=c*1:=by omega
    have e1:(R++U).take (i*1)=R.take (i*1):=by rw[List.take_append_of_le_length (by omega)]
    have n1:¬n+1=0:=by omega
    have i2:i<=n+1:=by omega
    have hic:i<=c:=by omega
    have m2:min 1 (n+1-i)=1:=by omega
    have m1:min (n-i) (n+1-(i+1))=n-i:=by omega
    have zl:((List.replicate (n+1-i) ([.i .u32 0]:List AV)).flatten).length=(n+1-i)*1:=by simp[List.length_flatten]
    obtain⟨L1,hL1⟩:∃L1,L1=R.take (i*1)++(List.replicate (n+1-i) ([.i .u32 0]:List AV)).flatten:=⟨_,rfl⟩;have l1:L1.length=(n+1)*1:=by rw[hL1];simp only[List.length_append,List.length_take,zl];omega
    have b4:i*1+1<=(n+1)*1:=by omega
    have e2:((R++U).drop (i*1)).take ((n-i)*1)=R.drop (i*1):=by
     rw[List.drop_append_of_le_length (by omega),List.take_left' (by simp;omega)]
    have b5:i*1+(n-i)*1<=c*1:=by omega
    have l2:(R.drop (i*1)).length=(n-i)*1:=by simp;omega
    have e3:(R.drop (i*1)).take ((n-i)*1)=R.drop (i*1):=List.take_of_length_le (Nat.le_of_eq l2);have b6:(i+1)*1+(n-i)*1<=(n+1)*1:=by omega
    have o2:qJ (R.drop (i*1))=true:=by
     have h:=hoR;rw[← List.take_append_drop (i*1) R,jX,Bool.and_eq_true] at h;exact h.2
    obtain⟨L2,hL2⟩:∃L2,L2=L1.take (i*1)++(E++L1.drop (i*1+1)):=⟨_,rfl⟩;have l4:L2.length=(n+1)*1:=by rw[hL2];simp only[List.length_append,List.length_take,List.length_drop,l1,hE];omega
    simp only[↓vS,vT,Nat.reduceEqDiff,↓reduceIte,Nat.reduceAdd,Nat.reduceMul,Nat.reduceSub,Nat.reduceLeDiff,Nat.reduceLT,Int.reduceLE,Int.reduceLT,Int.reduceEq,Int.reduceToNat,hw1,hcap',hcells,c0,hci,hci2,hic,s1,s2,s3,s4,s5,hr,hr2,s6,e1,n1,i2,m2,hE,htE,hoE,← hL1,l1,b4,← hL2];refine zQ ?_;simp only[↓vS,vT,Nat.reduceEqDiff,↓reduceIte,Nat.reduceAdd,Nat.reduceMul,Nat.reduceSub,Nat.reduceLeDiff,Nat.reduceLT,Int.reduceLE,Int.reduceLT,Int.reduceEq,Int.reduceToNat,ha,t2,p2,i1,c0,hci2,hi,hcl,i2,m1,n1,hcells,e2,b5,l2,e3,b6,l4,o2]
    have k1:L1.take (i*1)=R.take (i*1):=by
     rw[hL1,List.take_left' (by simp;omega)]
    have k3:L2.take ((i+1)*1)++(R.drop (i*1)++L2.drop ((i+1)*1+(n-i)*1))=R.take (i*1)++(E++R.drop (i*1)):=by
     rw[show L2.drop ((i+1)*1+(n-i)*1)=[] from List.drop_of_length_le (by rw[l4];omega),List.append_nil,hL2,k1,← List.append_assoc,List.take_left' (by simp only[List.length_append,List.length_take,hE];omega),List.append_assoc]
    have hcl2:qt (R.take (i*1)++(E++R.drop (i*1)))=true:=by
     have h:=hcR;rw[← List.take_append_drop (i*1) R,qH,Bool.and_eq_true] at h;simp only[qH,h.1,h.2,hcE,Bool.and_self]
    simp only[k3];generalize R.take (i*1)++(E++R.drop (i*1))=RR at hcl2 ⊢;refine ZK.w (fun _=>⟨[0,1,2],?_⟩) (by simp)
    simp[vw,qa,hcE,hcl2];decide
def zL(a b:Nat):IFn:=⟨[.tmp 6],.seq (.r [.m 6 .N]) (.seq (.r [.n 10 0,.n 11 1,.q 12 (.slcS 2 (.t 10) (some (.t 11)) none none)]) (.seq (.r [.n 13 2,.e 14 13,.n 7 14]) (.seq (.seq (.r [.n 15 7,.w 16 .eql 15 0]) (.cond (.t 16) (.seq (.r [.n 17 0,.n 6 17]) (.ret)) (.skip))) (.seq (.r [.n 18 0,.e 19 18,.n 8 19]) (.seq (.seq (.r [.n 20 1,.n 21 8,.b 22 .eql 20 21]) (.cond (.t 22) (.seq (.r [.n 23 0,.n 24 2,.q 25 (.app 2 24 true (.t 23) (.t 24)),.n 6 25]) (.ret)) (.skip))) (.seq (.seq (.r [.n 26 8,.n 27 7,.b 28 .add 26 27,.n 29 0,.q 30 (.cap (.t 29)),.b 31 .gtr 28 30]) (.cond (.t 31) (.seq (.r [.n 32 0,.n 33 1,.q 34 (.slcS 2 (.t 32) none (some (.t 33)) none),.n 35 8,.n 36 7,.b 37 .add 35 36,.n 38 1,.b 39 .sub 37 38,.q 40 (.appZ 2 24 [.s [],.i .u32 0] (.t 34) (.t 39)),.n 9 40]) (.seq (.r [.n 41 9,.n 42 1,.q 43 (.slcS 2 (.t 41) (some (.t 42)) none none),.n 44 2,.q 45 (.copy 2 (.t 43) (.t 44))]) (.seq (.reg true [.n 46 9,.n 47 1,.n 48 7,.b 49 .add 47 48,.q 50 (.slcS 2 (.t 46) (some (.t 49)) none none),.n 51 0,.n 52 1,.q 53 (.slcS 2 (.t 51) (some (.t 52)) none none),.q 54 (.copy 2 (.t 50) (.t 53))]) (.seq (.r [.n 55 9,.n 6 55]) (.ret))))) (.skip))) (.seq (.r [.n 56 0,.n 57 8,.n 58 7,.b 59 .add 57 58,.q 60 (.slcS 2 (.t 56) none (some (.t 59)) none),.n 0 60]) (.seq (.seq (.r [.n 61 2,.n 62 0,.n 63 1,.n 64 7,.b 65 .add 63 64,.q 66 (.slcS 2 (.t 62) (some (.t 65)) none none),.l 67 a [.t 61,.t 66],.q 68 (.un .not (.t 67))]) (.cond (.t 68) (.seq (.reg true [.n 69 0,.n 70 1,.n 71 7,.b 72 .add 70 71,.q 73 (.slcS 2 (.t 69) (some (.t 72)) none none),.n 74 0,.n 75 1,.q 76 (.slcS 2 (.t 74) (some (.t 75)) none none),.q 77 (.copy 2 (.t 73) (.t 76))]) (.seq (.r [.n 78 0,.n 79 1,.q 80 (.slcS 2 (.t 78) (some (.t 79)) none none),.n 81 2,.q 82 (.copy 2 (.t 80) (.t 81))]) (.seq (.r [.n 83 0,.n 6 83]) (.ret)))) (.skip))) (.seq (.r [.n 84 0,.n 85 8,.q 86 (.slcS 2 (.t 84) (some (.t 85)) none none),.n 87 2,.q 88 (.copy 2 (.t 86) (.t 87))]) (.seq (.r [.n 89 0,.n 90 1,.q 91 (.slcS 2 (.t 89) (some (.t 90)) none none),.n 92 7,.l 93 b [.t 91,.t 92]]) (.seq (.r [.n 94 0,.n 6 94]) (.ret))))))))))))⟩
theorem qnp{g1 g2:Nat}(hc:qj P f (zL g1 g2)=true)(h1:qlX P g1):Jq 2 24 P f:=by
 intro n i R E hR hE hcR hcE hoR hoE hi hr hr2;have hl2:=hr;simp only[qf] at hl2;refine Upd.mkS hc (by simp[z8,bnd]) (by simp) ?_;refine S.open (a:=true) 0 0 n 2 (cs:=R) (by simp[yP,Tr.get_set]) (by rw[xt];rfl) hR (Nat.le_refl _) (by simp[Vy]) ?_ ?_
 ·intro h0;subst h0;obtain rfl:R=[]:=List.eq_nil_of_length_eq_zero (by omega);obtain rfl:i=0:=by omega
  refine qq ?_;simp only[zL,vI,simprocAttr];have hr2':1*24<=qf:=by simpa using hr2
  have hr':1<=qf:=by simpa using hr
  have ht:E.take 2=E:=List.take_of_length_le (by omega);simp only[↓vS,vT,Nat.reduceEqDiff,↓reduceIte,Nat.reduceAdd,Nat.reduceMul,Nat.reduceSub,Nat.reduceLeDiff,Nat.reduceLT,Int.reduceLE,Int.reduceLT,Int.reduceEq,Int.reduceToNat,hr',hr2',hE,ht];refine ZK.w (fun _=>⟨[0,1,2],?_⟩) (by simp)
  simp[vw,qa,hcE];decide
 ·intro c hcl;refine qq ?_;simp only[zL,vI,simprocAttr];obtain⟨U,hU⟩:∃U,U=List.replicate ((c-n)*2) AV.undef:=⟨_,rfl⟩;have hUl:U.length=(c-n)*2:=by rw[hU];simp
  rw[← hU];have hci:(i:Int)<=c:=by omega
  have hw1:IntKind.wrap .i64 ((n:Int)+1)=(n:Int)+1:=qB (by omega) (by omega);have hcells:(R++U).length=c*2:=by simp[hR,hUl];omega
  have htE:E.take 2=E:=List.take_of_length_le (by omega)
  by_cases hil:i=n
  ·subst hil
   by_cases hcap:i+1<=c
   ·have g1:i*2+2<=c*2:=by omega
    have e1:(R++U).take (i*2)=R:=List.take_left' hR;simp only[↓vS,vT,Nat.reduceEqDiff,↓reduceIte,Nat.reduceAdd,Nat.reduceMul,Nat.reduceSub,Nat.reduceLeDiff,Nat.reduceLT,Int.reduceLE,Int.reduceLT,Int.reduceEq,Int.reduceToNat,hcl,hw1,hcap,hcells,hE,htE,hoE,g1,e1];refine ZJ.closedI (a:=false) (cs:=R++(E++(R++U).drop (i*2+2))) (by simp[Tr.get_set]) (by simp[Tr.get_set]) (by simp) ?_ hcap ?_ ?_ hcE
    ·simp[hR,hE,hUl];try omega
    ·rw[← List.append_assoc,List.take_left' (by simp[hR,hE];try omega),List.take_of_length_le (Nat.le_of_eq hR),List.drop_of_length_le (Nat.le_of_eq hR)];simp
    ·rw[List.take_of_length_le (Nat.le_of_eq hR),List.drop_of_length_le (Nat.le_of_eq hR)];simp[qH,hcR,hcE]
   ·have g1:i*2<=c*2:=by omega
    have e1:(R++U).take (i*2)=R:=List.take_left' hR;simp only[↓vS,vT,Nat.reduceEqDiff,↓reduceIte,Nat.reduceAdd,Nat.reduceMul,Nat.reduceSub,Nat.reduceLeDiff,Nat.reduceLT,Int.reduceLE,Int.reduceLT,Int.reduceEq,Int.reduceToNat,hcl,hw1,hcap,hcells,hr,hr2,hE,htE,g1,e1];refine ZK.w (fun _=>⟨[0,1,2],?_⟩) (by simp)
    rw[List.take_of_length_le (Nat.le_of_eq hR),List.drop_of_length_le (Nat.le_of_eq hR),List.append_nil];have:qt (R++E)=true:=by simp[qH,hcR,hcE]
    simp[vw,qa,hcE,this];decide
  ·have hilt:i<n:=by omega
   have hi':¬(i:Int)=n:=by omega
   have hci2:¬c=i:=by omega
   simp only[↓vS,vT,Nat.reduceEqDiff,↓reduceIte,Nat.reduceAdd,Nat.reduceMul,Nat.reduceSub,Nat.reduceLeDiff,Nat.reduceLT,Int.reduceLE,Int.reduceLT,Int.reduceEq,Int.reduceToNat,hci,hcl,hi,hw1,hi',hci2];have ha:IntKind.wrap .i64 ((i:Int)+1)=(i:Int)+1:=qB (by omega) (by omega);have t1:((n:Int)+1).toNat=n+1:=by omega
   have t2:((i:Int)+1).toNat=i+1:=by omega
   have p1:(0:Int)<=(n:Int)+1:=by omega
   have p2:(0:Int)<=(i:Int)+1:=by omega
   have c0:¬c=0:=by omega
   have i1:i+1<=n+1:=by omega
   have c1:¬c=i+1∨c=i+1:=by omega
   by_cases hcap:n+1<=c
   ·have hcap':¬(c:Int)<(n:Int)+1:=by omega
    have c2:¬c=i+1:=by omega
    simp only[↓vS,vT,Nat.reduceEqDiff,↓reduceIte,Nat.reduceAdd,Nat.reduceMul,Nat.reduceSub,Nat.reduceLeDiff,Nat.reduceLT,Int.reduceLE,Int.reduceLT,Int.reduceEq,Int.reduceToNat,hcap,hcap',hcells,t1,p1,c0,ha,t2,p2,i1,c2];refine Jg h1 (a1:=false) (a2:=false) (cs1:=E) (cs2:=R++U) (e2:=2) (by simp[Tr.get_set]) (by simp[Tr.get_set]) (by decide) (by omega) (by omega) (Nat.zero_le _) (by intro hh;rw[hh] at hcells;simp at hcells;omega) ?_;simp only[↓vS,vT,Nat.reduceEqDiff,↓reduceIte,Nat.reduceAdd,Nat.reduceMul,Nat.reduceSub,Nat.reduceLeDiff,Nat.reduceLT,Int.reduceLE,Int.reduceLT,Int.reduceEq,Int.reduceToNat];refine zQ ?_;have i2:i<=n+1:=by omega
    have m1:min (n+1-i) (n+1-(i+1))=n-i:=by omega
    have m2:min 1 (n+1-i)=1:=by omega
    have b1:i*2+(n+1-i)*2<=c*2:=by omega
    have b2:(n-i)*2<=(n+1-i)*2:=by omega
    have b3:(i+1)*2+(n-i)*2<=c*2:=by omega
    have l1:(((R++U).drop (i*2)).take ((n+1-i)*2)).length=(n+1-i)*2:=by simp only[List.length_take,List.length_drop,hcells];omega
    have e2:((((R++U).drop (i*2)).take ((n+1-i)*2)).take ((n-i)*2))=R.drop (i*2):=by
     rw[List.take_take,Nat.min_eq_left b2,List.drop_append_of_le_length (by omega),List.take_left' (by simp;omega)]
    have l2:(R.drop (i*2)).length=(n-i)*2:=by simp;omega
    have o2:qJ (R.drop (i*2))=true:=by
     have h:=hoR;rw[← List.take_append_drop (i*2) R,jX,Bool.and_eq_true] at h;exact h.2
    obtain⟨L1,hL1⟩:∃L1,L1=(R++U).take ((i+1)*2)++(R.drop (i*2)++(R++U).drop ((i+1)*2+(n-i)*2)):=⟨_,rfl⟩;have l3:L1.length=c*2:=by rw[hL1];simp only[List.length_append,List.length_take,List.length_drop,hcells,l2];simp only[List.length_append] at hcells;omega
    have b4:i*2+2<=c*2:=by omega
    simp only[↓vS,vT,Nat.reduceEqDiff,↓reduceIte,Nat.reduceAdd,Nat.reduceMul,Nat.reduceSub,Nat.reduceLeDiff,Nat.reduceLT,Int.reduceLE,Int.reduceLT,Int.reduceEq,Int.reduceToNat,ha,t2,p2,i1,c2,c0,hci2,hi,hcap,i2,m1,m2,hcells,b1,l1,b2,e2,l2,b3,o2,← hL1,l3,b4,hE,htE,hoE]
    have k1:L1.take (i*2)=R.take (i*2):=by
     rw[hL1,List.take_append_of_le_length (by simp only[List.length_take,hcells];omega),List.take_take,Nat.min_eq_left (by omega),List.take_append_of_le_length (by omega)]
    have k2:L1.drop (i*2+2)=R.drop (i*2)++(R++U).drop ((i+1)*2+(n-i)*2):=by
     rw[hL1,List.drop_left' (by simp only[List.length_take,hcells];omega)]
    refine ZJ.closedI (a:=false) (cs:=L1.take (i*2)++(E++L1.drop (i*2+2))) (by simp[Tr.get_set]) (by simp[Tr.get_set]) (by simp) ?_ hcap ?_ ?_ hcE
    ·simp only[List.length_append,List.length_take,List.length_drop,l3,hE];omega
    ·rw[k1,k2,← List.append_assoc,← List.append_assoc,List.take_left' (by simp only[List.length_append,List.length_take,hE,l2];omega),List.append_assoc]
    ·have h:=hcR;rw[← List.take_append_drop (i*2) R,qH,Bool.and_eq_true] at h;simp only[qH,h.1,h.2,hcE,Bool.and_self]
   ·have hcap':(c:Int)<(n:Int)+1:=by omega
    have s1:IntKind.wrap .i64 ((n:Int)+1-i)=(n:Int)+1-i:=qB (by omega) (by omega);have s2:((n:Int)+1-i).toNat=n+1-i:=by omega
    have s3:(0:Int)<=(n:Int)+1-i:=by omega
    have s4:i+(n+1-i)=n+1:=by omega
    have s5:c<n+1:=by omega
    have s6:i*2<=c*2:=by omega
    have e1:(R++U).take (i*2)=R.take (i*2):=by rw[List.take_append_of_le_length (by omega)]
    have n1:¬n+1=0:=by omega
    have i2:i<=n+1:=by omega
    have hic:i<=c:=by omega
    have m2:min 1 (n+1-i)=1:=by omega
    have m1:min (n-i) (n+1-(i+1))=n-i:=by omega
    have zl:((List.replicate (n+1-i) ([.s [],.i .u32 0]:List AV)).flatten).length=(n+1-i)*2:=by simp[List.length_flatten]
    obtain⟨L1,hL1⟩:∃L1,L1=R.take (i*2)++(List.replicate (n+1-i) ([.s [],.i .u32 0]:List AV)).flatten:=⟨_,rfl⟩;have l1:L1.length=(n+1)*2:=by rw[hL1];simp only[List.length_append,List.length_take,zl];omega
    have b4:i*2+2<=(n+1)*2:=by omega
    have e2:((R++U).drop (i*2)).take ((n-i)*2)=R.drop (i*2):=by
     rw[List.drop_append_of_le_length (by omega),List.take_left' (by simp;omega)]
    have b5:i*2+(n-i)*2<=c*2:=by omega
    have l2:(R.drop (i*2)).length=(n-i)*2:=by simp;omega
    have e3:(R.drop (i*2)).take ((n-i)*2)=R.drop (i*2):=List.take_of_length_le (Nat.le_of_eq l2);have b6:(i+1)*2+(n-i)*2<=(n+1)*2:=by omega
    have o2:qJ (R.drop (i*2))=true:=by
     have h:=hoR;rw[← List.take_append_drop (i*2) R,jX,Bool.and_eq_true] at h;exact h.2
    obtain⟨L2,hL2⟩:∃L2,L2=L1.take (i*2)++(E++L1.drop (i*2+2)):=⟨_,rfl⟩;have l4:L2.length=(n+1)*2:=by rw[hL2];simp only[List.length_append,List.length_take,List.length_drop,l1,hE];omega
    simp only[↓vS,vT,Nat.reduceEqDiff,↓reduceIte,Nat.reduceAdd,Nat.reduceMul,Nat.reduceSub,Nat.reduceLeDiff,Nat.reduceLT,Int.reduceLE,Int.reduceLT,Int.reduceEq,Int.reduceToNat,hw1,hcap',hcells,c0,hci,hci2,hic,s1,s2,s3,s4,s5,hr,hr2,s6,e1,n1,i2,m2,hE,htE,hoE,← hL1,l1,b4,← hL2];refine zQ ?_;simp only[↓vS,vT,Nat.reduceEqDiff,↓reduceIte,Nat.reduceAdd,Nat.reduceMul,Nat.reduceSub,Nat.reduceLeDiff,Nat.reduceLT,Int.reduceLE,Int.reduceLT,Int.reduceEq,Int.reduceToNat,ha,t2,p2,i1,c0,hci2,hi,hcl,i2,m1,n1,hcells,e2,b5,l2,e3,b6,l4,o2]
    have k1:L1.take (i*2)=R.take (i*2):=by
     rw[hL1,List.take_left' (by simp;omega)]
    have k3:L2.take ((i+1)*2)++(R.drop (i*2)++L2.drop ((i+1)*2+(n-i)*2))=R.take (i*2)++(E++R.drop (i*2)):=by
     rw[show L2.drop ((i+1)*2+(n-i)*2)=[] from List.drop_of_length_le (by rw[l4];omega),List.append_nil,hL2,k1,← List.append_assoc,List.take_left' (by simp only[List.length_append,List.length_take,hE];omega),List.append_assoc]
    have hcl2:qt (R.take (i*2)++(E++R.drop (i*2)))=true:=by
     have h:=hcR;rw[← List.take_append_drop (i*2) R,qH,Bool.and_eq_true] at h;simp only[qH,h.1,h.2,hcE,Bool.and_self]
    simp only[k3];generalize R.take (i*2)++(E++R.drop (i*2))=RR at hcl2 ⊢;refine ZK.w (fun _=>⟨[0,1,2],?_⟩) (by simp)
    simp[vw,qa,hcE,hcl2];decide
end Go.Kc
end
section
/- What binary searches answer; a list with a number more or less. Condition: the functions' texts are these. -/
namespace Go.Kc
variable {P:Program} {f:Nat}
theorem qeI{a b:Nat}(ha:a<=b)(hb:b<=70368744177664):IntKind.wrap .i64 (qqe .u64 (IntKind.wrap .u64 (IntKind.wrap .i64 ((a:Int)+b))) 1)=((a+b) / 2:Nat):=by
 rw[qB (x:=(a:Int)+b) (by omega) (by omega),Vh (by omega) (by omega)]
 have:qqe .u64 ((a:Int)+b) 1=((a+b) / 2:Nat):=by
  show Int.fdiv ((a:Int)+b) (2 ^ min (1:Int).toNat 64)=_;rw[show min (1:Int).toNat 64=1 from rfl,Int.pow_one,Int.fdiv_eq_ediv_of_nonneg _ (by decide)]
  omega
 rw[this,qB (by omega) (by omega)]
def bsN(p:Nat->Bool)(i j:Nat):Nat :=
 if h:i<j then (if p ((i+j) / 2)=true then bsN p ((i+j) / 2+1) j else bsN p i ((i+j) / 2)) else i
termination_by j-i
theorem qhW(p:Nat->Bool):∀(m i j:Nat),j-i=m->i<=j->i<=bsN p i j∧bsN p i j<=j:=by
 intro m
 induction m using Nat.strongRecOn with
 | ind m ih =>
  intro i j hm hij;rw[bsN];split
  ·split
   ·have:=ih (j-((i+j) / 2+1)) (by omega) ((i+j) / 2+1) j rfl (by omega);omega
   ·have:=ih ((i+j) / 2-i) (by omega) i ((i+j) / 2) rfl (by omega);omega
  ·omega
theorem qde(p:Nat->Bool)(hp:∀a b,a<=b->p b=true->p a=true):∀(m i j:Nat),j-i=m->i<=j->(∀a,a<i->p a=true)->(∀a,j<=a->p a=false)->(∀a,a<bsN p i j->p a=true)∧(∀a,bsN p i j<=a->p a=false):=by
 intro m
 induction m using Nat.strongRecOn with
 | ind m ih =>
  intro i j hm hij h1 h2;rw[bsN];split
  ·split
   ·rename_i hh;exact ih (j-((i+j) / 2+1)) (by omega) _ _ rfl (by omega) (fun a ha=>hp a _ (by omega) hh) h2
   ·rename_i hh;refine ih ((i+j) / 2-i) (by omega) _ _ rfl (by omega) h1 (fun a ha=>?_)
    cases hpa:p a with
    | false=>rfl
    | true=>exact absurd (hp _ a ha hpa) hh
  ·exact⟨h1,fun a ha=>h2 a (by omega)⟩
def bsI(l:List Int)(x:Int):Nat:=bsN (fun k=>decide (l.getD k 0<x)) 0 l.length
theorem qeu(l:List Int)(x:Int):bsI l x<=l.length:=(qhW _ _ 0 l.length rfl (Nat.zero_le _)).2
def Zr:IFn:=⟨[.tmp 2],.seq (.r [.m 2 .F]) (.seq (.r [.n 3 0,.n 4 0,.b 5 .neq 3 4,.n 2 5]) (.ret))⟩
theorem qoo(hc:qj P f Zr=true)(x:Int):qc P f [.i .i64 x] (.b false):=by
 refine qc.mk hc (by simp[qt,clo]) ?_;simp only[Zr,vI,simprocAttr];simp only[↓vS,vT,simprocAttr,vZ]
def yV:IFn:=⟨[.tmp 2],.seq (.r [.m 2 .F]) (.seq (.r [.n 3 0,.n 4 0,.b 5 .neq 3 4,.n 2 5]) (.ret))⟩
theorem qqf(hc:qj P f yV=true)(x:Int):qc P f [.i .i64 x] (.b false):=by
 refine qc.mk hc (by simp[qt,clo]) ?_;simp only[yV,vI,simprocAttr];simp only[↓vS,vT,simprocAttr,vZ]
def Xh(a:Nat):IFn:=⟨[.tmp 4],.seq (.r [.m 4 .F]) (.seq (.r [.n 5 0,.l 6 a [.t 5],.n 7 6,.y 8 1 7,⟨(some 9),.callF a [.t 8],(some (7,true))⟩,.g 10 (.un .not (.t 9)) 7 true,.p 11 7 10,.n 12 11,.z 13 0 12,.z 14 1 12,.g 15 (.bin .lss (.t 13) (.t 14)) 12 false,.o 16 12 15,.n 4 16]) (.ret))⟩
theorem qsq{g:Nat}(hc:qj P f (Xh g)=true)(hg:∀x,qc P g [.i .i64 x] (.b false))(x y:Int):qc P f [.i .i64 x,.i .i64 y] (.b (decide (x<y))):=by
 refine qc.mk hc (by simp[qt,clo]) ?_;simp only[Xh,vI,simprocAttr];simp only[↓vS,vT,simprocAttr];refine (hg x).sc ?_;simp only[↓vS,vT,simprocAttr,vZ]
def jL(a b:Nat):IFn:=⟨[.tmp 4,.tmp 5],.seq (.r [.m 4 (.k 0),.m 5 .F]) (.seq (.r [.n 10 0,.e 11 10,.n 6 11]) (.seq (.r [.n 12 6,.m 7 (.k 0),.n 8 12]) (.seq (.blk 0 (.loop (.seq (.seq (.r [.n 13 7,.n 14 8,.s 15 13 14]) (.cond (.t 15) (.skip) (.exit 0))) (.blk 1 (.seq (.r [.n 16 7,.n 17 8,.b 18 .add 16 17,.q 19 (.cvInt .u64 (.t 18)),.q 20 (.bin .shr (.t 19) (.c (.i .u64 1))),.q 21 (.cvInt .i64 (.t 20)),.n 9 21]) (.seq (.r [.n 22 0,.n 23 9,.i 24 1 22 23,.d 25 24,.n 26 1,.l 27 a [.t 25,.t 26]]) (.cond (.t 27) (.r [.n 28 9,.a 29 28 1,.n 7 29]) (.r [.n 30 9,.n 8 30])))))))) (.seq (.r [.n 31 7,.n 32 7,.n 33 6,.s 34 32 33,.n 35 34,.y 36 0 35,.y 37 7 35,.g 38 (.iAddrS 1 (.t 36) (.t 37)) 35 true,.j 39 38 35 true,.y 40 1 35,.g 41 (.bin .eql (.t 39) (.t 40)) 35 true,.y 42 41 35,.z 43 0 42,.z 44 7 42,.g 45 (.iAddrS 1 (.t 43) (.t 44)) 42 false,.j 46 45 42 false,⟨(some 47),.callF b [.t 46],(some (42,false))⟩,.z 48 47 42,.y 49 1 48,⟨(some 50),.callF b [.t 49],(some (48,true))⟩,.g 51 (.pick (.t 48) (.t 50) .F) 42 false,.g 52 (.pick (.t 42) .T (.t 51)) 35 true,.p 53 35 52,.n 4 31,.n 5 53]) (.ret)))))⟩
def qfb(P:Program)(f:Nat):Prop:=∀(l:List Int) (x:Int),l.length<=qf->qc P f [.fz l.length (rI .i64 l),.i .i64 x] (.tup [.i .i64 (bsI l x:Int),.b (decide (l[bsI l x]?=some x))])
theorem qtx{g1 g2:Nat}(hc:qj P f (jL g1 g2)=true)(h1:∀x y,qc P g1 [.i .i64 x,.i .i64 y] (.b (decide (x<y))))(h2:∀x,qc P g2 [.i .i64 x] (.b false)):qfb P f:=by
 intro l x hl;have hl2:=hl;simp only[qf] at hl2;refine qc.mk hc (by simp[qt,clo]) ?_;simp only[jL,vI,simprocAttr];simp only[↓vS,vT,simprocAttr];refine SL.loop (α:=Nat×Nat) (fun s=>[(0,.fz l.length (rI .i64 l)),(1,.i .i64 x),(6,.i .i64 l.length),(7,.i .i64 s.1),(8,.i .i64 s.2)]) (fun _=>[]) (fun s=>s.1<=s.2∧s.2<=l.length∧bsI l x=bsN (fun k=>decide (l.getD k 0<x)) s.1 s.2) (fun s=>s.2-s.1) (0,l.length) [] ?_ ?_ ?_ rfl ?_ ?_
 ·simp[vw]
 ·trivial
 ·simp
 ·exact⟨Nat.zero_le _,Nat.le_refl _,rfl⟩
 rintro⟨i,j⟩ ⟨hij,hj,hI⟩ G ih;dsimp only at hij hj hI ih ⊢;simp only[vI,simprocAttr]
 by_cases hlt:i<j
 ·have hh:=qeI hij (by omega);have hm:(i+j) / 2<l.length:=by omega
  have hx:l[(i+j) / 2]?=some l[(i+j) / 2]:=List.getElem?_eq_getElem hm;have hd:l.getD ((i+j) / 2) 0=l[(i+j) / 2]:=by rw[List.getD_eq_getElem?_getD,hx];rfl
  rw[bsN,dif_pos hlt,hd] at hI;simp only[↓vS,vT,simprocAttr,hlt,hh,hm,Nat.mul_one,x9,hx,Option.map_some];refine (h1 _ _).sc ?_
  by_cases hc2:l[(i+j) / 2]<x
  ·have hw:IntKind.wrap .i64 ((((i+j) / 2:Nat):Int)+1)=(((i+j) / 2+1:Nat):Int):=by rw[qB (by omega) (by omega)];omega
   simp only[hc2,decide_true,if_true] at hI;simp only[↓vS,vT,simprocAttr,hc2,hw];refine ih ((i+j) / 2+1,j) ⟨by dsimp only;omega,hj,hI⟩ (by dsimp only;omega) _ _ (Wk.mk _ _ [] ?_ ?_ ?_ rfl)
   ·simp[vw]
   ·trivial
   ·simp
  ·simp only[hc2,decide_false,Bool.false_eq_true,if_false] at hI;simp only[↓vS,vT,simprocAttr,hc2];refine ih (i,(i+j) / 2) ⟨by dsimp only;omega,by dsimp only;omega,hI⟩ (by dsimp only;omega) _ _ (Wk.mk _ _ [] ?_ ?_ ?_ rfl)
   ·simp[vw]
   ·trivial
   ·simp
 ·have e:bsI l x=i:=by rw[hI,bsN,dif_neg hlt]
  by_cases hil:i<l.length
  ·have hx:l[i]?=some l[i]:=List.getElem?_eq_getElem hil
   by_cases he:l[i]=x
   ·simp only[↓vS,vT,simprocAttr,hlt,hil,Nat.mul_one,x9,hx,Option.map_some,he,vZ,e]
   ·simp only[↓vS,vT,simprocAttr,hlt,hil,Nat.mul_one,x9,hx,Option.map_some,he];refine (h2 _).sc ?_;simp only[↓vS,vT,simprocAttr,vZ,e,hx,Option.some.injEq,he]
  ·have hx:l[i]?=none:=List.getElem?_eq_none (by omega);simp only[↓vS,vT,simprocAttr,hlt,hil,vZ,e,hx,reduceCtorEq]
def kD:IFn:=⟨[.tmp 3],.seq (.r [.m 3 .F]) (.seq (.r [.n 4 0,.d 5 1,.b 6 .eql 4 5,.n 3 6]) (.ret))⟩
theorem qqC(hc:qj P f kD=true)(x y:Int):qc P f [.i .i64 x,.pf [.i .i64 y] 0] (.b (decide (x=y))):=by
 refine qc.mk hc (by simp[qt,clo]) ?_;simp only[kD,vI,simprocAttr];simp only[↓vS,vT,simprocAttr,vZ]
def yS:IFn:=⟨[.tmp 2],.seq (.r [.m 2 .F]) (.seq (.r [.n 3 0,.n 4 0,.b 5 .neq 3 4,.n 2 5]) (.ret))⟩
theorem qop(hc:qj P f yS=true)(x:Int):qc P f [.i .u32 x] (.b false):=by
 refine qc.mk hc (by simp[qt,clo]) ?_;simp only[yS,vI,simprocAttr];simp only[↓vS,vT,simprocAttr,vZ]
def kE:IFn:=⟨[.tmp 2],.seq (.r [.m 2 .F]) (.seq (.r [.n 3 0,.n 4 0,.b 5 .neq 3 4,.n 2 5]) (.ret))⟩
theorem qqg(hc:qj P f kE=true)(x:Int):qc P f [.i .u32 x] (.b false):=by
 refine qc.mk hc (by simp[qt,clo]) ?_;simp only[kE,vI,simprocAttr];simp only[↓vS,vT,simprocAttr,vZ]
def Ql(a:Nat):IFn:=⟨[.tmp 4],.seq (.r [.m 4 .F]) (.seq (.r [.n 5 0,.l 6 a [.t 5],.n 7 6,.y 8 1 7,⟨(some 9),.callF a [.t 8],(some (7,true))⟩,.g 10 (.un .not (.t 9)) 7 true,.p 11 7 10,.n 12 11,.z 13 0 12,.z 14 1 12,.g 15 (.bin .lss (.t 13) (.t 14)) 12 false,.o 16 12 15,.n 4 16]) (.ret))⟩
theorem qsr{g:Nat}(hc:qj P f (Ql g)=true)(hg:∀x,qc P g [.i .u32 x] (.b false))(x y:Int):qc P f [.i .u32 x,.i .u32 y] (.b (decide (x<y))):=by
 refine qc.mk hc (by simp[qt,clo]) ?_;simp only[Ql,vI,simprocAttr];simp only[↓vS,vT,simprocAttr];refine (hg x).sc ?_;simp only[↓vS,vT,simprocAttr,vZ]
def xB(a b:Nat):IFn:=⟨[.tmp 4,.tmp 5],.seq (.r [.m 4 (.k 0),.m 5 .F]) (.seq (.r [.n 10 0,.e 11 10,.n 6 11]) (.seq (.r [.n 12 6,.m 7 (.k 0),.n 8 12]) (.seq (.blk 0 (.loop (.seq (.seq (.r [.n 13 7,.n 14 8,.s 15 13 14]) (.cond (.t 15) (.skip) (.exit 0))) (.blk 1 (.seq (.r [.n 16 7,.n 17 8,.b 18 .add 16 17,.q 19 (.cvInt .u64 (.t 18)),.q 20 (.bin .shr (.t 19) (.c (.i .u64 1))),.q 21 (.cvInt .i64 (.t 20)),.n 9 21]) (.seq (.r [.n 22 0,.n 23 9,.i 24 1 22 23,.d 25 24,.n 26 1,.l 27 a [.t 25,.t 26]]) (.cond (.t 27) (.r [.n 28 9,.a 29 28 1,.n 7 29]) (.r [.n 30 9,.n 8 30])))))))) (.seq (.r [.n 31 7,.n 32 7,.n 33 6,.s 34 32 33,.n 35 34,.y 36 0 35,.y 37 7 35,.g 38 (.iAddrS 1 (.t 36) (.t 37)) 35 true,.j 39 38 35 true,.y 40 1 35,.g 41 (.bin .eql (.t 39) (.t 40)) 35 true,.y 42 41 35,.z 43 0 42,.z 44 7 42,.g 45 (.iAddrS 1 (.t 43) (.t 44)) 42 false,.j 46 45 42 false,⟨(some 47),.callF b [.t 46],(some (42,false))⟩,.z 48 47 42,.y 49 1 48,⟨(some 50),.callF b [.t 49],(some (48,true))⟩,.g 51 (.pick (.t 48) (.t 50) .F) 42 false,.g 52 (.pick (.t 42) .T (.t 51)) 35 true,.p 53 35 52,.n 4 31,.n 5 53]) (.ret)))))⟩
def qfc(P:Program)(f:Nat):Prop:=∀(l:List Int) (x:Int),l.length<=qf->qc P f [.fz l.length (rI .u32 l),.i .u32 x] (.tup [.i .i64 (bsI l x:Int),.b (decide (l[bsI l x]?=some x))])
theorem qty{g1 g2:Nat}(hc:qj P f (xB g1 g2)=true)(h1:∀x y,qc P g1 [.i .u32 x,.i .u32 y] (.b (decide (x<y))))(h2:∀x,qc P g2 [.i .u32 x] (.b false)):qfc P f:=by
 intro l x hl;have hl2:=hl;simp only[qf] at hl2;refine qc.mk hc (by simp[qt,clo]) ?_;simp only[xB,vI,simprocAttr];simp only[↓vS,vT,simprocAttr];refine SL.loop (α:=Nat×Nat) (fun s=>[(0,.fz l.length (rI .u32 l)),(1,.i .u32 x),(6,.i .i64 l.length),(7,.i .i64 s.1),(8,.i .i64 s.2)]) (fun _=>[]) (fun s=>s.1<=s.2∧s.2<=l.length∧bsI l x=bsN (fun k=>decide (l.getD k 0<x)) s.1 s.2) (fun s=>s.2-s.1) (0,l.length) [] ?_ ?_ ?_ rfl ?_ ?_
 ·simp[vw]
 ·trivial
 ·simp
 ·exact⟨Nat.zero_le _,Nat.le_refl _,rfl⟩
 rintro⟨i,j⟩ ⟨hij,hj,hI⟩ G ih;dsimp only at hij hj hI ih ⊢;simp only[vI,simprocAttr]
 by_cases hlt:i<j
 ·have hh:=qeI hij (by omega);have hm:(i+j) / 2<l.length:=by omega
  have hx:l[(i+j) / 2]?=some l[(i+j) / 2]:=List.getElem?_eq_getElem hm;have hd:l.getD ((i+j) / 2) 0=l[(i+j) / 2]:=by rw[List.getD_eq_getElem?_getD,hx];rfl
  rw[bsN,dif_pos hlt,hd] at hI;simp only[↓vS,vT,simprocAttr,hlt,hh,hm,Nat.mul_one,x9,hx,Option.map_some];refine (h1 _ _).sc ?_
  by_cases hc2:l[(i+j) / 2]<x
  ·have hw:IntKind.wrap .i64 ((((i+j) / 2:Nat):Int)+1)=(((i+j) / 2+1:Nat):Int):=by rw[qB (by omega) (by omega)];omega
   simp only[hc2,decide_true,if_true] at hI;simp only[↓vS,vT,simprocAttr,hc2,hw];refine ih ((i+j) / 2+1,j) ⟨by dsimp only;omega,hj,hI⟩ (by dsimp only;omega) _ _ (Wk.mk _ _ [] ?_ ?_ ?_ rfl)
   ·simp[vw]
   ·trivial
   ·simp
  ·simp only[hc2,decide_false,Bool.false_eq_true,if_false] at hI;simp only[↓vS,vT,simprocAttr,hc2];refine ih (i,(i+j) / 2) ⟨by dsimp only;omega,by dsimp only;omega,hI⟩ (by dsimp only;omega) _ _ (Wk.mk _ _ [] ?_ ?_ ?_ rfl)
   ·simp[vw]
   ·trivial
   ·simp
 ·have e:bsI l x=i:=by rw[hI,bsN,dif_neg hlt]
  by_cases hil:i<l.length
  ·have hx:l[i]?=some l[i]:=List.getElem?_eq_getElem hil
   by_cases he:l[i]=x
   ·simp only[↓vS,vT,simprocAttr,hlt,hil,Nat.mul_one,x9,hx,Option.map_some,he,vZ,e]
   ·simp only[↓vS,vT,simprocAttr,hlt,hil,Nat.mul_one,x9,hx,Option.map_some,he];refine (h2 _).sc ?_;simp only[↓vS,vT,simprocAttr,vZ,e,hx,Option.some.injEq,he]
  ·have hx:l[i]?=none:=List.getElem?_eq_none (by omega);simp only[↓vS,vT,simprocAttr,hlt,hil,vZ,e,hx,reduceCtorEq]
def ve:IFn:=⟨[.tmp 3],.seq (.r [.m 3 .F]) (.seq (.r [.n 4 0,.d 5 1,.b 6 .eql 4 5,.n 3 6]) (.ret))⟩
theorem qqD(hc:qj P f ve=true)(x y:Int):qc P f [.i .u32 x,.pf [.i .u32 y] 0] (.b (decide (x=y))):=by
 refine qc.mk hc (by simp[qt,clo]) ?_;simp only[ve,vI,simprocAttr];simp only[↓vS,vT,simprocAttr,vZ]
def jl(l:List Int)(n:Int)(is:Bool):List Int :=
 let m:=l.filter (fun x=>!decide (x=n))
 if is=true then m.take (bsI m n)++n::m.drop (bsI m n) else m
end Go.Kc
end
section
/- A list with a number more or less, as the program makes it. Condition: the functions' texts are these. -/
namespace Go.Kc
variable {P:Program} {f:Nat}
theorem qch(l:List Int)(n:Int)(is:Bool):(jl l n is).length<=l.length+1:=by
 have h:=List.length_filter_le (fun x=>!decide (x=n)) l
 unfold jl;dsimp only;split
 ·simp;omega
 ·omega
def ke(a b c d e:Nat):ICode:=.seq (.r [.n 9 0,.l 10 a [.t 9],.q 11 (.mkF b [] [.t 4]),.l 12 c [.t 10,.t 11],.n 0 12]) (.seq (.seq (.r [.n 13 2,.q 14 (.un .not (.t 13))]) (.cond (.t 14) (.seq (.r [.n 15 0,.n 6 15]) (.ret)) (.skip))) (.seq (.r [.n 17 0,.d 18 4,.l 19 d [.t 17,.t 18],.n 16 19,.x 20 16 0,.x 21 16 1,.n 7 20,.n 8 21]) (.seq (.r [.n 22 0,.n 23 7,.d 24 4,.q 25 (.buildS 1 [.i .i64 0] [(0,1,(.t 24))]),.l 26 e [.t 22,.t 23,.t 25],.n 6 26]) (.ret))))
def yt(a b c d e:Nat):IFn:=⟨[.tmp 6],.seq (.r [.q 4 (.box (.t 1)),.m 6 .N]) (.cut (ke a b c d e))⟩
theorem qta{g1 g2 g3 g4 g5:Nat}(hc:qj P f (yt g1 g2 g3 g4 g5)=true)(h1:kw P g1 1 8)(h2:∀x y,qc P g2 [.i .i64 x,.pf [.i .i64 y] 0] (.b (decide (x=y))))(h3:VO P g3)(h4:qfb P g4)(h5:Jq 1 8 P g5)
  (l:List Int) (n:Int) (is:Bool) (hl:l.length+1<=qf) (hl8:(l.length+1)*8<=qf):qc P f [.fz l.length (rI .i64 l),.i .i64 n,.b is] (.fz (jl l n is).length (rI .i64 (jl l n is))):=by
 refine qc.mk hc (by simp[qt,clo]) ?_;simp only[yt,vI,simprocAttr];simp only[↓vS,vT,simprocAttr];refine S.weak (Wk.mk [(0,.fz l.length (rI .i64 l)),(1,.i .i64 n),(2,.b is),(4,.ptr 0 0)] [.cells 0 true false [.i .i64 n]] [0] ?_ ?_ ?_ rfl) ?_
 ·simp[vw]
 ·simp[vw]
 ·simp
 refine S.weak (Wk.freeze 0 0 0 rfl rfl (Nat.le_refl _) (by simp)) ?_;refine qq ?_;simp only[ke,vI,simprocAttr,fzv,yp,fzB,List.map_cons,List.map_nil,List.set_cons_zero,if_true];simp only[↓vS,vT,simprocAttr];refine (h1 l.length (rI .i64 l) (by rw[wV];omega) qh J2 (by omega) (by omega)).sc ?_;simp only[↓vS,vT,simprocAttr,zW (qh (k:=.i64) (l:=l))];refine (h3 (fun x=>decide (x=n)) g2 [] [.pf [.i .i64 n] 0] l rfl rfl (by omega) (fun x _=>h2 x n)).sc (vs:=[.own 0 l.length,.fn g2 [] [.pf [.i .i64 n] 0]]) [1] (Lent.of (by decide) ?_) ?_
 ·simp[vL,vw,qr qh,qe qh,zW (qh (k:=.i64) (l:=l))]
 have hfl:=List.length_filter_le (fun x=>!decide (x=n)) l
 simp only[vK,simprocAttr,qe qh];cases is with
 | false =>
  simp only[↓vS,vT,simprocAttr];simp[vZ,vP,Tr.get_set,jl,qE qh];intro h0;rw[List.filter_eq_nil_iff.2 (by simpa using h0)];rfl
 | true =>
  simp only[↓vS,vT,simprocAttr];obtain⟨m,hm⟩:∃m,m=l.filter (fun x=>!decide (x=n)):=⟨_,rfl⟩
  simp only[← hm] at hfl ⊢;refine (h4 m n (by omega)).lend (vs':=[.fz m.length (rI .i64 m),.i .i64 n]) ?_ rfl ?_
  ·simp[vZ,vP,Tr.get_set,qE qh];intro h0;rw[h0];rfl
  have hb:=qeu m n;simp only[↓vS,vT,simprocAttr];refine (h5 m.length (bsI m n) (rI .i64 m) [.i .i64 n] (by rw[wV];omega) rfl qh rfl J2 rfl hb (by omega) (by omega)).sc (vs:=[.own 0 m.length,.i .i64 (bsI m n:Int),.sl 1 0 1 1 false]) [1,2] (Lent.of (by decide) ?_) ?_
  ·simp[vL,vw,qr qh,qe qh]
  have hT:rI .i64 (jl l n true)=(rI .i64 m).take (bsI m n*1)++([.i .i64 n]++(rI .i64 m).drop (bsI m n*1)):=by
   rw[← qjW,QY,JF,Z7,Z7];simp[jl,← hm]
  have hL:(jl l n true).length=m.length+1:=by
   simp[jl,← hm];omega
  simp only[← hT];simp only[vK,simprocAttr,qe qh];simp only[↓vS,vT,simprocAttr];simp[vZ,vP,Tr.get_set,qE qh,hL]
def wP(a b c d e:Nat):ICode:=.seq (.r [.n 9 0,.l 10 a [.t 9],.q 11 (.mkF b [] [.t 4]),.l 12 c [.t 10,.t 11],.n 0 12]) (.seq (.seq (.r [.n 13 2,.q 14 (.un .not (.t 13))]) (.cond (.t 14) (.seq (.r [.n 15 0,.n 6 15]) (.ret)) (.skip))) (.seq (.r [.n 17 0,.d 18 4,.l 19 d [.t 17,.t 18],.n 16 19,.x 20 16 0,.x 21 16 1,.n 7 20,.n 8 21]) (.seq (.r [.n 22 0,.n 23 7,.d 24 4,.q 25 (.buildS 1 [.i .u32 0] [(0,1,(.t 24))]),.l 26 e [.t 22,.t 23,.t 25],.n 6 26]) (.ret))))
def kf(a b c d e:Nat):IFn:=⟨[.tmp 6],.seq (.r [.q 4 (.box (.t 1)),.m 6 .N]) (.cut (wP a b c d e))⟩
theorem qtb{g1 g2 g3 g4 g5:Nat}(hc:qj P f (kf g1 g2 g3 g4 g5)=true)(h1:kw P g1 1 4)(h2:∀x y,qc P g2 [.i .u32 x,.pf [.i .u32 y] 0] (.b (decide (x=y))))(h3:VP P g3)(h4:qfc P g4)(h5:Jq 1 4 P g5)
  (l:List Int) (n:Int) (is:Bool) (hl:l.length+1<=qf) (hl8:(l.length+1)*8<=qf):qc P f [.fz l.length (rI .u32 l),.i .u32 n,.b is] (.fz (jl l n is).length (rI .u32 (jl l n is))):=by
 refine qc.mk hc (by simp[qt,clo]) ?_;simp only[kf,vI,simprocAttr];simp only[↓vS,vT,simprocAttr];refine S.weak (Wk.mk [(0,.fz l.length (rI .u32 l)),(1,.i .u32 n),(2,.b is),(4,.ptr 0 0)] [.cells 0 true false [.i .u32 n]] [0] ?_ ?_ ?_ rfl) ?_
 ·simp[vw]
 ·simp[vw]
 ·simp
 refine S.weak (Wk.freeze 0 0 0 rfl rfl (Nat.le_refl _) (by simp)) ?_;refine qq ?_;simp only[wP,vI,simprocAttr,fzv,yp,fzB,List.map_cons,List.map_nil,List.set_cons_zero,if_true];simp only[↓vS,vT,simprocAttr];refine (h1 l.length (rI .u32 l) (by rw[wV];omega) qh J2 (by omega) (by omega)).sc ?_;simp only[↓vS,vT,simprocAttr,zW (qh (k:=.u32) (l:=l))];refine (h3 (fun x=>decide (x=n)) g2 [] [.pf [.i .u32 n] 0] l rfl rfl (by omega) (fun x _=>h2 x n)).sc (vs:=[.own 0 l.length,.fn g2 [] [.pf [.i .u32 n] 0]]) [1] (Lent.of (by decide) ?_) ?_
 ·simp[vL,vw,qr qh,qe qh,zW (qh (k:=.u32) (l:=l))]
 have hfl:=List.length_filter_le (fun x=>!decide (x=n)) l
 simp only[vK,simprocAttr,qe qh];cases is with
 | false =>
  simp only[↓vS,vT,simprocAttr];simp[vZ,vP,Tr.get_set,jl,qE qh];intro h0;rw[List.filter_eq_nil_iff.2 (by simpa using h0)];rfl
 | true =>
  simp only[↓vS,vT,simprocAttr];obtain⟨m,hm⟩:∃m,m=l.filter (fun x=>!decide (x=n)):=⟨_,rfl⟩
  simp only[← hm] at hfl ⊢;refine (h4 m n (by omega)).lend (vs':=[.fz m.length (rI .u32 m),.i .u32 n]) ?_ rfl ?_
  ·simp[vZ,vP,Tr.get_set,qE qh];intro h0;rw[h0];rfl
  have hb:=qeu m n;simp only[↓vS,vT,simprocAttr];refine (h5 m.length (bsI m n) (rI .u32 m) [.i .u32 n] (by rw[wV];omega) rfl qh rfl J2 rfl hb (by omega) (by omega)).sc (vs:=[.own 0 m.length,.i .i64 (bsI m n:Int),.sl 1 0 1 1 false]) [1,2] (Lent.of (by decide) ?_) ?_
  ·simp[vL,vw,qr qh,qe qh]
  have hT:rI .u32 (jl l n true)=(rI .u32 m).take (bsI m n*1)++([.i .u32 n]++(rI .u32 m).drop (bsI m n*1)):=by
   rw[← qjW,QY,JF,Z7,Z7];simp[jl,← hm]
  have hL:(jl l n true).length=m.length+1:=by
   simp[jl,← hm];omega
  simp only[← hT];simp only[vK,simprocAttr,qe qh];simp only[↓vS,vT,simprocAttr];simp[vZ,vP,Tr.get_set,qE qh,hL]
end Go.Kc
end
section
/- What arch.Parse answers. Condition: the functions' texts are these. -/
namespace Go.Kc
variable {P:Program} {f:Nat}
def zK:List (List UInt8×Int):=[([120,56,54,45,54,52],3221225534),([120,56,54],1073741827),([120,51,50],3221225534),([97,114,109],1073741864),([97,114,109,54,52],3221225655),([114,105,115,99,118,54,52],3221225715)]
def JT:IFn:=⟨[.cell 0 12 true],.seq (.r [.q 0 (.alloc [.s [],.i .u32 0,.s [],.i .u32 0,.s [],.i .u32 0,.s [],.i .u32 0,.s [],.i .u32 0,.s [],.i .u32 0])]) (.seq (.r [.q 1 (.build [.s [],.i .u32 0] [(0,1,(.c (.s [120,56,54,45,54,52]))),(1,1,(.c (.i .u32 3221225534)))]),.q 2 (.build [.s [],.i .u32 0] [(0,1,(.c (.s [120,56,54]))),(1,1,(.c (.i .u32 1073741827)))]),.q 3 (.build [.s [],.i .u32 0] [(0,1,(.c (.s [120,51,50]))),(1,1,(.c (.i .u32 3221225534)))]),.q 4 (.build [.s [],.i .u32 0] [(0,1,(.c (.s [97,114,109]))),(1,1,(.c (.i .u32 1073741864)))]),.q 5 (.build [.s [],.i .u32 0] [(0,1,(.c (.s [97,114,109,54,52]))),(1,1,(.c (.i .u32 3221225655)))]),.q 6 (.build [.s [],.i .u32 0] [(0,1,(.c (.s [114,105,115,99,118,54,52]))),(1,1,(.c (.i .u32 3221225715)))]),.q 7 (.build [.s [],.i .u32 0,.s [],.i .u32 0,.s [],.i .u32 0,.s [],.i .u32 0,.s [],.i .u32 0,.s [],.i .u32 0] [(0,2,(.t 1)),(2,2,(.t 2)),(4,2,(.t 3)),(6,2,(.t 4)),(8,2,(.t 5)),(10,2,(.t 6))]),.u (.store 12 (.t 0) (.t 7))]) (.ret))⟩
theorem qn3(hc:qj P f JT=true):qc P f [] (.agg (zK.flatMap (zo .u32))):=by
 refine qc.mk hc rfl ?_;simp only[JT,vI,simprocAttr];simp only[↓vS,vT,simprocAttr,zK,zo,List.flatMap_cons,List.flatMap_nil,vZ]
def WO(a b:Nat):IFn:=⟨[.tmp 2],.seq (.r [.m 2 (.k 0)]) (.seq (.r [.l 4 a [],.q 3 (.alloc [.s [],.i .u32 0,.s [],.i .u32 0,.s [],.i .u32 0,.s [],.i .u32 0,.s [],.i .u32 0,.s [],.i .u32 0]),.u (.store 12 (.t 3) (.t 4))]) (.seq (.r [.q 5 (.slcA 6 2 (.t 3) none none none),.n 6 0,.l 7 b [.t 5,.t 6],.n 2 7]) (.ret)))⟩
def qbJ(P:Program)(f:Nat):Prop:=∀(p:List UInt8×Int->Bool) (g:Nat) (a c:List AV),qt a=true->qt c=true->(∀x ∈ zK,qc P g (a++([.agg (zo .u32 x)]++c)) (.b (p x)))->qc P f [.fn g a c] (.i .i64 (jf p zK 0))
theorem qqJ{g1 g2:Nat}(hc:qj P f (WO g1 g2)=true)(h1:qc P g1 [] (.agg (zK.flatMap (zo .u32))))(h2:ZO 2 P g2):qbJ P f:=by
 intro p g a c ha hcc hp;refine qc.mk hc (by simp[qt,clo,ha,hcc]) ?_;simp only[WO,vI,simprocAttr];simp only[↓vS,vT,simprocAttr];refine h1.sc ?_;simp only[↓vS,vT,simprocAttr,zK,zo,List.flatMap_cons,List.flatMap_nil];refine (h2 (zo .u32) p g a c zK vo ha hcc (by decide) hp).lend (vs':=[.fz 6 (zK.flatMap (zo .u32)),.fn g a c]) ?_ rfl ?_
 ·refine .cons _ _ _ _ (.cut 2 rfl (Nat.le_refl _) ?_) (.cons _ _ _ _ (.fn _ _ _ _ _ (Frzs.self ha) (Frzs.self hcc)) .nil);simp[vw,zK,zo]
 simp only[↓vS,vT,simprocAttr,vZ,zK]
def Xg:IFn:=⟨[.tmp 3],.seq (.r [.q 2 (.box (.t 0)),.m 3 .F]) (.seq (.r [.f 4 0 2,.d 5 4,.d 6 1,.b 7 .eql 5 6,.n 3 7]) (.ret))⟩
theorem qm8(hc:qj P f Xg=true)(s:List UInt8)(x:List UInt8×Int):qc P f [.agg (zo .u32 x),.pf [.s s] 0] (.b (decide (x.1=s))):=by
 refine qc.mk hc (by simp[qt,clo,zo]) ?_;simp only[Xg,zo,vI,simprocAttr];simp only[↓vS,vT,simprocAttr,vZ]
def jB(s:List UInt8):Int×Int:=if s=[110,97,116,105,118,101] then (0,0) else if jf (fun x=>decide (x.1=s)) zK 0<0 then (0,80) else (jf (fun x=>decide (x.1=s)) zK 0,0)
def JS(a b:Nat):IFn:=⟨[.tmp 2,.tmp 3],.seq (.r [.q 1 (.box (.t 0)),.m 2 (.k 0),.m 3 (.k 0)]) (.seq (.seq (.r [.d 5 1,.q 6 (.bin .eql (.t 5) (.c (.s [110,97,116,105,118,101])))]) (.cond (.t 6) (.seq (.r [.m 2 (.k 0),.m 3 (.k 0)]) (.ret)) (.skip))) (.seq (.r [.q 7 (.mkF a [] [.t 1]),.l 8 b [.t 7],.n 4 8]) (.seq (.seq (.r [.n 9 4,.w 10 .lss 9 0]) (.cond (.t 10) (.seq (.r [.m 2 (.k 0),.m 3 (.k 80)]) (.ret)) (.skip))) (.seq (.r [.n 11 4,.n 2 11,.m 3 (.k 0)]) (.ret)))))⟩
theorem qqI{g1 g2:Nat}(hc:qj P f (JS g1 g2)=true)(h1:∀s x,qc P g1 [.agg (zo .u32 x),.pf [.s s] 0] (.b (decide (x.1=s))))(h2:qbJ P g2)(s:List UInt8):qc P f [.s s] (.tup [.i .i64 (jB s).1,.i .i64 (jB s).2]):=by
 refine qc.mk hc (by simp[qt,clo]) ?_;simp only[JS,vI,simprocAttr]
 by_cases h:s=[110,97,116,105,118,101]
 ·simp only[↓vS,vT,simprocAttr,h,vZ,jB]
 ·simp only[↓vS,vT,simprocAttr,h];refine (h2 (fun x=>decide (x.1=s)) g1 [] [.pf [.s s] 0] rfl rfl (fun x _=>h1 s x)).lend (vs':=[.fn g1 [] [.pf [.s s] 0]]) ?_ rfl ?_
  ·simp[vZ,vP,Tr.get_set]
  by_cases hi:jf (fun x=>decide (x.1=s)) zK 0<0
  ·simp only[↓vS,vT,simprocAttr,hi,vZ,jB,h]
  ·simp only[↓vS,vT,simprocAttr,hi,vZ,jB,h]
end Go.Kc
end
section
/- Calls, lists, policies, assignments, notes: the program's structs as Lean's. No condition. -/
namespace Go.Kc
structure GCall where
 name:List UInt8
 act:Int
def zt(c:GCall):List AV:=[.s c.name,.i .u32 c.act]
structure GNote where
 file:List UInt8
 line:Int
 err:Int
 text:List UInt8
def Xf(n:GNote):List AV:=[.s n.file,.i .i64 n.line,.i .i64 n.err,.s n.text]
structure Asg where
 file:List UInt8
 line:Int
 sec:List UInt8
 key:List UInt8
 val:List UInt8
def xl(a:Asg):List AV:=[.s a.file,.i .i64 a.line,.s a.sec,.s a.key,.s a.val]
theorem kV(c:GCall):(zt c).length=2:=rfl
theorem Vj(c:GNote):(Xf c).length=4:=rfl
def rC(l:List GCall):List AV:=l.flatMap zt
section
variable {l m:List GCall} {j:Nat}
theorem yM:(rC l).length=l.length*2:=zY kV l
theorem qg:qt (rC l)=true:=Zn fun _=>rfl
theorem qa8:qJ (rC l)=true:=J8 fun _=>rfl
theorem qao:(rC l).take (j*2)=rC (l.take j):=qbO kV l j
theorem qcO:(rC l).drop (j*2)=rC (l.drop j):=Ju kV l j
theorem Z6{c:GCall}(h:l[j]?=some c):((rC l).drop (j*2)).take 2=zt c:=xc kV h
theorem qpY{c:GCall}(h:l[j]?=some c){i:Nat}(hi:i<2):(rC l)[j*2+i]?=(zt c)[i]?:=qdy kV h hi
theorem qeU:rC l++rC m=rC (l++m):=by simp[rC]
theorem qan{c:GCall}:rC (c::l) = .s c.name :: .i .u32 c.act::rC l:=rfl
theorem yz(h:j<l.length):j*2+2<=(rC l).length:=by rw[yM];omega
end
def rN(l:List GNote):List AV:=l.flatMap Xf
section
variable {l m:List GNote} {j:Nat}
theorem vD:(rN l).length=l.length*4:=zY Vj l
theorem qb:qt (rN l)=true:=Zn fun _=>rfl
theorem qsQ:qJ (rN l)=true:=J8 fun _=>rfl
theorem qmM{c:GNote}(h:l[j]?=some c):((rN l).drop (j*4)).take 4=Xf c:=xc Vj h
theorem VF:rN l++rN m=rN (l++m):=by simp[rN]
theorem qjZ:rN []=[]:=rfl
theorem qj0{n:GNote}:rN [n]=[.s n.file,.i .i64 n.line,.i .i64 n.err,.s n.text]:=rfl
theorem qjY(h:j<l.length):j*4+4<=(rN l).length:=by rw[vD];omega
end
structure GList where
 mode:Int
 calls:List GCall
def qv(l:GList):List AV:=[.i .u8 l.mode,.fz l.calls.length (rC l.calls)]
structure Pol where
 arches:List Int
 filter:GList
 deny:Int
 log:GList
 fams:List Int
 fmode:Int
 spaces:Int
 we:Bool
 pe:Bool
 rt:Bool
 np:Bool
def qo(p:Pol):List AV:=[.fz p.arches.length (rI .i64 p.arches),.i .u8 p.filter.mode,.fz p.filter.calls.length (rC p.filter.calls),.i .u32 p.deny,.i .u8 p.log.mode,.fz p.log.calls.length (rC p.log.calls),
 .fz p.fams.length (rI .u32 p.fams),.i .u8 p.fmode,.i .u64 p.spaces,.b p.we,.b p.pe,.b p.rt,.b p.np]
theorem Jr(p:Pol):qt (qo p)=true:=rfl
def y7:Pol:=⟨[],⟨0,[]⟩,0,⟨0,[]⟩,[],0,0,false,false,false,false⟩
def qN(a:Asg)(p:Int×List UInt8):GNote:=⟨a.file,a.line,p.1,p.2.take 60⟩
end Go.Kc
end
section
/- What the setter's methods do: notes, yes and no. Condition: the functions' texts are these. -/
namespace Go.Kc
variable {P:Program} {f:Nat}
def qF(p:Pol)(a:Asg)(nb n:Nat):List AV:=[.fz p.arches.length (rI .i64 p.arches),.i .u8 p.filter.mode,.fz p.filter.calls.length (rC p.filter.calls),.i .u32 p.deny,.i .u8 p.log.mode,.fz p.log.calls.length (rC p.log.calls),
 .fz p.fams.length (rI .u32 p.fams),.i .u8 p.fmode,.i .u64 p.spaces,.b p.we,.b p.pe,.b p.rt,.b p.np,.own nb n,.s a.file,.i .i64 a.line,.s a.sec,.s a.key,.s a.val]
def qw(p:Pol)(a:Asg)(ns new:List GNote):List Blk :=
 if new=[] then [.cells 0 true false (qF p a 1 ns.length),.cells 4 true true (rN ns)] else [.cells 0 true false (qF p a 2 (ns++new).length),.dead,.cells 4 true true (rN (ns++new))]
def kc:IFn:=⟨[],.reg true [.n 6 0,.n 7 0,.q 8 (.nilChk (.t 7)),.f 9 13 8,.d 10 9,.n 11 0,.q 12 (.nilChk (.t 11)),.f 13 14 12,.f 14 0 13,.d 15 14,.n 16 0,.q 17 (.nilChk (.t 16)),.f 18 14 17,.f 19 1 18,.d 20 19,.n 21 1,.n 22 2,.n 23 2,.q 24 (.len true (.t 23)),.q 25 (.min (.t 24) (.k 60)),.q 26 (.slcStr (.t 22) none (some (.t 25))),.q 27 (.build [.s [],.i .i64 0,.i .i64 0,.s []] [(0,1,(.t 15)),(1,1,(.t 20)),(2,1,(.t 21)),(3,1,(.t 26))]),.q 28 (.buildS 1 [.s [],.i .i64 0,.i .i64 0,.s []] [(0,4,(.t 27))]),.q 29 (.app 4 48 true (.t 10) (.t 28)),.q 30 (.nilChk (.t 6)),.f 31 13 30,.u (.store 1 (.t 31) (.t 29))]⟩
def Q6(P:Program)(f:Nat):Prop:=∀(p:Pol) (a:Asg) (ns:List GNote) (e:Int) (text:List UInt8),(ns.length+1)*48<=qf->
 Upd P f [.ptr 0 0,.i .i64 e,.s text] [.cells 0 true false (qF p a 1 ns.length),.cells 4 true true (rN ns)] (.tup []) [.cells 0 true false (qF p a 2 (ns++[qN a (e,text)]).length),.dead,.cells 4 true true (rN (ns++[qN a (e,text)]))]
theorem qsC(hc:qj P f kc=true):Q6 P f:=by
 intro p a ns e text hr;refine Upd.mk hc (by simp[z8,bnd]) (by simp) ?_;simp only[kc,qF,vI,simprocAttr];simp only[↓vS,vT,simprocAttr];refine zQ ?_;have hr1:ns.length+1<=qf:=by omega
 have fin:∀tt,tt=text.take 60->rN ns++[AV.s a.file,.i .i64 a.line,.i .i64 e,.s tt]=rN (ns++[qN a (e,text)]):=by
  intro tt ht;subst ht;rw[← VF];rfl
 by_cases h60:(60:Int)<text.length
 ·have h1:60<=text.length:=by omega
  simp only[↓vS,vT,simprocAttr,h60,h1,hr1,hr,vD,fin _ rfl];intro _;refine⟨[0,1,3],?_⟩;simp[vw,qa,qb];decide
 ·have h1:text.take 60=text:=List.take_of_length_le (by omega);simp only[↓vS,vT,simprocAttr,h60,hr1,hr,vD,List.take_length,fin _ h1.symm];intro _;refine⟨[0,1,3],?_⟩;simp[vw,qa,qb];decide
noncomputable def zH(v:List UInt8):Option Bool×List (Int×List UInt8) :=
 if v=[] then (some false,[]) else if v ∈ xH then (some false,[]) else if v ∈ zX then (some true,[]) else (none,[(150,v)])
def qY(a b:Nat):IFn:=⟨[],.seq (.seq (.r [.n 8 1,.q 9 (.bin .eql (.t 8) (.c (.s [])))]) (.cond (.t 9) (.seq (.r [.n 10 2,.q 11 (.nilChk (.t 10)),.u (.store 1 (.t 11) .F)]) (.ret)) (.skip))) (.seq (.r [.n 13 1,.l 14 a [.t 13],.n 12 14,.x 15 12 0,.x 16 12 1,.n 6 15,.n 7 16]) (.seq (.seq (.r [.n 17 7,.w 18 .neq 17 0]) (.cond (.t 18) (.seq (.r [.n 19 0,.n 20 7,.n 21 1,.l 22 b [.t 19,.t 20,.t 21]]) (.ret)) (.skip))) (.r [.n 23 2,.n 24 6,.q 25 (.nilChk (.t 23)),.u (.store 1 (.t 25) (.t 24))])))⟩
def qdh(P:Program)(g:Nat):Prop:=∀s,qc P g [.s s] (VN s)
def qh1(P:Program)(f:Nat):Prop:=∀(p:Pol) (a:Asg) (ns:List GNote) (v:List UInt8),(ns.length+1)*48<=qf->
 Upd P f [.ptr 0 0,.s v,.ptr 0 9] [.cells 0 true false (qF p a 1 ns.length),.cells 4 true true (rN ns)] (.tup []) (qw { p with we:=(zH v).1.getD p.we } a ns ((zH v).2.map (qN a)))
theorem qug{g1 g2:Nat}(hc:qj P f (qY g1 g2)=true)(h1:qdh P g1)(h2:Q6 P g2):qh1 P f:=by
 intro p a ns v hr;refine Upd.mk hc (by simp[z8,bnd]) (by unfold qw;split<;>simp) ?_;simp only[qY,qF,vI,simprocAttr]
 by_cases hv:v=[]
 ·simp only[↓vS,vT,simprocAttr,hv];intro _;refine⟨[0,1],?_⟩;simp[vw,qa,qb,qw,qF,zH];decide
 ·simp only[↓vS,vT,simprocAttr,hv];refine (h1 v).sc ?_;unfold VN
  by_cases hno:v ∈ xH
  ·simp only[↓vS,vT,simprocAttr,hno];intro _;refine⟨[0,1],?_⟩;simp[vw,qa,qb,qw,qF,zH,hv,hno];decide
  ·by_cases hy:v ∈ zX
   ·simp only[↓vS,vT,simprocAttr,hno,hy];intro _;refine⟨[0,1],?_⟩;simp[vw,qa,qb,qw,qF,zH,hv,hno,hy];decide
   ·simp only[↓vS,vT,simprocAttr,hno,hy];refine (h2 p a ns 150 v hr).sc (vs:=[.ptr 0 0,.i .i64 150,.s v]) [0,1] (Lent.of (by decide) ?_) ?_
    ·simp[vL,vw,qF,qr qb,qe qb,qP,clo,qp]
    ·simp only[vK,simprocAttr,qF,qe qb,qp,clo];simp only[↓vS,vT,simprocAttr];intro _;refine⟨[0,1,2],?_⟩;simp[vw,qa,qb,qw,qF,zH,hv,hno,hy];decide
def qfh(P:Program)(f:Nat):Prop:=∀(p:Pol) (a:Asg) (ns:List GNote) (v:List UInt8),(ns.length+1)*48<=qf->
 Upd P f [.ptr 0 0,.s v,.ptr 0 10] [.cells 0 true false (qF p a 1 ns.length),.cells 4 true true (rN ns)] (.tup []) (qw { p with pe:=(zH v).1.getD p.pe } a ns ((zH v).2.map (qN a)))
theorem qtq{g1 g2:Nat}(hc:qj P f (qY g1 g2)=true)(h1:qdh P g1)(h2:Q6 P g2):qfh P f:=by
 intro p a ns v hr;refine Upd.mk hc (by simp[z8,bnd]) (by unfold qw;split<;>simp) ?_;simp only[qY,qF,vI,simprocAttr]
 by_cases hv:v=[]
 ·simp only[↓vS,vT,simprocAttr,hv];intro _;refine⟨[0,1],?_⟩;simp[vw,qa,qb,qw,qF,zH];decide
 ·simp only[↓vS,vT,simprocAttr,hv];refine (h1 v).sc ?_;unfold VN
  by_cases hno:v ∈ xH
  ·simp only[↓vS,vT,simprocAttr,hno];intro _;refine⟨[0,1],?_⟩;simp[vw,qa,qb,qw,qF,zH,hv,hno];decide
  ·by_cases hy:v ∈ zX
   ·simp only[↓vS,vT,simprocAttr,hno,hy];intro _;refine⟨[0,1],?_⟩;simp[vw,qa,qb,qw,qF,zH,hv,hno,hy];decide
   ·simp only[↓vS,vT,simprocAttr,hno,hy];refine (h2 p a ns 150 v hr).sc (vs:=[.ptr 0 0,.i .i64 150,.s v]) [0,1] (Lent.of (by decide) ?_) ?_
    ·simp[vL,vw,qF,qr qb,qe qb,qP,clo,qp]
    ·simp only[vK,simprocAttr,qF,qe qb,qp,clo];simp only[↓vS,vT,simprocAttr];intro _;refine⟨[0,1,2],?_⟩;simp[vw,qa,qb,qw,qF,zH,hv,hno,hy];decide
def qfi(P:Program)(f:Nat):Prop:=∀(p:Pol) (a:Asg) (ns:List GNote) (v:List UInt8),(ns.length+1)*48<=qf->
 Upd P f [.ptr 0 0,.s v,.ptr 0 11] [.cells 0 true false (qF p a 1 ns.length),.cells 4 true true (rN ns)] (.tup []) (qw { p with rt:=(zH v).1.getD p.rt } a ns ((zH v).2.map (qN a)))
theorem qtr{g1 g2:Nat}(hc:qj P f (qY g1 g2)=true)(h1:qdh P g1)(h2:Q6 P g2):qfi P f:=by
 intro p a ns v hr;refine Upd.mk hc (by simp[z8,bnd]) (by unfold qw;split<;>simp) ?_;simp only[qY,qF,vI,simprocAttr]
 by_cases hv:v=[]
 ·simp only[↓vS,vT,simprocAttr,hv];intro _;refine⟨[0,1],?_⟩;simp[vw,qa,qb,qw,qF,zH];decide
 ·simp only[↓vS,vT,simprocAttr,hv];refine (h1 v).sc ?_;unfold VN
  by_cases hno:v ∈ xH
  ·simp only[↓vS,vT,simprocAttr,hno];intro _;refine⟨[0,1],?_⟩;simp[vw,qa,qb,qw,qF,zH,hv,hno];decide
  ·by_cases hy:v ∈ zX
   ·simp only[↓vS,vT,simprocAttr,hno,hy];intro _;refine⟨[0,1],?_⟩;simp[vw,qa,qb,qw,qF,zH,hv,hno,hy];decide
   ·simp only[↓vS,vT,simprocAttr,hno,hy];refine (h2 p a ns 150 v hr).sc (vs:=[.ptr 0 0,.i .i64 150,.s v]) [0,1] (Lent.of (by decide) ?_) ?_
    ·simp[vL,vw,qF,qr qb,qe qb,qP,clo,qp]
    ·simp only[vK,simprocAttr,qF,qe qb,qp,clo];simp only[↓vS,vT,simprocAttr];intro _;refine⟨[0,1,2],?_⟩;simp[vw,qa,qb,qw,qF,zH,hv,hno,hy];decide
def qfj(P:Program)(f:Nat):Prop:=∀(p:Pol) (a:Asg) (ns:List GNote) (v:List UInt8),(ns.length+1)*48<=qf->
 Upd P f [.ptr 0 0,.s v,.ptr 0 12] [.cells 0 true false (qF p a 1 ns.length),.cells 4 true true (rN ns)] (.tup []) (qw { p with np:=(zH v).1.getD p.np } a ns ((zH v).2.map (qN a)))
theorem qts{g1 g2:Nat}(hc:qj P f (qY g1 g2)=true)(h1:qdh P g1)(h2:Q6 P g2):qfj P f:=by
 intro p a ns v hr;refine Upd.mk hc (by simp[z8,bnd]) (by unfold qw;split<;>simp) ?_;simp only[qY,qF,vI,simprocAttr]
 by_cases hv:v=[]
 ·simp only[↓vS,vT,simprocAttr,hv];intro _;refine⟨[0,1],?_⟩;simp[vw,qa,qb,qw,qF,zH];decide
 ·simp only[↓vS,vT,simprocAttr,hv];refine (h1 v).sc ?_;unfold VN
  by_cases hno:v ∈ xH
  ·simp only[↓vS,vT,simprocAttr,hno];intro _;refine⟨[0,1],?_⟩;simp[vw,qa,qb,qw,qF,zH,hv,hno];decide
  ·by_cases hy:v ∈ zX
   ·simp only[↓vS,vT,simprocAttr,hno,hy];intro _;refine⟨[0,1],?_⟩;simp[vw,qa,qb,qw,qF,zH,hv,hno,hy];decide
   ·simp only[↓vS,vT,simprocAttr,hno,hy];refine (h2 p a ns 150 v hr).sc (vs:=[.ptr 0 0,.i .i64 150,.s v]) [0,1] (Lent.of (by decide) ?_) ?_
    ·simp[vL,vw,qF,qr qb,qe qb,qP,clo,qp]
    ·simp only[vK,simprocAttr,qF,qe qb,qp,clo];simp only[↓vS,vT,simprocAttr];intro _;refine⟨[0,1,2],?_⟩;simp[vw,qa,qb,qw,qF,zH,hv,hno,hy];decide
end Go.Kc
end
section
/- What the setter's methods do: yes and no by their keys; architectures. Condition: the functions' texts are these. -/
namespace Go.Kc
variable {P:Program} {f:Nat}
def QM(P:Program)(f:Nat)(M:Pol->List UInt8->Pol×List (Int×List UInt8)):Prop:=∀(p:Pol) (a:Asg) (ns:List GNote) (v:List UInt8),v.length<=1000->ns.length<=1000->p.arches.length<=1000->p.fams.length<=1000->
 Upd P f [.ptr 0 0,.s v] [.cells 0 true false (qF p a 1 ns.length),.cells 4 true true (rN ns)] (.tup []) (qw (M p v).1 a ns ((M p v).2.map (qN a)))
noncomputable def Kn(p:Pol)(v:List UInt8):Pol×List (Int×List UInt8):=({ p with we:=(zH v).1.getD p.we },(zH v).2)
def jt(a:Nat):IFn:=⟨[],.r [.n 4 0,.n 5 1,.n 6 0,.q 7 (.nilChk (.t 6)),.f 8 0 7,.f 9 9 8,.l 10 a [.t 4,.t 5,.t 9]]⟩
theorem qtn{g:Nat}(hc:qj P f (jt g)=true)(h1:qh1 P g):QM P f Kn:=by
 intro p a ns v hv hn _ _;refine Upd.mk hc (by simp[z8,bnd]) (by unfold qw;split<;>simp) ?_;simp only[jt,qF,vI,simprocAttr];simp only[↓vS,vT,simprocAttr];refine (h1 p a ns v (by simp only[qf];omega)).sc (vs:=[.ptr 0 0,.s v,.ptr 0 9]) [0,1] (Lent.of (by decide) ?_) ?_
 ·simp[vL,vw,qF,qr qb,qe qb,qP,clo,qp]
 unfold Kn qw;dsimp only
 by_cases hnew:(zH v).2.map (qN a)=[]
 ·simp only[if_pos hnew];simp only[vK,simprocAttr,qF,qe qb,qp,clo];simp only[↓vS,vT,simprocAttr];intro _;refine⟨[0,1],?_⟩;simp[vw,qa,qb];decide
 ·simp only[if_neg hnew];simp only[vK,simprocAttr,qF,qe qb,qp,clo];simp only[↓vS,vT,simprocAttr];intro _;refine⟨[0,1,2],?_⟩;simp[vw,qa,qb];decide
noncomputable def Kl(p:Pol)(v:List UInt8):Pol×List (Int×List UInt8):=({ p with pe:=(zH v).1.getD p.pe },(zH v).2)
def jK(a:Nat):IFn:=⟨[],.r [.n 4 0,.n 5 1,.n 6 0,.q 7 (.nilChk (.t 6)),.f 8 0 7,.f 9 10 8,.l 10 a [.t 4,.t 5,.t 9]]⟩
theorem qtl{g:Nat}(hc:qj P f (jK g)=true)(h1:qfh P g):QM P f Kl:=by
 intro p a ns v hv hn _ _;refine Upd.mk hc (by simp[z8,bnd]) (by unfold qw;split<;>simp) ?_;simp only[jK,qF,vI,simprocAttr];simp only[↓vS,vT,simprocAttr];refine (h1 p a ns v (by simp only[qf];omega)).sc (vs:=[.ptr 0 0,.s v,.ptr 0 10]) [0,1] (Lent.of (by decide) ?_) ?_
 ·simp[vL,vw,qF,qr qb,qe qb,qP,clo,qp]
 unfold Kl qw;dsimp only
 by_cases hnew:(zH v).2.map (qN a)=[]
 ·simp only[if_pos hnew];simp only[vK,simprocAttr,qF,qe qb,qp,clo];simp only[↓vS,vT,simprocAttr];intro _;refine⟨[0,1],?_⟩;simp[vw,qa,qb];decide
 ·simp only[if_neg hnew];simp only[vK,simprocAttr,qF,qe qb,qp,clo];simp only[↓vS,vT,simprocAttr];intro _;refine⟨[0,1,2],?_⟩;simp[vw,qa,qb];decide
noncomputable def Km(p:Pol)(v:List UInt8):Pol×List (Int×List UInt8):=({ p with rt:=(zH v).1.getD p.rt },(zH v).2)
def wx(a:Nat):IFn:=⟨[],.r [.n 4 0,.n 5 1,.n 6 0,.q 7 (.nilChk (.t 6)),.f 8 0 7,.f 9 11 8,.l 10 a [.t 4,.t 5,.t 9]]⟩
theorem qtm{g:Nat}(hc:qj P f (wx g)=true)(h1:qfi P g):QM P f Km:=by
 intro p a ns v hv hn _ _;refine Upd.mk hc (by simp[z8,bnd]) (by unfold qw;split<;>simp) ?_;simp only[wx,qF,vI,simprocAttr];simp only[↓vS,vT,simprocAttr];refine (h1 p a ns v (by simp only[qf];omega)).sc (vs:=[.ptr 0 0,.s v,.ptr 0 11]) [0,1] (Lent.of (by decide) ?_) ?_
 ·simp[vL,vw,qF,qr qb,qe qb,qP,clo,qp]
 unfold Km qw;dsimp only
 by_cases hnew:(zH v).2.map (qN a)=[]
 ·simp only[if_pos hnew];simp only[vK,simprocAttr,qF,qe qb,qp,clo];simp only[↓vS,vT,simprocAttr];intro _;refine⟨[0,1],?_⟩;simp[vw,qa,qb];decide
 ·simp only[if_neg hnew];simp only[vK,simprocAttr,qF,qe qb,qp,clo];simp only[↓vS,vT,simprocAttr];intro _;refine⟨[0,1,2],?_⟩;simp[vw,qa,qb];decide
noncomputable def Kk(p:Pol)(v:List UInt8):Pol×List (Int×List UInt8):=({ p with np:=(zH v).1.getD p.np },(zH v).2)
def js(a:Nat):IFn:=⟨[],.r [.n 4 0,.n 5 1,.n 6 0,.q 7 (.nilChk (.t 6)),.f 8 0 7,.f 9 12 8,.l 10 a [.t 4,.t 5,.t 9]]⟩
theorem qtk{g:Nat}(hc:qj P f (js g)=true)(h1:qfj P g):QM P f Kk:=by
 intro p a ns v hv hn _ _;refine Upd.mk hc (by simp[z8,bnd]) (by unfold qw;split<;>simp) ?_;simp only[js,qF,vI,simprocAttr];simp only[↓vS,vT,simprocAttr];refine (h1 p a ns v (by simp only[qf];omega)).sc (vs:=[.ptr 0 0,.s v,.ptr 0 12]) [0,1] (Lent.of (by decide) ?_) ?_
 ·simp[vL,vw,qF,qr qb,qe qb,qP,clo,qp]
 unfold Kk qw;dsimp only
 by_cases hnew:(zH v).2.map (qN a)=[]
 ·simp only[if_pos hnew];simp only[vK,simprocAttr,qF,qe qb,qp,clo];simp only[↓vS,vT,simprocAttr];intro _;refine⟨[0,1],?_⟩;simp[vw,qa,qb];decide
 ·simp only[if_neg hnew];simp only[vK,simprocAttr,qF,qe qb,qp,clo];simp only[↓vS,vT,simprocAttr];intro _;refine⟨[0,1,2],?_⟩;simp[vw,qa,qb];decide
def qk3(P:Program)(f:Nat):Prop:=∀(l:List Int) (n:Int) (is:Bool),l.length+1<=qf->(l.length+1)*8<=qf->qc P f [.fz l.length (rI .i64 l),.i .i64 n,.b is] (.fz (jl l n is).length (rI .i64 (jl l n is)))
def qfk(P:Program)(f:Nat):Prop:=∀(l:List Int) (n:Int) (is:Bool),l.length+1<=qf->(l.length+1)*8<=qf->qc P f [.fz l.length (rI .u32 l),.i .u32 n,.b is] (.fz (jl l n is).length (rI .u32 (jl l n is)))
def qew(P:Program)(f:Nat):Prop:=∀s,qc P f [.s s] (.tup [.i .i64 (jB s).1,.i .i64 (jB s).2])
noncomputable def zp(s:List Int×List (Int×List UInt8))(w:List UInt8):List Int×List (Int×List UInt8) :=
 if (jB w).2=0 then (jl s.1 (jB w).1 true,s.2) else (s.1,s.2++[((jB w).2,w)])
noncomputable def xO(p:Pol)(v:List UInt8):Pol×List (Int×List UInt8) :=
 let r:=(ql v).foldl zp (if ql v=[] then [] else p.arches,[])
 ({ p with arches:=r.1 },r.2)
theorem WB(ws:List (List UInt8)):∀s,(ws.foldl zp s).1.length<=s.1.length+ws.length∧(ws.foldl zp s).2.length<=s.2.length+ws.length:=by
 induction ws with
 | nil=>intro s;simp
 | cons w ws ih =>
  intro s;have h:=ih (zp s w)
  have h2:(zp s w).1.length<=s.1.length+1∧(zp s w).2.length<=s.2.length+1:=by
   unfold zp;split
   ·exact⟨qch s.1 (jB w).1 true,by simp⟩
   ·simp
  simp only[List.foldl_cons,List.length_cons];omega
def vd(a b c d:Nat):IFn:=⟨[],.seq (.r [.n 9 1,.l 10 a [.t 9],.n 4 10]) (.seq (.seq (.r [.n 11 4,.e 12 11,.w 13 .eql 12 0]) (.cond (.t 13) (.r [.n 14 0,.q 15 (.nilChk (.t 14)),.f 16 0 15,.f 17 0 16,.u (.store 1 (.t 17) .N)]) (.skip))) (.seq (.r [.n 18 4,.e 19 18,.m 20 (.k 0)]) (.blk 0 (.loop (.seq (.r [.s 21 20 19]) (.seq (.cond (.t 21) (.skip) (.exit 0)) (.seq (.blk 1 (.seq (.r [.i 22 1 18 20,.d 23 22,.n 6 23]) (.seq (.r [.n 25 6,.l 26 b [.t 25],.n 24 26,.x 27 24 0,.x 28 24 1,.n 7 27,.n 8 28]) (.seq (.r [.n 29 8,.w 30 .neq 29 0]) (.cond (.t 30) (.r [.n 31 0,.n 32 8,.n 33 6,.l 34 c [.t 31,.t 32,.t 33]]) (.r [.n 35 0,.n 36 0,.q 37 (.nilChk (.t 36)),.f 38 0 37,.f 39 0 38,.d 40 39,.n 41 7,.l 42 d [.t 40,.t 41,.T],.q 43 (.nilChk (.t 35)),.f 44 0 43,.f 45 0 44,.u (.store 1 (.t 45) (.t 42))])))))) (.r [.a 46 20 1,.n 20 46]))))))))⟩
theorem qnw{g1 g2 g3 g4:Nat}(hc:qj P f (vd g1 g2 g3 g4)=true)(h1:XG P g1)(h2:qew P g2)(h3:Q6 P g3)(h4:qk3 P g4):QM P f xO:=by
 intro p a ns v hv hn ha _;have hwl:=vc v;refine Upd.mk hc (by simp[z8,bnd]) (by unfold qw;split<;>simp) ?_;simp only[vd,qF,vI,simprocAttr];simp only[↓vS,vT,simprocAttr];refine (h1 v (by omega)).sc ?_
 by_cases hw:ql v=[]
 ·simp only[↓vS,vT,simprocAttr,hw];refine yh ?_;simp only[↓vS,vT,simprocAttr];intro _;refine⟨[0,1],?_⟩;simp[vw,qa,qb,qw,qF,xO,hw,rI];decide
 ·have hwn:¬((ql v).length:Int)=0:=by
   intro hh;exact hw (List.eq_nil_of_length_eq_zero (by omega))
  have hend:xO p v=(let r:=(ql v).foldl zp (p.arches,[]);({ p with arches:=r.1 },r.2)):=by
   unfold xO;rw[if_neg hw]
  simp only[↓vS,vT,simprocAttr,hwn]
  refine SL.loopn (α:=Nat) (fun j=>[(0,.ptr 0 0),(18,.fz (ql v).length ((ql v).map .s)),(19,.i .i64 (ql v).length),(20,.i .i64 j)])
   (fun j=>qw { p with arches:=(((ql v).take j).foldl zp (p.arches,[])).1 } a ns ((((ql v).take j).foldl zp (p.arches,[])).2.map (qN a))) (fun j=>j<=(ql v).length) (fun j=>(ql v).length-j) 0 [0,1] ?_ ?_ ?_ rfl ?_ ?_ ?_ ?_
  ·simp[vw,qw]
  ·simp[vw,qa,qb,qw,qF];try decide
  ·simp[vw]
  ·simp[qw]
  ·intro b hb;have:b=0∨b=1:=by omega
   rcases this with rfl|rfl<;>rfl
  ·exact Nat.zero_le _
  rintro j hj G ih;have hlen:=WB ((ql v).take j) (p.arches,[]);simp only[List.length_take,List.length_nil,Nat.zero_add] at hlen;generalize hr:((ql v).take j).foldl zp (p.arches,[])=r at hlen ih ⊢
  by_cases hlt:j<(ql v).length
  ·have hx:(ql v)[j]?=some (ql v)[j]:=List.getElem?_eq_getElem hlt;have hwj:IntKind.wrap .i64 ((j:Int)+1)=(j:Int)+1:=qB (by omega) (by omega)
   have hnext:((ql v).take (j+1)).foldl zp (p.arches,[])=zp r (ql v)[j]:=by
    rw[List.take_add_one,hx,List.foldl_append,hr];rfl
   generalize hww:(ql v)[j]=w at hx hnext;have ih2:=ih (j+1);rw[hnext] at ih2;have sL:r.1.length+1<=qf:=by simp only[qf];omega
   have sL8:(r.1.length+1)*8<=qf:=by simp only[qf];omega
   by_cases hnew:r.2.map (qN a)=[]
   ·have hr2:r.2=[]:=List.map_eq_nil_iff.1 hnew;simp only[qw,if_pos hnew,qF,vI,simprocAttr];simp only[↓vS,vT,simprocAttr,hlt,hx,List.getElem?_map,Option.map_some,Nat.mul_one];refine (h2 w).sc ?_
    by_cases he:(jB w).2=0
    ·simp only[↓vS,vT,simprocAttr,he];refine (h4 r.1 (jB w).1 true sL sL8).sc ?_;simp only[↓vS,vT,simprocAttr,hwj];unfold zp at ih2;rw[if_pos he] at ih2;refine ih2 (by omega) (by omega) _ _ (Wk.mkn _ _ [0,1] ?_ ?_ ?_ rfl (by simp[qw,hnew]) ?_)
     ·simp[vw,qw,hr2]
     ·simp[vw,qa,qb,qw,qF,hr2];try decide
     ·simp[vw]
     ·intro b hb;have:b=0∨b=1:=by omega
      rcases this with rfl|rfl<;>rfl
    ·simp only[↓vS,vT,simprocAttr,he];refine (h3 { p with arches:=r.1 } a ns (jB w).2 w (by simp only[qf];omega)).sc (vs:=[.ptr 0 0,.i .i64 (jB w).2,.s w]) [0,1] (Lent.of (by decide) ?_) ?_
     ·simp[vL,vw,qF,qr qb,qe qb,qP,clo,qp]
     simp only[vK,simprocAttr,qF,qe qb,qp,clo];simp only[↓vS,vT,simprocAttr,hwj];unfold zp at ih2;rw[if_neg he] at ih2;refine ih2 (by omega) (by omega) _ _ (Wk.mkn _ _ [0,1,2] ?_ ?_ ?_ rfl (by simp[qw]) ?_)
     ·simp[vw,qw]
     ·simp[vw,qa,qb,qw,qF,hr2];try decide
     ·simp[vw]
     ·intro b hb;have:b=0∨b=1:=by omega
      rcases this with rfl|rfl<;>rfl
   ·have hr2n:¬r.2=[]:=fun hh=>hnew (by rw[hh];rfl)
    have hnl:(ns++r.2.map (qN a)).length<=2001:=by simp;omega
    simp only[qw,if_neg hnew,qF,vI,simprocAttr];generalize hN:ns++r.2.map (qN a)=N at hnl ih2 ⊢;simp only[↓vS,vT,simprocAttr,hlt,hx,List.getElem?_map,Option.map_some,Nat.mul_one];refine (h2 w).sc ?_
    by_cases he:(jB w).2=0
    ·simp only[↓vS,vT,simprocAttr,he];refine (h4 r.1 (jB w).1 true sL sL8).sc ?_;simp only[↓vS,vT,simprocAttr,hwj];unfold zp at ih2;rw[if_pos he] at ih2;refine ih2 (by omega) (by omega) _ _ (Wk.mkn _ _ [0,1,2] ?_ ?_ ?_ rfl (by simp[qw,hnew]) ?_)
     ·simp[vw,qw,hr2n]
     ·simp[vw,qa,qb,qw,qF,hr2n,hN];try decide
     ·simp[vw,qw,hr2n]
     ·intro b hb;have:b=0∨b=1:=by omega
      rcases this with rfl|rfl<;>rfl
    ·simp only[↓vS,vT,simprocAttr,he];refine (h3 { p with arches:=r.1 } a N (jB w).2 w (by simp only[qf];omega)).sc (vs:=[.ptr 0 0,.i .i64 (jB w).2,.s w]) [0,2] (Lent.of (by decide) ?_) ?_
     ·simp[vL,vw,qF,qr qb,qe qb,qP,clo,qp]
     simp only[vK,simprocAttr,qF,qe qb,qp,clo];simp only[↓vS,vT,simprocAttr,hwj];unfold zp at ih2;rw[if_neg he] at ih2;refine ih2 (by omega) (by omega) _ _ (Wk.mkn _ _ [0,1,3] ?_ ?_ ?_ rfl (by simp[qw]) ?_)
     ·simp[vw,qw]
     ·simp[vw,qa,qb,qw,qF,← hN];try decide
     ·simp[vw,qw]
     ·intro b hb;have:b=0∨b=1:=by omega
      rcases this with rfl|rfl<;>rfl
  ·have hjl:(ql v).take j=ql v:=List.take_of_length_le (by omega);rw[hjl] at hr;rw[hend,hr]
   by_cases hnew:r.2.map (qN a)=[]
   ·simp only[qw,if_pos hnew,qF,vI,simprocAttr];simp only[↓vS,vT,simprocAttr,hlt];refine fun _=>⟨[0,1],?_⟩
    simp[vw,qa,qb];try decide
   ·simp only[qw,if_neg hnew,qF,vI,simprocAttr];simp only[↓vS,vT,simprocAttr,hlt];refine fun _=>⟨[0,1,2],?_⟩
    simp[vw,qa,qb];try decide
end Go.Kc
end
