/- Part 7 of the abstract machine and of the functions' walks. Conditions: with each theorem. -/
import Derived.Test.YtpopmjgimhmciaaGreatDoorK6
set_option linter.unusedSimpArgs false
set_option linter.unusedVariables false
set_option linter.unnecessarySimpa false
section
/- What strings.FieldsFunc answers, of any string and any predicate. Condition: the string is not too great; the functions' texts are these. -/
namespace Go.Kc
variable {P:Program} {f:Nat}
def j8 (b:Bool) (st:Option Nat) (i:Nat):Option Nat:=if b = true then none else (match st with | some s=>some s | none=>some i)
def w9 (b:Bool) (st:Option Nat) (i:Nat) (acc:List (Nat × Nat)):List (Nat × Nat):=if b = true then (match st with | some s=>acc++[(s,i)] | none=>acc) else acc
def Xq (p:Int->Bool) (l:List UInt8) (i:Nat) (st:Option Nat) (acc:List (Nat × Nat)):List (Nat × Nat) × Option Nat :=
 if i < l.length then Xq p l (i + (xQ l i).2) (j8 (p (xQ l i).1) st i) (w9 (p (xQ l i).1) st i acc) else (acc,st)
termination_by l.length - i
decreasing_by have:=qeq l i; omega
def qms (p:Int->Bool) (l:List UInt8):List (Nat × Nat):=match Xq p l 0 none [] with
 | (acc,some s)=>acc++[(s,l.length)]
 | (acc,none)=>acc
def jJ (l:List UInt8) (q:Nat × Nat):List UInt8:=(l.take q.2).drop q.1
def Xe (p:Int->Bool) (l:List UInt8):List (List UInt8):=(qms p l).map (jJ l)
def qji (l:List UInt8) (st:Option Nat) (z:Int) (i:Nat):Prop:=match st with | some s=>z = (s:Int)∧s<=i∧s < l.length | none=>z < 0
def qdB (q:Nat × Nat):List AV:=[.i .i64 (q.1:Int),.i .i64 (q.2:Int)]
theorem qbR (q:Nat × Nat):(qdB q).length = 2:=rfl
def v5 (acc:List (Nat × Nat)):List AV:=acc.flatMap qdB
theorem jk (acc:List (Nat × Nat)):(v5 acc).length = acc.length * 2:=zW qbR acc
theorem y1 (acc:List (Nat × Nat)) (x y:Nat):v5 (acc++[(x,y)]) = v5 acc++[.i .i64 (x:Int),.i .i64 (y:Int)]:=by simp [v5,qdB]
def yq (n:Nat):List AV:=List.replicate n (.i .i64 0)
theorem qgF (n:Nat):(yq n).length = n:=by simp [yq]
theorem wD (n:Nat):qw (yq n) = true:=qaD rfl
theorem qex (n m:Nat):(yq n).drop m = yq (n - m):=by simp [yq]
theorem xq (acc:List (Nat × Nat)):qw (v5 acc) = true:=yK (fun _=>rfl)
def ki (acc:List (Nat × Nat)):AV:=if acc.length<=32 then .sl 0 0 acc.length 32 false else .own 0 acc.length
def kh (acc:List (Nat × Nat)):Blk:=if acc.length<=32 then .cells 0 true false (v5 acc++yq (64 - acc.length * 2)) else .cells 2 true true (v5 acc)
structure St where
 i:Nat
 st:Option Nat
 acc:List (Nat × Nat)
 z:Int
def stT (l:List UInt8) (g:Nat) (a:St):List (Nat × AV):=[(0,.s l),(1,.fn g [] []),(5,ki a.acc),(6,.i .i64 a.z),(14,.ptr 1 0)]
def stB (l:List UInt8) (a:St):List Blk:=[kh a.acc,.map (zU l a.i)]
structure StI (p:Int->Bool) (l:List UInt8) (a:St):Prop where
 z:qji l a.st a.z a.i
 lo:-1000001<=a.z
 n:a.acc.length<=a.i
 m:a.acc.length<=l.length
 sp:∀ q ∈ a.acc,q.1<=q.2∧q.2<=l.length
 eq:Xq p l a.i a.st a.acc = Xq p l 0 none []
def ql1 (P:Program) (g:Nat) (p:Int->Bool):Prop:=∀ c:Int,qg P g [.i .i32 c] (.b (p c))
def xN:ICode:=.seq (.r [.m 44 (.t 5),.q 45 (.len false (.t 44)),.q 46 (.mkS 1 16 [.s []] (.t 45) (.t 45)),.m 9 (.t 46)]) (.seq (.seq (.r [.m 47 (.t 5),.q 48 (.len false (.t 47)),.m 49 (.k 0)]) (.blk 2 (.loop (.seq (.r [.q 50 (.bin .lss (.t 49) (.t 48))]) (.seq (.cond (.t 50) (.skip) (.exit 2)) (.seq (.blk 3 (.seq (.r [.m 51 (.t 49),.q 52 (.iAddrS 2 (.t 47) (.t 49)),.q 53 (.loadN 2 (.t 52)),.q 11 (.alloc [.i .i64 0,.i .i64 0]),.m 10 (.t 51),.u (.store 2 (.t 11) (.t 53))]) (.r [.m 54 (.t 9),.m 55 (.t 10),.m 56 (.t 0),.q 57 (.fAddr 0 (.t 11)),.q 58 (.load1 (.t 57)),.q 59 (.fAddr 1 (.t 11)),.q 60 (.load1 (.t 59)),.q 61 (.slcStr (.t 56) (some (.t 58)) (some (.t 60))),.q 62 (.iAddrS 1 (.t 54) (.t 55)),.u (.store 1 (.t 62) (.t 61))]))) (.r [.q 63 (.bin .add (.t 49) (.k 1)),.m 49 (.t 63)]))))))) (.seq (.r [.m 64 (.t 9),.m 4 (.t 64)]) (.ret)))
def xM:ICode:=.seq (.seq (.r [.m 35 (.t 6),.q 36 (.bin .geq (.t 35) (.k 0))]) (.cond (.t 36) (.r [.m 37 (.t 5),.m 38 (.t 6),.m 39 (.t 0),.q 40 (.len true (.t 39)),.q 41 (.build [.i .i64 0,.i .i64 0] [(0,1,(.t 38)),(1,1,(.t 40))]),.q 42 (.buildS 1 [.i .i64 0,.i .i64 0] [(0,2,(.t 41))]),.q 43 (.app 2 16 true (.t 37) (.t 42)),.m 5 (.t 43)]) (.skip))) (.cut (xN))
def vf:IFn:=⟨[.tmp 4],.seq (.r [.m 4 (.c (.nils))]) (.seq (.r [.q 12 (.mkS 2 16 [.i .i64 0,.i .i64 0] (.k 0) (.k 32)),.m 5 (.t 12)]) (.seq (.r [.q 6 (.mov (.c (.i .i64 (-1))))]) (.seq (.seq (.r [.m 13 (.t 0),.q 14 (.rangeS (.t 13))]) (.blk 0 (.loop (.seq (.r [.q 15 (.nextS (.t 14)),.q 16 (.ext (.t 15) 0)]) (.seq (.cond (.t 16) (.skip) (.exit 0)) (.blk 1 (.seq (.r [.q 17 (.ext (.t 15) 1),.q 18 (.ext (.t 15) 2),.m 7 (.t 17),.m 8 (.t 18)]) (.seq (.r [.m 19 (.t 1),.m 20 (.t 8),⟨(some 21),.callV (.t 19) [.t 20],none⟩]) (.cond (.t 21) (.seq (.r [.m 22 (.t 6),.q 23 (.bin .geq (.t 22) (.k 0))]) (.cond (.t 23) (.seq (.r [.m 24 (.t 5),.m 25 (.t 6),.m 26 (.t 7),.q 27 (.build [.i .i64 0,.i .i64 0] [(0,1,(.t 25)),(1,1,(.t 26))]),.q 28 (.buildS 1 [.i .i64 0,.i .i64 0] [(0,2,(.t 27))]),.q 29 (.app 2 16 true (.t 24) (.t 28)),.m 5 (.t 29)]) (.r [.m 30 (.t 6),.q 31 (.un .xor (.t 30)),.m 6 (.t 31)])) (.skip))) (.seq (.r [.m 32 (.t 6),.q 33 (.bin .lss (.t 32) (.k 0))]) (.cond (.t 33) (.r [.m 34 (.t 7),.m 6 (.t 34)]) (.skip)))))))))))) (.cut (xM)))))⟩
theorem qbS {sp:List (Nat × Nat)} {j:Nat} {q:Nat × Nat} (hq:sp[j]? = some q) (z:List AV):((v5 sp++z).drop (j * 2)).take 2 = qdB q:=by
 obtain ⟨hj,_⟩:=List.getElem?_eq_some_iff.1 hq
 rw [List.drop_append_of_le_length (by rw [jk]; omega),List.take_append_of_le_length (by rw [List.length_drop,jk]; omega)]
 exact xl qbR hq
def X0 (l:List UInt8) (sp:List (Nat × Nat)) (j:Nat):List AV:=(sp.take j).map (fun q=>.s (jJ l q))++List.replicate (sp.length - j) (.s [])
theorem qdF {l:List UInt8} {sp:List (Nat × Nat)} {j:Nat} (hj:j<=sp.length):(X0 l sp j).length = sp.length:=by
 simp [X0]; omega
theorem qgD {l:List UInt8} {sp:List (Nat × Nat)} {j:Nat}:qw (X0 l sp j) = true:=by
 rw [X0,qF,XC (fun _=>rfl),qaD rfl]; rfl
theorem qjk {l:List UInt8} {sp:List (Nat × Nat)} {j:Nat} {q:Nat × Nat} (hq:sp[j]? = some q):(X0 l sp j).take j++.s (jJ l q) :: (X0 l sp j).drop (j + 1) = X0 l sp (j + 1):=by
 obtain ⟨hj,_⟩:=List.getElem?_eq_some_iff.1 hq
 have h1:((sp.take j).map fun q=>AV.s (jJ l q)).length = j:=by simp; omega
 obtain ⟨m,hm⟩:∃ m,sp.length - j = m + 1:=⟨sp.length - j - 1,by omega⟩
 have h2:sp.length - (j + 1) = m:=by omega
 unfold X0
 rw [List.take_left' h1,List.take_add_one,hq,List.drop_append,h1,List.drop_eq_nil_of_le (by omega),hm,h2]
 simp [List.replicate_succ]
theorem qjj {l:List UInt8} {sp:List (Nat × Nat)}:X0 l sp sp.length = (sp.map (jJ l)).map .s:=by
 simp [X0,List.map_map,Function.comp_def]
theorem qmt (l:List UInt8) (sp:List (Nat × Nat)) (hn:sp.length<=1000001) (hsp:∀ q ∈ sp,q.1<=q.2∧q.2<=l.length):S P 0 xN (jz [.tmp 4] (fun v' h'=>Frz h' v' (.fz sp.length ((sp.map (jJ l)).map .s)))) (mkT [(0,.s l),(5,ki sp)]) (mkH 0 [kh sp]):=by
 refine qA ?_
 simp only [xN,qh,H0,mkT,mkH,trL,vI,simprocAttr]
 have e1:sp.length<=qi:=by unfold qi; omega
 have e2:16 * sp.length<=qi:=by unfold qi; omega
 by_cases h32:sp.length<=32
 all_goals
  simp only [↓vS,vT,shb,shv,qb,qc,cellsOf,wr,qa,simprocAttr,ki,kh,h32,e1,e2,qct]
  refine SL.loop (α:=Nat) (fun j=>[(0,.s l),(9,.sl 1 0 sp.length sp.length false),(47,ki sp),(48,.i .i64 sp.length),(49,.i .i64 j)]) (fun j=>[kh sp,.cells 0 true false (X0 l sp j)]) (fun j=>j<=sp.length) (fun j=>sp.length - j) 0 [0,1] ?_ ?_ ?_ rfl ?_ ?_
  ·simp [vw,ki,h32]
  ·simp [vw,kh,h32,qd,xq,wD,qF,qaD (v:=AV.s []) rfl,X0]
  ·simp
  ·simp
  intro j hj G ih
  simp only [qh,H0,mkT,mkH,trL,vI,simprocAttr]
  by_cases hlt:j < sp.length
  ·obtain ⟨q,hq⟩:∃ q,sp[j]? = some q:=⟨_,List.getElem?_eq_getElem hlt⟩
   obtain ⟨hq1,hq2⟩:=hsp q (List.mem_of_getElem? hq)
   have he:=qbS hq (yq (64 - sp.length * 2))
   have he':=qbS hq []
   rw [List.append_nil] at he'
   have hl1:j * 2 + 2<=(v5 sp++yq (64 - sp.length * 2)).length:=by rw [List.length_append,jk]; omega
   have hl2:j * 2 + 2<=(v5 sp).length:=by rw [jk]; omega
   have hl3:j + 1<=(X0 l sp j).length:=by rw [qdF hj]; omega
   have hw:IntKind.wrap .i64 ((j:Int) + 1) = (j:Int) + 1:=qG (by omega) (by omega)
   have hput:=qjk (l:=l) hq
   simp only [jJ] at hput
   simp only [↓vS,vT,shb,shv,qb,qc,cellsOf,wr,qa,simprocAttr,hlt,ki,kh,h32,hl1,hl2,hl3,he,he',qdB,hq1,hq2,Nat.mul_one,hput,hw]
   refine ih (j + 1) hlt (by omega) _ _ (Wk.mk _ _ [0,1] ?_ ?_ ?_ rfl)
   ·simp [vw,ki,h32]
   ·simp [vw,kh,h32,qd,xq,wD,qF,qgD]
   ·simp
  ·have hje:j = sp.length:=by omega
   subst hje
   simp only [↓vS,vT,shb,shv,qb,qc,cellsOf,wr,qa,simprocAttr,hlt]
   refine Frz.cut 1 rfl (Nat.le_refl _) ?_
   have h1:(X0 l sp sp.length).take sp.length = (sp.map (jJ l)).map .s:=by rw [qjj,List.take_of_length_le (by simp)]
   simp [vw,qdF,h1,qH,XC,clo]
theorem qfa {acc:List (Nat × Nat)} (h31:acc.length + 1<=32) (x y:Nat):(v5 acc++yq (64 - acc.length * 2)).take (acc.length * 2)++AV.i .i64 (x:Int) :: AV.i .i64 (y:Int) :: (v5 acc++yq (64 - acc.length * 2)).drop (acc.length * 2 + 2) = v5 (acc++[(x,y)])++yq (64 - (acc.length + 1) * 2):=by
 rw [List.take_left' (jk acc),List.drop_append,jk,List.drop_eq_nil_of_le (by rw [jk]; omega),qex,y1]
 rw [show 64 - acc.length * 2 - (acc.length * 2 + 2 - acc.length * 2) = 64 - (acc.length + 1) * 2 from by omega]
 simp
theorem qdv (acc:List (Nat × Nat)) (z:List AV):(v5 acc++z).take (acc.length * 2) = v5 acc:=List.take_left' (jk acc)
theorem qaq {acc:List (Nat × Nat)} (h32:acc.length<=32):(v5 acc++yq (64 - acc.length * 2)).length = 64:=by rw [List.length_append,jk,qgF]; omega
def qhE (l:List UInt8) (st:Option Nat) (acc:List (Nat × Nat)):List (Nat × Nat):=match st with | some s=>acc++[(s,l.length)] | none=>acc
theorem qsb (l:List UInt8) (hl:l.length<=1000000) (st:Option Nat) (acc:List (Nat × Nat)) (z:Int) (i:Nat) (hz:qji l st z i) (hn:acc.length<=1000000) (hsp:∀ q ∈ acc,q.1<=q.2∧q.2<=l.length) :
  S P 0 xM (jz [.tmp 4] (fun v' h'=>Frz h' v' (.fz (qhE l st acc).length (((qhE l st acc).map (jJ l)).map .s)))) (mkT [(0,.s l),(5,ki acc),(6,.i .i64 z)]) (mkH 0 [kh acc]):=by
 refine qA ?_
 simp only [xM,qh,H0,mkT,mkH,trL,vI,simprocAttr]
 cases st with
 | none =>
  have hz1:¬ 0<=z:=by have:z < 0:=hz; omega
  simp only [↓vS,vT,shb,shv,qb,qc,cellsOf,wr,qa,simprocAttr,hz1]
  refine S.weak (Wk.mk _ _ [0] ?_ ?_ ?_ rfl) (qmt l acc (by omega) hsp)
  ·simp [vw,ki]
   split <;> simp [vw]
  ·simp [vw,kh]
   split <;> simp [vw,qd,xq,wD,qF]
  ·simp
 | some s =>
  obtain ⟨rfl,hs1,hs2⟩:=hz
  have hz1:(0:Int)<=s:=by omega
  have hsp':∀ q ∈ acc++[(s,l.length)],q.1<=q.2∧q.2<=l.length:=by
   intro q hq
   rcases List.mem_append.1 hq with hq | hq
   ·exact hsp q hq
   ·simp at hq; subst hq; exact ⟨by dsimp only; omega,Nat.le_refl _⟩
  have ht:=qmt (P:=P) l (acc++[(s,l.length)]) (by simp; omega) hsp'
  have r1:acc.length + 1<=qi:=by unfold qi; omega
  have r2:(acc.length + 1) * 16<=qi:=by unfold qi; omega
  by_cases h32:acc.length<=32
  ·by_cases h31:acc.length + 1<=32
   ·have hb:acc.length * 2 + 2<=64:=by omega
    simp only [↓vS,vT,shb,shv,qb,qc,cellsOf,wr,qa,simprocAttr,hz1,ki,kh,h32,h31,qaq h32,hb,qfa h31]
    refine S.weak (Wk.mk _ _ [0] ?_ ?_ ?_ rfl) ht
    ·simp [vw,ki,h31]
    ·simp [vw,kh,h31,qd,xq,wD,qF]
    ·simp
   ·have hb:acc.length * 2<=64:=by omega
    simp only [↓vS,vT,shb,shv,qb,qc,cellsOf,wr,qa,simprocAttr,hz1,ki,kh,h32,h31,qaq h32,hb,qdv,r1,r2]
    refine S.weak (Wk.mk _ _ [2] ?_ ?_ ?_ rfl) ht
    ·simp [vw,ki,h31]
    ·simp [vw,kh,h31,qd,xq,y1,qF,qw,clo]
    ·simp
  ·have h31:¬ acc.length + 1<=32:=by omega
   simp only [↓vS,vT,shb,shv,qb,qc,cellsOf,wr,qa,simprocAttr,hz1,ki,kh,h32,jk,r1,r2]
   refine S.weak (Wk.mk _ _ [2] ?_ ?_ ?_ rfl) ht
   ·simp [vw,ki,h31]
   ·simp [vw,kh,h31,qd,xq,y1,qF,qw,clo]
   ·simp
theorem qma (hc:qm P f vf = true) {g:Nat} {p:Int->Bool} (hg:ql1 P g p) (l:List UInt8) (hl:l.length<=1000000):qg P f [.s l,.fn g [] []] (.fz (Xe p l).length ((Xe p l).map .s)):=by
 refine qg.mk hc (by simp [qw,clo]) ?_
 simp only [vf,qh,H0,mkT,mkH,trL,vI,simprocAttr]
 simp only [↓vS,vT,shb,shv,qb,qc,cellsOf,wr,qa,simprocAttr,qi]
 refine SL.loop (α:=St) (stT l g) (stB l) (StI p l) (fun a=>l.length - a.i) ⟨0,none,[],-1⟩ [0,1] ?_ ?_ ?_ rfl ?_ ?_
 ·simp [vw,stT,stB,ki]
 ·simp [vw,stB,kh,v5,yq]
 ·simp
 ·exact ⟨by simp [qji],by decide,by simp,by simp,by simp,rfl⟩
 rintro ⟨i,st,acc,z⟩ ⟨hz,hlo,hn,hm,hsp,heq⟩ G ih
 dsimp only at hz hlo hn hm hsp heq ih ⊢
 simp only [stT,stB,qh,H0,mkT,mkH,trL,vI,simprocAttr]
 by_cases hi:i < l.length
 ·simp only [↓vS,vT,shb,shv,qb,qc,cellsOf,wr,qa,simprocAttr,hi]
  refine (hg _).sc ?_
  have hw:=qeq l i
  have hs:Xq p l i st acc = Xq p l (i + (xQ l i).2) (j8 (p (xQ l i).1) st i) (w9 (p (xQ l i).1) st i acc):=by rw [Xq,if_pos hi]
  rw [hs] at heq
  clear hs
  generalize xQ l i = rn at *
  obtain ⟨r,w⟩:=rn
  dsimp only at heq hw ⊢
  have keep:∀ (st':Option Nat) (z':Int) (t':Tr AV),qji l st' z' (i + w)->-1000001<=z'->Xq p l (i + w) st' acc = Xq p l 0 none []->t'.get 0 = some (.s l)->t'.get 1 = some (.fn g [] [])->t'.get 5 = some (ki acc)->t'.get 6 = some (.i .i64 z')->t'.get 14 = some (.ptr 1 0)->
    G t' ⟨2,0,((Tr.leaf.set 0 (kh acc)).set 1 (.map (zU l i))).set 1 (.map (zU l (i + w)))⟩:=by
   intro st' z' t' h1 h2 h3 g0 g1 g5 g6 g14
   refine ih ⟨i + w,st',acc,z'⟩ ⟨h1,h2,by dsimp only; omega,hm,hsp,h3⟩ (by dsimp only; omega) _ _ (Wk.mk _ _ [0,1] ?_ ?_ ?_ rfl)
   ·simp [vw,stT,stB,g0,g1,g5,g6,g14,ki]
    split <;> simp [vw]
   ·simp [vw,stB,kh]
    split <;> simp [vw,qd,xq,wD,qF]
   ·simp
  cases hpc:p (r:Int) with
  | false =>
   rw [hpc] at heq
   cases st with
   | some s =>
    obtain ⟨rfl,hs1,hs2⟩:=hz
    have hz1:¬ ((s:Int) < 0):=by omega
    simp only [↓vS,vT,shb,shv,qb,qc,cellsOf,wr,qa,simprocAttr,hz1]
    exact keep (some s) s _ ⟨rfl,by omega,hs2⟩ hlo (by simpa [j8,w9] using heq) (by simp [Tr.get_set]) (by simp [Tr.get_set]) (by simp [Tr.get_set]) (by simp [Tr.get_set]) (by simp [Tr.get_set])
   | none =>
    have hz1:z < 0:=hz
    simp only [↓vS,vT,shb,shv,qb,qc,cellsOf,wr,qa,simprocAttr,hz1]
    exact keep (some i) i _ ⟨rfl,by omega,hi⟩ (by omega) (by simpa [j8,w9] using heq) (by simp [Tr.get_set]) (by simp [Tr.get_set]) (by simp [Tr.get_set]) (by simp [Tr.get_set]) (by simp [Tr.get_set])
  | true =>
   rw [hpc] at heq
   cases st with
   | none =>
    have hz1:¬ 0<=z:=by have:z < 0:=hz; omega
    simp only [↓vS,vT,shb,shv,qb,qc,cellsOf,wr,qa,simprocAttr,hz1]
    exact keep none z _ hz hlo (by simpa [j8,w9] using heq) (by simp [Tr.get_set]) (by simp [Tr.get_set]) (by simp [Tr.get_set]) (by simp [Tr.get_set]) (by simp [Tr.get_set])
   | some s =>
    obtain ⟨rfl,hs1,hs2⟩:=hz
    have hz1:(0:Int)<=s:=by omega
    have hx:∀ k:AV->Prop,kr .xor (.i .i64 (s:Int)) k↔evA (.i .i64 (-1 - (s:Int))) k:=fun k=>qo8 (by omega)
    have hsp':∀ q ∈ acc++[(s,i)],q.1<=q.2∧q.2<=l.length:=by
     intro q hq
     rcases List.mem_append.1 hq with hq | hq
     ·exact hsp q hq
     ·simp at hq; subst hq; exact ⟨hs1,Nat.le_of_lt hi⟩
    have hI:StI p l ⟨i + w,none,acc++[(s,i)],-1 - (s:Int)⟩:=⟨by simp only [qji]; omega,by dsimp only; omega,by simp; omega,by simp; omega,hsp',by simpa [j8,w9] using heq⟩
    have r1:acc.length + 1<=qi:=by unfold qi; omega
    have r2:(acc.length + 1) * 16<=qi:=by unfold qi; omega
    by_cases h32:acc.length<=32
    ·by_cases h31:acc.length + 1<=32
     ·have hb:acc.length * 2 + 2<=64:=by omega
      simp only [↓vS,vT,shb,shv,qb,qc,cellsOf,wr,qa,simprocAttr,hz1,ki,kh,h32,h31,qaq h32,hb,qfa h31,hx]
      refine ih _ hI (by dsimp only; omega) _ _ (Wk.mk _ _ [0,1] ?_ ?_ ?_ rfl)
      ·simp [vw,stT,stB,ki,h31]
      ·simp [vw,stB,kh,h31,qd,xq,wD,qF]
      ·simp
     ·have hb:acc.length * 2<=64:=by omega
      simp only [↓vS,vT,shb,shv,qb,qc,cellsOf,wr,qa,simprocAttr,hz1,ki,kh,h32,h31,qaq h32,hb,qdv,r1,r2,hx]
      refine ih _ hI (by dsimp only; omega) _ _ (Wk.mk _ _ [3,1] ?_ ?_ ?_ rfl)
      ·simp [vw,stT,stB,ki,h31]
      ·simp [vw,stB,kh,h31,qd,xq,y1,qF,qw,clo]
      ·simp
    ·have h31:¬ acc.length + 1<=32:=by omega
     simp only [↓vS,vT,shb,shv,qb,qc,cellsOf,wr,qa,simprocAttr,hz1,ki,kh,h32,jk,r1,r2,hx]
     refine ih _ hI (by dsimp only; omega) _ _ (Wk.mk _ _ [3,1] ?_ ?_ ?_ rfl)
     ·simp [vw,stT,stB,ki,h31]
     ·simp [vw,stB,kh,h31,qd,xq,y1,qF,qw,clo]
     ·simp
 ·simp only [↓vS,vT,shb,shv,qb,qc,cellsOf,wr,qa,simprocAttr,hi]
  have hs:Xq p l i st acc = (acc,st):=by rw [Xq,if_neg hi]
  have he:Xe p l = (qhE l st acc).map (jJ l):=by
   unfold Xe qms
   rw [← heq,hs]
   cases st <;> rfl
  rw [he,List.length_map]
  refine S.weak (Wk.mk _ _ [0] ?_ ?_ ?_ rfl) (qsb l hl st acc z i hz (by omega) hsp)
  ·simp [vw,ki]
   split <;> simp [vw]
  ·simp [vw,kh]
   split <;> simp [vw,qd,xq,wD,qF]
  ·simp
end Go.Kc
end
section
/- What values.Words answers. Condition: the functions' texts are these. -/
namespace Go.Kc
variable {P:Program} {f:Nat}
def spc (c:Int):Bool:=decide (c = 32) || decide (c = 9) || decide (c = 13)
def yf:IFn:=⟨[.tmp 2],.seq (.r [.m 2 (.c (.b false))]) (.seq (.r [.m 3 (.t 0),.q 4 (.bin .eql (.t 3) (.c (.i .i32 32))),.m 5 (.t 4),.g 6 (.mov (.t 0)) 5 false,.g 7 (.bin .eql (.t 6) (.c (.i .i32 9))) 5 false,.q 8 (.pick (.t 5) (.c (.b true)) (.t 7)),.m 9 (.t 8),.g 10 (.mov (.t 0)) 9 false,.g 11 (.bin .eql (.t 10) (.c (.i .i32 13))) 9 false,.q 12 (.pick (.t 9) (.c (.b true)) (.t 11)),.m 2 (.t 12)]) (.ret))⟩
theorem qpg (hc:qm P f yf = true):ql1 P f spc:=by
 intro c
 refine qg.mk hc (by simp [qw,clo]) ?_
 simp only [yf,qh,H0,mkT,mkH,trL,vI,simprocAttr]
 by_cases h1:c = 32
 ·simp only [↓vS,vT,shb,shv,qb,qc,cellsOf,wr,qa,simprocAttr,h1,spc,vZ,Bool.true_or]
 ·by_cases h2:c = 9
  ·simp only [↓vS,vT,shb,shv,qb,qc,cellsOf,wr,qa,simprocAttr,h2,spc,vZ,Bool.true_or,Bool.or_true,Int.reduceEq]
  ·by_cases h3:c = 13
   ·simp only [↓vS,vT,shb,shv,qb,qc,cellsOf,wr,qa,simprocAttr,h3,spc,vZ,Bool.or_true,Int.reduceEq]
   ·simp only [↓vS,vT,shb,shv,qb,qc,cellsOf,wr,qa,simprocAttr,h1,h2,h3,spc,vZ,Bool.or_self]
def QJ (f_strings_FieldsFunc f_values_Words_1:Nat):IFn:=⟨[.tmp 2],.seq (.r [.m 2 (.c (.nils))]) (.seq (.r [.m 3 (.t 0),.l 4 f_strings_FieldsFunc [.t 3,(.c (.fn f_values_Words_1 [] []))],.m 2 (.t 4)]) (.ret))⟩
def qn (l:List UInt8):List (List UInt8):=Xe spc l
def QT (P:Program) (g:Nat):Prop:=∀ l:List UInt8,l.length<=1000000->qg P g [.s l] (.fz (qn l).length ((qn l).map .s))
theorem qph {g1 g2:Nat} (hc:qm P f (QJ g1 g2) = true) (h1:∀ l:List UInt8,l.length<=1000000->qg P g1 [.s l,.fn g2 [] []] (.fz (Xe spc l).length ((Xe spc l).map .s))):QT P f:=by
 intro l hl
 refine qg.mk hc (by simp [qw,clo]) ?_
 simp only [QJ,qh,H0,mkT,mkH,trL,vI,simprocAttr]
 simp only [↓vS,vT,shb,shv,qb,qc,cellsOf,wr,qa,simprocAttr]
 refine (h1 l hl).sc ?_
 simp only [↓vS,vT,shb,shv,qb,qc,cellsOf,wr,qa,simprocAttr,vZ,qn,and_self]
end Go.Kc
end
section
/- Words, byte by byte. No condition. -/
namespace Go.Kc
def qbl (c:UInt8):Bool:=decide (c = 32) || decide (c = 9) || decide (c = 13)
theorem qdh (c:UInt8):qbl c = spc (c.toNat:Int):=by
 have h1:(c = 32)↔(c.toNat:Int) = 32:=by rw [← UInt8.toNat_inj]; simp; omega
 have h2:(c = 9)↔(c.toNat:Int) = 9:=by rw [← UInt8.toNat_inj]; simp; omega
 have h3:(c = 13)↔(c.toNat:Int) = 13:=by rw [← UInt8.toNat_inj]; simp; omega
 unfold qbl spc
 simp only [h1,h2,h3]
theorem qfd {n:Nat} (h:128<=n):spc (n:Int) = false:=by
 unfold spc
 have h1:¬ (n:Int) = 32:=by omega
 have h2:¬ (n:Int) = 9:=by omega
 have h3:¬ (n:Int) = 13:=by omega
 simp [h1,h2,h3]
theorem qdg {c:UInt8} (h:128<=c.toNat):qbl c = false:=by rw [qdh]; exact qfd h
theorem qi9 {l:List UInt8} {i:Nat} (hi:i < l.length) (hb:¬ l[i].toNat < 128):128<=(xQ l i).1∧i + (xQ l i).2<=l.length∧∀ k,i<=k->k < i + (xQ l i).2->∀ c,l[k]? = some c->qbl c = false:=by
 have hget:∀ k (hk:k < l.length),((⟨l.toArray⟩:ByteArray).get! k) = l[k]:=by
  intro k hk
  show l.toArray[k]! = l[k]
  simp [hk]
 have hs:(⟨l.toArray⟩:ByteArray).size = l.length:=by simp [ByteArray.size]
 have big:∀ k,k < l.length->((⟨l.toArray⟩:ByteArray).get! k).toNat / 64 = 2->∀ c,l[k]? = some c->qbl c = false:=by
  intro k hk h c hc
  rw [hget k hk] at h
  obtain ⟨_,rfl⟩:=List.getElem?_eq_some_iff.1 hc
  exact qdg (by omega)
 have b0:∀ c,l[i]? = some c->qbl c = false:=by
  intro c hc
  obtain ⟨_,rfl⟩:=List.getElem?_eq_some_iff.1 hc
  exact qdg (by omega)
 have one:∀ k,i<=k->k < i + 1->∀ c,l[k]? = some c->qbl c = false:=by
  intro k h1 h2 c hc
  obtain rfl:k = i:=by omega
  exact b0 c hc
 unfold xQ Utf8.decode
 dsimp only
 simp only [Nat.add_zero,hget i hi,hs,Bool.and_eq_true,decide_eq_true_eq,beq_iff_eq]
 rw [if_neg hb]
 split
 ·rename_i h
  split
  ·rename_i hc
   refine ⟨hc,by omega,fun k h1 h2 c hcc=>?_⟩
   rcases Nat.lt_or_eq_of_le h1 with h3 | h3
   ·obtain rfl:k = i + 1:=by omega
    exact big _ h.2.1 h.2.2 c hcc
   ·subst h3; exact b0 c hcc
  ·exact ⟨by simp [Utf8.runeError],by omega,one⟩
 ·split
  ·rename_i h
   split
   ·rename_i hc
    refine ⟨by have:=hc.1; omega,by omega,fun k h1 h2 c hcc=>?_⟩
    have h3:k = i∨k = i + 1∨k = i + 2:=by omega
    rcases h3 with rfl | rfl | rfl
    ·exact b0 c hcc
    ·exact big _ h.1.2.1 h.1.2.2 c hcc
    ·exact big _ h.2.1 h.2.2 c hcc
   ·exact ⟨by simp [Utf8.runeError],by omega,one⟩
  ·split
   ·rename_i h
    split
    ·rename_i hc
     refine ⟨by have:=hc.1; omega,by omega,fun k h1 h2 c hcc=>?_⟩
     have h3:k = i∨k = i + 1∨k = i + 2∨k = i + 3:=by omega
     rcases h3 with rfl | rfl | rfl | rfl
     ·exact b0 c hcc
     ·exact big _ h.1.1.2.1 h.1.1.2.2 c hcc
     ·exact big _ h.1.2.1 h.1.2.2 c hcc
     ·exact big _ h.2.1 h.2.2 c hcc
    ·exact ⟨by simp [Utf8.runeError],by omega,one⟩
   ·exact ⟨by simp [Utf8.runeError],by omega,one⟩
def wB:List UInt8->List UInt8->List (List UInt8)
 | [],cur=>if cur = [] then [] else [cur]
 | c :: cs,cur=>if qbl c = true then (if cur = [] then wB cs [] else cur :: wB cs []) else wB cs (cur++[c])
theorem qfj (cs:List UInt8):∀ (ds cur:List UInt8),(∀ c ∈ ds,qbl c = false)->wB (ds++cs) cur = wB cs (cur++ds)
 | [],cur,_=>by simp
 | d :: ds,cur,h=>by
  have h1:=h d (by simp)
  simp only [List.cons_append,wB,h1,Bool.false_eq_true,if_false]
  rw [qfj cs ds _ (fun c hc=>h c (by simp [hc]))]
  simp
theorem qcA {l:List UInt8} {s i j:Nat} (h1:s<=i) (h2:i<=j) (h3:j<=l.length):(l.take j).drop s = (l.take i).drop s++(l.take j).drop i:=by
 have e:l.take j = l.take i++(l.take j).drop i:=by
  have:=List.take_append_drop i (l.take j)
  rw [List.take_take,Nat.min_eq_left h2] at this
  exact this.symm
 conv=>lhs; rw [e]
 rw [List.drop_append_of_le_length (by simp; omega)]
def ZT (l:List UInt8) (st:Option Nat) (i:Nat):List UInt8:=match st with | some s=>(l.take i).drop s | none=>[]
theorem qlJ (l:List UInt8):∀ (m i:Nat) (st:Option Nat) (acc:List (Nat × Nat)),l.length - i = m->i<=l.length->(∀ s,st = some s->s < i)->
  (match Xq spc l i st acc with | (acc,some s)=>acc++[(s,l.length)] | (acc,none)=>acc).map (jJ l) = acc.map (jJ l)++wB (l.drop i) (ZT l st i):=by
 intro m
 induction m using Nat.strongRecOn with
 | ind m ih =>
  intro i st acc hm hi hst
  by_cases hlt:i < l.length
  ·have hd : l.drop i = l[i] :: l.drop (i + 1):=List.drop_eq_getElem_cons hlt
   by_cases hb:l[i].toNat < 128
   ·have hr : xQ l i = (l[i].toNat,1):=Qe (List.getElem?_eq_getElem hlt) hb
    have hsp:qbl l[i] = spc (l[i].toNat:Int):=qdh _
    rw [Xq,if_pos hlt,hr]
    dsimp only
    rw [ih (l.length - (i + 1)) (by omega) (i + 1) _ _ rfl (by omega) ?_,hd,wB,hsp]
    ·cases hc:spc (l[i].toNat:Int) with
     | true =>
      cases st with
      | none=>simp [w9,j8,ZT]
      | some s =>
       have h1:=hst s rfl
       have h2:(l.take i).drop s≠[]:=by
        intro hh
        have:=congrArg List.length hh
        simp at this; omega
       simp [w9,j8,ZT,h2,jJ]
     | false =>
      cases st with
      | none =>
       simp only [w9,j8,ZT,Bool.false_eq_true,if_false,List.nil_append]
       congr 2
       rw [List.take_add_one,List.getElem?_eq_getElem hlt,List.drop_left' (by simp; omega)]; rfl
      | some s =>
       have h1:=hst s rfl
       simp only [w9,j8,ZT,Bool.false_eq_true,if_false]
       congr 2
       rw [List.take_add_one,List.getElem?_eq_getElem hlt,List.drop_append_of_le_length (by simp; omega)]; rfl
    ·intro s hs
     cases hc:spc (l[i].toNat:Int) with
     | true=>rw [hc] at hs; simp [j8] at hs
     | false =>
      rw [hc] at hs
      cases st with
      | none=>simp [j8] at hs; omega
      | some s'=>simp [j8] at hs; have:=hst s' rfl; omega
   ·obtain ⟨h1,h2,h3⟩:=qi9 hlt hb
    have hw:=qeq l i
    have hc:spc ((xQ l i).1:Int) = false:=qfd h1
    generalize hwd:(xQ l i).2 = w at h2 h3 hw
    rw [Xq,if_pos hlt,hc,hwd,ih (l.length - (i + w)) (by omega) (i + w) _ _ rfl h2 ?_]
    ·simp only [w9,Bool.false_eq_true,if_false]
     congr 1
     have e:l.drop i = (l.take (i + w)).drop i++l.drop (i + w):=by
      have:=List.take_append_drop (i + w) l
      conv=>lhs; rw [← this]
      rw [List.drop_append_of_le_length (by simp; omega)]
     rw [e,qfj]
     ·congr 1
      cases st with
      | none=>simp [j8,ZT]
      | some s =>
       have h1:=hst s rfl
       simp only [j8,ZT,Bool.false_eq_true,if_false]
       exact qcA (by omega) (by omega) h2
     ·intro c hcc
      obtain ⟨k,hk,rfl⟩:=List.getElem_of_mem hcc
      simp at hk
      refine h3 (i + k) (by omega) (by omega) _ ?_
      simp only [List.getElem_drop,List.getElem_take]
      exact List.getElem?_eq_getElem (by omega)
    ·intro s hs
     cases st with
     | none=>simp [j8] at hs; omega
     | some s'=>simp [j8] at hs; have:=hst s' rfl; omega
  ·have hil:i = l.length:=by omega
   rw [Xq,if_neg hlt,List.drop_of_length_le (by omega)]
   cases st with
   | none=>simp [wB,ZT]
   | some s =>
    have h1:=hst s rfl
    have h2:(l.take i).drop s≠[]:=by
     intro hh
     have:=congrArg List.length hh
     simp [List.length_drop,List.length_take] at this; omega
    simp only [wB,ZT,if_neg h2]
    subst hil
    simp [jJ,h1]
theorem qdI (l:List UInt8):qn l = wB l []:=by
 have:=qlJ l l.length 0 none [] rfl (Nat.zero_le _) (by simp)
 simp only [List.map_nil,List.nil_append,List.drop_zero,ZT] at this
 exact this
theorem qev:∀ (l cur:List UInt8),(wB l cur).length<=l.length + (if cur = [] then 0 else 1)
 | [],cur=>by simp only [wB]; split <;> simp
 | c :: cs,cur=>by
  have h1:=qev cs []
  have h2:=qev cs (cur++[c])
  simp only [wB]
  simp at h1 h2
  split
  ·split
   ·simp; omega
   ·simp; omega
  ·split <;> simp <;> omega
theorem wk (l:List UInt8):(qn l).length<=l.length:=by
 rw [qdI]; simpa using qev l []
end Go.Kc
end
section
/- Rows of numbers, of strings. No condition. -/
namespace Go.Kc
def rI (k:IntKind) (l:List Int):List AV:=l.map (.i k)
section
variable {k:IntKind} {l m:List Int} {j:Nat}
theorem wo:(rI k l).length = l.length:=by simp [rI]
theorem qk:qw (rI k l) = true:=XC fun _=>rfl
theorem Z4:qI (rI k l) = true:=qfF fun _=>rfl
theorem jw:(rI k l)[j]? = (l[j]?).map (.i k):=by simp [rI]
theorem ym:(rI k l).take j = rI k (l.take j):=by simp [rI]
theorem ZH:(rI k l).drop j = rI k (l.drop j):=by simp [rI]
theorem Zm:rI k l++rI k m = rI k (l++m):=by simp [rI]
theorem qiY {x:Int}:rI k [x] = [.i k x]:=rfl
theorem qe8 {x:Int}:rI k (x :: l) = .i k x :: rI k l:=rfl
theorem qiZ {n:Nat}:List.replicate n (.i k 0) = rI k (List.replicate n 0):=by simp [rI]
end
def rS (l:List (List UInt8)):List AV:=l.map .s
section
variable {l m:List (List UInt8)} {j:Nat}
theorem qi4:(rS l)[j]? = (l[j]?).map .s:=by simp [rS]
end
end Go.Kc
end
section
/- What searches by a function answer. Condition: the functions' texts are these. -/
namespace Go.Kc
variable {P:Program} {f:Nat}
def xE {α:Type} (p:α->Bool):List α->Nat->Int
 | [],_=>-1
 | x :: xs,j=>if p x = true then (j:Int) else xE p xs (j + 1)
theorem kA {α:Type} (p:α->Bool):∀ (l:List α) (j:Nat),(xE p l j = -1∧l.find? p = none)∨∃ i x,xE p l j = ((j + i:Nat):Int)∧l[i]? = some x∧p x = true∧l.find? p = some x∧∀ k y,k < i->l[k]? = some y->p y = false
 | [],j=>.inl ⟨rfl,rfl⟩
 | x :: xs,j=>by
  by_cases h:p x = true
  ·refine .inr ⟨0,x,by simp [xE,h],rfl,h,by simp [h],fun k y hk=>by omega⟩
  ·rcases kA p xs (j + 1) with ⟨h1,h2⟩ | ⟨i,y,h1,h2,h3,h4,h5⟩
   ·exact .inl ⟨by simp [xE,h,h1],by simp [h,h2]⟩
   ·refine .inr ⟨i + 1,y,?_,by simpa using h2,h3,by simp [h,h4],?_⟩
    ·rw [xE,if_neg h,h1]; omega
    ·intro k z hk hz
     cases k with
     | zero=>simp at hz; subst hz; simpa using h
     | succ k=>exact h5 k z (by omega) (by simpa using hz)
def qbZ (P:Program) (f:Nat):Prop:=∀ {α:Type} (enc:α->AV) (p:α->Bool) (g:Nat) (a c:List AV) (l:List α),qw a = true->qw c = true->l.length<=qi->
 (∀ x ∈ l,qg P g (a++([enc x]++c)) (.b (p x)))->qg P f [.fz l.length (l.map enc),.fn g a c] (.i .i64 (xE p l 0))
def Qa (m:Nat) (P:Program) (f:Nat):Prop:=∀ {α:Type} (enc:α->List AV) (p:α->Bool) (g:Nat) (a c:List AV) (l:List α),(∀ x,(enc x).length = m)->qw a = true->qw c = true->l.length<=qi->
 (∀ x ∈ l,qg P g (a++([.agg (enc x)]++c)) (.b (p x)))->qg P f [.fz l.length (l.flatMap enc),.fn g a c] (.i .i64 (xE p l 0))
def jQ:IFn:=⟨[.tmp 4],.seq (.r [.m 4 (.k 0)]) (.seq (.seq (.r [.m 6 (.t 0),.q 7 (.len false (.t 6)),.m 8 (.k 0)]) (.blk 0 (.loop (.seq (.r [.q 9 (.bin .lss (.t 8) (.t 7))]) (.seq (.cond (.t 9) (.skip) (.exit 0)) (.seq (.blk 1 (.seq (.r [.m 10 (.t 8),.m 5 (.t 10)]) (.seq (.r [.m 11 (.t 1),.m 12 (.t 0),.m 13 (.t 5),.q 14 (.iAddrS 1 (.t 12) (.t 13)),.q 15 (.load1 (.t 14)),⟨(some 16),.callV (.t 11) [.t 15],none⟩]) (.cond (.t 16) (.seq (.r [.m 17 (.t 5),.m 4 (.t 17)]) (.ret)) (.skip))))) (.r [.q 18 (.bin .add (.t 8) (.k 1)),.m 8 (.t 18)]))))))) (.seq (.r [.q 4 (.mov (.c (.i .i64 (-1))))]) (.ret)))⟩
theorem qjw (hc:qm P f jQ = true):qbZ P f:=by
 intro α enc p g a c l ha hc' hl hp
 refine qg.mk hc (by simp [qw,clo,ha,hc']) ?_
 simp only [jQ,qh,H0,mkT,mkH,trL,vI,simprocAttr]
 simp only [↓vS,vT,shb,shv,qb,qc,cellsOf,wr,qa,simprocAttr]
 refine SL.loop (α:=Nat) (fun j=>[(0,.fz l.length (l.map enc)),(1,.fn g a c),(7,.i .i64 l.length),(8,.i .i64 j)]) (fun _=>[]) (fun j=>j<=l.length∧xE p l 0 = xE p (l.drop j) j) (fun j=>l.length - j) 0 [] ?_ ?_ ?_ rfl ?_ ?_
 ·simp [vw,qd,ha,hc']
 ·trivial
 ·simp
 ·simp
 rintro j ⟨hj,hI⟩ G ih
 simp only [qh,H0,mkT,mkH,trL,vI,simprocAttr]
 by_cases hlt:j < l.length
 ·have hx:l[j]? = some l[j]:=List.getElem?_eq_getElem hlt
  have hw:IntKind.wrap .i64 ((j:Int) + 1) = (j:Int) + 1:=qG (by omega) (by have:=hl; simp only [qi] at this; omega)
  rw [List.drop_eq_getElem_cons hlt,xE] at hI
  simp only [↓vS,vT,shb,shv,qb,qc,cellsOf,wr,qa,simprocAttr,hlt,Nat.mul_one,List.getElem?_map,hx,Option.map_some,hw]
  refine (hp l[j] (List.getElem_mem hlt)).sc ?_
  by_cases hpx:p l[j] = true
  ·rw [if_pos hpx] at hI
   simp only [↓vS,vT,shb,shv,qb,qc,cellsOf,wr,qa,simprocAttr,hpx,vZ,hI]
  ·rw [if_neg hpx] at hI
   simp only [↓vS,vT,shb,shv,qb,qc,cellsOf,wr,qa,simprocAttr,hpx,hw]
   refine ih (j + 1) ⟨by omega,hI⟩ (by omega) _ _ (Wk.mk _ _ [] ?_ ?_ ?_ rfl)
   ·simp [vw,qd,ha,hc']
   ·trivial
   ·simp
 ·simp only [↓vS,vT,shb,shv,qb,qc,cellsOf,wr,qa,simprocAttr,hlt]
  rw [List.drop_eq_nil_of_le (by omega)] at hI
  simp [hI,xE,vZ]
def xy:IFn:=⟨[.tmp 4],.seq (.r [.m 4 (.k 0)]) (.seq (.seq (.r [.m 6 (.t 0),.q 7 (.len false (.t 6)),.m 8 (.k 0)]) (.blk 0 (.loop (.seq (.r [.q 9 (.bin .lss (.t 8) (.t 7))]) (.seq (.cond (.t 9) (.skip) (.exit 0)) (.seq (.blk 1 (.seq (.r [.m 10 (.t 8),.m 5 (.t 10)]) (.seq (.r [.m 11 (.t 1),.m 12 (.t 0),.m 13 (.t 5),.q 14 (.iAddrS 1 (.t 12) (.t 13)),.q 15 (.load1 (.t 14)),⟨(some 16),.callV (.t 11) [.t 15],none⟩]) (.cond (.t 16) (.seq (.r [.m 17 (.t 5),.m 4 (.t 17)]) (.ret)) (.skip))))) (.r [.q 18 (.bin .add (.t 8) (.k 1)),.m 8 (.t 18)]))))))) (.seq (.r [.q 4 (.mov (.c (.i .i64 (-1))))]) (.ret)))⟩
theorem qjx (hc:qm P f xy = true):qbZ P f:=by
 intro α enc p g a c l ha hc' hl hp
 refine qg.mk hc (by simp [qw,clo,ha,hc']) ?_
 simp only [xy,qh,H0,mkT,mkH,trL,vI,simprocAttr]
 simp only [↓vS,vT,shb,shv,qb,qc,cellsOf,wr,qa,simprocAttr]
 refine SL.loop (α:=Nat) (fun j=>[(0,.fz l.length (l.map enc)),(1,.fn g a c),(7,.i .i64 l.length),(8,.i .i64 j)]) (fun _=>[]) (fun j=>j<=l.length∧xE p l 0 = xE p (l.drop j) j) (fun j=>l.length - j) 0 [] ?_ ?_ ?_ rfl ?_ ?_
 ·simp [vw,qd,ha,hc']
 ·trivial
 ·simp
 ·simp
 rintro j ⟨hj,hI⟩ G ih
 simp only [qh,H0,mkT,mkH,trL,vI,simprocAttr]
 by_cases hlt:j < l.length
 ·have hx:l[j]? = some l[j]:=List.getElem?_eq_getElem hlt
  have hw:IntKind.wrap .i64 ((j:Int) + 1) = (j:Int) + 1:=qG (by omega) (by have:=hl; simp only [qi] at this; omega)
  rw [List.drop_eq_getElem_cons hlt,xE] at hI
  simp only [↓vS,vT,shb,shv,qb,qc,cellsOf,wr,qa,simprocAttr,hlt,Nat.mul_one,List.getElem?_map,hx,Option.map_some,hw]
  refine (hp l[j] (List.getElem_mem hlt)).sc ?_
  by_cases hpx:p l[j] = true
  ·rw [if_pos hpx] at hI
   simp only [↓vS,vT,shb,shv,qb,qc,cellsOf,wr,qa,simprocAttr,hpx,vZ,hI]
  ·rw [if_neg hpx] at hI
   simp only [↓vS,vT,shb,shv,qb,qc,cellsOf,wr,qa,simprocAttr,hpx,hw]
   refine ih (j + 1) ⟨by omega,hI⟩ (by omega) _ _ (Wk.mk _ _ [] ?_ ?_ ?_ rfl)
   ·simp [vw,qd,ha,hc']
   ·trivial
   ·simp
 ·simp only [↓vS,vT,shb,shv,qb,qc,cellsOf,wr,qa,simprocAttr,hlt]
  rw [List.drop_eq_nil_of_le (by omega)] at hI
  simp [hI,xE,vZ]
def zT:IFn:=⟨[.tmp 4],.seq (.r [.m 4 (.k 0)]) (.seq (.seq (.r [.m 6 (.t 0),.q 7 (.len false (.t 6)),.m 8 (.k 0)]) (.blk 0 (.loop (.seq (.r [.q 9 (.bin .lss (.t 8) (.t 7))]) (.seq (.cond (.t 9) (.skip) (.exit 0)) (.seq (.blk 1 (.seq (.r [.m 10 (.t 8),.m 5 (.t 10)]) (.seq (.r [.m 11 (.t 1),.m 12 (.t 0),.m 13 (.t 5),.q 14 (.iAddrS 2 (.t 12) (.t 13)),.q 15 (.loadN 2 (.t 14)),⟨(some 16),.callV (.t 11) [.t 15],none⟩]) (.cond (.t 16) (.seq (.r [.m 17 (.t 5),.m 4 (.t 17)]) (.ret)) (.skip))))) (.r [.q 18 (.bin .add (.t 8) (.k 1)),.m 8 (.t 18)]))))))) (.seq (.r [.q 4 (.mov (.c (.i .i64 (-1))))]) (.ret)))⟩
theorem qh5 (hc:qm P f zT = true):Qa 2 P f:=by
 intro α enc p g a c l hlen ha hc' hl hp
 refine qg.mk hc (by simp [qw,clo,ha,hc']) ?_
 simp only [zT,qh,H0,mkT,mkH,trL,vI,simprocAttr]
 simp only [↓vS,vT,shb,shv,qb,qc,cellsOf,wr,qa,simprocAttr]
 refine SL.loop (α:=Nat) (fun j=>[(0,.fz l.length (l.flatMap enc)),(1,.fn g a c),(7,.i .i64 l.length),(8,.i .i64 j)]) (fun _=>[]) (fun j=>j<=l.length∧xE p l 0 = xE p (l.drop j) j) (fun j=>l.length - j) 0 [] ?_ ?_ ?_ rfl ?_ ?_
 ·simp [vw,qd,ha,hc']
 ·trivial
 ·simp
 ·simp
 rintro j ⟨hj,hI⟩ G ih
 simp only [qh,H0,mkT,mkH,trL,vI,simprocAttr]
 by_cases hlt:j < l.length
 ·have hx:l[j]? = some l[j]:=List.getElem?_eq_getElem hlt
  have hw:IntKind.wrap .i64 ((j:Int) + 1) = (j:Int) + 1:=qG (by omega) (by have:=hl; simp only [qi] at this; omega)
  have he:=xl hlen hx
  have hb:j * 2 + 2<=(l.flatMap enc).length:=by rw [zW hlen]; omega
  rw [List.drop_eq_getElem_cons hlt,xE] at hI
  simp only [↓vS,vT,shb,shv,qb,qc,cellsOf,wr,qa,simprocAttr,hlt,hb,he,hw]
  refine (hp l[j] (List.getElem_mem hlt)).sc ?_
  by_cases hpx:p l[j] = true
  ·rw [if_pos hpx] at hI
   simp only [↓vS,vT,shb,shv,qb,qc,cellsOf,wr,qa,simprocAttr,hpx,vZ,hI]
  ·rw [if_neg hpx] at hI
   simp only [↓vS,vT,shb,shv,qb,qc,cellsOf,wr,qa,simprocAttr,hpx,hw]
   refine ih (j + 1) ⟨by omega,hI⟩ (by omega) _ _ (Wk.mk _ _ [] ?_ ?_ ?_ rfl)
   ·simp [vw,qd,ha,hc']
   ·trivial
   ·simp
 ·simp only [↓vS,vT,shb,shv,qb,qc,cellsOf,wr,qa,simprocAttr,hlt]
  rw [List.drop_eq_nil_of_le (by omega)] at hI
  simp [hI,xE,vZ]
def zK:IFn:=⟨[.tmp 4],.seq (.r [.m 4 (.k 0)]) (.seq (.seq (.r [.m 6 (.t 0),.q 7 (.len false (.t 6)),.m 8 (.k 0)]) (.blk 0 (.loop (.seq (.r [.q 9 (.bin .lss (.t 8) (.t 7))]) (.seq (.cond (.t 9) (.skip) (.exit 0)) (.seq (.blk 1 (.seq (.r [.m 10 (.t 8),.m 5 (.t 10)]) (.seq (.r [.m 11 (.t 1),.m 12 (.t 0),.m 13 (.t 5),.q 14 (.iAddrS 7 (.t 12) (.t 13)),.q 15 (.loadN 7 (.t 14)),⟨(some 16),.callV (.t 11) [.t 15],none⟩]) (.cond (.t 16) (.seq (.r [.m 17 (.t 5),.m 4 (.t 17)]) (.ret)) (.skip))))) (.r [.q 18 (.bin .add (.t 8) (.k 1)),.m 8 (.t 18)]))))))) (.seq (.r [.q 4 (.mov (.c (.i .i64 (-1))))]) (.ret)))⟩
theorem qh6 (hc:qm P f zK = true):Qa 7 P f:=by
 intro α enc p g a c l hlen ha hc' hl hp
 refine qg.mk hc (by simp [qw,clo,ha,hc']) ?_
 simp only [zK,qh,H0,mkT,mkH,trL,vI,simprocAttr]
 simp only [↓vS,vT,shb,shv,qb,qc,cellsOf,wr,qa,simprocAttr]
 refine SL.loop (α:=Nat) (fun j=>[(0,.fz l.length (l.flatMap enc)),(1,.fn g a c),(7,.i .i64 l.length),(8,.i .i64 j)]) (fun _=>[]) (fun j=>j<=l.length∧xE p l 0 = xE p (l.drop j) j) (fun j=>l.length - j) 0 [] ?_ ?_ ?_ rfl ?_ ?_
 ·simp [vw,qd,ha,hc']
 ·trivial
 ·simp
 ·simp
 rintro j ⟨hj,hI⟩ G ih
 simp only [qh,H0,mkT,mkH,trL,vI,simprocAttr]
 by_cases hlt:j < l.length
 ·have hx:l[j]? = some l[j]:=List.getElem?_eq_getElem hlt
  have hw:IntKind.wrap .i64 ((j:Int) + 1) = (j:Int) + 1:=qG (by omega) (by have:=hl; simp only [qi] at this; omega)
  have he:=xl hlen hx
  have hb:j * 7 + 7<=(l.flatMap enc).length:=by rw [zW hlen]; omega
  rw [List.drop_eq_getElem_cons hlt,xE] at hI
  simp only [↓vS,vT,shb,shv,qb,qc,cellsOf,wr,qa,simprocAttr,hlt,hb,he,hw]
  refine (hp l[j] (List.getElem_mem hlt)).sc ?_
  by_cases hpx:p l[j] = true
  ·rw [if_pos hpx] at hI
   simp only [↓vS,vT,shb,shv,qb,qc,cellsOf,wr,qa,simprocAttr,hpx,vZ,hI]
  ·rw [if_neg hpx] at hI
   simp only [↓vS,vT,shb,shv,qb,qc,cellsOf,wr,qa,simprocAttr,hpx,hw]
   refine ih (j + 1) ⟨by omega,hI⟩ (by omega) _ _ (Wk.mk _ _ [] ?_ ?_ ?_ rfl)
   ·simp [vw,qd,ha,hc']
   ·trivial
   ·simp
 ·simp only [↓vS,vT,shb,shv,qb,qc,cellsOf,wr,qa,simprocAttr,hlt]
  rw [List.drop_eq_nil_of_le (by omega)] at hI
  simp [hI,xE,vZ]
def z6:IFn:=⟨[.tmp 4],.seq (.r [.m 4 (.k 0)]) (.seq (.seq (.r [.m 6 (.t 0),.q 7 (.len false (.t 6)),.m 8 (.k 0)]) (.blk 0 (.loop (.seq (.r [.q 9 (.bin .lss (.t 8) (.t 7))]) (.seq (.cond (.t 9) (.skip) (.exit 0)) (.seq (.blk 1 (.seq (.r [.m 10 (.t 8),.m 5 (.t 10)]) (.seq (.r [.m 11 (.t 1),.m 12 (.t 0),.m 13 (.t 5),.q 14 (.iAddrS 2 (.t 12) (.t 13)),.q 15 (.loadN 2 (.t 14)),⟨(some 16),.callV (.t 11) [.t 15],none⟩]) (.cond (.t 16) (.seq (.r [.m 17 (.t 5),.m 4 (.t 17)]) (.ret)) (.skip))))) (.r [.q 18 (.bin .add (.t 8) (.k 1)),.m 8 (.t 18)]))))))) (.seq (.r [.q 4 (.mov (.c (.i .i64 (-1))))]) (.ret)))⟩
theorem qeU (hc:qm P f z6 = true):Qa 2 P f:=by
 intro α enc p g a c l hlen ha hc' hl hp
 refine qg.mk hc (by simp [qw,clo,ha,hc']) ?_
 simp only [z6,qh,H0,mkT,mkH,trL,vI,simprocAttr]
 simp only [↓vS,vT,shb,shv,qb,qc,cellsOf,wr,qa,simprocAttr]
 refine SL.loop (α:=Nat) (fun j=>[(0,.fz l.length (l.flatMap enc)),(1,.fn g a c),(7,.i .i64 l.length),(8,.i .i64 j)]) (fun _=>[]) (fun j=>j<=l.length∧xE p l 0 = xE p (l.drop j) j) (fun j=>l.length - j) 0 [] ?_ ?_ ?_ rfl ?_ ?_
 ·simp [vw,qd,ha,hc']
 ·trivial
 ·simp
 ·simp
 rintro j ⟨hj,hI⟩ G ih
 simp only [qh,H0,mkT,mkH,trL,vI,simprocAttr]
 by_cases hlt:j < l.length
 ·have hx:l[j]? = some l[j]:=List.getElem?_eq_getElem hlt
  have hw:IntKind.wrap .i64 ((j:Int) + 1) = (j:Int) + 1:=qG (by omega) (by have:=hl; simp only [qi] at this; omega)
  have he:=xl hlen hx
  have hb:j * 2 + 2<=(l.flatMap enc).length:=by rw [zW hlen]; omega
  rw [List.drop_eq_getElem_cons hlt,xE] at hI
  simp only [↓vS,vT,shb,shv,qb,qc,cellsOf,wr,qa,simprocAttr,hlt,hb,he,hw]
  refine (hp l[j] (List.getElem_mem hlt)).sc ?_
  by_cases hpx:p l[j] = true
  ·rw [if_pos hpx] at hI
   simp only [↓vS,vT,shb,shv,qb,qc,cellsOf,wr,qa,simprocAttr,hpx,vZ,hI]
  ·rw [if_neg hpx] at hI
   simp only [↓vS,vT,shb,shv,qb,qc,cellsOf,wr,qa,simprocAttr,hpx,hw]
   refine ih (j + 1) ⟨by omega,hI⟩ (by omega) _ _ (Wk.mk _ _ [] ?_ ?_ ?_ rfl)
   ·simp [vw,qd,ha,hc']
   ·trivial
   ·simp
 ·simp only [↓vS,vT,shb,shv,qb,qc,cellsOf,wr,qa,simprocAttr,hlt]
  rw [List.drop_eq_nil_of_le (by omega)] at hI
  simp [hI,xE,vZ]
end Go.Kc
end
section
/- What slices.DeleteFunc makes of a row of one's own. Condition: the functions' texts are these. -/
namespace Go.Kc
variable {P:Program} {f:Nat}
theorem Jc {α:Type} {p:α->Bool} {l:List α} (h:xE p l 0 = -1):l.filter (fun x=>!p x) = l:=by
 rcases kA p l 0 with ⟨_,h2⟩ | ⟨i,x,h1,_⟩
 ·rw [List.filter_eq_self]
  intro x hx
  have:=List.find?_eq_none.1 h2 x hx
  simpa using this
 ·rw [h1] at h; omega
def jA (f_slices_IndexFunc_int_int:Nat):IFn:=⟨[.tmp 4],.seq (.r [.m 4 (.c (.nils))]) (.seq (.r [.m 8 (.t 0),.m 9 (.t 1),.l 10 f_slices_IndexFunc_int_int [.t 8,.t 9],.m 5 (.t 10)]) (.seq (.seq (.r [.m 11 (.t 5),.q 12 (.bin .eql (.t 11) (.c (.i .i64 (-1))))]) (.cond (.t 12) (.seq (.r [.m 13 (.t 0),.m 4 (.t 13)]) (.ret)) (.skip))) (.seq (.seq (.r [.m 14 (.t 5),.q 15 (.bin .add (.t 14) (.k 1)),.m 6 (.t 15)]) (.blk 0 (.loop (.seq (.seq (.r [.m 16 (.t 6),.m 17 (.t 0),.q 18 (.len false (.t 17)),.q 19 (.bin .lss (.t 16) (.t 18))]) (.cond (.t 19) (.skip) (.exit 0))) (.seq (.blk 1 (.seq (.r [.m 22 (.t 0),.m 23 (.t 6),.q 24 (.iAddrS 1 (.t 22) (.t 23)),.q 25 (.load1 (.t 24)),.m 7 (.t 25)]) (.seq (.r [.m 26 (.t 1),.m 27 (.t 7),⟨(some 28),.callV (.t 26) [.t 27],none⟩,.q 29 (.un .not (.t 28))]) (.cond (.t 29) (.seq (.r [.m 30 (.t 0),.m 31 (.t 5),.m 32 (.t 7),.q 33 (.iAddrS 1 (.t 30) (.t 31)),.u (.store 1 (.t 33) (.t 32))]) (.r [.m 34 (.t 5),.q 35 (.bin .add (.t 34) (.k 1)),.m 5 (.t 35)])) (.skip))))) (.r [.m 20 (.t 6),.q 21 (.bin .add (.t 20) (.k 1)),.m 6 (.t 21)])))))) (.seq (.r [.m 36 (.t 0),.m 37 (.t 5),.q 38 (.slcS 1 (.t 36) (some (.t 37)) none none),.u (.clear [.i .i64 0] (.t 38))]) (.seq (.r [.m 39 (.t 0),.m 40 (.t 5),.q 41 (.slcS 1 (.t 39) none (some (.t 40)) none),.m 4 (.t 41)]) (.ret))))))⟩
def Jx (P:Program) (f:Nat):Prop:=∀ (p:Int->Bool) (g:Nat) (a c:List AV) (l:List Int),qw a = true->qw c = true->l.length<=qi->(∀ x ∈ l,qg P g (a++([.i .i64 x]++c)) (.b (p x)))->
 Upd P f [.own 0 l.length,.fn g a c] [.cells 1 true true (rI .i64 l)] (.own 0 (l.filter fun x=>!p x).length) [.cells 1 true true (rI .i64 (l.filter fun x=>!p x))]
theorem qhB {g1:Nat} (hc:qm P f (jA g1) = true) (h1:qbZ P g1):Jx P f:=by
 intro p g a c l ha hcc hl hp
 have hl2:=hl; simp only [qi] at hl2
 refine Upd.mkS hc (by simp [qW,bnd,qJ ha,qJ hcc]) (Nat.le_refl _) (qA ?_)
 simp only [jA,qh,H0,mkT,mkH,trL,vI,simprocAttr]
 simp only [↓vS,vT,shb,shv,qb,qc,cellsOf,wr,qa,simprocAttr]
 refine (h1 (.i .i64) p g a c l ha hcc hl hp).lend (vs':=[.fz l.length (rI .i64 l),.fn g a c]) ?_ rfl ?_
 ·simp [vZ,vP,Tr.get_set,qH ha,qH hcc,qH qk]
  intro h0; rw [h0]; rfl
 rcases kA p l 0 with ⟨hi,_⟩ | ⟨i,x,hi,hx,hpx,_,hb⟩
 ·simp only [↓vS,vT,shb,shv,qb,qc,cellsOf,wr,qa,simprocAttr,hi,Int.reduceNeg]
  refine y5.w (fun _=>⟨[0],?_⟩) (Nat.le_refl _)
  rw [Jc hi]
  simp [vw,qd,qk]
 ·have hne:¬ ((i:Nat):Int) = -1:=by omega
  have hil:i < l.length:=(List.getElem?_eq_some_iff.1 hx).1
  have hw:IntKind.wrap .i64 ((i:Int) + 1) = (i:Int) + 1:=qG (by omega) (by omega)
  rw [Nat.zero_add] at hi
  simp only [↓vS,vT,shb,shv,qb,qc,cellsOf,wr,qa,simprocAttr,hi,hne,hw]
  have htk:(l.take i).filter (fun x=>!p x) = l.take i:=by
   rw [List.filter_eq_self]
   intro y hy
   obtain ⟨k,hk,rfl⟩:=List.getElem_of_mem hy
   simp at hk
   rw [List.getElem_take]
   simp [hb k _ (by omega) (List.getElem?_eq_getElem (by omega))]
  have htk1:(l.take (i + 1)).filter (fun x=>!p x) = l.take i:=by
   rw [List.take_add_one,hx,List.filter_append,htk]; simp [hpx]
  refine SL.loopn (α:=Nat × List Int) (fun s=>[(0,.own 0 l.length),(1,.fn g a c),(5,.i .i64 (((l.take s.1).filter fun x=>!p x).length:Int)),(6,.i .i64 (s.1:Int))])
   (fun s=>[.cells 1 true true (rI .i64 (((l.take s.1).filter fun x=>!p x)++(s.2++l.drop s.1)))]) (fun s=>s.1<=l.length∧((l.take s.1).filter fun x=>!p x).length + s.2.length = s.1) (fun s=>l.length - s.1) (i + 1,[x]) [0] ?_ ?_ ?_ rfl (Nat.le_refl _) ?_ ?_ ?_
  ·simp [vw,qd,ha,hcc,htk1]; omega
  ·have:(l.take i++([x]++l.drop (i + 1))) = l:=by
    have h2:=List.take_append_drop i l
    rw [List.drop_eq_getElem_cons hil] at h2
    obtain ⟨_,rfl⟩:=List.getElem?_eq_some_iff.1 hx
    simpa using h2
   dsimp only
   rw [htk1,this]
   simp [vw,qd,qk]
  ·simp [vw]
  ·intro b hb; obtain rfl:b = 0:=by simpa using hb
   simp [qbq]
  ·refine ⟨by omega,?_⟩
   dsimp only
   rw [htk1]; simp; omega
  rintro ⟨j,mid⟩ ⟨hj,hm⟩ G ih
  dsimp only at hj hm ih ⊢
  simp only [qh,H0,mkT,mkH,trL,vI,simprocAttr]
  generalize hF:(l.take j).filter (fun x=>!p x) = F at hm ih ⊢
  by_cases hlt:j < l.length
  ·have hxj:l[j]? = some l[j]:=List.getElem?_eq_getElem hlt
   have hwj:IntKind.wrap .i64 ((j:Int) + 1) = (j:Int) + 1:=qG (by omega) (by omega)
   have hwi:IntKind.wrap .i64 ((F.length:Int) + 1) = (F.length:Int) + 1:=qG (by omega) (by omega)
   have hget:(rI .i64 (F++(mid++l.drop j)))[j]? = some (.i .i64 l[j]):=by
    rw [jw,← List.append_assoc,List.getElem?_append_right (by simp; omega),List.getElem?_drop]
    simp [hm,hxj]
   have htj:(l.take (j + 1)).filter (fun x=>!p x) = F++(if p l[j] = true then [] else [l[j]]):=by
    rw [List.take_add_one,hxj,List.filter_append,hF]
    cases hpj:p l[j] <;> simp [hpj]
   simp only [↓vS,vT,shb,shv,qb,qc,cellsOf,wr,qa,simprocAttr,hlt,hget,Nat.mul_one]
   refine (hp l[j] (List.getElem_mem hlt)).sc ?_
   by_cases hpj:p l[j] = true
   ·simp only [↓vS,vT,shb,shv,qb,qc,cellsOf,wr,qa,simprocAttr,hpj,hwj]
    rw [hpj] at htj
    refine ih (j + 1,mid++[l[j]]) ⟨by omega,by rw [htj]; simp; omega⟩ (by dsimp only; omega) _ _ (Wk.mkn _ _ [0] ?_ ?_ ?_ rfl (Nat.le_refl _) ?_)
    ·simp [vw,qd,ha,hcc,htj]
    ·have e:(F++(mid++l.drop j)) = (((l.take (j + 1)).filter fun x=>!p x)++((mid++[l[j]])++l.drop (j + 1))):=by
      rw [htj,List.drop_eq_getElem_cons hlt]; simp
     dsimp only
     rw [← e]
     simp [vw,qd,qk]
    ·simp [vw]
    ·intro b hb; obtain rfl:b = 0:=by simpa using hb
     simp [qbq]
   ·have hFl:F.length < l.length:=by omega
    have hlen:F.length + 1<=(rI .i64 (F++(mid++l.drop j))).length:=by rw [wo]; simp; omega
    have hFn:(F.length:Int) < l.length:=by omega
    simp only [↓vS,vT,shb,shv,qb,qc,cellsOf,wr,qa,simprocAttr,hpj,hwj,hwi,hFl,hlen,Nat.mul_one]
    rw [if_neg hpj] at htj
    have hset:rI .i64 ((F++(mid++l.drop j)).take F.length)++(AV.i .i64 l[j] :: rI .i64 ((F++(mid++l.drop j)).drop (F.length + 1))) = rI .i64 (((l.take (j + 1)).filter fun x=>!p x)++((mid++[l[j]]).tail++l.drop (j + 1))):=by
     rw [htj,← qe8,Zm,List.take_left' rfl,← List.drop_drop,List.drop_left' rfl,List.drop_eq_getElem_cons hlt]
     cases mid <;> simp
    simp only [ym,ZH,hset]
    refine ih (j + 1,(mid++[l[j]]).tail) ⟨by omega,by rw [htj]; simp; omega⟩ (by dsimp only; omega) _ _ (Wk.mkn _ _ [0] ?_ ?_ ?_ rfl (Nat.le_refl _) ?_)
    ·simp [vw,qd,ha,hcc,htj]
    ·simp [vw,qd,qk]
    ·simp [vw]
    ·intro b hb; obtain rfl:b = 0:=by simpa using hb
     simp [qbq]
  ·obtain rfl:j = l.length:=by omega
   have hl0:¬ l.length = 0:=by omega
   have hFl:F.length<=l.length:=by omega
   have hrl:(rI .i64 (F++(mid++l.drop l.length))).length = l.length:=by rw [wo]; simp; omega
   have hz:¬ l.length - F.length = 0:=by
    intro hz
    have:F.length = l.length:=by omega
    rw [← hF,List.take_length] at this
    have h2:=List.length_filter_eq_length_iff.1 this x (List.mem_of_getElem? hx)
    simp [hpx] at h2
   have hsum:F.length + (l.length - F.length) = l.length:=by omega
   simp only [↓vS,vT,shb,shv,qb,qc,cellsOf,wr,qa,simprocAttr,hlt,hl0,hFl,Nat.mul_one,hz,qct,qiZ,Z4,wo,List.length_replicate,hrl,hsum,ym,ZH,Zm,Int.ofNat_le]
   rw [List.take_length] at hF
   subst hF
   refine QP.closed (by simp [Tr.get_set]; exact ⟨rfl,rfl⟩) rfl ?_ hFl ?_ qk
   ·rw [wo]; simp; omega
   ·rw [Nat.mul_one,ym,List.take_left' (by simp)]
def xn (f_slices_IndexFunc_uint32_uint32:Nat):IFn:=⟨[.tmp 4],.seq (.r [.m 4 (.c (.nils))]) (.seq (.r [.m 8 (.t 0),.m 9 (.t 1),.l 10 f_slices_IndexFunc_uint32_uint32 [.t 8,.t 9],.m 5 (.t 10)]) (.seq (.seq (.r [.m 11 (.t 5),.q 12 (.bin .eql (.t 11) (.c (.i .i64 (-1))))]) (.cond (.t 12) (.seq (.r [.m 13 (.t 0),.m 4 (.t 13)]) (.ret)) (.skip))) (.seq (.seq (.r [.m 14 (.t 5),.q 15 (.bin .add (.t 14) (.k 1)),.m 6 (.t 15)]) (.blk 0 (.loop (.seq (.seq (.r [.m 16 (.t 6),.m 17 (.t 0),.q 18 (.len false (.t 17)),.q 19 (.bin .lss (.t 16) (.t 18))]) (.cond (.t 19) (.skip) (.exit 0))) (.seq (.blk 1 (.seq (.r [.m 22 (.t 0),.m 23 (.t 6),.q 24 (.iAddrS 1 (.t 22) (.t 23)),.q 25 (.load1 (.t 24)),.m 7 (.t 25)]) (.seq (.r [.m 26 (.t 1),.m 27 (.t 7),⟨(some 28),.callV (.t 26) [.t 27],none⟩,.q 29 (.un .not (.t 28))]) (.cond (.t 29) (.seq (.r [.m 30 (.t 0),.m 31 (.t 5),.m 32 (.t 7),.q 33 (.iAddrS 1 (.t 30) (.t 31)),.u (.store 1 (.t 33) (.t 32))]) (.r [.m 34 (.t 5),.q 35 (.bin .add (.t 34) (.k 1)),.m 5 (.t 35)])) (.skip))))) (.r [.m 20 (.t 6),.q 21 (.bin .add (.t 20) (.k 1)),.m 6 (.t 21)])))))) (.seq (.r [.m 36 (.t 0),.m 37 (.t 5),.q 38 (.slcS 1 (.t 36) (some (.t 37)) none none),.u (.clear [.i .u32 0] (.t 38))]) (.seq (.r [.m 39 (.t 0),.m 40 (.t 5),.q 41 (.slcS 1 (.t 39) none (some (.t 40)) none),.m 4 (.t 41)]) (.ret))))))⟩
def Jy (P:Program) (f:Nat):Prop:=∀ (p:Int->Bool) (g:Nat) (a c:List AV) (l:List Int),qw a = true->qw c = true->l.length<=qi->(∀ x ∈ l,qg P g (a++([.i .u32 x]++c)) (.b (p x)))->
 Upd P f [.own 0 l.length,.fn g a c] [.cells 1 true true (rI .u32 l)] (.own 0 (l.filter fun x=>!p x).length) [.cells 1 true true (rI .u32 (l.filter fun x=>!p x))]
theorem qhC {g1:Nat} (hc:qm P f (xn g1) = true) (h1:qbZ P g1):Jy P f:=by
 intro p g a c l ha hcc hl hp
 have hl2:=hl; simp only [qi] at hl2
 refine Upd.mkS hc (by simp [qW,bnd,qJ ha,qJ hcc]) (Nat.le_refl _) (qA ?_)
 simp only [xn,qh,H0,mkT,mkH,trL,vI,simprocAttr]
 simp only [↓vS,vT,shb,shv,qb,qc,cellsOf,wr,qa,simprocAttr]
 refine (h1 (.i .u32) p g a c l ha hcc hl hp).lend (vs':=[.fz l.length (rI .u32 l),.fn g a c]) ?_ rfl ?_
 ·simp [vZ,vP,Tr.get_set,qH ha,qH hcc,qH qk]
  intro h0; rw [h0]; rfl
 rcases kA p l 0 with ⟨hi,_⟩ | ⟨i,x,hi,hx,hpx,_,hb⟩
 ·simp only [↓vS,vT,shb,shv,qb,qc,cellsOf,wr,qa,simprocAttr,hi,Int.reduceNeg]
  refine y5.w (fun _=>⟨[0],?_⟩) (Nat.le_refl _)
  rw [Jc hi]
  simp [vw,qd,qk]
 ·have hne:¬ ((i:Nat):Int) = -1:=by omega
  have hil:i < l.length:=(List.getElem?_eq_some_iff.1 hx).1
  have hw:IntKind.wrap .i64 ((i:Int) + 1) = (i:Int) + 1:=qG (by omega) (by omega)
  rw [Nat.zero_add] at hi
  simp only [↓vS,vT,shb,shv,qb,qc,cellsOf,wr,qa,simprocAttr,hi,hne,hw]
  have htk:(l.take i).filter (fun x=>!p x) = l.take i:=by
   rw [List.filter_eq_self]
   intro y hy
   obtain ⟨k,hk,rfl⟩:=List.getElem_of_mem hy
   simp at hk
   rw [List.getElem_take]
   simp [hb k _ (by omega) (List.getElem?_eq_getElem (by omega))]
  have htk1:(l.take (i + 1)).filter (fun x=>!p x) = l.take i:=by
   rw [List.take_add_one,hx,List.filter_append,htk]; simp [hpx]
  refine SL.loopn (α:=Nat × List Int) (fun s=>[(0,.own 0 l.length),(1,.fn g a c),(5,.i .i64 (((l.take s.1).filter fun x=>!p x).length:Int)),(6,.i .i64 (s.1:Int))])
   (fun s=>[.cells 1 true true (rI .u32 (((l.take s.1).filter fun x=>!p x)++(s.2++l.drop s.1)))]) (fun s=>s.1<=l.length∧((l.take s.1).filter fun x=>!p x).length + s.2.length = s.1) (fun s=>l.length - s.1) (i + 1,[x]) [0] ?_ ?_ ?_ rfl (Nat.le_refl _) ?_ ?_ ?_
  ·simp [vw,qd,ha,hcc,htk1]; omega
  ·have:(l.take i++([x]++l.drop (i + 1))) = l:=by
    have h2:=List.take_append_drop i l
    rw [List.drop_eq_getElem_cons hil] at h2
    obtain ⟨_,rfl⟩:=List.getElem?_eq_some_iff.1 hx
    simpa using h2
   dsimp only
   rw [htk1,this]
   simp [vw,qd,qk]
  ·simp [vw]
  ·intro b hb; obtain rfl:b = 0:=by simpa using hb
   simp [qbq]
  ·refine ⟨by omega,?_⟩
   dsimp only
   rw [htk1]; simp; omega
  rintro ⟨j,mid⟩ ⟨hj,hm⟩ G ih
  dsimp only at hj hm ih ⊢
  simp only [qh,H0,mkT,mkH,trL,vI,simprocAttr]
  generalize hF:(l.take j).filter (fun x=>!p x) = F at hm ih ⊢
  by_cases hlt:j < l.length
  ·have hxj:l[j]? = some l[j]:=List.getElem?_eq_getElem hlt
   have hwj:IntKind.wrap .i64 ((j:Int) + 1) = (j:Int) + 1:=qG (by omega) (by omega)
   have hwi:IntKind.wrap .i64 ((F.length:Int) + 1) = (F.length:Int) + 1:=qG (by omega) (by omega)
   have hget:(rI .u32 (F++(mid++l.drop j)))[j]? = some (.i .u32 l[j]):=by
    rw [jw,← List.append_assoc,List.getElem?_append_right (by simp; omega),List.getElem?_drop]
    simp [hm,hxj]
   have htj:(l.take (j + 1)).filter (fun x=>!p x) = F++(if p l[j] = true then [] else [l[j]]):=by
    rw [List.take_add_one,hxj,List.filter_append,hF]
    cases hpj:p l[j] <;> simp [hpj]
   simp only [↓vS,vT,shb,shv,qb,qc,cellsOf,wr,qa,simprocAttr,hlt,hget,Nat.mul_one]
   refine (hp l[j] (List.getElem_mem hlt)).sc ?_
   by_cases hpj:p l[j] = true
   ·simp only [↓vS,vT,shb,shv,qb,qc,cellsOf,wr,qa,simprocAttr,hpj,hwj]
    rw [hpj] at htj
    refine ih (j + 1,mid++[l[j]]) ⟨by omega,by rw [htj]; simp; omega⟩ (by dsimp only; omega) _ _ (Wk.mkn _ _ [0] ?_ ?_ ?_ rfl (Nat.le_refl _) ?_)
    ·simp [vw,qd,ha,hcc,htj]
    ·have e:(F++(mid++l.drop j)) = (((l.take (j + 1)).filter fun x=>!p x)++((mid++[l[j]])++l.drop (j + 1))):=by
      rw [htj,List.drop_eq_getElem_cons hlt]; simp
     dsimp only
     rw [← e]
     simp [vw,qd,qk]
    ·simp [vw]
    ·intro b hb; obtain rfl:b = 0:=by simpa using hb
     simp [qbq]
   ·have hFl:F.length < l.length:=by omega
    have hlen:F.length + 1<=(rI .u32 (F++(mid++l.drop j))).length:=by rw [wo]; simp; omega
    have hFn:(F.length:Int) < l.length:=by omega
    simp only [↓vS,vT,shb,shv,qb,qc,cellsOf,wr,qa,simprocAttr,hpj,hwj,hwi,hFl,hlen,Nat.mul_one]
    rw [if_neg hpj] at htj
    have hset:rI .u32 ((F++(mid++l.drop j)).take F.length)++(AV.i .u32 l[j] :: rI .u32 ((F++(mid++l.drop j)).drop (F.length + 1))) = rI .u32 (((l.take (j + 1)).filter fun x=>!p x)++((mid++[l[j]]).tail++l.drop (j + 1))):=by
     rw [htj,← qe8,Zm,List.take_left' rfl,← List.drop_drop,List.drop_left' rfl,List.drop_eq_getElem_cons hlt]
     cases mid <;> simp
    simp only [ym,ZH,hset]
    refine ih (j + 1,(mid++[l[j]]).tail) ⟨by omega,by rw [htj]; simp; omega⟩ (by dsimp only; omega) _ _ (Wk.mkn _ _ [0] ?_ ?_ ?_ rfl (Nat.le_refl _) ?_)
    ·simp [vw,qd,ha,hcc,htj]
    ·simp [vw,qd,qk]
    ·simp [vw]
    ·intro b hb; obtain rfl:b = 0:=by simpa using hb
     simp [qbq]
  ·obtain rfl:j = l.length:=by omega
   have hl0:¬ l.length = 0:=by omega
   have hFl:F.length<=l.length:=by omega
   have hrl:(rI .u32 (F++(mid++l.drop l.length))).length = l.length:=by rw [wo]; simp; omega
   have hz:¬ l.length - F.length = 0:=by
    intro hz
    have:F.length = l.length:=by omega
    rw [← hF,List.take_length] at this
    have h2:=List.length_filter_eq_length_iff.1 this x (List.mem_of_getElem? hx)
    simp [hpx] at h2
   have hsum:F.length + (l.length - F.length) = l.length:=by omega
   simp only [↓vS,vT,shb,shv,qb,qc,cellsOf,wr,qa,simprocAttr,hlt,hl0,hFl,Nat.mul_one,hz,qct,qiZ,Z4,wo,List.length_replicate,hrl,hsum,ym,ZH,Zm,Int.ofNat_le]
   rw [List.take_length] at hF
   subst hF
   refine QP.closed (by simp [Tr.get_set]; exact ⟨rfl,rfl⟩) rfl ?_ hFl ?_ qk
   ·rw [wo]; simp; omega
   ·rw [Nat.mul_one,ym,List.take_left' (by simp)]
end Go.Kc
end
section
/- What slices.Insert makes of a row of one's own. Condition: the functions' texts are these. -/
namespace Go.Kc
variable {P:Program} {f:Nat}
def Zu (m by':Nat) (P:Program) (f:Nat):Prop:=∀ (n i:Nat) (R E:List AV),R.length = n * m->E.length = m->qw R = true->qw E = true->qI R = true->qI E = true->i<=n->n + 1<=qi->(n + 1) * by'<=qi->
 Upd P f [.own 0 n,.i .i64 i,.sl 1 0 1 1 false] [.cells m true true R,.cells 0 true false E] (.own 2 (n + 1)) [.dead,.cells 0 true false E,.cells m true true (R.take (i * m)++(E++R.drop (i * m)))]
def xL (f_slices_overlaps_int f_slices_rotateRight_int:Nat):IFn:=⟨[.tmp 6],.seq (.r [.m 6 (.c (.nils))]) (.seq (.r [.m 10 (.t 0),.m 11 (.t 1),.q 12 (.slcS 1 (.t 10) (some (.t 11)) none none)]) (.seq (.r [.m 13 (.t 2),.q 14 (.len false (.t 13)),.m 7 (.t 14)]) (.seq (.seq (.r [.m 15 (.t 7),.q 16 (.bin .eql (.t 15) (.k 0))]) (.cond (.t 16) (.seq (.r [.m 17 (.t 0),.m 6 (.t 17)]) (.ret)) (.skip))) (.seq (.r [.m 18 (.t 0),.q 19 (.len false (.t 18)),.m 8 (.t 19)]) (.seq (.seq (.r [.m 20 (.t 1),.m 21 (.t 8),.q 22 (.bin .eql (.t 20) (.t 21))]) (.cond (.t 22) (.seq (.r [.m 23 (.t 0),.m 24 (.t 2),.q 25 (.app 1 8 true (.t 23) (.t 24)),.m 6 (.t 25)]) (.ret)) (.skip))) (.seq (.seq (.r [.m 26 (.t 8),.m 27 (.t 7),.q 28 (.bin .add (.t 26) (.t 27)),.m 29 (.t 0),.q 30 (.cap (.t 29)),.q 31 (.bin .gtr (.t 28) (.t 30))]) (.cond (.t 31) (.seq (.r [.m 32 (.t 0),.m 33 (.t 1),.q 34 (.slcS 1 (.t 32) none (some (.t 33)) none),.m 35 (.t 8),.m 36 (.t 7),.q 37 (.bin .add (.t 35) (.t 36)),.m 38 (.t 1),.q 39 (.bin .sub (.t 37) (.t 38)),.q 40 (.appZ 1 8 [.i .i64 0] (.t 34) (.t 39)),.m 9 (.t 40)]) (.seq (.r [.m 41 (.t 9),.m 42 (.t 1),.q 43 (.slcS 1 (.t 41) (some (.t 42)) none none),.m 44 (.t 2),.q 45 (.copy 1 (.t 43) (.t 44))]) (.seq (.reg true [.m 46 (.t 9),.m 47 (.t 1),.m 48 (.t 7),.q 49 (.bin .add (.t 47) (.t 48)),.q 50 (.slcS 1 (.t 46) (some (.t 49)) none none),.m 51 (.t 0),.m 52 (.t 1),.q 53 (.slcS 1 (.t 51) (some (.t 52)) none none),.q 54 (.copy 1 (.t 50) (.t 53))]) (.seq (.r [.m 55 (.t 9),.m 6 (.t 55)]) (.ret))))) (.skip))) (.seq (.r [.m 56 (.t 0),.m 57 (.t 8),.m 58 (.t 7),.q 59 (.bin .add (.t 57) (.t 58)),.q 60 (.slcS 1 (.t 56) none (some (.t 59)) none),.m 0 (.t 60)]) (.seq (.seq (.r [.m 61 (.t 2),.m 62 (.t 0),.m 63 (.t 1),.m 64 (.t 7),.q 65 (.bin .add (.t 63) (.t 64)),.q 66 (.slcS 1 (.t 62) (some (.t 65)) none none),.l 67 f_slices_overlaps_int [.t 61,.t 66],.q 68 (.un .not (.t 67))]) (.cond (.t 68) (.seq (.reg true [.m 69 (.t 0),.m 70 (.t 1),.m 71 (.t 7),.q 72 (.bin .add (.t 70) (.t 71)),.q 73 (.slcS 1 (.t 69) (some (.t 72)) none none),.m 74 (.t 0),.m 75 (.t 1),.q 76 (.slcS 1 (.t 74) (some (.t 75)) none none),.q 77 (.copy 1 (.t 73) (.t 76))]) (.seq (.r [.m 78 (.t 0),.m 79 (.t 1),.q 80 (.slcS 1 (.t 78) (some (.t 79)) none none),.m 81 (.t 2),.q 82 (.copy 1 (.t 80) (.t 81))]) (.seq (.r [.m 83 (.t 0),.m 6 (.t 83)]) (.ret)))) (.skip))) (.seq (.r [.m 84 (.t 0),.m 85 (.t 8),.q 86 (.slcS 1 (.t 84) (some (.t 85)) none none),.m 87 (.t 2),.q 88 (.copy 1 (.t 86) (.t 87))]) (.seq (.r [.m 89 (.t 0),.m 90 (.t 1),.q 91 (.slcS 1 (.t 89) (some (.t 90)) none none),.m 92 (.t 7),.l 93 f_slices_rotateRight_int [.t 91,.t 92]]) (.seq (.r [.m 94 (.t 0),.m 6 (.t 94)]) (.ret))))))))))))⟩
theorem qnJ {g1 g2:Nat} (hc:qm P f (xL g1 g2) = true) (h1:qkR P g1):Zu 1 8 P f:=by
 intro n i R E hR hE hcR hcE hoR hoE hi hr hr2
 have hl2:=hr; simp only [qi] at hl2
 refine Upd.mkS hc (by simp [qW,bnd]) (by simp) ?_
 refine S.open (a:=true) 0 0 n 1 (cs:=R) (by simp [qh,Tr.get_set]) (by rw [z8]; rfl) hR (Nat.le_refl _) (by simp [Ji]) ?_ ?_
 ·intro h0
  subst h0
  obtain rfl:R = []:=List.eq_nil_of_length_eq_zero (by omega)
  obtain rfl:i = 0:=by omega
  refine qA ?_
  simp only [xL,qh,H0,mkT,mkH,trL,vI,simprocAttr]
  have hr2':1 * 8<=qi:=by simpa using hr2
  have hr':1<=qi:=by simpa using hr
  have ht:E.take 1 = E:=List.take_of_length_le (by omega)
  simp only [↓vS,vT,shb,shv,qb,qc,cellsOf,wr,qa,Nat.reduceEqDiff,↓reduceIte,Nat.reduceAdd,Nat.reduceMul,Nat.reduceSub,Nat.reduceLeDiff,Nat.reduceLT,Int.reduceLE,Int.reduceLT,Int.reduceEq,Int.reduceToNat,hr',hr2',hE,ht]
  refine y5.w (fun _=>⟨[0,1,2],?_⟩) (by simp)
  simp [vw,qd,hcE]
  decide
 ·intro c hcl
  refine qA ?_
  simp only [xL,qh,H0,mkT,mkH,trL,vI,simprocAttr]
  obtain ⟨U,hU⟩:∃ U,U = List.replicate ((c - n) * 1) AV.undef:=⟨_,rfl⟩
  have hUl:U.length = (c - n) * 1:=by rw [hU]; simp
  rw [← hU]
  have hci:(i:Int)<=c:=by omega
  have hw1:IntKind.wrap .i64 ((n:Int) + 1) = (n:Int) + 1:=qG (by omega) (by omega)
  have hcells:(R++U).length = c * 1:=by simp [hR,hUl]; omega
  have htE:E.take 1 = E:=List.take_of_length_le (by omega)
  by_cases hil:i = n
  ·subst hil
   by_cases hcap:i + 1<=c
   ·have g1:i * 1 + 1<=c * 1:=by omega
    have e1:(R++U).take (i * 1) = R:=List.take_left' hR
    simp only [↓vS,vT,shb,shv,qb,qc,cellsOf,wr,qa,Nat.reduceEqDiff,↓reduceIte,Nat.reduceAdd,Nat.reduceMul,Nat.reduceSub,Nat.reduceLeDiff,Nat.reduceLT,Int.reduceLE,Int.reduceLT,Int.reduceEq,Int.reduceToNat,hcl,hw1,hcap,hcells,hE,htE,hoE,g1,e1]
    refine QP.closedI (a:=false) (cs:=R++(E++(R++U).drop (i * 1 + 1))) (by simp [Tr.get_set]) (by simp [Tr.get_set]) (by simp) ?_ hcap ?_ ?_ hcE
    ·simp [hR,hE,hUl]; try omega
    ·rw [← List.append_assoc,List.take_left' (by simp [hR,hE]; try omega),List.take_of_length_le (Nat.le_of_eq hR),List.drop_of_length_le (Nat.le_of_eq hR)]; simp
    ·rw [List.take_of_length_le (Nat.le_of_eq hR),List.drop_of_length_le (Nat.le_of_eq hR)]; simp [qF,hcR,hcE]
   ·have g1:i * 1<=c * 1:=by omega
    have e1:(R++U).take (i * 1) = R:=List.take_left' hR
    simp only [↓vS,vT,shb,shv,qb,qc,cellsOf,wr,qa,Nat.reduceEqDiff,↓reduceIte,Nat.reduceAdd,Nat.reduceMul,Nat.reduceSub,Nat.reduceLeDiff,Nat.reduceLT,Int.reduceLE,Int.reduceLT,Int.reduceEq,Int.reduceToNat,hcl,hw1,hcap,hcells,hr,hr2,hE,htE,g1,e1]
    refine y5.w (fun _=>⟨[0,1,2],?_⟩) (by simp)
    rw [List.take_of_length_le (Nat.le_of_eq hR),List.drop_of_length_le (Nat.le_of_eq hR),List.append_nil]
    have:qw (R++E) = true:=by simp [qF,hcR,hcE]
    simp [vw,qd,hcE,this]
    decide
  ·have hilt:i < n:=by omega
   have hi':¬ (i:Int) = n:=by omega
   have hci2:¬ c = i:=by omega
   simp only [↓vS,vT,shb,shv,qb,qc,cellsOf,wr,qa,Nat.reduceEqDiff,↓reduceIte,Nat.reduceAdd,Nat.reduceMul,Nat.reduceSub,Nat.reduceLeDiff,Nat.reduceLT,Int.reduceLE,Int.reduceLT,Int.reduceEq,Int.reduceToNat,hci,hcl,hi,hw1,hi',hci2]
   have ha:IntKind.wrap .i64 ((i:Int) + 1) = (i:Int) + 1:=qG (by omega) (by omega)
   have t1:((n:Int) + 1).toNat = n + 1:=by omega
   have t2:((i:Int) + 1).toNat = i + 1:=by omega
   have p1:(0:Int)<=(n:Int) + 1:=by omega
   have p2:(0:Int)<=(i:Int) + 1:=by omega
   have c0:¬ c = 0:=by omega
   have i1:i + 1<=n + 1:=by omega
   have c1:¬ c = i + 1∨c = i + 1:=by omega
   by_cases hcap:n + 1<=c
   ·have hcap':¬ (c:Int) < (n:Int) + 1:=by omega
    have c2:¬ c = i + 1:=by omega
    simp only [↓vS,vT,shb,shv,qb,qc,cellsOf,wr,qa,Nat.reduceEqDiff,↓reduceIte,Nat.reduceAdd,Nat.reduceMul,Nat.reduceSub,Nat.reduceLeDiff,Nat.reduceLT,Int.reduceLE,Int.reduceLT,Int.reduceEq,Int.reduceToNat,hcap,hcap',hcells,t1,p1,c0,ha,t2,p2,i1,c2]
    refine Zk h1 (a1:=false) (a2:=false) (cs1:=E) (cs2:=R++U) (e2:=1) (by simp [Tr.get_set]) (by simp [Tr.get_set]) (by decide) (by omega) (by omega) (Nat.zero_le _) (by intro hh; rw [hh] at hcells; simp at hcells; omega) ?_
    simp only [↓vS,vT,shb,shv,qb,qc,cellsOf,wr,qa,Nat.reduceEqDiff,↓reduceIte,Nat.reduceAdd,Nat.reduceMul,Nat.reduceSub,Nat.reduceLeDiff,Nat.reduceLT,Int.reduceLE,Int.reduceLT,Int.reduceEq,Int.reduceToNat]
    refine zS ?_
    have i2:i<=n + 1:=by omega
    have m1:min (n + 1 - i) (n + 1 - (i + 1)) = n - i:=by omega
    have m2:min 1 (n + 1 - i) = 1:=by omega
    have b1:i * 1 + (n + 1 - i) * 1<=c * 1:=by omega
    have b2:(n - i) * 1<=(n + 1 - i) * 1:=by omega
    have b3:(i + 1) * 1 + (n - i) * 1<=c * 1:=by omega
    have l1:(((R++U).drop (i * 1)).take ((n + 1 - i) * 1)).length = (n + 1 - i) * 1:=by simp only [List.length_take,List.length_drop,hcells]; omega
    have e2:((((R++U).drop (i * 1)).take ((n + 1 - i) * 1)).take ((n - i) * 1)) = R.drop (i * 1):=by
     rw [List.take_take,Nat.min_eq_left b2,List.drop_append_of_le_length (by omega),List.take_left' (by simp; omega)]
    have l2:(R.drop (i * 1)).length = (n - i) * 1:=by simp; omega
    have o2:qI (R.drop (i * 1)) = true:=by
     have h:=hoR
     rw [← List.take_append_drop (i * 1) R,js,Bool.and_eq_true] at h
     exact h.2
    obtain ⟨L1,hL1⟩:∃ L1,L1 = (R++U).take ((i + 1) * 1)++(R.drop (i * 1)++(R++U).drop ((i + 1) * 1 + (n - i) * 1)):=⟨_,rfl⟩
    have l3:L1.length = c * 1:=by rw [hL1]; simp only [List.length_append,List.length_take,List.length_drop,hcells,l2]; simp only [List.length_append] at hcells; omega
    have b4:i * 1 + 1<=c * 1:=by omega
    simp only [↓vS,vT,shb,shv,qb,qc,cellsOf,wr,qa,Nat.reduceEqDiff,↓reduceIte,Nat.reduceAdd,Nat.reduceMul,Nat.reduceSub,Nat.reduceLeDiff,Nat.reduceLT,Int.reduceLE,Int.reduceLT,Int.reduceEq,Int.reduceToNat,ha,t2,p2,i1,c2,c0,hci2,hi,hcap,i2,m1,m2,hcells,b1,l1,b2,e2,l2,b3,o2,← hL1,l3,b4,hE,htE,hoE]
    have k1:L1.take (i * 1) = R.take (i * 1):=by
     rw [hL1,List.take_append_of_le_length (by simp only [List.length_take,hcells]; omega),List.take_take,Nat.min_eq_left (by omega),List.take_append_of_le_length (by omega)]
    have k2:L1.drop (i * 1 + 1) = R.drop (i * 1)++(R++U).drop ((i + 1) * 1 + (n - i) * 1):=by
     rw [hL1,List.drop_left' (by simp only [List.length_take,hcells]; omega)]
    refine QP.closedI (a:=false) (cs:=L1.take (i * 1)++(E++L1.drop (i * 1 + 1))) (by simp [Tr.get_set]) (by simp [Tr.get_set]) (by simp) ?_ hcap ?_ ?_ hcE
    ·simp only [List.length_append,List.length_take,List.length_drop,l3,hE]; omega
    ·rw [k1,k2,← List.append_assoc,← List.append_assoc,List.take_left' (by simp only [List.length_append,List.length_take,hE,l2]; omega),List.append_assoc]
    ·have h:=hcR
     rw [← List.take_append_drop (i * 1) R,qF,Bool.and_eq_true] at h
     simp only [qF,h.1,h.2,hcE,Bool.and_self]
   ·have hcap':(c:Int) < (n:Int) + 1:=by omega
    have s1:IntKind.wrap .i64 ((n:Int) + 1 - i) = (n:Int) + 1 - i:=qG (by omega) (by omega)
    have s2:((n:Int) + 1 - i).toNat = n + 1 - i:=by omega
    have s3:(0:Int)<=(n:Int) + 1 - i:=by omega
    have s4:i + (n + 1 - i) = n + 1:=by omega
    have s5:c < n + 1:=by omega
    have s6:i * 1<=c * 1:=by omega
    have e1:(R++U).take (i * 1) = R.take (i * 1):=by rw [List.take_append_of_le_length (by omega)]
    have n1:¬ n + 1 = 0:=by omega
    have i2:i<=n + 1:=by omega
    have hic:i<=c:=by omega
    have m2:min 1 (n + 1 - i) = 1:=by omega
    have m1:min (n - i) (n + 1 - (i + 1)) = n - i:=by omega
    have zl:((List.replicate (n + 1 - i) ([.i .i64 0]:List AV)).flatten).length = (n + 1 - i) * 1:=by simp [List.length_flatten]
    obtain ⟨L1,hL1⟩:∃ L1,L1 = R.take (i * 1)++(List.replicate (n + 1 - i) ([.i .i64 0]:List AV)).flatten:=⟨_,rfl⟩
    have l1:L1.length = (n + 1) * 1:=by rw [hL1]; simp only [List.length_append,List.length_take,zl]; omega
    have b4:i * 1 + 1<=(n + 1) * 1:=by omega
    have e2:((R++U).drop (i * 1)).take ((n - i) * 1) = R.drop (i * 1):=by
     rw [List.drop_append_of_le_length (by omega),List.take_left' (by simp; omega)]
    have b5:i * 1 + (n - i) * 1<=c * 1:=by omega
    have l2:(R.drop (i * 1)).length = (n - i) * 1:=by simp; omega
    have e3:(R.drop (i * 1)).take ((n - i) * 1) = R.drop (i * 1):=List.take_of_length_le (Nat.le_of_eq l2)
    have b6:(i + 1) * 1 + (n - i) * 1<=(n + 1) * 1:=by omega
    have o2:qI (R.drop (i * 1)) = true:=by
     have h:=hoR
     rw [← List.take_append_drop (i * 1) R,js,Bool.and_eq_true] at h
     exact h.2
    obtain ⟨L2,hL2⟩:∃ L2,L2 = L1.take (i * 1)++(E++L1.drop (i * 1 + 1)):=⟨_,rfl⟩
    have l4:L2.length = (n + 1) * 1:=by rw [hL2]; simp only [List.length_append,List.length_take,List.length_drop,l1,hE]; omega
    simp only [↓vS,vT,shb,shv,qb,qc,cellsOf,wr,qa,Nat.reduceEqDiff,↓reduceIte,Nat.reduceAdd,Nat.reduceMul,Nat.reduceSub,Nat.reduceLeDiff,Nat.reduceLT,Int.reduceLE,Int.reduceLT,Int.reduceEq,Int.reduceToNat,hw1,hcap',hcells,c0,hci,hci2,hic,s1,s2,s3,s4,s5,hr,hr2,s6,e1,n1,i2,m2,hE,htE,hoE,← hL1,l1,b4,← hL2]
    refine zS ?_
    simp only [↓vS,vT,shb,shv,qb,qc,cellsOf,wr,qa,Nat.reduceEqDiff,↓reduceIte,Nat.reduceAdd,Nat.reduceMul,Nat.reduceSub,Nat.reduceLeDiff,Nat.reduceLT,Int.reduceLE,Int.reduceLT,Int.reduceEq,Int.reduceToNat,ha,t2,p2,i1,c0,hci2,hi,hcl,i2,m1,n1,hcells,e2,b5,l2,e3,b6,l4,o2]
    have k1:L1.take (i * 1) = R.take (i * 1):=by
     rw [hL1,List.take_left' (by simp; omega)]
    have k3:L2.take ((i + 1) * 1)++(R.drop (i * 1)++L2.drop ((i + 1) * 1 + (n - i) * 1)) = R.take (i * 1)++(E++R.drop (i * 1)):=by
     rw [show L2.drop ((i + 1) * 1 + (n - i) * 1) = [] from List.drop_of_length_le (by rw [l4]; omega),List.append_nil,hL2,k1,← List.append_assoc,List.take_left' (by simp only [List.length_append,List.length_take,hE]; omega),List.append_assoc]
    have hcl2:qw (R.take (i * 1)++(E++R.drop (i * 1))) = true:=by
     have h:=hcR
     rw [← List.take_append_drop (i * 1) R,qF,Bool.and_eq_true] at h
     simp only [qF,h.1,h.2,hcE,Bool.and_self]
    simp only [k3]
    generalize R.take (i * 1)++(E++R.drop (i * 1)) = RR at hcl2 ⊢
    refine y5.w (fun _=>⟨[0,1,2],?_⟩) (by simp)
    simp [vw,qd,hcE,hcl2]
    decide
def zR (f_slices_overlaps_uint32 f_slices_rotateRight_uint32:Nat):IFn:=⟨[.tmp 6],.seq (.r [.m 6 (.c (.nils))]) (.seq (.r [.m 10 (.t 0),.m 11 (.t 1),.q 12 (.slcS 1 (.t 10) (some (.t 11)) none none)]) (.seq (.r [.m 13 (.t 2),.q 14 (.len false (.t 13)),.m 7 (.t 14)]) (.seq (.seq (.r [.m 15 (.t 7),.q 16 (.bin .eql (.t 15) (.k 0))]) (.cond (.t 16) (.seq (.r [.m 17 (.t 0),.m 6 (.t 17)]) (.ret)) (.skip))) (.seq (.r [.m 18 (.t 0),.q 19 (.len false (.t 18)),.m 8 (.t 19)]) (.seq (.seq (.r [.m 20 (.t 1),.m 21 (.t 8),.q 22 (.bin .eql (.t 20) (.t 21))]) (.cond (.t 22) (.seq (.r [.m 23 (.t 0),.m 24 (.t 2),.q 25 (.app 1 4 true (.t 23) (.t 24)),.m 6 (.t 25)]) (.ret)) (.skip))) (.seq (.seq (.r [.m 26 (.t 8),.m 27 (.t 7),.q 28 (.bin .add (.t 26) (.t 27)),.m 29 (.t 0),.q 30 (.cap (.t 29)),.q 31 (.bin .gtr (.t 28) (.t 30))]) (.cond (.t 31) (.seq (.r [.m 32 (.t 0),.m 33 (.t 1),.q 34 (.slcS 1 (.t 32) none (some (.t 33)) none),.m 35 (.t 8),.m 36 (.t 7),.q 37 (.bin .add (.t 35) (.t 36)),.m 38 (.t 1),.q 39 (.bin .sub (.t 37) (.t 38)),.q 40 (.appZ 1 4 [.i .u32 0] (.t 34) (.t 39)),.m 9 (.t 40)]) (.seq (.r [.m 41 (.t 9),.m 42 (.t 1),.q 43 (.slcS 1 (.t 41) (some (.t 42)) none none),.m 44 (.t 2),.q 45 (.copy 1 (.t 43) (.t 44))]) (.seq (.reg true [.m 46 (.t 9),.m 47 (.t 1),.m 48 (.t 7),.q 49 (.bin .add (.t 47) (.t 48)),.q 50 (.slcS 1 (.t 46) (some (.t 49)) none none),.m 51 (.t 0),.m 52 (.t 1),.q 53 (.slcS 1 (.t 51) (some (.t 52)) none none),.q 54 (.copy 1 (.t 50) (.t 53))]) (.seq (.r [.m 55 (.t 9),.m 6 (.t 55)]) (.ret))))) (.skip))) (.seq (.r [.m 56 (.t 0),.m 57 (.t 8),.m 58 (.t 7),.q 59 (.bin .add (.t 57) (.t 58)),.q 60 (.slcS 1 (.t 56) none (some (.t 59)) none),.m 0 (.t 60)]) (.seq (.seq (.r [.m 61 (.t 2),.m 62 (.t 0),.m 63 (.t 1),.m 64 (.t 7),.q 65 (.bin .add (.t 63) (.t 64)),.q 66 (.slcS 1 (.t 62) (some (.t 65)) none none),.l 67 f_slices_overlaps_uint32 [.t 61,.t 66],.q 68 (.un .not (.t 67))]) (.cond (.t 68) (.seq (.reg true [.m 69 (.t 0),.m 70 (.t 1),.m 71 (.t 7),.q 72 (.bin .add (.t 70) (.t 71)),.q 73 (.slcS 1 (.t 69) (some (.t 72)) none none),.m 74 (.t 0),.m 75 (.t 1),.q 76 (.slcS 1 (.t 74) (some (.t 75)) none none),.q 77 (.copy 1 (.t 73) (.t 76))]) (.seq (.r [.m 78 (.t 0),.m 79 (.t 1),.q 80 (.slcS 1 (.t 78) (some (.t 79)) none none),.m 81 (.t 2),.q 82 (.copy 1 (.t 80) (.t 81))]) (.seq (.r [.m 83 (.t 0),.m 6 (.t 83)]) (.ret)))) (.skip))) (.seq (.r [.m 84 (.t 0),.m 85 (.t 8),.q 86 (.slcS 1 (.t 84) (some (.t 85)) none none),.m 87 (.t 2),.q 88 (.copy 1 (.t 86) (.t 87))]) (.seq (.r [.m 89 (.t 0),.m 90 (.t 1),.q 91 (.slcS 1 (.t 89) (some (.t 90)) none none),.m 92 (.t 7),.l 93 f_slices_rotateRight_uint32 [.t 91,.t 92]]) (.seq (.r [.m 94 (.t 0),.m 6 (.t 94)]) (.ret))))))))))))⟩
theorem qnK {g1 g2:Nat} (hc:qm P f (zR g1 g2) = true) (h1:qkR P g1):Zu 1 4 P f:=by
 intro n i R E hR hE hcR hcE hoR hoE hi hr hr2
 have hl2:=hr; simp only [qi] at hl2
 refine Upd.mkS hc (by simp [qW,bnd]) (by simp) ?_
 refine S.open (a:=true) 0 0 n 1 (cs:=R) (by simp [qh,Tr.get_set]) (by rw [z8]; rfl) hR (Nat.le_refl _) (by simp [Ji]) ?_ ?_
 ·intro h0
  subst h0
  obtain rfl:R = []:=List.eq_nil_of_length_eq_zero (by omega)
  obtain rfl:i = 0:=by omega
  refine qA ?_
  simp only [zR,qh,H0,mkT,mkH,trL,vI,simprocAttr]
  have hr2':1 * 4<=qi:=by simpa using hr2
  have hr':1<=qi:=by simpa using hr
  have ht:E.take 1 = E:=List.take_of_length_le (by omega)
  simp only [↓vS,vT,shb,shv,qb,qc,cellsOf,wr,qa,Nat.reduceEqDiff,↓reduceIte,Nat.reduceAdd,Nat.reduceMul,Nat.reduceSub,Nat.reduceLeDiff,Nat.reduceLT,Int.reduceLE,Int.reduceLT,Int.reduceEq,Int.reduceToNat,hr',hr2',hE,ht]
  refine y5.w (fun _=>⟨[0,1,2],?_⟩) (by simp)
  simp [vw,qd,hcE]
  decide
 ·intro c hcl
  refine qA ?_
  simp only [zR,qh,H0,mkT,mkH,trL,vI,simprocAttr]
  obtain ⟨U,hU⟩:∃ U,U = List.replicate ((c - n) * 1) AV.undef:=⟨_,rfl⟩
  have hUl:U.length = (c - n) * 1:=by rw [hU]; simp
  rw [← hU]
  have hci:(i:Int)<=c:=by omega
  have hw1:IntKind.wrap .i64 ((n:Int) + 1) = (n:Int) + 1:=qG (by omega) (by omega)
  have hcells:(R++U).length = c * 1:=by simp [hR,hUl]; omega
  have htE:E.take 1 = E:=List.take_of_length_le (by omega)
  by_cases hil:i = n
  ·subst hil
   by_cases hcap:i + 1<=c
   ·have g1:i * 1 + 1<=c * 1:=by omega
    have e1:(R++U).take (i * 1) = R:=List.take_left' hR
    simp only [↓vS,vT,shb,shv,qb,qc,cellsOf,wr,qa,Nat.reduceEqDiff,↓reduceIte,Nat.reduceAdd,Nat.reduceMul,Nat.reduceSub,Nat.reduceLeDiff,Nat.reduceLT,Int.reduceLE,Int.reduceLT,Int.reduceEq,Int.reduceToNat,hcl,hw1,hcap,hcells,hE,htE,hoE,g1,e1]
    refine QP.closedI (a:=false) (cs:=R++(E++(R++U).drop (i * 1 + 1))) (by simp [Tr.get_set]) (by simp [Tr.get_set]) (by simp) ?_ hcap ?_ ?_ hcE
    ·simp [hR,hE,hUl]; try omega
    ·rw [← List.append_assoc,List.take_left' (by simp [hR,hE]; try omega),List.take_of_length_le (Nat.le_of_eq hR),List.drop_of_length_le (Nat.le_of_eq hR)]; simp
    ·rw [List.take_of_length_le (Nat.le_of_eq hR),List.drop_of_length_le (Nat.le_of_eq hR)]; simp [qF,hcR,hcE]
   ·have g1:i * 1<=c * 1:=by omega
    have e1:(R++U).take (i * 1) = R:=List.take_left' hR
    simp only [↓vS,vT,shb,shv,qb,qc,cellsOf,wr,qa,Nat.reduceEqDiff,↓reduceIte,Nat.reduceAdd,Nat.reduceMul,Nat.reduceSub,Nat.reduceLeDiff,Nat.reduceLT,Int.reduceLE,Int.reduceLT,Int.reduceEq,Int.reduceToNat,hcl,hw1,hcap,hcells,hr,hr2,hE,htE,g1,e1]
    refine y5.w (fun _=>⟨[0,1,2],?_⟩) (by simp)
    rw [List.take_of_length_le (Nat.le_of_eq hR),List.drop_of_length_le (Nat.le_of_eq hR),List.append_nil]
    have:qw (R++E) = true:=by simp [qF,hcR,hcE]
    simp [vw,qd,hcE,this]
    decide
  ·have hilt:i < n:=by omega
   have hi':¬ (i:Int) = n:=by omega
   have hci2:¬ c = i:=by omega
   simp only [↓vS,vT,shb,shv,qb,qc,cellsOf,wr,qa,Nat.reduceEqDiff,↓reduceIte,Nat.reduceAdd,Nat.reduceMul,Nat.reduceSub,Nat.reduceLeDiff,Nat.reduceLT,Int.reduceLE,Int.reduceLT,Int.reduceEq,Int.reduceToNat,hci,hcl,hi,hw1,hi',hci2]
   have ha:IntKind.wrap .i64 ((i:Int) + 1) = (i:Int) + 1:=qG (by omega) (by omega)
   have t1:((n:Int) + 1).toNat = n + 1:=by omega
   have t2:((i:Int) + 1).toNat = i + 1:=by omega
   have p1:(0:Int)<=(n:Int) + 1:=by omega
   have p2:(0:Int)<=(i:Int) + 1:=by omega
   have c0:¬ c = 0:=by omega
   have i1:i + 1<=n + 1:=by omega
   have c1:¬ c = i + 1∨c = i + 1:=by omega
   by_cases hcap:n + 1<=c
   ·have hcap':¬ (c:Int) < (n:Int) + 1:=by omega
    have c2:¬ c = i + 1:=by omega
    simp only [↓vS,vT,shb,shv,qb,qc,cellsOf,wr,qa,Nat.reduceEqDiff,↓reduceIte,Nat.reduceAdd,Nat.reduceMul,Nat.reduceSub,Nat.reduceLeDiff,Nat.reduceLT,Int.reduceLE,Int.reduceLT,Int.reduceEq,Int.reduceToNat,hcap,hcap',hcells,t1,p1,c0,ha,t2,p2,i1,c2]
    refine Zk h1 (a1:=false) (a2:=false) (cs1:=E) (cs2:=R++U) (e2:=1) (by simp [Tr.get_set]) (by simp [Tr.get_set]) (by decide) (by omega) (by omega) (Nat.zero_le _) (by intro hh; rw [hh] at hcells; simp at hcells; omega) ?_
    simp only [↓vS,vT,shb,shv,qb,qc,cellsOf,wr,qa,Nat.reduceEqDiff,↓reduceIte,Nat.reduceAdd,Nat.reduceMul,Nat.reduceSub,Nat.reduceLeDiff,Nat.reduceLT,Int.reduceLE,Int.reduceLT,Int.reduceEq,Int.reduceToNat]
    refine zS ?_
    have i2:i<=n + 1:=by omega
    have m1:min (n + 1 - i) (n + 1 - (i + 1)) = n - i:=by omega
    have m2:min 1 (n + 1 - i) = 1:=by omega
    have b1:i * 1 + (n + 1 - i) * 1<=c * 1:=by omega
    have b2:(n - i) * 1<=(n + 1 - i) * 1:=by omega
    have b3:(i + 1) * 1 + (n - i) * 1<=c * 1:=by omega
    have l1:(((R++U).drop (i * 1)).take ((n + 1 - i) * 1)).length = (n + 1 - i) * 1:=by simp only [List.length_take,List.length_drop,hcells]; omega
    have e2:((((R++U).drop (i * 1)).take ((n + 1 - i) * 1)).take ((n - i) * 1)) = R.drop (i * 1):=by
     rw [List.take_take,Nat.min_eq_left b2,List.drop_append_of_le_length (by omega),List.take_left' (by simp; omega)]
    have l2:(R.drop (i * 1)).length = (n - i) * 1:=by simp; omega
    have o2:qI (R.drop (i * 1)) = true:=by
     have h:=hoR
     rw [← List.take_append_drop (i * 1) R,js,Bool.and_eq_true] at h
     exact h.2
    obtain ⟨L1,hL1⟩:∃ L1,L1 = (R++U).take ((i + 1) * 1)++(R.drop (i * 1)++(R++U).drop ((i + 1) * 1 + (n - i) * 1)):=⟨_,rfl⟩
    have l3:L1.length = c * 1:=by rw [hL1]; simp only [List.length_append,List.length_take,List.length_drop,hcells,l2]; simp only [List.length_append] at hcells; omega
    have b4:i * 1 + 1<=c * 1:=by omega
    simp only [↓vS,vT,shb,shv,qb,qc,cellsOf,wr,qa,Nat.reduceEqDiff,↓reduceIte,Nat.reduceAdd,Nat.reduceMul,Nat.reduceSub,Nat.reduceLeDiff,Nat.reduceLT,Int.reduceLE,Int.reduceLT,Int.reduceEq,Int.reduceToNat,ha,t2,p2,i1,c2,c0,hci2,hi,hcap,i2,m1,m2,hcells,b1,l1,b2,e2,l2,b3,o2,← hL1,l3,b4,hE,htE,hoE]
    have k1:L1.take (i * 1) = R.take (i * 1):=by
     rw [hL1,List.take_append_of_le_length (by simp only [List.length_take,hcells]; omega),List.take_take,Nat.min_eq_left (by omega),List.take_append_of_le_length (by omega)]
    have k2:L1.drop (i * 1 + 1) = R.drop (i * 1)++(R++U).drop ((i + 1) * 1 + (n - i) * 1):=by
     rw [hL1,List.drop_left' (by simp only [List.length_take,hcells]; omega)]
    refine QP.closedI (a:=false) (cs:=L1.take (i * 1)++(E++L1.drop (i * 1 + 1))) (by simp [Tr.get_set]) (by simp [Tr.get_set]) (by simp) ?_ hcap ?_ ?_ hcE
    ·simp only [List.length_append,List.length_take,List.length_drop,l3,hE]; omega
    ·rw [k1,k2,← List.append_assoc,← List.append_assoc,List.take_left' (by simp only [List.length_append,List.length_take,hE,l2]; omega),List.append_assoc]
    ·have h:=hcR
     rw [← List.take_append_drop (i * 1) R,qF,Bool.and_eq_true] at h
     simp only [qF,h.1,h.2,hcE,Bool.and_self]
   ·have hcap':(c:Int) < (n:Int) + 1:=by omega
    have s1:IntKind.wrap .i64 ((n:Int) + 1 - i) = (n:Int) + 1 - i:=qG (by omega) (by omega)
    have s2:((n:Int) + 1 - i).toNat = n + 1 - i:=by omega
    have s3:(0:Int)<=(n:Int) + 1 - i:=by omega
    have s4:i + (n + 1 - i) = n + 1:=by omega
    have s5:c < n + 1:=by omega
    have s6:i * 1<=c * 1:=by omega
    have e1:(R++U).take (i * 1) = R.take (i * 1):=by rw [List.take_append_of_le_length (by omega)]
    have n1:¬ n + 1 = 0:=by omega
    have i2:i<=n + 1:=by omega
    have hic:i<=c:=by omega
    have m2:min 1 (n + 1 - i) = 1:=by omega
    have m1:min (n - i) (n + 1 - (i + 1)) = n - i:=by omega
    have zl:((List.replicate (n + 1 - i) ([.i .u32 0]:List AV)).flatten).length = (n + 1 - i) * 1:=by simp [List.length_flatten]
    obtain ⟨L1,hL1⟩:∃ L1,L1 = R.take (i * 1)++(List.replicate (n + 1 - i) ([.i .u32 0]:List AV)).flatten:=⟨_,rfl⟩
    have l1:L1.length = (n + 1) * 1:=by rw [hL1]; simp only [List.length_append,List.length_take,zl]; omega
    have b4:i * 1 + 1<=(n + 1) * 1:=by omega
    have e2:((R++U).drop (i * 1)).take ((n - i) * 1) = R.drop (i * 1):=by
     rw [List.drop_append_of_le_length (by omega),List.take_left' (by simp; omega)]
    have b5:i * 1 + (n - i) * 1<=c * 1:=by omega
    have l2:(R.drop (i * 1)).length = (n - i) * 1:=by simp; omega
    have e3:(R.drop (i * 1)).take ((n - i) * 1) = R.drop (i * 1):=List.take_of_length_le (Nat.le_of_eq l2)
    have b6:(i + 1) * 1 + (n - i) * 1<=(n + 1) * 1:=by omega
    have o2:qI (R.drop (i * 1)) = true:=by
     have h:=hoR
     rw [← List.take_append_drop (i * 1) R,js,Bool.and_eq_true] at h
     exact h.2
    obtain ⟨L2,hL2⟩:∃ L2,L2 = L1.take (i * 1)++(E++L1.drop (i * 1 + 1)):=⟨_,rfl⟩
    have l4:L2.length = (n + 1) * 1:=by rw [hL2]; simp only [List.length_append,List.length_take,List.length_drop,l1,hE]; omega
    simp only [↓vS,vT,shb,shv,qb,qc,cellsOf,wr,qa,Nat.reduceEqDiff,↓reduceIte,Nat.reduceAdd,Nat.reduceMul,Nat.reduceSub,Nat.reduceLeDiff,Nat.reduceLT,Int.reduceLE,Int.reduceLT,Int.reduceEq,Int.reduceToNat,hw1,hcap',hcells,c0,hci,hci2,hic,s1,s2,s3,s4,s5,hr,hr2,s6,e1,n1,i2,m2,hE,htE,hoE,← hL1,l1,b4,← hL2]
    refine zS ?_
    simp only [↓vS,vT,shb,shv,qb,qc,cellsOf,wr,qa,Nat.reduceEqDiff,↓reduceIte,Nat.reduceAdd,Nat.reduceMul,Nat.reduceSub,Nat.reduceLeDiff,Nat.reduceLT,Int.reduceLE,Int.reduceLT,Int.reduceEq,Int.reduceToNat,ha,t2,p2,i1,c0,hci2,hi,hcl,i2,m1,n1,hcells,e2,b5,l2,e3,b6,l4,o2]
    have k1:L1.take (i * 1) = R.take (i * 1):=by
     rw [hL1,List.take_left' (by simp; omega)]
    have k3:L2.take ((i + 1) * 1)++(R.drop (i * 1)++L2.drop ((i + 1) * 1 + (n - i) * 1)) = R.take (i * 1)++(E++R.drop (i * 1)):=by
     rw [show L2.drop ((i + 1) * 1 + (n - i) * 1) = [] from List.drop_of_length_le (by rw [l4]; omega),List.append_nil,hL2,k1,← List.append_assoc,List.take_left' (by simp only [List.length_append,List.length_take,hE]; omega),List.append_assoc]
    have hcl2:qw (R.take (i * 1)++(E++R.drop (i * 1))) = true:=by
     have h:=hcR
     rw [← List.take_append_drop (i * 1) R,qF,Bool.and_eq_true] at h
     simp only [qF,h.1,h.2,hcE,Bool.and_self]
    simp only [k3]
    generalize R.take (i * 1)++(E++R.drop (i * 1)) = RR at hcl2 ⊢
    refine y5.w (fun _=>⟨[0,1,2],?_⟩) (by simp)
    simp [vw,qd,hcE,hcl2]
    decide
def zA (f_slices_overlaps_api_Call f_slices_rotateRight_api_Call:Nat):IFn:=⟨[.tmp 6],.seq (.r [.m 6 (.c (.nils))]) (.seq (.r [.m 10 (.t 0),.m 11 (.t 1),.q 12 (.slcS 2 (.t 10) (some (.t 11)) none none)]) (.seq (.r [.m 13 (.t 2),.q 14 (.len false (.t 13)),.m 7 (.t 14)]) (.seq (.seq (.r [.m 15 (.t 7),.q 16 (.bin .eql (.t 15) (.k 0))]) (.cond (.t 16) (.seq (.r [.m 17 (.t 0),.m 6 (.t 17)]) (.ret)) (.skip))) (.seq (.r [.m 18 (.t 0),.q 19 (.len false (.t 18)),.m 8 (.t 19)]) (.seq (.seq (.r [.m 20 (.t 1),.m 21 (.t 8),.q 22 (.bin .eql (.t 20) (.t 21))]) (.cond (.t 22) (.seq (.r [.m 23 (.t 0),.m 24 (.t 2),.q 25 (.app 2 24 true (.t 23) (.t 24)),.m 6 (.t 25)]) (.ret)) (.skip))) (.seq (.seq (.r [.m 26 (.t 8),.m 27 (.t 7),.q 28 (.bin .add (.t 26) (.t 27)),.m 29 (.t 0),.q 30 (.cap (.t 29)),.q 31 (.bin .gtr (.t 28) (.t 30))]) (.cond (.t 31) (.seq (.r [.m 32 (.t 0),.m 33 (.t 1),.q 34 (.slcS 2 (.t 32) none (some (.t 33)) none),.m 35 (.t 8),.m 36 (.t 7),.q 37 (.bin .add (.t 35) (.t 36)),.m 38 (.t 1),.q 39 (.bin .sub (.t 37) (.t 38)),.q 40 (.appZ 2 24 [.s [],.i .u32 0] (.t 34) (.t 39)),.m 9 (.t 40)]) (.seq (.r [.m 41 (.t 9),.m 42 (.t 1),.q 43 (.slcS 2 (.t 41) (some (.t 42)) none none),.m 44 (.t 2),.q 45 (.copy 2 (.t 43) (.t 44))]) (.seq (.reg true [.m 46 (.t 9),.m 47 (.t 1),.m 48 (.t 7),.q 49 (.bin .add (.t 47) (.t 48)),.q 50 (.slcS 2 (.t 46) (some (.t 49)) none none),.m 51 (.t 0),.m 52 (.t 1),.q 53 (.slcS 2 (.t 51) (some (.t 52)) none none),.q 54 (.copy 2 (.t 50) (.t 53))]) (.seq (.r [.m 55 (.t 9),.m 6 (.t 55)]) (.ret))))) (.skip))) (.seq (.r [.m 56 (.t 0),.m 57 (.t 8),.m 58 (.t 7),.q 59 (.bin .add (.t 57) (.t 58)),.q 60 (.slcS 2 (.t 56) none (some (.t 59)) none),.m 0 (.t 60)]) (.seq (.seq (.r [.m 61 (.t 2),.m 62 (.t 0),.m 63 (.t 1),.m 64 (.t 7),.q 65 (.bin .add (.t 63) (.t 64)),.q 66 (.slcS 2 (.t 62) (some (.t 65)) none none),.l 67 f_slices_overlaps_api_Call [.t 61,.t 66],.q 68 (.un .not (.t 67))]) (.cond (.t 68) (.seq (.reg true [.m 69 (.t 0),.m 70 (.t 1),.m 71 (.t 7),.q 72 (.bin .add (.t 70) (.t 71)),.q 73 (.slcS 2 (.t 69) (some (.t 72)) none none),.m 74 (.t 0),.m 75 (.t 1),.q 76 (.slcS 2 (.t 74) (some (.t 75)) none none),.q 77 (.copy 2 (.t 73) (.t 76))]) (.seq (.r [.m 78 (.t 0),.m 79 (.t 1),.q 80 (.slcS 2 (.t 78) (some (.t 79)) none none),.m 81 (.t 2),.q 82 (.copy 2 (.t 80) (.t 81))]) (.seq (.r [.m 83 (.t 0),.m 6 (.t 83)]) (.ret)))) (.skip))) (.seq (.r [.m 84 (.t 0),.m 85 (.t 8),.q 86 (.slcS 2 (.t 84) (some (.t 85)) none none),.m 87 (.t 2),.q 88 (.copy 2 (.t 86) (.t 87))]) (.seq (.r [.m 89 (.t 0),.m 90 (.t 1),.q 91 (.slcS 2 (.t 89) (some (.t 90)) none none),.m 92 (.t 7),.l 93 f_slices_rotateRight_api_Call [.t 91,.t 92]]) (.seq (.r [.m 94 (.t 0),.m 6 (.t 94)]) (.ret))))))))))))⟩
theorem qmd {g1 g2:Nat} (hc:qm P f (zA g1 g2) = true) (h1:qkR P g1):Zu 2 24 P f:=by
 intro n i R E hR hE hcR hcE hoR hoE hi hr hr2
 have hl2:=hr; simp only [qi] at hl2
 refine Upd.mkS hc (by simp [qW,bnd]) (by simp) ?_
 refine S.open (a:=true) 0 0 n 2 (cs:=R) (by simp [qh,Tr.get_set]) (by rw [z8]; rfl) hR (Nat.le_refl _) (by simp [Ji]) ?_ ?_
 ·intro h0
  subst h0
  obtain rfl:R = []:=List.eq_nil_of_length_eq_zero (by omega)
  obtain rfl:i = 0:=by omega
  refine qA ?_
  simp only [zA,qh,H0,mkT,mkH,trL,vI,simprocAttr]
  have hr2':1 * 24<=qi:=by simpa using hr2
  have hr':1<=qi:=by simpa using hr
  have ht:E.take 2 = E:=List.take_of_length_le (by omega)
  simp only [↓vS,vT,shb,shv,qb,qc,cellsOf,wr,qa,Nat.reduceEqDiff,↓reduceIte,Nat.reduceAdd,Nat.reduceMul,Nat.reduceSub,Nat.reduceLeDiff,Nat.reduceLT,Int.reduceLE,Int.reduceLT,Int.reduceEq,Int.reduceToNat,hr',hr2',hE,ht]
  refine y5.w (fun _=>⟨[0,1,2],?_⟩) (by simp)
  simp [vw,qd,hcE]
  decide
 ·intro c hcl
  refine qA ?_
  simp only [zA,qh,H0,mkT,mkH,trL,vI,simprocAttr]
  obtain ⟨U,hU⟩:∃ U,U = List.replicate ((c - n) * 2) AV.undef:=⟨_,rfl⟩
  have hUl:U.length = (c - n) * 2:=by rw [hU]; simp
  rw [← hU]
  have hci:(i:Int)<=c:=by omega
  have hw1:IntKind.wrap .i64 ((n:Int) + 1) = (n:Int) + 1:=qG (by omega) (by omega)
  have hcells:(R++U).length = c * 2:=by simp [hR,hUl]; omega
  have htE:E.take 2 = E:=List.take_of_length_le (by omega)
  by_cases hil:i = n
  ·subst hil
   by_cases hcap:i + 1<=c
   ·have g1:i * 2 + 2<=c * 2:=by omega
    have e1:(R++U).take (i * 2) = R:=List.take_left' hR
    simp only [↓vS,vT,shb,shv,qb,qc,cellsOf,wr,qa,Nat.reduceEqDiff,↓reduceIte,Nat.reduceAdd,Nat.reduceMul,Nat.reduceSub,Nat.reduceLeDiff,Nat.reduceLT,Int.reduceLE,Int.reduceLT,Int.reduceEq,Int.reduceToNat,hcl,hw1,hcap,hcells,hE,htE,hoE,g1,e1]
    refine QP.closedI (a:=false) (cs:=R++(E++(R++U).drop (i * 2 + 2))) (by simp [Tr.get_set]) (by simp [Tr.get_set]) (by simp) ?_ hcap ?_ ?_ hcE
    ·simp [hR,hE,hUl]; try omega
    ·rw [← List.append_assoc,List.take_left' (by simp [hR,hE]; try omega),List.take_of_length_le (Nat.le_of_eq hR),List.drop_of_length_le (Nat.le_of_eq hR)]; simp
    ·rw [List.take_of_length_le (Nat.le_of_eq hR),List.drop_of_length_le (Nat.le_of_eq hR)]; simp [qF,hcR,hcE]
   ·have g1:i * 2<=c * 2:=by omega
    have e1:(R++U).take (i * 2) = R:=List.take_left' hR
    simp only [↓vS,vT,shb,shv,qb,qc,cellsOf,wr,qa,Nat.reduceEqDiff,↓reduceIte,Nat.reduceAdd,Nat.reduceMul,Nat.reduceSub,Nat.reduceLeDiff,Nat.reduceLT,Int.reduceLE,Int.reduceLT,Int.reduceEq,Int.reduceToNat,hcl,hw1,hcap,hcells,hr,hr2,hE,htE,g1,e1]
    refine y5.w (fun _=>⟨[0,1,2],?_⟩) (by simp)
    rw [List.take_of_length_le (Nat.le_of_eq hR),List.drop_of_length_le (Nat.le_of_eq hR),List.append_nil]
    have:qw (R++E) = true:=by simp [qF,hcR,hcE]
    simp [vw,qd,hcE,this]
    decide
  ·have hilt:i < n:=by omega
   have hi':¬ (i:Int) = n:=by omega
   have hci2:¬ c = i:=by omega
   simp only [↓vS,vT,shb,shv,qb,qc,cellsOf,wr,qa,Nat.reduceEqDiff,↓reduceIte,Nat.reduceAdd,Nat.reduceMul,Nat.reduceSub,Nat.reduceLeDiff,Nat.reduceLT,Int.reduceLE,Int.reduceLT,Int.reduceEq,Int.reduceToNat,hci,hcl,hi,hw1,hi',hci2]
   have ha:IntKind.wrap .i64 ((i:Int) + 1) = (i:Int) + 1:=qG (by omega) (by omega)
   have t1:((n:Int) + 1).toNat = n + 1:=by omega
   have t2:((i:Int) + 1).toNat = i + 1:=by omega
   have p1:(0:Int)<=(n:Int) + 1:=by omega
   have p2:(0:Int)<=(i:Int) + 1:=by omega
   have c0:¬ c = 0:=by omega
   have i1:i + 1<=n + 1:=by omega
   have c1:¬ c = i + 1∨c = i + 1:=by omega
   by_cases hcap:n + 1<=c
   ·have hcap':¬ (c:Int) < (n:Int) + 1:=by omega
    have c2:¬ c = i + 1:=by omega
    simp only [↓vS,vT,shb,shv,qb,qc,cellsOf,wr,qa,Nat.reduceEqDiff,↓reduceIte,Nat.reduceAdd,Nat.reduceMul,Nat.reduceSub,Nat.reduceLeDiff,Nat.reduceLT,Int.reduceLE,Int.reduceLT,Int.reduceEq,Int.reduceToNat,hcap,hcap',hcells,t1,p1,c0,ha,t2,p2,i1,c2]
    refine Zk h1 (a1:=false) (a2:=false) (cs1:=E) (cs2:=R++U) (e2:=2) (by simp [Tr.get_set]) (by simp [Tr.get_set]) (by decide) (by omega) (by omega) (Nat.zero_le _) (by intro hh; rw [hh] at hcells; simp at hcells; omega) ?_
    simp only [↓vS,vT,shb,shv,qb,qc,cellsOf,wr,qa,Nat.reduceEqDiff,↓reduceIte,Nat.reduceAdd,Nat.reduceMul,Nat.reduceSub,Nat.reduceLeDiff,Nat.reduceLT,Int.reduceLE,Int.reduceLT,Int.reduceEq,Int.reduceToNat]
    refine zS ?_
    have i2:i<=n + 1:=by omega
    have m1:min (n + 1 - i) (n + 1 - (i + 1)) = n - i:=by omega
    have m2:min 1 (n + 1 - i) = 1:=by omega
    have b1:i * 2 + (n + 1 - i) * 2<=c * 2:=by omega
    have b2:(n - i) * 2<=(n + 1 - i) * 2:=by omega
    have b3:(i + 1) * 2 + (n - i) * 2<=c * 2:=by omega
    have l1:(((R++U).drop (i * 2)).take ((n + 1 - i) * 2)).length = (n + 1 - i) * 2:=by simp only [List.length_take,List.length_drop,hcells]; omega
    have e2:((((R++U).drop (i * 2)).take ((n + 1 - i) * 2)).take ((n - i) * 2)) = R.drop (i * 2):=by
     rw [List.take_take,Nat.min_eq_left b2,List.drop_append_of_le_length (by omega),List.take_left' (by simp; omega)]
    have l2:(R.drop (i * 2)).length = (n - i) * 2:=by simp; omega
    have o2:qI (R.drop (i * 2)) = true:=by
     have h:=hoR
     rw [← List.take_append_drop (i * 2) R,js,Bool.and_eq_true] at h
     exact h.2
    obtain ⟨L1,hL1⟩:∃ L1,L1 = (R++U).take ((i + 1) * 2)++(R.drop (i * 2)++(R++U).drop ((i + 1) * 2 + (n - i) * 2)):=⟨_,rfl⟩
    have l3:L1.length = c * 2:=by rw [hL1]; simp only [List.length_append,List.length_take,List.length_drop,hcells,l2]; simp only [List.length_append] at hcells; omega
    have b4:i * 2 + 2<=c * 2:=by omega
    simp only [↓vS,vT,shb,shv,qb,qc,cellsOf,wr,qa,Nat.reduceEqDiff,↓reduceIte,Nat.reduceAdd,Nat.reduceMul,Nat.reduceSub,Nat.reduceLeDiff,Nat.reduceLT,Int.reduceLE,Int.reduceLT,Int.reduceEq,Int.reduceToNat,ha,t2,p2,i1,c2,c0,hci2,hi,hcap,i2,m1,m2,hcells,b1,l1,b2,e2,l2,b3,o2,← hL1,l3,b4,hE,htE,hoE]
    have k1:L1.take (i * 2) = R.take (i * 2):=by
     rw [hL1,List.take_append_of_le_length (by simp only [List.length_take,hcells]; omega),List.take_take,Nat.min_eq_left (by omega),List.take_append_of_le_length (by omega)]
    have k2:L1.drop (i * 2 + 2) = R.drop (i * 2)++(R++U).drop ((i + 1) * 2 + (n - i) * 2):=by
     rw [hL1,List.drop_left' (by simp only [List.length_take,hcells]; omega)]
    refine QP.closedI (a:=false) (cs:=L1.take (i * 2)++(E++L1.drop (i * 2 + 2))) (by simp [Tr.get_set]) (by simp [Tr.get_set]) (by simp) ?_ hcap ?_ ?_ hcE
    ·simp only [List.length_append,List.length_take,List.length_drop,l3,hE]; omega
    ·rw [k1,k2,← List.append_assoc,← List.append_assoc,List.take_left' (by simp only [List.length_append,List.length_take,hE,l2]; omega),List.append_assoc]
    ·have h:=hcR
     rw [← List.take_append_drop (i * 2) R,qF,Bool.and_eq_true] at h
     simp only [qF,h.1,h.2,hcE,Bool.and_self]
   ·have hcap':(c:Int) < (n:Int) + 1:=by omega
    have s1:IntKind.wrap .i64 ((n:Int) + 1 - i) = (n:Int) + 1 - i:=qG (by omega) (by omega)
    have s2:((n:Int) + 1 - i).toNat = n + 1 - i:=by omega
    have s3:(0:Int)<=(n:Int) + 1 - i:=by omega
    have s4:i + (n + 1 - i) = n + 1:=by omega
    have s5:c < n + 1:=by omega
    have s6:i * 2<=c * 2:=by omega
    have e1:(R++U).take (i * 2) = R.take (i * 2):=by rw [List.take_append_of_le_length (by omega)]
    have n1:¬ n + 1 = 0:=by omega
    have i2:i<=n + 1:=by omega
    have hic:i<=c:=by omega
    have m2:min 1 (n + 1 - i) = 1:=by omega
    have m1:min (n - i) (n + 1 - (i + 1)) = n - i:=by omega
    have zl:((List.replicate (n + 1 - i) ([.s [],.i .u32 0]:List AV)).flatten).length = (n + 1 - i) * 2:=by simp [List.length_flatten]
    obtain ⟨L1,hL1⟩:∃ L1,L1 = R.take (i * 2)++(List.replicate (n + 1 - i) ([.s [],.i .u32 0]:List AV)).flatten:=⟨_,rfl⟩
    have l1:L1.length = (n + 1) * 2:=by rw [hL1]; simp only [List.length_append,List.length_take,zl]; omega
    have b4:i * 2 + 2<=(n + 1) * 2:=by omega
    have e2:((R++U).drop (i * 2)).take ((n - i) * 2) = R.drop (i * 2):=by
     rw [List.drop_append_of_le_length (by omega),List.take_left' (by simp; omega)]
    have b5:i * 2 + (n - i) * 2<=c * 2:=by omega
    have l2:(R.drop (i * 2)).length = (n - i) * 2:=by simp; omega
    have e3:(R.drop (i * 2)).take ((n - i) * 2) = R.drop (i * 2):=List.take_of_length_le (Nat.le_of_eq l2)
    have b6:(i + 1) * 2 + (n - i) * 2<=(n + 1) * 2:=by omega
    have o2:qI (R.drop (i * 2)) = true:=by
     have h:=hoR
     rw [← List.take_append_drop (i * 2) R,js,Bool.and_eq_true] at h
     exact h.2
    obtain ⟨L2,hL2⟩:∃ L2,L2 = L1.take (i * 2)++(E++L1.drop (i * 2 + 2)):=⟨_,rfl⟩
    have l4:L2.length = (n + 1) * 2:=by rw [hL2]; simp only [List.length_append,List.length_take,List.length_drop,l1,hE]; omega
    simp only [↓vS,vT,shb,shv,qb,qc,cellsOf,wr,qa,Nat.reduceEqDiff,↓reduceIte,Nat.reduceAdd,Nat.reduceMul,Nat.reduceSub,Nat.reduceLeDiff,Nat.reduceLT,Int.reduceLE,Int.reduceLT,Int.reduceEq,Int.reduceToNat,hw1,hcap',hcells,c0,hci,hci2,hic,s1,s2,s3,s4,s5,hr,hr2,s6,e1,n1,i2,m2,hE,htE,hoE,← hL1,l1,b4,← hL2]
    refine zS ?_
    simp only [↓vS,vT,shb,shv,qb,qc,cellsOf,wr,qa,Nat.reduceEqDiff,↓reduceIte,Nat.reduceAdd,Nat.reduceMul,Nat.reduceSub,Nat.reduceLeDiff,Nat.reduceLT,Int.reduceLE,Int.reduceLT,Int.reduceEq,Int.reduceToNat,ha,t2,p2,i1,c0,hci2,hi,hcl,i2,m1,n1,hcells,e2,b5,l2,e3,b6,l4,o2]
    have k1:L1.take (i * 2) = R.take (i * 2):=by
     rw [hL1,List.take_left' (by simp; omega)]
    have k3:L2.take ((i + 1) * 2)++(R.drop (i * 2)++L2.drop ((i + 1) * 2 + (n - i) * 2)) = R.take (i * 2)++(E++R.drop (i * 2)):=by
     rw [show L2.drop ((i + 1) * 2 + (n - i) * 2) = [] from List.drop_of_length_le (by rw [l4]; omega),List.append_nil,hL2,k1,← List.append_assoc,List.take_left' (by simp only [List.length_append,List.length_take,hE]; omega),List.append_assoc]
    have hcl2:qw (R.take (i * 2)++(E++R.drop (i * 2))) = true:=by
     have h:=hcR
     rw [← List.take_append_drop (i * 2) R,qF,Bool.and_eq_true] at h
     simp only [qF,h.1,h.2,hcE,Bool.and_self]
    simp only [k3]
    generalize R.take (i * 2)++(E++R.drop (i * 2)) = RR at hcl2 ⊢
    refine y5.w (fun _=>⟨[0,1,2],?_⟩) (by simp)
    simp [vw,qd,hcE,hcl2]
    decide
end Go.Kc
end
section
/- What binary searches answer; a list with a number more or less. Condition: the functions' texts are these. -/
namespace Go.Kc
variable {P:Program} {f:Nat}
theorem qd6 {a b:Nat} (ha:a<=b) (hb:b<=70368744177664):IntKind.wrap .i64 (qoQ .u64 (IntKind.wrap .u64 (IntKind.wrap .i64 ((a:Int) + b))) 1) = ((a + b) / 2:Nat):=by
 rw [qG (x:=(a:Int) + b) (by omega) (by omega),qcF (by omega) (by omega)]
 have:qoQ .u64 ((a:Int) + b) 1 = ((a + b) / 2:Nat):=by
  show Int.fdiv ((a:Int) + b) (2 ^ min (1:Int).toNat 64) = _
  rw [show min (1:Int).toNat 64 = 1 from rfl,Int.pow_one,Int.fdiv_eq_ediv_of_nonneg _ (by decide)]
  omega
 rw [this,qG (by omega) (by omega)]
def bsN (p:Nat->Bool) (i j:Nat):Nat :=
 if h:i < j then (if p ((i + j) / 2) = true then bsN p ((i + j) / 2 + 1) j else bsN p i ((i + j) / 2)) else i
termination_by j - i
theorem qha (p:Nat->Bool):∀ (m i j:Nat),j - i = m->i<=j->i<=bsN p i j∧bsN p i j<=j:=by
 intro m
 induction m using Nat.strongRecOn with
 | ind m ih =>
  intro i j hm hij
  rw [bsN]
  split
  ·split
   ·have:=ih (j - ((i + j) / 2 + 1)) (by omega) ((i + j) / 2 + 1) j rfl (by omega); omega
   ·have:=ih ((i + j) / 2 - i) (by omega) i ((i + j) / 2) rfl (by omega); omega
  ·omega
theorem qcN (p:Nat->Bool) (hp:∀ a b,a<=b->p b = true->p a = true):∀ (m i j:Nat),j - i = m->i<=j->(∀ a,a < i->p a = true)->(∀ a,j<=a->p a = false)->(∀ a,a < bsN p i j->p a = true)∧(∀ a,bsN p i j<=a->p a = false):=by
 intro m
 induction m using Nat.strongRecOn with
 | ind m ih =>
  intro i j hm hij h1 h2
  rw [bsN]
  split
  ·split
   ·rename_i hh
    exact ih (j - ((i + j) / 2 + 1)) (by omega) _ _ rfl (by omega) (fun a ha=>hp a _ (by omega) hh) h2
   ·rename_i hh
    refine ih ((i + j) / 2 - i) (by omega) _ _ rfl (by omega) h1 (fun a ha=>?_)
    cases hpa:p a with
    | false=>rfl
    | true=>exact absurd (hp _ a ha hpa) hh
  ·exact ⟨h1,fun a ha=>h2 a (by omega)⟩
def bsI (l:List Int) (x:Int):Nat:=bsN (fun k=>decide (l.getD k 0 < x)) 0 l.length
theorem qg8 (l:List Int) (x:Int):bsI l x<=l.length:=(qha _ _ 0 l.length rfl (Nat.zero_le _)).2
def yQ:IFn:=⟨[.tmp 2],.seq (.r [.m 2 (.c (.b false))]) (.seq (.r [.m 3 (.t 0),.m 4 (.t 0),.q 5 (.bin .neq (.t 3) (.t 4)),.m 2 (.t 5)]) (.ret))⟩
theorem qnb (hc:qm P f yQ = true) (x:Int):qg P f [.i .i64 x] (.b false):=by
 refine qg.mk hc (by simp [qw,clo]) ?_
 simp only [yQ,qh,H0,mkT,mkH,trL,vI,simprocAttr]
 simp only [↓vS,vT,shb,shv,qb,qc,cellsOf,wr,qa,simprocAttr,vZ]
def kp:IFn:=⟨[.tmp 2],.seq (.r [.m 2 (.c (.b false))]) (.seq (.r [.m 3 (.t 0),.m 4 (.t 0),.q 5 (.bin .neq (.t 3) (.t 4)),.m 2 (.t 5)]) (.ret))⟩
theorem qoR (hc:qm P f kp = true) (x:Int):qg P f [.i .i64 x] (.b false):=by
 refine qg.mk hc (by simp [qw,clo]) ?_
 simp only [kp,qh,H0,mkT,mkH,trL,vI,simprocAttr]
 simp only [↓vS,vT,shb,shv,qb,qc,cellsOf,wr,qa,simprocAttr,vZ]
def Qw (f_cmp_isNaN_int:Nat):IFn:=⟨[.tmp 4],.seq (.r [.m 4 (.c (.b false))]) (.seq (.r [.m 5 (.t 0),.l 6 f_cmp_isNaN_int [.t 5],.m 7 (.t 6),.g 8 (.mov (.t 1)) 7 true,⟨(some 9),.callF f_cmp_isNaN_int [.t 8],(some (7,true))⟩,.g 10 (.un .not (.t 9)) 7 true,.q 11 (.pick (.t 7) (.t 10) (.c (.b false))),.m 12 (.t 11),.g 13 (.mov (.t 0)) 12 false,.g 14 (.mov (.t 1)) 12 false,.g 15 (.bin .lss (.t 13) (.t 14)) 12 false,.q 16 (.pick (.t 12) (.c (.b true)) (.t 15)),.m 4 (.t 16)]) (.ret))⟩
theorem qqY {g:Nat} (hc:qm P f (Qw g) = true) (hg:∀ x,qg P g [.i .i64 x] (.b false)) (x y:Int):qg P f [.i .i64 x,.i .i64 y] (.b (decide (x < y))):=by
 refine qg.mk hc (by simp [qw,clo]) ?_
 simp only [Qw,qh,H0,mkT,mkH,trL,vI,simprocAttr]
 simp only [↓vS,vT,shb,shv,qb,qc,cellsOf,wr,qa,simprocAttr]
 refine (hg x).sc ?_
 simp only [↓vS,vT,shb,shv,qb,qc,cellsOf,wr,qa,simprocAttr,vZ]
def jg (f_cmp_Less_int f_slices_isNaN_int:Nat):IFn:=⟨[.tmp 4,.tmp 5],.seq (.r [.m 4 (.k 0),.m 5 (.c (.b false))]) (.seq (.r [.m 10 (.t 0),.q 11 (.len false (.t 10)),.m 6 (.t 11)]) (.seq (.r [.m 12 (.t 6),.m 7 (.k 0),.m 8 (.t 12)]) (.seq (.blk 0 (.loop (.seq (.seq (.r [.m 13 (.t 7),.m 14 (.t 8),.q 15 (.bin .lss (.t 13) (.t 14))]) (.cond (.t 15) (.skip) (.exit 0))) (.blk 1 (.seq (.r [.m 16 (.t 7),.m 17 (.t 8),.q 18 (.bin .add (.t 16) (.t 17)),.q 19 (.cvInt .u64 (.t 18)),.q 20 (.bin .shr (.t 19) (.c (.i .u64 1))),.q 21 (.cvInt .i64 (.t 20)),.m 9 (.t 21)]) (.seq (.r [.m 22 (.t 0),.m 23 (.t 9),.q 24 (.iAddrS 1 (.t 22) (.t 23)),.q 25 (.load1 (.t 24)),.m 26 (.t 1),.l 27 f_cmp_Less_int [.t 25,.t 26]]) (.cond (.t 27) (.r [.m 28 (.t 9),.q 29 (.bin .add (.t 28) (.k 1)),.m 7 (.t 29)]) (.r [.m 30 (.t 9),.m 8 (.t 30)])))))))) (.seq (.r [.m 31 (.t 7),.m 32 (.t 7),.m 33 (.t 6),.q 34 (.bin .lss (.t 32) (.t 33)),.m 35 (.t 34),.g 36 (.mov (.t 0)) 35 true,.g 37 (.mov (.t 7)) 35 true,.g 38 (.iAddrS 1 (.t 36) (.t 37)) 35 true,.g 39 (.load1 (.t 38)) 35 true,.g 40 (.mov (.t 1)) 35 true,.g 41 (.bin .eql (.t 39) (.t 40)) 35 true,.g 42 (.mov (.t 41)) 35 true,.g 43 (.mov (.t 0)) 42 false,.g 44 (.mov (.t 7)) 42 false,.g 45 (.iAddrS 1 (.t 43) (.t 44)) 42 false,.g 46 (.load1 (.t 45)) 42 false,⟨(some 47),.callF f_slices_isNaN_int [.t 46],(some (42,false))⟩,.g 48 (.mov (.t 47)) 42 false,.g 49 (.mov (.t 1)) 48 true,⟨(some 50),.callF f_slices_isNaN_int [.t 49],(some (48,true))⟩,.g 51 (.pick (.t 48) (.t 50) (.c (.b false))) 42 false,.g 52 (.pick (.t 42) (.c (.b true)) (.t 51)) 35 true,.q 53 (.pick (.t 35) (.t 52) (.c (.b false))),.m 4 (.t 31),.m 5 (.t 53)]) (.ret)))))⟩
def qeA (P:Program) (f:Nat):Prop:=∀ (l:List Int) (x:Int),l.length<=qi->qg P f [.fz l.length (rI .i64 l),.i .i64 x] (.tup [.i .i64 (bsI l x:Int),.b (decide (l[bsI l x]? = some x))])
theorem qrX {g1 g2:Nat} (hc:qm P f (jg g1 g2) = true) (h1:∀ x y,qg P g1 [.i .i64 x,.i .i64 y] (.b (decide (x < y)))) (h2:∀ x,qg P g2 [.i .i64 x] (.b false)):qeA P f:=by
 intro l x hl
 have hl2:=hl; simp only [qi] at hl2
 refine qg.mk hc (by simp [qw,clo]) ?_
 simp only [jg,qh,H0,mkT,mkH,trL,vI,simprocAttr]
 simp only [↓vS,vT,shb,shv,qb,qc,cellsOf,wr,qa,simprocAttr]
 refine SL.loop (α:=Nat × Nat) (fun s=>[(0,.fz l.length (rI .i64 l)),(1,.i .i64 x),(6,.i .i64 l.length),(7,.i .i64 s.1),(8,.i .i64 s.2)]) (fun _=>[]) (fun s=>s.1<=s.2∧s.2<=l.length∧bsI l x = bsN (fun k=>decide (l.getD k 0 < x)) s.1 s.2) (fun s=>s.2 - s.1) (0,l.length) [] ?_ ?_ ?_ rfl ?_ ?_
 ·simp [vw]
 ·trivial
 ·simp
 ·exact ⟨Nat.zero_le _,Nat.le_refl _,rfl⟩
 rintro ⟨i,j⟩ ⟨hij,hj,hI⟩ G ih
 dsimp only at hij hj hI ih ⊢
 simp only [qh,H0,mkT,mkH,trL,vI,simprocAttr]
 by_cases hlt:i < j
 ·have hh:=qd6 hij (by omega)
  have hm:(i + j) / 2 < l.length:=by omega
  have hx:l[(i + j) / 2]? = some l[(i + j) / 2]:=List.getElem?_eq_getElem hm
  have hd:l.getD ((i + j) / 2) 0 = l[(i + j) / 2]:=by rw [List.getD_eq_getElem?_getD,hx]; rfl
  rw [bsN,dif_pos hlt,hd] at hI
  simp only [↓vS,vT,shb,shv,qb,qc,cellsOf,wr,qa,simprocAttr,hlt,hh,hm,Nat.mul_one,jw,hx,Option.map_some]
  refine (h1 _ _).sc ?_
  by_cases hc2:l[(i + j) / 2] < x
  ·have hw:IntKind.wrap .i64 ((((i + j) / 2:Nat):Int) + 1) = (((i + j) / 2 + 1:Nat):Int):=by rw [qG (by omega) (by omega)]; omega
   simp only [hc2,decide_true,if_true] at hI
   simp only [↓vS,vT,shb,shv,qb,qc,cellsOf,wr,qa,simprocAttr,hc2,hw]
   refine ih ((i + j) / 2 + 1,j) ⟨by dsimp only; omega,hj,hI⟩ (by dsimp only; omega) _ _ (Wk.mk _ _ [] ?_ ?_ ?_ rfl)
   ·simp [vw]
   ·trivial
   ·simp
  ·simp only [hc2,decide_false,Bool.false_eq_true,if_false] at hI
   simp only [↓vS,vT,shb,shv,qb,qc,cellsOf,wr,qa,simprocAttr,hc2]
   refine ih (i,(i + j) / 2) ⟨by dsimp only; omega,by dsimp only; omega,hI⟩ (by dsimp only; omega) _ _ (Wk.mk _ _ [] ?_ ?_ ?_ rfl)
   ·simp [vw]
   ·trivial
   ·simp
 ·have e:bsI l x = i:=by rw [hI,bsN,dif_neg hlt]
  by_cases hil:i < l.length
  ·have hx:l[i]? = some l[i]:=List.getElem?_eq_getElem hil
   by_cases he:l[i] = x
   ·simp only [↓vS,vT,shb,shv,qb,qc,cellsOf,wr,qa,simprocAttr,hlt,hil,Nat.mul_one,jw,hx,Option.map_some,he,vZ,e]
   ·simp only [↓vS,vT,shb,shv,qb,qc,cellsOf,wr,qa,simprocAttr,hlt,hil,Nat.mul_one,jw,hx,Option.map_some,he]
    refine (h2 _).sc ?_
    simp only [↓vS,vT,shb,shv,qb,qc,cellsOf,wr,qa,simprocAttr,vZ,e,hx,Option.some.injEq,he]
  ·have hx:l[i]? = none:=List.getElem?_eq_none (by omega)
   simp only [↓vS,vT,shb,shv,qb,qc,cellsOf,wr,qa,simprocAttr,hlt,hil,vZ,e,hx,reduceCtorEq]
def w6:IFn:=⟨[.tmp 3],.seq (.r [.m 3 (.c (.b false))]) (.seq (.r [.m 4 (.t 0),.q 5 (.load1 (.t 1)),.q 6 (.bin .eql (.t 4) (.t 5)),.m 3 (.t 6)]) (.ret))⟩
theorem qpe (hc:qm P f w6 = true) (x y:Int):qg P f [.i .i64 x,.pf [.i .i64 y] 0] (.b (decide (x = y))):=by
 refine qg.mk hc (by simp [qw,clo]) ?_
 simp only [w6,qh,H0,mkT,mkH,trL,vI,simprocAttr]
 simp only [↓vS,vT,shb,shv,qb,qc,cellsOf,wr,qa,simprocAttr,vZ]
def km:IFn:=⟨[.tmp 2],.seq (.r [.m 2 (.c (.b false))]) (.seq (.r [.m 3 (.t 0),.m 4 (.t 0),.q 5 (.bin .neq (.t 3) (.t 4)),.m 2 (.t 5)]) (.ret))⟩
theorem qnc (hc:qm P f km = true) (x:Int):qg P f [.i .u32 x] (.b false):=by
 refine qg.mk hc (by simp [qw,clo]) ?_
 simp only [km,qh,H0,mkT,mkH,trL,vI,simprocAttr]
 simp only [↓vS,vT,shb,shv,qb,qc,cellsOf,wr,qa,simprocAttr,vZ]
def w7:IFn:=⟨[.tmp 2],.seq (.r [.m 2 (.c (.b false))]) (.seq (.r [.m 3 (.t 0),.m 4 (.t 0),.q 5 (.bin .neq (.t 3) (.t 4)),.m 2 (.t 5)]) (.ret))⟩
theorem qoS (hc:qm P f w7 = true) (x:Int):qg P f [.i .u32 x] (.b false):=by
 refine qg.mk hc (by simp [qw,clo]) ?_
 simp only [w7,qh,H0,mkT,mkH,trL,vI,simprocAttr]
 simp only [↓vS,vT,shb,shv,qb,qc,cellsOf,wr,qa,simprocAttr,vZ]
def kK (f_cmp_isNaN_uint32:Nat):IFn:=⟨[.tmp 4],.seq (.r [.m 4 (.c (.b false))]) (.seq (.r [.m 5 (.t 0),.l 6 f_cmp_isNaN_uint32 [.t 5],.m 7 (.t 6),.g 8 (.mov (.t 1)) 7 true,⟨(some 9),.callF f_cmp_isNaN_uint32 [.t 8],(some (7,true))⟩,.g 10 (.un .not (.t 9)) 7 true,.q 11 (.pick (.t 7) (.t 10) (.c (.b false))),.m 12 (.t 11),.g 13 (.mov (.t 0)) 12 false,.g 14 (.mov (.t 1)) 12 false,.g 15 (.bin .lss (.t 13) (.t 14)) 12 false,.q 16 (.pick (.t 12) (.c (.b true)) (.t 15)),.m 4 (.t 16)]) (.ret))⟩
theorem qqZ {g:Nat} (hc:qm P f (kK g) = true) (hg:∀ x,qg P g [.i .u32 x] (.b false)) (x y:Int):qg P f [.i .u32 x,.i .u32 y] (.b (decide (x < y))):=by
 refine qg.mk hc (by simp [qw,clo]) ?_
 simp only [kK,qh,H0,mkT,mkH,trL,vI,simprocAttr]
 simp only [↓vS,vT,shb,shv,qb,qc,cellsOf,wr,qa,simprocAttr]
 refine (hg x).sc ?_
 simp only [↓vS,vT,shb,shv,qb,qc,cellsOf,wr,qa,simprocAttr,vZ]
def xe (f_cmp_Less_uint32 f_slices_isNaN_uint32:Nat):IFn:=⟨[.tmp 4,.tmp 5],.seq (.r [.m 4 (.k 0),.m 5 (.c (.b false))]) (.seq (.r [.m 10 (.t 0),.q 11 (.len false (.t 10)),.m 6 (.t 11)]) (.seq (.r [.m 12 (.t 6),.m 7 (.k 0),.m 8 (.t 12)]) (.seq (.blk 0 (.loop (.seq (.seq (.r [.m 13 (.t 7),.m 14 (.t 8),.q 15 (.bin .lss (.t 13) (.t 14))]) (.cond (.t 15) (.skip) (.exit 0))) (.blk 1 (.seq (.r [.m 16 (.t 7),.m 17 (.t 8),.q 18 (.bin .add (.t 16) (.t 17)),.q 19 (.cvInt .u64 (.t 18)),.q 20 (.bin .shr (.t 19) (.c (.i .u64 1))),.q 21 (.cvInt .i64 (.t 20)),.m 9 (.t 21)]) (.seq (.r [.m 22 (.t 0),.m 23 (.t 9),.q 24 (.iAddrS 1 (.t 22) (.t 23)),.q 25 (.load1 (.t 24)),.m 26 (.t 1),.l 27 f_cmp_Less_uint32 [.t 25,.t 26]]) (.cond (.t 27) (.r [.m 28 (.t 9),.q 29 (.bin .add (.t 28) (.k 1)),.m 7 (.t 29)]) (.r [.m 30 (.t 9),.m 8 (.t 30)])))))))) (.seq (.r [.m 31 (.t 7),.m 32 (.t 7),.m 33 (.t 6),.q 34 (.bin .lss (.t 32) (.t 33)),.m 35 (.t 34),.g 36 (.mov (.t 0)) 35 true,.g 37 (.mov (.t 7)) 35 true,.g 38 (.iAddrS 1 (.t 36) (.t 37)) 35 true,.g 39 (.load1 (.t 38)) 35 true,.g 40 (.mov (.t 1)) 35 true,.g 41 (.bin .eql (.t 39) (.t 40)) 35 true,.g 42 (.mov (.t 41)) 35 true,.g 43 (.mov (.t 0)) 42 false,.g 44 (.mov (.t 7)) 42 false,.g 45 (.iAddrS 1 (.t 43) (.t 44)) 42 false,.g 46 (.load1 (.t 45)) 42 false,⟨(some 47),.callF f_slices_isNaN_uint32 [.t 46],(some (42,false))⟩,.g 48 (.mov (.t 47)) 42 false,.g 49 (.mov (.t 1)) 48 true,⟨(some 50),.callF f_slices_isNaN_uint32 [.t 49],(some (48,true))⟩,.g 51 (.pick (.t 48) (.t 50) (.c (.b false))) 42 false,.g 52 (.pick (.t 42) (.c (.b true)) (.t 51)) 35 true,.q 53 (.pick (.t 35) (.t 52) (.c (.b false))),.m 4 (.t 31),.m 5 (.t 53)]) (.ret)))))⟩
def qeB (P:Program) (f:Nat):Prop:=∀ (l:List Int) (x:Int),l.length<=qi->qg P f [.fz l.length (rI .u32 l),.i .u32 x] (.tup [.i .i64 (bsI l x:Int),.b (decide (l[bsI l x]? = some x))])
theorem qrY {g1 g2:Nat} (hc:qm P f (xe g1 g2) = true) (h1:∀ x y,qg P g1 [.i .u32 x,.i .u32 y] (.b (decide (x < y)))) (h2:∀ x,qg P g2 [.i .u32 x] (.b false)):qeB P f:=by
 intro l x hl
 have hl2:=hl; simp only [qi] at hl2
 refine qg.mk hc (by simp [qw,clo]) ?_
 simp only [xe,qh,H0,mkT,mkH,trL,vI,simprocAttr]
 simp only [↓vS,vT,shb,shv,qb,qc,cellsOf,wr,qa,simprocAttr]
 refine SL.loop (α:=Nat × Nat) (fun s=>[(0,.fz l.length (rI .u32 l)),(1,.i .u32 x),(6,.i .i64 l.length),(7,.i .i64 s.1),(8,.i .i64 s.2)]) (fun _=>[]) (fun s=>s.1<=s.2∧s.2<=l.length∧bsI l x = bsN (fun k=>decide (l.getD k 0 < x)) s.1 s.2) (fun s=>s.2 - s.1) (0,l.length) [] ?_ ?_ ?_ rfl ?_ ?_
 ·simp [vw]
 ·trivial
 ·simp
 ·exact ⟨Nat.zero_le _,Nat.le_refl _,rfl⟩
 rintro ⟨i,j⟩ ⟨hij,hj,hI⟩ G ih
 dsimp only at hij hj hI ih ⊢
 simp only [qh,H0,mkT,mkH,trL,vI,simprocAttr]
 by_cases hlt:i < j
 ·have hh:=qd6 hij (by omega)
  have hm:(i + j) / 2 < l.length:=by omega
  have hx:l[(i + j) / 2]? = some l[(i + j) / 2]:=List.getElem?_eq_getElem hm
  have hd:l.getD ((i + j) / 2) 0 = l[(i + j) / 2]:=by rw [List.getD_eq_getElem?_getD,hx]; rfl
  rw [bsN,dif_pos hlt,hd] at hI
  simp only [↓vS,vT,shb,shv,qb,qc,cellsOf,wr,qa,simprocAttr,hlt,hh,hm,Nat.mul_one,jw,hx,Option.map_some]
  refine (h1 _ _).sc ?_
  by_cases hc2:l[(i + j) / 2] < x
  ·have hw:IntKind.wrap .i64 ((((i + j) / 2:Nat):Int) + 1) = (((i + j) / 2 + 1:Nat):Int):=by rw [qG (by omega) (by omega)]; omega
   simp only [hc2,decide_true,if_true] at hI
   simp only [↓vS,vT,shb,shv,qb,qc,cellsOf,wr,qa,simprocAttr,hc2,hw]
   refine ih ((i + j) / 2 + 1,j) ⟨by dsimp only; omega,hj,hI⟩ (by dsimp only; omega) _ _ (Wk.mk _ _ [] ?_ ?_ ?_ rfl)
   ·simp [vw]
   ·trivial
   ·simp
  ·simp only [hc2,decide_false,Bool.false_eq_true,if_false] at hI
   simp only [↓vS,vT,shb,shv,qb,qc,cellsOf,wr,qa,simprocAttr,hc2]
   refine ih (i,(i + j) / 2) ⟨by dsimp only; omega,by dsimp only; omega,hI⟩ (by dsimp only; omega) _ _ (Wk.mk _ _ [] ?_ ?_ ?_ rfl)
   ·simp [vw]
   ·trivial
   ·simp
 ·have e:bsI l x = i:=by rw [hI,bsN,dif_neg hlt]
  by_cases hil:i < l.length
  ·have hx:l[i]? = some l[i]:=List.getElem?_eq_getElem hil
   by_cases he:l[i] = x
   ·simp only [↓vS,vT,shb,shv,qb,qc,cellsOf,wr,qa,simprocAttr,hlt,hil,Nat.mul_one,jw,hx,Option.map_some,he,vZ,e]
   ·simp only [↓vS,vT,shb,shv,qb,qc,cellsOf,wr,qa,simprocAttr,hlt,hil,Nat.mul_one,jw,hx,Option.map_some,he]
    refine (h2 _).sc ?_
    simp only [↓vS,vT,shb,shv,qb,qc,cellsOf,wr,qa,simprocAttr,vZ,e,hx,Option.some.injEq,he]
  ·have hx:l[i]? = none:=List.getElem?_eq_none (by omega)
   simp only [↓vS,vT,shb,shv,qb,qc,cellsOf,wr,qa,simprocAttr,hlt,hil,vZ,e,hx,reduceCtorEq]
def wm:IFn:=⟨[.tmp 3],.seq (.r [.m 3 (.c (.b false))]) (.seq (.r [.m 4 (.t 0),.q 5 (.load1 (.t 1)),.q 6 (.bin .eql (.t 4) (.t 5)),.m 3 (.t 6)]) (.ret))⟩
theorem qpf (hc:qm P f wm = true) (x y:Int):qg P f [.i .u32 x,.pf [.i .u32 y] 0] (.b (decide (x = y))):=by
 refine qg.mk hc (by simp [qw,clo]) ?_
 simp only [wm,qh,H0,mkT,mkH,trL,vI,simprocAttr]
 simp only [↓vS,vT,shb,shv,qb,qc,cellsOf,wr,qa,simprocAttr,vZ]
def jl (l:List Int) (n:Int) (is:Bool):List Int :=
 let m:=l.filter (fun x=>!decide (x = n))
 if is = true then m.take (bsI m n)++n :: m.drop (bsI m n) else m
end Go.Kc
end
section
/- A list with a number more or less, as the program makes it. Condition: the functions' texts are these. -/
namespace Go.Kc
variable {P:Program} {f:Nat}
theorem qbW (l:List Int) (n:Int) (is:Bool):(jl l n is).length<=l.length + 1:=by
 have h:=List.length_filter_le (fun x=>!decide (x = n)) l
 unfold jl
 dsimp only
 split
 ·simp; omega
 ·omega
def wH (f_slices_Clone_int_int f_restrict_with_int_1 f_slices_DeleteFunc_int_int f_slices_BinarySearch_int_int f_slices_Insert_int_int:Nat):ICode:=.seq (.r [.m 9 (.t 0),.l 10 f_slices_Clone_int_int [.t 9],.q 11 (.mkF f_restrict_with_int_1 [] [.t 4]),.l 12 f_slices_DeleteFunc_int_int [.t 10,.t 11],.m 0 (.t 12)]) (.seq (.seq (.r [.m 13 (.t 2),.q 14 (.un .not (.t 13))]) (.cond (.t 14) (.seq (.r [.m 15 (.t 0),.m 6 (.t 15)]) (.ret)) (.skip))) (.seq (.r [.m 17 (.t 0),.q 18 (.load1 (.t 4)),.l 19 f_slices_BinarySearch_int_int [.t 17,.t 18],.m 16 (.t 19),.q 20 (.ext (.t 16) 0),.q 21 (.ext (.t 16) 1),.m 7 (.t 20),.m 8 (.t 21)]) (.seq (.r [.m 22 (.t 0),.m 23 (.t 7),.q 24 (.load1 (.t 4)),.q 25 (.buildS 1 [.i .i64 0] [(0,1,(.t 24))]),.l 26 f_slices_Insert_int_int [.t 22,.t 23,.t 25],.m 6 (.t 26)]) (.ret))))
def vN (f_slices_Clone_int_int f_restrict_with_int_1 f_slices_DeleteFunc_int_int f_slices_BinarySearch_int_int f_slices_Insert_int_int:Nat):IFn:=⟨[.tmp 6],.seq (.r [.q 4 (.box (.t 1)),.m 6 (.c (.nils))]) (.cut (wH f_slices_Clone_int_int f_restrict_with_int_1 f_slices_DeleteFunc_int_int f_slices_BinarySearch_int_int f_slices_Insert_int_int))⟩
theorem qrC {g1 g2 g3 g4 g5:Nat} (hc:qm P f (vN g1 g2 g3 g4 g5) = true) (h1:wT P g1 1 8) (h2:∀ x y,qg P g2 [.i .i64 x,.pf [.i .i64 y] 0] (.b (decide (x = y)))) (h3:Jx P g3) (h4:qeA P g4) (h5:Zu 1 8 P g5)
  (l:List Int) (n:Int) (is:Bool) (hl:l.length + 1<=qi) (hl8:(l.length + 1) * 8<=qi):qg P f [.fz l.length (rI .i64 l),.i .i64 n,.b is] (.fz (jl l n is).length (rI .i64 (jl l n is))):=by
 refine qg.mk hc (by simp [qw,clo]) ?_
 simp only [vN,qh,H0,mkT,mkH,trL,vI,simprocAttr]
 simp only [↓vS,vT,shb,shv,qb,qc,cellsOf,wr,qa,simprocAttr]
 refine S.weak (Wk.mk [(0,.fz l.length (rI .i64 l)),(1,.i .i64 n),(2,.b is),(4,.ptr 0 0)] [.cells 0 true false [.i .i64 n]] [0] ?_ ?_ ?_ rfl) ?_
 ·simp [vw]
 ·simp [vw]
 ·simp
 refine S.weak (Wk.freeze 0 0 0 rfl rfl (Nat.le_refl _) (by simp)) ?_
 refine qA ?_
 simp only [wH,qh,H0,mkT,mkH,trL,vI,simprocAttr,fzv,kJ,fzB,List.map_cons,List.map_nil,List.set_cons_zero,if_true]
 simp only [↓vS,vT,shb,shv,qb,qc,cellsOf,wr,qa,simprocAttr]
 refine (h1 l.length (rI .i64 l) (by rw [wo]; omega) qk Z4 (by omega) (by omega)).sc ?_
 simp only [↓vS,vT,shb,shv,qb,qc,cellsOf,wr,qa,simprocAttr,z0 (qk (k:=.i64) (l:=l))]
 refine (h3 (fun x=>decide (x = n)) g2 [] [.pf [.i .i64 n] 0] l rfl rfl (by omega) (fun x _=>h2 x n)).sc (vs:=[.own 0 l.length,.fn g2 [] [.pf [.i .i64 n] 0]]) [1] (Lent.of (by decide) ?_) ?_
 ·simp [vL,shb,shv,qb,qW,bnd,qM,rnv,gAt,vw,qJ qk,ql qk,z0 (qk (k:=.i64) (l:=l))]
 have hfl:=List.length_filter_le (fun x=>!decide (x = n)) l
 simp only [vK,qR,rnb,qM,rnv,gAt,simprocAttr,ql qk]
 cases is with
 | false =>
  simp only [↓vS,vT,shb,shv,qb,qc,cellsOf,wr,qa,simprocAttr]
  simp [vZ,vP,Tr.get_set,jl,qH qk]
  intro h0
  rw [List.filter_eq_nil_iff.2 (by simpa using h0)]
  rfl
 | true =>
  simp only [↓vS,vT,shb,shv,qb,qc,cellsOf,wr,qa,simprocAttr]
  obtain ⟨m,hm⟩:∃ m,m = l.filter (fun x=>!decide (x = n)):=⟨_,rfl⟩
  simp only [← hm] at hfl ⊢
  refine (h4 m n (by omega)).lend (vs':=[.fz m.length (rI .i64 m),.i .i64 n]) ?_ rfl ?_
  ·simp [vZ,vP,Tr.get_set,qH qk]
   intro h0; rw [h0]; rfl
  have hb:=qg8 m n
  simp only [↓vS,vT,shb,shv,qb,qc,cellsOf,wr,qa,simprocAttr]
  refine (h5 m.length (bsI m n) (rI .i64 m) [.i .i64 n] (by rw [wo]; omega) rfl qk rfl Z4 rfl hb (by omega) (by omega)).sc (vs:=[.own 0 m.length,.i .i64 (bsI m n:Int),.sl 1 0 1 1 false]) [1,2] (Lent.of (by decide) ?_) ?_
  ·simp [vL,shb,shv,qb,qW,bnd,qM,rnv,gAt,vw,qJ qk,ql qk]
  have hT:rI .i64 (jl l n true) = (rI .i64 m).take (bsI m n * 1)++([.i .i64 n]++(rI .i64 m).drop (bsI m n * 1)):=by
   rw [← qiY,ym,ZH,Zm,Zm]
   simp [jl,← hm]
  have hL:(jl l n true).length = m.length + 1:=by
   simp [jl,← hm]; omega
  simp only [← hT]
  simp only [vK,qR,rnb,qM,rnv,gAt,simprocAttr,ql qk]
  simp only [↓vS,vT,shb,shv,qb,qc,cellsOf,wr,qa,simprocAttr]
  simp [vZ,vP,Tr.get_set,qH qk,hL]
def jX (f_slices_Clone_uint32_uint32 f_restrict_with_uint32_1 f_slices_DeleteFunc_uint32_uint32 f_slices_BinarySearch_uint32_uint32 f_slices_Insert_uint32_uint32:Nat):ICode:=.seq (.r [.m 9 (.t 0),.l 10 f_slices_Clone_uint32_uint32 [.t 9],.q 11 (.mkF f_restrict_with_uint32_1 [] [.t 4]),.l 12 f_slices_DeleteFunc_uint32_uint32 [.t 10,.t 11],.m 0 (.t 12)]) (.seq (.seq (.r [.m 13 (.t 2),.q 14 (.un .not (.t 13))]) (.cond (.t 14) (.seq (.r [.m 15 (.t 0),.m 6 (.t 15)]) (.ret)) (.skip))) (.seq (.r [.m 17 (.t 0),.q 18 (.load1 (.t 4)),.l 19 f_slices_BinarySearch_uint32_uint32 [.t 17,.t 18],.m 16 (.t 19),.q 20 (.ext (.t 16) 0),.q 21 (.ext (.t 16) 1),.m 7 (.t 20),.m 8 (.t 21)]) (.seq (.r [.m 22 (.t 0),.m 23 (.t 7),.q 24 (.load1 (.t 4)),.q 25 (.buildS 1 [.i .u32 0] [(0,1,(.t 24))]),.l 26 f_slices_Insert_uint32_uint32 [.t 22,.t 23,.t 25],.m 6 (.t 26)]) (.ret))))
def wJ (f_slices_Clone_uint32_uint32 f_restrict_with_uint32_1 f_slices_DeleteFunc_uint32_uint32 f_slices_BinarySearch_uint32_uint32 f_slices_Insert_uint32_uint32:Nat):IFn:=⟨[.tmp 6],.seq (.r [.q 4 (.box (.t 1)),.m 6 (.c (.nils))]) (.cut (jX f_slices_Clone_uint32_uint32 f_restrict_with_uint32_1 f_slices_DeleteFunc_uint32_uint32 f_slices_BinarySearch_uint32_uint32 f_slices_Insert_uint32_uint32))⟩
theorem qrD {g1 g2 g3 g4 g5:Nat} (hc:qm P f (wJ g1 g2 g3 g4 g5) = true) (h1:wT P g1 1 4) (h2:∀ x y,qg P g2 [.i .u32 x,.pf [.i .u32 y] 0] (.b (decide (x = y)))) (h3:Jy P g3) (h4:qeB P g4) (h5:Zu 1 4 P g5)
  (l:List Int) (n:Int) (is:Bool) (hl:l.length + 1<=qi) (hl8:(l.length + 1) * 8<=qi):qg P f [.fz l.length (rI .u32 l),.i .u32 n,.b is] (.fz (jl l n is).length (rI .u32 (jl l n is))):=by
 refine qg.mk hc (by simp [qw,clo]) ?_
 simp only [wJ,qh,H0,mkT,mkH,trL,vI,simprocAttr]
 simp only [↓vS,vT,shb,shv,qb,qc,cellsOf,wr,qa,simprocAttr]
 refine S.weak (Wk.mk [(0,.fz l.length (rI .u32 l)),(1,.i .u32 n),(2,.b is),(4,.ptr 0 0)] [.cells 0 true false [.i .u32 n]] [0] ?_ ?_ ?_ rfl) ?_
 ·simp [vw]
 ·simp [vw]
 ·simp
 refine S.weak (Wk.freeze 0 0 0 rfl rfl (Nat.le_refl _) (by simp)) ?_
 refine qA ?_
 simp only [jX,qh,H0,mkT,mkH,trL,vI,simprocAttr,fzv,kJ,fzB,List.map_cons,List.map_nil,List.set_cons_zero,if_true]
 simp only [↓vS,vT,shb,shv,qb,qc,cellsOf,wr,qa,simprocAttr]
 refine (h1 l.length (rI .u32 l) (by rw [wo]; omega) qk Z4 (by omega) (by omega)).sc ?_
 simp only [↓vS,vT,shb,shv,qb,qc,cellsOf,wr,qa,simprocAttr,z0 (qk (k:=.u32) (l:=l))]
 refine (h3 (fun x=>decide (x = n)) g2 [] [.pf [.i .u32 n] 0] l rfl rfl (by omega) (fun x _=>h2 x n)).sc (vs:=[.own 0 l.length,.fn g2 [] [.pf [.i .u32 n] 0]]) [1] (Lent.of (by decide) ?_) ?_
 ·simp [vL,shb,shv,qb,qW,bnd,qM,rnv,gAt,vw,qJ qk,ql qk,z0 (qk (k:=.u32) (l:=l))]
 have hfl:=List.length_filter_le (fun x=>!decide (x = n)) l
 simp only [vK,qR,rnb,qM,rnv,gAt,simprocAttr,ql qk]
 cases is with
 | false =>
  simp only [↓vS,vT,shb,shv,qb,qc,cellsOf,wr,qa,simprocAttr]
  simp [vZ,vP,Tr.get_set,jl,qH qk]
  intro h0
  rw [List.filter_eq_nil_iff.2 (by simpa using h0)]
  rfl
 | true =>
  simp only [↓vS,vT,shb,shv,qb,qc,cellsOf,wr,qa,simprocAttr]
  obtain ⟨m,hm⟩:∃ m,m = l.filter (fun x=>!decide (x = n)):=⟨_,rfl⟩
  simp only [← hm] at hfl ⊢
  refine (h4 m n (by omega)).lend (vs':=[.fz m.length (rI .u32 m),.i .u32 n]) ?_ rfl ?_
  ·simp [vZ,vP,Tr.get_set,qH qk]
   intro h0; rw [h0]; rfl
  have hb:=qg8 m n
  simp only [↓vS,vT,shb,shv,qb,qc,cellsOf,wr,qa,simprocAttr]
  refine (h5 m.length (bsI m n) (rI .u32 m) [.i .u32 n] (by rw [wo]; omega) rfl qk rfl Z4 rfl hb (by omega) (by omega)).sc (vs:=[.own 0 m.length,.i .i64 (bsI m n:Int),.sl 1 0 1 1 false]) [1,2] (Lent.of (by decide) ?_) ?_
  ·simp [vL,shb,shv,qb,qW,bnd,qM,rnv,gAt,vw,qJ qk,ql qk]
  have hT:rI .u32 (jl l n true) = (rI .u32 m).take (bsI m n * 1)++([.i .u32 n]++(rI .u32 m).drop (bsI m n * 1)):=by
   rw [← qiY,ym,ZH,Zm,Zm]
   simp [jl,← hm]
  have hL:(jl l n true).length = m.length + 1:=by
   simp [jl,← hm]; omega
  simp only [← hT]
  simp only [vK,qR,rnb,qM,rnv,gAt,simprocAttr,ql qk]
  simp only [↓vS,vT,shb,shv,qb,qc,cellsOf,wr,qa,simprocAttr]
  simp [vZ,vP,Tr.get_set,qH qk,hL]
end Go.Kc
end
section
/- What arch.Parse answers. Condition: the functions' texts are these. -/
namespace Go.Kc
variable {P:Program} {f:Nat}
def zJ:List (List UInt8 × Int):=[([120,56,54,45,54,52],3221225534),([120,56,54],1073741827),([120,51,50],3221225534),([97,114,109],1073741864),([97,114,109,54,52],3221225655),([114,105,115,99,118,54,52],3221225715)]
def ZV:IFn:=⟨[.cell 0 12 true],.seq (.r [.q 0 (.alloc [.s [],.i .u32 0,.s [],.i .u32 0,.s [],.i .u32 0,.s [],.i .u32 0,.s [],.i .u32 0,.s [],.i .u32 0])]) (.seq (.r [.q 1 (.build [.s [],.i .u32 0] [(0,1,(.c (.s [120,56,54,45,54,52]))),(1,1,(.c (.i .u32 3221225534)))]),.q 2 (.build [.s [],.i .u32 0] [(0,1,(.c (.s [120,56,54]))),(1,1,(.c (.i .u32 1073741827)))]),.q 3 (.build [.s [],.i .u32 0] [(0,1,(.c (.s [120,51,50]))),(1,1,(.c (.i .u32 3221225534)))]),.q 4 (.build [.s [],.i .u32 0] [(0,1,(.c (.s [97,114,109]))),(1,1,(.c (.i .u32 1073741864)))]),.q 5 (.build [.s [],.i .u32 0] [(0,1,(.c (.s [97,114,109,54,52]))),(1,1,(.c (.i .u32 3221225655)))]),.q 6 (.build [.s [],.i .u32 0] [(0,1,(.c (.s [114,105,115,99,118,54,52]))),(1,1,(.c (.i .u32 3221225715)))]),.q 7 (.build [.s [],.i .u32 0,.s [],.i .u32 0,.s [],.i .u32 0,.s [],.i .u32 0,.s [],.i .u32 0,.s [],.i .u32 0] [(0,2,(.t 1)),(2,2,(.t 2)),(4,2,(.t 3)),(6,2,(.t 4)),(8,2,(.t 5)),(10,2,(.t 6))]),.u (.store 12 (.t 0) (.t 7))]) (.ret))⟩
theorem qmR (hc:qm P f ZV = true):qg P f [] (.agg (zJ.flatMap (zV .u32))):=by
 refine qg.mk hc rfl ?_
 simp only [ZV,qh,H0,mkT,mkH,trL,vI,simprocAttr]
 simp only [↓vS,vT,shb,shv,qb,qc,cellsOf,wr,qa,simprocAttr,zJ,zV,List.flatMap_cons,List.flatMap_nil,vZ]
def XK (f_arch_table f_slices_IndexFunc_arch_arch_arch_arch:Nat):IFn:=⟨[.tmp 2],.seq (.r [.m 2 (.k 0)]) (.seq (.r [.l 4 f_arch_table [],.q 3 (.alloc [.s [],.i .u32 0,.s [],.i .u32 0,.s [],.i .u32 0,.s [],.i .u32 0,.s [],.i .u32 0,.s [],.i .u32 0]),.u (.store 12 (.t 3) (.t 4))]) (.seq (.r [.q 5 (.slcA 6 2 (.t 3) none none none),.m 6 (.t 0),.l 7 f_slices_IndexFunc_arch_arch_arch_arch [.t 5,.t 6],.m 2 (.t 7)]) (.ret)))⟩
def qbv (P:Program) (f:Nat):Prop:=∀ (p:List UInt8 × Int->Bool) (g:Nat) (a c:List AV),qw a = true->qw c = true->(∀ x ∈ zJ,qg P g (a++([.agg (zV .u32 x)]++c)) (.b (p x)))->qg P f [.fn g a c] (.i .i64 (xE p zJ 0))
theorem qpl {g1 g2:Nat} (hc:qm P f (XK g1 g2) = true) (h1:qg P g1 [] (.agg (zJ.flatMap (zV .u32)))) (h2:Qa 2 P g2):qbv P f:=by
 intro p g a c ha hcc hp
 refine qg.mk hc (by simp [qw,clo,ha,hcc]) ?_
 simp only [XK,qh,H0,mkT,mkH,trL,vI,simprocAttr]
 simp only [↓vS,vT,shb,shv,qb,qc,cellsOf,wr,qa,simprocAttr]
 refine h1.sc ?_
 simp only [↓vS,vT,shb,shv,qb,qc,cellsOf,wr,qa,simprocAttr,zJ,zV,List.flatMap_cons,List.flatMap_nil]
 refine (h2 (zV .u32) p g a c zJ kW ha hcc (by decide) hp).lend (vs':=[.fz 6 (zJ.flatMap (zV .u32)),.fn g a c]) ?_ rfl ?_
 ·refine .cons _ _ _ _ (.cut 2 rfl (Nat.le_refl _) ?_) (.cons _ _ _ _ (.fn _ _ _ _ _ (Frzs.self ha) (Frzs.self hcc)) .nil)
  simp [vw,zJ,zV]
 simp only [↓vS,vT,shb,shv,qb,qc,cellsOf,wr,qa,simprocAttr,vZ,zJ]
def Qv:IFn:=⟨[.tmp 3],.seq (.r [.q 2 (.box (.t 0)),.m 3 (.c (.b false))]) (.seq (.r [.q 4 (.fAddr 0 (.t 2)),.q 5 (.load1 (.t 4)),.q 6 (.load1 (.t 1)),.q 7 (.bin .eql (.t 5) (.t 6)),.m 3 (.t 7)]) (.ret))⟩
theorem qlY (hc:qm P f Qv = true) (s:List UInt8) (x:List UInt8 × Int):qg P f [.agg (zV .u32 x),.pf [.s s] 0] (.b (decide (x.1 = s))):=by
 refine qg.mk hc (by simp [qw,clo,zV]) ?_
 simp only [Qv,zV,qh,H0,mkT,mkH,trL,vI,simprocAttr]
 simp only [↓vS,vT,shb,shv,qb,qc,cellsOf,wr,qa,simprocAttr,vZ]
def jx (s:List UInt8):Int × Int:=if s = [110,97,116,105,118,101] then (0,0) else if xE (fun x=>decide (x.1 = s)) zJ 0 < 0 then (0,80) else (xE (fun x=>decide (x.1 = s)) zJ 0,0)
def ZU (f_arch_Parse_1 f_arch_find:Nat):IFn:=⟨[.tmp 2,.tmp 3],.seq (.r [.q 1 (.box (.t 0)),.m 2 (.k 0),.m 3 (.k 0)]) (.seq (.seq (.r [.q 5 (.load1 (.t 1)),.q 6 (.bin .eql (.t 5) (.c (.s [110,97,116,105,118,101])))]) (.cond (.t 6) (.seq (.r [.m 2 (.k 0),.m 3 (.k 0)]) (.ret)) (.skip))) (.seq (.r [.q 7 (.mkF f_arch_Parse_1 [] [.t 1]),.l 8 f_arch_find [.t 7],.m 4 (.t 8)]) (.seq (.seq (.r [.m 9 (.t 4),.q 10 (.bin .lss (.t 9) (.k 0))]) (.cond (.t 10) (.seq (.r [.m 2 (.k 0),.m 3 (.k 80)]) (.ret)) (.skip))) (.seq (.r [.m 11 (.t 4),.m 2 (.t 11),.m 3 (.k 0)]) (.ret)))))⟩
theorem qpk {g1 g2:Nat} (hc:qm P f (ZU g1 g2) = true) (h1:∀ s x,qg P g1 [.agg (zV .u32 x),.pf [.s s] 0] (.b (decide (x.1 = s)))) (h2:qbv P g2) (s:List UInt8):qg P f [.s s] (.tup [.i .i64 (jx s).1,.i .i64 (jx s).2]):=by
 refine qg.mk hc (by simp [qw,clo]) ?_
 simp only [ZU,qh,H0,mkT,mkH,trL,vI,simprocAttr]
 by_cases h:s = [110,97,116,105,118,101]
 ·simp only [↓vS,vT,shb,shv,qb,qc,cellsOf,wr,qa,simprocAttr,h,vZ,jx]
 ·simp only [↓vS,vT,shb,shv,qb,qc,cellsOf,wr,qa,simprocAttr,h]
  refine (h2 (fun x=>decide (x.1 = s)) g1 [] [.pf [.s s] 0] rfl rfl (fun x _=>h1 s x)).lend (vs':=[.fn g1 [] [.pf [.s s] 0]]) ?_ rfl ?_
  ·simp [vZ,vP,Tr.get_set]
  by_cases hi:xE (fun x=>decide (x.1 = s)) zJ 0 < 0
  ·simp only [↓vS,vT,shb,shv,qb,qc,cellsOf,wr,qa,simprocAttr,hi,vZ,jx,h]
  ·simp only [↓vS,vT,shb,shv,qb,qc,cellsOf,wr,qa,simprocAttr,hi,vZ,jx,h]
end Go.Kc
end
section
/- Calls, lists, policies, assignments, notes: the program's structs as Lean's. No condition. -/
namespace Go.Kc
structure GCall where
 name:List UInt8
 act:Int
def jy (c:GCall):List AV:=[.s c.name,.i .u32 c.act]
structure GNote where
 file:List UInt8
 line:Int
 err:Int
 text:List UInt8
def kj (n:GNote):List AV:=[.s n.file,.i .i64 n.line,.i .i64 n.err,.s n.text]
structure Asg where
 file:List UInt8
 line:Int
 sec:List UInt8
 key:List UInt8
 val:List UInt8
def xb (a:Asg):List AV:=[.s a.file,.i .i64 a.line,.s a.sec,.s a.key,.s a.val]
theorem vh (c:GCall):(jy c).length = 2:=rfl
theorem X4 (c:GNote):(kj c).length = 4:=rfl
def rC (l:List GCall):List AV:=l.flatMap jy
section
variable {l m:List GCall} {j:Nat}
theorem kf:(rC l).length = l.length * 2:=zW vh l
theorem qj:qw (rC l) = true:=yK fun _=>rfl
theorem qa1:qI (rC l) = true:=Xa fun _=>rfl
theorem qap:(rC l).take (j * 2) = rC (l.take j):=X8 vh l j
theorem qcq:(rC l).drop (j * 2) = rC (l.drop j):=yM vh l j
theorem ZG {c:GCall} (h:l[j]? = some c):((rC l).drop (j * 2)).take 2 = jy c:=xl vh h
theorem qoH {c:GCall} (h:l[j]? = some c) {i:Nat} (hi:i < 2):(rC l)[j * 2 + i]? = (jy c)[i]?:=qc0 vh h hi
theorem qei:rC l++rC m = rC (l++m):=by simp [rC]
theorem qao {c:GCall}:rC (c :: l) = .s c.name :: .i .u32 c.act :: rC l:=rfl
theorem kV (h:j < l.length):j * 2 + 2<=(rC l).length:=by rw [kf]; omega
end
def rN (l:List GNote):List AV:=l.flatMap kj
section
variable {l m:List GNote} {j:Nat}
theorem kg:(rN l).length = l.length * 4:=zW X4 l
theorem qe:qw (rN l) = true:=yK fun _=>rfl
theorem qrm:qI (rN l) = true:=Xa fun _=>rfl
theorem qlC {c:GNote} (h:l[j]? = some c):((rN l).drop (j * 4)).take 4 = kj c:=xl X4 h
theorem Jp:rN l++rN m = rN (l++m):=by simp [rN]
theorem qi1:rN [] = []:=rfl
theorem qi2 {n:GNote}:rN [n] = [.s n.file,.i .i64 n.line,.i .i64 n.err,.s n.text]:=rfl
theorem qi0 (h:j < l.length):j * 4 + 4<=(rN l).length:=by rw [kg]; omega
end
structure GList where
 mode:Int
 calls:List GCall
def qE (l:GList):List AV:=[.i .u8 l.mode,.fz l.calls.length (rC l.calls)]
structure Pol where
 arches:List Int
 filter:GList
 deny:Int
 log:GList
 fams:List Int
 fmode:Int
 spaces:Int
 we:Bool
 pe:Bool
 rt:Bool
 np:Bool
def qq (p:Pol):List AV:=[.fz p.arches.length (rI .i64 p.arches),.i .u8 p.filter.mode,.fz p.filter.calls.length (rC p.filter.calls),.i .u32 p.deny,.i .u8 p.log.mode,.fz p.log.calls.length (rC p.log.calls),
 .fz p.fams.length (rI .u32 p.fams),.i .u8 p.fmode,.i .u64 p.spaces,.b p.we,.b p.pe,.b p.rt,.b p.np]
theorem Zv (p:Pol):qw (qq p) = true:=rfl
def yZ:Pol:=⟨[],⟨0,[]⟩,0,⟨0,[]⟩,[],0,0,false,false,false,false⟩
def qN (a:Asg) (p:Int × List UInt8):GNote:=⟨a.file,a.line,p.1,p.2.take 60⟩
end Go.Kc
end
section
/- What the setter's methods do: notes, yes and no. Condition: the functions' texts are these. -/
namespace Go.Kc
variable {P:Program} {f:Nat}
def qB (p:Pol) (a:Asg) (nb n:Nat):List AV:=[.fz p.arches.length (rI .i64 p.arches),.i .u8 p.filter.mode,.fz p.filter.calls.length (rC p.filter.calls),.i .u32 p.deny,.i .u8 p.log.mode,.fz p.log.calls.length (rC p.log.calls),
 .fz p.fams.length (rI .u32 p.fams),.i .u8 p.fmode,.i .u64 p.spaces,.b p.we,.b p.pe,.b p.rt,.b p.np,.own nb n,.s a.file,.i .i64 a.line,.s a.sec,.s a.key,.s a.val]
def qt (p:Pol) (a:Asg) (ns new:List GNote):List Blk :=
 if new = [] then [.cells 0 true false (qB p a 1 ns.length),.cells 4 true true (rN ns)] else [.cells 0 true false (qB p a 2 (ns++new).length),.dead,.cells 4 true true (rN (ns++new))]
def wG:IFn:=⟨[],.reg true [.m 6 (.t 0),.m 7 (.t 0),.q 8 (.nilChk (.t 7)),.q 9 (.fAddr 13 (.t 8)),.q 10 (.load1 (.t 9)),.m 11 (.t 0),.q 12 (.nilChk (.t 11)),.q 13 (.fAddr 14 (.t 12)),.q 14 (.fAddr 0 (.t 13)),.q 15 (.load1 (.t 14)),.m 16 (.t 0),.q 17 (.nilChk (.t 16)),.q 18 (.fAddr 14 (.t 17)),.q 19 (.fAddr 1 (.t 18)),.q 20 (.load1 (.t 19)),.m 21 (.t 1),.m 22 (.t 2),.m 23 (.t 2),.q 24 (.len true (.t 23)),.q 25 (.min (.t 24) (.k 60)),.q 26 (.slcStr (.t 22) none (some (.t 25))),.q 27 (.build [.s [],.i .i64 0,.i .i64 0,.s []] [(0,1,(.t 15)),(1,1,(.t 20)),(2,1,(.t 21)),(3,1,(.t 26))]),.q 28 (.buildS 1 [.s [],.i .i64 0,.i .i64 0,.s []] [(0,4,(.t 27))]),.q 29 (.app 4 48 true (.t 10) (.t 28)),.q 30 (.nilChk (.t 6)),.q 31 (.fAddr 13 (.t 30)),.u (.store 1 (.t 31) (.t 29))]⟩
def yu (P:Program) (f:Nat):Prop:=∀ (p:Pol) (a:Asg) (ns:List GNote) (e:Int) (text:List UInt8),(ns.length + 1) * 48<=qi->
 Upd P f [.ptr 0 0,.i .i64 e,.s text] [.cells 0 true false (qB p a 1 ns.length),.cells 4 true true (rN ns)] (.tup []) [.cells 0 true false (qB p a 2 (ns++[qN a (e,text)]).length),.dead,.cells 4 true true (rN (ns++[qN a (e,text)]))]
theorem qq9 (hc:qm P f wG = true):yu P f:=by
 intro p a ns e text hr
 refine Upd.mk hc (by simp [qW,bnd]) (by simp) ?_
 simp only [wG,qB,qh,H0,mkT,mkH,trL,vI,simprocAttr]
 simp only [↓vS,vT,shb,shv,qb,qc,cellsOf,wr,qa,simprocAttr]
 refine zS ?_
 have hr1:ns.length + 1<=qi:=by omega
 have fin:∀ tt,tt = text.take 60->rN ns++[AV.s a.file,.i .i64 a.line,.i .i64 e,.s tt] = rN (ns++[qN a (e,text)]):=by
  intro tt ht; subst ht; rw [← Jp]; rfl
 by_cases h60:(60:Int) < text.length
 ·have h1:60<=text.length:=by omega
  simp only [↓vS,vT,shb,shv,qb,qc,cellsOf,wr,qa,simprocAttr,h60,h1,hr1,hr,kg,fin _ rfl]
  intro _
  refine ⟨[0,1,3],?_⟩
  simp [vw,qd,qe]
  decide
 ·have h1:text.take 60 = text:=List.take_of_length_le (by omega)
  simp only [↓vS,vT,shb,shv,qb,qc,cellsOf,wr,qa,simprocAttr,h60,hr1,hr,kg,List.take_length,fin _ h1.symm]
  intro _
  refine ⟨[0,1,3],?_⟩
  simp [vw,qd,qe]
  decide
noncomputable def zz (v:List UInt8):Option Bool × List (Int × List UInt8) :=
 if v = [] then (some false,[]) else if v ∈ xH then (some false,[]) else if v ∈ z2 then (some true,[]) else (none,[(150,v)])
def qU (f_values_Bool f_restrict_setter_note:Nat):IFn:=⟨[],.seq (.seq (.r [.m 8 (.t 1),.q 9 (.bin .eql (.t 8) (.c (.s [])))]) (.cond (.t 9) (.seq (.r [.m 10 (.t 2),.q 11 (.nilChk (.t 10)),.u (.store 1 (.t 11) (.c (.b false)))]) (.ret)) (.skip))) (.seq (.r [.m 13 (.t 1),.l 14 f_values_Bool [.t 13],.m 12 (.t 14),.q 15 (.ext (.t 12) 0),.q 16 (.ext (.t 12) 1),.m 6 (.t 15),.m 7 (.t 16)]) (.seq (.seq (.r [.m 17 (.t 7),.q 18 (.bin .neq (.t 17) (.k 0))]) (.cond (.t 18) (.seq (.r [.m 19 (.t 0),.m 20 (.t 7),.m 21 (.t 1),.l 22 f_restrict_setter_note [.t 19,.t 20,.t 21]]) (.ret)) (.skip))) (.r [.m 23 (.t 2),.m 24 (.t 6),.q 25 (.nilChk (.t 23)),.u (.store 1 (.t 25) (.t 24))])))⟩
def qcP (P:Program) (g:Nat):Prop:=∀ s,qg P g [.s s] (Jw s)
def qhe (P:Program) (f:Nat):Prop:=∀ (p:Pol) (a:Asg) (ns:List GNote) (v:List UInt8),(ns.length + 1) * 48<=qi->
 Upd P f [.ptr 0 0,.s v,.ptr 0 9] [.cells 0 true false (qB p a 1 ns.length),.cells 4 true true (rN ns)] (.tup []) (qt { p with we:=(zz v).1.getD p.we } a ns ((zz v).2.map (qN a)))
theorem qsh {g1 g2:Nat} (hc:qm P f (qU g1 g2) = true) (h1:qcP P g1) (h2:yu P g2):qhe P f:=by
 intro p a ns v hr
 refine Upd.mk hc (by simp [qW,bnd]) (by unfold qt; split <;> simp) ?_
 simp only [qU,qB,qh,H0,mkT,mkH,trL,vI,simprocAttr]
 by_cases hv:v = []
 ·simp only [↓vS,vT,shb,shv,qb,qc,cellsOf,wr,qa,simprocAttr,hv]
  intro _
  refine ⟨[0,1],?_⟩
  simp [vw,qd,qe,qt,qB,zz]
  decide
 ·simp only [↓vS,vT,shb,shv,qb,qc,cellsOf,wr,qa,simprocAttr,hv]
  refine (h1 v).sc ?_
  unfold Jw
  by_cases hno:v ∈ xH
  ·simp only [↓vS,vT,shb,shv,qb,qc,cellsOf,wr,qa,simprocAttr,hno]
   intro _
   refine ⟨[0,1],?_⟩
   simp [vw,qd,qe,qt,qB,zz,hv,hno]
   decide
  ·by_cases hy:v ∈ z2
   ·simp only [↓vS,vT,shb,shv,qb,qc,cellsOf,wr,qa,simprocAttr,hno,hy]
    intro _
    refine ⟨[0,1],?_⟩
    simp [vw,qd,qe,qt,qB,zz,hv,hno,hy]
    decide
   ·simp only [↓vS,vT,shb,shv,qb,qc,cellsOf,wr,qa,simprocAttr,hno,hy]
    refine (h2 p a ns 150 v hr).sc (vs:=[.ptr 0 0,.i .i64 150,.s v]) [0,1] (Lent.of (by decide) ?_) ?_
    ·simp [vL,shb,shv,qb,qW,bnd,qM,rnv,gAt,vw,qB,qJ qe,ql qe,qS,clo,qp]
    ·simp only [vK,qR,rnb,qM,rnv,gAt,simprocAttr,qB,ql qe,qp,clo]
     simp only [↓vS,vT,shb,shv,qb,qc,cellsOf,wr,qa,simprocAttr]
     intro _
     refine ⟨[0,1,2],?_⟩
     simp [vw,qd,qe,qt,qB,zz,hv,hno,hy]
     decide
def qeF (P:Program) (f:Nat):Prop:=∀ (p:Pol) (a:Asg) (ns:List GNote) (v:List UInt8),(ns.length + 1) * 48<=qi->
 Upd P f [.ptr 0 0,.s v,.ptr 0 10] [.cells 0 true false (qB p a 1 ns.length),.cells 4 true true (rN ns)] (.tup []) (qt { p with pe:=(zz v).1.getD p.pe } a ns ((zz v).2.map (qN a)))
theorem qrR {g1 g2:Nat} (hc:qm P f (qU g1 g2) = true) (h1:qcP P g1) (h2:yu P g2):qeF P f:=by
 intro p a ns v hr
 refine Upd.mk hc (by simp [qW,bnd]) (by unfold qt; split <;> simp) ?_
 simp only [qU,qB,qh,H0,mkT,mkH,trL,vI,simprocAttr]
 by_cases hv:v = []
 ·simp only [↓vS,vT,shb,shv,qb,qc,cellsOf,wr,qa,simprocAttr,hv]
  intro _
  refine ⟨[0,1],?_⟩
  simp [vw,qd,qe,qt,qB,zz]
  decide
 ·simp only [↓vS,vT,shb,shv,qb,qc,cellsOf,wr,qa,simprocAttr,hv]
  refine (h1 v).sc ?_
  unfold Jw
  by_cases hno:v ∈ xH
  ·simp only [↓vS,vT,shb,shv,qb,qc,cellsOf,wr,qa,simprocAttr,hno]
   intro _
   refine ⟨[0,1],?_⟩
   simp [vw,qd,qe,qt,qB,zz,hv,hno]
   decide
  ·by_cases hy:v ∈ z2
   ·simp only [↓vS,vT,shb,shv,qb,qc,cellsOf,wr,qa,simprocAttr,hno,hy]
    intro _
    refine ⟨[0,1],?_⟩
    simp [vw,qd,qe,qt,qB,zz,hv,hno,hy]
    decide
   ·simp only [↓vS,vT,shb,shv,qb,qc,cellsOf,wr,qa,simprocAttr,hno,hy]
    refine (h2 p a ns 150 v hr).sc (vs:=[.ptr 0 0,.i .i64 150,.s v]) [0,1] (Lent.of (by decide) ?_) ?_
    ·simp [vL,shb,shv,qb,qW,bnd,qM,rnv,gAt,vw,qB,qJ qe,ql qe,qS,clo,qp]
    ·simp only [vK,qR,rnb,qM,rnv,gAt,simprocAttr,qB,ql qe,qp,clo]
     simp only [↓vS,vT,shb,shv,qb,qc,cellsOf,wr,qa,simprocAttr]
     intro _
     refine ⟨[0,1,2],?_⟩
     simp [vw,qd,qe,qt,qB,zz,hv,hno,hy]
     decide
def qeG (P:Program) (f:Nat):Prop:=∀ (p:Pol) (a:Asg) (ns:List GNote) (v:List UInt8),(ns.length + 1) * 48<=qi->
 Upd P f [.ptr 0 0,.s v,.ptr 0 11] [.cells 0 true false (qB p a 1 ns.length),.cells 4 true true (rN ns)] (.tup []) (qt { p with rt:=(zz v).1.getD p.rt } a ns ((zz v).2.map (qN a)))
theorem qrS {g1 g2:Nat} (hc:qm P f (qU g1 g2) = true) (h1:qcP P g1) (h2:yu P g2):qeG P f:=by
 intro p a ns v hr
 refine Upd.mk hc (by simp [qW,bnd]) (by unfold qt; split <;> simp) ?_
 simp only [qU,qB,qh,H0,mkT,mkH,trL,vI,simprocAttr]
 by_cases hv:v = []
 ·simp only [↓vS,vT,shb,shv,qb,qc,cellsOf,wr,qa,simprocAttr,hv]
  intro _
  refine ⟨[0,1],?_⟩
  simp [vw,qd,qe,qt,qB,zz]
  decide
 ·simp only [↓vS,vT,shb,shv,qb,qc,cellsOf,wr,qa,simprocAttr,hv]
  refine (h1 v).sc ?_
  unfold Jw
  by_cases hno:v ∈ xH
  ·simp only [↓vS,vT,shb,shv,qb,qc,cellsOf,wr,qa,simprocAttr,hno]
   intro _
   refine ⟨[0,1],?_⟩
   simp [vw,qd,qe,qt,qB,zz,hv,hno]
   decide
  ·by_cases hy:v ∈ z2
   ·simp only [↓vS,vT,shb,shv,qb,qc,cellsOf,wr,qa,simprocAttr,hno,hy]
    intro _
    refine ⟨[0,1],?_⟩
    simp [vw,qd,qe,qt,qB,zz,hv,hno,hy]
    decide
   ·simp only [↓vS,vT,shb,shv,qb,qc,cellsOf,wr,qa,simprocAttr,hno,hy]
    refine (h2 p a ns 150 v hr).sc (vs:=[.ptr 0 0,.i .i64 150,.s v]) [0,1] (Lent.of (by decide) ?_) ?_
    ·simp [vL,shb,shv,qb,qW,bnd,qM,rnv,gAt,vw,qB,qJ qe,ql qe,qS,clo,qp]
    ·simp only [vK,qR,rnb,qM,rnv,gAt,simprocAttr,qB,ql qe,qp,clo]
     simp only [↓vS,vT,shb,shv,qb,qc,cellsOf,wr,qa,simprocAttr]
     intro _
     refine ⟨[0,1,2],?_⟩
     simp [vw,qd,qe,qt,qB,zz,hv,hno,hy]
     decide
def qeH (P:Program) (f:Nat):Prop:=∀ (p:Pol) (a:Asg) (ns:List GNote) (v:List UInt8),(ns.length + 1) * 48<=qi->
 Upd P f [.ptr 0 0,.s v,.ptr 0 12] [.cells 0 true false (qB p a 1 ns.length),.cells 4 true true (rN ns)] (.tup []) (qt { p with np:=(zz v).1.getD p.np } a ns ((zz v).2.map (qN a)))
theorem qrT {g1 g2:Nat} (hc:qm P f (qU g1 g2) = true) (h1:qcP P g1) (h2:yu P g2):qeH P f:=by
 intro p a ns v hr
 refine Upd.mk hc (by simp [qW,bnd]) (by unfold qt; split <;> simp) ?_
 simp only [qU,qB,qh,H0,mkT,mkH,trL,vI,simprocAttr]
 by_cases hv:v = []
 ·simp only [↓vS,vT,shb,shv,qb,qc,cellsOf,wr,qa,simprocAttr,hv]
  intro _
  refine ⟨[0,1],?_⟩
  simp [vw,qd,qe,qt,qB,zz]
  decide
 ·simp only [↓vS,vT,shb,shv,qb,qc,cellsOf,wr,qa,simprocAttr,hv]
  refine (h1 v).sc ?_
  unfold Jw
  by_cases hno:v ∈ xH
  ·simp only [↓vS,vT,shb,shv,qb,qc,cellsOf,wr,qa,simprocAttr,hno]
   intro _
   refine ⟨[0,1],?_⟩
   simp [vw,qd,qe,qt,qB,zz,hv,hno]
   decide
  ·by_cases hy:v ∈ z2
   ·simp only [↓vS,vT,shb,shv,qb,qc,cellsOf,wr,qa,simprocAttr,hno,hy]
    intro _
    refine ⟨[0,1],?_⟩
    simp [vw,qd,qe,qt,qB,zz,hv,hno,hy]
    decide
   ·simp only [↓vS,vT,shb,shv,qb,qc,cellsOf,wr,qa,simprocAttr,hno,hy]
    refine (h2 p a ns 150 v hr).sc (vs:=[.ptr 0 0,.i .i64 150,.s v]) [0,1] (Lent.of (by decide) ?_) ?_
    ·simp [vL,shb,shv,qb,qW,bnd,qM,rnv,gAt,vw,qB,qJ qe,ql qe,qS,clo,qp]
    ·simp only [vK,qR,rnb,qM,rnv,gAt,simprocAttr,qB,ql qe,qp,clo]
     simp only [↓vS,vT,shb,shv,qb,qc,cellsOf,wr,qa,simprocAttr]
     intro _
     refine ⟨[0,1,2],?_⟩
     simp [vw,qd,qe,qt,qB,zz,hv,hno,hy]
     decide
end Go.Kc
end
