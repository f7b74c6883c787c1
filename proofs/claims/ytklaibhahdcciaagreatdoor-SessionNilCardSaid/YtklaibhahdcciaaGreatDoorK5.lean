/- Part 5 of the abstract machine and of the functions' walks. Conditions: with each theorem. -/
import Derived.Test.YtklaibhahdcciaaGreatDoorK4
import Derived.Laws.Externs
import Derived.Lib.Overlaps
import GoSem.ClaimChange
import Derived.ChangeArms
import Derived.ReadAgain
import Derived.ChangeOld
import Derived.ChangeBears
import Derived.OpenShut
import Derived.RecoverIn
set_option maxHeartbeats 4000000
set_option linter.unusedSectionVars false
set_option linter.unusedSimpArgs false
set_option linter.unusedVariables false
set_option linter.unnecessarySimpa false
set_option linter.defProp false
section
namespace Go.Kc
variable [Cur]
variable {P:Program} {n:Nat} {C:qw} {d:Bool} {Q:Tr AV->Hp->Prop} {t:Tr AV} {h:Hp} {k:AV->Hp->Prop}

def evA(v:AV)(k:AV->Prop):Prop:=k v
omit [Cur] in
@[congr] theorem qlj {v v':AV} {k:AV->Prop} {mk:Prop} (_:qL=mk) (h:v=v'):evA v k=evA v' k:=by rw[h]
theorem qhX{v:AV}{k:AV->Prop}:evA v k↔k v:=Iff.rfl
def evL(v:List AV)(k:List AV->Prop):Prop:=k v
omit [Cur] in
@[congr] theorem qll {v v':List AV} {k:List AV->Prop} {mk:Prop} (_:qL=mk) (h:v=v'):evL v k=evL v' k:=by rw[h]
theorem qhY{v:List AV}{k:List AV->Prop}:evL v k↔k v:=Iff.rfl
def evN(v:Nat)(k:Nat->Prop):Prop:=k v
omit [Cur] in
@[congr] theorem qlm {v v':Nat} {k:Nat->Prop} {mk:Prop} (_:qL=mk) (h:v=v'):evN v k=evN v' k:=by rw[h]
theorem qhZ{v:Nat}{k:Nat->Prop}:evN v k↔k v:=Iff.rfl
def evT(v:Bool)(k:Bool->Prop):Prop:=k v
omit [Cur] in
@[congr] theorem qlo {v v':Bool} {k:Bool->Prop} {mk:Prop} (_:qL=mk) (h:v=v'):evT v k=evT v' k:=by rw[h]
theorem qh0{v:Bool}{k:Bool->Prop}:evT v k↔k v:=Iff.rfl
def evB(o:Option Blk)(k:Blk->Prop):Prop:=∃v,o=some v∧k v
omit [Cur] in
@[congr] theorem qlk {o o':Option Blk} {k:Blk->Prop} {mk:Prop} (_:qL=mk) (h:o=o'):evB o k=evB o' k:=by rw[h]
theorem qfT{v:Blk}{k:Blk->Prop}:evB (some v) k↔k v:=by simp[evB]
def ifK(c:Prop)(p:Prop):Prop:=c∧p
omit [Cur] in
@[congr] theorem qlq {c c' p:Prop} {mk:Prop} (_:qL=mk) (h:c=c'):ifK c p=ifK c' p:=by rw[h]
theorem qcW{p:Prop}:ifK True p↔p:=by simp[ifK]
omit [Cur] in
theorem qif{c c' p:Prop}:ifK (c∧c') p↔ifK c (ifK c' p):=by simp[ifK,and_assoc]
omit [Cur] in
theorem qea{x:Bool}{p:Prop}:qb x p↔ifK (x=true) p:=qa _ _
omit [Cur] in
theorem qS{n:Nat}{k:Nat->Prop}:qd n k↔evN n k:=by rw[qg];exact Iff.rfl
omit [Cur] in
theorem qaD{n:Bool}{k:Bool->Prop}:qn n k↔evT n k:=by rw[qj];exact Iff.rfl
@[congr] theorem qh1 {n:Bool} {k:Bool->Prop} {mk:Prop} (_:qL=mk):qn n k=qn n k:=rfl
@[congr] theorem qje {n:Bool} {k:Prop} {mk:Prop} (_:qL=mk):qb n k=qb n k:=rfl
theorem qmy{x:Bool}{k:Bool->Prop}:unB (.b x) k↔k x:=Iff.rfl
omit [Cur] in
theorem qiZ{b o:Nat}{k:Nat->Nat->Prop}:unP (.ptr b o) k↔k b o:=Iff.rfl
omit [Cur] in
theorem qmz{q:IntKind}{z:Int}{k:IntKind->Int->Prop}:unI (.i q z) k↔k q z:=Iff.rfl
omit [Cur] in
theorem qmA{q:IntKind}{z:Int}{k:Nat->Prop}:unN (.i q z) k↔ifK (0<=z) (evN z.toNat k):=by
 cases z with
 | ofNat m=>exact⟨fun h=>⟨by simp_all,h⟩,fun h=>h.2⟩
 | negSucc m=>exact⟨fun h=>h.elim,fun h=>absurd h.1 (by omega)⟩
@[congr] theorem qlA {x:AV} {k:Nat->Nat->Prop} {mk:Prop} (_:qL=mk):unP x k=unP x k:=rfl
@[congr] theorem qly {x:AV} {k:IntKind->Int->Prop} {mk:Prop} (_:qL=mk):unI x k=unI x k:=rfl
@[congr] theorem qlz {x:AV} {k:Nat->Prop} {mk:Prop} (_:qL=mk):unN x k=unN x k:=rfl

section
variable {q q':IntKind} {n m:Int} {a c:List UInt8} {k:AV->Prop}
omit [Cur] in
theorem qcO{z:Int}:qQ (qay q z) (fun r=>k (.i q r))↔evA (.i q (q.wrap z)) k:=by
 rw[qB,jf];exact Iff.rfl
omit [Cur] in
theorem qhv:qO qi .lss (.i q n) (.i q m) k↔evA (.b (decide (n<m))) k:=by simp[qO,qR,qa,xn,evA]
omit [Cur] in
theorem qht:qO qi .gtr (.i q n) (.i q m) k↔evA (.b (decide (m<n))) k:=by simp[qO,qR,qa,xn,evA]
omit [Cur] in
theorem qhs:qO qi .geq (.i q n) (.i q m) k↔evA (.b (decide (m<=n))) k:=by
 simp only[qO,qR,qa,xn,qj,decide_true,true_and,evA];rw[← decide_not];simp
omit [Cur] in
theorem qhu:qO qi .leq (.i q n) (.i q m) k↔evA (.b (decide (n<=m))) k:=by
 simp only[qO,qR,qa,xn,qj,decide_true,true_and,evA];rw[← decide_not];simp
omit [Cur] in
theorem qhr:qO qi .eql (.i q n) (.i q m) k↔evA (.b (decide (n=m))) k:=by
 simp only[qO,qR,qa,jE,qj,decide_true,true_and,evA];rw[show (n==m)=decide (n=m) from by rw[Bool.eq_iff_iff];simp]
omit [Cur] in
theorem qhx:qO qi .neq (.i q n) (.i q m) k↔evA (.b (!decide (n=m))) k:=by
 simp only[qO,qR,qa,jE,qj,decide_true,true_and,evA];rw[show (n==m)=decide (n=m) from by rw[Bool.eq_iff_iff];simp]
omit [Cur] in
theorem qho:qO qi .add (.i q n) (.i q m) k↔evA (.i q (q.wrap (n+m))) k:=by
 simp only[qO,qR,qa,jf,qB,decide_true,true_and];exact Iff.rfl
omit [Cur] in
theorem qhA:qO qi .sub (.i q n) (.i q m) k↔evA (.i q (q.wrap (n-m))) k:=by
 simp only[qO,qR,qa,jf,qB,decide_true,true_and];exact Iff.rfl
omit [Cur] in
theorem qhw:qO qi .mul (.i q n) (.i q m) k↔evA (.i q (q.wrap (n*m))) k:=by
 simp only[qO,qR,qa,jf,qB,decide_true,true_and];exact Iff.rfl
def orI(q:IntKind)(x y:Int):Int:=q.wrap (BitVec.ofInt q.bits x ||| BitVec.ofInt q.bits y).toNat
def qlS(q:IntKind)(x y:Int):Int:=q.wrap (BitVec.ofInt q.bits x &&& BitVec.ofInt q.bits y).toNat
def qmG(q:IntKind)(x y:Int):Int:=q.wrap (BitVec.ofInt q.bits x ^^^ BitVec.ofInt q.bits y).toNat
def qlV(q:IntKind)(x y:Int):Int:=q.wrap (BitVec.ofInt q.bits x &&& ~~~ (BitVec.ofInt q.bits y)).toNat
omit [Cur] in
theorem qjA:qO qi .or (.i q n) (.i q m) k↔evA (.i q (orI q n m)) k:=by
 simp only[qO,qR,qa,qB,decide_true,true_and,orI,evA]
omit [Cur] in
theorem qhp:qO qi .and (.i q n) (.i q m) k↔evA (.i q (qlS q n m)) k:=by
 simp only[qO,qR,qa,qB,decide_true,true_and,qlS,evA]
omit [Cur] in
theorem qhB:qO qi .xor (.i q n) (.i q m) k↔evA (.i q (qmG q n m)) k:=by
 simp only[qO,qR,qa,qB,decide_true,true_and,qmG,evA]
omit [Cur] in
theorem qhq:qO qi .andNot (.i q n) (.i q m) k↔evA (.i q (qlV q n m)) k:=by
 simp only[qO,qR,qa,qB,decide_true,true_and,qlV,evA]
def qni(q:IntKind)(x m:Int):Int:=x.fdiv (2 ^ min m.toNat q.bits)
def qnh(q:IntKind)(x m:Int):Int:=q.wrap (x*2 ^ min m.toNat q.bits)
omit [Cur] in
theorem qhz{q2:IntKind}:qO qi .shr (.i q n) (.i q2 m) k↔ifK (0<=m) (evA (.i q (qni q n m)) k):=by
 cases m with
 | ofNat m =>
  show qd (min m q.bits) (fun a=>qQ (n.fdiv (p2 a)) (fun r=>k (.i q r)))↔_
  rw[qg,qB,qd1];exact⟨fun h=>⟨by simp_all,h⟩,fun h=>h.2⟩
 | negSucc m=>exact⟨fun h=>h.elim,fun h=>absurd h.1 (by omega)⟩
omit [Cur] in
theorem qhy{q2:IntKind}:qO qi .shl (.i q n) (.i q2 m) k↔ifK (0<=m) (evA (.i q (qnh q n m)) k):=by
 cases m with
 | ofNat m =>
  show qd (min m q.bits) (fun a=>qQ (q.wrap (n*p2 a)) (fun r=>k (.i q r)))↔_
  rw[qg,qB,qd1];exact⟨fun h=>⟨by simp_all,h⟩,fun h=>h.2⟩
 | negSucc m=>exact⟨fun h=>h.elim,fun h=>absurd h.1 (by omega)⟩
omit [Cur] in
theorem qdo(x y:Int):eqI x y=decide (x=y):=by rw[jE,Bool.eq_iff_iff];simp
omit [Cur] in
theorem qft:qO qi .eql (.s a) (.s c) k↔evA (.b (decide (a=c))) k:=by
 simp only[qO,zV,zR,qj,evA];rw[show (a==c)=decide (a=c) from by rw[Bool.eq_iff_iff];simp]
omit [Cur] in
theorem qfy:qO qi .neq (.s a) (.s c) k↔evA (.b (!decide (a=c))) k:=by
 simp only[qO,zV,zR,qj,evA];rw[show (a==c)=decide (a=c) from by rw[Bool.eq_iff_iff];simp]
omit [Cur] in
theorem qfs:qO qi .add (.s a) (.s c) k↔ifK (a.length+c.length<=9223372036854775807) (evA (.s (a++c)) k):=by
 show (Bool.rec (motive:=fun _=>Prop) False (k (.s (a++c))) (Nat.ble (a.length+c.length) 9223372036854775807):Prop)↔_
 rw[show (a.length+c.length<=9223372036854775807)=(Nat.ble (a.length+c.length) 9223372036854775807=true) from by simp_all]
 cases Nat.ble (a.length+c.length) 9223372036854775807
 ·exact⟨False.elim,fun h=>by cases h.1⟩
 ·exact⟨fun h=>⟨rfl,h⟩,fun h=>h.2⟩
omit [Cur] in
theorem qfx:qO qi .lss (.s a) (.s c) k↔evA (.b (ltS a c)) k:=by simp only[qO,zV,qj,evA]
omit [Cur] in
theorem qfu:qO qi .geq (.s a) (.s c) k↔evA (.b (!ltS a c)) k:=by simp only[qO,zV,qj,evA]
omit [Cur] in
theorem qfw:qO qi .leq (.s a) (.s c) k↔evA (.b (ltS a c||decide (a=c))) k:=by
 simp only[qO,zV,zR,qj,evA];rw[show (a==c)=decide (a=c) from by rw[Bool.eq_iff_iff];simp]
omit [Cur] in
theorem qfv:qO qi .gtr (.s a) (.s c) k↔evA (.b (!(ltS a c||decide (a=c)))) k:=by
 simp only[qO,zV,zR,qj,evA];rw[show (a==c)=decide (a=c) from by rw[Bool.eq_iff_iff];simp]
omit [Cur] in
theorem qlf{x:Bool}:xS .not (.b x) k↔evA (.b (!x)) k:=by simp only[xS,qj,evA]
omit [Cur] in
theorem qle:xS .neg (.i q n) k↔evA (.i q (q.wrap (0-n))) k:=by simp only[xS,qB,evA]
omit [Cur] in
theorem qmN:cvK qi q (.i q' n) k↔evA (.i q (q.wrap n)) k:=by
 show qQ (qay q n) (fun r=>k (.i q r))↔_
 exact qcO
end

omit [Cur] in
theorem qky{s f:Nat}{tr:Tr Blk}{x:Blk}{k:Nat->Hp->Prop}:qN ⟨s,f,tr⟩ x k↔evN (s+1) (fun s'=>k s ⟨s',f,tr.set s x⟩):=by
 rw[qv];exact Iff.rfl
omit [Cur] in
theorem qkZ{s f b:Nat}{tr:Tr Blk}{x:Blk}{k:Hp->Prop}:qY ⟨s,f,tr⟩ b x k↔ifK (f<=b) (k ⟨s,f,tr.set b x⟩):=qC _ _ _ _
omit [Cur] in
theorem qmC{s f:Nat}{tr:Tr Blk}:Hp.up ⟨s,f,tr⟩=⟨s,s,tr⟩:=rfl
omit [Cur] in
theorem qhU{s f f':Nat}{tr:Tr Blk}:Hp.down ⟨s,f,tr⟩ f'=⟨s,f',tr⟩:=rfl
def zQ(x:Blk)(k:Nat->Bool->Bool->List AV->Prop):Prop:=match x with | .cells e w a cs=>k e w a cs|_=>False
omit [Cur] in
@[congr] theorem qhG {x x':Blk} {k:Nat->Bool->Bool->List AV->Prop} {mk:Prop} (_:qL=mk) (h:x=x'):zQ x k=zQ x' k:=by rw[h]
theorem qb9{e:Nat}{w a:Bool}{cs:List AV}{k:Nat->Bool->Bool->List AV->Prop}:zQ (.cells e w a cs) k↔k e w a cs:=Iff.rfl
omit [Cur] in
theorem jO{b:Nat}{k:Nat->Bool->Bool->List AV->Prop}:zw h b k↔evB (h.tr.get b) (fun x=>zQ x k):=by
 rw[qq];constructor
 ·rintro⟨e,w,a,cs,h1,h2⟩;exact⟨_,h1,h2⟩
 ·rintro⟨x,h1,h2⟩;cases x with
  | cells e w a cs=>exact⟨e,w,a,cs,h1,h2⟩
  | dead=>exact h2.elim
  | map es=>exact h2.elim
def jC(cs:List AV)(o n:Nat)(k:List AV->Prop):Prop:=o<=cs.length∧n<=(cs.drop o).length∧k ((cs.drop o).take n)
theorem qhS{cs:List AV}{o n:Nat}{k:List AV->Prop}:jC cs o n k↔ifK (o+n<=cs.length) (evL ((cs.drop o).take n) k):=by
 unfold jC ifK;rw[List.length_drop];exact⟨fun⟨h1,h2,h3⟩=>⟨by omega,h3⟩,fun⟨h1,h2⟩=>⟨by omega,by omega,h2⟩⟩
omit [Cur] in
theorem drop_take{cs:List AV}{o n:Nat}{k:List AV->Prop}:xg o cs (fun l=>zN n l k)↔jC cs o n k:=by
 rw[qA,qt];exact Iff.rfl
omit [Cur] in
theorem qgi{b o:Nat}{k:AV->Prop}:ldV h (.ptr b o) k↔evB (h.tr.get b) (fun x=>zQ x (fun _ _ _ cs=>evO cs[o]? k)):=by
 show zw h b (fun _ _ _ cs=>wo cs o k)↔_
 rw[jO]
 have:(fun (_:Nat) (_ _:Bool) (cs:List AV)=>wo cs o k)=fun _ _ _ cs=>evO cs[o]? k:=by
  funext _ _ _ cs;exact propext (qX _ _ _)
 rw[this]
omit [Cur] in
theorem qmg{cs:List AV}{o:Nat}{k:AV->Prop}:ldV h (.pf cs o) k↔evO cs[o]? k:=qX _ _ _
omit [Cur] in
theorem qme{b o:Nat}{k:AV->Prop}:ldK h b o k↔evB (h.tr.get b) (fun x=>zQ x (fun _ _ _ cs=>evO cs[o]? k)):=qgi
omit [Cur] in
theorem qgj{b o n:Nat}{k:List AV->Prop}:zX h b o n k↔evB (h.tr.get b) (fun x=>zQ x (fun _ _ _ cs=>jC cs o n k)):=by
 show zw h b (fun _ _ _ cs=>xg o cs (fun l=>zN n l k))↔_
 rw[jO]
 grind[drop_take]
omit [Cur] in
theorem qin{b o n:Nat}{k:List AV->Prop}:qa4 h (.ptr b o) n k↔evB (h.tr.get b) (fun x=>zQ x (fun _ _ _ cs=>jC cs o n k)):=qgj
omit [Cur] in
theorem qki{cs:List AV}{o n:Nat}{k:List AV->Prop}:qa4 h (.pf cs o) n k↔jC cs o n k:=drop_take
omit [Cur] in
theorem qit{b o n:Nat}{k:AV->Prop}:qaK (.ptr b o) n k↔evN (o+n) (fun o'=>k (.ptr b o')):=qS (n:=o+n) (k:=fun o'=>k (.ptr b o'))
omit [Cur] in
theorem qku{cs:List AV}{o n:Nat}{k:AV->Prop}:qaK (.pf cs o) n k↔evN (o+n) (fun o'=>k (.pf cs o')):=qS (n:=o+n) (k:=fun o'=>k (.pf cs o'))
theorem qnj{b o:Nat}{vs:List AV}{k:Hp->Prop}:stK h b o vs k↔evB (h.tr.get b) (fun x=>zQ x (fun e w a cs=>ifK (w=true∧qu vs=true∧o+vs.length<=cs.length) (evL (cs.take o++(vs++cs.drop (o+vs.length))) (fun cs'=>qY h b (.cells e true a cs') k)))):=by
 show zw h b _↔_;rw[jO]
 have:(fun (e:Nat) (w a:Bool) (cs:List AV)=>(Bool.rec (motive:=fun _=>Prop) False (Bool.rec (motive:=fun _=>Prop) False (zd vs o cs (fun cs'=>qY h b (.cells e w a cs') k)) (qu vs)) w:Prop)) =
   fun e w a cs=>ifK (w=true∧qu vs=true∧o+vs.length<=cs.length) (evL (cs.take o++(vs++cs.drop (o+vs.length))) (fun cs'=>qY h b (.cells e true a cs') k)):=by
  funext e w a cs;refine propext ?_;cases w with
  | false=>exact⟨False.elim,fun hh=>by have:=hh.1.1;grind⟩
  | true =>
   cases hc:qu vs with
   | false=>exact⟨False.elim,fun hh=>by have:=hh.1.2.1;grind⟩
   | true=>exact (zi _ _ _ _).trans ⟨fun⟨h1,h2⟩=>⟨⟨rfl,rfl,h1⟩,h2⟩,fun⟨⟨_,_,h1⟩,h2⟩=>⟨h1,h2⟩⟩
 rw[this]
def stV(h:Hp)(b o:Nat)(v:AV)(n:Nat)(k:Hp->Prop):Prop:=qb (jD v) (jZ (cellsOf v) (fun m=>qb (Nat.beq m n) (stK h b o (cellsOf v) k)))
theorem jg{x y:Nat}:Nat.beq x y=true↔x=y:=(by simp_all)
theorem qiY{b o:Nat}{v:AV}{n:Nat}{k:Hp->Prop}:stV h b o v n k↔ifK (jD v=true) (evL (cellsOf v) (fun cs=>ifK (cs.length=n) (stK h b o cs k))):=by
 unfold stV;rw[qa,zp,qa,jg];exact Iff.rfl
omit [Cur] in
theorem zb{x y:Nat}:Nat.ble x y=true↔x<=y:=by simp_all

omit [Cur] in
theorem qkU{x:O}:opK qi (.mov x) t h k↔evK t x (fun v=>k v h):=Iff.rfl
omit [Cur] in
theorem xZ{b:Bool}{p q:Prop}:(Bool.rec (motive:=fun _=>Prop) q p b:Prop)↔if b=true then p else q:=by cases b<;>simp
omit [Cur] in
theorem qiF{c x y:O}:opK qi (.pick c x y) t h k↔evK t c (fun c=>unB c (fun c=>if c=true then evK t x (fun v=>k v h) else evK t y (fun v=>k v h))):=by
 show evK t c (fun c=>unB c (fun c=>Bool.rec (motive:=fun _=>Prop) (evK t y (fun v=>k v h)) (evK t x (fun v=>k v h)) c))↔_
 simp only[xZ]
omit [Cur] in
theorem qgD{z:List AV}:opK qi (.alloc z) t h k↔qN h (.cells 0 true false z) (fun b h'=>k (.ptr b 0) h'):=Iff.rfl
omit [Cur] in
theorem qkH{x:O}:opK qi (.box x) t h k↔evK t x (fun v=>qb (jD v) (evL (cellsOf v) (fun cs=>qN h (.cells 0 true false cs) (fun b h'=>k (.ptr b 0) h')))):=Iff.rfl
omit [Cur] in
theorem qgE{z:List AV}{ps:List (Nat×Nat×O)}:opK qi (.build z ps) t h k↔zu t ps z (fun cs=>k (.agg cs) h):=Iff.rfl
omit [Cur] in
theorem qeR{n:Nat}{z:List AV}{ps:List (Nat×Nat×O)}:opK qi (.buildS n z ps) t h k↔evL (List.replicate n z).flatten (fun cs=>zu t ps cs (fun cs=>qN h (.cells 0 true false cs) (fun b h'=>k (.sl b 0 n n false) h'))):=by
 show qau z n _↔_;rw[zC];exact Iff.rfl
omit [Cur] in
theorem qgJ{x:O}:opK qi (.load1 x) t h k↔evK t x (fun p=>ldV h p (fun v=>k v h)):=Iff.rfl
omit [Cur] in
theorem qgK{n:Nat}{x:O}:opK qi (.loadN n x) t h k↔evK t x (fun p=>qa4 h p n (fun cs=>k (.agg cs) h)):=Iff.rfl
omit [Cur] in
theorem qgN{n:Nat}{x v:O}:opK qi (.store n x v) t h k↔evK t x (fun p=>unP p (fun b o=>evK t v (fun v=>stV h b o v n (fun h'=>k .undef h')))):=Iff.rfl
def qb1(v:AV)(k:AV->Prop):Prop:=match v with | .ptr b o=>k (.ptr b o) | .fn f a c=>k (.fn f a c) | .map r=>k (.map r) | .pf cs o=>k (.pf cs o) | .yl b=>k (.yl b)|_=>False
theorem qeU{x:O}:opK qi (.nilChk x) t h k↔evK t x (fun v=>qb1 v (fun v=>k v h)):=by
 show evK t x (fun v=>_)↔_
 refine iff_of_eq (congrArg _ (funext fun v=>?_))
 cases v<;>rfl
omit [Cur] in
theorem qkG{op:BinOp}{x y:O}:opK qi (.bin op x y) t h k↔evK t x (fun x=>evK t y (fun y=>qO qi op x y (fun v=>k v h))):=Iff.rfl
omit [Cur] in
theorem qkK{neg:Bool}{x y:O}:opK qi (.eqB neg x y) t h k↔evK t x (fun x=>evK t y (fun y=>unB x (fun x=>unB y (fun y=>evT (xor neg (x==y)) (fun r=>k (.b r) h))))):=by
 show evK t x (fun x=>evK t y (fun y=>unB x (fun x=>unB y (fun y=>qn _ _))))↔_
 simp only[qaD]
omit [Cur] in
theorem qkL{neg:Bool}{q:NK}{x:O}:opK qi (.eqN neg q x) t h k↔evK t x (fun x=>qZ q x (fun r=>evT (xor neg r) (fun r=>k (.b r) h))):=by
 show evK t x (fun x=>qZ q x (fun r=>qn _ _))↔_
 grind[qaD]
omit [Cur] in
theorem qkJ{neg:Bool}{ks:List PK}{x y:O}:opK qi (.eqA neg ks x y) t h k↔evK t x (fun x=>evK t y (fun y=>match x with | .agg a=>(match y with | .agg c=>zh ks a c (fun r=>qn (xor neg r) (fun r=>k (.b r) h))|_=>False)|_=>False)):=Iff.rfl
omit [Cur] in
theorem qmr{op:UnOp}{x:O}:opK qi (.un op x) t h k↔evK t x (fun x=>xS op x (fun v=>k v h)):=Iff.rfl
omit [Cur] in
theorem qgG{q:IntKind}{x:O}:opK qi (.cvInt q x) t h k↔evK t x (fun x=>cvK qi q x (fun v=>k v h)):=Iff.rfl
theorem qgH{x:O}:opK qi (.cvStr x) t h k↔evK t x (fun x=>match x with | .s a=>k (.s a) h|_=>False):=Iff.rfl
omit [Cur] in
theorem qkV{x:O}:opK qi (.s2b x) t h k↔evK t x (fun x=>match x with | .s a=>qN h (.cells 1 true true (a.map fun c=>.i .u8 (Int.ofNat c.toNat))) (fun b h'=>k (.own b a.length) h')|_=>False):=by
 show evK t x (fun x=>_)↔_
 refine iff_of_eq (congrArg _ (funext fun v=>?_))
 cases v<;>first|rfl|exact qg _ _
omit [Cur] in
theorem qkF{x:O}:opK qi (.b2s x) t h k↔evK t x (fun x=>match x with
  | .nils=>k (.s []) h
  | .sl b o n _ _=>zX h b o n (fun cs=>qK cs (fun l=>k (.s l) h))
  | .fz n cs=>jC cs 0 n (fun cs=>qK cs (fun l=>k (.s l) h))
  | .e0=>k (.s []) h
  | .own b n=>zX h b 0 n (fun cs=>qK cs (fun l=>k (.s l) h))
  | _=>False):=by
 show evK t x (fun x=>_)↔_
 refine iff_of_eq (congrArg _ (funext fun v=>?_))
 cases v<;>first|rfl|exact propext ((qt _ _ _).trans ⟨fun hh=>⟨Nat.zero_le _,by simpa using hh⟩,fun hh=>by simpa using hh.2⟩)
omit [Cur] in
theorem qgI{off:Nat}{x:O}:opK qi (.fAddr off x) t h k↔evK t x (fun p=>qaK p off (fun v=>k v h)):=Iff.rfl
def qjW(off:Nat)(n:Option Nat)(x:AV)(k:AV->Prop):Prop:=match x with
 | .agg cs=>(match n with|none=>evO cs[off]? k|some n=>jC cs off n (fun l=>k (.agg l)))
 | _=>False
theorem qfZ{off:Nat}{cs:List AV}{k:AV->Prop}:qjW off none (.agg cs) k↔evO cs[off]? k:=Iff.rfl
omit [Cur] in
theorem qf0{off n:Nat}{cs:List AV}{k:AV->Prop}:qjW off (some n) (.agg cs) k↔jC cs off n (fun l=>k (.agg l)):=Iff.rfl
omit [Cur] in
theorem qkN{off:Nat}{n:Option Nat}{x:O}:opK qi (.fld off n x) t h k↔evK t x (fun x=>qjW off n x (fun v=>k v h)):=by
 show evK t x (fun x=>_)↔_
 refine iff_of_eq (congrArg _ (funext fun v=>?_))
 cases v<;>first|rfl|skip
 cases n with
 | none=>exact propext (qX _ _ _)
 | some n=>exact propext drop_take
omit [Cur] in
theorem qeS{len esz:Nat}{x i:O}:opK qi (.iAddrA len esz x i) t h k↔evK t x (fun p=>evK t i (fun i=>unN i (fun i=>ifK (i<len) (evN (i*esz) (fun o=>qaK p o (fun v=>k v h)))))):=by
 show evK t x (fun p=>evK t i (fun i=>unN i (fun i=>qb (Nat.ble (Nat.succ i) len) _)))↔_
 simp only[qa,zb];exact Iff.rfl
def ixK(esz:Nat)(x:AV)(i:Nat)(k:AV->Prop):Prop:=match x with
 | .sl b o len _ _=>ifK (i<len) (evN (o+i*esz) (fun o'=>k (.ptr b o')))
 | .fz len cs=>ifK (i<len) (evN (i*esz) (fun o'=>k (.pf cs o')))
 | .own b len=>ifK (i<len) (evN (i*esz) (fun o'=>k (.ptr b o')))
 | _=>False
theorem qma{esz i b o len cap:Nat}{l:Bool}{k:AV->Prop}:ixK esz (.sl b o len cap l) i k↔ifK (i<len) (evN (o+i*esz) (fun o'=>k (.ptr b o'))):=Iff.rfl
omit [Cur] in
theorem ql9{esz i len:Nat}{cs:List AV}{k:AV->Prop}:ixK esz (.fz len cs) i k↔ifK (i<len) (evN (i*esz) (fun o'=>k (.pf cs o'))):=Iff.rfl
omit [Cur] in
theorem qkb{esz i b len:Nat}{k:AV->Prop}:ixK esz (.own b len) i k↔ifK (i<len) (evN (i*esz) (fun o'=>k (.ptr b o'))):=Iff.rfl
def qdW(x:AV)(p:Prop):Prop:=match x with | .sl _ _ _ _ _=>p | .fz _ _=>p | .own _ _=>p|_=>False
theorem qge{b o len cap:Nat}{l:Bool}{p:Prop}:qdW (.sl b o len cap l) p↔p:=Iff.rfl
omit [Cur] in
theorem qgd{len:Nat}{cs:List AV}{p:Prop}:qdW (.fz len cs) p↔p:=Iff.rfl
omit [Cur] in
theorem qeH{b len:Nat}{p:Prop}:qdW (.own b len) p↔p:=Iff.rfl
omit [Cur] in
theorem qeT{esz:Nat}{x i:O}:opK qi (.iAddrS esz x i) t h k↔evK t x (fun x=>qdW x (evK t i (fun i=>unN i (fun i=>ixK esz x i (fun v=>k v h))))):=by
 show evK t x (fun x=>_)↔_
 refine iff_of_eq (congrArg _ (funext fun v=>?_))
 cases v<;>first|rfl|(simp only[qa,zb,qS];rfl)
omit [Cur] in
theorem qiD{len esz:Nat}{agg:Bool}{x i:O}:opK qi (.idxA len esz agg x i) t h k↔evK t x (fun x=>match x with
  | .agg cs=>evK t i (fun i=>unN i (fun i=>ifK (i<len) (evN (i*esz) (fun o=>if agg=true then jC cs o esz (fun l=>k (.agg l) h) else evO cs[o]? (fun v=>k v h)))))
  | _=>False):=by
 show evK t x (fun x=>_)↔_
 refine iff_of_eq (congrArg _ (funext fun v=>?_))
 cases v<;>first|rfl|skip
 simp only[qa,zb,qS,xZ,drop_take];have:∀(cs:List AV) (o:Nat),wo cs o (fun v=>k v h)=evO cs[o]? (fun v=>k v h):=fun cs o=>propext (qX _ _ _)
 simp only[this];rfl
def evC(o:Option UInt8)(k:UInt8->Prop):Prop:=∃v,o=some v∧k v
theorem qcL{v:UInt8}{k:UInt8->Prop}:evC (some v) k↔k v:=by simp[evC]
theorem qiE{x i:O}:opK qi (.idxS x i) t h k↔evK t x (fun x=>match x with
  | .s a=>evK t i (fun i=>unN i (fun i=>evC a[i]? (fun c=>k (.i .u8 (c.toNat:Int)) h)))
  | _=>False):=by
 show evK t x (fun x=>_)↔_
 refine iff_of_eq (congrArg _ (funext fun v=>?_))
 cases v<;>first|rfl|skip
 rename_i a
 have e:∀(j:Nat),(Option.rec (motive:=fun _=>Prop) False (fun c=>k (.i .u8 (Int.ofNat c.toNat)) h) (a[j]?):Prop)=evC a[j]? (fun c=>k (.i .u8 (c.toNat:Int)) h):=by
  intro j;cases ha:a[j]? with
  | none=>exact propext ⟨False.elim,fun⟨_,h1,_⟩=>by cases h1⟩
  | some c=>exact (propext (qcL (k:=fun c=>k (.i .u8 (c.toNat:Int)) h) (v:=c))).symm
 simp_all
def bdK(x:Option AV)(dflt top:Nat)(k:Nat->Prop):Prop:=qai x dflt top k
theorem qhl{a b:Nat}{k:Nat->Prop}:bdK none a b k↔k a:=Iff.rfl
omit [Cur] in
theorem qhm{v:AV}{a b:Nat}{k:Nat->Prop}:bdK (some v) a b k↔unN v (fun n=>ifK (n<=b) (k n)):=by
 show unN v (fun n=>qb (Nat.ble n b) (qd n k))↔_
 simp only[qa,zb,qg];exact Iff.rfl
omit [Cur] in
theorem qhD{len cap:Nat}{lo:Option AV}{k:Nat->Nat->Nat->Prop}:qF len cap lo none none k↔ifK (len<=cap) (bdK lo 0 len (fun l=>k l len cap)):=by
 show qb (Nat.ble len cap) (qai lo 0 len (fun l=>k l len cap))↔_
 rw[qa,zb];exact Iff.rfl
omit [Cur] in
theorem qhC{len cap:Nat}{lo:Option AV}{hi:AV}{k:Nat->Nat->Nat->Prop}:qF len cap lo (some hi) none k↔unN hi (fun u=>ifK (u<=cap) (bdK lo 0 u (fun l=>k l u cap))):=by
 show unN hi (fun u=>qb (Nat.ble u cap) (qd u (fun u=>qai lo 0 u (fun l=>k l u cap))))↔_
 simp only[qa,zb,qg];exact Iff.rfl
omit [Cur] in
theorem qhE{len cap:Nat}{lo:Option AV}{hi mx:AV}{k:Nat->Nat->Nat->Prop}:qF len cap lo (some hi) (some mx) k↔unN mx (fun m=>ifK (m<=cap) (unN hi (fun u=>ifK (u<=m) (bdK lo 0 u (fun l=>k l u m))))):=by
 show unN mx (fun m=>qb (Nat.ble m cap) (qd m (fun m=>unN hi (fun u=>qb (Nat.ble u m) (qd u (fun u=>qai lo 0 u (fun l=>k l u m)))))))↔_
 simp only[qa,zb,qg];exact Iff.rfl
def slK(esz:Nat)(lo hi mx:Option AV)(x:AV)(h:Hp)(k:AV->Prop):Prop:=match x with
 | .nils=>qF 0 0 lo hi mx (fun _ _ _=>k .nils)
 | .e0=>qF 0 0 lo hi mx (fun _ _ _=>k .e0)
 | .fz n cs=>qF n n lo hi mx (fun l h' m=>if (mx.isSome&&Nat.beq m l)=true then k .e0 else evN (l*esz) (fun o=>evN (h'-l) (fun len'=>evN (len'*esz) (fun z=>jC cs o z (fun l2=>k (.fz len' l2))))))
 | .sl b o len cap loose=>qF len cap lo hi mx (fun l h' m=>evN (if (loose&&mx.isNone)=false∧m=l then o else o+l*esz) (fun o'=>evN (h'-l) (fun len'=>evN (m-l) (fun cap'=>qa2 h b esz (loose&&mx.isNone) (k (.sl b o' len' cap' (loose&&mx.isNone)))))))
 | .own b n=>match mx with
  | none=>if n=0 then qF 0 0 lo hi none (fun _ _ _=>k (.own b 0)) else qF n n lo hi none (fun l h' m=>evN (l*esz) (fun o'=>evN (h'-l) (fun len'=>evN (m-l) (fun cap'=>qa2 h b esz true (k (.sl b o' len' cap' true))))))
  | some u=>if n=0 then qF 0 0 lo hi (some u) (fun _ _ _=>k (.own b 0)) else qF n n lo hi (some u) (fun l h' m=>evN (if m=l then 0 else l*esz) (fun o'=>evN (h'-l) (fun len'=>evN (m-l) (fun cap'=>k (.sl b o' len' cap' false)))))
 | _=>False
@[congr] theorem qjQ {b esz:Nat} {c:Bool} {p:Prop} {mk:Prop} (_:qL=mk):qa2 h b esz c p=qa2 h b esz c p:=rfl
theorem qez{b esz:Nat}{p:Prop}:qa2 h b esz false p↔p:=Iff.rfl
theorem qfS{b esz:Nat}{p:Prop}:qa2 h b esz true p↔evB (h.tr.get b) (fun x=>zQ x (fun e _ _ _=>ifK (e=esz) p)):=by
 show zw h b (fun e _ _ _=>qb (Nat.beq e esz) p)↔_
 rw[jO];simp only[qa,jg];exact Iff.rfl
omit [Cur] in
theorem qiU{esz:Nat}{lo hi mx:Option AV}{k:AV->Prop}:slK esz lo hi mx .nils h k↔qF 0 0 lo hi mx (fun _ _ _=>k .nils):=Iff.rfl
omit [Cur] in
theorem qmu{esz:Nat}{lo hi mx:Option AV}{k:AV->Prop}:slK esz lo hi mx .e0 h k↔qF 0 0 lo hi mx (fun _ _ _=>k .e0):=Iff.rfl
omit [Cur] in
theorem qmv{esz n:Nat}{cs:List AV}{lo hi:Option AV}{k:AV->Prop}:slK esz lo hi none (.fz n cs) h k↔qF n n lo hi none (fun l h' _=>evN (l*esz) (fun o=>evN (h'-l) (fun len'=>evN (len'*esz) (fun z=>jC cs o z (fun l2=>k (.fz len' l2)))))):=by
 simp only[slK,Option.isSome_none,Bool.false_and,Bool.false_eq_true,if_false]
omit [Cur] in
theorem qk7{esz b o len cap:Nat}{lo hi mx:Option AV}{k:AV->Prop}:slK esz lo hi mx (.sl b o len cap false) h k↔qF len cap lo hi mx (fun l1 h' m=>evN (if m=l1 then o else o+l1*esz) (fun o'=>evN (h'-l1) (fun len'=>evN (m-l1) (fun cap'=>k (.sl b o' len' cap' false))))):=by
 simp only[slK,Bool.false_and,true_and];exact Iff.rfl
omit [Cur] in
theorem qk8{esz b o len cap:Nat}{lo hi:Option AV}{k:AV->Prop}:slK esz lo hi none (.sl b o len cap true) h k↔qF len cap lo hi none (fun l1 h' m=>evN (o+l1*esz) (fun o'=>evN (h'-l1) (fun len'=>evN (m-l1) (fun cap'=>qa2 h b esz true (k (.sl b o' len' cap' true)))))):=by
 simp only[slK,Option.isNone_none,Bool.and_self,Bool.true_eq_false,false_and,if_false]
omit [Cur] in
theorem qk6{esz b n:Nat}{lo hi:Option AV}{k:AV->Prop}:slK esz lo hi none (.own b n) h k↔if n=0 then qF 0 0 lo hi none (fun _ _ _=>k (.own b 0)) else qF n n lo hi none (fun l h' m=>evN (l*esz) (fun o'=>evN (h'-l) (fun len'=>evN (m-l) (fun cap'=>qa2 h b esz true (k (.sl b o' len' cap' true)))))):=by
 exact Iff.rfl
omit [Cur] in
theorem qiH{esz:Nat}{x:O}{lo hi mx:Option O}:opK qi (.slcS esz x lo hi mx) t h k↔evK t x (fun x=>zI t lo (fun lo=>zI t hi (fun hi=>zI t mx (fun mx=>slK esz lo hi mx x h (fun v=>k v h))))):=by
 show evK t x (fun x=>_)↔_
 refine iff_of_eq (congrArg _ (funext fun v=>congrArg _ (funext fun lo=>congrArg _ (funext fun hi=>congrArg _ (funext fun mx=>?_)))))
 cases v<;>first|rfl|skip
 ·simp only[slK,qS];rfl
 ·have e:∀(cs:List AV) (o m:Nat),xg o cs (fun l1=>evN m (fun len'=>zN (Nat.mul len' esz) l1 (fun l2=>k (.fz len' l2) h)))=evN m (fun len'=>evN (len'*esz) (fun z=>jC cs o z (fun l2=>k (.fz len' l2) h))):=by
   intro cs o m;refine propext ⟨fun hh=>?_,fun hh=>?_⟩
   ·obtain⟨h1,h2⟩:=(qA _ _ _).1 hh;obtain⟨h3,h4⟩:=(qt _ _ _).1 h2;exact⟨h1,h3,h4⟩
   ·obtain⟨h1,h3,h4⟩:=hh;exact (qA _ _ _).2 ⟨h1,(qt _ _ _).2 ⟨h3,h4⟩⟩
  simp only[slK,qS,xZ,e];rfl
 ·rename_i b n;cases mx with
  | some m =>
   cases n with
   | zero=>simp only[slK,if_true];rfl
   | succ n=>simp only[slK,Nat.succ_ne_zero,if_false,qS];rfl
  | none =>
   cases n with
   | zero=>simp only[slK,if_true];rfl
   | succ n=>simp only[slK,Nat.succ_ne_zero,if_false,qS];rfl
omit [Cur] in
theorem qeW{x:O}{lo hi:Option O}:opK qi (.slcStr x lo hi) t h k↔evK t x (fun x=>zI t lo (fun lo=>zI t hi (fun hi=>match x with
  | .s a=>qF a.length a.length lo hi none (fun l h' _=>evA (.s ((a.take h').drop l)) (fun v=>k v h))
  | _=>False))):=Iff.rfl
omit [Cur] in
theorem qiG{len esz:Nat}{x:O}{lo hi mx:Option O}:opK qi (.slcA len esz x lo hi mx) t h k↔evK t x (fun p=>unP p (fun b o=>zI t lo (fun lo=>zI t hi (fun hi=>zI t mx (fun mx =>
   qF len len lo hi mx (fun l h' m=>evN (if m=l then o else o+l*esz) (fun o'=>evN (h'-l) (fun len'=>evN (m-l) (fun cap'=>k (.sl b o' len' cap' false) h))))))))):=by
 show evK t x (fun p=>unP p (fun b o=>zI t lo (fun lo=>zI t hi (fun hi=>zI t mx (fun mx=>qF len len lo hi mx (fun l h' m=>qd (if m=l then o else Nat.add o (Nat.mul l esz)) _))))))↔_
 simp only[qS];simp_all
omit [Cur] in
theorem qkM{x:O}{i:Nat}:opK qi (.ext x i) t h k↔evK t x (fun x=>match x with | .tup cs=>evO cs[i]? (fun v=>k v h)|_=>False):=by
 show evK t x (fun x=>_)↔_
 refine iff_of_eq (congrArg _ (funext fun v=>?_))
 cases v<;>first|rfl|exact propext (qX _ _ _)
omit [Cur] in
theorem qkR{f:Nat}{a c:List O}:opK qi (.mkF f a c) t h k↔zn t a (fun a=>zn t c (fun c=>k (.fn f a c) h)):=Iff.rfl
omit [Cur] in
theorem qkT{e bytes:Nat}{z:List AV}{len cap:O}:opK qi (.mkS e bytes z len cap) t h k↔evK t len (fun len=>evK t cap (fun cap=>unN len (fun l=>unN cap (fun c=>ifK (l<=c) (ifK (c<=qk) (ifK (bytes*c<=qk) (evL (List.replicate c z).flatten (fun cs=>qN h (.cells 0 true false cs) (fun b h'=>k (.sl b 0 l c false) h'))))))))):=by
 show evK t len (fun len=>evK t cap (fun cap=>unN len (fun l=>unN cap (fun c=>qb (Nat.ble l c) (qb (Nat.ble c qk) (qb (Nat.ble (Nat.mul bytes c) qk) (qau z c _)))))))↔_
 simp only[qa,zb,zC];exact Iff.rfl
def lnK(str:Bool)(x:AV)(k:AV->Prop):Prop:=match x,str with
 | .nils,false=>k (.i .i64 0)
 | .e0,false=>k (.i .i64 0)
 | .nz,false=>k (.i .i64 0)
 | .fz n _,false=>evA (.i .i64 (n:Int)) k
 | .own _ n,false=>evA (.i .i64 (n:Int)) k
 | .sl _ _ n _ _,false=>evA (.i .i64 (n:Int)) k
 | .s a,true=>evA (.i .i64 (a.length:Int)) k
 | _,_=>False
theorem qkO{str:Bool}{x:O}:opK qi (.len str x) t h k↔evK t x (fun x=>lnK str x (fun v=>k v h)):=by
 show evK t x (fun x=>_)↔_
 refine iff_of_eq (congrArg _ (funext fun v=>?_))
 cases v<;>cases str<;>first|rfl|exact qg _ _
omit [Cur] in
theorem qiq{k:AV->Prop}:lnK false .nils k↔k (.i .i64 0):=Iff.rfl
omit [Cur] in
theorem qmk{k:AV->Prop}:lnK false .nz k↔k (.i .i64 0):=Iff.rfl
omit [Cur] in
theorem qmi{k:AV->Prop}:lnK false .e0 k↔k (.i .i64 0):=Iff.rfl
omit [Cur] in
theorem qmj{n:Nat}{cs:List AV}{k:AV->Prop}:lnK false (.fz n cs) k↔evA (.i .i64 (n:Int)) k:=Iff.rfl
omit [Cur] in
theorem qkn{b n:Nat}{k:AV->Prop}:lnK false (.own b n) k↔evA (.i .i64 (n:Int)) k:=Iff.rfl
omit [Cur] in
theorem qml{b o n c:Nat}{l:Bool}{k:AV->Prop}:lnK false (.sl b o n c l) k↔evA (.i .i64 (n:Int)) k:=Iff.rfl
omit [Cur] in
theorem qmY{a:List UInt8}{k:AV->Prop}:lnK true (.s a) k↔evA (.i .i64 (a.length:Int)) k:=Iff.rfl
omit [Cur] in
theorem qkE{esz bytes:Nat}{c:Bool}{s x:O}:opK qi (.app esz bytes c s x) t h k↔evK t s (fun s=>evK t x (fun x=>jv h esz bytes c s x k)):=Iff.rfl
omit [Cur] in
theorem qiA{esz bytes:Nat}{s x:O}:opK qi (.appF esz bytes s x) t h k↔evK t s (fun s=>evK t x (fun x=>jv h esz bytes true s x k)):=Iff.rfl
def qfp(esz bytes:Nat)(z:List AV)(h:Hp)(s:AV)(n:Nat)(k:AV->Hp->Prop):Prop:=match s with
  | .sl b o len cap false=>evN (len+n) (fun need=>ifK (cap<need) (ifK (need<=qk) (ifK (need*bytes<=qk) (evN (len*esz) (fun m=>zX h b o m (fun old=>evL (old++(List.replicate n z).flatten) (fun cs=>qN h (.cells esz true true cs) (fun b' h'=>k (.own b' need) h'))))))))
  | .nils=>ifK (1<=n) (ifK (n<=qk) (ifK (n*bytes<=qk) (evL ((List.replicate n z).flatten) (fun cs=>qN h (.cells esz true true cs) (fun b' h'=>k (.own b' n) h')))))
  | _=>False
theorem qjv{esz bytes b o len cap n:Nat}{z:List AV}:qfp esz bytes z h (.sl b o len cap false) n k↔evN (len+n) (fun need=>ifK (cap<need) (ifK (need<=qk) (ifK (need*bytes<=qk) (evN (len*esz) (fun m=>zX h b o m (fun old=>evL (old++(List.replicate n z).flatten) (fun cs=>qN h (.cells esz true true cs) (fun b' h'=>k (.own b' need) h')))))))):=Iff.rfl
omit [Cur] in
theorem qfq{esz bytes n:Nat}{z:List AV}:qfp esz bytes z h .nils n k↔ifK (1<=n) (ifK (n<=qk) (ifK (n*bytes<=qk) (evL ((List.replicate n z).flatten) (fun cs=>qN h (.cells esz true true cs) (fun b' h'=>k (.own b' n) h'))))):=Iff.rfl
omit [Cur] in
theorem qiB{esz bytes:Nat}{z:List AV}{s x:O}:opK qi (.appZ esz bytes z s x) t h k↔evK t s (fun s=>evK t x (fun x=>unN x (fun n=>qfp esz bytes z h s n k))):=by
 show evK t s (fun s=>evK t x (fun x=>unN x (fun n=>_)))↔_
 refine iff_of_eq (congrArg _ (funext fun v=>congrArg _ (funext fun x=>congrArg _ (funext fun n=>propext ?_))))
 cases v<;>first|exact Iff.rfl|skip
 ·simp only[qfp,qa,zb,zC,ifK,evL];rfl
 rename_i b o len cap loose;cases loose with
 | true=>exact⟨fun hh=>absurd ((qa (!true) _).1 hh).1 (by simp),False.elim⟩
 | false =>
  simp only[qfp,qa,zb,zC,zl,Bool.not_false,true_and,evN,ifK,evL];rfl
omit [Cur] in
theorem qiC{esz:Nat}{s x:O}:opK qi (.copy esz s x) t h k↔evK t s (fun s=>evK t x (fun x=>qaS h esz s x k)):=Iff.rfl
omit [Cur] in
theorem qev{esz:Nat}{s:AV}:qaS h esz .nils s k↔zU h esz s (fun _ _=>k (.i .i64 0) h):=Iff.rfl
omit [Cur] in
theorem qhQ{esz b o len c:Nat}{l:Bool}{s:AV}:qaS h esz (.sl b o len c l) s k↔zU h esz s (fun n new=>evN (min n len) (fun m=>evN (m*esz) (fun z=>jC new 0 z (fun cs=>stK h b o cs (fun h'=>evA (.i .i64 (m:Int)) (fun v=>k v h')))))):=by
 show zU h esz s (fun n new=>qd (min n len) (fun m=>zN (Nat.mul m esz) new (fun cs=>stK h b o cs (fun h'=>k (.i .i64 (Int.ofNat m)) h'))))↔_
 simp only[qS];refine iff_of_eq (congrArg _ (funext fun n=>funext fun new=>congrArg _ (funext fun m=>propext ?_)))
 exact (qt _ _ _).trans ⟨fun hh=>⟨Nat.zero_le _,by simpa[evA] using hh⟩,fun hh=>by simpa[evN,jC,evA] using hh⟩
omit [Cur] in
theorem qkQ{x y:O}:opK qi (.min x y) t h k↔evK t x (fun x=>evK t y (fun y=>unI x (fun q n=>unI y (fun _ m=>evA (.i q (if m<n then m else n)) (fun v=>k v h))))):=by
 have e:∀(q:IntKind) (n m:Int),(Bool.rec (motive:=fun _=>Prop) (k (.i q n) h) (k (.i q m) h) (ltI m n):Prop)=evA (.i q (if m<n then m else n)) (fun v=>k v h):=by
  intro q n m;rw[xn]
  by_cases hlt:m<n
  ·rw[decide_eq_true hlt,if_pos hlt];rfl
  ·rw[decide_eq_false hlt,if_neg hlt];rfl
 show evK t x (fun x=>evK t y (fun y=>unI x (fun q n=>unI y (fun _ m=>Bool.rec (motive:=fun _=>Prop) (k (.i q n) h) (k (.i q m) h) (ltI m n)))))↔_
 simp_all
omit [Cur] in
theorem qkP{x y:O}:opK qi (.max x y) t h k↔evK t x (fun x=>evK t y (fun y=>unI x (fun q n=>unI y (fun _ m=>evA (.i q (if n<m then m else n)) (fun v=>k v h))))):=by
 have e:∀(q:IntKind) (n m:Int),(Bool.rec (motive:=fun _=>Prop) (k (.i q n) h) (k (.i q m) h) (ltI n m):Prop)=evA (.i q (if n<m then m else n)) (fun v=>k v h):=by
  intro q n m;rw[xn]
  by_cases hlt:n<m
  ·rw[decide_eq_true hlt,if_pos hlt];rfl
  ·rw[decide_eq_false hlt,if_neg hlt];rfl
 show evK t x (fun x=>evK t y (fun y=>unI x (fun q n=>unI y (fun _ m=>Bool.rec (motive:=fun _=>Prop) (k (.i q n) h) (k (.i q m) h) (ltI n m)))))↔_
 simp_all
def qfH(z:List AV)(x:AV)(h:Hp)(k:AV->Hp->Prop):Prop:=match x with
  | .nils=>k (.tup []) h
  | .sl b o n _ _=>if n=0 then k (.tup []) h else evL (List.replicate n z).flatten (fun cs=>stK h b o cs (fun h'=>k (.tup []) h'))
  | _=>False
theorem qfI{z:List AV}:qfH z .nils h k↔k (.tup []) h:=Iff.rfl
omit [Cur] in
theorem qjH{z:List AV}{b o n c:Nat}{l:Bool}:qfH z (.sl b o n c l) h k↔if n=0 then k (.tup []) h else evL (List.replicate n z).flatten (fun cs=>stK h b o cs (fun h'=>k (.tup []) h')):=Iff.rfl
omit [Cur] in
theorem qgF{z:List AV}{x:O}:opK qi (.clear z x) t h k↔evK t x (fun x=>qfH z x h k):=by
 show evK t x (fun x=>_)↔_
 refine iff_of_eq (congrArg _ (funext fun v=>?_))
 cases v<;>first|rfl|skip
 rename_i b o n c l;cases n with
 | zero=>simp only[qfH,if_true];rfl
 | succ n=>simp only[qfH,zC];rfl
omit [Cur] in
theorem qkS:opK qi .mkM t h k↔qN h (.map []) (fun b h'=>k (.map b) h'):=Iff.rfl
omit [Cur] in
theorem qeX{n:Nat}{x v:O}{ps:List Nat}:opK qi (.storeD n x v ps) t h k↔evK t x (fun p=>unP p (fun b o=>ze t b ps (evK t v (fun v=>stV h b o v n (fun h'=>k .undef h'))))):=Iff.rfl
omit [Cur] in
theorem qiz{esz bytes:Nat}{s x:O}{ps:List Nat}:opK qi (.appD esz bytes s x ps) t h k↔evK t s (fun s=>evK t x (fun x=>xc t ps s (jv h esz bytes true s x k))):=Iff.rfl
theorem qiS{ps:List Nat}{b m:Nat}{p:Prop}:xc t ps (.own b m) p↔ze t b ps p:=Iff.rfl
omit [Cur] in
theorem qk5{ps:List Nat}{b o m c:Nat}{l:Bool}{p:Prop}:xc t ps (.sl b o m c l) p↔ze t b ps p:=Iff.rfl
omit [Cur] in
theorem qk4{ps:List Nat}{m:Nat}{cs:List AV}{p:Prop}:xc t ps (.fz m cs) p↔p:=Iff.rfl
omit [Cur] in
theorem qg3{ps:List Nat}{p:Prop}:xc t ps .nils p↔p:=Iff.rfl
omit [Cur] in
theorem qk3{ps:List Nat}{p:Prop}:xc t ps .e0 p↔p:=Iff.rfl
theorem qeh{b:Nat}{p:Prop}:ze t b [] p↔p:=Iff.rfl
def neK(b:Nat)(y:AV)(p:Prop):Prop:=match y with | .ptr b' _=>ifK (¬b'=b) p | .pf _ _=>p|_=>False
theorem qkv{b b' o:Nat}{p:Prop}:neK b (.ptr b' o) p↔ifK (¬b'=b) p:=Iff.rfl
omit [Cur] in
theorem qmn{b o:Nat}{cs:List AV}{p:Prop}:neK b (.pf cs o) p↔p:=Iff.rfl
theorem qdf{b q:Nat}{ps:List Nat}{p:Prop}:ze t b (q::ps) p↔evO (t.get q) (fun y=>neK b y (ze t b ps p)):=by
 refine (Tr.getK_iff _ _ _).trans (iff_of_eq (congrArg _ (funext fun v=>?_)))
 refine congrArg _ ?_;cases v<;>first|rfl|skip
 rename_i b' o;refine propext ((qa _ _).trans ?_);show _∧_↔_∧_
 have:(!Nat.beq b' b)=true↔¬b'=b:=by
  rw[Bool.not_eq_true',← Bool.not_eq_true,jg]
 rw[this];exact Iff.rfl
def cpK(x:AV)(k:AV->Prop):Prop:=match x with
  | .nils=>k (.i .i64 0)
  | .e0=>k (.i .i64 0)
  | .sl _ _ _ c false=>evA (.i .i64 (c:Int)) k
  | _=>False
theorem qkI{x:O}:opK qi (.cap x) t h k↔evK t x (fun x=>cpK x (fun v=>k v h)):=by
 show evK t x (fun x=>_)↔_
 refine iff_of_eq (congrArg _ (funext fun v=>?_))
 cases v<;>first|rfl|skip
 rename_i l;cases l<;>rfl
omit [Cur] in
theorem qhR{k:AV->Prop}:cpK .nils k↔k (.i .i64 0):=Iff.rfl
omit [Cur] in
theorem qlW{k:AV->Prop}:cpK .e0 k↔k (.i .i64 0):=Iff.rfl
omit [Cur] in
theorem qlX{b o n c:Nat}{k:AV->Prop}:cpK (.sl b o n c false) k↔evA (.i .i64 (c:Int)) k:=Iff.rfl
omit [Cur] in
theorem qfX{l:List AV}{k:List AV->Prop}:zu t [] l k↔k l:=Iff.rfl
theorem qeB{off m:Nat}{x:O}{ps:List (Nat×Nat×O)}{l:List AV}{k:List AV->Prop}:zu t ((off,m,x)::ps) l k↔evK t x (fun v=>ifK (jD v=true) (evL (cellsOf v) (fun cs=>ifK (cs.length=m∧off+cs.length<=l.length) (evL (l.take off++(cs++l.drop (off+cs.length))) (fun l=>zu t ps l k))))):=by
 show evK t x (fun v=>qb (jD v) (qd off (fun off=>jZ (cellsOf v) (fun n=>qb (Nat.beq n m) (zd (cellsOf v) off l (fun l'=>zu t ps l' k))))))↔_
 simp only[qa,qg,zp,zi,jg,ifK,evL,and_assoc]
omit [Cur] in
theorem qg8{esz:Nat}{k:Nat->List AV->Prop}:zU h esz .nils k↔k 0 []:=Iff.rfl
omit [Cur] in
theorem qlc{esz:Nat}{k:Nat->List AV->Prop}:zU h esz .nz k↔k 0 []:=Iff.rfl
omit [Cur] in
theorem qla{esz:Nat}{k:Nat->List AV->Prop}:zU h esz .e0 k↔k 0 []:=Iff.rfl
omit [Cur] in
theorem qld{esz b o n c:Nat}{l:Bool}{k:Nat->List AV->Prop}:zU h esz (.sl b o n c l) k↔evN (n*esz) (fun m=>zX h b o m (fun cs=>k n cs)):=Iff.rfl
omit [Cur] in
theorem qiX{esz b n:Nat}{k:Nat->List AV->Prop}:zU h esz (.own b n) k↔evN (n*esz) (fun m=>zX h b 0 m (fun cs=>k n cs)):=Iff.rfl
omit [Cur] in
theorem qlb{esz n:Nat}{cs:List AV}{k:Nat->List AV->Prop}:zU h esz (.fz n cs) k↔evN (n*esz) (fun m=>jC cs 0 m (fun cs=>k n cs)):=by
 refine (qt _ _ _).trans ⟨fun hh=>⟨Nat.zero_le _,by simp_all⟩,fun hh=>by simpa[evN,jC] using hh⟩
theorem qmw{esz:Nat}{a:List UInt8}{k:Nat->List AV->Prop}:zU h esz (.s a) k↔ifK (esz=1) (k a.length (a.map fun c=>.i .u8 (Int.ofNat c.toNat))):=by
 show qb (Nat.beq esz 1) (qd a.length _)↔_;rw[qa,jg,qg];exact Iff.rfl
omit [Cur] in
theorem qfo{esz bytes:Nat}{c:Bool}{x:AV}:jv h esz bytes c .nils x k↔zU h esz x (fun n new=>ifK (n<=qk) (ifK (n*bytes<=qk) (qN h (.cells esz true true new) (fun b h'=>k (.own b n) h')))):=by
 show zU h esz x (fun n new=>qb (Nat.ble n qk) (qb (Nat.ble (Nat.mul n bytes) qk) _))↔_
 simp only[qa,zb];exact Iff.rfl
omit [Cur] in
theorem qjs{esz bytes:Nat}{c:Bool}{x:AV}:jv h esz bytes c .e0 x k↔zU h esz x (fun n new=>ifK (n<=qk) (ifK (n*bytes<=qk) (qN h (.cells esz true true new) (fun b h'=>k (.own b n) h')))):=by
 show zU h esz x (fun n new=>qb (Nat.ble n qk) (qb (Nat.ble (Nat.mul n bytes) qk) _))↔_
 simp only[qa,zb];exact Iff.rfl
theorem qhk{esz bytes b m:Nat}{x:AV}:jv h esz bytes true (.own b m) x k↔zU h esz x (fun n new=>evN (m+n) (fun need=>ifK (need<=qk) (ifK (need*bytes<=qk) (evB (h.tr.get b) (fun y=>zQ y (fun e w a ys =>
  ifK (qu new=true∧w=true∧a=true∧e=esz∧ys.length=m*esz) (evL (ys++new) (fun cs'=>qY h b .dead (fun h1=>qN h1 (.cells esz true true cs') (fun b' h'=>k (.own b' need) h')))))))))):=by
 show zU h esz x (fun n new=>qd (Nat.add m n) (fun need=>qb (Nat.ble need qk) (qb (Nat.ble (Nat.mul need bytes) qk) (zw h b (fun e w a ys=>_)))))↔_
 simp only[qS,qa,zb,jg,jO,zp,zl];refine iff_of_eq (congrArg _ (funext fun n=>funext fun new=>?_))
 simp only[ifK,evN,evL,and_assoc];rfl
omit [Cur] in
theorem qju{esz bytes b o len cap:Nat}{c:Bool}{x:AV}:jv h esz bytes c (.sl b o len cap false) x k↔zU h esz x (fun n new=>evN (len+n) (fun need=>if need<=cap then
  (if n=0 then k (.sl b o need cap false) h else evN (o+len*esz) (fun at_=>stK h b at_ new (fun h'=>k (.sl b o need cap false) h')))
  else ifK (need<=qk) (ifK (need*bytes<=qk) (evN (len*esz) (fun m=>zX h b o m (fun old=>evL (old++new) (fun cs=>qN h (.cells esz true true cs) (fun b' h'=>k (.own b' need) h')))))))):=by
 have e:∀(n:Nat) (p q:Prop),(Nat.rec (motive:=fun _=>Prop) p (fun _ _=>q) n:Prop)↔if n=0 then p else q:=by
  intro n p q;cases n with
  | zero=>rw[if_pos rfl];exact Iff.rfl
  | succ n=>rw[if_neg (by omega)]
 unfold jv;dsimp only;simp only[Bool.not_false,qS,qea,zb,xZ,zl,e,qcW];exact Iff.rfl
omit [Cur] in
theorem qjt{esz bytes m:Nat}{c:Bool}{cs:List AV}{x:AV}:jv h esz bytes c (.fz m cs) x k↔zU h esz x (fun n _=>ifK (n=0) (k (.fz m cs) h)):=by
 show zU h esz x (fun n _=>Nat.rec (motive:=fun _=>Prop) (k (.fz m cs) h) (fun _ _=>False) n)↔_
 refine iff_of_eq (congrArg _ (funext fun n=>funext fun new=>?_))
 cases n<;>simp[ifK];rfl
omit [Cur] in
theorem qgz{k:Bool->Prop}:qZ .ptr .nilp k↔k true:=Iff.rfl
omit [Cur] in
theorem qiw{b o:Nat}{k:Bool->Prop}:qZ .ptr (.ptr b o) k↔k false:=Iff.rfl
omit [Cur] in
theorem qkC{cs:List AV}{o:Nat}{k:Bool->Prop}:qZ .ptr (.pf cs o) k↔k false:=Iff.rfl
omit [Cur] in
theorem qkB{k:Bool->Prop}:qZ .slice .nz k↔k false:=Iff.rfl
omit [Cur] in
theorem qgA{k:Bool->Prop}:qZ .slice .nils k↔k true:=Iff.rfl
omit [Cur] in
theorem qkD{b o n c:Nat}{l:Bool}{k:Bool->Prop}:qZ .slice (.sl b o n c l) k↔k false:=Iff.rfl
omit [Cur] in
theorem qkA{n:Nat}{cs:List AV}{k:Bool->Prop}:qZ .slice (.fz n cs) k↔ifK (1<=n) (k false):=by
 show qb (Nat.ble 1 n) (k false)↔_;rw[qa,zb];exact Iff.rfl
omit [Cur] in
theorem qiv{b n:Nat}{k:Bool->Prop}:qZ .slice (.own b n) k↔ifK (1<=n) (k false):=by
 show qb (Nat.ble 1 n) (k false)↔_;rw[qa,zb];exact Iff.rfl
omit [Cur] in
theorem qgx{k:Bool->Prop}:qZ .func .nilf k↔k true:=Iff.rfl
omit [Cur] in
theorem qkz{f:Nat}{a c:List AV}{k:Bool->Prop}:qZ .func (.fn f a c) k↔k false:=Iff.rfl
omit [Cur] in
theorem qgy{k:Bool->Prop}:qZ .iface .nili k↔k true:=Iff.rfl
omit [Cur] in
theorem qiu{t:Nat}{v:AV}{k:Bool->Prop}:qZ .iface (.ifc t v) k↔k false:=Iff.rfl
omit [Cur] in
theorem qhW{x y:List AV}{k:Bool->Prop}:zh [] x y k↔k true:=Iff.rfl
omit [Cur] in
theorem qfQ{q:PK}{qs:List PK}{u v:AV}{us vs:List AV}{k:Bool->Prop}:zh (q::qs) (u::us) (v::vs) k↔zD q u v (fun e=>if e=true then zh qs us vs k else k false):=by
 show zD q u v (fun e=>Bool.rec (motive:=fun _=>Prop) (k false) (zh qs us vs k) e)↔_
 simp only[xZ]
theorem qmQ{q:IntKind}{n m:Int}{k:Bool->Prop}:zD .i (.i q n) (.i q m) k↔evT (decide (n=m)) k:=by
 show qb (decide (q=q)) (qn (eqI n m) k)↔_;rw[qa,qdo,qj];simp[evT]
omit [Cur] in
theorem qmR{a c:List UInt8}{k:Bool->Prop}:zD .s (.s a) (.s c) k↔evT (decide (a=c)) k:=by
 show qn (eqS a c) k↔_;rw[qj,zR,show (a==c)=decide (a=c) from by rw[Bool.eq_iff_iff];simp];exact Iff.rfl
omit [Cur] in
theorem qmP{a c:Bool}{k:Bool->Prop}:zD .b (.b a) (.b c) k↔evT (a==c) k:=by
 show qn (a==c) k↔_;rw[qj];exact Iff.rfl
omit [Cur] in
theorem qfM{rs:List RV}{k:AV->Hp->Prop}:qcJ rs k .ret t h↔zM t h rs (fun vs=>k (zz vs) h):=Iff.rfl
omit [Cur] in
theorem qcK{rs:List RV}{k:AV->Hp->Prop}:qcJ rs k .normal t h↔zM t h rs (fun vs=>k (zz vs) h):=Iff.rfl
theorem qiO{k:List AV->Prop}:zM t h [] k↔k []:=Iff.rfl
omit [Cur] in
theorem qiP{n:Nat}{rs:List RV}{k:List AV->Prop}:zM t h (.tmp n::rs) k↔evO (t.get n) (fun v=>zM t h rs (fun vs=>k (v::vs))):=Tr.getK_iff _ _ _
omit [Cur] in
theorem qgZ{n size:Nat}{agg:Bool}{rs:List RV}{k:List AV->Prop}:zM t h (.cell n size agg::rs) k↔evO (t.get n) (fun v=>unP v (fun b o=>if agg=true then zX h b o size (fun cs=>zM t h rs (fun vs=>k (.agg cs::vs))) else ldK h b o (fun v=>zM t h rs (fun vs=>k (v::vs))))):=by
 refine (Tr.getK_iff _ _ _).trans (iff_of_eq (congrArg _ (funext fun v=>congrArg _ ?_)))
 cases v<;>first|rfl|skip
 cases agg<;>rfl
end Go.Kc
end
section
namespace Go.Kc
variable [Cur]
variable {P:Program} {n:Nat} {t:Tr AV} {h:Hp} {k:AV->Hp->Prop}

section
variable {r:Nat->Nat} {m:Nat} {v v':AV} {vs vs':List AV}
end
section
variable {v v':AV} {vs vs':List AV}
omit [Cur] in
theorem qf2:Frz h v .undef↔True:=iff_true_intro (.undef _)
omit [Cur] in
theorem qmS{x y:Bool}:Frz h (.b x) (.b y)↔x=y:=⟨fun h=>by cases h;rfl,fun h=>by subst h;exact .b _⟩
omit [Cur] in
theorem qmU{q q':IntKind}{x y:Int}:Frz h (.i q x) (.i q' y)↔q=q'∧x=y:=⟨fun h=>by cases h<;>simp_all,fun⟨h,h'⟩=>by subst h h';exact .i _ _⟩
omit [Cur] in
theorem qmV{x y:List UInt8}:Frz h (.s x) (.s y)↔x=y:=⟨fun h=>by cases h;rfl,fun h=>by subst h;exact .s _⟩
omit [Cur] in
theorem qh5:Frz h .nilp .nilp↔True:=iff_true_intro .nilp
omit [Cur] in
theorem qh6:Frz h .nils .nils↔True:=iff_true_intro .nils
omit [Cur] in
theorem qh2:Frz h .nilf .nilf↔True:=iff_true_intro .nilf
omit [Cur] in
theorem qh3:Frz h .nili .nili↔True:=iff_true_intro .nili
omit [Cur] in
theorem qh4:Frz h .nilm .nilm↔True:=iff_true_intro .nilm
omit [Cur] in
theorem ql4:Frz h .e0 .e0↔True:=iff_true_intro .e0
omit [Cur] in
theorem ql6:Frz h .nz .nz↔True:=iff_true_intro .nz
omit [Cur] in
theorem qjZ{x:Nat}{cs:List AV}:Frz h .e0 (.fz x cs)↔x=0∧cs=[]:=⟨fun h=>by cases h<;>simp_all,fun⟨h,h'⟩=>by subst h h';exact .e0z⟩
omit [Cur] in
theorem ql5{x y:Nat}{cs ds:List AV}:Frz h (.fz x cs) (.fz y ds)↔x=y∧cs=ds:=⟨fun h=>by cases h<;>simp_all,fun⟨h,h'⟩=>by subst h h';exact .fz _ _⟩
omit [Cur] in
theorem ql7{x y:Nat}{cs ds:List AV}:Frz h (.pf cs x) (.pf ds y)↔cs=ds∧x=y:=⟨fun h=>by cases h<;>simp_all,fun⟨h,h'⟩=>by subst h h';exact .pf _ _⟩
omit [Cur] in
theorem qh7{x:Nat}{cs:List AV}:Frz h .nils (.fz x cs)↔x=0∧cs=[]:=⟨fun h=>by cases h<;>simp_all,fun⟨h,h'⟩=>by subst h h';exact .nilz⟩
omit [Cur] in
theorem qh8:Frzs h [] []↔True:=iff_true_intro .nil
omit [Cur] in
theorem qf3:Frzs h (v::vs) (v'::vs')↔Frz h v v'∧Frzs h vs vs':=⟨fun h=>by
  cases h<;>simp_all,fun h=>.cons _ _ _ _ h.1 h.2⟩
omit [Cur] in
theorem qjY{cs cs':List AV}:Frz h (.agg cs) (.agg cs')↔Frzs h cs cs':=⟨fun h=>by cases h<;>grind,fun h=>.agg _ _ h⟩
omit [Cur] in
theorem qj3{cs cs':List AV}:Frz h (.tup cs) (.tup cs')↔Frzs h cs cs':=⟨fun h=>by cases h<;>grind,fun h=>.tup _ _ h⟩
omit [Cur] in
theorem qj4{f f':Nat}{a a' c c':List AV}:Frz h (.fn f a c) (.fn f' a' c')↔f=f'∧Frzs h a a'∧Frzs h c c':=⟨fun h=>by
  cases h<;>simp_all,fun⟨h1,h2,h3⟩=>by subst h1;exact .fn _ _ _ _ _ h2 h3⟩
omit [Cur] in
theorem qj0{f f':Nat}:Frz h (.ifc f v) (.ifc f' v')↔f=f'∧Frz h v v':=⟨fun h=>by
  cases h<;>simp_all,fun⟨h1,h2⟩=>by subst h1;exact .ifc _ _ _ h2⟩
omit [Cur] in
theorem qj1{b x y:Nat}{cs':List AV}:Frz h (.own b x) (.fz y cs')↔x=y∧evB (h.tr.get b) (fun z=>zQ z (fun _ w _ ys=>w=true∧(x=0->ys=[])∧Frzs h ys cs')):=by
 constructor
 ·intro hh;cases hh with
  | own _ _ e af ys _ hb h0 h1=>exact⟨rfl,_,hb,rfl,h0,h1⟩
 ·rintro⟨rfl,z,h1,h2⟩;cases z with
  | cells e w af ys =>
   obtain⟨rfl,h3,h4⟩:=h2;exact .own _ _ e af ys _ h1 h3 h4
  | dead=>exact h2.elim
  | map es=>exact h2.elim
omit [Cur] in
theorem qj2{b x y:Nat}{cs':List AV}:Frz h (.ptr b x) (.pf cs' y)↔x=y∧evB (h.tr.get b) (fun z=>zQ z (fun _ w _ ys=>w=true∧Frzs h ys cs')):=by
 constructor
 ·intro hh;cases hh with
  | ptr _ _ e af ys _ hb h1=>exact⟨rfl,_,hb,rfl,h1⟩
 ·rintro⟨rfl,z,h1,h2⟩;cases z with
  | cells e w af ys =>
   obtain⟨rfl,h4⟩:=h2;exact .ptr _ _ e af ys _ h1 h4
  | dead=>exact h2.elim
  | map es=>exact h2.elim
omit [Cur] in
theorem Frz.cut{b o x c:Nat}{l:Bool}{y:Nat}{cs':List AV}(esz:Nat)(hx:x=y)(hc:x<=c)(hg:evB (h.tr.get b) (fun z=>zQ z (fun _ w _ cs=>w=true∧o+x*esz<=cs.length∧Frzs h ((cs.drop o).take (x*esz)) cs'))):Frz h (.sl b o x c l) (.fz y cs'):=by
 subst hx;obtain⟨z,h1,h2⟩:=hg;cases z with
 | cells e w af cs =>
  obtain⟨rfl,h3,h4⟩:=h2;exact .sl _ _ _ _ _ e af cs (x*esz) _ h1 hc h3 (fun hh=>by rw[hh] at hc;simp_all) h4
 | dead=>exact h2.elim
 | map es=>exact h2.elim
end

omit [Cur] in
@[congr] theorem qkc {kd:Option IntKind} {i:AV} {p:Prop} {mk:Prop} (_:qL=mk):qa3 qi kd i p=qa3 qi kd i p:=rfl
@[congr] theorem qko {b:Nat} {k:List (AV×AV)->Prop} {mk:Prop} (_:qL=mk):jn h b k=jn h b k:=rfl
@[congr] theorem qig {es:List (AV×AV)} {p:Prop} {mk:Prop} (_:qL=mk):jm es p=jm es p:=rfl
theorem qmd{a:List UInt8}{p:Prop}:qa3 qi none (.s a) p↔p:=Iff.rfl
omit [Cur] in
theorem qmc{q:IntKind}{z:Int}{p:Prop}:qa3 qi (some q) (.i q z) p↔p:=by
 show qb (decide (q=q)) p↔p;rw[qa];simp
omit [Cur] in
theorem qeI{p:Prop}:jm [] p↔p:=Iff.rfl
omit [Cur] in
theorem qij{a:List UInt8}{v:AV}{es:List (AV×AV)}{p:Prop}:jm ((.s a,v)::es) p↔p:=Iff.rfl
omit [Cur] in
theorem qii{q:IntKind}{z:Int}{v:AV}{es:List (AV×AV)}{p:Prop}:jm ((.i q z,v)::es) p↔p:=Iff.rfl
def qjb(x:Blk)(k:List (AV×AV)->Prop):Prop:=match x with | .map es=>k es|_=>False
theorem qeL{es:List (AV×AV)}{k:List (AV×AV)->Prop}:qjb (.map es) k↔k es:=Iff.rfl
omit [Cur] in
theorem qmm{b:Nat}{k:List (AV×AV)->Prop}:jn h b k↔evB (h.tr.get b) (fun x=>qjb x (fun es=>jm es (k es))):=by
 unfold jn;refine (Tr.getK_iff _ _ _).trans (iff_of_eq (congrArg _ (funext fun x=>congrArg _ ?_)))
 cases x<;>rfl
omit [Cur] in
theorem qfY{i:AV}{k:Option AV->Prop}:xp qi i [] k↔k none:=Iff.rfl
omit [Cur] in
theorem qjV{i a:List UInt8}{v:AV}{es:List (AV×AV)}{k:Option AV->Prop}:xp qi (.s i) ((.s a,v)::es) k↔if i=a then k (some v) else xp qi (.s i) es k:=by
 show qn (eqS i a) (fun r=>Bool.rec (motive:=fun _=>Prop) (xp qi (.s i) es k) (k (some v)) r)↔_
 rw[qj,xZ,zR];simp
omit [Cur] in
theorem qjU{q:IntKind}{i a:Int}{v:AV}{es:List (AV×AV)}{k:Option AV->Prop}:xp qi (.i q i) ((.i q a,v)::es) k↔if i=a then k (some v) else xp qi (.i q i) es k:=by
 show qb (decide (q=q)) (qn (eqI i a) (fun r=>Bool.rec (motive:=fun _=>Prop) (xp qi (.i q i) es k) (k (some v)) r))↔_
 rw[qa,qj,xZ,qdo];simp
omit [Cur] in
theorem qi0{i v:AV}{k:List (AV×AV)->Prop}:wa qi i v [] k↔k [(i,v)]:=Iff.rfl
omit [Cur] in
theorem qmE{i a:List UInt8}{u v:AV}{es:List (AV×AV)}{k:List (AV×AV)->Prop}:wa qi (.s i) u ((.s a,v)::es) k↔if i=a then k ((.s i,u)::es) else wa qi (.s i) u es (fun l=>k ((.s a,v)::l)):=by
 show qn (eqS i a) (fun r=>Bool.rec (motive:=fun _=>Prop) (wa qi (.s i) u es (fun l=>k ((.s a,v)::l))) (k ((.s i,u)::es)) r)↔_
 rw[qj,xZ,zR];simp
omit [Cur] in
theorem qmD{q:IntKind}{i a:Int}{u v:AV}{es:List (AV×AV)}{k:List (AV×AV)->Prop}:wa qi (.i q i) u ((.i q a,v)::es) k↔if i=a then k ((.i q i,u)::es) else wa qi (.i q i) u es (fun l=>k ((.i q a,v)::l)):=by
 show qb (decide (q=q)) (qn (eqI i a) (fun r=>Bool.rec (motive:=fun _=>Prop) (wa qi (.i q i) u es (fun l=>k ((.i q a,v)::l))) (k ((.i q i,u)::es)) r))↔_
 rw[qa,qj,xZ,qdo];simp
theorem qfm{z:AV}{k:AV->Prop}:qaz false z none k↔k z:=Iff.rfl
omit [Cur] in
theorem qef{z:AV}{k:AV->Prop}:qaz true z none k↔k (.tup [z,.b false]):=Iff.rfl
omit [Cur] in
theorem qfn{z v:AV}{k:AV->Prop}:qaz false z (some v) k↔k v:=Iff.rfl
omit [Cur] in
theorem qeg{z v:AV}{k:AV->Prop}:qaz true z (some v) k↔k (.tup [v,.b true]):=Iff.rfl
def lkK(h:Hp)(ok:Bool)(zero x i:AV)(k:AV->Prop):Prop:=match x with
  | .nilm=>qaz ok zero none k
  | .map r=>jn h r (fun es=>xp qi i es (fun v=>qaz ok zero v k))
  | _=>False
theorem qkm{ok:Bool}{z i:AV}{k:AV->Prop}:lkK h ok z .nilm i k↔qaz ok z none k:=Iff.rfl
omit [Cur] in
theorem qkl{ok:Bool}{z i:AV}{r:Nat}{k:AV->Prop}:lkK h ok z (.map r) i k↔jn h r (fun es=>xp qi i es (fun v=>qaz ok z v k)):=Iff.rfl
omit [Cur] in
theorem qgL{kd:Option IntKind}{ok:Bool}{z:AV}{x i:O}:opK qi (.lookM kd ok z x i) t h k↔evK t x (fun x=>evK t i (fun i=>qa3 qi kd i (lkK h ok z x i (fun v=>k v h)))):=Iff.rfl
def upK(h:Hp)(x i v:AV)(k:Hp->Prop):Prop:=match x with
  | .map r=>jn h r (fun es=>wa qi i v es (fun es'=>qY h r (.map es') k))
  | _=>False
theorem qlg{i v:AV}{r:Nat}{k:Hp->Prop}:upK h (.map r) i v k↔jn h r (fun es=>wa qi i v es (fun es'=>qY h r (.map es') k)):=Iff.rfl
omit [Cur] in
theorem qiI{kd:Option IntKind}{x i v:O}:opK qi (.updM kd x i v) t h k↔evK t x (fun x=>evK t i (fun i=>evK t v (fun v=>qa3 qi kd i (upK h x i v (fun h'=>k .undef h'))))):=Iff.rfl

omit [Cur] in
theorem qes:qu []=true:=rfl
omit [Cur] in
theorem qdl{v:AV}{vs:List AV}:qu (v::vs)=(qH v&&qu vs):=by
 show (Bool.rec (motive:=fun _=>Bool) false (qu vs) (qH v):Bool)=_
 cases qH v<;>rfl
omit [Cur] in
theorem qjE{x:Bool}:qH (.b x)=true:=rfl
omit [Cur] in
theorem qjF{q:IntKind}{x:Int}:qH (.i q x)=true:=rfl
omit [Cur] in
theorem qjG{x:List UInt8}:qH (.s x)=true:=rfl
omit [Cur] in
theorem qeq:qH .nilp=true:=rfl
omit [Cur] in
theorem qfD{b o:Nat}:qH (.ptr b o)=true:=rfl
omit [Cur] in
theorem qer:qH .nils=true:=rfl
omit [Cur] in
theorem qhM{b o x c:Nat}{l:Bool}:qH (.sl b o x c l)=true:=rfl
omit [Cur] in
theorem qen:qH .nilf=true:=rfl
omit [Cur] in
theorem qhI{f:Nat}{a c:List AV}:qH (.fn f a c)=true:=rfl
omit [Cur] in
theorem qeo:qH .nili=true:=rfl
omit [Cur] in
theorem qfA{f:Nat}{v:AV}:qH (.ifc f v)=true:=rfl
omit [Cur] in
theorem qep:qH .nilm=true:=rfl
omit [Cur] in
theorem qfB{b:Nat}:qH (.map b)=true:=rfl
omit [Cur] in
theorem qhJ{n:Nat}{cs:List AV}:qH (.fz n cs)=true:=rfl
omit [Cur] in
theorem qhL{n:Nat}{cs:List AV}:qH (.pf cs n)=true:=rfl
omit [Cur] in
theorem qhH:qH .e0=true:=rfl
omit [Cur] in
theorem qhK:qH .nz=true:=rfl
omit [Cur] in
theorem qfC{b n:Nat}:qH (.own b n)=true:=rfl
theorem SL.loop{α:Type}{x:ICode}{Q:X->Tr AV->Hp->Prop}(T:α->List (Nat×AV))(B:α->List Blk)(I:α->Prop)(μ:α->Nat)(a0:α)(src:List Nat)
  (hT:TWs t (rl src h.sz) (B a0).length (T a0)) (hB:BWs h (rl src h.sz) (B a0).length src (B a0)) (hI:(src.filter fun b=>decide (b<h.sz)).Nodup) (hfl:h.fl=0) (h0:I a0)
  (step:∀a,I a->∀G:Tr AV->Hp->Prop,(∀b,I b->μ b<μ a->∀t' h',Wk 0 t' h' (mkT (T b)) (mkH 0 (B b))->G t' h')->
   V P 0 x (fun e t h=>onX e (G t h) (fun id=>Q (.exit id) t h) (Q .ret t h)) (mkT (T a)) (mkH 0 (B a))):SL P 0 x Q t h:=by
 have main:∀m a,μ a=m->I a->SL P 0 x Q (mkT (T a)) (mkH 0 (B a)):=by
  intro m
  induction m using Nat.strongRecOn with
  | ind m ih =>
   intro a ha hi;exact qhh (step a hi (fun t h=>SL P 0 x Q t h) fun b hb hlt t' h' hw=>SL.weak hw (ih (μ b) (ha ▸ hlt) b rfl hb))
 exact SL.weak (by grind[Wk.mk]) (main _ a0 rfl h0)

omit [Cur] in
theorem qmM{b:Bool}:(b==true)=b:=by cases b<;>rfl
omit [Cur] in
theorem qmL{b:Bool}:(b==false) = !b:=by cases b<;>rfl
def vA:=And.intro @qfi (And.intro @qlO (And.intro @qlR (And.intro @qjp (And.intro @qlQ (And.intro @qjm (And.intro @qjl (And.intro @qlN (And.intro @qjn (And.intro @qlP (And.intro @qjo (And.intro @qji (And.intro @qlM (And.intro @qff (And.intro @qfg (And.intro @qfh (And.intro @qeb (And.intro @qlL
 (And.intro @qjL (And.intro @qjI (And.intro @qdy (And.intro @qgB (And.intro @qiy (And.intro @qfM (And.intro @qcK (And.intro @qiO (And.intro @qiP @qgZ))))))))))))))))))))))))))
def vR:=And.intro @qed (And.intro @qdd @qjj)
def vE:=And.intro @ql3 (And.intro @ql2 (And.intro @qfV (And.intro @qeA (And.intro @qeY (And.intro @qe0 (And.intro @qf4 (And.intro @qew (And.intro @qex (And.intro @qmy (And.intro @qiZ (And.intro @qmz (And.intro @qmA (And.intro @qea (And.intro @qS (And.intro @qaD
 (And.intro @qky (And.intro @qkZ (And.intro @qgi (And.intro @qmg (And.intro @qin (And.intro @qki (And.intro @qme (And.intro @qgj (And.intro @qit (And.intro @qku (And.intro @qnj (And.intro @qiY (And.intro @qhS (And.intro @jO (And.intro @qif @zb))))))))))))))))))))))))))))))
def vO:=And.intro @qkU (And.intro @qiF (And.intro @qgD (And.intro @qkH (And.intro @qgE (And.intro @qeR (And.intro @qgJ (And.intro @qgK (And.intro @qgN (And.intro @qeU (And.intro @qkG (And.intro @qkK (And.intro @qkL (And.intro @qkJ (And.intro @qmr (And.intro @qgG (And.intro @qgH (And.intro @qkV (And.intro @qkF
 (And.intro @qgI (And.intro @qkN (And.intro @qeS (And.intro @qeT (And.intro @qiD (And.intro @qiE (And.intro @qiH (And.intro @qeW (And.intro @qiG (And.intro @qkM (And.intro @qkR (And.intro @qkT (And.intro @qkO (And.intro @qkE (And.intro @qiA (And.intro @qiC (And.intro @qkQ (And.intro @qkP (And.intro @qgF (And.intro @qkS
 (And.intro @qeX (And.intro @qiz (And.intro @qiS (And.intro @qk5 (And.intro @qk4 (And.intro @qg3 (And.intro @qk3 (And.intro @qkI (And.intro @qiB (And.intro @qfq (And.intro @qgL @qiI)))))))))))))))))))))))))))))))))))))))))))))))))
def vB:=And.intro @qhz (And.intro @qhy (And.intro @qhv (And.intro @qht (And.intro @qhs (And.intro @qhu (And.intro @qhr (And.intro @qhx (And.intro @qho (And.intro @qhA (And.intro @qhw (And.intro @qjA (And.intro @qhp (And.intro @qhB (And.intro @qhq (And.intro @qft (And.intro @qfy (And.intro @qfs (And.intro @qfx (And.intro @qfu (And.intro @qfw (And.intro @qfv (And.intro @qlf (And.intro @qle @qmN)))))))))))))))))))))))
def vF:=And.intro @qfZ (And.intro @qf0 (And.intro @qma (And.intro @ql9 (And.intro @qkb (And.intro @qge (And.intro @qgd (And.intro @qeH (And.intro @qhl (And.intro @qhm (And.intro @qhD (And.intro @qhC (And.intro @qhE (And.intro @qiU (And.intro @qmu (And.intro @qmv (And.intro @qk7 (And.intro @qk8 (And.intro @qk6 (And.intro @qjv (And.intro @qez (And.intro @qfS (And.intro @qiq (And.intro @qmi (And.intro @qmk (And.intro @qmj (And.intro @qkn (And.intro @qml (And.intro @qmY
 (And.intro @qfI (And.intro @qjH (And.intro @qeh (And.intro @qdf (And.intro @qkv (And.intro @qmn (And.intro @qhR (And.intro @qlW (And.intro @qlX (And.intro @qfX (And.intro @qeB (And.intro @qev (And.intro @qhQ (And.intro @qg8 (And.intro @qla (And.intro @qlc (And.intro @qld (And.intro @qiX (And.intro @qlb (And.intro @qmw (And.intro @qfo (And.intro @qjs (And.intro @qhk (And.intro @qju (And.intro @qjt
 (And.intro @qgz (And.intro @qiw (And.intro @qkC (And.intro @qgA (And.intro @qkB (And.intro @qkD (And.intro @qkA (And.intro @qiv (And.intro @qgx (And.intro @qkz (And.intro @qgy (And.intro @qiu (And.intro @qhW (And.intro @qfQ (And.intro @qmQ (And.intro @qmR @qmP)))))))))))))))))))))))))))))))))))))))))))))))))))))))))))))))))))))
def vM:=And.intro @qmd (And.intro @qmc (And.intro @qeI (And.intro @qij (And.intro @qii (And.intro @qeL (And.intro @qmm (And.intro @qfY (And.intro @qjV (And.intro @qjU (And.intro @qi0 (And.intro @qmE (And.intro @qmD (And.intro @qfm (And.intro @qef (And.intro @qfn (And.intro @qeg (And.intro @qkm (And.intro @qkl @qlg))))))))))))))))))
def vC:=And.intro @qes (And.intro @qdl (And.intro @qjE (And.intro @qjF (And.intro @qjG (And.intro @qeq (And.intro @qfD (And.intro @qer (And.intro @qhM (And.intro @qen (And.intro @qhI (And.intro @qeo (And.intro @qfA (And.intro @qep (And.intro @qfB (And.intro @qhJ (And.intro @qhL (And.intro @qhH (And.intro @qhK @qfC))))))))))))))))))
def vP:=And.intro @qeM (And.intro @qfU (And.intro @qhX (And.intro @qhY (And.intro @qhZ (And.intro @qh0 (And.intro @qfT (And.intro @qcL (And.intro @qcW (And.intro @qb9 (And.intro @qmC (And.intro @qhU (And.intro @qmM (And.intro @qmL @xZ)))))))))))))
def vZ:=And.intro @qf2 (And.intro @qmS (And.intro @qmU (And.intro @qmV (And.intro @qh5 (And.intro @qh6 (And.intro @qh2 (And.intro @qh3 (And.intro @qh4 (And.intro @ql4 (And.intro @ql6 (And.intro @qjZ (And.intro @ql5 (And.intro @ql7 (And.intro @qh7 (And.intro @qh8 (And.intro @qf3 (And.intro @qjY (And.intro @qj3 (And.intro @qj4 (And.intro @qj2 (And.intro @qj0 @qj1)))))))))))))))))))))
end Go.Kc
end
section
namespace Go.Kc
variable [Cur]
variable {P:Program}

mutual
def flat:AV->Bool
 | .ptr _ _=>false
 | .sl _ _ _ _ _=>false
 | .map _=>false
 | .own _ _=>false
 | .fz _ _=>false
 | .pf _ _=>false
 | .sym _=>false
 | .fn _ a c=>qbn a&&qbn c
 | .ifc _ v=>flat v
 | .agg cs=>qbn cs
 | .tup cs=>qbn cs
 | .undef=>true | .b _=>true | .i _ _=>true | .s _=>true | .nilp=>true | .nils=>true | .nilf=>true | .nili=>true | .nilm=>true | .e0=>true | .nz=>true | .yl _=>false | .lp _=>true
def qbn:List AV->Bool
 | []=>true
 | v::vs=>flat v&&qbn vs
end
mutual
theorem VR.flat{ρ ρ':Ren}:∀{a:AV} {v:Value},VR σ0 ρ a v->Kc.flat a=true->VR σ0 ρ' a v
 | _,_,.undef v,_=>.undef v
 | _,_,.b x,_=>.b x
 | _,_,.i k n,_=>.i k n
 | _,_,.s x,_=>.s x
 | _,_,.nilp,_=>.nilp
 | _,_,.ptr b o L h,hc=>by simp[Kc.flat] at hc
 | _,_,.nils,_=>.nils
 | _,_,.sl b o len cap c loose L h hc,hh=>by simp[Kc.flat] at hh
 | _,_,.slz b o x l L h,hh=>by simp[Kc.flat] at hh
 | _,_,.nilf,_=>.nilf
 | _,_,.fn f first cap first' cap' h1 h2,hc=>by
  simp only[Kc.flat,Bool.and_eq_true] at hc;exact .fn _ _ _ _ _ (h1.flat hc.1) (h2.flat hc.2)
 | _,_,.nili,_=>.nili
 | _,_,.ifc t v v' h,hc=>by simp only[Kc.flat] at hc;exact .ifc _ _ _ (h.flat hc)
 | _,_,.agg cs cs' h,hc=>by simp only[Kc.flat] at hc;exact .agg _ _ (h.flat hc)
 | _,_,.tup cs cs' h,hc=>by simp only[Kc.flat] at hc;exact .tup _ _ (h.flat hc)
 | _,_,.nilm,_=>.nilm
 | _,_,.map b L h h0,hc=>by simp[Kc.flat] at hc
 | _,_,.sym j,hc=>by simp[Kc.flat] at hc
 | _,_,.fz n off c cs k arr hn h hs,hc=>by simp[Kc.flat] at hc
 | _,_,.fz0 a,hc=>by simp[Kc.flat] at hc
 | _,_,.pf off base cs k arr h hs,hc=>by simp[Kc.flat] at hc
 | _,_,.e0 a,_=>.e0 a
 | _,_,.nz a c,_=>.nz a c
 | _,_,.own0 b a hb,hc=>by simp[Kc.flat] at hc
 | _,_,.own b n c L h hn hc',hc=>by simp[Kc.flat] at hc
 | _,_,.yl b L h,hc=>by simp[Kc.flat] at hc
theorem VRs.flat{ρ ρ':Ren}:∀{a:List AV} {v:List Value},VRs σ0 ρ a v->qbn a=true->VRs σ0 ρ' a v
 | _,_,.nil,_=>.nil
 | _,_,.cons v vs v' vs' h hs,hc=>by
  simp only[qbn,Bool.and_eq_true] at hc;exact .cons _ _ _ _ (h.flat hc.1) (hs.flat hc.2)
end
theorem Rel.bare{ρ:Ren}{B:Nat->Prop}{h:Hp}{w:World}(r:Rel σ0 ρ B h w):Rel σ0 ⟨fun _=>none,z7 ρ h w,0⟩ (low w.heap.size) H0 w :=
 ⟨by simp_all,by grind,by simp_all,by simp_all,by simp_all,by simp_all,by simp_all,(fun _ h=>h),
  (fun k arr hk=>⟨by
    rcases jl hk with hk|⟨hk,_⟩
    all_goals grind[Rel.frz],(by simp_all)⟩),by simp_all⟩
theorem zf.lend{f:Nat}{vs vs':List AV}{v:AV}{h:Hp}{k:AV->Hp->Prop}(hp:zf P f vs' v)(hf:Frzs h vs vs')(hv:flat v=true)(hk:k v h):SC P f vs h k:=by
 have hp0:=hp H0 (fun v' h'=>v'=v∧h'=H0) ⟨rfl,rfl⟩
 refine⟨hp0.1,fun ρ B w args r ha=>?_⟩
 have hcr:=hf.ok r ha;refine jx.mono (hp0.2 ⟨fun _=>none,z7 ρ h w,0⟩ (low w.heap.size) w args r.bare (by grind[CRs.vr])) ?_
 rintro e w' ⟨v0,v',h',ρ',rfl,⟨rfl,rfl⟩,g2,g3,g4⟩;refine⟨v0,v',h,ρ,rfl,hk,g2.flat hv,?_,⟨fun _ _=>rfl,Nat.le_refl _,rfl,fun _ _ _=>rfl,by grind[Kept.pres,Rel.base],g4.wle,g4.io,fun _ _ h=>h,fun _ _ h=>.inl h,Nat.le_refl _⟩⟩
 have:=r.frz' (φ:=ρ.frz) g4.pres g4.wle (fun _ _ h=>h) (by simp_all) (fun k a hk=>by
  obtain⟨ty,fz,h1⟩:=(r.frz k a hk).1;refine⟨ty,fz,?_⟩;rw[g4.pres k (by grind)];exact h1)
 omega
mutual
def shv(m:Nat):AV->AV
 | .ptr b o=>.ptr (b+m) o
 | .sl b o n c l=>.sl (b+m) o n c l
 | .map b=>.map (b+m)
 | .own b n=>.own (b+m) n
 | .yl b=>.yl (b+m)
 | .fn f a c=>.fn f (qc8 m a) (qc8 m c)
 | .ifc t v=>.ifc t (shv m v)
 | .agg cs=>.agg (qc8 m cs)
 | .tup cs=>.tup (qc8 m cs)
 | v=>v
def qc8(m:Nat):List AV->List AV
 | []=>[]
 | v::vs=>shv m v::qc8 m vs
end
def she(m:Nat)(es:List (AV×AV)):List (AV×AV):=es.map fun e=>(shv m e.1,shv m e.2)
omit [Cur] in
theorem qiT{m:Nat}:she m []=[]:=rfl
omit [Cur] in
theorem qg4{m:Nat}{a b:AV}{es:List (AV×AV)}:she m ((a,b)::es)=(shv m a,shv m b)::she m es:=rfl
def shb(m:Nat):Blk->Blk
 | .cells e w a cs=>.cells e w a (qc8 m cs)
 | .dead=>.dead
 | .map es=>.map (she m es)
noncomputable def qd2(h:Hp):List Blk->Hp
 | []=>h
 | x::xs=>qd2 (h.push x) xs
def PC(P:Program)(f:Nat)(vs:List AV)(h:Hp)(k:AV->Hp->Prop):Prop:=∃v h',(∀k':AV->Hp->Prop,k' v h'->SC P f vs h k')∧k v h'
def PY(P:Program)(b:Nat)(vs:List AV)(h:Hp)(k:AV->Hp->Prop):Prop:=∃v h',(∀k':AV->Hp->Prop,k' v h'->CC P 0 (.yl b::vs) h k')∧k v h'
@[congr] theorem qlB {f:Nat} {vs vs':List AV} {h:Hp} {k:AV->Hp->Prop} {mk:Prop} (_:qL=mk) (h':vs=vs'):PC P f vs h k=PC P f vs' h k:=by rw[h']
@[congr] theorem qlC {b:Nat} {vs vs':List AV} {h:Hp} {k:AV->Hp->Prop} {mk:Prop} (_:qL=mk) (h':vs=vs'):PY P b vs h k=PY P b vs' h k:=by rw[h']
def PCC(P:Program):qw:=fun f vs h k=>∃v h',(∀k':AV->Hp->Prop,k' v h'->CC P f vs h k')∧k v h'
theorem qjK{b:Nat}{vs:List AV}{h:Hp}{k:AV->Hp->Prop}:cvF (PCC P) (.yl b) vs h k↔PY P b vs h k:=Iff.rfl
theorem qjJ{f:Nat}{a c vs:List AV}{h:Hp}{k:AV->Hp->Prop}:cvF (PCC P) (.fn f a c) vs h k↔PC P f (a++(vs++c)) h k:=Iff.rfl
theorem qgO{dst:Option Nat}{f:Nat}{args:List O}{ops:List ROp}{Q:Tr AV->Hp->Prop}{t:Tr AV}{s fl:Nat}{tr:Tr Blk}:VR' (PCC P) (⟨dst,.callF f args,none⟩::ops) Q t ⟨s,fl,tr⟩↔zn t args (fun vs=>PC P f vs ⟨s,s,tr⟩ (fun v h'=>zm t dst v (fun t'=>VR' (PCC P) ops Q t' (h'.down fl)))):=qec
theorem qgP{dst:Option Nat}{f:Nat}{args:List O}{ops:List ROp}{Q:Tr AV->Hp->Prop}{t:Tr AV}{h:Hp}:VR' (PCC P) (⟨dst,.callW f args,none⟩::ops) Q t h↔zn t args (fun vs=>PC P f vs h (fun v h'=>zm t dst v (fun t'=>VR' (PCC P) ops Q t' h'))):=qee
omit [Cur] in
theorem qiN{s f:Nat}{tr:Tr Blk}{x:Blk}:Hp.push ⟨s,f,tr⟩ x=⟨s+1,f,tr.set s x⟩:=rfl
omit [Cur] in
theorem qe2{h:Hp}:qd2 h []=h:=rfl
omit [Cur] in
theorem qdz{h:Hp}{x:Blk}{xs:List Blk}:qd2 h (x::xs)=qd2 (h.push x) xs:=rfl

abbrev jw:=ICode->(X->Tr AV->Hp->Prop)->Tr AV->Hp->Prop
noncomputable def qaB(env:Tr IFn)(ih:jw)(f:Nat)(args:List AV)(h:Hp)(k:AV->Hp->Prop):Prop :=
 env.getK f (fun fn=>IFn.rec (motive:=fun _=>Prop) (fun res body=>qcA args 0 .leaf (fun t0=>ih body (fun e t h' =>
  X.rec (motive:=fun _=>Prop) (zM t h' res (fun vs=>k (zz vs) h')) (fun _=>False) (zM t h' res (fun vs=>k (zz vs) h')) e) t0 h)) fn)
abbrev qcv:=Nat->List AV->Option AV
def qbf(P:Program)(ho:qcv):Prop:=∀f vs v,ho f vs=some v->zf P f vs v
def LB(ih:jw):Prop:=∀c Q t h,ih c Q t h->∃e t' h',Q e t' h'∧∀Q',Q' e t' h'->ih c Q' t h
omit [Cur] in
theorem qcD(env:Tr IFn){ih:jw}(hi:LB ih):LC (qaB env ih):=by
 intro f vs h k hk;obtain⟨fn,g1,g2⟩:=(Tr.getK_iff _ _ _).1 hk;cases fn with
 | mk res body =>
  obtain⟨t0,g3,g4⟩:=qdK vs 0 .leaf _ g2;obtain⟨e,t',h',h1,h2⟩:=hi _ _ _ _ g3
  have back:∀k',(X.rec (motive:=fun _=>Prop) (zM t' h' res (fun vs=>k' (zz vs) h')) (fun _=>False) (zM t' h' res (fun vs=>k' (zz vs) h')) e:Prop)->qaB env ih f vs h k':=fun k' hk' =>
   (Tr.getK_iff _ _ _).2 ⟨⟨res,body⟩,g1,g4 (fun t0=>ih body (fun e t h'=>X.rec (motive:=fun _=>Prop) (zM t h' res (fun vs=>k' (zz vs) h')) (fun _=>False) (zM t h' res (fun vs=>k' (zz vs) h')) e) t0 h) (h2 (fun e t h'=>X.rec (motive:=fun _=>Prop) (zM t h' res (fun vs=>k' (zz vs) h')) (fun _=>False) (zM t h' res (fun vs=>k' (zz vs) h')) e) hk')⟩
  cases e with
  | exit id=>exact h1.elim
  | normal =>
   obtain⟨vs,h3,h4⟩:=qbC t' h' res _ h1;exact⟨_,_,h3,fun k' hk'=>back k' (h4 (fun vs=>k' (zz vs) h') hk')⟩
  | ret =>
   obtain⟨vs,h3,h4⟩:=qbC t' h' res _ h1;exact⟨_,_,h3,fun k' hk'=>back k' (h4 (fun vs=>k' (zz vs) h') hk')⟩
theorem S.mono{n:Nat}{c:ICode}{Q Q':X->Tr AV->Hp->Prop}{t:Tr AV}{h:Hp}(hs:S P n c Q t h)(hq:∀e t h,Q e t h->Q' e t h):S P n c Q' t h:=by
 intro nt code hc hn ro hro ρ B w a ht hsz r;refine wpIn_mono (hs nt code hc hn ro hro ρ B w a ht hsz r) ?_;rintro e a1 w1 ⟨x1,t1,h1,ρ1,rs,hx,hq1,rest⟩;exact⟨x1,t1,h1,ρ1,rs,hx,hq _ _ _ hq1,rest⟩
theorem S.reg{n:Nat}{d:Bool}{rs:List ROp}{C:qw}(hl:LC C)(hC:xm P σ0 C){Q:X->Tr AV->Hp->Prop}{t:Tr AV}{h:Hp}(hv:x4 qi d C rs (fun t h=>Q .normal t h) t h):S P n (.reg d rs) Q t h:=by
 intro nt code hc hn ro hro ρ B w a ht hsz r;cases code<;>first|(simp[qm] at hc;done)|skip
 rename_i id ops d';simp only[qm,Bool.and_eq_true] at hc;obtain⟨⟨h1,h2⟩,h3⟩:=hc;obtain rfl:=eq_of_beq h1;cases d' with
 | false =>
  refine wpIn_region ?_
  have:=qaL (ops:=ops) (nt:=nt) (ro:=ro) (K:=xl σ0 Q nt n ρ B h w a.defers) (ρ0:=ρ) (h0:=h) (w0:=w) (ds:=a.defers) (jq P) hC (fun a' w' t' h' ρ' g1 g2 g3 g4 g5 g6=>xl.of .normal g1 g2 g3 g4 g5 (g6.kep hn))
   ops.toList rs 0 h2 rfl t h ρ w a hv ht hsz rfl r (Kept.refl _ _ _ _)
  rw[List.range_eq_range'];simpa using this
 | true =>
  simp only[Bool.not_true,Bool.false_or,Bool.and_eq_true] at h3;exact qdO (jq P) hl hC h2 h3.1 h3.2 hv ht hsz r (fun a' w' t' h' ρ' g1 g2 g3 g4 g5 g6=>xl.of .normal g1 g2 g3 g4 g5 (g6.kep hn))
theorem S.seq{n:Nat}{x y:ICode}{Q:X->Tr AV->Hp->Prop}{t:Tr AV}{h:Hp}(hv:S P n x (fun e t h=>onX e (S P n y Q t h) (fun id=>Q (.exit id) t h) (Q .ret t h)) t h):S P n (.seq x y) Q t h:=by
 intro nt code hc hn ro hro ρ B w a ht hsz r;cases code<;>first|(simp[qm] at hc;done)|skip
 rename_i cx cy;simp only[qm,Bool.and_eq_true] at hc;refine wpIn_seq (wpIn_mono (hv nt cx hc.1 hn ro (nr1 hro) ρ B w a ht hsz r) ?_);rintro e a1 w1 ⟨x1,t1,h1,ρ1,rs,hx,hq,ht1,hs1,hd1,hm,r1,k1⟩;cases hx with
 | normal=>exact wpIn_mono (hq nt cy hc.2 k1.szle ro (nr2 hro) ρ1 _ w1 a1 ht1 hs1 r1) (fun e a2 w2 hp=>xl.trans k1 hm hd1 hm.lt hp)
 | exit id=>exact⟨_,t1,h1,ρ1,rs,.exit id,hq,ht1,hs1,hd1,hm,r1,k1⟩
 | ret=>exact⟨_,t1,h1,ρ1,rs,.ret,hq,ht1,hs1,hd1,hm,r1,k1⟩
theorem S.cond{n:Nat}{c:O}{x y:ICode}{Q:X->Tr AV->Hp->Prop}{t:Tr AV}{h:Hp}(hv:evK t c (fun v=>unB v (fun b=>if b=true then S P n x Q t h else S P n y Q t h))):S P n (.cond c x y) Q t h:=by
 intro nt code hc hn ro hro ρ B w a ht hsz r;cases code<;>first|(simp[qm] at hc;done)|skip
 rename_i cc cx cy;simp only[qm,Bool.and_eq_true] at hc;obtain⟨⟨h1,h2⟩,h3⟩:=hc;obtain⟨v,h4,h5⟩:=ql ht h1 hv;obtain⟨b,h6,h7⟩:=qbH h5 h4;cases b with
 | true=>exact wpIn_cond_true h6 (h7 nt cx h2 hn ro (nr1 hro) ρ B w a ht hsz r)
 | false=>exact wpIn_cond_false h6 (h7 nt cy h3 hn ro (nr2 hro) ρ B w a ht hsz r)
theorem S.blk{n id:Nat}{x:ICode}{Q:X->Tr AV->Hp->Prop}{t:Tr AV}{h:Hp}(hv:S P n x (fun e t h=>onX e (Q .normal t h) (fun i=>if i=id then Q .normal t h else Q (.exit i) t h) (Q .ret t h)) t h):S P n (.blk id x) Q t h:=by
 intro nt code hc hn ro hro ρ B w a ht hsz r;cases code<;>first|(simp[qm] at hc;done)|skip
 rename_i id' cx;simp only[qm,Bool.and_eq_true] at hc;obtain rfl:=eq_of_beq hc.1;refine wpIn_block (wpIn_mono (hv nt cx hc.2 hn ro hro ρ B w a ht hsz r) ?_);rintro e a1 w1 ⟨x1,t1,h1,ρ1,rs,hx,hq,ht1,hs1,hd1,hm,r1,k1⟩;cases hx with
 | normal=>exact⟨_,t1,h1,ρ1,rs,.normal,hq,ht1,hs1,hd1,hm,r1,k1⟩
 | ret=>exact⟨_,t1,h1,ρ1,rs,.ret,hq,ht1,hs1,hd1,hm,r1,k1⟩
 | exit id2 =>
  show (if id2=id' then _ else _)
  have hq':(if id2=id' then Q .normal t1 h1 else Q (.exit id2) t1 h1):=hq
  by_cases he:id2=id'
  ·rw[if_pos he] at hq' ⊢;exact⟨_,t1,h1,ρ1,rs,.normal,hq',ht1,hs1,hd1,hm,r1,k1⟩
  ·rw[if_neg he] at hq' ⊢;exact⟨_,t1,h1,ρ1,rs,.exit id2,hq',ht1,hs1,hd1,hm,r1,k1⟩
theorem S.loop{n:Nat}{x:ICode}{Q:X->Tr AV->Hp->Prop}{t:Tr AV}{h:Hp}(hv:SL P n x Q t h):S P n (.loop x) Q t h:=by
 intro nt code hc hn ro hro ρ B w a ht hsz r;cases code<;>first|(simp[qm] at hc;done)|skip
 rename_i cx;exact qbX (hv nt cx (by simpa[qm] using hc) hn ro hro ρ B w a ht hsz r)
theorem SL.of_S{n:Nat}{x:ICode}{Q:X->Tr AV->Hp->Prop}{t:Tr AV}{h:Hp}(hv:S P n x (fun e t h=>onX e (SL P n x Q t h) (fun id=>Q (.exit id) t h) (Q .ret t h)) t h):SL P n x Q t h:=by
 intro nt cx hc hn ro hro ρ B w a ht hsz r;refine qaZ (wpIn_mono (hv nt cx hc hn ro hro ρ B w a ht hsz r) ?_);rintro e a1 w1 ⟨x1,t1,h1,ρ1,rs,hx,hq,ht1,hs1,hd1,hm,r1,k1⟩;cases hx with
 | normal=>exact xT.mono (hq nt cx hc k1.szle ro hro ρ1 _ w1 a1 ht1 hs1 r1) (fun e a2 w2 hp=>xl.trans k1 hm hd1 hm.lt hp)
 | exit id=>exact⟨_,t1,h1,ρ1,rs,.exit id,hq,ht1,hs1,hd1,hm,r1,k1⟩
 | ret=>exact⟨_,t1,h1,ρ1,rs,.ret,hq,ht1,hs1,hd1,hm,r1,k1⟩
omit [Cur] in
theorem qbQ:∀{l:List AV} {n:Nat} {t:Tr AV} {k:Tr AV->Prop},qcA l n t k↔k (jz l n t)
 | [],_,_,_=>Iff.rfl
 | v::l,n,t,k=>by
  show t.setK n v (fun t'=>qd (Nat.succ n) (fun n'=>qcA l n' t' k))↔_
  rw[Tr.setK_iff,qg,qbQ];exact Iff.rfl
end Go.Kc
end
section
namespace Go.Kc
variable [Cur]
variable {P:Program} {t:Tr AV} {h:Hp} {k:AV->Hp->Prop}

def qbF(l:List UInt8)(i:Nat):Nat×Nat:=Utf8.decode ⟨l.toArray⟩ i
omit [Cur] in
theorem qeV{x:O}:opK qi (.rangeS x) t h k↔evK t x (fun x=>match x with | .s a=>qN h (.map (zc a 0)) (fun b h'=>k (.ptr b 0) h')|_=>False):=Iff.rfl
def ql8(x:Blk)(k:List UInt8->Nat->Prop):Prop:=∃a n,x = .map (zc a n)∧k a n
theorem qeJ{a a':List UInt8}{n n':Nat}(e:zc a n=zc a' n'):a=a'∧n=n':=by
 simp only[zc,List.cons.injEq,Prod.mk.injEq,AV.s.injEq,AV.i.injEq,true_and,and_true] at e
 grind
theorem qik{a:List UInt8}{n:Nat}{k:List UInt8->Nat->Prop}:ql8 (.map (zc a n)) k↔k a n:=by
 constructor
 ·rintro⟨a',n',h1,h2⟩
  grind[qeJ]
 ·intro h1;exact⟨a,n,rfl,h1⟩
theorem qgM{x:O}:opK qi (.nextS x) t h k↔evK t x (fun x=>unP x (fun b o=>ifK (o=0) (evB (h.tr.get b) (fun y=>ql8 y (fun a n=>if n<a.length then evN (n+(qbF a n).2) (fun m=>qY h b (.map (zc a m)) (fun h'=>evA (.i .i32 ((qbF a n).1:Int)) (fun c=>k (.tup [.b true,.i .i64 (n:Int),c]) h'))) else k (.tup [.b false]) h))))):=by
 show evK t x (fun x=>unP x (fun b o=>qb (Nat.beq o 0) (qbU h b _)))↔_
 refine iff_of_eq (congrArg _ (funext fun v=>congrArg _ (funext fun b=>funext fun o=>?_)))
 rw[show (qb (Nat.beq o 0)=fun p=>ifK (o=0) p) from by funext p;exact propext ((qa _ _).trans (by rw[jg];exact Iff.rfl))]
 refine congrArg _ (propext (jT.trans ?_))
 have body:∀a n,(match a[n]? with
  | some c=>(Bool.rec (motive:=fun _=>Prop)
    (qY h b (.map (zc a (Nat.add n (Utf8.decode ⟨a.toArray⟩ n).2))) (fun h'=>k (.tup [.b true,.i .i64 (Int.ofNat n),.i .i32 (Int.ofNat (Utf8.decode ⟨a.toArray⟩ n).1)]) h'))
    (qd (Nat.succ n) (fun m=>qY h b (.map (zc a m)) (fun h'=>k (.tup [.b true,.i .i64 (Int.ofNat n),.i .i32 (Int.ofNat c.toNat)]) h')))
    (Nat.ble (Nat.succ c.toNat) 128):Prop)
  | none=>k (.tup [.b false]) h)↔if n<a.length then evN (n+(qbF a n).2) (fun m=>qY h b (.map (zc a m)) (fun h'=>evA (.i .i32 ((qbF a n).1:Int)) (fun c=>k (.tup [.b true,.i .i64 (n:Int),c]) h'))) else k (.tup [.b false]) h:=by
  intro a n
  by_cases hi:n<a.length
  ·rw[if_pos hi,zzE hi];dsimp only;cases hc:Nat.ble (Nat.succ a[n].toNat) 128 with
   | false=>exact Iff.rfl
   | true =>
    have hlt:=Nat.le_of_ble_eq_true hc;have hd:qbF a n=(a[n].toNat,1):=qam (zzE hi) (by omega);show qd _ _↔_;rw[qg,hd];exact Iff.rfl
  ·rw[if_neg hi,List.getElem?_eq_none (by omega)]
 constructor
 ·rintro⟨a,n,h1,h2⟩;exact⟨_,h1,a,n,rfl,(body a n).1 h2⟩
 ·rintro⟨_,h1,a,n,rfl,h2⟩;exact⟨a,n,h1,(body a n).2 h2⟩
theorem Wk.mkn{n:Nat}{t:Tr AV}(ts:List (Nat×AV))(bl:List Blk)(src:List Nat)(hT:TWs t (rl src h.sz) bl.length ts)(hB:BWs h (rl src h.sz) bl.length src bl)
  (hI:((src.filter fun b=>decide (b<h.sz)).Nodup)) (hfl:h.fl=0) (hn:n<=bl.length) (hlow:∀b,b<n->rl src h.sz b=b):Wk n t h (mkT ts) (mkH 0 bl):=by
 obtain⟨hlen,hget⟩:=hB.get;refine Wk.of (r:=rl src h.sz) ⟨hfl.symm,fun b' x' hb hg=>?_,fun b1 b2 h1 h2 _ _ he hl=>?_,fun b' _ _ _=>by rw[hfl];omega,hlow,hn,fun b _ hb=>by rw[hfl] at hb;omega,fun j v' hj=>?_⟩
 ·rw[qbc] at hg;obtain⟨b,q1,q2⟩:=hget b' x' hg;have:rl src h.sz b'=b:=by simp[rl,List.getD_eq_getElem?_getD,q1]
  rw[this];exact q2
 ·have h1:b1<src.length:=by rw[hlen];exact h1
  have h2:b2<src.length:=by rw[hlen];exact h2
  simp only[rl,List.getD_eq_getElem?_getD,zzE h1,zzE h2,Option.getD_some] at he hl
  grind[Wk.mk.nodup_filter_inj]
 ·exact hT.get _ (qbd hj)
end Go.Kc
end
section
namespace Go.Kc
variable [Cur]
variable {P:Program}

mutual
def rnv(g:Nat->Nat):AV->AV
 | .ptr b o=>.ptr (g b) o
 | .sl b o n c l=>.sl (g b) o n c l
 | .map b=>.map (g b)
 | .own b n=>.own (g b) n
 | .yl b=>.yl (g b)
 | .fn f a c=>.fn f (qc6 g a) (qc6 g c)
 | .ifc t v=>.ifc t (rnv g v)
 | .agg cs=>.agg (qc6 g cs)
 | .tup cs=>.tup (qc6 g cs)
 | v=>v
def qc6(g:Nat->Nat):List AV->List AV
 | []=>[]
 | v::vs=>rnv g v::qc6 g vs
end
mutual
def bnd(m:Nat):AV->Bool
 | .ptr b _=>decide (b<m)
 | .sl b _ _ _ _=>decide (b<m)
 | .map b=>decide (b<m)
 | .own b _=>decide (b<m)
 | .yl b=>decide (b<m)
 | .fn _ a c=>qbL m a&&qbL m c
 | .ifc _ v=>bnd m v
 | .agg cs=>qbL m cs
 | .tup cs=>qbL m cs
 | _=>true
def qbL(m:Nat):List AV->Bool
 | []=>true
 | v::vs=>bnd m v&&qbL m vs
end

def gAt(at':List Nat)(d:Nat):Nat->Nat:=fun b=>if b<at'.length then at'.getD b 0 else d+(b-at'.length)
omit [Cur] in
theorem qds{at':List Nat}{d b:Nat}(h:b<at'.length):gAt at' d b=at'[b]:=by
 simp[gAt,h]
structure Lent (h:Hp) (at':List Nat) (bs:List Blk):Prop where
 len:at'.length=bs.length
 nd:at'.Nodup
 blk:∀i x,bs[i]?=some x->∃e a cs,x = .cells e true a cs∧qbL bs.length cs=true∧h.tr.get (gAt at' h.sz i)=some (.cells e true a (qc6 (gAt at' h.sz) cs))∧h.fl<=gAt at' h.sz i∧gAt at' h.sz i<h.sz
omit [Cur] in
theorem Lent.inj{h:Hp}{at':List Nat}{bs:List Blk}(l:Lent h at' bs){i j:Nat}(hi:i<at'.length)(hj:j<at'.length)(he:gAt at' h.sz i=gAt at' h.sz j):i=j:=by
 rw[qds hi,qds hj] at he
 grind[List.getElem_inj,Lent.nd]
noncomputable def qgR:Hp->List Nat->List Blk->Hp
 | h,b::at',x::xs=>qgR (h.put b x) at' xs
 | h,_,_=>h
def qlI(m:Nat)(v:AV)(bs2:List Blk)(v':AV)(h':Hp):Prop:=h'.fl=0->∃src:List Nat,NV (rl src h'.sz) bs2.length v' v∧BWs h' (rl src h'.sz) bs2.length src bs2∧(src.filter fun b=>decide (b<h'.sz)).Nodup∧∀b,b<m->rl src h'.sz b=b
def qhi(m:Nat)(v:AV)(bs2:List Blk)(v':AV)(h':Hp):Prop:=h'.fl=0->Wk m (mkT [(0,v')]) h' (mkT [(0,v)]) (mkH 0 bs2)
theorem qlI.w{m:Nat}{v:AV}{bs2:List Blk}{v':AV}{h':Hp}(hz:qlI m v bs2 v' h')(hle:m<=bs2.length):qhi m v bs2 v' h':=by
 intro hfl;obtain⟨src,s1,s2,s3,s4⟩:=hz hfl;exact Wk.mkn [(0,v)] bs2 src ⟨⟨v',by simp[mkT,Tr.get_set],s1⟩,trivial⟩ s2 s3 hfl hle s4
def Upd(P:Program)(f:Nat)(vs:List AV)(bs:List Blk)(v:AV)(bs2:List Blk):Prop :=
 qbL bs.length vs=true∧bs.length<=bs2.length∧SC P f vs (mkH 0 bs) (qhi bs.length v bs2)
theorem Upd.mkS{f:Nat}{i:IFn}{vs:List AV}{v:AV}{bs bs2:List Blk}(hc:xo P f i=true)(hb:qbL bs.length vs=true)(hl:bs.length<=bs2.length)(hV:S P bs.length i.body (qcJ i.res (qhi bs.length v bs2)) (jz vs 0 .leaf) (mkH 0 bs)):Upd P f vs bs v bs2 :=
 ⟨hb,hl,SC.mk hc hV⟩
end Go.Kc
end
section
namespace Go.Kc
variable [Cur]
variable {P:Program} {h:Hp}

def we(h:Hp)(g:Nat->Nat)(m:Nat):List Nat->List Blk->Prop
 | [],[]=>True
 | b::at',.cells e true a cs::xs=>(qbL m cs=true∧evB (h.tr.get b) (fun y=>y=Blk.cells e true a (qc6 g cs))∧h.fl<=b∧b<h.sz)∧we h g m at' xs
 | _,_=>False
omit [Cur] in
theorem we.get{g:Nat->Nat}{m:Nat}:∀{at':List Nat} {bs:List Blk},we h g m at' bs->at'.length=bs.length∧∀(i:Nat) (x:Blk),bs[i]?=some x->∃b e a cs,at'[i]?=some b∧x = .cells e true a cs∧qbL m cs=true∧h.tr.get b=some (.cells e true a (qc6 g cs))∧h.fl<=b∧b<h.sz
 | [],[],_=>⟨rfl,by simp⟩
 | [],_::_,hh=>by simp[we] at hh
 | _::_,[],hh=>by simp[we] at hh
 | b::at',.dead::xs,hh=>by simp[we] at hh
 | b::at',.map _::xs,hh=>by simp[we] at hh
 | b::at',.cells e false a cs::xs,hh=>by simp[we] at hh
 | b::at',.cells e true a cs::xs,hh=>by
  obtain⟨⟨h1,⟨y,h2,h3⟩,h4,h5⟩,h6⟩:=hh;subst h3;obtain⟨h7,h8⟩:=we.get h6
  grind
omit [Cur] in
theorem Lent.of{at':List Nat}{bs:List Blk}(hn:at'.Nodup)(hl:we h (gAt at' h.sz) bs.length at' bs):Lent h at' bs:=by
 obtain⟨h1,h2⟩:=hl.get;refine⟨h1,hn,fun i x hx=>?_⟩
 grind[qds]
omit [Cur] in
theorem qib{s f b:Nat}{tr:Tr Blk}{x:Blk}:Hp.put ⟨s,f,tr⟩ b x=⟨s,f,tr.set b x⟩:=rfl
omit [Cur] in
theorem qgS{xs:List Blk}:qgR h [] xs=h:=by simp[qgR]
omit [Cur] in
theorem qe4{b:Nat}{at':List Nat}{x:Blk}{xs:List Blk}:qgR h (b::at') (x::xs)=qgR (h.put b x) at' xs:=rfl
def qdw:Blk->Bool
 | .dead=>false
 | _=>true
omit [Cur] in
theorem qb2{α β:Type}{f:α->β}{p:α->Bool}:∀{l:List α},((l.filter p).map f).Nodup->∀{i j:Nat} {x y:α},l[i]?=some x->l[j]?=some y->p x=true->p y=true->f x=f y->i=j
 | [],_,i,j,x,y,hi,_,_,_,_=>by grind
 | a::l,hn,i,j,x,y,hi,hj,hx,hy,he=>by
  have tail:((l.filter p).map f).Nodup:=by
   rw[List.filter_cons] at hn
   grind
  have no:∀{z:α} {m:Nat},l[m]?=some z->p z=true->p a=true->f a=f z->False:=by
   grind
  cases i with
  | zero =>
   grind
  | succ i =>
   cases j with
   | zero=>grind
   | succ j =>
    have hij:i=j:=qb2 tail (i:=i) (j:=j) (by simp_all) (by simp_all) hx hy he;rw[hij]
theorem Wk.mkd{n:Nat}{t:Tr AV}(ts:List (Nat×AV))(bl:List Blk)(src:List Nat)(hT:TWs t (rl src h.sz) bl.length ts)(hB:BWs h (rl src h.sz) bl.length src bl)
  (hI:(((src.zip bl).filter fun p=>decide (p.1<h.sz)&&qdw p.2).map Prod.fst).Nodup) (hfl:h.fl=0) (hn:n<=bl.length) (hlow:∀b,b<n->rl src h.sz b=b):Wk n t h (mkT ts) (mkH 0 bl):=by
 obtain⟨hlen,hget⟩:=hB.get;refine Wk.of (r:=rl src h.sz) ⟨hfl.symm,fun b' x' hb hg=>?_,fun b1 b2 h1 h2 l1 l2 he hl=>?_,fun b' _ _ _=>by rw[hfl];omega,hlow,hn,fun b _ hb=>by rw[hfl] at hb;omega,fun j v' hj=>?_⟩
 ·rw[qbc] at hg;obtain⟨b,q1,q2⟩:=hget b' x' hg;have:rl src h.sz b'=b:=by simp[rl,List.getD_eq_getElem?_getD,q1]
  rw[this];exact q2
 ·obtain⟨x1,g1,d1⟩:=l1;obtain⟨x2,g2,d2⟩:=l2;rw[qbc] at g1 g2;obtain⟨c1,q1,_⟩:=hget b1 x1 g1;obtain⟨c2,q2,_⟩:=hget b2 x2 g2;have e1:rl src h.sz b1=c1:=by simp[rl,List.getD_eq_getElem?_getD,q1]
  have e2:rl src h.sz b2=c2:=by simp[rl,List.getD_eq_getElem?_getD,q2]
  rw[e1,e2] at he;rw[e1] at hl;have v1:qdw x1=true:=by cases x1<;>first|rfl|exact absurd rfl d1
  have v2:qdw x2=true:=by cases x2<;>first|rfl|exact absurd rfl d2
  refine qb2 hI (i:=b1) (j:=b2) (x:=(c1,x1)) (y:=(c2,x2)) ?_ ?_ ?_ ?_ he
  all_goals grind
 ·exact hT.get _ (qbd hj)
omit [Cur] in
theorem qeO{b o:Nat}{k:AV->Prop}:qb1 (.ptr b o) k↔k (.ptr b o):=Iff.rfl
omit [Cur] in
theorem qgv{cs:List AV}{o:Nat}{k:AV->Prop}:qb1 (.pf cs o) k↔k (.pf cs o):=Iff.rfl
omit [Cur] in
theorem qeN{b:Nat}{k:AV->Prop}:qb1 (.map b) k↔k (.map b):=Iff.rfl
omit [Cur] in
theorem qgw{b:Nat}{k:AV->Prop}:qb1 (.yl b) k↔k (.yl b):=Iff.rfl
omit [Cur] in
theorem qgu{f:Nat}{a c:List AV}{k:AV->Prop}:qb1 (.fn f a c) k↔k (.fn f a c):=Iff.rfl
omit [Cur] in
theorem qi1{C:qw}{ops:List ROp}{Q:Tr AV->Hp->Prop}{t:Tr AV}{s f f':Nat}{tr:Tr Blk}:VR' C ops Q t (Hp.down ⟨s,f,tr⟩ f')↔VR' C ops Q t ⟨s,f',tr⟩:=Iff.rfl
omit [Cur] in
theorem qmF{C:qw}{ops:List ROp}{Q:Tr AV->Hp->Prop}{t:Tr AV}{s f:Nat}{tr:Tr Blk}{dst:Option Nat}{o:IOp}:VR' C (⟨dst,.op o,none⟩::ops) Q t ⟨s,f,tr⟩ ↔
  if wr (.op o)=true then opK qi o t ⟨s,f,tr⟩ (fun v h'=>zm t dst v (fun t'=>VR' C ops Q t' h')) else opK qi o t ⟨s,s,tr⟩ (fun v h'=>zm t dst v (fun t'=>VR' C ops Q t' (h'.down f))):=qjk
omit [Cur] in
theorem qli{C:qw}{Q:Tr AV->Hp->Prop}{t:Tr AV}{s f:Nat}{tr:Tr Blk}:VR' C [] Q t ⟨s,f,tr⟩↔Q t ⟨s,f,tr⟩:=Iff.rfl
end Go.Kc
end
section
namespace Go.Kc
variable [Cur]
def vQ:=And.intro @List.map_cons.{0,0} (And.intro @List.map_nil.{0,0} (And.intro @Bool.and_true (And.intro @Bool.true_and (And.intro @Bool.and_self (And.intro @and_self (And.intro @Tr.get_set (And.intro @decide_eq_true_eq (And.intro @Bool.false_eq_true (And.intro @true_and (And.intro @and_true (And.intro @List.getElem?_cons_zero.{0} (And.intro @List.getElem?_cons_succ.{0} (And.intro @List.length_cons.{0} (And.intro @List.length_nil.{0} (And.intro @List.take_zero.{0} (And.intro @List.take_succ_cons.{0} (And.intro @List.drop_zero.{0} (And.intro @List.drop_succ_cons.{0} (And.intro @List.drop_nil.{0} (And.intro @List.take_nil.{0} (And.intro @List.nil_append.{0} (And.intro @List.cons_append.{0} (And.intro @List.append_nil.{0} (And.intro @Nat.zero_add (And.intro @Nat.add_zero (And.intro @Nat.le_refl (And.intro @Nat.zero_le (And.intro @Int.toNat_natCast (And.intro @Int.natCast_nonneg (And.intro @Int.ofNat_lt (And.intro @Bool.not_true (And.intro @Bool.not_false (And.intro @decide_true (And.intro @decide_false (And.intro @Bool.xor_false (And.intro @Bool.xor_true (And.intro @Bool.false_xor (And.intro @Bool.true_xor (And.intro @Nat.lt_irrefl (And.intro @List.replicate_succ.{0} (And.intro @List.replicate_zero.{0} (And.intro @List.flatten_cons.{0} (And.intro @List.flatten_nil.{0} (And.intro @Nat.succ_eq_add_one (And.intro @Option.isNone_none.{0} (And.intro @Option.isSome_none.{0} (And.intro @Bool.false_and (And.intro @Bool.and_false (And.intro @Nat.sub_zero (And.intro @qgS (And.intro @qe4 (And.intro @qib (And.intro @qik (And.intro @qiN (And.intro @qe2 (And.intro @qdz @List.append_assoc.{0}))))))))))))))))))))))))))))))))))))))))))))))))))))))))
def vX:=And.intro @qi1 (And.intro @qmF (And.intro @qli (And.intro @qgO (And.intro @qgP (And.intro @qeV (And.intro @qgM (And.intro @qeO (And.intro @qgv (And.intro @qeN (And.intro @qgw @qgu))))))))))
def vU:=And.intro @shb.eq_1 (And.intro @shb.eq_2 (And.intro @shb.eq_3 (And.intro @shv.eq_1 (And.intro @shv.eq_2 (And.intro @shv.eq_3 (And.intro @shv.eq_4 (And.intro @shv.eq_5 (And.intro @shv.eq_6 (And.intro @shv.eq_7 (And.intro @shv.eq_8 (And.intro @shv.eq_9 (And.intro @shv.eq_10 (And.intro @qc8.eq_1 @qc8.eq_2)))))))))))))
def vY:=And.intro vU (And.intro @jD.eq_1 (And.intro @jD.eq_2 (And.intro @cellsOf.eq_1 (And.intro @cellsOf.eq_2 (And.intro @wr.eq_1 (And.intro @wr.eq_2 (And.intro @wr.eq_3 (And.intro @wr.eq_4 (And.intro @wr.eq_5 (And.intro @wr.eq_6 (And.intro @wr.eq_7 (And.intro @wr.eq_8 (And.intro @wr.eq_9 (And.intro @wr.eq_10 (And.intro @wr.eq_11 (And.intro @zz.eq_1 @zz.eq_2))))))))))))))))
def vS:=And.intro vA (And.intro vE (And.intro vO (And.intro vB (And.intro vF (And.intro vM (And.intro vR vX))))))
def vT:=And.intro vY (And.intro @qjJ (And.intro @qjK (And.intro vP (And.intro vC (And.intro vQ (And.intro @qiT (And.intro @qg4 (And.intro not_false_eq_true (And.intro @eq_self.{1} @Int.cast_ofNat_Int)))))))))
def ROp.q(n:Nat)(o:IOp):ROp:=⟨some n,.op o,none⟩
def ROp.m(n:Nat)(x:O):ROp:=⟨some n,.op (.mov x),none⟩
def ROp.g(n:Nat)(o:IOp)(c:Nat)(b:Bool):ROp:=⟨some n,.op o,some (c,b)⟩
def ROp.l(n f:Nat)(xs:List O):ROp:=⟨some n,.callF f xs,none⟩
def ROp.u(o:IOp):ROp:=⟨none,.op o,none⟩
def ICode.r(ops:List ROp):ICode:=.reg false ops
def O.k(n:Int):O:=.c (.i .i64 n)
def ROp.n(n a:Nat):ROp:=⟨some n,.op (.mov (.t a)),none⟩
def ROp.d(n a:Nat):ROp:=⟨some n,.op (.load1 (.t a)),none⟩
def ROp.v(n k a:Nat):ROp:=⟨some n,.op (.loadN k (.t a)),none⟩
def ROp.f(n k a:Nat):ROp:=⟨some n,.op (.fAddr k (.t a)),none⟩
def ROp.i(n k a b:Nat):ROp:=⟨some n,.op (.iAddrS k (.t a) (.t b)),none⟩
def ROp.a(n a:Nat)(k:Int):ROp:=⟨some n,.op (.bin .add (.t a) (.c (.i .i64 k))),none⟩
def ROp.b(n:Nat)(o:BinOp)(a b:Nat):ROp:=⟨some n,.op (.bin o (.t a) (.t b)),none⟩
def ROp.w(n:Nat)(o:BinOp)(a:Nat)(k:Int):ROp:=⟨some n,.op (.bin o (.t a) (.c (.i .i64 k))),none⟩
def ROp.e(n a:Nat):ROp:=⟨some n,.op (.len false (.t a)),none⟩
def ROp.x(n a k:Nat):ROp:=⟨some n,.op (.ext (.t a) k),none⟩
def ROp.s(n a b:Nat):ROp:=⟨some n,.op (.bin .lss (.t a) (.t b)),none⟩
def ROp.p(n a b:Nat):ROp:=⟨some n,.op (.pick (.t a) (.t b) (.c (.b false))),none⟩
def ROp.o(n a b:Nat):ROp:=⟨some n,.op (.pick (.t a) (.c (.b true)) (.t b)),none⟩
def ROp.y(n a c:Nat):ROp:=⟨some n,.op (.mov (.t a)),some (c,true)⟩
def ROp.z(n a c:Nat):ROp:=⟨some n,.op (.mov (.t a)),some (c,false)⟩
def ROp.j(n a c:Nat)(b:Bool):ROp:=⟨some n,.op (.load1 (.t a)),some (c,b)⟩
def ROp.h(n k a c:Nat)(b:Bool):ROp:=⟨some n,.op (.fAddr k (.t a)),some (c,b)⟩
def O.F:O:=.c (.b false)
def O.T:O:=.c (.b true)
def O.N:O:=.c .nils
omit [Cur] in
theorem q_q{n:Nat}{o:IOp}:ROp.q n o=⟨some n,.op o,none⟩:=rfl
omit [Cur] in
theorem q_m{n:Nat}{x:O}:ROp.m n x=⟨some n,.op (.mov x),none⟩:=rfl
omit [Cur] in
theorem q_g{n:Nat}{o:IOp}{c:Nat}{b:Bool}:ROp.g n o c b=⟨some n,.op o,some (c,b)⟩:=rfl
omit [Cur] in
theorem q_l{n f:Nat}{xs:List O}:ROp.l n f xs=⟨some n,.callF f xs,none⟩:=rfl
omit [Cur] in
theorem q_u{o:IOp}:ROp.u o=⟨none,.op o,none⟩:=rfl
omit [Cur] in
theorem q_r{ops:List ROp}:ICode.r ops = .reg false ops:=rfl
omit [Cur] in
theorem q_k{n:Int}:O.k n = .c (.i .i64 n):=rfl
omit [Cur] in
theorem qm7{n a:Nat}:ROp.n n a=⟨some n,.op (.mov (.t a)),none⟩:=rfl
omit [Cur] in
theorem qm1{n a:Nat}:ROp.d n a=⟨some n,.op (.load1 (.t a)),none⟩:=rfl
omit [Cur] in
theorem qnb{n k a:Nat}:ROp.v n k a=⟨some n,.op (.loadN k (.t a)),none⟩:=rfl
omit [Cur] in
theorem qm3{n k a:Nat}:ROp.f n k a=⟨some n,.op (.fAddr k (.t a)),none⟩:=rfl
omit [Cur] in
theorem qm5{n k a b:Nat}:ROp.i n k a b=⟨some n,.op (.iAddrS k (.t a) (.t b)),none⟩:=rfl
omit [Cur] in
theorem qmZ{n a:Nat}{k:Int}:ROp.a n a k=⟨some n,.op (.bin .add (.t a) (.c (.i .i64 k))),none⟩:=rfl
omit [Cur] in
theorem qm0{n:Nat}{o:BinOp}{a b:Nat}:ROp.b n o a b=⟨some n,.op (.bin o (.t a) (.t b)),none⟩:=rfl
omit [Cur] in
theorem qnc{n:Nat}{o:BinOp}{a:Nat}{k:Int}:ROp.w n o a k=⟨some n,.op (.bin o (.t a) (.c (.i .i64 k))),none⟩:=rfl
omit [Cur] in
theorem qm2{n a:Nat}:ROp.e n a=⟨some n,.op (.len false (.t a)),none⟩:=rfl
omit [Cur] in
theorem qnd{n a k:Nat}:ROp.x n a k=⟨some n,.op (.ext (.t a) k),none⟩:=rfl
omit [Cur] in
theorem qna{n a b:Nat}:ROp.s n a b=⟨some n,.op (.bin .lss (.t a) (.t b)),none⟩:=rfl
omit [Cur] in
theorem qm9{n a b:Nat}:ROp.p n a b=⟨some n,.op (.pick (.t a) (.t b) (.c (.b false))),none⟩:=rfl
omit [Cur] in
theorem qm8{n a b:Nat}:ROp.o n a b=⟨some n,.op (.pick (.t a) (.c (.b true)) (.t b)),none⟩:=rfl
omit [Cur] in
theorem qne{n a c:Nat}:ROp.y n a c=⟨some n,.op (.mov (.t a)),some (c,true)⟩:=rfl
omit [Cur] in
theorem qnf{n a c:Nat}:ROp.z n a c=⟨some n,.op (.mov (.t a)),some (c,false)⟩:=rfl
omit [Cur] in
theorem qm6{n a c:Nat}{b:Bool}:ROp.j n a c b=⟨some n,.op (.load1 (.t a)),some (c,b)⟩:=rfl
omit [Cur] in
theorem qm4{n k a c:Nat}{b:Bool}:ROp.h n k a c b=⟨some n,.op (.fAddr k (.t a)),some (c,b)⟩:=rfl
omit [Cur] in
theorem q_F:O.F = .c (.b false):=rfl
omit [Cur] in
theorem q_T:O.T = .c (.b true):=rfl
omit [Cur] in
theorem q_N:O.N = .c .nils:=rfl
def vI:=And.intro (And.intro @qm7 (And.intro @qm1 (And.intro @qnb (And.intro @qm3 (And.intro @qm5 (And.intro @qmZ (And.intro @qm0 (And.intro @qnc (And.intro @qm2 (And.intro @qnd (And.intro @qna (And.intro @qm9 (And.intro @qm8 (And.intro @qne (And.intro @qnf (And.intro @qm6 (And.intro @qm4 (And.intro q_F (And.intro q_T q_N))))))))))))))))))) (And.intro (And.intro @jz.eq_1 (And.intro @jz.eq_2 (And.intro @H0.eq_1 (And.intro @mkT.eq_1 (And.intro @mkT.eq_2 (And.intro @mkH.eq_1 (And.intro @trL.eq_1 @trL.eq_2))))))) (And.intro @List.length_cons.{0} (And.intro @List.length_nil.{0} (And.intro Nat.zero_add (And.intro @q_q (And.intro @q_m (And.intro @q_g (And.intro @q_l (And.intro @q_u (And.intro @q_r @q_k))))))))))
end Go.Kc
end
section
namespace Go.Kc
variable [Cur]
variable {P:Program}

omit [Cur] in
theorem CRs.cut{φ:Nat->Option (Array Value)}:∀{cs:List AV} {vs:List Value} (o m:Nat),CRs σ0 φ cs (vs.take cs.length)->CRs σ0 φ ((cs.drop o).take m) ((vs.drop o).take ((cs.drop o).take m).length)
 | [],vs,o,m,h=>by simp;exact .nil
 | c::cs,[],o,m,h=>by simp at h;cases h
 | c::cs,v::vs,0,0,h=>by simp;exact .nil
 | c::cs,v::vs,0,m+1,h=>by
  simp only[List.length_cons,List.take_succ_cons] at h;cases h with
  | cons _ _ _ _ h1 h2 =>
   have:=CRs.cut 0 m h2;simp only[List.drop_zero] at this;simp only[List.drop_zero,List.take_succ_cons,List.length_cons];exact .cons _ _ _ _ h1 this
 | c::cs,v::vs,o+1,m,h=>by
  simp only[List.length_cons,List.take_succ_cons] at h;cases h with
  | cons _ _ _ _ h1 h2=>simpa using CRs.cut o m h2
end Go.Kc
end
section
namespace Go.Kc
variable [Cur]
variable {P:Program} {n:Nat} {t:Tr AV} {h:Hp}

theorem Wk.trans{t1 t2:Tr AV}{h1 h2:Hp}(a:Wk n t h t1 h1)(b:Wk n t1 h1 t2 h2):Wk n t h t2 h2:=by
 intro ρ B w tm ht r;obtain⟨ρ1,g1,g2,g3⟩:=a ρ B w tm ht r;obtain⟨ρ2,k1,k2,k3⟩:=b ρ1 B w tm g1 g2;exact⟨ρ2,k1,k2,g3.trans k3⟩
end Go.Kc
end
section
namespace Go.Kc
variable [Cur]
variable {P:Program} {f:Nat}

def qbp(P:Program)(f:Nat)(e:Array Value->Sem Value):Prop:=∀args w,(callFunc f args).run P w=((e args).run P w).andThen fun v w'=>.ok (.value v) w'
omit [Cur] in
theorem qbp.of{fn:Func}{e:Array Value->Sem Value}(hf:P.funcs[f]?=some fn)(hname:(fn.name == "runtime.NumGoroutine")=false)(hb:fn.body.isNone=true)(hn:Extern.findNext fn=none)(he:Extern.find fn=some e):qbp P f e :=
 fun args w=>run_callFunc_extern hf hname hb hn he args w
theorem qbp.pure{e:Array Value->Sem Value}{vs:List AV}{v:AV}(h:qbp P f e)(hr:∀ρ (args:Array Value) w,VRs σ0 ρ vs args.toList->∃v',(e args).run P w = .ok v' w∧VR σ0 ρ v v'):zf P f vs v:=by
 intro hp k hk;refine⟨trivial,fun ρ B w args r ha=>?_⟩
 obtain⟨v',h1,h2⟩:=hr ρ args w ha;exact .inr ⟨v',w,by rw[h,h1];rfl,v,v',hp,ρ,rfl,hk,h2,r,Kept.refl _ _ _ _⟩

def qdt(c:UInt8):List UInt8->Nat->Int
 | [],_=>-1
 | x::xs,j=>if x=c then (j:Int) else qdt c xs (j+1)
omit [Cur] in
theorem qbO(a:List UInt8)(c:UInt8):firstIdx ⟨a.toArray⟩ c=qdt c a 0:=by
 have key:∀(l:List UInt8) (j:Nat),a.drop j=l->j<=a.length->(match (List.range' j l.length).find? (fun i=>(⟨a.toArray⟩:ByteArray)[i]! == c) with|some i=>(i:Int)|none=>-1)=qdt c l j:=by
  intro l
  induction l with
  | nil=>intro j _ _;simp[qdt]
  | cons x xs ih =>
   intro j hd hj
   have hlt:j<a.length:=by
    have:=congrArg List.length hd;simp at this;omega
   have hx:a[j]=x:=by
    have:=List.drop_eq_getElem_cons hlt;rw[hd] at this;exact (List.cons.inj this).1.symm
   have hget:(⟨a.toArray⟩:ByteArray)[j]! = x:=by
    have:j<(⟨a.toArray⟩:ByteArray).size:=by simpa[ByteArray.size] using hlt
    rw[getElem!_pos (⟨a.toArray⟩:ByteArray) j this];show a.toArray[j]=x;simpa using hx
   rw[List.length_cons,List.range'_succ,List.find?_cons,hget]
   by_cases he:x=c
   ·subst he;simp[qdt]
   ·have:(x==c)=false:=by simpa using he
    rw[this,qdt,if_neg he];exact ih (j+1) (by rw[← List.drop_drop,hd];rfl) (by omega)
 have:=key a 0 rfl (Nat.zero_le _);rw[← this];unfold firstIdx;rw[List.range_eq_range'];have:(⟨a.toArray⟩:ByteArray).size=a.length:=by simp[ByteArray.size]
 rw[this];split<;>rename_i h1<;>split<;>rename_i h2<;>simp_all
theorem qhe(h:qbp P f Extern.BytealgIndexByte.indexByte)(a:List UInt8)(c:UInt8):zf P f [.s a,.i .u8 (c.toNat:Int)] (.i .i64 (qdt c a 0)):=by
 refine h.pure ?_;intro ρ args w ha;generalize hl:args.toList=l at ha;cases ha with
 | cons _ _ x xs hx hxs =>
  cases hxs with
  | cons _ _ y ys hy hys =>
   cases hys;cases hx;cases hy;obtain rfl:args = #[.string ⟨a.toArray⟩,.int .u8 (c.toNat:Int)]:=by cases args;simp_all
   refine⟨_,run_indexByte_string _ _ _,?_⟩;have:(c.toNat:Int).toNat.toUInt8=c:=by simp
   rw[this,qbO];exact .i _ _

noncomputable def qbN(a b:List UInt8):Int:=if a=b then 0 else if ltS a b=true then -1 else 1
omit [Cur] in
theorem qir{y:List UInt8}:ltS [] y = !y.isEmpty:=by cases y<;>rfl
omit [Cur] in
theorem qgo{c:UInt8}{x:List UInt8}:ltS (c::x) []=false:=rfl
omit [Cur] in
theorem qby{c d:UInt8}{x y:List UInt8}:ltS (c::x) (d::y)=if c<d then true else if c=d then ltS x y else false:=by
 rw[qaG,qaG];simp only[Op.bytesLess]
 by_cases h1:c<d
 ·simp[h1]
 ·by_cases h2:c=d
  ·simp[h2]
  ·simp[h1,h2]
omit [Cur] in
theorem qhN(a b:List UInt8):Extern.BytealgCompare.cmp ⟨a.toArray⟩ ⟨b.toArray⟩=qbN a b:=by
 have hs:∀l:List UInt8,(⟨l.toArray⟩:ByteArray).size=l.length:=fun l=>by simp[ByteArray.size]
 have hg:∀(l:List UInt8) (j:Nat) (hj:j<l.length),(⟨l.toArray⟩:ByteArray)[j]! = l[j]:=by
  intro l j hj;have:j<(⟨l.toArray⟩:ByteArray).size:=by rw[hs];exact hj
  rw[getElem!_pos (⟨l.toArray⟩:ByteArray) j this];show l.toArray[j]=l[j];simp
 have key:∀(n:Nat) (x y:List UInt8) (j:Nat),a.drop j=x->b.drop j=y->j<=a.length->j<=b.length->min x.length y.length=n->
   (match (List.range' j n).find? (fun i=>(⟨a.toArray⟩:ByteArray)[i]! != (⟨b.toArray⟩:ByteArray)[i]!) with
    | some i=>if (⟨a.toArray⟩:ByteArray)[i]! < (⟨b.toArray⟩:ByteArray)[i]! then (-1:Int) else 1
    | none=>if a.length<b.length then -1 else if a.length > b.length then 1 else 0)=qbN x y:=by
  intro n
  induction n with
  | zero =>
   intro x y j hx hy ha hb hm;have la:x.length=a.length-j:=by rw[← hx];simp
   have lb:y.length=b.length-j:=by rw[← hy];simp
   cases x with
   | nil =>
    cases y with
    | nil =>
     simp at la lb;have:a.length=b.length:=by omega
     simp[qbN,this]
    | cons d ds =>
     simp at la lb;have:a.length<b.length:=by omega
     simp[qbN,this,qir]
   | cons c cs =>
    cases y with
    | nil =>
     simp at la lb;have h1:¬a.length<b.length:=by omega
     have h2:b.length<a.length:=by omega
     simp[qbN,h1,h2,qgo]
    | cons d ds=>simp at hm
  | succ n ih =>
   intro x y j hx hy ha hb hm;cases x with
   | nil=>simp at hm
   | cons c cs =>
    cases y with
    | nil=>simp at hm
    | cons d ds =>
     have la:j<a.length:=by have:=congrArg List.length hx;simp at this;omega
     have lb:j<b.length:=by have:=congrArg List.length hy;simp at this;omega
     have ec:a[j]=c:=by have:=List.drop_eq_getElem_cons la;rw[hx] at this;exact (List.cons.inj this).1.symm
     have ed:b[j]=d:=by have:=List.drop_eq_getElem_cons lb;rw[hy] at this;exact (List.cons.inj this).1.symm
     rw[List.range'_succ,List.find?_cons,hg a j la,hg b j lb,ec,ed]
     by_cases he:c=d
     ·subst he;simp only[bne_self_eq_false];refine (ih cs ds (j+1) (by rw[← List.drop_drop,hx];rfl) (by rw[← List.drop_drop,hy];rfl) (by omega) (by omega) (by simp at hm;omega)).trans ?_;simp[qbN,qby]
     ·have h1:(c != d)=true:=by simpa using he
      simp only[h1];rw[hg a j la,hg b j lb,ec,ed]
      by_cases hlt:c<d
      ·simp[qbN,qby,hlt,he]
      ·simp[qbN,qby,hlt,he]
 have:=key (min a.length b.length) a b 0 rfl rfl (Nat.zero_le _) (Nat.zero_le _) rfl;rw[← this];unfold Extern.BytealgCompare.cmp;rw[List.range_eq_range',hs,hs];rfl
theorem qhc(h:qbp P f Extern.BytealgCompare.compare)(a b:List UInt8):zf P f [.s a,.s b] (.i .i64 (qbN a b)):=by
 refine h.pure ?_;intro ρ args w ha;generalize hl:args.toList=l at ha;cases ha with
 | cons _ _ x xs hx hxs =>
  cases hxs with
  | cons _ _ y ys hy hys =>
   cases hys;cases hx;cases hy;obtain rfl:args = #[.string ⟨a.toArray⟩,.string ⟨b.toArray⟩]:=by cases args;simp_all
   refine⟨.int .i64 (qbN a b),?_,.i _ _⟩
   change Sem.run P (do
    let x ← Extern.Bytes.bytesOf (.string ⟨a.toArray⟩)
    let y ← Extern.Bytes.bytesOf (.string ⟨b.toArray⟩)
    pure (goInt (Extern.BytealgCompare.cmp x y))) w=_
   simp[Extern.Bytes.bytesOf,qhN,goInt]

end Go.Kc
end
section
namespace Go.Kc
variable [Cur]
variable {P:Program}
end Go.Kc
end
section
namespace Go.Kc
variable [Cur]
variable {P:Program} {h:Hp}

noncomputable def trP:List (Nat×Blk)->Tr Blk
 | []=>.leaf
 | p::l=>(trP l).set p.1 p.2
omit [Cur] in
theorem qcs:∀{l:List (Nat×Blk)} {b:Nat} {x:Blk},(trP l).get b=some x->(b,x) ∈ l
 | [],b,x,h=>by simp[trP] at h
 | p::l,b,x,h=>by
  simp only[trP,Tr.get_set] at h;split at h
  ·grind
  ·exact List.mem_cons_of_mem _ (qcs h)
noncomputable def qaF(h:Hp):List (Nat×Blk)->Hp
 | []=>h
 | p::l=>qaF (h.put p.1 .dead) l
omit [Cur] in
theorem qci:∀{l:List (Nat×Blk)} {h:Hp},(qaF h l).sz=h.sz
 | [],_=>rfl
 | _::l,h=>(qci (l:=l)).trans rfl
omit [Cur] in
theorem qch:∀{l:List (Nat×Blk)} {h:Hp},(qaF h l).fl=h.fl
 | [],_=>rfl
 | _::l,h=>(qch (l:=l)).trans rfl
omit [Cur] in
theorem qbt:∀{l:List (Nat×Blk)} {h:Hp} {b:Nat},(qaF h l).tr.get b=if b ∈ l.map Prod.fst then some .dead else h.tr.get b
 | [],_,_=>by simp[qaF]
 | p::l,h,b=>by
  simp only[qaF];rw[qbt]
  by_cases h1:b ∈ l.map Prod.fst
  ·rw[if_pos h1,if_pos (by simp_all)]
  ·rw[if_neg h1];show (h.tr.set p.1 .dead).get b=_;rw[Tr.get_set]
   simp_all
theorem Rel.sub{ρ:Ren}{B:Nat->Prop}{h h':Hp}{w:World}(r:Rel σ0 ρ B h w)(hs:h'.sz=h.sz)(hf:h'.fl=h.fl)(hg:∀b x,h'.tr.get b=some x->x≠.dead->h.tr.get b=some x):Rel σ0 ρ B h' w :=
 ⟨fun b L hb=>by rw[hs];exact r.dom b L hb,by grind[Rel.cells],by grind[Rel.maps],
  by grind[Rel.excl],by grind[Rel.exclm],
  fun b L e wf cs hb hx b' L' e' wf' af' cs' hb' hx'=>r.app b L e wf cs hb (by simp_all) b' L' e' wf' af' cs' hb' (by simp_all),fun b L hb hf'=>r.flr b L hb (by rw[← hf];omega),r.base,
  by grind[Rel.frz],by rw[hs];exact r.dn⟩
end Go.Kc
end
section
namespace Go.Kc
variable [Cur]
variable {P:Program} {env:Tr IFn} {ho:qcv}

inductive OkT (P:Program):Nat->Nat->Tr IFn->Prop where
 | leaf (a b:Nat):OkT P a b .leaf
 | no (a b:Nat) {l r:Tr IFn}:OkT P (2*a) (a+b) l->OkT P (2*a) (2*a+b) r->OkT P a b (.node none l r)
 | fn (a b:Nat) {i:IFn} {l r:Tr IFn}:xo P b i=true->OkT P (2*a) (a+b) l->OkT P (2*a) (2*a+b) r->OkT P a b (.node (some i) l r)

omit [Cur] in
theorem OkT.get{a b:Nat}{t:Tr IFn}(h:OkT P a b t):∀n i,t.get n=some i->xo P (a*n+b) i=true:=by
 induction h with
 | leaf=>intro n i h;simp at h
 | no a b hl hr ihl ihr =>
  intro n i h;cases n with
  | zero=>rw[Tr.get_node] at h;cases h
  | succ m =>
   rcases Nat.mod_two_eq_zero_or_one m with h0|h0
   ·obtain⟨j,rfl⟩:∃j,m=2*j:=⟨m / 2,by omega⟩
    rw[Tr.get_node] at h;simp only[h0,if_true,Nat.mul_div_cancel_left j (Nat.zero_lt_two)] at h;have:=ihl j i h;rwa [show 2*a*j+(a+b)=a*(2*j+1)+b from by rw[Nat.mul_add,Nat.mul_one,← Nat.mul_assoc,Nat.mul_comm a 2];omega] at this
   ·obtain⟨j,rfl⟩:∃j,m=2*j+1:=⟨m / 2,by omega⟩
    rw[Tr.get_node] at h;simp only[h0,Nat.one_ne_zero,if_false,show (2*j+1) / 2=j from by omega] at h
    have:=ihr j i h;rwa [show 2*a*j+(2*a+b)=a*(2*j+1+1)+b from by rw[Nat.mul_add,Nat.mul_add,Nat.mul_one,← Nat.mul_assoc,Nat.mul_comm a 2];omega] at this
 | fn a b hc hl hr ihl ihr =>
  intro n i h;cases n with
  | zero=>rw[Tr.get_node] at h;cases h;simpa using hc
  | succ m =>
   rcases Nat.mod_two_eq_zero_or_one m with h0|h0
   ·obtain⟨j,rfl⟩:∃j,m=2*j:=⟨m / 2,by omega⟩
    rw[Tr.get_node] at h;simp only[h0,if_true,Nat.mul_div_cancel_left j (Nat.zero_lt_two)] at h;have:=ihl j i h;rwa [show 2*a*j+(a+b)=a*(2*j+1)+b from by rw[Nat.mul_add,Nat.mul_one,← Nat.mul_assoc,Nat.mul_comm a 2];omega] at this
   ·obtain⟨j,rfl⟩:∃j,m=2*j+1:=⟨m / 2,by omega⟩
    rw[Tr.get_node] at h;simp only[h0,Nat.one_ne_zero,if_false,show (2*j+1) / 2=j from by omega] at h
    have:=ihr j i h;rwa [show 2*a*j+(2*a+b)=a*(2*j+1+1)+b from by rw[Nat.mul_add,Nat.mul_add,Nat.mul_one,← Nat.mul_assoc,Nat.mul_comm a 2];omega] at this

omit [Cur] in
theorem Kept.same{ρ ρ':Ren}{h h':Hp}{w w':World}(k:Kept ρ (low w.heap.size) h w ρ' h' w')(may:MemPlace->Prop):w.keptBut w' may:=by
 refine⟨k.io.1,k.io.2,fun i hi=>?_⟩
 have e:=k.pres i hi;rw[e];cases w.heap[i]? with
 | none=>rfl
 | some o=>cases o<;>simp
noncomputable def qj7(w:World):Nat->Option (Array Value):=fun k=>match w.heap[k]? with|some (.cells arr _ _)=>some arr|_=>none
omit [Cur] in
theorem qcV{w:World}{k:Nat}{arr:Array Value}:qj7 w k=some arr↔∃ty fz,w.heap[k]?=some (.cells arr ty fz):=by
 show (match w.heap[k]? with|some (.cells arr _ _)=>some arr|_=>none)=some arr↔_
 cases w.heap[k]? with
 | none=>simp
 | some o=>cases o<;>simp
noncomputable def ice(w:World) [t:TabOk w]:Ren:=⟨fun _=>none,⟨qj7 w,fun k a h=>qcV.2 (t.ok k a h)⟩,0⟩
omit [Cur] in
theorem qic{w:World} [TabOk w]{k:Nat}{arr:Array Value}:(ice w).frz k=some arr↔∃ty fz,w.heap[k]?=some (.cells arr ty fz):=qcV
theorem Rel.ice(w:World) [TabOk w]:Rel σ0 (ice w) (low w.heap.size) H0 w :=
 ⟨(fun _ _ hb=>by cases hb),(fun _ _ _ _ _ _ hb=>by cases hb),(fun _ _ _ hb=>by cases hb),(fun _ _ _ _ _ hb=>by cases hb),(fun _ _ _ hb=>by cases hb),(fun _ _ _ _ _ hb=>by cases hb),(fun _ _ hb=>by cases hb),(fun _ h=>h),
  (fun k arr hk=>⟨qic.1 hk,fun _ _ _ hb=>by cases hb⟩),⟨Nat.le_refl _,fun _ _ hb=>by cases hb⟩⟩
theorem zf.law{f:Nat}{vs:List AV}{args:Array Value}(hp:zf P f vs (.b true))(hc:qaR P f)(w:World) [TabOk w](ha:VRs σ0 (ice w) vs args.toList):Calls P f args w fun e w'=>e = .returned (.bool true)∧∀may,w.keptBut w' may:=by
 have h:=(hp H0 (fun v _=>v = .b true) rfl).2 (ice w) (low w.heap.size) w args (Rel.ice w) ha
 rcases h with⟨_,h⟩|⟨v,w',h,_⟩
 ·refine h.mono fun e w' hh=>?_
  obtain⟨v,v',h',ρ',rfl,rfl,hv,_,hk⟩:=hh;cases hv;exact⟨rfl,fun may=>hk.same may⟩
 ·obtain⟨fn,h1,h2,h3⟩:=hc;rw[xu h1 h2 h3] at h;cases h
omit [Cur] in
theorem qfJ{f:Nat}{i:IFn}(hc:xo P f i=true):qaR P f:=by
 unfold xo at hc;split at hc<;>try (cases hc;done)
 rename_i fn hfn;simp only[Bool.and_eq_true,bne_iff_ne] at hc;obtain⟨⟨hname,hbody⟩,hres⟩:=hc;split at hbody<;>try (cases hbody;done)
 rename_i c hcb;exact⟨fn,hfn,hname,by rw[hcb];rfl⟩
end Go.Kc
end
section
namespace Go.Kc
variable [Cur]
section
variable {H:Type} {enc:TypeId×Value->H} {P:Program} {w:World} {α β:Type} {t e:TypeId}
omit [Cur] in
theorem CRs.app{φ:Nat->Option (Array Value)}:∀{as bs:List AV} {us vs:List Value},CRs σ0 φ as us->CRs σ0 φ bs vs->CRs σ0 φ (as++bs) (us++vs)
 | _,_,_,_,.nil,h=>h
 | _,_,_,_,.cons v l v' l' h hs,h2=>.cons _ _ _ _ h (CRs.app hs h2)
def qcw(enc:TypeId×Value->H)(P:Program)(w:World)(t:TypeId)(I:α->Prop)(E:α->List AV):Prop :=
 ∀(fuel:Nat) (cs:List Value) x,DataW.trod enc P w 0 (fun _=>true) true fuel t cs=some x->∃a,I a∧CRs σ0 (qj7 w) (E a) cs
omit [Cur] in
theorem qcw.map{I:α->Prop}{E:α->List AV}{J:β->Prop}{F:β->List AV}(h:qcw enc P w t I E)(g:α->β)(hg:∀a,I a->J (g a)∧F (g a)=E a):qcw enc P w t J F:=by
 intro fuel cs x hx;obtain⟨a,ha,h1⟩:=h _ _ _ hx;exact⟨g a,(hg a ha).1,by rw[(hg a ha).2];exact h1⟩
omit [Cur] in
theorem qcw.agg [TabOk w]{I:α->Prop}{E:α->List AV}(h:qcw enc P w t I E){v:Value}{d:DataW H}{p:List MemPlace}(ha:∃cs,v = .agg cs)(hd:DataW.Trod enc P w 0 (fun _=>true) true t v d p):∃a,I a∧VR σ0 (ice w) (.agg (E a)) v:=by
 obtain⟨cs,rfl⟩:=ha;obtain⟨fuel,hd⟩:=hd;obtain⟨a,h1,h2⟩:=h _ _ _ hd;exact⟨a,h1,.agg _ _ h2.vr⟩
omit [Cur] in
theorem qcn{w':World}(hk:∀may,w.keptBut w' may){p:MemPlace}(hp:p.block<w.heap.size):w.sameAt w' p:=by
 have h:=(hk fun _=>False).2.2 p.block hp
 have h0:w.heap[p.block]?=some w.heap[p.block]:=Array.getElem?_eq_getElem hp;cases p with
 | cell b off =>
  show w'.cell? ⟨b,off,none⟩=w.cell? ⟨b,off,none⟩;simp only[MemPlace.block] at h h0 hp;unfold World.cell?;split at h
  ·rename_i c1 t1 f1 c2 t2 f2 e1 e2;dsimp only;rw[e1,e2];simpa using h.2.2.2 off (fun hh=>hh)
  ·rename_i e1 e2;dsimp only;rw[e1,e2]
  ·dsimp only;rw[h]
 | map b =>
  show w'.heap[b]?=w.heap[b]?;simp only[MemPlace.block] at h h0 hp;split at h
  ·rename_i c1 t1 f1 c2 t2 f2 e1 e2
   have:c2=c1:=by
    apply Array.ext_getElem?;intro j;exact h.2.2.2 j (fun hh=>hh)
   rw[e1,e2,h.1,h.2.1,this]
  ·rename_i e1 e2;rcases h with hh|⟨h1,h2⟩
   ·exact hh.elim
   ·rw[e1,e2,h1,h2]
  ·exact h
omit [Cur] in
theorem Trod.stay{w':World}{T:TypeId->Prop}(K:Kids P T)(hz:∀t e,T t->P.underlying t=some (.slice e)->0<P.cellsOf e){ts:List TypeId}{vs:List Value}{ds:List (DataW H)}{ps:List MemPlace}(hT:∀t ∈ ts,T t)
  (h:DataW.TrodAll enc P w 0 (fun _=>true) true ts vs ds ps) (hk:∀may,w.keptBut w' may):DataW.TrodAll enc P w' 0 (fun b=>decide (b<w.heap.size)) true ts vs ds ps:=by
 have hlt:=DataW.TrodAll.lt h;have h1:DataW.TrodAll enc P w 0 (fun b=>decide (b<w.heap.size)) true ts vs ds ps:=h.respare K hz hT fun p hp=>decide_eq_true (hlt p hp)
 clear h
 induction ts generalizing vs ds ps with
 | nil =>
  cases vs<;>cases ds<;>first|exact h1|exact h1.elim
 | cons t ts ih =>
  cases vs with
  | nil=>exact h1.elim
  | cons v vs =>
   cases ds with
   | nil=>exact h1.elim
   | cons d ds =>
    obtain⟨p,q,⟨fuel,h2⟩,h3,e⟩:=h1;subst e;refine⟨p,q,⟨fuel,DataW.trod_carry _ _ _ _ h2 fun x hx=>qcn hk (hlt x (List.mem_append_left _ hx))⟩,?_,rfl⟩
    exact ih (fun t ht=>hT t (List.mem_cons_of_mem _ ht)) (fun x hx=>hlt x (List.mem_append_right _ hx)) h3
end
end Go.Kc
namespace Go.Kc
variable [Cur]
omit [Cur] in
theorem qiL{P:Program}{H:Type}{enc:TypeId×Value->H}{f:Func}{s:ChangeSpec}{apart fresh handsOn:Bool}{W W':World}{args:Array Value}{v:Value}{ds gs:List (DataW H)}{before pv:List MemPlace}
  (hW:DataW.Whole enc P f.params.toList s.vars apart W args.toList ds gs before) (hs:(s.fn H (ds++gs)).args=ds)
  {T:TypeId->Prop} (K:Kids P T) (hz:∀t e,T t->P.underlying t=some (.slice e)->0<P.cellsOf e) (hT:∀t ∈ f.params.toList,T t)
  (hres:∀(b:Nat) (sp:Nat->Bool) (hd:Bool),DataW.TrodAll enc P W' b sp hd f.resultTypes.toList (v.resultList f.resultTypes.size) (s.fn H (ds++gs)).results [])
  (hvars:∀sp:Nat->Bool,DataW.TrodVars enc P W' sp s.vars (s.fn H (ds++gs)).vars pv)
  (hk:∀may,W.keptBut W' may):s.post enc P f apart fresh handsOn false W args v W':=by
 have hW':=hW;obtain⟨p,q,hA,_,_⟩:=hW';exact⟨ds,gs,before,[],p,pv,hW,hres _ _ _,by rw[hs];exact Trod.stay K hz hT hA hk,hvars _,hk _,fun h=>by cases h⟩
end Go.Kc
end
section
namespace Go.Kc
variable [Cur]
variable {P:Program} {env:Tr IFn} {ho:qcv}
def kOf:IntKind->Nat
 | .i8=>0 | .i16=>1 | .i32=>2 | .i64=>3 | .u8=>4 | .u16=>5 | .u32=>6 | .u64=>7
omit [Cur] in
theorem qdX{a b:IntKind}(h:Nat.beq (kOf a) (kOf b)=true):a=b:=by
 cases a<;>cases b<;>first|rfl|cases h
def qj8:Int->Int->Bool
 | .ofNat a,.ofNat b=>Nat.beq a b
 | .negSucc a,.negSucc b=>Nat.beq a b
 | _,_=>false
omit [Cur] in
theorem qdV:∀{a b:Int},qj8 a b=true->a=b
 | .ofNat a,.ofNat b,h=>by rw[Nat.eq_of_beq_eq_true h]
 | .negSucc a,.negSucc b,h=>by rw[Nat.eq_of_beq_eq_true h]
 | .ofNat _,.negSucc _,h=>by cases h
 | .negSucc _,.ofNat _,h=>by cases h
omit [Cur] in
theorem qdQ{x y:List UInt8}(h:eqS x y=true):x=y:=by
 rw[zR] at h;simpa using h
noncomputable def tt(b:Bool):Prop:=Bool.rec (motive:=fun _=>Prop) False True b
omit [Cur] in
theorem qmx{b:Bool}(h:tt b):b=true:=by cases b with|true=>rfl|false=>exact h.elim
end Go.Kc
end
section
namespace Go.Kc
variable [Cur]
variable {P:Program}
def Tr.o(l r:Tr IFn):Tr IFn:=.node none l r
def Tr.f(i:IFn):Tr IFn:=.node (some i) .leaf .leaf
def Tr.g(i:IFn)(l r:Tr IFn):Tr IFn:=.node (some i) l r
def tbl{α:Type}(n:Nat)(l:List α)(row:Nat->α->List ROp):IFn :=
 ⟨[.tmp 0],.seq (.r [.m 0 .N]) (.seq (.r ((l.zipIdx.flatMap fun p=>row p.2 p.1)++[.q (2*n+1) (.buildS n [.s [],.nils] ((List.range n).map fun i=>(2*i,2,.t (2*i+2)))),.n 0 (2*n+1)])) .ret)⟩
def qnk(xs:List (List UInt8)):IOp:=.buildS xs.length [.s []] (xs.zipIdx.map fun q=>(q.2,1,.c (.s q.1)))

end Go.Kc
end
section
namespace Go.Kc
variable [Cur]
variable {P:Program} {n:Nat} {h:Hp}
def bsy(r:Loop):Loop:={ r with state:=.busy }
def rdy(r:Loop):Loop:={ r with state:=.ready,pending:=none }
def dne(r:Loop)(c:Code):Loop:={ r with state:=.done,pending:=some c }
structure LoopOk (P:Program) (r:Loop) (ps:List Nat) (ai bi:ICode):Prop where
 params:r.params.toList=ps
 code:∃nt,qm P nt r.assign ai=true∧qm P nt r.body bi=true∧nt<=r.tmps.size∧∀p ∈ ps,p<nt
 flat:zY ai=true∧zY bi=true
 real:∀j,r.assign≠.goto j
def qhg(P:Program)(r:Loop)(ps:List Nat)(ai bi:ICode):Prop:=∀r',xq r r'->LoopOk P r' ps ai bi
noncomputable def qe3:List Nat->List AV->Tr AV->Tr AV
 | p::ps,u::us,t=>qe3 ps us (t.set p u)
 | _,_,t=>t
def ql0(P:Program)(n b:Nat)(bi:ICode)(Q:X->Tr AV->Hp->Prop)(x:X)(t:Tr AV)(h:Hp):Prop :=
 onX x (∃r ts R,h.tr.get b=some (.map (zJ r ts))∧r.state = .ready∧(∀q,xq r q->xq R (bsy q))∧S P n bi Q t (h.put b (.map (zJ R ts)))) (fun _=>False) False
def qjT:X->Loop->Loop
 | .normal,q=>rdy q
 | .exit id,q=>dne q (.exit id)
 | .ret,q=>dne q .ret
def goes:X->Bool
 | .normal=>true
 | _=>false
def ql1(b:Nat)(k:AV->Hp->Prop)(x:X)(_:Tr AV)(h:Hp):Prop :=
 ∃r ts R,h.tr.get b=some (.map (zJ r ts))∧(∀q,xq r q->xq R (qjT x q))∧k (.b (goes x)) (h.put b (.map (zJ R ts)))
omit [Cur] in
theorem qd3{ρ:Ren}:∀{ps:List Nat} {us:List AV} {t:Tr AV} {tm:Array Value} {args:List Value},VRs σ0 ρ us args->ps.length=us.length->(∀p ∈ ps,p<tm.size)->TR σ0 ρ t tm->
  TR σ0 ρ (qe3 ps us t) ((ps.zip args).foldl (fun tm (p,v)=>tm.setIfInBounds p v) tm)
 | [],[],_,_,_,hv,_,_,ht=>by cases hv;exact ht
 | [],_::_,_,_,_,_,hl,_,_=>by grind
 | _::_,[],_,_,_,_,hl,_,_=>by grind
 | p::ps,u::us,t,tm,args,hv,hl,hp,ht=>by
  cases hv with
  | cons _ _ v vs h1 h2 =>
   have hlt:=hp p (by simp);refine qd3 (ps:=ps) h2 (by simp_all) (fun q hq=>by simp_all) (fun j x hj=>?_)
   rw[Tr.get_set] at hj;split at hj
   ·simp_all
   ·rename_i he;obtain⟨g1,g2⟩:=ht j x hj;refine⟨by simp_all,?_⟩
    rw[Array.getD_eq_getD_getElem?,Array.getElem?_setIfInBounds,if_neg (by omega),← Array.getD_eq_getD_getElem?];exact g2
omit [Cur] in
theorem qmt{ρ:Ren}{tm:Array Value}:∀{ts:List (Nat×AV)},(∀p ∈ ts,p.1<tm.size∧VR σ0 ρ p.2 (tm.getD p.1 undef))->TR σ0 ρ (mkT ts) tm :=
 fun h j v hj=>h (j,v) (qbd hj)
omit [Cur] in
theorem qdZ:∀{ts:List (Nat×AV)},(ts.map Prod.fst).Nodup->∀{p:Nat×AV},p ∈ ts->(mkT ts).get p.1=some p.2
 | [],_,_,hp=>by cases hp
 | q::ts,hn,p,hp=>by
  simp only[mkT,Tr.get_set];have hn2:=List.nodup_cons.1 hn;rcases List.mem_cons.1 hp with rfl|hp
  ·rw[if_pos rfl]
  ·rw[if_neg (by grind)];exact qdZ hn2.2 hp
omit [Cur] in
theorem qao:∀(l:List (Nat×Value)) (tm:Array Value),(l.foldl (fun tm (p,v)=>tm.setIfInBounds p v) tm).size=tm.size
 | [],_=>rfl
 | p::l,tm=>by rw[List.foldl_cons,qao l];simp
theorem SY.mkL{b:Nat}{us:List AV}{k:AV->Hp->Prop}{r:Loop}{ts:List (Nat×AV)}{ps:List Nat}{ai bi:ICode}(hg:h.tr.get b=some (.map (zJ r ts)))(hok:qhg P r ps ai bi)(hfl:h.fl<=b)(hbs:b<h.sz)(hl:ps.length=us.length)
  (hA:S P h.sz ai (ql0 P h.sz b bi (ql1 b k)) (qe3 ps us (mkT ts)) h):SY P b us h k:=by
 intro ρ B w args L hL rl hargs;obtain⟨L0,ob,hob,hrec⟩:=rl.maps b L _ hL hg;obtain⟨q,rfl,hlk,hts⟩:=hrec.rec';have hokq:=hok q hlk;obtain⟨nt,hca,hcb,hnt,hps⟩:=hokq.code
 have hsz:args.size=q.params.size:=by
  have:=hargs.length;have h2:q.params.size=ps.length:=by rw[← hokq.params];simp
  rw[h2,hl,this];simp
 refine⟨q.fn,_,q.assign,q.body,run_yield hob hsz,fun ro=>roundIn_of_wpIn trivial ?_⟩
 have hfold:(q.params.zip args).foldl (fun tmps (t,a)=>tmps.setIfInBounds t a) q.tmps=(ps.zip args.toList).foldl (fun tm (p,v)=>tm.setIfInBounds p v) q.tmps:=by
  rw[← Array.foldl_toList,Array.toList_zip,hokq.params]
 rw[hfold]
 have hT:TR σ0 ρ (qe3 ps us (mkT ts)) ((ps.zip args.toList).foldl (fun tm (p,v)=>tm.setIfInBounds p v) q.tmps) :=
  qd3 hargs hl (by grind) (qmt hts)
 have hS:=hA nt q.assign hca (Nat.le_refl _) (some L.blk) (.inr hokq.flat.1) ρ B w { tmps:=(ps.zip args.toList).foldl (fun tm (p,v)=>tm.setIfInBounds p v) q.tmps,defers:=[] } hT (by rw[qao];omega) rl
 refine wpIn_mono hS ?_;rintro e a1 w1 ⟨x1,t1,h1,ρ1,rs,hx,hq,ht1,hs1,hd1,hm,r1,k1⟩;cases hx with
 | exit id=>exact hq.elim
 | ret=>exact hq.elim
 | normal =>
  obtain⟨r',ts1,R',hg1,hrr,hRR,hB⟩:=hq;have r1:=r1.lessB (B:=B) fun k hk=>.inl hk
  have hL1:ρ1 b=some L:=by grind[Kep.ext]
  obtain⟨_,ob1,hob1,hrec1⟩:=r1.maps b L _ hL1 hg1;obtain⟨q1,rfl,hlk1,hts1⟩:=hrec1.rec';refine⟨w1.putObj L.blk (.loop (Go.Kc.bsy q1)),run_beginRound hob1 (hlk1.state.trans hrr),?_⟩;obtain⟨r2,k2⟩:=r1.putMap (w':=w1.putObj L.blk (.loop (Go.Kc.bsy q1))) hL1 hg1 (by rw[k1.fl];exact hfl) hob1 (es':=zJ R' ts1) (.inr (.inr (.inl ⟨_,_,_,rfl,rfl,hRR _ hlk1,hts1⟩))) rfl ⟨rfl,rfl⟩;have hSb:=hB nt q.body hcb k1.szle (some L.blk) (.inr hokq.flat.2) ρ1 B _ a1 ht1 hs1 r2;refine wpIn_mono hSb ?_;rintro e a3 w3 ⟨x3,t3,h3,ρ3,rs3,hx3,hq3,ht3,hs3,hd3,hm3,r3,k3⟩;have r3:=r3.lessB (B:=B) fun k hk=>.inl hk
  have kk:=(k1.trans (k2.kep k1.szle)).trans k3;obtain⟨r',ts',R3,hg3,hR3,hq3⟩:=hq3;have hL3:ρ3 b=some L:=by grind[Kep.ext]
  obtain⟨_,ob3,hob3,hrec3⟩:=r3.maps b L _ hL3 hg3;obtain⟨q3,rfl,hlk3,hts3⟩:=hrec3.rec'
  have fin:∀(lq:Loop) (y:Bool),xq R3 lq->lq.tmps=q3.tmps->k (.b y) (h3.put b (.map (zJ R3 ts')))->(∃v v0 h' ρ',Ending.returned (Value.bool y) = .returned v0∧k v h'∧VR σ0 ρ' v v0∧Rel σ0 ρ' B h' (w3.putObj L.blk (.loop lq))∧Kept ρ B h w ρ' h' (w3.putObj L.blk (.loop lq))):=by
   intro lq y hlp htm hk;obtain⟨r4,k4⟩:=r3.putMap (w':=w3.putObj L.blk (.loop lq)) hL3 hg3 (by rw[kk.fl];exact hfl) hob3 (es':=zJ R3 ts') (.inr (.inr (.inl ⟨_,_,_,rfl,rfl,hlp,by rw[htm];exact hts3⟩))) rfl ⟨rfl,rfl⟩
   exact⟨.b y,.bool y,_,ρ3,rfl,hk,.b _,r4,(kk.trans (k4.kep kk.szle)).kept rl.dn.1⟩
  have hlf:=hR3 q3 hlk3;cases hx3 with
  | normal=>exact⟨_,_,run_endRound none hob3,fin (Go.Kc.rdy q3) true hlf rfl hq3⟩
  | exit id=>exact⟨_,_,run_endRound (some (.exit id)) hob3,fin (dne q3 (.exit id)) false hlf rfl hq3⟩
  | ret=>exact⟨_,_,run_endRound (some .ret) hob3,fin (dne q3 .ret) false hlf rfl hq3⟩
def qjO(b:Nat)(Q:X->Tr AV->Hp->Prop)(t:Tr AV)(_:AV)(h:Hp):Prop :=
 ∃r ts,h.tr.get b=some (.map (zJ r ts))∧r.state≠.busy ∧
  match r.pending with
  | none=>Q .normal t (h.put b .dead)
  | some .ret=>Q .ret t (h.put b .dead)
  | some (.exit id)=>Q (.exit id) t (h.put b .dead)
  | _=>False
def rfK(P:Program)(ps:List Nat)(ai bi:ICode)(Q:X->Tr AV->Hp->Prop)(t:Tr AV)(ts:List (Nat×AV))(h:Hp)(g:AV):Prop :=
 match g with
 | .fn f first cap=>qaR P f∧∀r0,r0.state = .ready->r0.pending=none->LoopOk P r0 ps ai bi->SC P f (first++(.yl h.sz::cap)) (h.push (.map (zJ r0 ts))) (qjO h.sz Q t)
 | _=>False
def qng(P:Program)(ps:List Nat)(ai bi:ICode)(Q:X->Tr AV->Hp->Prop)(t:Tr AV)(ts:List (Nat×AV))(h:Hp)(g:AV):Prop :=
 match g with
 | .fn f first cap=>qaR P f∧∀r0,r0.state = .ready->r0.pending=none->LoopOk P r0 ps ai bi->∃R,xq R r0∧SC P f (first++(.yl h.sz::cap)) (h.push (.map (zJ R ts))) (qjO h.sz Q t)
 | _=>False
theorem S.rangeFL{j:Nat}{g:O}{ps:List Nat}{ai bi:ICode}{Q:X->Tr AV->Hp->Prop}{t:Tr AV}{h:Hp}{ts:List (Nat×AV)}(hfl:h.fl<=h.sz)(htg:∀p ∈ ts,t.get p.1=some p.2)(hnr:zY ai=true∧zY bi=true)(hk:evK t g (qng P ps ai bi Q t ts h)):S P n (.rangeF j g ps ai bi) Q t h:=by
 intro nt code hc hn ro hro ρ B w a ht hsz r
 obtain rfl:ro=none:=by
  rcases hro with h|h
  ·exact h
  ·cases h
 cases code<;>first|(simp[qm] at hc;done)|skip
 rename_i og ops oa ob;simp only[qm,Bool.and_eq_true] at hc;obtain⟨⟨⟨⟨⟨h1,h2⟩,h3⟩,h4⟩,h5⟩,h6⟩:=hc;have hreal:∀j,oa≠.goto j:=fun j hj=>by rw[hj] at h6;cases h6
 have h2:=eq_of_beq h2;obtain⟨gv,hgv,hk2⟩:=ql ht h1 hk;cases gv<;>try exact hgv.elim
 rename_i f first cap
 obtain⟨⟨fn0,c1,c2,c3⟩,hS⟩:=hgv;obtain⟨a',c',q1,q2,q3⟩:=hk2.un_fn;have hLd:∀b L,ρ b=some L->L.blk<w.heap.size:=r.dn.2;refine wpIn_rangeFunc fun fn _=>?_
 let r0:Loop:={ state:=.ready,pending:=none,fn,tmps:=a.tmps,params:=ops,assign:=oa,body:=ob,defers:=w.heap.size }
 let W1:World:=(w.alloc (.deferred (some []))).alloc (.loop r0)
 have hold:∀k,k<w.heap.size->(w.alloc (.deferred (some []))).heap[k]?=w.heap[k]?:=fun k hk=>by
  show (w.heap.push _)[k]?=_;rw[Array.getElem?_push,if_neg (by omega)]
 have hD:(w.alloc (.deferred (some []))).heap[w.heap.size]?=some (.deferred (some [])):=World.alloc_heap_new w _
 have r1:Rel σ0 ρ (BM B [w.heap.size]) h (w.alloc (.deferred (some []))):=by
  have r':=r.world (w':=w.alloc (.deferred (some []))) hold (by simp);refine⟨r'.dom,r'.cells,r'.maps,r'.excl,r'.exclm,r'.app,fun b L hb hf hB=>?_,fun k hk=>?_,r'.frz,r'.dn⟩
  ·rcases hB with hB|hB
   all_goals grind[Rel.flr]
  ·rcases hk with hk|hk
   ·have:=r.base k hk;simp;omega
   simp_all
 have hts:∀p ∈ ts,p.1<r0.tmps.size∧VR σ0 ρ p.2 (r0.tmps.getD p.1 undef):=fun p hp=>ht p.1 p.2 (htg p hp)
 have hlo:LoopOk P r0 ps ai bi:=⟨h2,⟨nt,h4,h5,hsz,fun p hp=>by rw[← h2] at hp;have:=List.all_eq_true.1 h3 p hp;simp_all⟩,hnr,hreal⟩
 obtain⟨R,hRl,hSC⟩:=hS r0 rfl rfl hlo;obtain⟨r2,k2⟩:=r1.newMap (w':=W1) (es0:=zJ R ts) (o:=.loop r0) (.inr (.inr (.inl ⟨_,_,_,rfl,rfl,hRl,hts⟩))) rfl ⟨rfl,rfl⟩;have hl:(w.alloc (.deferred (some []))).heap.size=w.heap.size+1:=by simp
 rw[hl] at r2 k2;obtain⟨Lc,hLc⟩:∃Lc:Loc,Lc=⟨w.heap.size+1,0,0,0⟩:=⟨_,rfl⟩;rw[← hLc] at r2 k2;have hself:(ρ.add h.sz Lc) h.sz=some Lc:=Ren.add_self _ _ _;have hle2:=k2.mono r1.dom
 have hargs:VRs σ0 (ρ.add h.sz Lc) (first++(.yl h.sz::cap)) (a' ++ #[Value.func (.yield (w.heap.size+1)) #[] #[]]++c').toList:=by
  have hy:VR σ0 (ρ.add h.sz Lc) (.yl h.sz) (.func (.yield Lc.blk) #[] #[]):=.yl _ Lc hself;have e2:Lc.blk=w.heap.size+1:=by rw[hLc]
  rw[e2] at hy;have:=(q1.mono hle2).append (VRs.cons _ _ _ _ hy (q2.mono hle2))
  simp_all
 have hcf:=xu (P:=P) c1 c2 c3
 have hcalls:Calls P f (a' ++ #[Value.func (.yield (w.heap.size+1)) #[] #[]]++c') W1 fun e w'=>∃v v' h' ρ',e = .returned v'∧qjO h.sz Q t v h'∧VR σ0 ρ' v v'∧Rel σ0 ρ' (BM B [w.heap.size]) h' w'∧Kept (ρ.add h.sz Lc) (BM B [w.heap.size]) (h.push (.map (zJ R ts))) W1 ρ' h' w':=by
  rcases hSC.2 _ _ _ _ r2 hargs with⟨_,hh⟩|⟨v,w',hh,_⟩
  all_goals grind
 have hev:(({ a with defers:=qa0 [w.heap.size]++a.defers }:Act)).eval og = .func (.func f) a' c':=q3;refine⟨w.heap.size+1,[{ target:=.collected w.heap.size,args:=#[] }],W1,{ target:=.fn (.func f) c',args:=a' ++ #[Value.func (.yield (w.heap.size+1)) #[] #[]] },W1,f,a' ++ #[Value.func (.yield (w.heap.size+1)) #[] #[]]++c',W1,run_enterLoop_outer _ _ _ _ _,?_,fun _ _=>trivial,?_,fun hh=>(by cases hh),qcP (Calls.mono hcalls ?_)⟩
 ·simp only[resolve,q3];simp[go_sem,Deferred.ofValue,q3]
 ·simp[invoke,hcf]
 rintro e w2 ⟨v,v',h2',ρ2,rfl,hend,hv,r3,k3⟩;obtain⟨r',ts',hg',hst,hmt⟩:=hend;have hL2:ρ2 h.sz=some Lc:=(k3.ext _ (by show _<Nat.succ _;omega)).trans hself
 obtain⟨_,ob2,hob2,hrec2⟩:=r3.maps _ Lc _ hL2 hg';obtain⟨q2,rfl,hlk2,hts2⟩:=hrec2.rec';have hob3:w2.heap[w.heap.size+1]?=some (.loop q2):=by rw[hLc] at hob2;omega
 have hfl2:h2'.fl<=h.sz:=by rw[k3.fl];exact hfl
 obtain⟨re,hre⟩:∃re:Loop,re={ q2 with state:=.exhausted }:=⟨_,rfl⟩;obtain⟨re',hre'⟩:∃re':Loop,re'={ r' with state:=.exhausted }:=⟨_,rfl⟩
 have hlre:xq re' re:=by
  have:=hlk2.set .exhausted q2.pending;rw[hre,hre'];have e:({ r' with state:=.exhausted,pending:=q2.pending }:Loop)={ r' with state:=.exhausted }:=by rw[hlk2.pending]
  rw[e] at this;omega
 have hts4:∀p ∈ ts',p.1<re.tmps.size∧VR σ0 ρ2 p.2 (re.tmps.getD p.1 undef):=by rw[hre];omega
 have hend2:=run_endLoop (P:=P) hob3 (by rw[hlk2.state];omega);rw[← hre] at hend2;clear hre;obtain⟨r4,k4⟩:=r3.putMap (w':=w2.putObj (w.heap.size+1) (.loop re)) hL2 hg' hfl2 hob2 (es':=zJ re' ts') (.inr (.inr (.inl ⟨_,_,_,rfl,rfl,hlre,hts4⟩))) (by rw[hLc];rfl) ⟨rfl,rfl⟩
 have r5:Rel σ0 ρ2 (BM B [w.heap.size]) (h2'.put h.sz .dead) (w2.putObj (w.heap.size+1) (.loop re)):=by
  refine r4.sub rfl rfl fun b x hx hd=>?_
  simp only[Hp.put,Tr.get_set] at hx ⊢
  grind
 have hD1:W1.heap[w.heap.size]?=some (.deferred (some [])):=by
  show ((w.alloc (.deferred (some []))).heap.push _)[w.heap.size]?=_;rw[Array.getElem?_push,if_neg (by rw[hl];omega)];exact hD
 have hD2:(w2.putObj (w.heap.size+1) (.loop re)).heap[w.heap.size]?=some (.deferred (some [])):=by
  rw[World.putObj_heap_other (by omega),k3.pres _ (.inr (by simp))];omega
 have k0:Kep n ρ B h w ρ h (w.alloc (.deferred (some []))):=⟨fun _ _=>rfl,hn,rfl,fun _ _ _=>rfl,by grind[Rel.base],by simp,⟨rfl,rfl⟩,fun _ _ h=>h,fun _ _ h=>.inl h,fun _ _ h=>h⟩
 have hn2:n<=(h.push (.map (zJ R ts))).sz:=Nat.le_trans hn (Nat.le_succ _);have hn3:n<=h2'.sz:=Nat.le_trans hn2 k3.szle
 have k5:Kep n ρ2 (BM B [w.heap.size]) h2' w2 ρ2 (h2'.put h.sz .dead) (w2.putObj (w.heap.size+1) (.loop re)) :=
  ⟨fun _ _=>rfl,hn3,rfl,fun b hb _=>by simp only[Hp.put,Tr.get_set];rw[if_neg (by omega)],k4.pres,k4.wle,k4.io,fun _ _ h=>h,fun _ _ h=>.inl h,fun _ _ h=>h⟩
 have kk:Kep n ρ B h w ρ2 (h2'.put h.sz .dead) (w2.putObj (w.heap.size+1) (.loop re)):=((k0.trans (k2.kep hn).bm).trans (k3.kep hn2).bm).trans k5.bm
 have fin:∀(x:X) (e:Exit),XR x e->Q x t (h2'.put h.sz .dead)->xl σ0 Q nt n ρ B h w a.defers e { a with defers:=[{ target:=.collected w.heap.size,args:=#[] }]++a.defers } (w2.putObj (w.heap.size+1) (.loop re)):=fun x e hx hq =>
  ⟨x,t,_,ρ2,[w.heap.size],hx,hq,ht.mono (Ren.le_trans hle2 (k3.mono r2.dom)),hsz,rfl,⟨by simp,by grind,fun q hq=>by rw[List.mem_singleton] at hq;grind⟩,r5,kk⟩
 refine⟨q2.pending,_,hend2,?_⟩;clear hend2;rw[hlk2.pending];generalize r'.pending=pd at hmt ⊢;cases pd with
 | none=>exact fin .normal _ .normal hmt
 | some c =>
  cases c<;>first|exact hmt.elim|skip
  ·exact wpIn_exit (fin _ _ (.exit _) hmt)
  ·exact wpIn_ret (fin _ _ .ret hmt)
theorem S.rangeF{j:Nat}{g:O}{ps:List Nat}{ai bi:ICode}{Q:X->Tr AV->Hp->Prop}{ts:List (Nat×AV)}{bl:List Blk}(_:bl.all qdw=true)(hnd:(ts.map Prod.fst).Nodup)(hnr:zY ai=true∧zY bi=true)(hk:evK (mkT ts) g (rfK P ps ai bi Q (mkT ts) ts (mkH 0 bl))):S P n (.rangeF j g ps ai bi) Q (mkT ts) (mkH 0 bl):=by
 refine S.rangeFL (ts:=ts) (Nat.zero_le _) (fun p hp=>qdZ hnd hp) hnr ?_
 obtain⟨v,h1,h2⟩:=qf (mkT ts) g _ hk;refine h2 _ ?_;cases v<;>try exact h1.elim
 obtain⟨hc,hh⟩:=h1;exact⟨hc,fun r0 a b hlo=>⟨r0,.inl ⟨rfl,hlo.real⟩,hh r0 a b hlo⟩⟩
end Go.Kc
end
section
namespace Go.Kc
variable [Cur]
variable {P:Program} {h:Hp}
inductive Gvs (h:Hp):List AV->List AV->Prop where
 | nil:Gvs h [] []
 | keep (v:AV) (vs vs':List AV) (h1:Gvs h vs vs'):Gvs h (v::vs) (v::vs')
 | fz (v v':AV) (vs vs':List AV) (hf:Frz h v v') (h1:Gvs h vs vs'):Gvs h (v::vs) (v'::vs')
 | fn (f:Nat) (a c c':List AV) (vs vs':List AV) (hc:Gvs h c c') (h1:Gvs h vs vs'):Gvs h (.fn f a c::vs) (.fn f a c'::vs')
theorem Gvs.ok{ρ:Ren}{B:Nat->Prop}{w:World}(hle:ρ.le ⟨ρ.loc,z7 ρ h w,ρ.n⟩)(r:Rel σ0 ρ B h w):∀{vs vs':List AV} {xs:List Value},Gvs h vs vs'->VRs σ0 ρ vs xs->VRs σ0 ⟨ρ.loc,z7 ρ h w,ρ.n⟩ vs' xs
 | _,_,_,.nil,hv=>by cases hv;exact .nil
 | _,_,_,.keep _ _ _ h1,hv=>by
  cases hv with
  | cons _ _ _ _ a1 a2=>exact .cons _ _ _ _ (a1.mono hle) (Gvs.ok hle r h1 a2)
 | _,_,_,.fz _ _ _ _ hf h1,hv=>by
  cases hv with
  | cons _ _ _ _ a1 a2=>exact .cons _ _ _ _ (by grind[CR.vr,Frz.ok]) (Gvs.ok hle r h1 a2)
 | _,_,_,.fn f a c c' _ _ hc h1,hv=>by
  cases hv with
  | cons _ _ _ _ a1 a2 =>
   obtain⟨a',c'',q1,q2,q3⟩:=a1.un_fn;subst q3;exact .cons _ _ _ _ (.fn _ _ _ _ _ (q1.mono hle) (Gvs.ok hle r hc q2)) (Gvs.ok hle r h1 a2)
theorem SC.give{f:Nat}{vs vs':List AV}{k:AV->Hp->Prop}(DB:List (Nat×Blk))(hg:∀p ∈ DB,h.tr.get p.1=some p.2∧h.fl<=p.1)(hf:Gvs ⟨h.sz,h.fl,trP DB⟩ vs vs')(hk:SC P f vs' (qaF h DB) k):SC P f vs h k:=by
 refine⟨hk.1,fun ρ B w args r ha=>?_⟩
 have r0:Rel σ0 ρ B ⟨h.sz,h.fl,trP DB⟩ w:=r.sub rfl rfl (fun b x hx _=>(hg _ (qcs hx)).1)
 have le:ρ.le ⟨ρ.loc,z7 ρ ⟨h.sz,h.fl,trP DB⟩ w,ρ.n⟩:=⟨fun _ _ h=>h,by grind[xb],Nat.le_refl _⟩
 have hcr:=hf.ok le r0 ha
 have fnew:∀kk a,z7 ρ ⟨h.sz,h.fl,trP DB⟩ w kk=some a->ρ.frz kk=some a∨((∃ty fz,w.heap[kk]?=some (.cells a ty fz))∧∃b L e af cs,b ∈ DB.map Prod.fst∧ρ b=some L∧h.tr.get b=some (.cells e true af cs)∧L.blk=kk∧h.fl<=b):=by
  intro kk a hkk;rcases jl hkk with h1|⟨h1,b,L,e,af,cs,h2,h3,h4⟩
  ·exact .inl h1
  ·have hm:=qcs h3;exact .inr ⟨h1,b,L,e,af,cs,List.mem_map_of_mem (f:=Prod.fst) hm,h2,(hg _ hm).1,h4,(hg _ hm).2⟩
 have qdw:∀b x,(qaF h DB).tr.get b=some x->x≠.dead->b ∉ DB.map Prod.fst∧h.tr.get b=some x:=by
  intro b x hx hd;rw[qbt] at hx;split at hx
  ·cases hx;exact absurd rfl hd
  ·exact by grind
 have r1:Rel σ0 ⟨ρ.loc,z7 ρ ⟨h.sz,h.fl,trP DB⟩ w,ρ.n⟩ B (qaF h DB) w:=by
  have rs:Rel σ0 ρ B (qaF h DB) w:=by grind[Rel.sub,qci,qch]
  refine⟨rs.dom,fun b L e wf af cs hb hx=>?_,fun b L es hb hx=>?_,rs.excl,rs.exclm,rs.app,rs.flr,rs.base,fun kk arr hkk=>?_,rs.dn⟩
  ·obtain⟨q1,c,ty,fz,q2,q3,q4,q5,q6⟩:=rs.cells b L e wf af cs hb hx;exact by grind[VR.mono]
  ·obtain⟨q1,o,q2,q3⟩:=rs.maps b L es hb hx;exact by grind[xr.mono]
  ·rcases fnew kk arr hkk with h1|⟨h1,b,L,e,af,cs,h2,h3,h4,h5,_⟩
   ·exact rs.frz kk arr h1
   ·refine⟨h1,fun b' L' x hb' hx hd he=>?_⟩
    obtain⟨g1,g2⟩:=qdw b' x hx hd;have:=r.excl b L e af cs h3 h4 b' L' x hb' g2 hd (by rw[he,h5]);subst this;exact g1 h2
 have k0:Kept ρ B h w ⟨ρ.loc,z7 ρ ⟨h.sz,h.fl,trP DB⟩ w,ρ.n⟩ (qaF h DB) w:=by
  refine⟨fun _ _=>rfl,by rw[qci];exact Nat.le_refl _,qch,fun b hb _=>?_,fun _ _=>rfl,Nat.le_refl _,⟨rfl,rfl⟩,by grind[xb],fun k a hk=>?_,Nat.le_refl _⟩
  ·rw[qbt,if_neg];intro hm;obtain⟨p,hp1,hp2⟩:=List.mem_map.1 hm;have:=(hg p hp1).2;omega
  ·rcases fnew k a hk with h2|⟨_,b,L,_,_,_,_,h3,_,h5,h6⟩
   ·exact .inl h2
   ·right;rw[← h5];exact r.flr b L h3 h6
 refine jx.mono (hk.2 _ B w args r1 hcr) ?_
 grind[Kept.trans]
end Go.Kc
end
section
namespace Go.Kc
variable [Cur]
variable {P:Program} {h:Hp} {t:Tr AV}
def qlH(m:Nat)(v:AV)(bs2:List Blk)(v':AV)(h':Hp):Prop:=h'.fl=0->∃src:List Nat,NV (rl src h'.sz) bs2.length v' v∧BWs h' (rl src h'.sz) bs2.length src bs2∧(List.map Prod.fst (List.filter (fun p=>decide (p.fst<h'.sz)&&qdw p.snd) (src.zip bs2))).Nodup∧∀b,b<m->rl src h'.sz b=b
theorem qlH.w{m:Nat}{v:AV}{bs2:List Blk}{v':AV}{h':Hp}(hz:qlH m v bs2 v' h')(hle:m<=bs2.length):qhi m v bs2 v' h':=by
 intro hfl;obtain⟨src,s1,s2,s3,s4⟩:=hz hfl;exact Wk.mkd [(0,v)] bs2 src ⟨⟨v',by simp[mkT,Tr.get_set],s1⟩,trivial⟩ s2 s3 hfl hle s4
end Go.Kc
end
section
namespace Go.Kc
variable [Cur]

variable {P:Program} {H:Type} {enc:TypeId×Value->H} {w:World} {t e:TypeId} {α:Type}
end Go.Kc
end
section
namespace Go.Kc
variable [Cur]
variable {P:Program}

def qgc:Op->Bool
 | .call c=>(match c.callee with | .builtin .recover=>true|_=>false)&&c.args.isEmpty
 | _=>false
def qf7(n:Nat):Op->Bool
 | .assign (.tmp m)=>m==n
 | _=>false
def qga(n:Nat):Op->Bool
 | .move (.tmp m)=>m==n
 | _=>false
def qka(P:Program)(n:Nat):Op->Bool
 | .binOp .neq ty (.tmp m) y _=>m==n&&xV .iface y&&qeQ P .iface ty
 | _=>false
def qcR(o:Oper):Bool:=o.guard.isNone
def qgU(P:Program)(nt:Nat)(p q r s:Oper)(c:Nat):Bool :=
 qcR p&&qcR q&&qcR r&&qcR s&&match p.dst,q.dst,r.dst,s.dst with
  | some a,some b,some e,some c'=>Nat.blt a nt&&Nat.blt b nt&&Nat.blt e nt&&Nat.blt c nt&&c'==c&&qgc p.op&&qf7 a q.op&&qga b r.op&&qka P e s.op
  | _,_,_,_=>false
def qgT(P:Program)(nt:Nat):Code->Bool
 | .seq (.region _ o1 false) (.seq (.region _ o2 false) (.cond (.tmp c) _ .skip))=>(match o1.toList,o2.toList with
  | [p,q],[r,s]=>qgU P nt p q r s c
  | _,_=>false)
 | _=>false
def qal(P:Program)(f:Nat):Bool :=
 match P.funcs[f]? with
 | some fn=>fn.name != "runtime.NumGoroutine" && fn.results.isEmpty&&(match fn.body with|some c=>qgT P fn.ntmps c|none=>false)
 | none=>false
omit [Cur] in
theorem qbe{a:Act}{n:Nat}(h:n<a.tmps.size)(v:Value):(a.put (some n) v).eval (.tmp n)=v:=by
 simp[Act.put,Act.eval,Array.getD,h]
omit [Cur] in
theorem qc5{a:Act}{o:Oper}(h:qgc o.op=true)(w:World):(execOp a.eval o).run P w = .ok .recover w:=by
 unfold qgc at h;split at h
 ·rename_i c hc;simp only[Bool.and_eq_true] at h;obtain⟨h1,h2⟩:=h;split at h1<;>try (cases h1;done)
  rename_i hb;simp[execOp,hc,resolve,hb,invoke,builtin]
 grind
omit [Cur] in
theorem qf8{n:Nat}{o:Op}(h:qf7 n o=true):o = .assign (.tmp n):=by
 unfold qf7 at h
 grind
omit [Cur] in
theorem qgb{n:Nat}{o:Op}(h:qga n o=true):o = .move (.tmp n):=by
 unfold qga at h
 grind
omit [Cur] in
theorem qkw(ρ:Ren){n:Nat}{a:Act}{o:Oper}(h:qka P n o.op=true)(hv:a.eval (.tmp n) = .nilIface)(w:World):(execOp a.eval o).run P w = .ok (.value (.bool false)) w:=by
 unfold qka at h;split at h
 ·rename_i ty m y uy ho;simp only[Bool.and_eq_true] at h;obtain⟨⟨h1,h2⟩,h3⟩:=h;obtain rfl:=eq_of_beq h1;have hx:VR σ0 ρ .nili (a.eval (.tmp m)):=by rw[hv];exact .nili
  obtain⟨c,z,g1,rfl,g2,g3,g4,g5,g6,g7⟩:=qbr (P:=P) (k:=fun c=>c=true) hx (show qZ .iface .nili (fun c=>c=true) from rfl) h3 h2 w
  subst g1
  have hg:(eqGuard .neq ty (.tmp m) (.const z) (a.eval (.tmp m)) z).run P w = .ok () w:=by
   rw[hv];cases z<;>simp[eqGuard]
  refine jQ ho hg ?_;show (binOp .neq ty (a.eval (.tmp m)) z).run P w=_;rw[g6 .neq (.inr rfl)];have g2':(Op.equal ty (a.eval (.tmp m)) z).run P w = .ok true w:=g2;simp[g2']
 grind
omit [Cur] in
theorem jR{o:Oper}(h:qcR o=true)(y:Nat->Option Bool):Region.wanted o y=true:=by
 unfold qcR at h;cases hg:o.guard with
 | none=>simp[Region.wanted,hg]
 | some _=>rw[hg] at h;cases h
omit [Cur] in
theorem qb7{a b:Nat}(h:Nat.blt a b=true):a<b:=by simp_all
omit [Cur] in
theorem qgV(ρ:Ren){fd:Nat}(hc:qal P fd=true)(args:Array Value)(w:World):CallsDIn (Fr none) 0 P fd args .returning w (fun e u' w'=>e = .returned (.tuple #[])∧u' = .returning∧w'=w):=by
 unfold qal at hc;split at hc<;>try (cases hc;done)
 rename_i fn hfn;simp only[Bool.and_eq_true] at hc;obtain⟨⟨_,hres⟩,hbody⟩:=hc;split at hbody<;>try (cases hbody;done)
 rename_i c hcb;unfold qgT at hbody;split at hbody<;>try (cases hbody;done)
 rename_i i1 o1 i2 o2 c thn;split at hbody<;>try (cases hbody;done)
 rename_i p q r s hl1 hl2;unfold qgU at hbody;simp only[Bool.and_eq_true] at hbody;obtain⟨⟨⟨⟨f1,f2⟩,f3⟩,f4⟩,hb⟩:=hbody;split at hb<;>try (cases hb;done)
 rename_i a b e c' e1 e2 e3 e4;simp only[Bool.and_eq_true] at hb;obtain⟨⟨⟨⟨⟨⟨⟨⟨b1,b2⟩,b3⟩,b4⟩,b5⟩,b6⟩,b7⟩,b8⟩,b9⟩:=hb;have b1:=qb7 b1;have b2:=qb7 b2;have b3:=qb7 b3;have b4:=qb7 b4;obtain rfl:=eq_of_beq b5;have b7:=qf8 b7;have b8:=qgb b8;have s1:o1 = #[p,q]:=by rw[← Array.toList_inj];exact hl1
 have s2:o2 = #[r,s]:=by rw[← Array.toList_inj];exact hl2
 subst s1 s2;refine callsDIn_of_wpSIn hfn hcb trivial fun c₀ cs hmode=>?_
 have hsz:fn.ntmps<=(args++Array.replicate (fn.ntmps-args.size) undef).size:=by simp;omega
 generalize hA:({ tmps:=args++Array.replicate (fn.ntmps-args.size) undef,defers:=[] }:Act)=A;have hsA:fn.ntmps<=A.tmps.size:=by rw[← hA];exact hsz
 have hdA:A.defers=[]:=by rw[← hA]
 have hrec:recoverD (c₀::cs)=none:=by simp[recoverD,hmode]
 have r1:=qc5 (P:=P) (a:=A) b6 w;have m1:∀(x:Act),(execOp x.eval q).run P w = .ok (.value (x.eval (.tmp a))) w:=fun x=>by simp[execOp,b7]
 have m2:∀(x:Act),(execOp x.eval r).run P w = .ok (.value (x.eval (.tmp b))) w:=fun x=>by simp[execOp,b8]
 refine wpSIn_seq (wpSIn_region ?_);have hA1:(A.put (some a) .nilIface).eval (.tmp a) = .nilIface:=qbe (by omega) _;generalize hB:A.put (some a) .nilIface=A1 at hA1;have z1:A1.tmps.size=A.tmps.size:=by rw[← hB,zB]
 have hA2:(A1.put (some b) .nilIface).eval (.tmp b) = .nilIface:=qbe (by omega) _;generalize hC:A1.put (some b) .nilIface=A2 at hA2;have z2:A2.tmps.size=A.tmps.size:=by rw[← hC,zB,z1]
 have hA3:(A2.put (some e) .nilIface).eval (.tmp e) = .nilIface:=qbe (by omega) _;generalize hD:A2.put (some e) .nilIface=A3 at hA3;have z3:A3.tmps.size=A.tmps.size:=by rw[← hD,zB,z2]
 have hA4:(A3.put (some c') (.bool false)).eval (.tmp c') = .bool false:=qbe (by omega) _;generalize hE:A3.put (some c') (.bool false)=A4 at hA4;have d4:A4.defers=[]:=by rw[← hE,zA,← hD,zA,← hC,zA,← hB,zA,hdA]
 have m3:=qkw (P:=P) ρ b9 hA3 w;have l2:List.range (#[p,q]:Array Oper).size=[0,1]:=rfl;have l3:List.range (#[r,s]:Array Oper).size=[0,1]:=rfl;have g0:(#[p,q]:Array Oper)[0]?=some p:=rfl;have g1:(#[p,q]:Array Oper)[1]?=some q:=rfl;have g2:(#[r,s]:Array Oper)[0]?=some r:=rfl;have g3:(#[r,s]:Array Oper)[1]?=some s:=rfl;rw[l2];simp only[wpOpsSIn,g0,g1,jR f1,jR f2,if_true,r1,hrec,e1,hB,m1,hA1,e2,hC];refine⟨fun _ _=>trivial,fun _ _=>trivial,?_⟩
 refine wpSIn_seq (wpSIn_region ?_);rw[l3];simp only[wpOpsSIn,g2,g3,jR f3,jR f4,if_true,m2,hA2,e3,hD,m3,e4,hE];refine⟨fun _ _=>trivial,fun _ _=>trivial,?_⟩
 refine wpSIn_cond hA4 (wpSIn_of_wpIn rfl (wpIn_skip ?_));refine⟨d4,.returning,?_,.tuple #[],?_,rfl,rfl,rfl⟩
 ·cases c₀;cases hmode;rfl
 simp_all[qbD]

def qf9(n:Nat):Op->Bool
 | .defer c=>(match c.callee with | .value (.tmp m)=>m==n|_=>false)&&c.args.isEmpty
 | _=>false
omit [Cur] in
theorem qeG{n fd:Nat}{a:Act}{o:Oper}{cap:Array Value}(h:qf9 n o.op=true)(hv:a.eval (.tmp n) = .func (.func fd) #[] cap)(w:World):(execOp a.eval o).run P w = .ok (.defer { target:=.fn (.func fd) cap,args:=#[] }) w:=by
 unfold qf9 at h;split at h
 ·rename_i c hc;simp only[Bool.and_eq_true] at h;obtain⟨h1,h2⟩:=h;split at h1<;>try (cases h1;done)
  rename_i m hb;obtain rfl:=eq_of_beq h1;have h2:c.args = #[]:=by simpa using h2
  simp[execOp,hc,resolve,hb,hv,h2,Deferred.ofValue]
 grind
def wj(P:Program)(f fd:Nat)(i:IFn):Bool :=
 qal P fd&&match i.body with
 | .seq (.reg false rsA) (.seq (.reg false rsB) (.seq (.reg false (r0::_)) y))=>(match P.funcs[f]? with
  | some fn=>fn.name != "runtime.NumGoroutine" && (match fn.body with
   | some (.seq (.region _ oA false) (.seq (.region _ oB false) (.seq (.region _ oD false) c)))=>xE P oA fn.ntmps oA.toList rsA&&xE P oB fn.ntmps oB.toList rsB&&(match oD.toList,r0.dst with
    | [o0,o1],some d=>qdm P oD fn.ntmps o0 r0&&r0.guard.isNone&&qcR o0&&qcR o1&&qf9 d o1.op&&o1.dst.isNone
    | _,_=>false)&&qm P fn.ntmps c y
   | _=>false)&&z8 P fn.results.toList i.res
  | none=>false)
 | _=>false
def qcd(fd:Nat)(r0:ROp)(t:Tr AV):Prop:=∃d cs,r0.dst=some d∧t.get d=some (.fn fd [] cs)
theorem qbu{fn:Func}{tm:Array Value}{ρ ρ':Ren}{B:Nat->Prop}{h h':Hp}{w:World}{R:Ending->World->Prop}{ds:List Deferred}(hT:∀w',Rel σ0 ρ' B h' w'->Kept ρ B h w ρ' h' w'->LeavesInM (Fr none) 0 P fn tm R ds .returning w') :
  ∀(rs:List Nat) {w':World},(∀r ∈ rs,w'.heap[r]?=some (.deferred (some [])))->rs.Nodup->(∀r ∈ rs,¬B r)->Rel σ0 ρ' B h' w'->Kept ρ B h w ρ' h' w'->LeavesInM (Fr none) 0 P fn tm R (qa0 rs++ds) .returning w'
 | [],w',_,_,_,hr',hk=>hT w' hr' hk
 | r::rs,w',hm,hn,hB,hr',hk=>by
  have h1:=hm r (by simp);refine⟨by simp,.inl ⟨r,w'.putObj r (.deferred none),rfl,run_takeDeferred h1,?_⟩⟩
  have hn2:=List.nodup_cons.1 hn;refine qbu hT rs (fun r' hr2=>?_) hn2.2 (fun r' hr2=>hB r' (by grind)) (hr'.shut h1 _) ?_
  ·rw[World.putObj_heap_other (by rintro rfl;exact hn2.1 hr2)];simp_all
  ·exact⟨hk.ext,hk.szle,hk.fl,hk.akeep,fun k hb=>by rw[World.putObj_heap_other (by grind)];exact hk.pres k hb,by simpa using hk.wle,hk.io,hk.frz,hk.fnew,hk.nle⟩
end Go.Kc
end
section
namespace Go.Kc
variable [Cur]
end Go.Kc
end
section
namespace Go.Kc
variable [Cur]
variable {P:Program} {h:Hp}
end Go.Kc
end
