/- Part 5 of the abstract machine and of the functions' walks. Conditions: with each theorem. -/
import Derived.Test.YtgaodkfneooonaaGreatK4
set_option maxHeartbeats 4000000
set_option linter.unusedSectionVars false
set_option linter.unusedSimpArgs false
set_option linter.unusedVariables false
set_option linter.unnecessarySimpa false
set_option linter.defProp false
section
namespace Go.Kc
variable {P:Program} {n:Nat} {C:zc} {d:Bool} {Q:Tr AV->Hp->Prop} {t:Tr AV} {h:Hp} {k:AV->Hp->Prop}

def evA(v:AV)(k:AV->Prop):Prop:=k v
@[congr] theorem qBT {v v':AV} {k:AV->Prop} {mk:Prop} (_:qV=mk) (h:v=v'):evA v k=evA v' k:=by rw[h]
theorem qvJ{v:AV}{k:AV->Prop}:evA v k↔k v:=Iff.rfl
def evL(v:List AV)(k:List AV->Prop):Prop:=k v
@[congr] theorem qBX {v v':List AV} {k:List AV->Prop} {mk:Prop} (_:qV=mk) (h:v=v'):evL v k=evL v' k:=by rw[h]
theorem qvK{v:List AV}{k:List AV->Prop}:evL v k↔k v:=Iff.rfl
def evN(v:Nat)(k:Nat->Prop):Prop:=k v
@[congr] theorem qBY {v v':Nat} {k:Nat->Prop} {mk:Prop} (_:qV=mk) (h:v=v'):evN v k=evN v' k:=by rw[h]
theorem qvL{v:Nat}{k:Nat->Prop}:evN v k↔k v:=Iff.rfl
def evT(v:Bool)(k:Bool->Prop):Prop:=k v
@[congr] theorem qB0 {v v':Bool} {k:Bool->Prop} {mk:Prop} (_:qV=mk) (h:v=v'):evT v k=evT v' k:=by rw[h]
theorem qvM{v:Bool}{k:Bool->Prop}:evT v k↔k v:=Iff.rfl
def evB(o:Option Blk)(k:Blk->Prop):Prop:=∃v,o=some v∧k v
@[congr] theorem qBU {o o':Option Blk} {k:Blk->Prop} {mk:Prop} (_:qV=mk) (h:o=o'):evB o k=evB o' k:=by rw[h]
theorem qsr{v:Blk}{k:Blk->Prop}:evB (some v) k↔k v:=by simp[evB]
def ifK(c:Prop)(p:Prop):Prop:=c∧p
@[congr] theorem qB2 {c c' p:Prop} {mk:Prop} (_:qV=mk) (h:c=c'):ifK c p=ifK c' p:=by rw[h]
theorem qmZ{p:Prop}:ifK True p↔p:=by simp[ifK]
theorem qv9{c c' p:Prop}:ifK (c∧c') p↔ifK c (ifK c' p):=by simp[ifK,and_assoc]
theorem qpE{x:Bool}{p:Prop}:qh x p↔ifK (x=true) p:=qa _ _
theorem xe{n:Nat}{k:Nat->Prop}:qn n k↔evN n k:=by rw[qq];exact Iff.rfl
theorem qhO{n:Bool}{k:Bool->Prop}:qJ n k↔evT n k:=by rw[qx];exact Iff.rfl
@[congr] theorem qvT {n:Nat} {k:Nat->Prop} {mk:Prop} (_:qV=mk):qn n k=qn n k:=rfl
@[congr] theorem qvS {n:Bool} {k:Bool->Prop} {mk:Prop} (_:qV=mk):qJ n k=qJ n k:=rfl
@[congr] theorem qys {n:Bool} {k:Prop} {mk:Prop} (_:qV=mk):qh n k=qh n k:=rfl
theorem qD5{x:Bool}{k:Bool->Prop}:unB (.b x) k↔k x:=Iff.rfl
theorem qxM{b o:Nat}{k:Nat->Nat->Prop}:unP (.ptr b o) k↔k b o:=Iff.rfl
theorem qD6{q:IntKind}{z:Int}{k:IntKind->Int->Prop}:unI (.i q z) k↔k q z:=Iff.rfl
theorem qD7{q:IntKind}{z:Int}{k:Nat->Prop}:unN (.i q z) k↔ifK (0<=z) (evN z.toNat k):=by
 cases z with
 | ofNat m=>exact⟨fun h=>⟨Int.natCast_nonneg m,h⟩,fun h=>h.2⟩
 | negSucc m=>exact⟨fun h=>h.elim,fun h=>absurd h.1 (by omega)⟩
@[congr] theorem qCk {x:AV} {k:Bool->Prop} {mk:Prop} (_:qV=mk):unB x k=unB x k:=rfl
@[congr] theorem qCn {x:AV} {k:Nat->Nat->Prop} {mk:Prop} (_:qV=mk):unP x k=unP x k:=rfl
@[congr] theorem qCl {x:AV} {k:IntKind->Int->Prop} {mk:Prop} (_:qV=mk):unI x k=unI x k:=rfl
@[congr] theorem qCm {x:AV} {k:Nat->Prop} {mk:Prop} (_:qV=mk):unN x k=unN x k:=rfl

section
variable {q q':IntKind} {n m:Int} {a c:List UInt8} {k:AV->Prop}
theorem qmL{z:Int}:z8 (qhF q z) (fun r=>k (.i q r))↔evA (.i q (q.wrap z)) k:=by
 rw[za,qdd];exact Iff.rfl
theorem qu9:zL qv .lss (.i q n) (.i q m) k↔evA (.b (decide (n<m))) k:=by simp[zL,zI,qa,qcn,evA]
theorem qu7:zL qv .gtr (.i q n) (.i q m) k↔evA (.b (decide (m<n))) k:=by simp[zL,zI,qa,qcn,evA]
theorem qu6:zL qv .geq (.i q n) (.i q m) k↔evA (.b (decide (m<=n))) k:=by
 simp only[zL,zI,qa,qcn,qx,decide_true,true_and,evA];rw[← decide_not];simp
theorem qu8:zL qv .leq (.i q n) (.i q m) k↔evA (.b (decide (n<=m))) k:=by
 simp only[zL,zI,qa,qcn,qx,decide_true,true_and,evA];rw[← decide_not];simp
theorem qu5:zL qv .eql (.i q n) (.i q m) k↔evA (.b (decide (n=m))) k:=by
 simp only[zL,zI,qa,qe4,qx,decide_true,true_and,evA];rw[show (n==m)=decide (n=m) from by rw[Bool.eq_iff_iff];simp]
theorem qvb:zL qv .neq (.i q n) (.i q m) k↔evA (.b (!decide (n=m))) k:=by
 simp only[zL,zI,qa,qe4,qx,decide_true,true_and,evA];rw[show (n==m)=decide (n=m) from by rw[Bool.eq_iff_iff];simp]
theorem qu2:zL qv .add (.i q n) (.i q m) k↔evA (.i q (q.wrap (n+m))) k:=by
 simp only[zL,zI,qa,qdd,za,decide_true,true_and];exact Iff.rfl
theorem qve:zL qv .sub (.i q n) (.i q m) k↔evA (.i q (q.wrap (n-m))) k:=by
 simp only[zL,zI,qa,qdd,za,decide_true,true_and];exact Iff.rfl
theorem qva:zL qv .mul (.i q n) (.i q m) k↔evA (.i q (q.wrap (n*m))) k:=by
 simp only[zL,zI,qa,qdd,za,decide_true,true_and];exact Iff.rfl
def orI(q:IntKind)(x y:Int):Int:=q.wrap (BitVec.ofInt q.bits x ||| BitVec.ofInt q.bits y).toNat
def x9(q:IntKind)(x y:Int):Int:=q.wrap (BitVec.ofInt q.bits x &&& BitVec.ofInt q.bits y).toNat
def qBK(q:IntKind)(x y:Int):Int:=q.wrap (BitVec.ofInt q.bits x ^^^ BitVec.ofInt q.bits y).toNat
def qeS(q:IntKind)(x y:Int):Int:=q.wrap (BitVec.ofInt q.bits x &&& ~~~ (BitVec.ofInt q.bits y)).toNat
theorem qyX:zL qv .or (.i q n) (.i q m) k↔evA (.i q (orI q n m)) k:=by
 simp only[zL,zI,qa,za,decide_true,true_and,orI,evA]
theorem qu3:zL qv .and (.i q n) (.i q m) k↔evA (.i q (x9 q n m)) k:=by
 simp only[zL,zI,qa,za,decide_true,true_and,x9,evA]
theorem qvf:zL qv .xor (.i q n) (.i q m) k↔evA (.i q (qBK q n m)) k:=by
 simp only[zL,zI,qa,za,decide_true,true_and,qBK,evA]
theorem qu4:zL qv .andNot (.i q n) (.i q m) k↔evA (.i q (qeS q n m)) k:=by
 simp only[zL,zI,qa,za,decide_true,true_and,qeS,evA]
def quv(q:IntKind)(x m:Int):Int:=x.fdiv (2 ^ min m.toNat q.bits)
def qBe(q:IntKind)(x m:Int):Int:=q.wrap (x*2 ^ min m.toNat q.bits)
theorem qvd{q2:IntKind}:zL qv .shr (.i q n) (.i q2 m) k↔ifK (0<=m) (evA (.i q (quv q n m)) k):=by
 cases m with
 | ofNat m =>
  show qn (min m q.bits) (fun a=>z8 (n.fdiv (p2 a)) (fun r=>k (.i q r)))↔_
  rw[qq,za,qpd];exact⟨fun h=>⟨Int.natCast_nonneg m,h⟩,fun h=>h.2⟩
 | negSucc m=>exact⟨fun h=>h.elim,fun h=>absurd h.1 (by omega)⟩
theorem qvc{q2:IntKind}:zL qv .shl (.i q n) (.i q2 m) k↔ifK (0<=m) (evA (.i q (qBe q n m)) k):=by
 cases m with
 | ofNat m =>
  show qn (min m q.bits) (fun a=>z8 (q.wrap (n*p2 a)) (fun r=>k (.i q r)))↔_
  rw[qq,za,qpd];exact⟨fun h=>⟨Int.natCast_nonneg m,h⟩,fun h=>h.2⟩
 | negSucc m=>exact⟨fun h=>h.elim,fun h=>absurd h.1 (by omega)⟩
theorem qjn(x y:Int):eqI x y=decide (x=y):=by rw[qe4,Bool.eq_iff_iff];simp
theorem qiM(h:m≠0):zL qv .quo (.i q n) (.i q m) k↔evA (.i q (q.wrap (n.tdiv m))) k:=by
 simp only[zL,zI,qa,qdd,za,decide_true,true_and,qjn,decide_eq_false h];exact Iff.rfl
theorem qgU(h:m≠0):zL qv .rem (.i q n) (.i q m) k↔evA (.i q (n.tmod m)) k:=by
 simp only[zL,zI,qa,za,decide_true,true_and,qjn,decide_eq_false h];exact Iff.rfl
theorem qrA:zL qv .eql (.s a) (.s c) k↔evA (.b (decide (a=c))) k:=by
 simp only[zL,qbt,qbJ,qx,evA];rw[show (a==c)=decide (a=c) from by rw[Bool.eq_iff_iff];simp]
theorem qrF:zL qv .neq (.s a) (.s c) k↔evA (.b (!decide (a=c))) k:=by
 simp only[zL,qbt,qbJ,qx,evA];rw[show (a==c)=decide (a=c) from by rw[Bool.eq_iff_iff];simp]
theorem qrz:zL qv .add (.s a) (.s c) k↔ifK (a.length+c.length<=9223372036854775807) (evA (.s (a++c)) k):=by
 show (Bool.rec (motive:=fun _=>Prop) False (k (.s (a++c))) (Nat.ble (a.length+c.length) 9223372036854775807):Prop)↔_
 rw[show (a.length+c.length<=9223372036854775807)=(Nat.ble (a.length+c.length) 9223372036854775807=true) from propext ⟨Nat.ble_eq_true_of_le,Nat.le_of_ble_eq_true⟩]
 cases Nat.ble (a.length+c.length) 9223372036854775807
 ·exact⟨False.elim,fun h=>by cases h.1⟩
 ·exact⟨fun h=>⟨rfl,h⟩,fun h=>h.2⟩
theorem qrE:zL qv .lss (.s a) (.s c) k↔evA (.b (ltS a c)) k:=by simp only[zL,qbt,qx,evA]
theorem qrB:zL qv .geq (.s a) (.s c) k↔evA (.b (!ltS a c)) k:=by simp only[zL,qbt,qx,evA]
theorem qrD:zL qv .leq (.s a) (.s c) k↔evA (.b (ltS a c||decide (a=c))) k:=by
 simp only[zL,qbt,qbJ,qx,evA];rw[show (a==c)=decide (a=c) from by rw[Bool.eq_iff_iff];simp]
theorem qrC:zL qv .gtr (.s a) (.s c) k↔evA (.b (!(ltS a c||decide (a=c)))) k:=by
 simp only[zL,qbt,qbJ,qx,evA];rw[show (a==c)=decide (a=c) from by rw[Bool.eq_iff_iff];simp]
theorem qBA{x:Bool}:qdn .not (.b x) k↔evA (.b (!x)) k:=by simp only[qdn,qx,evA]
theorem qBz:qdn .neg (.i q n) k↔evA (.i q (q.wrap (0-n))) k:=by simp only[qdn,za,evA]
theorem qy{x:Int}(h1:-9223372036854775808<=x)(h2:x<=9223372036854775807):IntKind.wrap .i64 x=x:=by
 simp[IntKind.wrap,IntKind.bits,IntKind.signed];omega
theorem qdo{x:Int}(h1:0<=x)(h2:x<=18446744073709551615):IntKind.wrap .u64 x=x:=by
 simp[IntKind.wrap,IntKind.bits,IntKind.signed];omega
theorem qcA{x:Int}(h1:0<=x)(h2:x<=4294967295):IntKind.wrap .u32 x=x:=by
 simp[IntKind.wrap,IntKind.bits,IntKind.signed];omega
theorem quR{x:Int}(h1:0<=x)(h2:x<=255):IntKind.wrap .u8 x=x:=by
 simp[IntKind.wrap,IntKind.bits,IntKind.signed];omega
theorem qEA:cvK qv q (.i q' n) k↔evA (.i q (q.wrap n)) k:=by
 show z8 (qhF q n) (fun r=>k (.i q r))↔_
 exact qmL
end

theorem qAe{s f:Nat}{tr:Tr Blk}{x:Blk}{k:Nat->Hp->Prop}:xn ⟨s,f,tr⟩ x k↔evN (s+1) (fun s'=>k s ⟨s',f,tr.set s x⟩):=by
 rw[zw];exact Iff.rfl
theorem qA1{s f b:Nat}{tr:Tr Blk}{x:Blk}{k:Hp->Prop}:qas ⟨s,f,tr⟩ b x k↔ifK (f<=b) (k ⟨s,f,tr.set b x⟩):=jj _ _ _ _
theorem qyo{s f:Nat}{tr:Tr Blk}:Hp.up ⟨s,f,tr⟩=⟨s,s,tr⟩:=rfl
theorem qoI{s f f':Nat}{tr:Tr Blk}:Hp.down ⟨s,f,tr⟩ f'=⟨s,f',tr⟩:=rfl
def qaT(x:Blk)(k:Nat->Bool->Bool->List AV->Prop):Prop:=match x with | .cells e w a cs=>k e w a cs|_=>False
@[congr] theorem qvp {x x':Blk} {k:Nat->Bool->Bool->List AV->Prop} {mk:Prop} (_:qV=mk) (h:x=x'):qaT x k=qaT x' k:=by rw[h]
theorem qlt{e:Nat}{w a:Bool}{cs:List AV}{k:Nat->Bool->Bool->List AV->Prop}:qaT (.cells e w a cs) k↔k e w a cs:=Iff.rfl
theorem qfF{b:Nat}{k:Nat->Bool->Bool->List AV->Prop}:qal h b k↔evB (h.tr.get b) (fun x=>qaT x k):=by
 rw[qQ];constructor
 ·rintro⟨e,w,a,cs,h1,h2⟩;exact⟨_,h1,h2⟩
 ·rintro⟨x,h1,h2⟩;cases x with
  | cells e w a cs=>exact⟨e,w,a,cs,h1,h2⟩
  | dead=>exact h2.elim
  | map es=>exact h2.elim
def qei(cs:List AV)(o n:Nat)(k:List AV->Prop):Prop:=o<=cs.length∧n<=(cs.drop o).length∧k ((cs.drop o).take n)
@[congr] theorem qzi {cs:List AV} {o n:Nat} {k:List AV->Prop} {mk:Prop} (_:qV=mk):qei cs o n k=qei cs o n k:=rfl
theorem qvD{cs:List AV}{o n:Nat}{k:List AV->Prop}:qei cs o n k↔ifK (o+n<=cs.length) (evL ((cs.drop o).take n) k):=by
 unfold qei ifK;rw[List.length_drop];exact⟨fun⟨h1,h2,h3⟩=>⟨by omega,h3⟩,fun⟨h1,h2⟩=>⟨by omega,by omega,h2⟩⟩
theorem drop_take{cs:List AV}{o n:Nat}{k:List AV->Prop}:qb0 o cs (fun l=>qbd n l k)↔qei cs o n k:=by
 rw[zd,qS];exact Iff.rfl
theorem qs3{b o:Nat}{k:AV->Prop}:ldV h (.ptr b o) k↔evB (h.tr.get b) (fun x=>qaT x (fun _ _ _ cs=>evO cs[o]? k)):=by
 show qal h b (fun _ _ _ cs=>qgG cs o k)↔_
 rw[qfF]
 have:(fun (_:Nat) (_ _:Bool) (cs:List AV)=>qgG cs o k)=fun _ _ _ cs=>evO cs[o]? k:=by
  funext _ _ _ cs;exact propext (zY _ _ _)
 rw[this]
theorem qDs{cs:List AV}{o:Nat}{k:AV->Prop}:ldV h (.pf cs o) k↔evO cs[o]? k:=zY _ _ _
theorem qDq{b o:Nat}{k:AV->Prop}:ldK h b o k↔evB (h.tr.get b) (fun x=>qaT x (fun _ _ _ cs=>evO cs[o]? k)):=qs3
theorem qs4{b o n:Nat}{k:List AV->Prop}:qbA h b o n k↔evB (h.tr.get b) (fun x=>qaT x (fun _ _ _ cs=>qei cs o n k)):=by
 show qal h b (fun _ _ _ cs=>qb0 o cs (fun l=>qbd n l k))↔_
 rw[qfF];simp only[drop_take]
theorem qwj{b o n:Nat}{k:List AV->Prop}:qiF h (.ptr b o) n k↔evB (h.tr.get b) (fun x=>qaT x (fun _ _ _ cs=>qei cs o n k)):=qs4
theorem qzW{cs:List AV}{o n:Nat}{k:List AV->Prop}:qiF h (.pf cs o) n k↔qei cs o n k:=drop_take
theorem qwt{b o n:Nat}{k:AV->Prop}:qgE (.ptr b o) n k↔evN (o+n) (fun o'=>k (.ptr b o')):=xe (n:=o+n) (k:=fun o'=>k (.ptr b o'))
theorem qAa{cs:List AV}{o n:Nat}{k:AV->Prop}:qgE (.pf cs o) n k↔evN (o+n) (fun o'=>k (.pf cs o')):=xe (n:=o+n) (k:=fun o'=>k (.pf cs o'))
@[congr] theorem qz9 {p:AV} {n:Nat} {k:AV->Prop} {mk:Prop} (_:qV=mk):qgE p n k=qgE p n k:=rfl
theorem qFv{b o:Nat}{vs:List AV}{k:Hp->Prop}:stK h b o vs k↔evB (h.tr.get b) (fun x=>qaT x (fun e w a cs=>ifK (w=true∧qA vs=true∧o+vs.length<=cs.length) (evL (cs.take o++(vs++cs.drop (o+vs.length))) (fun cs'=>qas h b (.cells e true a cs') k)))):=by
 show qal h b _↔_;rw[qfF]
 have:(fun (e:Nat) (w a:Bool) (cs:List AV)=>(Bool.rec (motive:=fun _=>Prop) False (Bool.rec (motive:=fun _=>Prop) False (xA vs o cs (fun cs'=>qas h b (.cells e w a cs') k)) (qA vs)) w:Prop)) =
   fun e w a cs=>ifK (w=true∧qA vs=true∧o+vs.length<=cs.length) (evL (cs.take o++(vs++cs.drop (o+vs.length))) (fun cs'=>qas h b (.cells e true a cs') k)):=by
  funext e w a cs;refine propext ?_;cases w with
  | false=>exact⟨False.elim,fun hh=>by have:=hh.1.1;cases this⟩
  | true =>
   cases hc:qA vs with
   | false=>exact⟨False.elim,fun hh=>by have:=hh.1.2.1;cases this⟩
   | true=>exact (xB _ _ _ _).trans ⟨fun⟨h1,h2⟩=>⟨⟨rfl,rfl,h1⟩,h2⟩,fun⟨⟨_,_,h1⟩,h2⟩=>⟨h1,h2⟩⟩
 rw[this]
def stV(h:Hp)(b o:Nat)(v:AV)(n:Nat)(k:Hp->Prop):Prop:=qh (qch v) (qf0 (cellsOf v) (fun m=>qh (Nat.beq m n) (stK h b o (cellsOf v) k)))
@[congr] theorem qCi {b o:Nat} {v:AV} {n:Nat} {k:Hp->Prop} {mk:Prop} (_:qV=mk):stV h b o v n k=stV h b o v n k:=rfl
theorem qeg{x y:Nat}:Nat.beq x y=true↔x=y:=⟨Nat.eq_of_beq_eq_true,fun h=>h ▸ Nat.beq_refl x⟩
theorem qxy{b o:Nat}{v:AV}{n:Nat}{k:Hp->Prop}:stV h b o v n k↔ifK (qch v=true) (evL (cellsOf v) (fun cs=>ifK (cs.length=n) (stK h b o cs k))):=by
 unfold stV;rw[qa,xS,qa,qeg];exact Iff.rfl
theorem xw{x y:Nat}:Nat.ble x y=true↔x<=y:=⟨Nat.le_of_ble_eq_true,Nat.ble_eq_true_of_le⟩

theorem qAP{x:O}:opK qv (.mov x) t h k↔evK t x (fun v=>k v h):=Iff.rfl
theorem qdG{b:Bool}{p q:Prop}:(Bool.rec (motive:=fun _=>Prop) q p b:Prop)↔if b=true then p else q:=by cases b<;>simp
theorem qwQ{c x y:O}:opK qv (.pick c x y) t h k↔evK t c (fun c=>unB c (fun c=>if c=true then evK t x (fun v=>k v h) else evK t y (fun v=>k v h))):=by
 show evK t c (fun c=>unB c (fun c=>Bool.rec (motive:=fun _=>Prop) (evK t y (fun v=>k v h)) (evK t x (fun v=>k v h)) c))↔_
 simp only[qdG]
theorem qtM{z:List AV}:opK qv (.alloc z) t h k↔xn h (.cells 0 true false z) (fun b h'=>k (.ptr b 0) h'):=Iff.rfl
theorem qAC{x:O}:opK qv (.box x) t h k↔evK t x (fun v=>qh (qch v) (evL (cellsOf v) (fun cs=>xn h (.cells 0 true false cs) (fun b h'=>k (.ptr b 0) h')))):=Iff.rfl
theorem qtN{z:List AV}{ps:List (Nat×Nat×O)}:opK qv (.build z ps) t h k↔qah t ps z (fun cs=>k (.agg cs) h):=Iff.rfl
theorem qqL{n:Nat}{z:List AV}{ps:List (Nat×Nat×O)}:opK qv (.buildS n z ps) t h k↔evL (List.replicate n z).flatten (fun cs=>qah t ps cs (fun cs=>xn h (.cells 0 true false cs) (fun b h'=>k (.sl b 0 n n false) h'))):=by
 show qhv z n _↔_;rw[jk];exact Iff.rfl
theorem qtS{x:O}:opK qv (.load1 x) t h k↔evK t x (fun p=>ldV h p (fun v=>k v h)):=Iff.rfl
theorem qtT{n:Nat}{x:O}:opK qv (.loadN n x) t h k↔evK t x (fun p=>qiF h p n (fun cs=>k (.agg cs) h)):=Iff.rfl
theorem qtW{n:Nat}{x v:O}:opK qv (.store n x v) t h k↔evK t x (fun p=>unP p (fun b o=>evK t v (fun v=>stV h b o v n (fun h'=>k .undef h')))):=Iff.rfl
def qix(v:AV)(k:AV->Prop):Prop:=match v with | .ptr b o=>k (.ptr b o) | .fn f a c=>k (.fn f a c) | .map r=>k (.map r) | .pf cs o=>k (.pf cs o) | .yl b=>k (.yl b)|_=>False
@[congr] theorem qye {v:AV} {k:AV->Prop} {mk:Prop} (_:qV=mk):qix v k=qix v k:=rfl
theorem qqO{x:O}:opK qv (.nilChk x) t h k↔evK t x (fun v=>qix v (fun v=>k v h)):=by
 show evK t x (fun v=>_)↔_
 refine iff_of_eq (congrArg _ (funext fun v=>?_))
 cases v<;>rfl
theorem qAB{op:BinOp}{x y:O}:opK qv (.bin op x y) t h k↔evK t x (fun x=>evK t y (fun y=>zL qv op x y (fun v=>k v h))):=Iff.rfl
theorem qAF{neg:Bool}{x y:O}:opK qv (.eqB neg x y) t h k↔evK t x (fun x=>evK t y (fun y=>unB x (fun x=>unB y (fun y=>evT (xor neg (x==y)) (fun r=>k (.b r) h))))):=by
 show evK t x (fun x=>evK t y (fun y=>unB x (fun x=>unB y (fun y=>qJ _ _))))↔_
 simp only[qhO]
theorem qAG{neg:Bool}{q:NK}{x:O}:opK qv (.eqN neg q x) t h k↔evK t x (fun x=>xr q x (fun r=>evT (xor neg r) (fun r=>k (.b r) h))):=by
 show evK t x (fun x=>xr q x (fun r=>qJ _ _))↔_
 simp only[qhO]
theorem qAE{neg:Bool}{ks:List PK}{x y:O}:opK qv (.eqA neg ks x y) t h k↔evK t x (fun x=>evK t y (fun y=>match x with | .agg a=>(match y with | .agg c=>xP ks a c (fun r=>qJ (xor neg r) (fun r=>k (.b r) h))|_=>False)|_=>False)):=Iff.rfl
theorem qDO{op:UnOp}{x:O}:opK qv (.un op x) t h k↔evK t x (fun x=>qdn op x (fun v=>k v h)):=Iff.rfl
theorem qtP{q:IntKind}{x:O}:opK qv (.cvInt q x) t h k↔evK t x (fun x=>cvK qv q x (fun v=>k v h)):=Iff.rfl
@[congr] theorem qBR {q:IntKind} {x:AV} {k:AV->Prop} {mk:Prop} (_:qV=mk):cvK qv q x k=cvK qv q x k:=rfl
theorem qtQ{x:O}:opK qv (.cvStr x) t h k↔evK t x (fun x=>match x with | .s a=>k (.s a) h|_=>False):=Iff.rfl
theorem qAQ{x:O}:opK qv (.s2b x) t h k↔evK t x (fun x=>match x with | .s a=>xn h (.cells 1 true true (a.map fun c=>.i .u8 (Int.ofNat c.toNat))) (fun b h'=>k (.own b a.length) h')|_=>False):=by
 show evK t x (fun x=>_)↔_
 refine iff_of_eq (congrArg _ (funext fun v=>?_))
 cases v<;>first|rfl|exact qq _ _
theorem qAA{x:O}:opK qv (.b2s x) t h k↔evK t x (fun x=>match x with
  | .nils=>k (.s []) h
  | .sl b o n _ _=>qbA h b o n (fun cs=>zM cs (fun l=>k (.s l) h))
  | .fz n cs=>qei cs 0 n (fun cs=>zM cs (fun l=>k (.s l) h))
  | .e0=>k (.s []) h
  | .own b n=>qbA h b 0 n (fun cs=>zM cs (fun l=>k (.s l) h))
  | _=>False):=by
 show evK t x (fun x=>_)↔_
 refine iff_of_eq (congrArg _ (funext fun v=>?_))
 cases v<;>first|rfl|exact propext ((qS _ _ _).trans ⟨fun hh=>⟨Nat.zero_le _,by simpa using hh⟩,fun hh=>by simpa using hh.2⟩)
theorem qtR{off:Nat}{x:O}:opK qv (.fAddr off x) t h k↔evK t x (fun p=>qgE p off (fun v=>k v h)):=Iff.rfl
def qsC(off:Nat)(n:Option Nat)(x:AV)(k:AV->Prop):Prop:=match x with
 | .agg cs=>(match n with|none=>evO cs[off]? k|some n=>qei cs off n (fun l=>k (.agg l)))
 | _=>False
@[congr] theorem qzE {off:Nat} {n:Option Nat} {x:AV} {k:AV->Prop} {mk:Prop} (_:qV=mk):qsC off n x k=qsC off n x k:=rfl
theorem qsD{off:Nat}{cs:List AV}{k:AV->Prop}:qsC off none (.agg cs) k↔evO cs[off]? k:=Iff.rfl
theorem qsE{off n:Nat}{cs:List AV}{k:AV->Prop}:qsC off (some n) (.agg cs) k↔qei cs off n (fun l=>k (.agg l)):=Iff.rfl
theorem qAI{off:Nat}{n:Option Nat}{x:O}:opK qv (.fld off n x) t h k↔evK t x (fun x=>qsC off n x (fun v=>k v h)):=by
 show evK t x (fun x=>_)↔_
 refine iff_of_eq (congrArg _ (funext fun v=>?_))
 cases v<;>first|rfl|skip
 cases n with
 | none=>exact propext (zY _ _ _)
 | some n=>exact propext drop_take
theorem qqM{len esz:Nat}{x i:O}:opK qv (.iAddrA len esz x i) t h k↔evK t x (fun p=>evK t i (fun i=>unN i (fun i=>ifK (i<len) (evN (i*esz) (fun o=>qgE p o (fun v=>k v h)))))):=by
 show evK t x (fun p=>evK t i (fun i=>unN i (fun i=>qh (Nat.ble (Nat.succ i) len) _)))↔_
 simp only[qa,xw];exact Iff.rfl
def ixK(esz:Nat)(x:AV)(i:Nat)(k:AV->Prop):Prop:=match x with
 | .sl b o len _ _=>ifK (i<len) (evN (o+i*esz) (fun o'=>k (.ptr b o')))
 | .fz len cs=>ifK (i<len) (evN (i*esz) (fun o'=>k (.pf cs o')))
 | .own b len=>ifK (i<len) (evN (i*esz) (fun o'=>k (.ptr b o')))
 | _=>False
@[congr] theorem qB4 {esz i:Nat} {x:AV} {k:AV->Prop} {mk:Prop} (_:qV=mk):ixK esz x i k=ixK esz x i k:=rfl
theorem qDj{esz i b o len cap:Nat}{l:Bool}{k:AV->Prop}:ixK esz (.sl b o len cap l) i k↔ifK (i<len) (evN (o+i*esz) (fun o'=>k (.ptr b o'))):=Iff.rfl
theorem qDi{esz i len:Nat}{cs:List AV}{k:AV->Prop}:ixK esz (.fz len cs) i k↔ifK (i<len) (evN (i*esz) (fun o'=>k (.pf cs o'))):=Iff.rfl
theorem qzQ{esz i b len:Nat}{k:AV->Prop}:ixK esz (.own b len) i k↔ifK (i<len) (evN (i*esz) (fun o'=>k (.ptr b o'))):=Iff.rfl
def qkP(x:AV)(p:Prop):Prop:=match x with | .sl _ _ _ _ _=>p | .fz _ _=>p | .own _ _=>p|_=>False
@[congr] theorem qx8 {x:AV} {p:Prop} {mk:Prop} (_:qV=mk):qkP x p=qkP x p:=rfl
theorem qsX{b o len cap:Nat}{l:Bool}{p:Prop}:qkP (.sl b o len cap l) p↔p:=Iff.rfl
theorem qsW{len:Nat}{cs:List AV}{p:Prop}:qkP (.fz len cs) p↔p:=Iff.rfl
theorem qqp{b len:Nat}{p:Prop}:qkP (.own b len) p↔p:=Iff.rfl
theorem qqN{esz:Nat}{x i:O}:opK qv (.iAddrS esz x i) t h k↔evK t x (fun x=>qkP x (evK t i (fun i=>unN i (fun i=>ixK esz x i (fun v=>k v h))))):=by
 show evK t x (fun x=>_)↔_
 refine iff_of_eq (congrArg _ (funext fun v=>?_))
 cases v<;>first|rfl|(simp only[qa,xw,xe];rfl)
theorem qwO{len esz:Nat}{agg:Bool}{x i:O}:opK qv (.idxA len esz agg x i) t h k↔evK t x (fun x=>match x with
  | .agg cs=>evK t i (fun i=>unN i (fun i=>ifK (i<len) (evN (i*esz) (fun o=>if agg=true then qei cs o esz (fun l=>k (.agg l) h) else evO cs[o]? (fun v=>k v h)))))
  | _=>False):=by
 show evK t x (fun x=>_)↔_
 refine iff_of_eq (congrArg _ (funext fun v=>?_))
 cases v<;>first|rfl|skip
 simp only[qa,xw,xe,qdG,drop_take];have:∀(cs:List AV) (o:Nat),qgG cs o (fun v=>k v h)=evO cs[o]? (fun v=>k v h):=fun cs o=>propext (zY _ _ _)
 simp only[this];rfl
def evC(o:Option UInt8)(k:UInt8->Prop):Prop:=∃v,o=some v∧k v
@[congr] theorem qBV {o o':Option UInt8} {k:UInt8->Prop} {mk:Prop} (_:qV=mk) (h:o=o'):evC o k=evC o' k:=by rw[h]
theorem qmE{v:UInt8}{k:UInt8->Prop}:evC (some v) k↔k v:=by simp[evC]
theorem qwP{x i:O}:opK qv (.idxS x i) t h k↔evK t x (fun x=>match x with
  | .s a=>evK t i (fun i=>unN i (fun i=>evC a[i]? (fun c=>k (.i .u8 (c.toNat:Int)) h)))
  | _=>False):=by
 show evK t x (fun x=>_)↔_
 refine iff_of_eq (congrArg _ (funext fun v=>?_))
 cases v<;>first|rfl|skip
 rename_i a
 have e:∀(j:Nat),(Option.rec (motive:=fun _=>Prop) False (fun c=>k (.i .u8 (Int.ofNat c.toNat)) h) (a[j]?):Prop)=evC a[j]? (fun c=>k (.i .u8 (c.toNat:Int)) h):=by
  intro j;cases ha:a[j]? with
  | none=>exact propext ⟨False.elim,fun⟨_,h1,_⟩=>by cases h1⟩
  | some c=>exact (propext (qmE (k:=fun c=>k (.i .u8 (c.toNat:Int)) h) (v:=c))).symm
 simp only[e]
def bdK(x:Option AV)(dflt top:Nat)(k:Nat->Prop):Prop:=qfZ x dflt top k
@[congr] theorem qBN {x:Option AV} {a b:Nat} {k:Nat->Prop} {mk:Prop} (_:qV=mk):bdK x a b k=bdK x a b k:=rfl
theorem qiL{a b:Nat}{k:Nat->Prop}:bdK none a b k↔k a:=Iff.rfl
theorem qoz{v:AV}{a b:Nat}{k:Nat->Prop}:bdK (some v) a b k↔unN v (fun n=>ifK (n<=b) (k n)):=by
 show unN v (fun n=>qh (Nat.ble n b) (qn n k))↔_
 simp only[qa,xw,qq];exact Iff.rfl
theorem qvh{len cap:Nat}{lo:Option AV}{k:Nat->Nat->Nat->Prop}:zy len cap lo none none k↔ifK (len<=cap) (bdK lo 0 len (fun l=>k l len cap)):=by
 show qh (Nat.ble len cap) (qfZ lo 0 len (fun l=>k l len cap))↔_
 rw[qa,xw];exact Iff.rfl
theorem qoA{len cap:Nat}{lo:Option AV}{hi:AV}{k:Nat->Nat->Nat->Prop}:zy len cap lo (some hi) none k↔unN hi (fun u=>ifK (u<=cap) (bdK lo 0 u (fun l=>k l u cap))):=by
 show unN hi (fun u=>qh (Nat.ble u cap) (qn u (fun u=>qfZ lo 0 u (fun l=>k l u cap))))↔_
 simp only[qa,xw,qq];exact Iff.rfl
theorem qiO{len cap:Nat}{lo:Option AV}{hi mx:AV}{k:Nat->Nat->Nat->Prop}:zy len cap lo (some hi) (some mx) k↔unN mx (fun m=>ifK (m<=cap) (unN hi (fun u=>ifK (u<=m) (bdK lo 0 u (fun l=>k l u m))))):=by
 show unN mx (fun m=>qh (Nat.ble m cap) (qn m (fun m=>unN hi (fun u=>qh (Nat.ble u m) (qn u (fun u=>qfZ lo 0 u (fun l=>k l u m)))))))↔_
 simp only[qa,xw,qq];exact Iff.rfl
def slK(esz:Nat)(lo hi mx:Option AV)(x:AV)(h:Hp)(k:AV->Prop):Prop:=match x with
 | .nils=>zy 0 0 lo hi mx (fun _ _ _=>k .nils)
 | .e0=>zy 0 0 lo hi mx (fun _ _ _=>k .e0)
 | .fz n cs=>zy n n lo hi mx (fun l h' m=>if (mx.isSome&&Nat.beq m l)=true then k .e0 else evN (l*esz) (fun o=>evN (h'-l) (fun len'=>evN (len'*esz) (fun z=>qei cs o z (fun l2=>k (.fz len' l2))))))
 | .sl b o len cap loose=>zy len cap lo hi mx (fun l h' m=>evN (if (loose&&mx.isNone)=false∧m=l then o else o+l*esz) (fun o'=>evN (h'-l) (fun len'=>evN (m-l) (fun cap'=>qiD h b esz (loose&&mx.isNone) (k (.sl b o' len' cap' (loose&&mx.isNone)))))))
 | .own b n=>match mx with
  | none=>if n=0 then zy 0 0 lo hi none (fun _ _ _=>k (.own b 0)) else zy n n lo hi none (fun l h' m=>evN (l*esz) (fun o'=>evN (h'-l) (fun len'=>evN (m-l) (fun cap'=>qiD h b esz true (k (.sl b o' len' cap' true))))))
  | some u=>if n=0 then zy 0 0 lo hi (some u) (fun _ _ _=>k (.own b 0)) else zy n n lo hi (some u) (fun l h' m=>evN (if m=l then 0 else l*esz) (fun o'=>evN (h'-l) (fun len'=>evN (m-l) (fun cap'=>k (.sl b o' len' cap' false)))))
 | _=>False
@[congr] theorem qCg {esz:Nat} {lo hi mx:Option AV} {x:AV} {k:AV->Prop} {mk:Prop} (_:qV=mk):slK esz lo hi mx x h k=slK esz lo hi mx x h k:=rfl
@[congr] theorem qzv {b esz:Nat} {c:Bool} {p:Prop} {mk:Prop} (_:qV=mk):qiD h b esz c p=qiD h b esz c p:=rfl
theorem qqd{b esz:Nat}{p:Prop}:qiD h b esz false p↔p:=Iff.rfl
theorem qsq{b esz:Nat}{p:Prop}:qiD h b esz true p↔evB (h.tr.get b) (fun x=>qaT x (fun e _ _ _=>ifK (e=esz) p)):=by
 show qal h b (fun e _ _ _=>qh (Nat.beq e esz) p)↔_
 rw[qfF];simp only[qa,qeg];exact Iff.rfl
theorem qxu{esz:Nat}{lo hi mx:Option AV}{k:AV->Prop}:slK esz lo hi mx .nils h k↔zy 0 0 lo hi mx (fun _ _ _=>k .nils):=Iff.rfl
theorem qDW{esz:Nat}{lo hi mx:Option AV}{k:AV->Prop}:slK esz lo hi mx .e0 h k↔zy 0 0 lo hi mx (fun _ _ _=>k .e0):=Iff.rfl
theorem qDX{esz n:Nat}{cs:List AV}{lo hi:Option AV}{k:AV->Prop}:slK esz lo hi none (.fz n cs) h k↔zy n n lo hi none (fun l h' _=>evN (l*esz) (fun o=>evN (h'-l) (fun len'=>evN (len'*esz) (fun z=>qei cs o z (fun l2=>k (.fz len' l2)))))):=by
 simp only[slK,Option.isSome_none,Bool.false_and,Bool.false_eq_true,if_false]
theorem qBj{esz b o len cap:Nat}{lo hi mx:Option AV}{k:AV->Prop}:slK esz lo hi mx (.sl b o len cap false) h k↔zy len cap lo hi mx (fun l1 h' m=>evN (if m=l1 then o else o+l1*esz) (fun o'=>evN (h'-l1) (fun len'=>evN (m-l1) (fun cap'=>k (.sl b o' len' cap' false))))):=by
 simp only[slK,Bool.false_and,true_and];exact Iff.rfl
theorem qBk{esz b o len cap:Nat}{lo hi:Option AV}{k:AV->Prop}:slK esz lo hi none (.sl b o len cap true) h k↔zy len cap lo hi none (fun l1 h' m=>evN (o+l1*esz) (fun o'=>evN (h'-l1) (fun len'=>evN (m-l1) (fun cap'=>qiD h b esz true (k (.sl b o' len' cap' true)))))):=by
 simp only[slK,Option.isNone_none,Bool.and_self,Bool.true_eq_false,false_and,if_false]
theorem qBi{esz b n:Nat}{lo hi:Option AV}{k:AV->Prop}:slK esz lo hi none (.own b n) h k↔if n=0 then zy 0 0 lo hi none (fun _ _ _=>k (.own b 0)) else zy n n lo hi none (fun l h' m=>evN (l*esz) (fun o'=>evN (h'-l) (fun len'=>evN (m-l) (fun cap'=>qiD h b esz true (k (.sl b o' len' cap' true)))))):=by
 exact Iff.rfl
theorem qwS{esz:Nat}{x:O}{lo hi mx:Option O}:opK qv (.slcS esz x lo hi mx) t h k↔evK t x (fun x=>qaP t lo (fun lo=>qaP t hi (fun hi=>qaP t mx (fun mx=>slK esz lo hi mx x h (fun v=>k v h))))):=by
 show evK t x (fun x=>_)↔_
 refine iff_of_eq (congrArg _ (funext fun v=>congrArg _ (funext fun lo=>congrArg _ (funext fun hi=>congrArg _ (funext fun mx=>?_)))))
 cases v<;>first|rfl|skip
 ·simp only[slK,xe];rfl
 ·have e:∀(cs:List AV) (o m:Nat),qb0 o cs (fun l1=>evN m (fun len'=>qbd (Nat.mul len' esz) l1 (fun l2=>k (.fz len' l2) h)))=evN m (fun len'=>evN (len'*esz) (fun z=>qei cs o z (fun l2=>k (.fz len' l2) h))):=by
   intro cs o m;refine propext ⟨fun hh=>?_,fun hh=>?_⟩
   ·obtain⟨h1,h2⟩:=(zd _ _ _).1 hh;obtain⟨h3,h4⟩:=(qS _ _ _).1 h2;exact⟨h1,h3,h4⟩
   ·obtain⟨h1,h3,h4⟩:=hh;exact (zd _ _ _).2 ⟨h1,(qS _ _ _).2 ⟨h3,h4⟩⟩
  simp only[slK,xe,qdG,e];rfl
 ·rename_i b n;cases mx with
  | some m =>
   cases n with
   | zero=>simp only[slK,if_true];rfl
   | succ n=>simp only[slK,Nat.succ_ne_zero,if_false,xe];rfl
  | none =>
   cases n with
   | zero=>simp only[slK,if_true];rfl
   | succ n=>simp only[slK,Nat.succ_ne_zero,if_false,xe];rfl
theorem qqQ{x:O}{lo hi:Option O}:opK qv (.slcStr x lo hi) t h k↔evK t x (fun x=>qaP t lo (fun lo=>qaP t hi (fun hi=>match x with
  | .s a=>zy a.length a.length lo hi none (fun l h' _=>evA (.s ((a.take h').drop l)) (fun v=>k v h))
  | _=>False))):=Iff.rfl
theorem qwR{len esz:Nat}{x:O}{lo hi mx:Option O}:opK qv (.slcA len esz x lo hi mx) t h k↔evK t x (fun p=>unP p (fun b o=>qaP t lo (fun lo=>qaP t hi (fun hi=>qaP t mx (fun mx =>
   zy len len lo hi mx (fun l h' m=>evN (if m=l then o else o+l*esz) (fun o'=>evN (h'-l) (fun len'=>evN (m-l) (fun cap'=>k (.sl b o' len' cap' false) h))))))))):=by
 show evK t x (fun p=>unP p (fun b o=>qaP t lo (fun lo=>qaP t hi (fun hi=>qaP t mx (fun mx=>zy len len lo hi mx (fun l h' m=>qn (if m=l then o else Nat.add o (Nat.mul l esz)) _))))))↔_
 simp only[xe];exact Iff.rfl
theorem qAH{x:O}{i:Nat}:opK qv (.ext x i) t h k↔evK t x (fun x=>match x with | .tup cs=>evO cs[i]? (fun v=>k v h)|_=>False):=by
 show evK t x (fun x=>_)↔_
 refine iff_of_eq (congrArg _ (funext fun v=>?_))
 cases v<;>first|rfl|exact propext (zY _ _ _)
theorem qAM{f:Nat}{a c:List O}:opK qv (.mkF f a c) t h k↔qak t a (fun a=>qak t c (fun c=>k (.fn f a c) h)):=Iff.rfl
theorem qAO{e bytes:Nat}{z:List AV}{len cap:O}:opK qv (.mkS e bytes z len cap) t h k↔evK t len (fun len=>evK t cap (fun cap=>unN len (fun l=>unN cap (fun c=>ifK (l<=c) (ifK (c<=qg) (ifK (bytes*c<=qg) (evL (List.replicate c z).flatten (fun cs=>xn h (.cells 0 true false cs) (fun b h'=>k (.sl b 0 l c false) h'))))))))):=by
 show evK t len (fun len=>evK t cap (fun cap=>unN len (fun l=>unN cap (fun c=>qh (Nat.ble l c) (qh (Nat.ble c qg) (qh (Nat.ble (Nat.mul bytes c) qg) (qhv z c _)))))))↔_
 simp only[qa,xw,jk];exact Iff.rfl
def lnK(str:Bool)(x:AV)(k:AV->Prop):Prop:=match x,str with
 | .nils,false=>k (.i .i64 0)
 | .e0,false=>k (.i .i64 0)
 | .nz,false=>k (.i .i64 0)
 | .fz n _,false=>evA (.i .i64 (n:Int)) k
 | .own _ n,false=>evA (.i .i64 (n:Int)) k
 | .sl _ _ n _ _,false=>evA (.i .i64 (n:Int)) k
 | .s a,true=>evA (.i .i64 (a.length:Int)) k
 | _,_=>False
@[congr] theorem qB8 {b:Bool} {x:AV} {k:AV->Prop} {mk:Prop} (_:qV=mk):lnK b x k=lnK b x k:=rfl
theorem qAJ{str:Bool}{x:O}:opK qv (.len str x) t h k↔evK t x (fun x=>lnK str x (fun v=>k v h)):=by
 show evK t x (fun x=>_)↔_
 refine iff_of_eq (congrArg _ (funext fun v=>?_))
 cases v<;>cases str<;>first|rfl|exact qq _ _
theorem qwo{k:AV->Prop}:lnK false .nils k↔k (.i .i64 0):=Iff.rfl
theorem qDv{k:AV->Prop}:lnK false .nz k↔k (.i .i64 0):=Iff.rfl
theorem qDt{k:AV->Prop}:lnK false .e0 k↔k (.i .i64 0):=Iff.rfl
theorem qDu{n:Nat}{cs:List AV}{k:AV->Prop}:lnK false (.fz n cs) k↔evA (.i .i64 (n:Int)) k:=Iff.rfl
theorem qz1{b n:Nat}{k:AV->Prop}:lnK false (.own b n) k↔evA (.i .i64 (n:Int)) k:=Iff.rfl
theorem qDw{b o n c:Nat}{l:Bool}{k:AV->Prop}:lnK false (.sl b o n c l) k↔evA (.i .i64 (n:Int)) k:=Iff.rfl
theorem qEV{a:List UInt8}{k:AV->Prop}:lnK true (.s a) k↔evA (.i .i64 (a.length:Int)) k:=Iff.rfl
theorem qAz{esz bytes:Nat}{c:Bool}{s x:O}:opK qv (.app esz bytes c s x) t h k↔evK t s (fun s=>evK t x (fun x=>qeR h esz bytes c s x k)):=Iff.rfl
theorem qwL{esz bytes:Nat}{s x:O}:opK qv (.appF esz bytes s x) t h k↔evK t s (fun s=>evK t x (fun x=>qeR h esz bytes true s x k)):=Iff.rfl
def qnQ(esz bytes:Nat)(z:List AV)(h:Hp)(s:AV)(n:Nat)(k:AV->Hp->Prop):Prop:=match s with
  | .sl b o len cap false=>evN (len+n) (fun need=>ifK (cap<need) (ifK (need<=qg) (ifK (need*bytes<=qg) (evN (len*esz) (fun m=>qbA h b o m (fun old=>evL (old++(List.replicate n z).flatten) (fun cs=>xn h (.cells esz true true cs) (fun b' h'=>k (.own b' need) h'))))))))
  | .nils=>ifK (1<=n) (ifK (n<=qg) (ifK (n*bytes<=qg) (evL ((List.replicate n z).flatten) (fun cs=>xn h (.cells esz true true cs) (fun b' h'=>k (.own b' n) h')))))
  | _=>False
@[congr] theorem qyO {esz bytes n:Nat} {z:List AV} {s:AV} {mk:Prop} (_:qV=mk):qnQ esz bytes z h s n k=qnQ esz bytes z h s n k:=rfl
theorem qyP{esz bytes b o len cap n:Nat}{z:List AV}:qnQ esz bytes z h (.sl b o len cap false) n k↔evN (len+n) (fun need=>ifK (cap<need) (ifK (need<=qg) (ifK (need*bytes<=qg) (evN (len*esz) (fun m=>qbA h b o m (fun old=>evL (old++(List.replicate n z).flatten) (fun cs=>xn h (.cells esz true true cs) (fun b' h'=>k (.own b' need) h')))))))):=Iff.rfl
theorem qrv{esz bytes n:Nat}{z:List AV}:qnQ esz bytes z h .nils n k↔ifK (1<=n) (ifK (n<=qg) (ifK (n*bytes<=qg) (evL ((List.replicate n z).flatten) (fun cs=>xn h (.cells esz true true cs) (fun b' h'=>k (.own b' n) h'))))):=Iff.rfl
theorem qwM{esz bytes:Nat}{z:List AV}{s x:O}:opK qv (.appZ esz bytes z s x) t h k↔evK t s (fun s=>evK t x (fun x=>unN x (fun n=>qnQ esz bytes z h s n k))):=by
 show evK t s (fun s=>evK t x (fun x=>unN x (fun n=>_)))↔_
 refine iff_of_eq (congrArg _ (funext fun v=>congrArg _ (funext fun x=>congrArg _ (funext fun n=>propext ?_))))
 cases v<;>first|exact Iff.rfl|skip
 ·simp only[qnQ,qa,xw,jk,ifK,evL];rfl
 rename_i b o len cap loose;cases loose with
 | true=>exact⟨fun hh=>absurd ((qa (!true) _).1 hh).1 (by simp),False.elim⟩
 | false =>
  simp only[qnQ,qa,xw,jk,xO,Bool.not_false,true_and,evN,ifK,evL];rfl
theorem qwN{esz:Nat}{s x:O}:opK qv (.copy esz s x) t h k↔evK t s (fun s=>evK t x (fun x=>qii h esz s x k)):=Iff.rfl
theorem qp8{esz:Nat}{s:AV}:qii h esz .nils s k↔qbq h esz s (fun _ _=>k (.i .i64 0) h):=Iff.rfl
theorem qvB{esz b o len c:Nat}{l:Bool}{s:AV}:qii h esz (.sl b o len c l) s k↔qbq h esz s (fun n new=>evN (min n len) (fun m=>evN (m*esz) (fun z=>qei new 0 z (fun cs=>stK h b o cs (fun h'=>evA (.i .i64 (m:Int)) (fun v=>k v h')))))):=by
 show qbq h esz s (fun n new=>qn (min n len) (fun m=>qbd (Nat.mul m esz) new (fun cs=>stK h b o cs (fun h'=>k (.i .i64 (Int.ofNat m)) h'))))↔_
 simp only[xe];refine iff_of_eq (congrArg _ (funext fun n=>funext fun new=>congrArg _ (funext fun m=>propext ?_)))
 exact (qS _ _ _).trans ⟨fun hh=>⟨Nat.zero_le _,by simpa[evA] using hh⟩,fun hh=>by simpa[evN,qei,evA] using hh⟩
theorem qAL{x y:O}:opK qv (.min x y) t h k↔evK t x (fun x=>evK t y (fun y=>unI x (fun q n=>unI y (fun _ m=>evA (.i q (if m<n then m else n)) (fun v=>k v h))))):=by
 have e:∀(q:IntKind) (n m:Int),(Bool.rec (motive:=fun _=>Prop) (k (.i q n) h) (k (.i q m) h) (ltI m n):Prop)=evA (.i q (if m<n then m else n)) (fun v=>k v h):=by
  intro q n m;rw[qcn]
  by_cases hlt:m<n
  ·rw[decide_eq_true hlt,if_pos hlt];rfl
  ·rw[decide_eq_false hlt,if_neg hlt];rfl
 show evK t x (fun x=>evK t y (fun y=>unI x (fun q n=>unI y (fun _ m=>Bool.rec (motive:=fun _=>Prop) (k (.i q n) h) (k (.i q m) h) (ltI m n)))))↔_
 simp only[e]
theorem qAK{x y:O}:opK qv (.max x y) t h k↔evK t x (fun x=>evK t y (fun y=>unI x (fun q n=>unI y (fun _ m=>evA (.i q (if n<m then m else n)) (fun v=>k v h))))):=by
 have e:∀(q:IntKind) (n m:Int),(Bool.rec (motive:=fun _=>Prop) (k (.i q n) h) (k (.i q m) h) (ltI n m):Prop)=evA (.i q (if n<m then m else n)) (fun v=>k v h):=by
  intro q n m;rw[qcn]
  by_cases hlt:n<m
  ·rw[decide_eq_true hlt,if_pos hlt];rfl
  ·rw[decide_eq_false hlt,if_neg hlt];rfl
 show evK t x (fun x=>evK t y (fun y=>unI x (fun q n=>unI y (fun _ m=>Bool.rec (motive:=fun _=>Prop) (k (.i q n) h) (k (.i q m) h) (ltI n m)))))↔_
 simp only[e]
def qnW(z:List AV)(x:AV)(h:Hp)(k:AV->Hp->Prop):Prop:=match x with
  | .nils=>k (.tup []) h
  | .sl b o n _ _=>if n=0 then k (.tup []) h else evL (List.replicate n z).flatten (fun cs=>stK h b o cs (fun h'=>k (.tup []) h'))
  | _=>False
@[congr] theorem qzf {z:List AV} {x:AV} {mk:Prop} (_:qV=mk):qnW z x h k=qnW z x h k:=rfl
theorem qr9{z:List AV}:qnW z .nils h k↔k (.tup []) h:=Iff.rfl
theorem qzg{z:List AV}{b o n c:Nat}{l:Bool}:qnW z (.sl b o n c l) h k↔if n=0 then k (.tup []) h else evL (List.replicate n z).flatten (fun cs=>stK h b o cs (fun h'=>k (.tup []) h')):=Iff.rfl
theorem qtO{z:List AV}{x:O}:opK qv (.clear z x) t h k↔evK t x (fun x=>qnW z x h k):=by
 show evK t x (fun x=>_)↔_
 refine iff_of_eq (congrArg _ (funext fun v=>?_))
 cases v<;>first|rfl|skip
 rename_i b o n c l;cases n with
 | zero=>simp only[qnW,if_true];rfl
 | succ n=>simp only[qnW,jk];rfl
theorem qAN:opK qv .mkM t h k↔xn h (.map []) (fun b h'=>k (.map b) h'):=Iff.rfl
theorem qqR{n:Nat}{x v:O}{ps:List Nat}:opK qv (.storeD n x v ps) t h k↔evK t x (fun p=>unP p (fun b o=>xg t b ps (evK t v (fun v=>stV h b o v n (fun h'=>k .undef h'))))):=Iff.rfl
theorem qwK{esz bytes:Nat}{s x:O}{ps:List Nat}:opK qv (.appD esz bytes s x ps) t h k↔evK t s (fun s=>evK t x (fun x=>qa4 t ps s (qeR h esz bytes true s x k))):=Iff.rfl
@[congr] theorem qxm {ps:List Nat} {s s':AV} {p:Prop} {mk:Prop} (_:qV=mk) (h':s=s'):qa4 t ps s p=qa4 t ps s' p:=by rw[h']
theorem qxn{ps:List Nat}{b m:Nat}{p:Prop}:qa4 t ps (.own b m) p↔xg t b ps p:=Iff.rfl
theorem qBd{ps:List Nat}{b o m c:Nat}{l:Bool}{p:Prop}:qa4 t ps (.sl b o m c l) p↔xg t b ps p:=Iff.rfl
theorem qBc{ps:List Nat}{m:Nat}{cs:List AV}{p:Prop}:qa4 t ps (.fz m cs) p↔p:=Iff.rfl
theorem qus{ps:List Nat}{p:Prop}:qa4 t ps .nils p↔p:=Iff.rfl
theorem qBb{ps:List Nat}{p:Prop}:qa4 t ps .e0 p↔p:=Iff.rfl
@[congr] theorem quY {b:Nat} {ps:List Nat} {p:Prop} {mk:Prop} (_:qV=mk):xg t b ps p=xg t b ps p:=rfl
theorem qpR{b:Nat}{p:Prop}:xg t b [] p↔p:=Iff.rfl
def neK(b:Nat)(y:AV)(p:Prop):Prop:=match y with | .ptr b' _=>ifK (¬b'=b) p | .pf _ _=>p|_=>False
@[congr] theorem qCc {b:Nat} {y:AV} {p:Prop} {mk:Prop} (_:qV=mk):neK b y p=neK b y p:=rfl
theorem qAb{b b' o:Nat}{p:Prop}:neK b (.ptr b' o) p↔ifK (¬b'=b) p:=Iff.rfl
theorem qDA{b o:Nat}{cs:List AV}{p:Prop}:neK b (.pf cs o) p↔p:=Iff.rfl
theorem qnM{b q:Nat}{ps:List Nat}{p:Prop}:xg t b (q::ps) p↔evO (t.get q) (fun y=>neK b y (xg t b ps p)):=by
 refine (Tr.getK_iff _ _ _).trans (iff_of_eq (congrArg _ (funext fun v=>?_)))
 refine congrArg _ ?_;cases v<;>first|rfl|skip
 rename_i b' o;refine propext ((qa _ _).trans ?_);show _∧_↔_∧_
 have:(!Nat.beq b' b)=true↔¬b'=b:=by
  rw[Bool.not_eq_true',← Bool.not_eq_true,qeg]
 rw[this];exact Iff.rfl
def cpK(x:AV)(k:AV->Prop):Prop:=match x with
  | .nils=>k (.i .i64 0)
  | .e0=>k (.i .i64 0)
  | .sl _ _ _ c false=>evA (.i .i64 (c:Int)) k
  | _=>False
@[congr] theorem qBP {x:AV} {k:AV->Prop} {mk:Prop} (_:qV=mk):cpK x k=cpK x k:=rfl
theorem qAD{x:O}:opK qv (.cap x) t h k↔evK t x (fun x=>cpK x (fun v=>k v h)):=by
 show evK t x (fun x=>_)↔_
 refine iff_of_eq (congrArg _ (funext fun v=>?_))
 cases v<;>first|rfl|skip
 rename_i l;cases l<;>rfl
theorem qvC{k:AV->Prop}:cpK .nils k↔k (.i .i64 0):=Iff.rfl
theorem qCZ{k:AV->Prop}:cpK .e0 k↔k (.i .i64 0):=Iff.rfl
theorem qC0{b o n c:Nat}{k:AV->Prop}:cpK (.sl b o n c false) k↔evA (.i .i64 (c:Int)) k:=Iff.rfl
theorem qsx{l:List AV}{k:List AV->Prop}:qah t [] l k↔k l:=Iff.rfl
theorem qqg{off m:Nat}{x:O}{ps:List (Nat×Nat×O)}{l:List AV}{k:List AV->Prop}:qah t ((off,m,x)::ps) l k↔evK t x (fun v=>ifK (qch v=true) (evL (cellsOf v) (fun cs=>ifK (cs.length=m∧off+cs.length<=l.length) (evL (l.take off++(cs++l.drop (off+cs.length))) (fun l=>qah t ps l k))))):=by
 show evK t x (fun v=>qh (qch v) (qn off (fun off=>qf0 (cellsOf v) (fun n=>qh (Nat.beq n m) (xA (cellsOf v) off l (fun l'=>qah t ps l' k))))))↔_
 simp only[qa,qq,xS,xB,qeg,ifK,evL,and_assoc]
theorem quw{esz:Nat}{k:Nat->List AV->Prop}:qbq h esz .nils k↔k 0 []:=Iff.rfl
theorem qBp{esz:Nat}{k:Nat->List AV->Prop}:qbq h esz .nz k↔k 0 []:=Iff.rfl
theorem qBn{esz:Nat}{k:Nat->List AV->Prop}:qbq h esz .e0 k↔k 0 []:=Iff.rfl
theorem qBq{esz b o n c:Nat}{l:Bool}{k:Nat->List AV->Prop}:qbq h esz (.sl b o n c l) k↔evN (n*esz) (fun m=>qbA h b o m (fun cs=>k n cs)):=Iff.rfl
theorem qxx{esz b n:Nat}{k:Nat->List AV->Prop}:qbq h esz (.own b n) k↔evN (n*esz) (fun m=>qbA h b 0 m (fun cs=>k n cs)):=Iff.rfl
theorem qBo{esz n:Nat}{cs:List AV}{k:Nat->List AV->Prop}:qbq h esz (.fz n cs) k↔evN (n*esz) (fun m=>qei cs 0 m (fun cs=>k n cs)):=by
 refine (qS _ _ _).trans ⟨fun hh=>⟨Nat.zero_le _,by simpa using hh⟩,fun hh=>by simpa[evN,qei] using hh⟩
theorem qDY{esz:Nat}{a:List UInt8}{k:Nat->List AV->Prop}:qbq h esz (.s a) k↔ifK (esz=1) (k a.length (a.map fun c=>.i .u8 (Int.ofNat c.toNat))):=by
 show qh (Nat.beq esz 1) (qn a.length _)↔_;rw[qa,qeg,qq];exact Iff.rfl
theorem qru{esz bytes:Nat}{c:Bool}{x:AV}:qeR h esz bytes c .nils x k↔qbq h esz x (fun n new=>ifK (n<=qg) (ifK (n*bytes<=qg) (xn h (.cells esz true true new) (fun b h'=>k (.own b n) h')))):=by
 show qbq h esz x (fun n new=>qh (Nat.ble n qg) (qh (Nat.ble (Nat.mul n bytes) qg) _))↔_
 simp only[qa,xw];exact Iff.rfl
theorem qyL{esz bytes:Nat}{c:Bool}{x:AV}:qeR h esz bytes c .e0 x k↔qbq h esz x (fun n new=>ifK (n<=qg) (ifK (n*bytes<=qg) (xn h (.cells esz true true new) (fun b h'=>k (.own b n) h')))):=by
 show qbq h esz x (fun n new=>qh (Nat.ble n qg) (qh (Nat.ble (Nat.mul n bytes) qg) _))↔_
 simp only[qa,xw];exact Iff.rfl
theorem qu0{esz bytes b m:Nat}{x:AV}:qeR h esz bytes true (.own b m) x k↔qbq h esz x (fun n new=>evN (m+n) (fun need=>ifK (need<=qg) (ifK (need*bytes<=qg) (evB (h.tr.get b) (fun y=>qaT y (fun e w a ys =>
  ifK (qA new=true∧w=true∧a=true∧e=esz∧ys.length=m*esz) (evL (ys++new) (fun cs'=>qas h b .dead (fun h1=>xn h1 (.cells esz true true cs') (fun b' h'=>k (.own b' need) h')))))))))):=by
 show qbq h esz x (fun n new=>qn (Nat.add m n) (fun need=>qh (Nat.ble need qg) (qh (Nat.ble (Nat.mul need bytes) qg) (qal h b (fun e w a ys=>_)))))↔_
 simp only[xe,qa,xw,qeg,qfF,xS,xO];refine iff_of_eq (congrArg _ (funext fun n=>funext fun new=>?_))
 simp only[ifK,evN,evL,and_assoc];rfl
theorem qyN{esz bytes b o len cap:Nat}{c:Bool}{x:AV}:qeR h esz bytes c (.sl b o len cap false) x k↔qbq h esz x (fun n new=>evN (len+n) (fun need=>if need<=cap then
  (if n=0 then k (.sl b o need cap false) h else evN (o+len*esz) (fun at_=>stK h b at_ new (fun h'=>k (.sl b o need cap false) h')))
  else ifK (need<=qg) (ifK (need*bytes<=qg) (evN (len*esz) (fun m=>qbA h b o m (fun old=>evL (old++new) (fun cs=>xn h (.cells esz true true cs) (fun b' h'=>k (.own b' need) h')))))))):=by
 have e:∀(n:Nat) (p q:Prop),(Nat.rec (motive:=fun _=>Prop) p (fun _ _=>q) n:Prop)↔if n=0 then p else q:=by
  intro n p q;cases n with
  | zero=>rw[if_pos rfl];exact Iff.rfl
  | succ n=>rw[if_neg (Nat.succ_ne_zero n)]
 unfold qeR;dsimp only;simp only[Bool.not_false,xe,qpE,xw,qdG,xO,e,qmZ];exact Iff.rfl
theorem qyM{esz bytes m:Nat}{c:Bool}{cs:List AV}{x:AV}:qeR h esz bytes c (.fz m cs) x k↔qbq h esz x (fun n _=>ifK (n=0) (k (.fz m cs) h)):=by
 show qbq h esz x (fun n _=>Nat.rec (motive:=fun _=>Prop) (k (.fz m cs) h) (fun _ _=>False) n)↔_
 refine iff_of_eq (congrArg _ (funext fun n=>funext fun new=>?_))
 cases n<;>simp[ifK];rfl
theorem qtA{k:Bool->Prop}:xr .ptr .nilp k↔k true:=Iff.rfl
theorem qww{b o:Nat}{k:Bool->Prop}:xr .ptr (.ptr b o) k↔k false:=Iff.rfl
theorem qAi{cs:List AV}{o:Nat}{k:Bool->Prop}:xr .ptr (.pf cs o) k↔k false:=Iff.rfl
theorem qAh{k:Bool->Prop}:xr .slice .nz k↔k false:=Iff.rfl
theorem qtB{k:Bool->Prop}:xr .slice .nils k↔k true:=Iff.rfl
theorem qAj{b o n c:Nat}{l:Bool}{k:Bool->Prop}:xr .slice (.sl b o n c l) k↔k false:=Iff.rfl
theorem qAg{n:Nat}{cs:List AV}{k:Bool->Prop}:xr .slice (.fz n cs) k↔ifK (1<=n) (k false):=by
 show qh (Nat.ble 1 n) (k false)↔_;rw[qa,xw];exact Iff.rfl
theorem qwv{b n:Nat}{k:Bool->Prop}:xr .slice (.own b n) k↔ifK (1<=n) (k false):=by
 show qh (Nat.ble 1 n) (k false)↔_;rw[qa,xw];exact Iff.rfl
theorem qty{k:Bool->Prop}:xr .func .nilf k↔k true:=Iff.rfl
theorem qAf{f:Nat}{a c:List AV}{k:Bool->Prop}:xr .func (.fn f a c) k↔k false:=Iff.rfl
theorem qtz{k:Bool->Prop}:xr .iface .nili k↔k true:=Iff.rfl
theorem qwu{t:Nat}{v:AV}{k:Bool->Prop}:xr .iface (.ifc t v) k↔k false:=Iff.rfl
theorem qvG{x y:List AV}{k:Bool->Prop}:xP [] x y k↔k true:=Iff.rfl
theorem qso{q:PK}{qs:List PK}{u v:AV}{us vs:List AV}{k:Bool->Prop}:xP (q::qs) (u::us) (v::vs) k↔xY q u v (fun e=>if e=true then xP qs us vs k else k false):=by
 show xY q u v (fun e=>Bool.rec (motive:=fun _=>Prop) (k false) (xP qs us vs k) e)↔_
 simp only[qdG]
@[congr] theorem quS {q:PK} {x y:AV} {k:Bool->Prop} {mk:Prop} (_:qV=mk):xY q x y k=xY q x y k:=rfl
theorem qEG{q:IntKind}{n m:Int}{k:Bool->Prop}:xY .i (.i q n) (.i q m) k↔evT (decide (n=m)) k:=by
 show qh (decide (q=q)) (qJ (eqI n m) k)↔_;rw[qa,qjn,qx];simp[evT]
theorem qEH{a c:List UInt8}{k:Bool->Prop}:xY .s (.s a) (.s c) k↔evT (decide (a=c)) k:=by
 show qJ (eqS a c) k↔_;rw[qx,qbJ,show (a==c)=decide (a=c) from by rw[Bool.eq_iff_iff];simp];exact Iff.rfl
theorem qEF{a c:Bool}{k:Bool->Prop}:xY .b (.b a) (.b c) k↔evT (a==c) k:=by
 show qJ (a==c) k↔_;rw[qx];exact Iff.rfl
theorem qsk{rs:List RV}{k:AV->Hp->Prop}:qby rs k .ret t h↔qaM t h rs (fun vs=>k (qar vs) h):=Iff.rfl
theorem qmD{rs:List RV}{k:AV->Hp->Prop}:qby rs k .normal t h↔qaM t h rs (fun vs=>k (qar vs) h):=Iff.rfl
@[congr] theorem qA5 {rs:List RV} {k:List AV->Prop} {mk:Prop} (_:qV=mk):qaM t h rs k=qaM t h rs k:=rfl
theorem qxi{k:List AV->Prop}:qaM t h [] k↔k []:=Iff.rfl
theorem qxj{n:Nat}{rs:List RV}{k:List AV->Prop}:qaM t h (.tmp n::rs) k↔evO (t.get n) (fun v=>qaM t h rs (fun vs=>k (v::vs))):=Tr.getK_iff _ _ _
theorem quj{n size:Nat}{agg:Bool}{rs:List RV}{k:List AV->Prop}:qaM t h (.cell n size agg::rs) k↔evO (t.get n) (fun v=>unP v (fun b o=>if agg=true then qbA h b o size (fun cs=>qaM t h rs (fun vs=>k (.agg cs::vs))) else ldK h b o (fun v=>qaM t h rs (fun vs=>k (v::vs))))):=by
 refine (Tr.getK_iff _ _ _).trans (iff_of_eq (congrArg _ (funext fun v=>congrArg _ ?_)))
 cases v<;>first|rfl|skip
 cases agg<;>rfl
end Go.Kc
end
section
namespace Go.Kc
variable {P:Program} {n:Nat} {t:Tr AV} {h:Hp} {k:AV->Hp->Prop}

section
variable {r:Nat->Nat} {m:Nat} {v v':AV} {vs vs':List AV}
theorem qtG:NV r m v .undef↔True:=iff_true_intro (.undef _)
theorem qEZ{x y:Bool}:NV r m (.b x) (.b y)↔x=y:=⟨fun h=>by cases h;rfl,fun h=>by subst h;exact .clo _ rfl⟩
theorem qE0{q q':IntKind}{x y:Int}:NV r m (.i q x) (.i q' y)↔q=q'∧x=y:=⟨fun h=>by cases h;exact⟨rfl,rfl⟩,fun⟨h,h'⟩=>by subst h h';exact .clo _ rfl⟩
theorem qE1{x y:List UInt8}:NV r m (.s x) (.s y)↔x=y:=⟨fun h=>by cases h;rfl,fun h=>by subst h;exact .clo _ rfl⟩
theorem qwD:NV r m .nilp .nilp↔True:=iff_true_intro (.clo _ rfl)
theorem qwE:NV r m .nils .nils↔True:=iff_true_intro (.clo _ rfl)
theorem qwA:NV r m .nilf .nilf↔True:=iff_true_intro (.clo _ rfl)
theorem qwB:NV r m .nili .nili↔True:=iff_true_intro (.clo _ rfl)
theorem qwC:NV r m .nilm .nilm↔True:=iff_true_intro (.clo _ rfl)
theorem qDE:NV r m .e0 .e0↔True:=iff_true_intro (.clo _ rfl)
theorem qDH:NV r m .nz .nz↔True:=iff_true_intro (.clo _ rfl)
theorem qAp{x:Nat}{cs:List AV}:NV r m .e0 (.fz x cs)↔x=0∧cs=[]:=⟨fun h=>by cases h;exact⟨rfl,rfl⟩,fun⟨h,h'⟩=>by subst h h';exact .e0z⟩
theorem qtF{b' x':Nat}:NV r m .e0 (.own b' x')↔b'<m∧x'=0:=⟨fun h=>by
  cases h with
  | e0own _ h1=>exact⟨h1,rfl⟩,fun⟨h1,h2⟩=>by subst h2;exact .e0own _ h1⟩
theorem qAu{b b' o x c x':Nat}{l:Bool}:NV r m (.sl b o x c l) (.own b' x')↔b'<m∧x=0∧c=0∧l=false∧x'=0:=⟨fun h=>by
  cases h with
  | slz _ _ _ h1=>exact⟨h1,rfl,rfl,rfl,rfl⟩,fun⟨h1,h2,h3,h4,h5⟩=>by subst h2 h3 h4 h5;exact .slz _ _ _ h1⟩
theorem qDG{x y:Nat}{cs ds:List AV}:NV r m (.fz x cs) (.fz y ds)↔x=y∧cs=ds:=⟨fun h=>by cases h;exact⟨rfl,rfl⟩,fun⟨h,h'⟩=>by subst h h';exact .clo _ rfl⟩
theorem qDI{x y:Nat}{cs ds:List AV}:NV r m (.pf cs x) (.pf ds y)↔cs=ds∧x=y:=⟨fun h=>by cases h;exact⟨rfl,rfl⟩,fun⟨h,h'⟩=>by subst h h';exact .clo _ rfl⟩
theorem qwF{x:Nat}{cs:List AV}:NV r m .nils (.fz x cs)↔x=0∧cs=[]:=⟨fun h=>by cases h;exact⟨rfl,rfl⟩,fun⟨h,h'⟩=>by subst h h';exact .nilz⟩
theorem qAt{b b' o o':Nat}:NV r m (.ptr b o) (.ptr b' o')↔r b'=b∧b'<m∧o=o':=⟨fun h=>by
  cases h with
  | clo _ hc=>cases hc
  | ptr _ _ _ h1 h2=>exact⟨h1,h2,rfl⟩,fun⟨h1,h2,h3⟩=>by subst h3;exact .ptr _ _ _ h1 h2⟩
theorem qDJ{b b' o o' x x' c c':Nat}{l l':Bool}:NV r m (.sl b o x c l) (.sl b' o' x' c' l')↔r b'=b∧b'<m∧o=o'∧x=x'∧c=c'∧l=l':=⟨fun h=>by
  cases h with
  | clo _ hc=>cases hc
  | sl _ _ _ _ _ _ h1 h2=>exact⟨h1,h2,rfl,rfl,rfl,rfl⟩,fun⟨h1,h2,h3,h4,h5,h6⟩=>by subst h3 h4 h5 h6;exact .sl _ _ _ _ _ _ h1 h2⟩
theorem qAs{b b' x x':Nat}:NV r m (.own b x) (.own b' x')↔r b'=b∧b'<m∧x=x':=⟨fun h=>by
  cases h with
  | clo _ hc=>cases hc
  | own _ _ _ h1 h2=>exact⟨h1,h2,rfl⟩,fun⟨h1,h2,h3⟩=>by subst h3;exact .own _ _ _ h1 h2⟩
theorem qqK{b' x':Nat}:NV r m .nils (.own b' x')↔b'<m∧x'=0:=⟨fun h=>by
  cases h with
  | nilown _ h1=>exact⟨h1,rfl⟩,fun⟨h1,h2⟩=>by subst h2;exact .nilown _ h1⟩
theorem qAr{b b':Nat}:NV r m (.map b) (.map b')↔r b'=b∧b'<m:=⟨fun h=>by
  cases h with
  | clo _ hc=>cases hc
  | map _ _ h1 h2=>exact⟨h1,h2⟩,fun⟨h1,h2⟩=>.map _ _ h1 h2⟩
theorem qDK{b b':Nat}:NV r m (.yl b) (.yl b')↔r b'=b∧b'<m:=⟨fun h=>by
  cases h with
  | clo _ hc=>cases hc
  | yl _ _ h1 h2=>exact⟨h1,h2⟩,fun⟨h1,h2⟩=>.yl _ _ h1 h2⟩
theorem qwG:NVs r m [] []↔True:=iff_true_intro .nil
theorem qtH:NVs r m (v::vs) (v'::vs')↔NV r m v v'∧NVs r m vs vs':=⟨fun h=>by
  cases h with
  | cons _ _ _ _ h1 h2=>exact⟨h1,h2⟩,fun h=>.cons _ _ _ _ h.1 h.2⟩
theorem qAo{cs cs':List AV}:NV r m (.agg cs) (.agg cs')↔NVs r m cs cs':=⟨fun h=>by
  cases h with
  | clo _ hc=>exact NVs.refl (by simpa[clo] using hc)
  | agg _ _ h1=>exact h1,fun h=>.agg _ _ h⟩
theorem qAv{cs cs':List AV}:NV r m (.tup cs) (.tup cs')↔NVs r m cs cs':=⟨fun h=>by
  cases h with
  | clo _ hc=>exact NVs.refl (by simpa[clo] using hc)
  | tup _ _ h1=>exact h1,fun h=>.tup _ _ h⟩
theorem qDF{f f':Nat}{a a' c c':List AV}:NV r m (.fn f a c) (.fn f' a' c')↔f=f'∧NVs r m a a'∧NVs r m c c':=⟨fun h=>by
  cases h with
  | clo _ hc =>
   simp only[clo,Bool.and_eq_true] at hc;exact⟨rfl,NVs.refl hc.1,NVs.refl hc.2⟩
  | fn _ _ _ _ _ h1 h2=>exact⟨rfl,h1,h2⟩,fun⟨h1,h2,h3⟩=>by subst h1;exact .fn _ _ _ _ _ h2 h3⟩
theorem qAq{f f':Nat}:NV r m (.ifc f v) (.ifc f' v')↔f=f'∧NV r m v v':=⟨fun h=>by
  cases h with
  | clo _ hc=>exact⟨rfl,.clo _ (by simpa[clo] using hc)⟩
  | ifc _ _ _ h1=>exact⟨rfl,h1⟩,fun⟨h1,h2⟩=>by subst h1;exact .ifc _ _ _ h2⟩
theorem qxL:TWs t r m []↔True:=Iff.rfl
theorem quM{p:Nat×AV}{l:List (Nat×AV)}:TWs t r m (p::l)↔evO (t.get p.1) (fun v=>NV r m v p.2)∧TWs t r m l:=Iff.rfl
theorem qvk:BWs h r m [] []↔True:=Iff.rfl
theorem qrK{b:Nat}{x:Blk}{bs:List Nat}{xs:List Blk}:BWs h r m (b::bs) (x::xs)↔BW h r m b x∧BWs h r m bs xs:=Iff.rfl
theorem qy0{b:Nat}{x:Blk}(hb:h.sz<=b):BW h r m b x↔True:=iff_true_intro (.inl hb)
theorem qvj{b:Nat}:BW h r m b .dead↔True:=iff_true_intro (.inr (.inl rfl))
theorem qy1{b e:Nat}{w a:Bool}{cs':List AV}(hb:b<h.sz):BW h r m b (.cells e w a cs')↔evB (h.tr.get b) (fun x=>qaT x (fun e0 w0 a0 cs=>e0=e∧(w=true->w0=true)∧(a=true->a0=true)∧NVs r m cs cs')):=by
 constructor
 ·rintro (h1|h1|⟨e',w0,a0,cs,w',a',cs'',h1,h2,h3,h4,h5⟩|⟨es,es',h1,h2,h3⟩)
  ·omega
  ·cases h1
  ·cases h2;exact⟨_,h1,rfl,h3,h4,h5⟩
  ·cases h2
 ·rintro⟨x,h1,h2⟩;cases x with
  | cells e0 w0 a0 cs =>
   obtain⟨rfl,h3,h4,h5⟩:=h2;exact .inr (.inr (.inl ⟨_,w0,a0,cs,w,a,cs',h1,rfl,h3,h4,h5⟩))
  | dead=>exact h2.elim
  | map es=>exact h2.elim
end
theorem qFr{b d:Nat}{l:List Nat}:rl (b::l) d 0=b:=rfl
theorem qFs{b d i:Nat}{l:List Nat}:rl (b::l) d (i+1)=rl l d i:=rfl

section
variable {v v':AV} {vs vs':List AV}
theorem qsI:Frz h v .undef↔True:=iff_true_intro (.undef _)
theorem qEN{x y:Bool}:Frz h (.b x) (.b y)↔x=y:=⟨fun h=>by cases h;rfl,fun h=>by subst h;exact .b _⟩
theorem qC9{q q':IntKind}{x y:Int}:Frz h (.i q x) (.i q' y)↔q=q'∧x=y:=⟨fun h=>by cases h;exact⟨rfl,rfl⟩,fun⟨h,h'⟩=>by subst h h';exact .i _ _⟩
theorem qEO{x y:List UInt8}:Frz h (.s x) (.s y)↔x=y:=⟨fun h=>by cases h;rfl,fun h=>by subst h;exact .s _⟩
theorem qvX:Frz h .nilp .nilp↔True:=iff_true_intro .nilp
theorem qvY:Frz h .nils .nils↔True:=iff_true_intro .nils
theorem qvU:Frz h .nilf .nilf↔True:=iff_true_intro .nilf
theorem qvV:Frz h .nili .nili↔True:=iff_true_intro .nili
theorem qvW:Frz h .nilm .nilm↔True:=iff_true_intro .nilm
theorem qC7:Frz h .e0 .e0↔True:=iff_true_intro .e0
theorem qDa:Frz h .nz .nz↔True:=iff_true_intro .nz
theorem qzH{x:Nat}{cs:List AV}:Frz h .e0 (.fz x cs)↔x=0∧cs=[]:=⟨fun h=>by cases h;exact⟨rfl,rfl⟩,fun⟨h,h'⟩=>by subst h h';exact .e0z⟩
theorem qC8{x y:Nat}{cs ds:List AV}:Frz h (.fz x cs) (.fz y ds)↔x=y∧cs=ds:=⟨fun h=>by cases h;exact⟨rfl,rfl⟩,fun⟨h,h'⟩=>by subst h h';exact .fz _ _⟩
theorem qDb{x y:Nat}{cs ds:List AV}:Frz h (.pf cs x) (.pf ds y)↔cs=ds∧x=y:=⟨fun h=>by cases h;exact⟨rfl,rfl⟩,fun⟨h,h'⟩=>by subst h h';exact .pf _ _⟩
theorem qvZ{x:Nat}{cs:List AV}:Frz h .nils (.fz x cs)↔x=0∧cs=[]:=⟨fun h=>by cases h;exact⟨rfl,rfl⟩,fun⟨h,h'⟩=>by subst h h';exact .nilz⟩
theorem qem:Frzs h [] []↔True:=iff_true_intro .nil
theorem qaO:Frzs h (v::vs) (v'::vs')↔Frz h v v'∧Frzs h vs vs':=⟨fun h=>by
  cases h with
  | cons _ _ _ _ h1 h2=>exact⟨h1,h2⟩,fun h=>.cons _ _ _ _ h.1 h.2⟩
theorem qzG{cs cs':List AV}:Frz h (.agg cs) (.agg cs')↔Frzs h cs cs':=⟨fun h=>by cases h;assumption,fun h=>.agg _ _ h⟩
theorem qzJ{cs cs':List AV}:Frz h (.tup cs) (.tup cs')↔Frzs h cs cs':=⟨fun h=>by cases h;assumption,fun h=>.tup _ _ h⟩
theorem qsJ{f f':Nat}{a a' c c':List AV}:Frz h (.fn f a c) (.fn f' a' c')↔f=f'∧Frzs h a a'∧Frzs h c c':=⟨fun h=>by
  cases h with
  | fn _ _ _ _ _ h1 h2=>exact⟨rfl,h1,h2⟩,fun⟨h1,h2,h3⟩=>by subst h1;exact .fn _ _ _ _ _ h2 h3⟩
theorem qzI{f f':Nat}:Frz h (.ifc f v) (.ifc f' v')↔f=f'∧Frz h v v':=⟨fun h=>by
  cases h with
  | ifc _ _ _ h1=>exact⟨rfl,h1⟩,fun⟨h1,h2⟩=>by subst h1;exact .ifc _ _ _ h2⟩
theorem qsG{b x y:Nat}{cs':List AV}:Frz h (.own b x) (.fz y cs')↔x=y∧evB (h.tr.get b) (fun z=>qaT z (fun _ w _ ys=>w=true∧(x=0->ys=[])∧Frzs h ys cs')):=by
 constructor
 ·intro hh;cases hh with
  | own _ _ e af ys _ hb h0 h1=>exact⟨rfl,_,hb,rfl,h0,h1⟩
 ·rintro⟨rfl,z,h1,h2⟩;cases z with
  | cells e w af ys =>
   obtain⟨rfl,h3,h4⟩:=h2;exact .own _ _ e af ys _ h1 h3 h4
  | dead=>exact h2.elim
  | map es=>exact h2.elim
theorem qsH{b x y:Nat}{cs':List AV}:Frz h (.ptr b x) (.pf cs' y)↔x=y∧evB (h.tr.get b) (fun z=>qaT z (fun _ w _ ys=>w=true∧Frzs h ys cs')):=by
 constructor
 ·intro hh;cases hh with
  | ptr _ _ e af ys _ hb h1=>exact⟨rfl,_,hb,rfl,h1⟩
 ·rintro⟨rfl,z,h1,h2⟩;cases z with
  | cells e w af ys =>
   obtain⟨rfl,h4⟩:=h2;exact .ptr _ _ e af ys _ h1 h4
  | dead=>exact h2.elim
  | map es=>exact h2.elim
theorem Frz.cut{b o x c:Nat}{l:Bool}{y:Nat}{cs':List AV}(esz:Nat)(hx:x=y)(hc:x<=c)(hg:evB (h.tr.get b) (fun z=>qaT z (fun _ w _ cs=>w=true∧o+x*esz<=cs.length∧Frzs h ((cs.drop o).take (x*esz)) cs'))):Frz h (.sl b o x c l) (.fz y cs'):=by
 subst hx;obtain⟨z,h1,h2⟩:=hg;cases z with
 | cells e w af cs =>
  obtain⟨rfl,h3,h4⟩:=h2;exact .sl _ _ _ _ _ e af cs (x*esz) _ h1 hc h3 (fun hh=>by rw[hh] at hc;simp[Nat.le_zero.1 hc]) h4
 | dead=>exact h2.elim
 | map es=>exact h2.elim
end
mutual
theorem Frz.self:∀{v:AV},clo v=true->Frz h v v
 | .undef,_=>.undef _
 | .b _,_=>.b _
 | .i _ _,_=>.i _ _
 | .s _,_=>.s _
 | .nilp,_=>.nilp
 | .ptr _ _,hc=>by simp[clo] at hc
 | .nils,_=>.nils
 | .sl _ _ _ _ _,hc=>by simp[clo] at hc
 | .nilf,_=>.nilf
 | .fn _ _ _,hc=>by
  simp only[clo,Bool.and_eq_true] at hc;exact .fn _ _ _ _ _ (Frzs.self hc.1) (Frzs.self hc.2)
 | .nili,_=>.nili
 | .ifc _ _,hc=>.ifc _ _ _ (Frz.self (by simpa[clo] using hc))
 | .agg _,hc=>.agg _ _ (Frzs.self (by simpa[clo] using hc))
 | .tup _,hc=>.tup _ _ (Frzs.self (by simpa[clo] using hc))
 | .nilm,_=>.nilm
 | .map _,hc=>by simp[clo] at hc
 | .fz _ _,_=>.fz _ _
 | .pf _ _,_=>.pf _ _
 | .e0,_=>.e0
 | .nz,_=>.nz
 | .own _ _,hc=>by simp[clo] at hc
 | .sym _,hc=>by simp[clo] at hc
 | .yl _,hc=>by simp[clo] at hc
 | .lp _,hc=>by simp[clo] at hc
theorem Frzs.self:∀{vs:List AV},qu vs=true->Frzs h vs vs
 | [],_=>.nil
 | v::vs,hc=>by
  simp only[qu,Bool.and_eq_true] at hc;exact .cons _ _ _ _ (Frz.self hc.1) (Frzs.self hc.2)
end

@[congr] theorem qzR {kd:Option IntKind} {i:AV} {p:Prop} {mk:Prop} (_:qV=mk):qiE qv kd i p=qiE qv kd i p:=rfl
@[congr] theorem qz4 {b:Nat} {k:List (AV×AV)->Prop} {mk:Prop} (_:qV=mk):qhk h b k=qhk h b k:=rfl
@[congr] theorem qwa {es:List (AV×AV)} {p:Prop} {mk:Prop} (_:qV=mk):qdz es p=qdz es p:=rfl
theorem qDn{a:List UInt8}{p:Prop}:qiE qv none (.s a) p↔p:=Iff.rfl
theorem qDm{q:IntKind}{z:Int}{p:Prop}:qiE qv (some q) (.i q z) p↔p:=by
 show qh (decide (q=q)) p↔p;rw[qa];simp
theorem qqq{p:Prop}:qdz [] p↔p:=Iff.rfl
theorem qwd{a:List UInt8}{v:AV}{es:List (AV×AV)}{p:Prop}:qdz ((.s a,v)::es) p↔p:=Iff.rfl
theorem qwc{q:IntKind}{z:Int}{v:AV}{es:List (AV×AV)}{p:Prop}:qdz ((.i q z,v)::es) p↔p:=Iff.rfl
def qne(x:Blk)(k:List (AV×AV)->Prop):Prop:=match x with | .map es=>k es|_=>False
@[congr] theorem qyc {x x':Blk} {k:List (AV×AV)->Prop} {mk:Prop} (_:qV=mk) (h:x=x'):qne x k=qne x' k:=by rw[h]
theorem qkW{es:List (AV×AV)}{k:List (AV×AV)->Prop}:qne (.map es) k↔k es:=Iff.rfl
theorem qDy{b:Nat}{k:List (AV×AV)->Prop}:qhk h b k↔evB (h.tr.get b) (fun x=>qne x (fun es=>qdz es (k es))):=by
 unfold qhk;refine (Tr.getK_iff _ _ _).trans (iff_of_eq (congrArg _ (funext fun x=>congrArg _ ?_)))
 cases x<;>rfl
theorem qmG{i:AV}{k:Option AV->Prop}:qb3 qv i [] k↔k none:=Iff.rfl
theorem qzB{i a:List UInt8}{v:AV}{es:List (AV×AV)}{k:Option AV->Prop}:qb3 qv (.s i) ((.s a,v)::es) k↔if i=a then k (some v) else qb3 qv (.s i) es k:=by
 show qJ (eqS i a) (fun r=>Bool.rec (motive:=fun _=>Prop) (qb3 qv (.s i) es k) (k (some v)) r)↔_
 rw[qx,qdG,qbJ];simp
theorem qsA{q:IntKind}{i a:Int}{v:AV}{es:List (AV×AV)}{k:Option AV->Prop}:qb3 qv (.i q i) ((.i q a,v)::es) k↔if i=a then k (some v) else qb3 qv (.i q i) es k:=by
 show qh (decide (q=q)) (qJ (eqI i a) (fun r=>Bool.rec (motive:=fun _=>Prop) (qb3 qv (.i q i) es k) (k (some v)) r))↔_
 rw[qa,qx,qdG,qjn];simp
theorem qpD{i v:AV}{k:List (AV×AV)->Prop}:qfy qv i v [] k↔k [(i,v)]:=Iff.rfl
theorem qEb{i a:List UInt8}{u v:AV}{es:List (AV×AV)}{k:List (AV×AV)->Prop}:qfy qv (.s i) u ((.s a,v)::es) k↔if i=a then k ((.s i,u)::es) else qfy qv (.s i) u es (fun l=>k ((.s a,v)::l)):=by
 show qJ (eqS i a) (fun r=>Bool.rec (motive:=fun _=>Prop) (qfy qv (.s i) u es (fun l=>k ((.s a,v)::l))) (k ((.s i,u)::es)) r)↔_
 rw[qx,qdG,qbJ];simp
theorem qyq{q:IntKind}{i a:Int}{u v:AV}{es:List (AV×AV)}{k:List (AV×AV)->Prop}:qfy qv (.i q i) u ((.i q a,v)::es) k↔if i=a then k ((.i q i,u)::es) else qfy qv (.i q i) u es (fun l=>k ((.i q a,v)::l)):=by
 show qh (decide (q=q)) (qJ (eqI i a) (fun r=>Bool.rec (motive:=fun _=>Prop) (qfy qv (.i q i) u es (fun l=>k ((.i q a,v)::l))) (k ((.i q i,u)::es)) r))↔_
 rw[qa,qx,qdG,qjn];simp
@[congr] theorem qyJ {ok:Bool} {z:AV} {v v':Option AV} {k:AV->Prop} {mk:Prop} (_:qV=mk) (h:v=v'):qfY ok z v k=qfY ok z v' k:=by rw[h]
theorem qrt{z:AV}{k:AV->Prop}:qfY false z none k↔k z:=Iff.rfl
theorem qpP{z:AV}{k:AV->Prop}:qfY true z none k↔k (.tup [z,.b false]):=Iff.rfl
theorem qmj{z v:AV}{k:AV->Prop}:qfY false z (some v) k↔k v:=Iff.rfl
theorem qpQ{z v:AV}{k:AV->Prop}:qfY true z (some v) k↔k (.tup [v,.b true]):=Iff.rfl
def lkK(h:Hp)(ok:Bool)(zero x i:AV)(k:AV->Prop):Prop:=match x with
  | .nilm=>qfY ok zero none k
  | .map r=>qhk h r (fun es=>qb3 qv i es (fun v=>qfY ok zero v k))
  | _=>False
@[congr] theorem qB7 {ok:Bool} {z x i:AV} {k:AV->Prop} {mk:Prop} (_:qV=mk):lkK h ok z x i k=lkK h ok z x i k:=rfl
theorem qz0{ok:Bool}{z i:AV}{k:AV->Prop}:lkK h ok z .nilm i k↔qfY ok z none k:=Iff.rfl
theorem qzZ{ok:Bool}{z i:AV}{r:Nat}{k:AV->Prop}:lkK h ok z (.map r) i k↔qhk h r (fun es=>qb3 qv i es (fun v=>qfY ok z v k)):=Iff.rfl
theorem qtU{kd:Option IntKind}{ok:Bool}{z:AV}{x i:O}:opK qv (.lookM kd ok z x i) t h k↔evK t x (fun x=>evK t i (fun i=>qiE qv kd i (lkK h ok z x i (fun v=>k v h)))):=Iff.rfl
def upK(h:Hp)(x i v:AV)(k:Hp->Prop):Prop:=match x with
  | .map r=>qhk h r (fun es=>qfy qv i v es (fun es'=>qas h r (.map es') k))
  | _=>False
@[congr] theorem qCo {x i v:AV} {k:Hp->Prop} {mk:Prop} (_:qV=mk):upK h x i v k=upK h x i v k:=rfl
theorem qBB{i v:AV}{r:Nat}{k:Hp->Prop}:upK h (.map r) i v k↔qhk h r (fun es=>qfy qv i v es (fun es'=>qas h r (.map es') k)):=Iff.rfl
theorem qwT{kd:Option IntKind}{x i v:O}:opK qv (.updM kd x i v) t h k↔evK t x (fun x=>evK t i (fun i=>evK t v (fun v=>qiE qv kd i (upK h x i v (fun h'=>k .undef h'))))):=Iff.rfl

theorem qkD:qA []=true:=rfl
theorem qgt{v:AV}{vs:List AV}:qA (v::vs)=(qX v&&qA vs):=by
 show (Bool.rec (motive:=fun _=>Bool) false (qA vs) (qX v):Bool)=_
 cases qX v<;>rfl
theorem qy9{x:Bool}:qX (.b x)=true:=rfl
theorem qza{q:IntKind}{x:Int}:qX (.i q x)=true:=rfl
theorem qzb{x:List UInt8}:qX (.s x)=true:=rfl
theorem qp3:qX .nilp=true:=rfl
theorem qr5{b o:Nat}:qX (.ptr b o)=true:=rfl
theorem qp4:qX .nils=true:=rfl
theorem qvw{b o x c:Nat}{l:Bool}:qX (.sl b o x c l)=true:=rfl
theorem qp0:qX .nilf=true:=rfl
theorem qvr{f:Nat}{a c:List AV}:qX (.fn f a c)=true:=rfl
theorem qp1:qX .nili=true:=rfl
theorem qr2{f:Nat}{v:AV}:qX (.ifc f v)=true:=rfl
theorem qp2:qX .nilm=true:=rfl
theorem qr3{b:Nat}:qX (.map b)=true:=rfl
theorem qvs{n:Nat}{cs:List AV}:qX (.fz n cs)=true:=rfl
theorem qvv{n:Nat}{cs:List AV}:qX (.pf cs n)=true:=rfl
theorem qvq:qX .e0=true:=rfl
theorem qvu:qX .nz=true:=rfl
theorem qr4{b n:Nat}:qX (.own b n)=true:=rfl
theorem qlu{a b:List AV}:qA (a++b)=(qA a&&qA b):=by
 induction a with
 | nil=>simp[qkD]
 | cons v a ih=>simp[qgt,ih,Bool.and_assoc]
theorem qp5{α:Type}{f:α->AV}{xs:List α}(h:∀x,qX (f x)=true):qA (xs.map f)=true:=by
 induction xs with
 | nil=>rfl
 | cons v a ih=>simp[qgt,ih,h]
theorem qjj{α:Type}{f:α->List AV}{xs:List α}(h:∀x,qA (f x)=true):qA (xs.flatMap f)=true:=by
 induction xs with
 | nil=>rfl
 | cons v a ih=>simp[List.flatMap_cons,qlu,ih,h]
theorem qih{a b:List AV}:qu (a++b)=(qu a&&qu b):=by
 induction a with
 | nil=>simp[qu]
 | cons v a ih=>simp[qu,ih,Bool.and_assoc]
theorem qe0{α:Type}{f:α->AV}{xs:List α}(h:∀x,clo (f x)=true):qu (xs.map f)=true:=by
 induction xs with
 | nil=>rfl
 | cons v a ih=>simp[qu,ih,h]
theorem qay{α:Type}{f:α->List AV}{xs:List α}(h:∀x,qu (f x)=true):qu (xs.flatMap f)=true:=by
 induction xs with
 | nil=>rfl
 | cons v a ih=>simp[List.flatMap_cons,qih,ih,h]
theorem zl{α:Type}{f:α->List AV}{m:Nat}(h:∀x,(f x).length=m)(xs:List α):(xs.flatMap f).length=xs.length*m:=by
 induction xs with
 | nil=>simp
 | cons v a ih=>simp[ih,h,Nat.add_mul,Nat.add_comm]
theorem qdX{α:Type}{f:α->List AV}{m:Nat}(h:∀x,(f x).length=m):∀(xs:List α) (j:Nat),(xs.flatMap f).drop (j*m)=(xs.drop j).flatMap f
 | [],j=>by simp
 | x::xs,0=>by simp
 | x::xs,j+1=>by
  simp only[List.flatMap_cons,List.drop_succ_cons];rw[Nat.add_mul,Nat.one_mul,Nat.add_comm,← List.drop_drop,List.drop_left' (h x)];exact qdX h xs j
theorem qfI{α:Type}{f:α->List AV}{m:Nat}(h:∀x,(f x).length=m):∀(xs:List α) (j:Nat),(xs.flatMap f).take (j*m)=(xs.take j).flatMap f
 | [],j=>by simp
 | x::xs,0=>by simp
 | x::xs,j+1=>by
  simp only[List.flatMap_cons,List.take_succ_cons];rw[Nat.add_mul,Nat.one_mul,Nat.add_comm (j*m),← h x,List.take_length_add_append,h x,qfI h xs j]
theorem qcT{α:Type}{f:α->List AV}{m:Nat}(h:∀x,(f x).length=m){xs:List α}{j:Nat}{x:α}(hx:xs[j]?=some x){i:Nat}(hi:i<m):(xs.flatMap f)[j*m+i]?=(f x)[i]?:=by
 rw[← List.getElem?_drop,qdX h];obtain⟨hj,rfl⟩:=zzS.1 hx;rw[List.drop_eq_getElem_cons hj,List.flatMap_cons,List.getElem?_append_left (by rw[h];exact hi)]
theorem zB{α:Type}{f:α->List AV}{m:Nat}(h:∀x,(f x).length=m){xs:List α}{j:Nat}{x:α}(hx:xs[j]?=some x):((xs.flatMap f).drop (j*m)).take m=f x:=by
 rw[qdX h];obtain⟨hj,rfl⟩:=zzS.1 hx;rw[List.drop_eq_getElem_cons hj,List.flatMap_cons,List.take_left' (h _)]

theorem SL.loop{α:Type}{x:ICode}{Q:X->Tr AV->Hp->Prop}(T:α->List (Nat×AV))(B:α->List Blk)(I:α->Prop)(μ:α->Nat)(a0:α)(src:List Nat)
  (hT:TWs t (rl src h.sz) (B a0).length (T a0)) (hB:BWs h (rl src h.sz) (B a0).length src (B a0)) (hI:(src.filter fun b=>decide (b<h.sz)).Nodup) (hfl:h.fl=0) (h0:I a0)
  (step:∀a,I a->∀G:Tr AV->Hp->Prop,(∀b,I b->μ b<μ a->∀t' h',Wk 0 t' h' (mkT (T b)) (mkH 0 (B b))->G t' h')->
   V P 0 x (fun e t h=>onX e (G t h) (fun id=>Q (.exit id) t h) (Q .ret t h)) (mkT (T a)) (mkH 0 (B a))):SL P 0 x Q t h:=by
 have main:∀m a,μ a=m->I a->SL P 0 x Q (mkT (T a)) (mkH 0 (B a)):=by
  intro m
  induction m using Nat.strongRecOn with
  | ind m ih =>
   intro a ha hi;exact qli (step a hi (fun t h=>SL P 0 x Q t h) fun b hb hlt t' h' hw=>SL.weak hw (ih (μ b) (ha ▸ hlt) b rfl hb))
 exact SL.weak (Wk.mk (T a0) (B a0) src hT hB hI hfl) (main _ a0 rfl h0)

theorem qEu{b:Bool}:(b==true)=b:=by cases b<;>rfl
theorem qEt{b:Bool}:(b==false) = !b:=by cases b<;>rfl
def vA:=And.intro @qrl (And.intro @qCD (And.intro @qCG (And.intro @qyH (And.intro @qCF (And.intro @qyE (And.intro @qyD (And.intro @qCC (And.intro @qyF (And.intro @qCE (And.intro @qyG (And.intro @qyA (And.intro @qCB (And.intro @qri (And.intro @qrj (And.intro @qrk (And.intro @qpG (And.intro @qCA
 (And.intro @qzm (And.intro @qzj (And.intro @qod (And.intro @qtK (And.intro @qwJ (And.intro @qsk (And.intro @qmD (And.intro @qxi (And.intro @qxj @quj))))))))))))))))))))))))))
def vR:=And.intro @qpI (And.intro @qnJ @qyB)
def vE:=And.intro @qmF (And.intro @qC6 (And.intro @qst (And.intro @qqe (And.intro @qqS (And.intro @qqU (And.intro @qsN (And.intro @qqa (And.intro @qqb (And.intro @qD5 (And.intro @qxM (And.intro @qD6 (And.intro @qD7 (And.intro @qpE (And.intro @xe (And.intro @qhO
 (And.intro @qAe (And.intro @qA1 (And.intro @qs3 (And.intro @qDs (And.intro @qwj (And.intro @qzW (And.intro @qDq (And.intro @qs4 (And.intro @qwt (And.intro @qAa (And.intro @qFv (And.intro @qxy (And.intro @qvD (And.intro @qfF (And.intro @qv9 @xw))))))))))))))))))))))))))))))
def vO:=And.intro @qAP (And.intro @qwQ (And.intro @qtM (And.intro @qAC (And.intro @qtN (And.intro @qqL (And.intro @qtS (And.intro @qtT (And.intro @qtW (And.intro @qqO (And.intro @qAB (And.intro @qAF (And.intro @qAG (And.intro @qAE (And.intro @qDO (And.intro @qtP (And.intro @qtQ (And.intro @qAQ (And.intro @qAA
 (And.intro @qtR (And.intro @qAI (And.intro @qqM (And.intro @qqN (And.intro @qwO (And.intro @qwP (And.intro @qwS (And.intro @qqQ (And.intro @qwR (And.intro @qAH (And.intro @qAM (And.intro @qAO (And.intro @qAJ (And.intro @qAz (And.intro @qwL (And.intro @qwN (And.intro @qAL (And.intro @qAK (And.intro @qtO (And.intro @qAN
 (And.intro @qqR (And.intro @qwK (And.intro @qxn (And.intro @qBd (And.intro @qBc (And.intro @qus (And.intro @qBb (And.intro @qAD (And.intro @qwM (And.intro @qrv (And.intro @qtU @qwT)))))))))))))))))))))))))))))))))))))))))))))))))
def vB:=And.intro @qvd (And.intro @qvc (And.intro @qu9 (And.intro @qu7 (And.intro @qu6 (And.intro @qu8 (And.intro @qu5 (And.intro @qvb (And.intro @qu2 (And.intro @qve (And.intro @qva (And.intro @qyX (And.intro @qu3 (And.intro @qvf (And.intro @qu4 (And.intro @qrA (And.intro @qrF (And.intro @qrz (And.intro @qrE (And.intro @qrB (And.intro @qrD (And.intro @qrC (And.intro @qBA (And.intro @qBz @qEA)))))))))))))))))))))))
def vF:=And.intro @qsD (And.intro @qsE (And.intro @qDj (And.intro @qDi (And.intro @qzQ (And.intro @qsX (And.intro @qsW (And.intro @qqp (And.intro @qiL (And.intro @qoz (And.intro @qvh (And.intro @qoA (And.intro @qiO (And.intro @qxu (And.intro @qDW (And.intro @qDX (And.intro @qBj (And.intro @qBk (And.intro @qBi (And.intro @qyP (And.intro @qqd (And.intro @qsq (And.intro @qwo (And.intro @qDt (And.intro @qDv (And.intro @qDu (And.intro @qz1 (And.intro @qDw (And.intro @qEV
 (And.intro @qr9 (And.intro @qzg (And.intro @qpR (And.intro @qnM (And.intro @qAb (And.intro @qDA (And.intro @qvC (And.intro @qCZ (And.intro @qC0 (And.intro @qsx (And.intro @qqg (And.intro @qp8 (And.intro @qvB (And.intro @quw (And.intro @qBn (And.intro @qBp (And.intro @qBq (And.intro @qxx (And.intro @qBo (And.intro @qDY (And.intro @qru (And.intro @qyL (And.intro @qu0 (And.intro @qyN (And.intro @qyM
 (And.intro @qtA (And.intro @qww (And.intro @qAi (And.intro @qtB (And.intro @qAh (And.intro @qAj (And.intro @qAg (And.intro @qwv (And.intro @qty (And.intro @qAf (And.intro @qtz (And.intro @qwu (And.intro @qvG (And.intro @qso (And.intro @qEG (And.intro @qEH @qEF)))))))))))))))))))))))))))))))))))))))))))))))))))))))))))))))))))))
def vM:=And.intro @qDn (And.intro @qDm (And.intro @qqq (And.intro @qwd (And.intro @qwc (And.intro @qkW (And.intro @qDy (And.intro @qmG (And.intro @qzB (And.intro @qsA (And.intro @qpD (And.intro @qEb (And.intro @qyq (And.intro @qrt (And.intro @qpP (And.intro @qmj (And.intro @qpQ (And.intro @qz0 (And.intro @qzZ @qBB))))))))))))))))))
def vC:=And.intro @qkD (And.intro @qgt (And.intro @qy9 (And.intro @qza (And.intro @qzb (And.intro @qp3 (And.intro @qr5 (And.intro @qp4 (And.intro @qvw (And.intro @qp0 (And.intro @qvr (And.intro @qp1 (And.intro @qr2 (And.intro @qp2 (And.intro @qr3 (And.intro @qvs (And.intro @qvv (And.intro @qvq (And.intro @qvu @qr4))))))))))))))))))
def vP:=And.intro @qqD (And.intro @qss (And.intro @qvJ (And.intro @qvK (And.intro @qvL (And.intro @qvM (And.intro @qsr (And.intro @qmE (And.intro @qmZ (And.intro @qlt (And.intro @qyo (And.intro @qoI (And.intro @qEu (And.intro @qEt @qdG)))))))))))))
def vW:=And.intro @qDK (And.intro @qtG (And.intro @qEZ (And.intro @qE0 (And.intro @qE1 (And.intro @qwD (And.intro @qwE (And.intro @qwA (And.intro @qwB (And.intro @qwC (And.intro @qDE (And.intro @qDH (And.intro @qAp (And.intro @qtF (And.intro @qAu (And.intro @qDG (And.intro @qDI (And.intro @qwF (And.intro @qAt (And.intro @qDJ (And.intro @qAs (And.intro @qqK (And.intro @qAr (And.intro @qwG (And.intro @qtH (And.intro @qAo (And.intro @qAv (And.intro @qDF (And.intro @qAq
 (And.intro @qxL (And.intro @quM (And.intro @qvk (And.intro @qrK (And.intro @qy0 (And.intro @qvj (And.intro @qy1 (And.intro @qFr @qFs))))))))))))))))))))))))))))))))))))
def vZ:=And.intro @qsI (And.intro @qEN (And.intro @qC9 (And.intro @qEO (And.intro @qvX (And.intro @qvY (And.intro @qvU (And.intro @qvV (And.intro @qvW (And.intro @qC7 (And.intro @qDa (And.intro @qzH (And.intro @qC8 (And.intro @qDb (And.intro @qvZ (And.intro @qem (And.intro @qaO (And.intro @qzG (And.intro @qzJ (And.intro @qsJ (And.intro @qsH (And.intro @qzI @qsG)))))))))))))))))))))
end Go.Kc
end
section
namespace Go.Kc
variable {P:Program}

mutual
def flat:AV->Bool
 | .ptr _ _=>false
 | .sl _ _ _ _ _=>false
 | .map _=>false
 | .own _ _=>false
 | .fz _ _=>false
 | .pf _ _=>false
 | .sym _=>false
 | .fn _ a c=>qjt a&&qjt c
 | .ifc _ v=>flat v
 | .agg cs=>qjt cs
 | .tup cs=>qjt cs
 | .undef=>true | .b _=>true | .i _ _=>true | .s _=>true | .nilp=>true | .nils=>true | .nilf=>true | .nili=>true | .nilm=>true | .e0=>true | .nz=>true | .yl _=>false | .lp _=>true
def qjt:List AV->Bool
 | []=>true
 | v::vs=>flat v&&qjt vs
end
mutual
theorem VR.flat{ρ ρ':Ren}:∀{a:AV} {v:Value},VR σ0 ρ a v->Kc.flat a=true->VR σ0 ρ' a v
 | _,_,.undef v,_=>.undef v
 | _,_,.b x,_=>.b x
 | _,_,.i k n,_=>.i k n
 | _,_,.s x,_=>.s x
 | _,_,.nilp,_=>.nilp
 | _,_,.ptr b o L h,hc=>by simp[Kc.flat] at hc
 | _,_,.nils,_=>.nils
 | _,_,.sl b o len cap c loose L h hc,hh=>by simp[Kc.flat] at hh
 | _,_,.slz b o x l L h,hh=>by simp[Kc.flat] at hh
 | _,_,.nilf,_=>.nilf
 | _,_,.fn f first cap first' cap' h1 h2,hc=>by
  simp only[Kc.flat,Bool.and_eq_true] at hc;exact .fn _ _ _ _ _ (h1.flat hc.1) (h2.flat hc.2)
 | _,_,.nili,_=>.nili
 | _,_,.ifc t v v' h,hc=>by simp only[Kc.flat] at hc;exact .ifc _ _ _ (h.flat hc)
 | _,_,.agg cs cs' h,hc=>by simp only[Kc.flat] at hc;exact .agg _ _ (h.flat hc)
 | _,_,.tup cs cs' h,hc=>by simp only[Kc.flat] at hc;exact .tup _ _ (h.flat hc)
 | _,_,.nilm,_=>.nilm
 | _,_,.map b L h h0,hc=>by simp[Kc.flat] at hc
 | _,_,.sym j,hc=>by simp[Kc.flat] at hc
 | _,_,.fz n off c cs k arr hn h hs,hc=>by simp[Kc.flat] at hc
 | _,_,.fz0 a,hc=>by simp[Kc.flat] at hc
 | _,_,.pf off base cs k arr h hs,hc=>by simp[Kc.flat] at hc
 | _,_,.e0 a,_=>.e0 a
 | _,_,.nz a c,_=>.nz a c
 | _,_,.own0 b a hb,hc=>by simp[Kc.flat] at hc
 | _,_,.own b n c L h hn hc',hc=>by simp[Kc.flat] at hc
 | _,_,.yl b L h,hc=>by simp[Kc.flat] at hc
theorem VRs.flat{ρ ρ':Ren}:∀{a:List AV} {v:List Value},VRs σ0 ρ a v->qjt a=true->VRs σ0 ρ' a v
 | _,_,.nil,_=>.nil
 | _,_,.cons v vs v' vs' h hs,hc=>by
  simp only[qjt,Bool.and_eq_true] at hc;exact .cons _ _ _ _ (h.flat hc.1) (hs.flat hc.2)
end
theorem Rel.bare{ρ:Ren}{B:Nat->Prop}{h:Hp}{w:World}(r:Rel σ0 ρ B h w):Rel σ0 ⟨fun _=>none,xp ρ h w,0⟩ (low w.heap.size) H0 w :=
 ⟨(fun _ _ hb=>by cases hb),(fun _ _ _ _ _ _ hb=>by cases hb),(fun _ _ _ hb=>by cases hb),(fun _ _ _ _ _ hb=>by cases hb),(fun _ _ _ hb=>by cases hb),(fun _ _ _ _ _ hb=>by cases hb),(fun _ _ hb=>by cases hb),(fun _ h=>h),
  (fun k arr hk=>⟨by
    rcases qcV hk with hk|⟨hk,_⟩
    ·exact (r.frz k arr hk).1
    ·exact hk,fun _ _ _ hb=>by cases hb⟩),⟨Nat.le_refl _,fun _ _ hb=>by cases hb⟩⟩
theorem qd.lend{f:Nat}{vs vs':List AV}{v:AV}{h:Hp}{k:AV->Hp->Prop}(hp:qd P f vs' v)(hf:Frzs h vs vs')(hv:flat v=true)(hk:k v h):SC P f vs h k:=by
 have hp0:=hp H0 (fun v' h'=>v'=v∧h'=H0) ⟨rfl,rfl⟩
 refine⟨hp0.1,fun ρ B w args r ha=>?_⟩
 have hcr:=hf.ok r ha;refine qbF.mono (hp0.2 ⟨fun _=>none,xp ρ h w,0⟩ (low w.heap.size) w args r.bare (CRs.vr (ρ:=⟨fun _=>none,xp ρ h w,0⟩) hcr)) ?_
 rintro e w' ⟨v0,v',h',ρ',rfl,⟨rfl,rfl⟩,g2,g3,g4⟩;refine⟨v0,v',h,ρ,rfl,hk,g2.flat hv,?_,⟨fun _ _=>rfl,Nat.le_refl _,rfl,fun _ _ _=>rfl,fun k hk=>g4.pres k (r.base _ hk),g4.wle,g4.io,fun _ _ h=>h,fun _ _ h=>.inl h,Nat.le_refl _⟩⟩
 have:=r.frz' (φ:=ρ.frz) g4.pres g4.wle (fun _ _ h=>h) (fun _ _ h=>.inl h) (fun k a hk=>by
  obtain⟨ty,fz,h1⟩:=(r.frz k a hk).1;refine⟨ty,fz,?_⟩;rw[g4.pres k (Array.getElem?_eq_some_iff.1 h1).1];exact h1)
 exact this
mutual
def shv(m:Nat):AV->AV
 | .ptr b o=>.ptr (b+m) o
 | .sl b o n c l=>.sl (b+m) o n c l
 | .map b=>.map (b+m)
 | .own b n=>.own (b+m) n
 | .yl b=>.yl (b+m)
 | .fn f a c=>.fn f (qeU m a) (qeU m c)
 | .ifc t v=>.ifc t (shv m v)
 | .agg cs=>.agg (qeU m cs)
 | .tup cs=>.tup (qeU m cs)
 | v=>v
def qeU(m:Nat):List AV->List AV
 | []=>[]
 | v::vs=>shv m v::qeU m vs
end
theorem qny{m:Nat}:∀{vs:List AV} {j:Nat},(qeU m vs)[j]?=(vs[j]?).map (shv m)
 | [],j=>by simp[qeU]
 | v::vs,0=>by simp[qeU]
 | v::vs,j+1=>by simpa[qeU] using qny (vs:=vs) (j:=j)
theorem qdm{m:Nat}:∀{vs:List AV},(qeU m vs).length=vs.length
 | []=>rfl
 | v::vs=>by simp[qeU,qdm (vs:=vs)]
mutual
theorem qpw{m:Nat}:∀{v:AV},clo v=true->shv m v=v
 | .ptr _ _,h=>by simp[clo] at h
 | .sl _ _ _ _ _,h=>by simp[clo] at h
 | .map _,h=>by simp[clo] at h
 | .own _ _,h=>by simp[clo] at h
 | .fn f a c,h=>by
  simp only[clo,Bool.and_eq_true] at h;simp only[shv,zZ h.1,zZ h.2]
 | .ifc t v,h=>by
  simp only[clo] at h;simp only[shv,qpw h]
 | .agg cs,h=>by
  simp only[clo] at h;simp only[shv,zZ h]
 | .tup cs,h=>by
  simp only[clo] at h;simp only[shv,zZ h]
 | .undef,_=>rfl
 | .b _,_=>rfl
 | .i _ _,_=>rfl
 | .s _,_=>rfl
 | .nilp,_=>rfl
 | .nils,_=>rfl
 | .nilf,_=>rfl
 | .nili,_=>rfl
 | .nilm,_=>rfl
 | .sym _,h=>by simp[clo] at h
 | .fz _ _,_=>rfl
 | .pf _ _,_=>rfl
 | .e0,_=>rfl
 | .nz,_=>rfl
 | .yl _,h=>by simp[clo] at h
 | .lp _,_=>rfl
theorem zZ{m:Nat}:∀{vs:List AV},qu vs=true->qeU m vs=vs
 | [],_=>rfl
 | v::vs,h=>by
  simp only[qu,Bool.and_eq_true] at h;simp only[qeU,qpw h.1,zZ h.2]
end
def she(m:Nat)(es:List (AV×AV)):List (AV×AV):=es.map fun e=>(shv m e.1,shv m e.2)
theorem qpv{m:Nat}:she m []=[]:=rfl
theorem qnx{m:Nat}{a b:AV}{es:List (AV×AV)}:she m ((a,b)::es)=(shv m a,shv m b)::she m es:=rfl
def shb(m:Nat):Blk->Blk
 | .cells e w a cs=>.cells e w a (qeU m cs)
 | .dead=>.dead
 | .map es=>.map (she m es)
noncomputable def xV(h:Hp):List Blk->Hp
 | []=>h
 | x::xs=>xV (h.push x) xs
theorem qd7:∀{bs:List Blk} {h:Hp},(xV h bs).sz=h.sz+bs.length
 | [],_=>rfl
 | x::xs,h=>by
  show (xV (h.push x) xs).sz=_;rw[qd7];simp[Hp.push];omega
theorem qfr:∀{bs:List Blk} {h:Hp},(xV h bs).fl=h.fl
 | [],_=>rfl
 | x::xs,h=>by
  show (xV (h.push x) xs).fl=_;rw[qfr];rfl
theorem qbb:∀{bs:List Blk} {h:Hp} {b:Nat},(xV h bs).tr.get b=if b<h.sz then h.tr.get b else if b<h.sz+bs.length then bs[b-h.sz]? else h.tr.get b
 | [],h,b=>by simp[xV];intro h1 h2;omega
 | x::xs,h,b=>by
  show (xV (h.push x) xs).tr.get b=_;rw[qbb];simp only[Hp.push,Tr.get_set,List.length_cons]
  by_cases h1:b<h.sz
  ·rw[if_pos (by omega),if_neg (by omega),if_pos h1]
  ·rw[if_neg h1]
   by_cases h2:b=h.sz
   ·subst h2;rw[if_pos (by omega),if_pos rfl,if_pos (by omega)];simp
   ·rw[if_neg (by omega)]
    by_cases h3:b<h.sz+(xs.length+1)
    ·rw[if_pos (by omega),if_pos h3];rw[show b-h.sz=(b-(h.sz+1))+1 from by omega];simp
    ·rw[if_neg (by omega),if_neg h3,if_neg h2]
def Ren.join(ρ ρ2:Ren)(m l:Nat):Ren:=⟨fun b=>if b<m then ρ b else ρ2 (b-m),ρ2.frz,m+l⟩
theorem qiX{ρ ρ2:Ren}{m l b:Nat}(h:b<m):ρ.join ρ2 m l b=ρ b:=by simp only[Ren.join];rw[if_pos h]
theorem qes{ρ ρ2:Ren}{m l b:Nat}:ρ.join ρ2 m l (b+m)=ρ2 b:=by simp only[Ren.join];rw[if_neg (by omega),Nat.add_sub_cancel]
mutual
theorem VR.sh{ρ ρ2:Ren}{m l:Nat}(hl:ρ2.n<=l):∀{v:AV} {x:Value},VR σ0 ρ2 v x->VR σ0 (ρ.join ρ2 m l) (shv m v) x
 | _,_,.undef v=>.undef v
 | _,_,.b x=>.b x
 | _,_,.i k n=>.i k n
 | _,_,.s x=>.s x
 | _,_,.nilp=>.nilp
 | _,_,.ptr b o L h=>.ptr _ _ L (by rw[qes];exact h)
 | _,_,.nils=>.nils
 | _,_,.sl b o len cap c loose L h hc=>.sl _ _ _ _ _ _ L (by rw[qes];exact h) hc
 | _,_,.slz b o x l' L h=>.slz _ _ _ _ L (by rw[qes];exact h)
 | _,_,.nilf=>.nilf
 | _,_,.fn f first cap first' cap' h1 h2=>.fn _ _ _ _ _ (VRs.sh hl h1) (VRs.sh hl h2)
 | _,_,.nili=>.nili
 | _,_,.ifc t v v' h=>.ifc _ _ _ (VR.sh hl h)
 | _,_,.agg cs cs' h=>.agg _ _ (VRs.sh hl h)
 | _,_,.tup cs cs' h=>.tup _ _ (VRs.sh hl h)
 | _,_,.nilm=>.nilm
 | _,_,.map b L h h0=>.map _ L (by rw[qes];exact h) h0
 | _,_,.sym j=>.sym j
 | _,_,.fz n off c cs k arr hn h hs=>.fz n off c cs k arr hn h hs
 | _,_,.fz0 a=>.fz0 a
 | _,_,.pf off base cs k arr h hs=>.pf off base cs k arr h hs
 | _,_,.e0 a=>.e0 a
 | _,_,.nz a c=>.nz a c
 | _,_,.own0 b a hb=>.own0 _ _ (by show b+m<m+l;omega)
 | _,_,.own b n c L h hn hc'=>.own _ _ _ L (by rw[qes];exact h) hn hc'
 | _,_,.yl b L h=>.yl _ L (by rw[qes];exact h)
theorem VRs.sh{ρ ρ2:Ren}{m l:Nat}(hl:ρ2.n<=l):∀{v:List AV} {x:List Value},VRs σ0 ρ2 v x->VRs σ0 (ρ.join ρ2 m l) (qeU m v) x
 | _,_,.nil=>.nil
 | _,_,.cons v vs v' vs' h hs=>.cons _ _ _ _ (VR.sh hl h) (VRs.sh hl hs)
end
theorem qxq{m:Nat}{r:Loop}{ts:List (Nat×AV)}:she m (zq r ts)=zq r (ts.map fun p=>(p.1,shv m p.2)):=by simp[she,zq,shv]
theorem qdK.sh{ρ ρ2:Ren}{m l:Nat}(hl:ρ2.n<=l){es:List (AV×AV)}{o:Obj}(h:qdK σ0 ρ2 es o):qdK σ0 (ρ.join ρ2 m l) (she m es) o:=by
 rcases h with⟨h0,vs,clk,h1,h2,h3⟩|⟨a,n,rfl,h2⟩|⟨r,rq,ts,rfl,h2,hk2,h3⟩
 ·refine .inl ⟨fun e he=>?_,vs,clk,h1,by simp[she,h2],fun j e he=>?_⟩
  ·cases es with
   | nil=>simp[she] at he
   | cons e0 es =>
    simp[she] at he;subst he;have:=h0 e0 rfl;cases e0 with
    | mk k v=>cases k<;>first|(simp[shv];done)|exact absurd rfl this.1|exact absurd rfl (this.2 _)
  ·simp only[she,List.getElem?_map] at he;cases hj:es[j]? with
   | none=>rw[hj] at he;simp at he
   | some e0 =>
    rw[hj] at he;simp at he;subst he;obtain⟨v,g1,g2,g3⟩:=h3 j e0 hj;exact⟨v,g1,VR.sh hl g2,VR.sh hl g3⟩
 ·exact .inr (.inl ⟨a,n,rfl,h2⟩)
 ·refine .inr (.inr ⟨r,rq,_,qxq,h2,hk2,fun p hp=>?_⟩)
  obtain⟨q,hq,rfl⟩:=List.mem_map.1 hp;exact⟨(h3 q hq).1,VR.sh hl (h3 q hq).2⟩
theorem Rel.joinH{ρ ρ2:Ren}{B:Nat->Prop}{h:Hp}{w w1:World}{bs:List Blk}(r:Rel σ0 ρ B h w)(r2:Rel σ0 ρ2 (low w.heap.size) (mkH 0 bs) w1)(hp:∀k,k<w.heap.size->w1.heap[k]?=w.heap[k]?)(hw:w.heap.size<=w1.heap.size)
  (f1:∀k a,ρ.frz k=some a->ρ2.frz k=some a) (f2:∀k a,ρ2.frz k=some a->ρ.frz k=some a∨w.heap.size<=k) :
  Rel σ0 (ρ.join ρ2 h.sz bs.length) B (xV h (bs.map (shb h.sz))) w1:=by
 have r1:Rel σ0 ⟨ρ.loc,ρ2.frz,ρ.n⟩ B h w1:=r.frz' hp hw f1 f2 (fun k a hk=>(r2.frz k a hk).1)
 have n2:ρ2.n<=bs.length:=r2.dn.1
 have le1:Ren.le ⟨ρ.loc,ρ2.frz,ρ.n⟩ (ρ.join ρ2 h.sz bs.length) :=
  ⟨fun b L hb=>by rw[qiX (r.dom b L hb)];exact hb,fun _ _ h=>h,Nat.le_trans r.dn.1 (Nat.le_add_right _ _)⟩
 -- a block: old,or new
 have split:∀b L,ρ.join ρ2 h.sz bs.length b=some L->(b<h.sz∧ρ b=some L∧(xV h (bs.map (shb h.sz))).tr.get b=h.tr.get b) ∨
   ∃c,b=c+h.sz∧ρ2 c=some L∧(xV h (bs.map (shb h.sz))).tr.get b=((mkH 0 bs).tr.get c).map (shb h.sz)∧w.heap.size<=L.blk:=by
  intro b L hb
  by_cases hlt:b<h.sz
  ·rw[qiX hlt] at hb;refine .inl ⟨hlt,hb,?_⟩;rw[qbb,if_pos hlt]
  ·obtain⟨c,rfl⟩:∃c,b=c+h.sz:=⟨b-h.sz,by omega⟩
   rw[qes] at hb;have hc:c<bs.length:=r2.dom c L hb;refine .inr ⟨c,rfl,hb,?_,Nat.not_lt.1 (r2.flr c L hb (Nat.zero_le _))⟩;rw[qbb,if_neg hlt,if_pos (by simp;omega),xK,Nat.add_sub_cancel,List.getElem?_map]
 have oldlt:∀b L x,ρ b=some L->h.tr.get b=some x->x≠.dead->L.blk<w.heap.size:=fun b L x h1 h2 h3=>r.blk_lt b L h1 x h2 h3
 have shd:∀{x y:Blk},(some x).map (shb h.sz)=some y->y≠.dead->x≠.dead:=by
  intro x y h1 h2 h3;subst h3;simp[shb] at h1;exact h2 h1.symm
 have shc:∀{o:Option Blk} {e:Nat} {w a:Bool} {cs:List AV},o.map (shb h.sz)=some (.cells e w a cs)->∃cs0,o=some (.cells e w a cs0)∧cs=qeU h.sz cs0:=by
  intro o e w a cs ho;cases o with
  | none=>simp at ho
  | some x =>
   cases x with
   | cells e' w' a' cs'=>simp[shb] at ho;obtain⟨rfl,rfl,rfl,rfl⟩:=ho;exact⟨_,rfl,rfl⟩
   | dead=>simp[shb] at ho
   | map es=>simp[shb] at ho
 have shm:∀{o:Option Blk} {es:List (AV×AV)},o.map (shb h.sz)=some (.map es)->∃es0,o=some (.map es0)∧es=she h.sz es0:=by
  intro o es ho;cases o with
  | none=>simp at ho
  | some x =>
   cases x with
   | cells e' w' a' cs'=>simp[shb] at ho
   | dead=>simp[shb] at ho
   | map es'=>simp[shb] at ho;exact⟨es',rfl,ho.symm⟩
 have shn:∀{o:Option Blk} {y:Blk},o.map (shb h.sz)=some y->y≠.dead->∃x,o=some x∧x≠.dead:=by
  intro o y ho hy;cases o with
  | none=>simp at ho
  | some x=>exact⟨x,rfl,shd ho hy⟩
 refine⟨fun b L hb=>?_,?_,?_,?_,?_,?_,?_,qef r.base hw,?_,?_⟩
 ·rw[qd7,List.length_map];rcases split b L hb with⟨h1,_⟩|⟨c,rfl,h1,_⟩
  ·omega
  ·have:c<bs.length:=r2.dom c L h1;omega
 ·intro b L e wf af cs hb hg;rcases split b L hb with⟨h1,h2,h3⟩|⟨c,rfl,h2,h3,_⟩
  ·rw[h3] at hg;obtain⟨q1,c,ty,fz,q2,q3,q4,q5,q6⟩:=r1.cells b L e wf af cs h2 hg;exact⟨q1,c,ty,fz,q2,q3,q4,fun j v hv=>let ⟨v',g7,g8⟩:=q5 j v hv;⟨v',g7,g8.mono le1⟩,q6⟩
  ·rw[h3] at hg;obtain⟨cs0,g1,rfl⟩:=shc hg;obtain⟨q1,c',ty,fz,q2,q3,q4,q5,q6⟩:=r2.cells c L e wf af cs0 h2 g1;refine⟨q1,c',ty,fz,q2,q3,by rw[qdm];exact q4,fun j v hv=>?_,q6⟩
   rw[qny] at hv;cases hj:cs0[j]? with
   | none=>rw[hj] at hv;simp at hv
   | some v0 =>
    rw[hj] at hv;simp at hv;subst hv;obtain⟨v',g7,g8⟩:=q5 j v0 hj;exact⟨v',g7,g8.sh n2⟩
 ·intro b L es hb hg;rcases split b L hb with⟨h1,h2,h3⟩|⟨c,rfl,h2,h3,_⟩
  ·rw[h3] at hg;obtain⟨q1,o,q2,q3⟩:=r1.maps b L es h2 hg;exact⟨q1,o,q2,q3.mono le1⟩
  ·rw[h3] at hg;obtain⟨es0,g1,rfl⟩:=shm hg;obtain⟨q1,o,q2,q3⟩:=r2.maps c L es0 h2 g1;exact⟨q1,o,q2,q3.sh n2⟩
 ·intro b L e af cs hb hg b' L' x hb' hx hd he;rcases split b L hb with⟨h1,h2,h3⟩|⟨c,rfl,h2,h3,h4⟩<;>rcases split b' L' hb' with⟨i1,i2,i3⟩|⟨c',rfl,i2,i3,i4⟩
  ·rw[h3] at hg;rw[i3] at hx;exact r.excl b L e af cs h2 hg b' L' x i2 hx hd he
  ·rw[h3] at hg;have:=oldlt b L _ h2 hg (by simp);omega
  ·rw[i3] at hx;have:=oldlt b' L' _ i2 hx hd;omega
  ·rw[h3] at hg;rw[i3] at hx;obtain⟨cs0,g1,rfl⟩:=shc hg;obtain⟨x0,g2,g3⟩:=shn hx hd;rw[r2.excl c L e af cs0 h2 g1 c' L' x0 i2 g2 g3 he]
 ·intro b L es hb hg b' L' x hb' hx hd he;rcases split b L hb with⟨h1,h2,h3⟩|⟨c,rfl,h2,h3,h4⟩
  ·rw[h3] at hg;rcases split b' L' hb' with⟨i1,i2,i3⟩|⟨c',rfl,i2,i3,i4⟩
   ·rw[i3] at hx;exact r.exclm b L es h2 hg b' L' x i2 hx hd he
   ·have:=oldlt b L _ h2 hg (by simp);omega
  ·rw[h3] at hg;obtain⟨es0,g1,rfl⟩:=shm hg;rcases split b' L' hb' with⟨i1,i2,i3⟩|⟨c',rfl,i2,i3,i4⟩
   ·rw[i3] at hx;have:=oldlt b' L' _ i2 hx hd;omega
   ·rw[i3] at hx;obtain⟨x0,g2,g3⟩:=shn hx hd;rw[r2.exclm c L es0 h2 g1 c' L' x0 i2 g2 g3 he]
 ·intro b L e wf cs hb hg b' L' e' wf' af' cs' hb' hx he;rcases split b L hb with⟨h1,h2,h3⟩|⟨c,rfl,h2,h3,h4⟩<;>rcases split b' L' hb' with⟨i1,i2,i3⟩|⟨c',rfl,i2,i3,i4⟩
  ·rw[h3] at hg;rw[i3] at hx;exact r.app b L e wf cs h2 hg b' L' e' wf' af' cs' i2 hx he
  ·rw[h3] at hg;have:=oldlt b L _ h2 hg (by simp);omega
  ·rw[i3] at hx;have:=oldlt b' L' _ i2 hx (by simp);omega
  ·rw[h3] at hg;rw[i3] at hx;obtain⟨cs0,g1,rfl⟩:=shc hg;obtain⟨cs1,g2,rfl⟩:=shc hx;have q:=r2.app c L e wf cs0 h2 g1 c' L' e' wf' af' cs1 i2 g2 he;rw[qdm,qdm];exact⟨q.1,fun hh=>by rw[q.2 hh]⟩
 ·intro b L hb hf;rw[qfr] at hf;rcases split b L hb with⟨h1,h2,h3⟩|⟨c,rfl,h2,h3,h4⟩
  ·exact r.flr b L h2 hf
  ·exact qaq r.base h4
 ·intro k arr hk;refine⟨(r2.frz k arr hk).1,fun b L x hb hx hd=>?_⟩
  rcases split b L hb with⟨h1,h2,h3⟩|⟨c,rfl,h2,h3,h4⟩
  ·rw[h3] at hx;exact (r1.frz k arr hk).2 b L x h2 hx hd
  ·rw[h3] at hx;obtain⟨x0,g2,g3⟩:=shn hx hd;exact (r2.frz k arr hk).2 c L x0 h2 g2 g3
 ·refine⟨?_,fun b L hb=>?_⟩
  ·show h.sz+bs.length<=_;rw[qd7,List.length_map];exact Nat.le_refl _
  ·rcases split b L hb with⟨_,h2,_⟩|⟨c,rfl,h2,_,_⟩
   ·exact Nat.lt_of_lt_of_le (r.dn.2 b L h2) hw
   ·exact r2.dn.2 c L h2
def Own(P:Program)(f:Nat)(vs:List AV)(v:AV)(bs:List Blk):Prop :=
 ∀(h:Hp) (k:AV->Hp->Prop),k (shv h.sz v) (xV h (bs.map (shb h.sz)))->SC P f vs h k
def qrg(v:AV)(bs:List Blk)(v':AV)(h':Hp):Prop:=h'.fl=0->∃src:List Nat,NV (rl src h'.sz) bs.length v' v∧BWs h' (rl src h'.sz) bs.length src bs∧(src.filter fun b=>decide (b<h'.sz)).Nodup
theorem Own.of_SC{f:Nat}{vs:List AV}{v:AV}{bs:List Blk}(hcl:qu vs=true)(hs:SC P f vs H0 (qrg v bs)):Own P f vs v bs:=by
 intro h k hk;refine⟨hs.1,fun ρ B w args r ha=>?_⟩
 have hcr:=ha.crs hcl;refine qbF.mono (hs.2 ⟨fun _=>none,ρ.frz,0⟩ (low w.heap.size) w args r.empty (CRs.vr (ρ:=⟨fun _=>none,ρ.frz,0⟩) hcr)) ?_
 rintro e w1 ⟨v0,v',h1,ρ1,rfl,g1,g2,g3,g4⟩;obtain⟨src,s1,s2,s3⟩:=g1 g4.fl;have hw:Wk 0 (mkT [(0,v0)]) h1 (mkT [(0,v)]) (mkH 0 bs):=Wk.mk [(0,v)] bs src ⟨⟨v0,by simp[mkT,Tr.get_set],s1⟩,trivial⟩ s2 s3 g4.fl
 obtain⟨ρ2,t2,r2,k2⟩:=hw ρ1 (low w.heap.size) w1 #[v'] (fun j x hj=>by
  have:=qdi hj;simp at this;obtain⟨rfl,rfl⟩:=this;exact⟨by simp,by simpa using g2⟩) g3
 have hv2:VR σ0 ρ2 v v':=by
  have:=(t2 0 v (by simp[mkT,Tr.get_set])).2;simpa using this
 have f1:∀k a,ρ.frz k=some a->ρ2.frz k=some a:=fun k a hk=>k2.frz k a (g4.frz k a hk)
 have f2:∀k a,ρ2.frz k=some a->ρ.frz k=some a∨w.heap.size<=k:=fun k a hk=>(k2.fnew k a hk).elim (fun hk=>(g4.fnew k a hk).imp id Nat.not_lt.1) (fun hk=>.inr (Nat.not_lt.1 hk))
 refine⟨_,v',_,ρ.join ρ2 h.sz bs.length,rfl,hk,hv2.sh r2.dn.1,Rel.joinH r r2 g4.pres g4.wle f1 f2,?_⟩;refine⟨fun b hb=>qiX hb,by rw[qd7];omega,qfr,fun b _ hb=>by rw[qbb,if_pos hb],fun k hk=>g4.pres k (r.base _ hk),g4.wle,g4.io,f1,fun k a hk=>(f2 k a hk).imp id (qaq r.base),?_⟩
 exact Nat.le_trans r.dn.1 (Nat.le_add_right _ _)
theorem Own.mk{f:Nat}{i:IFn}{vs:List AV}{v:AV}{bs:List Blk}(hc:qc P f i=true)(hcl:qu vs=true)(hV:V P 0 i.body (qby i.res (qrg v bs)) (qbB vs 0 .leaf) H0):Own P f vs v bs :=
 Own.of_SC hcl (SC.mk hc (qj hV))
def qee(P:Program)(f:Nat)(vs':List AV)(v:AV)(bs:List Blk):Prop :=
 ∀(h:Hp) (vs:List AV) (k:AV->Hp->Prop),Frzs h vs vs'->k (shv h.sz v) (xV h (bs.map (shb h.sz)))->SC P f vs h k
def PC(P:Program)(f:Nat)(vs:List AV)(h:Hp)(k:AV->Hp->Prop):Prop:=∃v h',(∀k':AV->Hp->Prop,k' v h'->SC P f vs h k')∧k v h'
def PY(P:Program)(b:Nat)(vs:List AV)(h:Hp)(k:AV->Hp->Prop):Prop:=∃v h',(∀k':AV->Hp->Prop,k' v h'->CC P 0 (.yl b::vs) h k')∧k v h'
@[congr] theorem qCq {f:Nat} {vs vs':List AV} {h:Hp} {k:AV->Hp->Prop} {mk:Prop} (_:qV=mk) (h':vs=vs'):PC P f vs h k=PC P f vs' h k:=by rw[h']
@[congr] theorem qCr {b:Nat} {vs vs':List AV} {h:Hp} {k:AV->Hp->Prop} {mk:Prop} (_:qV=mk) (h':vs=vs'):PY P b vs h k=PY P b vs' h k:=by rw[h']
def PCC(P:Program):zc:=fun f vs h k=>∃v h',(∀k':AV->Hp->Prop,k' v h'->CC P f vs h k')∧k v h'
theorem qEr:LC (PCC P):=fun _ _ _ _ ⟨v,h',h1,h2⟩=>⟨v,h',h2,fun _ h3=>⟨v,h',h1,h3⟩⟩
theorem qrh:qcf P σ0 (PCC P):=⟨fun f vs h _ ⟨_,_,h1,h2⟩=>(qdL P).1 f vs h _ (h1 _ h2),fun b vs h _ ⟨_,_,h1,h2⟩=>(qdL P).2 b vs h _ (h1 _ h2)⟩
theorem qzl{b:Nat}{vs:List AV}{h:Hp}{k:AV->Hp->Prop}:cvF (PCC P) (.yl b) vs h k↔PY P b vs h k:=Iff.rfl
theorem qzk{f:Nat}{a c vs:List AV}{h:Hp}{k:AV->Hp->Prop}:cvF (PCC P) (.fn f a c) vs h k↔PC P f (a++(vs++c)) h k:=Iff.rfl
theorem qtZ{dst:Option Nat}{f:Nat}{args:List O}{ops:List ROp}{Q:Tr AV->Hp->Prop}{t:Tr AV}{s fl:Nat}{tr:Tr Blk}:VR' (PCC P) (⟨dst,.callF f args,none⟩::ops) Q t ⟨s,fl,tr⟩↔qak t args (fun vs=>PC P f vs ⟨s,s,tr⟩ (fun v h'=>qab t dst v (fun t'=>VR' (PCC P) ops Q t' (h'.down fl)))):=qpH
theorem qt0{dst:Option Nat}{f:Nat}{args:List O}{ops:List ROp}{Q:Tr AV->Hp->Prop}{t:Tr AV}{h:Hp}:VR' (PCC P) (⟨dst,.callW f args,none⟩::ops) Q t h↔qak t args (fun vs=>PC P f vs h (fun v h'=>qab t dst v (fun t'=>VR' (PCC P) ops Q t' h'))):=qpJ
theorem xb{ops:List ROp}{Q:Tr AV->Hp->Prop}{t:Tr AV}{h:Hp}(hr:VR' (PCC P) ops Q t h):VD P ops Q t h:=qCy qEr qrh hr
theorem qd.pc{f:Nat}{vs:List AV}{v:AV}{h:Hp}{k:AV->Hp->Prop}(hp:qd P f vs v)(hk:k v h):PC P f vs h k:=⟨v,h,fun k' h'=>hp h k' h',hk⟩
theorem Own.pc{f:Nat}{vs:List AV}{v:AV}{bs:List Blk}{h:Hp}{k:AV->Hp->Prop}(hp:Own P f vs v bs)(hk:k (shv h.sz v) (xV h (bs.map (shb h.sz)))):PC P f vs h k:=⟨_,_,fun k' h'=>hp h k' h',hk⟩
theorem qee.pc{f:Nat}{vs vs':List AV}{v:AV}{bs:List Blk}{h:Hp}{k:AV->Hp->Prop}(hp:qee P f vs' v bs)(hf:Frzs h vs vs')(hk:k (shv h.sz v) (xV h (bs.map (shb h.sz)))):PC P f vs h k:=⟨_,_,fun k' h'=>hp h vs k' hf h',hk⟩
theorem Own.sc{f:Nat}{vs:List AV}{v:AV}{bs:List Blk}{h:Hp}{k:AV->Hp->Prop}(hp:Own P f vs v bs)(hk:k (shv h.sz v) (xV h (bs.map (shb h.sz)))):SC P f vs h k:=hp h k hk
theorem qiZ{s f:Nat}{tr:Tr Blk}{x:Blk}:Hp.push ⟨s,f,tr⟩ x=⟨s+1,f,tr.set s x⟩:=rfl
theorem qfS{h:Hp}:xV h []=h:=rfl
theorem qew{h:Hp}{x:Blk}{xs:List Blk}:xV h (x::xs)=xV (h.push x) xs:=rfl

abbrev qi9:=ICode->(X->Tr AV->Hp->Prop)->Tr AV->Hp->Prop
noncomputable def qlp(env:Tr IFn)(ih:qi9)(f:Nat)(args:List AV)(h:Hp)(k:AV->Hp->Prop):Prop :=
 env.getK f (fun fn=>IFn.rec (motive:=fun _=>Prop) (fun res body=>qmm args 0 .leaf (fun t0=>ih body (fun e t h' =>
  X.rec (motive:=fun _=>Prop) (qaM t h' res (fun vs=>k (qar vs) h')) (fun _=>False) (qaM t h' res (fun vs=>k (qar vs) h')) e) t0 h)) fn)
abbrev qfX:=Nat->List AV->Option AV
def qfX.none:qfX:=fun _ _=>Option.none
def qhG(P:Program)(ho:qfX):Prop:=∀f vs v,ho f vs=some v->qd P f vs v
theorem qhG.none:qhG P qfX.none:=fun _ _ _ h=>by cases h
noncomputable def qgW(env:Tr IFn)(ho:qfX)(ih:qi9)(f:Nat)(args:List AV)(h:Hp)(k:AV->Hp->Prop):Prop :=
 Option.rec (motive:=fun _=>Prop) (qlp env ih f args h k) (fun v=>k v h) (ho f args)
noncomputable def qrZ(env:Tr IFn)(ho:qfX)(ih:qi9):zc:=fun f args h k=>Nat.rec (motive:=fun _=>Prop) False (fun f _=>qgW env ho ih f args h k) f
noncomputable def fv(env:Tr IFn)(ho:qfX)(n:Nat):qi9 :=
 Nat.rec (motive:=fun _=>qi9) (fun _ _ _ _=>False) (fun _ ih c Q t h=>match c with
  | .skip=>Q .normal t h
  | .reg draw ops=>qhu qv draw (qrZ env ho ih) ops (fun t h=>Q .normal t h) t h
  | .rangeF _ _ _ _ _=>False
  | .seq x y=>ih x (fun e t h=>X.rec (motive:=fun _=>Prop) (ih y Q t h) (fun id=>Q (.exit id) t h) (Q .ret t h) e) t h
  | .cond c x y=>evK t c (fun v=>unB v (fun b=>Bool.rec (motive:=fun _=>Prop) (ih y Q t h) (ih x Q t h) b))
  | .blk id x=>ih x (fun e t h=>X.rec (motive:=fun _=>Prop) (Q .normal t h) (fun id'=>Bool.rec (motive:=fun _=>Prop) (Q (.exit id') t h) (Q .normal t h) (Nat.beq id' id)) (Q .ret t h) e) t h
  | .loop x=>ih x (fun e t h=>X.rec (motive:=fun _=>Prop) (ih (.loop x) Q t h) (fun id=>Q (.exit id) t h) (Q .ret t h) e) t h
  | .exit id=>Q (.exit id) t h
  | .ret=>Q .ret t h
  | .no=>False
  | .cut x=>ih x Q t h) n
def LB(ih:qi9):Prop:=∀c Q t h,ih c Q t h->∃e t' h',Q e t' h'∧∀Q',Q' e t' h'->ih c Q' t h
theorem qrY(env:Tr IFn){ih:qi9}(hi:LB ih):LC (qlp env ih):=by
 intro f vs h k hk;obtain⟨fn,g1,g2⟩:=(Tr.getK_iff _ _ _).1 hk;cases fn with
 | mk res body =>
  obtain⟨t0,g3,g4⟩:=qow vs 0 .leaf _ g2;obtain⟨e,t',h',h1,h2⟩:=hi _ _ _ _ g3
  have back:∀k',(X.rec (motive:=fun _=>Prop) (qaM t' h' res (fun vs=>k' (qar vs) h')) (fun _=>False) (qaM t' h' res (fun vs=>k' (qar vs) h')) e:Prop)->qlp env ih f vs h k':=fun k' hk' =>
   (Tr.getK_iff _ _ _).2 ⟨⟨res,body⟩,g1,g4 (fun t0=>ih body (fun e t h'=>X.rec (motive:=fun _=>Prop) (qaM t h' res (fun vs=>k' (qar vs) h')) (fun _=>False) (qaM t h' res (fun vs=>k' (qar vs) h')) e) t0 h) (h2 (fun e t h'=>X.rec (motive:=fun _=>Prop) (qaM t h' res (fun vs=>k' (qar vs) h')) (fun _=>False) (qaM t h' res (fun vs=>k' (qar vs) h')) e) hk')⟩
  cases e with
  | exit id=>exact h1.elim
  | normal =>
   obtain⟨vs,h3,h4⟩:=qjW t' h' res _ h1;exact⟨_,_,h3,fun k' hk'=>back k' (h4 (fun vs=>k' (qar vs) h') hk')⟩
  | ret =>
   obtain⟨vs,h3,h4⟩:=qjW t' h' res _ h1;exact⟨_,_,h3,fun k' hk'=>back k' (h4 (fun vs=>k' (qar vs) h') hk')⟩
theorem qvo(env:Tr IFn)(ho:qfX){ih:qi9}(hi:LB ih):LC (qgW env ho ih):=by
 intro f vs h k hk;unfold qgW at hk;cases hv:ho f vs with
 | none =>
  rw[hv] at hk;obtain⟨v,h',h1,h2⟩:=qrY env hi f vs h k hk;exact⟨v,h',h1,fun k' hk'=>by unfold qgW;rw[hv];exact h2 k' hk'⟩
 | some v =>
  rw[hv] at hk;exact⟨v,h,hk,fun k' hk'=>by unfold qgW;rw[hv];exact hk'⟩
theorem qmw(env:Tr IFn)(ho:qfX){ih:qi9}(hi:LB ih):LC (qrZ env ho ih):=by
 intro f vs h k hk;cases f with
 | zero=>exact hk.elim
 | succ f=>exact qvo env ho hi f vs h k hk
theorem qDc(env:Tr IFn)(ho:qfX):∀n,LB (fv env ho n)
 | 0=>fun _ _ _ _ h=>h.elim
 | n+1=>fun c Q t h hk=>by
  have ih:=qDc env ho n;cases c with
  | no=>exact hk.elim
  | rangeF=>exact hk.elim
  | cut x=>exact ih _ _ _ _ hk
  | skip=>exact⟨_,_,_,hk,fun _ h=>h⟩
  | exit id=>exact⟨_,_,_,hk,fun _ h=>h⟩
  | ret=>exact⟨_,_,_,hk,fun _ h=>h⟩
  | reg draw ops =>
   obtain⟨t',h',h1,h2⟩:=qoh qv draw (qmw env ho ih) ops t h _ hk;exact⟨_,_,_,h1,fun Q' hQ=>h2 (fun t h=>Q' .normal t h) hQ⟩
  | seq x y =>
   obtain⟨e,t1,h1,g1,g2⟩:=ih _ _ _ _ hk;cases e with
   | normal =>
    obtain⟨e2,t2,h2,g3,g4⟩:=ih _ _ _ _ g1;exact⟨e2,t2,h2,g3,fun Q' hQ=>g2 (fun e t h=>X.rec (motive:=fun _=>Prop) (fv env ho n y Q' t h) (fun id=>Q' (.exit id) t h) (Q' .ret t h) e) (g4 _ hQ)⟩
   | exit id=>exact⟨_,t1,h1,g1,fun Q' hQ=>g2 (fun e t h=>X.rec (motive:=fun _=>Prop) (fv env ho n y Q' t h) (fun id=>Q' (.exit id) t h) (Q' .ret t h) e) hQ⟩
   | ret=>exact⟨_,t1,h1,g1,fun Q' hQ=>g2 (fun e t h=>X.rec (motive:=fun _=>Prop) (fv env ho n y Q' t h) (fun id=>Q' (.exit id) t h) (Q' .ret t h) e) hQ⟩
  | cond c x y =>
   obtain⟨v,g1,g2⟩:=qp t c _ hk;obtain⟨b,g3,g4⟩:=qhD v _ g1;cases b with
   | true =>
    obtain⟨e,t1,h1,g5,g6⟩:=ih _ _ _ _ g3;exact⟨e,t1,h1,g5,fun Q' hQ=>g2 (fun v=>unB v (fun b=>Bool.rec (motive:=fun _=>Prop) (fv env ho n y Q' t h) (fv env ho n x Q' t h) b)) (g4 (fun b=>Bool.rec (motive:=fun _=>Prop) (fv env ho n y Q' t h) (fv env ho n x Q' t h) b) (g6 _ hQ))⟩
   | false =>
    obtain⟨e,t1,h1,g5,g6⟩:=ih _ _ _ _ g3;exact⟨e,t1,h1,g5,fun Q' hQ=>g2 (fun v=>unB v (fun b=>Bool.rec (motive:=fun _=>Prop) (fv env ho n y Q' t h) (fv env ho n x Q' t h) b)) (g4 (fun b=>Bool.rec (motive:=fun _=>Prop) (fv env ho n y Q' t h) (fv env ho n x Q' t h) b) (g6 _ hQ))⟩
  | blk id x =>
   obtain⟨e,t1,h1,g1,g2⟩:=ih _ _ _ _ hk;cases e with
   | normal=>exact⟨_,t1,h1,g1,fun Q' hQ=>g2 (fun e t h=>X.rec (motive:=fun _=>Prop) (Q' .normal t h) (fun id'=>Bool.rec (motive:=fun _=>Prop) (Q' (.exit id') t h) (Q' .normal t h) (Nat.beq id' id)) (Q' .ret t h) e) hQ⟩
   | ret=>exact⟨_,t1,h1,g1,fun Q' hQ=>g2 (fun e t h=>X.rec (motive:=fun _=>Prop) (Q' .normal t h) (fun id'=>Bool.rec (motive:=fun _=>Prop) (Q' (.exit id') t h) (Q' .normal t h) (Nat.beq id' id)) (Q' .ret t h) e) hQ⟩
   | exit id' =>
    have g1':(Bool.rec (motive:=fun _=>Prop) (Q (.exit id') t1 h1) (Q .normal t1 h1) (Nat.beq id' id):Prop):=g1
    cases hb:Nat.beq id' id with
    | true =>
     rw[hb] at g1';refine⟨_,t1,h1,g1',fun Q' hQ=>g2 (fun e t h=>X.rec (motive:=fun _=>Prop) (Q' .normal t h) (fun id'=>Bool.rec (motive:=fun _=>Prop) (Q' (.exit id') t h) (Q' .normal t h) (Nat.beq id' id)) (Q' .ret t h) e) ?_⟩
     show (Bool.rec (motive:=fun _=>Prop) (Q' (.exit id') t1 h1) (Q' .normal t1 h1) (Nat.beq id' id):Prop)
     rw[hb];exact hQ
    | false =>
     rw[hb] at g1';refine⟨_,t1,h1,g1',fun Q' hQ=>g2 (fun e t h=>X.rec (motive:=fun _=>Prop) (Q' .normal t h) (fun id'=>Bool.rec (motive:=fun _=>Prop) (Q' (.exit id') t h) (Q' .normal t h) (Nat.beq id' id)) (Q' .ret t h) e) ?_⟩
     show (Bool.rec (motive:=fun _=>Prop) (Q' (.exit id') t1 h1) (Q' .normal t1 h1) (Nat.beq id' id):Prop)
     rw[hb];exact hQ
  | loop x =>
   obtain⟨e,t1,h1,g1,g2⟩:=ih _ _ _ _ hk;cases e with
   | normal =>
    obtain⟨e2,t2,h2,g3,g4⟩:=ih _ _ _ _ g1;exact⟨e2,t2,h2,g3,fun Q' hQ=>g2 (fun e t h=>X.rec (motive:=fun _=>Prop) (fv env ho n (.loop x) Q' t h) (fun id=>Q' (.exit id) t h) (Q' .ret t h) e) (g4 _ hQ)⟩
   | exit id=>exact⟨_,t1,h1,g1,fun Q' hQ=>g2 (fun e t h=>X.rec (motive:=fun _=>Prop) (fv env ho n (.loop x) Q' t h) (fun id=>Q' (.exit id) t h) (Q' .ret t h) e) hQ⟩
   | ret=>exact⟨_,t1,h1,g1,fun Q' hQ=>g2 (fun e t h=>X.rec (motive:=fun _=>Prop) (fv env ho n (.loop x) Q' t h) (fun id=>Q' (.exit id) t h) (Q' .ret t h) e) hQ⟩

theorem S.mono{n:Nat}{c:ICode}{Q Q':X->Tr AV->Hp->Prop}{t:Tr AV}{h:Hp}(hs:S P n c Q t h)(hq:∀e t h,Q e t h->Q' e t h):S P n c Q' t h:=by
 intro nt code hc hn ro hro ρ B w a ht hsz r;refine wpIn_mono (hs nt code hc hn ro hro ρ B w a ht hsz r) ?_;rintro e a1 w1 ⟨x1,t1,h1,ρ1,rs,hx,hq1,rest⟩;exact⟨x1,t1,h1,ρ1,rs,hx,hq _ _ _ hq1,rest⟩
theorem S.reg{n:Nat}{d:Bool}{rs:List ROp}{C:zc}(hl:LC C)(hC:qcf P σ0 C){Q:X->Tr AV->Hp->Prop}{t:Tr AV}{h:Hp}(hv:qhu qv d C rs (fun t h=>Q .normal t h) t h):S P n (.reg d rs) Q t h:=by
 intro nt code hc hn ro hro ρ B w a ht hsz r;cases code<;>first|(simp[qH] at hc;done)|skip
 rename_i id ops d';simp only[qH,Bool.and_eq_true] at hc;obtain⟨⟨h1,h2⟩,h3⟩:=hc;obtain rfl:=eq_of_beq h1;cases d' with
 | false =>
  refine wpIn_region ?_
  have:=qh3 (ops:=ops) (nt:=nt) (ro:=ro) (K:=qbG σ0 Q nt n ρ B h w a.defers) (ρ0:=ρ) (h0:=h) (w0:=w) (ds:=a.defers) (qeu P) hC (fun a' w' t' h' ρ' g1 g2 g3 g4 g5 g6=>qbG.of .normal g1 g2 g3 g4 g5 (g6.kep hn))
   ops.toList rs 0 h2 rfl t h ρ w a hv ht hsz rfl r (Kept.refl _ _ _ _)
  rw[List.range_eq_range'];simpa using this
 | true =>
  simp only[Bool.not_true,Bool.false_or,Bool.and_eq_true] at h3;exact qoJ (qeu P) hl hC h2 h3.1 h3.2 hv ht hsz r (fun a' w' t' h' ρ' g1 g2 g3 g4 g5 g6=>qbG.of .normal g1 g2 g3 g4 g5 (g6.kep hn))
theorem S.seq{n:Nat}{x y:ICode}{Q:X->Tr AV->Hp->Prop}{t:Tr AV}{h:Hp}(hv:S P n x (fun e t h=>onX e (S P n y Q t h) (fun id=>Q (.exit id) t h) (Q .ret t h)) t h):S P n (.seq x y) Q t h:=by
 intro nt code hc hn ro hro ρ B w a ht hsz r;cases code<;>first|(simp[qH] at hc;done)|skip
 rename_i cx cy;simp only[qH,Bool.and_eq_true] at hc;refine wpIn_seq (wpIn_mono (hv nt cx hc.1 hn ro (nr1 hro) ρ B w a ht hsz r) ?_);rintro e a1 w1 ⟨x1,t1,h1,ρ1,rs,hx,hq,ht1,hs1,hd1,hm,r1,k1⟩;cases hx with
 | normal=>exact wpIn_mono (hq nt cy hc.2 k1.szle ro (nr2 hro) ρ1 _ w1 a1 ht1 hs1 r1) (fun e a2 w2 hp=>qbG.trans k1 hm hd1 hm.lt hp)
 | exit id=>exact⟨_,t1,h1,ρ1,rs,.exit id,hq,ht1,hs1,hd1,hm,r1,k1⟩
 | ret=>exact⟨_,t1,h1,ρ1,rs,.ret,hq,ht1,hs1,hd1,hm,r1,k1⟩
theorem S.cond{n:Nat}{c:O}{x y:ICode}{Q:X->Tr AV->Hp->Prop}{t:Tr AV}{h:Hp}(hv:evK t c (fun v=>unB v (fun b=>if b=true then S P n x Q t h else S P n y Q t h))):S P n (.cond c x y) Q t h:=by
 intro nt code hc hn ro hro ρ B w a ht hsz r;cases code<;>first|(simp[qH] at hc;done)|skip
 rename_i cc cx cy;simp only[qH,Bool.and_eq_true] at hc;obtain⟨⟨h1,h2⟩,h3⟩:=hc;obtain⟨v,h4,h5⟩:=qI ht h1 hv;obtain⟨b,h6,h7⟩:=qkc h5 h4;cases b with
 | true=>exact wpIn_cond_true h6 (h7 nt cx h2 hn ro (nr1 hro) ρ B w a ht hsz r)
 | false=>exact wpIn_cond_false h6 (h7 nt cy h3 hn ro (nr2 hro) ρ B w a ht hsz r)
theorem S.blk{n id:Nat}{x:ICode}{Q:X->Tr AV->Hp->Prop}{t:Tr AV}{h:Hp}(hv:S P n x (fun e t h=>onX e (Q .normal t h) (fun i=>if i=id then Q .normal t h else Q (.exit i) t h) (Q .ret t h)) t h):S P n (.blk id x) Q t h:=by
 intro nt code hc hn ro hro ρ B w a ht hsz r;cases code<;>first|(simp[qH] at hc;done)|skip
 rename_i id' cx;simp only[qH,Bool.and_eq_true] at hc;obtain rfl:=eq_of_beq hc.1;refine wpIn_block (wpIn_mono (hv nt cx hc.2 hn ro hro ρ B w a ht hsz r) ?_);rintro e a1 w1 ⟨x1,t1,h1,ρ1,rs,hx,hq,ht1,hs1,hd1,hm,r1,k1⟩;cases hx with
 | normal=>exact⟨_,t1,h1,ρ1,rs,.normal,hq,ht1,hs1,hd1,hm,r1,k1⟩
 | ret=>exact⟨_,t1,h1,ρ1,rs,.ret,hq,ht1,hs1,hd1,hm,r1,k1⟩
 | exit id2 =>
  show (if id2=id' then _ else _)
  have hq':(if id2=id' then Q .normal t1 h1 else Q (.exit id2) t1 h1):=hq
  by_cases he:id2=id'
  ·rw[if_pos he] at hq' ⊢;exact⟨_,t1,h1,ρ1,rs,.normal,hq',ht1,hs1,hd1,hm,r1,k1⟩
  ·rw[if_neg he] at hq' ⊢;exact⟨_,t1,h1,ρ1,rs,.exit id2,hq',ht1,hs1,hd1,hm,r1,k1⟩
theorem S.loop{n:Nat}{x:ICode}{Q:X->Tr AV->Hp->Prop}{t:Tr AV}{h:Hp}(hv:SL P n x Q t h):S P n (.loop x) Q t h:=by
 intro nt code hc hn ro hro ρ B w a ht hsz r;cases code<;>first|(simp[qH] at hc;done)|skip
 rename_i cx;exact qkU (hv nt cx (by simpa[qH] using hc) hn ro hro ρ B w a ht hsz r)
theorem SL.of_S{n:Nat}{x:ICode}{Q:X->Tr AV->Hp->Prop}{t:Tr AV}{h:Hp}(hv:S P n x (fun e t h=>onX e (SL P n x Q t h) (fun id=>Q (.exit id) t h) (Q .ret t h)) t h):SL P n x Q t h:=by
 intro nt cx hc hn ro hro ρ B w a ht hsz r;refine qiu (wpIn_mono (hv nt cx hc hn ro hro ρ B w a ht hsz r) ?_);rintro e a1 w1 ⟨x1,t1,h1,ρ1,rs,hx,hq,ht1,hs1,hd1,hm,r1,k1⟩;cases hx with
 | normal=>exact qdp.mono (hq nt cx hc k1.szle ro hro ρ1 _ w1 a1 ht1 hs1 r1) (fun e a2 w2 hp=>qbG.trans k1 hm hd1 hm.lt hp)
 | exit id=>exact⟨_,t1,h1,ρ1,rs,.exit id,hq,ht1,hs1,hd1,hm,r1,k1⟩
 | ret=>exact⟨_,t1,h1,ρ1,rs,.ret,hq,ht1,hs1,hd1,hm,r1,k1⟩
def qmd(P:Program)(env:Tr IFn):Prop:=∀f i,env.get f=some i->qc P f i=true
theorem qkz:∀{l:List AV} {n:Nat} {t:Tr AV} {k:Tr AV->Prop},qmm l n t k↔k (qbB l n t)
 | [],_,_,_=>Iff.rfl
 | v::l,n,t,k=>by
  show t.setK n v (fun t'=>qn (Nat.succ n) (fun n'=>qmm l n' t' k))↔_
  rw[Tr.setK_iff,qq,qkz];exact Iff.rfl
theorem qlq{env:Tr IFn}(he:qmd P env){ih:qi9}(hi:∀c Q t h,ih c Q t h->∀n,S P n c Q t h){f:Nat}{vs:List AV}{h:Hp}{k:AV->Hp->Prop}(hk:qlp env ih f vs h k):SC P f vs h k:=by
 obtain⟨fn,g1,g2⟩:=(Tr.getK_iff _ _ _).1 hk;cases fn with
 | mk res body =>
  have g3:=qkz.1 g2;exact SC.mk (he f _ g1) (hi _ _ _ _ g3 h.sz)
theorem qif{env:Tr IFn}{ho:qfX}(he:qmd P env)(hh:qhG P ho){ih:qi9}(hi:∀c Q t h,ih c Q t h->∀n,S P n c Q t h){f:Nat}{vs:List AV}{h:Hp}{k:AV->Hp->Prop}(hk:qgW env ho ih f vs h k):SC P f vs h k:=by
 unfold qgW at hk;cases hv:ho f vs with
 | none=>rw[hv] at hk;exact qlq he hi hk
 | some v=>rw[hv] at hk;exact hh f vs v hv h k hk
theorem qmO{env:Tr IFn}{ho:qfX}(he:qmd P env)(hh:qhG P ho):∀m,(∀c Q t h,fv env ho m c Q t h->∀n,S P n c Q t h)∧(∀x Q t h,fv env ho m (.loop x) Q t h->∀n,SL P n x Q t h)
 | 0=>⟨fun _ _ _ _ h=>h.elim,fun _ _ _ _ h=>h.elim⟩
 | m+1=>by
  obtain⟨ih,ihl⟩:=qmO he hh m
  have loop:∀x Q t h,fv env ho (m+1) (.loop x) Q t h->∀n,SL P n x Q t h:=by
   intro x Q t h hv n;have hv':fv env ho m x (fun e t h=>onX e (fv env ho m (.loop x) Q t h) (fun id=>Q (.exit id) t h) (Q .ret t h)) t h:=hv
   refine SL.of_S ((ih _ _ _ _ hv' n).mono ?_);intro e t h hq;cases e with
   | normal=>exact ihl x Q t h hq n
   | exit id=>exact hq
   | ret=>exact hq
  refine⟨fun c Q t h hv n=>?_,loop⟩
  cases c with
  | no=>exact hv.elim
  | rangeF=>exact hv.elim
  | cut x=>exact qj (c:=.cut x) (ih _ _ _ _ hv n)
  | skip=>exact qj (c:=.skip) hv
  | exit id=>exact qj (c:=.exit id) hv
  | ret=>exact qj (c:=.ret) hv
  | reg d ops=>exact S.reg (qmw env ho (qDc env ho m)) ⟨fun f vs h k hk=>qif he hh ih hk,fun _ _ _ _ hk=>hk.elim⟩ hv
  | seq x y =>
   have hv':fv env ho m x (fun e t h=>onX e (fv env ho m y Q t h) (fun id=>Q (.exit id) t h) (Q .ret t h)) t h:=hv
   refine S.seq ((ih _ _ _ _ hv' n).mono ?_);intro e t h hq;cases e with
   | normal=>exact ih y Q t h hq n
   | exit id=>exact hq
   | ret=>exact hq
  | cond c x y =>
   obtain⟨v,g1,g2⟩:=qp t c _ hv;refine S.cond (g2 _ ?_);obtain⟨b,g3,g4⟩:=qhD v _ g1;refine g4 _ ?_;cases b with
   | true=>exact ih _ _ _ _ g3 n
   | false=>exact ih _ _ _ _ g3 n
  | blk id x =>
   have hv':fv env ho m x (fun e t h=>X.rec (motive:=fun _=>Prop) (Q .normal t h) (fun id'=>Bool.rec (motive:=fun _=>Prop) (Q (.exit id') t h) (Q .normal t h) (Nat.beq id' id)) (Q .ret t h) e) t h:=hv
   refine S.blk ((ih _ _ _ _ hv' n).mono ?_);intro e t h hq;cases e with
   | normal=>exact hq
   | ret=>exact hq
   | exit i =>
    have hq':(Bool.rec (motive:=fun _=>Prop) (Q (.exit i) t h) (Q .normal t h) (Nat.beq i id):Prop):=hq
    show (if i=id then _ else _)
    by_cases hi:i=id
    ·subst hi;rw[Nat.beq_refl] at hq';rw[if_pos rfl];exact hq'
    ·rw[if_neg hi];cases hb:Nat.beq i id with
     | true=>exact absurd (Nat.eq_of_beq_eq_true hb) hi
     | false=>rw[hb] at hq';exact hq'
  | loop x=>exact S.loop (loop x Q t h hv n)
theorem SC.run{env:Tr IFn}{ho:qfX}(he:qmd P env)(hh:qhG P ho)(m:Nat){f:Nat}{vs:List AV}{h:Hp}{k:AV->Hp->Prop}(hk:qgW env ho (fv env ho m) f vs h k):SC P f vs h k:=qif he hh (qmO he hh m).1 hk
theorem qd.run{env:Tr IFn}{ho:qfX}(he:qmd P env)(hh:qhG P ho)(m:Nat){f:Nat}{vs:List AV}{v:AV}(hcl:qu vs=true)(hk:qgW env ho (fv env ho m) f vs H0 (fun v' h'=>Frz h' v' v)):qd P f vs v:=qd.of_SC hcl (SC.run he hh m hk)
end Go.Kc
end
section
namespace Go.Kc
variable {P:Program} {t:Tr AV} {h:Hp} {k:AV->Hp->Prop}

def qdH(l:List UInt8)(i:Nat):Nat×Nat:=Utf8.decode ⟨l.toArray⟩ i
theorem qA9(l:List UInt8)(i:Nat):1<=(qdH l i).2:=by
 unfold qdH Utf8.decode;dsimp only
 repeat' split
 all_goals simp
theorem qqP{x:O}:opK qv (.rangeS x) t h k↔evK t x (fun x=>match x with | .s a=>xn h (.map (zX a 0)) (fun b h'=>k (.ptr b 0) h')|_=>False):=Iff.rfl
def qwe(x:Blk)(k:List UInt8->Nat->Prop):Prop:=∃a n,x = .map (zX a n)∧k a n
@[congr] theorem qzP {x x':Blk} {k:List UInt8->Nat->Prop} {mk:Prop} (_:qV=mk) (h:x=x'):qwe x k=qwe x' k:=by rw[h]
theorem qqr{a a':List UInt8}{n n':Nat}(e:zX a n=zX a' n'):a=a'∧n=n':=by
 simp only[zX,List.cons.injEq,Prod.mk.injEq,AV.s.injEq,AV.i.injEq,true_and,and_true] at e;exact⟨e.1,Int.ofNat.inj e.2⟩
theorem qwf{a:List UInt8}{n:Nat}{k:List UInt8->Nat->Prop}:qwe (.map (zX a n)) k↔k a n:=by
 constructor
 ·rintro⟨a',n',h1,h2⟩;obtain⟨rfl,rfl⟩:=qqr (Blk.map.inj h1);exact h2
 ·intro h1;exact⟨a,n,rfl,h1⟩
theorem qtV{x:O}:opK qv (.nextS x) t h k↔evK t x (fun x=>unP x (fun b o=>ifK (o=0) (evB (h.tr.get b) (fun y=>qwe y (fun a n=>if n<a.length then evN (n+(qdH a n).2) (fun m=>qas h b (.map (zX a m)) (fun h'=>evA (.i .i32 ((qdH a n).1:Int)) (fun c=>k (.tup [.b true,.i .i64 (n:Int),c]) h'))) else k (.tup [.b false]) h))))):=by
 show evK t x (fun x=>unP x (fun b o=>qh (Nat.beq o 0) (qkQ h b _)))↔_
 refine iff_of_eq (congrArg _ (funext fun v=>congrArg _ (funext fun b=>funext fun o=>?_)))
 rw[show (qh (Nat.beq o 0)=fun p=>ifK (o=0) p) from by funext p;exact propext ((qa _ _).trans (by rw[qeg];exact Iff.rfl))]
 refine congrArg _ (propext (qfL.trans ?_))
 have body:∀a n,(match a[n]? with
  | some c=>(Bool.rec (motive:=fun _=>Prop)
    (qas h b (.map (zX a (Nat.add n (Utf8.decode ⟨a.toArray⟩ n).2))) (fun h'=>k (.tup [.b true,.i .i64 (Int.ofNat n),.i .i32 (Int.ofNat (Utf8.decode ⟨a.toArray⟩ n).1)]) h'))
    (qn (Nat.succ n) (fun m=>qas h b (.map (zX a m)) (fun h'=>k (.tup [.b true,.i .i64 (Int.ofNat n),.i .i32 (Int.ofNat c.toNat)]) h')))
    (Nat.ble (Nat.succ c.toNat) 128):Prop)
  | none=>k (.tup [.b false]) h)↔if n<a.length then evN (n+(qdH a n).2) (fun m=>qas h b (.map (zX a m)) (fun h'=>evA (.i .i32 ((qdH a n).1:Int)) (fun c=>k (.tup [.b true,.i .i64 (n:Int),c]) h'))) else k (.tup [.b false]) h:=by
  intro a n
  by_cases hi:n<a.length
  ·rw[if_pos hi,zzE hi];dsimp only;cases hc:Nat.ble (Nat.succ a[n].toNat) 128 with
   | false=>exact Iff.rfl
   | true =>
    have hlt:=Nat.le_of_ble_eq_true hc;have hd:qdH a n=(a[n].toNat,1):=qg1 (zzE hi) (by omega);show qn _ _↔_;rw[qq,hd];exact Iff.rfl
  ·rw[if_neg hi,List.getElem?_eq_none (by omega)]
 constructor
 ·rintro⟨a,n,h1,h2⟩;exact⟨_,h1,a,n,rfl,(body a n).1 h2⟩
 ·rintro⟨_,h1,a,n,rfl,h2⟩;exact⟨a,n,h1,(body a n).2 h2⟩
def qc6(es:List (AV×AV)):Prop:=∀e ∈ es,clo e.1=true∧clo e.2=true
theorem qyZ{r:Nat->Nat}{m b:Nat}{es:List (AV×AV)}(hb:b<h.sz):BW h r m b (.map es)↔evB (h.tr.get b) (fun x=>qne x (fun es'=>EsW r m es' es)):=by
 constructor
 ·rintro (h1|h1|⟨e',w0,a0,cs,w',a',cs'',h1,h2,h3,h4,h5⟩|⟨es',es2,h1,h2,h3⟩)
  ·omega
  ·cases h1
  ·cases h2
  ·cases h2;exact⟨_,h1,h3⟩
 ·rintro⟨x,h1,h2⟩;cases x with
  | map es'=>exact .inr (.inr (.inr ⟨_,_,h1,rfl,h2⟩))
  | dead=>exact h2.elim
  | cells e0 w0 a0 cs=>exact h2.elim
theorem qlE{r:Nat->Nat}{m:Nat}{es es':List (AV×AV)}(hn:∀lr ts,es'≠zq lr ts):EsW r m es es'↔es=es'∧qc6 es' :=
 ⟨fun h=>by
  rcases h with⟨rfl,h⟩|⟨lr,ts,ts',_,h,_⟩
  ·exact⟨rfl,h⟩
  ·exact absurd h (hn _ _),fun⟨h1,h2⟩=>by subst h1;exact .inl ⟨rfl,h2⟩⟩
theorem qvH{r:Nat->Nat}{m:Nat}{es:List (AV×AV)}:EsW r m es []↔es=[]:=(qlE (by simp[zq])).trans ⟨And.left,fun h=>⟨h,by intro e he;cases he⟩⟩
theorem qC5{r:Nat->Nat}{m:Nat}{es es':List (AV×AV)}{a:List UInt8}{v:AV}:EsW r m es ((.s a,v)::es')↔es=(.s a,v)::es'∧qc6 ((.s a,v)::es'):=qlE (by simp[zq])
theorem qC4{r:Nat->Nat}{m:Nat}{es es':List (AV×AV)}{q:IntKind}{a:Int}{v:AV}:EsW r m es ((.i q a,v)::es')↔es=(.i q a,v)::es'∧qc6 ((.i q a,v)::es'):=qlE (by simp[zq])
theorem qzu{r:Nat->Nat}{m:Nat}{es:List (AV×AV)}{a:List UInt8}{n:Nat}:EsW r m es (zX a n)↔es=zX a n∧qc6 (zX a n):=qlE (by simp[zX,zq])
theorem qvI{r:Nat->Nat}{m:Nat}{lr lr':Loop}{ts ts':List (Nat×AV)}:EsW r m (zq lr ts) (zq lr' ts')↔lr=lr'∧TsW r m ts ts' :=
 ⟨fun h=>by
  rcases h with⟨h1,h⟩|⟨l,t1,t2,h1,h2,h3⟩
  ·exact absurd (h (.lp lr,.undef) (by simp[zq])).1 (by simp[clo])
  ·obtain⟨rfl,rfl⟩:=qjT h1;obtain⟨rfl,rfl⟩:=qjT h2;exact⟨rfl,h3⟩,fun⟨h1,h2⟩=>by subst h1;exact .inr ⟨_,_,_,rfl,rfl,h2⟩⟩
theorem qxK{r:Nat->Nat}{m:Nat}{ts:List (Nat×AV)}:TsW r m ts []↔True:=iff_true_intro (by intro p hp;cases hp)
theorem quK{r:Nat->Nat}{m:Nat}{ts ts':List (Nat×AV)}{p:Nat×AV}:TsW r m ts (p::ts')↔evO (qir ts p.1) (fun v=>NV r m v p.2)∧TsW r m ts ts':=by
 simp only[TsW,List.mem_cons,forall_eq_or_imp];exact Iff.rfl
theorem qn9{p:Nat×AV}{l:List (Nat×AV)}{j:Nat}:qir (p::l) j=if p.1=j then some p.2 else qir l j:=rfl
theorem qqC{a:List UInt8}{n:Nat}:qc6 (zX a n)↔True:=by
 refine iff_true_intro ?_;intro e he;simp only[zX,List.mem_cons,List.mem_nil_iff,or_false] at he;rcases he with rfl|rfl<;>exact⟨rfl,rfl⟩
theorem qoa:qc6 []↔True:=iff_true_intro (by intro e he;cases he)
theorem qiv{e:AV×AV}{es:List (AV×AV)}:qc6 (e::es)↔(clo e.1=true∧clo e.2=true)∧qc6 es:=by simp[qc6]
theorem SC.nil0{f:Nat}{k:AV->Hp->Prop}(h1:SC P f [.nils] h k)(h2:SC P f [.nz] h k):SC P f [.fz 0 []] h k:=by
 refine⟨h1.1,fun ρ B w args r ha=>?_⟩
 generalize hl:args.toList=xs at ha;cases ha with
 | cons _ _ x xs hx hxs =>
  cases hx with
  | fz _ off c _ k' arr hn hk hs=>exact h2.2 ρ B w args r (by rw[hl];exact .cons _ _ _ _ (.nz _ _) hxs)
  | fz0 a =>
   cases a with
   | none=>exact h1.2 ρ B w args r (by rw[hl];exact .cons _ _ _ _ .nils hxs)
   | some a=>exact h2.2 ρ B w args r (by rw[hl];exact .cons _ _ _ _ (.nz _ _) hxs)
theorem qr{r:Nat->Nat}{m:Nat}{vs:List AV}(hc:qu vs=true):NVs r m vs vs↔True:=iff_true_intro (NVs.refl hc)
theorem ze{vs:List AV}(hc:qu vs=true):Frzs h vs vs↔True:=iff_true_intro (Frzs.self hc)
theorem Wk.mkn{n:Nat}{t:Tr AV}(ts:List (Nat×AV))(bl:List Blk)(src:List Nat)(hT:TWs t (rl src h.sz) bl.length ts)(hB:BWs h (rl src h.sz) bl.length src bl)
  (hI:((src.filter fun b=>decide (b<h.sz)).Nodup)) (hfl:h.fl=0) (hn:n<=bl.length) (hlow:∀b,b<n->rl src h.sz b=b):Wk n t h (mkT ts) (mkH 0 bl):=by
 obtain⟨hlen,hget⟩:=hB.get;refine Wk.of (r:=rl src h.sz) ⟨hfl.symm,fun b' x' hb hg=>?_,fun b1 b2 h1 h2 _ _ he hl=>?_,fun b' _ _ _=>by rw[hfl];exact Nat.zero_le _,hlow,hn,fun b _ hb=>by rw[hfl] at hb;exact absurd hb (Nat.not_lt_zero _),fun j v' hj=>?_⟩
 ·rw[xK] at hg;obtain⟨b,q1,q2⟩:=hget b' x' hg;have:rl src h.sz b'=b:=by simp[rl,List.getD_eq_getElem?_getD,q1]
  rw[this];exact q2
 ·have h1:b1<src.length:=by rw[hlen];exact h1
  have h2:b2<src.length:=by rw[hlen];exact h2
  simp only[rl,List.getD_eq_getElem?_getD,zzE h1,zzE h2,Option.getD_some] at he hl;exact Wk.mk.nodup_filter_inj hI h1 h2 he (by simpa using hl)
 ·exact hT.get _ (qdi hj)
end Go.Kc
end
section
namespace Go.Kc
variable {P:Program}

mutual
def rnv(g:Nat->Nat):AV->AV
 | .ptr b o=>.ptr (g b) o
 | .sl b o n c l=>.sl (g b) o n c l
 | .map b=>.map (g b)
 | .own b n=>.own (g b) n
 | .yl b=>.yl (g b)
 | .fn f a c=>.fn f (qaQ g a) (qaQ g c)
 | .ifc t v=>.ifc t (rnv g v)
 | .agg cs=>.agg (qaQ g cs)
 | .tup cs=>.tup (qaQ g cs)
 | v=>v
def qaQ(g:Nat->Nat):List AV->List AV
 | []=>[]
 | v::vs=>rnv g v::qaQ g vs
end
mutual
def bnd(m:Nat):AV->Bool
 | .ptr b _=>decide (b<m)
 | .sl b _ _ _ _=>decide (b<m)
 | .map b=>decide (b<m)
 | .own b _=>decide (b<m)
 | .yl b=>decide (b<m)
 | .fn _ a c=>qaH m a&&qaH m c
 | .ifc _ v=>bnd m v
 | .agg cs=>qaH m cs
 | .tup cs=>qaH m cs
 | _=>true
def qaH(m:Nat):List AV->Bool
 | []=>true
 | v::vs=>bnd m v&&qaH m vs
end
theorem qjZ{g:Nat->Nat}:∀{vs:List AV} {j:Nat},(qaQ g vs)[j]?=(vs[j]?).map (rnv g)
 | [],j=>by simp[qaQ]
 | v::vs,0=>by simp[qaQ]
 | v::vs,j+1=>by simpa[qaQ] using qjZ (vs:=vs) (j:=j)
theorem qaw{g:Nat->Nat}:∀{vs:List AV},(qaQ g vs).length=vs.length
 | []=>rfl
 | v::vs=>by simp[qaQ,qaw (vs:=vs)]
theorem qmr{m:Nat}:∀{vs:List AV} {j:Nat} {v:AV},qaH m vs=true->vs[j]?=some v->bnd m v=true
 | [],_,_,_,h=>by simp at h
 | x::xs,0,_,hb,h=>by
  simp only[qaH,Bool.and_eq_true] at hb;simp at h;subst h;exact hb.1
 | x::xs,j+1,_,hb,h=>by
  simp only[qaH,Bool.and_eq_true] at hb;exact qmr (vs:=xs) (j:=j) hb.2 (by simpa using h)
mutual
theorem VR.rn{ρ2 ρ3:Ren}{g:Nat->Nat}(h1:∀b L,ρ2 b=some L->ρ3 (g b)=some L)(h2:∀k a,ρ2.frz k=some a->ρ3.frz k=some a)(h3:∀b,b<ρ2.n->g b<ρ3.n):∀{v:AV} {x:Value},VR σ0 ρ2 v x->VR σ0 ρ3 (rnv g v) x
 | _,_,.undef v=>.undef v
 | _,_,.b x=>.b x
 | _,_,.i k n=>.i k n
 | _,_,.s x=>.s x
 | _,_,.nilp=>.nilp
 | _,_,.ptr b o L h=>.ptr _ _ L (h1 _ _ h)
 | _,_,.nils=>.nils
 | _,_,.sl b o len cap c loose L h hc=>.sl _ _ _ _ _ _ L (h1 _ _ h) hc
 | _,_,.slz b o x l' L h=>.slz _ _ _ _ L (h1 _ _ h)
 | _,_,.nilf=>.nilf
 | _,_,.fn f first cap first' cap' q1 q2=>.fn _ _ _ _ _ (VRs.rn h1 h2 h3 q1) (VRs.rn h1 h2 h3 q2)
 | _,_,.nili=>.nili
 | _,_,.ifc t v v' h=>.ifc _ _ _ (VR.rn h1 h2 h3 h)
 | _,_,.agg cs cs' h=>.agg _ _ (VRs.rn h1 h2 h3 h)
 | _,_,.tup cs cs' h=>.tup _ _ (VRs.rn h1 h2 h3 h)
 | _,_,.nilm=>.nilm
 | _,_,.map b L h h0=>.map _ L (h1 _ _ h) h0
 | _,_,.sym j=>.sym j
 | _,_,.fz n off c cs k arr hn h hs=>.fz n off c cs k arr hn (h2 _ _ h) (hs.mono h2)
 | _,_,.fz0 a=>.fz0 a
 | _,_,.pf off base cs k arr h hs=>.pf off base cs k arr (h2 _ _ h) (hs.mono h2)
 | _,_,.e0 a=>.e0 a
 | _,_,.nz a c=>.nz a c
 | _,_,.own0 b a hb=>.own0 _ _ (h3 _ hb)
 | _,_,.own b n c L h hn hc'=>.own _ _ _ L (h1 _ _ h) hn hc'
 | _,_,.yl b L h=>.yl _ L (h1 _ _ h)
theorem VRs.rn{ρ2 ρ3:Ren}{g:Nat->Nat}(h1:∀b L,ρ2 b=some L->ρ3 (g b)=some L)(h2:∀k a,ρ2.frz k=some a->ρ3.frz k=some a)(h3:∀b,b<ρ2.n->g b<ρ3.n):∀{v:List AV} {x:List Value},VRs σ0 ρ2 v x->VRs σ0 ρ3 (qaQ g v) x
 | _,_,.nil=>.nil
 | _,_,.cons v vs v' vs' h hs=>.cons _ _ _ _ (VR.rn h1 h2 h3 h) (VRs.rn h1 h2 h3 hs)
end
mutual
theorem VR.nr{ρ ρs:Ren}{g:Nat->Nat}{m:Nat}(h1:∀b L,b<m->ρ (g b)=some L->ρs b=some L)(h2:ρs.frz=ρ.frz)(h3:ρs.n=m):∀{v:AV} {x:Value},bnd m v=true->VR σ0 ρ (rnv g v) x->VR σ0 ρs v x
 | .undef,_,_,h=>by cases h;exact .undef _
 | .b _,_,_,h=>by cases h;exact .b _
 | .i _ _,_,_,h=>by cases h;exact .i _ _
 | .s _,_,_,h=>by cases h;exact .s _
 | .nilp,_,_,h=>by cases h;exact .nilp
 | .ptr b o,_,hb,h=>by
  simp only[bnd,decide_eq_true_eq] at hb;cases h with
  | ptr _ _ L q=>exact .ptr _ _ L (h1 _ _ hb q)
 | .nils,_,_,h=>by cases h;exact .nils
 | .sl b o n c l,_,hb,h=>by
  simp only[bnd,decide_eq_true_eq] at hb;cases h with
  | sl _ _ _ _ _ _ L q hc=>exact .sl _ _ _ _ _ _ L (h1 _ _ hb q) hc
  | slz _ _ _ _ L q=>exact .slz _ _ _ _ L (h1 _ _ hb q)
 | .nilf,_,_,h=>by cases h;exact .nilf
 | .fn f a c,_,hb,h=>by
  simp only[bnd,Bool.and_eq_true] at hb;cases h with
  | fn _ _ _ _ _ q1 q2=>exact .fn _ _ _ _ _ (VRs.nr h1 h2 h3 hb.1 q1) (VRs.nr h1 h2 h3 hb.2 q2)
 | .nili,_,_,h=>by cases h;exact .nili
 | .ifc t v,_,hb,h=>by
  simp only[bnd] at hb;cases h with
  | ifc _ _ _ q=>exact .ifc _ _ _ (VR.nr h1 h2 h3 hb q)
 | .agg cs,_,hb,h=>by
  simp only[bnd] at hb;cases h with
  | agg _ _ q=>exact .agg _ _ (VRs.nr h1 h2 h3 hb q)
 | .tup cs,_,hb,h=>by
  simp only[bnd] at hb;cases h with
  | tup _ _ q=>exact .tup _ _ (VRs.nr h1 h2 h3 hb q)
 | .nilm,_,_,h=>by cases h;exact .nilm
 | .map b,_,hb,h=>by
  simp only[bnd,decide_eq_true_eq] at hb;cases h with
  | map _ L q h0=>exact .map _ L (h1 _ _ hb q) h0
 | .sym j,_,_,h=>by cases h;exact .sym _
 | .fz n cs,_,_,h=>by
  cases h with
  | fz _ off c _ k arr hn q hs=>exact .fz _ off c _ k arr hn (by rw[h2];exact q) (by rw[h2];exact hs)
  | fz0 a=>exact .fz0 a
 | .pf cs o,_,_,h=>by
  cases h with
  | pf off base _ k arr q hs=>exact .pf _ base _ k arr (by rw[h2];exact q) (by rw[h2];exact hs)
 | .e0,_,_,h=>by cases h;exact .e0 _
 | .nz,_,_,h=>by cases h;exact .nz _ _
 | .own b n,_,hb,h=>by
  simp only[bnd,decide_eq_true_eq] at hb;cases h with
  | own0 _ a q=>exact .own0 _ _ (by rw[h3];exact hb)
  | own _ _ c L q hn hc=>exact .own _ _ c L (h1 _ _ hb q) hn hc
 | .yl b,_,hb,h=>by
  simp only[bnd,decide_eq_true_eq] at hb;cases h with
  | yl _ L q=>exact .yl _ L (h1 _ _ hb q)
 | .lp _,_,_,h=>by cases h
theorem VRs.nr{ρ ρs:Ren}{g:Nat->Nat}{m:Nat}(h1:∀b L,b<m->ρ (g b)=some L->ρs b=some L)(h2:ρs.frz=ρ.frz)(h3:ρs.n=m):∀{v:List AV} {x:List Value},qaH m v=true->VRs σ0 ρ (qaQ g v) x->VRs σ0 ρs v x
 | [],_,_,h=>by cases h;exact .nil
 | v::vs,_,hb,h=>by
  simp only[qaH,Bool.and_eq_true] at hb;cases h with
  | cons _ _ _ _ q1 q2=>exact .cons _ _ _ _ (VR.nr h1 h2 h3 hb.1 q1) (VRs.nr h1 h2 h3 hb.2 q2)
end

def gAt(at':List Nat)(d:Nat):Nat->Nat:=fun b=>if b<at'.length then at'.getD b 0 else d+(b-at'.length)
theorem qds{at':List Nat}{d b:Nat}(h:b<at'.length):gAt at' d b=at'[b]:=by
 simp[gAt,h]
theorem qjv{at':List Nat}{d b:Nat}(h:at'.length<=b):gAt at' d b=d+(b-at'.length):=by
 simp only[gAt];rw[if_neg (by omega)]
structure Lent (h:Hp) (at':List Nat) (bs:List Blk):Prop where
 len:at'.length=bs.length
 nd:at'.Nodup
 blk:∀i x,bs[i]?=some x->∃e a cs,x = .cells e true a cs∧qaH bs.length cs=true∧h.tr.get (gAt at' h.sz i)=some (.cells e true a (qaQ (gAt at' h.sz) cs))∧h.fl<=gAt at' h.sz i∧gAt at' h.sz i<h.sz
def Ren.small(ρ:Ren)(at':List Nat)(d:Nat):Ren:=⟨fun i=>if i<at'.length then ρ (gAt at' d i) else none,ρ.frz,at'.length⟩
theorem qdb{ρ:Ren}{at':List Nat}{d i:Nat}{L:Loc}(h:ρ.small at' d i=some L):i<at'.length∧ρ (gAt at' d i)=some L:=by
 simp only[Ren.small] at h;split at h
 ·exact⟨by assumption,h⟩
 ·cases h
def Bar(ρ:Ren)(B:Nat->Prop)(h:Hp)(at':List Nat):Nat->Prop:=fun k=>B k∨∃b L x,ρ b=some L∧b ∉ at'∧h.tr.get b=some x∧x≠.dead∧L.blk=k
theorem Lent.inj{h:Hp}{at':List Nat}{bs:List Blk}(l:Lent h at' bs){i j:Nat}(hi:i<at'.length)(hj:j<at'.length)(he:gAt at' h.sz i=gAt at' h.sz j):i=j:=by
 rw[qds hi,qds hj] at he;exact (List.getElem_inj l.nd).1 he
theorem Lent.mem{h:Hp}{at':List Nat}{i:Nat}(hi:i<at'.length):gAt at' h.sz i ∈ at':=by
 rw[qds hi];exact List.getElem_mem _
theorem Rel.small{ρ:Ren}{B:Nat->Prop}{h:Hp}{w:World}{at':List Nat}{bs:List Blk}(r:Rel σ0 ρ B h w)(l:Lent h at' bs):Rel σ0 (ρ.small at' h.sz) (Bar ρ B h at') (mkH 0 bs) w:=by
 have get:∀i L x,ρ.small at' h.sz i=some L->(mkH 0 bs).tr.get i=some x->i<at'.length∧ρ (gAt at' h.sz i)=some L∧∃e a cs,x = .cells e true a cs∧qaH bs.length cs=true∧h.tr.get (gAt at' h.sz i)=some (.cells e true a (qaQ (gAt at' h.sz) cs))∧h.fl<=gAt at' h.sz i:=by
  intro i L x h1 h2;obtain⟨h3,h4⟩:=qdb h1;rw[xK] at h2;obtain⟨e,a,cs,h5,h6,h7,h8,_⟩:=l.blk i x h2;exact⟨h3,h4,e,a,cs,h5,h6,h7,h8⟩
 refine⟨fun i L hb=>?_,?_,?_,?_,?_,?_,?_,?_,?_,?_⟩
 ·have:=(qdb hb).1;rw[l.len] at this;exact this
 ·intro i L e wf af cs hb hg;obtain⟨h1,h2,e',a,cs',h3,h4,h5,h6⟩:=get i L _ hb hg;cases h3;obtain⟨q1,c,ty,fz,q2,q3,q4,q5,q6⟩:=r.cells _ L _ _ _ _ h2 h5;rw[qaw] at q4;refine⟨q1,c,ty,fz,q2,q3,q4,fun j v hv=>?_,q6⟩
  obtain⟨v',p1,p2⟩:=q5 j (rnv (gAt at' h.sz) v) (by rw[qjZ,hv];rfl)
  exact⟨v',p1,VR.nr (ρ:=ρ) (ρs:=ρ.small at' h.sz) (g:=gAt at' h.sz) (m:=bs.length) (fun b L hbm hbL=>by
   show (if b<at'.length then ρ (gAt at' h.sz b) else none)=some L
   rw[if_pos (by rw[l.len];exact hbm)];exact hbL) rfl l.len (qmr h4 hv) p2⟩
 ·intro i L es hb hg;obtain⟨_,_,e',a,cs',h3,_⟩:=get i L _ hb hg;cases h3
 ·intro b L e af cs hb hg b' L' x hb' hx hd he;obtain⟨h1,h2,e',a,cs',h3,h4,h5,h6⟩:=get b L _ hb hg;obtain⟨i1,i2,e2,a2,cs2,i3,i4,i5,i6⟩:=get b' L' _ hb' hx;exact l.inj i1 h1 (r.excl _ L _ _ _ h2 h5 _ L' _ i2 i5 (by simp) he)
 ·intro b L es hb hg;obtain⟨_,_,e',a,cs',h3,_⟩:=get b L _ hb hg;cases h3
 ·intro b L e wf cs hb hg b' L' e' wf' af' cs' hb' hx he;obtain⟨h1,h2,e1,a1,cs1,h3,h4,h5,h6⟩:=get b L _ hb hg;obtain⟨i1,i2,e2,a2,cs2,i3,i4,i5,i6⟩:=get b' L' _ hb' hx;cases h3;cases i3;have q:=r.app _ L _ _ _ h2 h5 _ L' _ _ _ _ i2 i5 he;rw[qaw,qaw] at q;exact⟨q.1,fun hh=>l.inj i1 h1 (q.2 hh)⟩
 ·intro i L hb _ hbar;have hi:=(qdb hb).1;have hi':i<bs.length:=by rw[← l.len];exact hi
  obtain⟨h1,h2,e',a,cs',h3,h4,h5,h6⟩:=get i L bs[i] hb (by rw[xK,zzE hi']);rcases hbar with hB|⟨b,L',x,g1,g2,g3,g4,g5⟩
  ·exact r.flr _ L h2 h6 hB
  ·have:=r.excl _ L _ _ _ h2 h5 b L' x g1 g3 g4 g5;exact g2 (this ▸ Lent.mem hi)
 ·rintro k (hB|⟨b,L',x,g1,g2,g3,g4,rfl⟩)
  ·exact r.base k hB
  ·exact r.blk_lt b L' g1 x g3 g4
 ·intro k arr hk;refine⟨(r.frz k arr hk).1,fun b L x hb hx hd=>?_⟩
  obtain⟨h1,h2,e',a,cs',h3,h4,h5,h6⟩:=get b L _ hb hx;exact (r.frz k arr hk).2 _ L _ h2 h5 (by simp)
 ·refine⟨?_,fun b L h=>r.dn.2 _ L (qdb h).2⟩
  show at'.length<=bs.length;rw[l.len];exact Nat.le_refl _

def rnb(g:Nat->Nat):Blk->Blk
 | .cells e w a cs=>.cells e w a (qaQ g cs)
 | .dead=>.dead
 | .map _=>.dead
noncomputable def qdF:Hp->List Nat->List Blk->Hp
 | h,b::at',x::xs=>qdF (h.put b x) at' xs
 | h,_,_=>h
theorem qhp:∀{at':List Nat} {xs:List Blk} {h:Hp},(qdF h at' xs).sz=h.sz
 | [],_,_=>by simp[qdF]
 | _::_,[],_=>by simp[qdF]
 | b::at',x::xs,h=>by
  show (qdF (h.put b x) at' xs).sz=_;rw[qhp];rfl
theorem qpg:∀{at':List Nat} {xs:List Blk} {h:Hp},(qdF h at' xs).fl=h.fl
 | [],_,_=>by simp[qdF]
 | _::_,[],_=>by simp[qdF]
 | b::at',x::xs,h=>by
  show (qdF (h.put b x) at' xs).fl=_;rw[qpg];rfl
theorem qjR:∀{at':List Nat} {xs:List Blk} {h:Hp} {b:Nat},b ∉ at'->(qdF h at' xs).tr.get b=h.tr.get b
 | [],_,_,_,_=>by simp[qdF]
 | _::_,[],_,_,_=>by simp[qdF]
 | c::at',x::xs,h,b,hb=>by
  show (qdF (h.put c x) at' xs).tr.get b=_;rw[qjR (fun hh=>hb (List.mem_cons_of_mem _ hh))]
  simp only[Hp.put,Tr.get_set];rw[if_neg (fun hh=>hb (by simp[hh]))]
theorem qph:∀{at':List Nat} {xs:List Blk} {h:Hp} {i b:Nat},at'.Nodup->at'.length=xs.length->at'[i]?=some b->(qdF h at' xs).tr.get b=xs[i]?
 | [],_,_,_,_,_,_,hi=>by simp at hi
 | _::_,[],_,_,_,_,hl,_=>by simp at hl
 | c::at',x::xs,h,0,b,hn,hl,hi=>by
  simp at hi;subst hi;show (qdF (h.put c x) at' xs).tr.get c=_;rw[qjR (List.nodup_cons.1 hn).1];simp[Hp.put,Tr.get_set]
 | c::at',x::xs,h,i+1,b,hn,hl,hi=>by
  show (qdF (h.put c x) at' xs).tr.get b=_;rw[qph (List.nodup_cons.1 hn).2 (by simpa using hl) (by simpa using hi)];simp
noncomputable def qcq(h:Hp)(at':List Nat)(bs2:List Blk):Hp:=xV (qdF h at' ((bs2.take at'.length).map (rnb (gAt at' h.sz)))) ((bs2.drop at'.length).map (rnb (gAt at' h.sz)))
def Ren.back(ρ ρ2:Ren)(at':List Nat)(d l:Nat):Ren:=⟨fun b=>if b<d then ρ b else ρ2 (b-d+at'.length),ρ2.frz,d+(l-at'.length)⟩
theorem qjc{h:Hp}{at':List Nat}{bs2:List Blk}:(qcq h at' bs2).sz=h.sz+(bs2.length-at'.length):=by
 unfold qcq;rw[qd7,qhp];simp
theorem qmo{h:Hp}{at':List Nat}{bs2:List Blk}:(qcq h at' bs2).fl=h.fl:=by
 unfold qcq;rw[qfr,qpg]
theorem qkB{h:Hp}{at':List Nat}{bs2:List Blk}{b:Nat}(hb:b<h.sz)(hm:b ∉ at'):(qcq h at' bs2).tr.get b=h.tr.get b:=by
 unfold qcq;rw[qbb,qhp,if_pos hb,qjR hm]
theorem qrx{h:Hp}{at':List Nat}{bs2:List Blk}(hn:at'.Nodup)(hl:at'.length<=bs2.length)(hlt:∀b ∈ at',b<h.sz){i:Nat}(hi:i<at'.length):(qcq h at' bs2).tr.get (gAt at' h.sz i)=(bs2[i]?).map (rnb (gAt at' h.sz)):=by
 have hm:gAt at' h.sz i ∈ at':=Lent.mem hi;unfold qcq;rw[qbb,qhp,if_pos (hlt _ hm),qph (i:=i) hn (by simp;omega) (by rw[qds hi];exact zzE hi),List.getElem?_map,List.getElem?_take_of_lt hi]
theorem qpT{h:Hp}{at':List Nat}{bs2:List Blk}{i:Nat}(hi:at'.length<=i)(hi2:i<bs2.length):(qcq h at' bs2).tr.get (gAt at' h.sz i)=(bs2[i]?).map (rnb (gAt at' h.sz)):=by
 unfold qcq;rw[qjv hi,qbb,qhp,if_neg (by omega),if_pos (by simp;omega),List.getElem?_map,List.getElem?_drop];rw[show at'.length+(h.sz+(i-at'.length)-h.sz)=i from by omega]
theorem Rel.back{ρ ρ2:Ren}{B:Nat->Prop}{h:Hp}{w w1:World}{at':List Nat}{bs bs2:List Blk}(r:Rel σ0 ρ B h w)(l:Lent h at' bs)(r2:Rel σ0 ρ2 (Bar ρ B h at') (mkH 0 bs2) w1)(hl:at'.length<=bs2.length)
  (he:∀i,i<at'.length->ρ2 i=ρ.small at' h.sz i) (hp:∀k,Bar ρ B h at' k->w1.heap[k]?=w.heap[k]?) (hw:w.heap.size<=w1.heap.size)
  (f1:∀k a,ρ.frz k=some a->ρ2.frz k=some a) (f2:∀k a,ρ2.frz k=some a->ρ.frz k=some a∨¬Bar ρ B h at' k):(∀b L,ρ2 b=some L->ρ.back ρ2 at' h.sz bs2.length (gAt at' h.sz b)=some L)∧Rel σ0 (ρ.back ρ2 at' h.sz bs2.length) B (qcq h at' bs2) w1:=by
 have hlt:∀b ∈ at',b<h.sz:=by
  intro b hb;obtain⟨i,hi,rfl⟩:=List.getElem_of_mem hb;have hi':i<bs.length:=by rw[← l.len];exact hi
  obtain⟨_,_,_,_,_,_,_,h6⟩:=l.blk i bs[i] (zzE hi');rwa [qds hi] at h6
 have up:∀b L,ρ2 b=some L->ρ.back ρ2 at' h.sz bs2.length (gAt at' h.sz b)=some L:=by
  intro b L hb;show (if gAt at' h.sz b<h.sz then ρ (gAt at' h.sz b) else ρ2 (gAt at' h.sz b-h.sz+at'.length))=some L
  by_cases hbm:b<at'.length
  ·rw[if_pos (hlt _ (Lent.mem hbm))];rw[he b hbm] at hb;exact (qdb hb).2
  ·rw[qjv (by omega),if_neg (by omega),show h.sz+(b-at'.length)-h.sz+at'.length=b from by omega]
   exact hb
 refine⟨up,?_⟩
 have nle:∀b,b<ρ2.n->gAt at' h.sz b<h.sz+(bs2.length-at'.length):=by
  intro b hb;have hb2:b<bs2.length:=Nat.lt_of_lt_of_le hb r2.dn.1
  by_cases hbm:b<at'.length
  ·have:=hlt _ (Lent.mem (h:=h) hbm);omega
  ·rw[qjv (by omega)];omega
 have le1:∀b L,ρ b=some L->ρ.back ρ2 at' h.sz bs2.length b=some L:=by
  intro b L hb;show (if b<h.sz then ρ b else _)=some L
  rw[if_pos (r.dom b L hb)];exact hb
 have le2:ρ.le (ρ.back ρ2 at' h.sz bs2.length):=⟨le1,f1,Nat.le_trans r.dn.1 (Nat.le_add_right _ _)⟩
 -- a block: an old one that stayed,or one of the small heap
 have split:∀b L,ρ.back ρ2 at' h.sz bs2.length b=some L->(b ∉ at'∧ρ b=some L∧(qcq h at' bs2).tr.get b=h.tr.get b) ∨
   ∃c,b=gAt at' h.sz c∧ρ2 c=some L∧(qcq h at' bs2).tr.get b=((mkH 0 bs2).tr.get c).map (rnb (gAt at' h.sz)):=by
  intro b L hb;have hb':(if b<h.sz then ρ b else ρ2 (b-h.sz+at'.length))=some L:=hb
  by_cases hbs:b<h.sz
  ·rw[if_pos hbs] at hb'
   by_cases hm:b ∈ at'
   ·obtain⟨i,hi,rfl⟩:=List.getElem_of_mem hm;refine .inr ⟨i,(qds hi).symm,?_,?_⟩
    ·rw[he i hi];show (if i<at'.length then ρ (gAt at' h.sz i) else none)=some L
     rw[if_pos hi,qds hi];exact hb'
    ·have:=qrx (bs2:=bs2) l.nd hl hlt hi;rw[qds hi] at this;rw[this,xK]
   ·exact .inl ⟨hm,hb',qkB hbs hm⟩
  ·rw[if_neg hbs] at hb';have hc:b-h.sz+at'.length<bs2.length:=r2.dom _ L hb';have e:gAt at' h.sz (b-h.sz+at'.length)=b:=by rw[qjv (by omega)];omega
   refine .inr ⟨b-h.sz+at'.length,e.symm,hb',?_⟩;have:=qpT (h:=h) (at':=at') (bs2:=bs2) (i:=b-h.sz+at'.length) (by omega) hc;rw[e] at this;rw[this,xK]
 have apart:∀b L x c L2,b ∉ at'->ρ b=some L->h.tr.get b=some x->x≠.dead->ρ2 c=some L2->L2.blk≠L.blk:=by
  intro b L x c L2 h1 h2 h3 h4 h5 h6;exact r2.flr c L2 h5 (Nat.zero_le _) (.inr ⟨b,L,x,h2,h1,h3,h4,h6.symm⟩)
 have shc:∀{o:Option Blk} {e:Nat} {w a:Bool} {cs:List AV},o.map (rnb (gAt at' h.sz))=some (.cells e w a cs)->∃cs0,o=some (.cells e w a cs0)∧cs=qaQ (gAt at' h.sz) cs0:=by
  intro o e w a cs ho;cases o with
  | none=>simp at ho
  | some x =>
   cases x with
   | cells e' w' a' cs'=>simp[rnb] at ho;obtain⟨rfl,rfl,rfl,rfl⟩:=ho;exact⟨_,rfl,rfl⟩
   | dead=>simp[rnb] at ho
   | map es=>simp[rnb] at ho
 have shn:∀{o:Option Blk} {y:Blk},o.map (rnb (gAt at' h.sz))=some y->y≠.dead->∃x,o=some x∧x≠.dead:=by
  intro o y ho hy;cases o with
  | none=>simp at ho
  | some x =>
   refine⟨x,rfl,fun hx=>?_⟩
   subst hx;simp[rnb] at ho;exact hy ho.symm
 have shm:∀{o:Option Blk} {es:List (AV×AV)},o.map (rnb (gAt at' h.sz))=some (.map es)->False:=by
  intro o es ho;cases o with
  | none=>simp at ho
  | some x=>cases x<;>simp[rnb] at ho
 refine⟨fun b L hb=>?_,?_,?_,?_,?_,?_,?_,qef r.base hw,?_,?_⟩
 ·rw[qjc];have hb':(if b<h.sz then ρ b else ρ2 (b-h.sz+at'.length))=some L:=hb
  by_cases hbs:b<h.sz
  ·omega
  ·rw[if_neg hbs] at hb';have hc:b-h.sz+at'.length<bs2.length:=r2.dom _ L hb';omega
 ·intro b L e wf af cs hb hg;rcases split b L hb with⟨h1,h2,h3⟩|⟨c,rfl,h2,h3⟩
  ·rw[h3] at hg;obtain⟨q1,c,ty,fz,q2,q3,q4,q5,q6⟩:=r.cells b L e wf af cs h2 hg;exact⟨q1,c,ty,fz,by rw[hp _ (.inr ⟨b,L,_,h2,h1,hg,by simp,rfl⟩)];exact q2,q3,q4,fun j v hv=>let ⟨v',g7,g8⟩:=q5 j v hv;⟨v',g7,g8.mono le2⟩,q6⟩
  ·rw[h3] at hg;obtain⟨cs0,g1,rfl⟩:=shc hg;obtain⟨q1,c',ty,fz,q2,q3,q4,q5,q6⟩:=r2.cells c L e wf af cs0 h2 g1;refine⟨q1,c',ty,fz,q2,q3,by rw[qaw];exact q4,fun j v hv=>?_,q6⟩
   rw[qjZ] at hv;cases hj:cs0[j]? with
   | none=>rw[hj] at hv;simp at hv
   | some v0 =>
    rw[hj] at hv;simp at hv;subst hv;obtain⟨v',g7,g8⟩:=q5 j v0 hj;exact⟨v',g7,VR.rn (ρ3:=ρ.back ρ2 at' h.sz bs2.length) up (fun _ _ h=>h) nle g8⟩
 ·intro b L es hb hg;rcases split b L hb with⟨h1,h2,h3⟩|⟨c,rfl,h2,h3⟩
  ·rw[h3] at hg;obtain⟨q1,o,q2,q3⟩:=r.maps b L es h2 hg;exact⟨q1,o,by rw[hp _ (.inr ⟨b,L,_,h2,h1,hg,by simp,rfl⟩)];exact q2,q3.mono le2⟩
  ·rw[h3] at hg;exact (shm hg).elim
 ·intro b L e af cs hb hg b' L' x hb' hx hd hee;rcases split b L hb with⟨h1,h2,h3⟩|⟨c,rfl,h2,h3⟩<;>rcases split b' L' hb' with⟨i1,i2,i3⟩|⟨c',rfl,i2,i3⟩
  ·rw[h3] at hg;rw[i3] at hx;exact r.excl b L e af cs h2 hg b' L' x i2 hx hd hee
  ·rw[h3] at hg;exact absurd hee (apart b L _ c' L' h1 h2 hg (by simp) i2)
  ·rw[i3] at hx;exact absurd hee.symm (apart b' L' _ c L i1 i2 hx hd h2)
  ·rw[h3] at hg;rw[i3] at hx;obtain⟨cs0,g1,rfl⟩:=shc hg;obtain⟨x0,g2,g3⟩:=shn hx hd;rw[r2.excl c L e af cs0 h2 g1 c' L' x0 i2 g2 g3 hee]
 ·intro b L es hb hg b' L' x hb' hx hd hee;rcases split b L hb with⟨h1,h2,h3⟩|⟨c,rfl,h2,h3⟩
  ·rw[h3] at hg;rcases split b' L' hb' with⟨i1,i2,i3⟩|⟨c',rfl,i2,i3⟩
   ·rw[i3] at hx;exact r.exclm b L es h2 hg b' L' x i2 hx hd hee
   ·exact absurd hee (apart b L _ c' L' h1 h2 hg (by simp) i2)
  ·rw[h3] at hg;exact (shm hg).elim
 ·intro b L e wf cs hb hg b' L' e' wf' af' cs' hb' hx hee;rcases split b L hb with⟨h1,h2,h3⟩|⟨c,rfl,h2,h3⟩<;>rcases split b' L' hb' with⟨i1,i2,i3⟩|⟨c',rfl,i2,i3⟩
  ·rw[h3] at hg;rw[i3] at hx;exact r.app b L e wf cs h2 hg b' L' e' wf' af' cs' i2 hx hee
  ·rw[h3] at hg;exact absurd hee (apart b L _ c' L' h1 h2 hg (by simp) i2)
  ·rw[i3] at hx;exact absurd hee.symm (apart b' L' _ c L i1 i2 hx (by simp) h2)
  ·rw[h3] at hg;rw[i3] at hx;obtain⟨cs0,g1,rfl⟩:=shc hg;obtain⟨cs1,g2,rfl⟩:=shc hx;have q:=r2.app c L e wf cs0 h2 g1 c' L' e' wf' af' cs1 i2 g2 hee;rw[qaw,qaw];exact⟨q.1,fun hh=>by rw[q.2 hh]⟩
 ·intro b L hb hf hB;rw[qmo] at hf;rcases split b L hb with⟨h1,h2,h3⟩|⟨c,rfl,h2,h3⟩
  ·exact r.flr b L h2 hf hB
  ·exact r2.flr c L h2 (Nat.zero_le _) (.inl hB)
 ·intro k arr hk;refine⟨(r2.frz k arr hk).1,fun b L x hb hx hd=>?_⟩
  rcases split b L hb with⟨h1,h2,h3⟩|⟨c,rfl,h2,h3⟩
  ·rw[h3] at hx;rcases f2 k arr hk with g|g
   ·exact (r.frz k arr g).2 b L x h2 hx hd
   ·exact fun hh=>g (.inr ⟨b,L,x,h2,h1,hx,hd,hh⟩)
  ·rw[h3] at hx;obtain⟨x0,g2,g3⟩:=shn hx hd;exact (r2.frz k arr hk).2 c L x0 h2 g2 g3
 ·refine⟨?_,fun b L hb=>?_⟩
  ·show h.sz+(bs2.length-at'.length)<=_;rw[qjc];exact Nat.le_refl _
  ·rcases split b L hb with⟨_,h2,_⟩|⟨c,rfl,h2,_⟩
   ·exact Nat.lt_of_lt_of_le (r.dn.2 b L h2) hw
   ·exact r2.dn.2 c L h2
def qyz(m:Nat)(v:AV)(bs2:List Blk)(v':AV)(h':Hp):Prop:=h'.fl=0->∃src:List Nat,NV (rl src h'.sz) bs2.length v' v∧BWs h' (rl src h'.sz) bs2.length src bs2∧(src.filter fun b=>decide (b<h'.sz)).Nodup∧∀b,b<m->rl src h'.sz b=b
def qpF(m:Nat)(v:AV)(bs2:List Blk)(v':AV)(h':Hp):Prop:=h'.fl=0->Wk m (mkT [(0,v')]) h' (mkT [(0,v)]) (mkH 0 bs2)
theorem qyz.w{m:Nat}{v:AV}{bs2:List Blk}{v':AV}{h':Hp}(hz:qyz m v bs2 v' h')(hle:m<=bs2.length):qpF m v bs2 v' h':=by
 intro hfl;obtain⟨src,s1,s2,s3,s4⟩:=hz hfl;exact Wk.mkn [(0,v)] bs2 src ⟨⟨v',by simp[mkT,Tr.get_set],s1⟩,trivial⟩ s2 s3 hfl hle s4
def Upd(P:Program)(f:Nat)(vs:List AV)(bs:List Blk)(v:AV)(bs2:List Blk):Prop :=
 qaH bs.length vs=true∧bs.length<=bs2.length∧SC P f vs (mkH 0 bs) (qpF bs.length v bs2)
theorem Upd.mkS{f:Nat}{i:IFn}{vs:List AV}{v:AV}{bs bs2:List Blk}(hc:qc P f i=true)(hb:qaH bs.length vs=true)(hl:bs.length<=bs2.length)(hV:S P bs.length i.body (qby i.res (qpF bs.length v bs2)) (qbB vs 0 .leaf) (mkH 0 bs)):Upd P f vs bs v bs2 :=
 ⟨hb,hl,SC.mk hc hV⟩
theorem Upd.mk{f:Nat}{i:IFn}{vs:List AV}{v:AV}{bs bs2:List Blk}(hc:qc P f i=true)(hb:qaH bs.length vs=true)(hl:bs.length<=bs2.length)(hV:V P bs.length i.body (qby i.res (qyz bs.length v bs2)) (qbB vs 0 .leaf) (mkH 0 bs)):Upd P f vs bs v bs2 :=
 ⟨hb,hl,(SC.mk hc (qj hV)).mono fun _ _ hz=>hz.w hl⟩
theorem Upd.sc{f:Nat}{vs:List AV}{bs bs2:List Blk}{v:AV}{h:Hp}{k:AV->Hp->Prop}(at':List Nat)(hu:Upd P f vs bs v bs2)(l:Lent h at' bs)(hk:k (rnv (gAt at' h.sz) v) (qcq h at' bs2)):SC P f (qaQ (gAt at' h.sz) vs) h k:=by
 obtain⟨hb,hle,hu⟩:=hu;refine⟨hu.1,fun ρ B w args r ha=>?_⟩
 have hle':at'.length<=bs2.length:=by rw[l.len];exact hle
 have ha':VRs σ0 (ρ.small at' h.sz) vs args.toList:=VRs.nr (ρ:=ρ) (ρs:=ρ.small at' h.sz) (g:=gAt at' h.sz) (m:=bs.length) (fun b L hbm hbL=>by
  show (if b<at'.length then ρ (gAt at' h.sz b) else none)=some L
  rw[if_pos (by rw[l.len];exact hbm)];exact hbL) rfl l.len hb ha
 refine qbF.mono (hu.2 (ρ.small at' h.sz) (Bar ρ B h at') w args (r.small l) ha') ?_;rintro e w1 ⟨v0,v',h1,ρ1,rfl,g1,g2,g3,g4⟩;have hw:Wk bs.length (mkT [(0,v0)]) h1 (mkT [(0,v)]) (mkH 0 bs2):=g1 g4.fl
 obtain⟨ρ2,t2,r2,k2⟩:=hw ρ1 (Bar ρ B h at') w1 #[v'] (fun j x hj=>by
  have:=qdi hj;simp at this;obtain⟨rfl,rfl⟩:=this;exact⟨by simp,by simpa using g2⟩) g3
 have hv2:VR σ0 ρ2 v v':=by
  have:=(t2 0 v (by simp[mkT,Tr.get_set])).2;simpa using this
 have he:∀i,i<at'.length->ρ2 i=ρ.small at' h.sz i:=fun i hi=>(k2.ext i (by rw[← l.len];exact hi)).trans (g4.ext i (by rw[qtp,← l.len];exact hi))
 have f1:∀k a,ρ.frz k=some a->ρ2.frz k=some a:=fun k a hk=>k2.frz k a (g4.frz k a hk)
 have f2:∀k a,ρ2.frz k=some a->ρ.frz k=some a∨¬Bar ρ B h at' k:=fun k a hk=>(k2.fnew k a hk).elim (g4.fnew k a) .inr
 obtain⟨up,big⟩:=Rel.back r l r2 hle' he g4.pres g4.wle f1 f2
 have nle:∀b,b<ρ2.n->gAt at' h.sz b<(ρ.back ρ2 at' h.sz bs2.length).n:=by
  intro b hb;have hb2:b<bs2.length:=Nat.lt_of_lt_of_le hb r2.dn.1;show _<h.sz+(bs2.length-at'.length)
  by_cases hbm:b<at'.length
  ·have hbm':b<bs.length:=by rw[← l.len];exact hbm
   obtain⟨_,_,_,_,_,_,_,h6⟩:=l.blk b bs[b] (zzE hbm');omega
  ·rw[qjv (by omega)];omega
 refine⟨_,v',_,ρ.back ρ2 at' h.sz bs2.length,rfl,hk,VR.rn up (fun _ _ h=>h) nle hv2,big,?_⟩
 refine⟨fun b hb=>?_,by rw[qjc];omega,qmo,fun b hf hb=>qkB hb (fun hm=>?_),fun k hk=>g4.pres k (.inl hk),g4.wle,g4.io,f1,fun k a hk=>(f2 k a hk).imp id (fun hh hB=>hh (.inl hB)),Nat.le_trans r.dn.1 (Nat.le_add_right _ _)⟩
 ·show (if b<h.sz then ρ b else _)=ρ b
  rw[if_pos hb]
 ·obtain⟨i,hi,rfl⟩:=List.getElem_of_mem hm;have hi':i<bs.length:=by rw[← l.len];exact hi
  obtain⟨_,_,_,_,_,_,h5,_⟩:=l.blk i bs[i] (zzE hi');rw[qds hi] at h5;omega
end Go.Kc
end
