/- Part 5 of the abstract machine and of the functions' walks. Conditions: with each theorem. -/
import Derived.Test.YthmhjhlddnjcpaaGreatDoorK4
import Derived.Laws.Externs
import Derived.Lib.Overlaps
import GoSem.ClaimChange
set_option maxHeartbeats 4000000
set_option linter.unusedSectionVars false
set_option linter.unusedSimpArgs false
set_option linter.unusedVariables false
set_option linter.unnecessarySimpa false
set_option linter.defProp false
section
namespace Go.Kc
variable [Cur]
variable {P:Program} {n:Nat} {C:qy} {d:Bool} {Q:Tr AV->Hp->Prop} {t:Tr AV} {h:Hp} {k:AV->Hp->Prop}

def evA(v:AV)(k:AV->Prop):Prop:=k v
omit [Cur] in
@[congr] theorem qmy {v v':AV} {k:AV->Prop} {mk:Prop} (_:qR=mk) (h:v=v'):evA v k=evA v' k:=by rw[h]
theorem qiK{v:AV}{k:AV->Prop}:evA v k↔k v:=Iff.rfl
def evL(v:List AV)(k:List AV->Prop):Prop:=k v
omit [Cur] in
@[congr] theorem qmB {v v':List AV} {k:List AV->Prop} {mk:Prop} (_:qR=mk) (h:v=v'):evL v k=evL v' k:=by rw[h]
theorem qiL{v:List AV}{k:List AV->Prop}:evL v k↔k v:=Iff.rfl
def evN(v:Nat)(k:Nat->Prop):Prop:=k v
omit [Cur] in
@[congr] theorem qmC {v v':Nat} {k:Nat->Prop} {mk:Prop} (_:qR=mk) (h:v=v'):evN v k=evN v' k:=by rw[h]
theorem qiM{v:Nat}{k:Nat->Prop}:evN v k↔k v:=Iff.rfl
def evT(v:Bool)(k:Bool->Prop):Prop:=k v
omit [Cur] in
@[congr] theorem qmE {v v':Bool} {k:Bool->Prop} {mk:Prop} (_:qR=mk) (h:v=v'):evT v k=evT v' k:=by rw[h]
theorem qiN{v:Bool}{k:Bool->Prop}:evT v k↔k v:=Iff.rfl
def evB(o:Option Blk)(k:Blk->Prop):Prop:=∃v,o=some v∧k v
omit [Cur] in
@[congr] theorem qmz {o o':Option Blk} {k:Blk->Prop} {mk:Prop} (_:qR=mk) (h:o=o'):evB o k=evB o' k:=by rw[h]
theorem qgs{v:Blk}{k:Blk->Prop}:evB (some v) k↔k v:=by simp[evB]
def ifK(c:Prop)(p:Prop):Prop:=c∧p
omit [Cur] in
@[congr] theorem qmF {c c' p:Prop} {mk:Prop} (_:qR=mk) (h:c=c'):ifK c p=ifK c' p:=by rw[h]
theorem qdc{p:Prop}:ifK True p↔p:=by simp[ifK]
omit [Cur] in
theorem qi2{c c' p:Prop}:ifK (c∧c') p↔ifK c (ifK c' p):=by simp[ifK,and_assoc]
omit [Cur] in
theorem qez{x:Bool}{p:Prop}:qb x p↔ifK (x=true) p:=qa _ _
omit [Cur] in
theorem zc{n:Nat}{k:Nat->Prop}:qd n k↔evN n k:=by rw[qg];exact Iff.rfl
omit [Cur] in
theorem qaH{n:Bool}{k:Bool->Prop}:qn n k↔evT n k:=by rw[qk];exact Iff.rfl
@[congr] theorem qiO {n:Bool} {k:Bool->Prop} {mk:Prop} (_:qR=mk):qn n k=qn n k:=rfl
@[congr] theorem qke {n:Bool} {k:Prop} {mk:Prop} (_:qR=mk):qb n k=qb n k:=rfl
theorem qn1{x:Bool}{k:Bool->Prop}:unB (.b x) k↔k x:=Iff.rfl
omit [Cur] in
theorem qjW{b o:Nat}{k:Nat->Nat->Prop}:unP (.ptr b o) k↔k b o:=Iff.rfl
omit [Cur] in
theorem qn2{q:IntKind}{z:Int}{k:IntKind->Int->Prop}:unI (.i q z) k↔k q z:=Iff.rfl
omit [Cur] in
theorem qn3{q:IntKind}{z:Int}{k:Nat->Prop}:unN (.i q z) k↔ifK (0<=z) (evN z.toNat k):=by
 cases z with
 | ofNat m=>exact⟨fun h=>⟨by simp_all,h⟩,fun h=>h.2⟩
 | negSucc m=>exact⟨fun h=>h.elim,fun h=>absurd h.1 (by omega)⟩
omit [Cur] in
@[congr] theorem qmQ {x:AV} {k:Bool->Prop} {mk:Prop} (_:qR=mk):unB x k=unB x k:=rfl
@[congr] theorem qmT {x:AV} {k:Nat->Nat->Prop} {mk:Prop} (_:qR=mk):unP x k=unP x k:=rfl
@[congr] theorem qmR {x:AV} {k:IntKind->Int->Prop} {mk:Prop} (_:qR=mk):unI x k=unI x k:=rfl
@[congr] theorem qmS {x:AV} {k:Nat->Prop} {mk:Prop} (_:qR=mk):unN x k=unN x k:=rfl

section
variable {q q':IntKind} {n m:Int} {a c:List UInt8} {k:AV->Prop}
omit [Cur] in
theorem qc5{z:Int}:za (qaA q z) (fun r=>k (.i q r))↔evA (.i q (q.wrap z)) k:=by
 rw[qz,je];exact Iff.rfl
omit [Cur] in
theorem qid:qU qj .lss (.i q n) (.i q m) k↔evA (.b (decide (n<m))) k:=by simp[qU,qS,qa,xP,evA]
omit [Cur] in
theorem qib:qU qj .gtr (.i q n) (.i q m) k↔evA (.b (decide (m<n))) k:=by simp[qU,qS,qa,xP,evA]
omit [Cur] in
theorem qia:qU qj .geq (.i q n) (.i q m) k↔evA (.b (decide (m<=n))) k:=by
 simp only[qU,qS,qa,xP,qk,decide_true,true_and,evA];rw[← decide_not];simp
omit [Cur] in
theorem qic:qU qj .leq (.i q n) (.i q m) k↔evA (.b (decide (n<=m))) k:=by
 simp only[qU,qS,qa,xP,qk,decide_true,true_and,evA];rw[← decide_not];simp
omit [Cur] in
theorem qh9:qU qj .eql (.i q n) (.i q m) k↔evA (.b (decide (n=m))) k:=by
 simp only[qU,qS,qa,ws,qk,decide_true,true_and,evA];rw[show (n==m)=decide (n=m) from by rw[Bool.eq_iff_iff];simp]
omit [Cur] in
theorem qif:qU qj .neq (.i q n) (.i q m) k↔evA (.b (!decide (n=m))) k:=by
 simp only[qU,qS,qa,ws,qk,decide_true,true_and,evA];rw[show (n==m)=decide (n=m) from by rw[Bool.eq_iff_iff];simp]
omit [Cur] in
theorem qh6:qU qj .add (.i q n) (.i q m) k↔evA (.i q (q.wrap (n+m))) k:=by
 simp only[qU,qS,qa,je,qz,decide_true,true_and];exact Iff.rfl
omit [Cur] in
theorem qij:qU qj .sub (.i q n) (.i q m) k↔evA (.i q (q.wrap (n-m))) k:=by
 simp only[qU,qS,qa,je,qz,decide_true,true_and];exact Iff.rfl
omit [Cur] in
theorem qie:qU qj .mul (.i q n) (.i q m) k↔evA (.i q (q.wrap (n*m))) k:=by
 simp only[qU,qS,qa,je,qz,decide_true,true_and];exact Iff.rfl
def orI(q:IntKind)(x y:Int):Int:=q.wrap (BitVec.ofInt q.bits x ||| BitVec.ofInt q.bits y).toNat
def qnd(q:IntKind)(x y:Int):Int:=q.wrap (BitVec.ofInt q.bits x &&& BitVec.ofInt q.bits y).toNat
def qn8(q:IntKind)(x y:Int):Int:=q.wrap (BitVec.ofInt q.bits x ^^^ BitVec.ofInt q.bits y).toNat
def qnf(q:IntKind)(x y:Int):Int:=q.wrap (BitVec.ofInt q.bits x &&& ~~~ (BitVec.ofInt q.bits y)).toNat
omit [Cur] in
theorem qkB:qU qj .or (.i q n) (.i q m) k↔evA (.i q (orI q n m)) k:=by
 simp only[qU,qS,qa,qz,decide_true,true_and,orI,evA]
omit [Cur] in
theorem qh7:qU qj .and (.i q n) (.i q m) k↔evA (.i q (qnd q n m)) k:=by
 simp only[qU,qS,qa,qz,decide_true,true_and,qnd,evA]
omit [Cur] in
theorem qik:qU qj .xor (.i q n) (.i q m) k↔evA (.i q (qn8 q n m)) k:=by
 simp only[qU,qS,qa,qz,decide_true,true_and,qn8,evA]
omit [Cur] in
theorem qh8:qU qj .andNot (.i q n) (.i q m) k↔evA (.i q (qnf q n m)) k:=by
 simp only[qU,qS,qa,qz,decide_true,true_and,qnf,evA]
def qoU(q:IntKind)(x m:Int):Int:=x.fdiv (2 ^ min m.toNat q.bits)
def qoT(q:IntKind)(x m:Int):Int:=q.wrap (x*2 ^ min m.toNat q.bits)
omit [Cur] in
theorem qii{q2:IntKind}:qU qj .shr (.i q n) (.i q2 m) k↔ifK (0<=m) (evA (.i q (qoU q n m)) k):=by
 cases m with
 | ofNat m =>
  show qd (min m q.bits) (fun a=>za (n.fdiv (p2 a)) (fun r=>k (.i q r)))↔_
  rw[qg,qz,qeo];exact⟨fun h=>⟨by simp_all,h⟩,fun h=>h.2⟩
 | negSucc m=>exact⟨fun h=>h.elim,fun h=>absurd h.1 (by omega)⟩
omit [Cur] in
theorem qih{q2:IntKind}:qU qj .shl (.i q n) (.i q2 m) k↔ifK (0<=m) (evA (.i q (qoT q n m)) k):=by
 cases m with
 | ofNat m =>
  show qd (min m q.bits) (fun a=>za (q.wrap (n*p2 a)) (fun r=>k (.i q r)))↔_
  rw[qg,qz,qeo];exact⟨fun h=>⟨by simp_all,h⟩,fun h=>h.2⟩
 | negSucc m=>exact⟨fun h=>h.elim,fun h=>absurd h.1 (by omega)⟩
omit [Cur] in
theorem qbo(x y:Int):eqI x y=decide (x=y):=by rw[ws,Bool.eq_iff_iff];simp
omit [Cur] in
theorem qig(h:m≠0):qU qj .quo (.i q n) (.i q m) k↔evA (.i q (q.wrap (n.tdiv m))) k:=by
 simp only[qU,qS,qa,je,qz,decide_true,true_and,qbo,decide_eq_false h];exact Iff.rfl
omit [Cur] in
theorem qd9(h:m≠0):qU qj .rem (.i q n) (.i q m) k↔evA (.i q (n.tmod m)) k:=by
 simp only[qU,qS,qa,qz,decide_true,true_and,qbo,decide_eq_false h];exact Iff.rfl
omit [Cur] in
theorem qfX:qU qj .eql (.s a) (.s c) k↔evA (.b (decide (a=c))) k:=by
 simp only[qU,xu,xl,qk,evA];rw[show (a==c)=decide (a=c) from by rw[Bool.eq_iff_iff];simp]
omit [Cur] in
theorem qf2:qU qj .neq (.s a) (.s c) k↔evA (.b (!decide (a=c))) k:=by
 simp only[qU,xu,xl,qk,evA];rw[show (a==c)=decide (a=c) from by rw[Bool.eq_iff_iff];simp]
omit [Cur] in
theorem qfW:qU qj .add (.s a) (.s c) k↔ifK (a.length+c.length<=9223372036854775807) (evA (.s (a++c)) k):=by
 show (Bool.rec (motive:=fun _=>Prop) False (k (.s (a++c))) (Nat.ble (a.length+c.length) 9223372036854775807):Prop)↔_
 rw[show (a.length+c.length<=9223372036854775807)=(Nat.ble (a.length+c.length) 9223372036854775807=true) from by simp_all]
 cases Nat.ble (a.length+c.length) 9223372036854775807
 ·exact⟨False.elim,fun h=>by cases h.1⟩
 ·exact⟨fun h=>⟨rfl,h⟩,fun h=>h.2⟩
omit [Cur] in
theorem qf1:qU qj .lss (.s a) (.s c) k↔evA (.b (ltS a c)) k:=by simp only[qU,xu,qk,evA]
omit [Cur] in
theorem qfY:qU qj .geq (.s a) (.s c) k↔evA (.b (!ltS a c)) k:=by simp only[qU,xu,qk,evA]
omit [Cur] in
theorem qf0:qU qj .leq (.s a) (.s c) k↔evA (.b (ltS a c||decide (a=c))) k:=by
 simp only[qU,xu,xl,qk,evA];rw[show (a==c)=decide (a=c) from by rw[Bool.eq_iff_iff];simp]
omit [Cur] in
theorem qfZ:qU qj .gtr (.s a) (.s c) k↔evA (.b (!(ltS a c||decide (a=c)))) k:=by
 simp only[qU,xu,xl,qk,evA];rw[show (a==c)=decide (a=c) from by rw[Bool.eq_iff_iff];simp]
omit [Cur] in
theorem qmr{x:Bool}:jp .not (.b x) k↔evA (.b (!x)) k:=by simp only[jp,qk,evA]
omit [Cur] in
theorem qmq:jp .neg (.i q n) k↔evA (.i q (q.wrap (0-n))) k:=by simp only[jp,qz,evA]
omit [Cur] in
theorem jW{x:Int}(h1:-9223372036854775808<=x)(h2:x<=9223372036854775807):IntKind.wrap .i64 x=x:=by
 simp[IntKind.wrap,IntKind.bits,IntKind.signed];omega
omit [Cur] in
theorem qaB{x:Int}(h1:0<=x)(h2:x<=18446744073709551615):IntKind.wrap .u64 x=x:=by
 simp[IntKind.wrap,IntKind.bits,IntKind.signed];omega
omit [Cur] in
theorem qmw{x:Int}(h1:-2147483648<=x)(h2:x<=2147483647):IntKind.wrap .i32 x=x:=by
 simp[IntKind.wrap,IntKind.bits,IntKind.signed];omega
omit [Cur] in
theorem qmx{x:Int}(h1:0<=x)(h2:x<=255):IntKind.wrap .u8 x=x:=by
 simp[IntKind.wrap,IntKind.bits,IntKind.signed];omega
omit [Cur] in
theorem qok:cvK qj q (.i q' n) k↔evA (.i q (q.wrap n)) k:=by
 show za (qaA q n) (fun r=>k (.i q r))↔_
 exact qc5
end

omit [Cur] in
theorem qlB{s f:Nat}{tr:Tr Blk}{x:Blk}{k:Nat->Hp->Prop}:zd ⟨s,f,tr⟩ x k↔evN (s+1) (fun s'=>k s ⟨s',f,tr.set s x⟩):=by
 rw[qx];exact Iff.rfl
omit [Cur] in
theorem qmb{s f b:Nat}{tr:Tr Blk}{x:Blk}{k:Hp->Prop}:zw ⟨s,f,tr⟩ b x k↔ifK (f<=b) (k ⟨s,f,tr.set b x⟩):=qL _ _ _ _
omit [Cur] in
theorem qkd{s f:Nat}{tr:Tr Blk}:Hp.up ⟨s,f,tr⟩=⟨s,s,tr⟩:=rfl
omit [Cur] in
theorem qec{s f f':Nat}{tr:Tr Blk}:Hp.down ⟨s,f,tr⟩ f'=⟨s,f',tr⟩:=rfl
def zY(x:Blk)(k:Nat->Bool->Bool->List AV->Prop):Prop:=match x with | .cells e w a cs=>k e w a cs|_=>False
omit [Cur] in
@[congr] theorem qir {x x':Blk} {k:Nat->Bool->Bool->List AV->Prop} {mk:Prop} (_:qR=mk) (h:x=x'):zY x k=zY x' k:=by rw[h]
theorem qcl{e:Nat}{w a:Bool}{cs:List AV}{k:Nat->Bool->Bool->List AV->Prop}:zY (.cells e w a cs) k↔k e w a cs:=Iff.rfl
omit [Cur] in
theorem wL{b:Nat}{k:Nat->Bool->Bool->List AV->Prop}:zI h b k↔evB (h.tr.get b) (fun x=>zY x k):=by
 rw[qt];constructor
 ·rintro⟨e,w,a,cs,h1,h2⟩;exact⟨_,h1,h2⟩
 ·rintro⟨x,h1,h2⟩;cases x with
  | cells e w a cs=>exact⟨e,w,a,cs,h1,h2⟩
  | dead=>exact h2.elim
  | map es=>exact h2.elim
def wp(cs:List AV)(o n:Nat)(k:List AV->Prop):Prop:=o<=cs.length∧n<=(cs.drop o).length∧k ((cs.drop o).take n)
theorem qiF{cs:List AV}{o n:Nat}{k:List AV->Prop}:wp cs o n k↔ifK (o+n<=cs.length) (evL ((cs.drop o).take n) k):=by
 unfold wp ifK;rw[List.length_drop];exact⟨fun⟨h1,h2,h3⟩=>⟨by omega,h3⟩,fun⟨h1,h2⟩=>⟨by omega,by omega,h2⟩⟩
omit [Cur] in
theorem drop_take{cs:List AV}{o n:Nat}{k:List AV->Prop}:xH o cs (fun l=>xf n l k)↔wp cs o n k:=by
 rw[qD,qv];exact Iff.rfl
omit [Cur] in
theorem qgX{b o:Nat}{k:AV->Prop}:ldV h (.ptr b o) k↔evB (h.tr.get b) (fun x=>zY x (fun _ _ _ cs=>evO cs[o]? k)):=by
 show zI h b (fun _ _ _ cs=>vk cs o k)↔_
 rw[wL]
 have:(fun (_:Nat) (_ _:Bool) (cs:List AV)=>vk cs o k)=fun _ _ _ cs=>evO cs[o]? k:=by
  funext _ _ _ cs;exact propext (zi _ _ _)
 rw[this]
omit [Cur] in
theorem qnC{cs:List AV}{o:Nat}{k:AV->Prop}:ldV h (.pf cs o) k↔evO cs[o]? k:=zi _ _ _
omit [Cur] in
theorem qnA{b o:Nat}{k:AV->Prop}:ldK h b o k↔evB (h.tr.get b) (fun x=>zY x (fun _ _ _ cs=>evO cs[o]? k)):=qgX
omit [Cur] in
theorem qgY{b o n:Nat}{k:List AV->Prop}:xw h b o n k↔evB (h.tr.get b) (fun x=>zY x (fun _ _ _ cs=>wp cs o n k)):=by
 show zI h b (fun _ _ _ cs=>xH o cs (fun l=>xf n l k))↔_
 rw[wL]
 grind[drop_take]
omit [Cur] in
theorem qja{b o n:Nat}{k:List AV->Prop}:qa5 h (.ptr b o) n k↔evB (h.tr.get b) (fun x=>zY x (fun _ _ _ cs=>wp cs o n k)):=qgY
omit [Cur] in
theorem qll{cs:List AV}{o n:Nat}{k:List AV->Prop}:qa5 h (.pf cs o) n k↔wp cs o n k:=drop_take
omit [Cur] in
theorem qjg{b o n:Nat}{k:AV->Prop}:qaM (.ptr b o) n k↔evN (o+n) (fun o'=>k (.ptr b o')):=zc (n:=o+n) (k:=fun o'=>k (.ptr b o'))
omit [Cur] in
theorem qlx{cs:List AV}{o n:Nat}{k:AV->Prop}:qaM (.pf cs o) n k↔evN (o+n) (fun o'=>k (.pf cs o')):=zc (n:=o+n) (k:=fun o'=>k (.pf cs o'))
theorem qoV{b o:Nat}{vs:List AV}{k:Hp->Prop}:stK h b o vs k↔evB (h.tr.get b) (fun x=>zY x (fun e w a cs=>ifK (w=true∧qw vs=true∧o+vs.length<=cs.length) (evL (cs.take o++(vs++cs.drop (o+vs.length))) (fun cs'=>zw h b (.cells e true a cs') k)))):=by
 show zI h b _↔_;rw[wL]
 have:(fun (e:Nat) (w a:Bool) (cs:List AV)=>(Bool.rec (motive:=fun _=>Prop) False (Bool.rec (motive:=fun _=>Prop) False (zm vs o cs (fun cs'=>zw h b (.cells e w a cs') k)) (qw vs)) w:Prop)) =
   fun e w a cs=>ifK (w=true∧qw vs=true∧o+vs.length<=cs.length) (evL (cs.take o++(vs++cs.drop (o+vs.length))) (fun cs'=>zw h b (.cells e true a cs') k)):=by
  funext e w a cs;refine propext ?_;cases w with
  | false=>exact⟨False.elim,fun hh=>by have:=hh.1.1;grind⟩
  | true =>
   cases hc:qw vs with
   | false=>exact⟨False.elim,fun hh=>by have:=hh.1.2.1;grind⟩
   | true=>exact (zy _ _ _ _).trans ⟨fun⟨h1,h2⟩=>⟨⟨rfl,rfl,h1⟩,h2⟩,fun⟨⟨_,_,h1⟩,h2⟩=>⟨h1,h2⟩⟩
 rw[this]
def stV(h:Hp)(b o:Nat)(v:AV)(n:Nat)(k:Hp->Prop):Prop:=qb (wq v) (w5 (cellsOf v) (fun m=>qb (Nat.beq m n) (stK h b o (cellsOf v) k)))
theorem jK{x y:Nat}:Nat.beq x y=true↔x=y:=(by simp_all)
theorem qjT{b o:Nat}{v:AV}{n:Nat}{k:Hp->Prop}:stV h b o v n k↔ifK (wq v=true) (evL (cellsOf v) (fun cs=>ifK (cs.length=n) (stK h b o cs k))):=by
 unfold stV;rw[qa,zE,qa,jK];exact Iff.rfl
omit [Cur] in
theorem zl{x y:Nat}:Nat.ble x y=true↔x<=y:=by simp_all

omit [Cur] in
theorem ql5{x:O}:opK qj (.mov x) t h k↔evK t x (fun v=>k v h):=Iff.rfl
omit [Cur] in
theorem jy{b:Bool}{p q:Prop}:(Bool.rec (motive:=fun _=>Prop) q p b:Prop)↔if b=true then p else q:=by cases b<;>simp
omit [Cur] in
theorem qjz{c x y:O}:opK qj (.pick c x y) t h k↔evK t c (fun c=>unB c (fun c=>if c=true then evK t x (fun v=>k v h) else evK t y (fun v=>k v h))):=by
 show evK t c (fun c=>unB c (fun c=>Bool.rec (motive:=fun _=>Prop) (evK t y (fun v=>k v h)) (evK t x (fun v=>k v h)) c))↔_
 simp only[jy]
omit [Cur] in
theorem qhm{z:List AV}:opK qj (.alloc z) t h k↔zd h (.cells 0 true false z) (fun b h'=>k (.ptr b 0) h'):=Iff.rfl
omit [Cur] in
theorem qlS{x:O}:opK qj (.box x) t h k↔evK t x (fun v=>qb (wq v) (evL (cellsOf v) (fun cs=>zd h (.cells 0 true false cs) (fun b h'=>k (.ptr b 0) h')))):=Iff.rfl
omit [Cur] in
theorem qhn{z:List AV}{ps:List (Nat×Nat×O)}:opK qj (.build z ps) t h k↔zH t ps z (fun cs=>k (.agg cs) h):=Iff.rfl
omit [Cur] in
theorem qfl{n:Nat}{z:List AV}{ps:List (Nat×Nat×O)}:opK qj (.buildS n z ps) t h k↔evL (List.replicate n z).flatten (fun cs=>zH t ps cs (fun cs=>zd h (.cells 0 true false cs) (fun b h'=>k (.sl b 0 n n false) h'))):=by
 show qaw z n _↔_;rw[zP];exact Iff.rfl
omit [Cur] in
theorem qhs{x:O}:opK qj (.load1 x) t h k↔evK t x (fun p=>ldV h p (fun v=>k v h)):=Iff.rfl
omit [Cur] in
theorem qht{n:Nat}{x:O}:opK qj (.loadN n x) t h k↔evK t x (fun p=>qa5 h p n (fun cs=>k (.agg cs) h)):=Iff.rfl
omit [Cur] in
theorem qhw{n:Nat}{x v:O}:opK qj (.store n x v) t h k↔evK t x (fun p=>unP p (fun b o=>evK t v (fun v=>stV h b o v n (fun h'=>k .undef h')))):=Iff.rfl
def qcb(v:AV)(k:AV->Prop):Prop:=match v with | .ptr b o=>k (.ptr b o) | .fn f a c=>k (.fn f a c) | .map r=>k (.map r) | .pf cs o=>k (.pf cs o) | .yl b=>k (.yl b)|_=>False
theorem qfo{x:O}:opK qj (.nilChk x) t h k↔evK t x (fun v=>qcb v (fun v=>k v h)):=by
 show evK t x (fun v=>_)↔_
 refine iff_of_eq (congrArg _ (funext fun v=>?_))
 cases v<;>rfl
omit [Cur] in
theorem qlR{op:BinOp}{x y:O}:opK qj (.bin op x y) t h k↔evK t x (fun x=>evK t y (fun y=>qU qj op x y (fun v=>k v h))):=Iff.rfl
omit [Cur] in
theorem qlV{neg:Bool}{x y:O}:opK qj (.eqB neg x y) t h k↔evK t x (fun x=>evK t y (fun y=>unB x (fun x=>unB y (fun y=>evT (xor neg (x==y)) (fun r=>k (.b r) h))))):=by
 show evK t x (fun x=>evK t y (fun y=>unB x (fun x=>unB y (fun y=>qn _ _))))↔_
 simp only[qaH]
omit [Cur] in
theorem qlW{neg:Bool}{q:NK}{x:O}:opK qj (.eqN neg q x) t h k↔evK t x (fun x=>zj q x (fun r=>evT (xor neg r) (fun r=>k (.b r) h))):=by
 show evK t x (fun x=>zj q x (fun r=>qn _ _))↔_
 grind[qaH]
omit [Cur] in
theorem qlU{neg:Bool}{ks:List PK}{x y:O}:opK qj (.eqA neg ks x y) t h k↔evK t x (fun x=>evK t y (fun y=>match x with | .agg a=>(match y with | .agg c=>zu ks a c (fun r=>qn (xor neg r) (fun r=>k (.b r) h))|_=>False)|_=>False)):=Iff.rfl
omit [Cur] in
theorem qnU{op:UnOp}{x:O}:opK qj (.un op x) t h k↔evK t x (fun x=>jp op x (fun v=>k v h)):=Iff.rfl
omit [Cur] in
theorem qhp{q:IntKind}{x:O}:opK qj (.cvInt q x) t h k↔evK t x (fun x=>cvK qj q x (fun v=>k v h)):=Iff.rfl
theorem qhq{x:O}:opK qj (.cvStr x) t h k↔evK t x (fun x=>match x with | .s a=>k (.s a) h|_=>False):=Iff.rfl
omit [Cur] in
theorem ql6{x:O}:opK qj (.s2b x) t h k↔evK t x (fun x=>match x with | .s a=>zd h (.cells 1 true true (a.map fun c=>.i .u8 (Int.ofNat c.toNat))) (fun b h'=>k (.own b a.length) h')|_=>False):=by
 show evK t x (fun x=>_)↔_
 refine iff_of_eq (congrArg _ (funext fun v=>?_))
 cases v<;>first|rfl|exact qg _ _
omit [Cur] in
theorem qlQ{x:O}:opK qj (.b2s x) t h k↔evK t x (fun x=>match x with
  | .nils=>k (.s []) h
  | .sl b o n _ _=>xw h b o n (fun cs=>qG cs (fun l=>k (.s l) h))
  | .fz n cs=>wp cs 0 n (fun cs=>qG cs (fun l=>k (.s l) h))
  | .e0=>k (.s []) h
  | .own b n=>xw h b 0 n (fun cs=>qG cs (fun l=>k (.s l) h))
  | _=>False):=by
 show evK t x (fun x=>_)↔_
 refine iff_of_eq (congrArg _ (funext fun v=>?_))
 cases v<;>first|rfl|exact propext ((qv _ _ _).trans ⟨fun hh=>⟨Nat.zero_le _,by simpa using hh⟩,fun hh=>by simpa using hh.2⟩)
omit [Cur] in
theorem qhr{off:Nat}{x:O}:opK qj (.fAddr off x) t h k↔evK t x (fun p=>qaM p off (fun v=>k v h)):=Iff.rfl
def qk1(off:Nat)(n:Option Nat)(x:AV)(k:AV->Prop):Prop:=match x with
 | .agg cs=>(match n with|none=>evO cs[off]? k|some n=>wp cs off n (fun l=>k (.agg l)))
 | _=>False
theorem qgz{off:Nat}{cs:List AV}{k:AV->Prop}:qk1 off none (.agg cs) k↔evO cs[off]? k:=Iff.rfl
omit [Cur] in
theorem qgA{off n:Nat}{cs:List AV}{k:AV->Prop}:qk1 off (some n) (.agg cs) k↔wp cs off n (fun l=>k (.agg l)):=Iff.rfl
omit [Cur] in
theorem qlY{off:Nat}{n:Option Nat}{x:O}:opK qj (.fld off n x) t h k↔evK t x (fun x=>qk1 off n x (fun v=>k v h)):=by
 show evK t x (fun x=>_)↔_
 refine iff_of_eq (congrArg _ (funext fun v=>?_))
 cases v<;>first|rfl|skip
 cases n with
 | none=>exact propext (zi _ _ _)
 | some n=>exact propext drop_take
omit [Cur] in
theorem qfm{len esz:Nat}{x i:O}:opK qj (.iAddrA len esz x i) t h k↔evK t x (fun p=>evK t i (fun i=>unN i (fun i=>ifK (i<len) (evN (i*esz) (fun o=>qaM p o (fun v=>k v h)))))):=by
 show evK t x (fun p=>evK t i (fun i=>unN i (fun i=>qb (Nat.ble (Nat.succ i) len) _)))↔_
 simp only[qa,zl];exact Iff.rfl
def ixK(esz:Nat)(x:AV)(i:Nat)(k:AV->Prop):Prop:=match x with
 | .sl b o len _ _=>ifK (i<len) (evN (o+i*esz) (fun o'=>k (.ptr b o')))
 | .fz len cs=>ifK (i<len) (evN (i*esz) (fun o'=>k (.pf cs o')))
 | .own b len=>ifK (i<len) (evN (i*esz) (fun o'=>k (.ptr b o')))
 | _=>False
theorem qnx{esz i b o len cap:Nat}{l:Bool}{k:AV->Prop}:ixK esz (.sl b o len cap l) i k↔ifK (i<len) (evN (o+i*esz) (fun o'=>k (.ptr b o'))):=Iff.rfl
omit [Cur] in
theorem qnw{esz i len:Nat}{cs:List AV}{k:AV->Prop}:ixK esz (.fz len cs) i k↔ifK (i<len) (evN (i*esz) (fun o'=>k (.pf cs o'))):=Iff.rfl
omit [Cur] in
theorem qle{esz i b len:Nat}{k:AV->Prop}:ixK esz (.own b len) i k↔ifK (i<len) (evN (i*esz) (fun o'=>k (.ptr b o'))):=Iff.rfl
def qb2(x:AV)(p:Prop):Prop:=match x with | .sl _ _ _ _ _=>p | .fz _ _=>p | .own _ _=>p|_=>False
omit [Cur] in
@[congr] theorem qj6 {x:AV} {p:Prop} {mk:Prop} (_:qR=mk):qb2 x p=qb2 x p:=rfl
theorem qgP{b o len cap:Nat}{l:Bool}{p:Prop}:qb2 (.sl b o len cap l) p↔p:=Iff.rfl
omit [Cur] in
theorem qgO{len:Nat}{cs:List AV}{p:Prop}:qb2 (.fz len cs) p↔p:=Iff.rfl
omit [Cur] in
theorem qe8{b len:Nat}{p:Prop}:qb2 (.own b len) p↔p:=Iff.rfl
omit [Cur] in
theorem qfn{esz:Nat}{x i:O}:opK qj (.iAddrS esz x i) t h k↔evK t x (fun x=>qb2 x (evK t i (fun i=>unN i (fun i=>ixK esz x i (fun v=>k v h))))):=by
 show evK t x (fun x=>_)↔_
 refine iff_of_eq (congrArg _ (funext fun v=>?_))
 cases v<;>first|rfl|(simp only[qa,zl,zc];rfl)
omit [Cur] in
theorem qjx{len esz:Nat}{agg:Bool}{x i:O}:opK qj (.idxA len esz agg x i) t h k↔evK t x (fun x=>match x with
  | .agg cs=>evK t i (fun i=>unN i (fun i=>ifK (i<len) (evN (i*esz) (fun o=>if agg=true then wp cs o esz (fun l=>k (.agg l) h) else evO cs[o]? (fun v=>k v h)))))
  | _=>False):=by
 show evK t x (fun x=>_)↔_
 refine iff_of_eq (congrArg _ (funext fun v=>?_))
 cases v<;>first|rfl|skip
 simp only[qa,zl,zc,jy,drop_take];have:∀(cs:List AV) (o:Nat),vk cs o (fun v=>k v h)=evO cs[o]? (fun v=>k v h):=fun cs o=>propext (zi _ _ _)
 simp only[this];rfl
def evC(o:Option UInt8)(k:UInt8->Prop):Prop:=∃v,o=some v∧k v
omit [Cur] in
@[congr] theorem qmA {o o':Option UInt8} {k:UInt8->Prop} {mk:Prop} (_:qR=mk) (h:o=o'):evC o k=evC o' k:=by rw[h]
theorem qc2{v:UInt8}{k:UInt8->Prop}:evC (some v) k↔k v:=by simp[evC]
theorem qjy{x i:O}:opK qj (.idxS x i) t h k↔evK t x (fun x=>match x with
  | .s a=>evK t i (fun i=>unN i (fun i=>evC a[i]? (fun c=>k (.i .u8 (c.toNat:Int)) h)))
  | _=>False):=by
 show evK t x (fun x=>_)↔_
 refine iff_of_eq (congrArg _ (funext fun v=>?_))
 cases v<;>first|rfl|skip
 rename_i a
 have e:∀(j:Nat),(Option.rec (motive:=fun _=>Prop) False (fun c=>k (.i .u8 (Int.ofNat c.toNat)) h) (a[j]?):Prop)=evC a[j]? (fun c=>k (.i .u8 (c.toNat:Int)) h):=by
  intro j;cases ha:a[j]? with
  | none=>exact propext ⟨False.elim,fun⟨_,h1,_⟩=>by cases h1⟩
  | some c=>exact (propext (qc2 (k:=fun c=>k (.i .u8 (c.toNat:Int)) h) (v:=c))).symm
 simp_all
def bdK(x:Option AV)(dflt top:Nat)(k:Nat->Prop):Prop:=qah x dflt top k
theorem qh3{a b:Nat}{k:Nat->Prop}:bdK none a b k↔k a:=Iff.rfl
omit [Cur] in
theorem qh4{v:AV}{a b:Nat}{k:Nat->Prop}:bdK (some v) a b k↔unN v (fun n=>ifK (n<=b) (k n)):=by
 show unN v (fun n=>qb (Nat.ble n b) (qd n k))↔_
 simp only[qa,zl,qg];exact Iff.rfl
omit [Cur] in
theorem qim{len cap:Nat}{lo:Option AV}{k:Nat->Nat->Nat->Prop}:qI len cap lo none none k↔ifK (len<=cap) (bdK lo 0 len (fun l=>k l len cap)):=by
 show qb (Nat.ble len cap) (qah lo 0 len (fun l=>k l len cap))↔_
 rw[qa,zl];exact Iff.rfl
omit [Cur] in
theorem qil{len cap:Nat}{lo:Option AV}{hi:AV}{k:Nat->Nat->Nat->Prop}:qI len cap lo (some hi) none k↔unN hi (fun u=>ifK (u<=cap) (bdK lo 0 u (fun l=>k l u cap))):=by
 show unN hi (fun u=>qb (Nat.ble u cap) (qd u (fun u=>qah lo 0 u (fun l=>k l u cap))))↔_
 simp only[qa,zl,qg];exact Iff.rfl
omit [Cur] in
theorem qin{len cap:Nat}{lo:Option AV}{hi mx:AV}{k:Nat->Nat->Nat->Prop}:qI len cap lo (some hi) (some mx) k↔unN mx (fun m=>ifK (m<=cap) (unN hi (fun u=>ifK (u<=m) (bdK lo 0 u (fun l=>k l u m))))):=by
 show unN mx (fun m=>qb (Nat.ble m cap) (qd m (fun m=>unN hi (fun u=>qb (Nat.ble u m) (qd u (fun u=>qah lo 0 u (fun l=>k l u m)))))))↔_
 simp only[qa,zl,qg];exact Iff.rfl
def slK(esz:Nat)(lo hi mx:Option AV)(x:AV)(h:Hp)(k:AV->Prop):Prop:=match x with
 | .nils=>qI 0 0 lo hi mx (fun _ _ _=>k .nils)
 | .e0=>qI 0 0 lo hi mx (fun _ _ _=>k .e0)
 | .fz n cs=>qI n n lo hi mx (fun l h' m=>if (mx.isSome&&Nat.beq m l)=true then k .e0 else evN (l*esz) (fun o=>evN (h'-l) (fun len'=>evN (len'*esz) (fun z=>wp cs o z (fun l2=>k (.fz len' l2))))))
 | .sl b o len cap loose=>qI len cap lo hi mx (fun l h' m=>evN (if (loose&&mx.isNone)=false∧m=l then o else o+l*esz) (fun o'=>evN (h'-l) (fun len'=>evN (m-l) (fun cap'=>qa3 h b esz (loose&&mx.isNone) (k (.sl b o' len' cap' (loose&&mx.isNone)))))))
 | .own b n=>match mx with
  | none=>if n=0 then qI 0 0 lo hi none (fun _ _ _=>k (.own b 0)) else qI n n lo hi none (fun l h' m=>evN (l*esz) (fun o'=>evN (h'-l) (fun len'=>evN (m-l) (fun cap'=>qa3 h b esz true (k (.sl b o' len' cap' true))))))
  | some u=>if n=0 then qI 0 0 lo hi (some u) (fun _ _ _=>k (.own b 0)) else qI n n lo hi (some u) (fun l h' m=>evN (if m=l then 0 else l*esz) (fun o'=>evN (h'-l) (fun len'=>evN (m-l) (fun cap'=>k (.sl b o' len' cap' false)))))
 | _=>False
@[congr] theorem qkV {b esz:Nat} {c:Bool} {p:Prop} {mk:Prop} (_:qR=mk):qa3 h b esz c p=qa3 h b esz c p:=rfl
theorem qe0{b esz:Nat}{p:Prop}:qa3 h b esz false p↔p:=Iff.rfl
theorem qgr{b esz:Nat}{p:Prop}:qa3 h b esz true p↔evB (h.tr.get b) (fun x=>zY x (fun e _ _ _=>ifK (e=esz) p)):=by
 show zI h b (fun e _ _ _=>qb (Nat.beq e esz) p)↔_
 rw[wL];simp only[qa,jK];exact Iff.rfl
omit [Cur] in
theorem qjP{esz:Nat}{lo hi mx:Option AV}{k:AV->Prop}:slK esz lo hi mx .nils h k↔qI 0 0 lo hi mx (fun _ _ _=>k .nils):=Iff.rfl
omit [Cur] in
theorem qnX{esz:Nat}{lo hi mx:Option AV}{k:AV->Prop}:slK esz lo hi mx .e0 h k↔qI 0 0 lo hi mx (fun _ _ _=>k .e0):=Iff.rfl
omit [Cur] in
theorem qnY{esz n:Nat}{cs:List AV}{lo hi:Option AV}{k:AV->Prop}:slK esz lo hi none (.fz n cs) h k↔qI n n lo hi none (fun l h' _=>evN (l*esz) (fun o=>evN (h'-l) (fun len'=>evN (len'*esz) (fun z=>wp cs o z (fun l2=>k (.fz len' l2)))))):=by
 simp only[slK,Option.isSome_none,Bool.false_and,Bool.false_eq_true,if_false]
omit [Cur] in
theorem qmj{esz b o len cap:Nat}{lo hi mx:Option AV}{k:AV->Prop}:slK esz lo hi mx (.sl b o len cap false) h k↔qI len cap lo hi mx (fun l1 h' m=>evN (if m=l1 then o else o+l1*esz) (fun o'=>evN (h'-l1) (fun len'=>evN (m-l1) (fun cap'=>k (.sl b o' len' cap' false))))):=by
 simp only[slK,Bool.false_and,true_and];exact Iff.rfl
omit [Cur] in
theorem qmk{esz b o len cap:Nat}{lo hi:Option AV}{k:AV->Prop}:slK esz lo hi none (.sl b o len cap true) h k↔qI len cap lo hi none (fun l1 h' m=>evN (o+l1*esz) (fun o'=>evN (h'-l1) (fun len'=>evN (m-l1) (fun cap'=>qa3 h b esz true (k (.sl b o' len' cap' true)))))):=by
 simp only[slK,Option.isNone_none,Bool.and_self,Bool.true_eq_false,false_and,if_false]
omit [Cur] in
theorem qmi{esz b n:Nat}{lo hi:Option AV}{k:AV->Prop}:slK esz lo hi none (.own b n) h k↔if n=0 then qI 0 0 lo hi none (fun _ _ _=>k (.own b 0)) else qI n n lo hi none (fun l h' m=>evN (l*esz) (fun o'=>evN (h'-l) (fun len'=>evN (m-l) (fun cap'=>qa3 h b esz true (k (.sl b o' len' cap' true)))))):=by
 exact Iff.rfl
omit [Cur] in
theorem qjB{esz:Nat}{x:O}{lo hi mx:Option O}:opK qj (.slcS esz x lo hi mx) t h k↔evK t x (fun x=>zV t lo (fun lo=>zV t hi (fun hi=>zV t mx (fun mx=>slK esz lo hi mx x h (fun v=>k v h))))):=by
 show evK t x (fun x=>_)↔_
 refine iff_of_eq (congrArg _ (funext fun v=>congrArg _ (funext fun lo=>congrArg _ (funext fun hi=>congrArg _ (funext fun mx=>?_)))))
 cases v<;>first|rfl|skip
 ·simp only[slK,zc];rfl
 ·have e:∀(cs:List AV) (o m:Nat),xH o cs (fun l1=>evN m (fun len'=>xf (Nat.mul len' esz) l1 (fun l2=>k (.fz len' l2) h)))=evN m (fun len'=>evN (len'*esz) (fun z=>wp cs o z (fun l2=>k (.fz len' l2) h))):=by
   intro cs o m;refine propext ⟨fun hh=>?_,fun hh=>?_⟩
   ·obtain⟨h1,h2⟩:=(qD _ _ _).1 hh;obtain⟨h3,h4⟩:=(qv _ _ _).1 h2;exact⟨h1,h3,h4⟩
   ·obtain⟨h1,h3,h4⟩:=hh;exact (qD _ _ _).2 ⟨h1,(qv _ _ _).2 ⟨h3,h4⟩⟩
  simp only[slK,zc,jy,e];rfl
 ·rename_i b n;cases mx with
  | some m =>
   cases n with
   | zero=>simp only[slK,if_true];rfl
   | succ n=>simp only[slK,Nat.succ_ne_zero,if_false,zc];rfl
  | none =>
   cases n with
   | zero=>simp only[slK,if_true];rfl
   | succ n=>simp only[slK,Nat.succ_ne_zero,if_false,zc];rfl
omit [Cur] in
theorem qfq{x:O}{lo hi:Option O}:opK qj (.slcStr x lo hi) t h k↔evK t x (fun x=>zV t lo (fun lo=>zV t hi (fun hi=>match x with
  | .s a=>qI a.length a.length lo hi none (fun l h' _=>evA (.s ((a.take h').drop l)) (fun v=>k v h))
  | _=>False))):=Iff.rfl
omit [Cur] in
theorem qjA{len esz:Nat}{x:O}{lo hi mx:Option O}:opK qj (.slcA len esz x lo hi mx) t h k↔evK t x (fun p=>unP p (fun b o=>zV t lo (fun lo=>zV t hi (fun hi=>zV t mx (fun mx =>
   qI len len lo hi mx (fun l h' m=>evN (if m=l then o else o+l*esz) (fun o'=>evN (h'-l) (fun len'=>evN (m-l) (fun cap'=>k (.sl b o' len' cap' false) h))))))))):=by
 show evK t x (fun p=>unP p (fun b o=>zV t lo (fun lo=>zV t hi (fun hi=>zV t mx (fun mx=>qI len len lo hi mx (fun l h' m=>qd (if m=l then o else Nat.add o (Nat.mul l esz)) _))))))↔_
 simp only[zc];simp_all
omit [Cur] in
theorem qlX{x:O}{i:Nat}:opK qj (.ext x i) t h k↔evK t x (fun x=>match x with | .tup cs=>evO cs[i]? (fun v=>k v h)|_=>False):=by
 show evK t x (fun x=>_)↔_
 refine iff_of_eq (congrArg _ (funext fun v=>?_))
 cases v<;>first|rfl|exact propext (zi _ _ _)
omit [Cur] in
theorem ql2{f:Nat}{a c:List O}:opK qj (.mkF f a c) t h k↔zD t a (fun a=>zD t c (fun c=>k (.fn f a c) h)):=Iff.rfl
omit [Cur] in
theorem ql4{e bytes:Nat}{z:List AV}{len cap:O}:opK qj (.mkS e bytes z len cap) t h k↔evK t len (fun len=>evK t cap (fun cap=>unN len (fun l=>unN cap (fun c=>ifK (l<=c) (ifK (c<=qi) (ifK (bytes*c<=qi) (evL (List.replicate c z).flatten (fun cs=>zd h (.cells 0 true false cs) (fun b h'=>k (.sl b 0 l c false) h'))))))))):=by
 show evK t len (fun len=>evK t cap (fun cap=>unN len (fun l=>unN cap (fun c=>qb (Nat.ble l c) (qb (Nat.ble c qi) (qb (Nat.ble (Nat.mul bytes c) qi) (qaw z c _)))))))↔_
 simp only[qa,zl,zP];exact Iff.rfl
def lnK(str:Bool)(x:AV)(k:AV->Prop):Prop:=match x,str with
 | .nils,false=>k (.i .i64 0)
 | .e0,false=>k (.i .i64 0)
 | .nz,false=>k (.i .i64 0)
 | .fz n _,false=>evA (.i .i64 (n:Int)) k
 | .own _ n,false=>evA (.i .i64 (n:Int)) k
 | .sl _ _ n _ _,false=>evA (.i .i64 (n:Int)) k
 | .s a,true=>evA (.i .i64 (a.length:Int)) k
 | _,_=>False
theorem qlZ{str:Bool}{x:O}:opK qj (.len str x) t h k↔evK t x (fun x=>lnK str x (fun v=>k v h)):=by
 show evK t x (fun x=>_)↔_
 refine iff_of_eq (congrArg _ (funext fun v=>?_))
 cases v<;>cases str<;>first|rfl|exact qg _ _
omit [Cur] in
theorem qjd{k:AV->Prop}:lnK false .nils k↔k (.i .i64 0):=Iff.rfl
omit [Cur] in
theorem qnF{k:AV->Prop}:lnK false .nz k↔k (.i .i64 0):=Iff.rfl
omit [Cur] in
theorem qnD{k:AV->Prop}:lnK false .e0 k↔k (.i .i64 0):=Iff.rfl
omit [Cur] in
theorem qnE{n:Nat}{cs:List AV}{k:AV->Prop}:lnK false (.fz n cs) k↔evA (.i .i64 (n:Int)) k:=Iff.rfl
omit [Cur] in
theorem qlq{b n:Nat}{k:AV->Prop}:lnK false (.own b n) k↔evA (.i .i64 (n:Int)) k:=Iff.rfl
omit [Cur] in
theorem qnG{b o n c:Nat}{l:Bool}{k:AV->Prop}:lnK false (.sl b o n c l) k↔evA (.i .i64 (n:Int)) k:=Iff.rfl
omit [Cur] in
theorem qou{a:List UInt8}{k:AV->Prop}:lnK true (.s a) k↔evA (.i .i64 (a.length:Int)) k:=Iff.rfl
omit [Cur] in
theorem qlP{esz bytes:Nat}{c:Bool}{s x:O}:opK qj (.app esz bytes c s x) t h k↔evK t s (fun s=>evK t x (fun x=>we h esz bytes c s x k)):=Iff.rfl
omit [Cur] in
theorem qju{esz bytes:Nat}{s x:O}:opK qj (.appF esz bytes s x) t h k↔evK t s (fun s=>evK t x (fun x=>we h esz bytes true s x k)):=Iff.rfl
def qfT(esz bytes:Nat)(z:List AV)(h:Hp)(s:AV)(n:Nat)(k:AV->Hp->Prop):Prop:=match s with
  | .sl b o len cap false=>evN (len+n) (fun need=>ifK (cap<need) (ifK (need<=qi) (ifK (need*bytes<=qi) (evN (len*esz) (fun m=>xw h b o m (fun old=>evL (old++(List.replicate n z).flatten) (fun cs=>zd h (.cells esz true true cs) (fun b' h'=>k (.own b' need) h'))))))))
  | .nils=>ifK (1<=n) (ifK (n<=qi) (ifK (n*bytes<=qi) (evL ((List.replicate n z).flatten) (fun cs=>zd h (.cells esz true true cs) (fun b' h'=>k (.own b' n) h')))))
  | _=>False
theorem qkw{esz bytes b o len cap n:Nat}{z:List AV}:qfT esz bytes z h (.sl b o len cap false) n k↔evN (len+n) (fun need=>ifK (cap<need) (ifK (need<=qi) (ifK (need*bytes<=qi) (evN (len*esz) (fun m=>xw h b o m (fun old=>evL (old++(List.replicate n z).flatten) (fun cs=>zd h (.cells esz true true cs) (fun b' h'=>k (.own b' need) h')))))))):=Iff.rfl
omit [Cur] in
theorem qfU{esz bytes n:Nat}{z:List AV}:qfT esz bytes z h .nils n k↔ifK (1<=n) (ifK (n<=qi) (ifK (n*bytes<=qi) (evL ((List.replicate n z).flatten) (fun cs=>zd h (.cells esz true true cs) (fun b' h'=>k (.own b' n) h'))))):=Iff.rfl
omit [Cur] in
theorem qjv{esz bytes:Nat}{z:List AV}{s x:O}:opK qj (.appZ esz bytes z s x) t h k↔evK t s (fun s=>evK t x (fun x=>unN x (fun n=>qfT esz bytes z h s n k))):=by
 show evK t s (fun s=>evK t x (fun x=>unN x (fun n=>_)))↔_
 refine iff_of_eq (congrArg _ (funext fun v=>congrArg _ (funext fun x=>congrArg _ (funext fun n=>propext ?_))))
 cases v<;>first|exact Iff.rfl|skip
 ·simp only[qfT,qa,zl,zP,ifK,evL];rfl
 rename_i b o len cap loose;cases loose with
 | true=>exact⟨fun hh=>absurd ((qa (!true) _).1 hh).1 (by simp),False.elim⟩
 | false =>
  simp only[qfT,qa,zl,zP,zB,Bool.not_false,true_and,evN,ifK,evL];rfl
omit [Cur] in
theorem qjw{esz:Nat}{s x:O}:opK qj (.copy esz s x) t h k↔evK t s (fun s=>evK t x (fun x=>qaS h esz s x k)):=Iff.rfl
omit [Cur] in
theorem qeV{esz:Nat}{s:AV}:qaS h esz .nils s k↔xt h esz s (fun _ _=>k (.i .i64 0) h):=Iff.rfl
omit [Cur] in
theorem qiD{esz b o len c:Nat}{l:Bool}{s:AV}:qaS h esz (.sl b o len c l) s k↔xt h esz s (fun n new=>evN (min n len) (fun m=>evN (m*esz) (fun z=>wp new 0 z (fun cs=>stK h b o cs (fun h'=>evA (.i .i64 (m:Int)) (fun v=>k v h')))))):=by
 show xt h esz s (fun n new=>qd (min n len) (fun m=>xf (Nat.mul m esz) new (fun cs=>stK h b o cs (fun h'=>k (.i .i64 (Int.ofNat m)) h'))))↔_
 simp only[zc];refine iff_of_eq (congrArg _ (funext fun n=>funext fun new=>congrArg _ (funext fun m=>propext ?_)))
 exact (qv _ _ _).trans ⟨fun hh=>⟨Nat.zero_le _,by simpa[evA] using hh⟩,fun hh=>by simpa[evN,wp,evA] using hh⟩
omit [Cur] in
theorem ql1{x y:O}:opK qj (.min x y) t h k↔evK t x (fun x=>evK t y (fun y=>unI x (fun q n=>unI y (fun _ m=>evA (.i q (if m<n then m else n)) (fun v=>k v h))))):=by
 have e:∀(q:IntKind) (n m:Int),(Bool.rec (motive:=fun _=>Prop) (k (.i q n) h) (k (.i q m) h) (ltI m n):Prop)=evA (.i q (if m<n then m else n)) (fun v=>k v h):=by
  intro q n m;rw[xP]
  by_cases hlt:m<n
  ·rw[decide_eq_true hlt,if_pos hlt];rfl
  ·rw[decide_eq_false hlt,if_neg hlt];rfl
 show evK t x (fun x=>evK t y (fun y=>unI x (fun q n=>unI y (fun _ m=>Bool.rec (motive:=fun _=>Prop) (k (.i q n) h) (k (.i q m) h) (ltI m n)))))↔_
 simp_all
omit [Cur] in
theorem ql0{x y:O}:opK qj (.max x y) t h k↔evK t x (fun x=>evK t y (fun y=>unI x (fun q n=>unI y (fun _ m=>evA (.i q (if n<m then m else n)) (fun v=>k v h))))):=by
 have e:∀(q:IntKind) (n m:Int),(Bool.rec (motive:=fun _=>Prop) (k (.i q n) h) (k (.i q m) h) (ltI n m):Prop)=evA (.i q (if n<m then m else n)) (fun v=>k v h):=by
  intro q n m;rw[xP]
  by_cases hlt:n<m
  ·rw[decide_eq_true hlt,if_pos hlt];rfl
  ·rw[decide_eq_false hlt,if_neg hlt];rfl
 show evK t x (fun x=>evK t y (fun y=>unI x (fun q n=>unI y (fun _ m=>Bool.rec (motive:=fun _=>Prop) (k (.i q n) h) (k (.i q m) h) (ltI n m)))))↔_
 simp_all
def qge(z:List AV)(x:AV)(h:Hp)(k:AV->Hp->Prop):Prop:=match x with
  | .nils=>k (.tup []) h
  | .sl b o n _ _=>if n=0 then k (.tup []) h else evL (List.replicate n z).flatten (fun cs=>stK h b o cs (fun h'=>k (.tup []) h'))
  | _=>False
theorem qgf{z:List AV}:qge z .nils h k↔k (.tup []) h:=Iff.rfl
omit [Cur] in
theorem qkK{z:List AV}{b o n c:Nat}{l:Bool}:qge z (.sl b o n c l) h k↔if n=0 then k (.tup []) h else evL (List.replicate n z).flatten (fun cs=>stK h b o cs (fun h'=>k (.tup []) h')):=Iff.rfl
omit [Cur] in
theorem qho{z:List AV}{x:O}:opK qj (.clear z x) t h k↔evK t x (fun x=>qge z x h k):=by
 show evK t x (fun x=>_)↔_
 refine iff_of_eq (congrArg _ (funext fun v=>?_))
 cases v<;>first|rfl|skip
 rename_i b o n c l;cases n with
 | zero=>simp only[qge,if_true];rfl
 | succ n=>simp only[qge,zP];rfl
omit [Cur] in
theorem ql3:opK qj .mkM t h k↔zd h (.map []) (fun b h'=>k (.map b) h'):=Iff.rfl
omit [Cur] in
theorem qfr{n:Nat}{x v:O}{ps:List Nat}:opK qj (.storeD n x v ps) t h k↔evK t x (fun p=>unP p (fun b o=>zn t b ps (evK t v (fun v=>stV h b o v n (fun h'=>k .undef h'))))):=Iff.rfl
omit [Cur] in
theorem qjt{esz bytes:Nat}{s x:O}{ps:List Nat}:opK qj (.appD esz bytes s x ps) t h k↔evK t s (fun s=>evK t x (fun x=>xB t ps s (we h esz bytes true s x k))):=Iff.rfl
theorem qjN{ps:List Nat}{b m:Nat}{p:Prop}:xB t ps (.own b m) p↔zn t b ps p:=Iff.rfl
omit [Cur] in
theorem qmh{ps:List Nat}{b o m c:Nat}{l:Bool}{p:Prop}:xB t ps (.sl b o m c l) p↔zn t b ps p:=Iff.rfl
omit [Cur] in
theorem qmg{ps:List Nat}{m:Nat}{cs:List AV}{p:Prop}:xB t ps (.fz m cs) p↔p:=Iff.rfl
omit [Cur] in
theorem qhL{ps:List Nat}{p:Prop}:xB t ps .nils p↔p:=Iff.rfl
omit [Cur] in
theorem qmf{ps:List Nat}{p:Prop}:xB t ps .e0 p↔p:=Iff.rfl
theorem qeG{b:Nat}{p:Prop}:zn t b [] p↔p:=Iff.rfl
def neK(b:Nat)(y:AV)(p:Prop):Prop:=match y with | .ptr b' _=>ifK (¬b'=b) p | .pf _ _=>p|_=>False
theorem qly{b b' o:Nat}{p:Prop}:neK b (.ptr b' o) p↔ifK (¬b'=b) p:=Iff.rfl
omit [Cur] in
theorem qnI{b o:Nat}{cs:List AV}{p:Prop}:neK b (.pf cs o) p↔p:=Iff.rfl
theorem qdy{b q:Nat}{ps:List Nat}{p:Prop}:zn t b (q::ps) p↔evO (t.get q) (fun y=>neK b y (zn t b ps p)):=by
 refine (Tr.getK_iff _ _ _).trans (iff_of_eq (congrArg _ (funext fun v=>?_)))
 refine congrArg _ ?_;cases v<;>first|rfl|skip
 rename_i b' o;refine propext ((qa _ _).trans ?_);show _∧_↔_∧_
 have:(!Nat.beq b' b)=true↔¬b'=b:=by
  rw[Bool.not_eq_true',← Bool.not_eq_true,jK]
 rw[this];exact Iff.rfl
def cpK(x:AV)(k:AV->Prop):Prop:=match x with
  | .nils=>k (.i .i64 0)
  | .e0=>k (.i .i64 0)
  | .sl _ _ _ c false=>evA (.i .i64 (c:Int)) k
  | _=>False
theorem qlT{x:O}:opK qj (.cap x) t h k↔evK t x (fun x=>cpK x (fun v=>k v h)):=by
 show evK t x (fun x=>_)↔_
 refine iff_of_eq (congrArg _ (funext fun v=>?_))
 cases v<;>first|rfl|skip
 rename_i l;cases l<;>rfl
omit [Cur] in
theorem qiE{k:AV->Prop}:cpK .nils k↔k (.i .i64 0):=Iff.rfl
omit [Cur] in
theorem qng{k:AV->Prop}:cpK .e0 k↔k (.i .i64 0):=Iff.rfl
omit [Cur] in
theorem qnh{b o n c:Nat}{k:AV->Prop}:cpK (.sl b o n c false) k↔evA (.i .i64 (c:Int)) k:=Iff.rfl
omit [Cur] in
theorem qgw{l:List AV}{k:List AV->Prop}:zH t [] l k↔k l:=Iff.rfl
theorem qe2{off m:Nat}{x:O}{ps:List (Nat×Nat×O)}{l:List AV}{k:List AV->Prop}:zH t ((off,m,x)::ps) l k↔evK t x (fun v=>ifK (wq v=true) (evL (cellsOf v) (fun cs=>ifK (cs.length=m∧off+cs.length<=l.length) (evL (l.take off++(cs++l.drop (off+cs.length))) (fun l=>zH t ps l k))))):=by
 show evK t x (fun v=>qb (wq v) (qd off (fun off=>w5 (cellsOf v) (fun n=>qb (Nat.beq n m) (zm (cellsOf v) off l (fun l'=>zH t ps l' k))))))↔_
 simp only[qa,qg,zE,zy,jK,ifK,evL,and_assoc]
omit [Cur] in
theorem qhP{esz:Nat}{k:Nat->List AV->Prop}:xt h esz .nils k↔k 0 []:=Iff.rfl
omit [Cur] in
theorem qmo{esz:Nat}{k:Nat->List AV->Prop}:xt h esz .nz k↔k 0 []:=Iff.rfl
omit [Cur] in
theorem qmm{esz:Nat}{k:Nat->List AV->Prop}:xt h esz .e0 k↔k 0 []:=Iff.rfl
omit [Cur] in
theorem qmp{esz b o n c:Nat}{l:Bool}{k:Nat->List AV->Prop}:xt h esz (.sl b o n c l) k↔evN (n*esz) (fun m=>xw h b o m (fun cs=>k n cs)):=Iff.rfl
omit [Cur] in
theorem qjS{esz b n:Nat}{k:Nat->List AV->Prop}:xt h esz (.own b n) k↔evN (n*esz) (fun m=>xw h b 0 m (fun cs=>k n cs)):=Iff.rfl
omit [Cur] in
theorem qmn{esz n:Nat}{cs:List AV}{k:Nat->List AV->Prop}:xt h esz (.fz n cs) k↔evN (n*esz) (fun m=>wp cs 0 m (fun cs=>k n cs)):=by
 refine (qv _ _ _).trans ⟨fun hh=>⟨Nat.zero_le _,by simp_all⟩,fun hh=>by simpa[evN,wp] using hh⟩
theorem qnZ{esz:Nat}{a:List UInt8}{k:Nat->List AV->Prop}:xt h esz (.s a) k↔ifK (esz=1) (k a.length (a.map fun c=>.i .u8 (Int.ofNat c.toNat))):=by
 show qb (Nat.beq esz 1) (qd a.length _)↔_;rw[qa,jK,qg];exact Iff.rfl
omit [Cur] in
theorem qfS{esz bytes:Nat}{c:Bool}{x:AV}:we h esz bytes c .nils x k↔xt h esz x (fun n new=>ifK (n<=qi) (ifK (n*bytes<=qi) (zd h (.cells esz true true new) (fun b h'=>k (.own b n) h')))):=by
 show xt h esz x (fun n new=>qb (Nat.ble n qi) (qb (Nat.ble (Nat.mul n bytes) qi) _))↔_
 simp only[qa,zl];exact Iff.rfl
omit [Cur] in
theorem qkt{esz bytes:Nat}{c:Bool}{x:AV}:we h esz bytes c .e0 x k↔xt h esz x (fun n new=>ifK (n<=qi) (ifK (n*bytes<=qi) (zd h (.cells esz true true new) (fun b h'=>k (.own b n) h')))):=by
 show xt h esz x (fun n new=>qb (Nat.ble n qi) (qb (Nat.ble (Nat.mul n bytes) qi) _))↔_
 simp only[qa,zl];exact Iff.rfl
theorem qh2{esz bytes b m:Nat}{x:AV}:we h esz bytes true (.own b m) x k↔xt h esz x (fun n new=>evN (m+n) (fun need=>ifK (need<=qi) (ifK (need*bytes<=qi) (evB (h.tr.get b) (fun y=>zY y (fun e w a ys =>
  ifK (qw new=true∧w=true∧a=true∧e=esz∧ys.length=m*esz) (evL (ys++new) (fun cs'=>zw h b .dead (fun h1=>zd h1 (.cells esz true true cs') (fun b' h'=>k (.own b' need) h')))))))))):=by
 show xt h esz x (fun n new=>qd (Nat.add m n) (fun need=>qb (Nat.ble need qi) (qb (Nat.ble (Nat.mul need bytes) qi) (zI h b (fun e w a ys=>_)))))↔_
 simp only[zc,qa,zl,jK,wL,zE,zB];refine iff_of_eq (congrArg _ (funext fun n=>funext fun new=>?_))
 simp only[ifK,evN,evL,and_assoc];rfl
omit [Cur] in
theorem qkv{esz bytes b o len cap:Nat}{c:Bool}{x:AV}:we h esz bytes c (.sl b o len cap false) x k↔xt h esz x (fun n new=>evN (len+n) (fun need=>if need<=cap then
  (if n=0 then k (.sl b o need cap false) h else evN (o+len*esz) (fun at_=>stK h b at_ new (fun h'=>k (.sl b o need cap false) h')))
  else ifK (need<=qi) (ifK (need*bytes<=qi) (evN (len*esz) (fun m=>xw h b o m (fun old=>evL (old++new) (fun cs=>zd h (.cells esz true true cs) (fun b' h'=>k (.own b' need) h')))))))):=by
 have e:∀(n:Nat) (p q:Prop),(Nat.rec (motive:=fun _=>Prop) p (fun _ _=>q) n:Prop)↔if n=0 then p else q:=by
  intro n p q;cases n with
  | zero=>rw[if_pos rfl];exact Iff.rfl
  | succ n=>rw[if_neg (by omega)]
 unfold we;dsimp only;simp only[Bool.not_false,zc,qez,zl,jy,zB,e,qdc];exact Iff.rfl
omit [Cur] in
theorem qku{esz bytes m:Nat}{c:Bool}{cs:List AV}{x:AV}:we h esz bytes c (.fz m cs) x k↔xt h esz x (fun n _=>ifK (n=0) (k (.fz m cs) h)):=by
 show xt h esz x (fun n _=>Nat.rec (motive:=fun _=>Prop) (k (.fz m cs) h) (fun _ _=>False) n)↔_
 refine iff_of_eq (congrArg _ (funext fun n=>funext fun new=>?_))
 cases n<;>simp[ifK];rfl
omit [Cur] in
theorem qhf{k:Bool->Prop}:zj .ptr .nilp k↔k true:=Iff.rfl
omit [Cur] in
theorem qjj{b o:Nat}{k:Bool->Prop}:zj .ptr (.ptr b o) k↔k false:=Iff.rfl
omit [Cur] in
theorem qlF{cs:List AV}{o:Nat}{k:Bool->Prop}:zj .ptr (.pf cs o) k↔k false:=Iff.rfl
omit [Cur] in
theorem qlE{k:Bool->Prop}:zj .slice .nz k↔k false:=Iff.rfl
omit [Cur] in
theorem qhg{k:Bool->Prop}:zj .slice .nils k↔k true:=Iff.rfl
omit [Cur] in
theorem qlG{b o n c:Nat}{l:Bool}{k:Bool->Prop}:zj .slice (.sl b o n c l) k↔k false:=Iff.rfl
omit [Cur] in
theorem qlD{n:Nat}{cs:List AV}{k:Bool->Prop}:zj .slice (.fz n cs) k↔ifK (1<=n) (k false):=by
 show qb (Nat.ble 1 n) (k false)↔_;rw[qa,zl];exact Iff.rfl
omit [Cur] in
theorem qji{b n:Nat}{k:Bool->Prop}:zj .slice (.own b n) k↔ifK (1<=n) (k false):=by
 show qb (Nat.ble 1 n) (k false)↔_;rw[qa,zl];exact Iff.rfl
omit [Cur] in
theorem qhd{k:Bool->Prop}:zj .func .nilf k↔k true:=Iff.rfl
omit [Cur] in
theorem qlC{f:Nat}{a c:List AV}{k:Bool->Prop}:zj .func (.fn f a c) k↔k false:=Iff.rfl
omit [Cur] in
theorem qhe{k:Bool->Prop}:zj .iface .nili k↔k true:=Iff.rfl
omit [Cur] in
theorem qjh{t:Nat}{v:AV}{k:Bool->Prop}:zj .iface (.ifc t v) k↔k false:=Iff.rfl
omit [Cur] in
theorem qiH{x y:List AV}{k:Bool->Prop}:zu [] x y k↔k true:=Iff.rfl
omit [Cur] in
theorem qgp{q:PK}{qs:List PK}{u v:AV}{us vs:List AV}{k:Bool->Prop}:zu (q::qs) (u::us) (v::vs) k↔zQ q u v (fun e=>if e=true then zu qs us vs k else k false):=by
 show zQ q u v (fun e=>Bool.rec (motive:=fun _=>Prop) (k false) (zu qs us vs k) e)↔_
 simp only[jy]
theorem qon{q:IntKind}{n m:Int}{k:Bool->Prop}:zQ .i (.i q n) (.i q m) k↔evT (decide (n=m)) k:=by
 show qb (decide (q=q)) (qn (eqI n m) k)↔_;rw[qa,qbo,qk];simp[evT]
omit [Cur] in
theorem qoo{a c:List UInt8}{k:Bool->Prop}:zQ .s (.s a) (.s c) k↔evT (decide (a=c)) k:=by
 show qn (eqS a c) k↔_;rw[qk,xl,show (a==c)=decide (a=c) from by rw[Bool.eq_iff_iff];simp];exact Iff.rfl
omit [Cur] in
theorem qom{a c:Bool}{k:Bool->Prop}:zQ .b (.b a) (.b c) k↔evT (a==c) k:=by
 show qn (a==c) k↔_;rw[qk];exact Iff.rfl
omit [Cur] in
theorem qgl{rs:List RV}{k:AV->Hp->Prop}:qan rs k .ret t h↔xb t h rs (fun vs=>k (zM vs) h):=Iff.rfl
omit [Cur] in
theorem qc1{rs:List RV}{k:AV->Hp->Prop}:qan rs k .normal t h↔xb t h rs (fun vs=>k (zM vs) h):=Iff.rfl
theorem qjJ{k:List AV->Prop}:xb t h [] k↔k []:=Iff.rfl
omit [Cur] in
theorem qjK{n:Nat}{rs:List RV}{k:List AV->Prop}:xb t h (.tmp n::rs) k↔evO (t.get n) (fun v=>xb t h rs (fun vs=>k (v::vs))):=Tr.getK_iff _ _ _
omit [Cur] in
theorem qhH{n size:Nat}{agg:Bool}{rs:List RV}{k:List AV->Prop}:xb t h (.cell n size agg::rs) k↔evO (t.get n) (fun v=>unP v (fun b o=>if agg=true then xw h b o size (fun cs=>xb t h rs (fun vs=>k (.agg cs::vs))) else ldK h b o (fun v=>xb t h rs (fun vs=>k (v::vs))))):=by
 refine (Tr.getK_iff _ _ _).trans (iff_of_eq (congrArg _ (funext fun v=>congrArg _ ?_)))
 cases v<;>first|rfl|skip
 cases agg<;>rfl
end Go.Kc
end
section
namespace Go.Kc
variable [Cur]
variable {P:Program} {n:Nat} {t:Tr AV} {h:Hp} {k:AV->Hp->Prop}

section
variable {r:Nat->Nat} {m:Nat} {v v':AV} {vs vs':List AV}
omit [Cur] in
theorem qhi:NV r m v .undef↔True:=iff_true_intro (.undef _)
omit [Cur] in
theorem qov{x y:Bool}:NV r m (.b x) (.b y)↔x=y:=⟨fun h=>by cases h;rfl,fun h=>by subst h;exact .clo _ rfl⟩
omit [Cur] in
theorem qow{q q':IntKind}{x y:Int}:NV r m (.i q x) (.i q' y)↔q=q'∧x=y:=⟨fun h=>by cases h<;>simp_all,fun⟨h,h'⟩=>by subst h h';exact .clo _ rfl⟩
omit [Cur] in
theorem qox{x y:List UInt8}:NV r m (.s x) (.s y)↔x=y:=⟨fun h=>by cases h;rfl,fun h=>by subst h;exact .clo _ rfl⟩
omit [Cur] in
theorem qjn:NV r m .nilp .nilp↔True:=iff_true_intro (.clo _ rfl)
omit [Cur] in
theorem qjo:NV r m .nils .nils↔True:=iff_true_intro (.clo _ rfl)
omit [Cur] in
theorem qjk:NV r m .nilf .nilf↔True:=iff_true_intro (.clo _ rfl)
omit [Cur] in
theorem qjl:NV r m .nili .nili↔True:=iff_true_intro (.clo _ rfl)
omit [Cur] in
theorem qjm:NV r m .nilm .nilm↔True:=iff_true_intro (.clo _ rfl)
omit [Cur] in
theorem qnL:NV r m .e0 .e0↔True:=iff_true_intro (.clo _ rfl)
omit [Cur] in
theorem qnO:NV r m .nz .nz↔True:=iff_true_intro (.clo _ rfl)
omit [Cur] in
theorem qlI{x:Nat}{cs:List AV}:NV r m .e0 (.fz x cs)↔x=0∧cs=[]:=⟨fun h=>by cases h<;>simp_all,fun⟨h,h'⟩=>by subst h h';exact .e0z⟩
omit [Cur] in
theorem qhh{b' x':Nat}:NV r m .e0 (.own b' x')↔b'<m∧x'=0:=⟨fun h=>by
  cases h<;>simp_all,fun⟨h1,h2⟩=>by subst h2;exact .e0own _ h1⟩
omit [Cur] in
theorem qlN{b b' o x c x':Nat}{l:Bool}:NV r m (.sl b o x c l) (.own b' x')↔b'<m∧x=0∧c=0∧l=false∧x'=0:=⟨fun h=>by
  cases h<;>simp_all,fun⟨h1,h2,h3,h4,h5⟩=>by subst h2 h3 h4 h5;exact .slz _ _ _ h1⟩
omit [Cur] in
theorem qnN{x y:Nat}{cs ds:List AV}:NV r m (.fz x cs) (.fz y ds)↔x=y∧cs=ds:=⟨fun h=>by cases h<;>simp_all,fun⟨h,h'⟩=>by subst h h';exact .clo _ rfl⟩
omit [Cur] in
theorem qnP{x y:Nat}{cs ds:List AV}:NV r m (.pf cs x) (.pf ds y)↔cs=ds∧x=y:=⟨fun h=>by cases h<;>simp_all,fun⟨h,h'⟩=>by subst h h';exact .clo _ rfl⟩
omit [Cur] in
theorem qjp{x:Nat}{cs:List AV}:NV r m .nils (.fz x cs)↔x=0∧cs=[]:=⟨fun h=>by cases h<;>simp_all,fun⟨h,h'⟩=>by subst h h';exact .nilz⟩
omit [Cur] in
theorem qlM{b b' o o':Nat}:NV r m (.ptr b o) (.ptr b' o')↔r b'=b∧b'<m∧o=o':=⟨fun h=>by
  cases h with
  | clo _ hc=>cases hc
  | ptr _ _ _ h1 h2=>omega,fun⟨h1,h2,h3⟩=>by subst h3;exact .ptr _ _ _ h1 h2⟩
omit [Cur] in
theorem qnQ{b b' o o' x x' c c':Nat}{l l':Bool}:NV r m (.sl b o x c l) (.sl b' o' x' c' l')↔r b'=b∧b'<m∧o=o'∧x=x'∧c=c'∧l=l':=⟨fun h=>by
  cases h with
  | clo _ hc=>cases hc
  | sl _ _ _ _ _ _ h1 h2=>simp_all,fun⟨h1,h2,h3,h4,h5,h6⟩=>by subst h3 h4 h5 h6;exact .sl _ _ _ _ _ _ h1 h2⟩
omit [Cur] in
theorem qlL{b b' x x':Nat}:NV r m (.own b x) (.own b' x')↔r b'=b∧b'<m∧x=x':=⟨fun h=>by
  cases h with
  | clo _ hc=>cases hc
  | own _ _ _ h1 h2=>omega,fun⟨h1,h2,h3⟩=>by subst h3;exact .own _ _ _ h1 h2⟩
omit [Cur] in
theorem qfk{b' x':Nat}:NV r m .nils (.own b' x')↔b'<m∧x'=0:=⟨fun h=>by
  cases h<;>simp_all,fun⟨h1,h2⟩=>by subst h2;exact .nilown _ h1⟩
omit [Cur] in
theorem qlK{b b':Nat}:NV r m (.map b) (.map b')↔r b'=b∧b'<m:=⟨fun h=>by
  cases h with
  | clo _ hc=>cases hc
  | map _ _ h1 h2=>omega,fun⟨h1,h2⟩=>.map _ _ h1 h2⟩
omit [Cur] in
theorem qnR{b b':Nat}:NV r m (.yl b) (.yl b')↔r b'=b∧b'<m:=⟨fun h=>by
  cases h with
  | clo _ hc=>cases hc
  | yl _ _ h1 h2=>omega,fun⟨h1,h2⟩=>.yl _ _ h1 h2⟩
omit [Cur] in
theorem qjq:NVs r m [] []↔True:=iff_true_intro .nil
omit [Cur] in
theorem qhj:NVs r m (v::vs) (v'::vs')↔NV r m v v'∧NVs r m vs vs':=⟨fun h=>by
  cases h<;>simp_all,fun h=>.cons _ _ _ _ h.1 h.2⟩
omit [Cur] in
theorem qlH{cs cs':List AV}:NV r m (.agg cs) (.agg cs')↔NVs r m cs cs':=⟨fun h=>by
  cases h with
  | clo _ hc=>exact NVs.refl (by simpa[clo] using hc)
  | agg _ _ h1=>exact h1,fun h=>.agg _ _ h⟩
omit [Cur] in
theorem qlO{cs cs':List AV}:NV r m (.tup cs) (.tup cs')↔NVs r m cs cs':=⟨fun h=>by
  cases h with
  | clo _ hc=>exact NVs.refl (by simpa[clo] using hc)
  | tup _ _ h1=>exact h1,fun h=>.tup _ _ h⟩
omit [Cur] in
theorem qnM{f f':Nat}{a a' c c':List AV}:NV r m (.fn f a c) (.fn f' a' c')↔f=f'∧NVs r m a a'∧NVs r m c c':=⟨fun h=>by
  cases h with
  | clo _ hc =>
   simp only[clo,Bool.and_eq_true] at hc
   simp_all[NVs.refl]
  | fn _ _ _ _ _ h1 h2=>simp_all,fun⟨h1,h2,h3⟩=>by subst h1;exact .fn _ _ _ _ _ h2 h3⟩
omit [Cur] in
theorem qlJ{f f':Nat}:NV r m (.ifc f v) (.ifc f' v')↔f=f'∧NV r m v v':=⟨fun h=>by
  cases h with
  | clo _ hc=>exact⟨rfl,.clo _ (by simpa[clo] using hc)⟩
  | ifc _ _ _ h1=>simp_all,fun⟨h1,h2⟩=>by subst h1;exact .ifc _ _ _ h2⟩
omit [Cur] in
theorem qjV:TWs t r m []↔True:=Iff.rfl
omit [Cur] in
theorem qhT{p:Nat×AV}{l:List (Nat×AV)}:TWs t r m (p::l)↔evO (t.get p.1) (fun v=>NV r m v p.2)∧TWs t r m l:=Iff.rfl
omit [Cur] in
theorem qip:BWs h r m [] []↔True:=Iff.rfl
omit [Cur] in
theorem qf4{b:Nat}{x:Blk}{bs:List Nat}{xs:List Blk}:BWs h r m (b::bs) (x::xs)↔BW h r m b x∧BWs h r m bs xs:=Iff.rfl
omit [Cur] in
theorem qkE{b:Nat}{x:Blk}(hb:h.sz<=b):BW h r m b x↔True:=iff_true_intro (.inl hb)
omit [Cur] in
theorem qio{b:Nat}:BW h r m b .dead↔True:=iff_true_intro (.inr (.inl rfl))
omit [Cur] in
theorem qkF{b e:Nat}{w a:Bool}{cs':List AV}(hb:b<h.sz):BW h r m b (.cells e w a cs')↔evB (h.tr.get b) (fun x=>zY x (fun e0 w0 a0 cs=>e0=e∧(w=true->w0=true)∧(a=true->a0=true)∧NVs r m cs cs')):=by
 constructor
 ·rintro (h1|h1|⟨e',w0,a0,cs,w',a',cs'',h1,h2,h3,h4,h5⟩|⟨es,es',h1,h2,h3⟩)
  ·omega
  ·cases h1
  ·cases h2;exact⟨_,h1,rfl,h3,h4,h5⟩
  simp_all
 ·rintro⟨x,h1,h2⟩;cases x with
  | cells e0 w0 a0 cs =>
   obtain⟨rfl,h3,h4,h5⟩:=h2;exact .inr (by grind)
  | dead=>exact h2.elim
  | map es=>exact h2.elim
end
omit [Cur] in
theorem qoR{b d:Nat}{l:List Nat}:rl (b::l) d 0=b:=rfl
omit [Cur] in
theorem qoS{b d i:Nat}{l:List Nat}:rl (b::l) d (i+1)=rl l d i:=rfl

section
variable {v v':AV} {vs vs':List AV}
omit [Cur] in
theorem qgC:Frz h v .undef↔True:=iff_true_intro (.undef _)
omit [Cur] in
theorem qop{x y:Bool}:Frz h (.b x) (.b y)↔x=y:=⟨fun h=>by cases h;rfl,fun h=>by subst h;exact .b _⟩
omit [Cur] in
theorem qor{q q':IntKind}{x y:Int}:Frz h (.i q x) (.i q' y)↔q=q'∧x=y:=⟨fun h=>by cases h<;>simp_all,fun⟨h,h'⟩=>by subst h h';exact .i _ _⟩
omit [Cur] in
theorem qos{x y:List UInt8}:Frz h (.s x) (.s y)↔x=y:=⟨fun h=>by cases h;rfl,fun h=>by subst h;exact .s _⟩
omit [Cur] in
theorem qiS:Frz h .nilp .nilp↔True:=iff_true_intro .nilp
omit [Cur] in
theorem qiT:Frz h .nils .nils↔True:=iff_true_intro .nils
omit [Cur] in
theorem qiP:Frz h .nilf .nilf↔True:=iff_true_intro .nilf
omit [Cur] in
theorem qiQ:Frz h .nili .nili↔True:=iff_true_intro .nili
omit [Cur] in
theorem qiR:Frz h .nilm .nilm↔True:=iff_true_intro .nilm
omit [Cur] in
theorem qnr:Frz h .e0 .e0↔True:=iff_true_intro .e0
omit [Cur] in
theorem qnt:Frz h .nz .nz↔True:=iff_true_intro .nz
omit [Cur] in
theorem qk4{x:Nat}{cs:List AV}:Frz h .e0 (.fz x cs)↔x=0∧cs=[]:=⟨fun h=>by cases h<;>simp_all,fun⟨h,h'⟩=>by subst h h';exact .e0z⟩
omit [Cur] in
theorem qns{x y:Nat}{cs ds:List AV}:Frz h (.fz x cs) (.fz y ds)↔x=y∧cs=ds:=⟨fun h=>by cases h<;>simp_all,fun⟨h,h'⟩=>by subst h h';exact .fz _ _⟩
omit [Cur] in
theorem qnu{x y:Nat}{cs ds:List AV}:Frz h (.pf cs x) (.pf ds y)↔cs=ds∧x=y:=⟨fun h=>by cases h<;>simp_all,fun⟨h,h'⟩=>by subst h h';exact .pf _ _⟩
omit [Cur] in
theorem qiU{x:Nat}{cs:List AV}:Frz h .nils (.fz x cs)↔x=0∧cs=[]:=⟨fun h=>by cases h<;>simp_all,fun⟨h,h'⟩=>by subst h h';exact .nilz⟩
omit [Cur] in
theorem qiV:Frzs h [] []↔True:=iff_true_intro .nil
omit [Cur] in
theorem qgD:Frzs h (v::vs) (v'::vs')↔Frz h v v'∧Frzs h vs vs':=⟨fun h=>by
  cases h<;>simp_all,fun h=>.cons _ _ _ _ h.1 h.2⟩
omit [Cur] in
theorem qk3{cs cs':List AV}:Frz h (.agg cs) (.agg cs')↔Frzs h cs cs':=⟨fun h=>by cases h<;>grind,fun h=>.agg _ _ h⟩
omit [Cur] in
theorem qk8{cs cs':List AV}:Frz h (.tup cs) (.tup cs')↔Frzs h cs cs':=⟨fun h=>by cases h<;>grind,fun h=>.tup _ _ h⟩
omit [Cur] in
theorem qk9{f f':Nat}{a a' c c':List AV}:Frz h (.fn f a c) (.fn f' a' c')↔f=f'∧Frzs h a a'∧Frzs h c c':=⟨fun h=>by
  cases h<;>simp_all,fun⟨h1,h2,h3⟩=>by subst h1;exact .fn _ _ _ _ _ h2 h3⟩
omit [Cur] in
theorem qk5{f f':Nat}:Frz h (.ifc f v) (.ifc f' v')↔f=f'∧Frz h v v':=⟨fun h=>by
  cases h<;>simp_all,fun⟨h1,h2⟩=>by subst h1;exact .ifc _ _ _ h2⟩
omit [Cur] in
theorem qk6{b x y:Nat}{cs':List AV}:Frz h (.own b x) (.fz y cs')↔x=y∧evB (h.tr.get b) (fun z=>zY z (fun _ w _ ys=>w=true∧(x=0->ys=[])∧Frzs h ys cs')):=by
 constructor
 ·intro hh;cases hh with
  | own _ _ e af ys _ hb h0 h1=>exact⟨rfl,_,hb,rfl,h0,h1⟩
 ·rintro⟨rfl,z,h1,h2⟩;cases z with
  | cells e w af ys =>
   obtain⟨rfl,h3,h4⟩:=h2;exact .own _ _ e af ys _ h1 h3 h4
  | dead=>exact h2.elim
  | map es=>exact h2.elim
omit [Cur] in
theorem qk7{b x y:Nat}{cs':List AV}:Frz h (.ptr b x) (.pf cs' y)↔x=y∧evB (h.tr.get b) (fun z=>zY z (fun _ w _ ys=>w=true∧Frzs h ys cs')):=by
 constructor
 ·intro hh;cases hh with
  | ptr _ _ e af ys _ hb h1=>exact⟨rfl,_,hb,rfl,h1⟩
 ·rintro⟨rfl,z,h1,h2⟩;cases z with
  | cells e w af ys =>
   obtain⟨rfl,h4⟩:=h2;exact .ptr _ _ e af ys _ h1 h4
  | dead=>exact h2.elim
  | map es=>exact h2.elim
omit [Cur] in
theorem Frz.cut{b o x c:Nat}{l:Bool}{y:Nat}{cs':List AV}(esz:Nat)(hx:x=y)(hc:x<=c)(hg:evB (h.tr.get b) (fun z=>zY z (fun _ w _ cs=>w=true∧o+x*esz<=cs.length∧Frzs h ((cs.drop o).take (x*esz)) cs'))):Frz h (.sl b o x c l) (.fz y cs'):=by
 subst hx;obtain⟨z,h1,h2⟩:=hg;cases z with
 | cells e w af cs =>
  obtain⟨rfl,h3,h4⟩:=h2;exact .sl _ _ _ _ _ e af cs (x*esz) _ h1 hc h3 (fun hh=>by rw[hh] at hc;simp_all) h4
 | dead=>exact h2.elim
 | map es=>exact h2.elim
end
mutual
theorem Frz.self:∀{v:AV},clo v=true->Frz h v v
 | .undef,_=>.undef _
 | .b _,_=>.b _
 | .i _ _,_=>.i _ _
 | .s _,_=>.s _
 | .nilp,_=>.nilp
 | .ptr _ _,hc=>by simp[clo] at hc
 | .nils,_=>.nils
 | .sl _ _ _ _ _,hc=>by simp[clo] at hc
 | .nilf,_=>.nilf
 | .fn _ _ _,hc=>by
  simp only[clo,Bool.and_eq_true] at hc;exact .fn _ _ _ _ _ (Frzs.self hc.1) (Frzs.self hc.2)
 | .nili,_=>.nili
 | .ifc _ _,hc=>.ifc _ _ _ (Frz.self (by simpa[clo] using hc))
 | .agg _,hc=>.agg _ _ (Frzs.self (by simpa[clo] using hc))
 | .tup _,hc=>.tup _ _ (Frzs.self (by simpa[clo] using hc))
 | .nilm,_=>.nilm
 | .map _,hc=>by simp[clo] at hc
 | .fz _ _,_=>.fz _ _
 | .pf _ _,_=>.pf _ _
 | .e0,_=>.e0
 | .nz,_=>.nz
 | .own _ _,hc=>by simp[clo] at hc
 | .sym _,hc=>by simp[clo] at hc
 | .yl _,hc=>by simp[clo] at hc
 | .lp _,hc=>by simp[clo] at hc
theorem Frzs.self:∀{vs:List AV},qM vs=true->Frzs h vs vs
 | [],_=>.nil
 | v::vs,hc=>by
  simp only[qM,Bool.and_eq_true] at hc;exact .cons _ _ _ _ (Frz.self hc.1) (Frzs.self hc.2)
end

omit [Cur] in
@[congr] theorem qlf {kd:Option IntKind} {i:AV} {p:Prop} {mk:Prop} (_:qR=mk):qa4 qj kd i p=qa4 qj kd i p:=rfl
@[congr] theorem qlr {b:Nat} {k:List (AV×AV)->Prop} {mk:Prop} (_:qR=mk):wy h b k=wy h b k:=rfl
@[congr] theorem qi3 {es:List (AV×AV)} {p:Prop} {mk:Prop} (_:qR=mk):jQ es p=jQ es p:=rfl
theorem qnz{a:List UInt8}{p:Prop}:qa4 qj none (.s a) p↔p:=Iff.rfl
omit [Cur] in
theorem qny{q:IntKind}{z:Int}{p:Prop}:qa4 qj (some q) (.i q z) p↔p:=by
 show qb (decide (q=q)) p↔p;rw[qa];simp
omit [Cur] in
theorem qe9{p:Prop}:jQ [] p↔p:=Iff.rfl
omit [Cur] in
theorem qi6{a:List UInt8}{v:AV}{es:List (AV×AV)}{p:Prop}:jQ ((.s a,v)::es) p↔p:=Iff.rfl
omit [Cur] in
theorem qi5{q:IntKind}{z:Int}{v:AV}{es:List (AV×AV)}{p:Prop}:jQ ((.i q z,v)::es) p↔p:=Iff.rfl
def qg4(x:Blk)(k:List (AV×AV)->Prop):Prop:=match x with | .map es=>k es|_=>False
theorem qb8{es:List (AV×AV)}{k:List (AV×AV)->Prop}:qg4 (.map es) k↔k es:=Iff.rfl
omit [Cur] in
theorem qnH{b:Nat}{k:List (AV×AV)->Prop}:wy h b k↔evB (h.tr.get b) (fun x=>qg4 x (fun es=>jQ es (k es))):=by
 unfold wy;refine (Tr.getK_iff _ _ _).trans (iff_of_eq (congrArg _ (funext fun x=>congrArg _ ?_)))
 cases x<;>rfl
omit [Cur] in
theorem qgx{i:AV}{k:Option AV->Prop}:xQ qj i [] k↔k none:=Iff.rfl
omit [Cur] in
theorem qk0{i a:List UInt8}{v:AV}{es:List (AV×AV)}{k:Option AV->Prop}:xQ qj (.s i) ((.s a,v)::es) k↔if i=a then k (some v) else xQ qj (.s i) es k:=by
 show qn (eqS i a) (fun r=>Bool.rec (motive:=fun _=>Prop) (xQ qj (.s i) es k) (k (some v)) r)↔_
 rw[qk,jy,xl];simp
omit [Cur] in
theorem qkZ{q:IntKind}{i a:Int}{v:AV}{es:List (AV×AV)}{k:Option AV->Prop}:xQ qj (.i q i) ((.i q a,v)::es) k↔if i=a then k (some v) else xQ qj (.i q i) es k:=by
 show qb (decide (q=q)) (qn (eqI i a) (fun r=>Bool.rec (motive:=fun _=>Prop) (xQ qj (.i q i) es k) (k (some v)) r))↔_
 rw[qa,qk,jy,qbo];simp
omit [Cur] in
theorem qjX{i v:AV}{k:List (AV×AV)->Prop}:w7 qj i v [] k↔k [(i,v)]:=Iff.rfl
omit [Cur] in
theorem qn6{i a:List UInt8}{u v:AV}{es:List (AV×AV)}{k:List (AV×AV)->Prop}:w7 qj (.s i) u ((.s a,v)::es) k↔if i=a then k ((.s i,u)::es) else w7 qj (.s i) u es (fun l=>k ((.s a,v)::l)):=by
 show qn (eqS i a) (fun r=>Bool.rec (motive:=fun _=>Prop) (w7 qj (.s i) u es (fun l=>k ((.s a,v)::l))) (k ((.s i,u)::es)) r)↔_
 rw[qk,jy,xl];simp
omit [Cur] in
theorem qn5{q:IntKind}{i a:Int}{u v:AV}{es:List (AV×AV)}{k:List (AV×AV)->Prop}:w7 qj (.i q i) u ((.i q a,v)::es) k↔if i=a then k ((.i q i,u)::es) else w7 qj (.i q i) u es (fun l=>k ((.i q a,v)::l)):=by
 show qb (decide (q=q)) (qn (eqI i a) (fun r=>Bool.rec (motive:=fun _=>Prop) (w7 qj (.i q i) u es (fun l=>k ((.i q a,v)::l))) (k ((.i q i,u)::es)) r))↔_
 rw[qa,qk,jy,qbo];simp
theorem qfQ{z:AV}{k:AV->Prop}:qaC false z none k↔k z:=Iff.rfl
omit [Cur] in
theorem qeE{z:AV}{k:AV->Prop}:qaC true z none k↔k (.tup [z,.b false]):=Iff.rfl
omit [Cur] in
theorem qfR{z v:AV}{k:AV->Prop}:qaC false z (some v) k↔k v:=Iff.rfl
omit [Cur] in
theorem qeF{z v:AV}{k:AV->Prop}:qaC true z (some v) k↔k (.tup [v,.b true]):=Iff.rfl
def lkK(h:Hp)(ok:Bool)(zero x i:AV)(k:AV->Prop):Prop:=match x with
  | .nilm=>qaC ok zero none k
  | .map r=>wy h r (fun es=>xQ qj i es (fun v=>qaC ok zero v k))
  | _=>False
theorem qlp{ok:Bool}{z i:AV}{k:AV->Prop}:lkK h ok z .nilm i k↔qaC ok z none k:=Iff.rfl
omit [Cur] in
theorem qlo{ok:Bool}{z i:AV}{r:Nat}{k:AV->Prop}:lkK h ok z (.map r) i k↔wy h r (fun es=>xQ qj i es (fun v=>qaC ok z v k)):=Iff.rfl
omit [Cur] in
theorem qhu{kd:Option IntKind}{ok:Bool}{z:AV}{x i:O}:opK qj (.lookM kd ok z x i) t h k↔evK t x (fun x=>evK t i (fun i=>qa4 qj kd i (lkK h ok z x i (fun v=>k v h)))):=Iff.rfl
def upK(h:Hp)(x i v:AV)(k:Hp->Prop):Prop:=match x with
  | .map r=>wy h r (fun es=>w7 qj i v es (fun es'=>zw h r (.map es') k))
  | _=>False
theorem qms{i v:AV}{r:Nat}{k:Hp->Prop}:upK h (.map r) i v k↔wy h r (fun es=>w7 qj i v es (fun es'=>zw h r (.map es') k)):=Iff.rfl
omit [Cur] in
theorem qjC{kd:Option IntKind}{x i v:O}:opK qj (.updM kd x i v) t h k↔evK t x (fun x=>evK t i (fun i=>evK t v (fun v=>qa4 qj kd i (upK h x i v (fun h'=>k .undef h'))))):=Iff.rfl

omit [Cur] in
theorem qeR:qw []=true:=rfl
omit [Cur] in
theorem qdG{v:AV}{vs:List AV}:qw (v::vs)=(qN v&&qw vs):=by
 show (Bool.rec (motive:=fun _=>Bool) false (qw vs) (qN v):Bool)=_
 cases qN v<;>rfl
omit [Cur] in
theorem qkH{x:Bool}:qN (.b x)=true:=rfl
omit [Cur] in
theorem qkI{q:IntKind}{x:Int}:qN (.i q x)=true:=rfl
omit [Cur] in
theorem qkJ{x:List UInt8}:qN (.s x)=true:=rfl
omit [Cur] in
theorem qeP:qN .nilp=true:=rfl
omit [Cur] in
theorem qga{b o:Nat}:qN (.ptr b o)=true:=rfl
omit [Cur] in
theorem qeQ:qN .nils=true:=rfl
omit [Cur] in
theorem qiy{b o x c:Nat}{l:Bool}:qN (.sl b o x c l)=true:=rfl
omit [Cur] in
theorem qeM:qN .nilf=true:=rfl
omit [Cur] in
theorem qit{f:Nat}{a c:List AV}:qN (.fn f a c)=true:=rfl
omit [Cur] in
theorem qeN:qN .nili=true:=rfl
omit [Cur] in
theorem qf7{f:Nat}{v:AV}:qN (.ifc f v)=true:=rfl
omit [Cur] in
theorem qeO:qN .nilm=true:=rfl
omit [Cur] in
theorem qf8{b:Nat}:qN (.map b)=true:=rfl
omit [Cur] in
theorem qiu{n:Nat}{cs:List AV}:qN (.fz n cs)=true:=rfl
omit [Cur] in
theorem qix{n:Nat}{cs:List AV}:qN (.pf cs n)=true:=rfl
omit [Cur] in
theorem qis:qN .e0=true:=rfl
omit [Cur] in
theorem qiw:qN .nz=true:=rfl
omit [Cur] in
theorem qf9{b n:Nat}:qN (.own b n)=true:=rfl
omit [Cur] in
theorem xG{a b:List AV}:qM (a++b)=(qM a&&qM b):=by
 induction a with
 | nil=>simp[qM]
 | cons v a ih=>simp[qM,ih,Bool.and_assoc]
omit [Cur] in
theorem wo{α:Type}{f:α->AV}{xs:List α}(h:∀x,clo (f x)=true):qM (xs.map f)=true:=by
 induction xs with
 | nil=>rfl
 | cons v a ih=>simp[qM,ih,h]
omit [Cur] in
theorem qeT{α:Type}{f:α->List AV}{xs:List α}(h:∀x,qM (f x)=true):qM (xs.flatMap f)=true:=by
 induction xs with
 | nil=>rfl
 | cons v a ih=>grind[xG]
omit [Cur] in
theorem wu{α:Type}{f:α->List AV}{m:Nat}(h:∀x,(f x).length=m)(xs:List α):(xs.flatMap f).length=xs.length*m:=by
 induction xs<;>grind
omit [Cur] in
theorem qaF{α:Type}{f:α->List AV}{m:Nat}(h:∀x,(f x).length=m):∀(xs:List α) (j:Nat),(xs.flatMap f).drop (j*m)=(xs.drop j).flatMap f
 | [],j=>by simp
 | x::xs,0=>by simp
 | x::xs,j+1=>by
  simp only[List.flatMap_cons,List.drop_succ_cons];rw[Nat.add_mul,Nat.one_mul,Nat.add_comm,← List.drop_drop,List.drop_left' (h x)];exact qaF h xs j
omit [Cur] in
theorem qgy{α:Type}{f:α->List AV}{m:Nat}(h:∀x,(f x).length=m){xs:List α}{j:Nat}{x:α}(hx:xs[j]?=some x){i:Nat}(hi:i<m):(xs.flatMap f)[j*m+i]?=(f x)[i]?:=by
 rw[← List.getElem?_drop,qaF h]
 grind[List.drop_eq_getElem_cons]
omit [Cur] in
theorem qaG{α:Type}{f:α->List AV}{m:Nat}(h:∀x,(f x).length=m){xs:List α}{j:Nat}{x:α}(hx:xs[j]?=some x):((xs.flatMap f).drop (j*m)).take m=f x:=by
 rw[qaF h]
 grind[List.drop_eq_getElem_cons]

theorem SL.loop{α:Type}{x:ICode}{Q:X->Tr AV->Hp->Prop}(T:α->List (Nat×AV))(B:α->List Blk)(I:α->Prop)(μ:α->Nat)(a0:α)(src:List Nat)
  (hT:TWs t (rl src h.sz) (B a0).length (T a0)) (hB:BWs h (rl src h.sz) (B a0).length src (B a0)) (hI:(src.filter fun b=>decide (b<h.sz)).Nodup) (hfl:h.fl=0) (h0:I a0)
  (step:∀a,I a->∀G:Tr AV->Hp->Prop,(∀b,I b->μ b<μ a->∀t' h',Wk 0 t' h' (mkT (T b)) (mkH 0 (B b))->G t' h')->
   V P 0 x (fun e t h=>onX e (G t h) (fun id=>Q (.exit id) t h) (Q .ret t h)) (mkT (T a)) (mkH 0 (B a))):SL P 0 x Q t h:=by
 have main:∀m a,μ a=m->I a->SL P 0 x Q (mkT (T a)) (mkH 0 (B a)):=by
  intro m
  induction m using Nat.strongRecOn with
  | ind m ih =>
   intro a ha hi;exact qhZ (step a hi (fun t h=>SL P 0 x Q t h) fun b hb hlt t' h' hw=>SL.weak hw (ih (μ b) (ha ▸ hlt) b rfl hb))
 exact SL.weak (by grind[Wk.mk]) (main _ a0 rfl h0)

omit [Cur] in
theorem qoj{b:Bool}:(b==true)=b:=by cases b<;>rfl
omit [Cur] in
theorem qoi{b:Bool}:(b==false) = !b:=by cases b<;>rfl
def vA:=And.intro @qfM (And.intro @qm9 (And.intro @qnc (And.intro @qkq (And.intro @qnb (And.intro @qkn (And.intro @qkm (And.intro @qm8 (And.intro @qko (And.intro @qna (And.intro @qkp (And.intro @qkj (And.intro @qm7 (And.intro @qfJ (And.intro @qfK (And.intro @qfL (And.intro @qeA (And.intro @qm6
 (And.intro @qkO (And.intro @qkL (And.intro @qdT (And.intro @qhk (And.intro @qjs (And.intro @qgl (And.intro @qc1 (And.intro @qjJ (And.intro @qjK @qhH))))))))))))))))))))))))))
def vR:=And.intro @qeC (And.intro @qdw @qkk)
def vE:=And.intro @qnp (And.intro @qno (And.intro @qgu (And.intro @qe1 (And.intro @qfs (And.intro @qfu (And.intro @qgE (And.intro @qeW (And.intro @qeX (And.intro @qn1 (And.intro @qjW (And.intro @qn2 (And.intro @qn3 (And.intro @qez (And.intro @zc (And.intro @qaH
 (And.intro @qlB (And.intro @qmb (And.intro @qgX (And.intro @qnC (And.intro @qja (And.intro @qll (And.intro @qnA (And.intro @qgY (And.intro @qjg (And.intro @qlx (And.intro @qoV (And.intro @qjT (And.intro @qiF (And.intro @wL (And.intro @qi2 @zl))))))))))))))))))))))))))))))
def vO:=And.intro @ql5 (And.intro @qjz (And.intro @qhm (And.intro @qlS (And.intro @qhn (And.intro @qfl (And.intro @qhs (And.intro @qht (And.intro @qhw (And.intro @qfo (And.intro @qlR (And.intro @qlV (And.intro @qlW (And.intro @qlU (And.intro @qnU (And.intro @qhp (And.intro @qhq (And.intro @ql6 (And.intro @qlQ
 (And.intro @qhr (And.intro @qlY (And.intro @qfm (And.intro @qfn (And.intro @qjx (And.intro @qjy (And.intro @qjB (And.intro @qfq (And.intro @qjA (And.intro @qlX (And.intro @ql2 (And.intro @ql4 (And.intro @qlZ (And.intro @qlP (And.intro @qju (And.intro @qjw (And.intro @ql1 (And.intro @ql0 (And.intro @qho (And.intro @ql3
 (And.intro @qfr (And.intro @qjt (And.intro @qjN (And.intro @qmh (And.intro @qmg (And.intro @qhL (And.intro @qmf (And.intro @qlT (And.intro @qjv (And.intro @qfU (And.intro @qhu @qjC)))))))))))))))))))))))))))))))))))))))))))))))))
def vB:=And.intro @qii (And.intro @qih (And.intro @qid (And.intro @qib (And.intro @qia (And.intro @qic (And.intro @qh9 (And.intro @qif (And.intro @qh6 (And.intro @qij (And.intro @qie (And.intro @qkB (And.intro @qh7 (And.intro @qik (And.intro @qh8 (And.intro @qfX (And.intro @qf2 (And.intro @qfW (And.intro @qf1 (And.intro @qfY (And.intro @qf0 (And.intro @qfZ (And.intro @qmr (And.intro @qmq @qok)))))))))))))))))))))))
def vF:=And.intro @qgz (And.intro @qgA (And.intro @qnx (And.intro @qnw (And.intro @qle (And.intro @qgP (And.intro @qgO (And.intro @qe8 (And.intro @qh3 (And.intro @qh4 (And.intro @qim (And.intro @qil (And.intro @qin (And.intro @qjP (And.intro @qnX (And.intro @qnY (And.intro @qmj (And.intro @qmk (And.intro @qmi (And.intro @qkw (And.intro @qe0 (And.intro @qgr (And.intro @qjd (And.intro @qnD (And.intro @qnF (And.intro @qnE (And.intro @qlq (And.intro @qnG (And.intro @qou
 (And.intro @qgf (And.intro @qkK (And.intro @qeG (And.intro @qdy (And.intro @qly (And.intro @qnI (And.intro @qiE (And.intro @qng (And.intro @qnh (And.intro @qgw (And.intro @qe2 (And.intro @qeV (And.intro @qiD (And.intro @qhP (And.intro @qmm (And.intro @qmo (And.intro @qmp (And.intro @qjS (And.intro @qmn (And.intro @qnZ (And.intro @qfS (And.intro @qkt (And.intro @qh2 (And.intro @qkv (And.intro @qku
 (And.intro @qhf (And.intro @qjj (And.intro @qlF (And.intro @qhg (And.intro @qlE (And.intro @qlG (And.intro @qlD (And.intro @qji (And.intro @qhd (And.intro @qlC (And.intro @qhe (And.intro @qjh (And.intro @qiH (And.intro @qgp (And.intro @qon (And.intro @qoo @qom)))))))))))))))))))))))))))))))))))))))))))))))))))))))))))))))))))))
def vM:=And.intro @qnz (And.intro @qny (And.intro @qe9 (And.intro @qi6 (And.intro @qi5 (And.intro @qb8 (And.intro @qnH (And.intro @qgx (And.intro @qk0 (And.intro @qkZ (And.intro @qjX (And.intro @qn6 (And.intro @qn5 (And.intro @qfQ (And.intro @qeE (And.intro @qfR (And.intro @qeF (And.intro @qlp (And.intro @qlo @qms))))))))))))))))))
def vC:=And.intro @qeR (And.intro @qdG (And.intro @qkH (And.intro @qkI (And.intro @qkJ (And.intro @qeP (And.intro @qga (And.intro @qeQ (And.intro @qiy (And.intro @qeM (And.intro @qit (And.intro @qeN (And.intro @qf7 (And.intro @qeO (And.intro @qf8 (And.intro @qiu (And.intro @qix (And.intro @qis (And.intro @qiw @qf9))))))))))))))))))
def vP:=And.intro @qff (And.intro @qgt (And.intro @qiK (And.intro @qiL (And.intro @qiM (And.intro @qiN (And.intro @qgs (And.intro @qc2 (And.intro @qdc (And.intro @qcl (And.intro @qkd (And.intro @qec (And.intro @qoj (And.intro @qoi @jy)))))))))))))
def vW:=And.intro @qnR (And.intro @qhi (And.intro @qov (And.intro @qow (And.intro @qox (And.intro @qjn (And.intro @qjo (And.intro @qjk (And.intro @qjl (And.intro @qjm (And.intro @qnL (And.intro @qnO (And.intro @qlI (And.intro @qhh (And.intro @qlN (And.intro @qnN (And.intro @qnP (And.intro @qjp (And.intro @qlM (And.intro @qnQ (And.intro @qlL (And.intro @qfk (And.intro @qlK (And.intro @qjq (And.intro @qhj (And.intro @qlH (And.intro @qlO (And.intro @qnM (And.intro @qlJ
 (And.intro @qjV (And.intro @qhT (And.intro @qip (And.intro @qf4 (And.intro @qkE (And.intro @qio (And.intro @qkF (And.intro @qoR @qoS))))))))))))))))))))))))))))))))))))
def vZ:=And.intro @qgC (And.intro @qop (And.intro @qor (And.intro @qos (And.intro @qiS (And.intro @qiT (And.intro @qiP (And.intro @qiQ (And.intro @qiR (And.intro @qnr (And.intro @qnt (And.intro @qk4 (And.intro @qns (And.intro @qnu (And.intro @qiU (And.intro @qiV (And.intro @qgD (And.intro @qk3 (And.intro @qk8 (And.intro @qk9 (And.intro @qk7 (And.intro @qk5 @qk6)))))))))))))))))))))
end Go.Kc
end
section
namespace Go.Kc
variable [Cur]
variable {P:Program}

mutual
def flat:AV->Bool
 | .ptr _ _=>false
 | .sl _ _ _ _ _=>false
 | .map _=>false
 | .own _ _=>false
 | .fz _ _=>false
 | .pf _ _=>false
 | .sym _=>false
 | .fn _ a c=>qbt a&&qbt c
 | .ifc _ v=>flat v
 | .agg cs=>qbt cs
 | .tup cs=>qbt cs
 | .undef=>true | .b _=>true | .i _ _=>true | .s _=>true | .nilp=>true | .nils=>true | .nilf=>true | .nili=>true | .nilm=>true | .e0=>true | .nz=>true | .yl _=>false | .lp _=>true
def qbt:List AV->Bool
 | []=>true
 | v::vs=>flat v&&qbt vs
end
mutual
theorem VR.flat{ρ ρ':Ren}:∀{a:AV} {v:Value},VR σ0 ρ a v->Kc.flat a=true->VR σ0 ρ' a v
 | _,_,.undef v,_=>.undef v
 | _,_,.b x,_=>.b x
 | _,_,.i k n,_=>.i k n
 | _,_,.s x,_=>.s x
 | _,_,.nilp,_=>.nilp
 | _,_,.ptr b o L h,hc=>by simp[Kc.flat] at hc
 | _,_,.nils,_=>.nils
 | _,_,.sl b o len cap c loose L h hc,hh=>by simp[Kc.flat] at hh
 | _,_,.slz b o x l L h,hh=>by simp[Kc.flat] at hh
 | _,_,.nilf,_=>.nilf
 | _,_,.fn f first cap first' cap' h1 h2,hc=>by
  simp only[Kc.flat,Bool.and_eq_true] at hc;exact .fn _ _ _ _ _ (h1.flat hc.1) (h2.flat hc.2)
 | _,_,.nili,_=>.nili
 | _,_,.ifc t v v' h,hc=>by simp only[Kc.flat] at hc;exact .ifc _ _ _ (h.flat hc)
 | _,_,.agg cs cs' h,hc=>by simp only[Kc.flat] at hc;exact .agg _ _ (h.flat hc)
 | _,_,.tup cs cs' h,hc=>by simp only[Kc.flat] at hc;exact .tup _ _ (h.flat hc)
 | _,_,.nilm,_=>.nilm
 | _,_,.map b L h h0,hc=>by simp[Kc.flat] at hc
 | _,_,.sym j,hc=>by simp[Kc.flat] at hc
 | _,_,.fz n off c cs k arr hn h hs,hc=>by simp[Kc.flat] at hc
 | _,_,.fz0 a,hc=>by simp[Kc.flat] at hc
 | _,_,.pf off base cs k arr h hs,hc=>by simp[Kc.flat] at hc
 | _,_,.e0 a,_=>.e0 a
 | _,_,.nz a c,_=>.nz a c
 | _,_,.own0 b a hb,hc=>by simp[Kc.flat] at hc
 | _,_,.own b n c L h hn hc',hc=>by simp[Kc.flat] at hc
 | _,_,.yl b L h,hc=>by simp[Kc.flat] at hc
theorem VRs.flat{ρ ρ':Ren}:∀{a:List AV} {v:List Value},VRs σ0 ρ a v->qbt a=true->VRs σ0 ρ' a v
 | _,_,.nil,_=>.nil
 | _,_,.cons v vs v' vs' h hs,hc=>by
  simp only[qbt,Bool.and_eq_true] at hc;exact .cons _ _ _ _ (h.flat hc.1) (hs.flat hc.2)
end
theorem Rel.bare{ρ:Ren}{B:Nat->Prop}{h:Hp}{w:World}(r:Rel σ0 ρ B h w):Rel σ0 ⟨fun _=>none,xn ρ h w,0⟩ (low w.heap.size) H0 w :=
 ⟨by simp_all,by grind,by simp_all,by simp_all,by simp_all,by simp_all,by simp_all,(fun _ h=>h),
  (fun k arr hk=>⟨by
    rcases jP hk with hk|⟨hk,_⟩
    all_goals grind[Rel.frz],(by simp_all)⟩),by simp_all⟩
theorem qp.lend{f:Nat}{vs vs':List AV}{v:AV}{h:Hp}{k:AV->Hp->Prop}(hp:qp P f vs' v)(hf:Frzs h vs vs')(hv:flat v=true)(hk:k v h):SC P f vs h k:=by
 have hp0:=hp H0 (fun v' h'=>v'=v∧h'=H0) ⟨rfl,rfl⟩
 refine⟨hp0.1,fun ρ B w args r ha=>?_⟩
 have hcr:=hf.ok r ha;refine jq.mono (hp0.2 ⟨fun _=>none,xn ρ h w,0⟩ (low w.heap.size) w args r.bare (by grind[CRs.vr])) ?_
 rintro e w' ⟨v0,v',h',ρ',rfl,⟨rfl,rfl⟩,g2,g3,g4⟩;refine⟨v0,v',h,ρ,rfl,hk,g2.flat hv,?_,⟨fun _ _=>rfl,Nat.le_refl _,rfl,fun _ _ _=>rfl,by grind[Kept.pres,Rel.base],g4.wle,g4.io,fun _ _ h=>h,fun _ _ h=>.inl h,Nat.le_refl _⟩⟩
 have:=r.frz' (φ:=ρ.frz) g4.pres g4.wle (fun _ _ h=>h) (by simp_all) (fun k a hk=>by
  obtain⟨ty,fz,h1⟩:=(r.frz k a hk).1;refine⟨ty,fz,?_⟩;rw[g4.pres k (by grind)];exact h1)
 omega
mutual
def shv(m:Nat):AV->AV
 | .ptr b o=>.ptr (b+m) o
 | .sl b o n c l=>.sl (b+m) o n c l
 | .map b=>.map (b+m)
 | .own b n=>.own (b+m) n
 | .yl b=>.yl (b+m)
 | .fn f a c=>.fn f (wg m a) (wg m c)
 | .ifc t v=>.ifc t (shv m v)
 | .agg cs=>.agg (wg m cs)
 | .tup cs=>.tup (wg m cs)
 | v=>v
def wg(m:Nat):List AV->List AV
 | []=>[]
 | v::vs=>shv m v::wg m vs
end
omit [Cur] in
theorem qdr{m:Nat}:∀{vs:List AV} {j:Nat},(wg m vs)[j]?=(vs[j]?).map (shv m)
 | [],j=>by simp[wg]
 | v::vs,0=>by simp[wg]
 | v::vs,j+1=>by simpa[wg] using qdr (vs:=vs) (j:=j)
omit [Cur] in
theorem jo{m:Nat}:∀{vs:List AV},(wg m vs).length=vs.length
 | []=>rfl
 | v::vs=>by simp[wg,jo (vs:=vs)]
mutual
theorem qet{m:Nat}:∀{v:AV},clo v=true->shv m v=v
 | .ptr _ _,h=>by simp[clo] at h
 | .sl _ _ _ _ _,h=>by simp[clo] at h
 | .map _,h=>by simp[clo] at h
 | .own _ _,h=>by simp[clo] at h
 | .fn f a c,h=>by
  simp only[clo,Bool.and_eq_true] at h;simp only[shv,jI h.1,jI h.2]
 | .ifc t v,h=>by
  simp only[clo] at h;simp only[shv,qet h]
 | .agg cs,h=>by
  simp only[clo] at h;simp only[shv,jI h]
 | .tup cs,h=>by
  simp only[clo] at h;simp only[shv,jI h]
 | .undef,_=>rfl
 | .b _,_=>rfl
 | .i _ _,_=>rfl
 | .s _,_=>rfl
 | .nilp,_=>rfl
 | .nils,_=>rfl
 | .nilf,_=>rfl
 | .nili,_=>rfl
 | .nilm,_=>rfl
 | .sym _,h=>by simp[clo] at h
 | .fz _ _,_=>rfl
 | .pf _ _,_=>rfl
 | .e0,_=>rfl
 | .nz,_=>rfl
 | .yl _,h=>by simp[clo] at h
 | .lp _,_=>rfl
theorem jI{m:Nat}:∀{vs:List AV},qM vs=true->wg m vs=vs
 | [],_=>rfl
 | v::vs,h=>by
  simp only[qM,Bool.and_eq_true] at h;simp only[wg,qet h.1,jI h.2]
end
def she(m:Nat)(es:List (AV×AV)):List (AV×AV):=es.map fun e=>(shv m e.1,shv m e.2)
omit [Cur] in
theorem qes{m:Nat}:she m []=[]:=rfl
omit [Cur] in
theorem qdq{m:Nat}{a b:AV}{es:List (AV×AV)}:she m ((a,b)::es)=(shv m a,shv m b)::she m es:=rfl
def shb(m:Nat):Blk->Blk
 | .cells e w a cs=>.cells e w a (wg m cs)
 | .dead=>.dead
 | .map es=>.map (she m es)
noncomputable def xM(h:Hp):List Blk->Hp
 | []=>h
 | x::xs=>xM (h.push x) xs
omit [Cur] in
theorem wC:∀{bs:List Blk} {h:Hp},(xM h bs).sz=h.sz+bs.length
 | [],_=>rfl
 | x::xs,h=>by
  show (xM (h.push x) xs).sz=_;rw[wC];simp[Hp.push];omega
omit [Cur] in
theorem qau:∀{bs:List Blk} {h:Hp},(xM h bs).fl=h.fl
 | [],_=>rfl
 | x::xs,h=>by
  show (xM (h.push x) xs).fl=_;rw[qau];rfl
omit [Cur] in
theorem jG:∀{bs:List Blk} {h:Hp} {b:Nat},(xM h bs).tr.get b=if b<h.sz then h.tr.get b else if b<h.sz+bs.length then bs[b-h.sz]? else h.tr.get b
 | [],h,b=>by simp[xM];omega
 | x::xs,h,b=>by
  show (xM (h.push x) xs).tr.get b=_;rw[jG];simp only[Hp.push,Tr.get_set,List.length_cons]
  grind
def Ren.join(ρ ρ2:Ren)(m l:Nat):Ren:=⟨fun b=>if b<m then ρ b else ρ2 (b-m),ρ2.frz,m+l⟩
omit [Cur] in
theorem qbc{ρ ρ2:Ren}{m l b:Nat}(h:b<m):ρ.join ρ2 m l b=ρ b:=by simp only[Ren.join];rw[if_pos h]
omit [Cur] in
theorem jR{ρ ρ2:Ren}{m l b:Nat}:ρ.join ρ2 m l (b+m)=ρ2 b:=by simp only[Ren.join];rw[if_neg (by omega),Nat.add_sub_cancel]
mutual
theorem VR.sh{ρ ρ2:Ren}{m l:Nat}(hl:ρ2.n<=l):∀{v:AV} {x:Value},VR σ0 ρ2 v x->VR σ0 (ρ.join ρ2 m l) (shv m v) x
 | _,_,.undef v=>.undef v
 | _,_,.b x=>.b x
 | _,_,.i k n=>.i k n
 | _,_,.s x=>.s x
 | _,_,.nilp=>.nilp
 | _,_,.ptr b o L h=>.ptr _ _ L (by rw[jR];exact h)
 | _,_,.nils=>.nils
 | _,_,.sl b o len cap c loose L h hc=>.sl _ _ _ _ _ _ L (by rw[jR];exact h) hc
 | _,_,.slz b o x l' L h=>.slz _ _ _ _ L (by rw[jR];exact h)
 | _,_,.nilf=>.nilf
 | _,_,.fn f first cap first' cap' h1 h2=>.fn _ _ _ _ _ (VRs.sh hl h1) (VRs.sh hl h2)
 | _,_,.nili=>.nili
 | _,_,.ifc t v v' h=>.ifc _ _ _ (VR.sh hl h)
 | _,_,.agg cs cs' h=>.agg _ _ (VRs.sh hl h)
 | _,_,.tup cs cs' h=>.tup _ _ (VRs.sh hl h)
 | _,_,.nilm=>.nilm
 | _,_,.map b L h h0=>.map _ L (by rw[jR];exact h) h0
 | _,_,.sym j=>.sym j
 | _,_,.fz n off c cs k arr hn h hs=>.fz n off c cs k arr hn h hs
 | _,_,.fz0 a=>.fz0 a
 | _,_,.pf off base cs k arr h hs=>.pf off base cs k arr h hs
 | _,_,.e0 a=>.e0 a
 | _,_,.nz a c=>.nz a c
 | _,_,.own0 b a hb=>.own0 _ _ (by show b+m<m+l;omega)
 | _,_,.own b n c L h hn hc'=>.own _ _ _ L (by rw[jR];exact h) hn hc'
 | _,_,.yl b L h=>.yl _ L (by rw[jR];exact h)
theorem VRs.sh{ρ ρ2:Ren}{m l:Nat}(hl:ρ2.n<=l):∀{v:List AV} {x:List Value},VRs σ0 ρ2 v x->VRs σ0 (ρ.join ρ2 m l) (wg m v) x
 | _,_,.nil=>.nil
 | _,_,.cons v vs v' vs' h hs=>.cons _ _ _ _ (VR.sh hl h) (VRs.sh hl hs)
end
omit [Cur] in
theorem qjO{m:Nat}{r:Loop}{ts:List (Nat×AV)}:she m (zo r ts)=zo r (ts.map fun p=>(p.1,shv m p.2)):=by simp[she,zo,shv]
theorem xg.sh{ρ ρ2:Ren}{m l:Nat}(hl:ρ2.n<=l){es:List (AV×AV)}{o:Obj}(h:xg σ0 ρ2 es o):xg σ0 (ρ.join ρ2 m l) (she m es) o:=by
 rcases h with⟨h0,vs,clk,h1,h2,h3⟩|⟨a,n,rfl,h2⟩|⟨r,rq,ts,rfl,h2,hk2,h3⟩|⟨r,q,s,l,rfl,h2,h3⟩
 rotate_left 3
 ·exact .inr (.inr (.inr ⟨_,q,s,l,rfl,VR.sh hl h2,h3⟩))
 ·refine .inl ⟨fun e he=>?_,vs,clk,h1,by simp[she,h2],fun j e he=>?_⟩
  ·cases es with
   | nil=>simp[she] at he
   | cons e0 es =>
    simp[she] at he;subst he;have:=h0 e0 rfl;cases e0 with
    | mk k v=>cases k<;>first|(simp[shv];done)|exact absurd rfl this.1|simp_all
  ·simp only[she,List.getElem?_map] at he
   grind[VR.sh]
 ·exact .inr (.inl ⟨a,n,rfl,h2⟩)
 ·refine .inr (.inr (.inl ⟨r,rq,_,qjO,h2,hk2,fun p hp=>?_⟩))
  obtain⟨q,hq,rfl⟩:=List.mem_map.1 hp;exact⟨(h3 q hq).1,VR.sh hl (h3 q hq).2⟩
theorem Rel.joinH{ρ ρ2:Ren}{B:Nat->Prop}{h:Hp}{w w1:World}{bs:List Blk}(r:Rel σ0 ρ B h w)(r2:Rel σ0 ρ2 (low w.heap.size) (mkH 0 bs) w1)(hp:∀k,k<w.heap.size->w1.heap[k]?=w.heap[k]?)(hw:w.heap.size<=w1.heap.size)
  (f1:∀k a,ρ.frz k=some a->ρ2.frz k=some a) (f2:∀k a,ρ2.frz k=some a->ρ.frz k=some a∨w.heap.size<=k) :
  Rel σ0 (ρ.join ρ2 h.sz bs.length) B (xM h (bs.map (shb h.sz))) w1:=by
 have r1:Rel σ0 ⟨ρ.loc,ρ2.frz,ρ.n⟩ B h w1:=(by grind[Rel.frz',Rel.frz]);have n2:ρ2.n<=bs.length:=r2.dn.1
 have le1:Ren.le ⟨ρ.loc,ρ2.frz,ρ.n⟩ (ρ.join ρ2 h.sz bs.length) :=
  ⟨by grind[qbc,Rel.dom],fun _ _ h=>h,Nat.le_trans r.dn.1 (Nat.le_add_right _ _)⟩
 -- a block: old,or new
 have split:∀b L,ρ.join ρ2 h.sz bs.length b=some L->(b<h.sz∧ρ b=some L∧(xM h (bs.map (shb h.sz))).tr.get b=h.tr.get b) ∨
   ∃c,b=c+h.sz∧ρ2 c=some L∧(xM h (bs.map (shb h.sz))).tr.get b=((mkH 0 bs).tr.get c).map (shb h.sz)∧w.heap.size<=L.blk:=by
  intro b L hb
  by_cases hlt:b<h.sz
  ·rw[qbc hlt] at hb
   simp_all[jG]
  ·obtain⟨c,rfl⟩:∃c,b=c+h.sz:=⟨b-h.sz,by omega⟩
   rw[jR] at hb;have hc:c<bs.length:=r2.dom c L hb;refine .inr ⟨c,rfl,hb,?_,Nat.not_lt.1 (r2.flr c L hb (Nat.zero_le _))⟩;rw[jG,if_neg hlt,if_pos (by grind),wT,Nat.add_sub_cancel,List.getElem?_map]
 have oldlt:∀b L x,ρ b=some L->h.tr.get b=some x->x≠.dead->L.blk<w.heap.size:=fun b L x h1 h2 h3=>r.blk_lt b L h1 x h2 h3
 have shd:∀{x y:Blk},(some x).map (shb h.sz)=some y->y≠.dead->x≠.dead:=by
  intro x y h1 h2 h3;subst h3;simp[shb] at h1;simp_all
 have shc:∀{o:Option Blk} {e:Nat} {w a:Bool} {cs:List AV},o.map (shb h.sz)=some (.cells e w a cs)->∃cs0,o=some (.cells e w a cs0)∧cs=wg h.sz cs0:=by
  intro o e w a cs ho;cases o with
  | none=>grind
  | some x =>
   cases x with
   | cells e' w' a' cs'=>simp[shb] at ho;simp_all
   | dead=>grind
   | map es=>simp[shb] at ho
 have shm:∀{o:Option Blk} {es:List (AV×AV)},o.map (shb h.sz)=some (.map es)->∃es0,o=some (.map es0)∧es=she h.sz es0:=by
  intro o es ho;cases o with
  | none=>grind
  | some x =>
   cases x with
   | cells e' w' a' cs'=>simp[shb] at ho
   | dead=>grind
   | map es'=>simp[shb] at ho;grind
 have shn:∀{o:Option Blk} {y:Blk},o.map (shb h.sz)=some y->y≠.dead->∃x,o=some x∧x≠.dead:=by
  intro o y ho hy;cases o<;>grind
 refine⟨fun b L hb=>?_,?_,?_,?_,?_,?_,?_,wJ r.base hw,?_,?_⟩
 ·rw[wC,List.length_map];rcases split b L hb with⟨h1,_⟩|⟨c,rfl,h1,_⟩
  ·omega
  ·have:c<bs.length:=r2.dom c L h1;omega
 ·intro b L e wf af cs hb hg;rcases split b L hb with⟨h1,h2,h3⟩|⟨c,rfl,h2,h3,_⟩
  ·rw[h3] at hg;obtain⟨q1,c,ty,fz,q2,q3,q4,q5,q6⟩:=r1.cells b L e wf af cs h2 hg
   grind[VR.mono]
  ·rw[h3] at hg;obtain⟨cs0,g1,rfl⟩:=shc hg;obtain⟨q1,c',ty,fz,q2,q3,q4,q5,q6⟩:=r2.cells c L e wf af cs0 h2 g1
   grind[jo,qdr,VR.sh]
 ·intro b L es hb hg;rcases split b L hb with⟨h1,h2,h3⟩|⟨c,rfl,h2,h3,_⟩
  ·rw[h3] at hg;obtain⟨q1,o,q2,q3⟩:=r1.maps b L es h2 hg;exact by grind[xg.mono]
  grind[Rel.maps,xg.sh]
 ·intro b L e af cs hb hg b' L' x hb' hx hd he;rcases split b L hb with⟨h1,h2,h3⟩|⟨c,rfl,h2,h3,h4⟩<;>rcases split b' L' hb' with⟨i1,i2,i3⟩|⟨c',rfl,i2,i3,i4⟩
  ·rw[h3] at hg;rw[i3] at hx
   grind[Rel.excl]
  ·rw[h3] at hg;have:=oldlt b L _ h2 hg (by simp);omega
  ·rw[i3] at hx;have:=oldlt b' L' _ i2 hx hd;omega
  ·rw[h3] at hg;rw[i3] at hx;obtain⟨cs0,g1,rfl⟩:=shc hg;obtain⟨x0,g2,g3⟩:=shn hx hd;rw[r2.excl c L e af cs0 h2 g1 c' L' x0 i2 g2 g3 he]
 ·intro b L es hb hg b' L' x hb' hx hd he;rcases split b L hb with⟨h1,h2,h3⟩|⟨c,rfl,h2,h3,h4⟩
  ·rw[h3] at hg
   grind[Rel.exclm]
  ·rw[h3] at hg;obtain⟨es0,g1,rfl⟩:=shm hg;rcases split b' L' hb' with⟨i1,i2,i3⟩|⟨c',rfl,i2,i3,i4⟩
   ·rw[i3] at hx;have:=oldlt b' L' _ i2 hx hd;omega
   ·rw[i3] at hx;obtain⟨x0,g2,g3⟩:=shn hx hd;rw[r2.exclm c L es0 h2 g1 c' L' x0 i2 g2 g3 he]
 ·intro b L e wf cs hb hg b' L' e' wf' af' cs' hb' hx he;rcases split b L hb with⟨h1,h2,h3⟩|⟨c,rfl,h2,h3,h4⟩<;>rcases split b' L' hb' with⟨i1,i2,i3⟩|⟨c',rfl,i2,i3,i4⟩
  ·rw[h3] at hg;rw[i3] at hx;exact r.app b L e wf cs h2 hg b' L' e' wf' af' cs' i2 hx he
  ·rw[h3] at hg;have:=oldlt b L _ h2 hg (by simp);omega
  ·rw[i3] at hx;have:=oldlt b' L' _ i2 hx (by simp);omega
  ·rw[h3] at hg;rw[i3] at hx;obtain⟨cs0,g1,rfl⟩:=shc hg;obtain⟨cs1,g2,rfl⟩:=shc hx;have q:=r2.app c L e wf cs0 h2 g1 c' L' e' wf' af' cs1 i2 g2 he;rw[jo,jo]
   grind
 ·intro b L hb hf;rw[qau] at hf;rcases split b L hb with⟨h1,h2,h3⟩|⟨c,rfl,h2,h3,h4⟩
  ·grind[Rel.flr]
  ·exact xp r.base h4
 ·intro k arr hk;refine⟨(r2.frz k arr hk).1,fun b L x hb hx hd=>?_⟩
  rcases split b L hb with⟨h1,h2,h3⟩|⟨c,rfl,h2,h3,h4⟩
  ·rw[h3] at hx;exact (r1.frz k arr hk).2 b L x h2 hx hd
  ·rw[h3] at hx;obtain⟨x0,g2,g3⟩:=shn hx hd;exact (r2.frz k arr hk).2 c L x0 h2 g2 g3
 ·refine⟨?_,fun b L hb=>?_⟩
  ·show h.sz+bs.length<=_;rw[wC,List.length_map];omega
  ·rcases split b L hb with⟨_,h2,_⟩|⟨c,rfl,h2,_,_⟩
   ·exact Nat.lt_of_lt_of_le (r.dn.2 b L h2) hw
   ·exact r2.dn.2 c L h2
def Own(P:Program)(f:Nat)(vs:List AV)(v:AV)(bs:List Blk):Prop :=
 ∀(h:Hp) (k:AV->Hp->Prop),k (shv h.sz v) (xM h (bs.map (shb h.sz)))->SC P f vs h k
def qki(v:AV)(bs:List Blk)(v':AV)(h':Hp):Prop:=h'.fl=0->∃src:List Nat,NV (rl src h'.sz) bs.length v' v∧BWs h' (rl src h'.sz) bs.length src bs∧(src.filter fun b=>decide (b<h'.sz)).Nodup
theorem Own.of_SC{f:Nat}{vs:List AV}{v:AV}{bs:List Blk}(hcl:qM vs=true)(hs:SC P f vs H0 (qki v bs)):Own P f vs v bs:=by
 intro h k hk;refine⟨hs.1,fun ρ B w args r ha=>?_⟩
 have hcr:=ha.crs hcl;refine jq.mono (hs.2 ⟨fun _=>none,ρ.frz,0⟩ (low w.heap.size) w args r.empty (by grind[CRs.vr])) ?_
 rintro e w1 ⟨v0,v',h1,ρ1,rfl,g1,g2,g3,g4⟩;obtain⟨src,s1,s2,s3⟩:=g1 g4.fl;have hw:Wk 0 (mkT [(0,v0)]) h1 (mkT [(0,v)]) (mkH 0 bs):=Wk.mk [(0,v)] bs src ⟨⟨v0,by simp[mkT,Tr.get_set],s1⟩,trivial⟩ s2 s3 g4.fl
 obtain⟨ρ2,t2,r2,k2⟩:=hw ρ1 (low w.heap.size) w1 #[v'] (fun j x hj=>by
  have:=wU hj
  simp_all) g3
 have hv2:VR σ0 ρ2 v v':=by
  have:=(t2 0 v (by simp[mkT,Tr.get_set])).2
  simp_all
 have f1:∀k a,ρ.frz k=some a->ρ2.frz k=some a:=by grind[Kep.frz,Kept.frz]
 have f2:∀k a,ρ2.frz k=some a->ρ.frz k=some a∨w.heap.size<=k:=fun k a hk=>(k2.fnew k a hk).elim (fun hk=>(g4.fnew k a hk).imp id Nat.not_lt.1) (by omega)
 refine⟨_,v',_,ρ.join ρ2 h.sz bs.length,rfl,hk,hv2.sh r2.dn.1,Rel.joinH r r2 g4.pres g4.wle f1 f2,?_⟩;refine⟨by grind[qbc],by rw[wC];omega,qau,by grind[jG],by grind[Kept.pres,Rel.base],g4.wle,g4.io,f1,fun k a hk=>(f2 k a hk).imp id (xp r.base),?_⟩
 exact Nat.le_trans r.dn.1 (Nat.le_add_right _ _)
theorem Own.mk{f:Nat}{i:IFn}{vs:List AV}{v:AV}{bs:List Blk}(hc:zp P f i=true)(hcl:qM vs=true)(hV:V P 0 i.body (qan i.res (qki v bs)) (jX vs 0 .leaf) H0):Own P f vs v bs :=
 Own.of_SC hcl (SC.mk hc (zq hV))
def qmU(P:Program)(f:Nat)(vs':List AV)(v:AV)(bs:List Blk):Prop :=
 ∀(h:Hp) (vs:List AV) (k:AV->Hp->Prop),Frzs h vs vs'->k (shv h.sz v) (xM h (bs.map (shb h.sz)))->SC P f vs h k
def PC(P:Program)(f:Nat)(vs:List AV)(h:Hp)(k:AV->Hp->Prop):Prop:=∃v h',(∀k':AV->Hp->Prop,k' v h'->SC P f vs h k')∧k v h'
def PY(P:Program)(b:Nat)(vs:List AV)(h:Hp)(k:AV->Hp->Prop):Prop:=∃v h',(∀k':AV->Hp->Prop,k' v h'->CC P 0 (.yl b::vs) h k')∧k v h'
@[congr] theorem qmV {f:Nat} {vs vs':List AV} {h:Hp} {k:AV->Hp->Prop} {mk:Prop} (_:qR=mk) (h':vs=vs'):PC P f vs h k=PC P f vs' h k:=by rw[h']
@[congr] theorem qmW {b:Nat} {vs vs':List AV} {h:Hp} {k:AV->Hp->Prop} {mk:Prop} (_:qR=mk) (h':vs=vs'):PY P b vs h k=PY P b vs' h k:=by rw[h']
def PCC(P:Program):qy:=fun f vs h k=>∃v h',(∀k':AV->Hp->Prop,k' v h'->CC P f vs h k')∧k v h'
theorem qoh:LC (PCC P):=fun _ _ _ _ ⟨v,h',h1,h2⟩=>⟨v,h',h2,fun _ h3=>⟨v,h',h1,h3⟩⟩
theorem qfI:xi P σ0 (PCC P):=⟨fun f vs h _ ⟨_,_,h1,h2⟩=>(qbg P).1 f vs h _ (h1 _ h2),fun b vs h _ ⟨_,_,h1,h2⟩=>(qbg P).2 b vs h _ (h1 _ h2)⟩
theorem qkN{b:Nat}{vs:List AV}{h:Hp}{k:AV->Hp->Prop}:cvF (PCC P) (.yl b) vs h k↔PY P b vs h k:=Iff.rfl
theorem qkM{f:Nat}{a c vs:List AV}{h:Hp}{k:AV->Hp->Prop}:cvF (PCC P) (.fn f a c) vs h k↔PC P f (a++(vs++c)) h k:=Iff.rfl
theorem qhx{dst:Option Nat}{f:Nat}{args:List O}{ops:List ROp}{Q:Tr AV->Hp->Prop}{t:Tr AV}{s fl:Nat}{tr:Tr Blk}:VR' (PCC P) (⟨dst,.callF f args,none⟩::ops) Q t ⟨s,fl,tr⟩↔zD t args (fun vs=>PC P f vs ⟨s,s,tr⟩ (fun v h'=>zC t dst v (fun t'=>VR' (PCC P) ops Q t' (h'.down fl)))):=qeB
theorem qhy{dst:Option Nat}{f:Nat}{args:List O}{ops:List ROp}{Q:Tr AV->Hp->Prop}{t:Tr AV}{h:Hp}:VR' (PCC P) (⟨dst,.callW f args,none⟩::ops) Q t h↔zD t args (fun vs=>PC P f vs h (fun v h'=>zC t dst v (fun t'=>VR' (PCC P) ops Q t' h'))):=qeD
theorem qd6{ops:List ROp}{Q:Tr AV->Hp->Prop}{t:Tr AV}{h:Hp}(hr:VR' (PCC P) ops Q t h):VD P ops Q t h:=qm4 qoh qfI hr
theorem qp.pc{f:Nat}{vs:List AV}{v:AV}{h:Hp}{k:AV->Hp->Prop}(hp:qp P f vs v)(hk:k v h):PC P f vs h k:=⟨v,h,fun k' h'=>hp h k' h',hk⟩
theorem Own.sc{f:Nat}{vs:List AV}{v:AV}{bs:List Blk}{h:Hp}{k:AV->Hp->Prop}(hp:Own P f vs v bs)(hk:k (shv h.sz v) (xM h (bs.map (shb h.sz)))):SC P f vs h k:=hp h k hk
omit [Cur] in
theorem qep{s f:Nat}{tr:Tr Blk}{x:Blk}:Hp.push ⟨s,f,tr⟩ x=⟨s+1,f,tr.set s x⟩:=rfl
omit [Cur] in
theorem qcd{h:Hp}:xM h []=h:=rfl
omit [Cur] in
theorem qbI{h:Hp}{x:Blk}{xs:List Blk}:xM h (x::xs)=xM (h.push x) xs:=rfl

abbrev wi:=ICode->(X->Tr AV->Hp->Prop)->Tr AV->Hp->Prop
noncomputable def qbi(env:Tr IFn)(ih:wi)(f:Nat)(args:List AV)(h:Hp)(k:AV->Hp->Prop):Prop :=
 env.getK f (fun fn=>IFn.rec (motive:=fun _=>Prop) (fun res body=>qcR args 0 .leaf (fun t0=>ih body (fun e t h' =>
  X.rec (motive:=fun _=>Prop) (xb t h' res (fun vs=>k (zM vs) h')) (fun _=>False) (xb t h' res (fun vs=>k (zM vs) h')) e) t0 h)) fn)
abbrev wZ:=Nat->List AV->Option AV
def vd(P:Program)(ho:wZ):Prop:=∀f vs v,ho f vs=some v->qp P f vs v
noncomputable def qbh(env:Tr IFn)(ho:wZ)(ih:wi)(f:Nat)(args:List AV)(h:Hp)(k:AV->Hp->Prop):Prop :=
 Option.rec (motive:=fun _=>Prop) (qbi env ih f args h k) (fun v=>k v h) (ho f args)
def LB(ih:wi):Prop:=∀c Q t h,ih c Q t h->∃e t' h',Q e t' h'∧∀Q',Q' e t' h'->ih c Q' t h
omit [Cur] in
theorem qcU(env:Tr IFn){ih:wi}(hi:LB ih):LC (qbi env ih):=by
 intro f vs h k hk;obtain⟨fn,g1,g2⟩:=(Tr.getK_iff _ _ _).1 hk;cases fn with
 | mk res body =>
  obtain⟨t0,g3,g4⟩:=qd7 vs 0 .leaf _ g2;obtain⟨e,t',h',h1,h2⟩:=hi _ _ _ _ g3
  have back:∀k',(X.rec (motive:=fun _=>Prop) (xb t' h' res (fun vs=>k' (zM vs) h')) (fun _=>False) (xb t' h' res (fun vs=>k' (zM vs) h')) e:Prop)->qbi env ih f vs h k':=fun k' hk' =>
   (Tr.getK_iff _ _ _).2 ⟨⟨res,body⟩,g1,g4 (fun t0=>ih body (fun e t h'=>X.rec (motive:=fun _=>Prop) (xb t h' res (fun vs=>k' (zM vs) h')) (fun _=>False) (xb t h' res (fun vs=>k' (zM vs) h')) e) t0 h) (h2 (fun e t h'=>X.rec (motive:=fun _=>Prop) (xb t h' res (fun vs=>k' (zM vs) h')) (fun _=>False) (xb t h' res (fun vs=>k' (zM vs) h')) e) hk')⟩
  cases e with
  | exit id=>exact h1.elim
  | normal =>
   obtain⟨vs,h3,h4⟩:=qbK t' h' res _ h1;exact⟨_,_,h3,fun k' hk'=>back k' (h4 (fun vs=>k' (zM vs) h') hk')⟩
  | ret =>
   obtain⟨vs,h3,h4⟩:=qbK t' h' res _ h1;exact⟨_,_,h3,fun k' hk'=>back k' (h4 (fun vs=>k' (zM vs) h') hk')⟩
omit [Cur] in
theorem qiq(env:Tr IFn)(ho:wZ){ih:wi}(hi:LB ih):LC (qbh env ho ih):=by
 intro f vs h k hk;unfold qbh at hk;cases hv:ho f vs with
 | none =>
  rw[hv] at hk;obtain⟨v,h',h1,h2⟩:=qcU env hi f vs h k hk;exact⟨v,h',h1,fun k' hk'=>by unfold qbh;rw[hv];exact h2 k' hk'⟩
 | some v =>
  rw[hv] at hk;exact⟨v,h,hk,fun k' hk'=>by unfold qbh;rw[hv];exact hk'⟩
theorem S.mono{n:Nat}{c:ICode}{Q Q':X->Tr AV->Hp->Prop}{t:Tr AV}{h:Hp}(hs:S P n c Q t h)(hq:∀e t h,Q e t h->Q' e t h):S P n c Q' t h:=by
 intro nt code hc hn ro hro ρ B w a ht hsz r;refine wpIn_mono (hs nt code hc hn ro hro ρ B w a ht hsz r) ?_;rintro e a1 w1 ⟨x1,t1,h1,ρ1,rs,hx,hq1,rest⟩;exact⟨x1,t1,h1,ρ1,rs,hx,hq _ _ _ hq1,rest⟩
theorem S.reg{n:Nat}{d:Bool}{rs:List ROp}{C:qy}(hl:LC C)(hC:xi P σ0 C){Q:X->Tr AV->Hp->Prop}{t:Tr AV}{h:Hp}(hv:jz qj d C rs (fun t h=>Q .normal t h) t h):S P n (.reg d rs) Q t h:=by
 intro nt code hc hn ro hro ρ B w a ht hsz r;cases code<;>first|(simp[qm] at hc;done)|skip
 rename_i id ops d';simp only[qm,Bool.and_eq_true] at hc;obtain⟨⟨h1,h2⟩,h3⟩:=hc;obtain rfl:=eq_of_beq h1;cases d' with
 | false =>
  refine wpIn_region ?_
  have:=qaN (ops:=ops) (nt:=nt) (ro:=ro) (K:=xE σ0 Q nt n ρ B h w a.defers) (ρ0:=ρ) (h0:=h) (w0:=w) (ds:=a.defers) (jV P) hC (fun a' w' t' h' ρ' g1 g2 g3 g4 g5 g6=>xE.of .normal g1 g2 g3 g4 g5 (g6.kep hn))
   ops.toList rs 0 h2 rfl t h ρ w a hv ht hsz rfl r (Kept.refl _ _ _ _)
  rw[List.range_eq_range'];simpa using this
 | true =>
  simp only[Bool.not_true,Bool.false_or,Bool.and_eq_true] at h3;exact qed (jV P) hl hC h2 h3.1 h3.2 hv ht hsz r (fun a' w' t' h' ρ' g1 g2 g3 g4 g5 g6=>xE.of .normal g1 g2 g3 g4 g5 (g6.kep hn))
theorem S.seq{n:Nat}{x y:ICode}{Q:X->Tr AV->Hp->Prop}{t:Tr AV}{h:Hp}(hv:S P n x (fun e t h=>onX e (S P n y Q t h) (fun id=>Q (.exit id) t h) (Q .ret t h)) t h):S P n (.seq x y) Q t h:=by
 intro nt code hc hn ro hro ρ B w a ht hsz r;cases code<;>first|(simp[qm] at hc;done)|skip
 rename_i cx cy;simp only[qm,Bool.and_eq_true] at hc;refine wpIn_seq (wpIn_mono (hv nt cx hc.1 hn ro (nr1 hro) ρ B w a ht hsz r) ?_);rintro e a1 w1 ⟨x1,t1,h1,ρ1,rs,hx,hq,ht1,hs1,hd1,hm,r1,k1⟩;cases hx with
 | normal=>exact wpIn_mono (hq nt cy hc.2 k1.szle ro (nr2 hro) ρ1 _ w1 a1 ht1 hs1 r1) (fun e a2 w2 hp=>xE.trans k1 hm hd1 hm.lt hp)
 | exit id=>exact⟨_,t1,h1,ρ1,rs,.exit id,hq,ht1,hs1,hd1,hm,r1,k1⟩
 | ret=>exact⟨_,t1,h1,ρ1,rs,.ret,hq,ht1,hs1,hd1,hm,r1,k1⟩
theorem S.cond{n:Nat}{c:O}{x y:ICode}{Q:X->Tr AV->Hp->Prop}{t:Tr AV}{h:Hp}(hv:evK t c (fun v=>unB v (fun b=>if b=true then S P n x Q t h else S P n y Q t h))):S P n (.cond c x y) Q t h:=by
 intro nt code hc hn ro hro ρ B w a ht hsz r;cases code<;>first|(simp[qm] at hc;done)|skip
 rename_i cc cx cy;simp only[qm,Bool.and_eq_true] at hc;obtain⟨⟨h1,h2⟩,h3⟩:=hc;obtain⟨v,h4,h5⟩:=ql ht h1 hv;obtain⟨b,h6,h7⟩:=qbP h5 h4;cases b with
 | true=>exact wpIn_cond_true h6 (h7 nt cx h2 hn ro (nr1 hro) ρ B w a ht hsz r)
 | false=>exact wpIn_cond_false h6 (h7 nt cy h3 hn ro (nr2 hro) ρ B w a ht hsz r)
theorem S.blk{n id:Nat}{x:ICode}{Q:X->Tr AV->Hp->Prop}{t:Tr AV}{h:Hp}(hv:S P n x (fun e t h=>onX e (Q .normal t h) (fun i=>if i=id then Q .normal t h else Q (.exit i) t h) (Q .ret t h)) t h):S P n (.blk id x) Q t h:=by
 intro nt code hc hn ro hro ρ B w a ht hsz r;cases code<;>first|(simp[qm] at hc;done)|skip
 rename_i id' cx;simp only[qm,Bool.and_eq_true] at hc;obtain rfl:=eq_of_beq hc.1;refine wpIn_block (wpIn_mono (hv nt cx hc.2 hn ro hro ρ B w a ht hsz r) ?_);rintro e a1 w1 ⟨x1,t1,h1,ρ1,rs,hx,hq,ht1,hs1,hd1,hm,r1,k1⟩;cases hx with
 | normal=>exact⟨_,t1,h1,ρ1,rs,.normal,hq,ht1,hs1,hd1,hm,r1,k1⟩
 | ret=>exact⟨_,t1,h1,ρ1,rs,.ret,hq,ht1,hs1,hd1,hm,r1,k1⟩
 | exit id2 =>
  show (if id2=id' then _ else _)
  have hq':(if id2=id' then Q .normal t1 h1 else Q (.exit id2) t1 h1):=hq
  by_cases he:id2=id'
  ·rw[if_pos he] at hq' ⊢;exact⟨_,t1,h1,ρ1,rs,.normal,hq',ht1,hs1,hd1,hm,r1,k1⟩
  ·rw[if_neg he] at hq' ⊢;exact⟨_,t1,h1,ρ1,rs,.exit id2,hq',ht1,hs1,hd1,hm,r1,k1⟩
theorem S.loop{n:Nat}{x:ICode}{Q:X->Tr AV->Hp->Prop}{t:Tr AV}{h:Hp}(hv:SL P n x Q t h):S P n (.loop x) Q t h:=by
 intro nt code hc hn ro hro ρ B w a ht hsz r;cases code<;>first|(simp[qm] at hc;done)|skip
 rename_i cx;exact qb6 (hv nt cx (by simpa[qm] using hc) hn ro hro ρ B w a ht hsz r)
theorem SL.of_S{n:Nat}{x:ICode}{Q:X->Tr AV->Hp->Prop}{t:Tr AV}{h:Hp}(hv:S P n x (fun e t h=>onX e (SL P n x Q t h) (fun id=>Q (.exit id) t h) (Q .ret t h)) t h):SL P n x Q t h:=by
 intro nt cx hc hn ro hro ρ B w a ht hsz r;refine qa0 (wpIn_mono (hv nt cx hc hn ro hro ρ B w a ht hsz r) ?_);rintro e a1 w1 ⟨x1,t1,h1,ρ1,rs,hx,hq,ht1,hs1,hd1,hm,r1,k1⟩;cases hx with
 | normal=>exact jr.mono (hq nt cx hc k1.szle ro hro ρ1 _ w1 a1 ht1 hs1 r1) (fun e a2 w2 hp=>xE.trans k1 hm hd1 hm.lt hp)
 | exit id=>exact⟨_,t1,h1,ρ1,rs,.exit id,hq,ht1,hs1,hd1,hm,r1,k1⟩
 | ret=>exact⟨_,t1,h1,ρ1,rs,.ret,hq,ht1,hs1,hd1,hm,r1,k1⟩
omit [Cur] in
theorem qbW:∀{l:List AV} {n:Nat} {t:Tr AV} {k:Tr AV->Prop},qcR l n t k↔k (jX l n t)
 | [],_,_,_=>Iff.rfl
 | v::l,n,t,k=>by
  show t.setK n v (fun t'=>qd (Nat.succ n) (fun n'=>qcR l n' t' k))↔_
  rw[Tr.setK_iff,qg,qbW];exact Iff.rfl
end Go.Kc
end
section
namespace Go.Kc
variable [Cur]
variable {P:Program} {t:Tr AV} {h:Hp} {k:AV->Hp->Prop}

def qbN(l:List UInt8)(i:Nat):Nat×Nat:=Utf8.decode ⟨l.toArray⟩ i
omit [Cur] in
theorem qfp{x:O}:opK qj (.rangeS x) t h k↔evK t x (fun x=>match x with | .s a=>zd h (.map (qW a 0)) (fun b h'=>k (.ptr b 0) h')|_=>False):=Iff.rfl
def qnv(x:Blk)(k:List UInt8->Nat->Prop):Prop:=∃a n,x = .map (qW a n)∧k a n
theorem qfa{a a':List UInt8}{n n':Nat}(e:qW a n=qW a' n'):a=a'∧n=n':=by
 simp only[qW,List.cons.injEq,Prod.mk.injEq,AV.s.injEq,AV.i.injEq,true_and,and_true] at e
 grind
theorem qi7{a:List UInt8}{n:Nat}{k:List UInt8->Nat->Prop}:qnv (.map (qW a n)) k↔k a n:=by
 constructor
 ·rintro⟨a',n',h1,h2⟩
  grind[qfa]
 ·intro h1;exact⟨a,n,rfl,h1⟩
theorem qhv{x:O}:opK qj (.nextS x) t h k↔evK t x (fun x=>unP x (fun b o=>ifK (o=0) (evB (h.tr.get b) (fun y=>qnv y (fun a n=>if n<a.length then evN (n+(qbN a n).2) (fun m=>zw h b (.map (qW a m)) (fun h'=>evA (.i .i32 ((qbN a n).1:Int)) (fun c=>k (.tup [.b true,.i .i64 (n:Int),c]) h'))) else k (.tup [.b false]) h))))):=by
 show evK t x (fun x=>unP x (fun b o=>qb (Nat.beq o 0) (qb3 h b _)))↔_
 refine iff_of_eq (congrArg _ (funext fun v=>congrArg _ (funext fun b=>funext fun o=>?_)))
 rw[show (qb (Nat.beq o 0)=fun p=>ifK (o=0) p) from by funext p;exact propext ((qa _ _).trans (by rw[jK];exact Iff.rfl))]
 refine congrArg _ (propext (wQ.trans ?_))
 have body:∀a n,(match a[n]? with
  | some c=>(Bool.rec (motive:=fun _=>Prop)
    (zw h b (.map (qW a (Nat.add n (Utf8.decode ⟨a.toArray⟩ n).2))) (fun h'=>k (.tup [.b true,.i .i64 (Int.ofNat n),.i .i32 (Int.ofNat (Utf8.decode ⟨a.toArray⟩ n).1)]) h'))
    (qd (Nat.succ n) (fun m=>zw h b (.map (qW a m)) (fun h'=>k (.tup [.b true,.i .i64 (Int.ofNat n),.i .i32 (Int.ofNat c.toNat)]) h')))
    (Nat.ble (Nat.succ c.toNat) 128):Prop)
  | none=>k (.tup [.b false]) h)↔if n<a.length then evN (n+(qbN a n).2) (fun m=>zw h b (.map (qW a m)) (fun h'=>evA (.i .i32 ((qbN a n).1:Int)) (fun c=>k (.tup [.b true,.i .i64 (n:Int),c]) h'))) else k (.tup [.b false]) h:=by
  intro a n
  by_cases hi:n<a.length
  ·rw[if_pos hi,zzE hi];dsimp only;cases hc:Nat.ble (Nat.succ a[n].toNat) 128 with
   | false=>exact Iff.rfl
   | true =>
    have hlt:=Nat.le_of_ble_eq_true hc;have hd:qbN a n=(a[n].toNat,1):=qam (zzE hi) (by omega);show qd _ _↔_;rw[qg,hd];exact Iff.rfl
  ·rw[if_neg hi,List.getElem?_eq_none (by omega)]
 constructor
 ·rintro⟨a,n,h1,h2⟩;exact⟨_,h1,a,n,rfl,(body a n).1 h2⟩
 ·rintro⟨_,h1,a,n,rfl,h2⟩;exact⟨a,n,h1,(body a n).2 h2⟩
def jS(es:List (AV×AV)):Prop:=∀e ∈ es,clo e.1=true∧clo e.2=true
omit [Cur] in
theorem qkD{r:Nat->Nat}{m b:Nat}{es:List (AV×AV)}(hb:b<h.sz):BW h r m b (.map es)↔evB (h.tr.get b) (fun x=>qg4 x (fun es'=>EsW r m es' es)):=by
 constructor
 ·rintro (h1|h1|⟨e',w0,a0,cs,w',a',cs'',h1,h2,h3,h4,h5⟩|⟨es',es2,h1,h2,h3⟩)
  ·omega
  ·cases h1
  ·cases h2
  ·cases h2;exact⟨_,h1,h3⟩
 ·rintro⟨x,h1,h2⟩;cases x with
  | map es'=>exact .inr (.inr (.inr ⟨_,_,h1,rfl,h2⟩))
  | dead=>exact h2.elim
  | cells e0 w0 a0 cs=>exact h2.elim
omit [Cur] in
theorem qcq{r:Nat->Nat}{m:Nat}{es es':List (AV×AV)}(hn:∀lr ts,es'≠zo lr ts):EsW r m es es'↔es=es'∧jS es' :=
 ⟨fun h=>by
  rcases h with⟨rfl,h⟩|⟨lr,ts,ts',_,h,_⟩
  ·exact⟨rfl,h⟩
  grind,fun⟨h1,h2⟩=>by subst h1;exact .inl ⟨rfl,h2⟩⟩
omit [Cur] in
theorem qiI{r:Nat->Nat}{m:Nat}{es:List (AV×AV)}:EsW r m es []↔es=[]:=(qcq (by simp[zo])).trans ⟨And.left,fun h=>⟨h,by intro e he;cases he⟩⟩
omit [Cur] in
theorem qnn{r:Nat->Nat}{m:Nat}{es es':List (AV×AV)}{a:List UInt8}{v:AV}:EsW r m es ((.s a,v)::es')↔es=(.s a,v)::es'∧jS ((.s a,v)::es'):=qcq (by simp[zo])
omit [Cur] in
theorem qnm{r:Nat->Nat}{m:Nat}{es es':List (AV×AV)}{q:IntKind}{a:Int}{v:AV}:EsW r m es ((.i q a,v)::es')↔es=(.i q a,v)::es'∧jS ((.i q a,v)::es'):=qcq (by simp[zo])
omit [Cur] in
theorem qkU{r:Nat->Nat}{m:Nat}{es:List (AV×AV)}{a:List UInt8}{n:Nat}:EsW r m es (qW a n)↔es=qW a n∧jS (qW a n):=qcq (by simp[qW,zo])
omit [Cur] in
theorem qiJ{r:Nat->Nat}{m:Nat}{lr lr':Loop}{ts ts':List (Nat×AV)}:EsW r m (zo lr ts) (zo lr' ts')↔lr=lr'∧TsW r m ts ts' :=
 ⟨fun h=>by
  rcases h with⟨h1,h⟩|⟨l,t1,t2,h1,h2,h3⟩
  ·exact absurd (h (.lp lr,.undef) (by simp[zo])).1 (by simp[clo])
  grind[qdm],fun⟨h1,h2⟩=>by subst h1;exact .inr (by grind)⟩
omit [Cur] in
theorem qjU{r:Nat->Nat}{m:Nat}{ts:List (Nat×AV)}:TsW r m ts []↔True:=iff_true_intro (by intro p hp;cases hp)
omit [Cur] in
theorem qhS{r:Nat->Nat}{m:Nat}{ts ts':List (Nat×AV)}{p:Nat×AV}:TsW r m ts (p::ts')↔evO (qaX ts p.1) (fun v=>NV r m v p.2)∧TsW r m ts ts':=by
 simp only[TsW,List.mem_cons,forall_eq_or_imp];exact Iff.rfl
omit [Cur] in
theorem qdR{p:Nat×AV}{l:List (Nat×AV)}{j:Nat}:qaX (p::l) j=if p.1=j then some p.2 else qaX l j:=rfl
omit [Cur] in
theorem qfe{a:List UInt8}{n:Nat}:jS (qW a n)↔True:=by
 refine iff_true_intro ?_;intro e he;simp only[qW,List.mem_cons,List.mem_nil_iff,or_false] at he;rcases he with rfl|rfl<;>exact⟨rfl,rfl⟩
omit [Cur] in
theorem qdS:jS []↔True:=iff_true_intro (by intro e he;cases he)
omit [Cur] in
theorem qdi{e:AV×AV}{es:List (AV×AV)}:jS (e::es)↔(clo e.1=true∧clo e.2=true)∧jS es:=by simp[jS]
omit [Cur] in
theorem qr{r:Nat->Nat}{m:Nat}{vs:List AV}(hc:qM vs=true):NVs r m vs vs↔True:=by grind[NVs.refl]
theorem Wk.mkn{n:Nat}{t:Tr AV}(ts:List (Nat×AV))(bl:List Blk)(src:List Nat)(hT:TWs t (rl src h.sz) bl.length ts)(hB:BWs h (rl src h.sz) bl.length src bl)
  (hI:((src.filter fun b=>decide (b<h.sz)).Nodup)) (hfl:h.fl=0) (hn:n<=bl.length) (hlow:∀b,b<n->rl src h.sz b=b):Wk n t h (mkT ts) (mkH 0 bl):=by
 obtain⟨hlen,hget⟩:=hB.get;refine Wk.of (r:=rl src h.sz) ⟨hfl.symm,fun b' x' hb hg=>?_,fun b1 b2 h1 h2 _ _ he hl=>?_,fun b' _ _ _=>by rw[hfl];omega,hlow,hn,fun b _ hb=>by rw[hfl] at hb;omega,fun j v' hj=>?_⟩
 ·rw[wT] at hg;obtain⟨b,q1,q2⟩:=hget b' x' hg;have:rl src h.sz b'=b:=by simp[rl,List.getD_eq_getElem?_getD,q1]
  rw[this];exact q2
 ·have h1:b1<src.length:=by rw[hlen];exact h1
  have h2:b2<src.length:=by rw[hlen];exact h2
  simp only[rl,List.getD_eq_getElem?_getD,zzE h1,zzE h2,Option.getD_some] at he hl
  grind[Wk.mk.nodup_filter_inj]
 ·exact hT.get _ (wU hj)
end Go.Kc
end
section
namespace Go.Kc
variable [Cur]
variable {P:Program}

mutual
def rnv(g:Nat->Nat):AV->AV
 | .ptr b o=>.ptr (g b) o
 | .sl b o n c l=>.sl (g b) o n c l
 | .map b=>.map (g b)
 | .own b n=>.own (g b) n
 | .yl b=>.yl (g b)
 | .fn f a c=>.fn f (qdo g a) (qdo g c)
 | .ifc t v=>.ifc t (rnv g v)
 | .agg cs=>.agg (qdo g cs)
 | .tup cs=>.tup (qdo g cs)
 | v=>v
def qdo(g:Nat->Nat):List AV->List AV
 | []=>[]
 | v::vs=>rnv g v::qdo g vs
end
mutual
def bnd(m:Nat):AV->Bool
 | .ptr b _=>decide (b<m)
 | .sl b _ _ _ _=>decide (b<m)
 | .map b=>decide (b<m)
 | .own b _=>decide (b<m)
 | .yl b=>decide (b<m)
 | .fn _ a c=>qbS m a&&qbS m c
 | .ifc _ v=>bnd m v
 | .agg cs=>qbS m cs
 | .tup cs=>qbS m cs
 | _=>true
def qbS(m:Nat):List AV->Bool
 | []=>true
 | v::vs=>bnd m v&&qbS m vs
end

def gAt(at':List Nat)(d:Nat):Nat->Nat:=fun b=>if b<at'.length then at'.getD b 0 else d+(b-at'.length)
omit [Cur] in
theorem qdM{at':List Nat}{d b:Nat}(h:b<at'.length):gAt at' d b=at'[b]:=by
 simp[gAt,h]
structure Lent (h:Hp) (at':List Nat) (bs:List Blk):Prop where
 len:at'.length=bs.length
 nd:at'.Nodup
 blk:∀i x,bs[i]?=some x->∃e a cs,x = .cells e true a cs∧qbS bs.length cs=true∧h.tr.get (gAt at' h.sz i)=some (.cells e true a (qdo (gAt at' h.sz) cs))∧h.fl<=gAt at' h.sz i∧gAt at' h.sz i<h.sz
omit [Cur] in
theorem Lent.inj{h:Hp}{at':List Nat}{bs:List Blk}(l:Lent h at' bs){i j:Nat}(hi:i<at'.length)(hj:j<at'.length)(he:gAt at' h.sz i=gAt at' h.sz j):i=j:=by
 rw[qdM hi,qdM hj] at he
 grind[List.getElem_inj,Lent.nd]
noncomputable def qhA:Hp->List Nat->List Blk->Hp
 | h,b::at',x::xs=>qhA (h.put b x) at' xs
 | h,_,_=>h
def qm2(m:Nat)(v:AV)(bs2:List Blk)(v':AV)(h':Hp):Prop:=h'.fl=0->∃src:List Nat,NV (rl src h'.sz) bs2.length v' v∧BWs h' (rl src h'.sz) bs2.length src bs2∧(src.filter fun b=>decide (b<h'.sz)).Nodup∧∀b,b<m->rl src h'.sz b=b
def qh0(m:Nat)(v:AV)(bs2:List Blk)(v':AV)(h':Hp):Prop:=h'.fl=0->Wk m (mkT [(0,v')]) h' (mkT [(0,v)]) (mkH 0 bs2)
theorem qm2.w{m:Nat}{v:AV}{bs2:List Blk}{v':AV}{h':Hp}(hz:qm2 m v bs2 v' h')(hle:m<=bs2.length):qh0 m v bs2 v' h':=by
 intro hfl;obtain⟨src,s1,s2,s3,s4⟩:=hz hfl;exact Wk.mkn [(0,v)] bs2 src ⟨⟨v',by simp[mkT,Tr.get_set],s1⟩,trivial⟩ s2 s3 hfl hle s4
def Upd(P:Program)(f:Nat)(vs:List AV)(bs:List Blk)(v:AV)(bs2:List Blk):Prop :=
 qbS bs.length vs=true∧bs.length<=bs2.length∧SC P f vs (mkH 0 bs) (qh0 bs.length v bs2)
theorem Upd.mkS{f:Nat}{i:IFn}{vs:List AV}{v:AV}{bs bs2:List Blk}(hc:zp P f i=true)(hb:qbS bs.length vs=true)(hl:bs.length<=bs2.length)(hV:S P bs.length i.body (qan i.res (qh0 bs.length v bs2)) (jX vs 0 .leaf) (mkH 0 bs)):Upd P f vs bs v bs2 :=
 ⟨hb,hl,SC.mk hc hV⟩
end Go.Kc
end
section
namespace Go.Kc
variable [Cur]
variable {P:Program} {h:Hp}

def vc(h:Hp)(g:Nat->Nat)(m:Nat):List Nat->List Blk->Prop
 | [],[]=>True
 | b::at',.cells e true a cs::xs=>(qbS m cs=true∧evB (h.tr.get b) (fun y=>y=Blk.cells e true a (qdo g cs))∧h.fl<=b∧b<h.sz)∧vc h g m at' xs
 | _,_=>False
omit [Cur] in
theorem vc.get{g:Nat->Nat}{m:Nat}:∀{at':List Nat} {bs:List Blk},vc h g m at' bs->at'.length=bs.length∧∀(i:Nat) (x:Blk),bs[i]?=some x->∃b e a cs,at'[i]?=some b∧x = .cells e true a cs∧qbS m cs=true∧h.tr.get b=some (.cells e true a (qdo g cs))∧h.fl<=b∧b<h.sz
 | [],[],_=>⟨rfl,by simp⟩
 | [],_::_,hh=>by simp[vc] at hh
 | _::_,[],hh=>by simp[vc] at hh
 | b::at',.dead::xs,hh=>by simp[vc] at hh
 | b::at',.map _::xs,hh=>by simp[vc] at hh
 | b::at',.cells e false a cs::xs,hh=>by simp[vc] at hh
 | b::at',.cells e true a cs::xs,hh=>by
  obtain⟨⟨h1,⟨y,h2,h3⟩,h4,h5⟩,h6⟩:=hh;subst h3;obtain⟨h7,h8⟩:=vc.get h6
  grind
omit [Cur] in
theorem Lent.of{at':List Nat}{bs:List Blk}(hn:at'.Nodup)(hl:vc h (gAt at' h.sz) bs.length at' bs):Lent h at' bs:=by
 obtain⟨h1,h2⟩:=hl.get;refine⟨h1,hn,fun i x hx=>?_⟩
 grind[qdM]
omit [Cur] in
theorem qej{s f b:Nat}{tr:Tr Blk}{x:Blk}:Hp.put ⟨s,f,tr⟩ b x=⟨s,f,tr.set b x⟩:=rfl
omit [Cur] in
theorem qhB{xs:List Blk}:qhA h [] xs=h:=by simp[qhA]
omit [Cur] in
theorem qfx{b:Nat}{at':List Nat}{x:Blk}{xs:List Blk}:qhA h (b::at') (x::xs)=qhA (h.put b x) at' xs:=rfl
def qdP:Blk->Bool
 | .dead=>false
 | _=>true
omit [Cur] in
theorem qcc{α β:Type}{f:α->β}{p:α->Bool}:∀{l:List α},((l.filter p).map f).Nodup->∀{i j:Nat} {x y:α},l[i]?=some x->l[j]?=some y->p x=true->p y=true->f x=f y->i=j
 | [],_,i,j,x,y,hi,_,_,_,_=>by grind
 | a::l,hn,i,j,x,y,hi,hj,hx,hy,he=>by
  have tail:((l.filter p).map f).Nodup:=by
   rw[List.filter_cons] at hn
   grind
  have no:∀{z:α} {m:Nat},l[m]?=some z->p z=true->p a=true->f a=f z->False:=by
   grind
  cases i with
  | zero =>
   grind
  | succ i =>
   cases j with
   | zero=>grind
   | succ j =>
    have hij:i=j:=qcc tail (i:=i) (j:=j) (by simp_all) (by simp_all) hx hy he;rw[hij]
theorem Wk.mkd{n:Nat}{t:Tr AV}(ts:List (Nat×AV))(bl:List Blk)(src:List Nat)(hT:TWs t (rl src h.sz) bl.length ts)(hB:BWs h (rl src h.sz) bl.length src bl)
  (hI:(((src.zip bl).filter fun p=>decide (p.1<h.sz)&&qdP p.2).map Prod.fst).Nodup) (hfl:h.fl=0) (hn:n<=bl.length) (hlow:∀b,b<n->rl src h.sz b=b):Wk n t h (mkT ts) (mkH 0 bl):=by
 obtain⟨hlen,hget⟩:=hB.get;refine Wk.of (r:=rl src h.sz) ⟨hfl.symm,fun b' x' hb hg=>?_,fun b1 b2 h1 h2 l1 l2 he hl=>?_,fun b' _ _ _=>by rw[hfl];omega,hlow,hn,fun b _ hb=>by rw[hfl] at hb;omega,fun j v' hj=>?_⟩
 ·rw[wT] at hg;obtain⟨b,q1,q2⟩:=hget b' x' hg;have:rl src h.sz b'=b:=by simp[rl,List.getD_eq_getElem?_getD,q1]
  rw[this];exact q2
 ·obtain⟨x1,g1,d1⟩:=l1;obtain⟨x2,g2,d2⟩:=l2;rw[wT] at g1 g2;obtain⟨c1,q1,_⟩:=hget b1 x1 g1;obtain⟨c2,q2,_⟩:=hget b2 x2 g2;have e1:rl src h.sz b1=c1:=by simp[rl,List.getD_eq_getElem?_getD,q1]
  have e2:rl src h.sz b2=c2:=by simp[rl,List.getD_eq_getElem?_getD,q2]
  rw[e1,e2] at he;rw[e1] at hl;have v1:qdP x1=true:=by cases x1<;>first|rfl|exact absurd rfl d1
  have v2:qdP x2=true:=by cases x2<;>first|rfl|exact absurd rfl d2
  refine qcc hI (i:=b1) (j:=b2) (x:=(c1,x1)) (y:=(c2,x2)) ?_ ?_ ?_ ?_ he
  all_goals grind
 ·exact hT.get _ (wU hj)
omit [Cur] in
theorem qfh{b o:Nat}{k:AV->Prop}:qcb (.ptr b o) k↔k (.ptr b o):=Iff.rfl
omit [Cur] in
theorem qhb{cs:List AV}{o:Nat}{k:AV->Prop}:qcb (.pf cs o) k↔k (.pf cs o):=Iff.rfl
omit [Cur] in
theorem qfg{b:Nat}{k:AV->Prop}:qcb (.map b) k↔k (.map b):=Iff.rfl
omit [Cur] in
theorem qhc{b:Nat}{k:AV->Prop}:qcb (.yl b) k↔k (.yl b):=Iff.rfl
omit [Cur] in
theorem qha{f:Nat}{a c:List AV}{k:AV->Prop}:qcb (.fn f a c) k↔k (.fn f a c):=Iff.rfl
omit [Cur] in
theorem qjY{C:qy}{ops:List ROp}{Q:Tr AV->Hp->Prop}{t:Tr AV}{s f f':Nat}{tr:Tr Blk}:VR' C ops Q t (Hp.down ⟨s,f,tr⟩ f')↔VR' C ops Q t ⟨s,f',tr⟩:=Iff.rfl
omit [Cur] in
theorem qn7{C:qy}{ops:List ROp}{Q:Tr AV->Hp->Prop}{t:Tr AV}{s f:Nat}{tr:Tr Blk}{dst:Option Nat}{o:IOp}:VR' C (⟨dst,.op o,none⟩::ops) Q t ⟨s,f,tr⟩ ↔
  if wr (.op o)=true then opK qj o t ⟨s,f,tr⟩ (fun v h'=>zC t dst v (fun t'=>VR' C ops Q t' h')) else opK qj o t ⟨s,s,tr⟩ (fun v h'=>zC t dst v (fun t'=>VR' C ops Q t' (h'.down f))):=qkl
omit [Cur] in
theorem qmu{C:qy}{Q:Tr AV->Hp->Prop}{t:Tr AV}{s f:Nat}{tr:Tr Blk}:VR' C [] Q t ⟨s,f,tr⟩↔Q t ⟨s,f,tr⟩:=Iff.rfl
end Go.Kc
end
section
namespace Go.Kc
variable [Cur]
def vQ:=And.intro @List.map_cons.{0,0} (And.intro @List.map_nil.{0,0} (And.intro @Bool.and_true (And.intro @Bool.true_and (And.intro @Bool.and_self (And.intro @and_self (And.intro @Tr.get_set (And.intro @decide_eq_true_eq (And.intro @Bool.false_eq_true (And.intro @true_and (And.intro @and_true (And.intro @List.getElem?_cons_zero.{0} (And.intro @List.getElem?_cons_succ.{0} (And.intro @List.length_cons.{0} (And.intro @List.length_nil.{0} (And.intro @List.take_zero.{0} (And.intro @List.take_succ_cons.{0} (And.intro @List.drop_zero.{0} (And.intro @List.drop_succ_cons.{0} (And.intro @List.drop_nil.{0} (And.intro @List.take_nil.{0} (And.intro @List.nil_append.{0} (And.intro @List.cons_append.{0} (And.intro @List.append_nil.{0} (And.intro @Nat.zero_add (And.intro @Nat.add_zero (And.intro @Nat.le_refl (And.intro @Nat.zero_le (And.intro @Int.toNat_natCast (And.intro @Int.natCast_nonneg (And.intro @Int.ofNat_lt (And.intro @Bool.not_true (And.intro @Bool.not_false (And.intro @decide_true (And.intro @decide_false (And.intro @Bool.xor_false (And.intro @Bool.xor_true (And.intro @Bool.false_xor (And.intro @Bool.true_xor (And.intro @Nat.lt_irrefl (And.intro @List.replicate_succ.{0} (And.intro @List.replicate_zero.{0} (And.intro @List.flatten_cons.{0} (And.intro @List.flatten_nil.{0} (And.intro @Nat.succ_eq_add_one (And.intro @Option.isNone_none.{0} (And.intro @Option.isSome_none.{0} (And.intro @Bool.false_and (And.intro @Bool.and_false (And.intro @Nat.sub_zero (And.intro @qhB (And.intro @qfx (And.intro @qej (And.intro @qi7 (And.intro @qep (And.intro @qcd (And.intro @qbI @List.append_assoc.{0}))))))))))))))))))))))))))))))))))))))))))))))))))))))))
def vX:=And.intro @qjY (And.intro @qn7 (And.intro @qmu (And.intro @qhx (And.intro @qhy (And.intro @qfp (And.intro @qhv (And.intro @qfh (And.intro @qhb (And.intro @qfg (And.intro @qhc @qha))))))))))
def vU:=And.intro @shb.eq_1 (And.intro @shb.eq_2 (And.intro @shb.eq_3 (And.intro @shv.eq_1 (And.intro @shv.eq_2 (And.intro @shv.eq_3 (And.intro @shv.eq_4 (And.intro @shv.eq_5 (And.intro @shv.eq_6 (And.intro @shv.eq_7 (And.intro @shv.eq_8 (And.intro @shv.eq_9 (And.intro @shv.eq_10 (And.intro @wg.eq_1 @wg.eq_2)))))))))))))
def vY:=And.intro vU (And.intro @wq.eq_1 (And.intro @wq.eq_2 (And.intro @cellsOf.eq_1 (And.intro @cellsOf.eq_2 (And.intro @wr.eq_1 (And.intro @wr.eq_2 (And.intro @wr.eq_3 (And.intro @wr.eq_4 (And.intro @wr.eq_5 (And.intro @wr.eq_6 (And.intro @wr.eq_7 (And.intro @wr.eq_8 (And.intro @wr.eq_9 (And.intro @wr.eq_10 (And.intro @wr.eq_11 (And.intro @zM.eq_1 @zM.eq_2))))))))))))))))
def vS:=And.intro vA (And.intro vE (And.intro vO (And.intro vB (And.intro vF (And.intro vM (And.intro vR vX))))))
def vT:=And.intro vY (And.intro @qkM (And.intro @qkN (And.intro vP (And.intro vC (And.intro vQ (And.intro @qes (And.intro @qdq (And.intro not_false_eq_true (And.intro @eq_self.{1} @Int.cast_ofNat_Int)))))))))
def vw:=And.intro vW (And.intro @qiI (And.intro @qnn (And.intro @qnm (And.intro @qkU (And.intro @qiJ (And.intro @qjU (And.intro @qhS (And.intro @qdR (And.intro @qkD (And.intro @qb8 (And.intro @qfe (And.intro @qdS (And.intro @qdi (And.intro vP (And.intro vZ @Tr.get_set)))))))))))))))
def vJ:=And.intro vU (And.intro @qbI (And.intro @qcd (And.intro @qep (And.intro @qes (And.intro @qdq (And.intro @List.map_cons.{0,0} (And.intro @List.map_nil.{0,0} (And.intro @qkd (And.intro @qec Nat.zero_add)))))))))
def ROp.q(n:Nat)(o:IOp):ROp:=⟨some n,.op o,none⟩
def ROp.m(n:Nat)(x:O):ROp:=⟨some n,.op (.mov x),none⟩
def ROp.g(n:Nat)(o:IOp)(c:Nat)(b:Bool):ROp:=⟨some n,.op o,some (c,b)⟩
def ROp.l(n f:Nat)(xs:List O):ROp:=⟨some n,.callF f xs,none⟩
def ROp.u(o:IOp):ROp:=⟨none,.op o,none⟩
def ICode.r(ops:List ROp):ICode:=.reg false ops
def O.k(n:Int):O:=.c (.i .i64 n)
def ROp.n(n a:Nat):ROp:=⟨some n,.op (.mov (.t a)),none⟩
def ROp.d(n a:Nat):ROp:=⟨some n,.op (.load1 (.t a)),none⟩
def ROp.v(n k a:Nat):ROp:=⟨some n,.op (.loadN k (.t a)),none⟩
def ROp.f(n k a:Nat):ROp:=⟨some n,.op (.fAddr k (.t a)),none⟩
def ROp.i(n k a b:Nat):ROp:=⟨some n,.op (.iAddrS k (.t a) (.t b)),none⟩
def ROp.a(n a:Nat)(k:Int):ROp:=⟨some n,.op (.bin .add (.t a) (.c (.i .i64 k))),none⟩
def ROp.b(n:Nat)(o:BinOp)(a b:Nat):ROp:=⟨some n,.op (.bin o (.t a) (.t b)),none⟩
def ROp.w(n:Nat)(o:BinOp)(a:Nat)(k:Int):ROp:=⟨some n,.op (.bin o (.t a) (.c (.i .i64 k))),none⟩
def ROp.e(n a:Nat):ROp:=⟨some n,.op (.len false (.t a)),none⟩
def ROp.x(n a k:Nat):ROp:=⟨some n,.op (.ext (.t a) k),none⟩
def ROp.s(n a b:Nat):ROp:=⟨some n,.op (.bin .lss (.t a) (.t b)),none⟩
def ROp.p(n a b:Nat):ROp:=⟨some n,.op (.pick (.t a) (.t b) (.c (.b false))),none⟩
def ROp.o(n a b:Nat):ROp:=⟨some n,.op (.pick (.t a) (.c (.b true)) (.t b)),none⟩
def ROp.y(n a c:Nat):ROp:=⟨some n,.op (.mov (.t a)),some (c,true)⟩
def ROp.z(n a c:Nat):ROp:=⟨some n,.op (.mov (.t a)),some (c,false)⟩
def ROp.j(n a c:Nat)(b:Bool):ROp:=⟨some n,.op (.load1 (.t a)),some (c,b)⟩
def ROp.h(n k a c:Nat)(b:Bool):ROp:=⟨some n,.op (.fAddr k (.t a)),some (c,b)⟩
def O.F:O:=.c (.b false)
def O.T:O:=.c (.b true)
def O.N:O:=.c .nils
omit [Cur] in
theorem q_q{n:Nat}{o:IOp}:ROp.q n o=⟨some n,.op o,none⟩:=rfl
omit [Cur] in
theorem q_m{n:Nat}{x:O}:ROp.m n x=⟨some n,.op (.mov x),none⟩:=rfl
omit [Cur] in
theorem q_g{n:Nat}{o:IOp}{c:Nat}{b:Bool}:ROp.g n o c b=⟨some n,.op o,some (c,b)⟩:=rfl
omit [Cur] in
theorem q_l{n f:Nat}{xs:List O}:ROp.l n f xs=⟨some n,.callF f xs,none⟩:=rfl
omit [Cur] in
theorem q_u{o:IOp}:ROp.u o=⟨none,.op o,none⟩:=rfl
omit [Cur] in
theorem q_r{ops:List ROp}:ICode.r ops = .reg false ops:=rfl
omit [Cur] in
theorem q_k{n:Int}:O.k n = .c (.i .i64 n):=rfl
omit [Cur] in
theorem qoG{n a:Nat}:ROp.n n a=⟨some n,.op (.mov (.t a)),none⟩:=rfl
omit [Cur] in
theorem qoA{n a:Nat}:ROp.d n a=⟨some n,.op (.load1 (.t a)),none⟩:=rfl
omit [Cur] in
theorem qoK{n k a:Nat}:ROp.v n k a=⟨some n,.op (.loadN k (.t a)),none⟩:=rfl
omit [Cur] in
theorem qoC{n k a:Nat}:ROp.f n k a=⟨some n,.op (.fAddr k (.t a)),none⟩:=rfl
omit [Cur] in
theorem qoE{n k a b:Nat}:ROp.i n k a b=⟨some n,.op (.iAddrS k (.t a) (.t b)),none⟩:=rfl
omit [Cur] in
theorem qoy{n a:Nat}{k:Int}:ROp.a n a k=⟨some n,.op (.bin .add (.t a) (.c (.i .i64 k))),none⟩:=rfl
omit [Cur] in
theorem qoz{n:Nat}{o:BinOp}{a b:Nat}:ROp.b n o a b=⟨some n,.op (.bin o (.t a) (.t b)),none⟩:=rfl
omit [Cur] in
theorem qoL{n:Nat}{o:BinOp}{a:Nat}{k:Int}:ROp.w n o a k=⟨some n,.op (.bin o (.t a) (.c (.i .i64 k))),none⟩:=rfl
omit [Cur] in
theorem qoB{n a:Nat}:ROp.e n a=⟨some n,.op (.len false (.t a)),none⟩:=rfl
omit [Cur] in
theorem qoM{n a k:Nat}:ROp.x n a k=⟨some n,.op (.ext (.t a) k),none⟩:=rfl
omit [Cur] in
theorem qoJ{n a b:Nat}:ROp.s n a b=⟨some n,.op (.bin .lss (.t a) (.t b)),none⟩:=rfl
omit [Cur] in
theorem qoI{n a b:Nat}:ROp.p n a b=⟨some n,.op (.pick (.t a) (.t b) (.c (.b false))),none⟩:=rfl
omit [Cur] in
theorem qoH{n a b:Nat}:ROp.o n a b=⟨some n,.op (.pick (.t a) (.c (.b true)) (.t b)),none⟩:=rfl
omit [Cur] in
theorem qoN{n a c:Nat}:ROp.y n a c=⟨some n,.op (.mov (.t a)),some (c,true)⟩:=rfl
omit [Cur] in
theorem qoO{n a c:Nat}:ROp.z n a c=⟨some n,.op (.mov (.t a)),some (c,false)⟩:=rfl
omit [Cur] in
theorem qoF{n a c:Nat}{b:Bool}:ROp.j n a c b=⟨some n,.op (.load1 (.t a)),some (c,b)⟩:=rfl
omit [Cur] in
theorem qoD{n k a c:Nat}{b:Bool}:ROp.h n k a c b=⟨some n,.op (.fAddr k (.t a)),some (c,b)⟩:=rfl
omit [Cur] in
theorem q_F:O.F = .c (.b false):=rfl
omit [Cur] in
theorem q_T:O.T = .c (.b true):=rfl
omit [Cur] in
theorem q_N:O.N = .c .nils:=rfl
def vI:=And.intro (And.intro @qoG (And.intro @qoA (And.intro @qoK (And.intro @qoC (And.intro @qoE (And.intro @qoy (And.intro @qoz (And.intro @qoL (And.intro @qoB (And.intro @qoM (And.intro @qoJ (And.intro @qoI (And.intro @qoH (And.intro @qoN (And.intro @qoO (And.intro @qoF (And.intro @qoD (And.intro q_F (And.intro q_T q_N))))))))))))))))))) (And.intro (And.intro @jX.eq_1 (And.intro @jX.eq_2 (And.intro @H0.eq_1 (And.intro @mkT.eq_1 (And.intro @mkT.eq_2 (And.intro @mkH.eq_1 (And.intro @trL.eq_1 @trL.eq_2))))))) (And.intro @List.length_cons.{0} (And.intro @List.length_nil.{0} (And.intro Nat.zero_add (And.intro @q_q (And.intro @q_m (And.intro @q_g (And.intro @q_l (And.intro @q_u (And.intro @q_r @q_k))))))))))
end Go.Kc
end
section
namespace Go.Kc
variable [Cur]
variable {P:Program}

end Go.Kc
end
section
namespace Go.Kc
variable [Cur]
variable {P:Program} {n:Nat} {t:Tr AV} {h:Hp}

theorem Wk.trans{t1 t2:Tr AV}{h1 h2:Hp}(a:Wk n t h t1 h1)(b:Wk n t1 h1 t2 h2):Wk n t h t2 h2:=by
 intro ρ B w tm ht r;obtain⟨ρ1,g1,g2,g3⟩:=a ρ B w tm ht r;obtain⟨ρ2,k1,k2,k3⟩:=b ρ1 B w tm g1 g2;exact⟨ρ2,k1,k2,g3.trans k3⟩
end Go.Kc
end
section
namespace Go.Kc
variable [Cur]
variable {P:Program} {f:Nat}

def qb1(P:Program)(f:Nat)(e:Array Value->Sem Value):Prop:=∀args w,(callFunc f args).run P w=((e args).run P w).andThen fun v w'=>.ok (.value v) w'
omit [Cur] in
theorem qb1.of{fn:Func}{e:Array Value->Sem Value}(hf:P.funcs[f]?=some fn)(hname:(fn.name == "runtime.NumGoroutine")=false)(hb:fn.body.isNone=true)(hn:Extern.findNext fn=none)(he:Extern.find fn=some e):qb1 P f e :=
 fun args w=>run_callFunc_extern hf hname hb hn he args w
theorem qb1.pure{e:Array Value->Sem Value}{vs:List AV}{v:AV}(h:qb1 P f e)(hr:∀ρ (args:Array Value) w,VRs σ0 ρ vs args.toList->∃v',(e args).run P w = .ok v' w∧VR σ0 ρ v v'):qp P f vs v:=by
 intro hp k hk;refine⟨trivial,fun ρ B w args r ha=>?_⟩
 obtain⟨v',h1,h2⟩:=hr ρ args w ha;exact .inr ⟨v',w,by rw[h,h1];rfl,v,v',hp,ρ,rfl,hk,h2,r,Kept.refl _ _ _ _⟩

def qdN(c:UInt8):List UInt8->Nat->Int
 | [],_=>-1
 | x::xs,j=>if x=c then (j:Int) else qdN c xs (j+1)
omit [Cur] in
theorem qbU(a:List UInt8)(c:UInt8):firstIdx ⟨a.toArray⟩ c=qdN c a 0:=by
 have key:∀(l:List UInt8) (j:Nat),a.drop j=l->j<=a.length->(match (List.range' j l.length).find? (fun i=>(⟨a.toArray⟩:ByteArray)[i]! == c) with|some i=>(i:Int)|none=>-1)=qdN c l j:=by
  intro l
  induction l with
  | nil=>intro j _ _;simp[qdN]
  | cons x xs ih =>
   intro j hd hj
   have hlt:j<a.length:=by
    have:=congrArg List.length hd;simp at this;omega
   have hx:a[j]=x:=by
    have:=List.drop_eq_getElem_cons hlt;rw[hd] at this;exact (List.cons.inj this).1.symm
   have hget:(⟨a.toArray⟩:ByteArray)[j]! = x:=by
    have:j<(⟨a.toArray⟩:ByteArray).size:=by simpa[ByteArray.size] using hlt
    rw[getElem!_pos (⟨a.toArray⟩:ByteArray) j this];show a.toArray[j]=x;simpa using hx
   rw[List.length_cons,List.range'_succ,List.find?_cons,hget]
   by_cases he:x=c
   ·subst he;simp[qdN]
   ·have:(x==c)=false:=by simpa using he
    rw[this,qdN,if_neg he];exact ih (j+1) (by rw[← List.drop_drop,hd];rfl) (by omega)
 have:=key a 0 rfl (Nat.zero_le _);rw[← this];unfold firstIdx;rw[List.range_eq_range'];have:(⟨a.toArray⟩:ByteArray).size=a.length:=by simp[ByteArray.size]
 rw[this];split<;>rename_i h1<;>split<;>rename_i h2<;>simp_all
theorem qhX(h:qb1 P f Extern.BytealgIndexByte.indexByte)(a:List UInt8)(c:UInt8):qp P f [.s a,.i .u8 (c.toNat:Int)] (.i .i64 (qdN c a 0)):=by
 refine h.pure ?_;intro ρ args w ha;generalize hl:args.toList=l at ha;cases ha with
 | cons _ _ x xs hx hxs =>
  cases hxs with
  | cons _ _ y ys hy hys =>
   cases hys;cases hx;cases hy;obtain rfl:args = #[.string ⟨a.toArray⟩,.int .u8 (c.toNat:Int)]:=by cases args;simp_all
   refine⟨_,run_indexByte_string _ _ _,?_⟩;have:(c.toNat:Int).toNat.toUInt8=c:=by simp
   rw[this,qbU];exact .i _ _

noncomputable def qbT(a b:List UInt8):Int:=if a=b then 0 else if ltS a b=true then -1 else 1
omit [Cur] in
theorem qje{y:List UInt8}:ltS [] y = !y.isEmpty:=by cases y<;>rfl
omit [Cur] in
theorem qg3{c:UInt8}{x:List UInt8}:ltS (c::x) []=false:=rfl
omit [Cur] in
theorem qbE{c d:UInt8}{x y:List UInt8}:ltS (c::x) (d::y)=if c<d then true else if c=d then ltS x y else false:=by
 rw[qaJ,qaJ];simp only[Op.bytesLess]
 by_cases h1:c<d
 ·simp[h1]
 ·by_cases h2:c=d
  ·simp[h2]
  ·simp[h1,h2]
omit [Cur] in
theorem qiz(a b:List UInt8):Extern.BytealgCompare.cmp ⟨a.toArray⟩ ⟨b.toArray⟩=qbT a b:=by
 have hs:∀l:List UInt8,(⟨l.toArray⟩:ByteArray).size=l.length:=fun l=>by simp[ByteArray.size]
 have hg:∀(l:List UInt8) (j:Nat) (hj:j<l.length),(⟨l.toArray⟩:ByteArray)[j]! = l[j]:=by
  intro l j hj;have:j<(⟨l.toArray⟩:ByteArray).size:=by rw[hs];exact hj
  rw[getElem!_pos (⟨l.toArray⟩:ByteArray) j this];show l.toArray[j]=l[j];simp
 have key:∀(n:Nat) (x y:List UInt8) (j:Nat),a.drop j=x->b.drop j=y->j<=a.length->j<=b.length->min x.length y.length=n->
   (match (List.range' j n).find? (fun i=>(⟨a.toArray⟩:ByteArray)[i]! != (⟨b.toArray⟩:ByteArray)[i]!) with
    | some i=>if (⟨a.toArray⟩:ByteArray)[i]! < (⟨b.toArray⟩:ByteArray)[i]! then (-1:Int) else 1
    | none=>if a.length<b.length then -1 else if a.length > b.length then 1 else 0)=qbT x y:=by
  intro n
  induction n with
  | zero =>
   intro x y j hx hy ha hb hm;have la:x.length=a.length-j:=by rw[← hx];simp
   have lb:y.length=b.length-j:=by rw[← hy];simp
   cases x with
   | nil =>
    cases y with
    | nil =>
     simp at la lb;have:a.length=b.length:=by omega
     simp[qbT,this]
    | cons d ds =>
     simp at la lb;have:a.length<b.length:=by omega
     simp[qbT,this,qje]
   | cons c cs =>
    cases y with
    | nil =>
     simp at la lb;have h1:¬a.length<b.length:=by omega
     have h2:b.length<a.length:=by omega
     simp[qbT,h1,h2,qg3]
    | cons d ds=>simp at hm
  | succ n ih =>
   intro x y j hx hy ha hb hm;cases x with
   | nil=>simp at hm
   | cons c cs =>
    cases y with
    | nil=>simp at hm
    | cons d ds =>
     have la:j<a.length:=by have:=congrArg List.length hx;simp at this;omega
     have lb:j<b.length:=by have:=congrArg List.length hy;simp at this;omega
     have ec:a[j]=c:=by have:=List.drop_eq_getElem_cons la;rw[hx] at this;exact (List.cons.inj this).1.symm
     have ed:b[j]=d:=by have:=List.drop_eq_getElem_cons lb;rw[hy] at this;exact (List.cons.inj this).1.symm
     rw[List.range'_succ,List.find?_cons,hg a j la,hg b j lb,ec,ed]
     by_cases he:c=d
     ·subst he;simp only[bne_self_eq_false];refine (ih cs ds (j+1) (by rw[← List.drop_drop,hx];rfl) (by rw[← List.drop_drop,hy];rfl) (by omega) (by omega) (by simp at hm;omega)).trans ?_;simp[qbT,qbE]
     ·have h1:(c != d)=true:=by simpa using he
      simp only[h1];rw[hg a j la,hg b j lb,ec,ed]
      by_cases hlt:c<d
      ·simp[qbT,qbE,hlt,he]
      ·simp[qbT,qbE,hlt,he]
 have:=key (min a.length b.length) a b 0 rfl rfl (Nat.zero_le _) (Nat.zero_le _) rfl;rw[← this];unfold Extern.BytealgCompare.cmp;rw[List.range_eq_range',hs,hs];rfl
theorem qhW(h:qb1 P f Extern.BytealgCompare.compare)(a b:List UInt8):qp P f [.s a,.s b] (.i .i64 (qbT a b)):=by
 refine h.pure ?_;intro ρ args w ha;generalize hl:args.toList=l at ha;cases ha with
 | cons _ _ x xs hx hxs =>
  cases hxs with
  | cons _ _ y ys hy hys =>
   cases hys;cases hx;cases hy;obtain rfl:args = #[.string ⟨a.toArray⟩,.string ⟨b.toArray⟩]:=by cases args;simp_all
   refine⟨.int .i64 (qbT a b),?_,.i _ _⟩
   change Sem.run P (do
    let x ← Extern.Bytes.bytesOf (.string ⟨a.toArray⟩)
    let y ← Extern.Bytes.bytesOf (.string ⟨b.toArray⟩)
    pure (goInt (Extern.BytealgCompare.cmp x y))) w=_
   simp[Extern.Bytes.bytesOf,qiz,goInt]

end Go.Kc
end
section
namespace Go.Kc
variable [Cur]
variable {P:Program}
end Go.Kc
end
section
namespace Go.Kc
variable [Cur]
variable {P:Program} {h:Hp}

noncomputable def trP:List (Nat×Blk)->Tr Blk
 | []=>.leaf
 | p::l=>(trP l).set p.1 p.2
omit [Cur] in
theorem qcL:∀{l:List (Nat×Blk)} {b:Nat} {x:Blk},(trP l).get b=some x->(b,x) ∈ l
 | [],b,x,h=>by simp[trP] at h
 | p::l,b,x,h=>by
  simp only[trP,Tr.get_set] at h;split at h
  ·grind
  ·exact List.mem_cons_of_mem _ (qcL h)
noncomputable def qar(h:Hp):List (Nat×Blk)->Hp
 | []=>h
 | p::l=>qar (h.put p.1 .dead) l
omit [Cur] in
theorem qcB:∀{l:List (Nat×Blk)} {h:Hp},(qar h l).sz=h.sz
 | [],_=>rfl
 | _::l,h=>(qcB (l:=l)).trans rfl
omit [Cur] in
theorem qcA:∀{l:List (Nat×Blk)} {h:Hp},(qar h l).fl=h.fl
 | [],_=>rfl
 | _::l,h=>(qcA (l:=l)).trans rfl
omit [Cur] in
theorem qbz:∀{l:List (Nat×Blk)} {h:Hp} {b:Nat},(qar h l).tr.get b=if b ∈ l.map Prod.fst then some .dead else h.tr.get b
 | [],_,_=>by simp[qar]
 | p::l,h,b=>by
  simp only[qar];rw[qbz]
  by_cases h1:b ∈ l.map Prod.fst
  ·rw[if_pos h1,if_pos (by simp_all)]
  ·rw[if_neg h1];show (h.tr.set p.1 .dead).get b=_;rw[Tr.get_set]
   simp_all
omit [Cur] in
theorem qgV:qar h []=h:=rfl
omit [Cur] in
theorem qfb{b:Nat}{x:Blk}{l:List (Nat×Blk)}:qar h ((b,x)::l)=qar (h.put b .dead) l:=rfl
theorem Rel.sub{ρ:Ren}{B:Nat->Prop}{h h':Hp}{w:World}(r:Rel σ0 ρ B h w)(hs:h'.sz=h.sz)(hf:h'.fl=h.fl)(hg:∀b x,h'.tr.get b=some x->x≠.dead->h.tr.get b=some x):Rel σ0 ρ B h' w :=
 ⟨fun b L hb=>by rw[hs];exact r.dom b L hb,by grind[Rel.cells],by grind[Rel.maps],
  by grind[Rel.excl],by grind[Rel.exclm],
  fun b L e wf cs hb hx b' L' e' wf' af' cs' hb' hx'=>r.app b L e wf cs hb (by simp_all) b' L' e' wf' af' cs' hb' (by simp_all),fun b L hb hf'=>r.flr b L hb (by rw[← hf];omega),r.base,
  by grind[Rel.frz],by rw[hs];exact r.dn⟩
end Go.Kc
end
section
namespace Go.Kc
variable [Cur]
variable {P:Program} {env:Tr IFn} {ho:wZ}

inductive OkT (P:Program):Nat->Nat->Tr IFn->Prop where
 | leaf (a b:Nat):OkT P a b .leaf
 | no (a b:Nat) {l r:Tr IFn}:OkT P (2*a) (a+b) l->OkT P (2*a) (2*a+b) r->OkT P a b (.node none l r)
 | fn (a b:Nat) {i:IFn} {l r:Tr IFn}:zp P b i=true->OkT P (2*a) (a+b) l->OkT P (2*a) (2*a+b) r->OkT P a b (.node (some i) l r)

omit [Cur] in
theorem OkT.get{a b:Nat}{t:Tr IFn}(h:OkT P a b t):∀n i,t.get n=some i->zp P (a*n+b) i=true:=by
 induction h with
 | leaf=>intro n i h;simp at h
 | no a b hl hr ihl ihr =>
  intro n i h;cases n with
  | zero=>rw[Tr.get_node] at h;cases h
  | succ m =>
   rcases Nat.mod_two_eq_zero_or_one m with h0|h0
   ·obtain⟨j,rfl⟩:∃j,m=2*j:=⟨m / 2,by omega⟩
    rw[Tr.get_node] at h;simp only[h0,if_true,Nat.mul_div_cancel_left j (Nat.zero_lt_two)] at h;have:=ihl j i h;rwa [show 2*a*j+(a+b)=a*(2*j+1)+b from by rw[Nat.mul_add,Nat.mul_one,← Nat.mul_assoc,Nat.mul_comm a 2];omega] at this
   ·obtain⟨j,rfl⟩:∃j,m=2*j+1:=⟨m / 2,by omega⟩
    rw[Tr.get_node] at h;simp only[h0,Nat.one_ne_zero,if_false,show (2*j+1) / 2=j from by omega] at h
    have:=ihr j i h;rwa [show 2*a*j+(2*a+b)=a*(2*j+1+1)+b from by rw[Nat.mul_add,Nat.mul_add,Nat.mul_one,← Nat.mul_assoc,Nat.mul_comm a 2];omega] at this
 | fn a b hc hl hr ihl ihr =>
  intro n i h;cases n with
  | zero=>rw[Tr.get_node] at h;cases h;simpa using hc
  | succ m =>
   rcases Nat.mod_two_eq_zero_or_one m with h0|h0
   ·obtain⟨j,rfl⟩:∃j,m=2*j:=⟨m / 2,by omega⟩
    rw[Tr.get_node] at h;simp only[h0,if_true,Nat.mul_div_cancel_left j (Nat.zero_lt_two)] at h;have:=ihl j i h;rwa [show 2*a*j+(a+b)=a*(2*j+1)+b from by rw[Nat.mul_add,Nat.mul_one,← Nat.mul_assoc,Nat.mul_comm a 2];omega] at this
   ·obtain⟨j,rfl⟩:∃j,m=2*j+1:=⟨m / 2,by omega⟩
    rw[Tr.get_node] at h;simp only[h0,Nat.one_ne_zero,if_false,show (2*j+1) / 2=j from by omega] at h
    have:=ihr j i h;rwa [show 2*a*j+(2*a+b)=a*(2*j+1+1)+b from by rw[Nat.mul_add,Nat.mul_add,Nat.mul_one,← Nat.mul_assoc,Nat.mul_comm a 2];omega] at this

omit [Cur] in
theorem Kept.same{ρ ρ':Ren}{h h':Hp}{w w':World}(k:Kept ρ (low w.heap.size) h w ρ' h' w')(may:MemPlace->Prop):w.keptBut w' may:=by
 refine⟨k.io.1,k.io.2,fun i hi=>?_⟩
 have e:=k.pres i hi;rw[e];cases w.heap[i]? with
 | none=>rfl
 | some o=>cases o<;>simp
noncomputable def qgG(w:World):Nat->Option (Array Value):=fun k=>match w.heap[k]? with|some (.cells arr _ _)=>some arr|_=>none
omit [Cur] in
theorem qbv{w:World}{k:Nat}{arr:Array Value}:qgG w k=some arr↔∃ty fz,w.heap[k]?=some (.cells arr ty fz):=by
 show (match w.heap[k]? with|some (.cells arr _ _)=>some arr|_=>none)=some arr↔_
 cases w.heap[k]? with
 | none=>simp
 | some o=>cases o<;>simp
noncomputable def ice(w:World) [t:TabOk w]:Ren:=⟨fun _=>none,⟨qgG w,fun k a h=>qbv.2 (t.ok k a h)⟩,0⟩
omit [Cur] in
theorem qiY{w:World} [TabOk w]{k:Nat}{arr:Array Value}:(ice w).frz k=some arr↔∃ty fz,w.heap[k]?=some (.cells arr ty fz):=qbv
theorem Rel.ice(w:World) [TabOk w]:Rel σ0 (ice w) (low w.heap.size) H0 w :=
 ⟨(fun _ _ hb=>by cases hb),(fun _ _ _ _ _ _ hb=>by cases hb),(fun _ _ _ hb=>by cases hb),(fun _ _ _ _ _ hb=>by cases hb),(fun _ _ _ hb=>by cases hb),(fun _ _ _ _ _ hb=>by cases hb),(fun _ _ hb=>by cases hb),(fun _ h=>h),
  (fun k arr hk=>⟨qiY.1 hk,fun _ _ _ hb=>by cases hb⟩),⟨Nat.le_refl _,fun _ _ hb=>by cases hb⟩⟩
theorem qp.law{f:Nat}{vs:List AV}{args:Array Value}(hp:qp P f vs (.b true))(hc:qbn P f)(w:World) [TabOk w](ha:VRs σ0 (ice w) vs args.toList):Calls P f args w fun e w'=>e = .returned (.bool true)∧∀may,w.keptBut w' may:=by
 have h:=(hp H0 (fun v _=>v = .b true) rfl).2 (ice w) (low w.heap.size) w args (Rel.ice w) ha
 rcases h with⟨_,h⟩|⟨v,w',h,_⟩
 ·refine h.mono fun e w' hh=>?_
  obtain⟨v,v',h',ρ',rfl,rfl,hv,_,hk⟩:=hh;cases hv;exact⟨rfl,fun may=>hk.same may⟩
 ·obtain⟨fn,h1,h2,h3⟩:=hc;rw[xT h1 h2 h3] at h;cases h
omit [Cur] in
theorem qgg{f:Nat}{i:IFn}(hc:zp P f i=true):qbn P f:=by
 unfold zp at hc;split at hc<;>try (cases hc;done)
 rename_i fn hfn;simp only[Bool.and_eq_true,bne_iff_ne] at hc;obtain⟨⟨hname,hbody⟩,hres⟩:=hc;split at hbody<;>try (cases hbody;done)
 rename_i c hcb;exact⟨fn,hfn,hname,by rw[hcb];rfl⟩
end Go.Kc
end
