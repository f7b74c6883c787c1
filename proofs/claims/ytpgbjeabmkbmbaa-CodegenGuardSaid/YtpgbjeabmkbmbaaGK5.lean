/- Part 5 of the abstract machine and of the functions' walks. Conditions: with each theorem. -/
import Derived.Test.YtpgbjeabmkbmbaaGK4
set_option maxHeartbeats 4000000
set_option linter.unusedSectionVars false
set_option linter.unusedSimpArgs false
set_option linter.unusedVariables false
set_option linter.unnecessarySimpa false
set_option linter.defProp false
section
namespace Go.Kc
variable {P:Program} {n:Nat} {C:qU} {d:Bool} {Q:Tr AV->Hp->Prop} {t:Tr AV} {h:Hp} {k:AV->Hp->Prop}

def evA(v:AV)(k:AV->Prop):Prop:=k v
@[congr] theorem qwB {v v':AV} {k:AV->Prop} {mk:Prop} (_:qP=mk) (h:v=v'):evA v k=evA v' k:=by rw[h]
theorem qre{v:AV}{k:AV->Prop}:evA v k↔k v:=Iff.rfl
def evL(v:List AV)(k:List AV->Prop):Prop:=k v
@[congr] theorem qwF {v v':List AV} {k:List AV->Prop} {mk:Prop} (_:qP=mk) (h:v=v'):evL v k=evL v' k:=by rw[h]
theorem qrf{v:List AV}{k:List AV->Prop}:evL v k↔k v:=Iff.rfl
def evN(v:Nat)(k:Nat->Prop):Prop:=k v
@[congr] theorem qwG {v v':Nat} {k:Nat->Prop} {mk:Prop} (_:qP=mk) (h:v=v'):evN v k=evN v' k:=by rw[h]
theorem qrg{v:Nat}{k:Nat->Prop}:evN v k↔k v:=Iff.rfl
def evT(v:Bool)(k:Bool->Prop):Prop:=k v
@[congr] theorem qwI {v v':Bool} {k:Bool->Prop} {mk:Prop} (_:qP=mk) (h:v=v'):evT v k=evT v' k:=by rw[h]
theorem qrh{v:Bool}{k:Bool->Prop}:evT v k↔k v:=Iff.rfl
def evB(o:Option Blk)(k:Blk->Prop):Prop:=∃v,o=some v∧k v
@[congr] theorem qwC {o o':Option Blk} {k:Blk->Prop} {mk:Prop} (_:qP=mk) (h:o=o'):evB o k=evB o' k:=by rw[h]
theorem qow{v:Blk}{k:Blk->Prop}:evB (some v) k↔k v:=by simp[evB]
def ifK(c:Prop)(p:Prop):Prop:=c∧p
@[congr] theorem qwK {c c' p:Prop} {mk:Prop} (_:qP=mk) (h:c=c'):ifK c p=ifK c' p:=by rw[h]
theorem qj2{p:Prop}:ifK True p↔p:=by simp[ifK]
theorem qrA{c c' p:Prop}:ifK (c∧c') p↔ifK c (ifK c' p):=by simp[ifK,and_assoc]
theorem qmf{x:Bool}{p:Prop}:qf x p↔ifK (x=true) p:=qa _ _
theorem zX{n:Nat}{k:Nat->Prop}:qj n k↔evN n k:=by rw[qo];exact Iff.rfl
theorem qf1{n:Bool}{k:Bool->Prop}:qD n k↔evT n k:=by rw[qu];exact Iff.rfl
@[congr] theorem qrj {n:Nat} {k:Nat->Prop} {mk:Prop} (_:qP=mk):qj n k=qj n k:=rfl
@[congr] theorem qri {n:Bool} {k:Bool->Prop} {mk:Prop} (_:qP=mk):qD n k=qD n k:=rfl
@[congr] theorem qtu {n:Bool} {k:Prop} {mk:Prop} (_:qP=mk):qf n k=qf n k:=rfl
theorem qyv{x:Bool}{k:Bool->Prop}:unB (.b x) k↔k x:=Iff.rfl
theorem qsS{b o:Nat}{k:Nat->Nat->Prop}:unP (.ptr b o) k↔k b o:=Iff.rfl
theorem qyw{q:IntKind}{z:Int}{k:IntKind->Int->Prop}:unI (.i q z) k↔k q z:=Iff.rfl
theorem qyx{q:IntKind}{z:Int}{k:Nat->Prop}:unN (.i q z) k↔ifK (0<=z) (evN z.toNat k):=by
 cases z with
 | ofNat m=>exact⟨fun h=>⟨Int.natCast_nonneg m,h⟩,fun h=>h.2⟩
 | negSucc m=>exact⟨fun h=>h.elim,fun h=>absurd h.1 (by omega)⟩
@[congr] theorem qw2 {x:AV} {k:Bool->Prop} {mk:Prop} (_:qP=mk):unB x k=unB x k:=rfl
@[congr] theorem qw5 {x:AV} {k:Nat->Nat->Prop} {mk:Prop} (_:qP=mk):unP x k=unP x k:=rfl
@[congr] theorem qw3 {x:AV} {k:IntKind->Int->Prop} {mk:Prop} (_:qP=mk):unI x k=unI x k:=rfl
@[congr] theorem qw4 {x:AV} {k:Nat->Prop} {mk:Prop} (_:qP=mk):unN x k=unN x k:=rfl

section
variable {q q':IntKind} {n m:Int} {a c:List UInt8} {k:AV->Prop}
theorem qjQ{z:Int}:zU (qfX q z) (fun r=>k (.i q r))↔evA (.i q (q.wrap z)) k:=by
 rw[qR,qcx];exact Iff.rfl
theorem qqH:zH qt .lss (.i q n) (.i q m) k↔evA (.b (decide (n<m))) k:=by simp[zH,zC,qa,qb3,evA]
theorem qqF:zH qt .gtr (.i q n) (.i q m) k↔evA (.b (decide (m<n))) k:=by simp[zH,zC,qa,qb3,evA]
theorem qqE:zH qt .geq (.i q n) (.i q m) k↔evA (.b (decide (m<=n))) k:=by
 simp only[zH,zC,qa,qb3,qu,decide_true,true_and,evA];rw[← decide_not];simp
theorem qqG:zH qt .leq (.i q n) (.i q m) k↔evA (.b (decide (n<=m))) k:=by
 simp only[zH,zC,qa,qb3,qu,decide_true,true_and,evA];rw[← decide_not];simp
theorem qqD:zH qt .eql (.i q n) (.i q m) k↔evA (.b (decide (n=m))) k:=by
 simp only[zH,zC,qa,qd4,qu,decide_true,true_and,evA];rw[show (n==m)=decide (n=m) from by rw[Bool.eq_iff_iff];simp]
theorem qqJ:zH qt .neq (.i q n) (.i q m) k↔evA (.b (!decide (n=m))) k:=by
 simp only[zH,zC,qa,qd4,qu,decide_true,true_and,evA];rw[show (n==m)=decide (n=m) from by rw[Bool.eq_iff_iff];simp]
theorem qqA:zH qt .add (.i q n) (.i q m) k↔evA (.i q (q.wrap (n+m))) k:=by
 simp only[zH,zC,qa,qcx,qR,decide_true,true_and];exact Iff.rfl
theorem qqM:zH qt .sub (.i q n) (.i q m) k↔evA (.i q (q.wrap (n-m))) k:=by
 simp only[zH,zC,qa,qcx,qR,decide_true,true_and];exact Iff.rfl
theorem qqI:zH qt .mul (.i q n) (.i q m) k↔evA (.i q (q.wrap (n*m))) k:=by
 simp only[zH,zC,qa,qcx,qR,decide_true,true_and];exact Iff.rfl
def orI(q:IntKind)(x y:Int):Int:=q.wrap (BitVec.ofInt q.bits x ||| BitVec.ofInt q.bits y).toNat
def qdp(q:IntKind)(x y:Int):Int:=q.wrap (BitVec.ofInt q.bits x &&& BitVec.ofInt q.bits y).toNat
def qwp(q:IntKind)(x y:Int):Int:=q.wrap (BitVec.ofInt q.bits x ^^^ BitVec.ofInt q.bits y).toNat
def qua(q:IntKind)(x y:Int):Int:=q.wrap (BitVec.ofInt q.bits x &&& ~~~ (BitVec.ofInt q.bits y)).toNat
theorem qtV:zH qt .or (.i q n) (.i q m) k↔evA (.i q (orI q n m)) k:=by
 simp only[zH,zC,qa,qR,decide_true,true_and,orI,evA]
theorem qqB:zH qt .and (.i q n) (.i q m) k↔evA (.i q (qdp q n m)) k:=by
 simp only[zH,zC,qa,qR,decide_true,true_and,qdp,evA]
theorem qqN:zH qt .xor (.i q n) (.i q m) k↔evA (.i q (qwp q n m)) k:=by
 simp only[zH,zC,qa,qR,decide_true,true_and,qwp,evA]
theorem qqC:zH qt .andNot (.i q n) (.i q m) k↔evA (.i q (qua q n m)) k:=by
 simp only[zH,zC,qa,qR,decide_true,true_and,qua,evA]
def qp8(q:IntKind)(x m:Int):Int:=x.fdiv (2 ^ min m.toNat q.bits)
def qsE(q:IntKind)(x m:Int):Int:=q.wrap (x*2 ^ min m.toNat q.bits)
theorem qqL{q2:IntKind}:zH qt .shr (.i q n) (.i q2 m) k↔ifK (0<=m) (evA (.i q (qp8 q n m)) k):=by
 cases m with
 | ofNat m =>
  show qj (min m q.bits) (fun a=>zU (n.fdiv (p2 a)) (fun r=>k (.i q r)))↔_
  rw[qo,qR,qlS];exact⟨fun h=>⟨Int.natCast_nonneg m,h⟩,fun h=>h.2⟩
 | negSucc m=>exact⟨fun h=>h.elim,fun h=>absurd h.1 (by omega)⟩
theorem qqK{q2:IntKind}:zH qt .shl (.i q n) (.i q2 m) k↔ifK (0<=m) (evA (.i q (qsE q n m)) k):=by
 cases m with
 | ofNat m =>
  show qj (min m q.bits) (fun a=>zU (q.wrap (n*p2 a)) (fun r=>k (.i q r)))↔_
  rw[qo,qR,qlS];exact⟨fun h=>⟨Int.natCast_nonneg m,h⟩,fun h=>h.2⟩
 | negSucc m=>exact⟨fun h=>h.elim,fun h=>absurd h.1 (by omega)⟩
theorem qhe(x y:Int):eqI x y=decide (x=y):=by rw[qd4,Bool.eq_iff_iff];simp
theorem zr(h:m≠0):zH qt .quo (.i q n) (.i q m) k↔evA (.i q (q.wrap (n.tdiv m))) k:=by
 simp only[zH,zC,qa,qcx,qR,decide_true,true_and,qhe,decide_eq_false h];exact Iff.rfl
theorem xl(h:m≠0):zH qt .rem (.i q n) (.i q m) k↔evA (.i q (n.tmod m)) k:=by
 simp only[zH,zC,qa,qR,decide_true,true_and,qhe,decide_eq_false h];exact Iff.rfl
theorem qnX:zH qt .eql (.s a) (.s c) k↔evA (.b (decide (a=c))) k:=by
 simp only[zH,qbn,qbc,qu,evA];rw[show (a==c)=decide (a=c) from by rw[Bool.eq_iff_iff];simp]
theorem qn2:zH qt .neq (.s a) (.s c) k↔evA (.b (!decide (a=c))) k:=by
 simp only[zH,qbn,qbc,qu,evA];rw[show (a==c)=decide (a=c) from by rw[Bool.eq_iff_iff];simp]
theorem qnW:zH qt .add (.s a) (.s c) k↔ifK (a.length+c.length<=9223372036854775807) (evA (.s (a++c)) k):=by
 show (Bool.rec (motive:=fun _=>Prop) False (k (.s (a++c))) (Nat.ble (a.length+c.length) 9223372036854775807):Prop)↔_
 rw[show (a.length+c.length<=9223372036854775807)=(Nat.ble (a.length+c.length) 9223372036854775807=true) from propext ⟨Nat.ble_eq_true_of_le,Nat.le_of_ble_eq_true⟩]
 cases Nat.ble (a.length+c.length) 9223372036854775807
 ·exact⟨False.elim,fun h=>by cases h.1⟩
 ·exact⟨fun h=>⟨rfl,h⟩,fun h=>h.2⟩
theorem qn1:zH qt .lss (.s a) (.s c) k↔evA (.b (ltS a c)) k:=by simp only[zH,qbn,qu,evA]
theorem qnY:zH qt .geq (.s a) (.s c) k↔evA (.b (!ltS a c)) k:=by simp only[zH,qbn,qu,evA]
theorem qn0:zH qt .leq (.s a) (.s c) k↔evA (.b (ltS a c||decide (a=c))) k:=by
 simp only[zH,qbn,qbc,qu,evA];rw[show (a==c)=decide (a=c) from by rw[Bool.eq_iff_iff];simp]
theorem qnZ:zH qt .gtr (.s a) (.s c) k↔evA (.b (!(ltS a c||decide (a=c)))) k:=by
 simp only[zH,qbn,qbc,qu,evA];rw[show (a==c)=decide (a=c) from by rw[Bool.eq_iff_iff];simp]
theorem qwi{x:Bool}:qcJ .not (.b x) k↔evA (.b (!x)) k:=by simp only[qcJ,qu,evA]
theorem qwh:qcJ .neg (.i q n) k↔evA (.i q (q.wrap (0-n))) k:=by simp only[qcJ,qR,evA]
theorem qv{x:Int}(h1:-9223372036854775808<=x)(h2:x<=9223372036854775807):IntKind.wrap .i64 x=x:=by
 simp[IntKind.wrap,IntKind.bits,IntKind.signed];omega
theorem qjn{x:Int}(h1:0<=x)(h2:x<=18446744073709551615):IntKind.wrap .u64 x=x:=by
 simp[IntKind.wrap,IntKind.bits,IntKind.signed];omega
theorem qdJ{x:Int}(h1:0<=x)(h2:x<=4294967295):IntKind.wrap .u32 x=x:=by
 simp[IntKind.wrap,IntKind.bits,IntKind.signed];omega
theorem qql{x:Int}(h1:0<=x)(h2:x<=255):IntKind.wrap .u8 x=x:=by
 simp[IntKind.wrap,IntKind.bits,IntKind.signed];omega
theorem qyW:cvK qt q (.i q' n) k↔evA (.i q (q.wrap n)) k:=by
 show zU (qfX q n) (fun r=>k (.i q r))↔_
 exact qjQ
end

theorem qu4{s f:Nat}{tr:Tr Blk}{x:Blk}{k:Nat->Hp->Prop}:xe ⟨s,f,tr⟩ x k↔evN (s+1) (fun s'=>k s ⟨s',f,tr.set s x⟩):=by
 rw[zo];exact Iff.rfl
theorem qvL{s f b:Nat}{tr:Tr Blk}{x:Blk}{k:Hp->Prop}:qao ⟨s,f,tr⟩ b x k↔ifK (f<=b) (k ⟨s,f,tr.set b x⟩):=xR _ _ _ _
theorem qtr{s f:Nat}{tr:Tr Blk}:Hp.up ⟨s,f,tr⟩=⟨s,s,tr⟩:=rfl
theorem qlx{s f f':Nat}{tr:Tr Blk}:Hp.down ⟨s,f,tr⟩ f'=⟨s,f',tr⟩:=rfl
def qaN(x:Blk)(k:Nat->Bool->Bool->List AV->Prop):Prop:=match x with | .cells e w a cs=>k e w a cs|_=>False
@[congr] theorem qqX {x x':Blk} {k:Nat->Bool->Bool->List AV->Prop} {mk:Prop} (_:qP=mk) (h:x=x'):qaN x k=qaN x' k:=by rw[h]
theorem qiF{e:Nat}{w a:Bool}{cs:List AV}{k:Nat->Bool->Bool->List AV->Prop}:qaN (.cells e w a cs) k↔k e w a cs:=Iff.rfl
theorem qen{b:Nat}{k:Nat->Bool->Bool->List AV->Prop}:qak h b k↔evB (h.tr.get b) (fun x=>qaN x k):=by
 rw[qM];constructor
 ·rintro⟨e,w,a,cs,h1,h2⟩;exact⟨_,h1,h2⟩
 ·rintro⟨x,h1,h2⟩;cases x with
  | cells e w a cs=>exact⟨e,w,a,cs,h1,h2⟩
  | dead=>exact h2.elim
  | map es=>exact h2.elim
def qdw(cs:List AV)(o n:Nat)(k:List AV->Prop):Prop:=o<=cs.length∧n<=(cs.drop o).length∧k ((cs.drop o).take n)
@[congr] theorem qud {cs:List AV} {o n:Nat} {k:List AV->Prop} {mk:Prop} (_:qP=mk):qdw cs o n k=qdw cs o n k:=rfl
theorem qq9{cs:List AV}{o n:Nat}{k:List AV->Prop}:qdw cs o n k↔ifK (o+n<=cs.length) (evL ((cs.drop o).take n) k):=by
 unfold qdw ifK;rw[List.length_drop];exact⟨fun⟨h1,h2,h3⟩=>⟨by omega,h3⟩,fun⟨h1,h2⟩=>⟨by omega,by omega,h2⟩⟩
theorem drop_take{cs:List AV}{o n:Nat}{k:List AV->Prop}:qbJ o cs (fun l=>qa6 n l k)↔qdw cs o n k:=by
 rw[qW,qN];exact Iff.rfl
theorem qo4{b o:Nat}{k:AV->Prop}:ldV h (.ptr b o) k↔evB (h.tr.get b) (fun x=>qaN x (fun _ _ _ cs=>evO cs[o]? k)):=by
 show qak h b (fun _ _ _ cs=>qe6 cs o k)↔_
 rw[qen]
 have:(fun (_:Nat) (_ _:Bool) (cs:List AV)=>qe6 cs o k)=fun _ _ _ cs=>evO cs[o]? k:=by
  funext _ _ _ cs;exact propext (zS _ _ _)
 rw[this]
theorem qx2{cs:List AV}{o:Nat}{k:AV->Prop}:ldV h (.pf cs o) k↔evO cs[o]? k:=zS _ _ _
theorem qx0{b o:Nat}{k:AV->Prop}:ldK h b o k↔evB (h.tr.get b) (fun x=>qaN x (fun _ _ _ cs=>evO cs[o]? k)):=qo4
theorem qo5{b o n:Nat}{k:List AV->Prop}:qbp h b o n k↔evB (h.tr.get b) (fun x=>qaN x (fun _ _ _ cs=>qdw cs o n k)):=by
 show qak h b (fun _ _ _ cs=>qbJ o cs (fun l=>qa6 n l k))↔_
 rw[qen];simp only[drop_take]
theorem qrK{b o n:Nat}{k:List AV->Prop}:qgI h (.ptr b o) n k↔evB (h.tr.get b) (fun x=>qaN x (fun _ _ _ cs=>qdw cs o n k)):=qo5
theorem quM{cs:List AV}{o n:Nat}{k:List AV->Prop}:qgI h (.pf cs o) n k↔qdw cs o n k:=drop_take
theorem qrT{b o n:Nat}{k:AV->Prop}:qe4 (.ptr b o) n k↔evN (o+n) (fun o'=>k (.ptr b o')):=zX (n:=o+n) (k:=fun o'=>k (.ptr b o'))
theorem qu1{cs:List AV}{o n:Nat}{k:AV->Prop}:qe4 (.pf cs o) n k↔evN (o+n) (fun o'=>k (.pf cs o')):=zX (n:=o+n) (k:=fun o'=>k (.pf cs o'))
@[congr] theorem qu0 {p:AV} {n:Nat} {k:AV->Prop} {mk:Prop} (_:qP=mk):qe4 p n k=qe4 p n k:=rfl
theorem qzB{b o:Nat}{vs:List AV}{k:Hp->Prop}:stK h b o vs k↔evB (h.tr.get b) (fun x=>qaN x (fun e w a cs=>ifK (w=true∧qB vs=true∧o+vs.length<=cs.length) (evL (cs.take o++(vs++cs.drop (o+vs.length))) (fun cs'=>qao h b (.cells e true a cs') k)))):=by
 show qak h b _↔_;rw[qen]
 have:(fun (e:Nat) (w a:Bool) (cs:List AV)=>(Bool.rec (motive:=fun _=>Prop) False (Bool.rec (motive:=fun _=>Prop) False (xp vs o cs (fun cs'=>qao h b (.cells e w a cs') k)) (qB vs)) w:Prop)) =
   fun e w a cs=>ifK (w=true∧qB vs=true∧o+vs.length<=cs.length) (evL (cs.take o++(vs++cs.drop (o+vs.length))) (fun cs'=>qao h b (.cells e true a cs') k)):=by
  funext e w a cs;refine propext ?_;cases w with
  | false=>exact⟨False.elim,fun hh=>by have:=hh.1.1;cases this⟩
  | true =>
   cases hc:qB vs with
   | false=>exact⟨False.elim,fun hh=>by have:=hh.1.2.1;cases this⟩
   | true=>exact (xq _ _ _ _).trans ⟨fun⟨h1,h2⟩=>⟨⟨rfl,rfl,h1⟩,h2⟩,fun⟨⟨_,_,h1⟩,h2⟩=>⟨h1,h2⟩⟩
 rw[this]
def stV(h:Hp)(b o:Nat)(v:AV)(n:Nat)(k:Hp->Prop):Prop:=qf (qb6 v) (qeG (cellsOf v) (fun m=>qf (Nat.beq m n) (stK h b o (cellsOf v) k)))
@[congr] theorem qw0 {b o:Nat} {v:AV} {n:Nat} {k:Hp->Prop} {mk:Prop} (_:qP=mk):stV h b o v n k=stV h b o v n k:=rfl
theorem qdr{x y:Nat}:Nat.beq x y=true↔x=y:=⟨Nat.eq_of_beq_eq_true,fun h=>h ▸ Nat.beq_refl x⟩
theorem qsM{b o:Nat}{v:AV}{n:Nat}{k:Hp->Prop}:stV h b o v n k↔ifK (qb6 v=true) (evL (cellsOf v) (fun cs=>ifK (cs.length=n) (stK h b o cs k))):=by
 unfold stV;rw[qa,xF,qa,qdr];exact Iff.rfl
theorem xm{x y:Nat}:Nat.ble x y=true↔x<=y:=⟨Nat.le_of_ble_eq_true,Nat.ble_eq_true_of_le⟩

theorem qvE{x:O}:opK qt (.mov x) t h k↔evK t x (fun v=>k v h):=Iff.rfl
theorem qcX{b:Bool}{p q:Prop}:(Bool.rec (motive:=fun _=>Prop) q p b:Prop)↔if b=true then p else q:=by cases b<;>simp
theorem qsd{c x y:O}:opK qt (.pick c x y) t h k↔evK t c (fun c=>unB c (fun c=>if c=true then evK t x (fun v=>k v h) else evK t y (fun v=>k v h))):=by
 show evK t c (fun c=>unB c (fun c=>Bool.rec (motive:=fun _=>Prop) (evK t y (fun v=>k v h)) (evK t x (fun v=>k v h)) c))↔_
 simp only[qcX]
theorem qpG{z:List AV}:opK qt (.alloc z) t h k↔xe h (.cells 0 true false z) (fun b h'=>k (.ptr b 0) h'):=Iff.rfl
theorem qvr{x:O}:opK qt (.box x) t h k↔evK t x (fun v=>qf (qb6 v) (evL (cellsOf v) (fun cs=>xe h (.cells 0 true false cs) (fun b h'=>k (.ptr b 0) h')))):=Iff.rfl
theorem qpH{z:List AV}{ps:List (Nat×Nat×O)}:opK qt (.build z ps) t h k↔qaf t ps z (fun cs=>k (.agg cs) h):=Iff.rfl
theorem qnf{n:Nat}{z:List AV}{ps:List (Nat×Nat×O)}:opK qt (.buildS n z ps) t h k↔evL (List.replicate n z).flatten (fun cs=>qaf t ps cs (fun cs=>xe h (.cells 0 true false cs) (fun b h'=>k (.sl b 0 n n false) h'))):=by
 show qfO z n _↔_;rw[xS];exact Iff.rfl
theorem qpM{x:O}:opK qt (.load1 x) t h k↔evK t x (fun p=>ldV h p (fun v=>k v h)):=Iff.rfl
theorem qpN{n:Nat}{x:O}:opK qt (.loadN n x) t h k↔evK t x (fun p=>qgI h p n (fun cs=>k (.agg cs) h)):=Iff.rfl
theorem qpQ{n:Nat}{x v:O}:opK qt (.store n x v) t h k↔evK t x (fun p=>unP p (fun b o=>evK t v (fun v=>stV h b o v n (fun h'=>k .undef h')))):=Iff.rfl
def qgA(v:AV)(k:AV->Prop):Prop:=match v with | .ptr b o=>k (.ptr b o) | .fn f a c=>k (.fn f a c) | .map r=>k (.map r) | .pf cs o=>k (.pf cs o) | .yl b=>k (.yl b)|_=>False
@[congr] theorem qtf {v:AV} {k:AV->Prop} {mk:Prop} (_:qP=mk):qgA v k=qgA v k:=rfl
theorem qni{x:O}:opK qt (.nilChk x) t h k↔evK t x (fun v=>qgA v (fun v=>k v h)):=by
 show evK t x (fun v=>_)↔_
 refine iff_of_eq (congrArg _ (funext fun v=>?_))
 cases v<;>rfl
theorem qvq{op:BinOp}{x y:O}:opK qt (.bin op x y) t h k↔evK t x (fun x=>evK t y (fun y=>zH qt op x y (fun v=>k v h))):=Iff.rfl
theorem qvu{neg:Bool}{x y:O}:opK qt (.eqB neg x y) t h k↔evK t x (fun x=>evK t y (fun y=>unB x (fun x=>unB y (fun y=>evT (xor neg (x==y)) (fun r=>k (.b r) h))))):=by
 show evK t x (fun x=>evK t y (fun y=>unB x (fun x=>unB y (fun y=>qD _ _))))↔_
 simp only[qf1]
theorem qvv{neg:Bool}{q:NK}{x:O}:opK qt (.eqN neg q x) t h k↔evK t x (fun x=>xr q x (fun r=>evT (xor neg r) (fun r=>k (.b r) h))):=by
 show evK t x (fun x=>xr q x (fun r=>qD _ _))↔_
 simp only[qf1]
theorem qvt{neg:Bool}{ks:List PK}{x y:O}:opK qt (.eqA neg ks x y) t h k↔evK t x (fun x=>evK t y (fun y=>match x with | .agg a=>(match y with | .agg c=>xA ks a c (fun r=>qD (xor neg r) (fun r=>k (.b r) h))|_=>False)|_=>False)):=Iff.rfl
theorem qyk{op:UnOp}{x:O}:opK qt (.un op x) t h k↔evK t x (fun x=>qcJ op x (fun v=>k v h)):=Iff.rfl
theorem qpJ{q:IntKind}{x:O}:opK qt (.cvInt q x) t h k↔evK t x (fun x=>cvK qt q x (fun v=>k v h)):=Iff.rfl
@[congr] theorem qwz {q:IntKind} {x:AV} {k:AV->Prop} {mk:Prop} (_:qP=mk):cvK qt q x k=cvK qt q x k:=rfl
theorem qpK{x:O}:opK qt (.cvStr x) t h k↔evK t x (fun x=>match x with | .s a=>k (.s a) h|_=>False):=Iff.rfl
theorem qvF{x:O}:opK qt (.s2b x) t h k↔evK t x (fun x=>match x with | .s a=>xe h (.cells 1 true true (a.map fun c=>.i .u8 (Int.ofNat c.toNat))) (fun b h'=>k (.own b a.length) h')|_=>False):=by
 show evK t x (fun x=>_)↔_
 refine iff_of_eq (congrArg _ (funext fun v=>?_))
 cases v<;>first|rfl|exact qo _ _
theorem qvp{x:O}:opK qt (.b2s x) t h k↔evK t x (fun x=>match x with
  | .nils=>k (.s []) h
  | .sl b o n _ _=>qbp h b o n (fun cs=>zK cs (fun l=>k (.s l) h))
  | .fz n cs=>qdw cs 0 n (fun cs=>zK cs (fun l=>k (.s l) h))
  | .e0=>k (.s []) h
  | .own b n=>qbp h b 0 n (fun cs=>zK cs (fun l=>k (.s l) h))
  | _=>False):=by
 show evK t x (fun x=>_)↔_
 refine iff_of_eq (congrArg _ (funext fun v=>?_))
 cases v<;>first|rfl|exact propext ((qN _ _ _).trans ⟨fun hh=>⟨Nat.zero_le _,by simpa using hh⟩,fun hh=>by simpa using hh.2⟩)
theorem qpL{off:Nat}{x:O}:opK qt (.fAddr off x) t h k↔evK t x (fun p=>qe4 p off (fun v=>k v h)):=Iff.rfl
def qoE(off:Nat)(n:Option Nat)(x:AV)(k:AV->Prop):Prop:=match x with
 | .agg cs=>(match n with|none=>evO cs[off]? k|some n=>qdw cs off n (fun l=>k (.agg l)))
 | _=>False
@[congr] theorem quw {off:Nat} {n:Option Nat} {x:AV} {k:AV->Prop} {mk:Prop} (_:qP=mk):qoE off n x k=qoE off n x k:=rfl
theorem qoF{off:Nat}{cs:List AV}{k:AV->Prop}:qoE off none (.agg cs) k↔evO cs[off]? k:=Iff.rfl
theorem qoG{off n:Nat}{cs:List AV}{k:AV->Prop}:qoE off (some n) (.agg cs) k↔qdw cs off n (fun l=>k (.agg l)):=Iff.rfl
theorem qvx{off:Nat}{n:Option Nat}{x:O}:opK qt (.fld off n x) t h k↔evK t x (fun x=>qoE off n x (fun v=>k v h)):=by
 show evK t x (fun x=>_)↔_
 refine iff_of_eq (congrArg _ (funext fun v=>?_))
 cases v<;>first|rfl|skip
 cases n with
 | none=>exact propext (zS _ _ _)
 | some n=>exact propext drop_take
theorem qng{len esz:Nat}{x i:O}:opK qt (.iAddrA len esz x i) t h k↔evK t x (fun p=>evK t i (fun i=>unN i (fun i=>ifK (i<len) (evN (i*esz) (fun o=>qe4 p o (fun v=>k v h)))))):=by
 show evK t x (fun p=>evK t i (fun i=>unN i (fun i=>qf (Nat.ble (Nat.succ i) len) _)))↔_
 simp only[qa,xm];exact Iff.rfl
def ixK(esz:Nat)(x:AV)(i:Nat)(k:AV->Prop):Prop:=match x with
 | .sl b o len _ _=>ifK (i<len) (evN (o+i*esz) (fun o'=>k (.ptr b o')))
 | .fz len cs=>ifK (i<len) (evN (i*esz) (fun o'=>k (.pf cs o')))
 | .own b len=>ifK (i<len) (evN (i*esz) (fun o'=>k (.ptr b o')))
 | _=>False
@[congr] theorem qwN {esz i:Nat} {x:AV} {k:AV->Prop} {mk:Prop} (_:qP=mk):ixK esz x i k=ixK esz x i k:=rfl
theorem qxX{esz i b o len cap:Nat}{l:Bool}{k:AV->Prop}:ixK esz (.sl b o len cap l) i k↔ifK (i<len) (evN (o+i*esz) (fun o'=>k (.ptr b o'))):=Iff.rfl
theorem qxW{esz i len:Nat}{cs:List AV}{k:AV->Prop}:ixK esz (.fz len cs) i k↔ifK (i<len) (evN (i*esz) (fun o'=>k (.pf cs o'))):=Iff.rfl
theorem quF{esz i b len:Nat}{k:AV->Prop}:ixK esz (.own b len) i k↔ifK (i<len) (evN (i*esz) (fun o'=>k (.ptr b o'))):=Iff.rfl
def qie(x:AV)(p:Prop):Prop:=match x with | .sl _ _ _ _ _=>p | .fz _ _=>p | .own _ _=>p|_=>False
@[congr] theorem qta {x:AV} {p:Prop} {mk:Prop} (_:qP=mk):qie x p=qie x p:=rfl
theorem qoY{b o len cap:Nat}{l:Bool}{p:Prop}:qie (.sl b o len cap l) p↔p:=Iff.rfl
theorem qoX{len:Nat}{cs:List AV}{p:Prop}:qie (.fz len cs) p↔p:=Iff.rfl
theorem qmV{b len:Nat}{p:Prop}:qie (.own b len) p↔p:=Iff.rfl
theorem qnh{esz:Nat}{x i:O}:opK qt (.iAddrS esz x i) t h k↔evK t x (fun x=>qie x (evK t i (fun i=>unN i (fun i=>ixK esz x i (fun v=>k v h))))):=by
 show evK t x (fun x=>_)↔_
 refine iff_of_eq (congrArg _ (funext fun v=>?_))
 cases v<;>first|rfl|(simp only[qa,xm,zX];rfl)
theorem qsb{len esz:Nat}{agg:Bool}{x i:O}:opK qt (.idxA len esz agg x i) t h k↔evK t x (fun x=>match x with
  | .agg cs=>evK t i (fun i=>unN i (fun i=>ifK (i<len) (evN (i*esz) (fun o=>if agg=true then qdw cs o esz (fun l=>k (.agg l) h) else evO cs[o]? (fun v=>k v h)))))
  | _=>False):=by
 show evK t x (fun x=>_)↔_
 refine iff_of_eq (congrArg _ (funext fun v=>?_))
 cases v<;>first|rfl|skip
 simp only[qa,xm,zX,qcX,drop_take];have:∀(cs:List AV) (o:Nat),qe6 cs o (fun v=>k v h)=evO cs[o]? (fun v=>k v h):=fun cs o=>propext (zS _ _ _)
 simp only[this];rfl
def evC(o:Option UInt8)(k:UInt8->Prop):Prop:=∃v,o=some v∧k v
@[congr] theorem qwD {o o':Option UInt8} {k:UInt8->Prop} {mk:Prop} (_:qP=mk) (h:o=o'):evC o k=evC o' k:=by rw[h]
theorem qjJ{v:UInt8}{k:UInt8->Prop}:evC (some v) k↔k v:=by simp[evC]
theorem qsc{x i:O}:opK qt (.idxS x i) t h k↔evK t x (fun x=>match x with
  | .s a=>evK t i (fun i=>unN i (fun i=>evC a[i]? (fun c=>k (.i .u8 (c.toNat:Int)) h)))
  | _=>False):=by
 show evK t x (fun x=>_)↔_
 refine iff_of_eq (congrArg _ (funext fun v=>?_))
 cases v<;>first|rfl|skip
 rename_i a
 have e:∀(j:Nat),(Option.rec (motive:=fun _=>Prop) False (fun c=>k (.i .u8 (Int.ofNat c.toNat)) h) (a[j]?):Prop)=evC a[j]? (fun c=>k (.i .u8 (c.toNat:Int)) h):=by
  intro j;cases ha:a[j]? with
  | none=>exact propext ⟨False.elim,fun⟨_,h1,_⟩=>by cases h1⟩
  | some c=>exact (propext (qjJ (k:=fun c=>k (.i .u8 (c.toNat:Int)) h) (v:=c))).symm
 simp only[e]
def bdK(x:Option AV)(dflt top:Nat)(k:Nat->Prop):Prop:=qeE x dflt top k
@[congr] theorem qws {x:Option AV} {a b:Nat} {k:Nat->Prop} {mk:Prop} (_:qP=mk):bdK x a b k=bdK x a b k:=rfl
theorem qqx{a b:Nat}{k:Nat->Prop}:bdK none a b k↔k a:=Iff.rfl
theorem qqy{v:AV}{a b:Nat}{k:Nat->Prop}:bdK (some v) a b k↔unN v (fun n=>ifK (n<=b) (k n)):=by
 show unN v (fun n=>qf (Nat.ble n b) (qj n k))↔_
 simp only[qa,xm,qo];exact Iff.rfl
theorem qqQ{len cap:Nat}{lo:Option AV}{k:Nat->Nat->Nat->Prop}:zq len cap lo none none k↔ifK (len<=cap) (bdK lo 0 len (fun l=>k l len cap)):=by
 show qf (Nat.ble len cap) (qeE lo 0 len (fun l=>k l len cap))↔_
 rw[qa,xm];exact Iff.rfl
theorem qqP{len cap:Nat}{lo:Option AV}{hi:AV}{k:Nat->Nat->Nat->Prop}:zq len cap lo (some hi) none k↔unN hi (fun u=>ifK (u<=cap) (bdK lo 0 u (fun l=>k l u cap))):=by
 show unN hi (fun u=>qf (Nat.ble u cap) (qj u (fun u=>qeE lo 0 u (fun l=>k l u cap))))↔_
 simp only[qa,xm,qo];exact Iff.rfl
theorem qqR{len cap:Nat}{lo:Option AV}{hi mx:AV}{k:Nat->Nat->Nat->Prop}:zq len cap lo (some hi) (some mx) k↔unN mx (fun m=>ifK (m<=cap) (unN hi (fun u=>ifK (u<=m) (bdK lo 0 u (fun l=>k l u m))))):=by
 show unN mx (fun m=>qf (Nat.ble m cap) (qj m (fun m=>unN hi (fun u=>qf (Nat.ble u m) (qj u (fun u=>qeE lo 0 u (fun l=>k l u m)))))))↔_
 simp only[qa,xm,qo];exact Iff.rfl
def slK(esz:Nat)(lo hi mx:Option AV)(x:AV)(h:Hp)(k:AV->Prop):Prop:=match x with
 | .nils=>zq 0 0 lo hi mx (fun _ _ _=>k .nils)
 | .e0=>zq 0 0 lo hi mx (fun _ _ _=>k .e0)
 | .fz n cs=>zq n n lo hi mx (fun l h' m=>if (mx.isSome&&Nat.beq m l)=true then k .e0 else evN (l*esz) (fun o=>evN (h'-l) (fun len'=>evN (len'*esz) (fun z=>qdw cs o z (fun l2=>k (.fz len' l2))))))
 | .sl b o len cap loose=>zq len cap lo hi mx (fun l h' m=>evN (if (loose&&mx.isNone)=false∧m=l then o else o+l*esz) (fun o'=>evN (h'-l) (fun len'=>evN (m-l) (fun cap'=>qgF h b esz (loose&&mx.isNone) (k (.sl b o' len' cap' (loose&&mx.isNone)))))))
 | .own b n=>match mx with
  | none=>if n=0 then zq 0 0 lo hi none (fun _ _ _=>k (.own b 0)) else zq n n lo hi none (fun l h' m=>evN (l*esz) (fun o'=>evN (h'-l) (fun len'=>evN (m-l) (fun cap'=>qgF h b esz true (k (.sl b o' len' cap' true))))))
  | some u=>if n=0 then zq 0 0 lo hi (some u) (fun _ _ _=>k (.own b 0)) else zq n n lo hi (some u) (fun l h' m=>evN (if m=l then 0 else l*esz) (fun o'=>evN (h'-l) (fun len'=>evN (m-l) (fun cap'=>k (.sl b o' len' cap' false)))))
 | _=>False
@[congr] theorem qwY {esz:Nat} {lo hi mx:Option AV} {x:AV} {k:AV->Prop} {mk:Prop} (_:qP=mk):slK esz lo hi mx x h k=slK esz lo hi mx x h k:=rfl
@[congr] theorem quq {b esz:Nat} {c:Bool} {p:Prop} {mk:Prop} (_:qP=mk):qgF h b esz c p=qgF h b esz c p:=rfl
theorem qmJ{b esz:Nat}{p:Prop}:qgF h b esz false p↔p:=Iff.rfl
theorem qov{b esz:Nat}{p:Prop}:qgF h b esz true p↔evB (h.tr.get b) (fun x=>qaN x (fun e _ _ _=>ifK (e=esz) p)):=by
 show qak h b (fun e _ _ _=>qf (Nat.beq e esz) p)↔_
 rw[qen];simp only[qa,qdr];exact Iff.rfl
theorem qsH{esz:Nat}{lo hi mx:Option AV}{k:AV->Prop}:slK esz lo hi mx .nils h k↔zq 0 0 lo hi mx (fun _ _ _=>k .nils):=Iff.rfl
theorem qyp{esz:Nat}{lo hi mx:Option AV}{k:AV->Prop}:slK esz lo hi mx .e0 h k↔zq 0 0 lo hi mx (fun _ _ _=>k .e0):=Iff.rfl
theorem qyq{esz n:Nat}{cs:List AV}{lo hi:Option AV}{k:AV->Prop}:slK esz lo hi none (.fz n cs) h k↔zq n n lo hi none (fun l h' _=>evN (l*esz) (fun o=>evN (h'-l) (fun len'=>evN (len'*esz) (fun z=>qdw cs o z (fun l2=>k (.fz len' l2)))))):=by
 simp only[slK,Option.isSome_none,Bool.false_and,Bool.false_eq_true,if_false]
theorem qv2{esz b o len cap:Nat}{lo hi mx:Option AV}{k:AV->Prop}:slK esz lo hi mx (.sl b o len cap false) h k↔zq len cap lo hi mx (fun l1 h' m=>evN (if m=l1 then o else o+l1*esz) (fun o'=>evN (h'-l1) (fun len'=>evN (m-l1) (fun cap'=>k (.sl b o' len' cap' false))))):=by
 simp only[slK,Bool.false_and,true_and];exact Iff.rfl
theorem qv3{esz b o len cap:Nat}{lo hi:Option AV}{k:AV->Prop}:slK esz lo hi none (.sl b o len cap true) h k↔zq len cap lo hi none (fun l1 h' m=>evN (o+l1*esz) (fun o'=>evN (h'-l1) (fun len'=>evN (m-l1) (fun cap'=>qgF h b esz true (k (.sl b o' len' cap' true)))))):=by
 simp only[slK,Option.isNone_none,Bool.and_self,Bool.true_eq_false,false_and,if_false]
theorem qv1{esz b n:Nat}{lo hi:Option AV}{k:AV->Prop}:slK esz lo hi none (.own b n) h k↔if n=0 then zq 0 0 lo hi none (fun _ _ _=>k (.own b 0)) else zq n n lo hi none (fun l h' m=>evN (l*esz) (fun o'=>evN (h'-l) (fun len'=>evN (m-l) (fun cap'=>qgF h b esz true (k (.sl b o' len' cap' true)))))):=by
 exact Iff.rfl
theorem qsf{esz:Nat}{x:O}{lo hi mx:Option O}:opK qt (.slcS esz x lo hi mx) t h k↔evK t x (fun x=>qaG t lo (fun lo=>qaG t hi (fun hi=>qaG t mx (fun mx=>slK esz lo hi mx x h (fun v=>k v h))))):=by
 show evK t x (fun x=>_)↔_
 refine iff_of_eq (congrArg _ (funext fun v=>congrArg _ (funext fun lo=>congrArg _ (funext fun hi=>congrArg _ (funext fun mx=>?_)))))
 cases v<;>first|rfl|skip
 ·simp only[slK,zX];rfl
 ·have e:∀(cs:List AV) (o m:Nat),qbJ o cs (fun l1=>evN m (fun len'=>qa6 (Nat.mul len' esz) l1 (fun l2=>k (.fz len' l2) h)))=evN m (fun len'=>evN (len'*esz) (fun z=>qdw cs o z (fun l2=>k (.fz len' l2) h))):=by
   intro cs o m;refine propext ⟨fun hh=>?_,fun hh=>?_⟩
   ·obtain⟨h1,h2⟩:=(qW _ _ _).1 hh;obtain⟨h3,h4⟩:=(qN _ _ _).1 h2;exact⟨h1,h3,h4⟩
   ·obtain⟨h1,h3,h4⟩:=hh;exact (qW _ _ _).2 ⟨h1,(qN _ _ _).2 ⟨h3,h4⟩⟩
  simp only[slK,zX,qcX,e];rfl
 ·rename_i b n;cases mx with
  | some m =>
   cases n with
   | zero=>simp only[slK,if_true];rfl
   | succ n=>simp only[slK,Nat.succ_ne_zero,if_false,zX];rfl
  | none =>
   cases n with
   | zero=>simp only[slK,if_true];rfl
   | succ n=>simp only[slK,Nat.succ_ne_zero,if_false,zX];rfl
theorem qnk{x:O}{lo hi:Option O}:opK qt (.slcStr x lo hi) t h k↔evK t x (fun x=>qaG t lo (fun lo=>qaG t hi (fun hi=>match x with
  | .s a=>zq a.length a.length lo hi none (fun l h' _=>evA (.s ((a.take h').drop l)) (fun v=>k v h))
  | _=>False))):=Iff.rfl
theorem qse{len esz:Nat}{x:O}{lo hi mx:Option O}:opK qt (.slcA len esz x lo hi mx) t h k↔evK t x (fun p=>unP p (fun b o=>qaG t lo (fun lo=>qaG t hi (fun hi=>qaG t mx (fun mx =>
   zq len len lo hi mx (fun l h' m=>evN (if m=l then o else o+l*esz) (fun o'=>evN (h'-l) (fun len'=>evN (m-l) (fun cap'=>k (.sl b o' len' cap' false) h))))))))):=by
 show evK t x (fun p=>unP p (fun b o=>qaG t lo (fun lo=>qaG t hi (fun hi=>qaG t mx (fun mx=>zq len len lo hi mx (fun l h' m=>qj (if m=l then o else Nat.add o (Nat.mul l esz)) _))))))↔_
 simp only[zX];exact Iff.rfl
theorem qvw{x:O}{i:Nat}:opK qt (.ext x i) t h k↔evK t x (fun x=>match x with | .tup cs=>evO cs[i]? (fun v=>k v h)|_=>False):=by
 show evK t x (fun x=>_)↔_
 refine iff_of_eq (congrArg _ (funext fun v=>?_))
 cases v<;>first|rfl|exact propext (zS _ _ _)
theorem qvB{f:Nat}{a c:List O}:opK qt (.mkF f a c) t h k↔qaj t a (fun a=>qaj t c (fun c=>k (.fn f a c) h)):=Iff.rfl
theorem qvD{e bytes:Nat}{z:List AV}{len cap:O}:opK qt (.mkS e bytes z len cap) t h k↔evK t len (fun len=>evK t cap (fun cap=>unN len (fun l=>unN cap (fun c=>ifK (l<=c) (ifK (c<=qe) (ifK (bytes*c<=qe) (evL (List.replicate c z).flatten (fun cs=>xe h (.cells 0 true false cs) (fun b h'=>k (.sl b 0 l c false) h'))))))))):=by
 show evK t len (fun len=>evK t cap (fun cap=>unN len (fun l=>unN cap (fun c=>qf (Nat.ble l c) (qf (Nat.ble c qe) (qf (Nat.ble (Nat.mul bytes c) qe) (qfO z c _)))))))↔_
 simp only[qa,xm,xS];exact Iff.rfl
def lnK(str:Bool)(x:AV)(k:AV->Prop):Prop:=match x,str with
 | .nils,false=>k (.i .i64 0)
 | .e0,false=>k (.i .i64 0)
 | .nz,false=>k (.i .i64 0)
 | .fz n _,false=>evA (.i .i64 (n:Int)) k
 | .own _ n,false=>evA (.i .i64 (n:Int)) k
 | .sl _ _ n _ _,false=>evA (.i .i64 (n:Int)) k
 | .s a,true=>evA (.i .i64 (a.length:Int)) k
 | _,_=>False
@[congr] theorem qwR {b:Bool} {x:AV} {k:AV->Prop} {mk:Prop} (_:qP=mk):lnK b x k=lnK b x k:=rfl
theorem qvy{str:Bool}{x:O}:opK qt (.len str x) t h k↔evK t x (fun x=>lnK str x (fun v=>k v h)):=by
 show evK t x (fun x=>_)↔_
 refine iff_of_eq (congrArg _ (funext fun v=>?_))
 cases v<;>cases str<;>first|rfl|exact qo _ _
theorem qrP{k:AV->Prop}:lnK false .nils k↔k (.i .i64 0):=Iff.rfl
theorem qx5{k:AV->Prop}:lnK false .nz k↔k (.i .i64 0):=Iff.rfl
theorem qx3{k:AV->Prop}:lnK false .e0 k↔k (.i .i64 0):=Iff.rfl
theorem qx4{n:Nat}{cs:List AV}{k:AV->Prop}:lnK false (.fz n cs) k↔evA (.i .i64 (n:Int)) k:=Iff.rfl
theorem quR{b n:Nat}{k:AV->Prop}:lnK false (.own b n) k↔evA (.i .i64 (n:Int)) k:=Iff.rfl
theorem qx6{b o n c:Nat}{l:Bool}{k:AV->Prop}:lnK false (.sl b o n c l) k↔evA (.i .i64 (n:Int)) k:=Iff.rfl
theorem qy8{a:List UInt8}{k:AV->Prop}:lnK true (.s a) k↔evA (.i .i64 (a.length:Int)) k:=Iff.rfl
theorem qvo{esz bytes:Nat}{c:Bool}{s x:O}:opK qt (.app esz bytes c s x) t h k↔evK t s (fun s=>evK t x (fun x=>qdR h esz bytes c s x k)):=Iff.rfl
theorem qr8{esz bytes:Nat}{s x:O}:opK qt (.appF esz bytes s x) t h k↔evK t s (fun s=>evK t x (fun x=>qdR h esz bytes true s x k)):=Iff.rfl
def qkM(esz bytes:Nat)(z:List AV)(h:Hp)(s:AV)(n:Nat)(k:AV->Hp->Prop):Prop:=match s with
  | .sl b o len cap false=>evN (len+n) (fun need=>ifK (cap<need) (ifK (need<=qe) (ifK (need*bytes<=qe) (evN (len*esz) (fun m=>qbp h b o m (fun old=>evL (old++(List.replicate n z).flatten) (fun cs=>xe h (.cells esz true true cs) (fun b' h'=>k (.own b' need) h'))))))))
  | .nils=>ifK (1<=n) (ifK (n<=qe) (ifK (n*bytes<=qe) (evL ((List.replicate n z).flatten) (fun cs=>xe h (.cells esz true true cs) (fun b' h'=>k (.own b' n) h')))))
  | _=>False
@[congr] theorem qtO {esz bytes n:Nat} {z:List AV} {s:AV} {mk:Prop} (_:qP=mk):qkM esz bytes z h s n k=qkM esz bytes z h s n k:=rfl
theorem qtP{esz bytes b o len cap n:Nat}{z:List AV}:qkM esz bytes z h (.sl b o len cap false) n k↔evN (len+n) (fun need=>ifK (cap<need) (ifK (need<=qe) (ifK (need*bytes<=qe) (evN (len*esz) (fun m=>qbp h b o m (fun old=>evL (old++(List.replicate n z).flatten) (fun cs=>xe h (.cells esz true true cs) (fun b' h'=>k (.own b' need) h')))))))):=Iff.rfl
theorem qnS{esz bytes n:Nat}{z:List AV}:qkM esz bytes z h .nils n k↔ifK (1<=n) (ifK (n<=qe) (ifK (n*bytes<=qe) (evL ((List.replicate n z).flatten) (fun cs=>xe h (.cells esz true true cs) (fun b' h'=>k (.own b' n) h'))))):=Iff.rfl
theorem qr9{esz bytes:Nat}{z:List AV}{s x:O}:opK qt (.appZ esz bytes z s x) t h k↔evK t s (fun s=>evK t x (fun x=>unN x (fun n=>qkM esz bytes z h s n k))):=by
 show evK t s (fun s=>evK t x (fun x=>unN x (fun n=>_)))↔_
 refine iff_of_eq (congrArg _ (funext fun v=>congrArg _ (funext fun x=>congrArg _ (funext fun n=>propext ?_))))
 cases v<;>first|exact Iff.rfl|skip
 ·simp only[qkM,qa,xm,xS,ifK,evL];rfl
 rename_i b o len cap loose;cases loose with
 | true=>exact⟨fun hh=>absurd ((qa (!true) _).1 hh).1 (by simp),False.elim⟩
 | false =>
  simp only[qkM,qa,xm,xS,xz,Bool.not_false,true_and,evN,ifK,evL];rfl
theorem qsa{esz:Nat}{s x:O}:opK qt (.copy esz s x) t h k↔evK t s (fun s=>evK t x (fun x=>qgn h esz s x k)):=Iff.rfl
theorem qmG{esz:Nat}{s:AV}:qgn h esz .nils s k↔qbm h esz s (fun _ _=>k (.i .i64 0) h):=Iff.rfl
theorem qq7{esz b o len c:Nat}{l:Bool}{s:AV}:qgn h esz (.sl b o len c l) s k↔qbm h esz s (fun n new=>evN (min n len) (fun m=>evN (m*esz) (fun z=>qdw new 0 z (fun cs=>stK h b o cs (fun h'=>evA (.i .i64 (m:Int)) (fun v=>k v h')))))):=by
 show qbm h esz s (fun n new=>qj (min n len) (fun m=>qa6 (Nat.mul m esz) new (fun cs=>stK h b o cs (fun h'=>k (.i .i64 (Int.ofNat m)) h'))))↔_
 simp only[zX];refine iff_of_eq (congrArg _ (funext fun n=>funext fun new=>congrArg _ (funext fun m=>propext ?_)))
 exact (qN _ _ _).trans ⟨fun hh=>⟨Nat.zero_le _,by simpa[evA] using hh⟩,fun hh=>by simpa[evN,qdw,evA] using hh⟩
theorem qvA{x y:O}:opK qt (.min x y) t h k↔evK t x (fun x=>evK t y (fun y=>unI x (fun q n=>unI y (fun _ m=>evA (.i q (if m<n then m else n)) (fun v=>k v h))))):=by
 have e:∀(q:IntKind) (n m:Int),(Bool.rec (motive:=fun _=>Prop) (k (.i q n) h) (k (.i q m) h) (ltI m n):Prop)=evA (.i q (if m<n then m else n)) (fun v=>k v h):=by
  intro q n m;rw[qb3]
  by_cases hlt:m<n
  ·rw[decide_eq_true hlt,if_pos hlt];rfl
  ·rw[decide_eq_false hlt,if_neg hlt];rfl
 show evK t x (fun x=>evK t y (fun y=>unI x (fun q n=>unI y (fun _ m=>Bool.rec (motive:=fun _=>Prop) (k (.i q n) h) (k (.i q m) h) (ltI m n)))))↔_
 simp only[e]
theorem qvz{x y:O}:opK qt (.max x y) t h k↔evK t x (fun x=>evK t y (fun y=>unI x (fun q n=>unI y (fun _ m=>evA (.i q (if n<m then m else n)) (fun v=>k v h))))):=by
 have e:∀(q:IntKind) (n m:Int),(Bool.rec (motive:=fun _=>Prop) (k (.i q n) h) (k (.i q m) h) (ltI n m):Prop)=evA (.i q (if n<m then m else n)) (fun v=>k v h):=by
  intro q n m;rw[qb3]
  by_cases hlt:n<m
  ·rw[decide_eq_true hlt,if_pos hlt];rfl
  ·rw[decide_eq_false hlt,if_neg hlt];rfl
 show evK t x (fun x=>evK t y (fun y=>unI x (fun q n=>unI y (fun _ m=>Bool.rec (motive:=fun _=>Prop) (k (.i q n) h) (k (.i q m) h) (ltI n m)))))↔_
 simp only[e]
def qkR(z:List AV)(x:AV)(h:Hp)(k:AV->Hp->Prop):Prop:=match x with
  | .nils=>k (.tup []) h
  | .sl b o n _ _=>if n=0 then k (.tup []) h else evL (List.replicate n z).flatten (fun cs=>stK h b o cs (fun h'=>k (.tup []) h'))
  | _=>False
@[congr] theorem qub {z:List AV} {x:AV} {mk:Prop} (_:qP=mk):qkR z x h k=qkR z x h k:=rfl
theorem qok{z:List AV}:qkR z .nils h k↔k (.tup []) h:=Iff.rfl
theorem quc{z:List AV}{b o n c:Nat}{l:Bool}:qkR z (.sl b o n c l) h k↔if n=0 then k (.tup []) h else evL (List.replicate n z).flatten (fun cs=>stK h b o cs (fun h'=>k (.tup []) h')):=Iff.rfl
theorem qpI{z:List AV}{x:O}:opK qt (.clear z x) t h k↔evK t x (fun x=>qkR z x h k):=by
 show evK t x (fun x=>_)↔_
 refine iff_of_eq (congrArg _ (funext fun v=>?_))
 cases v<;>first|rfl|skip
 rename_i b o n c l;cases n with
 | zero=>simp only[qkR,if_true];rfl
 | succ n=>simp only[qkR,xS];rfl
theorem qvC:opK qt .mkM t h k↔xe h (.map []) (fun b h'=>k (.map b) h'):=Iff.rfl
theorem qnl{n:Nat}{x v:O}{ps:List Nat}:opK qt (.storeD n x v ps) t h k↔evK t x (fun p=>unP p (fun b o=>zZ t b ps (evK t v (fun v=>stV h b o v n (fun h'=>k .undef h'))))):=Iff.rfl
theorem qr7{esz bytes:Nat}{s x:O}{ps:List Nat}:opK qt (.appD esz bytes s x ps) t h k↔evK t s (fun s=>evK t x (fun x=>qaT t ps s (qdR h esz bytes true s x k))):=Iff.rfl
@[congr] theorem qsA {ps:List Nat} {s s':AV} {p:Prop} {mk:Prop} (_:qP=mk) (h':s=s'):qaT t ps s p=qaT t ps s' p:=by rw[h']
theorem qsB{ps:List Nat}{b m:Nat}{p:Prop}:qaT t ps (.own b m) p↔zZ t b ps p:=Iff.rfl
theorem qvY{ps:List Nat}{b o m c:Nat}{l:Bool}{p:Prop}:qaT t ps (.sl b o m c l) p↔zZ t b ps p:=Iff.rfl
theorem qvX{ps:List Nat}{m:Nat}{cs:List AV}{p:Prop}:qaT t ps (.fz m cs) p↔p:=Iff.rfl
theorem qp5{ps:List Nat}{p:Prop}:qaT t ps .nils p↔p:=Iff.rfl
theorem qvW{ps:List Nat}{p:Prop}:qaT t ps .e0 p↔p:=Iff.rfl
@[congr] theorem qqu {b:Nat} {ps:List Nat} {p:Prop} {mk:Prop} (_:qP=mk):zZ t b ps p=zZ t b ps p:=rfl
theorem qmn{b:Nat}{p:Prop}:zZ t b [] p↔p:=Iff.rfl
def neK(b:Nat)(y:AV)(p:Prop):Prop:=match y with | .ptr b' _=>ifK (¬b'=b) p | .pf _ _=>p|_=>False
@[congr] theorem qwT {b:Nat} {y:AV} {p:Prop} {mk:Prop} (_:qP=mk):neK b y p=neK b y p:=rfl
theorem qu2{b b' o:Nat}{p:Prop}:neK b (.ptr b' o) p↔ifK (¬b'=b) p:=Iff.rfl
theorem qx8{b o:Nat}{cs:List AV}{p:Prop}:neK b (.pf cs o) p↔p:=Iff.rfl
theorem qkI{b q:Nat}{ps:List Nat}{p:Prop}:zZ t b (q::ps) p↔evO (t.get q) (fun y=>neK b y (zZ t b ps p)):=by
 refine (Tr.getK_iff _ _ _).trans (iff_of_eq (congrArg _ (funext fun v=>?_)))
 refine congrArg _ ?_;cases v<;>first|rfl|skip
 rename_i b' o;refine propext ((qa _ _).trans ?_);show _∧_↔_∧_
 have:(!Nat.beq b' b)=true↔¬b'=b:=by
  rw[Bool.not_eq_true',← Bool.not_eq_true,qdr]
 rw[this];exact Iff.rfl
def cpK(x:AV)(k:AV->Prop):Prop:=match x with
  | .nils=>k (.i .i64 0)
  | .e0=>k (.i .i64 0)
  | .sl _ _ _ c false=>evA (.i .i64 (c:Int)) k
  | _=>False
@[congr] theorem qwx {x:AV} {k:AV->Prop} {mk:Prop} (_:qP=mk):cpK x k=cpK x k:=rfl
theorem qvs{x:O}:opK qt (.cap x) t h k↔evK t x (fun x=>cpK x (fun v=>k v h)):=by
 show evK t x (fun x=>_)↔_
 refine iff_of_eq (congrArg _ (funext fun v=>?_))
 cases v<;>first|rfl|skip
 rename_i l;cases l<;>rfl
theorem qq8{k:AV->Prop}:cpK .nils k↔k (.i .i64 0):=Iff.rfl
theorem qxC{k:AV->Prop}:cpK .e0 k↔k (.i .i64 0):=Iff.rfl
theorem qxD{b o n c:Nat}{k:AV->Prop}:cpK (.sl b o n c false) k↔evA (.i .i64 (c:Int)) k:=Iff.rfl
theorem qoB{l:List AV}{k:List AV->Prop}:qaf t [] l k↔k l:=Iff.rfl
theorem qmN{off m:Nat}{x:O}{ps:List (Nat×Nat×O)}{l:List AV}{k:List AV->Prop}:qaf t ((off,m,x)::ps) l k↔evK t x (fun v=>ifK (qb6 v=true) (evL (cellsOf v) (fun cs=>ifK (cs.length=m∧off+cs.length<=l.length) (evL (l.take off++(cs++l.drop (off+cs.length))) (fun l=>qaf t ps l k))))):=by
 show evK t x (fun v=>qf (qb6 v) (qj off (fun off=>qeG (cellsOf v) (fun n=>qf (Nat.beq n m) (xp (cellsOf v) off l (fun l'=>qaf t ps l' k))))))↔_
 simp only[qa,qo,xF,xq,qdr,ifK,evL,and_assoc]
theorem qp9{esz:Nat}{k:Nat->List AV->Prop}:qbm h esz .nils k↔k 0 []:=Iff.rfl
theorem qv7{esz:Nat}{k:Nat->List AV->Prop}:qbm h esz .nz k↔k 0 []:=Iff.rfl
theorem qv5{esz:Nat}{k:Nat->List AV->Prop}:qbm h esz .e0 k↔k 0 []:=Iff.rfl
theorem qv8{esz b o n c:Nat}{l:Bool}{k:Nat->List AV->Prop}:qbm h esz (.sl b o n c l) k↔evN (n*esz) (fun m=>qbp h b o m (fun cs=>k n cs)):=Iff.rfl
theorem qsK{esz b n:Nat}{k:Nat->List AV->Prop}:qbm h esz (.own b n) k↔evN (n*esz) (fun m=>qbp h b 0 m (fun cs=>k n cs)):=Iff.rfl
theorem qv6{esz n:Nat}{cs:List AV}{k:Nat->List AV->Prop}:qbm h esz (.fz n cs) k↔evN (n*esz) (fun m=>qdw cs 0 m (fun cs=>k n cs)):=by
 refine (qN _ _ _).trans ⟨fun hh=>⟨Nat.zero_le _,by simpa using hh⟩,fun hh=>by simpa[evN,qdw] using hh⟩
theorem qyr{esz:Nat}{a:List UInt8}{k:Nat->List AV->Prop}:qbm h esz (.s a) k↔ifK (esz=1) (k a.length (a.map fun c=>.i .u8 (Int.ofNat c.toNat))):=by
 show qf (Nat.beq esz 1) (qj a.length _)↔_;rw[qa,qdr,qo];exact Iff.rfl
theorem qnR{esz bytes:Nat}{c:Bool}{x:AV}:qdR h esz bytes c .nils x k↔qbm h esz x (fun n new=>ifK (n<=qe) (ifK (n*bytes<=qe) (xe h (.cells esz true true new) (fun b h'=>k (.own b n) h')))):=by
 show qbm h esz x (fun n new=>qf (Nat.ble n qe) (qf (Nat.ble (Nat.mul n bytes) qe) _))↔_
 simp only[qa,xm];exact Iff.rfl
theorem qtL{esz bytes:Nat}{c:Bool}{x:AV}:qdR h esz bytes c .e0 x k↔qbm h esz x (fun n new=>ifK (n<=qe) (ifK (n*bytes<=qe) (xe h (.cells esz true true new) (fun b h'=>k (.own b n) h')))):=by
 show qbm h esz x (fun n new=>qf (Nat.ble n qe) (qf (Nat.ble (Nat.mul n bytes) qe) _))↔_
 simp only[qa,xm];exact Iff.rfl
theorem qqw{esz bytes b m:Nat}{x:AV}:qdR h esz bytes true (.own b m) x k↔qbm h esz x (fun n new=>evN (m+n) (fun need=>ifK (need<=qe) (ifK (need*bytes<=qe) (evB (h.tr.get b) (fun y=>qaN y (fun e w a ys =>
  ifK (qB new=true∧w=true∧a=true∧e=esz∧ys.length=m*esz) (evL (ys++new) (fun cs'=>qao h b .dead (fun h1=>xe h1 (.cells esz true true cs') (fun b' h'=>k (.own b' need) h')))))))))):=by
 show qbm h esz x (fun n new=>qj (Nat.add m n) (fun need=>qf (Nat.ble need qe) (qf (Nat.ble (Nat.mul need bytes) qe) (qak h b (fun e w a ys=>_)))))↔_
 simp only[zX,qa,xm,qdr,qen,xF,xz];refine iff_of_eq (congrArg _ (funext fun n=>funext fun new=>?_))
 simp only[ifK,evN,evL,and_assoc];rfl
theorem qtN{esz bytes b o len cap:Nat}{c:Bool}{x:AV}:qdR h esz bytes c (.sl b o len cap false) x k↔qbm h esz x (fun n new=>evN (len+n) (fun need=>if need<=cap then
  (if n=0 then k (.sl b o need cap false) h else evN (o+len*esz) (fun at_=>stK h b at_ new (fun h'=>k (.sl b o need cap false) h')))
  else ifK (need<=qe) (ifK (need*bytes<=qe) (evN (len*esz) (fun m=>qbp h b o m (fun old=>evL (old++new) (fun cs=>xe h (.cells esz true true cs) (fun b' h'=>k (.own b' need) h')))))))):=by
 have e:∀(n:Nat) (p q:Prop),(Nat.rec (motive:=fun _=>Prop) p (fun _ _=>q) n:Prop)↔if n=0 then p else q:=by
  intro n p q;cases n with
  | zero=>rw[if_pos rfl];exact Iff.rfl
  | succ n=>rw[if_neg (Nat.succ_ne_zero n)]
 unfold qdR;dsimp only;simp only[Bool.not_false,zX,qmf,xm,qcX,xz,e,qj2];exact Iff.rfl
theorem qtM{esz bytes m:Nat}{c:Bool}{cs:List AV}{x:AV}:qdR h esz bytes c (.fz m cs) x k↔qbm h esz x (fun n _=>ifK (n=0) (k (.fz m cs) h)):=by
 show qbm h esz x (fun n _=>Nat.rec (motive:=fun _=>Prop) (k (.fz m cs) h) (fun _ _=>False) n)↔_
 refine iff_of_eq (congrArg _ (funext fun n=>funext fun new=>?_))
 cases n<;>simp[ifK];rfl
theorem qpz{k:Bool->Prop}:xr .ptr .nilp k↔k true:=Iff.rfl
theorem qrX{b o:Nat}{k:Bool->Prop}:xr .ptr (.ptr b o) k↔k false:=Iff.rfl
theorem qu8{cs:List AV}{o:Nat}{k:Bool->Prop}:xr .ptr (.pf cs o) k↔k false:=Iff.rfl
theorem qu7{k:Bool->Prop}:xr .slice .nz k↔k false:=Iff.rfl
theorem qpA{k:Bool->Prop}:xr .slice .nils k↔k true:=Iff.rfl
theorem qu9{b o n c:Nat}{l:Bool}{k:Bool->Prop}:xr .slice (.sl b o n c l) k↔k false:=Iff.rfl
theorem qu6{n:Nat}{cs:List AV}{k:Bool->Prop}:xr .slice (.fz n cs) k↔ifK (1<=n) (k false):=by
 show qf (Nat.ble 1 n) (k false)↔_;rw[qa,xm];exact Iff.rfl
theorem qrW{b n:Nat}{k:Bool->Prop}:xr .slice (.own b n) k↔ifK (1<=n) (k false):=by
 show qf (Nat.ble 1 n) (k false)↔_;rw[qa,xm];exact Iff.rfl
theorem qpx{k:Bool->Prop}:xr .func .nilf k↔k true:=Iff.rfl
theorem qu5{f:Nat}{a c:List AV}{k:Bool->Prop}:xr .func (.fn f a c) k↔k false:=Iff.rfl
theorem qpy{k:Bool->Prop}:xr .iface .nili k↔k true:=Iff.rfl
theorem qrV{t:Nat}{v:AV}{k:Bool->Prop}:xr .iface (.ifc t v) k↔k false:=Iff.rfl
theorem qrb{x y:List AV}{k:Bool->Prop}:xA [] x y k↔k true:=Iff.rfl
theorem qot{q:PK}{qs:List PK}{u v:AV}{us vs:List AV}{k:Bool->Prop}:xA (q::qs) (u::us) (v::vs) k↔xH q u v (fun e=>if e=true then xA qs us vs k else k false):=by
 show xH q u v (fun e=>Bool.rec (motive:=fun _=>Prop) (k false) (xA qs us vs k) e)↔_
 simp only[qcX]
@[congr] theorem qqm {q:PK} {x y:AV} {k:Bool->Prop} {mk:Prop} (_:qP=mk):xH q x y k=xH q x y k:=rfl
theorem qyZ{q:IntKind}{n m:Int}{k:Bool->Prop}:xH .i (.i q n) (.i q m) k↔evT (decide (n=m)) k:=by
 show qf (decide (q=q)) (qD (eqI n m) k)↔_;rw[qa,qhe,qu];simp[evT]
theorem qy0{a c:List UInt8}{k:Bool->Prop}:xH .s (.s a) (.s c) k↔evT (decide (a=c)) k:=by
 show qD (eqS a c) k↔_;rw[qu,qbc,show (a==c)=decide (a=c) from by rw[Bool.eq_iff_iff];simp];exact Iff.rfl
theorem qyY{a c:Bool}{k:Bool->Prop}:xH .b (.b a) (.b c) k↔evT (a==c) k:=by
 show qD (a==c) k↔_;rw[qu];exact Iff.rfl
theorem qop{rs:List RV}{k:AV->Hp->Prop}:qcm rs k .ret t h↔qaH t h rs (fun vs=>k (qay vs) h):=Iff.rfl
theorem qjI{rs:List RV}{k:AV->Hp->Prop}:qcm rs k .normal t h↔qaH t h rs (fun vs=>k (qay vs) h):=Iff.rfl
@[congr] theorem qvS {rs:List RV} {k:List AV->Prop} {mk:Prop} (_:qP=mk):qaH t h rs k=qaH t h rs k:=rfl
theorem qsv{k:List AV->Prop}:qaH t h [] k↔k []:=Iff.rfl
theorem qsw{n:Nat}{rs:List RV}{k:List AV->Prop}:qaH t h (.tmp n::rs) k↔evO (t.get n) (fun v=>qaH t h rs (fun vs=>k (v::vs))):=Tr.getK_iff _ _ _
theorem qp0{n size:Nat}{agg:Bool}{rs:List RV}{k:List AV->Prop}:qaH t h (.cell n size agg::rs) k↔evO (t.get n) (fun v=>unP v (fun b o=>if agg=true then qbp h b o size (fun cs=>qaH t h rs (fun vs=>k (.agg cs::vs))) else ldK h b o (fun v=>qaH t h rs (fun vs=>k (v::vs))))):=by
 refine (Tr.getK_iff _ _ _).trans (iff_of_eq (congrArg _ (funext fun v=>congrArg _ ?_)))
 cases v<;>first|rfl|skip
 cases agg<;>rfl
end Go.Kc
end
section
namespace Go.Kc
variable {P:Program} {n:Nat} {t:Tr AV} {h:Hp} {k:AV->Hp->Prop}

section
variable {r:Nat->Nat} {m:Nat} {v v':AV} {vs vs':List AV}
theorem qpC:NV r m v .undef↔True:=iff_true_intro (.undef _)
theorem qzc{x y:Bool}:NV r m (.b x) (.b y)↔x=y:=⟨fun h=>by cases h;rfl,fun h=>by subst h;exact .clo _ rfl⟩
theorem qzd{q q':IntKind}{x y:Int}:NV r m (.i q x) (.i q' y)↔q=q'∧x=y:=⟨fun h=>by cases h;exact⟨rfl,rfl⟩,fun⟨h,h'⟩=>by subst h h';exact .clo _ rfl⟩
theorem qze{x y:List UInt8}:NV r m (.s x) (.s y)↔x=y:=⟨fun h=>by cases h;rfl,fun h=>by subst h;exact .clo _ rfl⟩
theorem qr1:NV r m .nilp .nilp↔True:=iff_true_intro (.clo _ rfl)
theorem qr2:NV r m .nils .nils↔True:=iff_true_intro (.clo _ rfl)
theorem qrY:NV r m .nilf .nilf↔True:=iff_true_intro (.clo _ rfl)
theorem qrZ:NV r m .nili .nili↔True:=iff_true_intro (.clo _ rfl)
theorem qr0:NV r m .nilm .nilm↔True:=iff_true_intro (.clo _ rfl)
theorem qyb:NV r m .e0 .e0↔True:=iff_true_intro (.clo _ rfl)
theorem qye:NV r m .nz .nz↔True:=iff_true_intro (.clo _ rfl)
theorem qvc{x:Nat}{cs:List AV}:NV r m .e0 (.fz x cs)↔x=0∧cs=[]:=⟨fun h=>by cases h;exact⟨rfl,rfl⟩,fun⟨h,h'⟩=>by subst h h';exact .e0z⟩
theorem qpB{b' x':Nat}:NV r m .e0 (.own b' x')↔b'<m∧x'=0:=⟨fun h=>by
  cases h with
  | e0own _ h1=>exact⟨h1,rfl⟩,fun⟨h1,h2⟩=>by subst h2;exact .e0own _ h1⟩
theorem qvh{b b' o x c x':Nat}{l:Bool}:NV r m (.sl b o x c l) (.own b' x')↔b'<m∧x=0∧c=0∧l=false∧x'=0:=⟨fun h=>by
  cases h with
  | slz _ _ _ h1=>exact⟨h1,rfl,rfl,rfl,rfl⟩,fun⟨h1,h2,h3,h4,h5⟩=>by subst h2 h3 h4 h5;exact .slz _ _ _ h1⟩
theorem qyd{x y:Nat}{cs ds:List AV}:NV r m (.fz x cs) (.fz y ds)↔x=y∧cs=ds:=⟨fun h=>by cases h;exact⟨rfl,rfl⟩,fun⟨h,h'⟩=>by subst h h';exact .clo _ rfl⟩
theorem qyf{x y:Nat}{cs ds:List AV}:NV r m (.pf cs x) (.pf ds y)↔cs=ds∧x=y:=⟨fun h=>by cases h;exact⟨rfl,rfl⟩,fun⟨h,h'⟩=>by subst h h';exact .clo _ rfl⟩
theorem qr3{x:Nat}{cs:List AV}:NV r m .nils (.fz x cs)↔x=0∧cs=[]:=⟨fun h=>by cases h;exact⟨rfl,rfl⟩,fun⟨h,h'⟩=>by subst h h';exact .nilz⟩
theorem qvg{b b' o o':Nat}:NV r m (.ptr b o) (.ptr b' o')↔r b'=b∧b'<m∧o=o':=⟨fun h=>by
  cases h with
  | clo _ hc=>cases hc
  | ptr _ _ _ h1 h2=>exact⟨h1,h2,rfl⟩,fun⟨h1,h2,h3⟩=>by subst h3;exact .ptr _ _ _ h1 h2⟩
theorem qyg{b b' o o' x x' c c':Nat}{l l':Bool}:NV r m (.sl b o x c l) (.sl b' o' x' c' l')↔r b'=b∧b'<m∧o=o'∧x=x'∧c=c'∧l=l':=⟨fun h=>by
  cases h with
  | clo _ hc=>cases hc
  | sl _ _ _ _ _ _ h1 h2=>exact⟨h1,h2,rfl,rfl,rfl,rfl⟩,fun⟨h1,h2,h3,h4,h5,h6⟩=>by subst h3 h4 h5 h6;exact .sl _ _ _ _ _ _ h1 h2⟩
theorem qvf{b b' x x':Nat}:NV r m (.own b x) (.own b' x')↔r b'=b∧b'<m∧x=x':=⟨fun h=>by
  cases h with
  | clo _ hc=>cases hc
  | own _ _ _ h1 h2=>exact⟨h1,h2,rfl⟩,fun⟨h1,h2,h3⟩=>by subst h3;exact .own _ _ _ h1 h2⟩
theorem qne{b' x':Nat}:NV r m .nils (.own b' x')↔b'<m∧x'=0:=⟨fun h=>by
  cases h with
  | nilown _ h1=>exact⟨h1,rfl⟩,fun⟨h1,h2⟩=>by subst h2;exact .nilown _ h1⟩
theorem qve{b b':Nat}:NV r m (.map b) (.map b')↔r b'=b∧b'<m:=⟨fun h=>by
  cases h with
  | clo _ hc=>cases hc
  | map _ _ h1 h2=>exact⟨h1,h2⟩,fun⟨h1,h2⟩=>.map _ _ h1 h2⟩
theorem qyh{b b':Nat}:NV r m (.yl b) (.yl b')↔r b'=b∧b'<m:=⟨fun h=>by
  cases h with
  | clo _ hc=>cases hc
  | yl _ _ h1 h2=>exact⟨h1,h2⟩,fun⟨h1,h2⟩=>.yl _ _ h1 h2⟩
theorem qr4:NVs r m [] []↔True:=iff_true_intro .nil
theorem qpD:NVs r m (v::vs) (v'::vs')↔NV r m v v'∧NVs r m vs vs':=⟨fun h=>by
  cases h with
  | cons _ _ _ _ h1 h2=>exact⟨h1,h2⟩,fun h=>.cons _ _ _ _ h.1 h.2⟩
theorem qvb{cs cs':List AV}:NV r m (.agg cs) (.agg cs')↔NVs r m cs cs':=⟨fun h=>by
  cases h with
  | clo _ hc=>exact NVs.refl (by simpa[clo] using hc)
  | agg _ _ h1=>exact h1,fun h=>.agg _ _ h⟩
theorem qvi{cs cs':List AV}:NV r m (.tup cs) (.tup cs')↔NVs r m cs cs':=⟨fun h=>by
  cases h with
  | clo _ hc=>exact NVs.refl (by simpa[clo] using hc)
  | tup _ _ h1=>exact h1,fun h=>.tup _ _ h⟩
theorem qyc{f f':Nat}{a a' c c':List AV}:NV r m (.fn f a c) (.fn f' a' c')↔f=f'∧NVs r m a a'∧NVs r m c c':=⟨fun h=>by
  cases h with
  | clo _ hc =>
   simp only[clo,Bool.and_eq_true] at hc;exact⟨rfl,NVs.refl hc.1,NVs.refl hc.2⟩
  | fn _ _ _ _ _ h1 h2=>exact⟨rfl,h1,h2⟩,fun⟨h1,h2,h3⟩=>by subst h1;exact .fn _ _ _ _ _ h2 h3⟩
theorem qvd{f f':Nat}:NV r m (.ifc f v) (.ifc f' v')↔f=f'∧NV r m v v':=⟨fun h=>by
  cases h with
  | clo _ hc=>exact⟨rfl,.clo _ (by simpa[clo] using hc)⟩
  | ifc _ _ _ h1=>exact⟨rfl,h1⟩,fun⟨h1,h2⟩=>by subst h1;exact .ifc _ _ _ h2⟩
theorem qsR:TWs t r m []↔True:=Iff.rfl
theorem qqg{p:Nat×AV}{l:List (Nat×AV)}:TWs t r m (p::l)↔evO (t.get p.1) (fun v=>NV r m v p.2)∧TWs t r m l:=Iff.rfl
theorem qqT:BWs h r m [] []↔True:=Iff.rfl
theorem qn5{b:Nat}{x:Blk}{bs:List Nat}{xs:List Blk}:BWs h r m (b::bs) (x::xs)↔BW h r m b x∧BWs h r m bs xs:=Iff.rfl
theorem qtY{b:Nat}{x:Blk}(hb:h.sz<=b):BW h r m b x↔True:=iff_true_intro (.inl hb)
theorem qqS{b:Nat}:BW h r m b .dead↔True:=iff_true_intro (.inr (.inl rfl))
theorem qtZ{b e:Nat}{w a:Bool}{cs':List AV}(hb:b<h.sz):BW h r m b (.cells e w a cs')↔evB (h.tr.get b) (fun x=>qaN x (fun e0 w0 a0 cs=>e0=e∧(w=true->w0=true)∧(a=true->a0=true)∧NVs r m cs cs')):=by
 constructor
 ·rintro (h1|h1|⟨e',w0,a0,cs,w',a',cs'',h1,h2,h3,h4,h5⟩|⟨es,es',h1,h2,h3⟩)
  ·omega
  ·cases h1
  ·cases h2;exact⟨_,h1,rfl,h3,h4,h5⟩
  ·cases h2
 ·rintro⟨x,h1,h2⟩;cases x with
  | cells e0 w0 a0 cs =>
   obtain⟨rfl,h3,h4,h5⟩:=h2;exact .inr (.inr (.inl ⟨_,w0,a0,cs,w,a,cs',h1,rfl,h3,h4,h5⟩))
  | dead=>exact h2.elim
  | map es=>exact h2.elim
end
theorem qzz{b d:Nat}{l:List Nat}:rl (b::l) d 0=b:=rfl
theorem qzA{b d i:Nat}{l:List Nat}:rl (b::l) d (i+1)=rl l d i:=rfl

section
variable {v v':AV} {vs vs':List AV}
theorem qoK:Frz h v .undef↔True:=iff_true_intro (.undef _)
theorem qy2{x y:Bool}:Frz h (.b x) (.b y)↔x=y:=⟨fun h=>by cases h;rfl,fun h=>by subst h;exact .b _⟩
theorem qy3{q q':IntKind}{x y:Int}:Frz h (.i q x) (.i q' y)↔q=q'∧x=y:=⟨fun h=>by cases h;exact⟨rfl,rfl⟩,fun⟨h,h'⟩=>by subst h h';exact .i _ _⟩
theorem qy4{x y:List UInt8}:Frz h (.s x) (.s y)↔x=y:=⟨fun h=>by cases h;rfl,fun h=>by subst h;exact .s _⟩
theorem qrn:Frz h .nilp .nilp↔True:=iff_true_intro .nilp
theorem qro:Frz h .nils .nils↔True:=iff_true_intro .nils
theorem qrk:Frz h .nilf .nilf↔True:=iff_true_intro .nilf
theorem qrl:Frz h .nili .nili↔True:=iff_true_intro .nili
theorem qrm:Frz h .nilm .nilm↔True:=iff_true_intro .nilm
theorem qxL:Frz h .e0 .e0↔True:=iff_true_intro .e0
theorem qxN:Frz h .nz .nz↔True:=iff_true_intro .nz
theorem quz{x:Nat}{cs:List AV}:Frz h .e0 (.fz x cs)↔x=0∧cs=[]:=⟨fun h=>by cases h;exact⟨rfl,rfl⟩,fun⟨h,h'⟩=>by subst h h';exact .e0z⟩
theorem qxM{x y:Nat}{cs ds:List AV}:Frz h (.fz x cs) (.fz y ds)↔x=y∧cs=ds:=⟨fun h=>by cases h;exact⟨rfl,rfl⟩,fun⟨h,h'⟩=>by subst h h';exact .fz _ _⟩
theorem qxO{x y:Nat}{cs ds:List AV}:Frz h (.pf cs x) (.pf ds y)↔cs=ds∧x=y:=⟨fun h=>by cases h;exact⟨rfl,rfl⟩,fun⟨h,h'⟩=>by subst h h';exact .pf _ _⟩
theorem qrp{x:Nat}{cs:List AV}:Frz h .nils (.fz x cs)↔x=0∧cs=[]:=⟨fun h=>by cases h;exact⟨rfl,rfl⟩,fun⟨h,h'⟩=>by subst h h';exact .nilz⟩
theorem qeq:Frzs h [] []↔True:=iff_true_intro .nil
theorem qco:Frzs h (v::vs) (v'::vs')↔Frz h v v'∧Frzs h vs vs':=⟨fun h=>by
  cases h with
  | cons _ _ _ _ h1 h2=>exact⟨h1,h2⟩,fun h=>.cons _ _ _ _ h.1 h.2⟩
theorem quy{cs cs':List AV}:Frz h (.agg cs) (.agg cs')↔Frzs h cs cs':=⟨fun h=>by cases h;assumption,fun h=>.agg _ _ h⟩
theorem quB{cs cs':List AV}:Frz h (.tup cs) (.tup cs')↔Frzs h cs cs':=⟨fun h=>by cases h;assumption,fun h=>.tup _ _ h⟩
theorem qoL{f f':Nat}{a a' c c':List AV}:Frz h (.fn f a c) (.fn f' a' c')↔f=f'∧Frzs h a a'∧Frzs h c c':=⟨fun h=>by
  cases h with
  | fn _ _ _ _ _ h1 h2=>exact⟨rfl,h1,h2⟩,fun⟨h1,h2,h3⟩=>by subst h1;exact .fn _ _ _ _ _ h2 h3⟩
theorem quA{f f':Nat}:Frz h (.ifc f v) (.ifc f' v')↔f=f'∧Frz h v v':=⟨fun h=>by
  cases h with
  | ifc _ _ _ h1=>exact⟨rfl,h1⟩,fun⟨h1,h2⟩=>by subst h1;exact .ifc _ _ _ h2⟩
theorem qoI{b x y:Nat}{cs':List AV}:Frz h (.own b x) (.fz y cs')↔x=y∧evB (h.tr.get b) (fun z=>qaN z (fun _ w _ ys=>w=true∧(x=0->ys=[])∧Frzs h ys cs')):=by
 constructor
 ·intro hh;cases hh with
  | own _ _ e af ys _ hb h0 h1=>exact⟨rfl,_,hb,rfl,h0,h1⟩
 ·rintro⟨rfl,z,h1,h2⟩;cases z with
  | cells e w af ys =>
   obtain⟨rfl,h3,h4⟩:=h2;exact .own _ _ e af ys _ h1 h3 h4
  | dead=>exact h2.elim
  | map es=>exact h2.elim
theorem qoJ{b x y:Nat}{cs':List AV}:Frz h (.ptr b x) (.pf cs' y)↔x=y∧evB (h.tr.get b) (fun z=>qaN z (fun _ w _ ys=>w=true∧Frzs h ys cs')):=by
 constructor
 ·intro hh;cases hh with
  | ptr _ _ e af ys _ hb h1=>exact⟨rfl,_,hb,rfl,h1⟩
 ·rintro⟨rfl,z,h1,h2⟩;cases z with
  | cells e w af ys =>
   obtain⟨rfl,h4⟩:=h2;exact .ptr _ _ e af ys _ h1 h4
  | dead=>exact h2.elim
  | map es=>exact h2.elim
theorem Frz.cut{b o x c:Nat}{l:Bool}{y:Nat}{cs':List AV}(esz:Nat)(hx:x=y)(hc:x<=c)(hg:evB (h.tr.get b) (fun z=>qaN z (fun _ w _ cs=>w=true∧o+x*esz<=cs.length∧Frzs h ((cs.drop o).take (x*esz)) cs'))):Frz h (.sl b o x c l) (.fz y cs'):=by
 subst hx;obtain⟨z,h1,h2⟩:=hg;cases z with
 | cells e w af cs =>
  obtain⟨rfl,h3,h4⟩:=h2;exact .sl _ _ _ _ _ e af cs (x*esz) _ h1 hc h3 (fun hh=>by rw[hh] at hc;simp[Nat.le_zero.1 hc]) h4
 | dead=>exact h2.elim
 | map es=>exact h2.elim
end
mutual
theorem Frz.self:∀{v:AV},clo v=true->Frz h v v
 | .undef,_=>.undef _
 | .b _,_=>.b _
 | .i _ _,_=>.i _ _
 | .s _,_=>.s _
 | .nilp,_=>.nilp
 | .ptr _ _,hc=>by simp[clo] at hc
 | .nils,_=>.nils
 | .sl _ _ _ _ _,hc=>by simp[clo] at hc
 | .nilf,_=>.nilf
 | .fn _ _ _,hc=>by
  simp only[clo,Bool.and_eq_true] at hc;exact .fn _ _ _ _ _ (Frzs.self hc.1) (Frzs.self hc.2)
 | .nili,_=>.nili
 | .ifc _ _,hc=>.ifc _ _ _ (Frz.self (by simpa[clo] using hc))
 | .agg _,hc=>.agg _ _ (Frzs.self (by simpa[clo] using hc))
 | .tup _,hc=>.tup _ _ (Frzs.self (by simpa[clo] using hc))
 | .nilm,_=>.nilm
 | .map _,hc=>by simp[clo] at hc
 | .fz _ _,_=>.fz _ _
 | .pf _ _,_=>.pf _ _
 | .e0,_=>.e0
 | .nz,_=>.nz
 | .own _ _,hc=>by simp[clo] at hc
 | .sym _,hc=>by simp[clo] at hc
 | .yl _,hc=>by simp[clo] at hc
 | .lp _,hc=>by simp[clo] at hc
theorem Frzs.self:∀{vs:List AV},qF vs=true->Frzs h vs vs
 | [],_=>.nil
 | v::vs,hc=>by
  simp only[qF,Bool.and_eq_true] at hc;exact .cons _ _ _ _ (Frz.self hc.1) (Frzs.self hc.2)
end

@[congr] theorem quH {kd:Option IntKind} {i:AV} {p:Prop} {mk:Prop} (_:qP=mk):qgH qt kd i p=qgH qt kd i p:=rfl
@[congr] theorem quT {b:Nat} {k:List (AV×AV)->Prop} {mk:Prop} (_:qP=mk):qfE h b k=qfE h b k:=rfl
@[congr] theorem qrB {es:List (AV×AV)} {p:Prop} {mk:Prop} (_:qP=mk):qcS es p=qcS es p:=rfl
theorem qxZ{a:List UInt8}{p:Prop}:qgH qt none (.s a) p↔p:=Iff.rfl
theorem qxY{q:IntKind}{z:Int}{p:Prop}:qgH qt (some q) (.i q z) p↔p:=by
 show qf (decide (q=q)) p↔p;rw[qa];simp
theorem qmW{p:Prop}:qcS [] p↔p:=Iff.rfl
theorem qrE{a:List UInt8}{v:AV}{es:List (AV×AV)}{p:Prop}:qcS ((.s a,v)::es) p↔p:=Iff.rfl
theorem qrD{q:IntKind}{z:Int}{v:AV}{es:List (AV×AV)}{p:Prop}:qcS ((.i q z,v)::es) p↔p:=Iff.rfl
def qkg(x:Blk)(k:List (AV×AV)->Prop):Prop:=match x with | .map es=>k es|_=>False
@[congr] theorem qte {x x':Blk} {k:List (AV×AV)->Prop} {mk:Prop} (_:qP=mk) (h:x=x'):qkg x k=qkg x' k:=by rw[h]
theorem qim{es:List (AV×AV)}{k:List (AV×AV)->Prop}:qkg (.map es) k↔k es:=Iff.rfl
theorem qx7{b:Nat}{k:List (AV×AV)->Prop}:qfE h b k↔evB (h.tr.get b) (fun x=>qkg x (fun es=>qcS es (k es))):=by
 unfold qfE;refine (Tr.getK_iff _ _ _).trans (iff_of_eq (congrArg _ (funext fun x=>congrArg _ ?_)))
 cases x<;>rfl
theorem qjL{i:AV}{k:Option AV->Prop}:qbM qt i [] k↔k none:=Iff.rfl
theorem quv{i a:List UInt8}{v:AV}{es:List (AV×AV)}{k:Option AV->Prop}:qbM qt (.s i) ((.s a,v)::es) k↔if i=a then k (some v) else qbM qt (.s i) es k:=by
 show qD (eqS i a) (fun r=>Bool.rec (motive:=fun _=>Prop) (qbM qt (.s i) es k) (k (some v)) r)↔_
 rw[qu,qcX,qbc];simp
theorem qoD{q:IntKind}{i a:Int}{v:AV}{es:List (AV×AV)}{k:Option AV->Prop}:qbM qt (.i q i) ((.i q a,v)::es) k↔if i=a then k (some v) else qbM qt (.i q i) es k:=by
 show qf (decide (q=q)) (qD (eqI i a) (fun r=>Bool.rec (motive:=fun _=>Prop) (qbM qt (.i q i) es k) (k (some v)) r))↔_
 rw[qa,qu,qcX,qhe];simp
theorem qme{i v:AV}{k:List (AV×AV)->Prop}:qej qt i v [] k↔k [(i,v)]:=Iff.rfl
theorem qyA{i a:List UInt8}{u v:AV}{es:List (AV×AV)}{k:List (AV×AV)->Prop}:qej qt (.s i) u ((.s a,v)::es) k↔if i=a then k ((.s i,u)::es) else qej qt (.s i) u es (fun l=>k ((.s a,v)::l)):=by
 show qD (eqS i a) (fun r=>Bool.rec (motive:=fun _=>Prop) (qej qt (.s i) u es (fun l=>k ((.s a,v)::l))) (k ((.s i,u)::es)) r)↔_
 rw[qu,qcX,qbc];simp
theorem qtt{q:IntKind}{i a:Int}{u v:AV}{es:List (AV×AV)}{k:List (AV×AV)->Prop}:qej qt (.i q i) u ((.i q a,v)::es) k↔if i=a then k ((.i q i,u)::es) else qej qt (.i q i) u es (fun l=>k ((.i q a,v)::l)):=by
 show qf (decide (q=q)) (qD (eqI i a) (fun r=>Bool.rec (motive:=fun _=>Prop) (qej qt (.i q i) u es (fun l=>k ((.i q a,v)::l))) (k ((.i q i,u)::es)) r))↔_
 rw[qa,qu,qcX,qhe];simp
@[congr] theorem qtI {ok:Bool} {z:AV} {v v':Option AV} {k:AV->Prop} {mk:Prop} (_:qP=mk) (h:v=v'):qeD ok z v k=qeD ok z v' k:=by rw[h]
theorem qnQ{z:AV}{k:AV->Prop}:qeD false z none k↔k z:=Iff.rfl
theorem qml{z:AV}{k:AV->Prop}:qeD true z none k↔k (.tup [z,.b false]):=Iff.rfl
theorem qjq{z v:AV}{k:AV->Prop}:qeD false z (some v) k↔k v:=Iff.rfl
theorem qmm{z v:AV}{k:AV->Prop}:qeD true z (some v) k↔k (.tup [v,.b true]):=Iff.rfl
def lkK(h:Hp)(ok:Bool)(zero x i:AV)(k:AV->Prop):Prop:=match x with
  | .nilm=>qeD ok zero none k
  | .map r=>qfE h r (fun es=>qbM qt i es (fun v=>qeD ok zero v k))
  | _=>False
@[congr] theorem qwQ {ok:Bool} {z x i:AV} {k:AV->Prop} {mk:Prop} (_:qP=mk):lkK h ok z x i k=lkK h ok z x i k:=rfl
theorem quQ{ok:Bool}{z i:AV}{k:AV->Prop}:lkK h ok z .nilm i k↔qeD ok z none k:=Iff.rfl
theorem quP{ok:Bool}{z i:AV}{r:Nat}{k:AV->Prop}:lkK h ok z (.map r) i k↔qfE h r (fun es=>qbM qt i es (fun v=>qeD ok z v k)):=Iff.rfl
theorem qpO{kd:Option IntKind}{ok:Bool}{z:AV}{x i:O}:opK qt (.lookM kd ok z x i) t h k↔evK t x (fun x=>evK t i (fun i=>qgH qt kd i (lkK h ok z x i (fun v=>k v h)))):=Iff.rfl
def upK(h:Hp)(x i v:AV)(k:Hp->Prop):Prop:=match x with
  | .map r=>qfE h r (fun es=>qej qt i v es (fun es'=>qao h r (.map es') k))
  | _=>False
@[congr] theorem qw7 {x i v:AV} {k:Hp->Prop} {mk:Prop} (_:qP=mk):upK h x i v k=upK h x i v k:=rfl
theorem qwj{i v:AV}{r:Nat}{k:Hp->Prop}:upK h (.map r) i v k↔qfE h r (fun es=>qej qt i v es (fun es'=>qao h r (.map es') k)):=Iff.rfl
theorem qsg{kd:Option IntKind}{x i v:O}:opK qt (.updM kd x i v) t h k↔evK t x (fun x=>evK t i (fun i=>evK t v (fun v=>qgH qt kd i (upK h x i v (fun h'=>k .undef h'))))):=Iff.rfl

theorem qh9:qB []=true:=rfl
theorem qeW{v:AV}{vs:List AV}:qB (v::vs)=(qV v&&qB vs):=by
 show (Bool.rec (motive:=fun _=>Bool) false (qB vs) (qV v):Bool)=_
 cases qV v<;>rfl
theorem qt7{x:Bool}:qV (.b x)=true:=rfl
theorem qt8{q:IntKind}{x:Int}:qV (.i q x)=true:=rfl
theorem qt9{x:List UInt8}:qV (.s x)=true:=rfl
theorem qmB:qV .nilp=true:=rfl
theorem qof{b o:Nat}:qV (.ptr b o)=true:=rfl
theorem qmC:qV .nils=true:=rfl
theorem qq3{b o x c:Nat}{l:Bool}:qV (.sl b o x c l)=true:=rfl
theorem qmy:qV .nilf=true:=rfl
theorem qqZ{f:Nat}{a c:List AV}:qV (.fn f a c)=true:=rfl
theorem qmz:qV .nili=true:=rfl
theorem qoc{f:Nat}{v:AV}:qV (.ifc f v)=true:=rfl
theorem qmA:qV .nilm=true:=rfl
theorem qod{b:Nat}:qV (.map b)=true:=rfl
theorem qq0{n:Nat}{cs:List AV}:qV (.fz n cs)=true:=rfl
theorem qq2{n:Nat}{cs:List AV}:qV (.pf cs n)=true:=rfl
theorem qqY:qV .e0=true:=rfl
theorem qq1:qV .nz=true:=rfl
theorem qoe{b n:Nat}:qV (.own b n)=true:=rfl
theorem qiG{a b:List AV}:qB (a++b)=(qB a&&qB b):=by
 induction a with
 | nil=>simp[qh9]
 | cons v a ih=>simp[qeW,ih,Bool.and_assoc]
theorem qmD{α:Type}{f:α->AV}{xs:List α}(h:∀x,qV (f x)=true):qB (xs.map f)=true:=by
 induction xs with
 | nil=>rfl
 | cons v a ih=>simp[qeW,ih,h]
theorem qkP{α:Type}{f:α->List AV}{xs:List α}(h:∀x,qB (f x)=true):qB (xs.flatMap f)=true:=by
 induction xs with
 | nil=>rfl
 | cons v a ih=>simp[List.flatMap_cons,qiG,ih,h]
theorem qgm{a b:List AV}:qF (a++b)=(qF a&&qF b):=by
 induction a with
 | nil=>simp[qF]
 | cons v a ih=>simp[qF,ih,Bool.and_assoc]
theorem qd3{α:Type}{f:α->AV}{xs:List α}(h:∀x,clo (f x)=true):qF (xs.map f)=true:=by
 induction xs with
 | nil=>rfl
 | cons v a ih=>simp[qF,ih,h]
theorem qfY{α:Type}{f:α->List AV}{xs:List α}(h:∀x,qF (f x)=true):qF (xs.flatMap f)=true:=by
 induction xs with
 | nil=>rfl
 | cons v a ih=>simp[List.flatMap_cons,qgm,ih,h]
theorem qaX{α:Type}{f:α->List AV}{m:Nat}(h:∀x,(f x).length=m)(xs:List α):(xs.flatMap f).length=xs.length*m:=by
 induction xs with
 | nil=>simp
 | cons v a ih=>simp[ih,h,Nat.add_mul,Nat.add_comm]
theorem qep{α:Type}{f:α->List AV}{m:Nat}(h:∀x,(f x).length=m):∀(xs:List α) (j:Nat),(xs.flatMap f).drop (j*m)=(xs.drop j).flatMap f
 | [],j=>by simp
 | x::xs,0=>by simp
 | x::xs,j+1=>by
  simp only[List.flatMap_cons,List.drop_succ_cons];rw[Nat.add_mul,Nat.one_mul,Nat.add_comm,← List.drop_drop,List.drop_left' (h x)];exact qep h xs j
theorem qib{α:Type}{f:α->List AV}{m:Nat}(h:∀x,(f x).length=m):∀(xs:List α) (j:Nat),(xs.flatMap f).take (j*m)=(xs.take j).flatMap f
 | [],j=>by simp
 | x::xs,0=>by simp
 | x::xs,j+1=>by
  simp only[List.flatMap_cons,List.take_succ_cons];rw[Nat.add_mul,Nat.one_mul,Nat.add_comm (j*m),← h x,List.take_length_add_append,h x,qib h xs j]
theorem xN{α:Type}{f:α->List AV}{m:Nat}(h:∀x,(f x).length=m){xs:List α}{j:Nat}{x:α}(hx:xs[j]?=some x){i:Nat}(hi:i<m):(xs.flatMap f)[j*m+i]?=(f x)[i]?:=by
 rw[← List.getElem?_drop,qep h];obtain⟨hj,rfl⟩:=zzS.1 hx;rw[List.drop_eq_getElem_cons hj,List.flatMap_cons,List.getElem?_append_left (by rw[h];exact hi)]
theorem qaW{α:Type}{f:α->List AV}{m:Nat}(h:∀x,(f x).length=m){xs:List α}{j:Nat}{x:α}(hx:xs[j]?=some x):((xs.flatMap f).drop (j*m)).take m=f x:=by
 rw[qep h];obtain⟨hj,rfl⟩:=zzS.1 hx;rw[List.drop_eq_getElem_cons hj,List.flatMap_cons,List.take_left' (h _)]

theorem SL.loop{α:Type}{x:ICode}{Q:X->Tr AV->Hp->Prop}(T:α->List (Nat×AV))(B:α->List Blk)(I:α->Prop)(μ:α->Nat)(a0:α)(src:List Nat)
  (hT:TWs t (rl src h.sz) (B a0).length (T a0)) (hB:BWs h (rl src h.sz) (B a0).length src (B a0)) (hI:(src.filter fun b=>decide (b<h.sz)).Nodup) (hfl:h.fl=0) (h0:I a0)
  (step:∀a,I a->∀G:Tr AV->Hp->Prop,(∀b,I b->μ b<μ a->∀t' h',Wk 0 t' h' (mkT (T b)) (mkH 0 (B b))->G t' h')->
   V P 0 x (fun e t h=>onX e (G t h) (fun id=>Q (.exit id) t h) (Q .ret t h)) (mkT (T a)) (mkH 0 (B a))):SL P 0 x Q t h:=by
 have main:∀m a,μ a=m->I a->SL P 0 x Q (mkT (T a)) (mkH 0 (B a)):=by
  intro m
  induction m using Nat.strongRecOn with
  | ind m ih =>
   intro a ha hi;exact qiz (step a hi (fun t h=>SL P 0 x Q t h) fun b hb hlt t' h' hw=>SL.weak hw (ih (μ b) (ha ▸ hlt) b rfl hb))
 exact SL.weak (Wk.mk (T a0) (B a0) src hT hB hI hfl) (main _ a0 rfl h0)

theorem qyR{b:Bool}:(b==true)=b:=by cases b<;>rfl
theorem qyQ{b:Bool}:(b==false) = !b:=by cases b<;>rfl
def vA:=And.intro @qnJ (And.intro @qxm (And.intro @qxp (And.intro @qtH (And.intro @qxo (And.intro @qtE (And.intro @qtD (And.intro @qxl (And.intro @qtF (And.intro @qxn (And.intro @qtG (And.intro @qtA (And.intro @qxk (And.intro @qnG (And.intro @qnH (And.intro @qnI (And.intro @qmg (And.intro @qxj
 (And.intro @quh (And.intro @que (And.intro @qk5 (And.intro @qpE (And.intro @qr6 (And.intro @qop (And.intro @qjI (And.intro @qsv (And.intro @qsw @qp0))))))))))))))))))))))))))
def vR:=And.intro @qmi (And.intro @qkF @qtB)
def vE:=And.intro @qlz (And.intro @qxK (And.intro @qoy (And.intro @qmK (And.intro @qnm (And.intro @qno (And.intro @qoR (And.intro @qmH (And.intro @qmI (And.intro @qyv (And.intro @qsS (And.intro @qyw (And.intro @qyx (And.intro @qmf (And.intro @zX (And.intro @qf1
 (And.intro @qu4 (And.intro @qvL (And.intro @qo4 (And.intro @qx2 (And.intro @qrK (And.intro @quM (And.intro @qx0 (And.intro @qo5 (And.intro @qrT (And.intro @qu1 (And.intro @qzB (And.intro @qsM (And.intro @qq9 (And.intro @qen (And.intro @qrA @xm))))))))))))))))))))))))))))))
def vO:=And.intro @qvE (And.intro @qsd (And.intro @qpG (And.intro @qvr (And.intro @qpH (And.intro @qnf (And.intro @qpM (And.intro @qpN (And.intro @qpQ (And.intro @qni (And.intro @qvq (And.intro @qvu (And.intro @qvv (And.intro @qvt (And.intro @qyk (And.intro @qpJ (And.intro @qpK (And.intro @qvF (And.intro @qvp
 (And.intro @qpL (And.intro @qvx (And.intro @qng (And.intro @qnh (And.intro @qsb (And.intro @qsc (And.intro @qsf (And.intro @qnk (And.intro @qse (And.intro @qvw (And.intro @qvB (And.intro @qvD (And.intro @qvy (And.intro @qvo (And.intro @qr8 (And.intro @qsa (And.intro @qvA (And.intro @qvz (And.intro @qpI (And.intro @qvC
 (And.intro @qnl (And.intro @qr7 (And.intro @qsB (And.intro @qvY (And.intro @qvX (And.intro @qp5 (And.intro @qvW (And.intro @qvs (And.intro @qr9 (And.intro @qnS (And.intro @qpO @qsg)))))))))))))))))))))))))))))))))))))))))))))))))
def vB:=And.intro @qqL (And.intro @qqK (And.intro @qqH (And.intro @qqF (And.intro @qqE (And.intro @qqG (And.intro @qqD (And.intro @qqJ (And.intro @qqA (And.intro @qqM (And.intro @qqI (And.intro @qtV (And.intro @qqB (And.intro @qqN (And.intro @qqC (And.intro @qnX (And.intro @qn2 (And.intro @qnW (And.intro @qn1 (And.intro @qnY (And.intro @qn0 (And.intro @qnZ (And.intro @qwi (And.intro @qwh @qyW)))))))))))))))))))))))
def vF:=And.intro @qoF (And.intro @qoG (And.intro @qxX (And.intro @qxW (And.intro @quF (And.intro @qoY (And.intro @qoX (And.intro @qmV (And.intro @qqx (And.intro @qqy (And.intro @qqQ (And.intro @qqP (And.intro @qqR (And.intro @qsH (And.intro @qyp (And.intro @qyq (And.intro @qv2 (And.intro @qv3 (And.intro @qv1 (And.intro @qtP (And.intro @qmJ (And.intro @qov (And.intro @qrP (And.intro @qx3 (And.intro @qx5 (And.intro @qx4 (And.intro @quR (And.intro @qx6 (And.intro @qy8
 (And.intro @qok (And.intro @quc (And.intro @qmn (And.intro @qkI (And.intro @qu2 (And.intro @qx8 (And.intro @qq8 (And.intro @qxC (And.intro @qxD (And.intro @qoB (And.intro @qmN (And.intro @qmG (And.intro @qq7 (And.intro @qp9 (And.intro @qv5 (And.intro @qv7 (And.intro @qv8 (And.intro @qsK (And.intro @qv6 (And.intro @qyr (And.intro @qnR (And.intro @qtL (And.intro @qqw (And.intro @qtN (And.intro @qtM
 (And.intro @qpz (And.intro @qrX (And.intro @qu8 (And.intro @qpA (And.intro @qu7 (And.intro @qu9 (And.intro @qu6 (And.intro @qrW (And.intro @qpx (And.intro @qu5 (And.intro @qpy (And.intro @qrV (And.intro @qrb (And.intro @qot (And.intro @qyZ (And.intro @qy0 @qyY)))))))))))))))))))))))))))))))))))))))))))))))))))))))))))))))))))))
def vM:=And.intro @qxZ (And.intro @qxY (And.intro @qmW (And.intro @qrE (And.intro @qrD (And.intro @qim (And.intro @qx7 (And.intro @qjL (And.intro @quv (And.intro @qoD (And.intro @qme (And.intro @qyA (And.intro @qtt (And.intro @qnQ (And.intro @qml (And.intro @qjq (And.intro @qmm (And.intro @quQ (And.intro @quP @qwj))))))))))))))))))
def vC:=And.intro @qh9 (And.intro @qeW (And.intro @qt7 (And.intro @qt8 (And.intro @qt9 (And.intro @qmB (And.intro @qof (And.intro @qmC (And.intro @qq3 (And.intro @qmy (And.intro @qqZ (And.intro @qmz (And.intro @qoc (And.intro @qmA (And.intro @qod (And.intro @qq0 (And.intro @qq2 (And.intro @qqY (And.intro @qq1 @qoe))))))))))))))))))
def vP:=And.intro @qm9 (And.intro @qox (And.intro @qre (And.intro @qrf (And.intro @qrg (And.intro @qrh (And.intro @qow (And.intro @qjJ (And.intro @qj2 (And.intro @qiF (And.intro @qtr (And.intro @qlx (And.intro @qyR (And.intro @qyQ @qcX)))))))))))))
def vW:=And.intro @qyh (And.intro @qpC (And.intro @qzc (And.intro @qzd (And.intro @qze (And.intro @qr1 (And.intro @qr2 (And.intro @qrY (And.intro @qrZ (And.intro @qr0 (And.intro @qyb (And.intro @qye (And.intro @qvc (And.intro @qpB (And.intro @qvh (And.intro @qyd (And.intro @qyf (And.intro @qr3 (And.intro @qvg (And.intro @qyg (And.intro @qvf (And.intro @qne (And.intro @qve (And.intro @qr4 (And.intro @qpD (And.intro @qvb (And.intro @qvi (And.intro @qyc (And.intro @qvd
 (And.intro @qsR (And.intro @qqg (And.intro @qqT (And.intro @qn5 (And.intro @qtY (And.intro @qqS (And.intro @qtZ (And.intro @qzz @qzA))))))))))))))))))))))))))))))))))))
def vZ:=And.intro @qoK (And.intro @qy2 (And.intro @qy3 (And.intro @qy4 (And.intro @qrn (And.intro @qro (And.intro @qrk (And.intro @qrl (And.intro @qrm (And.intro @qxL (And.intro @qxN (And.intro @quz (And.intro @qxM (And.intro @qxO (And.intro @qrp (And.intro @qeq (And.intro @qco (And.intro @quy (And.intro @quB (And.intro @qoL (And.intro @qoJ (And.intro @quA @qoI)))))))))))))))))))))
end Go.Kc
end
section
namespace Go.Kc
variable {P:Program}

mutual
def flat:AV->Bool
 | .ptr _ _=>false
 | .sl _ _ _ _ _=>false
 | .map _=>false
 | .own _ _=>false
 | .fz _ _=>false
 | .pf _ _=>false
 | .sym _=>false
 | .fn _ a c=>qhk a&&qhk c
 | .ifc _ v=>flat v
 | .agg cs=>qhk cs
 | .tup cs=>qhk cs
 | .undef=>true | .b _=>true | .i _ _=>true | .s _=>true | .nilp=>true | .nils=>true | .nilf=>true | .nili=>true | .nilm=>true | .e0=>true | .nz=>true | .yl _=>false | .lp _=>true
def qhk:List AV->Bool
 | []=>true
 | v::vs=>flat v&&qhk vs
end
mutual
theorem VR.flat{ρ ρ':Ren}:∀{a:AV} {v:Value},VR σ0 ρ a v->Kc.flat a=true->VR σ0 ρ' a v
 | _,_,.undef v,_=>.undef v
 | _,_,.b x,_=>.b x
 | _,_,.i k n,_=>.i k n
 | _,_,.s x,_=>.s x
 | _,_,.nilp,_=>.nilp
 | _,_,.ptr b o L h,hc=>by simp[Kc.flat] at hc
 | _,_,.nils,_=>.nils
 | _,_,.sl b o len cap c loose L h hc,hh=>by simp[Kc.flat] at hh
 | _,_,.slz b o x l L h,hh=>by simp[Kc.flat] at hh
 | _,_,.nilf,_=>.nilf
 | _,_,.fn f first cap first' cap' h1 h2,hc=>by
  simp only[Kc.flat,Bool.and_eq_true] at hc;exact .fn _ _ _ _ _ (h1.flat hc.1) (h2.flat hc.2)
 | _,_,.nili,_=>.nili
 | _,_,.ifc t v v' h,hc=>by simp only[Kc.flat] at hc;exact .ifc _ _ _ (h.flat hc)
 | _,_,.agg cs cs' h,hc=>by simp only[Kc.flat] at hc;exact .agg _ _ (h.flat hc)
 | _,_,.tup cs cs' h,hc=>by simp only[Kc.flat] at hc;exact .tup _ _ (h.flat hc)
 | _,_,.nilm,_=>.nilm
 | _,_,.map b L h h0,hc=>by simp[Kc.flat] at hc
 | _,_,.sym j,hc=>by simp[Kc.flat] at hc
 | _,_,.fz n off c cs k arr hn h hs,hc=>by simp[Kc.flat] at hc
 | _,_,.fz0 a,hc=>by simp[Kc.flat] at hc
 | _,_,.pf off base cs k arr h hs,hc=>by simp[Kc.flat] at hc
 | _,_,.e0 a,_=>.e0 a
 | _,_,.nz a c,_=>.nz a c
 | _,_,.own0 b a hb,hc=>by simp[Kc.flat] at hc
 | _,_,.own b n c L h hn hc',hc=>by simp[Kc.flat] at hc
 | _,_,.yl b L h,hc=>by simp[Kc.flat] at hc
theorem VRs.flat{ρ ρ':Ren}:∀{a:List AV} {v:List Value},VRs σ0 ρ a v->qhk a=true->VRs σ0 ρ' a v
 | _,_,.nil,_=>.nil
 | _,_,.cons v vs v' vs' h hs,hc=>by
  simp only[qhk,Bool.and_eq_true] at hc;exact .cons _ _ _ _ (h.flat hc.1) (hs.flat hc.2)
end
theorem Rel.bare{ρ:Ren}{B:Nat->Prop}{h:Hp}{w:World}(r:Rel σ0 ρ B h w):Rel σ0 ⟨fun _=>none,xG ρ h w,0⟩ (low w.heap.size) H0 w :=
 ⟨(fun _ _ hb=>by cases hb),(fun _ _ _ _ _ _ hb=>by cases hb),(fun _ _ _ hb=>by cases hb),(fun _ _ _ _ _ hb=>by cases hb),(fun _ _ _ hb=>by cases hb),(fun _ _ _ _ _ hb=>by cases hb),(fun _ _ hb=>by cases hb),(fun _ h=>h),
  (fun k arr hk=>⟨by
    rcases qdz hk with hk|⟨hk,_⟩
    ·exact (r.frz k arr hk).1
    ·exact hk,fun _ _ _ hb=>by cases hb⟩),⟨Nat.le_refl _,fun _ _ hb=>by cases hb⟩⟩
theorem qg.lend{f:Nat}{vs vs':List AV}{v:AV}{h:Hp}{k:AV->Hp->Prop}(hp:qg P f vs' v)(hf:Frzs h vs vs')(hv:flat v=true)(hk:k v h):SC P f vs h k:=by
 have hp0:=hp H0 (fun v' h'=>v'=v∧h'=H0) ⟨rfl,rfl⟩
 refine⟨hp0.1,fun ρ B w args r ha=>?_⟩
 have hcr:=hf.ok r ha;refine qcg.mono (hp0.2 ⟨fun _=>none,xG ρ h w,0⟩ (low w.heap.size) w args r.bare (CRs.vr (ρ:=⟨fun _=>none,xG ρ h w,0⟩) hcr)) ?_
 rintro e w' ⟨v0,v',h',ρ',rfl,⟨rfl,rfl⟩,g2,g3,g4⟩;refine⟨v0,v',h,ρ,rfl,hk,g2.flat hv,?_,⟨fun _ _=>rfl,Nat.le_refl _,rfl,fun _ _ _=>rfl,fun k hk=>g4.pres k (r.base _ hk),g4.wle,g4.io,fun _ _ h=>h,fun _ _ h=>.inl h,Nat.le_refl _⟩⟩
 have:=r.frz' (φ:=ρ.frz) g4.pres g4.wle (fun _ _ h=>h) (fun _ _ h=>.inl h) (fun k a hk=>by
  obtain⟨ty,fz,h1⟩:=(r.frz k a hk).1;refine⟨ty,fz,?_⟩;rw[g4.pres k (Array.getElem?_eq_some_iff.1 h1).1];exact h1)
 exact this
mutual
def shv(m:Nat):AV->AV
 | .ptr b o=>.ptr (b+m) o
 | .sl b o n c l=>.sl (b+m) o n c l
 | .map b=>.map (b+m)
 | .own b n=>.own (b+m) n
 | .yl b=>.yl (b+m)
 | .fn f a c=>.fn f (qdT m a) (qdT m c)
 | .ifc t v=>.ifc t (shv m v)
 | .agg cs=>.agg (qdT m cs)
 | .tup cs=>.tup (qdT m cs)
 | v=>v
def qdT(m:Nat):List AV->List AV
 | []=>[]
 | v::vs=>shv m v::qdT m vs
end
theorem qkv{m:Nat}:∀{vs:List AV} {j:Nat},(qdT m vs)[j]?=(vs[j]?).map (shv m)
 | [],j=>by simp[qdT]
 | v::vs,0=>by simp[qdT]
 | v::vs,j+1=>by simpa[qdT] using qkv (vs:=vs) (j:=j)
theorem qcI{m:Nat}:∀{vs:List AV},(qdT m vs).length=vs.length
 | []=>rfl
 | v::vs=>by simp[qdT,qcI (vs:=vs)]
mutual
theorem ql7{m:Nat}:∀{v:AV},clo v=true->shv m v=v
 | .ptr _ _,h=>by simp[clo] at h
 | .sl _ _ _ _ _,h=>by simp[clo] at h
 | .map _,h=>by simp[clo] at h
 | .own _ _,h=>by simp[clo] at h
 | .fn f a c,h=>by
  simp only[clo,Bool.and_eq_true] at h;simp only[shv,xd h.1,xd h.2]
 | .ifc t v,h=>by
  simp only[clo] at h;simp only[shv,ql7 h]
 | .agg cs,h=>by
  simp only[clo] at h;simp only[shv,xd h]
 | .tup cs,h=>by
  simp only[clo] at h;simp only[shv,xd h]
 | .undef,_=>rfl
 | .b _,_=>rfl
 | .i _ _,_=>rfl
 | .s _,_=>rfl
 | .nilp,_=>rfl
 | .nils,_=>rfl
 | .nilf,_=>rfl
 | .nili,_=>rfl
 | .nilm,_=>rfl
 | .sym _,h=>by simp[clo] at h
 | .fz _ _,_=>rfl
 | .pf _ _,_=>rfl
 | .e0,_=>rfl
 | .nz,_=>rfl
 | .yl _,h=>by simp[clo] at h
 | .lp _,_=>rfl
theorem xd{m:Nat}:∀{vs:List AV},qF vs=true->qdT m vs=vs
 | [],_=>rfl
 | v::vs,h=>by
  simp only[qF,Bool.and_eq_true] at h;simp only[qdT,ql7 h.1,xd h.2]
end
def she(m:Nat)(es:List (AV×AV)):List (AV×AV):=es.map fun e=>(shv m e.1,shv m e.2)
theorem ql6{m:Nat}:she m []=[]:=rfl
theorem qku{m:Nat}{a b:AV}{es:List (AV×AV)}:she m ((a,b)::es)=(shv m a,shv m b)::she m es:=rfl
def shb(m:Nat):Blk->Blk
 | .cells e w a cs=>.cells e w a (qdT m cs)
 | .dead=>.dead
 | .map es=>.map (she m es)
noncomputable def qbk(h:Hp):List Blk->Hp
 | []=>h
 | x::xs=>qbk (h.push x) xs
theorem qdj:∀{bs:List Blk} {h:Hp},(qbk h bs).sz=h.sz+bs.length
 | [],_=>rfl
 | x::xs,h=>by
  show (qbk (h.push x) xs).sz=_;rw[qdj];simp[Hp.push];omega
theorem qec:∀{bs:List Blk} {h:Hp},(qbk h bs).fl=h.fl
 | [],_=>rfl
 | x::xs,h=>by
  show (qbk (h.push x) xs).fl=_;rw[qec];rfl
theorem qa5:∀{bs:List Blk} {h:Hp} {b:Nat},(qbk h bs).tr.get b=if b<h.sz then h.tr.get b else if b<h.sz+bs.length then bs[b-h.sz]? else h.tr.get b
 | [],h,b=>by simp[qbk];intro h1 h2;omega
 | x::xs,h,b=>by
  show (qbk (h.push x) xs).tr.get b=_;rw[qa5];simp only[Hp.push,Tr.get_set,List.length_cons]
  by_cases h1:b<h.sz
  ·rw[if_pos (by omega),if_neg (by omega),if_pos h1]
  ·rw[if_neg h1]
   by_cases h2:b=h.sz
   ·subst h2;rw[if_pos (by omega),if_pos rfl,if_pos (by omega)];simp
   ·rw[if_neg (by omega)]
    by_cases h3:b<h.sz+(xs.length+1)
    ·rw[if_pos (by omega),if_pos h3];rw[show b-h.sz=(b-(h.sz+1))+1 from by omega];simp
    ·rw[if_neg (by omega),if_neg h3,if_neg h2]
def Ren.join(ρ ρ2:Ren)(m l:Nat):Ren:=⟨fun b=>if b<m then ρ b else ρ2 (b-m),ρ2.frz,m+l⟩
theorem qgR{ρ ρ2:Ren}{m l b:Nat}(h:b<m):ρ.join ρ2 m l b=ρ b:=by simp only[Ren.join];rw[if_pos h]
theorem qdD{ρ ρ2:Ren}{m l b:Nat}:ρ.join ρ2 m l (b+m)=ρ2 b:=by simp only[Ren.join];rw[if_neg (by omega),Nat.add_sub_cancel]
mutual
theorem VR.sh{ρ ρ2:Ren}{m l:Nat}(hl:ρ2.n<=l):∀{v:AV} {x:Value},VR σ0 ρ2 v x->VR σ0 (ρ.join ρ2 m l) (shv m v) x
 | _,_,.undef v=>.undef v
 | _,_,.b x=>.b x
 | _,_,.i k n=>.i k n
 | _,_,.s x=>.s x
 | _,_,.nilp=>.nilp
 | _,_,.ptr b o L h=>.ptr _ _ L (by rw[qdD];exact h)
 | _,_,.nils=>.nils
 | _,_,.sl b o len cap c loose L h hc=>.sl _ _ _ _ _ _ L (by rw[qdD];exact h) hc
 | _,_,.slz b o x l' L h=>.slz _ _ _ _ L (by rw[qdD];exact h)
 | _,_,.nilf=>.nilf
 | _,_,.fn f first cap first' cap' h1 h2=>.fn _ _ _ _ _ (VRs.sh hl h1) (VRs.sh hl h2)
 | _,_,.nili=>.nili
 | _,_,.ifc t v v' h=>.ifc _ _ _ (VR.sh hl h)
 | _,_,.agg cs cs' h=>.agg _ _ (VRs.sh hl h)
 | _,_,.tup cs cs' h=>.tup _ _ (VRs.sh hl h)
 | _,_,.nilm=>.nilm
 | _,_,.map b L h h0=>.map _ L (by rw[qdD];exact h) h0
 | _,_,.sym j=>.sym j
 | _,_,.fz n off c cs k arr hn h hs=>.fz n off c cs k arr hn h hs
 | _,_,.fz0 a=>.fz0 a
 | _,_,.pf off base cs k arr h hs=>.pf off base cs k arr h hs
 | _,_,.e0 a=>.e0 a
 | _,_,.nz a c=>.nz a c
 | _,_,.own0 b a hb=>.own0 _ _ (by show b+m<m+l;omega)
 | _,_,.own b n c L h hn hc'=>.own _ _ _ L (by rw[qdD];exact h) hn hc'
 | _,_,.yl b L h=>.yl _ L (by rw[qdD];exact h)
theorem VRs.sh{ρ ρ2:Ren}{m l:Nat}(hl:ρ2.n<=l):∀{v:List AV} {x:List Value},VRs σ0 ρ2 v x->VRs σ0 (ρ.join ρ2 m l) (qdT m v) x
 | _,_,.nil=>.nil
 | _,_,.cons v vs v' vs' h hs=>.cons _ _ _ _ (VR.sh hl h) (VRs.sh hl hs)
end
theorem qsD{m:Nat}{r:Loop}{ts:List (Nat×AV)}:she m (zD r ts)=zD r (ts.map fun p=>(p.1,shv m p.2)):=by simp[she,zD,shv]
theorem qdX.sh{ρ ρ2:Ren}{m l:Nat}(hl:ρ2.n<=l){es:List (AV×AV)}{o:Obj}(h:qdX σ0 ρ2 es o):qdX σ0 (ρ.join ρ2 m l) (she m es) o:=by
 rcases h with⟨h0,vs,clk,h1,h2,h3⟩|⟨a,n,rfl,h2⟩|⟨r,rq,ts,rfl,h2,hk2,h3⟩
 ·refine .inl ⟨fun e he=>?_,vs,clk,h1,by simp[she,h2],fun j e he=>?_⟩
  ·cases es with
   | nil=>simp[she] at he
   | cons e0 es =>
    simp[she] at he;subst he;have:=h0 e0 rfl;cases e0 with
    | mk k v=>cases k<;>first|(simp[shv];done)|exact absurd rfl this.1|exact absurd rfl (this.2 _)
  ·simp only[she,List.getElem?_map] at he;cases hj:es[j]? with
   | none=>rw[hj] at he;simp at he
   | some e0 =>
    rw[hj] at he;simp at he;subst he;obtain⟨v,g1,g2,g3⟩:=h3 j e0 hj;exact⟨v,g1,VR.sh hl g2,VR.sh hl g3⟩
 ·exact .inr (.inl ⟨a,n,rfl,h2⟩)
 ·refine .inr (.inr ⟨r,rq,_,qsD,h2,hk2,fun p hp=>?_⟩)
  obtain⟨q,hq,rfl⟩:=List.mem_map.1 hp;exact⟨(h3 q hq).1,VR.sh hl (h3 q hq).2⟩
theorem Rel.joinH{ρ ρ2:Ren}{B:Nat->Prop}{h:Hp}{w w1:World}{bs:List Blk}(r:Rel σ0 ρ B h w)(r2:Rel σ0 ρ2 (low w.heap.size) (mkH 0 bs) w1)(hp:∀k,k<w.heap.size->w1.heap[k]?=w.heap[k]?)(hw:w.heap.size<=w1.heap.size)
  (f1:∀k a,ρ.frz k=some a->ρ2.frz k=some a) (f2:∀k a,ρ2.frz k=some a->ρ.frz k=some a∨w.heap.size<=k) :
  Rel σ0 (ρ.join ρ2 h.sz bs.length) B (qbk h (bs.map (shb h.sz))) w1:=by
 have r1:Rel σ0 ⟨ρ.loc,ρ2.frz,ρ.n⟩ B h w1:=r.frz' hp hw f1 f2 (fun k a hk=>(r2.frz k a hk).1)
 have n2:ρ2.n<=bs.length:=r2.dn.1
 have le1:Ren.le ⟨ρ.loc,ρ2.frz,ρ.n⟩ (ρ.join ρ2 h.sz bs.length) :=
  ⟨fun b L hb=>by rw[qgR (r.dom b L hb)];exact hb,fun _ _ h=>h,Nat.le_trans r.dn.1 (Nat.le_add_right _ _)⟩
 -- a block: old,or new
 have split:∀b L,ρ.join ρ2 h.sz bs.length b=some L->(b<h.sz∧ρ b=some L∧(qbk h (bs.map (shb h.sz))).tr.get b=h.tr.get b) ∨
   ∃c,b=c+h.sz∧ρ2 c=some L∧(qbk h (bs.map (shb h.sz))).tr.get b=((mkH 0 bs).tr.get c).map (shb h.sz)∧w.heap.size<=L.blk:=by
  intro b L hb
  by_cases hlt:b<h.sz
  ·rw[qgR hlt] at hb;refine .inl ⟨hlt,hb,?_⟩;rw[qa5,if_pos hlt]
  ·obtain⟨c,rfl⟩:∃c,b=c+h.sz:=⟨b-h.sz,by omega⟩
   rw[qdD] at hb;have hc:c<bs.length:=r2.dom c L hb;refine .inr ⟨c,rfl,hb,?_,Nat.not_lt.1 (r2.flr c L hb (Nat.zero_le _))⟩;rw[qa5,if_neg hlt,if_pos (by simp;omega),qcE,Nat.add_sub_cancel,List.getElem?_map]
 have oldlt:∀b L x,ρ b=some L->h.tr.get b=some x->x≠.dead->L.blk<w.heap.size:=fun b L x h1 h2 h3=>r.blk_lt b L h1 x h2 h3
 have shd:∀{x y:Blk},(some x).map (shb h.sz)=some y->y≠.dead->x≠.dead:=by
  intro x y h1 h2 h3;subst h3;simp[shb] at h1;exact h2 h1.symm
 have shc:∀{o:Option Blk} {e:Nat} {w a:Bool} {cs:List AV},o.map (shb h.sz)=some (.cells e w a cs)->∃cs0,o=some (.cells e w a cs0)∧cs=qdT h.sz cs0:=by
  intro o e w a cs ho;cases o with
  | none=>simp at ho
  | some x =>
   cases x with
   | cells e' w' a' cs'=>simp[shb] at ho;obtain⟨rfl,rfl,rfl,rfl⟩:=ho;exact⟨_,rfl,rfl⟩
   | dead=>simp[shb] at ho
   | map es=>simp[shb] at ho
 have shm:∀{o:Option Blk} {es:List (AV×AV)},o.map (shb h.sz)=some (.map es)->∃es0,o=some (.map es0)∧es=she h.sz es0:=by
  intro o es ho;cases o with
  | none=>simp at ho
  | some x =>
   cases x with
   | cells e' w' a' cs'=>simp[shb] at ho
   | dead=>simp[shb] at ho
   | map es'=>simp[shb] at ho;exact⟨es',rfl,ho.symm⟩
 have shn:∀{o:Option Blk} {y:Blk},o.map (shb h.sz)=some y->y≠.dead->∃x,o=some x∧x≠.dead:=by
  intro o y ho hy;cases o with
  | none=>simp at ho
  | some x=>exact⟨x,rfl,shd ho hy⟩
 refine⟨fun b L hb=>?_,?_,?_,?_,?_,?_,?_,qdq r.base hw,?_,?_⟩
 ·rw[qdj,List.length_map];rcases split b L hb with⟨h1,_⟩|⟨c,rfl,h1,_⟩
  ·omega
  ·have:c<bs.length:=r2.dom c L h1;omega
 ·intro b L e wf af cs hb hg;rcases split b L hb with⟨h1,h2,h3⟩|⟨c,rfl,h2,h3,_⟩
  ·rw[h3] at hg;obtain⟨q1,c,ty,fz,q2,q3,q4,q5,q6⟩:=r1.cells b L e wf af cs h2 hg;exact⟨q1,c,ty,fz,q2,q3,q4,fun j v hv=>let ⟨v',g7,g8⟩:=q5 j v hv;⟨v',g7,g8.mono le1⟩,q6⟩
  ·rw[h3] at hg;obtain⟨cs0,g1,rfl⟩:=shc hg;obtain⟨q1,c',ty,fz,q2,q3,q4,q5,q6⟩:=r2.cells c L e wf af cs0 h2 g1;refine⟨q1,c',ty,fz,q2,q3,by rw[qcI];exact q4,fun j v hv=>?_,q6⟩
   rw[qkv] at hv;cases hj:cs0[j]? with
   | none=>rw[hj] at hv;simp at hv
   | some v0 =>
    rw[hj] at hv;simp at hv;subst hv;obtain⟨v',g7,g8⟩:=q5 j v0 hj;exact⟨v',g7,g8.sh n2⟩
 ·intro b L es hb hg;rcases split b L hb with⟨h1,h2,h3⟩|⟨c,rfl,h2,h3,_⟩
  ·rw[h3] at hg;obtain⟨q1,o,q2,q3⟩:=r1.maps b L es h2 hg;exact⟨q1,o,q2,q3.mono le1⟩
  ·rw[h3] at hg;obtain⟨es0,g1,rfl⟩:=shm hg;obtain⟨q1,o,q2,q3⟩:=r2.maps c L es0 h2 g1;exact⟨q1,o,q2,q3.sh n2⟩
 ·intro b L e af cs hb hg b' L' x hb' hx hd he;rcases split b L hb with⟨h1,h2,h3⟩|⟨c,rfl,h2,h3,h4⟩<;>rcases split b' L' hb' with⟨i1,i2,i3⟩|⟨c',rfl,i2,i3,i4⟩
  ·rw[h3] at hg;rw[i3] at hx;exact r.excl b L e af cs h2 hg b' L' x i2 hx hd he
  ·rw[h3] at hg;have:=oldlt b L _ h2 hg (by simp);omega
  ·rw[i3] at hx;have:=oldlt b' L' _ i2 hx hd;omega
  ·rw[h3] at hg;rw[i3] at hx;obtain⟨cs0,g1,rfl⟩:=shc hg;obtain⟨x0,g2,g3⟩:=shn hx hd;rw[r2.excl c L e af cs0 h2 g1 c' L' x0 i2 g2 g3 he]
 ·intro b L es hb hg b' L' x hb' hx hd he;rcases split b L hb with⟨h1,h2,h3⟩|⟨c,rfl,h2,h3,h4⟩
  ·rw[h3] at hg;rcases split b' L' hb' with⟨i1,i2,i3⟩|⟨c',rfl,i2,i3,i4⟩
   ·rw[i3] at hx;exact r.exclm b L es h2 hg b' L' x i2 hx hd he
   ·have:=oldlt b L _ h2 hg (by simp);omega
  ·rw[h3] at hg;obtain⟨es0,g1,rfl⟩:=shm hg;rcases split b' L' hb' with⟨i1,i2,i3⟩|⟨c',rfl,i2,i3,i4⟩
   ·rw[i3] at hx;have:=oldlt b' L' _ i2 hx hd;omega
   ·rw[i3] at hx;obtain⟨x0,g2,g3⟩:=shn hx hd;rw[r2.exclm c L es0 h2 g1 c' L' x0 i2 g2 g3 he]
 ·intro b L e wf cs hb hg b' L' e' wf' af' cs' hb' hx he;rcases split b L hb with⟨h1,h2,h3⟩|⟨c,rfl,h2,h3,h4⟩<;>rcases split b' L' hb' with⟨i1,i2,i3⟩|⟨c',rfl,i2,i3,i4⟩
  ·rw[h3] at hg;rw[i3] at hx;exact r.app b L e wf cs h2 hg b' L' e' wf' af' cs' i2 hx he
  ·rw[h3] at hg;have:=oldlt b L _ h2 hg (by simp);omega
  ·rw[i3] at hx;have:=oldlt b' L' _ i2 hx (by simp);omega
  ·rw[h3] at hg;rw[i3] at hx;obtain⟨cs0,g1,rfl⟩:=shc hg;obtain⟨cs1,g2,rfl⟩:=shc hx;have q:=r2.app c L e wf cs0 h2 g1 c' L' e' wf' af' cs1 i2 g2 he;rw[qcI,qcI];exact⟨q.1,fun hh=>by rw[q.2 hh]⟩
 ·intro b L hb hf;rw[qec] at hf;rcases split b L hb with⟨h1,h2,h3⟩|⟨c,rfl,h2,h3,h4⟩
  ·exact r.flr b L h2 hf
  ·exact qaF r.base h4
 ·intro k arr hk;refine⟨(r2.frz k arr hk).1,fun b L x hb hx hd=>?_⟩
  rcases split b L hb with⟨h1,h2,h3⟩|⟨c,rfl,h2,h3,h4⟩
  ·rw[h3] at hx;exact (r1.frz k arr hk).2 b L x h2 hx hd
  ·rw[h3] at hx;obtain⟨x0,g2,g3⟩:=shn hx hd;exact (r2.frz k arr hk).2 c L x0 h2 g2 g3
 ·refine⟨?_,fun b L hb=>?_⟩
  ·show h.sz+bs.length<=_;rw[qdj,List.length_map];exact Nat.le_refl _
  ·rcases split b L hb with⟨_,h2,_⟩|⟨c,rfl,h2,_,_⟩
   ·exact Nat.lt_of_lt_of_le (r.dn.2 b L h2) hw
   ·exact r2.dn.2 c L h2
def Own(P:Program)(f:Nat)(vs:List AV)(v:AV)(bs:List Blk):Prop :=
 ∀(h:Hp) (k:AV->Hp->Prop),k (shv h.sz v) (qbk h (bs.map (shb h.sz)))->SC P f vs h k
def qqq(v:AV)(bs:List Blk)(v':AV)(h':Hp):Prop:=h'.fl=0->∃src:List Nat,NV (rl src h'.sz) bs.length v' v∧BWs h' (rl src h'.sz) bs.length src bs∧(src.filter fun b=>decide (b<h'.sz)).Nodup
theorem Own.of_SC{f:Nat}{vs:List AV}{v:AV}{bs:List Blk}(hcl:qF vs=true)(hs:SC P f vs H0 (qqq v bs)):Own P f vs v bs:=by
 intro h k hk;refine⟨hs.1,fun ρ B w args r ha=>?_⟩
 have hcr:=ha.crs hcl;refine qcg.mono (hs.2 ⟨fun _=>none,ρ.frz,0⟩ (low w.heap.size) w args r.empty (CRs.vr (ρ:=⟨fun _=>none,ρ.frz,0⟩) hcr)) ?_
 rintro e w1 ⟨v0,v',h1,ρ1,rfl,g1,g2,g3,g4⟩;obtain⟨src,s1,s2,s3⟩:=g1 g4.fl;have hw:Wk 0 (mkT [(0,v0)]) h1 (mkT [(0,v)]) (mkH 0 bs):=Wk.mk [(0,v)] bs src ⟨⟨v0,by simp[mkT,Tr.get_set],s1⟩,trivial⟩ s2 s3 g4.fl
 obtain⟨ρ2,t2,r2,k2⟩:=hw ρ1 (low w.heap.size) w1 #[v'] (fun j x hj=>by
  have:=qdF hj;simp at this;obtain⟨rfl,rfl⟩:=this;exact⟨by simp,by simpa using g2⟩) g3
 have hv2:VR σ0 ρ2 v v':=by
  have:=(t2 0 v (by simp[mkT,Tr.get_set])).2;simpa using this
 have f1:∀k a,ρ.frz k=some a->ρ2.frz k=some a:=fun k a hk=>k2.frz k a (g4.frz k a hk)
 have f2:∀k a,ρ2.frz k=some a->ρ.frz k=some a∨w.heap.size<=k:=fun k a hk=>(k2.fnew k a hk).elim (fun hk=>(g4.fnew k a hk).imp id Nat.not_lt.1) (fun hk=>.inr (Nat.not_lt.1 hk))
 refine⟨_,v',_,ρ.join ρ2 h.sz bs.length,rfl,hk,hv2.sh r2.dn.1,Rel.joinH r r2 g4.pres g4.wle f1 f2,?_⟩;refine⟨fun b hb=>qgR hb,by rw[qdj];omega,qec,fun b _ hb=>by rw[qa5,if_pos hb],fun k hk=>g4.pres k (r.base _ hk),g4.wle,g4.io,f1,fun k a hk=>(f2 k a hk).imp id (qaF r.base),?_⟩
 exact Nat.le_trans r.dn.1 (Nat.le_add_right _ _)
theorem Own.mk{f:Nat}{i:IFn}{vs:List AV}{v:AV}{bs:List Blk}(hc:qd P f i=true)(hcl:qF vs=true)(hV:V P 0 i.body (qcm i.res (qqq v bs)) (qdZ vs 0 .leaf) H0):Own P f vs v bs :=
 Own.of_SC hcl (SC.mk hc (qp hV))
def qfi(P:Program)(f:Nat)(vs':List AV)(v:AV)(bs:List Blk):Prop :=
 ∀(h:Hp) (vs:List AV) (k:AV->Hp->Prop),Frzs h vs vs'->k (shv h.sz v) (qbk h (bs.map (shb h.sz)))->SC P f vs h k
def PC(P:Program)(f:Nat)(vs:List AV)(h:Hp)(k:AV->Hp->Prop):Prop:=∃v h',(∀k':AV->Hp->Prop,k' v h'->SC P f vs h k')∧k v h'
def PY(P:Program)(b:Nat)(vs:List AV)(h:Hp)(k:AV->Hp->Prop):Prop:=∃v h',(∀k':AV->Hp->Prop,k' v h'->CC P 0 (.yl b::vs) h k')∧k v h'
@[congr] theorem qw8 {f:Nat} {vs vs':List AV} {h:Hp} {k:AV->Hp->Prop} {mk:Prop} (_:qP=mk) (h':vs=vs'):PC P f vs h k=PC P f vs' h k:=by rw[h']
@[congr] theorem qw9 {b:Nat} {vs vs':List AV} {h:Hp} {k:AV->Hp->Prop} {mk:Prop} (_:qP=mk) (h':vs=vs'):PY P b vs h k=PY P b vs' h k:=by rw[h']
def PCC(P:Program):qU:=fun f vs h k=>∃v h',(∀k':AV->Hp->Prop,k' v h'->CC P f vs h k')∧k v h'
theorem qyO:LC (PCC P):=fun _ _ _ _ ⟨v,h',h1,h2⟩=>⟨v,h',h2,fun _ h3=>⟨v,h',h1,h3⟩⟩
theorem qnF:qbY P σ0 (PCC P):=⟨fun f vs h _ ⟨_,_,h1,h2⟩=>(qg2 P).1 f vs h _ (h1 _ h2),fun b vs h _ ⟨_,_,h1,h2⟩=>(qg2 P).2 b vs h _ (h1 _ h2)⟩
theorem qug{b:Nat}{vs:List AV}{h:Hp}{k:AV->Hp->Prop}:cvF (PCC P) (.yl b) vs h k↔PY P b vs h k:=Iff.rfl
theorem quf{f:Nat}{a c vs:List AV}{h:Hp}{k:AV->Hp->Prop}:cvF (PCC P) (.fn f a c) vs h k↔PC P f (a++(vs++c)) h k:=Iff.rfl
theorem qpS{dst:Option Nat}{f:Nat}{args:List O}{ops:List ROp}{Q:Tr AV->Hp->Prop}{t:Tr AV}{s fl:Nat}{tr:Tr Blk}:VR' (PCC P) (⟨dst,.callF f args,none⟩::ops) Q t ⟨s,fl,tr⟩↔qaj t args (fun vs=>PC P f vs ⟨s,s,tr⟩ (fun v h'=>qab t dst v (fun t'=>VR' (PCC P) ops Q t' (h'.down fl)))):=qmh
theorem qpT{dst:Option Nat}{f:Nat}{args:List O}{ops:List ROp}{Q:Tr AV->Hp->Prop}{t:Tr AV}{h:Hp}:VR' (PCC P) (⟨dst,.callW f args,none⟩::ops) Q t h↔qaj t args (fun vs=>PC P f vs h (fun v h'=>qab t dst v (fun t'=>VR' (PCC P) ops Q t' h'))):=qmj
theorem qaB{ops:List ROp}{Q:Tr AV->Hp->Prop}{t:Tr AV}{h:Hp}(hr:VR' (PCC P) ops Q t h):VD P ops Q t h:=qxh qyO qnF hr
theorem qg.pc{f:Nat}{vs:List AV}{v:AV}{h:Hp}{k:AV->Hp->Prop}(hp:qg P f vs v)(hk:k v h):PC P f vs h k:=⟨v,h,fun k' h'=>hp h k' h',hk⟩
theorem qfi.pc{f:Nat}{vs vs':List AV}{v:AV}{bs:List Blk}{h:Hp}{k:AV->Hp->Prop}(hp:qfi P f vs' v bs)(hf:Frzs h vs vs')(hk:k (shv h.sz v) (qbk h (bs.map (shb h.sz)))):PC P f vs h k:=⟨_,_,fun k' h'=>hp h vs k' hf h',hk⟩
theorem Own.sc{f:Nat}{vs:List AV}{v:AV}{bs:List Blk}{h:Hp}{k:AV->Hp->Prop}(hp:Own P f vs v bs)(hk:k (shv h.sz v) (qbk h (bs.map (shb h.sz)))):SC P f vs h k:=hp h k hk
theorem qgU{s f:Nat}{tr:Tr Blk}{x:Blk}:Hp.push ⟨s,f,tr⟩ x=⟨s+1,f,tr.set s x⟩:=rfl
theorem qey{h:Hp}:qbk h []=h:=rfl
theorem qdI{h:Hp}{x:Blk}{xs:List Blk}:qbk h (x::xs)=qbk (h.push x) xs:=rfl

abbrev qg0:=ICode->(X->Tr AV->Hp->Prop)->Tr AV->Hp->Prop
noncomputable def qiC(env:Tr IFn)(ih:qg0)(f:Nat)(args:List AV)(h:Hp)(k:AV->Hp->Prop):Prop :=
 env.getK f (fun fn=>IFn.rec (motive:=fun _=>Prop) (fun res body=>qjt args 0 .leaf (fun t0=>ih body (fun e t h' =>
  X.rec (motive:=fun _=>Prop) (qaH t h' res (fun vs=>k (qay vs) h')) (fun _=>False) (qaH t h' res (fun vs=>k (qay vs) h')) e) t0 h)) fn)
abbrev qgD:=Nat->List AV->Option AV
def qiw(P:Program)(ho:qgD):Prop:=∀f vs v,ho f vs=some v->qg P f vs v
noncomputable def qfn(env:Tr IFn)(ho:qgD)(ih:qg0)(f:Nat)(args:List AV)(h:Hp)(k:AV->Hp->Prop):Prop :=
 Option.rec (motive:=fun _=>Prop) (qiC env ih f args h k) (fun v=>k v h) (ho f args)
noncomputable def qob(env:Tr IFn)(ho:qgD)(ih:qg0):qU:=fun f args h k=>Nat.rec (motive:=fun _=>Prop) False (fun f _=>qfn env ho ih f args h k) f
noncomputable def fv(env:Tr IFn)(ho:qgD)(n:Nat):qg0 :=
 Nat.rec (motive:=fun _=>qg0) (fun _ _ _ _=>False) (fun _ ih c Q t h=>match c with
  | .skip=>Q .normal t h
  | .reg draw ops=>qfN qt draw (qob env ho ih) ops (fun t h=>Q .normal t h) t h
  | .rangeF _ _ _ _ _=>False
  | .seq x y=>ih x (fun e t h=>X.rec (motive:=fun _=>Prop) (ih y Q t h) (fun id=>Q (.exit id) t h) (Q .ret t h) e) t h
  | .cond c x y=>evK t c (fun v=>unB v (fun b=>Bool.rec (motive:=fun _=>Prop) (ih y Q t h) (ih x Q t h) b))
  | .blk id x=>ih x (fun e t h=>X.rec (motive:=fun _=>Prop) (Q .normal t h) (fun id'=>Bool.rec (motive:=fun _=>Prop) (Q (.exit id') t h) (Q .normal t h) (Nat.beq id' id)) (Q .ret t h) e) t h
  | .loop x=>ih x (fun e t h=>X.rec (motive:=fun _=>Prop) (ih (.loop x) Q t h) (fun id=>Q (.exit id) t h) (Q .ret t h) e) t h
  | .exit id=>Q (.exit id) t h
  | .ret=>Q .ret t h
  | .no=>False
  | .cut x=>ih x Q t h) n
def LB(ih:qg0):Prop:=∀c Q t h,ih c Q t h->∃e t' h',Q e t' h'∧∀Q',Q' e t' h'->ih c Q' t h
theorem qoa(env:Tr IFn){ih:qg0}(hi:LB ih):LC (qiC env ih):=by
 intro f vs h k hk;obtain⟨fn,g1,g2⟩:=(Tr.getK_iff _ _ _).1 hk;cases fn with
 | mk res body =>
  obtain⟨t0,g3,g4⟩:=qls vs 0 .leaf _ g2;obtain⟨e,t',h',h1,h2⟩:=hi _ _ _ _ g3
  have back:∀k',(X.rec (motive:=fun _=>Prop) (qaH t' h' res (fun vs=>k' (qay vs) h')) (fun _=>False) (qaH t' h' res (fun vs=>k' (qay vs) h')) e:Prop)->qiC env ih f vs h k':=fun k' hk' =>
   (Tr.getK_iff _ _ _).2 ⟨⟨res,body⟩,g1,g4 (fun t0=>ih body (fun e t h'=>X.rec (motive:=fun _=>Prop) (qaH t h' res (fun vs=>k' (qay vs) h')) (fun _=>False) (qaH t h' res (fun vs=>k' (qay vs) h')) e) t0 h) (h2 (fun e t h'=>X.rec (motive:=fun _=>Prop) (qaH t h' res (fun vs=>k' (qay vs) h')) (fun _=>False) (qaH t h' res (fun vs=>k' (qay vs) h')) e) hk')⟩
  cases e with
  | exit id=>exact h1.elim
  | normal =>
   obtain⟨vs,h3,h4⟩:=qhK t' h' res _ h1;exact⟨_,_,h3,fun k' hk'=>back k' (h4 (fun vs=>k' (qay vs) h') hk')⟩
  | ret =>
   obtain⟨vs,h3,h4⟩:=qhK t' h' res _ h1;exact⟨_,_,h3,fun k' hk'=>back k' (h4 (fun vs=>k' (qay vs) h') hk')⟩
theorem qqW(env:Tr IFn)(ho:qgD){ih:qg0}(hi:LB ih):LC (qfn env ho ih):=by
 intro f vs h k hk;unfold qfn at hk;cases hv:ho f vs with
 | none =>
  rw[hv] at hk;obtain⟨v,h',h1,h2⟩:=qoa env hi f vs h k hk;exact⟨v,h',h1,fun k' hk'=>by unfold qfn;rw[hv];exact h2 k' hk'⟩
 | some v =>
  rw[hv] at hk;exact⟨v,h,hk,fun k' hk'=>by unfold qfn;rw[hv];exact hk'⟩
theorem qjC(env:Tr IFn)(ho:qgD){ih:qg0}(hi:LB ih):LC (qob env ho ih):=by
 intro f vs h k hk;cases f with
 | zero=>exact hk.elim
 | succ f=>exact qqW env ho hi f vs h k hk
theorem qxP(env:Tr IFn)(ho:qgD):∀n,LB (fv env ho n)
 | 0=>fun _ _ _ _ h=>h.elim
 | n+1=>fun c Q t h hk=>by
  have ih:=qxP env ho n;cases c with
  | no=>exact hk.elim
  | rangeF=>exact hk.elim
  | cut x=>exact ih _ _ _ _ hk
  | skip=>exact⟨_,_,_,hk,fun _ h=>h⟩
  | exit id=>exact⟨_,_,_,hk,fun _ h=>h⟩
  | ret=>exact⟨_,_,_,hk,fun _ h=>h⟩
  | reg draw ops =>
   obtain⟨t',h',h1,h2⟩:=qlb qt draw (qjC env ho ih) ops t h _ hk;exact⟨_,_,_,h1,fun Q' hQ=>h2 (fun t h=>Q' .normal t h) hQ⟩
  | seq x y =>
   obtain⟨e,t1,h1,g1,g2⟩:=ih _ _ _ _ hk;cases e with
   | normal =>
    obtain⟨e2,t2,h2,g3,g4⟩:=ih _ _ _ _ g1;exact⟨e2,t2,h2,g3,fun Q' hQ=>g2 (fun e t h=>X.rec (motive:=fun _=>Prop) (fv env ho n y Q' t h) (fun id=>Q' (.exit id) t h) (Q' .ret t h) e) (g4 _ hQ)⟩
   | exit id=>exact⟨_,t1,h1,g1,fun Q' hQ=>g2 (fun e t h=>X.rec (motive:=fun _=>Prop) (fv env ho n y Q' t h) (fun id=>Q' (.exit id) t h) (Q' .ret t h) e) hQ⟩
   | ret=>exact⟨_,t1,h1,g1,fun Q' hQ=>g2 (fun e t h=>X.rec (motive:=fun _=>Prop) (fv env ho n y Q' t h) (fun id=>Q' (.exit id) t h) (Q' .ret t h) e) hQ⟩
  | cond c x y =>
   obtain⟨v,g1,g2⟩:=qn t c _ hk;obtain⟨b,g3,g4⟩:=qfV v _ g1;cases b with
   | true =>
    obtain⟨e,t1,h1,g5,g6⟩:=ih _ _ _ _ g3;exact⟨e,t1,h1,g5,fun Q' hQ=>g2 (fun v=>unB v (fun b=>Bool.rec (motive:=fun _=>Prop) (fv env ho n y Q' t h) (fv env ho n x Q' t h) b)) (g4 (fun b=>Bool.rec (motive:=fun _=>Prop) (fv env ho n y Q' t h) (fv env ho n x Q' t h) b) (g6 _ hQ))⟩
   | false =>
    obtain⟨e,t1,h1,g5,g6⟩:=ih _ _ _ _ g3;exact⟨e,t1,h1,g5,fun Q' hQ=>g2 (fun v=>unB v (fun b=>Bool.rec (motive:=fun _=>Prop) (fv env ho n y Q' t h) (fv env ho n x Q' t h) b)) (g4 (fun b=>Bool.rec (motive:=fun _=>Prop) (fv env ho n y Q' t h) (fv env ho n x Q' t h) b) (g6 _ hQ))⟩
  | blk id x =>
   obtain⟨e,t1,h1,g1,g2⟩:=ih _ _ _ _ hk;cases e with
   | normal=>exact⟨_,t1,h1,g1,fun Q' hQ=>g2 (fun e t h=>X.rec (motive:=fun _=>Prop) (Q' .normal t h) (fun id'=>Bool.rec (motive:=fun _=>Prop) (Q' (.exit id') t h) (Q' .normal t h) (Nat.beq id' id)) (Q' .ret t h) e) hQ⟩
   | ret=>exact⟨_,t1,h1,g1,fun Q' hQ=>g2 (fun e t h=>X.rec (motive:=fun _=>Prop) (Q' .normal t h) (fun id'=>Bool.rec (motive:=fun _=>Prop) (Q' (.exit id') t h) (Q' .normal t h) (Nat.beq id' id)) (Q' .ret t h) e) hQ⟩
   | exit id' =>
    have g1':(Bool.rec (motive:=fun _=>Prop) (Q (.exit id') t1 h1) (Q .normal t1 h1) (Nat.beq id' id):Prop):=g1
    cases hb:Nat.beq id' id with
    | true =>
     rw[hb] at g1';refine⟨_,t1,h1,g1',fun Q' hQ=>g2 (fun e t h=>X.rec (motive:=fun _=>Prop) (Q' .normal t h) (fun id'=>Bool.rec (motive:=fun _=>Prop) (Q' (.exit id') t h) (Q' .normal t h) (Nat.beq id' id)) (Q' .ret t h) e) ?_⟩
     show (Bool.rec (motive:=fun _=>Prop) (Q' (.exit id') t1 h1) (Q' .normal t1 h1) (Nat.beq id' id):Prop)
     rw[hb];exact hQ
    | false =>
     rw[hb] at g1';refine⟨_,t1,h1,g1',fun Q' hQ=>g2 (fun e t h=>X.rec (motive:=fun _=>Prop) (Q' .normal t h) (fun id'=>Bool.rec (motive:=fun _=>Prop) (Q' (.exit id') t h) (Q' .normal t h) (Nat.beq id' id)) (Q' .ret t h) e) ?_⟩
     show (Bool.rec (motive:=fun _=>Prop) (Q' (.exit id') t1 h1) (Q' .normal t1 h1) (Nat.beq id' id):Prop)
     rw[hb];exact hQ
  | loop x =>
   obtain⟨e,t1,h1,g1,g2⟩:=ih _ _ _ _ hk;cases e with
   | normal =>
    obtain⟨e2,t2,h2,g3,g4⟩:=ih _ _ _ _ g1;exact⟨e2,t2,h2,g3,fun Q' hQ=>g2 (fun e t h=>X.rec (motive:=fun _=>Prop) (fv env ho n (.loop x) Q' t h) (fun id=>Q' (.exit id) t h) (Q' .ret t h) e) (g4 _ hQ)⟩
   | exit id=>exact⟨_,t1,h1,g1,fun Q' hQ=>g2 (fun e t h=>X.rec (motive:=fun _=>Prop) (fv env ho n (.loop x) Q' t h) (fun id=>Q' (.exit id) t h) (Q' .ret t h) e) hQ⟩
   | ret=>exact⟨_,t1,h1,g1,fun Q' hQ=>g2 (fun e t h=>X.rec (motive:=fun _=>Prop) (fv env ho n (.loop x) Q' t h) (fun id=>Q' (.exit id) t h) (Q' .ret t h) e) hQ⟩

theorem S.mono{n:Nat}{c:ICode}{Q Q':X->Tr AV->Hp->Prop}{t:Tr AV}{h:Hp}(hs:S P n c Q t h)(hq:∀e t h,Q e t h->Q' e t h):S P n c Q' t h:=by
 intro nt code hc hn ro hro ρ B w a ht hsz r;refine wpIn_mono (hs nt code hc hn ro hro ρ B w a ht hsz r) ?_;rintro e a1 w1 ⟨x1,t1,h1,ρ1,rs,hx,hq1,rest⟩;exact⟨x1,t1,h1,ρ1,rs,hx,hq _ _ _ hq1,rest⟩
theorem S.reg{n:Nat}{d:Bool}{rs:List ROp}{C:qU}(hl:LC C)(hC:qbY P σ0 C){Q:X->Tr AV->Hp->Prop}{t:Tr AV}{h:Hp}(hv:qfN qt d C rs (fun t h=>Q .normal t h) t h):S P n (.reg d rs) Q t h:=by
 intro nt code hc hn ro hro ρ B w a ht hsz r;cases code<;>first|(simp[qC] at hc;done)|skip
 rename_i id ops d';simp only[qC,Bool.and_eq_true] at hc;obtain⟨⟨h1,h2⟩,h3⟩:=hc;obtain rfl:=eq_of_beq h1;cases d' with
 | false =>
  refine wpIn_region ?_
  have:=qi5 (ops:=ops) (nt:=nt) (ro:=ro) (K:=qbE σ0 Q nt n ρ B h w a.defers) (ρ0:=ρ) (h0:=h) (w0:=w) (ds:=a.defers) (qgT P) hC (fun a' w' t' h' ρ' g1 g2 g3 g4 g5 g6=>qbE.of .normal g1 g2 g3 g4 g5 (g6.kep hn))
   ops.toList rs 0 h2 rfl t h ρ w a hv ht hsz rfl r (Kept.refl _ _ _ _)
  rw[List.range_eq_range'];simpa using this
 | true =>
  simp only[Bool.not_true,Bool.false_or,Bool.and_eq_true] at h3;exact qly (qgT P) hl hC h2 h3.1 h3.2 hv ht hsz r (fun a' w' t' h' ρ' g1 g2 g3 g4 g5 g6=>qbE.of .normal g1 g2 g3 g4 g5 (g6.kep hn))
theorem S.seq{n:Nat}{x y:ICode}{Q:X->Tr AV->Hp->Prop}{t:Tr AV}{h:Hp}(hv:S P n x (fun e t h=>onX e (S P n y Q t h) (fun id=>Q (.exit id) t h) (Q .ret t h)) t h):S P n (.seq x y) Q t h:=by
 intro nt code hc hn ro hro ρ B w a ht hsz r;cases code<;>first|(simp[qC] at hc;done)|skip
 rename_i cx cy;simp only[qC,Bool.and_eq_true] at hc;refine wpIn_seq (wpIn_mono (hv nt cx hc.1 hn ro (nr1 hro) ρ B w a ht hsz r) ?_);rintro e a1 w1 ⟨x1,t1,h1,ρ1,rs,hx,hq,ht1,hs1,hd1,hm,r1,k1⟩;cases hx with
 | normal=>exact wpIn_mono (hq nt cy hc.2 k1.szle ro (nr2 hro) ρ1 _ w1 a1 ht1 hs1 r1) (fun e a2 w2 hp=>qbE.trans k1 hm hd1 hm.lt hp)
 | exit id=>exact⟨_,t1,h1,ρ1,rs,.exit id,hq,ht1,hs1,hd1,hm,r1,k1⟩
 | ret=>exact⟨_,t1,h1,ρ1,rs,.ret,hq,ht1,hs1,hd1,hm,r1,k1⟩
theorem S.cond{n:Nat}{c:O}{x y:ICode}{Q:X->Tr AV->Hp->Prop}{t:Tr AV}{h:Hp}(hv:evK t c (fun v=>unB v (fun b=>if b=true then S P n x Q t h else S P n y Q t h))):S P n (.cond c x y) Q t h:=by
 intro nt code hc hn ro hro ρ B w a ht hsz r;cases code<;>first|(simp[qC] at hc;done)|skip
 rename_i cc cx cy;simp only[qC,Bool.and_eq_true] at hc;obtain⟨⟨h1,h2⟩,h3⟩:=hc;obtain⟨v,h4,h5⟩:=qA ht h1 hv;obtain⟨b,h6,h7⟩:=qhU h5 h4;cases b with
 | true=>exact wpIn_cond_true h6 (h7 nt cx h2 hn ro (nr1 hro) ρ B w a ht hsz r)
 | false=>exact wpIn_cond_false h6 (h7 nt cy h3 hn ro (nr2 hro) ρ B w a ht hsz r)
theorem S.blk{n id:Nat}{x:ICode}{Q:X->Tr AV->Hp->Prop}{t:Tr AV}{h:Hp}(hv:S P n x (fun e t h=>onX e (Q .normal t h) (fun i=>if i=id then Q .normal t h else Q (.exit i) t h) (Q .ret t h)) t h):S P n (.blk id x) Q t h:=by
 intro nt code hc hn ro hro ρ B w a ht hsz r;cases code<;>first|(simp[qC] at hc;done)|skip
 rename_i id' cx;simp only[qC,Bool.and_eq_true] at hc;obtain rfl:=eq_of_beq hc.1;refine wpIn_block (wpIn_mono (hv nt cx hc.2 hn ro hro ρ B w a ht hsz r) ?_);rintro e a1 w1 ⟨x1,t1,h1,ρ1,rs,hx,hq,ht1,hs1,hd1,hm,r1,k1⟩;cases hx with
 | normal=>exact⟨_,t1,h1,ρ1,rs,.normal,hq,ht1,hs1,hd1,hm,r1,k1⟩
 | ret=>exact⟨_,t1,h1,ρ1,rs,.ret,hq,ht1,hs1,hd1,hm,r1,k1⟩
 | exit id2 =>
  show (if id2=id' then _ else _)
  have hq':(if id2=id' then Q .normal t1 h1 else Q (.exit id2) t1 h1):=hq
  by_cases he:id2=id'
  ·rw[if_pos he] at hq' ⊢;exact⟨_,t1,h1,ρ1,rs,.normal,hq',ht1,hs1,hd1,hm,r1,k1⟩
  ·rw[if_neg he] at hq' ⊢;exact⟨_,t1,h1,ρ1,rs,.exit id2,hq',ht1,hs1,hd1,hm,r1,k1⟩
theorem S.loop{n:Nat}{x:ICode}{Q:X->Tr AV->Hp->Prop}{t:Tr AV}{h:Hp}(hv:SL P n x Q t h):S P n (.loop x) Q t h:=by
 intro nt code hc hn ro hro ρ B w a ht hsz r;cases code<;>first|(simp[qC] at hc;done)|skip
 rename_i cx;exact qik (hv nt cx (by simpa[qC] using hc) hn ro hro ρ B w a ht hsz r)
theorem SL.of_S{n:Nat}{x:ICode}{Q:X->Tr AV->Hp->Prop}{t:Tr AV}{h:Hp}(hv:S P n x (fun e t h=>onX e (SL P n x Q t h) (fun id=>Q (.exit id) t h) (Q .ret t h)) t h):SL P n x Q t h:=by
 intro nt cx hc hn ro hro ρ B w a ht hsz r;refine qgz (wpIn_mono (hv nt cx hc hn ro hro ρ B w a ht hsz r) ?_);rintro e a1 w1 ⟨x1,t1,h1,ρ1,rs,hx,hq,ht1,hs1,hd1,hm,r1,k1⟩;cases hx with
 | normal=>exact qcL.mono (hq nt cx hc k1.szle ro hro ρ1 _ w1 a1 ht1 hs1 r1) (fun e a2 w2 hp=>qbE.trans k1 hm hd1 hm.lt hp)
 | exit id=>exact⟨_,t1,h1,ρ1,rs,.exit id,hq,ht1,hs1,hd1,hm,r1,k1⟩
 | ret=>exact⟨_,t1,h1,ρ1,rs,.ret,hq,ht1,hs1,hd1,hm,r1,k1⟩
def qg1(P:Program)(env:Tr IFn):Prop:=∀f i,env.get f=some i->qd P f i=true
theorem qh5:∀{l:List AV} {n:Nat} {t:Tr AV} {k:Tr AV->Prop},qjt l n t k↔k (qdZ l n t)
 | [],_,_,_=>Iff.rfl
 | v::l,n,t,k=>by
  show t.setK n v (fun t'=>qj (Nat.succ n) (fun n'=>qjt l n' t' k))↔_
  rw[Tr.setK_iff,qo,qh5];exact Iff.rfl
theorem qiD{env:Tr IFn}(he:qg1 P env){ih:qg0}(hi:∀c Q t h,ih c Q t h->∀n,S P n c Q t h){f:Nat}{vs:List AV}{h:Hp}{k:AV->Hp->Prop}(hk:qiC env ih f vs h k):SC P f vs h k:=by
 obtain⟨fn,g1,g2⟩:=(Tr.getK_iff _ _ _).1 hk;cases fn with
 | mk res body =>
  have g3:=qh5.1 g2;exact SC.mk (he f _ g1) (hi _ _ _ _ g3 h.sz)
theorem qgk{env:Tr IFn}{ho:qgD}(he:qg1 P env)(hh:qiw P ho){ih:qg0}(hi:∀c Q t h,ih c Q t h->∀n,S P n c Q t h){f:Nat}{vs:List AV}{h:Hp}{k:AV->Hp->Prop}(hk:qfn env ho ih f vs h k):SC P f vs h k:=by
 unfold qfn at hk;cases hv:ho f vs with
 | none=>rw[hv] at hk;exact qiD he hi hk
 | some v=>rw[hv] at hk;exact hh f vs v hv h k hk
theorem qjS{env:Tr IFn}{ho:qgD}(he:qg1 P env)(hh:qiw P ho):∀m,(∀c Q t h,fv env ho m c Q t h->∀n,S P n c Q t h)∧(∀x Q t h,fv env ho m (.loop x) Q t h->∀n,SL P n x Q t h)
 | 0=>⟨fun _ _ _ _ h=>h.elim,fun _ _ _ _ h=>h.elim⟩
 | m+1=>by
  obtain⟨ih,ihl⟩:=qjS he hh m
  have loop:∀x Q t h,fv env ho (m+1) (.loop x) Q t h->∀n,SL P n x Q t h:=by
   intro x Q t h hv n;have hv':fv env ho m x (fun e t h=>onX e (fv env ho m (.loop x) Q t h) (fun id=>Q (.exit id) t h) (Q .ret t h)) t h:=hv
   refine SL.of_S ((ih _ _ _ _ hv' n).mono ?_);intro e t h hq;cases e with
   | normal=>exact ihl x Q t h hq n
   | exit id=>exact hq
   | ret=>exact hq
  refine⟨fun c Q t h hv n=>?_,loop⟩
  cases c with
  | no=>exact hv.elim
  | rangeF=>exact hv.elim
  | cut x=>exact qp (c:=.cut x) (ih _ _ _ _ hv n)
  | skip=>exact qp (c:=.skip) hv
  | exit id=>exact qp (c:=.exit id) hv
  | ret=>exact qp (c:=.ret) hv
  | reg d ops=>exact S.reg (qjC env ho (qxP env ho m)) ⟨fun f vs h k hk=>qgk he hh ih hk,fun _ _ _ _ hk=>hk.elim⟩ hv
  | seq x y =>
   have hv':fv env ho m x (fun e t h=>onX e (fv env ho m y Q t h) (fun id=>Q (.exit id) t h) (Q .ret t h)) t h:=hv
   refine S.seq ((ih _ _ _ _ hv' n).mono ?_);intro e t h hq;cases e with
   | normal=>exact ih y Q t h hq n
   | exit id=>exact hq
   | ret=>exact hq
  | cond c x y =>
   obtain⟨v,g1,g2⟩:=qn t c _ hv;refine S.cond (g2 _ ?_);obtain⟨b,g3,g4⟩:=qfV v _ g1;refine g4 _ ?_;cases b with
   | true=>exact ih _ _ _ _ g3 n
   | false=>exact ih _ _ _ _ g3 n
  | blk id x =>
   have hv':fv env ho m x (fun e t h=>X.rec (motive:=fun _=>Prop) (Q .normal t h) (fun id'=>Bool.rec (motive:=fun _=>Prop) (Q (.exit id') t h) (Q .normal t h) (Nat.beq id' id)) (Q .ret t h) e) t h:=hv
   refine S.blk ((ih _ _ _ _ hv' n).mono ?_);intro e t h hq;cases e with
   | normal=>exact hq
   | ret=>exact hq
   | exit i =>
    have hq':(Bool.rec (motive:=fun _=>Prop) (Q (.exit i) t h) (Q .normal t h) (Nat.beq i id):Prop):=hq
    show (if i=id then _ else _)
    by_cases hi:i=id
    ·subst hi;rw[Nat.beq_refl] at hq';rw[if_pos rfl];exact hq'
    ·rw[if_neg hi];cases hb:Nat.beq i id with
     | true=>exact absurd (Nat.eq_of_beq_eq_true hb) hi
     | false=>rw[hb] at hq';exact hq'
  | loop x=>exact S.loop (loop x Q t h hv n)
theorem SC.run{env:Tr IFn}{ho:qgD}(he:qg1 P env)(hh:qiw P ho)(m:Nat){f:Nat}{vs:List AV}{h:Hp}{k:AV->Hp->Prop}(hk:qfn env ho (fv env ho m) f vs h k):SC P f vs h k:=qgk he hh (qjS he hh m).1 hk
end Go.Kc
end
section
namespace Go.Kc
variable {P:Program} {t:Tr AV} {h:Hp} {k:AV->Hp->Prop}

def qhN(l:List UInt8)(i:Nat):Nat×Nat:=Utf8.decode ⟨l.toArray⟩ i
theorem qnj{x:O}:opK qt (.rangeS x) t h k↔evK t x (fun x=>match x with | .s a=>xe h (.map (zR a 0)) (fun b h'=>k (.ptr b 0) h')|_=>False):=Iff.rfl
def qrF(x:Blk)(k:List UInt8->Nat->Prop):Prop:=∃a n,x = .map (zR a n)∧k a n
@[congr] theorem quE {x x':Blk} {k:List UInt8->Nat->Prop} {mk:Prop} (_:qP=mk) (h:x=x'):qrF x k=qrF x' k:=by rw[h]
theorem qmX{a a':List UInt8}{n n':Nat}(e:zR a n=zR a' n'):a=a'∧n=n':=by
 simp only[zR,List.cons.injEq,Prod.mk.injEq,AV.s.injEq,AV.i.injEq,true_and,and_true] at e;exact⟨e.1,Int.ofNat.inj e.2⟩
theorem qrG{a:List UInt8}{n:Nat}{k:List UInt8->Nat->Prop}:qrF (.map (zR a n)) k↔k a n:=by
 constructor
 ·rintro⟨a',n',h1,h2⟩;obtain⟨rfl,rfl⟩:=qmX (Blk.map.inj h1);exact h2
 ·intro h1;exact⟨a,n,rfl,h1⟩
theorem qpP{x:O}:opK qt (.nextS x) t h k↔evK t x (fun x=>unP x (fun b o=>ifK (o=0) (evB (h.tr.get b) (fun y=>qrF y (fun a n=>if n<a.length then evN (n+(qhN a n).2) (fun m=>qao h b (.map (zR a m)) (fun h'=>evA (.i .i32 ((qhN a n).1:Int)) (fun c=>k (.tup [.b true,.i .i64 (n:Int),c]) h'))) else k (.tup [.b false]) h))))):=by
 show evK t x (fun x=>unP x (fun b o=>qf (Nat.beq o 0) (qif h b _)))↔_
 refine iff_of_eq (congrArg _ (funext fun v=>congrArg _ (funext fun b=>funext fun o=>?_)))
 rw[show (qf (Nat.beq o 0)=fun p=>ifK (o=0) p) from by funext p;exact propext ((qa _ _).trans (by rw[qdr];exact Iff.rfl))]
 refine congrArg _ (propext (qes.trans ?_))
 have body:∀a n,(match a[n]? with
  | some c=>(Bool.rec (motive:=fun _=>Prop)
    (qao h b (.map (zR a (Nat.add n (Utf8.decode ⟨a.toArray⟩ n).2))) (fun h'=>k (.tup [.b true,.i .i64 (Int.ofNat n),.i .i32 (Int.ofNat (Utf8.decode ⟨a.toArray⟩ n).1)]) h'))
    (qj (Nat.succ n) (fun m=>qao h b (.map (zR a m)) (fun h'=>k (.tup [.b true,.i .i64 (Int.ofNat n),.i .i32 (Int.ofNat c.toNat)]) h')))
    (Nat.ble (Nat.succ c.toNat) 128):Prop)
  | none=>k (.tup [.b false]) h)↔if n<a.length then evN (n+(qhN a n).2) (fun m=>qao h b (.map (zR a m)) (fun h'=>evA (.i .i32 ((qhN a n).1:Int)) (fun c=>k (.tup [.b true,.i .i64 (n:Int),c]) h'))) else k (.tup [.b false]) h:=by
  intro a n
  by_cases hi:n<a.length
  ·rw[if_pos hi,zzE hi];dsimp only;cases hc:Nat.ble (Nat.succ a[n].toNat) 128 with
   | false=>exact Iff.rfl
   | true =>
    have hlt:=Nat.le_of_ble_eq_true hc;have hd:qhN a n=(a[n].toNat,1):=qfq (zzE hi) (by omega);show qj _ _↔_;rw[qo,hd];exact Iff.rfl
  ·rw[if_neg hi,List.getElem?_eq_none (by omega)]
 constructor
 ·rintro⟨a,n,h1,h2⟩;exact⟨_,h1,a,n,rfl,(body a n).1 h2⟩
 ·rintro⟨_,h1,a,n,rfl,h2⟩;exact⟨a,n,h1,(body a n).2 h2⟩
def qdE(es:List (AV×AV)):Prop:=∀e ∈ es,clo e.1=true∧clo e.2=true
theorem qtX{r:Nat->Nat}{m b:Nat}{es:List (AV×AV)}(hb:b<h.sz):BW h r m b (.map es)↔evB (h.tr.get b) (fun x=>qkg x (fun es'=>EsW r m es' es)):=by
 constructor
 ·rintro (h1|h1|⟨e',w0,a0,cs,w',a',cs'',h1,h2,h3,h4,h5⟩|⟨es',es2,h1,h2,h3⟩)
  ·omega
  ·cases h1
  ·cases h2
  ·cases h2;exact⟨_,h1,h3⟩
 ·rintro⟨x,h1,h2⟩;cases x with
  | map es'=>exact .inr (.inr (.inr ⟨_,_,h1,rfl,h2⟩))
  | dead=>exact h2.elim
  | cells e0 w0 a0 cs=>exact h2.elim
theorem qiM{r:Nat->Nat}{m:Nat}{es es':List (AV×AV)}(hn:∀lr ts,es'≠zD lr ts):EsW r m es es'↔es=es'∧qdE es' :=
 ⟨fun h=>by
  rcases h with⟨rfl,h⟩|⟨lr,ts,ts',_,h,_⟩
  ·exact⟨rfl,h⟩
  ·exact absurd h (hn _ _),fun⟨h1,h2⟩=>by subst h1;exact .inl ⟨rfl,h2⟩⟩
theorem qrc{r:Nat->Nat}{m:Nat}{es:List (AV×AV)}:EsW r m es []↔es=[]:=(qiM (by simp[zD])).trans ⟨And.left,fun h=>⟨h,by intro e he;cases he⟩⟩
theorem qxJ{r:Nat->Nat}{m:Nat}{es es':List (AV×AV)}{a:List UInt8}{v:AV}:EsW r m es ((.s a,v)::es')↔es=(.s a,v)::es'∧qdE ((.s a,v)::es'):=qiM (by simp[zD])
theorem qxI{r:Nat->Nat}{m:Nat}{es es':List (AV×AV)}{q:IntKind}{a:Int}{v:AV}:EsW r m es ((.i q a,v)::es')↔es=(.i q a,v)::es'∧qdE ((.i q a,v)::es'):=qiM (by simp[zD])
theorem qup{r:Nat->Nat}{m:Nat}{es:List (AV×AV)}{a:List UInt8}{n:Nat}:EsW r m es (zR a n)↔es=zR a n∧qdE (zR a n):=qiM (by simp[zR,zD])
theorem qrd{r:Nat->Nat}{m:Nat}{lr lr':Loop}{ts ts':List (Nat×AV)}:EsW r m (zD lr ts) (zD lr' ts')↔lr=lr'∧TsW r m ts ts' :=
 ⟨fun h=>by
  rcases h with⟨h1,h⟩|⟨l,t1,t2,h1,h2,h3⟩
  ·exact absurd (h (.lp lr,.undef) (by simp[zD])).1 (by simp[clo])
  ·obtain⟨rfl,rfl⟩:=qhI h1;obtain⟨rfl,rfl⟩:=qhI h2;exact⟨rfl,h3⟩,fun⟨h1,h2⟩=>by subst h1;exact .inr ⟨_,_,_,rfl,rfl,h2⟩⟩
theorem qsQ{r:Nat->Nat}{m:Nat}{ts:List (Nat×AV)}:TsW r m ts []↔True:=iff_true_intro (by intro p hp;cases hp)
theorem qqf{r:Nat->Nat}{m:Nat}{ts ts':List (Nat×AV)}{p:Nat×AV}:TsW r m ts (p::ts')↔evO (qgw ts p.1) (fun v=>NV r m v p.2)∧TsW r m ts ts':=by
 simp only[TsW,List.mem_cons,forall_eq_or_imp];exact Iff.rfl
theorem qk2{p:Nat×AV}{l:List (Nat×AV)}{j:Nat}:qgw (p::l) j=if p.1=j then some p.2 else qgw l j:=rfl
theorem qm8{a:List UInt8}{n:Nat}:qdE (zR a n)↔True:=by
 refine iff_true_intro ?_;intro e he;simp only[zR,List.mem_cons,List.mem_nil_iff,or_false] at he;rcases he with rfl|rfl<;>exact⟨rfl,rfl⟩
theorem qk3:qdE []↔True:=iff_true_intro (by intro e he;cases he)
theorem qkh{e:AV×AV}{es:List (AV×AV)}:qdE (e::es)↔(clo e.1=true∧clo e.2=true)∧qdE es:=by simp[qdE]
theorem SC.nil0{f:Nat}{k:AV->Hp->Prop}(h1:SC P f [.nils] h k)(h2:SC P f [.nz] h k):SC P f [.fz 0 []] h k:=by
 refine⟨h1.1,fun ρ B w args r ha=>?_⟩
 generalize hl:args.toList=xs at ha;cases ha with
 | cons _ _ x xs hx hxs =>
  cases hx with
  | fz _ off c _ k' arr hn hk hs=>exact h2.2 ρ B w args r (by rw[hl];exact .cons _ _ _ _ (.nz _ _) hxs)
  | fz0 a =>
   cases a with
   | none=>exact h1.2 ρ B w args r (by rw[hl];exact .cons _ _ _ _ .nils hxs)
   | some a=>exact h2.2 ρ B w args r (by rw[hl];exact .cons _ _ _ _ (.nz _ _) hxs)
theorem qb{r:Nat->Nat}{m:Nat}{vs:List AV}(hc:qF vs=true):NVs r m vs vs↔True:=iff_true_intro (NVs.refl hc)
theorem zn{vs:List AV}(hc:qF vs=true):Frzs h vs vs↔True:=iff_true_intro (Frzs.self hc)
theorem Wk.mkn{n:Nat}{t:Tr AV}(ts:List (Nat×AV))(bl:List Blk)(src:List Nat)(hT:TWs t (rl src h.sz) bl.length ts)(hB:BWs h (rl src h.sz) bl.length src bl)
  (hI:((src.filter fun b=>decide (b<h.sz)).Nodup)) (hfl:h.fl=0) (hn:n<=bl.length) (hlow:∀b,b<n->rl src h.sz b=b):Wk n t h (mkT ts) (mkH 0 bl):=by
 obtain⟨hlen,hget⟩:=hB.get;refine Wk.of (r:=rl src h.sz) ⟨hfl.symm,fun b' x' hb hg=>?_,fun b1 b2 h1 h2 _ _ he hl=>?_,fun b' _ _ _=>by rw[hfl];exact Nat.zero_le _,hlow,hn,fun b _ hb=>by rw[hfl] at hb;exact absurd hb (Nat.not_lt_zero _),fun j v' hj=>?_⟩
 ·rw[qcE] at hg;obtain⟨b,q1,q2⟩:=hget b' x' hg;have:rl src h.sz b'=b:=by simp[rl,List.getD_eq_getElem?_getD,q1]
  rw[this];exact q2
 ·have h1:b1<src.length:=by rw[hlen];exact h1
  have h2:b2<src.length:=by rw[hlen];exact h2
  simp only[rl,List.getD_eq_getElem?_getD,zzE h1,zzE h2,Option.getD_some] at he hl;exact Wk.mk.nodup_filter_inj hI h1 h2 he (by simpa using hl)
 ·exact hT.get _ (qdF hj)
end Go.Kc
end
section
namespace Go.Kc
variable {P:Program}

mutual
def rnv(g:Nat->Nat):AV->AV
 | .ptr b o=>.ptr (g b) o
 | .sl b o n c l=>.sl (g b) o n c l
 | .map b=>.map (g b)
 | .own b n=>.own (g b) n
 | .yl b=>.yl (g b)
 | .fn f a c=>.fn f (qa8 g a) (qa8 g c)
 | .ifc t v=>.ifc t (rnv g v)
 | .agg cs=>.agg (qa8 g cs)
 | .tup cs=>.tup (qa8 g cs)
 | v=>v
def qa8(g:Nat->Nat):List AV->List AV
 | []=>[]
 | v::vs=>rnv g v::qa8 g vs
end
mutual
def bnd(m:Nat):AV->Bool
 | .ptr b _=>decide (b<m)
 | .sl b _ _ _ _=>decide (b<m)
 | .map b=>decide (b<m)
 | .own b _=>decide (b<m)
 | .yl b=>decide (b<m)
 | .fn _ a c=>qbu m a&&qbu m c
 | .ifc _ v=>bnd m v
 | .agg cs=>qbu m cs
 | .tup cs=>qbu m cs
 | _=>true
def qbu(m:Nat):List AV->Bool
 | []=>true
 | v::vs=>bnd m v&&qbu m vs
end
theorem qhL{g:Nat->Nat}:∀{vs:List AV} {j:Nat},(qa8 g vs)[j]?=(vs[j]?).map (rnv g)
 | [],j=>by simp[qa8]
 | v::vs,0=>by simp[qa8]
 | v::vs,j+1=>by simpa[qa8] using qhL (vs:=vs) (j:=j)
theorem qaq{g:Nat->Nat}:∀{vs:List AV},(qa8 g vs).length=vs.length
 | []=>rfl
 | v::vs=>by simp[qa8,qaq (vs:=vs)]
theorem qjy{m:Nat}:∀{vs:List AV} {j:Nat} {v:AV},qbu m vs=true->vs[j]?=some v->bnd m v=true
 | [],_,_,_,h=>by simp at h
 | x::xs,0,_,hb,h=>by
  simp only[qbu,Bool.and_eq_true] at hb;simp at h;subst h;exact hb.1
 | x::xs,j+1,_,hb,h=>by
  simp only[qbu,Bool.and_eq_true] at hb;exact qjy (vs:=xs) (j:=j) hb.2 (by simpa using h)
mutual
theorem VR.rn{ρ2 ρ3:Ren}{g:Nat->Nat}(h1:∀b L,ρ2 b=some L->ρ3 (g b)=some L)(h2:∀k a,ρ2.frz k=some a->ρ3.frz k=some a)(h3:∀b,b<ρ2.n->g b<ρ3.n):∀{v:AV} {x:Value},VR σ0 ρ2 v x->VR σ0 ρ3 (rnv g v) x
 | _,_,.undef v=>.undef v
 | _,_,.b x=>.b x
 | _,_,.i k n=>.i k n
 | _,_,.s x=>.s x
 | _,_,.nilp=>.nilp
 | _,_,.ptr b o L h=>.ptr _ _ L (h1 _ _ h)
 | _,_,.nils=>.nils
 | _,_,.sl b o len cap c loose L h hc=>.sl _ _ _ _ _ _ L (h1 _ _ h) hc
 | _,_,.slz b o x l' L h=>.slz _ _ _ _ L (h1 _ _ h)
 | _,_,.nilf=>.nilf
 | _,_,.fn f first cap first' cap' q1 q2=>.fn _ _ _ _ _ (VRs.rn h1 h2 h3 q1) (VRs.rn h1 h2 h3 q2)
 | _,_,.nili=>.nili
 | _,_,.ifc t v v' h=>.ifc _ _ _ (VR.rn h1 h2 h3 h)
 | _,_,.agg cs cs' h=>.agg _ _ (VRs.rn h1 h2 h3 h)
 | _,_,.tup cs cs' h=>.tup _ _ (VRs.rn h1 h2 h3 h)
 | _,_,.nilm=>.nilm
 | _,_,.map b L h h0=>.map _ L (h1 _ _ h) h0
 | _,_,.sym j=>.sym j
 | _,_,.fz n off c cs k arr hn h hs=>.fz n off c cs k arr hn (h2 _ _ h) (hs.mono h2)
 | _,_,.fz0 a=>.fz0 a
 | _,_,.pf off base cs k arr h hs=>.pf off base cs k arr (h2 _ _ h) (hs.mono h2)
 | _,_,.e0 a=>.e0 a
 | _,_,.nz a c=>.nz a c
 | _,_,.own0 b a hb=>.own0 _ _ (h3 _ hb)
 | _,_,.own b n c L h hn hc'=>.own _ _ _ L (h1 _ _ h) hn hc'
 | _,_,.yl b L h=>.yl _ L (h1 _ _ h)
theorem VRs.rn{ρ2 ρ3:Ren}{g:Nat->Nat}(h1:∀b L,ρ2 b=some L->ρ3 (g b)=some L)(h2:∀k a,ρ2.frz k=some a->ρ3.frz k=some a)(h3:∀b,b<ρ2.n->g b<ρ3.n):∀{v:List AV} {x:List Value},VRs σ0 ρ2 v x->VRs σ0 ρ3 (qa8 g v) x
 | _,_,.nil=>.nil
 | _,_,.cons v vs v' vs' h hs=>.cons _ _ _ _ (VR.rn h1 h2 h3 h) (VRs.rn h1 h2 h3 hs)
end
mutual
theorem VR.nr{ρ ρs:Ren}{g:Nat->Nat}{m:Nat}(h1:∀b L,b<m->ρ (g b)=some L->ρs b=some L)(h2:ρs.frz=ρ.frz)(h3:ρs.n=m):∀{v:AV} {x:Value},bnd m v=true->VR σ0 ρ (rnv g v) x->VR σ0 ρs v x
 | .undef,_,_,h=>by cases h;exact .undef _
 | .b _,_,_,h=>by cases h;exact .b _
 | .i _ _,_,_,h=>by cases h;exact .i _ _
 | .s _,_,_,h=>by cases h;exact .s _
 | .nilp,_,_,h=>by cases h;exact .nilp
 | .ptr b o,_,hb,h=>by
  simp only[bnd,decide_eq_true_eq] at hb;cases h with
  | ptr _ _ L q=>exact .ptr _ _ L (h1 _ _ hb q)
 | .nils,_,_,h=>by cases h;exact .nils
 | .sl b o n c l,_,hb,h=>by
  simp only[bnd,decide_eq_true_eq] at hb;cases h with
  | sl _ _ _ _ _ _ L q hc=>exact .sl _ _ _ _ _ _ L (h1 _ _ hb q) hc
  | slz _ _ _ _ L q=>exact .slz _ _ _ _ L (h1 _ _ hb q)
 | .nilf,_,_,h=>by cases h;exact .nilf
 | .fn f a c,_,hb,h=>by
  simp only[bnd,Bool.and_eq_true] at hb;cases h with
  | fn _ _ _ _ _ q1 q2=>exact .fn _ _ _ _ _ (VRs.nr h1 h2 h3 hb.1 q1) (VRs.nr h1 h2 h3 hb.2 q2)
 | .nili,_,_,h=>by cases h;exact .nili
 | .ifc t v,_,hb,h=>by
  simp only[bnd] at hb;cases h with
  | ifc _ _ _ q=>exact .ifc _ _ _ (VR.nr h1 h2 h3 hb q)
 | .agg cs,_,hb,h=>by
  simp only[bnd] at hb;cases h with
  | agg _ _ q=>exact .agg _ _ (VRs.nr h1 h2 h3 hb q)
 | .tup cs,_,hb,h=>by
  simp only[bnd] at hb;cases h with
  | tup _ _ q=>exact .tup _ _ (VRs.nr h1 h2 h3 hb q)
 | .nilm,_,_,h=>by cases h;exact .nilm
 | .map b,_,hb,h=>by
  simp only[bnd,decide_eq_true_eq] at hb;cases h with
  | map _ L q h0=>exact .map _ L (h1 _ _ hb q) h0
 | .sym j,_,_,h=>by cases h;exact .sym _
 | .fz n cs,_,_,h=>by
  cases h with
  | fz _ off c _ k arr hn q hs=>exact .fz _ off c _ k arr hn (by rw[h2];exact q) (by rw[h2];exact hs)
  | fz0 a=>exact .fz0 a
 | .pf cs o,_,_,h=>by
  cases h with
  | pf off base _ k arr q hs=>exact .pf _ base _ k arr (by rw[h2];exact q) (by rw[h2];exact hs)
 | .e0,_,_,h=>by cases h;exact .e0 _
 | .nz,_,_,h=>by cases h;exact .nz _ _
 | .own b n,_,hb,h=>by
  simp only[bnd,decide_eq_true_eq] at hb;cases h with
  | own0 _ a q=>exact .own0 _ _ (by rw[h3];exact hb)
  | own _ _ c L q hn hc=>exact .own _ _ c L (h1 _ _ hb q) hn hc
 | .yl b,_,hb,h=>by
  simp only[bnd,decide_eq_true_eq] at hb;cases h with
  | yl _ L q=>exact .yl _ L (h1 _ _ hb q)
 | .lp _,_,_,h=>by cases h
theorem VRs.nr{ρ ρs:Ren}{g:Nat->Nat}{m:Nat}(h1:∀b L,b<m->ρ (g b)=some L->ρs b=some L)(h2:ρs.frz=ρ.frz)(h3:ρs.n=m):∀{v:List AV} {x:List Value},qbu m v=true->VRs σ0 ρ (qa8 g v) x->VRs σ0 ρs v x
 | [],_,_,h=>by cases h;exact .nil
 | v::vs,_,hb,h=>by
  simp only[qbu,Bool.and_eq_true] at hb;cases h with
  | cons _ _ _ _ q1 q2=>exact .cons _ _ _ _ (VR.nr h1 h2 h3 hb.1 q1) (VRs.nr h1 h2 h3 hb.2 q2)
end

def gAt(at':List Nat)(d:Nat):Nat->Nat:=fun b=>if b<at'.length then at'.getD b 0 else d+(b-at'.length)
theorem qcO{at':List Nat}{d b:Nat}(h:b<at'.length):gAt at' d b=at'[b]:=by
 simp[gAt,h]
theorem qhl{at':List Nat}{d b:Nat}(h:at'.length<=b):gAt at' d b=d+(b-at'.length):=by
 simp only[gAt];rw[if_neg (by omega)]
structure Lent (h:Hp) (at':List Nat) (bs:List Blk):Prop where
 len:at'.length=bs.length
 nd:at'.Nodup
 blk:∀i x,bs[i]?=some x->∃e a cs,x = .cells e true a cs∧qbu bs.length cs=true∧h.tr.get (gAt at' h.sz i)=some (.cells e true a (qa8 (gAt at' h.sz) cs))∧h.fl<=gAt at' h.sz i∧gAt at' h.sz i<h.sz
def Ren.small(ρ:Ren)(at':List Nat)(d:Nat):Ren:=⟨fun i=>if i<at'.length then ρ (gAt at' d i) else none,ρ.frz,at'.length⟩
theorem qcv{ρ:Ren}{at':List Nat}{d i:Nat}{L:Loc}(h:ρ.small at' d i=some L):i<at'.length∧ρ (gAt at' d i)=some L:=by
 simp only[Ren.small] at h;split at h
 ·exact⟨by assumption,h⟩
 ·cases h
def Bar(ρ:Ren)(B:Nat->Prop)(h:Hp)(at':List Nat):Nat->Prop:=fun k=>B k∨∃b L x,ρ b=some L∧b ∉ at'∧h.tr.get b=some x∧x≠.dead∧L.blk=k
theorem Lent.inj{h:Hp}{at':List Nat}{bs:List Blk}(l:Lent h at' bs){i j:Nat}(hi:i<at'.length)(hj:j<at'.length)(he:gAt at' h.sz i=gAt at' h.sz j):i=j:=by
 rw[qcO hi,qcO hj] at he;exact (List.getElem_inj l.nd).1 he
theorem Lent.mem{h:Hp}{at':List Nat}{i:Nat}(hi:i<at'.length):gAt at' h.sz i ∈ at':=by
 rw[qcO hi];exact List.getElem_mem _
theorem Rel.small{ρ:Ren}{B:Nat->Prop}{h:Hp}{w:World}{at':List Nat}{bs:List Blk}(r:Rel σ0 ρ B h w)(l:Lent h at' bs):Rel σ0 (ρ.small at' h.sz) (Bar ρ B h at') (mkH 0 bs) w:=by
 have get:∀i L x,ρ.small at' h.sz i=some L->(mkH 0 bs).tr.get i=some x->i<at'.length∧ρ (gAt at' h.sz i)=some L∧∃e a cs,x = .cells e true a cs∧qbu bs.length cs=true∧h.tr.get (gAt at' h.sz i)=some (.cells e true a (qa8 (gAt at' h.sz) cs))∧h.fl<=gAt at' h.sz i:=by
  intro i L x h1 h2;obtain⟨h3,h4⟩:=qcv h1;rw[qcE] at h2;obtain⟨e,a,cs,h5,h6,h7,h8,_⟩:=l.blk i x h2;exact⟨h3,h4,e,a,cs,h5,h6,h7,h8⟩
 refine⟨fun i L hb=>?_,?_,?_,?_,?_,?_,?_,?_,?_,?_⟩
 ·have:=(qcv hb).1;rw[l.len] at this;exact this
 ·intro i L e wf af cs hb hg;obtain⟨h1,h2,e',a,cs',h3,h4,h5,h6⟩:=get i L _ hb hg;cases h3;obtain⟨q1,c,ty,fz,q2,q3,q4,q5,q6⟩:=r.cells _ L _ _ _ _ h2 h5;rw[qaq] at q4;refine⟨q1,c,ty,fz,q2,q3,q4,fun j v hv=>?_,q6⟩
  obtain⟨v',p1,p2⟩:=q5 j (rnv (gAt at' h.sz) v) (by rw[qhL,hv];rfl)
  exact⟨v',p1,VR.nr (ρ:=ρ) (ρs:=ρ.small at' h.sz) (g:=gAt at' h.sz) (m:=bs.length) (fun b L hbm hbL=>by
   show (if b<at'.length then ρ (gAt at' h.sz b) else none)=some L
   rw[if_pos (by rw[l.len];exact hbm)];exact hbL) rfl l.len (qjy h4 hv) p2⟩
 ·intro i L es hb hg;obtain⟨_,_,e',a,cs',h3,_⟩:=get i L _ hb hg;cases h3
 ·intro b L e af cs hb hg b' L' x hb' hx hd he;obtain⟨h1,h2,e',a,cs',h3,h4,h5,h6⟩:=get b L _ hb hg;obtain⟨i1,i2,e2,a2,cs2,i3,i4,i5,i6⟩:=get b' L' _ hb' hx;exact l.inj i1 h1 (r.excl _ L _ _ _ h2 h5 _ L' _ i2 i5 (by simp) he)
 ·intro b L es hb hg;obtain⟨_,_,e',a,cs',h3,_⟩:=get b L _ hb hg;cases h3
 ·intro b L e wf cs hb hg b' L' e' wf' af' cs' hb' hx he;obtain⟨h1,h2,e1,a1,cs1,h3,h4,h5,h6⟩:=get b L _ hb hg;obtain⟨i1,i2,e2,a2,cs2,i3,i4,i5,i6⟩:=get b' L' _ hb' hx;cases h3;cases i3;have q:=r.app _ L _ _ _ h2 h5 _ L' _ _ _ _ i2 i5 he;rw[qaq,qaq] at q;exact⟨q.1,fun hh=>l.inj i1 h1 (q.2 hh)⟩
 ·intro i L hb _ hbar;have hi:=(qcv hb).1;have hi':i<bs.length:=by rw[← l.len];exact hi
  obtain⟨h1,h2,e',a,cs',h3,h4,h5,h6⟩:=get i L bs[i] hb (by rw[qcE,zzE hi']);rcases hbar with hB|⟨b,L',x,g1,g2,g3,g4,g5⟩
  ·exact r.flr _ L h2 h6 hB
  ·have:=r.excl _ L _ _ _ h2 h5 b L' x g1 g3 g4 g5;exact g2 (this ▸ Lent.mem hi)
 ·rintro k (hB|⟨b,L',x,g1,g2,g3,g4,rfl⟩)
  ·exact r.base k hB
  ·exact r.blk_lt b L' g1 x g3 g4
 ·intro k arr hk;refine⟨(r.frz k arr hk).1,fun b L x hb hx hd=>?_⟩
  obtain⟨h1,h2,e',a,cs',h3,h4,h5,h6⟩:=get b L _ hb hx;exact (r.frz k arr hk).2 _ L _ h2 h5 (by simp)
 ·refine⟨?_,fun b L h=>r.dn.2 _ L (qcv h).2⟩
  show at'.length<=bs.length;rw[l.len];exact Nat.le_refl _

def rnb(g:Nat->Nat):Blk->Blk
 | .cells e w a cs=>.cells e w a (qa8 g cs)
 | .dead=>.dead
 | .map _=>.dead
noncomputable def qcW:Hp->List Nat->List Blk->Hp
 | h,b::at',x::xs=>qcW (h.put b x) at' xs
 | h,_,_=>h
theorem qfJ:∀{at':List Nat} {xs:List Blk} {h:Hp},(qcW h at' xs).sz=h.sz
 | [],_,_=>by simp[qcW]
 | _::_,[],_=>by simp[qcW]
 | b::at',x::xs,h=>by
  show (qcW (h.put b x) at' xs).sz=_;rw[qfJ];rfl
theorem qlV:∀{at':List Nat} {xs:List Blk} {h:Hp},(qcW h at' xs).fl=h.fl
 | [],_,_=>by simp[qcW]
 | _::_,[],_=>by simp[qcW]
 | b::at',x::xs,h=>by
  show (qcW (h.put b x) at' xs).fl=_;rw[qlV];rfl
theorem qhF:∀{at':List Nat} {xs:List Blk} {h:Hp} {b:Nat},b ∉ at'->(qcW h at' xs).tr.get b=h.tr.get b
 | [],_,_,_,_=>by simp[qcW]
 | _::_,[],_,_,_=>by simp[qcW]
 | c::at',x::xs,h,b,hb=>by
  show (qcW (h.put c x) at' xs).tr.get b=_;rw[qhF (fun hh=>hb (List.mem_cons_of_mem _ hh))]
  simp only[Hp.put,Tr.get_set];rw[if_neg (fun hh=>hb (by simp[hh]))]
theorem qlW:∀{at':List Nat} {xs:List Blk} {h:Hp} {i b:Nat},at'.Nodup->at'.length=xs.length->at'[i]?=some b->(qcW h at' xs).tr.get b=xs[i]?
 | [],_,_,_,_,_,_,hi=>by simp at hi
 | _::_,[],_,_,_,_,hl,_=>by simp at hl
 | c::at',x::xs,h,0,b,hn,hl,hi=>by
  simp at hi;subst hi;show (qcW (h.put c x) at' xs).tr.get c=_;rw[qhF (List.nodup_cons.1 hn).1];simp[Hp.put,Tr.get_set]
 | c::at',x::xs,h,i+1,b,hn,hl,hi=>by
  show (qcW (h.put c x) at' xs).tr.get b=_;rw[qlW (List.nodup_cons.1 hn).2 (by simpa using hl) (by simpa using hi)];simp
noncomputable def qb4(h:Hp)(at':List Nat)(bs2:List Blk):Hp:=qbk (qcW h at' ((bs2.take at'.length).map (rnb (gAt at' h.sz)))) ((bs2.drop at'.length).map (rnb (gAt at' h.sz)))
def Ren.back(ρ ρ2:Ren)(at':List Nat)(d l:Nat):Ren:=⟨fun b=>if b<d then ρ b else ρ2 (b-d+at'.length),ρ2.frz,d+(l-at'.length)⟩
theorem qg4{h:Hp}{at':List Nat}{bs2:List Blk}:(qb4 h at' bs2).sz=h.sz+(bs2.length-at'.length):=by
 unfold qb4;rw[qdj,qfJ];simp
theorem qjv{h:Hp}{at':List Nat}{bs2:List Blk}:(qb4 h at' bs2).fl=h.fl:=by
 unfold qb4;rw[qec,qlV]
theorem qh7{h:Hp}{at':List Nat}{bs2:List Blk}{b:Nat}(hb:b<h.sz)(hm:b ∉ at'):(qb4 h at' bs2).tr.get b=h.tr.get b:=by
 unfold qb4;rw[qa5,qfJ,if_pos hb,qhF hm]
theorem qnU{h:Hp}{at':List Nat}{bs2:List Blk}(hn:at'.Nodup)(hl:at'.length<=bs2.length)(hlt:∀b ∈ at',b<h.sz){i:Nat}(hi:i<at'.length):(qb4 h at' bs2).tr.get (gAt at' h.sz i)=(bs2[i]?).map (rnb (gAt at' h.sz)):=by
 have hm:gAt at' h.sz i ∈ at':=Lent.mem hi;unfold qb4;rw[qa5,qfJ,if_pos (hlt _ hm),qlW (i:=i) hn (by simp;omega) (by rw[qcO hi];exact zzE hi),List.getElem?_map,List.getElem?_take_of_lt hi]
theorem qmp{h:Hp}{at':List Nat}{bs2:List Blk}{i:Nat}(hi:at'.length<=i)(hi2:i<bs2.length):(qb4 h at' bs2).tr.get (gAt at' h.sz i)=(bs2[i]?).map (rnb (gAt at' h.sz)):=by
 unfold qb4;rw[qhl hi,qa5,qfJ,if_neg (by omega),if_pos (by simp;omega),List.getElem?_map,List.getElem?_drop];rw[show at'.length+(h.sz+(i-at'.length)-h.sz)=i from by omega]
theorem Rel.back{ρ ρ2:Ren}{B:Nat->Prop}{h:Hp}{w w1:World}{at':List Nat}{bs bs2:List Blk}(r:Rel σ0 ρ B h w)(l:Lent h at' bs)(r2:Rel σ0 ρ2 (Bar ρ B h at') (mkH 0 bs2) w1)(hl:at'.length<=bs2.length)
  (he:∀i,i<at'.length->ρ2 i=ρ.small at' h.sz i) (hp:∀k,Bar ρ B h at' k->w1.heap[k]?=w.heap[k]?) (hw:w.heap.size<=w1.heap.size)
  (f1:∀k a,ρ.frz k=some a->ρ2.frz k=some a) (f2:∀k a,ρ2.frz k=some a->ρ.frz k=some a∨¬Bar ρ B h at' k):(∀b L,ρ2 b=some L->ρ.back ρ2 at' h.sz bs2.length (gAt at' h.sz b)=some L)∧Rel σ0 (ρ.back ρ2 at' h.sz bs2.length) B (qb4 h at' bs2) w1:=by
 have hlt:∀b ∈ at',b<h.sz:=by
  intro b hb;obtain⟨i,hi,rfl⟩:=List.getElem_of_mem hb;have hi':i<bs.length:=by rw[← l.len];exact hi
  obtain⟨_,_,_,_,_,_,_,h6⟩:=l.blk i bs[i] (zzE hi');rwa [qcO hi] at h6
 have up:∀b L,ρ2 b=some L->ρ.back ρ2 at' h.sz bs2.length (gAt at' h.sz b)=some L:=by
  intro b L hb;show (if gAt at' h.sz b<h.sz then ρ (gAt at' h.sz b) else ρ2 (gAt at' h.sz b-h.sz+at'.length))=some L
  by_cases hbm:b<at'.length
  ·rw[if_pos (hlt _ (Lent.mem hbm))];rw[he b hbm] at hb;exact (qcv hb).2
  ·rw[qhl (by omega),if_neg (by omega),show h.sz+(b-at'.length)-h.sz+at'.length=b from by omega]
   exact hb
 refine⟨up,?_⟩
 have nle:∀b,b<ρ2.n->gAt at' h.sz b<h.sz+(bs2.length-at'.length):=by
  intro b hb;have hb2:b<bs2.length:=Nat.lt_of_lt_of_le hb r2.dn.1
  by_cases hbm:b<at'.length
  ·have:=hlt _ (Lent.mem (h:=h) hbm);omega
  ·rw[qhl (by omega)];omega
 have le1:∀b L,ρ b=some L->ρ.back ρ2 at' h.sz bs2.length b=some L:=by
  intro b L hb;show (if b<h.sz then ρ b else _)=some L
  rw[if_pos (r.dom b L hb)];exact hb
 have le2:ρ.le (ρ.back ρ2 at' h.sz bs2.length):=⟨le1,f1,Nat.le_trans r.dn.1 (Nat.le_add_right _ _)⟩
 -- a block: an old one that stayed,or one of the small heap
 have split:∀b L,ρ.back ρ2 at' h.sz bs2.length b=some L->(b ∉ at'∧ρ b=some L∧(qb4 h at' bs2).tr.get b=h.tr.get b) ∨
   ∃c,b=gAt at' h.sz c∧ρ2 c=some L∧(qb4 h at' bs2).tr.get b=((mkH 0 bs2).tr.get c).map (rnb (gAt at' h.sz)):=by
  intro b L hb;have hb':(if b<h.sz then ρ b else ρ2 (b-h.sz+at'.length))=some L:=hb
  by_cases hbs:b<h.sz
  ·rw[if_pos hbs] at hb'
   by_cases hm:b ∈ at'
   ·obtain⟨i,hi,rfl⟩:=List.getElem_of_mem hm;refine .inr ⟨i,(qcO hi).symm,?_,?_⟩
    ·rw[he i hi];show (if i<at'.length then ρ (gAt at' h.sz i) else none)=some L
     rw[if_pos hi,qcO hi];exact hb'
    ·have:=qnU (bs2:=bs2) l.nd hl hlt hi;rw[qcO hi] at this;rw[this,qcE]
   ·exact .inl ⟨hm,hb',qh7 hbs hm⟩
  ·rw[if_neg hbs] at hb';have hc:b-h.sz+at'.length<bs2.length:=r2.dom _ L hb';have e:gAt at' h.sz (b-h.sz+at'.length)=b:=by rw[qhl (by omega)];omega
   refine .inr ⟨b-h.sz+at'.length,e.symm,hb',?_⟩;have:=qmp (h:=h) (at':=at') (bs2:=bs2) (i:=b-h.sz+at'.length) (by omega) hc;rw[e] at this;rw[this,qcE]
 have apart:∀b L x c L2,b ∉ at'->ρ b=some L->h.tr.get b=some x->x≠.dead->ρ2 c=some L2->L2.blk≠L.blk:=by
  intro b L x c L2 h1 h2 h3 h4 h5 h6;exact r2.flr c L2 h5 (Nat.zero_le _) (.inr ⟨b,L,x,h2,h1,h3,h4,h6.symm⟩)
 have shc:∀{o:Option Blk} {e:Nat} {w a:Bool} {cs:List AV},o.map (rnb (gAt at' h.sz))=some (.cells e w a cs)->∃cs0,o=some (.cells e w a cs0)∧cs=qa8 (gAt at' h.sz) cs0:=by
  intro o e w a cs ho;cases o with
  | none=>simp at ho
  | some x =>
   cases x with
   | cells e' w' a' cs'=>simp[rnb] at ho;obtain⟨rfl,rfl,rfl,rfl⟩:=ho;exact⟨_,rfl,rfl⟩
   | dead=>simp[rnb] at ho
   | map es=>simp[rnb] at ho
 have shn:∀{o:Option Blk} {y:Blk},o.map (rnb (gAt at' h.sz))=some y->y≠.dead->∃x,o=some x∧x≠.dead:=by
  intro o y ho hy;cases o with
  | none=>simp at ho
  | some x =>
   refine⟨x,rfl,fun hx=>?_⟩
   subst hx;simp[rnb] at ho;exact hy ho.symm
 have shm:∀{o:Option Blk} {es:List (AV×AV)},o.map (rnb (gAt at' h.sz))=some (.map es)->False:=by
  intro o es ho;cases o with
  | none=>simp at ho
  | some x=>cases x<;>simp[rnb] at ho
 refine⟨fun b L hb=>?_,?_,?_,?_,?_,?_,?_,qdq r.base hw,?_,?_⟩
 ·rw[qg4];have hb':(if b<h.sz then ρ b else ρ2 (b-h.sz+at'.length))=some L:=hb
  by_cases hbs:b<h.sz
  ·omega
  ·rw[if_neg hbs] at hb';have hc:b-h.sz+at'.length<bs2.length:=r2.dom _ L hb';omega
 ·intro b L e wf af cs hb hg;rcases split b L hb with⟨h1,h2,h3⟩|⟨c,rfl,h2,h3⟩
  ·rw[h3] at hg;obtain⟨q1,c,ty,fz,q2,q3,q4,q5,q6⟩:=r.cells b L e wf af cs h2 hg;exact⟨q1,c,ty,fz,by rw[hp _ (.inr ⟨b,L,_,h2,h1,hg,by simp,rfl⟩)];exact q2,q3,q4,fun j v hv=>let ⟨v',g7,g8⟩:=q5 j v hv;⟨v',g7,g8.mono le2⟩,q6⟩
  ·rw[h3] at hg;obtain⟨cs0,g1,rfl⟩:=shc hg;obtain⟨q1,c',ty,fz,q2,q3,q4,q5,q6⟩:=r2.cells c L e wf af cs0 h2 g1;refine⟨q1,c',ty,fz,q2,q3,by rw[qaq];exact q4,fun j v hv=>?_,q6⟩
   rw[qhL] at hv;cases hj:cs0[j]? with
   | none=>rw[hj] at hv;simp at hv
   | some v0 =>
    rw[hj] at hv;simp at hv;subst hv;obtain⟨v',g7,g8⟩:=q5 j v0 hj;exact⟨v',g7,VR.rn (ρ3:=ρ.back ρ2 at' h.sz bs2.length) up (fun _ _ h=>h) nle g8⟩
 ·intro b L es hb hg;rcases split b L hb with⟨h1,h2,h3⟩|⟨c,rfl,h2,h3⟩
  ·rw[h3] at hg;obtain⟨q1,o,q2,q3⟩:=r.maps b L es h2 hg;exact⟨q1,o,by rw[hp _ (.inr ⟨b,L,_,h2,h1,hg,by simp,rfl⟩)];exact q2,q3.mono le2⟩
  ·rw[h3] at hg;exact (shm hg).elim
 ·intro b L e af cs hb hg b' L' x hb' hx hd hee;rcases split b L hb with⟨h1,h2,h3⟩|⟨c,rfl,h2,h3⟩<;>rcases split b' L' hb' with⟨i1,i2,i3⟩|⟨c',rfl,i2,i3⟩
  ·rw[h3] at hg;rw[i3] at hx;exact r.excl b L e af cs h2 hg b' L' x i2 hx hd hee
  ·rw[h3] at hg;exact absurd hee (apart b L _ c' L' h1 h2 hg (by simp) i2)
  ·rw[i3] at hx;exact absurd hee.symm (apart b' L' _ c L i1 i2 hx hd h2)
  ·rw[h3] at hg;rw[i3] at hx;obtain⟨cs0,g1,rfl⟩:=shc hg;obtain⟨x0,g2,g3⟩:=shn hx hd;rw[r2.excl c L e af cs0 h2 g1 c' L' x0 i2 g2 g3 hee]
 ·intro b L es hb hg b' L' x hb' hx hd hee;rcases split b L hb with⟨h1,h2,h3⟩|⟨c,rfl,h2,h3⟩
  ·rw[h3] at hg;rcases split b' L' hb' with⟨i1,i2,i3⟩|⟨c',rfl,i2,i3⟩
   ·rw[i3] at hx;exact r.exclm b L es h2 hg b' L' x i2 hx hd hee
   ·exact absurd hee (apart b L _ c' L' h1 h2 hg (by simp) i2)
  ·rw[h3] at hg;exact (shm hg).elim
 ·intro b L e wf cs hb hg b' L' e' wf' af' cs' hb' hx hee;rcases split b L hb with⟨h1,h2,h3⟩|⟨c,rfl,h2,h3⟩<;>rcases split b' L' hb' with⟨i1,i2,i3⟩|⟨c',rfl,i2,i3⟩
  ·rw[h3] at hg;rw[i3] at hx;exact r.app b L e wf cs h2 hg b' L' e' wf' af' cs' i2 hx hee
  ·rw[h3] at hg;exact absurd hee (apart b L _ c' L' h1 h2 hg (by simp) i2)
  ·rw[i3] at hx;exact absurd hee.symm (apart b' L' _ c L i1 i2 hx (by simp) h2)
  ·rw[h3] at hg;rw[i3] at hx;obtain⟨cs0,g1,rfl⟩:=shc hg;obtain⟨cs1,g2,rfl⟩:=shc hx;have q:=r2.app c L e wf cs0 h2 g1 c' L' e' wf' af' cs1 i2 g2 hee;rw[qaq,qaq];exact⟨q.1,fun hh=>by rw[q.2 hh]⟩
 ·intro b L hb hf hB;rw[qjv] at hf;rcases split b L hb with⟨h1,h2,h3⟩|⟨c,rfl,h2,h3⟩
  ·exact r.flr b L h2 hf hB
  ·exact r2.flr c L h2 (Nat.zero_le _) (.inl hB)
 ·intro k arr hk;refine⟨(r2.frz k arr hk).1,fun b L x hb hx hd=>?_⟩
  rcases split b L hb with⟨h1,h2,h3⟩|⟨c,rfl,h2,h3⟩
  ·rw[h3] at hx;rcases f2 k arr hk with g|g
   ·exact (r.frz k arr g).2 b L x h2 hx hd
   ·exact fun hh=>g (.inr ⟨b,L,x,h2,h1,hx,hd,hh⟩)
  ·rw[h3] at hx;obtain⟨x0,g2,g3⟩:=shn hx hd;exact (r2.frz k arr hk).2 c L x0 h2 g2 g3
 ·refine⟨?_,fun b L hb=>?_⟩
  ·show h.sz+(bs2.length-at'.length)<=_;rw[qg4];exact Nat.le_refl _
  ·rcases split b L hb with⟨_,h2,_⟩|⟨c,rfl,h2,_⟩
   ·exact Nat.lt_of_lt_of_le (r.dn.2 b L h2) hw
   ·exact r2.dn.2 c L h2
def qtz(m:Nat)(v:AV)(bs2:List Blk)(v':AV)(h':Hp):Prop:=h'.fl=0->∃src:List Nat,NV (rl src h'.sz) bs2.length v' v∧BWs h' (rl src h'.sz) bs2.length src bs2∧(src.filter fun b=>decide (b<h'.sz)).Nodup∧∀b,b<m->rl src h'.sz b=b
def qxf(m:Nat)(v:AV)(bs2:List Blk)(v':AV)(h':Hp):Prop:=h'.fl=0->Wk m (mkT [(0,v')]) h' (mkT [(0,v)]) (mkH 0 bs2)
theorem qtz.w{m:Nat}{v:AV}{bs2:List Blk}{v':AV}{h':Hp}(hz:qtz m v bs2 v' h')(hle:m<=bs2.length):qxf m v bs2 v' h':=by
 intro hfl;obtain⟨src,s1,s2,s3,s4⟩:=hz hfl;exact Wk.mkn [(0,v)] bs2 src ⟨⟨v',by simp[mkT,Tr.get_set],s1⟩,trivial⟩ s2 s3 hfl hle s4
def Upd(P:Program)(f:Nat)(vs:List AV)(bs:List Blk)(v:AV)(bs2:List Blk):Prop :=
 qbu bs.length vs=true∧bs.length<=bs2.length∧SC P f vs (mkH 0 bs) (qxf bs.length v bs2)
theorem Upd.mk{f:Nat}{i:IFn}{vs:List AV}{v:AV}{bs bs2:List Blk}(hc:qd P f i=true)(hb:qbu bs.length vs=true)(hl:bs.length<=bs2.length)(hV:V P bs.length i.body (qcm i.res (qtz bs.length v bs2)) (qdZ vs 0 .leaf) (mkH 0 bs)):Upd P f vs bs v bs2 :=
 ⟨hb,hl,(SC.mk hc (qp hV)).mono fun _ _ hz=>hz.w hl⟩
theorem Upd.sc{f:Nat}{vs:List AV}{bs bs2:List Blk}{v:AV}{h:Hp}{k:AV->Hp->Prop}(at':List Nat)(hu:Upd P f vs bs v bs2)(l:Lent h at' bs)(hk:k (rnv (gAt at' h.sz) v) (qb4 h at' bs2)):SC P f (qa8 (gAt at' h.sz) vs) h k:=by
 obtain⟨hb,hle,hu⟩:=hu;refine⟨hu.1,fun ρ B w args r ha=>?_⟩
 have hle':at'.length<=bs2.length:=by rw[l.len];exact hle
 have ha':VRs σ0 (ρ.small at' h.sz) vs args.toList:=VRs.nr (ρ:=ρ) (ρs:=ρ.small at' h.sz) (g:=gAt at' h.sz) (m:=bs.length) (fun b L hbm hbL=>by
  show (if b<at'.length then ρ (gAt at' h.sz b) else none)=some L
  rw[if_pos (by rw[l.len];exact hbm)];exact hbL) rfl l.len hb ha
 refine qcg.mono (hu.2 (ρ.small at' h.sz) (Bar ρ B h at') w args (r.small l) ha') ?_;rintro e w1 ⟨v0,v',h1,ρ1,rfl,g1,g2,g3,g4⟩;have hw:Wk bs.length (mkT [(0,v0)]) h1 (mkT [(0,v)]) (mkH 0 bs2):=g1 g4.fl
 obtain⟨ρ2,t2,r2,k2⟩:=hw ρ1 (Bar ρ B h at') w1 #[v'] (fun j x hj=>by
  have:=qdF hj;simp at this;obtain⟨rfl,rfl⟩:=this;exact⟨by simp,by simpa using g2⟩) g3
 have hv2:VR σ0 ρ2 v v':=by
  have:=(t2 0 v (by simp[mkT,Tr.get_set])).2;simpa using this
 have he:∀i,i<at'.length->ρ2 i=ρ.small at' h.sz i:=fun i hi=>(k2.ext i (by rw[← l.len];exact hi)).trans (g4.ext i (by rw[quY,← l.len];exact hi))
 have f1:∀k a,ρ.frz k=some a->ρ2.frz k=some a:=fun k a hk=>k2.frz k a (g4.frz k a hk)
 have f2:∀k a,ρ2.frz k=some a->ρ.frz k=some a∨¬Bar ρ B h at' k:=fun k a hk=>(k2.fnew k a hk).elim (g4.fnew k a) .inr
 obtain⟨up,big⟩:=Rel.back r l r2 hle' he g4.pres g4.wle f1 f2
 have nle:∀b,b<ρ2.n->gAt at' h.sz b<(ρ.back ρ2 at' h.sz bs2.length).n:=by
  intro b hb;have hb2:b<bs2.length:=Nat.lt_of_lt_of_le hb r2.dn.1;show _<h.sz+(bs2.length-at'.length)
  by_cases hbm:b<at'.length
  ·have hbm':b<bs.length:=by rw[← l.len];exact hbm
   obtain⟨_,_,_,_,_,_,_,h6⟩:=l.blk b bs[b] (zzE hbm');omega
  ·rw[qhl (by omega)];omega
 refine⟨_,v',_,ρ.back ρ2 at' h.sz bs2.length,rfl,hk,VR.rn up (fun _ _ h=>h) nle hv2,big,?_⟩
 refine⟨fun b hb=>?_,by rw[qg4];omega,qjv,fun b hf hb=>qh7 hb (fun hm=>?_),fun k hk=>g4.pres k (.inl hk),g4.wle,g4.io,f1,fun k a hk=>(f2 k a hk).imp id (fun hh hB=>hh (.inl hB)),Nat.le_trans r.dn.1 (Nat.le_add_right _ _)⟩
 ·show (if b<h.sz then ρ b else _)=ρ b
  rw[if_pos hb]
 ·obtain⟨i,hi,rfl⟩:=List.getElem_of_mem hm;have hi':i<bs.length:=by rw[← l.len];exact hi
  obtain⟨_,_,_,_,_,_,h5,_⟩:=l.blk i bs[i] (zzE hi');rw[qcO hi] at h5;omega
end Go.Kc
end
