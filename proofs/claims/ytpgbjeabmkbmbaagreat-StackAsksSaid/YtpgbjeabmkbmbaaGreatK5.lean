/- Part 5 of the abstract machine and of the functions' walks. Conditions: with each theorem. -/
import Derived.Test.YtpgbjeabmkbmbaaGreatK4
set_option linter.unusedSimpArgs false
set_option linter.unusedVariables false
set_option linter.unnecessarySimpa false
set_option linter.defProp false
section
/- Rules for the operations. No condition. -/
namespace Go.Kc
variable {P:Program} {n:Nat} {C:zc} {d:Bool} {Q:Tr AV->Hp->Prop} {t:Tr AV} {h:Hp} {k:AV->Hp->Prop}

def evA(v:AV)(k:AV->Prop):Prop:=k v
@[congr] theorem qpR {v v':AV} {k:AV->Prop} {mk:Prop} (_:qS=mk) (h:v=v'):evA v k=evA v' k:=by rw[h]
theorem qkm{v:AV}{k:AV->Prop}:evA v k↔k v:=Iff.rfl
def evL(v:List AV)(k:List AV->Prop):Prop:=k v
@[congr] theorem qpV {v v':List AV} {k:List AV->Prop} {mk:Prop} (_:qS=mk) (h:v=v'):evL v k=evL v' k:=by rw[h]
theorem qkn{v:List AV}{k:List AV->Prop}:evL v k↔k v:=Iff.rfl
def evN(v:Nat)(k:Nat->Prop):Prop:=k v
@[congr] theorem qpW {v v':Nat} {k:Nat->Prop} {mk:Prop} (_:qS=mk) (h:v=v'):evN v k=evN v' k:=by rw[h]
theorem qko{v:Nat}{k:Nat->Prop}:evN v k↔k v:=Iff.rfl
def evT(v:Bool)(k:Bool->Prop):Prop:=k v
@[congr] theorem qpY {v v':Bool} {k:Bool->Prop} {mk:Prop} (_:qS=mk) (h:v=v'):evT v k=evT v' k:=by rw[h]
theorem qkp{v:Bool}{k:Bool->Prop}:evT v k↔k v:=Iff.rfl
def evB(o:Option Blk)(k:Blk->Prop):Prop:=∃v,o=some v∧k v
@[congr] theorem qpS {o o':Option Blk} {k:Blk->Prop} {mk:Prop} (_:qS=mk) (h:o=o'):evB o k=evB o' k:=by rw[h]
theorem qhN{v:Blk}{k:Blk->Prop}:evB (some v) k↔k v:=by simp[evB]
def ifK(c:Prop)(p:Prop):Prop:=c∧p
@[congr] theorem qpZ {c c' p:Prop} {mk:Prop} (_:qS=mk) (h:c=c'):ifK c p=ifK c' p:=by rw[h]
theorem qdk{p:Prop}:ifK True p↔p:=by simp[ifK]
theorem qkO{c c' p:Prop}:ifK (c∧c') p↔ifK c (ifK c' p):=by simp[ifK,and_assoc]
theorem qfs{x:Bool}{p:Prop}:qh x p↔ifK (x=true) p:=qb _ _
theorem xg{n:Nat}{k:Nat->Prop}:qq n k↔evN n k:=by rw[qt];exact Iff.rfl
theorem XO{n:Bool}{k:Bool->Prop}:qJ n k↔evT n k:=by rw[qC];exact Iff.rfl
@[congr] theorem qkx {n:Nat} {k:Nat->Prop} {mk:Prop} (_:qS=mk):qq n k=qq n k:=rfl
@[congr] theorem qkw {n:Bool} {k:Bool->Prop} {mk:Prop} (_:qS=mk):qJ n k=qJ n k:=rfl
@[congr] theorem qmD {n:Bool} {k:Prop} {mk:Prop} (_:qS=mk):qh n k=qh n k:=rfl
theorem qr7{x:Bool}{k:Bool->Prop}:unB (.b x) k↔k x:=Iff.rfl
theorem ql1{b o:Nat}{k:Nat->Nat->Prop}:unP (.ptr b o) k↔k b o:=Iff.rfl
theorem qr8{q:IntKind}{z:Int}{k:IntKind->Int->Prop}:unI (.i q z) k↔k q z:=Iff.rfl
theorem qr9{q:IntKind}{z:Int}{k:Nat->Prop}:unN (.i q z) k↔ifK (0<=z) (evN z.toNat k):=by
 cases z with
 | ofNat m=>exact⟨fun h=>⟨Int.natCast_nonneg m,h⟩,fun h=>h.2⟩
 | negSucc m=>exact⟨fun h=>h.elim,fun h=>absurd h.1 (by omega)⟩
@[congr] theorem qqj {x:AV} {k:Bool->Prop} {mk:Prop} (_:qS=mk):unB x k=unB x k:=rfl
@[congr] theorem qqm {x:AV} {k:Nat->Nat->Prop} {mk:Prop} (_:qS=mk):unP x k=unP x k:=rfl
@[congr] theorem qqk {x:AV} {k:IntKind->Int->Prop} {mk:Prop} (_:qS=mk):unI x k=unI x k:=rfl
@[congr] theorem qql {x:AV} {k:Nat->Prop} {mk:Prop} (_:qS=mk):unN x k=unN x k:=rfl

section
variable {q q':IntKind} {n m:Int} {a c:List UInt8} {k:AV->Prop}
theorem qda{z:Int}:zV (XF q z) (fun r=>k (.i q r))↔evA (.i q (q.wrap z)) k:=by
 rw[qX,kq];exact Iff.rfl
theorem qjO:zF qB .lss (.i q n) (.i q m) k↔evA (.b (decide (n<m))) k:=by simp[zF,zD,qb,vl,evA]
theorem qjM:zF qB .gtr (.i q n) (.i q m) k↔evA (.b (decide (m<n))) k:=by simp[zF,zD,qb,vl,evA]
theorem qjL:zF qB .geq (.i q n) (.i q m) k↔evA (.b (decide (m<=n))) k:=by
 simp only[zF,zD,qb,vl,qC,decide_true,true_and,evA];rw[← decide_not];simp
theorem qjN:zF qB .leq (.i q n) (.i q m) k↔evA (.b (decide (n<=m))) k:=by
 simp only[zF,zD,qb,vl,qC,decide_true,true_and,evA];rw[← decide_not];simp
theorem qjK:zF qB .eql (.i q n) (.i q m) k↔evA (.b (decide (n=m))) k:=by
 simp only[zF,zD,qb,Qj,qC,decide_true,true_and,evA];rw[show (n==m)=decide (n=m) from by rw[Bool.eq_iff_iff];simp]
theorem qjQ:zF qB .neq (.i q n) (.i q m) k↔evA (.b (!decide (n=m))) k:=by
 simp only[zF,zD,qb,Qj,qC,decide_true,true_and,evA];rw[show (n==m)=decide (n=m) from by rw[Bool.eq_iff_iff];simp]
theorem qjH:zF qB .add (.i q n) (.i q m) k↔evA (.i q (q.wrap (n+m))) k:=by
 simp only[zF,zD,qb,kq,qX,decide_true,true_and];exact Iff.rfl
theorem qjT:zF qB .sub (.i q n) (.i q m) k↔evA (.i q (q.wrap (n-m))) k:=by
 simp only[zF,zD,qb,kq,qX,decide_true,true_and];exact Iff.rfl
theorem qjP:zF qB .mul (.i q n) (.i q m) k↔evA (.i q (q.wrap (n*m))) k:=by
 simp only[zF,zD,qb,kq,qX,decide_true,true_and];exact Iff.rfl
def orI(q:IntKind)(x y:Int):Int:=q.wrap (BitVec.ofInt q.bits x ||| BitVec.ofInt q.bits y).toNat
def y8(q:IntKind)(x y:Int):Int:=q.wrap (BitVec.ofInt q.bits x &&& BitVec.ofInt q.bits y).toNat
def qpI(q:IntKind)(x y:Int):Int:=q.wrap (BitVec.ofInt q.bits x ^^^ BitVec.ofInt q.bits y).toNat
def qaC(q:IntKind)(x y:Int):Int:=q.wrap (BitVec.ofInt q.bits x &&& ~~~ (BitVec.ofInt q.bits y)).toNat
theorem qnb:zF qB .or (.i q n) (.i q m) k↔evA (.i q (orI q n m)) k:=by
 simp only[zF,zD,qb,qX,decide_true,true_and,orI,evA]
theorem qjI:zF qB .and (.i q n) (.i q m) k↔evA (.i q (y8 q n m)) k:=by
 simp only[zF,zD,qb,qX,decide_true,true_and,y8,evA]
theorem qjU:zF qB .xor (.i q n) (.i q m) k↔evA (.i q (qpI q n m)) k:=by
 simp only[zF,zD,qb,qX,decide_true,true_and,qpI,evA]
theorem qjJ:zF qB .andNot (.i q n) (.i q m) k↔evA (.i q (qaC q n m)) k:=by
 simp only[zF,zD,qb,qX,decide_true,true_and,qaC,evA]
def X6(q:IntKind)(x m:Int):Int:=x.fdiv (2 ^ min m.toNat q.bits)
def qgD(q:IntKind)(x m:Int):Int:=q.wrap (x*2 ^ min m.toNat q.bits)
theorem qjS{q2:IntKind}:zF qB .shr (.i q n) (.i q2 m) k↔ifK (0<=m) (evA (.i q (X6 q n m)) k):=by
 cases m with
 | ofNat m =>
  show qq (min m q.bits) (fun a=>zV (n.fdiv (p2 a)) (fun r=>k (.i q r)))↔_
  rw[qt,qX,qe9];exact⟨fun h=>⟨Int.natCast_nonneg m,h⟩,fun h=>h.2⟩
 | negSucc m=>exact⟨fun h=>h.elim,fun h=>absurd h.1 (by omega)⟩
theorem qjR{q2:IntKind}:zF qB .shl (.i q n) (.i q2 m) k↔ifK (0<=m) (evA (.i q (qgD q n m)) k):=by
 cases m with
 | ofNat m =>
  show qq (min m q.bits) (fun a=>zV (q.wrap (n*p2 a)) (fun r=>k (.i q r)))↔_
  rw[qt,qX,qe9];exact⟨fun h=>⟨Int.natCast_nonneg m,h⟩,fun h=>h.2⟩
 | negSucc m=>exact⟨fun h=>h.elim,fun h=>absurd h.1 (by omega)⟩
theorem qaF(x y:Int):eqI x y=decide (x=y):=by rw[Qj,Bool.eq_iff_iff];simp
theorem zp(h:m≠0):zF qB .quo (.i q n) (.i q m) k↔evA (.i q (q.wrap (n.tdiv m))) k:=by
 simp only[zF,zD,qb,kq,qX,decide_true,true_and,qaF,decide_eq_false h];exact Iff.rfl
theorem zT(h:m≠0):zF qB .rem (.i q n) (.i q m) k↔evA (.i q (n.tmod m)) k:=by
 simp only[zF,zD,qb,qX,decide_true,true_and,qaF,decide_eq_false h];exact Iff.rfl
theorem qg5:zF qB .eql (.s a) (.s c) k↔evA (.b (decide (a=c))) k:=by
 simp only[zF,wv,j6,qC,evA];rw[show (a==c)=decide (a=c) from by rw[Bool.eq_iff_iff];simp]
theorem qha:zF qB .neq (.s a) (.s c) k↔evA (.b (!decide (a=c))) k:=by
 simp only[zF,wv,j6,qC,evA];rw[show (a==c)=decide (a=c) from by rw[Bool.eq_iff_iff];simp]
theorem qg4:zF qB .add (.s a) (.s c) k↔ifK (a.length+c.length<=9223372036854775807) (evA (.s (a++c)) k):=by
 show (Bool.rec (motive:=fun _=>Prop) False (k (.s (a++c))) (Nat.ble (a.length+c.length) 9223372036854775807):Prop)↔_
 rw[show (a.length+c.length<=9223372036854775807)=(Nat.ble (a.length+c.length) 9223372036854775807=true) from propext ⟨Nat.ble_eq_true_of_le,Nat.le_of_ble_eq_true⟩]
 cases Nat.ble (a.length+c.length) 9223372036854775807
 ·exact⟨False.elim,fun h=>by cases h.1⟩
 ·exact⟨fun h=>⟨rfl,h⟩,fun h=>h.2⟩
theorem qg9:zF qB .lss (.s a) (.s c) k↔evA (.b (ltS a c)) k:=by simp only[zF,wv,qC,evA]
theorem qg6:zF qB .geq (.s a) (.s c) k↔evA (.b (!ltS a c)) k:=by simp only[zF,wv,qC,evA]
theorem qg8:zF qB .leq (.s a) (.s c) k↔evA (.b (ltS a c||decide (a=c))) k:=by
 simp only[zF,wv,j6,qC,evA];rw[show (a==c)=decide (a=c) from by rw[Bool.eq_iff_iff];simp]
theorem qg7:zF qB .gtr (.s a) (.s c) k↔evA (.b (!(ltS a c||decide (a=c)))) k:=by
 simp only[zF,wv,j6,qC,evA];rw[show (a==c)=decide (a=c) from by rw[Bool.eq_iff_iff];simp]
theorem qpy{x:Bool}:kK .not (.b x) k↔evA (.b (!x)) k:=by simp only[kK,qC,evA]
theorem qpx:kK .neg (.i q n) k↔evA (.i q (q.wrap (0-n))) k:=by simp only[kK,qX,evA]
theorem qp{x:Int}(h1:-9223372036854775808<=x)(h2:x<=9223372036854775807):IntKind.wrap .i64 x=x:=by
 simp[IntKind.wrap,IntKind.bits,IntKind.signed];omega
theorem qcI{x:Int}(h1:0<=x)(h2:x<=18446744073709551615):IntKind.wrap .u64 x=x:=by
 simp[IntKind.wrap,IntKind.bits,IntKind.signed];omega
theorem qsK:cvK qB q (.i q' n) k↔evA (.i q (q.wrap n)) k:=by
 show zV (XF q n) (fun r=>k (.i q r))↔_
 exact qda
end

theorem qop{s f:Nat}{tr:Tr Blk}{x:Blk}{k:Nat->Hp->Prop}:z9 ⟨s,f,tr⟩ x k↔evN (s+1) (fun s'=>k s ⟨s',f,tr.set s x⟩):=by
 rw[zo];exact Iff.rfl
theorem qo5{s f b:Nat}{tr:Tr Blk}{x:Blk}{k:Hp->Prop}:jk ⟨s,f,tr⟩ b x k↔ifK (f<=b) (k ⟨s,f,tr.set b x⟩):=xP _ _ _ _
theorem qmC{s f:Nat}{tr:Tr Blk}:Hp.up ⟨s,f,tr⟩=⟨s,s,tr⟩:=rfl
theorem qeL{s f f':Nat}{tr:Tr Blk}:Hp.down ⟨s,f,tr⟩ f'=⟨s,f',tr⟩:=rfl
def jK(x:Blk)(k:Nat->Bool->Bool->List AV->Prop):Prop:=match x with | .cells e w a cs=>k e w a cs|_=>False
@[congr] theorem qj5 {x x':Blk} {k:Nat->Bool->Bool->List AV->Prop} {mk:Prop} (_:qS=mk) (h:x=x'):jK x k=jK x' k:=by rw[h]
theorem qca{e:Nat}{w a:Bool}{cs:List AV}{k:Nat->Bool->Bool->List AV->Prop}:jK (.cells e w a cs) k↔k e w a cs:=Iff.rfl
theorem QW{b:Nat}{k:Nat->Bool->Bool->List AV->Prop}:x7 h b k↔evB (h.tr.get b) (fun x=>jK x k):=by
 rw[qP];constructor
 ·rintro⟨e,w,a,cs,h1,h2⟩;exact⟨_,h1,h2⟩
 ·rintro⟨x,h1,h2⟩;cases x with
  | cells e w a cs=>exact⟨e,w,a,cs,h1,h2⟩
  | dead=>exact h2.elim
  | map es=>exact h2.elim
def yx(cs:List AV)(o n:Nat)(k:List AV->Prop):Prop:=o<=cs.length∧n<=(cs.drop o).length∧k ((cs.drop o).take n)
@[congr] theorem qnu {cs:List AV} {o n:Nat} {k:List AV->Prop} {mk:Prop} (_:qS=mk):yx cs o n k=yx cs o n k:=rfl
theorem qki{cs:List AV}{o n:Nat}{k:List AV->Prop}:yx cs o n k↔ifK (o+n<=cs.length) (evL ((cs.drop o).take n) k):=by
 unfold yx ifK;rw[List.length_drop];exact⟨fun⟨h1,h2,h3⟩=>⟨by omega,h3⟩,fun⟨h1,h2⟩=>⟨by omega,by omega,h2⟩⟩
theorem drop_take{cs:List AV}{o n:Nat}{k:List AV->Prop}:w7 o cs (fun l=>jW n l k)↔yx cs o n k:=by
 rw[zd,qQ];exact Iff.rfl
theorem qig{b o:Nat}{k:AV->Prop}:ldV h (.ptr b o) k↔evB (h.tr.get b) (fun x=>jK x (fun _ _ _ cs=>evO cs[o]? k)):=by
 show x7 h b (fun _ _ _ cs=>ZO cs o k)↔_
 rw[QW]
 have:(fun (_:Nat) (_ _:Bool) (cs:List AV)=>ZO cs o k)=fun _ _ _ cs=>evO cs[o]? k:=by
  funext _ _ _ cs;exact propext (zS _ _ _)
 rw[this]
theorem qrx{cs:List AV}{o:Nat}{k:AV->Prop}:ldV h (.pf cs o) k↔evO cs[o]? k:=zS _ _ _
theorem qrv{b o:Nat}{k:AV->Prop}:ldK h b o k↔evB (h.tr.get b) (fun x=>jK x (fun _ _ _ cs=>evO cs[o]? k)):=qig
theorem qih{b o n:Nat}{k:List AV->Prop}:wA h b o n k↔evB (h.tr.get b) (fun x=>jK x (fun _ _ _ cs=>yx cs o n k)):=by
 show x7 h b (fun _ _ _ cs=>w7 o cs (fun l=>jW n l k))↔_
 rw[QW];simp only[drop_take]
theorem qkZ{b o n:Nat}{k:List AV->Prop}:JB h (.ptr b o) n k↔evB (h.tr.get b) (fun x=>jK x (fun _ _ _ cs=>yx cs o n k)):=qih
theorem qn7{cs:List AV}{o n:Nat}{k:List AV->Prop}:JB h (.pf cs o) n k↔yx cs o n k:=drop_take
theorem qk6{b o n:Nat}{k:AV->Prop}:ZN (.ptr b o) n k↔evN (o+n) (fun o'=>k (.ptr b o')):=xg (n:=o+n) (k:=fun o'=>k (.ptr b o'))
theorem qol{cs:List AV}{o n:Nat}{k:AV->Prop}:ZN (.pf cs o) n k↔evN (o+n) (fun o'=>k (.pf cs o')):=xg (n:=o+n) (k:=fun o'=>k (.pf cs o'))
@[congr] theorem qok {p:AV} {n:Nat} {k:AV->Prop} {mk:Prop} (_:qS=mk):ZN p n k=ZN p n k:=rfl
theorem qtJ{b o:Nat}{vs:List AV}{k:Hp->Prop}:stK h b o vs k↔evB (h.tr.get b) (fun x=>jK x (fun e w a cs=>ifK (w=true∧qK vs=true∧o+vs.length<=cs.length) (evL (cs.take o++(vs++cs.drop (o+vs.length))) (fun cs'=>jk h b (.cells e true a cs') k)))):=by
 show x7 h b _↔_;rw[QW]
 have:(fun (e:Nat) (w a:Bool) (cs:List AV)=>(Bool.rec (motive:=fun _=>Prop) False (Bool.rec (motive:=fun _=>Prop) False (xp vs o cs (fun cs'=>jk h b (.cells e w a cs') k)) (qK vs)) w:Prop)) =
   fun e w a cs=>ifK (w=true∧qK vs=true∧o+vs.length<=cs.length) (evL (cs.take o++(vs++cs.drop (o+vs.length))) (fun cs'=>jk h b (.cells e true a cs') k)):=by
  funext e w a cs;refine propext ?_;cases w with
  | false=>exact⟨False.elim,fun hh=>by have:=hh.1.1;cases this⟩
  | true =>
   cases hc:qK vs with
   | false=>exact⟨False.elim,fun hh=>by have:=hh.1.2.1;cases this⟩
   | true=>exact (xq _ _ _ _).trans ⟨fun⟨h1,h2⟩=>⟨⟨rfl,rfl,h1⟩,h2⟩,fun⟨⟨_,_,h1⟩,h2⟩=>⟨h1,h2⟩⟩
 rw[this]
def stV(h:Hp)(b o:Nat)(v:AV)(n:Nat)(k:Hp->Prop):Prop:=qh (Qh v) (Zc (cellsOf v) (fun m=>qh (Nat.beq m n) (stK h b o (cellsOf v) k)))
@[congr] theorem qqf {b o:Nat} {v:AV} {n:Nat} {k:Hp->Prop} {mk:Prop} (_:qS=mk):stV h b o v n k=stV h b o v n k:=rfl
theorem yu{x y:Nat}:Nat.beq x y=true↔x=y:=⟨Nat.eq_of_beq_eq_true,fun h=>h ▸ Nat.beq_refl x⟩
theorem qlU{b o:Nat}{v:AV}{n:Nat}{k:Hp->Prop}:stV h b o v n k↔ifK (Qh v=true) (evL (cellsOf v) (fun cs=>ifK (cs.length=n) (stK h b o cs k))):=by
 unfold stV;rw[qb,xC,qb,yu];exact Iff.rfl
theorem xl{x y:Nat}:Nat.ble x y=true↔x<=y:=⟨Nat.le_of_ble_eq_true,Nat.ble_eq_true_of_le⟩

theorem qoW{x:O}:opK qB (.mov x) t h k↔evK t x (fun v=>k v h):=Iff.rfl
theorem kV{b:Bool}{p q:Prop}:(Bool.rec (motive:=fun _=>Prop) q p b:Prop)↔if b=true then p else q:=by cases b<;>simp
theorem qls{c x y:O}:opK qB (.pick c x y) t h k↔evK t c (fun c=>unB c (fun c=>if c=true then evK t x (fun v=>k v h) else evK t y (fun v=>k v h))):=by
 show evK t c (fun c=>unB c (fun c=>Bool.rec (motive:=fun _=>Prop) (evK t y (fun v=>k v h)) (evK t x (fun v=>k v h)) c))↔_
 simp only[kV]
theorem qiJ{z:List AV}:opK qB (.alloc z) t h k↔z9 h (.cells 0 true false z) (fun b h'=>k (.ptr b 0) h'):=Iff.rfl
theorem qoJ{x:O}:opK qB (.box x) t h k↔evK t x (fun v=>qh (Qh v) (evL (cellsOf v) (fun cs=>z9 h (.cells 0 true false cs) (fun b h'=>k (.ptr b 0) h')))):=Iff.rfl
theorem qiK{z:List AV}{ps:List (Nat×Nat×O)}:opK qB (.build z ps) t h k↔xX t ps z (fun cs=>k (.agg cs) h):=Iff.rfl
theorem qgo{n:Nat}{z:List AV}{ps:List (Nat×Nat×O)}:opK qB (.buildS n z ps) t h k↔evL (List.replicate n z).flatten (fun cs=>xX t ps cs (fun cs=>z9 h (.cells 0 true false cs) (fun b h'=>k (.sl b 0 n n false) h'))):=by
 show Xy z n _↔_;rw[xQ];exact Iff.rfl
theorem qiP{x:O}:opK qB (.load1 x) t h k↔evK t x (fun p=>ldV h p (fun v=>k v h)):=Iff.rfl
theorem qiQ{n:Nat}{x:O}:opK qB (.loadN n x) t h k↔evK t x (fun p=>JB h p n (fun cs=>k (.agg cs) h)):=Iff.rfl
theorem qiT{n:Nat}{x v:O}:opK qB (.store n x v) t h k↔evK t x (fun p=>unP p (fun b o=>evK t v (fun v=>stV h b o v n (fun h'=>k .undef h')))):=Iff.rfl
def Jv(v:AV)(k:AV->Prop):Prop:=match v with | .ptr b o=>k (.ptr b o) | .fn f a c=>k (.fn f a c) | .map r=>k (.map r) | .pf cs o=>k (.pf cs o) | .yl b=>k (.yl b)|_=>False
@[congr] theorem qms {v:AV} {k:AV->Prop} {mk:Prop} (_:qS=mk):Jv v k=Jv v k:=rfl
theorem qgr{x:O}:opK qB (.nilChk x) t h k↔evK t x (fun v=>Jv v (fun v=>k v h)):=by
 show evK t x (fun v=>_)↔_
 refine iff_of_eq (congrArg _ (funext fun v=>?_))
 cases v<;>rfl
theorem qoI{op:BinOp}{x y:O}:opK qB (.bin op x y) t h k↔evK t x (fun x=>evK t y (fun y=>zF qB op x y (fun v=>k v h))):=Iff.rfl
theorem qoM{neg:Bool}{x y:O}:opK qB (.eqB neg x y) t h k↔evK t x (fun x=>evK t y (fun y=>unB x (fun x=>unB y (fun y=>evT (xor neg (x==y)) (fun r=>k (.b r) h))))):=by
 show evK t x (fun x=>evK t y (fun y=>unB x (fun x=>unB y (fun y=>qJ _ _))))↔_
 simp only[XO]
theorem qoN{neg:Bool}{q:NK}{x:O}:opK qB (.eqN neg q x) t h k↔evK t x (fun x=>xf q x (fun r=>evT (xor neg r) (fun r=>k (.b r) h))):=by
 show evK t x (fun x=>xf q x (fun r=>qJ _ _))↔_
 simp only[XO]
theorem qoL{neg:Bool}{ks:List PK}{x y:O}:opK qB (.eqA neg ks x y) t h k↔evK t x (fun x=>evK t y (fun y=>match x with | .agg a=>(match y with | .agg c=>xw ks a c (fun r=>qJ (xor neg r) (fun r=>k (.b r) h))|_=>False)|_=>False)):=Iff.rfl
theorem qrR{op:UnOp}{x:O}:opK qB (.un op x) t h k↔evK t x (fun x=>kK op x (fun v=>k v h)):=Iff.rfl
theorem qiM{q:IntKind}{x:O}:opK qB (.cvInt q x) t h k↔evK t x (fun x=>cvK qB q x (fun v=>k v h)):=Iff.rfl
@[congr] theorem qpP {q:IntKind} {x:AV} {k:AV->Prop} {mk:Prop} (_:qS=mk):cvK qB q x k=cvK qB q x k:=rfl
theorem qiN{x:O}:opK qB (.cvStr x) t h k↔evK t x (fun x=>match x with | .s a=>k (.s a) h|_=>False):=Iff.rfl
theorem qoX{x:O}:opK qB (.s2b x) t h k↔evK t x (fun x=>match x with | .s a=>z9 h (.cells 1 true true (a.map fun c=>.i .u8 (Int.ofNat c.toNat))) (fun b h'=>k (.own b a.length) h')|_=>False):=by
 show evK t x (fun x=>_)↔_
 refine iff_of_eq (congrArg _ (funext fun v=>?_))
 cases v<;>first|rfl|exact qt _ _
theorem qoH{x:O}:opK qB (.b2s x) t h k↔evK t x (fun x=>match x with
  | .nils=>k (.s []) h
  | .sl b o n _ _=>wA h b o n (fun cs=>zI cs (fun l=>k (.s l) h))
  | .fz n cs=>yx cs 0 n (fun cs=>zI cs (fun l=>k (.s l) h))
  | .e0=>k (.s []) h
  | .own b n=>wA h b 0 n (fun cs=>zI cs (fun l=>k (.s l) h))
  | _=>False):=by
 show evK t x (fun x=>_)↔_
 refine iff_of_eq (congrArg _ (funext fun v=>?_))
 cases v<;>first|rfl|exact propext ((qQ _ _ _).trans ⟨fun hh=>⟨Nat.zero_le _,by simpa using hh⟩,fun hh=>by simpa using hh.2⟩)
theorem qiO{off:Nat}{x:O}:opK qB (.fAddr off x) t h k↔evK t x (fun p=>ZN p off (fun v=>k v h)):=Iff.rfl
def qhV(off:Nat)(n:Option Nat)(x:AV)(k:AV->Prop):Prop:=match x with
 | .agg cs=>(match n with|none=>evO cs[off]? k|some n=>yx cs off n (fun l=>k (.agg l)))
 | _=>False
@[congr] theorem qnL {off:Nat} {n:Option Nat} {x:AV} {k:AV->Prop} {mk:Prop} (_:qS=mk):qhV off n x k=qhV off n x k:=rfl
theorem qhW{off:Nat}{cs:List AV}{k:AV->Prop}:qhV off none (.agg cs) k↔evO cs[off]? k:=Iff.rfl
theorem qhX{off n:Nat}{cs:List AV}{k:AV->Prop}:qhV off (some n) (.agg cs) k↔yx cs off n (fun l=>k (.agg l)):=Iff.rfl
theorem qoP{off:Nat}{n:Option Nat}{x:O}:opK qB (.fld off n x) t h k↔evK t x (fun x=>qhV off n x (fun v=>k v h)):=by
 show evK t x (fun x=>_)↔_
 refine iff_of_eq (congrArg _ (funext fun v=>?_))
 cases v<;>first|rfl|skip
 cases n with
 | none=>exact propext (zS _ _ _)
 | some n=>exact propext drop_take
theorem qgp{len esz:Nat}{x i:O}:opK qB (.iAddrA len esz x i) t h k↔evK t x (fun p=>evK t i (fun i=>unN i (fun i=>ifK (i<len) (evN (i*esz) (fun o=>ZN p o (fun v=>k v h)))))):=by
 show evK t x (fun p=>evK t i (fun i=>unN i (fun i=>qh (Nat.ble (Nat.succ i) len) _)))↔_
 simp only[qb,xl];exact Iff.rfl
def ixK(esz:Nat)(x:AV)(i:Nat)(k:AV->Prop):Prop:=match x with
 | .sl b o len _ _=>ifK (i<len) (evN (o+i*esz) (fun o'=>k (.ptr b o')))
 | .fz len cs=>ifK (i<len) (evN (i*esz) (fun o'=>k (.pf cs o')))
 | .own b len=>ifK (i<len) (evN (i*esz) (fun o'=>k (.ptr b o')))
 | _=>False
@[congr] theorem qp1 {esz i:Nat} {x:AV} {k:AV->Prop} {mk:Prop} (_:qS=mk):ixK esz x i k=ixK esz x i k:=rfl
theorem qrp{esz i b o len cap:Nat}{l:Bool}{k:AV->Prop}:ixK esz (.sl b o len cap l) i k↔ifK (i<len) (evN (o+i*esz) (fun o'=>k (.ptr b o'))):=Iff.rfl
theorem qro{esz i len:Nat}{cs:List AV}{k:AV->Prop}:ixK esz (.fz len cs) i k↔ifK (i<len) (evN (i*esz) (fun o'=>k (.pf cs o'))):=Iff.rfl
theorem qn1{esz i b len:Nat}{k:AV->Prop}:ixK esz (.own b len) i k↔ifK (i<len) (evN (i*esz) (fun o'=>k (.ptr b o'))):=Iff.rfl
def qbJ(x:AV)(p:Prop):Prop:=match x with | .sl _ _ _ _ _=>p | .fz _ _=>p | .own _ _=>p|_=>False
@[congr] theorem qmn {x:AV} {p:Prop} {mk:Prop} (_:qS=mk):qbJ x p=qbJ x p:=rfl
theorem qib{b o len cap:Nat}{l:Bool}{p:Prop}:qbJ (.sl b o len cap l) p↔p:=Iff.rfl
theorem qia{len:Nat}{cs:List AV}{p:Prop}:qbJ (.fz len cs) p↔p:=Iff.rfl
theorem qgb{b len:Nat}{p:Prop}:qbJ (.own b len) p↔p:=Iff.rfl
theorem qgq{esz:Nat}{x i:O}:opK qB (.iAddrS esz x i) t h k↔evK t x (fun x=>qbJ x (evK t i (fun i=>unN i (fun i=>ixK esz x i (fun v=>k v h))))):=by
 show evK t x (fun x=>_)↔_
 refine iff_of_eq (congrArg _ (funext fun v=>?_))
 cases v<;>first|rfl|(simp only[qb,xl,xg];rfl)
theorem qlq{len esz:Nat}{agg:Bool}{x i:O}:opK qB (.idxA len esz agg x i) t h k↔evK t x (fun x=>match x with
  | .agg cs=>evK t i (fun i=>unN i (fun i=>ifK (i<len) (evN (i*esz) (fun o=>if agg=true then yx cs o esz (fun l=>k (.agg l) h) else evO cs[o]? (fun v=>k v h)))))
  | _=>False):=by
 show evK t x (fun x=>_)↔_
 refine iff_of_eq (congrArg _ (funext fun v=>?_))
 cases v<;>first|rfl|skip
 simp only[qb,xl,xg,kV,drop_take];have:∀(cs:List AV) (o:Nat),ZO cs o (fun v=>k v h)=evO cs[o]? (fun v=>k v h):=fun cs o=>propext (zS _ _ _)
 simp only[this];rfl
def evC(o:Option UInt8)(k:UInt8->Prop):Prop:=∃v,o=some v∧k v
@[congr] theorem qpT {o o':Option UInt8} {k:UInt8->Prop} {mk:Prop} (_:qS=mk) (h:o=o'):evC o k=evC o' k:=by rw[h]
theorem qc6{v:UInt8}{k:UInt8->Prop}:evC (some v) k↔k v:=by simp[evC]
theorem qlr{x i:O}:opK qB (.idxS x i) t h k↔evK t x (fun x=>match x with
  | .s a=>evK t i (fun i=>unN i (fun i=>evC a[i]? (fun c=>k (.i .u8 (c.toNat:Int)) h)))
  | _=>False):=by
 show evK t x (fun x=>_)↔_
 refine iff_of_eq (congrArg _ (funext fun v=>?_))
 cases v<;>first|rfl|skip
 rename_i a
 have e:∀(j:Nat),(Option.rec (motive:=fun _=>Prop) False (fun c=>k (.i .u8 (Int.ofNat c.toNat)) h) (a[j]?):Prop)=evC a[j]? (fun c=>k (.i .u8 (c.toNat:Int)) h):=by
  intro j;cases ha:a[j]? with
  | none=>exact propext ⟨False.elim,fun⟨_,h1,_⟩=>by cases h1⟩
  | some c=>exact (propext (qc6 (k:=fun c=>k (.i .u8 (c.toNat:Int)) h) (v:=c))).symm
 simp only[e]
def bdK(x:Option AV)(dflt top:Nat)(k:Nat->Prop):Prop:=Za x dflt top k
@[congr] theorem qpK {x:Option AV} {a b:Nat} {k:Nat->Prop} {mk:Prop} (_:qS=mk):bdK x a b k=bdK x a b k:=rfl
theorem qjE{a b:Nat}{k:Nat->Prop}:bdK none a b k↔k a:=Iff.rfl
theorem qjF{v:AV}{a b:Nat}{k:Nat->Prop}:bdK (some v) a b k↔unN v (fun n=>ifK (n<=b) (k n)):=by
 show unN v (fun n=>qh (Nat.ble n b) (qq n k))↔_
 simp only[qb,xl,qt];exact Iff.rfl
theorem qjX{len cap:Nat}{lo:Option AV}{k:Nat->Nat->Nat->Prop}:zJ len cap lo none none k↔ifK (len<=cap) (bdK lo 0 len (fun l=>k l len cap)):=by
 show qh (Nat.ble len cap) (Za lo 0 len (fun l=>k l len cap))↔_
 rw[qb,xl];exact Iff.rfl
theorem qjW{len cap:Nat}{lo:Option AV}{hi:AV}{k:Nat->Nat->Nat->Prop}:zJ len cap lo (some hi) none k↔unN hi (fun u=>ifK (u<=cap) (bdK lo 0 u (fun l=>k l u cap))):=by
 show unN hi (fun u=>qh (Nat.ble u cap) (qq u (fun u=>Za lo 0 u (fun l=>k l u cap))))↔_
 simp only[qb,xl,qt];exact Iff.rfl
theorem qjY{len cap:Nat}{lo:Option AV}{hi mx:AV}{k:Nat->Nat->Nat->Prop}:zJ len cap lo (some hi) (some mx) k↔unN mx (fun m=>ifK (m<=cap) (unN hi (fun u=>ifK (u<=m) (bdK lo 0 u (fun l=>k l u m))))):=by
 show unN mx (fun m=>qh (Nat.ble m cap) (qq m (fun m=>unN hi (fun u=>qh (Nat.ble u m) (qq u (fun u=>Za lo 0 u (fun l=>k l u m)))))))↔_
 simp only[qb,xl,qt];exact Iff.rfl
def slK(esz:Nat)(lo hi mx:Option AV)(x:AV)(h:Hp)(k:AV->Prop):Prop:=match x with
 | .nils=>zJ 0 0 lo hi mx (fun _ _ _=>k .nils)
 | .e0=>zJ 0 0 lo hi mx (fun _ _ _=>k .e0)
 | .fz n cs=>zJ n n lo hi mx (fun l h' m=>if (mx.isSome&&Nat.beq m l)=true then k .e0 else evN (l*esz) (fun o=>evN (h'-l) (fun len'=>evN (len'*esz) (fun z=>yx cs o z (fun l2=>k (.fz len' l2))))))
 | .sl b o len cap loose=>zJ len cap lo hi mx (fun l h' m=>evN (if (loose&&mx.isNone)=false∧m=l then o else o+l*esz) (fun o'=>evN (h'-l) (fun len'=>evN (m-l) (fun cap'=>Jy h b esz (loose&&mx.isNone) (k (.sl b o' len' cap' (loose&&mx.isNone)))))))
 | .own b n=>ifK (mx=none) (if n=0 then zJ 0 0 lo hi none (fun _ _ _=>k (.own b 0)) else zJ n n lo hi none (fun l h' m=>evN (l*esz) (fun o'=>evN (h'-l) (fun len'=>evN (m-l) (fun cap'=>Jy h b esz true (k (.sl b o' len' cap' true)))))))
 | _=>False
@[congr] theorem qqd {esz:Nat} {lo hi mx:Option AV} {x:AV} {k:AV->Prop} {mk:Prop} (_:qS=mk):slK esz lo hi mx x h k=slK esz lo hi mx x h k:=rfl
@[congr] theorem qnE {b esz:Nat} {c:Bool} {p:Prop} {mk:Prop} (_:qS=mk):Jy h b esz c p=Jy h b esz c p:=rfl
theorem qfY{b esz:Nat}{p:Prop}:Jy h b esz false p↔p:=Iff.rfl
theorem qhM{b esz:Nat}{p:Prop}:Jy h b esz true p↔evB (h.tr.get b) (fun x=>jK x (fun e _ _ _=>ifK (e=esz) p)):=by
 show x7 h b (fun e _ _ _=>qh (Nat.beq e esz) p)↔_
 rw[QW];simp only[qb,yu];exact Iff.rfl
theorem qlO{esz:Nat}{lo hi mx:Option AV}{k:AV->Prop}:slK esz lo hi mx .nils h k↔zJ 0 0 lo hi mx (fun _ _ _=>k .nils):=Iff.rfl
theorem qrY{esz:Nat}{lo hi mx:Option AV}{k:AV->Prop}:slK esz lo hi mx .e0 h k↔zJ 0 0 lo hi mx (fun _ _ _=>k .e0):=Iff.rfl
theorem qrZ{esz n:Nat}{cs:List AV}{lo hi:Option AV}{k:AV->Prop}:slK esz lo hi none (.fz n cs) h k↔zJ n n lo hi none (fun l h' _=>evN (l*esz) (fun o=>evN (h'-l) (fun len'=>evN (len'*esz) (fun z=>yx cs o z (fun l2=>k (.fz len' l2)))))):=by
 simp only[slK,Option.isSome_none,Bool.false_and,Bool.false_eq_true,if_false]
theorem qpl{esz b o len cap:Nat}{lo hi mx:Option AV}{k:AV->Prop}:slK esz lo hi mx (.sl b o len cap false) h k↔zJ len cap lo hi mx (fun l1 h' m=>evN (if m=l1 then o else o+l1*esz) (fun o'=>evN (h'-l1) (fun len'=>evN (m-l1) (fun cap'=>k (.sl b o' len' cap' false))))):=by
 simp only[slK,Bool.false_and,true_and];exact Iff.rfl
theorem qpm{esz b o len cap:Nat}{lo hi:Option AV}{k:AV->Prop}:slK esz lo hi none (.sl b o len cap true) h k↔zJ len cap lo hi none (fun l1 h' m=>evN (o+l1*esz) (fun o'=>evN (h'-l1) (fun len'=>evN (m-l1) (fun cap'=>Jy h b esz true (k (.sl b o' len' cap' true)))))):=by
 simp only[slK,Option.isNone_none,Bool.and_self,Bool.true_eq_false,false_and,if_false]
theorem qpk{esz b n:Nat}{lo hi:Option AV}{k:AV->Prop}:slK esz lo hi none (.own b n) h k↔if n=0 then zJ 0 0 lo hi none (fun _ _ _=>k (.own b 0)) else zJ n n lo hi none (fun l h' m=>evN (l*esz) (fun o'=>evN (h'-l) (fun len'=>evN (m-l) (fun cap'=>Jy h b esz true (k (.sl b o' len' cap' true)))))):=by
 simp only[slK,ifK,true_and]
theorem qlu{esz:Nat}{x:O}{lo hi mx:Option O}:opK qB (.slcS esz x lo hi mx) t h k↔evK t x (fun x=>jG t lo (fun lo=>jG t hi (fun hi=>jG t mx (fun mx=>slK esz lo hi mx x h (fun v=>k v h))))):=by
 show evK t x (fun x=>_)↔_
 refine iff_of_eq (congrArg _ (funext fun v=>congrArg _ (funext fun lo=>congrArg _ (funext fun hi=>congrArg _ (funext fun mx=>?_)))))
 cases v<;>first|rfl|skip
 ·simp only[slK,xg];rfl
 ·have e:∀(cs:List AV) (o m:Nat),w7 o cs (fun l1=>evN m (fun len'=>jW (Nat.mul len' esz) l1 (fun l2=>k (.fz len' l2) h)))=evN m (fun len'=>evN (len'*esz) (fun z=>yx cs o z (fun l2=>k (.fz len' l2) h))):=by
   intro cs o m;refine propext ⟨fun hh=>?_,fun hh=>?_⟩
   ·obtain⟨h1,h2⟩:=(zd _ _ _).1 hh;obtain⟨h3,h4⟩:=(qQ _ _ _).1 h2;exact⟨h1,h3,h4⟩
   ·obtain⟨h1,h3,h4⟩:=hh;exact (zd _ _ _).2 ⟨h1,(qQ _ _ _).2 ⟨h3,h4⟩⟩
  simp only[slK,xg,kV,e];rfl
 ·rename_i b n;cases mx with
  | some m=>exact propext ⟨False.elim,fun hh=>by cases hh.1⟩
  | none =>
   cases n with
   | zero=>simp only[slK,ifK,true_and,if_true];rfl
   | succ n=>simp only[slK,ifK,true_and,Nat.succ_ne_zero,if_false,xg];rfl
theorem qgt{x:O}{lo hi:Option O}:opK qB (.slcStr x lo hi) t h k↔evK t x (fun x=>jG t lo (fun lo=>jG t hi (fun hi=>match x with
  | .s a=>zJ a.length a.length lo hi none (fun l h' _=>evA (.s ((a.take h').drop l)) (fun v=>k v h))
  | _=>False))):=Iff.rfl
theorem qlt{len esz:Nat}{x:O}{lo hi mx:Option O}:opK qB (.slcA len esz x lo hi mx) t h k↔evK t x (fun p=>unP p (fun b o=>jG t lo (fun lo=>jG t hi (fun hi=>jG t mx (fun mx =>
   zJ len len lo hi mx (fun l h' m=>evN (if m=l then o else o+l*esz) (fun o'=>evN (h'-l) (fun len'=>evN (m-l) (fun cap'=>k (.sl b o' len' cap' false) h))))))))):=by
 show evK t x (fun p=>unP p (fun b o=>jG t lo (fun lo=>jG t hi (fun hi=>jG t mx (fun mx=>zJ len len lo hi mx (fun l h' m=>qq (if m=l then o else Nat.add o (Nat.mul l esz)) _))))))↔_
 simp only[xg];exact Iff.rfl
theorem qoO{x:O}{i:Nat}:opK qB (.ext x i) t h k↔evK t x (fun x=>match x with | .tup cs=>evO cs[i]? (fun v=>k v h)|_=>False):=by
 show evK t x (fun x=>_)↔_
 refine iff_of_eq (congrArg _ (funext fun v=>?_))
 cases v<;>first|rfl|exact propext (zS _ _ _)
theorem qoT{f:Nat}{a c:List O}:opK qB (.mkF f a c) t h k↔xZ t a (fun a=>xZ t c (fun c=>k (.fn f a c) h)):=Iff.rfl
theorem qoV{e bytes:Nat}{z:List AV}{len cap:O}:opK qB (.mkS e bytes z len cap) t h k↔evK t len (fun len=>evK t cap (fun cap=>unN len (fun l=>unN cap (fun c=>ifK (l<=c) (ifK (c<=qf) (ifK (bytes*c<=qf) (evL (List.replicate c z).flatten (fun cs=>z9 h (.cells 0 true false cs) (fun b h'=>k (.sl b 0 l c false) h'))))))))):=by
 show evK t len (fun len=>evK t cap (fun cap=>unN len (fun l=>unN cap (fun c=>qh (Nat.ble l c) (qh (Nat.ble c qf) (qh (Nat.ble (Nat.mul bytes c) qf) (Xy z c _)))))))↔_
 simp only[qb,xl,xQ];exact Iff.rfl
def lnK(str:Bool)(x:AV)(k:AV->Prop):Prop:=match x,str with
 | .nils,false=>k (.i .i64 0)
 | .e0,false=>k (.i .i64 0)
 | .nz,false=>k (.i .i64 0)
 | .fz n _,false=>evA (.i .i64 (n:Int)) k
 | .own _ n,false=>evA (.i .i64 (n:Int)) k
 | .sl _ _ n _ _,false=>evA (.i .i64 (n:Int)) k
 | .s a,true=>evA (.i .i64 (a.length:Int)) k
 | _,_=>False
@[congr] theorem qp5 {b:Bool} {x:AV} {k:AV->Prop} {mk:Prop} (_:qS=mk):lnK b x k=lnK b x k:=rfl
theorem qoQ{str:Bool}{x:O}:opK qB (.len str x) t h k↔evK t x (fun x=>lnK str x (fun v=>k v h)):=by
 show evK t x (fun x=>_)↔_
 refine iff_of_eq (congrArg _ (funext fun v=>?_))
 cases v<;>cases str<;>first|rfl|exact qt _ _
theorem qk2{k:AV->Prop}:lnK false .nils k↔k (.i .i64 0):=Iff.rfl
theorem qrA{k:AV->Prop}:lnK false .nz k↔k (.i .i64 0):=Iff.rfl
theorem qry{k:AV->Prop}:lnK false .e0 k↔k (.i .i64 0):=Iff.rfl
theorem qrz{n:Nat}{cs:List AV}{k:AV->Prop}:lnK false (.fz n cs) k↔evA (.i .i64 (n:Int)) k:=Iff.rfl
theorem qob{b n:Nat}{k:AV->Prop}:lnK false (.own b n) k↔evA (.i .i64 (n:Int)) k:=Iff.rfl
theorem qrB{b o n c:Nat}{l:Bool}{k:AV->Prop}:lnK false (.sl b o n c l) k↔evA (.i .i64 (n:Int)) k:=Iff.rfl
theorem qs7{a:List UInt8}{k:AV->Prop}:lnK true (.s a) k↔evA (.i .i64 (a.length:Int)) k:=Iff.rfl
theorem qoG{esz bytes:Nat}{c:Bool}{s x:O}:opK qB (.app esz bytes c s x) t h k↔evK t s (fun s=>evK t x (fun x=>y3 h esz bytes c s x k)):=Iff.rfl
theorem qln{esz bytes:Nat}{s x:O}:opK qB (.appF esz bytes s x) t h k↔evK t s (fun s=>evK t x (fun x=>y3 h esz bytes true s x k)):=Iff.rfl
def qdV(esz bytes:Nat)(z:List AV)(h:Hp)(s:AV)(n:Nat)(k:AV->Hp->Prop):Prop:=match s with
  | .sl b o len cap false=>evN (len+n) (fun need=>ifK (cap<need) (ifK (need<=qf) (ifK (need*bytes<=qf) (evN (len*esz) (fun m=>wA h b o m (fun old=>evL (old++(List.replicate n z).flatten) (fun cs=>z9 h (.cells esz true true cs) (fun b' h'=>k (.own b' need) h'))))))))
  | .nils=>ifK (1<=n) (ifK (n<=qf) (ifK (n*bytes<=qf) (evL ((List.replicate n z).flatten) (fun cs=>z9 h (.cells esz true true cs) (fun b' h'=>k (.own b' n) h')))))
  | _=>False
@[congr] theorem qm2 {esz bytes n:Nat} {z:List AV} {s:AV} {mk:Prop} (_:qS=mk):qdV esz bytes z h s n k=qdV esz bytes z h s n k:=rfl
theorem qm3{esz bytes b o len cap n:Nat}{z:List AV}:qdV esz bytes z h (.sl b o len cap false) n k↔evN (len+n) (fun need=>ifK (cap<need) (ifK (need<=qf) (ifK (need*bytes<=qf) (evN (len*esz) (fun m=>wA h b o m (fun old=>evL (old++(List.replicate n z).flatten) (fun cs=>z9 h (.cells esz true true cs) (fun b' h'=>k (.own b' need) h')))))))):=Iff.rfl
theorem qg0{esz bytes n:Nat}{z:List AV}:qdV esz bytes z h .nils n k↔ifK (1<=n) (ifK (n<=qf) (ifK (n*bytes<=qf) (evL ((List.replicate n z).flatten) (fun cs=>z9 h (.cells esz true true cs) (fun b' h'=>k (.own b' n) h'))))):=Iff.rfl
theorem qlo{esz bytes:Nat}{z:List AV}{s x:O}:opK qB (.appZ esz bytes z s x) t h k↔evK t s (fun s=>evK t x (fun x=>unN x (fun n=>qdV esz bytes z h s n k))):=by
 show evK t s (fun s=>evK t x (fun x=>unN x (fun n=>_)))↔_
 refine iff_of_eq (congrArg _ (funext fun v=>congrArg _ (funext fun x=>congrArg _ (funext fun n=>propext ?_))))
 cases v<;>first|exact Iff.rfl|skip
 ·simp only[qdV,qb,xl,xQ,ifK,evL];rfl
 rename_i b o len cap loose;cases loose with
 | true=>exact⟨fun hh=>absurd ((qb (!true) _).1 hh).1 (by simp),False.elim⟩
 | false =>
  simp only[qdV,qb,xl,xQ,xv,Bool.not_false,true_and,evN,ifK,evL];rfl
theorem qlp{esz:Nat}{s x:O}:opK qB (.copy esz s x) t h k↔evK t s (fun s=>evK t x (fun x=>Ji h esz s x k)):=Iff.rfl
theorem qfU{esz:Nat}{s:AV}:Ji h esz .nils s k↔wu h esz s (fun _ _=>k (.i .i64 0) h):=Iff.rfl
theorem qkg{esz b o len c:Nat}{l:Bool}{s:AV}:Ji h esz (.sl b o len c l) s k↔wu h esz s (fun n new=>evN (min n len) (fun m=>evN (m*esz) (fun z=>yx new 0 z (fun cs=>stK h b o cs (fun h'=>evA (.i .i64 (m:Int)) (fun v=>k v h')))))):=by
 show wu h esz s (fun n new=>qq (min n len) (fun m=>jW (Nat.mul m esz) new (fun cs=>stK h b o cs (fun h'=>k (.i .i64 (Int.ofNat m)) h'))))↔_
 simp only[xg];refine iff_of_eq (congrArg _ (funext fun n=>funext fun new=>congrArg _ (funext fun m=>propext ?_)))
 exact (qQ _ _ _).trans ⟨fun hh=>⟨Nat.zero_le _,by simpa[evA] using hh⟩,fun hh=>by simpa[evN,yx,evA] using hh⟩
theorem qoS{x y:O}:opK qB (.min x y) t h k↔evK t x (fun x=>evK t y (fun y=>unI x (fun q n=>unI y (fun _ m=>evA (.i q (if m<n then m else n)) (fun v=>k v h))))):=by
 have e:∀(q:IntKind) (n m:Int),(Bool.rec (motive:=fun _=>Prop) (k (.i q n) h) (k (.i q m) h) (ltI m n):Prop)=evA (.i q (if m<n then m else n)) (fun v=>k v h):=by
  intro q n m;rw[vl]
  by_cases hlt:m<n
  ·rw[decide_eq_true hlt,if_pos hlt];rfl
  ·rw[decide_eq_false hlt,if_neg hlt];rfl
 show evK t x (fun x=>evK t y (fun y=>unI x (fun q n=>unI y (fun _ m=>Bool.rec (motive:=fun _=>Prop) (k (.i q n) h) (k (.i q m) h) (ltI m n)))))↔_
 simp only[e]
theorem qoR{x y:O}:opK qB (.max x y) t h k↔evK t x (fun x=>evK t y (fun y=>unI x (fun q n=>unI y (fun _ m=>evA (.i q (if n<m then m else n)) (fun v=>k v h))))):=by
 have e:∀(q:IntKind) (n m:Int),(Bool.rec (motive:=fun _=>Prop) (k (.i q n) h) (k (.i q m) h) (ltI n m):Prop)=evA (.i q (if n<m then m else n)) (fun v=>k v h):=by
  intro q n m;rw[vl]
  by_cases hlt:n<m
  ·rw[decide_eq_true hlt,if_pos hlt];rfl
  ·rw[decide_eq_false hlt,if_neg hlt];rfl
 show evK t x (fun x=>evK t y (fun y=>unI x (fun q n=>unI y (fun _ m=>Bool.rec (motive:=fun _=>Prop) (k (.i q n) h) (k (.i q m) h) (ltI n m)))))↔_
 simp only[e]
def qd3(z:List AV)(x:AV)(h:Hp)(k:AV->Hp->Prop):Prop:=match x with
  | .nils=>k (.tup []) h
  | .sl b o n _ _=>if n=0 then k (.tup []) h else evL (List.replicate n z).flatten (fun cs=>stK h b o cs (fun h'=>k (.tup []) h'))
  | _=>False
@[congr] theorem qns {z:List AV} {x:AV} {mk:Prop} (_:qS=mk):qd3 z x h k=qd3 z x h k:=rfl
theorem qhy{z:List AV}:qd3 z .nils h k↔k (.tup []) h:=Iff.rfl
theorem qnt{z:List AV}{b o n c:Nat}{l:Bool}:qd3 z (.sl b o n c l) h k↔if n=0 then k (.tup []) h else evL (List.replicate n z).flatten (fun cs=>stK h b o cs (fun h'=>k (.tup []) h')):=Iff.rfl
theorem qiL{z:List AV}{x:O}:opK qB (.clear z x) t h k↔evK t x (fun x=>qd3 z x h k):=by
 show evK t x (fun x=>_)↔_
 refine iff_of_eq (congrArg _ (funext fun v=>?_))
 cases v<;>first|rfl|skip
 rename_i b o n c l;cases n with
 | zero=>simp only[qd3,if_true];rfl
 | succ n=>simp only[qd3,xQ];rfl
theorem qoU:opK qB .mkM t h k↔z9 h (.map []) (fun b h'=>k (.map b) h'):=Iff.rfl
theorem qgu{n:Nat}{x v:O}{ps:List Nat}:opK qB (.storeD n x v ps) t h k↔evK t x (fun p=>unP p (fun b o=>zX t b ps (evK t v (fun v=>stV h b o v n (fun h'=>k .undef h'))))):=Iff.rfl
theorem qlm{esz bytes:Nat}{s x:O}{ps:List Nat}:opK qB (.appD esz bytes s x ps) t h k↔evK t s (fun s=>evK t x (fun x=>jM t ps s (y3 h esz bytes true s x k))):=Iff.rfl
@[congr] theorem qlK {ps:List Nat} {s s':AV} {p:Prop} {mk:Prop} (_:qS=mk) (h':s=s'):jM t ps s p=jM t ps s' p:=by rw[h']
theorem qlL{ps:List Nat}{b m:Nat}{p:Prop}:jM t ps (.own b m) p↔zX t b ps p:=Iff.rfl
theorem qpj{ps:List Nat}{b o m c:Nat}{l:Bool}{p:Prop}:jM t ps (.sl b o m c l) p↔zX t b ps p:=Iff.rfl
theorem qpi{ps:List Nat}{m:Nat}{cs:List AV}{p:Prop}:jM t ps (.fz m cs) p↔p:=Iff.rfl
theorem qjb{ps:List Nat}{p:Prop}:jM t ps .nils p↔p:=Iff.rfl
theorem qph{ps:List Nat}{p:Prop}:jM t ps .e0 p↔p:=Iff.rfl
@[congr] theorem qjA {b:Nat} {ps:List Nat} {p:Prop} {mk:Prop} (_:qS=mk):zX t b ps p=zX t b ps p:=rfl
theorem qfA{b:Nat}{p:Prop}:zX t b [] p↔p:=Iff.rfl
def neK(b:Nat)(y:AV)(p:Prop):Prop:=match y with | .ptr b' _=>ifK (¬b'=b) p | .pf _ _=>p|_=>False
@[congr] theorem qp7 {b:Nat} {y:AV} {p:Prop} {mk:Prop} (_:qS=mk):neK b y p=neK b y p:=rfl
theorem qom{b b' o:Nat}{p:Prop}:neK b (.ptr b' o) p↔ifK (¬b'=b) p:=Iff.rfl
theorem qrF{b o:Nat}{cs:List AV}{p:Prop}:neK b (.pf cs o) p↔p:=Iff.rfl
theorem qdR{b q:Nat}{ps:List Nat}{p:Prop}:zX t b (q::ps) p↔evO (t.get q) (fun y=>neK b y (zX t b ps p)):=by
 refine (Tr.getK_iff _ _ _).trans (iff_of_eq (congrArg _ (funext fun v=>?_)))
 refine congrArg _ ?_;cases v<;>first|rfl|skip
 rename_i b' o;refine propext ((qb _ _).trans ?_);show _∧_↔_∧_
 have:(!Nat.beq b' b)=true↔¬b'=b:=by
  rw[Bool.not_eq_true',← Bool.not_eq_true,yu]
 rw[this];exact Iff.rfl
def cpK(x:AV)(k:AV->Prop):Prop:=match x with
  | .nils=>k (.i .i64 0)
  | .e0=>k (.i .i64 0)
  | .sl _ _ _ c false=>evA (.i .i64 (c:Int)) k
  | _=>False
@[congr] theorem qpN {x:AV} {k:AV->Prop} {mk:Prop} (_:qS=mk):cpK x k=cpK x k:=rfl
theorem qoK{x:O}:opK qB (.cap x) t h k↔evK t x (fun x=>cpK x (fun v=>k v h)):=by
 show evK t x (fun x=>_)↔_
 refine iff_of_eq (congrArg _ (funext fun v=>?_))
 cases v<;>first|rfl|skip
 rename_i l;cases l<;>rfl
theorem qkh{k:AV->Prop}:cpK .nils k↔k (.i .i64 0):=Iff.rfl
theorem qq4{k:AV->Prop}:cpK .e0 k↔k (.i .i64 0):=Iff.rfl
theorem qq5{b o n c:Nat}{k:AV->Prop}:cpK (.sl b o n c false) k↔evA (.i .i64 (c:Int)) k:=Iff.rfl
theorem qhS{l:List AV}{k:List AV->Prop}:xX t [] l k↔k l:=Iff.rfl
theorem qf2{off m:Nat}{x:O}{ps:List (Nat×Nat×O)}{l:List AV}{k:List AV->Prop}:xX t ((off,m,x)::ps) l k↔evK t x (fun v=>ifK (Qh v=true) (evL (cellsOf v) (fun cs=>ifK (cs.length=m∧off+cs.length<=l.length) (evL (l.take off++(cs++l.drop (off+cs.length))) (fun l=>xX t ps l k))))):=by
 show evK t x (fun v=>qh (Qh v) (qq off (fun off=>Zc (cellsOf v) (fun n=>qh (Nat.beq n m) (xp (cellsOf v) off l (fun l'=>xX t ps l' k))))))↔_
 simp only[qb,qt,xC,xq,yu,ifK,evL,and_assoc]
theorem qje{esz:Nat}{k:Nat->List AV->Prop}:wu h esz .nils k↔k 0 []:=Iff.rfl
theorem qpq{esz:Nat}{k:Nat->List AV->Prop}:wu h esz .nz k↔k 0 []:=Iff.rfl
theorem qpo{esz:Nat}{k:Nat->List AV->Prop}:wu h esz .e0 k↔k 0 []:=Iff.rfl
theorem qpr{esz b o n c:Nat}{l:Bool}{k:Nat->List AV->Prop}:wu h esz (.sl b o n c l) k↔evN (n*esz) (fun m=>wA h b o m (fun cs=>k n cs)):=Iff.rfl
theorem qlR{esz b n:Nat}{k:Nat->List AV->Prop}:wu h esz (.own b n) k↔evN (n*esz) (fun m=>wA h b 0 m (fun cs=>k n cs)):=Iff.rfl
theorem qpp{esz n:Nat}{cs:List AV}{k:Nat->List AV->Prop}:wu h esz (.fz n cs) k↔evN (n*esz) (fun m=>yx cs 0 m (fun cs=>k n cs)):=by
 refine (qQ _ _ _).trans ⟨fun hh=>⟨Nat.zero_le _,by simpa using hh⟩,fun hh=>by simpa[evN,yx] using hh⟩
theorem qr1{esz:Nat}{a:List UInt8}{k:Nat->List AV->Prop}:wu h esz (.s a) k↔ifK (esz=1) (k a.length (a.map fun c=>.i .u8 (Int.ofNat c.toNat))):=by
 show qh (Nat.beq esz 1) (qq a.length _)↔_;rw[qb,yu,qt];exact Iff.rfl
theorem qgZ{esz bytes:Nat}{c:Bool}{x:AV}:y3 h esz bytes c .nils x k↔wu h esz x (fun n new=>ifK (n<=qf) (ifK (n*bytes<=qf) (z9 h (.cells esz true true new) (fun b h'=>k (.own b n) h')))):=by
 show wu h esz x (fun n new=>qh (Nat.ble n qf) (qh (Nat.ble (Nat.mul n bytes) qf) _))↔_
 simp only[qb,xl];exact Iff.rfl
theorem qmZ{esz bytes:Nat}{c:Bool}{x:AV}:y3 h esz bytes c .e0 x k↔wu h esz x (fun n new=>ifK (n<=qf) (ifK (n*bytes<=qf) (z9 h (.cells esz true true new) (fun b h'=>k (.own b n) h')))):=by
 show wu h esz x (fun n new=>qh (Nat.ble n qf) (qh (Nat.ble (Nat.mul n bytes) qf) _))↔_
 simp only[qb,xl];exact Iff.rfl
theorem qjC{esz bytes b m:Nat}{x:AV}:y3 h esz bytes true (.own b m) x k↔wu h esz x (fun n new=>evN (m+n) (fun need=>ifK (need<=qf) (ifK (need*bytes<=qf) (evB (h.tr.get b) (fun y=>jK y (fun e w a ys =>
  ifK (qK new=true∧w=true∧a=true∧e=esz∧ys.length=m*esz) (evL (ys++new) (fun cs'=>jk h b .dead (fun h1=>z9 h1 (.cells esz true true cs') (fun b' h'=>k (.own b' need) h')))))))))):=by
 show wu h esz x (fun n new=>qq (Nat.add m n) (fun need=>qh (Nat.ble need qf) (qh (Nat.ble (Nat.mul need bytes) qf) (x7 h b (fun e w a ys=>_)))))↔_
 simp only[xg,qb,xl,yu,QW,xC,xv];refine iff_of_eq (congrArg _ (funext fun n=>funext fun new=>?_))
 simp only[ifK,evN,evL,and_assoc];rfl
theorem qm1{esz bytes b o len cap:Nat}{c:Bool}{x:AV}:y3 h esz bytes c (.sl b o len cap false) x k↔wu h esz x (fun n new=>evN (len+n) (fun need=>if need<=cap then
  (if n=0 then k (.sl b o need cap false) h else evN (o+len*esz) (fun at_=>stK h b at_ new (fun h'=>k (.sl b o need cap false) h')))
  else ifK (need<=qf) (ifK (need*bytes<=qf) (evN (len*esz) (fun m=>wA h b o m (fun old=>evL (old++new) (fun cs=>z9 h (.cells esz true true cs) (fun b' h'=>k (.own b' need) h')))))))):=by
 have e:∀(n:Nat) (p q:Prop),(Nat.rec (motive:=fun _=>Prop) p (fun _ _=>q) n:Prop)↔if n=0 then p else q:=by
  intro n p q;cases n with
  | zero=>rw[if_pos rfl];exact Iff.rfl
  | succ n=>rw[if_neg (Nat.succ_ne_zero n)]
 unfold y3;dsimp only;simp only[Bool.not_false,xg,qfs,xl,kV,xv,e,qdk];exact Iff.rfl
theorem qm0{esz bytes m:Nat}{c:Bool}{cs:List AV}{x:AV}:y3 h esz bytes c (.fz m cs) x k↔wu h esz x (fun n _=>ifK (n=0) (k (.fz m cs) h)):=by
 show wu h esz x (fun n _=>Nat.rec (motive:=fun _=>Prop) (k (.fz m cs) h) (fun _ _=>False) n)↔_
 refine iff_of_eq (congrArg _ (funext fun n=>funext fun new=>?_))
 cases n<;>simp[ifK];rfl
theorem qiB{k:Bool->Prop}:xf .ptr .nilp k↔k true:=Iff.rfl
theorem qla{b o:Nat}{k:Bool->Prop}:xf .ptr (.ptr b o) k↔k false:=Iff.rfl
theorem qot{cs:List AV}{o:Nat}{k:Bool->Prop}:xf .ptr (.pf cs o) k↔k false:=Iff.rfl
theorem qos{k:Bool->Prop}:xf .slice .nz k↔k false:=Iff.rfl
theorem qiC{k:Bool->Prop}:xf .slice .nils k↔k true:=Iff.rfl
theorem qou{b o n c:Nat}{l:Bool}{k:Bool->Prop}:xf .slice (.sl b o n c l) k↔k false:=Iff.rfl
theorem qor{n:Nat}{cs:List AV}{k:Bool->Prop}:xf .slice (.fz n cs) k↔ifK (1<=n) (k false):=by
 show qh (Nat.ble 1 n) (k false)↔_;rw[qb,xl];exact Iff.rfl
theorem qk9{b n:Nat}{k:Bool->Prop}:xf .slice (.own b n) k↔ifK (1<=n) (k false):=by
 show qh (Nat.ble 1 n) (k false)↔_;rw[qb,xl];exact Iff.rfl
theorem qiz{k:Bool->Prop}:xf .func .nilf k↔k true:=Iff.rfl
theorem qoq{f:Nat}{a c:List AV}{k:Bool->Prop}:xf .func (.fn f a c) k↔k false:=Iff.rfl
theorem qiA{k:Bool->Prop}:xf .iface .nili k↔k true:=Iff.rfl
theorem qk8{t:Nat}{v:AV}{k:Bool->Prop}:xf .iface (.ifc t v) k↔k false:=Iff.rfl
theorem qkk{x y:List AV}{k:Bool->Prop}:xw [] x y k↔k true:=Iff.rfl
theorem qhK{q:PK}{qs:List PK}{u v:AV}{us vs:List AV}{k:Bool->Prop}:xw (q::qs) (u::us) (v::vs) k↔xI q u v (fun e=>if e=true then xw qs us vs k else k false):=by
 show xI q u v (fun e=>Bool.rec (motive:=fun _=>Prop) (k false) (xw qs us vs k) e)↔_
 simp only[kV]
@[congr] theorem qju {q:PK} {x y:AV} {k:Bool->Prop} {mk:Prop} (_:qS=mk):xI q x y k=xI q x y k:=rfl
theorem qsQ{q:IntKind}{n m:Int}{k:Bool->Prop}:xI .i (.i q n) (.i q m) k↔evT (decide (n=m)) k:=by
 show qh (decide (q=q)) (qJ (eqI n m) k)↔_;rw[qb,qaF,qC];simp[evT]
theorem qsR{a c:List UInt8}{k:Bool->Prop}:xI .s (.s a) (.s c) k↔evT (decide (a=c)) k:=by
 show qJ (eqS a c) k↔_;rw[qC,j6,show (a==c)=decide (a=c) from by rw[Bool.eq_iff_iff];simp];exact Iff.rfl
theorem qsP{a c:Bool}{k:Bool->Prop}:xI .b (.b a) (.b c) k↔evT (a==c) k:=by
 show qJ (a==c) k↔_;rw[qC];exact Iff.rfl
theorem qhG{rs:List RV}{k:AV->Hp->Prop}:j0 rs k .ret t h↔jz t h rs (fun vs=>k (jj vs) h):=Iff.rfl
theorem qc5{rs:List RV}{k:AV->Hp->Prop}:j0 rs k .normal t h↔jz t h rs (fun vs=>k (jj vs) h):=Iff.rfl
@[congr] theorem qpd {rs:List RV} {k:List AV->Prop} {mk:Prop} (_:qS=mk):jz t h rs k=jz t h rs k:=rfl
theorem qlG{k:List AV->Prop}:jz t h [] k↔k []:=Iff.rfl
theorem qlH{n:Nat}{rs:List RV}{k:List AV->Prop}:jz t h (.tmp n::rs) k↔evO (t.get n) (fun v=>jz t h rs (fun vs=>k (v::vs))):=Tr.getK_iff _ _ _
theorem qi7{n size:Nat}{agg:Bool}{rs:List RV}{k:List AV->Prop}:jz t h (.cell n size agg::rs) k↔evO (t.get n) (fun v=>unP v (fun b o=>if agg=true then wA h b o size (fun cs=>jz t h rs (fun vs=>k (.agg cs::vs))) else ldK h b o (fun v=>jz t h rs (fun vs=>k (v::vs))))):=by
 refine (Tr.getK_iff _ _ _).trans (iff_of_eq (congrArg _ (funext fun v=>congrArg _ ?_)))
 cases v<;>first|rfl|skip
 cases agg<;>rfl
end Go.Kc
end
section
/- Rules for results and for states written out; maps. No condition. -/
namespace Go.Kc
variable {P:Program} {n:Nat} {t:Tr AV} {h:Hp} {k:AV->Hp->Prop}

section
variable {r:Nat->Nat} {m:Nat} {v v':AV} {vs vs':List AV}
theorem qiF:NV r m v .undef↔True:=iff_true_intro (.undef _)
theorem qtb{x y:Bool}:NV r m (.b x) (.b y)↔x=y:=⟨fun h=>by cases h;rfl,fun h=>by subst h;exact .clo _ rfl⟩
theorem qtc{q q':IntKind}{x y:Int}:NV r m (.i q x) (.i q' y)↔q=q'∧x=y:=⟨fun h=>by cases h;exact⟨rfl,rfl⟩,fun⟨h,h'⟩=>by subst h h';exact .clo _ rfl⟩
theorem qtd{x y:List UInt8}:NV r m (.s x) (.s y)↔x=y:=⟨fun h=>by cases h;rfl,fun h=>by subst h;exact .clo _ rfl⟩
theorem qlg:NV r m .nilp .nilp↔True:=iff_true_intro (.clo _ rfl)
theorem qlh:NV r m .nils .nils↔True:=iff_true_intro (.clo _ rfl)
theorem qld:NV r m .nilf .nilf↔True:=iff_true_intro (.clo _ rfl)
theorem qle:NV r m .nili .nili↔True:=iff_true_intro (.clo _ rfl)
theorem qlf:NV r m .nilm .nilm↔True:=iff_true_intro (.clo _ rfl)
theorem qrH:NV r m .e0 .e0↔True:=iff_true_intro (.clo _ rfl)
theorem qrK:NV r m .nz .nz↔True:=iff_true_intro (.clo _ rfl)
theorem qoy{x:Nat}{cs:List AV}:NV r m .e0 (.fz x cs)↔x=0∧cs=[]:=⟨fun h=>by cases h;exact⟨rfl,rfl⟩,fun⟨h,h'⟩=>by subst h h';exact .e0z⟩
theorem qiE{b' x':Nat}:NV r m .e0 (.own b' x')↔b'<m∧x'=0:=⟨fun h=>by
  cases h with
  | e0own _ h1=>exact⟨h1,rfl⟩,fun⟨h1,h2⟩=>by subst h2;exact .e0own _ h1⟩
theorem qoD{b b' o x c x':Nat}{l:Bool}:NV r m (.sl b o x c l) (.own b' x')↔b'<m∧x=0∧c=0∧l=false∧x'=0:=⟨fun h=>by
  cases h with
  | slz _ _ _ h1=>exact⟨h1,rfl,rfl,rfl,rfl⟩,fun⟨h1,h2,h3,h4,h5⟩=>by subst h2 h3 h4 h5;exact .slz _ _ _ h1⟩
theorem qrJ{x y:Nat}{cs ds:List AV}:NV r m (.fz x cs) (.fz y ds)↔x=y∧cs=ds:=⟨fun h=>by cases h;exact⟨rfl,rfl⟩,fun⟨h,h'⟩=>by subst h h';exact .clo _ rfl⟩
theorem qrL{x y:Nat}{cs ds:List AV}:NV r m (.pf cs x) (.pf ds y)↔cs=ds∧x=y:=⟨fun h=>by cases h;exact⟨rfl,rfl⟩,fun⟨h,h'⟩=>by subst h h';exact .clo _ rfl⟩
theorem qli{x:Nat}{cs:List AV}:NV r m .nils (.fz x cs)↔x=0∧cs=[]:=⟨fun h=>by cases h;exact⟨rfl,rfl⟩,fun⟨h,h'⟩=>by subst h h';exact .nilz⟩
theorem qoC{b b' o o':Nat}:NV r m (.ptr b o) (.ptr b' o')↔r b'=b∧b'<m∧o=o':=⟨fun h=>by
  cases h with
  | clo _ hc=>cases hc
  | ptr _ _ _ h1 h2=>exact⟨h1,h2,rfl⟩,fun⟨h1,h2,h3⟩=>by subst h3;exact .ptr _ _ _ h1 h2⟩
theorem qrM{b b' o o' x x' c c':Nat}{l l':Bool}:NV r m (.sl b o x c l) (.sl b' o' x' c' l')↔r b'=b∧b'<m∧o=o'∧x=x'∧c=c'∧l=l':=⟨fun h=>by
  cases h with
  | clo _ hc=>cases hc
  | sl _ _ _ _ _ _ h1 h2=>exact⟨h1,h2,rfl,rfl,rfl,rfl⟩,fun⟨h1,h2,h3,h4,h5,h6⟩=>by subst h3 h4 h5 h6;exact .sl _ _ _ _ _ _ h1 h2⟩
theorem qoB{b b' x x':Nat}:NV r m (.own b x) (.own b' x')↔r b'=b∧b'<m∧x=x':=⟨fun h=>by
  cases h with
  | clo _ hc=>cases hc
  | own _ _ _ h1 h2=>exact⟨h1,h2,rfl⟩,fun⟨h1,h2,h3⟩=>by subst h3;exact .own _ _ _ h1 h2⟩
theorem qgn{b' x':Nat}:NV r m .nils (.own b' x')↔b'<m∧x'=0:=⟨fun h=>by
  cases h with
  | nilown _ h1=>exact⟨h1,rfl⟩,fun⟨h1,h2⟩=>by subst h2;exact .nilown _ h1⟩
theorem qoA{b b':Nat}:NV r m (.map b) (.map b')↔r b'=b∧b'<m:=⟨fun h=>by
  cases h with
  | clo _ hc=>cases hc
  | map _ _ h1 h2=>exact⟨h1,h2⟩,fun⟨h1,h2⟩=>.map _ _ h1 h2⟩
theorem qrN{b b':Nat}:NV r m (.yl b) (.yl b')↔r b'=b∧b'<m:=⟨fun h=>by
  cases h with
  | clo _ hc=>cases hc
  | yl _ _ h1 h2=>exact⟨h1,h2⟩,fun⟨h1,h2⟩=>.yl _ _ h1 h2⟩
theorem qlj:NVs r m [] []↔True:=iff_true_intro .nil
theorem qiG:NVs r m (v::vs) (v'::vs')↔NV r m v v'∧NVs r m vs vs':=⟨fun h=>by
  cases h with
  | cons _ _ _ _ h1 h2=>exact⟨h1,h2⟩,fun h=>.cons _ _ _ _ h.1 h.2⟩
theorem qox{cs cs':List AV}:NV r m (.agg cs) (.agg cs')↔NVs r m cs cs':=⟨fun h=>by
  cases h with
  | clo _ hc=>exact NVs.refl (by simpa[clo] using hc)
  | agg _ _ h1=>exact h1,fun h=>.agg _ _ h⟩
theorem qoE{cs cs':List AV}:NV r m (.tup cs) (.tup cs')↔NVs r m cs cs':=⟨fun h=>by
  cases h with
  | clo _ hc=>exact NVs.refl (by simpa[clo] using hc)
  | tup _ _ h1=>exact h1,fun h=>.tup _ _ h⟩
theorem qrI{f f':Nat}{a a' c c':List AV}:NV r m (.fn f a c) (.fn f' a' c')↔f=f'∧NVs r m a a'∧NVs r m c c':=⟨fun h=>by
  cases h with
  | clo _ hc =>
   simp only[clo,Bool.and_eq_true] at hc;exact⟨rfl,NVs.refl hc.1,NVs.refl hc.2⟩
  | fn _ _ _ _ _ h1 h2=>exact⟨rfl,h1,h2⟩,fun⟨h1,h2,h3⟩=>by subst h1;exact .fn _ _ _ _ _ h2 h3⟩
theorem qoz{f f':Nat}:NV r m (.ifc f v) (.ifc f' v')↔f=f'∧NV r m v v':=⟨fun h=>by
  cases h with
  | clo _ hc=>exact⟨rfl,.clo _ (by simpa[clo] using hc)⟩
  | ifc _ _ _ h1=>exact⟨rfl,h1⟩,fun⟨h1,h2⟩=>by subst h1;exact .ifc _ _ _ h2⟩
theorem ql0:TWs t r m []↔True:=Iff.rfl
theorem qjl{p:Nat×AV}{l:List (Nat×AV)}:TWs t r m (p::l)↔evO (t.get p.1) (fun v=>NV r m v p.2)∧TWs t r m l:=Iff.rfl
theorem qj0:BWs h r m [] []↔True:=Iff.rfl
theorem qhc{b:Nat}{x:Blk}{bs:List Nat}{xs:List Blk}:BWs h r m (b::bs) (x::xs)↔BW h r m b x∧BWs h r m bs xs:=Iff.rfl
theorem qnf{b:Nat}{x:Blk}(hb:h.sz<=b):BW h r m b x↔True:=iff_true_intro (.inl hb)
theorem qjZ{b:Nat}:BW h r m b .dead↔True:=iff_true_intro (.inr (.inl rfl))
theorem qng{b e:Nat}{w a:Bool}{cs':List AV}(hb:b<h.sz):BW h r m b (.cells e w a cs')↔evB (h.tr.get b) (fun x=>jK x (fun e0 w0 a0 cs=>e0=e∧(w=true->w0=true)∧(a=true->a0=true)∧NVs r m cs cs')):=by
 constructor
 ·rintro (h1|h1|⟨e',w0,a0,cs,w',a',cs'',h1,h2,h3,h4,h5⟩|⟨es,es',h1,h2,h3⟩)
  ·omega
  ·cases h1
  ·cases h2;exact⟨_,h1,rfl,h3,h4,h5⟩
  ·cases h2
 ·rintro⟨x,h1,h2⟩;cases x with
  | cells e0 w0 a0 cs =>
   obtain⟨rfl,h3,h4,h5⟩:=h2;exact .inr (.inr (.inl ⟨_,w0,a0,cs,w,a,cs',h1,rfl,h3,h4,h5⟩))
  | dead=>exact h2.elim
  | map es=>exact h2.elim
end
theorem qtD{b d:Nat}{l:List Nat}:rl (b::l) d 0=b:=rfl
theorem qtE{b d i:Nat}{l:List Nat}:rl (b::l) d (i+1)=rl l d i:=rfl

section
variable {v v':AV} {vs vs':List AV}
theorem qhZ:Frz h v .undef↔True:=iff_true_intro (.undef _)
theorem qsW{x y:Bool}:Frz h (.b x) (.b y)↔x=y:=⟨fun h=>by cases h;rfl,fun h=>by subst h;exact .b _⟩
theorem qsX{q q':IntKind}{x y:Int}:Frz h (.i q x) (.i q' y)↔q=q'∧x=y:=⟨fun h=>by cases h;exact⟨rfl,rfl⟩,fun⟨h,h'⟩=>by subst h h';exact .i _ _⟩
theorem qsY{x y:List UInt8}:Frz h (.s x) (.s y)↔x=y:=⟨fun h=>by cases h;rfl,fun h=>by subst h;exact .s _⟩
theorem qkB:Frz h .nilp .nilp↔True:=iff_true_intro .nilp
theorem qkC:Frz h .nils .nils↔True:=iff_true_intro .nils
theorem qky:Frz h .nilf .nilf↔True:=iff_true_intro .nilf
theorem qkz:Frz h .nili .nili↔True:=iff_true_intro .nili
theorem qkA:Frz h .nilm .nilm↔True:=iff_true_intro .nilm
theorem qrb:Frz h .e0 .e0↔True:=iff_true_intro .e0
theorem qrd:Frz h .nz .nz↔True:=iff_true_intro .nz
theorem qnO{x:Nat}{cs:List AV}:Frz h .e0 (.fz x cs)↔x=0∧cs=[]:=⟨fun h=>by cases h;exact⟨rfl,rfl⟩,fun⟨h,h'⟩=>by subst h h';exact .e0z⟩
theorem qrc{x y:Nat}{cs ds:List AV}:Frz h (.fz x cs) (.fz y ds)↔x=y∧cs=ds:=⟨fun h=>by cases h;exact⟨rfl,rfl⟩,fun⟨h,h'⟩=>by subst h h';exact .fz _ _⟩
theorem qre{x y:Nat}{cs ds:List AV}:Frz h (.pf cs x) (.pf ds y)↔cs=ds∧x=y:=⟨fun h=>by cases h;exact⟨rfl,rfl⟩,fun⟨h,h'⟩=>by subst h h';exact .pf _ _⟩
theorem qkD{x:Nat}{cs:List AV}:Frz h .nils (.fz x cs)↔x=0∧cs=[]:=⟨fun h=>by cases h;exact⟨rfl,rfl⟩,fun⟨h,h'⟩=>by subst h h';exact .nilz⟩
theorem qkE:Frzs h [] []↔True:=iff_true_intro .nil
theorem qh0:Frzs h (v::vs) (v'::vs')↔Frz h v v'∧Frzs h vs vs':=⟨fun h=>by
  cases h with
  | cons _ _ _ _ h1 h2=>exact⟨h1,h2⟩,fun h=>.cons _ _ _ _ h.1 h.2⟩
theorem qnN{cs cs':List AV}:Frz h (.agg cs) (.agg cs')↔Frzs h cs cs':=⟨fun h=>by cases h;assumption,fun h=>.agg _ _ h⟩
theorem qnS{cs cs':List AV}:Frz h (.tup cs) (.tup cs')↔Frzs h cs cs':=⟨fun h=>by cases h;assumption,fun h=>.tup _ _ h⟩
theorem qnT{f f':Nat}{a a' c c':List AV}:Frz h (.fn f a c) (.fn f' a' c')↔f=f'∧Frzs h a a'∧Frzs h c c':=⟨fun h=>by
  cases h with
  | fn _ _ _ _ _ h1 h2=>exact⟨rfl,h1,h2⟩,fun⟨h1,h2,h3⟩=>by subst h1;exact .fn _ _ _ _ _ h2 h3⟩
theorem qnP{f f':Nat}:Frz h (.ifc f v) (.ifc f' v')↔f=f'∧Frz h v v':=⟨fun h=>by
  cases h with
  | ifc _ _ _ h1=>exact⟨rfl,h1⟩,fun⟨h1,h2⟩=>by subst h1;exact .ifc _ _ _ h2⟩
theorem qnQ{b x y:Nat}{cs':List AV}:Frz h (.own b x) (.fz y cs')↔x=y∧evB (h.tr.get b) (fun z=>jK z (fun _ w _ ys=>w=true∧(x=0->ys=[])∧Frzs h ys cs')):=by
 constructor
 ·intro hh;cases hh with
  | own _ _ e af ys _ hb h0 h1=>exact⟨rfl,_,hb,rfl,h0,h1⟩
 ·rintro⟨rfl,z,h1,h2⟩;cases z with
  | cells e w af ys =>
   obtain⟨rfl,h3,h4⟩:=h2;exact .own _ _ e af ys _ h1 h3 h4
  | dead=>exact h2.elim
  | map es=>exact h2.elim
theorem qnR{b x y:Nat}{cs':List AV}:Frz h (.ptr b x) (.pf cs' y)↔x=y∧evB (h.tr.get b) (fun z=>jK z (fun _ w _ ys=>w=true∧Frzs h ys cs')):=by
 constructor
 ·intro hh;cases hh with
  | ptr _ _ e af ys _ hb h1=>exact⟨rfl,_,hb,rfl,h1⟩
 ·rintro⟨rfl,z,h1,h2⟩;cases z with
  | cells e w af ys =>
   obtain⟨rfl,h4⟩:=h2;exact .ptr _ _ e af ys _ h1 h4
  | dead=>exact h2.elim
  | map es=>exact h2.elim
theorem Frz.cut{b o x c:Nat}{l:Bool}{y:Nat}{cs':List AV}(esz:Nat)(hx:x=y)(hc:x<=c)(hg:evB (h.tr.get b) (fun z=>jK z (fun _ w _ cs=>w=true∧o+x*esz<=cs.length∧Frzs h ((cs.drop o).take (x*esz)) cs'))):Frz h (.sl b o x c l) (.fz y cs'):=by
 subst hx;obtain⟨z,h1,h2⟩:=hg;cases z with
 | cells e w af cs =>
  obtain⟨rfl,h3,h4⟩:=h2;exact .sl _ _ _ _ _ e af cs (x*esz) _ h1 hc h3 (fun hh=>by rw[hh] at hc;simp[Nat.le_zero.1 hc]) h4
 | dead=>exact h2.elim
 | map es=>exact h2.elim
end
mutual
theorem Frz.self:∀{v:AV},clo v=true->Frz h v v
 | .undef,_=>.undef _
 | .b _,_=>.b _
 | .i _ _,_=>.i _ _
 | .s _,_=>.s _
 | .nilp,_=>.nilp
 | .ptr _ _,hc=>by simp[clo] at hc
 | .nils,_=>.nils
 | .sl _ _ _ _ _,hc=>by simp[clo] at hc
 | .nilf,_=>.nilf
 | .fn _ _ _,hc=>by
  simp only[clo,Bool.and_eq_true] at hc;exact .fn _ _ _ _ _ (Frzs.self hc.1) (Frzs.self hc.2)
 | .nili,_=>.nili
 | .ifc _ _,hc=>.ifc _ _ _ (Frz.self (by simpa[clo] using hc))
 | .agg _,hc=>.agg _ _ (Frzs.self (by simpa[clo] using hc))
 | .tup _,hc=>.tup _ _ (Frzs.self (by simpa[clo] using hc))
 | .nilm,_=>.nilm
 | .map _,hc=>by simp[clo] at hc
 | .fz _ _,_=>.fz _ _
 | .pf _ _,_=>.pf _ _
 | .e0,_=>.e0
 | .nz,_=>.nz
 | .own _ _,hc=>by simp[clo] at hc
 | .sym _,hc=>by simp[clo] at hc
 | .yl _,hc=>by simp[clo] at hc
 | .lp _,hc=>by simp[clo] at hc
theorem Frzs.self:∀{vs:List AV},qy vs=true->Frzs h vs vs
 | [],_=>.nil
 | v::vs,hc=>by
  simp only[qy,Bool.and_eq_true] at hc;exact .cons _ _ _ _ (Frz.self hc.1) (Frzs.self hc.2)
end
end Go.Kc
end
section
/- Maps; the rules in bundles; rows of elements. No condition. -/
namespace Go.Kc
variable {P:Program} {n:Nat} {t:Tr AV} {h:Hp} {k:AV->Hp->Prop}

@[congr] theorem qn2 {kd:Option IntKind} {i:AV} {p:Prop} {mk:Prop} (_:qS=mk):JA qB kd i p=JA qB kd i p:=rfl
@[congr] theorem qoe {b:Nat} {k:List (AV×AV)->Prop} {mk:Prop} (_:qS=mk):Xo h b k=Xo h b k:=rfl
@[congr] theorem qkP {es:List (AV×AV)} {p:Prop} {mk:Prop} (_:qS=mk):yB es p=yB es p:=rfl
theorem qrt{a:List UInt8}{p:Prop}:JA qB none (.s a) p↔p:=Iff.rfl
theorem qrs{q:IntKind}{z:Int}{p:Prop}:JA qB (some q) (.i q z) p↔p:=by
 show qh (decide (q=q)) p↔p;rw[qb];simp
theorem qgc{p:Prop}:yB [] p↔p:=Iff.rfl
theorem qkS{a:List UInt8}{v:AV}{es:List (AV×AV)}{p:Prop}:yB ((.s a,v)::es) p↔p:=Iff.rfl
theorem qkR{q:IntKind}{z:Int}{v:AV}{es:List (AV×AV)}{p:Prop}:yB ((.i q z,v)::es) p↔p:=Iff.rfl
def qdu(x:Blk)(k:List (AV×AV)->Prop):Prop:=match x with | .map es=>k es|_=>False
@[congr] theorem qmq {x x':Blk} {k:List (AV×AV)->Prop} {mk:Prop} (_:qS=mk) (h:x=x'):qdu x k=qdu x' k:=by rw[h]
theorem qbP{es:List (AV×AV)}{k:List (AV×AV)->Prop}:qdu (.map es) k↔k es:=Iff.rfl
theorem qrC{b:Nat}{k:List (AV×AV)->Prop}:Xo h b k↔evB (h.tr.get b) (fun x=>qdu x (fun es=>yB es (k es))):=by
 unfold Xo;refine (Tr.getK_iff _ _ _).trans (iff_of_eq (congrArg _ (funext fun x=>congrArg _ ?_)))
 cases x<;>rfl
theorem qhU{i:AV}{k:Option AV->Prop}:vp qB i [] k↔k none:=Iff.rfl
theorem qnK{i a:List UInt8}{v:AV}{es:List (AV×AV)}{k:Option AV->Prop}:vp qB (.s i) ((.s a,v)::es) k↔if i=a then k (some v) else vp qB (.s i) es k:=by
 show qJ (eqS i a) (fun r=>Bool.rec (motive:=fun _=>Prop) (vp qB (.s i) es k) (k (some v)) r)↔_
 rw[qC,kV,j6];simp
theorem qnJ{q:IntKind}{i a:Int}{v:AV}{es:List (AV×AV)}{k:Option AV->Prop}:vp qB (.i q i) ((.i q a,v)::es) k↔if i=a then k (some v) else vp qB (.i q i) es k:=by
 show qh (decide (q=q)) (qJ (eqI i a) (fun r=>Bool.rec (motive:=fun _=>Prop) (vp qB (.i q i) es k) (k (some v)) r))↔_
 rw[qb,qC,kV,qaF];simp
theorem ql2{i v:AV}{k:List (AV×AV)->Prop}:Ze qB i v [] k↔k [(i,v)]:=Iff.rfl
theorem qsc{i a:List UInt8}{u v:AV}{es:List (AV×AV)}{k:List (AV×AV)->Prop}:Ze qB (.s i) u ((.s a,v)::es) k↔if i=a then k ((.s i,u)::es) else Ze qB (.s i) u es (fun l=>k ((.s a,v)::l)):=by
 show qJ (eqS i a) (fun r=>Bool.rec (motive:=fun _=>Prop) (Ze qB (.s i) u es (fun l=>k ((.s a,v)::l))) (k ((.s i,u)::es)) r)↔_
 rw[qC,kV,j6];simp
theorem qsb{q:IntKind}{i a:Int}{u v:AV}{es:List (AV×AV)}{k:List (AV×AV)->Prop}:Ze qB (.i q i) u ((.i q a,v)::es) k↔if i=a then k ((.i q i,u)::es) else Ze qB (.i q i) u es (fun l=>k ((.i q a,v)::l)):=by
 show qh (decide (q=q)) (qJ (eqI i a) (fun r=>Bool.rec (motive:=fun _=>Prop) (Ze qB (.i q i) u es (fun l=>k ((.i q a,v)::l))) (k ((.i q i,u)::es)) r))↔_
 rw[qb,qC,kV,qaF];simp
@[congr] theorem qmX {ok:Bool} {z:AV} {v v':Option AV} {k:AV->Prop} {mk:Prop} (_:qS=mk) (h:v=v'):ZE ok z v k=ZE ok z v' k:=by rw[h]
theorem qgX{z:AV}{k:AV->Prop}:ZE false z none k↔k z:=Iff.rfl
theorem qfy{z:AV}{k:AV->Prop}:ZE true z none k↔k (.tup [z,.b false]):=Iff.rfl
theorem qgY{z v:AV}{k:AV->Prop}:ZE false z (some v) k↔k v:=Iff.rfl
theorem qfz{z v:AV}{k:AV->Prop}:ZE true z (some v) k↔k (.tup [v,.b true]):=Iff.rfl
def lkK(h:Hp)(ok:Bool)(zero x i:AV)(k:AV->Prop):Prop:=match x with
  | .nilm=>ZE ok zero none k
  | .map r=>Xo h r (fun es=>vp qB i es (fun v=>ZE ok zero v k))
  | _=>False
@[congr] theorem qp4 {ok:Bool} {z x i:AV} {k:AV->Prop} {mk:Prop} (_:qS=mk):lkK h ok z x i k=lkK h ok z x i k:=rfl
theorem qoa{ok:Bool}{z i:AV}{k:AV->Prop}:lkK h ok z .nilm i k↔ZE ok z none k:=Iff.rfl
theorem qn9{ok:Bool}{z i:AV}{r:Nat}{k:AV->Prop}:lkK h ok z (.map r) i k↔Xo h r (fun es=>vp qB i es (fun v=>ZE ok z v k)):=Iff.rfl
theorem qiR{kd:Option IntKind}{ok:Bool}{z:AV}{x i:O}:opK qB (.lookM kd ok z x i) t h k↔evK t x (fun x=>evK t i (fun i=>JA qB kd i (lkK h ok z x i (fun v=>k v h)))):=Iff.rfl
def upK(h:Hp)(x i v:AV)(k:Hp->Prop):Prop:=match x with
  | .map r=>Xo h r (fun es=>Ze qB i v es (fun es'=>jk h r (.map es') k))
  | _=>False
@[congr] theorem qqo {x i v:AV} {k:Hp->Prop} {mk:Prop} (_:qS=mk):upK h x i v k=upK h x i v k:=rfl
theorem qpA{i v:AV}{r:Nat}{k:Hp->Prop}:upK h (.map r) i v k↔Xo h r (fun es=>Ze qB i v es (fun es'=>jk h r (.map es') k)):=Iff.rfl
theorem qlv{kd:Option IntKind}{x i v:O}:opK qB (.updM kd x i v) t h k↔evK t x (fun x=>evK t i (fun i=>evK t v (fun v=>JA qB kd i (upK h x i v (fun h'=>k .undef h'))))):=Iff.rfl

theorem qfR:qK []=true:=rfl
theorem qaA{v:AV}{vs:List AV}:qK (v::vs)=(zl v&&qK vs):=by
 show (Bool.rec (motive:=fun _=>Bool) false (qK vs) (zl v):Bool)=_
 cases zl v<;>rfl
theorem qnp{x:Bool}:zl (.b x)=true:=rfl
theorem qnq{q:IntKind}{x:Int}:zl (.i q x)=true:=rfl
theorem qnr{x:List UInt8}:zl (.s x)=true:=rfl
theorem qfO:zl .nilp=true:=rfl
theorem qht{b o:Nat}:zl (.ptr b o)=true:=rfl
theorem qfP:zl .nils=true:=rfl
theorem qkc{b o x c:Nat}{l:Bool}:zl (.sl b o x c l)=true:=rfl
theorem qfL:zl .nilf=true:=rfl
theorem qj7{f:Nat}{a c:List AV}:zl (.fn f a c)=true:=rfl
theorem qfM:zl .nili=true:=rfl
theorem qhq{f:Nat}{v:AV}:zl (.ifc f v)=true:=rfl
theorem qfN:zl .nilm=true:=rfl
theorem qhr{b:Nat}:zl (.map b)=true:=rfl
theorem qj8{n:Nat}{cs:List AV}:zl (.fz n cs)=true:=rfl
theorem qkb{n:Nat}{cs:List AV}:zl (.pf cs n)=true:=rfl
theorem qj6:zl .e0=true:=rfl
theorem qka:zl .nz=true:=rfl
theorem qhs{b n:Nat}:zl (.own b n)=true:=rfl
theorem qfQ{α:Type}{f:α->AV}{xs:List α}(h:∀x,zl (f x)=true):qK (xs.map f)=true:=by
 induction xs with
 | nil=>rfl
 | cons v a ih=>simp[qaA,ih,h]
theorem zG{a b:List AV}:qy (a++b)=(qy a&&qy b):=by
 induction a with
 | nil=>simp[qy]
 | cons v a ih=>simp[qy,ih,Bool.and_assoc]
theorem Qe{α:Type}{f:α->AV}{xs:List α}(h:∀x,clo (f x)=true):qy (xs.map f)=true:=by
 induction xs with
 | nil=>rfl
 | cons v a ih=>simp[qy,ih,h]
theorem ye{α:Type}{f:α->List AV}{xs:List α}(h:∀x,qy (f x)=true):qy (xs.flatMap f)=true:=by
 induction xs with
 | nil=>rfl
 | cons v a ih=>simp[List.flatMap_cons,zG,ih,h]
theorem x9{α:Type}{f:α->List AV}{m:Nat}(h:∀x,(f x).length=m)(xs:List α):(xs.flatMap f).length=xs.length*m:=by
 induction xs with
 | nil=>simp
 | cons v a ih=>simp[ih,h,Nat.add_mul,Nat.add_comm]
theorem XM{α:Type}{f:α->List AV}{m:Nat}(h:∀x,(f x).length=m):∀(xs:List α) (j:Nat),(xs.flatMap f).drop (j*m)=(xs.drop j).flatMap f
 | [],j=>by simp
 | x::xs,0=>by simp
 | x::xs,j+1=>by
  simp only[List.flatMap_cons,List.drop_succ_cons];rw[Nat.add_mul,Nat.one_mul,Nat.add_comm,← List.drop_drop,List.drop_left' (h x)];exact XM h xs j
theorem zb{α:Type}{f:α->List AV}{m:Nat}(h:∀x,(f x).length=m){xs:List α}{j:Nat}{x:α}(hx:xs[j]?=some x){i:Nat}(hi:i<m):(xs.flatMap f)[j*m+i]?=(f x)[i]?:=by
 rw[← List.getElem?_drop,XM h];obtain⟨hj,rfl⟩:=List.getElem?_eq_some_iff.1 hx;rw[List.drop_eq_getElem_cons hj,List.flatMap_cons,List.getElem?_append_left (by rw[h];exact hi)]
theorem qU{α:Type}{f:α->List AV}{m:Nat}(h:∀x,(f x).length=m){xs:List α}{j:Nat}{x:α}(hx:xs[j]?=some x):((xs.flatMap f).drop (j*m)).take m=f x:=by
 rw[XM h];obtain⟨hj,rfl⟩:=List.getElem?_eq_some_iff.1 hx;rw[List.drop_eq_getElem_cons hj,List.flatMap_cons,List.take_left' (h _)]

theorem SL.loop{α:Type}{x:ICode}{Q:X->Tr AV->Hp->Prop}(T:α->List (Nat×AV))(B:α->List Blk)(I:α->Prop)(μ:α->Nat)(a0:α)(src:List Nat)
  (hT:TWs t (rl src h.sz) (B a0).length (T a0)) (hB:BWs h (rl src h.sz) (B a0).length src (B a0)) (hI:(src.filter fun b=>decide (b<h.sz)).Nodup) (hfl:h.fl=0) (h0:I a0)
  (step:∀a,I a->∀G:Tr AV->Hp->Prop,(∀b,I b->μ b<μ a->∀t' h',Wk 0 t' h' (mkT (T b)) (mkH 0 (B b))->G t' h')->
   V P 0 x (fun e t h=>onX e (G t h) (fun id=>Q (.exit id) t h) (Q .ret t h)) (mkT (T a)) (mkH 0 (B a))):SL P 0 x Q t h:=by
 have main:∀m a,μ a=m->I a->SL P 0 x Q (mkT (T a)) (mkH 0 (B a)):=by
  intro m
  induction m using Nat.strongRecOn with
  | ind m ih =>
   intro a ha hi;exact qeA (step a hi (fun t h=>SL P 0 x Q t h) fun b hb hlt t' h' hw=>SL.weak hw (ih (μ b) (ha ▸ hlt) b rfl hb))
 exact SL.weak (Wk.mk (T a0) (B a0) src hT hB hI hfl) (main _ a0 rfl h0)

theorem qsA{b:Bool}:(b==true)=b:=by cases b<;>rfl
theorem qsz{b:Bool}:(b==false) = !b:=by cases b<;>rfl
def vA:=And.intro @qgT (And.intro @qqE (And.intro @qqH (And.intro @qmU (And.intro @qqG (And.intro @qmR (And.intro @qmQ (And.intro @qqD (And.intro @qmS (And.intro @qqF (And.intro @qmT (And.intro @qmN (And.intro @qqC (And.intro @qgQ (And.intro @qgR (And.intro @qgS (And.intro @qft (And.intro @qqB
 (And.intro @qny (And.intro @qnv (And.intro @ZQ (And.intro @qiH (And.intro @qll (And.intro @qhG (And.intro @qc5 (And.intro @qlG (And.intro @qlH @qi7))))))))))))))))))))))))))
def vR:=And.intro @qfv (And.intro @qdQ @qmO)
def vE:=And.intro @qeN (And.intro @qra (And.intro @qhP (And.intro @qf0 (And.intro @qgv (And.intro @qgx (And.intro @qh2 (And.intro @qfW (And.intro @qfX (And.intro @qr7 (And.intro @ql1 (And.intro @qr8 (And.intro @qr9 (And.intro @qfs (And.intro @xg (And.intro @XO
 (And.intro @qop (And.intro @qo5 (And.intro @qig (And.intro @qrx (And.intro @qkZ (And.intro @qn7 (And.intro @qrv (And.intro @qih (And.intro @qk6 (And.intro @qol (And.intro @qtJ (And.intro @qlU (And.intro @qki (And.intro @QW (And.intro @qkO @xl))))))))))))))))))))))))))))))
def vO:=And.intro @qoW (And.intro @qls (And.intro @qiJ (And.intro @qoJ (And.intro @qiK (And.intro @qgo (And.intro @qiP (And.intro @qiQ (And.intro @qiT (And.intro @qgr (And.intro @qoI (And.intro @qoM (And.intro @qoN (And.intro @qoL (And.intro @qrR (And.intro @qiM (And.intro @qiN (And.intro @qoX (And.intro @qoH
 (And.intro @qiO (And.intro @qoP (And.intro @qgp (And.intro @qgq (And.intro @qlq (And.intro @qlr (And.intro @qlu (And.intro @qgt (And.intro @qlt (And.intro @qoO (And.intro @qoT (And.intro @qoV (And.intro @qoQ (And.intro @qoG (And.intro @qln (And.intro @qlp (And.intro @qoS (And.intro @qoR (And.intro @qiL (And.intro @qoU
 (And.intro @qgu (And.intro @qlm (And.intro @qlL (And.intro @qpj (And.intro @qpi (And.intro @qjb (And.intro @qph (And.intro @qoK (And.intro @qlo (And.intro @qg0 (And.intro @qiR @qlv)))))))))))))))))))))))))))))))))))))))))))))))))
def vB:=And.intro @qjS (And.intro @qjR (And.intro @qjO (And.intro @qjM (And.intro @qjL (And.intro @qjN (And.intro @qjK (And.intro @qjQ (And.intro @qjH (And.intro @qjT (And.intro @qjP (And.intro @qnb (And.intro @qjI (And.intro @qjU (And.intro @qjJ (And.intro @qg5 (And.intro @qha (And.intro @qg4 (And.intro @qg9 (And.intro @qg6 (And.intro @qg8 (And.intro @qg7 (And.intro @qpy (And.intro @qpx @qsK)))))))))))))))))))))))
def vF:=And.intro @qhW (And.intro @qhX (And.intro @qrp (And.intro @qro (And.intro @qn1 (And.intro @qib (And.intro @qia (And.intro @qgb (And.intro @qjE (And.intro @qjF (And.intro @qjX (And.intro @qjW (And.intro @qjY (And.intro @qlO (And.intro @qrY (And.intro @qrZ (And.intro @qpl (And.intro @qpm (And.intro @qpk (And.intro @qm3 (And.intro @qfY (And.intro @qhM (And.intro @qk2 (And.intro @qry (And.intro @qrA (And.intro @qrz (And.intro @qob (And.intro @qrB (And.intro @qs7
 (And.intro @qhy (And.intro @qnt (And.intro @qfA (And.intro @qdR (And.intro @qom (And.intro @qrF (And.intro @qkh (And.intro @qq4 (And.intro @qq5 (And.intro @qhS (And.intro @qf2 (And.intro @qfU (And.intro @qkg (And.intro @qje (And.intro @qpo (And.intro @qpq (And.intro @qpr (And.intro @qlR (And.intro @qpp (And.intro @qr1 (And.intro @qgZ (And.intro @qmZ (And.intro @qjC (And.intro @qm1 (And.intro @qm0
 (And.intro @qiB (And.intro @qla (And.intro @qot (And.intro @qiC (And.intro @qos (And.intro @qou (And.intro @qor (And.intro @qk9 (And.intro @qiz (And.intro @qoq (And.intro @qiA (And.intro @qk8 (And.intro @qkk (And.intro @qhK (And.intro @qsQ (And.intro @qsR @qsP)))))))))))))))))))))))))))))))))))))))))))))))))))))))))))))))))))))
def vM:=And.intro @qrt (And.intro @qrs (And.intro @qgc (And.intro @qkS (And.intro @qkR (And.intro @qbP (And.intro @qrC (And.intro @qhU (And.intro @qnK (And.intro @qnJ (And.intro @ql2 (And.intro @qsc (And.intro @qsb (And.intro @qgX (And.intro @qfy (And.intro @qgY (And.intro @qfz (And.intro @qoa (And.intro @qn9 @qpA))))))))))))))))))
def vC:=And.intro @qfR (And.intro @qaA (And.intro @qnp (And.intro @qnq (And.intro @qnr (And.intro @qfO (And.intro @qht (And.intro @qfP (And.intro @qkc (And.intro @qfL (And.intro @qj7 (And.intro @qfM (And.intro @qhq (And.intro @qfN (And.intro @qhr (And.intro @qj8 (And.intro @qkb (And.intro @qj6 (And.intro @qka @qhs))))))))))))))))))
def vP:=And.intro @qgh (And.intro @qhO (And.intro @qkm (And.intro @qkn (And.intro @qko (And.intro @qkp (And.intro @qhN (And.intro @qc6 (And.intro @qdk (And.intro @qca (And.intro @qmC (And.intro @qeL (And.intro @qsA (And.intro @qsz @kV)))))))))))))
def vW:=And.intro @qrN (And.intro @qiF (And.intro @qtb (And.intro @qtc (And.intro @qtd (And.intro @qlg (And.intro @qlh (And.intro @qld (And.intro @qle (And.intro @qlf (And.intro @qrH (And.intro @qrK (And.intro @qoy (And.intro @qiE (And.intro @qoD (And.intro @qrJ (And.intro @qrL (And.intro @qli (And.intro @qoC (And.intro @qrM (And.intro @qoB (And.intro @qgn (And.intro @qoA (And.intro @qlj (And.intro @qiG (And.intro @qox (And.intro @qoE (And.intro @qrI (And.intro @qoz
 (And.intro @ql0 (And.intro @qjl (And.intro @qj0 (And.intro @qhc (And.intro @qnf (And.intro @qjZ (And.intro @qng (And.intro @qtD @qtE))))))))))))))))))))))))))))))))))))
def vZ:=And.intro @qhZ (And.intro @qsW (And.intro @qsX (And.intro @qsY (And.intro @qkB (And.intro @qkC (And.intro @qky (And.intro @qkz (And.intro @qkA (And.intro @qrb (And.intro @qrd (And.intro @qnO (And.intro @qrc (And.intro @qre (And.intro @qkD (And.intro @qkE (And.intro @qh0 (And.intro @qnN (And.intro @qnS (And.intro @qnT (And.intro @qnR (And.intro @qnP @qnQ)))))))))))))))))))))
end Go.Kc
end
section
/- Calls whose arguments are lent; calls that answer rows of one's own. No condition. -/
namespace Go.Kc
variable {P:Program}

mutual
def flat:AV->Bool
 | .ptr _ _=>false
 | .sl _ _ _ _ _=>false
 | .map _=>false
 | .own _ _=>false
 | .fz _ _=>false
 | .pf _ _=>false
 | .sym _=>false
 | .fn _ a c=>qaL a&&qaL c
 | .ifc _ v=>flat v
 | .agg cs=>qaL cs
 | .tup cs=>qaL cs
 | .undef=>true | .b _=>true | .i _ _=>true | .s _=>true | .nilp=>true | .nils=>true | .nilf=>true | .nili=>true | .nilm=>true | .e0=>true | .nz=>true | .yl _=>false | .lp _=>true
def qaL:List AV->Bool
 | []=>true
 | v::vs=>flat v&&qaL vs
end
mutual
theorem VR.flat{ρ ρ':Ren}:∀{a:AV} {v:Value},VR σ0 ρ a v->Kc.flat a=true->VR σ0 ρ' a v
 | _,_,.undef v,_=>.undef v
 | _,_,.b x,_=>.b x
 | _,_,.i k n,_=>.i k n
 | _,_,.s x,_=>.s x
 | _,_,.nilp,_=>.nilp
 | _,_,.ptr b o L h,hc=>by simp[Kc.flat] at hc
 | _,_,.nils,_=>.nils
 | _,_,.sl b o len cap c loose L h hc,hh=>by simp[Kc.flat] at hh
 | _,_,.slz b o x l L h,hh=>by simp[Kc.flat] at hh
 | _,_,.nilf,_=>.nilf
 | _,_,.fn f first cap first' cap' h1 h2,hc=>by
  simp only[Kc.flat,Bool.and_eq_true] at hc;exact .fn _ _ _ _ _ (h1.flat hc.1) (h2.flat hc.2)
 | _,_,.nili,_=>.nili
 | _,_,.ifc t v v' h,hc=>by simp only[Kc.flat] at hc;exact .ifc _ _ _ (h.flat hc)
 | _,_,.agg cs cs' h,hc=>by simp only[Kc.flat] at hc;exact .agg _ _ (h.flat hc)
 | _,_,.tup cs cs' h,hc=>by simp only[Kc.flat] at hc;exact .tup _ _ (h.flat hc)
 | _,_,.nilm,_=>.nilm
 | _,_,.map b L h h0,hc=>by simp[Kc.flat] at hc
 | _,_,.sym j,hc=>by simp[Kc.flat] at hc
 | _,_,.fz n off c cs k arr hn h hs,hc=>by simp[Kc.flat] at hc
 | _,_,.fz0 a,hc=>by simp[Kc.flat] at hc
 | _,_,.pf off base cs k arr h hs,hc=>by simp[Kc.flat] at hc
 | _,_,.e0 a,_=>.e0 a
 | _,_,.nz a c,_=>.nz a c
 | _,_,.own0 b a hb,hc=>by simp[Kc.flat] at hc
 | _,_,.own b n c L h hn hc',hc=>by simp[Kc.flat] at hc
 | _,_,.yl b L h,hc=>by simp[Kc.flat] at hc
theorem VRs.flat{ρ ρ':Ren}:∀{a:List AV} {v:List Value},VRs σ0 ρ a v->qaL a=true->VRs σ0 ρ' a v
 | _,_,.nil,_=>.nil
 | _,_,.cons v vs v' vs' h hs,hc=>by
  simp only[qaL,Bool.and_eq_true] at hc;exact .cons _ _ _ _ (h.flat hc.1) (hs.flat hc.2)
end
theorem Rel.bare{ρ:Ren}{B:Nat->Prop}{h:Hp}{w:World}(r:Rel σ0 ρ B h w):Rel σ0 ⟨fun _=>none,xa ρ h w,0⟩ (low w.heap.size) H0 w :=
 ⟨(fun _ _ hb=>by cases hb),(fun _ _ _ _ _ _ hb=>by cases hb),(fun _ _ _ hb=>by cases hb),(fun _ _ _ _ _ hb=>by cases hb),(fun _ _ _ hb=>by cases hb),(fun _ _ _ _ _ hb=>by cases hb),(fun _ _ hb=>by cases hb),(fun _ h=>h),
  (fun k arr hk=>⟨by
    rcases ke hk with hk|⟨hk,_⟩
    ·exact (r.frz k arr hk).1
    ·exact hk,fun _ _ _ hb=>by cases hb⟩),Nat.le_refl _⟩
theorem qc.lend{f:Nat}{vs vs':List AV}{v:AV}{h:Hp}{k:AV->Hp->Prop}(hp:qc P f vs' v)(hf:Frzs h vs vs')(hv:flat v=true)(hk:k v h):SC P f vs h k:=by
 have hp0:=hp H0 (fun v' h'=>v'=v∧h'=H0) ⟨rfl,rfl⟩
 refine⟨hp0.1,fun ρ B w args r ha=>?_⟩
 have hcr:=hf.ok r ha;refine wJ.mono (hp0.2 ⟨fun _=>none,xa ρ h w,0⟩ (low w.heap.size) w args r.bare (CRs.vr (ρ:=⟨fun _=>none,xa ρ h w,0⟩) hcr)) ?_
 rintro e w' ⟨v0,v',h',ρ',rfl,⟨rfl,rfl⟩,g2,g3,g4⟩;refine⟨v0,v',h,ρ,rfl,hk,g2.flat hv,?_,⟨fun _ _=>rfl,Nat.le_refl _,rfl,fun _ _ _=>rfl,fun k hk=>g4.pres k (r.base _ hk),g4.wle,g4.io,fun _ _ h=>h,fun _ _ h=>.inl h,Nat.le_refl _⟩⟩
 have:=r.frz' (φ:=ρ.frz) g4.pres g4.wle (fun _ _ h=>h) (fun _ _ h=>.inl h) (fun k a hk=>by
  obtain⟨ty,fz,h1⟩:=(r.frz k a hk).1;refine⟨ty,fz,?_⟩;rw[g4.pres k (Array.getElem?_eq_some_iff.1 h1).1];exact h1)
 exact this
mutual
def shv(m:Nat):AV->AV
 | .ptr b o=>.ptr (b+m) o
 | .sl b o n c l=>.sl (b+m) o n c l
 | .map b=>.map (b+m)
 | .own b n=>.own (b+m) n
 | .yl b=>.yl (b+m)
 | .fn f a c=>.fn f (y4 m a) (y4 m c)
 | .ifc t v=>.ifc t (shv m v)
 | .agg cs=>.agg (y4 m cs)
 | .tup cs=>.tup (y4 m cs)
 | v=>v
def y4(m:Nat):List AV->List AV
 | []=>[]
 | v::vs=>shv m v::y4 m vs
end
theorem qdE{m:Nat}:∀{vs:List AV} {j:Nat},(y4 m vs)[j]?=(vs[j]?).map (shv m)
 | [],j=>by simp[y4]
 | v::vs,0=>by simp[y4]
 | v::vs,j+1=>by simpa[y4] using qdE (vs:=vs) (j:=j)
theorem kJ{m:Nat}:∀{vs:List AV},(y4 m vs).length=vs.length
 | []=>rfl
 | v::vs=>by simp[y4,kJ (vs:=vs)]
mutual
theorem qfl{m:Nat}:∀{v:AV},clo v=true->shv m v=v
 | .ptr _ _,h=>by simp[clo] at h
 | .sl _ _ _ _ _,h=>by simp[clo] at h
 | .map _,h=>by simp[clo] at h
 | .own _ _,h=>by simp[clo] at h
 | .fn f a c,h=>by
  simp only[clo,Bool.and_eq_true] at h;simp only[shv,zx h.1,zx h.2]
 | .ifc t v,h=>by
  simp only[clo] at h;simp only[shv,qfl h]
 | .agg cs,h=>by
  simp only[clo] at h;simp only[shv,zx h]
 | .tup cs,h=>by
  simp only[clo] at h;simp only[shv,zx h]
 | .undef,_=>rfl
 | .b _,_=>rfl
 | .i _ _,_=>rfl
 | .s _,_=>rfl
 | .nilp,_=>rfl
 | .nils,_=>rfl
 | .nilf,_=>rfl
 | .nili,_=>rfl
 | .nilm,_=>rfl
 | .sym _,h=>by simp[clo] at h
 | .fz _ _,_=>rfl
 | .pf _ _,_=>rfl
 | .e0,_=>rfl
 | .nz,_=>rfl
 | .yl _,h=>by simp[clo] at h
 | .lp _,_=>rfl
theorem zx{m:Nat}:∀{vs:List AV},qy vs=true->y4 m vs=vs
 | [],_=>rfl
 | v::vs,h=>by
  simp only[qy,Bool.and_eq_true] at h;simp only[y4,qfl h.1,zx h.2]
end
def she(m:Nat)(es:List (AV×AV)):List (AV×AV):=es.map fun e=>(shv m e.1,shv m e.2)
theorem qfj{m:Nat}:she m []=[]:=rfl
theorem qdD{m:Nat}{a b:AV}{es:List (AV×AV)}:she m ((a,b)::es)=(shv m a,shv m b)::she m es:=rfl
def shb(m:Nat):Blk->Blk
 | .cells e w a cs=>.cells e w a (y4 m cs)
 | .dead=>.dead
 | .map es=>.map (she m es)
noncomputable def xO(h:Hp):List Blk->Hp
 | []=>h
 | x::xs=>xO (h.push x) xs
theorem yo:∀{bs:List Blk} {h:Hp},(xO h bs).sz=h.sz+bs.length
 | [],_=>rfl
 | x::xs,h=>by
  show (xO (h.push x) xs).sz=_;rw[yo];simp[Hp.push];omega
theorem QL:∀{bs:List Blk} {h:Hp},(xO h bs).fl=h.fl
 | [],_=>rfl
 | x::xs,h=>by
  show (xO (h.push x) xs).fl=_;rw[QL];rfl
theorem jU:∀{bs:List Blk} {h:Hp} {b:Nat},(xO h bs).tr.get b=if b<h.sz then h.tr.get b else if b<h.sz+bs.length then bs[b-h.sz]? else h.tr.get b
 | [],h,b=>by simp[xO];intro h1 h2;omega
 | x::xs,h,b=>by
  show (xO (h.push x) xs).tr.get b=_;rw[jU];simp only[Hp.push,Tr.get_set,List.length_cons]
  by_cases h1:b<h.sz
  ·rw[if_pos (by omega),if_neg (by omega),if_pos h1]
  ·rw[if_neg h1]
   by_cases h2:b=h.sz
   ·subst h2;rw[if_pos (by omega),if_pos rfl,if_pos (by omega)];simp
   ·rw[if_neg (by omega)]
    by_cases h3:b<h.sz+(xs.length+1)
    ·rw[if_pos (by omega),if_pos h3];rw[show b-h.sz=(b-(h.sz+1))+1 from by omega];simp
    ·rw[if_neg (by omega),if_neg h3,if_neg h2]
def Ren.join(ρ ρ2:Ren)(m l:Nat):Ren:=⟨fun b=>if b<m then ρ b else ρ2 (b-m),ρ2.frz,m+l⟩
theorem qaj{ρ ρ2:Ren}{m l b:Nat}(h:b<m):ρ.join ρ2 m l b=ρ b:=by simp only[Ren.join];rw[if_pos h]
theorem yC{ρ ρ2:Ren}{m l b:Nat}:ρ.join ρ2 m l (b+m)=ρ2 b:=by simp only[Ren.join];rw[if_neg (by omega),Nat.add_sub_cancel]
mutual
theorem VR.sh{ρ ρ2:Ren}{m l:Nat}(hl:ρ2.n<=l):∀{v:AV} {x:Value},VR σ0 ρ2 v x->VR σ0 (ρ.join ρ2 m l) (shv m v) x
 | _,_,.undef v=>.undef v
 | _,_,.b x=>.b x
 | _,_,.i k n=>.i k n
 | _,_,.s x=>.s x
 | _,_,.nilp=>.nilp
 | _,_,.ptr b o L h=>.ptr _ _ L (by rw[yC];exact h)
 | _,_,.nils=>.nils
 | _,_,.sl b o len cap c loose L h hc=>.sl _ _ _ _ _ _ L (by rw[yC];exact h) hc
 | _,_,.slz b o x l' L h=>.slz _ _ _ _ L (by rw[yC];exact h)
 | _,_,.nilf=>.nilf
 | _,_,.fn f first cap first' cap' h1 h2=>.fn _ _ _ _ _ (VRs.sh hl h1) (VRs.sh hl h2)
 | _,_,.nili=>.nili
 | _,_,.ifc t v v' h=>.ifc _ _ _ (VR.sh hl h)
 | _,_,.agg cs cs' h=>.agg _ _ (VRs.sh hl h)
 | _,_,.tup cs cs' h=>.tup _ _ (VRs.sh hl h)
 | _,_,.nilm=>.nilm
 | _,_,.map b L h h0=>.map _ L (by rw[yC];exact h) h0
 | _,_,.sym j=>.sym j
 | _,_,.fz n off c cs k arr hn h hs=>.fz n off c cs k arr hn h hs
 | _,_,.fz0 a=>.fz0 a
 | _,_,.pf off base cs k arr h hs=>.pf off base cs k arr h hs
 | _,_,.e0 a=>.e0 a
 | _,_,.nz a c=>.nz a c
 | _,_,.own0 b a hb=>.own0 _ _ (by show b+m<m+l;omega)
 | _,_,.own b n c L h hn hc'=>.own _ _ _ L (by rw[yC];exact h) hn hc'
 | _,_,.yl b L h=>.yl _ L (by rw[yC];exact h)
theorem VRs.sh{ρ ρ2:Ren}{m l:Nat}(hl:ρ2.n<=l):∀{v:List AV} {x:List Value},VRs σ0 ρ2 v x->VRs σ0 (ρ.join ρ2 m l) (y4 m v) x
 | _,_,.nil=>.nil
 | _,_,.cons v vs v' vs' h hs=>.cons _ _ _ _ (VR.sh hl h) (VRs.sh hl hs)
end
theorem qlN{m:Nat}{r:Loop}{ts:List (Nat×AV)}:she m (zC r ts)=zC r (ts.map fun p=>(p.1,shv m p.2)):=by simp[she,zC,shv]
theorem k7.sh{ρ ρ2:Ren}{m l:Nat}(hl:ρ2.n<=l){es:List (AV×AV)}{o:Obj}(h:k7 σ0 ρ2 es o):k7 σ0 (ρ.join ρ2 m l) (she m es) o:=by
 rcases h with⟨h0,vs,clk,h1,h2,h3⟩|⟨a,n,rfl,h2⟩|⟨r,ts,rfl,h2,h3⟩
 ·refine .inl ⟨fun e he=>?_,vs,clk,h1,by simp[she,h2],fun j e he=>?_⟩
  ·cases es with
   | nil=>simp[she] at he
   | cons e0 es =>
    simp[she] at he;subst he;have:=h0 e0 rfl;cases e0 with
    | mk k v=>cases k<;>first|(simp[shv];done)|exact absurd rfl this.1|exact absurd rfl (this.2 _)
  ·simp only[she,List.getElem?_map] at he;cases hj:es[j]? with
   | none=>rw[hj] at he;simp at he
   | some e0 =>
    rw[hj] at he;simp at he;subst he;obtain⟨v,g1,g2,g3⟩:=h3 j e0 hj;exact⟨v,g1,VR.sh hl g2,VR.sh hl g3⟩
 ·exact .inr (.inl ⟨a,n,rfl,h2⟩)
 ·refine .inr (.inr ⟨r,_,qlN,h2,fun p hp=>?_⟩)
  obtain⟨q,hq,rfl⟩:=List.mem_map.1 hp;exact⟨(h3 q hq).1,VR.sh hl (h3 q hq).2⟩
theorem Rel.joinH{ρ ρ2:Ren}{B:Nat->Prop}{h:Hp}{w w1:World}{bs:List Blk}(r:Rel σ0 ρ B h w)(r2:Rel σ0 ρ2 (low w.heap.size) (mkH 0 bs) w1)(hp:∀k,k<w.heap.size->w1.heap[k]?=w.heap[k]?)(hw:w.heap.size<=w1.heap.size)
  (f1:∀k a,ρ.frz k=some a->ρ2.frz k=some a) (f2:∀k a,ρ2.frz k=some a->ρ.frz k=some a∨w.heap.size<=k) :
  Rel σ0 (ρ.join ρ2 h.sz bs.length) B (xO h (bs.map (shb h.sz))) w1:=by
 have r1:Rel σ0 ⟨ρ.loc,ρ2.frz,ρ.n⟩ B h w1:=r.frz' hp hw f1 f2 (fun k a hk=>(r2.frz k a hk).1)
 have n2:ρ2.n<=bs.length:=r2.dn
 have le1:Ren.le ⟨ρ.loc,ρ2.frz,ρ.n⟩ (ρ.join ρ2 h.sz bs.length) :=
  ⟨fun b L hb=>by rw[qaj (r.dom b L hb)];exact hb,fun _ _ h=>h,Nat.le_trans r.dn (Nat.le_add_right _ _)⟩
 -- a block: old,or new
 have split:∀b L,ρ.join ρ2 h.sz bs.length b=some L->(b<h.sz∧ρ b=some L∧(xO h (bs.map (shb h.sz))).tr.get b=h.tr.get b) ∨
   ∃c,b=c+h.sz∧ρ2 c=some L∧(xO h (bs.map (shb h.sz))).tr.get b=((mkH 0 bs).tr.get c).map (shb h.sz)∧w.heap.size<=L.blk:=by
  intro b L hb
  by_cases hlt:b<h.sz
  ·rw[qaj hlt] at hb;refine .inl ⟨hlt,hb,?_⟩;rw[jU,if_pos hlt]
  ·obtain⟨c,rfl⟩:∃c,b=c+h.sz:=⟨b-h.sz,by omega⟩
   rw[yC] at hb;have hc:c<bs.length:=r2.dom c L hb;refine .inr ⟨c,rfl,hb,?_,Nat.not_lt.1 (r2.flr c L hb (Nat.zero_le _))⟩;rw[jU,if_neg hlt,if_pos (by simp;omega),zq,Nat.add_sub_cancel,List.getElem?_map]
 have oldlt:∀b L x,ρ b=some L->h.tr.get b=some x->x≠.dead->L.blk<w.heap.size:=fun b L x h1 h2 h3=>r.blk_lt b L h1 x h2 h3
 have shd:∀{x y:Blk},(some x).map (shb h.sz)=some y->y≠.dead->x≠.dead:=by
  intro x y h1 h2 h3;subst h3;simp[shb] at h1;exact h2 h1.symm
 have shc:∀{o:Option Blk} {e:Nat} {w a:Bool} {cs:List AV},o.map (shb h.sz)=some (.cells e w a cs)->∃cs0,o=some (.cells e w a cs0)∧cs=y4 h.sz cs0:=by
  intro o e w a cs ho;cases o with
  | none=>simp at ho
  | some x =>
   cases x with
   | cells e' w' a' cs'=>simp[shb] at ho;obtain⟨rfl,rfl,rfl,rfl⟩:=ho;exact⟨_,rfl,rfl⟩
   | dead=>simp[shb] at ho
   | map es=>simp[shb] at ho
 have shm:∀{o:Option Blk} {es:List (AV×AV)},o.map (shb h.sz)=some (.map es)->∃es0,o=some (.map es0)∧es=she h.sz es0:=by
  intro o es ho;cases o with
  | none=>simp at ho
  | some x =>
   cases x with
   | cells e' w' a' cs'=>simp[shb] at ho
   | dead=>simp[shb] at ho
   | map es'=>simp[shb] at ho;exact⟨es',rfl,ho.symm⟩
 have shn:∀{o:Option Blk} {y:Blk},o.map (shb h.sz)=some y->y≠.dead->∃x,o=some x∧x≠.dead:=by
  intro o y ho hy;cases o with
  | none=>simp at ho
  | some x=>exact⟨x,rfl,shd ho hy⟩
 refine⟨fun b L hb=>?_,?_,?_,?_,?_,?_,?_,yt r.base hw,?_,?_⟩
 ·rw[yo,List.length_map];rcases split b L hb with⟨h1,_⟩|⟨c,rfl,h1,_⟩
  ·omega
  ·have:c<bs.length:=r2.dom c L h1;omega
 ·intro b L e wf af cs hb hg;rcases split b L hb with⟨h1,h2,h3⟩|⟨c,rfl,h2,h3,_⟩
  ·rw[h3] at hg;obtain⟨q1,c,ty,fz,q2,q3,q4,q5,q6⟩:=r1.cells b L e wf af cs h2 hg;exact⟨q1,c,ty,fz,q2,q3,q4,fun j v hv=>let ⟨v',g7,g8⟩:=q5 j v hv;⟨v',g7,g8.mono le1⟩,q6⟩
  ·rw[h3] at hg;obtain⟨cs0,g1,rfl⟩:=shc hg;obtain⟨q1,c',ty,fz,q2,q3,q4,q5,q6⟩:=r2.cells c L e wf af cs0 h2 g1;refine⟨q1,c',ty,fz,q2,q3,by rw[kJ];exact q4,fun j v hv=>?_,q6⟩
   rw[qdE] at hv;cases hj:cs0[j]? with
   | none=>rw[hj] at hv;simp at hv
   | some v0 =>
    rw[hj] at hv;simp at hv;subst hv;obtain⟨v',g7,g8⟩:=q5 j v0 hj;exact⟨v',g7,g8.sh n2⟩
 ·intro b L es hb hg;rcases split b L hb with⟨h1,h2,h3⟩|⟨c,rfl,h2,h3,_⟩
  ·rw[h3] at hg;obtain⟨q1,o,q2,q3⟩:=r1.maps b L es h2 hg;exact⟨q1,o,q2,q3.mono le1⟩
  ·rw[h3] at hg;obtain⟨es0,g1,rfl⟩:=shm hg;obtain⟨q1,o,q2,q3⟩:=r2.maps c L es0 h2 g1;exact⟨q1,o,q2,q3.sh n2⟩
 ·intro b L e af cs hb hg b' L' x hb' hx hd he;rcases split b L hb with⟨h1,h2,h3⟩|⟨c,rfl,h2,h3,h4⟩<;>rcases split b' L' hb' with⟨i1,i2,i3⟩|⟨c',rfl,i2,i3,i4⟩
  ·rw[h3] at hg;rw[i3] at hx;exact r.excl b L e af cs h2 hg b' L' x i2 hx hd he
  ·rw[h3] at hg;have:=oldlt b L _ h2 hg (by simp);omega
  ·rw[i3] at hx;have:=oldlt b' L' _ i2 hx hd;omega
  ·rw[h3] at hg;rw[i3] at hx;obtain⟨cs0,g1,rfl⟩:=shc hg;obtain⟨x0,g2,g3⟩:=shn hx hd;rw[r2.excl c L e af cs0 h2 g1 c' L' x0 i2 g2 g3 he]
 ·intro b L es hb hg b' L' x hb' hx hd he;rcases split b L hb with⟨h1,h2,h3⟩|⟨c,rfl,h2,h3,h4⟩
  ·rw[h3] at hg;rcases split b' L' hb' with⟨i1,i2,i3⟩|⟨c',rfl,i2,i3,i4⟩
   ·rw[i3] at hx;exact r.exclm b L es h2 hg b' L' x i2 hx hd he
   ·have:=oldlt b L _ h2 hg (by simp);omega
  ·rw[h3] at hg;obtain⟨es0,g1,rfl⟩:=shm hg;rcases split b' L' hb' with⟨i1,i2,i3⟩|⟨c',rfl,i2,i3,i4⟩
   ·rw[i3] at hx;have:=oldlt b' L' _ i2 hx hd;omega
   ·rw[i3] at hx;obtain⟨x0,g2,g3⟩:=shn hx hd;rw[r2.exclm c L es0 h2 g1 c' L' x0 i2 g2 g3 he]
 ·intro b L e wf cs hb hg b' L' e' wf' af' cs' hb' hx he;rcases split b L hb with⟨h1,h2,h3⟩|⟨c,rfl,h2,h3,h4⟩<;>rcases split b' L' hb' with⟨i1,i2,i3⟩|⟨c',rfl,i2,i3,i4⟩
  ·rw[h3] at hg;rw[i3] at hx;exact r.app b L e wf cs h2 hg b' L' e' wf' af' cs' i2 hx he
  ·rw[h3] at hg;have:=oldlt b L _ h2 hg (by simp);omega
  ·rw[i3] at hx;have:=oldlt b' L' _ i2 hx (by simp);omega
  ·rw[h3] at hg;rw[i3] at hx;obtain⟨cs0,g1,rfl⟩:=shc hg;obtain⟨cs1,g2,rfl⟩:=shc hx;have q:=r2.app c L e wf cs0 h2 g1 c' L' e' wf' af' cs1 i2 g2 he;rw[kJ,kJ];exact⟨q.1,fun hh=>by rw[q.2 hh]⟩
 ·intro b L hb hf;rw[QL] at hf;rcases split b L hb with⟨h1,h2,h3⟩|⟨c,rfl,h2,h3,h4⟩
  ·exact r.flr b L h2 hf
  ·exact ji r.base h4
 ·intro k arr hk;refine⟨(r2.frz k arr hk).1,fun b L x hb hx hd=>?_⟩
  rcases split b L hb with⟨h1,h2,h3⟩|⟨c,rfl,h2,h3,h4⟩
  ·rw[h3] at hx;exact (r1.frz k arr hk).2 b L x h2 hx hd
  ·rw[h3] at hx;obtain⟨x0,g2,g3⟩:=shn hx hd;exact (r2.frz k arr hk).2 c L x0 h2 g2 g3
 ·show h.sz+bs.length<=_;rw[yo,List.length_map];exact Nat.le_refl _
def Own(P:Program)(f:Nat)(vs:List AV)(v:AV)(bs:List Blk):Prop :=
 ∀(h:Hp) (k:AV->Hp->Prop),k (shv h.sz v) (xO h (bs.map (shb h.sz)))->SC P f vs h k
def qgO(v:AV)(bs:List Blk)(v':AV)(h':Hp):Prop:=h'.fl=0->∃src:List Nat,NV (rl src h'.sz) bs.length v' v∧BWs h' (rl src h'.sz) bs.length src bs∧(src.filter fun b=>decide (b<h'.sz)).Nodup
theorem Own.of_SC{f:Nat}{vs:List AV}{v:AV}{bs:List Blk}(hcl:qy vs=true)(hs:SC P f vs H0 (qgO v bs)):Own P f vs v bs:=by
 intro h k hk;refine⟨hs.1,fun ρ B w args r ha=>?_⟩
 have hcr:=ha.crs hcl;refine wJ.mono (hs.2 ⟨fun _=>none,ρ.frz,0⟩ (low w.heap.size) w args r.empty (CRs.vr (ρ:=⟨fun _=>none,ρ.frz,0⟩) hcr)) ?_
 rintro e w1 ⟨v0,v',h1,ρ1,rfl,g1,g2,g3,g4⟩;obtain⟨src,s1,s2,s3⟩:=g1 g4.fl;have hw:Wk 0 (mkT [(0,v0)]) h1 (mkT [(0,v)]) (mkH 0 bs):=Wk.mk [(0,v)] bs src ⟨⟨v0,by simp[mkT,Tr.get_set],s1⟩,trivial⟩ s2 s3 g4.fl
 obtain⟨ρ2,t2,r2,k2⟩:=hw ρ1 (low w.heap.size) w1 #[v'] (fun j x hj=>by
  have:=yE hj;simp at this;obtain⟨rfl,rfl⟩:=this;exact⟨by simp,by simpa using g2⟩) g3
 have hv2:VR σ0 ρ2 v v':=by
  have:=(t2 0 v (by simp[mkT,Tr.get_set])).2;simpa using this
 have f1:∀k a,ρ.frz k=some a->ρ2.frz k=some a:=fun k a hk=>k2.frz k a (g4.frz k a hk)
 have f2:∀k a,ρ2.frz k=some a->ρ.frz k=some a∨w.heap.size<=k:=fun k a hk=>(k2.fnew k a hk).elim (fun hk=>(g4.fnew k a hk).imp id Nat.not_lt.1) (fun hk=>.inr (Nat.not_lt.1 hk))
 refine⟨_,v',_,ρ.join ρ2 h.sz bs.length,rfl,hk,hv2.sh r2.dn,Rel.joinH r r2 g4.pres g4.wle f1 f2,?_⟩;refine⟨fun b hb=>qaj hb,by rw[yo];omega,QL,fun b _ hb=>by rw[jU,if_pos hb],fun k hk=>g4.pres k (r.base _ hk),g4.wle,g4.io,f1,fun k a hk=>(f2 k a hk).imp id (ji r.base),?_⟩
 exact Nat.le_trans r.dn (Nat.le_add_right _ _)
theorem Own.mk{f:Nat}{i:IFn}{vs:List AV}{v:AV}{bs:List Blk}(hc:qi P f i=true)(hcl:qy vs=true)(hV:V P 0 i.body (j0 i.res (qgO v bs)) (jO vs 0 .leaf) H0):Own P f vs v bs :=
 Own.of_SC hcl (SC.mk hc (qA hV))
def ZD(P:Program)(f:Nat)(vs':List AV)(v:AV)(bs:List Blk):Prop :=
 ∀(h:Hp) (vs:List AV) (k:AV->Hp->Prop),Frzs h vs vs'->k (shv h.sz v) (xO h (bs.map (shb h.sz)))->SC P f vs h k
def PC(P:Program)(f:Nat)(vs:List AV)(h:Hp)(k:AV->Hp->Prop):Prop:=∃v h',(∀k':AV->Hp->Prop,k' v h'->SC P f vs h k')∧k v h'
def PY(P:Program)(b:Nat)(vs:List AV)(h:Hp)(k:AV->Hp->Prop):Prop:=∃v h',(∀k':AV->Hp->Prop,k' v h'->CC P 0 (.yl b::vs) h k')∧k v h'
@[congr] theorem qqr {f:Nat} {vs vs':List AV} {h:Hp} {k:AV->Hp->Prop} {mk:Prop} (_:qS=mk) (h':vs=vs'):PC P f vs h k=PC P f vs' h k:=by rw[h']
@[congr] theorem qqs {b:Nat} {vs vs':List AV} {h:Hp} {k:AV->Hp->Prop} {mk:Prop} (_:qS=mk) (h':vs=vs'):PY P b vs h k=PY P b vs' h k:=by rw[h']
def PCC(P:Program):zc:=fun f vs h k=>∃v h',(∀k':AV->Hp->Prop,k' v h'->CC P f vs h k')∧k v h'
theorem qsx:LC (PCC P):=fun _ _ _ _ ⟨v,h',h1,h2⟩=>⟨v,h',h2,fun _ h3=>⟨v,h',h1,h3⟩⟩
theorem qgP:vi P σ0 (PCC P):=⟨fun f vs h _ ⟨_,_,h1,h2⟩=>(k8 P).1 f vs h _ (h1 _ h2),fun b vs h _ ⟨_,_,h1,h2⟩=>(k8 P).2 b vs h _ (h1 _ h2)⟩
theorem qnx{b:Nat}{vs:List AV}{h:Hp}{k:AV->Hp->Prop}:cvF (PCC P) (.yl b) vs h k↔PY P b vs h k:=Iff.rfl
theorem qnw{f:Nat}{a c vs:List AV}{h:Hp}{k:AV->Hp->Prop}:cvF (PCC P) (.fn f a c) vs h k↔PC P f (a++(vs++c)) h k:=Iff.rfl
theorem qiU{dst:Option Nat}{f:Nat}{args:List O}{ops:List ROp}{Q:Tr AV->Hp->Prop}{t:Tr AV}{s fl:Nat}{tr:Tr Blk}:VR' (PCC P) (⟨dst,.callF f args,none⟩::ops) Q t ⟨s,fl,tr⟩↔xZ t args (fun vs=>PC P f vs ⟨s,s,tr⟩ (fun v h'=>xS t dst v (fun t'=>VR' (PCC P) ops Q t' (h'.down fl)))):=qfu
theorem qiV{dst:Option Nat}{f:Nat}{args:List O}{ops:List ROp}{Q:Tr AV->Hp->Prop}{t:Tr AV}{h:Hp}:VR' (PCC P) (⟨dst,.callW f args,none⟩::ops) Q t h↔xZ t args (fun vs=>PC P f vs h (fun v h'=>xS t dst v (fun t'=>VR' (PCC P) ops Q t' h'))):=qfw
theorem zm{ops:List ROp}{Q:Tr AV->Hp->Prop}{t:Tr AV}{h:Hp}(hr:VR' (PCC P) ops Q t h):VD P ops Q t h:=qqz qsx qgP hr
theorem qc.pc{f:Nat}{vs:List AV}{v:AV}{h:Hp}{k:AV->Hp->Prop}(hp:qc P f vs v)(hk:k v h):PC P f vs h k:=⟨v,h,fun k' h'=>hp h k' h',hk⟩
theorem Own.pc{f:Nat}{vs:List AV}{v:AV}{bs:List Blk}{h:Hp}{k:AV->Hp->Prop}(hp:Own P f vs v bs)(hk:k (shv h.sz v) (xO h (bs.map (shb h.sz)))):PC P f vs h k:=⟨_,_,fun k' h'=>hp h k' h',hk⟩
theorem ZD.pc{f:Nat}{vs vs':List AV}{v:AV}{bs:List Blk}{h:Hp}{k:AV->Hp->Prop}(hp:ZD P f vs' v bs)(hf:Frzs h vs vs')(hk:k (shv h.sz v) (xO h (bs.map (shb h.sz)))):PC P f vs h k:=⟨_,_,fun k' h'=>hp h vs k' hf h',hk⟩
theorem Own.sc{f:Nat}{vs:List AV}{v:AV}{bs:List Blk}{h:Hp}{k:AV->Hp->Prop}(hp:Own P f vs v bs)(hk:k (shv h.sz v) (xO h (bs.map (shb h.sz)))):SC P f vs h k:=hp h k hk
theorem qak{s f:Nat}{tr:Tr Blk}{x:Blk}:Hp.push ⟨s,f,tr⟩ x=⟨s+1,f,tr.set s x⟩:=rfl
theorem Q6{h:Hp}:xO h []=h:=rfl
theorem yI{h:Hp}{x:Blk}{xs:List Blk}:xO h (x::xs)=xO (h.push x) xs:=rfl
end Go.Kc
end
section
/- The machine with fuel, which the kernel runs on known data. No condition. -/
namespace Go.Kc
variable {P:Program}

abbrev qaq:=ICode->(X->Tr AV->Hp->Prop)->Tr AV->Hp->Prop
noncomputable def qb7(env:Tr IFn)(ih:qaq)(f:Nat)(args:List AV)(h:Hp)(k:AV->Hp->Prop):Prop :=
 env.getK f (fun fn=>IFn.rec (motive:=fun _=>Prop) (fun res body=>qcM args 0 .leaf (fun t0=>ih body (fun e t h' =>
  X.rec (motive:=fun _=>Prop) (jz t h' res (fun vs=>k (jj vs) h')) (fun _=>False) (jz t h' res (fun vs=>k (jj vs) h')) e) t0 h)) fn)
abbrev Q9:=Nat->List AV->Option AV
def Q9.none:Q9:=fun _ _=>Option.none
def ZC(P:Program)(ho:Q9):Prop:=∀f vs v,ho f vs=some v->qc P f vs v
theorem ZC.none:ZC P Q9.none:=fun _ _ _ h=>by cases h
noncomputable def Zh(env:Tr IFn)(ho:Q9)(ih:qaq)(f:Nat)(args:List AV)(h:Hp)(k:AV->Hp->Prop):Prop :=
 Option.rec (motive:=fun _=>Prop) (qb7 env ih f args h k) (fun v=>k v h) (ho f args)
noncomputable def qhp(env:Tr IFn)(ho:Q9)(ih:qaq):zc:=fun f args h k=>Nat.rec (motive:=fun _=>Prop) False (fun f _=>Zh env ho ih f args h k) f
noncomputable def fv(env:Tr IFn)(ho:Q9)(n:Nat):qaq :=
 Nat.rec (motive:=fun _=>qaq) (fun _ _ _ _=>False) (fun _ ih c Q t h=>match c with
  | .skip=>Q .normal t h
  | .reg draw ops=>Xx qB draw (qhp env ho ih) ops (fun t h=>Q .normal t h) t h
  | .rangeF _ _ _ _=>False
  | .seq x y=>ih x (fun e t h=>X.rec (motive:=fun _=>Prop) (ih y Q t h) (fun id=>Q (.exit id) t h) (Q .ret t h) e) t h
  | .cond c x y=>evK t c (fun v=>unB v (fun b=>Bool.rec (motive:=fun _=>Prop) (ih y Q t h) (ih x Q t h) b))
  | .blk id x=>ih x (fun e t h=>X.rec (motive:=fun _=>Prop) (Q .normal t h) (fun id'=>Bool.rec (motive:=fun _=>Prop) (Q (.exit id') t h) (Q .normal t h) (Nat.beq id' id)) (Q .ret t h) e) t h
  | .loop x=>ih x (fun e t h=>X.rec (motive:=fun _=>Prop) (ih (.loop x) Q t h) (fun id=>Q (.exit id) t h) (Q .ret t h) e) t h
  | .exit id=>Q (.exit id) t h
  | .ret=>Q .ret t h
  | .no=>False
  | .cut x=>ih x Q t h) n
def LB(ih:qaq):Prop:=∀c Q t h,ih c Q t h->∃e t' h',Q e t' h'∧∀Q',Q' e t' h'->ih c Q' t h
theorem qho(env:Tr IFn){ih:qaq}(hi:LB ih):LC (qb7 env ih):=by
 intro f vs h k hk;obtain⟨fn,g1,g2⟩:=(Tr.getK_iff _ _ _).1 hk;cases fn with
 | mk res body =>
  obtain⟨t0,g3,g4⟩:=qeB vs 0 .leaf _ g2;obtain⟨e,t',h',h1,h2⟩:=hi _ _ _ _ g3
  have back:∀k',(X.rec (motive:=fun _=>Prop) (jz t' h' res (fun vs=>k' (jj vs) h')) (fun _=>False) (jz t' h' res (fun vs=>k' (jj vs) h')) e:Prop)->qb7 env ih f vs h k':=fun k' hk' =>
   (Tr.getK_iff _ _ _).2 ⟨⟨res,body⟩,g1,g4 (fun t0=>ih body (fun e t h'=>X.rec (motive:=fun _=>Prop) (jz t h' res (fun vs=>k' (jj vs) h')) (fun _=>False) (jz t h' res (fun vs=>k' (jj vs) h')) e) t0 h) (h2 (fun e t h'=>X.rec (motive:=fun _=>Prop) (jz t h' res (fun vs=>k' (jj vs) h')) (fun _=>False) (jz t h' res (fun vs=>k' (jj vs) h')) e) hk')⟩
  cases e with
  | exit id=>exact h1.elim
  | normal =>
   obtain⟨vs,h3,h4⟩:=qbc t' h' res _ h1;exact⟨_,_,h3,fun k' hk'=>back k' (h4 (fun vs=>k' (jj vs) h') hk')⟩
  | ret =>
   obtain⟨vs,h3,h4⟩:=qbc t' h' res _ h1;exact⟨_,_,h3,fun k' hk'=>back k' (h4 (fun vs=>k' (jj vs) h') hk')⟩
theorem qj4(env:Tr IFn)(ho:Q9){ih:qaq}(hi:LB ih):LC (Zh env ho ih):=by
 intro f vs h k hk;unfold Zh at hk;cases hv:ho f vs with
 | none =>
  rw[hv] at hk;obtain⟨v,h',h1,h2⟩:=qho env hi f vs h k hk;exact⟨v,h',h1,fun k' hk'=>by unfold Zh;rw[hv];exact h2 k' hk'⟩
 | some v =>
  rw[hv] at hk;exact⟨v,h,hk,fun k' hk'=>by unfold Zh;rw[hv];exact hk'⟩
theorem qcY(env:Tr IFn)(ho:Q9){ih:qaq}(hi:LB ih):LC (qhp env ho ih):=by
 intro f vs h k hk;cases f with
 | zero=>exact hk.elim
 | succ f=>exact qj4 env ho hi f vs h k hk
theorem qrf(env:Tr IFn)(ho:Q9):∀n,LB (fv env ho n)
 | 0=>fun _ _ _ _ h=>h.elim
 | n+1=>fun c Q t h hk=>by
  have ih:=qrf env ho n;cases c with
  | no=>exact hk.elim
  | rangeF=>exact hk.elim
  | cut x=>exact ih _ _ _ _ hk
  | skip=>exact⟨_,_,_,hk,fun _ h=>h⟩
  | exit id=>exact⟨_,_,_,hk,fun _ h=>h⟩
  | ret=>exact⟨_,_,_,hk,fun _ h=>h⟩
  | reg draw ops =>
   obtain⟨t',h',h1,h2⟩:=qel qB draw (qcY env ho ih) ops t h _ hk;exact⟨_,_,_,h1,fun Q' hQ=>h2 (fun t h=>Q' .normal t h) hQ⟩
  | seq x y =>
   obtain⟨e,t1,h1,g1,g2⟩:=ih _ _ _ _ hk;cases e with
   | normal =>
    obtain⟨e2,t2,h2,g3,g4⟩:=ih _ _ _ _ g1;exact⟨e2,t2,h2,g3,fun Q' hQ=>g2 (fun e t h=>X.rec (motive:=fun _=>Prop) (fv env ho n y Q' t h) (fun id=>Q' (.exit id) t h) (Q' .ret t h) e) (g4 _ hQ)⟩
   | exit id=>exact⟨_,t1,h1,g1,fun Q' hQ=>g2 (fun e t h=>X.rec (motive:=fun _=>Prop) (fv env ho n y Q' t h) (fun id=>Q' (.exit id) t h) (Q' .ret t h) e) hQ⟩
   | ret=>exact⟨_,t1,h1,g1,fun Q' hQ=>g2 (fun e t h=>X.rec (motive:=fun _=>Prop) (fv env ho n y Q' t h) (fun id=>Q' (.exit id) t h) (Q' .ret t h) e) hQ⟩
  | cond c x y =>
   obtain⟨v,g1,g2⟩:=qr t c _ hk;obtain⟨b,g3,g4⟩:=XE v _ g1;cases b with
   | true =>
    obtain⟨e,t1,h1,g5,g6⟩:=ih _ _ _ _ g3;exact⟨e,t1,h1,g5,fun Q' hQ=>g2 (fun v=>unB v (fun b=>Bool.rec (motive:=fun _=>Prop) (fv env ho n y Q' t h) (fv env ho n x Q' t h) b)) (g4 (fun b=>Bool.rec (motive:=fun _=>Prop) (fv env ho n y Q' t h) (fv env ho n x Q' t h) b) (g6 _ hQ))⟩
   | false =>
    obtain⟨e,t1,h1,g5,g6⟩:=ih _ _ _ _ g3;exact⟨e,t1,h1,g5,fun Q' hQ=>g2 (fun v=>unB v (fun b=>Bool.rec (motive:=fun _=>Prop) (fv env ho n y Q' t h) (fv env ho n x Q' t h) b)) (g4 (fun b=>Bool.rec (motive:=fun _=>Prop) (fv env ho n y Q' t h) (fv env ho n x Q' t h) b) (g6 _ hQ))⟩
  | blk id x =>
   obtain⟨e,t1,h1,g1,g2⟩:=ih _ _ _ _ hk;cases e with
   | normal=>exact⟨_,t1,h1,g1,fun Q' hQ=>g2 (fun e t h=>X.rec (motive:=fun _=>Prop) (Q' .normal t h) (fun id'=>Bool.rec (motive:=fun _=>Prop) (Q' (.exit id') t h) (Q' .normal t h) (Nat.beq id' id)) (Q' .ret t h) e) hQ⟩
   | ret=>exact⟨_,t1,h1,g1,fun Q' hQ=>g2 (fun e t h=>X.rec (motive:=fun _=>Prop) (Q' .normal t h) (fun id'=>Bool.rec (motive:=fun _=>Prop) (Q' (.exit id') t h) (Q' .normal t h) (Nat.beq id' id)) (Q' .ret t h) e) hQ⟩
   | exit id' =>
    have g1':(Bool.rec (motive:=fun _=>Prop) (Q (.exit id') t1 h1) (Q .normal t1 h1) (Nat.beq id' id):Prop):=g1
    cases hb:Nat.beq id' id with
    | true =>
     rw[hb] at g1';refine⟨_,t1,h1,g1',fun Q' hQ=>g2 (fun e t h=>X.rec (motive:=fun _=>Prop) (Q' .normal t h) (fun id'=>Bool.rec (motive:=fun _=>Prop) (Q' (.exit id') t h) (Q' .normal t h) (Nat.beq id' id)) (Q' .ret t h) e) ?_⟩
     show (Bool.rec (motive:=fun _=>Prop) (Q' (.exit id') t1 h1) (Q' .normal t1 h1) (Nat.beq id' id):Prop)
     rw[hb];exact hQ
    | false =>
     rw[hb] at g1';refine⟨_,t1,h1,g1',fun Q' hQ=>g2 (fun e t h=>X.rec (motive:=fun _=>Prop) (Q' .normal t h) (fun id'=>Bool.rec (motive:=fun _=>Prop) (Q' (.exit id') t h) (Q' .normal t h) (Nat.beq id' id)) (Q' .ret t h) e) ?_⟩
     show (Bool.rec (motive:=fun _=>Prop) (Q' (.exit id') t1 h1) (Q' .normal t1 h1) (Nat.beq id' id):Prop)
     rw[hb];exact hQ
  | loop x =>
   obtain⟨e,t1,h1,g1,g2⟩:=ih _ _ _ _ hk;cases e with
   | normal =>
    obtain⟨e2,t2,h2,g3,g4⟩:=ih _ _ _ _ g1;exact⟨e2,t2,h2,g3,fun Q' hQ=>g2 (fun e t h=>X.rec (motive:=fun _=>Prop) (fv env ho n (.loop x) Q' t h) (fun id=>Q' (.exit id) t h) (Q' .ret t h) e) (g4 _ hQ)⟩
   | exit id=>exact⟨_,t1,h1,g1,fun Q' hQ=>g2 (fun e t h=>X.rec (motive:=fun _=>Prop) (fv env ho n (.loop x) Q' t h) (fun id=>Q' (.exit id) t h) (Q' .ret t h) e) hQ⟩
   | ret=>exact⟨_,t1,h1,g1,fun Q' hQ=>g2 (fun e t h=>X.rec (motive:=fun _=>Prop) (fv env ho n (.loop x) Q' t h) (fun id=>Q' (.exit id) t h) (Q' .ret t h) e) hQ⟩

theorem S.mono{n:Nat}{c:ICode}{Q Q':X->Tr AV->Hp->Prop}{t:Tr AV}{h:Hp}(hs:S P n c Q t h)(hq:∀e t h,Q e t h->Q' e t h):S P n c Q' t h:=by
 intro nt code hc hn ro hro ρ B w a ht hsz r;refine wpIn_mono (hs nt code hc hn ro hro ρ B w a ht hsz r) ?_;rintro e a1 w1 ⟨x1,t1,h1,ρ1,rs,hx,hq1,rest⟩;exact⟨x1,t1,h1,ρ1,rs,hx,hq _ _ _ hq1,rest⟩
theorem S.reg{n:Nat}{d:Bool}{rs:List ROp}{C:zc}(hl:LC C)(hC:vi P σ0 C){Q:X->Tr AV->Hp->Prop}{t:Tr AV}{h:Hp}(hv:Xx qB d C rs (fun t h=>Q .normal t h) t h):S P n (.reg d rs) Q t h:=by
 intro nt code hc hn ro hro ρ B w a ht hsz r;cases code<;>first|(simp[qH] at hc;done)|skip
 rename_i id ops d';simp only[qH,Bool.and_eq_true] at hc;obtain⟨⟨h1,h2⟩,h3⟩:=hc;obtain rfl:=eq_of_beq h1;cases d' with
 | false =>
  refine wpIn_region ?_
  have:=X1 (ops:=ops) (nt:=nt) (ro:=ro) (K:=wK σ0 Q nt n ρ B h w a.defers) (ρ0:=ρ) (h0:=h) (w0:=w) (ds:=a.defers) (yG P) hC (fun a' w' t' h' ρ' g1 g2 g3 g4 g5 g6=>wK.of .normal g1 g2 g3 g4 g5 (g6.kep hn))
   ops.toList rs 0 h2 rfl t h ρ w a hv ht hsz rfl r (Kept.refl _ _ _ _)
  rw[List.range_eq_range'];simpa using this
 | true =>
  simp only[Bool.not_true,Bool.false_or,Bool.and_eq_true] at h3;exact qeM (yG P) hl hC h2 h3.1 h3.2 hv ht hsz r (fun a' w' t' h' ρ' g1 g2 g3 g4 g5 g6=>wK.of .normal g1 g2 g3 g4 g5 (g6.kep hn))
theorem S.seq{n:Nat}{x y:ICode}{Q:X->Tr AV->Hp->Prop}{t:Tr AV}{h:Hp}(hv:S P n x (fun e t h=>onX e (S P n y Q t h) (fun id=>Q (.exit id) t h) (Q .ret t h)) t h):S P n (.seq x y) Q t h:=by
 intro nt code hc hn ro hro ρ B w a ht hsz r;cases code<;>first|(simp[qH] at hc;done)|skip
 rename_i cx cy;simp only[qH,Bool.and_eq_true] at hc;refine wpIn_seq (wpIn_mono (hv nt cx hc.1 hn ro (nr1 hro) ρ B w a ht hsz r) ?_);rintro e a1 w1 ⟨x1,t1,h1,ρ1,rs,hx,hq,ht1,hs1,hd1,hm,r1,k1⟩;cases hx with
 | normal=>exact wpIn_mono (hq nt cy hc.2 k1.szle ro (nr2 hro) ρ1 _ w1 a1 ht1 hs1 r1) (fun e a2 w2 hp=>wK.trans k1 hm hd1 hm.lt hp)
 | exit id=>exact⟨_,t1,h1,ρ1,rs,.exit id,hq,ht1,hs1,hd1,hm,r1,k1⟩
 | ret=>exact⟨_,t1,h1,ρ1,rs,.ret,hq,ht1,hs1,hd1,hm,r1,k1⟩
theorem S.cond{n:Nat}{c:O}{x y:ICode}{Q:X->Tr AV->Hp->Prop}{t:Tr AV}{h:Hp}(hv:evK t c (fun v=>unB v (fun b=>if b=true then S P n x Q t h else S P n y Q t h))):S P n (.cond c x y) Q t h:=by
 intro nt code hc hn ro hro ρ B w a ht hsz r;cases code<;>first|(simp[qH] at hc;done)|skip
 rename_i cc cx cy;simp only[qH,Bool.and_eq_true] at hc;obtain⟨⟨h1,h2⟩,h3⟩:=hc;obtain⟨v,h4,h5⟩:=qI ht h1 hv;obtain⟨b,h6,h7⟩:=qbm h5 h4;cases b with
 | true=>exact wpIn_cond_true h6 (h7 nt cx h2 hn ro (nr1 hro) ρ B w a ht hsz r)
 | false=>exact wpIn_cond_false h6 (h7 nt cy h3 hn ro (nr2 hro) ρ B w a ht hsz r)
theorem S.blk{n id:Nat}{x:ICode}{Q:X->Tr AV->Hp->Prop}{t:Tr AV}{h:Hp}(hv:S P n x (fun e t h=>onX e (Q .normal t h) (fun i=>if i=id then Q .normal t h else Q (.exit i) t h) (Q .ret t h)) t h):S P n (.blk id x) Q t h:=by
 intro nt code hc hn ro hro ρ B w a ht hsz r;cases code<;>first|(simp[qH] at hc;done)|skip
 rename_i id' cx;simp only[qH,Bool.and_eq_true] at hc;obtain rfl:=eq_of_beq hc.1;refine wpIn_block (wpIn_mono (hv nt cx hc.2 hn ro hro ρ B w a ht hsz r) ?_);rintro e a1 w1 ⟨x1,t1,h1,ρ1,rs,hx,hq,ht1,hs1,hd1,hm,r1,k1⟩;cases hx with
 | normal=>exact⟨_,t1,h1,ρ1,rs,.normal,hq,ht1,hs1,hd1,hm,r1,k1⟩
 | ret=>exact⟨_,t1,h1,ρ1,rs,.ret,hq,ht1,hs1,hd1,hm,r1,k1⟩
 | exit id2 =>
  show (if id2=id' then _ else _)
  have hq':(if id2=id' then Q .normal t1 h1 else Q (.exit id2) t1 h1):=hq
  by_cases he:id2=id'
  ·rw[if_pos he] at hq' ⊢;exact⟨_,t1,h1,ρ1,rs,.normal,hq',ht1,hs1,hd1,hm,r1,k1⟩
  ·rw[if_neg he] at hq' ⊢;exact⟨_,t1,h1,ρ1,rs,.exit id2,hq',ht1,hs1,hd1,hm,r1,k1⟩
theorem S.loop{n:Nat}{x:ICode}{Q:X->Tr AV->Hp->Prop}{t:Tr AV}{h:Hp}(hv:SL P n x Q t h):S P n (.loop x) Q t h:=by
 intro nt code hc hn ro hro ρ B w a ht hsz r;cases code<;>first|(simp[qH] at hc;done)|skip
 rename_i cx;exact qbN (hv nt cx (by simpa[qH] using hc) hn ro hro ρ B w a ht hsz r)
theorem SL.of_S{n:Nat}{x:ICode}{Q:X->Tr AV->Hp->Prop}{t:Tr AV}{h:Hp}(hv:S P n x (fun e t h=>onX e (SL P n x Q t h) (fun id=>Q (.exit id) t h) (Q .ret t h)) t h):SL P n x Q t h:=by
 intro nt cx hc hn ro hro ρ B w a ht hsz r;refine Js (wpIn_mono (hv nt cx hc hn ro hro ρ B w a ht hsz r) ?_);rintro e a1 w1 ⟨x1,t1,h1,ρ1,rs,hx,hq,ht1,hs1,hd1,hm,r1,k1⟩;cases hx with
 | normal=>exact kL.mono (hq nt cx hc k1.szle ro hro ρ1 _ w1 a1 ht1 hs1 r1) (fun e a2 w2 hp=>wK.trans k1 hm hd1 hm.lt hp)
 | exit id=>exact⟨_,t1,h1,ρ1,rs,.exit id,hq,ht1,hs1,hd1,hm,r1,k1⟩
 | ret=>exact⟨_,t1,h1,ρ1,rs,.ret,hq,ht1,hs1,hd1,hm,r1,k1⟩
def Jb(P:Program)(env:Tr IFn):Prop:=∀f i,env.get f=some i->qi P f i=true
theorem qbx:∀{l:List AV} {n:Nat} {t:Tr AV} {k:Tr AV->Prop},qcM l n t k↔k (jO l n t)
 | [],_,_,_=>Iff.rfl
 | v::l,n,t,k=>by
  show t.setK n v (fun t'=>qq (Nat.succ n) (fun n'=>qcM l n' t' k))↔_
  rw[Tr.setK_iff,qt,qbx];exact Iff.rfl
theorem qb8{env:Tr IFn}(he:Jb P env){ih:qaq}(hi:∀c Q t h,ih c Q t h->∀n,S P n c Q t h){f:Nat}{vs:List AV}{h:Hp}{k:AV->Hp->Prop}(hk:qb7 env ih f vs h k):SC P f vs h k:=by
 obtain⟨fn,g1,g2⟩:=(Tr.getK_iff _ _ _).1 hk;cases fn with
 | mk res body =>
  have g3:=qbx.1 g2;exact SC.mk (he f _ g1) (hi _ _ _ _ g3 h.sz)
theorem Jf{env:Tr IFn}{ho:Q9}(he:Jb P env)(hh:ZC P ho){ih:qaq}(hi:∀c Q t h,ih c Q t h->∀n,S P n c Q t h){f:Nat}{vs:List AV}{h:Hp}{k:AV->Hp->Prop}(hk:Zh env ho ih f vs h k):SC P f vs h k:=by
 unfold Zh at hk;cases hv:ho f vs with
 | none=>rw[hv] at hk;exact qb8 he hi hk
 | some v=>rw[hv] at hk;exact hh f vs v hv h k hk
theorem qdd{env:Tr IFn}{ho:Q9}(he:Jb P env)(hh:ZC P ho):∀m,(∀c Q t h,fv env ho m c Q t h->∀n,S P n c Q t h)∧(∀x Q t h,fv env ho m (.loop x) Q t h->∀n,SL P n x Q t h)
 | 0=>⟨fun _ _ _ _ h=>h.elim,fun _ _ _ _ h=>h.elim⟩
 | m+1=>by
  obtain⟨ih,ihl⟩:=qdd he hh m
  have loop:∀x Q t h,fv env ho (m+1) (.loop x) Q t h->∀n,SL P n x Q t h:=by
   intro x Q t h hv n;have hv':fv env ho m x (fun e t h=>onX e (fv env ho m (.loop x) Q t h) (fun id=>Q (.exit id) t h) (Q .ret t h)) t h:=hv
   refine SL.of_S ((ih _ _ _ _ hv' n).mono ?_);intro e t h hq;cases e with
   | normal=>exact ihl x Q t h hq n
   | exit id=>exact hq
   | ret=>exact hq
  refine⟨fun c Q t h hv n=>?_,loop⟩
  cases c with
  | no=>exact hv.elim
  | rangeF=>exact hv.elim
  | cut x=>exact qA (c:=.cut x) (ih _ _ _ _ hv n)
  | skip=>exact qA (c:=.skip) hv
  | exit id=>exact qA (c:=.exit id) hv
  | ret=>exact qA (c:=.ret) hv
  | reg d ops=>exact S.reg (qcY env ho (qrf env ho m)) ⟨fun f vs h k hk=>Jf he hh ih hk,fun _ _ _ _ hk=>hk.elim⟩ hv
  | seq x y =>
   have hv':fv env ho m x (fun e t h=>onX e (fv env ho m y Q t h) (fun id=>Q (.exit id) t h) (Q .ret t h)) t h:=hv
   refine S.seq ((ih _ _ _ _ hv' n).mono ?_);intro e t h hq;cases e with
   | normal=>exact ih y Q t h hq n
   | exit id=>exact hq
   | ret=>exact hq
  | cond c x y =>
   obtain⟨v,g1,g2⟩:=qr t c _ hv;refine S.cond (g2 _ ?_);obtain⟨b,g3,g4⟩:=XE v _ g1;refine g4 _ ?_;cases b with
   | true=>exact ih _ _ _ _ g3 n
   | false=>exact ih _ _ _ _ g3 n
  | blk id x =>
   have hv':fv env ho m x (fun e t h=>X.rec (motive:=fun _=>Prop) (Q .normal t h) (fun id'=>Bool.rec (motive:=fun _=>Prop) (Q (.exit id') t h) (Q .normal t h) (Nat.beq id' id)) (Q .ret t h) e) t h:=hv
   refine S.blk ((ih _ _ _ _ hv' n).mono ?_);intro e t h hq;cases e with
   | normal=>exact hq
   | ret=>exact hq
   | exit i =>
    have hq':(Bool.rec (motive:=fun _=>Prop) (Q (.exit i) t h) (Q .normal t h) (Nat.beq i id):Prop):=hq
    show (if i=id then _ else _)
    by_cases hi:i=id
    ·subst hi;rw[Nat.beq_refl] at hq';rw[if_pos rfl];exact hq'
    ·rw[if_neg hi];cases hb:Nat.beq i id with
     | true=>exact absurd (Nat.eq_of_beq_eq_true hb) hi
     | false=>rw[hb] at hq';exact hq'
  | loop x=>exact S.loop (loop x Q t h hv n)
theorem SC.run{env:Tr IFn}{ho:Q9}(he:Jb P env)(hh:ZC P ho)(m:Nat){f:Nat}{vs:List AV}{h:Hp}{k:AV->Hp->Prop}(hk:Zh env ho (fv env ho m) f vs h k):SC P f vs h k:=Jf he hh (qdd he hh m).1 hk
theorem qc.run{env:Tr IFn}{ho:Q9}(he:Jb P env)(hh:ZC P ho)(m:Nat){f:Nat}{vs:List AV}{v:AV}(hcl:qy vs=true)(hk:Zh env ho (fv env ho m) f vs H0 (fun v' h'=>Frz h' v' v)):qc P f vs v:=qc.of_SC hcl (SC.run he hh m hk)
end Go.Kc
end
section
/- Ranges over strings; maps in states written out. No condition. -/
namespace Go.Kc
variable {P:Program} {t:Tr AV} {h:Hp} {k:AV->Hp->Prop}

def kW(l:List UInt8)(i:Nat):Nat×Nat:=Utf8.decode ⟨l.toArray⟩ i
theorem qpf(l:List UInt8)(i:Nat):1<=(kW l i).2:=by
 unfold kW Utf8.decode;dsimp only
 repeat' split
 all_goals simp
theorem qgs{x:O}:opK qB (.rangeS x) t h k↔evK t x (fun x=>match x with | .s a=>z9 h (.map (zR a 0)) (fun b h'=>k (.ptr b 0) h')|_=>False):=Iff.rfl
def qkT(x:Blk)(k:List UInt8->Nat->Prop):Prop:=∃a n,x = .map (zR a n)∧k a n
@[congr] theorem qn0 {x x':Blk} {k:List UInt8->Nat->Prop} {mk:Prop} (_:qS=mk) (h:x=x'):qkT x k=qkT x' k:=by rw[h]
theorem qgd{a a':List UInt8}{n n':Nat}(e:zR a n=zR a' n'):a=a'∧n=n':=by
 simp only[zR,List.cons.injEq,Prod.mk.injEq,AV.s.injEq,AV.i.injEq,true_and,and_true] at e;exact⟨e.1,Int.ofNat.inj e.2⟩
theorem qkU{a:List UInt8}{n:Nat}{k:List UInt8->Nat->Prop}:qkT (.map (zR a n)) k↔k a n:=by
 constructor
 ·rintro⟨a',n',h1,h2⟩;obtain⟨rfl,rfl⟩:=qgd (Blk.map.inj h1);exact h2
 ·intro h1;exact⟨a,n,rfl,h1⟩
theorem qiS{x:O}:opK qB (.nextS x) t h k↔evK t x (fun x=>unP x (fun b o=>ifK (o=0) (evB (h.tr.get b) (fun y=>qkT y (fun a n=>if n<a.length then evN (n+(kW a n).2) (fun m=>jk h b (.map (zR a m)) (fun h'=>evA (.i .i32 ((kW a n).1:Int)) (fun c=>k (.tup [.b true,.i .i64 (n:Int),c]) h'))) else k (.tup [.b false]) h))))):=by
 show evK t x (fun x=>unP x (fun b o=>qh (Nat.beq o 0) (qbK h b _)))↔_
 refine iff_of_eq (congrArg _ (funext fun v=>congrArg _ (funext fun b=>funext fun o=>?_)))
 rw[show (qh (Nat.beq o 0)=fun p=>ifK (o=0) p) from by funext p;exact propext ((qb _ _).trans (by rw[yu];exact Iff.rfl))]
 refine congrArg _ (propext (Q2.trans ?_))
 have body:∀a n,(match a[n]? with
  | some c=>(Bool.rec (motive:=fun _=>Prop)
    (jk h b (.map (zR a (Nat.add n (Utf8.decode ⟨a.toArray⟩ n).2))) (fun h'=>k (.tup [.b true,.i .i64 (Int.ofNat n),.i .i32 (Int.ofNat (Utf8.decode ⟨a.toArray⟩ n).1)]) h'))
    (qq (Nat.succ n) (fun m=>jk h b (.map (zR a m)) (fun h'=>k (.tup [.b true,.i .i64 (Int.ofNat n),.i .i32 (Int.ofNat c.toNat)]) h')))
    (Nat.ble (Nat.succ c.toNat) 128):Prop)
  | none=>k (.tup [.b false]) h)↔if n<a.length then evN (n+(kW a n).2) (fun m=>jk h b (.map (zR a m)) (fun h'=>evA (.i .i32 ((kW a n).1:Int)) (fun c=>k (.tup [.b true,.i .i64 (n:Int),c]) h'))) else k (.tup [.b false]) h:=by
  intro a n
  by_cases hi:n<a.length
  ·rw[if_pos hi,List.getElem?_eq_getElem hi];dsimp only;cases hc:Nat.ble (Nat.succ a[n].toNat) 128 with
   | false=>exact Iff.rfl
   | true =>
    have hlt:=Nat.le_of_ble_eq_true hc;have hd:kW a n=(a[n].toNat,1):=Z9 (List.getElem?_eq_getElem hi) (by omega);show qq _ _↔_;rw[qt,hd];exact Iff.rfl
  ·rw[if_neg hi,List.getElem?_eq_none (by omega)]
 constructor
 ·rintro⟨a,n,h1,h2⟩;exact⟨_,h1,a,n,rfl,(body a n).1 h2⟩
 ·rintro⟨_,h1,a,n,rfl,h2⟩;exact⟨a,n,h1,(body a n).2 h2⟩
def km(es:List (AV×AV)):Prop:=∀e ∈ es,clo e.1=true∧clo e.2=true
theorem qne{r:Nat->Nat}{m b:Nat}{es:List (AV×AV)}(hb:b<h.sz):BW h r m b (.map es)↔evB (h.tr.get b) (fun x=>qdu x (fun es'=>EsW r m es' es)):=by
 constructor
 ·rintro (h1|h1|⟨e',w0,a0,cs,w',a',cs'',h1,h2,h3,h4,h5⟩|⟨es',es2,h1,h2,h3⟩)
  ·omega
  ·cases h1
  ·cases h2
  ·cases h2;exact⟨_,h1,h3⟩
 ·rintro⟨x,h1,h2⟩;cases x with
  | map es'=>exact .inr (.inr (.inr ⟨_,_,h1,rfl,h2⟩))
  | dead=>exact h2.elim
  | cells e0 w0 a0 cs=>exact h2.elim
theorem qcg{r:Nat->Nat}{m:Nat}{es es':List (AV×AV)}(hn:∀lr ts,es'≠zC lr ts):EsW r m es es'↔es=es'∧km es' :=
 ⟨fun h=>by
  rcases h with⟨rfl,h⟩|⟨lr,ts,ts',_,h,_⟩
  ·exact⟨rfl,h⟩
  ·exact absurd h (hn _ _),fun⟨h1,h2⟩=>by subst h1;exact .inl ⟨rfl,h2⟩⟩
theorem qkl{r:Nat->Nat}{m:Nat}{es:List (AV×AV)}:EsW r m es []↔es=[]:=(qcg (by simp[zC])).trans ⟨And.left,fun h=>⟨h,by intro e he;cases he⟩⟩
theorem qq9{r:Nat->Nat}{m:Nat}{es es':List (AV×AV)}{a:List UInt8}{v:AV}:EsW r m es ((.s a,v)::es')↔es=(.s a,v)::es'∧km ((.s a,v)::es'):=qcg (by simp[zC])
theorem qq8{r:Nat->Nat}{m:Nat}{es es':List (AV×AV)}{q:IntKind}{a:Int}{v:AV}:EsW r m es ((.i q a,v)::es')↔es=(.i q a,v)::es'∧km ((.i q a,v)::es'):=qcg (by simp[zC])
theorem qnD{r:Nat->Nat}{m:Nat}{es:List (AV×AV)}{a:List UInt8}{n:Nat}:EsW r m es (zR a n)↔es=zR a n∧km (zR a n):=qcg (by simp[zR,zC])
theorem jo{r:Nat->Nat}{m:Nat}{lr lr':Loop}{ts ts':List (Nat×AV)}:EsW r m (zC lr ts) (zC lr' ts')↔lr=lr'∧TsW r m ts ts' :=
 ⟨fun h=>by
  rcases h with⟨h1,h⟩|⟨l,t1,t2,h1,h2,h3⟩
  ·exact absurd (h (.lp lr,.undef) (by simp[zC])).1 (by simp[clo])
  ·obtain⟨rfl,rfl⟩:=qa9 h1;obtain⟨rfl,rfl⟩:=qa9 h2;exact⟨rfl,h3⟩,fun⟨h1,h2⟩=>by subst h1;exact .inr ⟨_,_,_,rfl,rfl,h2⟩⟩
theorem jq{r:Nat->Nat}{m:Nat}{ts:List (Nat×AV)}:TsW r m ts []↔True:=iff_true_intro (by intro p hp;cases hp)
theorem xG{r:Nat->Nat}{m:Nat}{ts ts':List (Nat×AV)}{p:Nat×AV}:TsW r m ts (p::ts')↔evO (Jp ts p.1) (fun v=>NV r m v p.2)∧TsW r m ts ts':=by
 simp only[TsW,List.mem_cons,forall_eq_or_imp];exact Iff.rfl
theorem zA{p:Nat×AV}{l:List (Nat×AV)}{j:Nat}:Jp (p::l) j=if p.1=j then some p.2 else Jp l j:=rfl
theorem qgg{a:List UInt8}{n:Nat}:km (zR a n)↔True:=by
 refine iff_true_intro ?_;intro e he;simp only[zR,List.mem_cons,List.mem_nil_iff,or_false] at he;rcases he with rfl|rfl<;>exact⟨rfl,rfl⟩
theorem qef:km []↔True:=iff_true_intro (by intro e he;cases he)
theorem Jt{e:AV×AV}{es:List (AV×AV)}:km (e::es)↔(clo e.1=true∧clo e.2=true)∧km es:=by simp[km]
theorem qa{r:Nat->Nat}{m:Nat}{vs:List AV}(hc:qy vs=true):NVs r m vs vs↔True:=iff_true_intro (NVs.refl hc)
theorem qY{vs:List AV}(hc:qy vs=true):Frzs h vs vs↔True:=iff_true_intro (Frzs.self hc)
theorem Wk.mkn{n:Nat}{t:Tr AV}(ts:List (Nat×AV))(bl:List Blk)(src:List Nat)(hT:TWs t (rl src h.sz) bl.length ts)(hB:BWs h (rl src h.sz) bl.length src bl)
  (hI:((src.filter fun b=>decide (b<h.sz)).Nodup)) (hfl:h.fl=0) (hn:n<=bl.length) (hlow:∀b,b<n->rl src h.sz b=b):Wk n t h (mkT ts) (mkH 0 bl):=by
 obtain⟨hlen,hget⟩:=hB.get;refine Wk.of (r:=rl src h.sz) ⟨hfl.symm,fun b' x' hb hg=>?_,fun b1 b2 h1 h2 _ _ he hl=>?_,fun b' _ _ _=>by rw[hfl];exact Nat.zero_le _,hlow,hn,fun b _ hb=>by rw[hfl] at hb;exact absurd hb (Nat.not_lt_zero _),fun j v' hj=>?_⟩
 ·rw[zq] at hg;obtain⟨b,q1,q2⟩:=hget b' x' hg;have:rl src h.sz b'=b:=by simp[rl,List.getD_eq_getElem?_getD,q1]
  rw[this];exact q2
 ·have h1:b1<src.length:=by rw[hlen];exact h1
  have h2:b2<src.length:=by rw[hlen];exact h2
  simp only[rl,List.getD_eq_getElem?_getD,List.getElem?_eq_getElem h1,List.getElem?_eq_getElem h2,Option.getD_some] at he hl;exact Wk.mk.nodup_filter_inj hI h1 h2 he (by simpa using hl)
 ·exact hT.get _ (yE hj)
theorem SL.loopn{n:Nat}{α:Type}{x:ICode}{Q:X->Tr AV->Hp->Prop}(T:α->List (Nat×AV))(B:α->List Blk)(I:α->Prop)(μ:α->Nat)(a0:α)(src:List Nat)
  (hT:TWs t (rl src h.sz) (B a0).length (T a0)) (hB:BWs h (rl src h.sz) (B a0).length src (B a0)) (hI:(src.filter fun b=>decide (b<h.sz)).Nodup) (hfl:h.fl=0) (hn:n<=(B a0).length) (hlow:∀b,b<n->rl src h.sz b=b) (h0:I a0)
  (step:∀a,I a->∀G:Tr AV->Hp->Prop,(∀b,I b->μ b<μ a->∀t' h',Wk n t' h' (mkT (T b)) (mkH 0 (B b))->G t' h')->
   V P n x (fun e t h=>onX e (G t h) (fun id=>Q (.exit id) t h) (Q .ret t h)) (mkT (T a)) (mkH 0 (B a))):SL P n x Q t h:=by
 have main:∀m a,μ a=m->I a->SL P n x Q (mkT (T a)) (mkH 0 (B a)):=by
  intro m
  induction m using Nat.strongRecOn with
  | ind m ih =>
   intro a ha hi;exact qeA (step a hi (fun t h=>SL P n x Q t h) fun b hb hlt t' h' hw=>SL.weak hw (ih (μ b) (ha ▸ hlt) b rfl hb))
 exact SL.weak (Wk.mkn (T a0) (B a0) src hT hB hI hfl hn hlow) (main _ a0 rfl h0)
end Go.Kc
end
section
/- Calls that write through pointers: shown on the blocks they reach, used at any heap. No condition. -/
namespace Go.Kc
variable {P:Program}

mutual
def rnv(g:Nat->Nat):AV->AV
 | .ptr b o=>.ptr (g b) o
 | .sl b o n c l=>.sl (g b) o n c l
 | .map b=>.map (g b)
 | .own b n=>.own (g b) n
 | .yl b=>.yl (g b)
 | .fn f a c=>.fn f (jH g a) (jH g c)
 | .ifc t v=>.ifc t (rnv g v)
 | .agg cs=>.agg (jH g cs)
 | .tup cs=>.tup (jH g cs)
 | v=>v
def jH(g:Nat->Nat):List AV->List AV
 | []=>[]
 | v::vs=>rnv g v::jH g vs
end
mutual
def bnd(m:Nat):AV->Bool
 | .ptr b _=>decide (b<m)
 | .sl b _ _ _ _=>decide (b<m)
 | .map b=>decide (b<m)
 | .own b _=>decide (b<m)
 | .yl b=>decide (b<m)
 | .fn _ a c=>xu m a&&xu m c
 | .ifc _ v=>bnd m v
 | .agg cs=>xu m cs
 | .tup cs=>xu m cs
 | _=>true
def xu(m:Nat):List AV->Bool
 | []=>true
 | v::vs=>bnd m v&&xu m vs
end
theorem qbf{g:Nat->Nat}:∀{vs:List AV} {j:Nat},(jH g vs)[j]?=(vs[j]?).map (rnv g)
 | [],j=>by simp[jH]
 | v::vs,0=>by simp[jH]
 | v::vs,j+1=>by simpa[jH] using qbf (vs:=vs) (j:=j)
theorem jn{g:Nat->Nat}:∀{vs:List AV},(jH g vs).length=vs.length
 | []=>rfl
 | v::vs=>by simp[jH,jn (vs:=vs)]
theorem qcQ{m:Nat}:∀{vs:List AV} {j:Nat} {v:AV},xu m vs=true->vs[j]?=some v->bnd m v=true
 | [],_,_,_,h=>by simp at h
 | x::xs,0,_,hb,h=>by
  simp only[xu,Bool.and_eq_true] at hb;simp at h;subst h;exact hb.1
 | x::xs,j+1,_,hb,h=>by
  simp only[xu,Bool.and_eq_true] at hb;exact qcQ (vs:=xs) (j:=j) hb.2 (by simpa using h)
mutual
theorem VR.rn{ρ2 ρ3:Ren}{g:Nat->Nat}(h1:∀b L,ρ2 b=some L->ρ3 (g b)=some L)(h2:∀k a,ρ2.frz k=some a->ρ3.frz k=some a)(h3:∀b,b<ρ2.n->g b<ρ3.n):∀{v:AV} {x:Value},VR σ0 ρ2 v x->VR σ0 ρ3 (rnv g v) x
 | _,_,.undef v=>.undef v
 | _,_,.b x=>.b x
 | _,_,.i k n=>.i k n
 | _,_,.s x=>.s x
 | _,_,.nilp=>.nilp
 | _,_,.ptr b o L h=>.ptr _ _ L (h1 _ _ h)
 | _,_,.nils=>.nils
 | _,_,.sl b o len cap c loose L h hc=>.sl _ _ _ _ _ _ L (h1 _ _ h) hc
 | _,_,.slz b o x l' L h=>.slz _ _ _ _ L (h1 _ _ h)
 | _,_,.nilf=>.nilf
 | _,_,.fn f first cap first' cap' q1 q2=>.fn _ _ _ _ _ (VRs.rn h1 h2 h3 q1) (VRs.rn h1 h2 h3 q2)
 | _,_,.nili=>.nili
 | _,_,.ifc t v v' h=>.ifc _ _ _ (VR.rn h1 h2 h3 h)
 | _,_,.agg cs cs' h=>.agg _ _ (VRs.rn h1 h2 h3 h)
 | _,_,.tup cs cs' h=>.tup _ _ (VRs.rn h1 h2 h3 h)
 | _,_,.nilm=>.nilm
 | _,_,.map b L h h0=>.map _ L (h1 _ _ h) h0
 | _,_,.sym j=>.sym j
 | _,_,.fz n off c cs k arr hn h hs=>.fz n off c cs k arr hn (h2 _ _ h) (hs.mono h2)
 | _,_,.fz0 a=>.fz0 a
 | _,_,.pf off base cs k arr h hs=>.pf off base cs k arr (h2 _ _ h) (hs.mono h2)
 | _,_,.e0 a=>.e0 a
 | _,_,.nz a c=>.nz a c
 | _,_,.own0 b a hb=>.own0 _ _ (h3 _ hb)
 | _,_,.own b n c L h hn hc'=>.own _ _ _ L (h1 _ _ h) hn hc'
 | _,_,.yl b L h=>.yl _ L (h1 _ _ h)
theorem VRs.rn{ρ2 ρ3:Ren}{g:Nat->Nat}(h1:∀b L,ρ2 b=some L->ρ3 (g b)=some L)(h2:∀k a,ρ2.frz k=some a->ρ3.frz k=some a)(h3:∀b,b<ρ2.n->g b<ρ3.n):∀{v:List AV} {x:List Value},VRs σ0 ρ2 v x->VRs σ0 ρ3 (jH g v) x
 | _,_,.nil=>.nil
 | _,_,.cons v vs v' vs' h hs=>.cons _ _ _ _ (VR.rn h1 h2 h3 h) (VRs.rn h1 h2 h3 hs)
end
mutual
theorem VR.nr{ρ ρs:Ren}{g:Nat->Nat}{m:Nat}(h1:∀b L,b<m->ρ (g b)=some L->ρs b=some L)(h2:ρs.frz=ρ.frz)(h3:ρs.n=m):∀{v:AV} {x:Value},bnd m v=true->VR σ0 ρ (rnv g v) x->VR σ0 ρs v x
 | .undef,_,_,h=>by cases h;exact .undef _
 | .b _,_,_,h=>by cases h;exact .b _
 | .i _ _,_,_,h=>by cases h;exact .i _ _
 | .s _,_,_,h=>by cases h;exact .s _
 | .nilp,_,_,h=>by cases h;exact .nilp
 | .ptr b o,_,hb,h=>by
  simp only[bnd,decide_eq_true_eq] at hb;cases h with
  | ptr _ _ L q=>exact .ptr _ _ L (h1 _ _ hb q)
 | .nils,_,_,h=>by cases h;exact .nils
 | .sl b o n c l,_,hb,h=>by
  simp only[bnd,decide_eq_true_eq] at hb;cases h with
  | sl _ _ _ _ _ _ L q hc=>exact .sl _ _ _ _ _ _ L (h1 _ _ hb q) hc
  | slz _ _ _ _ L q=>exact .slz _ _ _ _ L (h1 _ _ hb q)
 | .nilf,_,_,h=>by cases h;exact .nilf
 | .fn f a c,_,hb,h=>by
  simp only[bnd,Bool.and_eq_true] at hb;cases h with
  | fn _ _ _ _ _ q1 q2=>exact .fn _ _ _ _ _ (VRs.nr h1 h2 h3 hb.1 q1) (VRs.nr h1 h2 h3 hb.2 q2)
 | .nili,_,_,h=>by cases h;exact .nili
 | .ifc t v,_,hb,h=>by
  simp only[bnd] at hb;cases h with
  | ifc _ _ _ q=>exact .ifc _ _ _ (VR.nr h1 h2 h3 hb q)
 | .agg cs,_,hb,h=>by
  simp only[bnd] at hb;cases h with
  | agg _ _ q=>exact .agg _ _ (VRs.nr h1 h2 h3 hb q)
 | .tup cs,_,hb,h=>by
  simp only[bnd] at hb;cases h with
  | tup _ _ q=>exact .tup _ _ (VRs.nr h1 h2 h3 hb q)
 | .nilm,_,_,h=>by cases h;exact .nilm
 | .map b,_,hb,h=>by
  simp only[bnd,decide_eq_true_eq] at hb;cases h with
  | map _ L q h0=>exact .map _ L (h1 _ _ hb q) h0
 | .sym j,_,_,h=>by cases h;exact .sym _
 | .fz n cs,_,_,h=>by
  cases h with
  | fz _ off c _ k arr hn q hs=>exact .fz _ off c _ k arr hn (by rw[h2];exact q) (by rw[h2];exact hs)
  | fz0 a=>exact .fz0 a
 | .pf cs o,_,_,h=>by
  cases h with
  | pf off base _ k arr q hs=>exact .pf _ base _ k arr (by rw[h2];exact q) (by rw[h2];exact hs)
 | .e0,_,_,h=>by cases h;exact .e0 _
 | .nz,_,_,h=>by cases h;exact .nz _ _
 | .own b n,_,hb,h=>by
  simp only[bnd,decide_eq_true_eq] at hb;cases h with
  | own0 _ a q=>exact .own0 _ _ (by rw[h3];exact hb)
  | own _ _ c L q hn hc=>exact .own _ _ c L (h1 _ _ hb q) hn hc
 | .yl b,_,hb,h=>by
  simp only[bnd,decide_eq_true_eq] at hb;cases h with
  | yl _ L q=>exact .yl _ L (h1 _ _ hb q)
 | .lp _,_,_,h=>by cases h
theorem VRs.nr{ρ ρs:Ren}{g:Nat->Nat}{m:Nat}(h1:∀b L,b<m->ρ (g b)=some L->ρs b=some L)(h2:ρs.frz=ρ.frz)(h3:ρs.n=m):∀{v:List AV} {x:List Value},xu m v=true->VRs σ0 ρ (jH g v) x->VRs σ0 ρs v x
 | [],_,_,h=>by cases h;exact .nil
 | v::vs,_,hb,h=>by
  simp only[xu,Bool.and_eq_true] at hb;cases h with
  | cons _ _ _ _ q1 q2=>exact .cons _ _ _ _ (VR.nr h1 h2 h3 hb.1 q1) (VRs.nr h1 h2 h3 hb.2 q2)
end

def gAt(at':List Nat)(d:Nat):Nat->Nat:=fun b=>if b<at'.length then at'.getD b 0 else d+(b-at'.length)
theorem kN{at':List Nat}{d b:Nat}(h:b<at'.length):gAt at' d b=at'[b]:=by
 simp[gAt,h]
theorem qaO{at':List Nat}{d b:Nat}(h:at'.length<=b):gAt at' d b=d+(b-at'.length):=by
 simp only[gAt];rw[if_neg (by omega)]
structure Lent (h:Hp) (at':List Nat) (bs:List Blk):Prop where
 len:at'.length=bs.length
 nd:at'.Nodup
 blk:∀i x,bs[i]?=some x->∃e a cs,x = .cells e true a cs∧xu bs.length cs=true∧h.tr.get (gAt at' h.sz i)=some (.cells e true a (jH (gAt at' h.sz) cs))∧h.fl<=gAt at' h.sz i∧gAt at' h.sz i<h.sz
def Ren.small(ρ:Ren)(at':List Nat)(d:Nat):Ren:=⟨fun i=>if i<at'.length then ρ (gAt at' d i) else none,ρ.frz,at'.length⟩
theorem yL{ρ:Ren}{at':List Nat}{d i:Nat}{L:Loc}(h:ρ.small at' d i=some L):i<at'.length∧ρ (gAt at' d i)=some L:=by
 simp only[Ren.small] at h;split at h
 ·exact⟨by assumption,h⟩
 ·cases h
def Bar(ρ:Ren)(B:Nat->Prop)(h:Hp)(at':List Nat):Nat->Prop:=fun k=>B k∨∃b L x,ρ b=some L∧b ∉ at'∧h.tr.get b=some x∧x≠.dead∧L.blk=k
theorem Lent.inj{h:Hp}{at':List Nat}{bs:List Blk}(l:Lent h at' bs){i j:Nat}(hi:i<at'.length)(hj:j<at'.length)(he:gAt at' h.sz i=gAt at' h.sz j):i=j:=by
 rw[kN hi,kN hj] at he;exact (List.getElem_inj l.nd).1 he
theorem Lent.mem{h:Hp}{at':List Nat}{i:Nat}(hi:i<at'.length):gAt at' h.sz i ∈ at':=by
 rw[kN hi];exact List.getElem_mem _
theorem Rel.small{ρ:Ren}{B:Nat->Prop}{h:Hp}{w:World}{at':List Nat}{bs:List Blk}(r:Rel σ0 ρ B h w)(l:Lent h at' bs):Rel σ0 (ρ.small at' h.sz) (Bar ρ B h at') (mkH 0 bs) w:=by
 have get:∀i L x,ρ.small at' h.sz i=some L->(mkH 0 bs).tr.get i=some x->i<at'.length∧ρ (gAt at' h.sz i)=some L∧∃e a cs,x = .cells e true a cs∧xu bs.length cs=true∧h.tr.get (gAt at' h.sz i)=some (.cells e true a (jH (gAt at' h.sz) cs))∧h.fl<=gAt at' h.sz i:=by
  intro i L x h1 h2;obtain⟨h3,h4⟩:=yL h1;rw[zq] at h2;obtain⟨e,a,cs,h5,h6,h7,h8,_⟩:=l.blk i x h2;exact⟨h3,h4,e,a,cs,h5,h6,h7,h8⟩
 refine⟨fun i L hb=>?_,?_,?_,?_,?_,?_,?_,?_,?_,?_⟩
 ·have:=(yL hb).1;rw[l.len] at this;exact this
 ·intro i L e wf af cs hb hg;obtain⟨h1,h2,e',a,cs',h3,h4,h5,h6⟩:=get i L _ hb hg;cases h3;obtain⟨q1,c,ty,fz,q2,q3,q4,q5,q6⟩:=r.cells _ L _ _ _ _ h2 h5;rw[jn] at q4;refine⟨q1,c,ty,fz,q2,q3,q4,fun j v hv=>?_,q6⟩
  obtain⟨v',p1,p2⟩:=q5 j (rnv (gAt at' h.sz) v) (by rw[qbf,hv];rfl)
  exact⟨v',p1,VR.nr (ρ:=ρ) (ρs:=ρ.small at' h.sz) (g:=gAt at' h.sz) (m:=bs.length) (fun b L hbm hbL=>by
   show (if b<at'.length then ρ (gAt at' h.sz b) else none)=some L
   rw[if_pos (by rw[l.len];exact hbm)];exact hbL) rfl l.len (qcQ h4 hv) p2⟩
 ·intro i L es hb hg;obtain⟨_,_,e',a,cs',h3,_⟩:=get i L _ hb hg;cases h3
 ·intro b L e af cs hb hg b' L' x hb' hx hd he;obtain⟨h1,h2,e',a,cs',h3,h4,h5,h6⟩:=get b L _ hb hg;obtain⟨i1,i2,e2,a2,cs2,i3,i4,i5,i6⟩:=get b' L' _ hb' hx;exact l.inj i1 h1 (r.excl _ L _ _ _ h2 h5 _ L' _ i2 i5 (by simp) he)
 ·intro b L es hb hg;obtain⟨_,_,e',a,cs',h3,_⟩:=get b L _ hb hg;cases h3
 ·intro b L e wf cs hb hg b' L' e' wf' af' cs' hb' hx he;obtain⟨h1,h2,e1,a1,cs1,h3,h4,h5,h6⟩:=get b L _ hb hg;obtain⟨i1,i2,e2,a2,cs2,i3,i4,i5,i6⟩:=get b' L' _ hb' hx;cases h3;cases i3;have q:=r.app _ L _ _ _ h2 h5 _ L' _ _ _ _ i2 i5 he;rw[jn,jn] at q;exact⟨q.1,fun hh=>l.inj i1 h1 (q.2 hh)⟩
 ·intro i L hb _ hbar;have hi:=(yL hb).1;have hi':i<bs.length:=by rw[← l.len];exact hi
  obtain⟨h1,h2,e',a,cs',h3,h4,h5,h6⟩:=get i L bs[i] hb (by rw[zq,List.getElem?_eq_getElem hi']);rcases hbar with hB|⟨b,L',x,g1,g2,g3,g4,g5⟩
  ·exact r.flr _ L h2 h6 hB
  ·have:=r.excl _ L _ _ _ h2 h5 b L' x g1 g3 g4 g5;exact g2 (this ▸ Lent.mem hi)
 ·rintro k (hB|⟨b,L',x,g1,g2,g3,g4,rfl⟩)
  ·exact r.base k hB
  ·exact r.blk_lt b L' g1 x g3 g4
 ·intro k arr hk;refine⟨(r.frz k arr hk).1,fun b L x hb hx hd=>?_⟩
  obtain⟨h1,h2,e',a,cs',h3,h4,h5,h6⟩:=get b L _ hb hx;exact (r.frz k arr hk).2 _ L _ h2 h5 (by simp)
 ·show at'.length<=bs.length;rw[l.len];exact Nat.le_refl _

def rnb(g:Nat->Nat):Blk->Blk
 | .cells e w a cs=>.cells e w a (jH g cs)
 | .dead=>.dead
 | .map _=>.dead
noncomputable def kU:Hp->List Nat->List Blk->Hp
 | h,b::at',x::xs=>kU (h.put b x) at' xs
 | h,_,_=>h
theorem Xs:∀{at':List Nat} {xs:List Blk} {h:Hp},(kU h at' xs).sz=h.sz
 | [],_,_=>by simp[kU]
 | _::_,[],_=>by simp[kU]
 | b::at',x::xs,h=>by
  show (kU (h.put b x) at' xs).sz=_;rw[Xs];rfl
theorem qfc:∀{at':List Nat} {xs:List Blk} {h:Hp},(kU h at' xs).fl=h.fl
 | [],_,_=>by simp[kU]
 | _::_,[],_=>by simp[kU]
 | b::at',x::xs,h=>by
  show (kU (h.put b x) at' xs).fl=_;rw[qfc];rfl
theorem qa7:∀{at':List Nat} {xs:List Blk} {h:Hp} {b:Nat},b ∉ at'->(kU h at' xs).tr.get b=h.tr.get b
 | [],_,_,_,_=>by simp[kU]
 | _::_,[],_,_,_=>by simp[kU]
 | c::at',x::xs,h,b,hb=>by
  show (kU (h.put c x) at' xs).tr.get b=_;rw[qa7 (fun hh=>hb (List.mem_cons_of_mem _ hh))]
  simp only[Hp.put,Tr.get_set];rw[if_neg (fun hh=>hb (by simp[hh]))]
theorem qfd:∀{at':List Nat} {xs:List Blk} {h:Hp} {i b:Nat},at'.Nodup->at'.length=xs.length->at'[i]?=some b->(kU h at' xs).tr.get b=xs[i]?
 | [],_,_,_,_,_,_,hi=>by simp at hi
 | _::_,[],_,_,_,_,hl,_=>by simp at hl
 | c::at',x::xs,h,0,b,hn,hl,hi=>by
  simp at hi;subst hi;show (kU (h.put c x) at' xs).tr.get c=_;rw[qa7 (List.nodup_cons.1 hn).1];simp[Hp.put,Tr.get_set]
 | c::at',x::xs,h,i+1,b,hn,hl,hi=>by
  show (kU (h.put c x) at' xs).tr.get b=_;rw[qfd (List.nodup_cons.1 hn).2 (by simpa using hl) (by simpa using hi)];simp
noncomputable def vn(h:Hp)(at':List Nat)(bs2:List Blk):Hp:=xO (kU h at' ((bs2.take at'.length).map (rnb (gAt at' h.sz)))) ((bs2.drop at'.length).map (rnb (gAt at' h.sz)))
def Ren.back(ρ ρ2:Ren)(at':List Nat)(d l:Nat):Ren:=⟨fun b=>if b<d then ρ b else ρ2 (b-d+at'.length),ρ2.frz,d+(l-at'.length)⟩
theorem qar{h:Hp}{at':List Nat}{bs2:List Blk}:(vn h at' bs2).sz=h.sz+(bs2.length-at'.length):=by
 unfold vn;rw[yo,Xs];simp
theorem qcN{h:Hp}{at':List Nat}{bs2:List Blk}:(vn h at' bs2).fl=h.fl:=by
 unfold vn;rw[QL,qfc]
theorem qby{h:Hp}{at':List Nat}{bs2:List Blk}{b:Nat}(hb:b<h.sz)(hm:b ∉ at'):(vn h at' bs2).tr.get b=h.tr.get b:=by
 unfold vn;rw[jU,Xs,if_pos hb,qa7 hm]
theorem qg2{h:Hp}{at':List Nat}{bs2:List Blk}(hn:at'.Nodup)(hl:at'.length<=bs2.length)(hlt:∀b ∈ at',b<h.sz){i:Nat}(hi:i<at'.length):(vn h at' bs2).tr.get (gAt at' h.sz i)=(bs2[i]?).map (rnb (gAt at' h.sz)):=by
 have hm:gAt at' h.sz i ∈ at':=Lent.mem hi;unfold vn;rw[jU,Xs,if_pos (hlt _ hm),qfd (i:=i) hn (by simp;omega) (by rw[kN hi];exact List.getElem?_eq_getElem hi),List.getElem?_map,List.getElem?_take_of_lt hi]
theorem qfC{h:Hp}{at':List Nat}{bs2:List Blk}{i:Nat}(hi:at'.length<=i)(hi2:i<bs2.length):(vn h at' bs2).tr.get (gAt at' h.sz i)=(bs2[i]?).map (rnb (gAt at' h.sz)):=by
 unfold vn;rw[qaO hi,jU,Xs,if_neg (by omega),if_pos (by simp;omega),List.getElem?_map,List.getElem?_drop];rw[show at'.length+(h.sz+(i-at'.length)-h.sz)=i from by omega]
theorem Rel.back{ρ ρ2:Ren}{B:Nat->Prop}{h:Hp}{w w1:World}{at':List Nat}{bs bs2:List Blk}(r:Rel σ0 ρ B h w)(l:Lent h at' bs)(r2:Rel σ0 ρ2 (Bar ρ B h at') (mkH 0 bs2) w1)(hl:at'.length<=bs2.length)
  (he:∀i,i<at'.length->ρ2 i=ρ.small at' h.sz i) (hp:∀k,Bar ρ B h at' k->w1.heap[k]?=w.heap[k]?) (hw:w.heap.size<=w1.heap.size)
  (f1:∀k a,ρ.frz k=some a->ρ2.frz k=some a) (f2:∀k a,ρ2.frz k=some a->ρ.frz k=some a∨¬Bar ρ B h at' k):(∀b L,ρ2 b=some L->ρ.back ρ2 at' h.sz bs2.length (gAt at' h.sz b)=some L)∧Rel σ0 (ρ.back ρ2 at' h.sz bs2.length) B (vn h at' bs2) w1:=by
 have hlt:∀b ∈ at',b<h.sz:=by
  intro b hb;obtain⟨i,hi,rfl⟩:=List.getElem_of_mem hb;have hi':i<bs.length:=by rw[← l.len];exact hi
  obtain⟨_,_,_,_,_,_,_,h6⟩:=l.blk i bs[i] (List.getElem?_eq_getElem hi');rwa [kN hi] at h6
 have up:∀b L,ρ2 b=some L->ρ.back ρ2 at' h.sz bs2.length (gAt at' h.sz b)=some L:=by
  intro b L hb;show (if gAt at' h.sz b<h.sz then ρ (gAt at' h.sz b) else ρ2 (gAt at' h.sz b-h.sz+at'.length))=some L
  by_cases hbm:b<at'.length
  ·rw[if_pos (hlt _ (Lent.mem hbm))];rw[he b hbm] at hb;exact (yL hb).2
  ·rw[qaO (by omega),if_neg (by omega),show h.sz+(b-at'.length)-h.sz+at'.length=b from by omega]
   exact hb
 refine⟨up,?_⟩
 have nle:∀b,b<ρ2.n->gAt at' h.sz b<h.sz+(bs2.length-at'.length):=by
  intro b hb;have hb2:b<bs2.length:=Nat.lt_of_lt_of_le hb r2.dn
  by_cases hbm:b<at'.length
  ·have:=hlt _ (Lent.mem (h:=h) hbm);omega
  ·rw[qaO (by omega)];omega
 have le1:∀b L,ρ b=some L->ρ.back ρ2 at' h.sz bs2.length b=some L:=by
  intro b L hb;show (if b<h.sz then ρ b else _)=some L
  rw[if_pos (r.dom b L hb)];exact hb
 have le2:ρ.le (ρ.back ρ2 at' h.sz bs2.length):=⟨le1,f1,Nat.le_trans r.dn (Nat.le_add_right _ _)⟩
 -- a block: an old one that stayed,or one of the small heap
 have split:∀b L,ρ.back ρ2 at' h.sz bs2.length b=some L->(b ∉ at'∧ρ b=some L∧(vn h at' bs2).tr.get b=h.tr.get b) ∨
   ∃c,b=gAt at' h.sz c∧ρ2 c=some L∧(vn h at' bs2).tr.get b=((mkH 0 bs2).tr.get c).map (rnb (gAt at' h.sz)):=by
  intro b L hb;have hb':(if b<h.sz then ρ b else ρ2 (b-h.sz+at'.length))=some L:=hb
  by_cases hbs:b<h.sz
  ·rw[if_pos hbs] at hb'
   by_cases hm:b ∈ at'
   ·obtain⟨i,hi,rfl⟩:=List.getElem_of_mem hm;refine .inr ⟨i,(kN hi).symm,?_,?_⟩
    ·rw[he i hi];show (if i<at'.length then ρ (gAt at' h.sz i) else none)=some L
     rw[if_pos hi,kN hi];exact hb'
    ·have:=qg2 (bs2:=bs2) l.nd hl hlt hi;rw[kN hi] at this;rw[this,zq]
   ·exact .inl ⟨hm,hb',qby hbs hm⟩
  ·rw[if_neg hbs] at hb';have hc:b-h.sz+at'.length<bs2.length:=r2.dom _ L hb';have e:gAt at' h.sz (b-h.sz+at'.length)=b:=by rw[qaO (by omega)];omega
   refine .inr ⟨b-h.sz+at'.length,e.symm,hb',?_⟩;have:=qfC (h:=h) (at':=at') (bs2:=bs2) (i:=b-h.sz+at'.length) (by omega) hc;rw[e] at this;rw[this,zq]
 have apart:∀b L x c L2,b ∉ at'->ρ b=some L->h.tr.get b=some x->x≠.dead->ρ2 c=some L2->L2.blk≠L.blk:=by
  intro b L x c L2 h1 h2 h3 h4 h5 h6;exact r2.flr c L2 h5 (Nat.zero_le _) (.inr ⟨b,L,x,h2,h1,h3,h4,h6.symm⟩)
 have shc:∀{o:Option Blk} {e:Nat} {w a:Bool} {cs:List AV},o.map (rnb (gAt at' h.sz))=some (.cells e w a cs)->∃cs0,o=some (.cells e w a cs0)∧cs=jH (gAt at' h.sz) cs0:=by
  intro o e w a cs ho;cases o with
  | none=>simp at ho
  | some x =>
   cases x with
   | cells e' w' a' cs'=>simp[rnb] at ho;obtain⟨rfl,rfl,rfl,rfl⟩:=ho;exact⟨_,rfl,rfl⟩
   | dead=>simp[rnb] at ho
   | map es=>simp[rnb] at ho
 have shn:∀{o:Option Blk} {y:Blk},o.map (rnb (gAt at' h.sz))=some y->y≠.dead->∃x,o=some x∧x≠.dead:=by
  intro o y ho hy;cases o with
  | none=>simp at ho
  | some x =>
   refine⟨x,rfl,fun hx=>?_⟩
   subst hx;simp[rnb] at ho;exact hy ho.symm
 have shm:∀{o:Option Blk} {es:List (AV×AV)},o.map (rnb (gAt at' h.sz))=some (.map es)->False:=by
  intro o es ho;cases o with
  | none=>simp at ho
  | some x=>cases x<;>simp[rnb] at ho
 refine⟨fun b L hb=>?_,?_,?_,?_,?_,?_,?_,yt r.base hw,?_,?_⟩
 ·rw[qar];have hb':(if b<h.sz then ρ b else ρ2 (b-h.sz+at'.length))=some L:=hb
  by_cases hbs:b<h.sz
  ·omega
  ·rw[if_neg hbs] at hb';have hc:b-h.sz+at'.length<bs2.length:=r2.dom _ L hb';omega
 ·intro b L e wf af cs hb hg;rcases split b L hb with⟨h1,h2,h3⟩|⟨c,rfl,h2,h3⟩
  ·rw[h3] at hg;obtain⟨q1,c,ty,fz,q2,q3,q4,q5,q6⟩:=r.cells b L e wf af cs h2 hg;exact⟨q1,c,ty,fz,by rw[hp _ (.inr ⟨b,L,_,h2,h1,hg,by simp,rfl⟩)];exact q2,q3,q4,fun j v hv=>let ⟨v',g7,g8⟩:=q5 j v hv;⟨v',g7,g8.mono le2⟩,q6⟩
  ·rw[h3] at hg;obtain⟨cs0,g1,rfl⟩:=shc hg;obtain⟨q1,c',ty,fz,q2,q3,q4,q5,q6⟩:=r2.cells c L e wf af cs0 h2 g1;refine⟨q1,c',ty,fz,q2,q3,by rw[jn];exact q4,fun j v hv=>?_,q6⟩
   rw[qbf] at hv;cases hj:cs0[j]? with
   | none=>rw[hj] at hv;simp at hv
   | some v0 =>
    rw[hj] at hv;simp at hv;subst hv;obtain⟨v',g7,g8⟩:=q5 j v0 hj;exact⟨v',g7,VR.rn (ρ3:=ρ.back ρ2 at' h.sz bs2.length) up (fun _ _ h=>h) nle g8⟩
 ·intro b L es hb hg;rcases split b L hb with⟨h1,h2,h3⟩|⟨c,rfl,h2,h3⟩
  ·rw[h3] at hg;obtain⟨q1,o,q2,q3⟩:=r.maps b L es h2 hg;exact⟨q1,o,by rw[hp _ (.inr ⟨b,L,_,h2,h1,hg,by simp,rfl⟩)];exact q2,q3.mono le2⟩
  ·rw[h3] at hg;exact (shm hg).elim
 ·intro b L e af cs hb hg b' L' x hb' hx hd hee;rcases split b L hb with⟨h1,h2,h3⟩|⟨c,rfl,h2,h3⟩<;>rcases split b' L' hb' with⟨i1,i2,i3⟩|⟨c',rfl,i2,i3⟩
  ·rw[h3] at hg;rw[i3] at hx;exact r.excl b L e af cs h2 hg b' L' x i2 hx hd hee
  ·rw[h3] at hg;exact absurd hee (apart b L _ c' L' h1 h2 hg (by simp) i2)
  ·rw[i3] at hx;exact absurd hee.symm (apart b' L' _ c L i1 i2 hx hd h2)
  ·rw[h3] at hg;rw[i3] at hx;obtain⟨cs0,g1,rfl⟩:=shc hg;obtain⟨x0,g2,g3⟩:=shn hx hd;rw[r2.excl c L e af cs0 h2 g1 c' L' x0 i2 g2 g3 hee]
 ·intro b L es hb hg b' L' x hb' hx hd hee;rcases split b L hb with⟨h1,h2,h3⟩|⟨c,rfl,h2,h3⟩
  ·rw[h3] at hg;rcases split b' L' hb' with⟨i1,i2,i3⟩|⟨c',rfl,i2,i3⟩
   ·rw[i3] at hx;exact r.exclm b L es h2 hg b' L' x i2 hx hd hee
   ·exact absurd hee (apart b L _ c' L' h1 h2 hg (by simp) i2)
  ·rw[h3] at hg;exact (shm hg).elim
 ·intro b L e wf cs hb hg b' L' e' wf' af' cs' hb' hx hee;rcases split b L hb with⟨h1,h2,h3⟩|⟨c,rfl,h2,h3⟩<;>rcases split b' L' hb' with⟨i1,i2,i3⟩|⟨c',rfl,i2,i3⟩
  ·rw[h3] at hg;rw[i3] at hx;exact r.app b L e wf cs h2 hg b' L' e' wf' af' cs' i2 hx hee
  ·rw[h3] at hg;exact absurd hee (apart b L _ c' L' h1 h2 hg (by simp) i2)
  ·rw[i3] at hx;exact absurd hee.symm (apart b' L' _ c L i1 i2 hx (by simp) h2)
  ·rw[h3] at hg;rw[i3] at hx;obtain⟨cs0,g1,rfl⟩:=shc hg;obtain⟨cs1,g2,rfl⟩:=shc hx;have q:=r2.app c L e wf cs0 h2 g1 c' L' e' wf' af' cs1 i2 g2 hee;rw[jn,jn];exact⟨q.1,fun hh=>by rw[q.2 hh]⟩
 ·intro b L hb hf hB;rw[qcN] at hf;rcases split b L hb with⟨h1,h2,h3⟩|⟨c,rfl,h2,h3⟩
  ·exact r.flr b L h2 hf hB
  ·exact r2.flr c L h2 (Nat.zero_le _) (.inl hB)
 ·intro k arr hk;refine⟨(r2.frz k arr hk).1,fun b L x hb hx hd=>?_⟩
  rcases split b L hb with⟨h1,h2,h3⟩|⟨c,rfl,h2,h3⟩
  ·rw[h3] at hx;rcases f2 k arr hk with g|g
   ·exact (r.frz k arr g).2 b L x h2 hx hd
   ·exact fun hh=>g (.inr ⟨b,L,x,h2,h1,hx,hd,hh⟩)
  ·rw[h3] at hx;obtain⟨x0,g2,g3⟩:=shn hx hd;exact (r2.frz k arr hk).2 c L x0 h2 g2 g3
 ·show h.sz+(bs2.length-at'.length)<=_;rw[qar];exact Nat.le_refl _
def qmM(m:Nat)(v:AV)(bs2:List Blk)(v':AV)(h':Hp):Prop:=h'.fl=0->∃src:List Nat,NV (rl src h'.sz) bs2.length v' v∧BWs h' (rl src h'.sz) bs2.length src bs2∧(src.filter fun b=>decide (b<h'.sz)).Nodup∧∀b,b<m->rl src h'.sz b=b
def qjx(m:Nat)(v:AV)(bs2:List Blk)(v':AV)(h':Hp):Prop:=h'.fl=0->Wk m (mkT [(0,v')]) h' (mkT [(0,v)]) (mkH 0 bs2)
theorem qmM.w{m:Nat}{v:AV}{bs2:List Blk}{v':AV}{h':Hp}(hz:qmM m v bs2 v' h')(hle:m<=bs2.length):qjx m v bs2 v' h':=by
 intro hfl;obtain⟨src,s1,s2,s3,s4⟩:=hz hfl;exact Wk.mkn [(0,v)] bs2 src ⟨⟨v',by simp[mkT,Tr.get_set],s1⟩,trivial⟩ s2 s3 hfl hle s4
def Upd(P:Program)(f:Nat)(vs:List AV)(bs:List Blk)(v:AV)(bs2:List Blk):Prop :=
 xu bs.length vs=true∧bs.length<=bs2.length∧SC P f vs (mkH 0 bs) (qjx bs.length v bs2)
theorem Upd.mkS{f:Nat}{i:IFn}{vs:List AV}{v:AV}{bs bs2:List Blk}(hc:qi P f i=true)(hb:xu bs.length vs=true)(hl:bs.length<=bs2.length)(hV:S P bs.length i.body (j0 i.res (qjx bs.length v bs2)) (jO vs 0 .leaf) (mkH 0 bs)):Upd P f vs bs v bs2 :=
 ⟨hb,hl,SC.mk hc hV⟩
theorem Upd.mk{f:Nat}{i:IFn}{vs:List AV}{v:AV}{bs bs2:List Blk}(hc:qi P f i=true)(hb:xu bs.length vs=true)(hl:bs.length<=bs2.length)(hV:V P bs.length i.body (j0 i.res (qmM bs.length v bs2)) (jO vs 0 .leaf) (mkH 0 bs)):Upd P f vs bs v bs2 :=
 ⟨hb,hl,(SC.mk hc (qA hV)).mono fun _ _ hz=>hz.w hl⟩
theorem Upd.sc{f:Nat}{vs:List AV}{bs bs2:List Blk}{v:AV}{h:Hp}{k:AV->Hp->Prop}(at':List Nat)(hu:Upd P f vs bs v bs2)(l:Lent h at' bs)(hk:k (rnv (gAt at' h.sz) v) (vn h at' bs2)):SC P f (jH (gAt at' h.sz) vs) h k:=by
 obtain⟨hb,hle,hu⟩:=hu;refine⟨hu.1,fun ρ B w args r ha=>?_⟩
 have hle':at'.length<=bs2.length:=by rw[l.len];exact hle
 have ha':VRs σ0 (ρ.small at' h.sz) vs args.toList:=VRs.nr (ρ:=ρ) (ρs:=ρ.small at' h.sz) (g:=gAt at' h.sz) (m:=bs.length) (fun b L hbm hbL=>by
  show (if b<at'.length then ρ (gAt at' h.sz b) else none)=some L
  rw[if_pos (by rw[l.len];exact hbm)];exact hbL) rfl l.len hb ha
 refine wJ.mono (hu.2 (ρ.small at' h.sz) (Bar ρ B h at') w args (r.small l) ha') ?_;rintro e w1 ⟨v0,v',h1,ρ1,rfl,g1,g2,g3,g4⟩;have hw:Wk bs.length (mkT [(0,v0)]) h1 (mkT [(0,v)]) (mkH 0 bs2):=g1 g4.fl
 obtain⟨ρ2,t2,r2,k2⟩:=hw ρ1 (Bar ρ B h at') w1 #[v'] (fun j x hj=>by
  have:=yE hj;simp at this;obtain⟨rfl,rfl⟩:=this;exact⟨by simp,by simpa using g2⟩) g3
 have hv2:VR σ0 ρ2 v v':=by
  have:=(t2 0 v (by simp[mkT,Tr.get_set])).2;simpa using this
 have he:∀i,i<at'.length->ρ2 i=ρ.small at' h.sz i:=fun i hi=>(k2.ext i (by rw[← l.len];exact hi)).trans (g4.ext i (by rw[qcn,← l.len];exact hi))
 have f1:∀k a,ρ.frz k=some a->ρ2.frz k=some a:=fun k a hk=>k2.frz k a (g4.frz k a hk)
 have f2:∀k a,ρ2.frz k=some a->ρ.frz k=some a∨¬Bar ρ B h at' k:=fun k a hk=>(k2.fnew k a hk).elim (g4.fnew k a) .inr
 obtain⟨up,big⟩:=Rel.back r l r2 hle' he g4.pres g4.wle f1 f2
 have nle:∀b,b<ρ2.n->gAt at' h.sz b<(ρ.back ρ2 at' h.sz bs2.length).n:=by
  intro b hb;have hb2:b<bs2.length:=Nat.lt_of_lt_of_le hb r2.dn;show _<h.sz+(bs2.length-at'.length)
  by_cases hbm:b<at'.length
  ·have hbm':b<bs.length:=by rw[← l.len];exact hbm
   obtain⟨_,_,_,_,_,_,_,h6⟩:=l.blk b bs[b] (List.getElem?_eq_getElem hbm');omega
  ·rw[qaO (by omega)];omega
 refine⟨_,v',_,ρ.back ρ2 at' h.sz bs2.length,rfl,hk,VR.rn up (fun _ _ h=>h) nle hv2,big,?_⟩
 refine⟨fun b hb=>?_,by rw[qar];omega,qcN,fun b hf hb=>qby hb (fun hm=>?_),fun k hk=>g4.pres k (.inl hk),g4.wle,g4.io,f1,fun k a hk=>(f2 k a hk).imp id (fun hh hB=>hh (.inl hB)),Nat.le_trans r.dn (Nat.le_add_right _ _)⟩
 ·show (if b<h.sz then ρ b else _)=ρ b
  rw[if_pos hb]
 ·obtain⟨i,hi,rfl⟩:=List.getElem_of_mem hm;have hi':i<bs.length:=by rw[← l.len];exact hi
  obtain⟨_,_,_,_,_,_,h5,_⟩:=l.blk i bs[i] (List.getElem?_eq_getElem hi');rw[kN hi] at h5;omega
end Go.Kc
end
